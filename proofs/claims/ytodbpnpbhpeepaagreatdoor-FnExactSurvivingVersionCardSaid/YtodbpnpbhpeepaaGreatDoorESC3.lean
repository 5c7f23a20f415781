/- FnExactSurvivingVersion: for every input the law returns true and changes nothing that was there. Part 4 of 9. -/
import Derived.Test.YtodbpnpbhpeepaaGreatDoorESC2
set_option linter.unusedVariables false
set_option linter.unusedSimpArgs false
set_option linter.unnecessarySimpa false
set_option linter.unusedSectionVars false
set_option maxRecDepth 1000000
namespace Go.Proofs.YtodbpnpbhpeepaaGreatDoor
open Go.IntKind (i64)
namespace R
open Go.RowKit
open D
theorem xh {l m:List Ch} (h:Ch.deeps l) (k:Ch.deeps m):Ch.deeps (l++m):=by
 induction l with
 | nil=>exact k
 | cons c l ih=>exact ⟨h.1,ih h.2⟩
theorem su {v:Value} : ∀(ts:List Ty) (i:Nat) (d:iS ts),Ey ts=true->Ch.deeps (uY i ts d v)
 | [],_,_,_=>trivial
 | t::ts,i,d,h=>by
  have h:(t.dp&&Ey ts)=true:=h
  rw[ak] at h
  exact ⟨yW (Ty.dp_ok h.1),su ts (i+1) d.2 h.2⟩
theorem BS {v:Value} (ts:List Ty) (d:iS ts) (h:Ey ts=true):Ch.deeps (resGv ts d v):=by
 match ts,d,h with
 | [t],d,h =>
  have h:(t.dp&&true)=true:=h
  rw[Bool.and_true] at h
  exact ⟨yW (Ty.dp_ok h),trivial⟩
 | [],d,h=>exact su (v:=v) [] 0 d h
 | _::_::_,d,h=>exact su (v:=v) _ 0 d h
def Ty.fin:Ty->Bool
 | .int _=>true
 | .bool=>true
 | .str=>true
 | .prod a b=>a.fin&&b.fin
 | .wr t=>t.fin
 | _=>false
theorem Ty.fin_ok: ∀ {t:Ty},t.fin=true->t.rep.Fin
 | .int _,_=>CK
 | .bool,_=>CK (h1:=fun _=>rfl)
 | .str,_=>CK (h1:=fun _=>rfl)
 | .raw,h=>by cases h
 | .prod a b,h=>by
  have h:(a.fin&&b.fin)=true:=h
  rw[ak] at h
  exact Ph (fin_ok h.1) (fin_ok h.2)
 | .wr t,h=>fin_ok (t:=t) h
 | .sl _ _,h=>by cases h
 | .fro _,h=>by cases h
 | .bag _,h=>by cases h
 | .tree _ _ _,h=>by cases h
def recT:Ty->Bool
 | .tree _ _ u=>u.fin
 | _=>false
theorem Mc {t:Ty} (h:recT t=true) {cs:List Value} {d:t.den} :(Ch.own t.rep cs d).recl:=by
 cases t with
 | tree T E u=>exact Lw (Ty.fin_ok h)
 | _=>cases h
def EH:List Ty->Bool
 | [] =>true
 | t::ts=>(t.dp&&EH ts) || (recT t&&Ey ts)
theorem wk {v:Value} {D:List Ch} (hD:Ch.deeps D): ∀(ts:List Ty) (i:Nat) (d:iS ts),EH ts=true->Ch.back (uY i ts d v++D)
 | [],_,_,_=>Ch.back_deeps hD
 | t::ts,i,d,h=>by
  have h:((t.dp&&EH ts) || (recT t&&Ey ts))=true:=h
  rw[Bool.or_eq_true,ak,ak] at h
  rcases h with h | h
  ·exact .inl ⟨yW (Ty.dp_ok h.1),wk hD ts (i+1) d.2 h.2⟩
  ·exact .inr ⟨Mc h.1,xh (su ts (i+1) d.2 h.2) hD⟩
theorem wm {v:Value} {D:List Ch} (hD:Ch.deeps D) (ts:List Ty) (d:iS ts) (h:EH ts=true):Ch.back (resGv ts d v++D):=by
 match ts,d,h with
 | [t],d,h =>
  have h:((t.dp&&true) || (recT t&&true))=true:=h
  rw[Bool.and_true,Bool.and_true,Bool.or_eq_true] at h
  rcases h with h | h
  ·exact .inl ⟨yW (Ty.dp_ok h),Ch.back_deeps hD⟩
  ·exact .inr ⟨Mc h,hD⟩
 | [],d,h=>exact wk (v:=v) hD [] 0 d h
 | _::_::_,d,h=>exact wk (v:=v) hD _ 0 d h
theorem RQ {α:Type} {b:Nat} {T:TypeId} {R:Rep α} {d:α} (h:R.Dp):(Ch.box b T R d).deep:=by
 rintro I J w F ⟨cells,G,rfl,h1,h2⟩
 exact ⟨cells,G,rfl,h1,h h2⟩
theorem dy {γ:Value} : ∀(ps:List PM) (vs:List Value) (d:iS (outs ps)),wj ps=true->Ch.deeps (outCh γ ps vs d)
 | [],vs,_,_=>by cases vs <;> trivial
 | .ow t::ps,[],d,h=>trivial
 | .ow t::ps,v::vs,d,h=>by
  have h:(t.dp&&wj ps)=true:=h
  rw[ak] at h
  exact ⟨yW (Ty.dp_ok h.1),dy ps vs d.2 h.2⟩
 | .ptr T t::ps,[],d,h=>trivial
 | .ptr T t::ps,v::vs,d,h=>by
  have h:(t.dp&&wj ps)=true:=h
  rw[ak] at h
  exact ⟨RQ (Ty.dp_ok h.1),dy ps vs d.2 h.2⟩
 | .rd _::ps,[],d,h=>trivial
 | .rd _::ps,v::vs,d,h=>dy ps vs d h
 | .eat _::ps,[],d,h=>trivial
 | .eat _::ps,v::vs,d,h=>dy ps vs d h
 | .fn _ _::ps,[],d,h=>trivial
 | .fn _ _::ps,v::vs,d,h=>dy ps vs d h
 | .cap _ _::ps,[],d,h=>trivial
 | .cap _ _::ps,v::vs,d,h=>dy ps vs d h
 | .capf _ _ _::ps,[],d,h=>trivial
 | .fk _::ps,[],d,h=>trivial
 | .capf _ _ _::ps,v::vs,d,h=>dy ps vs d h
 | .fk _::ps,v::vs,d,h=>dy ps vs d h
 | .crs _ _::ps,[],d,h=>trivial
 | .kb _ _ _::ps,[],d,h=>trivial
 | .kc _::ps,[],d,h=>trivial
 | .kb _ T t::ps,v::vs,d,h=>by
  have h:(t.dp&&wj ps)=true:=h
  rw[ak] at h
  exact ⟨RQ (Ty.dp_ok h.1),dy ps vs d.2 h.2⟩
 | .kc _::ps,v::vs,d,h=>dy ps vs d h
 | .crs _ _::ps,v::vs,d,h=>⟨VG,dy ps vs d.2 h⟩
theorem gU {id:Nat} {pth:Nat->List Nat} : ∀(t:Ty) (d:t.den) (j:Nat),∀g∈qo id pth t d j,Pz g.2
 | .prod a b,d,j=>fun g hg=>by
  rcases aD hg with hg | hg
  ·exact gU a d.1 j g hg
  ·exact gU b d.2 _ g hg
 | .sl E t,d,j=>fun g hg=>by obtain rfl:=aq hg;trivial
 | .wr t,d,j=>gU t d j
 | .int _,_,_=>fun g hg=>by cases hg
 | .bool,_,_=>fun g hg=>by cases hg
 | .str,_,_=>fun g hg=>by cases hg
 | .raw,_,_=>fun g hg=>by cases hg
 | .fro _,_,_=>fun g hg=>by cases hg
 | .bag _,_,_=>fun g hg=>by cases hg
 | .tree _ _ _,d,j=>fun g hg=>by obtain rfl:=aq hg;trivial
theorem tY {id:Nat} : ∀(i:Nat) (ts:List Ty) (d:iS ts),∀g∈xg id i ts d,Pz g.2
 | _,[],_=>fun g hg=>by cases hg
 | i,t::ts,d=>fun g hg=>by
  rcases aD hg with hg | hg
  ·exact gU t d.1 0 g hg
  ·exact tY (i+1) ts d.2 g hg
theorem pN {id:Nat} (ts:List Ty) (d:iS ts): ∀g∈qp id ts d,Pz g.2:=by
 match ts,d with
 | [t],d=>exact gU t d.1 0
 | [],d=>exact tY (id:=id) 0 [] d
 | _::_::_,d=>exact tY (id:=id) 0 _ d
theorem vh {g:Hdr×Chk} {ver:Nat} {c:Chk} (h:Pz g.2) (k:SaysH g.2 ver c):False:=by
 obtain ⟨a,x⟩:=g
 cases x <;> first | exact h.elim | exact k.elim
theorem PB {h:Hdr} {chs:List Ent} {q:Row} (hq:rowOf h chs=some q) {e:Ent} (he:e∈chs) (h1:e.1=h):e=q.ent h:=by
 obtain ⟨p,k⟩:=bK hq
 rcases az (p.mem_iff.1 he) with rfl | he
 ·rfl
 ·exact absurd h1 (k e he)
theorem Md {h:Hdr} {chs:List Ent} {q:TreeE} (hq:Ez h chs=some q) {e:Ent} (he:e∈chs) (h1:e.1=h):e=q.ent h:=by
 obtain ⟨p,k⟩:=L5 hq
 rcases az (p.mem_iff.1 he) with rfl | he
 ·rfl
 ·exact absurd h1 (k e he)
theorem PC {h:Hdr} {chs:List Ent} {q:Blk} (hq:Vr h chs=some q) {e:Ent} (he:e∈chs) (h1:e.1=h):e=q.ent h:=by
 obtain ⟨p,k⟩:=L6 hq
 rcases az ((jW p).mem_iff.1 he) with rfl | he
 ·rfl
 ·exact absurd h1 (k e he)
theorem OpT.post {P:Program} {w0:World} {o:Oper} {I:Hp} {ev:Operand->Value} {rn:List Ch} {fact fact':Value->Prop} {gv gv':Value->List Ch} (h:OpT P I w0 o ev rn fact gv) (hp: ∀v w C,fact v->St I w0 w (gv v++C)->fact' v/\St I w0 w (gv' v++C)):OpT P I w0 o ev rn fact' gv' :=
 fun w C hs=>(h w C hs).imp fun v w hv=>hp v w C hv.1 hv.2
theorem OpT.sepTo {P:Program} {w0:World} {o:Oper} {I:Hp} {ev:Operand->Value} {l l':List Ch} {fact:Value->Prop} {gv:Value->List Ch} (k:mS I l l') (h:OpT P I w0 o ev l' fact gv):OpT P I w0 o ev l fact gv:=fun w C hs=>by
 obtain ⟨h1,h2,F,h3,h4,h5⟩:=hs
 obtain ⟨G,K,rfl,e1,e2⟩:=h3.split
 exact h w C ⟨h1,h2,G++K,(k w G e1).append e2,h4,h5⟩
section
variable {Y:Type} (ft:FT) (s:Sg) (k:Res->Option Y)
def GH (s:Sg):List Operand->Option (List AV)
 | [] =>some []
 | x::xs=>(opd s x).bind fun v=>(GH s xs).bind fun vs=>some (v::vs)
def Ix (f:FS) (xs:List AV) (kx:List Ent->List Ent->List Ent->Option GhQ->dens (f.rs++outs f.ps)->Option Y):Option Y:=(di ft s s.chs f.ps xs).bind fun a =>
 (CY (GG a.lent []) a.rest).bind fun pl=>match (Ey f.rs&&wj f.ps) || pl.1.isEmpty with
 | true=>(appP f.ps f.m a.d).bind fun r=>kx pl.1 a.own pl.2 a.gh r
 | false=>bR (EH f.rs&&wj f.ps) ((appP f.ps f.m a.d).bind fun r=>kx [] (a.own++pl.1) pl.2 a.gh r)
def TX (f : FS) (xs : List AV) (L M R : List Ent) (gh : Option GhQ) (r : dens (f.rs ++ outs f.ps)) : Option Y :=
    k ⟨L, M, R, qp s.nxt f.rs (hFst f.rs (outs f.ps) (toH _ r)) ++ gP gh f.ps xs (hSnd f.rs (outs f.ps) (toH _ r)), GD s.nxt f.rs (hFst f.rs (outs f.ps) (toH _ r))⟩
def RR (g:FuncId) (xs:List Operand):Option Y:=(fs ft g).bind fun f=>bR (!f.ov)<|(GH s xs).bind fun vs=>Ix ft s f vs (TX s k f vs)
def YP:(ts:List Ty)->iS ts->Int
 | [.sl _ t],d=>((List.length (α:=t.den) d.1:Nat):Int)
 | _,_=>1
def Me (ts:List Ty) (d:iS ts):Bool:=decide (YP ts d=0)
def RS (g : FuncId) (xs : List Operand) : Option Y := (fs ft g).bind fun f => bR (!f.ov) <| (GH s xs).bind fun vs => Ix ft s f vs fun L M R gh r =>
    if Me f.rs (hFst f.rs (outs f.ps) (toH _ r)) then k ⟨L, M, R, gP gh f.ps vs (hSnd f.rs (outs f.ps) (toH _ r)), .one (.val (.slice none 0 0))⟩
    else TX s k f vs L M R gh r
def V2 (f:FS) (n:Nat):Bool:=match f.ps.drop n with
 | [.ptr _ _] =>true
 | _=>false
def Iy (t n:Nat):Option (FuncId×Hdr):=match look s.env t with
 | some (.one (.own h))=>(Xg h s.chs).bind fun c=>(fs ft c.1).bind fun f=>match V2 f n with
  | true=>some c
  | false=>none
 | _=>none
def RT (c:FuncId×Hdr) (xs:List Operand):Option Y:=(fs ft c.1).bind fun f=>bR (!f.ov)<|(GH s xs).bind fun vs=>Ix ft s f (vs++ [.one (.ptr c.2 0)]) (TX s k f (vs++ [.one (.ptr c.2 0)]))
def Zf (n:Nat):LV->Option (List Ty×List Ty)
 | .fn _ a b _=>some (a,b)
 | .own h=>(L8 h s.chs).bind fun q=>(fs ft q.1).bind fun f=>(TU ((f.ps.drop q.2.1.length).take n)).bind fun a=>some (a,f.rs++outs f.ps)
 | _=>none
def TY:(ts:List Ty)->List Operand->Option (iS ts×List Hdr)
 | [],[] =>some ((),[])
 | t::ts,x::xs=>(opd s x).bind fun v=>(zi s.chs t v).bind fun a=>(TY ts xs).bind fun r=>some ((a.1,r.1),a.2++r.2)
 | _,_=>none
def Mf (t:Nat) (xs:List Operand):Option Y:=(oneOf0 (look s.env t)).bind fun y=>(Zf ft s xs.length y).bind fun ab=>(TV ft s.chs 4 ab.1 ab.2 y).bind fun q=>(TY s ab.1 xs).bind fun d =>
 (CY (GG (q.lent++d.2) []) s.chs).bind fun pl=>bR (Ey ab.2) ((app ab.1 q.e d.1).bind fun r=>k ⟨pl.1,[],pl.2,qp s.nxt ab.2 (toH _ r),GD s.nxt ab.2 (toH _ r)⟩)
where oneOf0:Option AV->Option LV
 | some (.one x)=>some x
 | _=>none
end
section
variable {Y:Type} {ft:FT} {s:Sg} {k:Res->Option Y} {P:Program} {w0:World} {o:Oper} {res:Y}
theorem C2 {J:Hp} {θ:Th} {hs:List Hdr} {l:List Ent} (e2:l.map (·.1)=GG hs []) (hsub: ∀e∈l,e∈s.chs) (hr: ∀ {α:Type} (R:Rep α) (v:List Value) (a:α),Ch.own R v a∈l.map (toCh P θ)->R.rd J v a) (hb: ∀g c E,Ch.blk g c E∈l.map (toCh P θ)->J g=some (.cells c.toArray E (0,0))):Lent J θ s.chs hs:=fun h hh=>by
 have hd:h∈l.map (·.1):=by
  rw[e2]
  rcases zk (acc:=[]) hh with h1 | h1
  ·exact h1
  ·cases h1
 obtain ⟨e,he,h1⟩:=List.mem_map.1 hd
 refine ⟨fun q hq=>?_,fun q hq=>?_,fun q hq=>?_⟩
 ·have:=PB hq (hsub e he) h1
  subst this
  exact hr _ _ _ (List.mem_map.2 ⟨_,he,rfl⟩)
 ·have:=Md hq (hsub e he) h1
  subst this
  exact hr _ _ _ (List.mem_map.2 ⟨_,he,rfl⟩)
 ·have:=PC hq (hsub e he) h1
  subst this
  exact hb _ _ _ (List.mem_map.2 ⟨_,he,rfl⟩)
theorem fb: ∀ {ps:List PM} {xs:List AV} {chs:List Ent} {r:Args ps},di ft s chs ps xs=some r->chs.Perm (r.own++r.rest)
 | [],[],chs,r,h=>by obtain rfl:=ae (show some _=some r from h);exact List.Perm.refl _
 | .rd t::ps,x::xs,chs,r,h=>by
  obtain ⟨a,ha,h⟩:=bind_some (show (zi s.chs t x).bind _=some r from h)
  obtain ⟨q,hq,h⟩:=bind_some h
  obtain rfl:=ae h
  exact fb (ps:=ps) hq
 | .ow t::ps,x::xs,chs,r,h=>by
  obtain ⟨hg,h⟩:=aj (show bR (na x==t.isProd) _=some r from h)
  obtain ⟨cs,hcs,h⟩:=bind_some h
  obtain ⟨q,hq,h⟩:=bind_some h
  obtain ⟨he,h⟩:=aj h
  obtain ⟨r',hr,h⟩:=bind_some h
  obtain rfl:=ae h
  show chs.Perm ((q.used++r'.own)++r'.rest)
  rw[ai]
  exact (fW hq).trans ((fb hr).append_left _)
 | .eat t::ps,x::xs,chs,r,h=>by
  obtain ⟨hg,h⟩:=aj (show bR (na x==t.isProd) _=some r from h)
  obtain ⟨cs,hcs,h⟩:=bind_some h
  obtain ⟨q,hq,h⟩:=bind_some h
  obtain ⟨he,h⟩:=aj h
  obtain ⟨r',hr,h⟩:=bind_some h
  obtain rfl:=ae h
  show chs.Perm ((q.used++r'.own)++r'.rest)
  rw[ai]
  exact (fW hq).trans ((fb hr).append_left _)
 | .fn a b::ps,x::xs,chs,r,h=>by
  unfold di at h
  split at h
  ·obtain ⟨q,hq,h⟩:=bind_some h
   obtain ⟨r',hr,h⟩:=bind_some h
   obtain rfl:=ae h
   exact fb (ps:=ps) hr
  ·cases h
 | .ptr T t::ps,x::xs,chs,r,h=>by
  unfold di at h
  split at h
  ·obtain ⟨ho,h⟩:=aj h
   obtain ⟨q,hq,h⟩:=bind_some h
   obtain ⟨r',hr,h⟩:=bind_some h
   obtain rfl:=ae h
   show chs.Perm ((q.2.1++r'.own)++r'.rest)
   rw[ai]
   exact (od hq).trans ((fb hr).append_left _)
  ·cases h
 | .crs T E::ps,x::xs,chs,r,h=>by
  unfold di at h
  split at h
  ·obtain ⟨ho,h⟩:=aj h
   obtain ⟨q,hq,h⟩:=bind_some h
   obtain ⟨r',hr,h⟩:=bind_some h
   obtain ⟨hn,h⟩:=aj h
   obtain rfl:=ae h
   exact (mP hq).1.trans ((fb hr).cons _)
  ·cases h
 | .fk g::ps,x::xs,chs,r,h=>by
  unfold di at h
  split at h
  ·obtain ⟨hk,h⟩:=aj h
   obtain ⟨r',hr,h⟩:=bind_some h
   obtain rfl:=ae h
   exact fb (ps:=ps) hr
  ·cases h
 | .kb g T t::ps,x::xs,chs,r,h=>by
  unfold di at h
  split at h
  ·obtain ⟨c,hc,h⟩:=bind_some h
   obtain ⟨hk,h⟩:=aj h
   obtain ⟨q,hq,h⟩:=bind_some h
   obtain ⟨r',hr,h⟩:=bind_some h
   obtain ⟨hn,h⟩:=aj h
   obtain rfl:=ae h
   show chs.Perm ((q.2.1++r'.own)++r'.rest)
   rw[ai]
   exact (od hq).trans ((fb hr).append_left _)
  ·cases h
 | .kc g::ps,x::xs,chs,r,h=>by
  unfold di at h
  split at h
  ·obtain ⟨c,hc,h⟩:=bind_some h
   obtain ⟨hk,h⟩:=aj h
   obtain ⟨r',hr,h⟩:=bind_some h
   obtain ⟨hn,h⟩:=aj h
   obtain rfl:=ae h
   exact fb (ps:=ps) hr
  ·cases h
 | .kb _ _ _::_,[],_,_,h=>by cases h
 | .kc _::_,[],_,_,h=>by cases h
 | .cap _ _::_,_::_,_,_,h=>by cases h
 | .capf _ _ _::_,_::_,_,_,h=>by cases h
 | [],_::_,_,r,h=>by cases h
 | .rd _::_,[],_,r,h=>by cases h
 | .ow _::_,[],_,r,h=>by cases h
 | .eat _::_,[],_,r,h=>by cases h
 | .fn _ _::_,[],_,r,h=>by cases h
 | .ptr _ _::_,[],_,r,h=>by cases h
 | .cap _ _::_,[],_,_,h=>by cases h
 | .capf _ _ _::_,[],_,_,h=>by cases h
 | .fk _::_,[],_,_,h=>by cases h
 | .crs _ _::_,[],_,_,h=>by cases h
theorem JR: ∀ {t:Ty} {d:t.den} {cs:List LV},∀g∈xU t d cs,Pz g.2:=by
 intro t
 induction t with
 | prod a b iha ihb =>
  intro d cs g hg
  rcases aD hg with hg | hg
  ·exact iha g hg
  ·exact ihb g hg
 | wr t ih=>intro d cs g hg;exact ih g hg
 | sl E t ih =>
  intro d cs g hg
  cases cs with
  | nil=>cases hg
  | cons x l =>
   cases x with
   | own h=>obtain rfl:=aq hg;trivial
   | _=>cases hg
 | _=>intro d cs g hg;cases hg
theorem dR {gh:Option GhQ} : ∀ {ps:List PM} {xs:List AV} {d:iS (outs ps)},∀g∈gP gh ps xs d,∀ver c,SaysH g.2 ver c->False
 | [],xs,d=>fun g hg=>by cases xs <;> cases hg
 | .ow t::ps,[],d=>fun g hg=>by cases hg
 | .ow t::ps,x::xs,d=>fun g hg=>by
  have hg:g∈((jX x).elim [] fun cs=>xU t d.1 cs)++gP gh ps xs d.2:=hg
  rcases aD hg with hg | hg
  ·cases hb:jX x with
   | none=>rw[hb] at hg;cases hg
   | some cs=>rw[hb] at hg;exact fun ver c k=>vh (JR g hg) k
  ·exact dR g hg
 | .ptr T t::ps,[],d=>fun g hg=>by cases hg
 | .ptr T t::ps,x::xs,d=>fun g hg=>by
  have hg:g∈(match (generalizing:=false) x with | .one (.ptr h _)=>[(h,Chk.box T t d.1)] | _=>[])++gP gh ps xs d.2:=hg
  rcases aD hg with hg | hg
  ·split at hg
   ·obtain rfl:=aq hg;exact fun ver c k=>k
   ·cases hg
  ·exact dR g hg
 | .rd _::ps,[],d=>fun g hg=>by cases hg
 | .rd _::ps,_::xs,d=>dR (ps:=ps)
 | .eat _::ps,[],d=>fun g hg=>by cases hg
 | .eat _::ps,_::xs,d=>dR (ps:=ps)
 | .fn _ _::ps,[],d=>fun g hg=>by cases hg
 | .fn _ _::ps,_::xs,d=>dR (ps:=ps)
 | .cap _ _::ps,[],d=>fun g hg=>by cases hg
 | .cap _ _::ps,_::xs,d=>dR (ps:=ps)
 | .capf _ _ _::ps,[],d=>fun g hg=>by cases hg
 | .fk _::ps,[],d=>fun g hg=>by cases hg
 | .capf _ _ _::ps,_::xs,d=>dR (ps:=ps)
 | .fk _::ps,_::xs,d=>dR (ps:=ps)
 | .kc _::ps,[],d=>fun g hg=>by cases hg
 | .kc _::ps,_::xs,d=>dR (ps:=ps)
 | .kb _ T t::ps,[],d=>fun g hg=>by cases hg
 | .kb _ T t::ps,x::xs,d=>fun g hg=>by
  have hg:g∈(match (generalizing:=false) gh with | some (.box h)=>[(h,Chk.box T t d.1)] | _=>[])++gP gh ps xs d.2:=hg
  rcases aD hg with hg | hg
  ·split at hg
   ·obtain rfl:=aq hg;exact fun ver c k=>k
   ·cases hg
  ·exact dR g hg
 | .crs T E::ps,[],d=>fun g hg=>by cases hg
 | .crs T E::ps,x::xs,d=>fun g hg=>by
  have hg:g∈(match (generalizing:=false) x,gh with | .one (.ptr h _),some (.cur g l)=>[(h,Chk.blk T [.rd g (.sl E (.int .u8)) l,.val (.int .i64 d.1.1),.val (.int .i64 d.1.2)])] | _,_=>[])++gP gh ps xs d.2:=hg
  rcases aD hg with hg | hg
  ·split at hg
   ·obtain rfl:=aq hg;exact fun ver c k=>k
   ·cases hg
  ·exact dR g hg
theorem PD {α:Type} (A L O C:List α):(A++(L++(O++C))).Perm (O++(A++(L++C))):=by
 rw[<-ai A L (O++C),<-ai A L C]
 exact List.perm_append_comm_assoc _ _ _
theorem Mg {α:Type} (B A L C:List α):(B++(A++(L++C))).Perm (L++(A++B)++C):=by
 have h:(B++(A++L)).Perm (L++(A++B)):=List.perm_append_comm.trans ((List.Perm.of_eq (ai ..)).trans (List.perm_append_comm_assoc _ _ _))
 have:=h.append_right C
 rwa [ai,ai] at this
theorem PE {P:Program} {I:Hp} {w0:World} {o:Oper} {ev:Operand->Value} {ls rn:List Ch} {fact:Value->Prop} {gv:Value->List Ch} (hd: ∀v,Ch.back (gv v))
  (h: ∀J,I.le J->(∀ {α:Type} (R:Rep α) (v:List Value) (a:α),Ch.own R v a∈ls->R.rd J v a)->(∀g l E,Ch.blk g l E∈ls->J g=some (.cells l.toArray E (0,0)))->OpT P J w0 o ev rn fact gv):OpT P I w0 o ev (ls++rn) fact gv:=by
 intro w C hs
 rw[ai] at hs
 obtain ⟨J,h1,h2,h3,h4,h5⟩:=L4 hs
 exact (h J h1 h2 h3 w _ h4).imp fun v w' hv=>⟨hv.1,hv.2.back h1 (hd v)⟩
theorem Mh {α:Type} (L G O C:List α):(L++(G++O)++C).Perm (O++(L++C)++G):=by
 refine (List.Perm.append_right C List.perm_append_comm).trans ?_
 rw[ai,ai]
 exact List.perm_append_comm
theorem Mi {ts:List Ty} {d:iS ts} {v:Value} (h:Me ts d=true) (k:xf ts d v):v= .slice none 0 0:=by
 have h:=of_decide_eq_true h
 unfold YP at h
 split at h
 ·exact k (Int.ofNat.inj h)
 ·exact absurd h (by decide)
def ghV (θ:Th):Option GhQ->Value
 | some q=>q.v θ
 | none=>undef
theorem BT {θ:Th} {o:Option GhQ} : ∀q,o=some q->ghV θ o=q.v θ:=fun q h=>by rw[h];rfl
theorem C3 {J:Hp} {θ:Th} (hf:Fine P w0 J θ s): ∀ {xs:List Operand} {vs:List AV},GH s xs=some vs->xs.map (evL (envL θ s))=vs.map (·.v θ)/\ ∀x∈vs,x.ok P w0 J θ s.nxt s.chs
 | [],vs,h=>by obtain rfl:=ae (show some _=some vs from h);exact ⟨rfl,fun x hx=>by cases hx⟩
 | x::xs,vs,h=>by
  obtain ⟨v,hv',h⟩:=bind_some (show (opd s x).bind _=some vs from h)
  obtain ⟨us,hus,h⟩:=bind_some h
  obtain rfl:=ae h
  obtain ⟨k1,k2⟩:=C3 hf hus
  refine ⟨by rw[List.map_cons,List.map_cons,k1,aF (θ:=θ) hv'],fun y hy=>?_⟩
  rcases az hy with rfl | hy
  ·exact bO hf hv'
  ·exact k2 y hy
def Iz (P:Program) (w0:World) (s:Sg) (cv:Operand) (g:FuncId) (xs:List Operand) (vs:List AV):Prop:= ∀J θ,Fine P w0 J θ s-> ∃cap:Array Value,evL (envL θ s) cv= .func (.func g) #[] cap/\xs.map (evL (envL θ s))++cap.toList=vs.map (·.v θ)/\ ∀x∈vs,x.ok P w0 J θ s.nxt s.chs
theorem IA {g:FuncId} {xs:List Operand} {vs:List AV} (h:GH s xs=some vs):Iz P w0 s (.func g) g xs vs:=fun J θ hf=>by
 obtain ⟨k1,k2⟩:=C3 hf h
 exact ⟨#[],rfl,by rw[k1];simp,k2⟩
theorem PF {t n:Nat} {c:FuncId×Hdr} {xs:List Operand} {vs:List AV} (hp:Iy ft s t n=some c) (h:GH s xs=some vs):Iz P w0 s (.tmp t) c.1 xs (vs++ [.one (.ptr c.2 0)]):=fun J θ hf=>by
 unfold Iy at hp
 split at hp
 ·rename_i hh hlk
  obtain ⟨c',hc,hp⟩:=bind_some hp
  obtain ⟨f,hf',hp⟩:=bind_some hp
  split at hp
  ·obtain rfl:=ae hp
   obtain ⟨k1,k2⟩:=C3 hf h
   obtain ⟨ver,hm⟩:=C1 hc
   have hok:=(hf.chs _ hm).2.2
   have hfv:hv θ hh= .func (.func c'.1) #[] #[.pointer (some ⟨bk (hv θ c'.2),0,none⟩)]:=hok.2.2
   have hid:c'.2.id<s.nxt:=hok.2.1 (.ptr c'.2 0) (by simp)
   refine ⟨#[.pointer (some ⟨bk (hv θ c'.2),0,none⟩)],?_,?_,fun x hx=>?_⟩
   ·rw[<-hfv];exact aF (x:=.tmp t) (θ:=θ) hlk
   ·rw[k1,aM];rfl
   ·rcases aD hx with hx | hx
    ·exact k2 x hx
    ·obtain rfl:=aq hx
     exact hid
  ·cases hp
 ·cases hp
theorem zn (hF:FTok P ft) {f:FS} {g:FuncId} (hen:Enters P g) {fact:dens (f.rs++outs f.ps)->Value->Prop} (hcon: ∀w0 J γ vs (d:denP f.ps) r,Lay P J->PArgs P w0 J γ f.ps vs d->appP f.ps f.m d=some r->
  Con P g vs.toArray J w0 (owCh γ f.ps vs d) (fact r) (fun v=>resGv f.rs (hFst f.rs (outs f.ps) (toH _ r)) v++outCh γ f.ps vs (hSnd f.rs (outs f.ps) (toH _ r)))) {xs:Array Operand} {ts:Array TypeId} {cv:Operand} {vs:List AV} (hcv:Iz P w0 s cv g xs.toList vs) (ho:o.op= .call { callee:=.value cv,args:=xs,argTypes:=ts }) {kx:List Ent->List Ent->List Ent->Option GhQ->dens (f.rs++outs f.ps)->Option Y} (h:Ix ft s f vs kx=some res) :
  ∃L M R r a,kx L M R a.gh r=some res/\s.chs.Perm (L++M++R)/\di ft s s.chs f.ps vs=some a/\ ∀J θ,Fine P w0 J θ s->OpT P J w0 o (evL (envL θ s)) (L.map (toCh P θ)++M.map (toCh P θ)) (fact r) (fun v=>L.map (toCh P θ)++(resGv f.rs (hFst f.rs (outs f.ps) (toH _ r)) v++outCh (ghV θ a.gh) f.ps (vs.map (·.v θ)) (hSnd f.rs (outs f.ps) (toH _ r)))):=by
 obtain ⟨a,ha,h⟩:=bind_some h
 obtain ⟨pl,hpl,h⟩:=bind_some h
 obtain ⟨p2,e2⟩:=wi hpl
 have hpp:s.chs.Perm (a.own++a.rest):=fb ha
 have hperm:s.chs.Perm (pl.1++a.own++pl.2):=by
  refine hpp.trans ((p2.append_left a.own).trans ?_)
  rw[ai]
  exact List.perm_append_comm_assoc _ _ _
 split at h
 ·rename_i hc
  obtain ⟨r,hr,h⟩:=bind_some h
  rw[Bool.or_eq_true,ak] at hc
  refine ⟨_,_,_,r,a,h,hperm,ha,fun J θ hf=>?_⟩
  obtain ⟨cap,q1,q2,q3⟩:=hcv J θ hf
  rcases hc with ⟨hc1,hc2⟩ | hc
  ·refine ve (fun v=>xh (BS _ _ hc1) (dy _ _ _ hc2)) fun J' hJ hrd hbl=>?_
   obtain ⟨k1,k2,k3⟩:=fA hF hf hJ ha q3 (fun e he=>he) (C2 e2 (fun e he=>hperm.mem_iff.2 (by simp[he])) hrd hbl) (ghV θ a.gh) BT
   exact OpT.sepTo k3 (n8 hen ho q1 (by rw[List.nil_append,q2]) (hcon w0 J' (ghV θ a.gh) _ a.d r (hf.lay.mono hJ) k1 hr))
  ·have hpl:pl.1= []:=List.isEmpty_iff.1 hc
   obtain ⟨k1,k2,k3⟩:=fA hF hf Hp.le.rfl ha q3 (fun e he=>he) (C2 (P:=P) e2 (fun e he=>hperm.mem_iff.2 (by simp[he])) (by rw[hpl];intro α R v x hm;cases hm) (by rw[hpl];intro g c E hm;cases hm)) (ghV θ a.gh) BT
   rw[hpl]
   exact OpT.sepTo k3 (n8 hen ho q1 (by rw[List.nil_append,q2]) (hcon w0 J (ghV θ a.gh) _ a.d r hf.lay k1 hr))
 ·obtain ⟨hc,h⟩:=aj h
  obtain ⟨r,hr,h⟩:=bind_some h
  rw[ak] at hc
  refine ⟨[],_,_,r,a,h,(by
   rw[List.nil_append]
   refine hperm.trans ?_
   exact List.Perm.append_right _ List.perm_append_comm),ha,fun J θ hf=>?_⟩
  obtain ⟨cap,q1,q2,q3⟩:=hcv J θ hf
  have:=PE (P:=P) (I:=J) (w0:=w0) (o:=o) (ev:=evL (envL θ s)) (ls:=pl.1.map (toCh P θ)) (rn:=a.own.map (toCh P θ)) (fact:=fact r) (gv:=fun v=>resGv f.rs (hFst f.rs (outs f.ps) (toH _ r)) v++outCh (ghV θ a.gh) f.ps (vs.map (·.v θ)) (hSnd f.rs (outs f.ps) (toH _ r))) (fun v=>wm (dy _ _ _ hc.2) _ _ hc.1) fun J' hJ hrd hbl=>by
    obtain ⟨k1,k2,k3⟩:=fA hF hf hJ ha q3 (fun e he=>he) (C2 e2 (fun e he=>hperm.mem_iff.2 (by simp[he])) hrd hbl) (ghV θ a.gh) BT
    exact OpT.sepTo k3 (n8 hen ho q1 (by rw[List.nil_append,q2]) (hcon w0 J' (ghV θ a.gh) _ a.d r (hf.lay.mono hJ) k1 hr))
  rw[List.map_nil,List.nil_append,aM]
  exact OpT.permN List.perm_append_comm this
section
variable {f:FS} {vs:List AV} {L M R:List Ent} {r:dens (f.rs++outs f.ps)} {a:Args f.ps} (hvs: ∀J θ,Fine P w0 J θ s-> ∀x∈vs,x.ok P w0 J θ s.nxt s.chs)
include hvs
theorem zo (ha:di ft s s.chs f.ps vs=some a) (hperm:s.chs.Perm (L++M++R))
  (h1: ∀J θ,Fine P w0 J θ s->OpT P J w0 o (evL (envL θ s)) (L.map (toCh P θ)++M.map (toCh P θ)) (resFa f.rs) (fun v=>L.map (toCh P θ)++(resGv f.rs (hFst f.rs (outs f.ps) (toH _ r)) v++outCh (ghV θ a.gh) f.ps (vs.map (·.v θ)) (hSnd f.rs (outs f.ps) (toH _ r))))) :
  Good P w0 s o ⟨L,M,R,qp s.nxt f.rs (hFst f.rs (outs f.ps) (toH _ r))++gP a.gh f.ps vs (hSnd f.rs (outs f.ps) (toH _ r)),GD s.nxt f.rs (hFst f.rs (outs f.ps) (toH _ r))⟩:=by
 have hez: ∀g∈qp s.nxt f.rs (hFst f.rs (outs f.ps) (toH _ r))++gP a.gh f.ps vs (hSnd f.rs (outs f.ps) (toH _ r)),∀ver c,SaysH g.2 ver c->False:=fun g hg=>by
  rcases aD hg with hg | hg
  ·exact fun ver c k=>vh (pN _ _ g hg) k
  ·exact dR g hg
 refine ⟨hperm,fun J θ hf g hg ver c hs=>(hez g hg ver c hs).elim,fun J θ hf=>?_⟩
 rw[aM]
 refine OpT.post (h1 J θ hf) fun v w C hv0 hst=>?_
 have hst1:St J w0 w (resGv f.rs (hFst f.rs (outs f.ps) (toH _ r)) v++(L.map (toCh P θ)++(outCh (ghV θ a.gh) f.ps (vs.map (·.v θ)) (hSnd f.rs (outs f.ps) (toH _ r))++C))):=by
  refine hst.perm ?_
  rw[ai,ai]
  exact List.perm_append_comm_assoc _ _ _
 obtain ⟨q1,q2,q3,q4⟩:=Is (P:=P) (m:=s.nxt) (θ:=upd θ s.nxt v) (n:=s.nxt+1) (chs:=Res.chs ⟨L,M,R,qp s.nxt f.rs (hFst f.rs (outs f.ps) (toH _ r))++gP a.gh f.ps vs (hSnd f.rs (outs f.ps) (toH _ r)),GD s.nxt f.rs (hFst f.rs (outs f.ps) (toH _ r))⟩ s.nxt) (ax _) (fV (vs:=θ) (i:=s.nxt) (v:=v)) f.rs (hFst f.rs (outs f.ps) (toH _ r)) _ hv0 hst1
 have q5:St J w0 w (outCh (ghV θ a.gh) f.ps (vs.map (·.v θ)) (hSnd f.rs (outs f.ps) (toH _ r))++(((qp s.nxt f.rs (hFst f.rs (outs f.ps) (toH _ r))).map fun g=>toCh P (upd θ s.nxt v) (g.1,s.nxt,g.2))++(L.map (toCh P θ)++C))):=q4.perm (PD _ _ _ _)
 obtain ⟨b1,b2⟩:=j4 (P:=P) (θ:=θ) (θ':=upd θ s.nxt v) (m:=s.nxt) hf Same.upd (aE _) (hSnd f.rs (outs f.ps) (toH _ r)) ha (hvs J θ hf) (fun e he=>he) (fun q hq=>⟨hq,BT q hq⟩) q5
 refine ⟨⟨q1,q2,fun g hg=>?_⟩,?_⟩
 ·rcases aD hg with hg | hg
  ·exact rh (pN _ _ g hg) (by rw[q3 g hg];exact ax _) (ax _)
  ·exact Iw (b2 g hg).1 (Nat.le_succ _) (aV (b2 g hg).2) (ax _)
 ·show St J w0 w (L.map (toCh P θ)++((qp s.nxt f.rs (hFst f.rs (outs f.ps) (toH _ r))++gP a.gh f.ps vs (hSnd f.rs (outs f.ps) (toH _ r))).map _)++C)
  rw[aM]
  exact b1.perm (Mg _ _ _ _)
theorem JS (ha:di ft s s.chs f.ps vs=some a) (hperm:s.chs.Perm (L++M++R)) (hn:Me f.rs (hFst f.rs (outs f.ps) (toH _ r))=true)
  (h1: ∀J θ,Fine P w0 J θ s->OpT P J w0 o (evL (envL θ s)) (L.map (toCh P θ)++M.map (toCh P θ)) (fun v=>resFa f.rs v/\xf f.rs (hFst f.rs (outs f.ps) (toH _ r)) v) (fun v=>L.map (toCh P θ)++(resGv f.rs (hFst f.rs (outs f.ps) (toH _ r)) v++outCh (ghV θ a.gh) f.ps (vs.map (·.v θ)) (hSnd f.rs (outs f.ps) (toH _ r))))) :
  Good P w0 s o ⟨L,M,R,gP a.gh f.ps vs (hSnd f.rs (outs f.ps) (toH _ r)),.one (.val (.slice none 0 0))⟩:=by
 refine ⟨hperm,fun J θ hf g hg ver c hs=>(dR g hg ver c hs).elim,fun J θ hf=>?_⟩
 rw[aM]
 refine OpT.post (h1 J θ hf) fun v w C hv0 hst=>?_
 have q5:St J w0 w (outCh (ghV θ a.gh) f.ps (vs.map (·.v θ)) (hSnd f.rs (outs f.ps) (toH _ r))++(L.map (toCh P θ)++C)):=by
  refine St.left (ds:=resGv f.rs (hFst f.rs (outs f.ps) (toH _ r)) v) (hst.perm ?_)
  exact Mh _ _ _ _
 obtain ⟨b1,b2⟩:=j4 (P:=P) (θ:=θ) (θ':=upd θ s.nxt v) (m:=s.nxt) hf Same.upd (aE _) (hSnd f.rs (outs f.ps) (toH _ r)) ha (hvs J θ hf) (fun e he=>he) (fun q hq=>⟨hq,BT q hq⟩) q5
 refine ⟨⟨Eq.refl true,(Mi hn hv0.2).symm,fun g hg=>Iw (b2 g hg).1 (Nat.le_succ _) (aV (b2 g hg).2) (ax _)⟩,?_⟩
 refine b1.perm ?_
 rw[ai]
 exact List.perm_append_comm_assoc _ _ _
end
theorem vi {cv:Operand} {g:FuncId} {xs:List Operand} {vs:List AV} (h:Iz P w0 s cv g xs vs): ∀J θ,Fine P w0 J θ s-> ∀x∈vs,x.ok P w0 J θ s.nxt s.chs:=fun J θ hf=>by
 obtain ⟨cap,-,-,h⟩:=h J θ hf
 exact h
theorem Mj (hF:FTok P ft) {g:FuncId} {xs:Array Operand} {ts:Array TypeId} (ho:o.op= .call { callee:=.value (.func g),args:=xs,argTypes:=ts }) (h:RR ft s k g xs.toList=some res):Oks P w0 s o k res:=by
 obtain ⟨f,hf',h⟩:=bind_some h
 obtain ⟨hov,h⟩:=aj h
 obtain ⟨vs,hvs,h⟩:=bind_some h
 have hov:f.ov=false:=by simpa using hov
 have hfo:=hF.get hf'
 have hc:=IA (P:=P) (w0:=w0) (g:=g) hvs
 obtain ⟨L,M,R,r,a,h,hp,ha,h1⟩:=zn (w0:=w0) hF (hfo.en hov) (fact:=fun _=>resFa f.rs) (hfo.con hov) hc ho h
 exact ⟨_,h,zo (vi hc) ha hp h1⟩
theorem Mk (hF:FTok P ft) {t n:Nat} {c:FuncId×Hdr} (hpc:Iy ft s t n=some c) {xs:Array Operand} {ts:Array TypeId} (ho:o.op= .call { callee:=.value (.tmp t),args:=xs,argTypes:=ts }) (h:RT ft s k c xs.toList=some res):Oks P w0 s o k res:=by
 obtain ⟨f,hf',h⟩:=bind_some h
 obtain ⟨hov,h⟩:=aj h
 obtain ⟨vs,hvs,h⟩:=bind_some h
 have hov:f.ov=false:=by simpa using hov
 have hfo:=hF.get hf'
 have hc:=PF (P:=P) (w0:=w0) hpc hvs
 obtain ⟨L,M,R,r,a,h,hp,ha,h1⟩:=zn (w0:=w0) hF (hfo.en hov) (fact:=fun _=>resFa f.rs) (hfo.con hov) hc ho h
 exact ⟨_,h,zo (vi hc) ha hp h1⟩
theorem Ml (hF:FTok P ft) {g:FuncId} {xs:Array Operand} {ts:Array TypeId} (hcl: ∀f,fs ft g=some f->NilOk P g f) (ho:o.op= .call { callee:=.value (.func g),args:=xs,argTypes:=ts }) (h:RS ft s k g xs.toList=some res):Oks P w0 s o k res:=by
 obtain ⟨f,hf',h⟩:=bind_some h
 obtain ⟨hov,h⟩:=aj h
 obtain ⟨vs,hvs,h⟩:=bind_some h
 have hov:f.ov=false:=by simpa using hov
 have hfo:=hF.get hf'
 have hc:=IA (P:=P) (w0:=w0) (g:=g) hvs
 obtain ⟨L,M,R,r,a,h,hp,ha,h1⟩:=zn (w0:=w0) hF (hfo.en hov) (fact:=fun r v=>resFa f.rs v/\xf f.rs (hFst f.rs (outs f.ps) (toH _ r)) v) (hcl f hf') hc ho h
 split at h
 ·exact ⟨_,h,JS (vi hc) ha hp ‹_› h1⟩
 ·exact ⟨_,h,zo (vi hc) ha hp fun J θ hf=>OpT.weak (h1 J θ hf) (fun v hv=>hv.1) fun v _=>rfl⟩
theorem IB {J J':Hp} {θ:Th} (hf:Fine P w0 J θ s) (hJ:J.le J'): ∀ {ts:List Ty} {xs:List Operand} {r:iS ts×List Hdr},TY s ts xs=some r->Lent J' θ s.chs r.2->Ly J' ts (xs.map (evL (envL θ s))) r.1
 | [],[],r,h,_=>by obtain rfl:=ae (show some _=some r from h);exact Eq.refl _
 | t::ts,x::xs,r,h,hl=>by
  obtain ⟨v,hv',h⟩:=bind_some (show (opd s x).bind _=some r from h)
  obtain ⟨a,ha,h⟩:=bind_some h
  obtain ⟨q,hq,h⟩:=bind_some h
  obtain rfl:=ae h
  obtain ⟨cs,c1,c2⟩:=EA ha (AV.ok_same Same.rfl (aE _) Newer.rfl (bO hf hv') hJ) hl.l
  rw[<-aF (θ:=θ) hv'] at c1
  exact ⟨_,cs,_,rfl,c1,c2,IB hf hJ hq hl.r⟩
 | [],_::_,r,h,_=>by cases h
 | _::_,[],r,h,_=>by cases h
theorem Mm (hF:FTok P ft) {t:Nat} {xs:Array Operand} {ts:Array TypeId} (ho:o.op= .call { callee:=.value (.tmp t),args:=xs,argTypes:=ts }) (h:Mf ft s k t xs.toList=some res):Oks P w0 s o k res:=by
 obtain ⟨y,hy,h⟩:=bind_some h
 obtain ⟨ab,hab,h⟩:=bind_some h
 obtain ⟨q,hq,h⟩:=bind_some h
 obtain ⟨d,hd,h⟩:=bind_some h
 obtain ⟨pl,hpl,h⟩:=bind_some h
 obtain ⟨hc1,h⟩:=aj h
 obtain ⟨r,hr,h⟩:=bind_some h
 have hy:look s.env t=some (.one y):=by
  unfold Mf.oneOf0 at hy
  split at hy
  ·rename_i x hx
   rw[hx,ae hy]
  ·cases hy
 obtain ⟨p2,e2⟩:=wi hpl
 refine ⟨_,h,by simpa using p2,fun J θ hf g hg ver c hs=>(vh (pN _ _ g hg) hs).elim,fun J θ hf=>?_⟩
 have hyo:y.ok P w0 J θ s.nxt:=bO (x:=.tmp t) hf hy
 have h1:OpT P J w0 o (evL (envL θ s)) (pl.1.map (toCh P θ)++ []) (resFa ab.2) (fun v=>pl.1.map (toCh P θ)++resGv ab.2 (toH _ r) v):=by
  refine ve (fun v=>BS _ _ hc1) fun J' hJ hrd hbl=>?_
  have hl:=C2 (s:=s) e2 (fun e he=>p2.mem_iff.2 (by simp[he])) hrd hbl
  obtain ⟨kk,first,capt,h3,h4,h5⟩:=GF hF hf.lay hf.chs hq hyo J' hJ hl.l
  have hcon:=h5 J' Hp.le.rfl _ d.1 (IB hf hJ hd hl.r) r hr
  have hev:evL (envL θ s) (.tmp t)= .func (.func kk) first capt:=(aF (x:=.tmp t) hy).trans h3
  exact n8 h4 ho hev (by simp) hcon
 rw[List.append_nil] at h1
 show OpT P J w0 o _ ((pl.1++ []).map (toCh P θ)) _ _
 rw[List.append_nil]
 refine OpT.post h1 fun v w C hv0 hst=>?_
 have hst1:St J w0 w (resGv ab.2 (toH _ r) v++(pl.1.map (toCh P θ)++C)):=by
  refine hst.perm ?_
  rw[ai]
  exact List.perm_append_comm_assoc _ _ _
 obtain ⟨q1,q2,q3,q4⟩:=Is (P:=P) (m:=s.nxt) (θ:=upd θ s.nxt v) (n:=s.nxt+1) (chs:=Res.chs ⟨pl.1,[],pl.2,qp s.nxt ab.2 (toH _ r),GD s.nxt ab.2 (toH _ r)⟩ s.nxt) (ax _) (fV (vs:=θ) (i:=s.nxt) (v:=v)) ab.2 (toH _ r) _ hv0 hst1
 refine ⟨⟨q1,q2,fun g hg=>rh (pN _ _ g hg) (by rw[q3 g hg];exact ax _) (ax _)⟩,?_⟩
 show St J w0 w (pl.1.map (toCh P θ)++((qp s.nxt ab.2 (toH _ r)).map _)++C)
 refine q4.perm ?_
 rw[ai]
 exact List.perm_append_comm_assoc _ _ _
end
section
variable {Y:Type} (tt:TT) (s:Sg) (k:Res->Option Y)
def PG:AV->Option (Bool×List LV)
 | .one x=>some (false,[x])
 | .agg xs=>some (true,xs)
 | _=>none
def C4 (s:Sg):List Operand->Option (List (Bool×List LV))
 | [] =>some []
 | x::xs=>(opd s x).bind fun v=>(PG v).bind fun y=>(C4 s xs).bind fun ys=>some (y::ys)
def IC (s:Sg):List Operand->Option (List LV)
 | [] =>some []
 | x::xs=>match opd s x with
  | some (.one y)=>(IC s xs).bind fun ys=>some (y::ys)
  | _=>none
def RU (fn:Fn) (first captured:Array Operand):Option Y:=match fn with
 | .func g=>(C4 s first.toList).bind fun ys=>(IC s captured.toList).bind fun xs=>k ⟨[],[],s.chs,[(⟨s.nxt,[]⟩,.clo g ys xs)],.one (.own ⟨s.nxt,[]⟩)⟩
 | _=>none
def ID (T:TypeId) (x:Operand):Option Y:=(td tt T).bind fun d=>match opd s x with
 | some (.one (.fz h T' t a off))=>(we d.agg t off d.n).bind fun p=>bR (p.ty.isProd==d.agg) (k (.pure s (LC s.nxt p.ty (p.get a))))
 | some (.one (.fzf h T' ps rs e))=>bR (Nat.beq d.n 1 && !d.agg) (k (.pure s (.one (.fn ⟨s.nxt,[]⟩ ps rs e))))
 | _=>none
def GI (T:TypeId) (x:Operand) (f:Nat):Option Y:=(td tt T).bind fun d=>(d.fields[f]?).bind fun q=>match opd s x with
 | some (.one (.fz h T' t a off))=>k (.pure s (.one (.fz h T' t a (off+q.1))))
 | _=>none
end
section
variable {Y:Type} {tt:TT} {s:Sg} {k:Res->Option Y} {P:Program} {w0:World} {o:Oper} {res:Y} {x:Operand}
theorem BU {J:Hp} {θ:Th} (hf:Fine P w0 J θ s): ∀ {l:List Operand} {ys:List (Bool×List LV)},C4 s l=some ys->l.map (evL (envL θ s))=ys.map (iU θ)/\ ∀y∈ys,∀x∈y.2,x.ok P w0 J θ s.nxt
 | [],ys,h=>by obtain rfl:=ae (show some _=some ys from h);exact ⟨rfl,fun y hy=>by cases hy⟩
 | x::l,ys,h=>by
  obtain ⟨v,hv',h⟩:=bind_some (show (opd s x).bind _=some ys from h)
  obtain ⟨y,hy,h⟩:=bind_some h
  obtain ⟨zs,hz,h⟩:=bind_some h
  obtain rfl:=ae h
  obtain ⟨k1,k2⟩:=BU hf hz
  have hvo:=bO hf hv'
  have hev:=aF (θ:=θ) hv'
  have key:v.v θ=iU θ y/\ ∀x∈y.2,x.ok P w0 J θ s.nxt:=by
   cases v with
   | one z=>obtain rfl:=ae (show some _=some y from hy);exact ⟨rfl,fun x hx=>by obtain rfl:=aq hx;exact hvo⟩
   | agg zs=>obtain rfl:=ae (show some _=some y from hy);exact ⟨rfl,hvo⟩
   | _=>cases hy
  refine ⟨by rw[List.map_cons,List.map_cons,k1,hev,key.1],fun z hz=>?_⟩
  rcases az hz with rfl | hz
  ·exact key.2
  ·exact k2 z hz
theorem EI {J:Hp} {θ:Th} (hf:Fine P w0 J θ s): ∀ {l:List Operand} {ys:List LV},IC s l=some ys->l.map (evL (envL θ s))=ys.map (·.v θ)/\ ∀x∈ys,x.ok P w0 J θ s.nxt
 | [],ys,h=>by obtain rfl:=ae (show some _=some ys from h);exact ⟨rfl,fun y hy=>by cases hy⟩
 | x::l,ys,h=>by
  unfold IC at h
  split at h
  ·rename_i y hy
   obtain ⟨zs,hz,h⟩:=bind_some h
   obtain rfl:=ae h
   obtain ⟨k1,k2⟩:=EI hf hz
   have hvo:=bO hf hy
   refine ⟨by rw[List.map_cons,List.map_cons,k1,aF (θ:=θ) hy];rfl,fun z hz=>?_⟩
   rcases az hz with rfl | hz
   ·exact hvo
   ·exact k2 z hz
  ·cases h
theorem Mn {fn:Fn} {first captured:Array Operand} (ho:o.op= .makeFunc fn first captured) (h:RU s k fn first captured=some res):Oks P w0 s o k res:=by
 cases fn with
 | func g =>
  obtain ⟨ys,hys,h⟩:=bind_some (show (C4 s first.toList).bind _=some res from h)
  obtain ⟨xs,hxs,h⟩:=bind_some h
  refine ⟨_,h,List.Perm.refl _,aQ rfl,fun J θ hf=>?_⟩
  obtain ⟨k1,k2⟩:=BU hf hys
  obtain ⟨k3,k4⟩:=EI hf hxs
  refine OpT.post (CC ho rfl) fun v w C hv0 hst=>?_
  rw[k1,k3] at hv0
  have hh:hv (upd θ s.nxt v) ⟨s.nxt,[]⟩=v:=fV
  refine ⟨⟨⟨ax _,by rw[hh,hv0];rfl⟩,hh,fun g hg=>?_⟩,?_⟩
  ·obtain rfl:=aq hg
   refine ⟨ax _,ax _,fun y hy x hx=>LV.ok_same Same.upd (Nat.le_succ _) (k2 y hy x hx) Hp.le.rfl,fun x hx=>LV.ok_same Same.upd (Nat.le_succ _) (k4 x hx) Hp.le.rfl,?_⟩
   rw[hh,gF Same.upd k4,List.map_congr_left fun y hy=>wc Same.upd (k2 y hy)]
   exact hv0
  ·exact St.emp.2 hst
 | _=>cases h
theorem EJ (hT:TTok P tt) {T:TypeId} (ho:o.op= .load T x) (h:ID tt s k T x=some res):Oks P w0 s o k res:=by
 unfold ID at h
 obtain ⟨d,hd,h⟩:=bind_some h
 have hdk:=hT.get hd
 split at h
 ·rename_i hh T' t a off hx
  obtain ⟨p,hp,h⟩:=bind_some h
  obtain ⟨hg,h⟩:=aj h
  have hg:p.ty.isProd=d.agg:=by simpa using hg
  have hp:=yu _ _ _ _ hp
  refine ⟨_,h,List.Perm.refl _,aQ rfl,fun J θ hf=>?_⟩
  obtain ⟨h1,cells,h2,h3⟩:=bO hf hx
  obtain ⟨c,e1,e2⟩:=hp.fld J cells a h3
  have hl:c.length=d.n:=(p.ty.rep.rd_len e2).trans (p.ty.rep_size.trans hp.size)
  have e1':(cells.drop off).take d.n=c:=by rw[<-hp.size,<-p.ty.rep_size];exact e1
  refine OpT.weak (xc h2 hdk.ti ho (aF (θ:=θ) hx) hdk.one e1' hl rfl) (fun v hv0=>?_) (fun v hv0=>rfl)
  have hlds:Lds p.ty.isProd c v:=by
   rw[hg]
   cases hb:d.agg with
   | true=>rw[hb] at hv0;exact hv0
   | false =>
    rw[hb] at hv0
    have h1':d.n=1:=by
     have:=hdk.one
     rw[hb] at this
     simpa using this
    obtain ⟨u,rfl⟩:=List.length_eq_one_iff.1 (hl.trans h1')
    rw[show v=u from hv0];rfl
  have:=oX (P:=P) (w0:=w0) (J:=J) (θ:=upd θ s.nxt v) (id:=s.nxt) (n:=s.nxt+1) (chs:=(Res.pure s (LC s.nxt p.ty (p.get a))).chs s.nxt) (ax _) fV p.ty (p.get a) c e2 hlds
  exact ⟨this.1,this.2,fun g hg=>by cases hg⟩
 ·rename_i hh T' ps rs e hx
  obtain ⟨hn,h⟩:=aj h
  rw[ak] at hn
  have hn1:=au hn.1
  have hn2:d.agg=false:=by simpa using hn.2
  refine ⟨_,h,List.Perm.refl _,aQ rfl,fun J θ hf=>?_⟩
  obtain ⟨h1,u,h2,h3⟩:=bO hf hx
  refine OpT.weak (xc (d:=[u]) (u:=u) h2 hdk.ti ho (aF (θ:=θ) hx) hdk.one (by rw[hn1];rfl) (by rw[hn1];rfl) (by rw[hn2];rfl)) (fun v hv0=>?_) (fun v hv0=>rfl)
  subst hv0
  have hh:hv (upd θ s.nxt v) ⟨s.nxt,[]⟩=v:=fV
  exact ⟨⟨ax _,by rw[hh];exact h3⟩,hh,fun g hg=>by cases hg⟩
 ·cases h
theorem JT (hT:TTok P tt) {T:TypeId} {f:Nat} (ho:o.op= .fieldAddr T x f) (h:GI tt s k T x f=some res):Oks P w0 s o k res:=by
 unfold GI at h
 obtain ⟨d,hd,h⟩:=bind_some h
 obtain ⟨q,hq,h⟩:=bind_some h
 have hf:=(hT.get hd).fld f q hq
 split at h
 ·rename_i hh T' t a off hx
  exact ⟨_,h,eF (fun J θ hF=>lf hf ho (aF (θ:=θ) hx)) fun J θ hF=>(by have:=bO hF hx;exact this)⟩
 ·cases h
end
end R
namespace R
open Go.RowKit
open D
section
variable {P:Program} {I:Hp} {w0:World} {o:Oper} {ev:Operand->Value}
theorem IE {x:Operand} {a:Addr} (ho:o.op= .nilCheck x) (hx:ev x= .pointer (some a)):OpT P I w0 o ev [] (· = .pointer (some a)) (fun _=>[]):=
 bm fun w=>by simp only[execOp,ho,hx];rfl
theorem T0 {x y:Operand} {T U:TypeId} {m n:Int} (ho:o.op= .call { callee:=.builtin .min,args:= #[x,y],argTypes:= #[T,U] }) (hx:ev x= .int .i64 m) (hy:ev y= .int .i64 n):OpT P I w0 o ev [] (· = .int .i64 (min m n)) (fun _=>[]):=
 bm fun w=>by
  have e:min m n=if n<m then n else m:=by split <;> omega
  rw[e]
  simp[execOp,ho,hx,hy,resolve,invoke,builtin,Builtin.min_,Builtin.min2]
theorem T1 {x y:Operand} {T U:TypeId} {m n:Int} (ho:o.op= .call { callee:=.builtin .max,args:= #[x,y],argTypes:= #[T,U] }) (hx:ev x= .int .i64 m) (hy:ev y= .int .i64 n):OpT P I w0 o ev [] (· = .int .i64 (max m n)) (fun _=>[]):=
 bm fun w=>by
  have e:max m n=if m<n then n else m:=by split <;> omega
  rw[e]
  simp[execOp,ho,hx,hy,resolve,invoke,builtin,Builtin.max_,Builtin.max2]
theorem BV {t e:TypeId} {a:Option Addr} {w:World} (hT:P.underlying t=some (.pointer e)):(Op.equal t (.pointer a) (.pointer none)).run P w= .ok a.isNone w:=by
 have key: ∀n,(Op.equalIn (n+1) t (.pointer a) (.pointer none)).run P w= .ok a.isNone w:=fun n=>by
  unfold Op.equalIn
  rw[Sem.run_bind,run_underlying hT,Result.andThen_ok]
  cases a <;> rfl
 exact key 9999
theorem Mo {t e:TypeId} {a:Option Addr} {l c:Nat} {w:World} (hT:P.underlying t=some (.slice e)):(Op.equal t (.slice a l c) (.slice none 0 0)).run P w= .ok (BN (.slice a l c)) w:=by
 have key: ∀n,(Op.equalIn (n+1) t (.slice a l c) (.slice none 0 0)).run P w= .ok (BN (.slice a l c)) w:=fun n=>by
  unfold Op.equalIn
  rw[Sem.run_bind,run_underlying hT,Result.andThen_ok]
  cases a <;> rfl
 exact key 9999
theorem GJ {x y:Operand} {t u e:TypeId} {a:Option Addr} {l c:Nat} (hT:P.underlying t=some (.slice e)) (ho:o.op= .binOp .eql t x y u) (hx:ev x= .slice a l c) (hy:ev y= .slice none 0 0):OpT P I w0 o ev [] (· = .bool (BN (.slice a l c))) (fun _=>[]):=
 bm fun w=>by
  have g1:eqGuard .eql t x y (.slice a l c) (.slice none 0 0)=pure ():=rfl
  have g2:binOp .eql t (.slice a l c) (.slice none 0 0)=(do pure (.bool (<-Op.equal t (.slice a l c) (.slice none 0 0)))):=rfl
  simp only[execOp,ho,hx,hy,g1,g2,Sem.run_bind,Sem.run_pure,Mo hT,Result.andThen_ok]
theorem Mq {x y:Operand} {t u e:TypeId} {a:Option Addr} (hT:P.underlying t=some (.pointer e)) (ho:o.op= .binOp .eql t x y u) (hx:ev x= .pointer a) (hy:ev y= .pointer none):OpT P I w0 o ev [] (· = .bool a.isNone) (fun _=>[]):=
 bm fun w=>by
  have g1:eqGuard .eql t x y (.pointer a) (.pointer none)=pure ():=rfl
  have g2:binOp .eql t (.pointer a) (.pointer none)=(do pure (.bool (<-Op.equal t (.pointer a) (.pointer none)))):=rfl
  simp only[execOp,ho,hx,hy,g1,g2,Sem.run_bind,Sem.run_pure,BV hT,Result.andThen_ok]
theorem Mr {x y:Operand} {t u e:TypeId} {a:Option Addr} (hT:P.underlying t=some (.pointer e)) (ho:o.op= .binOp .neq t x y u) (hx:ev x= .pointer a) (hy:ev y= .pointer none):OpT P I w0 o ev [] (· = .bool (!a.isNone)) (fun _=>[]):=
 bm fun w=>by
  have g1:eqGuard .neq t x y (.pointer a) (.pointer none)=pure ():=rfl
  have g2:binOp .neq t (.pointer a) (.pointer none)=(do pure (.bool (!(<-Op.equal t (.pointer a) (.pointer none))))):=rfl
  simp only[execOp,ho,hx,hy,g1,g2,Sem.run_bind,Sem.run_pure,BV hT,Result.andThen_ok]
end
section
variable {Y:Type} (tt:TT) (s:Sg) (k:Res->Option Y)
def T2 (x:Operand):Option Y:=match opd s x with
 | some (.one (.ptr h off))=>k (.pure s (.one (.ptr h off)))
 | some (.one (.rd h (.tree T E t) d))=>(Tr.get d).bind fun _=>k (.pure s (.one (.rd h (.tree T E t) d)))
 | _=>none
def XQ (x y:Operand):Option Y:=match opd s x,opd s y with
 | some (.one (.val (.int .i64 m))),some (.one (.val (.int .i64 n)))=>kv s k (.int .i64 (min m n))
 | _,_=>none
def XR (x y:Operand):Option Y:=match opd s x,opd s y with
 | some (.one (.val (.int .i64 m))),some (.one (.val (.int .i64 n)))=>kv s k (.int .i64 (max m n))
 | _,_=>none
def XS (b:BinOp) (T:TypeId) (x y:Operand):Option Y:=(td tt T).bind fun q=>q.pt.bind fun _=>match opd s x,opd s y with
 | some (.one (.rd h (.tree T' E t) d)),some (.one (.val v))=>bR (BQ v) (match b with
  | .eql=>kv s k (.bool d.isNil)
  | .neq=>k (.pure s (.one (.nb d.isNil)))
  | _=>none)
 | some (.one (.ptr h off)),some (.one (.val v))=>bR (BQ v) (match b with
  | .eql=>kv s k (.bool false)
  | .neq=>kv s k (.bool true)
  | _=>none)
 | _,_=>none
def Xh (b:BinOp) (T:TypeId) (x y:Operand):Option Y:=(td tt T).bind fun q=>q.el.bind fun _=>match opd s x,opd s y,b with
 | some (.one (.rdn h b (.sl E t) d)),some (.one (.val v)),.eql=>bR (isNil v) (kv s k (.bool b))
 | some (.one (.own h)),some (.one (.val v)),.eql=>bR (isNil v) ((rowOf h s.chs).bind fun r=>(chk (0<(r.xs.length:Int))).bind fun _=>k ⟨[r.ent h],[],r.rest,[],.one (.val (.bool false))⟩)
 | some (.one (.val u)),some (.one (.val v)),.eql=>bR (isNil v&&isNil u) (kv s k (.bool true))
 | _,_,_=>none
def Ms (T:TypeId) (x:Operand) (f:Nat):Option Y:=(td tt T).bind fun d=>(d.fields[f]?).bind fun q=>match opd s x with
 | some (.one (.rd h (.tree T' E t) a))=>(Tr.get a).bind fun p=>k (.pure s (.one (.fz h T' (.prod t (.sl E (.tree T' E t))) p q.1)))
 | _=>none
def XT (s:Sg) (x:Operand):Option (Hdr×(E:TypeId)×(t:Ty)×List t.den):=match opd s x with
 | some (.one (.rd h (.sl E t) xs))=>some (h,⟨E,t,xs⟩)
 | _=>none
def asI (s:Sg) (x:Operand):Option Int:=match opd s x with
 | some (.one (.val (.int .i64 m)))=>some m
 | _=>none
def PH (E:TypeId) (t:Ty) (xs:List t.den):Option Y:=k (.pure s (.one (.rd ⟨s.nxt,[]⟩ (.sl E t) xs)))
def Mt (T:TypeId) (x:Operand) (lo hi:Option Operand):Option Y:=(td tt T).bind fun d=>d.el.bind fun E'=>(td tt E').bind fun e=>(XT s x).bind fun r=>bR (Nat.beq e.n r.2.2.1.size) (match lo,hi with
 | some l,none=>(asI s l).bind fun l=>(chk (0<=l/\l<=(r.2.2.2.length:Int))).bind fun _=>PH s k r.2.1 r.2.2.1 (r.2.2.2.drop l.toNat)
 | none,some h=>(asI s h).bind fun h=>(chk (0<=h/\h<=(r.2.2.2.length:Int))).bind fun _=>PH s k r.2.1 r.2.2.1 (r.2.2.2.take h.toNat)
 | some l,some h=>(asI s l).bind fun l=>(asI s h).bind fun h=>(chk (0<=l/\l<=h/\h<=(r.2.2.2.length:Int))).bind fun _=>PH s k r.2.1 r.2.2.1 ((r.2.2.2.take h.toNat).drop l.toNat)
 | none,none=>none)
def Mu (T:TypeId) (x:Operand) (lo hi:Option Operand):Option Y:=(td tt T).bind fun d=>match d.el,opd s x,lo,hi with
 | some E',some (.one (.own h)),none,some hi=>(rowOf h s.chs).bind fun r=>(td tt E').bind fun e=>bR (Nat.beq e.n r.t.size) ((asI s hi).bind fun m=>(chk (0<=m/\m<=(r.xs.length:Int))).bind fun _=>newRow s k r.E r.t [r.ent h] r.rest (r.xs.take m.toNat))
 | _,_,_,_=>none
def Mv (T:TypeId) (x:Operand) (lo hi:Option Operand):Option Y:=(td tt T).bind fun d=>match d.el,opd s x,lo,hi with
 | some E',some (.one (.own h)),some lo,none=>(rowOf h s.chs).bind fun r=>(td tt E').bind fun e=>bR (Nat.beq e.n r.t.size) ((asI s lo).bind fun m=>(chk (0<=m/\m<=(r.xs.length:Int))).bind fun _=>newRow s k r.E r.t [r.ent h] r.rest (r.xs.drop m.toNat))
 | _,_,_,_=>none
def Mw (T:TypeId) (x:Operand) (lo hi:Option Operand):Option Y:=(td tt T).bind fun d=>match d.el,opd s x,lo,hi with
 | some E',some (.one (.own h)),some lo,none=>(rowOf h s.chs).bind fun r=>(td tt E').bind fun e=>bR (Nat.beq e.n r.t.size) ((asI s lo).bind fun m=>(chk (0<=m/\m<=(r.xs.length:Int))).bind fun _=>k ⟨[r.ent h],[],r.rest,[],.sub h r.ver r.E r.t r.xs m⟩)
 | _,_,_,_=>none
def Mx (T:TypeId) (x:Operand) (lo hi:Option Operand):Option Y:=(td tt T).bind fun d=>match d.el,opd s x,lo,hi with
 | some E',some (.one (.own h)),none,some hi=>(rowOf h s.chs).bind fun r=>(td tt E').bind fun e=>bR (Nat.beq e.n r.t.size) ((asI s hi).bind fun m=>(chk (0<=m/\m<=(r.xs.length:Int))).bind fun _=>k ⟨[r.ent h],[],r.rest,[],.pre h r.ver r.E r.t r.xs m⟩)
 | _,_,_,_=>none
structure Src0 where
 h:Hdr
 sub:Bool
 ver:Nat
 lo:Int
def RV:AV->Option Src0
 | .one (.own h)=>some ⟨h,false,0,0⟩
 | .sub h ver _ _ _ l=>some ⟨h,true,ver,l⟩
 | _=>none
def RW (h:Hdr) (ver:Nat) (E:TypeId) (k1:IntKind) (xs:List Int) (rest:List Ent) (lo:Int) (y:AV):Option Y:=match y with
 | .one (.rd _ (.sl _ (.int k2)) ys)=>bR (k1==k2) ((chk (0<=lo/\lo<=(xs.length:Int))).bind fun _=>k ⟨[],[(h,ver,.own (.sl E (.int k1)) xs)],rest,[(h,.own (.sl E (.int k1)) (Eb xs lo.toNat ys))],.one (.val (.int .i64 ((min ys.length (xs.length - lo.toNat):Nat):Int)))⟩)
 | .pre h2 v2 _ _ _ hi=>bR (Hdr.beq h2 h&&Nat.beq v2 ver) ((chk (0<=lo/\lo<=(xs.length:Int))).bind fun _=>(chk (0<=hi/\hi<=(xs.length:Int))).bind fun _=>k ⟨[],[(h,ver,.own (.sl E (.int k1)) xs)],rest,[(h,.own (.sl E (.int k1)) (Eb xs lo.toNat (xs.take hi.toNat)))],.one (.val (.int .i64 ((min (xs.take hi.toNat).length (xs.length - lo.toNat):Nat):Int)))⟩)
 | _=>none
def GK (r:Row):Option ((k:IntKind)×List Int):=match r.t,r.xs with
 | .int k,xs=>some ⟨k,xs⟩
 | _,_=>none
def V3 (T:TypeId) (x y:Operand):Option Y:=(td tt T).bind fun d=>d.el.bind fun E=>(td tt E).bind fun e=>bR (Nat.beq e.n 1) ((opd s x).bind fun xv=>(RV xv).bind fun c=>(rowOf c.h s.chs).bind fun r=>bR (Nat.beq r.E E&&(!c.sub || Nat.beq c.ver r.ver)) ((GK r).bind fun q=>(opd s y).bind fun yv=>RW k c.h r.ver r.E q.1 q.2 r.rest c.lo yv))
def My (E b:Nat) (x:Operand):Option Y:=match opd s x with
 | some (.sub h ver E' t xs l)=>(rowOf h s.chs).bind fun r=>bR (Nat.beq r.ver ver&&(t.sh&&Nat.beq t.size 1)) ((cd b [] (xs.drop l.toNat)).bind fun zs=>k ⟨[r.ent h],[],r.rest,[(⟨s.nxt,[]⟩,.own (.sl E t) zs)],.one (.own ⟨s.nxt,[]⟩)⟩)
 | some (.one (.own h))=>(rowOf h s.chs).bind fun r=>bR (r.t.sh&&Nat.beq r.t.size 1) ((cd b [] r.xs).bind fun zs=>k ⟨[r.ent h],[],r.rest,[(⟨s.nxt,[]⟩,.own (.sl E r.t) zs)],.one (.own ⟨s.nxt,[]⟩)⟩)
 | some (.one (.rd h (.sl E' t) xs))=>bR (t.sh&&Nat.beq t.size 1) ((cd b [] xs).bind fun zs=>newRow s k E t [] s.chs zs)
 | _=>none
end
section
variable {Y:Type} {tt:TT} {s:Sg} {k:Res->Option Y} {P:Program} {w0:World} {o:Oper} {res:Y} {x y:Operand}
theorem PI {av:AV} {fact:Hp->Th->Value->Prop} (hop: ∀J θ,Fine P w0 J θ s->OpT P J w0 o (evL (envL θ s)) [] (fact J θ) (fun _=>[])) (hok: ∀J θ v,Fine P w0 J θ s->fact J θ v->av.ok P w0 J (upd θ s.nxt v) (s.nxt+1) s.chs/\av.v (upd θ s.nxt v)=v):Good P w0 s o (Res.pure s av):=
 ⟨List.Perm.refl _,fun _ _ _ g hg=>(by cases hg),fun J θ hf=>OpT.weak (hop J θ hf) (fun v hv=>by
  obtain ⟨h1,h2⟩:=hok J θ v hf hv
  exact ⟨h1,h2,fun g hg=>by cases hg⟩) (fun v hv=>rfl)⟩
theorem PJ (ho:o.op= .nilCheck x) (h:T2 s k x=some res):Oks P w0 s o k res:=by
 unfold T2 at h
 split at h
 ·rename_i hh off hx
  exact ⟨_,h,eF (fun J θ hf=>IE ho (aF hx)) fun J θ hf=>bO hf hx⟩
 ·rename_i hh T E t d hx
  obtain ⟨p,hp,h⟩:=bind_some h
  refine ⟨_,h,eF (fun J θ hf=>?_) fun J θ hf=>bO hf hx⟩
  have hxo:(hh.id<s.nxt/\(Ty.tree T E t).rep.rd J [hv θ hh] d):=bO hf hx
  obtain ⟨b,e,-⟩:=If (E:=E) hxo.2 hp
  have hev:evL (envL θ s) x= .pointer (some ⟨b,0,none⟩):=(aF hx).trans e
  have:=IE (P:=P) (I:=J) (w0:=w0) ho hev
  rwa [<-hev,aF (θ:=θ) hx] at this
 ·cases h
theorem T3 {T U:TypeId} (ho:o.op= .call { callee:=.builtin .min,args:= #[x,y],argTypes:= #[T,U] }) (h:XQ s k x y=some res):Oks P w0 s o k res:=by
 unfold XQ at h
 split at h
 ·rename_i m n hx hy
  exact jT h rfl fun J θ hf=>T0 ho (aF hx) (aF hy)
 ·cases h
theorem T4 {T U:TypeId} (ho:o.op= .call { callee:=.builtin .max,args:= #[x,y],argTypes:= #[T,U] }) (h:XR s k x y=some res):Oks P w0 s o k res:=by
 unfold XR at h
 split at h
 ·rename_i m n hx hy
  exact jT h rfl fun J θ hf=>T1 ho (aF hx) (aF hy)
 ·cases h
theorem Mz (hT:TTok P tt) {b:BinOp} {t u:TypeId} (ho:o.op= .binOp b t x y u) (h:XS tt s k b t x y=some res):Oks P w0 s o k res:=by
 obtain ⟨q,hq,h⟩:=bind_some h
 obtain ⟨e,he,h⟩:=bind_some h
 have hpt:=(hT.get hq).pt e he
 split at h
 ·rename_i hh T' E t' d v hx hy
  obtain ⟨hn,h⟩:=aj h
  have hn:=yZ hn
  subst hn
  have key: ∀J θ,Fine P w0 J θ s-> ∃a:Option Addr,evL (envL θ s) x= .pointer a/\a.isNone=d.isNil:=fun J θ hf=>by
   have hxo:(hh.id<s.nxt/\(Ty.tree T' E t').rep.rd J [hv θ hh] d):=bO hf hx
   obtain ⟨a,e1,e2⟩:=Pg hxo.2
   exact ⟨a,(aF hx).trans e1,e2⟩
  split at h
  ·refine jT h rfl fun J θ hf=>?_
   obtain ⟨a,e1,e2⟩:=key J θ hf
   rw[<-e2]
   exact Mq hpt ho e1 (aF hy)
  ·refine ⟨_,h,eF (fun J θ hf=>?_) fun _ _ _=>trivial⟩
   obtain ⟨a,e1,e2⟩:=key J θ hf
   show OpT P J w0 o _ [] (· = .bool (!d.isNil)) _
   rw[<-e2]
   exact Mr hpt ho e1 (aF hy)
  ·cases h
 ·rename_i hh off v hx hy
  obtain ⟨hn,h⟩:=aj h
  have hn:=yZ hn
  subst hn
  split at h
  ·exact jT h rfl fun J θ hf=>Mq hpt ho (aF hx) (aF hy)
  ·exact jT h rfl fun J θ hf=>Mr hpt ho (aF hx) (aF hy)
  ·cases h
 ·cases h
theorem GL (hT:TTok P tt) {b:BinOp} {t u:TypeId} (ho:o.op= .binOp b t x y u) (h:Xh tt s k b t x y=some res):Oks P w0 s o k res:=by
 obtain ⟨q,hq,h⟩:=bind_some h
 obtain ⟨e,he,h⟩:=bind_some h
 have hel:=(hT.get hq).el e he
 split at h
 ·rename_i hh b' E t' d v hx hy _ _
  obtain ⟨hn,h⟩:=aj h
  have hn:=mz hn
  subst hn
  refine jT h rfl fun J θ hf=>?_
  have hxo:(hh.id<s.nxt/\(Ty.sl E t').rep.rd J [hv θ hh] d/\BN (hv θ hh)=b'):=bO hf hx
  obtain ⟨h1,⟨ao,cap,h2,-⟩,h3⟩:=hxo
  have h2:hv θ hh= .slice ao d.length cap:=by simpa using h2
  rw[h2] at h3
  rw[<-h3]
  exact GJ hel ho ((aF hx).trans h2) (aF hy)
 ·rename_i hh v hx hy _ _
  obtain ⟨hn,h⟩:=aj h
  have hn:=mz hn
  subst hn
  obtain ⟨r,hr,h⟩:=bind_some h
  obtain ⟨u0,hc,h⟩:=bind_some h
  have hc:=bw hc
  obtain ⟨hp,-⟩:=bK hr
  refine ⟨_,h,mZ hp,aQ rfl,fun J θ hf=>OpT.weak (tW (fact:=(· = .bool false)) fun hD=>?_) (fun u hu=>?_) (fun u hu=>rfl)⟩
  ·obtain ⟨ao,cap,e1,e2,e3⟩:=hD
   obtain ⟨bb,off,rfl⟩:=e2 (by omega)
   exact GJ hel ho ((aF hx).trans e1) (aF hy)
  ·subst hu
   exact ⟨Eq.refl true,rfl,fun g hg=>by cases hg⟩
 ·rename_i u v hx hy _ _
  obtain ⟨hn,h⟩:=aj h
  rw[ak] at hn
  have hv:=mz hn.1
  have hu:=mz hn.2
  subst hv
  subst hu
  exact jT h rfl fun J θ hf=>GJ hel ho (aF hx) (aF hy)
 ·cases h
theorem JU (hT:TTok P tt) {T:TypeId} {f:Nat} (ho:o.op= .fieldAddr T x f) (h:Ms tt s k T x f=some res):Oks P w0 s o k res:=by
 obtain ⟨d,hd,h⟩:=bind_some h
 obtain ⟨q,hq,h⟩:=bind_some h
 split at h
 ·rename_i hh T' E t a hx
  obtain ⟨p,hp,h⟩:=bind_some h
  have hfl:=(hT.get hd).fld f q hq
  have key: ∀J θ,Fine P w0 J θ s->hh.id<s.nxt/\ ∃b,hv θ hh= .pointer (some ⟨b,0,none⟩)/\ ∃cells:List Value,J b=some (.cells cells.toArray T' (0,0))/\(Ty.prod t (.sl E (.tree T' E t))).rep.rd J cells p:=fun J θ hf=>by
   have hxo:(hh.id<s.nxt/\(Ty.tree T' E t).rep.rd J [hv θ hh] a):=bO hf hx
   obtain ⟨b,e,cells,k1,k2⟩:=If (E:=E) hxo.2 hp
   exact ⟨hxo.1,b,e,cells,k1,k2⟩
  refine ⟨_,h,eF (fun J θ hf=>?_) fun J θ hf=>?_⟩
  ·obtain ⟨-,b,e,-⟩:=key J θ hf
   have hev:evL (envL θ s) x= .pointer (some ⟨b,0,none⟩):=(aF hx).trans e
   have:=lf (P:=P) (I:=J) (w0:=w0) hfl ho hev
   rw[Nat.zero_add] at this
   show OpT P J w0 o _ [] (· = .pointer (some ⟨bk (hv θ hh),q.1,none⟩)) _
   rw[e]
   exact this
  ·obtain ⟨h1,b,e,cells,k1,k2⟩:=key J θ hf
   exact ⟨h1,cells,by rw[e];exact k1,k2⟩
 ·cases h
theorem T5 {r:Hdr×(E:TypeId)×(t:Ty)×List t.den} (h:XT s x=some r):opd s x=some (.one (.rd r.1 (.sl r.2.1 r.2.2.1) r.2.2.2)):=by
 unfold XT at h
 split at h
 ·rename_i hx
  obtain rfl:=ae h
  exact hx
 ·cases h
theorem nc {m:Int} (h:asI s x=some m) (θ:Th):evL (envL θ s) x= .int .i64 m:=by
 unfold asI at h
 split at h
 ·rename_i hx
  obtain rfl:=ae h
  exact aF hx
 ·cases h
theorem C5 {E:TypeId} {t:Ty} {xs:List t.den} (h:PH s k E t xs=some res) (hop: ∀J θ,Fine P w0 J θ s->OpT P J w0 o (evL (envL θ s)) [] (fun v=>(Ty.sl E t).rep.rd J [v] xs) (fun _=>[])):Oks P w0 s o k res:=
 ⟨_,h,PI (fact:=fun J θ v=>(Ty.sl E t).rep.rd J [v] xs) hop fun J θ v hf hv'=>⟨⟨ax _,by rw[de];exact hv'⟩,de⟩⟩
theorem JV (hT:TTok P tt) {T:TypeId} {lo hi:Option Operand} (ho:o.op= .slice T x lo hi none) (h:Mt tt s k T x lo hi=some res):Oks P w0 s o k res:=by
 obtain ⟨d,hd,h⟩:=bind_some h
 obtain ⟨E',hE,h⟩:=bind_some h
 obtain ⟨e,he,h⟩:=bind_some h
 obtain ⟨⟨hh,E,t,xs⟩,hr,h⟩:=bind_some h
 have hx:=T5 hr
 obtain ⟨hn,h⟩:=aj h
 have hn:e.n=t.size:=au hn
 have hdE:=(hT.get hd).el E' hE
 have hti:=(hT.get he).ti
 have key: ∀J θ,Fine P w0 J θ s->(af E t.rep).rd J [hv θ hh] xs:=fun J θ hf=>(bO hf hx).2
 have hsz:t.rep.size=e.n:=t.rep_size.trans hn.symm
 split at h
 ·rename_i l
  obtain ⟨m,hm,h⟩:=bind_some h
  obtain ⟨u,hc,h⟩:=bind_some h
  have hc:=bw hc
  refine C5 h fun J θ hf=>OpT.weak (tU hdE hti (Hd.of_rd (key J θ hf)) ho (aF hx) (nc hm θ) hc) (fun v hv'=>?_) (fun v hv'=>rfl)
  subst hv'
  exact Ie (key J θ hf) (by simp only at hc⊢;omega) hsz
 ·rename_i hi
  obtain ⟨m,hm,h⟩:=bind_some h
  obtain ⟨u,hc,h⟩:=bind_some h
  have hc:=bw hc
  refine C5 h fun J θ hf=>OpT.weak (tV hdE hti (Hd.of_rd (key J θ hf)) ho (aF hx) (nc hm θ) hc) (fun v hv'=>?_) (fun v hv'=>rfl)
  subst hv'
  exact Pc (key J θ hf) (by simp only at hc⊢;omega) hsz
 ·rename_i l hi
  obtain ⟨m,hm,h⟩:=bind_some h
  obtain ⟨m2,hm2,h⟩:=bind_some h
  obtain ⟨u,hc,h⟩:=bind_some h
  have hc:=bw hc
  refine C5 h fun J θ hf=>OpT.weak (El hdE hti (Hd.of_rd (key J θ hf)) ho (aF hx) (nc hm θ) (nc hm2 θ) hc) (fun v hv'=>?_) (fun v hv'=>rfl)
  subst hv'
  exact Ic (key J θ hf) (by simp only at hc⊢;omega) (by simp only at hc⊢;omega) hsz
 ·cases h
theorem PK {α:Type} {E:TypeId} {R:Rep α} {I:Hp} {w:World} {C:List Ch} {v:Value} {xs:List α} {m n:Nat} (h:St I w0 w (Ch.own (af E R) [v] xs::C)) (hm:m<=xs.length) (hn:R.size=n):St I w0 w (Ch.own (af E R) [pJ v m xs.length n] (xs.drop m)::C):=by
 obtain ⟨h1,h2,F,⟨G,K,rfl,k,e⟩,h4,h5⟩:=h
 obtain ⟨hl,k⟩:=k
 have hlen:(xs.drop m).length=xs.length - m:=aR
 rcases k with ⟨hv',rfl,rfl⟩ | ⟨g,ofs,cap,cur,K1,hv',k1,k2,k3,k4,rfl,k5⟩
 ·obtain rfl:v= .slice none 0 0:=by simpa using hv'
  obtain rfl:m=0:=by simpa using hm
  refine ⟨h1,h2,[] ++K,⟨[],K,rfl,⟨by simp,.inl ⟨?_,rfl,rfl⟩⟩,e⟩,h4,h5⟩
  simp[pJ,sliced]
 ·obtain rfl:v= .slice (some ⟨g,ofs,none⟩) xs.length cap:=by simpa using hv'
  have hk5:=k5
  rw[<-List.take_append_drop m xs] at k5
  obtain ⟨c1,c2,G1,G2,f1,f2,rfl,-,q1⟩:=k5.cut2
  have hp:((g::(G1++G2))++K).Perm (((g::G2)++K)++G1):=by
   rw[ai]
   show (g::((G1++G2)++K)).Perm (g::(G2++(K++G1)))
   have:((G1++G2)++K).Perm (G2++(K++G1)):=by
    rw[ai,<-ai G2 K G1];exact List.perm_append_comm
   exact this.cons g
  have hdr:cur.toList.drop (ofs+m*R.size)=c2:=by
   rw[<-List.drop_drop,f1]
   have:(xs.take m).length=m:=by rw[aA];omega
   rw[this] at f2
   exact List.drop_left' f2
  by_cases hc:cap=m
  ·have hx0:xs.drop m= []:=List.eq_nil_of_length_eq_zero (by omega)
   rw[hx0] at q1
   obtain rfl:G2= []:=q1
   refine ⟨h1,h2,(g:: [])++K,⟨g:: [],K,rfl,⟨by rw[hlen];omega,.inr ⟨g,ofs,0,cur,[],?_,k1,by rw[hlen];omega,Nat.zero_le _,by omega,rfl,by rw[hx0];rfl⟩⟩,e⟩,(List.nodup_append.1 (hp.nodup_iff.1 h4)).1,fun b hb=>h5 b (hp.mem_iff.2 (aU _ hb))⟩
   rw[hlen]
   simp[pJ,sliced,hc]
  ·refine ⟨h1,h2,(g::G2)++K,⟨g::G2,K,rfl,⟨by rw[hlen];omega,.inr ⟨g,ofs+m*R.size,cap - m,cur,G2,?_,k1,by rw[hlen];omega,by omega,?_,rfl,by rw[hdr];exact q1⟩⟩,e⟩,(List.nodup_append.1 (hp.nodup_iff.1 h4)).1,fun b hb=>h5 b (hp.mem_iff.2 (aU _ hb))⟩
   ·rw[hlen,hn]
    simp[pJ,sliced,Addr.add_mid,hc]
   ·have:m*R.size+(cap - m)*R.size=cap*R.size:=by rw[<-Nat.add_mul];congr 1;omega
    omega
theorem PL {α:Type} {E:TypeId} {R:Rep α} {I:Hp} {w:World} {C:List Ch} {v:Value} {xs:List α} {m n:Nat} (h:St I w0 w (Ch.own (af E R) [v] xs::C)) (hm:m<=xs.length) (hn:R.size=n):St I w0 w (Ch.own (af E R) [pJ v 0 m n] (xs.take m)::C):=by
 obtain ⟨h1,h2,F,⟨G,K,rfl,k,e⟩,h4,h5⟩:=h
 obtain ⟨hl,k⟩:=k
 have hlen:(xs.take m).length=m:=by rw[aA];omega
 rcases k with ⟨hv',rfl,rfl⟩ | ⟨g,ofs,cap,cur,K1,hv',k1,k2,k3,k4,rfl,k5⟩
 ·obtain rfl:v= .slice none 0 0:=by simpa using hv'
  obtain rfl:m=0:=by simpa using hm
  refine ⟨h1,h2,[] ++K,⟨[],K,rfl,⟨by simp,.inl ⟨?_,rfl,rfl⟩⟩,e⟩,h4,h5⟩
  simp[pJ,sliced]
 ·obtain rfl:v= .slice (some ⟨g,ofs,none⟩) xs.length cap:=by simpa using hv'
  rw[<-List.take_append_drop m xs] at k5
  obtain ⟨G1,G2,rfl,q1,-⟩:=k5.parts
  have hp:((g::(G1++G2))++K).Perm (((g::G1)++K)++G2):=by
   rw[ai]
   show (g::((G1++G2)++K)).Perm (g::(G1++(K++G2)))
   rw[ai]
   exact (List.perm_append_comm.append_left G1).cons g
  refine ⟨h1,h2,(g::G1)++K,⟨g::G1,K,rfl,⟨by rw[hlen];omega,.inr ⟨g,ofs,cap,cur,G1,?_,k1,by rw[hlen];omega,k3,k4,rfl,q1⟩⟩,e⟩,(List.nodup_append.1 (hp.nodup_iff.1 h4)).1,fun b hb=>h5 b (hp.mem_iff.2 (aU _ hb))⟩
  rw[hlen]
  simp[pJ,sliced,Addr.add]
theorem JW (hT:TTok P tt) {T:TypeId} {lo hi:Option Operand} (ho:o.op= .slice T x lo hi none) (h:Mu tt s k T x lo hi=some res):Oks P w0 s o k res:=by
 obtain ⟨d,hd,h⟩:=bind_some h
 split at h
 ·rename_i E' hh hi' he hx _
  obtain ⟨r,hr,h⟩:=bind_some h
  obtain ⟨e,hE,h⟩:=bind_some h
  obtain ⟨hn,h⟩:=aj h
  have hn:e.n=r.t.size:=au hn
  obtain ⟨m,hm,h⟩:=bind_some h
  obtain ⟨u,hc,h⟩:=bind_some h
  have hc:=bw hc
  obtain ⟨hp,-⟩:=bK hr
  have hsz:r.t.rep.size=e.n:=r.t.rep_size.trans hn.symm
  refine ⟨_,h,good_row (rs:=[]) (Be hp) fun J θ hf=>?_⟩
  have h1:OpT P J w0 o (evL (envL θ s)) [Ch.own (af r.E r.t.rep) [hv θ hh] r.xs] (· =pJ (hv θ hh) 0 m.toNat e.n) (fun _=>[Ch.own (af r.E r.t.rep) [hv θ hh] r.xs]):=tW fun hD=>tV ((hT.get hd).el _ he) (hT.get hE).ti hD ho (aF hx) (nc hm θ) hc
  refine OpT.post h1 fun v w C hv' hs=>⟨trivial,?_⟩
  subst hv'
  exact PL hs (by omega) hsz
 ·cases h
theorem JX (hT:TTok P tt) {T:TypeId} {lo hi:Option Operand} (ho:o.op= .slice T x lo hi none) (h:Mv tt s k T x lo hi=some res):Oks P w0 s o k res:=by
 obtain ⟨d,hd,h⟩:=bind_some h
 split at h
 ·rename_i E' hh lo' he hx _
  obtain ⟨r,hr,h⟩:=bind_some h
  obtain ⟨e,hE,h⟩:=bind_some h
  obtain ⟨hn,h⟩:=aj h
  have hn:e.n=r.t.size:=au hn
  obtain ⟨m,hm,h⟩:=bind_some h
  obtain ⟨u,hc,h⟩:=bind_some h
  have hc:=bw hc
  obtain ⟨hp,-⟩:=bK hr
  have hsz:r.t.rep.size=e.n:=r.t.rep_size.trans hn.symm
  refine ⟨_,h,good_row (rs:=[]) (Be hp) fun J θ hf=>?_⟩
  have h1:OpT P J w0 o (evL (envL θ s)) [Ch.own (af r.E r.t.rep) [hv θ hh] r.xs] (· =pJ (hv θ hh) m.toNat r.xs.length e.n) (fun _=>[Ch.own (af r.E r.t.rep) [hv θ hh] r.xs]):=tW fun hD=>tU ((hT.get hd).el _ he) (hT.get hE).ti hD ho (aF hx) (nc hm θ) hc
  refine OpT.post h1 fun v w C hv' hs=>⟨trivial,?_⟩
  subst hv'
  exact PK hs (by omega) hsz
 ·cases h
theorem MA {h:Hdr} {ver:Nat} {E:TypeId} {t:Ty} {xs:List t.den} {l:Int} {J:Hp} {θ:Th} {r:Row} (hr:rowOf h s.chs=some r) (hv:r.ver=ver) (hm:AV.ok P w0 J θ s.nxt s.chs (.sub h ver E t xs l)):r.ent h=(h,ver,.own (.sl E t) xs):=by
 obtain ⟨hp,-⟩:=bK hr
 have:=hm.2.2.2 (r.ent h) (hp.mem_iff.2 (by simp)) _ ⟨rfl,.inl ⟨hv,rfl⟩⟩
 show (h,r.ver,Chk.own (.sl r.E r.t) r.xs)=_
 rw[hv,show Chk.own (.sl r.E r.t) r.xs=_ from this]
theorem JY (hT:TTok P tt) {T:TypeId} {lo hi:Option Operand} (ho:o.op= .slice T x lo hi none) (h:Mw tt s k T x lo hi=some res):Oks P w0 s o k res:=by
 obtain ⟨d,hd,h⟩:=bind_some h
 split at h
 ·rename_i E' hh lo' he hx _
  obtain ⟨r,hr,h⟩:=bind_some h
  obtain ⟨e,hE,h⟩:=bind_some h
  obtain ⟨hn,h⟩:=aj h
  have hn:e.n=r.t.size:=au hn
  obtain ⟨m,hm,h⟩:=bind_some h
  obtain ⟨u,hc,h⟩:=bind_some h
  have hc:=bw hc
  obtain ⟨hp,-⟩:=bK hr
  refine ⟨_,h,mZ hp,aQ rfl,fun J θ hf=>OpT.weak (tW (fact:=(· =pJ (hv θ hh) m.toNat r.xs.length e.n)) fun hD=>tU ((hT.get hd).el _ he) (hT.get hE).ti hD ho (aF hx) (nc hm θ) hc) (fun u hu=>?_) (fun u hu=>rfl)⟩
  have hok:=jG hf hp
  refine ⟨⟨aV hok.1,hc,(uZ hr hok.2.1).newer (Res.newer (mZ hp) (aQ rfl J θ hf)) (Nat.le_succ _)⟩,?_,fun g hg=>by cases hg⟩
  rw[hu,hn]
  show pJ (hv (upd θ s.nxt _) hh) _ _ _=pJ (hv θ hh) _ _ _
  rw[show hv (upd θ s.nxt _) hh=hv θ hh from aZ Same.upd hok.1]
 ·cases h
theorem JZ (hT:TTok P tt) {T:TypeId} {lo hi:Option Operand} (ho:o.op= .slice T x lo hi none) (h:Mx tt s k T x lo hi=some res):Oks P w0 s o k res:=by
 obtain ⟨d,hd,h⟩:=bind_some h
 split at h
 ·rename_i E' hh hi' he hx _
  obtain ⟨r,hr,h⟩:=bind_some h
  obtain ⟨e,hE,h⟩:=bind_some h
  obtain ⟨hn,h⟩:=aj h
  have hn:e.n=r.t.size:=au hn
  obtain ⟨m,hm,h⟩:=bind_some h
  obtain ⟨u,hc,h⟩:=bind_some h
  have hc:=bw hc
  obtain ⟨hp,-⟩:=bK hr
  refine ⟨_,h,mZ hp,aQ rfl,fun J θ hf=>OpT.weak (tW (fact:=(· =pJ (hv θ hh) 0 m.toNat e.n)) fun hD=>tV ((hT.get hd).el _ he) (hT.get hE).ti hD ho (aF hx) (nc hm θ) hc) (fun u hu=>?_) (fun u hu=>rfl)⟩
  have hok:=jG hf hp
  refine ⟨⟨aV hok.1,hc,(uZ hr hok.2.1).newer (Res.newer (mZ hp) (aQ rfl J θ hf)) (Nat.le_succ _)⟩,?_,fun g hg=>by cases hg⟩
  rw[hu,hn]
  show pJ (hv (upd θ s.nxt _) hh) _ _ _=pJ (hv θ hh) _ _ _
  rw[show hv (upd θ s.nxt _) hh=hv θ hh from aZ Same.upd hok.1]
 ·cases h
theorem IF {e:Ent} {rest:List Ent} {t:Ty} {d:t.den} {v:Value} (hp:s.chs.Perm (e::rest)) (h1:v.oneCell'=true) (hop: ∀J θ,Fine P w0 J θ s->OpT P J w0 o (evL (envL θ s)) [toCh P θ e] (· =v) (fun _=>[Ch.own t.rep [hv θ e.1] d])):Good P w0 s o ⟨[],[e],rest,[(e.1,.own t d)],.one (.val v)⟩:=by
 refine ⟨Be hp,aQ rfl,fun J θ hf=>OpT.weak (hop J θ hf) (fun u hu=>?_) (fun u hu=>?_)⟩
 ·have hok:=jG hf hp
  refine ⟨h1,hu.symm,fun g hg=>?_⟩
  obtain rfl:=aq hg
  exact ⟨aV hok.1,ax _,trivial⟩
 ·have hok:=jG hf hp
  show [Ch.own t.rep [hv θ e.1] d] = [Ch.own t.rep [hv (upd θ s.nxt u) e.1] d]
  rw[show hv (upd θ s.nxt u) e.1=hv θ e.1 from aZ Same.upd hok.1]
theorem GM {r:Row} {q:(k:IntKind)×List Int} {h:Hdr} (hq:GK r=some q):r.ent h=(h,r.ver,.own (.sl r.E (.int q.1)) q.2):=by
 obtain ⟨ver,E,t,xs,rest⟩:=r
 unfold GK at hq
 split at hq
 ·rename_i k xs' h1 h2
  obtain rfl:=ae hq
  subst h1
  obtain rfl:=eq_of_heq h2
  rfl
 ·cases hq
theorem PN (hT:TTok P tt) {T U:TypeId} (ho:o.op= .call { callee:=.builtin .copy,args:= #[x,y],argTypes:= #[T,U] }) (h:V3 tt s k T x y=some res):Oks P w0 s o k res:=by
 obtain ⟨d,hd,h⟩:=bind_some h
 obtain ⟨E,hE,h⟩:=bind_some h
 obtain ⟨e,he,h⟩:=bind_some h
 obtain ⟨hn,h⟩:=aj h
 have hn:e.n=1:=au hn
 obtain ⟨xv,hx,h⟩:=bind_some h
 obtain ⟨c,hc,h⟩:=bind_some h
 obtain ⟨r,hr,h⟩:=bind_some h
 obtain ⟨hver,h⟩:=aj h
 rw[ak] at hver
 have hrE:r.E=E:=au hver.1
 obtain ⟨q,hq,h⟩:=bind_some h
 obtain ⟨yv,hy,h⟩:=bind_some h
 obtain ⟨hp,-⟩:=bK hr
 have hent:=GM (h:=c.h) hq
 rw[hent,hrE] at hp
 have hTe:=(hT.get hd).el E hE
 have hsz:(P.info? E).map (·.size)=some 1:=by have:=(hT.get he).ti;rw[hn] at this;exact VN this
 have hto: ∀J θ,Fine P w0 J θ s->(evL (envL θ s) x=hv θ c.h/\c.lo.toNat=0)\/evL (envL θ s) x=pJ (hv θ c.h) c.lo.toNat q.2.length 1:=by
  intro J θ hf
  unfold RV at hc
  split at hc
  ·obtain rfl:=ae hc
   exact .inl ⟨aF hx,rfl⟩
  ·rename_i hh ver' E' t' xs' l
   obtain rfl:=ae hc
   have hv2:ver'=r.ver:=au (by simpa using hver.2)
   have h1:=MA hr hv2.symm (bO hf hx)
   rw[hent] at h1
   have h2:(Chk.own (.sl r.E (.int q.1)) q.2)=Chk.own (.sl E' t') xs':=(Prod.mk.inj (Prod.mk.inj h1).2).2
   injection h2 with h3 h4
   injection h3 with h5 h6
   subst h6
   obtain rfl:=eq_of_heq h4
   right
   rw[aF (θ:=θ) hx]
   rfl
  ·cases hc
 unfold RW at h
 split at h
 ·rename_i hh E' k2 ys
  obtain ⟨hk,h⟩:=aj h
  have hk:q.1=k2:=by simpa using hk
  subst hk
  obtain ⟨u,hlo,h⟩:=bind_some h
  have hlo:=bw hlo
  rw[hrE] at h
  refine ⟨_,h,IF (e:=(c.h,r.ver,.own (.sl E (.int q.1)) q.2)) hp rfl fun J θ hf=>?_⟩
  have l1:c.lo.toNat<=q.2.length:=by omega
  exact Gp (lo:=c.lo.toNat) (bO hf hy).2 hTe hsz ho rfl (aF hy) l1 (hto J θ hf)
 ·rename_i h2 v2 E' t' xs' hi
  obtain ⟨hk,h9⟩:=aj h
  clear h
  rw[ak] at hk
  have e1:=Hdr.beq_eq hk.1
  subst e1
  have e2:v2=r.ver:=au hk.2
  subst e2
  obtain ⟨u,hlo,h9⟩:=bind_some h9
  have hlo:=bw hlo
  obtain ⟨u,hhi,h9⟩:=bind_some h9
  have hhi:=bw hhi
  have l1:c.lo.toNat<=q.2.length:=by omega
  have l2:hi.toNat<=q.2.length:=by omega
  rw[hrE] at h9
  refine ⟨_,h9,IF (e:=(c.h,r.ver,.own (.sl E (.int q.1)) q.2)) hp rfl fun J θ hf=>?_⟩
  have hyo:c.h.id<s.nxt/\(0<=hi/\hi<=(xs'.length:Int))/\Mem s.chs s.nxt c.h r.ver (.own (.sl E' t') xs'):=bO hf hy
  have h1:(Chk.own (.sl E (.int q.1)) q.2)=Chk.own (.sl E' t') xs':=hyo.2.2.2 (c.h,r.ver,.own (.sl E (.int q.1)) q.2) (hp.mem_iff.2 (by simp)) _ ⟨rfl,.inl ⟨rfl,rfl⟩⟩
  injection h1 with h3 h4
  injection h3 with h5 h6
  subst h6
  obtain rfl:=eq_of_heq h4
  exact CJ (lo:=c.lo.toNat) (hi:=hi.toNat) hTe hsz ho rfl ((aF hy).trans rfl) l1 l2 (hto J θ hf)
 ·cases h
inductive All2 {α β:Type} (p:α->β->Prop):List α->List β->Prop
 | nil:All2 p [] []
 | cons {a:α} {b:β} {l:List α} {m:List β} (h:p a b) (k:All2 p l m):All2 p (a::l) (b::m)
theorem All2.length_eq {α β:Type} {p:α->β->Prop} {l:List α} {m:List β} (h:All2 p l m):l.length=m.length:=by
 induction h with
 | nil=>rfl
 | cons _ _ ih=>rw[al,al,ih]
theorem MB {α:Type} {R:Rep α} (hR:R.Sh) (h1:R.size=1) {I:Hp} {w:World} : ∀ {xs:List α} {cur:List Value} {K:List Nat},OwnEls R I w cur xs K-> ∃ps:List Raw,K= [] /\OwnEls F8 I w cur ps [] /\All2 (fun p x=>R.rd I [p.1] x) ps xs
 | [],cur,K,h=>⟨[],h,rfl,.nil⟩
 | x::xs,cur,K,⟨c,rest,G,K1,e1,e2,e3,e4,e5⟩=>by
  obtain ⟨rfl,hrd⟩:=hR e4
  obtain ⟨p,rfl⟩:=List.length_eq_one_iff.1 (e2.trans h1)
  obtain ⟨ps,rfl,k2,k3⟩:=MB hR h1 e5
  exact ⟨⟨p,R.rd_one hrd p (by simp)⟩::ps,e3,⟨[p],rest,[],[],e1,rfl,rfl,⟨rfl,rfl⟩,k2⟩,.cons hrd k3⟩
theorem MC {α:Type} {R:Rep α} (hC:Cpy R R) (h1:R.size=1) {I:Hp} {w:World} : ∀ {xs:List α} {ps:List Raw} {cur:List Value} {K:List Nat},OwnEls F8 I w cur ps K->All2 (fun p x=>R.rd I [p.1] x) ps xs->K= [] /\OwnEls R I w cur xs []
 | [],[],cur,K,h,_=>⟨h,rfl⟩
 | x::xs,p::ps,cur,K,h,hh=>by
  obtain ⟨c,rest,G,K1,e1,e2,e3,e4,e5⟩:=h
  cases hh with
  | cons hp hps =>
   obtain ⟨rfl,e4⟩:=e4
   obtain rfl:c= [p.1]:=e4
   obtain ⟨rfl,k⟩:=MC hC h1 e5 hps
   exact ⟨e3,[p.1],rest,[],[],e1,h1.symm,rfl,hC hp,k⟩
 | [],_::_,_,_,_,hh=>by cases hh
 | _::_,[],_,_,_,hh=>by cases hh
theorem T6 {α:Type} {E:TypeId} {R:Rep α} (hR:R.Sh) (h1:R.size=1) {I:Hp} {w:World} {C:List Ch} {v:Value} {xs:List α} (h:St I w0 w (Ch.own (af E R) [v] xs::C)): ∃ps:List Raw,All2 (fun p x=>R.rd I [p.1] x) ps xs/\St I w0 w (Ch.own (af E F8) [v] ps::C):=by
 obtain ⟨a1,a2,F,⟨G,K,rfl,⟨hl,k⟩,e⟩,a4,a5⟩:=h
 rcases k with ⟨hv',rfl,rfl⟩ | ⟨g,ofs,cap,cur,K1,hv',k1,k2,k3,k4,rfl,k5⟩
 ·exact ⟨[],.nil,a1,a2,[] ++K,⟨[],K,rfl,⟨Nat.zero_le _,.inl ⟨hv',rfl,rfl⟩⟩,e⟩,a4,a5⟩
 ·obtain ⟨ps,rfl,q1,q2⟩:=MB hR h1 k5
  have hlen:=q2.length_eq
  exact ⟨ps,q2,a1,a2,[g] ++K,⟨[g],K,rfl,⟨by rw[hlen];exact hl,.inr ⟨g,ofs,cap,cur,[],by rw[hlen];exact hv',k1,by rw[hlen];exact k2,k3,by rw[h1] at k4;exact k4,rfl,q1⟩⟩,e⟩,a4,a5⟩
theorem GN {α:Type} {E:TypeId} {R:Rep α} (hC:Cpy R R) (h1:R.size=1) {I:Hp} {w:World} {C:List Ch} {v:Value} {xs:List α} {ps:List Raw} (hp:All2 (fun p x=>R.rd I [p.1] x) ps xs) (h:St I w0 w (Ch.own (af E F8) [v] ps::C)):St I w0 w (Ch.own (af E R) [v] xs::C):=by
 obtain ⟨a1,a2,F,⟨G,K,rfl,⟨hl,k⟩,e⟩,a4,a5⟩:=h
 have hlen:=hp.length_eq
 rcases k with ⟨hv',rfl,rfl⟩ | ⟨g,ofs,cap,cur,K1,hv',k1,k2,k3,k4,rfl,k5⟩
 ·cases hp
  exact ⟨a1,a2,[] ++K,⟨[],K,rfl,⟨Nat.zero_le _,.inl ⟨hv',rfl,rfl⟩⟩,e⟩,a4,a5⟩
 ·obtain ⟨rfl,q1⟩:=MC hC h1 k5 hp
  exact ⟨a1,a2,[g] ++K,⟨[g],K,rfl,⟨by rw[<-hlen];exact hl,.inr ⟨g,ofs,cap,cur,[],by rw[<-hlen];exact hv',k1,by rw[<-hlen];exact k2,k3,by rw[h1];exact k4,rfl,q1⟩⟩,e⟩,a4,a5⟩
theorem V4 {α:Type} {E:TypeId} {R:Rep α} (h1:R.size=1) {I:Hp} {v:Value} {xs:List α} (h:(af E R).rd I [v] xs): ∃ps:List Raw,All2 (fun p x=>R.rd I [p.1] x) ps xs/\(af E F8).rd I [v] ps:=by
 obtain ⟨ao,cap,e,hl,h⟩:=h
 obtain rfl:v= .slice ao xs.length cap:=by simpa using e
 rcases h with rfl | ⟨b,off,ccs,t,fr,rfl,h2,h3⟩
 ·exact ⟨[],.nil,ao,cap,rfl,hl,.inl rfl⟩
 ·have key: ∀(xs:List α) (k0:Nat),(∀i x,xs[i]? =some x-> ∃c:List Value,c.length=R.size/\(∀j,j<R.size->ccs.toList[off+(k0+i)*R.size+j]? =c[j]?)/\R.rd I c x)-> ∃ps:List Raw,All2 (fun p x=>R.rd I [p.1] x) ps xs/\ ∀i p,ps[i]? =some p->ccs.toList[off+(k0+i)]? =some p.1:=by
   intro xs
   induction xs with
   | nil=>intro k0 _;exact ⟨[],.nil,fun i p hp=>by simp at hp⟩
   | cons x xs ih =>
    intro k0 h
    obtain ⟨c,e1,e2,e3⟩:=h 0 x rfl
    obtain ⟨p,rfl⟩:=List.length_eq_one_iff.1 (e1.trans h1)
    obtain ⟨ps,q1,q2⟩:=ih (k0+1) fun i y hy=>by
     have:=h (i+1) y (by simpa using hy)
     rwa [show k0+(i+1)=k0+1+i from by omega] at this
    refine ⟨⟨p,R.rd_one e3 p (by simp)⟩::ps,.cons e3 q1,fun i u hu=>?_⟩
    cases i with
    | zero =>
     obtain rfl:⟨p,R.rd_one e3 p (by simp)⟩=u:=by simpa using hu
     have:=e2 0 (by rw[h1];exact Nat.one_pos)
     rw[h1,Nat.mul_one,Nat.add_zero] at this
     rw[Nat.add_zero] at this⊢
     exact this
    | succ i =>
     have:=q2 i u (by simpa using hu)
     rwa [show k0+1+i=k0+(i+1) from by omega] at this
  obtain ⟨ps,q1,q2⟩:=key xs 0 (fun i x hx=>by rw[Nat.zero_add];exact h3 i x hx)
  have hlen:=q1.length_eq
  refine ⟨ps,q1,_,cap,by rw[hlen],by rw[hlen];exact hl,.inr ⟨b,off,ccs,t,fr,rfl,h2,fun i p hp=>?_⟩⟩
  have k1:=q2 i p hp
  refine ⟨[p.1],rfl,fun j hj=>?_,rfl⟩
  have hj:j=0:=by have:j<1:=hj;omega
  subst hj
  rw[Nat.zero_add] at k1
  show ccs.toList[off+i*1+0]? =_
  rw[Nat.mul_one,Nat.add_zero]
  exact k1
theorem oe {α β:Type} {p:α->β->Prop} : ∀ {xs:List α} {ys:List β} (n:Nat),All2 p xs ys->All2 p (xs.drop n) (ys.drop n)
 | _,_,0,h=>h
 | _,_,n+1,.nil=>.nil
 | _,_,n+1,.cons _ h=>oe n h
theorem C6 {α:Type} {b:Nat} {xs zs:List α} (h:cd b [] xs=some zs):zs=xs/\(∀ {β:Type} (ys:List β),ys.length=xs.length->cd b [] ys=some ys):=by
 obtain ⟨h1,h2⟩:=uU h
 refine ⟨h1,fun ys hy=>?_⟩
 unfold cd
 rw[if_pos (by rw[hy];exact h2)];rfl
theorem EK {E':TypeId} {α:Type} {R:Rep α} (hR:R.Sh) (hC:Cpy R R) (h1:R.size=1) {kf:FuncId} {E b:Nat} (hcl:wh P kf E b) {xs zs:List α} {l:Nat} (hl:l<=xs.length) (hz:cd b [] (xs.drop l)=some zs) {v u:Value} (hu:u=pJ v l xs.length 1\/(l=0/\u=v)) {ts:Array TypeId} {J:Hp} {θ:Th} (hlay:Lay P J) (ho:o.op= .call { callee:=.value (.func kf),args:= #[x],argTypes:=ts }) {ev:Operand->Value} (hev:ev x=u) (hevf:ev (.func kf)= .func (.func kf) #[] #[]) :
  OpT P J w0 o ev [Ch.own (af E' R) [v] xs] (fun _=>True) (fun r=>[Ch.own (af E' R) [v] xs,Ch.own (af E R) [r] zs]):=by
 obtain ⟨rfl,sY⟩:=C6 hz
 intro w C hs
 obtain ⟨ps,hp,hs1⟩:=T6 hR h1 hs
 have hlen:=hp.length_eq
 have h2:OpT P J w0 o ev ([Ch.own (af E' F8) [v] ps] ++ []) (fun _=>True) (fun r=>[Ch.own (af E' F8) [v] ps] ++ [Ch.own (af E F8) [r] (ps.drop l)]):=by
  refine ve (fun v=>⟨yW (CH VY),trivial⟩) fun J' hJ hrd hbl=>?_
  have hr:=hrd (af E' F8) [v] ps (by simp)
  have hr2:(af E' F8).rd J' [u] (ps.drop l):=by
   rcases hu with rfl | ⟨rfl,rfl⟩
   ·rw[<-hlen]
    exact Ie hr (by omega) rfl
   ·exact hr
  exact n8 hcl.1 ho hevf (by simp[hev]) (hcl.2 E' J' w0 u (ps.drop l) (ps.drop l) (hlay.mono hJ) hr2 (sY _ (by rw[aR,aR,hlen])))
 have:=h2 w C (by simpa using hs1)
 refine this.imp fun r w' hr=>⟨trivial,?_⟩
 have h3:St J w0 w' (Ch.own (af E' F8) [v] ps::Ch.own (af E F8) [r] (ps.drop l)::C):=by simpa using hr.2
 have h4:=GN hC h1 hp h3
 have h5:=GN hC h1 (oe l hp) (h4.perm (List.Perm.swap _ _ _))
 exact h5.perm (List.Perm.swap _ _ _)
theorem PO {E':TypeId} {α:Type} {R:Rep α} (hC:Cpy R R) (h1:R.size=1) {kf:FuncId} {E b:Nat} (hcl:wh P kf E b) {xs zs:List α} (hz:cd b [] xs=some zs) {v:Value} {ts:Array TypeId} {J:Hp} (hlay:Lay P J) (hr:(af E' R).rd J [v] xs) (ho:o.op= .call { callee:=.value (.func kf),args:= #[x],argTypes:=ts }) {ev:Operand->Value} (hev:ev x=v) (hevf:ev (.func kf)= .func (.func kf) #[] #[]) :
  OpT P J w0 o ev [] (fun _=>True) (fun r=>[Ch.own (af E R) [r] zs]):=by
 obtain ⟨rfl,sY⟩:=C6 hz
 obtain ⟨ps,hp,hr2⟩:=V4 h1 hr
 have:=n8 (P:=P) (w0:=w0) (o:=o) hcl.1 ho hevf (by simp[hev]) (hcl.2 E' J w0 v ps ps hlay hr2 (sY _ hp.length_eq))
 exact OpT.post this fun r w C _ hs=>⟨trivial,GN hC h1 hp hs⟩
theorem EL {e:Ent} {rest:List Ent} {E:TypeId} {t:Ty} {xs:List t.den} (hp:s.chs.Perm (e::rest)) (hop: ∀J θ,Fine P w0 J θ s->OpT P J w0 o (evL (envL θ s)) [toCh P θ e] (fun _=>True) (fun v=>[toCh P θ e,Ch.own (Ty.sl E t).rep [v] xs])):Good P w0 s o ⟨[e],[],rest,[(⟨s.nxt,[]⟩,.own (.sl E t) xs)],.one (.own ⟨s.nxt,[]⟩)⟩:=
 good_row (rs:=[e]) (ns:=[]) hp fun J θ hf=>fun w C hs=>(hop J θ hf w C hs).imp fun v w hv=>⟨hv.1,hv.2.perm ((List.Perm.swap _ _ _).append_right C)⟩
theorem MF {kf:FuncId} {E b:Nat} (hcl:wh P kf E b) {ts:Array TypeId} (ho:o.op= .call { callee:=.value (.func kf),args:= #[x],argTypes:=ts }) (h:My s k E b x=some res):Oks P w0 s o k res:=by
 unfold My at h
 split at h
 ·rename_i hh ver E' t xs l hx
  obtain ⟨r,hr,h⟩:=bind_some h
  obtain ⟨hc,h⟩:=aj h
  rw[ak,ak] at hc
  have hver:=au hc.1
  have hsz:t.size=1:=au hc.2.2
  obtain ⟨zs,hz,h⟩:=bind_some h
  obtain ⟨hp,-⟩:=bK hr
  refine ⟨_,h,EL hp fun J θ hf=>?_⟩
  have hxo:=bO hf hx
  have he:=MA hr hver hxo
  rw[he]
  refine EK (Ty.sh_ok hc.2.1) (Ty.cpy hc.2.1) (t.rep_size.trans hsz) hcl (l:=l.toNat) (by have:=hxo.2.1;omega) hz (.inl ?_) (J:=J) (θ:=θ) hf.lay ho rfl rfl
  rw[<-hsz]
  exact aF hx
 ·rename_i hh hx
  obtain ⟨r,hr,h⟩:=bind_some h
  obtain ⟨hc,h⟩:=aj h
  rw[ak] at hc
  have hsz:r.t.size=1:=au hc.2
  obtain ⟨zs,hz,h⟩:=bind_some h
  obtain ⟨hp,-⟩:=bK hr
  refine ⟨_,h,EL hp fun J θ hf=>?_⟩
  exact EK (Ty.sh_ok hc.1) (Ty.cpy hc.1) (r.t.rep_size.trans hsz) hcl (l:=0) (Nat.zero_le _) (by simpa using hz) (.inr ⟨rfl,aF hx⟩) (J:=J) (θ:=θ) hf.lay ho rfl rfl
 ·rename_i hh E' t xs hx
  obtain ⟨hc,h⟩:=aj h
  rw[ak] at hc
  have hsz:t.size=1:=au hc.2
  obtain ⟨zs,hz,h⟩:=bind_some h
  exact ⟨_,h,good_row (rs:=[]) (ns:=[]) (List.Perm.refl _) fun J θ hf=>PO (Ty.cpy hc.1) (t.rep_size.trans hsz) hcl hz hf.lay (bO hf hx).2 ho (aF hx) rfl⟩
 ·cases h
end
end R
namespace R
open Go.RowKit
open D
structure Fr (s:Sg) (θ:Th) (s':Sg) (θ':Th):Prop where
 le:s.nxt<=s'.nxt
 same:Same s.nxt θ θ'
 env: ∀e∈s'.env,e.2.1<s.nxt->e∈s.env
 chs:Newer s.nxt s.chs s'.chs
section
variable {s s1 s2:Sg} {θ θ1 θ2:Th}
theorem Fr.rfl:Fr s θ s θ:=⟨aE _,Same.rfl,fun e he _=>he,Newer.rfl⟩
theorem Fr.trans (h:Fr s θ s1 θ1) (k:Fr s1 θ1 s2 θ2):Fr s θ s2 θ2:=
 ⟨Nat.le_trans h.le k.le,h.same.trans k.same h.le,fun e he hv=>h.env e (k.env e he (aJ hv h.le)) hv,fun e he h' ver c hs=>by
  rcases k.chs e he h' ver c hs with h1 | ⟨e1,he1,hs1⟩
  ·exact .inl (Nat.le_trans h.le h1)
  ·exact h.chs e1 he1 h' ver c hs1⟩
theorem Fr.put {d:Option Nat} {v:AV} {chs:List Ent} (hs:Same s.nxt θ θ1) (hc:Newer s.nxt s.chs chs):Fr s θ ⟨LA d s.nxt v s.env,chs,s.nxt+1⟩ θ1:=
 ⟨Nat.le_succ _,hs,fun e he hv=>by
  rcases pL he with h | h
  ·rw[h.2] at hv;exact absurd hv (Nat.lt_irrefl _)
  ·exact h,hc⟩
end
def zp (p:AV->Option AV):Nat->List (Nat×Nat×AV)->List (Nat×Nat×AV)
 | _,[] =>[]
 | k,e::l=>(match p e.2.2 with
  | some x=>(e.1,k,x)
  | none=>e)::zp p (k+1) l
section
variable {P:Program} {I J J':Hp} {w0 w:World} {F:Ch} {n:Nat} {θ θ':Th} {s:Sg} {a:Act}
theorem ri {p:AV->Option AV} {e:Nat×Nat×AV} : ∀ {l:List (Nat×Nat×AV)} {k:Nat},e∈zp p k l->(e∈l)\/(k<=e.2.1/\e.2.1<k+l.length/\ ∃e0∈l,e0.1=e.1/\p e0.2.2=some e.2.2)
 | [],k,h=>by cases h
 | e0::l,k,h=>by
  rcases az h with h | h
  ·cases hp:p e0.2.2 with
   | some x=>rw[hp] at h;subst h;exact .inr ⟨aE _,by show k<k+(l.length+1);omega,e0,by simp,rfl,hp⟩
   | none=>rw[hp] at h;subst h;exact .inl (by simp)
  ·rcases ri h with h | ⟨h2,h3,e1,h4,h5⟩
   ·exact .inl (by simp[h])
   ·exact .inr ⟨by omega,by rw[al];omega,e1,by simp[h4],h5⟩
theorem IG {p:AV->Option AV} : ∀ {l:List (Nat×Nat×AV)} {k:Nat},l.Pairwise (fun a b=>a.2.1≠b.2.1)->(∀e∈l,e.2.1<k)->(zp p k l).Pairwise fun a b=>a.2.1≠b.2.1
 | [],_,_,_=>List.Pairwise.nil
 | e0::l,k,h,hk=>by
  obtain ⟨h1,h2⟩:=List.pairwise_cons.1 h
  refine List.pairwise_cons.2 ⟨fun e he=>?_,IG h2 fun e he=>aV (hk e (by simp[he]))⟩
  have h0:=hk e0 (by simp)
  rcases ri he with he | ⟨k2,-,-⟩
  ·cases hp:p e0.2.2 with
   | some x =>
    have:=hk e (by simp[he])
    show k≠e.2.1
    omega
   | none=>exact h1 e he
  ·cases hp:p e0.2.2 with
   | some x=>show k≠e.2.1;omega
   | none=>show e0.2.1≠e.2.1;omega
theorem BW {p:AV->Option AV} : ∀ {l:List (Nat×Nat×AV)} {k:Nat},(∀e∈l,e.2.2.v θ'=e.2.2.v θ)->(∀e∈l,∀x,p e.2.2=some x->x.v θ'=e.2.2.v θ)->(zp p k l).map (fun e=>(e.1,e.2.2.v θ'))=l.map fun e=>(e.1,e.2.2.v θ)
 | [],_,_,_=>rfl
 | e0::l,k,h,hp=>by
  rw[zp,List.map_cons,List.map_cons,BW (fun e he=>h e (by simp[he])) fun e he=>hp e (by simp[he])]
  congr 1
  cases hq:p e0.2.2 with
  | some x=>show (e0.1,x.v θ')=_;rw[hp e0 (by simp) x hq]
  | none=>show (e0.1,e0.2.2.v θ')=_;rw[h e0 (by simp)]
theorem Sim.repl {p:AV->Option AV} {chs':List Ent} (hS:Sim P I w0 F n J θ s a w) (hs:Same s.nxt θ θ') (hJ:J.le J') (hst:St J' w0 w (chs'.map (toCh P θ')++ [F])) (hn:Newer s.nxt s.chs chs') (hok: ∀e∈chs',okE P w0 J' θ' (s.nxt+1) chs' e)
  (hp: ∀e∈s.env,∀x,p e.2.2=some x->x.ok P w0 J' θ' (s.nxt+1) chs'/\x.v θ'=e.2.2.v θ):Sim P I w0 F n J' θ' ⟨zp p (s.nxt+1) s.env,chs',s.nxt+1+s.env.length⟩ a w/\Fr s θ ⟨zp p (s.nxt+1) s.env,chs',s.nxt+1+s.env.length⟩ θ':=by
 have hle:s.nxt+1<=s.nxt+1+s.env.length:=Nat.le_add_right _ _
 refine ⟨⟨hS.le.trans hJ,?_,hst,fun e he=>?_,fun e he=>?_,IG hS.fine.nd fun e he=>aV (hS.fine.ver e he),fun e he=>fh Same.rfl hle Newer.rfl (hok e he) Hp.le.rfl,hS.fine.lay.mono hJ⟩,by show s.nxt<=s.nxt+1+s.env.length;omega,hs,fun e he hv=>?_,hn⟩
 ·have:envL θ' ⟨zp p (s.nxt+1) s.env,chs',s.nxt+1+s.env.length⟩=envL θ s:=BW (fun e he=>AV.v_same hs (hS.fine.env e he)) fun e he x hx=>(hp e he x hx).2
  rw[this];exact hS.agr
 ·rcases ri he with he | ⟨-,-,e0,h1,-,h2⟩
  ·exact AV.ok_same hs (by show s.nxt<=s.nxt+1+s.env.length;omega) hn (hS.fine.env e he) hJ
  ·exact AV.ok_same Same.rfl hle Newer.rfl (hp e0 h1 _ h2).1 Hp.le.rfl
 ·rcases ri he with he | ⟨h2,h3,-⟩
  ·have:=hS.fine.ver e he
   show e.2.1<s.nxt+1+s.env.length
   omega
  ·exact h3
 ·rcases ri he with he | ⟨h2,-⟩
  ·exact he
  ·exfalso;omega
end
def V5 (h:Hdr) (s:Sg):Option Sg:=(pull h s.chs).bind fun r=>match r.1.2.2 with
 | .box T t d=>some ⟨s.env,(h,s.nxt,.blk T (fj s.nxt (fun j=>[j]) t d 0))::((qo s.nxt (fun j=>[j]) t d 0).map (fun g=>(g.1,s.nxt,g.2))++r.2),s.nxt+1⟩
 | _=>none
section
variable {P:Program} {I J:Hp} {w0 w:World} {F:Ch} {n:Nat} {θ:Th} {s s':Sg} {a:Act} {h:Hdr}
theorem PP (hs:V5 h s=some s') (hS:Sim P I w0 F n J θ s a w): ∃θ',Sim P I w0 F n J θ' s' a w/\Fr s θ s' θ':=by
 obtain ⟨r,hr,hs⟩:=bind_some hs
 obtain ⟨p,k⟩:=fa hr
 obtain ⟨⟨h2,ver,c⟩,rest⟩:=r
 obtain rfl:h2=h:=k
 cases c with
 | box T t d =>
  obtain rfl:=ae (show some _=some s' from hs)
  have hok:=hS.fine.chs _ (p.mem_iff.2 (List.mem_cons_self ..))
  have h0:=hS.st.perm ((p.map (toCh P θ)).append_right [F])
  have h1:St J w0 w (Ch.box (bk (hv θ h2)) T t.rep d::(rest.map (toCh P θ)++ [F])):=h0
  obtain ⟨cells,h1⟩:=St.box.1 h1
  let θ':=upd θ s.nxt (.agg cells.toArray)
  have hsame:Same s.nxt θ θ':=Same.upd
  have h3:=h1.perm (List.Perm.swap _ _ _)
  obtain ⟨k1,k2,k3,k4⟩:=iE (P:=P) (m:=s.nxt) (θ:=θ') (pth:=fun j=>[j]) (n:=s.nxt+1) (ax _) t d 0 cells _ (fun i v hv'=>by
   show vg (upd θ s.nxt (.agg cells.toArray) s.nxt) [0+i] =v
   rw[fV,Nat.zero_add]
   exact RO (by simpa using hv')) h3
  have hmem: ∀e,e∈rest->e∈s.chs:=fun e he=>p.mem_iff.2 (bh _ he)
  have hnew:Newer s.nxt s.chs ((h2,s.nxt,.blk T (fj s.nxt (fun j=>[j]) t d 0))::((qo s.nxt (fun j=>[j]) t d 0).map (fun g=>(g.1,s.nxt,g.2))++rest)):=fun e he h' ver' c hs'=>by
   rcases az he with rfl | he
   ·obtain ⟨rfl,hs'⟩:=hs'
    rcases hs' with ⟨h1,-⟩ | hs'
    ·exact .inl (Nat.le_of_eq h1)
    ·exact hs'.elim
   ·rcases aD he with he | he
    ·obtain ⟨g,hg,rfl⟩:=List.mem_map.1 he
     rcases hs'.2 with ⟨h1,-⟩ | hs'
     ·exact .inl (Nat.le_of_eq h1)
     ·exact (vh (gU t d 0 g hg) hs').elim
    ·exact .inr ⟨e,hmem e he,hs'⟩
  refine ⟨θ',⟨hS.le,?_,?_,fun e he=>AV.ok_same hsame (Nat.le_succ _) hnew (hS.fine.env e he) Hp.le.rfl,fun e he=>aV (hS.fine.ver e he),hS.fine.nd,fun e he=>?_,hS.fine.lay⟩,Nat.le_succ _,hsame,fun e he _=>he,hnew⟩
  ·show Agr n a (envL θ' s)
   rw[yX hsame hS.fine.env];exact hS.agr
  ·rw[List.map_cons,aM,List.map_map]
   have e1:toCh P θ' (h2,s.nxt,Chk.blk T (fj s.nxt (fun j=>[j]) t d 0))=Ch.blk (bk (hv θ h2)) cells T:=by
    show Ch.blk (bk (hv θ' h2)) ((fj s.nxt (fun j=>[j]) t d 0).map (·.v θ')) T=_
    rw[k2,aZ hsame hok.1]
   rw[e1,iA hsame fun e he=>hS.fine.chs e (hmem e he)]
   have:=k4.perm (List.perm_middle (l₁:=(qo s.nxt (fun j=>[j]) t d 0).map fun g=>toCh P θ' (g.1,s.nxt,g.2)))
   rw[List.cons_append,ai]
   exact this
  ·rcases az he with rfl | he
   ·exact ⟨aV hok.1,ax _,k1⟩
   ·rcases aD he with he | he
    ·obtain ⟨g,hg,rfl⟩:=List.mem_map.1 he
     exact rh (gU t d 0 g hg) (by rw[k3 g hg];exact ax _) (ax _)
    ·exact fh hsame (Nat.le_succ _) hnew (hS.fine.chs e (hmem e he)) Hp.le.rfl
 | _=>cases hs
end
def GO:List Ent->List Hdr
 | [] =>[]
 | (h,_,.box _ _ _)::l=>h::GO l
 | _::l=>GO l
def MG:List Hdr->Sg->Sg
 | [],s=>s
 | h::hs,s=>MG hs (match V5 h s with
  | some s'=>s'
  | none=>s)
def qS (s:Sg):Sg:=MG (GO s.chs) s
def zq (h:Hdr):LV->Bool
 | .own h'=>Hdr.beq h' h
 | _=>false
def LV.frz (h:Hdr) (t:Ty) (d:t.den) (x:LV):LV:=match zq h x with
 | true=>.rd h t d
 | false=>x
def AV.frz (h:Hdr) (t:Ty) (d:t.den):AV->Option AV
 | .one x=>match zq h x with
  | true=>some (.one (.rd h t d))
  | false=>none
 | .agg xs=>match xs.any (zq h) with
  | true=>some (.agg (xs.map (LV.frz h t d)))
  | false=>none
 | .tup ys=>match ys.any fun y=>y.2.any (zq h) with
  | true=>some (.tup (ys.map fun y=>(y.1,y.2.map (LV.frz h t d))))
  | false=>none
 | _=>none
def MH (h:Hdr) (t:Ty) (d:t.den) (k:Nat) (e:Ent):Ent:=match e.2.2 with
 | .blk T cells=>match cells.any (zq h) with
  | true=>(e.1,k,.blk T (cells.map (LV.frz h t d)))
  | false=>e
 | _=>e
def RX (h:Hdr) (y:AV) (x:AV):Option AV:=match x with
 | .one (.ptr h' off)=>match Hdr.beq h' h&&Nat.beq off 0 with
  | true=>some y
  | false=>none
 | _=>none
section
variable {P:Program} {J J':Hp} {w0:World} {n m k:Nat} {θ:Th} {h:Hdr} {t:Ty} {d:t.den} {chs:List Ent}
theorem EM {x:LV} (hx:zq h x=true):x= .own h:=by
 unfold zq at hx
 split at hx
 ·rw[Hdr.beq_eq hx]
 ·cases hx
theorem LV.frz_v (x:LV):(x.frz h t d).v θ=x.v θ:=by
 unfold LV.frz
 split
 ·rename_i hx;rw[EM hx];rfl
 ·rfl
theorem LV.frz_ok {x:LV} (hx:x.ok P w0 J θ n) (hn:n<=m) (hJ:J.le J') (hh:h.id<m) (hr:t.rep.rd J' [hv θ h] d):(x.frz h t d).ok P w0 J' θ m:=by
 unfold LV.frz
 split
 ·exact ⟨hh,hr⟩
 ·exact LV.ok_same Same.rfl hn hx hJ
theorem GP (xs:List LV):(xs.map (LV.frz h t d)).map (·.v θ)=xs.map (·.v θ):=by
 rw[List.map_map]
 exact List.map_congr_left fun x _=>LV.frz_v x
theorem PQ (y:Bool×List LV):iU θ (y.1,y.2.map (LV.frz h t d))=iU θ y:=by
 obtain ⟨b,l⟩:=y
 unfold iU
 dsimp only
 rw[GP]
 cases b with
 | true=>rfl
 | false =>
  cases l with
  | nil=>rfl
  | cons x l=>exact LV.frz_v x
theorem AV.frz_ok {x y:AV} (hy:x.frz h t d=some y) (hx:x.ok P w0 J θ n chs) {chs':List Ent} (hn:n<=m) (hJ:J.le J') (hh:h.id<m) (hr:t.rep.rd J' [hv θ h] d):y.ok P w0 J' θ m chs'/\y.v θ=x.v θ:=by
 unfold AV.frz at hy
 split at hy
 ·split at hy
  ·rename_i hb
   obtain rfl:=ae hy
   rw[EM hb]
   exact ⟨⟨hh,hr⟩,rfl⟩
  ·cases hy
 ·split at hy
  ·obtain rfl:=ae hy
   refine ⟨fun z hz=>?_,?_⟩
   ·obtain ⟨z0,hz0,rfl⟩:=List.mem_map.1 hz
    exact LV.frz_ok (hx z0 hz0) hn hJ hh hr
   ·show Value.agg _=Value.agg _
    rw[GP]
  ·cases hy
 ·split at hy
  ·obtain rfl:=ae hy
   refine ⟨fun z hz=>?_,?_⟩
   ·obtain ⟨z0,hz0,rfl⟩:=List.mem_map.1 hz
    intro u hu
    obtain ⟨u0,hu0,rfl⟩:=List.mem_map.1 hu
    exact LV.frz_ok (hx z0 hz0 u0 hu0) hn hJ hh hr
   ·show Value.tuple _=Value.tuple _
    rw[List.map_map]
    congr 2
    exact List.map_congr_left fun z _=>PQ z
  ·cases hy
 ·cases hy
theorem MI (e:Ent):toCh P θ (MH h t d k e)=toCh P θ e:=by
 obtain ⟨h1,v,c⟩:=e
 unfold MH
 split
 ·rename_i T cells heq
  split
  ·show Ch.blk _ ((cells.map _).map _) _=_
   rw[GP]
   obtain rfl:c= .blk T cells:=heq
   rfl
  ·rfl
 ·rfl
theorem MJ {e:Ent} {h':Hdr} {ver:Nat} {c:Chk} (hs:Says (MH h t d k e) h' ver c):ver=k\/Says e h' ver c:=by
 unfold MH at hs
 split at hs
 ·split at hs
  ·rcases hs.2 with ⟨h1,-⟩ | h1
   ·exact .inl h1.symm
   ·exact h1.elim
  ·exact .inr hs
 ·exact .inr hs
theorem J4 {l:List Ent} :Newer k l (l.map (MH h t d k)):=fun e he h' ver c hs=>by
 obtain ⟨e0,he0,rfl⟩:=List.mem_map.1 he
 rcases MJ hs with h1 | h1
 ·exact .inl (Nat.le_of_eq h1.symm)
 ·exact .inr ⟨e0,he0,h1⟩
theorem T7 {e:Ent} (he:okE P w0 J θ n chs e) {chs':List Ent} (hc:Newer n chs chs') (hn:n<m) (hJ:J.le J') (hh:h.id<m) (hr:t.rep.rd J' [hv θ h] d):okE P w0 J' θ m chs' (MH h t d n e):=by
 have h0:=fh Same.rfl (Nat.le_of_lt hn) hc he hJ
 unfold MH
 split
 ·rename_i T cells heq
  split
  ·obtain ⟨h1,v,c⟩:=e
   obtain rfl:c= .blk T cells:=heq
   exact ⟨h0.1,hn,fun x hx=>by
    obtain ⟨x0,hx0,rfl⟩:=List.mem_map.1 hx
    exact LV.frz_ok (he.2.2 x0 hx0) (Nat.le_of_lt hn) hJ hh hr⟩
  ·exact h0
 ·exact h0
end
abbrev Trs:=List (TypeId×TypeId×Ty)
def XU (l:Trs) (T:TypeId):Option (TypeId×Ty):=match l with
 | [] =>none
 | (U,x)::l=>if Nat.beq U T then some x else XU l T
def V6 (tr:Trs):Ty->Bool
 | .tree _ _ _=>true
 | .sl E _=>match XU tr E with
  | some q=>Nat.beq q.1 0
  | none=>false
 | _=>false
def ML (tr:Trs) (h:Hdr) (s:Sg):Option Sg:=(pull h s.chs).bind fun r=>match r.1.2.2 with
 | .own t d=>match V6 tr t with
  | true=>some ⟨zp (AV.frz h t d) (s.nxt+1) s.env,r.2.map (MH h t d s.nxt),s.nxt+1+s.env.length⟩
  | false=>none
 | _=>none
def RY (T E:TypeId) (t:Ty) (x:LV) (chs:List Ent):Option (List (Tr t.den)×List Ent×List Ent):=match x with
 | .own h=>(rowOf h chs).bind fun r=>(mU (.sl r.E r.t) (.sl E (.tree T E t)) r.xs).bind fun ks=>some (ks,[r.ent h],r.rest)
 | x=>(Po E (.tree T E t) x).bind fun ks=>some (ks,[],chs)
def MM (tr:Trs) (h:Hdr) (s:Sg):Option Sg:=(qR h s.chs).bind fun b=>(XU tr b.T).bind fun q=>(dF q.2 b.cells).bind fun a=>match a.2 with
 | [kid] =>(RY b.T q.1 q.2 kid b.rest).bind fun ks=>some ⟨zp (RX h (.one (.rd ⟨s.nxt,[]⟩ (.tree b.T q.1 q.2) (.node a.1 ks.1)))) (s.nxt+1) s.env,ks.2.2,s.nxt+1+s.env.length⟩
 | _=>none
section
variable {P:Program} {I J:Hp} {w0 w:World} {F:Ch} {n:Nat} {θ:Th} {s s':Sg} {a:Act} {h:Hdr}
theorem MN {m:Nat} {chs chs':List Ent} (h: ∀e,e∈chs'->e∈chs):Newer m chs chs':=fun e he h' ver c hs=>.inr ⟨e,h e he,hs⟩
theorem MO {tr:Trs} (hs:ML tr h s=some s') (hS:Sim P I w0 F n J θ s a w): ∃J',J.le J'/\Sim P I w0 F n J' θ s' a w/\Fr s θ s' θ:=by
 obtain ⟨r,hr,hs⟩:=bind_some hs
 obtain ⟨p,k⟩:=fa hr
 obtain ⟨⟨h2,ver,c⟩,rest⟩:=r
 obtain rfl:h2=h:=k
 cases c with
 | own t d =>
  have hs:(match V6 tr t with
   | true=>some (⟨zp (AV.frz h2 t d) (s.nxt+1) s.env,rest.map (MH h2 t d s.nxt),s.nxt+1+s.env.length⟩:Sg)
   | false=>none)=some s':=hs
  split at hs
  ·obtain rfl:=ae (show some _=some s' from hs)
   have hok:=hS.fine.chs _ (p.mem_iff.2 (List.mem_cons_self ..))
   have h1:St J w0 w (Ch.own t.rep [hv θ h2] d::(rest.map (toCh P θ)++ [F])):=hS.st.perm ((p.map (toCh P θ)).append_right [F])
   obtain ⟨J',hJ,hrd,hst⟩:=h1.freeze
   have hmem: ∀e,e∈rest->e∈s.chs:=fun e he=>p.mem_iff.2 (bh _ he)
   have hnew:Newer s.nxt s.chs (rest.map (MH h2 t d s.nxt)):=fun e he h' ver c hs=>by
    rcases J4 e he h' ver c hs with h1 | ⟨e0,he0,h1⟩
    ·exact .inl h1
    ·exact .inr ⟨e0,hmem e0 he0,h1⟩
   refine ⟨J',hJ,hS.repl Same.rfl hJ ?_ hnew (fun e he=>?_) fun e he x hx=>AV.frz_ok hx (hS.fine.env e he) (Nat.le_succ _) hJ (aV hok.1) hrd⟩
   ·rw[List.map_map,List.map_congr_left fun e _=>(show (toCh P θ ∘ MH h2 t d s.nxt) e=toCh P θ e from MI e)]
    exact hst
   ·obtain ⟨e0,he0,rfl⟩:=List.mem_map.1 he
    exact T7 (hS.fine.chs e0 (hmem e0 he0)) hnew (ax _) hJ (aV hok.1) hrd
  ·cases hs
 | _=>cases hs
theorem MP {tr:Trs} (hs:MM tr h s=some s') (hS:Sim P I w0 F n J θ s a w): ∃J' θ',J.le J'/\Sim P I w0 F n J' θ' s' a w/\Fr s θ s' θ':=by
 obtain ⟨b,hb,hs⟩:=bind_some hs
 obtain ⟨⟨E,t⟩,hq,hs⟩:=bind_some hs
 obtain ⟨c,hc,hs⟩:=bind_some hs
 have p:=jW hb
 have hok:=hS.fine.chs _ (p.mem_iff.2 (List.mem_cons_self ..))
 have hcells: ∀x∈b.cells,x.ok P w0 J θ s.nxt:=hok.2.2
 obtain ⟨c1,e1,k1⟩:=gT (J:=J) (θ:=θ) hc hcells
 split at hs
 ·rename_i kid hkid
  obtain ⟨ks,hks,hs⟩:=bind_some hs
  obtain rfl:=ae hs
  have h0:=hS.st.perm ((p.map (toCh P θ)).append_right [F])
  have h1:St J w0 w (Ch.blk (bk (hv θ h)) (b.cells.map (·.v θ)) b.T::(b.rest.map (toCh P θ)++ [F])):=h0
  have hcv:b.cells.map (·.v θ)=c1.map (·.v θ)++ [kid.v θ]:=by rw[e1,hkid,aM];rfl
  let θ':=upd θ s.nxt (.pointer (some ⟨bk (hv θ h),0,none⟩))
  have hsame:Same s.nxt θ θ':=Same.upd
  have key: ∃J1,J.le J1/\(Ty.sl E (.tree b.T E t)).rep.rd J1 [kid.v θ] ks.1/\St J1 w0 w (Ch.blk (bk (hv θ h)) (b.cells.map (·.v θ)) b.T::(ks.2.2.map (toCh P θ)++ [F]))/\ ∀e,e∈ks.2.2->e∈b.rest:=by
   unfold RY at hks
   split at hks
   ·rename_i hk
    obtain ⟨r,hr,hks⟩:=bind_some hks
    obtain ⟨xs,hxs,hks⟩:=bind_some hks
    obtain rfl:=ae hks
    obtain ⟨pr,-⟩:=bK hr
    have h2:St J w0 w (Ch.own (Ty.sl r.E r.t).rep [hv θ hk] r.xs::Ch.blk (bk (hv θ h)) (b.cells.map (·.v θ)) b.T::(r.rest.map (toCh P θ)++ [F])):=by
     refine (h1.perm ?_:St J w0 w _)
     have:=((pr.map (toCh P θ)).append_right [F]).cons (Ch.blk (bk (hv θ h)) (b.cells.map (·.v θ)) b.T)
     exact this.trans (List.Perm.swap _ _ _)
    obtain ⟨J1,hJ1,hrd,hst⟩:=h2.freeze
    exact ⟨J1,hJ1,gR hxs hrd,hst,fun e he=>pr.mem_iff.2 (bh _ he)⟩
   ·obtain ⟨xs,hxs,hks⟩:=bind_some hks
    obtain rfl:=ae hks
    exact ⟨J,Hp.le.rfl,y6 hxs (hcells kid (by rw[e1,hkid];simp)),h1,fun e he=>he⟩
  obtain ⟨J1,hJ1,hk1,hst1,hm1⟩:=key
  obtain ⟨J2,hJ2,hb2,hst2⟩:=hst1.freeze_blk
  have hJ:J.le J2:=hJ1.trans hJ2
  have hmem: ∀e,e∈ks.2.2->e∈s.chs:=fun e he=>p.mem_iff.2 (bh _ (hm1 e he))
  have hnew:Newer s.nxt s.chs ks.2.2:=MN hmem
  have hpv:hv θ' ⟨s.nxt,[]⟩= .pointer (some ⟨bk (hv θ h),0,none⟩):=fV
  refine ⟨J2,θ',hJ,hS.repl hsame hJ ?_ hnew (fun e he=>fh hsame (Nat.le_succ _) hnew (hS.fine.chs e (hmem e he)) hJ) fun e he x hx=>?_⟩
  ·rw[iA hsame fun e he=>hS.fine.chs e (hmem e he)]
   exact hst2
  ·unfold RX at hx
   split at hx
   ·rename_i h' off heq
    split at hx
    ·rename_i hp
     obtain rfl:=ae hx
     rw[ak] at hp
     refine ⟨⟨ax _,?_⟩,?_⟩
     ·rw[hpv]
      rw[hcv] at hb2
      exact Lv hb2 (Rep.rd_mono _ k1 hJ) (Rep.rd_mono _ hk1 hJ2)
     ·rw[heq,Hdr.beq_eq hp.1,au hp.2]
      exact hpv
    ·cases hx
   ·cases hx
 ·cases hs
end
def orS (x:Option Sg) (s:Sg):Sg:=match x with
 | some s'=>s'
 | none=>s
def PR (tr:Trs):List (Bool×Hdr)->Sg->Sg
 | [],s=>s
 | (true,h)::hs,s=>PR tr hs (orS (MM tr h s) s)
 | (false,h)::hs,s=>PR tr hs (orS (ML tr h s) s)
section
variable {P:Program} {I J:Hp} {w0 w:World} {F:Ch} {n:Nat} {θ:Th} {s s':Sg} {a:Act}
theorem C7: ∀ {hs:List Hdr} {s:Sg} {θ:Th},Sim P I w0 F n J θ s a w-> ∃θ',Sim P I w0 F n J θ' (MG hs s) a w/\Fr s θ (MG hs s) θ'
 | [],s,θ,hS=>⟨θ,hS,Fr.rfl⟩
 | h::hs,s,θ,hS=>by
  unfold MG
  split
  ·rename_i s' he
   obtain ⟨θ1,S1,F1⟩:=PP he hS
   obtain ⟨θ2,S2,F2⟩:=C7 (hs:=hs) S1
   exact ⟨θ2,S2,F1.trans F2⟩
  ·exact C7 hS
theorem yx (hS:Sim P I w0 F n J θ s a w): ∃θ',Sim P I w0 F n J θ' (qS s) a w/\Fr s θ (qS s) θ':=C7 hS
theorem tZ {tr:Trs} : ∀ {hs:List (Bool×Hdr)} {s:Sg} {J:Hp} {θ:Th},Sim P I w0 F n J θ s a w-> ∃J' θ',J.le J'/\Sim P I w0 F n J' θ' (PR tr hs s) a w/\Fr s θ (PR tr hs s) θ'
 | [],s,J,θ,hS=>⟨J,θ,Hp.le.rfl,hS,Fr.rfl⟩
 | (true,h)::hs,s,J,θ,hS=>by
  unfold PR
  cases he:MM tr h s with
  | some s' =>
   obtain ⟨J1,θ1,L1,S1,F1⟩:=MP he hS
   obtain ⟨J2,θ2,L2,S2,F2⟩:=tZ (hs:=hs) S1
   exact ⟨J2,θ2,L1.trans L2,S2,F1.trans F2⟩
  | none=>exact tZ hS
 | (false,h)::hs,s,J,θ,hS=>by
  unfold PR
  cases he:ML tr h s with
  | some s' =>
   obtain ⟨J1,L1,S1,F1⟩:=MO he hS
   obtain ⟨J2,θ2,L2,S2,F2⟩:=tZ (hs:=hs) S1
   exact ⟨J2,θ2,L1.trans L2,S2,F1.trans F2⟩
  | none=>exact tZ hS
end
end R
namespace D
open Go.RowKit
section
variable {P:Program} {I J:Hp} {w0 w w':World} {cs C:List Ch} {o:Oper} {ev:Operand->Value}
theorem zr {α:Type} {R:Rep α} (hC:Cpy R R): ∀ {xs:List α} {cur:List Value},(∀i x,xs[i]? =some x-> ∃c:List Value,c.length=R.size/\(∀j,j<R.size->cur[i*R.size+j]? =c[j]?)/\R.rd I c x)->OwnEls R I w cur xs []
 | [],cur,_=>rfl
 | x::xs,cur,h=>by
  have ⟨c,c1,c2,c3⟩:=h 0 x rfl
  refine ⟨c,cur.drop R.size,[],[],?_,c1,rfl,hC c3,zr hC fun i y hy=>?_⟩
  ·apply List.ext_getElem?
   grind
  ·have ⟨d,d1,d2,d3⟩:=h (i+1) y (by grind)
   grind
end
end D
namespace D
open Go.RowKit
section
variable {P:Program} {I J:Hp} {w0 w w':World} {cs C:List Ch} {o:Oper} {ev:Operand->Value}
theorem BX {α:Type} {E:TypeId} {R:Rep α} (hSh:R.Sh) {k:Nat} (hR:R.size=k) {g ofs n cap:Nat} {xs:List α} (h:St I w0 w (Ch.own (af E R) [.slice (some ⟨g,ofs,none⟩) n cap] xs::C)) :
  n=xs.length/\xs.length<=cap/\cap<=maxLen/\ ∃cur,w.heap[g]? =some (.cells cur E (0,0))/\ofs+cap*k<=cur.size/\ ∀(i:Nat) x,xs[i]? =some x-> ∃c:List Value,c.length=k/\(∀j,j<k->(cur.toList.drop ofs)[i*k+j]? =c[j]?)/\R.rd I c x:=by
 obtain ⟨hb,hi,F,⟨G,K,rfl,⟨hl,e2⟩,e3⟩,h4,h5⟩:=h
 rcases e2 with ⟨hv,rfl,rfl⟩ | ⟨g',ofs',cap',cur,K1,hv,k1,k2,k3,k4,rfl,k5⟩
 ·simp at hv
 ·simp only[List.cons.injEq,Value.slice.injEq,Option.some.injEq,Addr.mk.injEq,and_true] at hv
  obtain ⟨⟨rfl,rfl⟩,rfl,rfl⟩:=hv
  obtain rfl:=k5.sh hSh
  have hat:=fun i x hx=>k5.at Hp.le.rfl (by simp) i x hx
  rw[hR] at hat k4
  exact ⟨rfl,k2,k3,cur,k1,k4,hat⟩
theorem GQ {α:Type} {E:TypeId} {R:Rep α} (hSh:R.Sh) (hC:Cpy R R) {k:Nat} (hR:R.size=k) {g ofs n cap p cnt:Nat} {xs zs:List α} {news:List Value} (hn:news.length=cnt*k) (hfit:p+cnt<=cap) (hz:zs.length<=cap) (hlim:zs.length<=lim)
  (hnew: ∀i z,zs[i]? =some z->(p<=i/\i<p+cnt/\ ∃c:List Value,c.length=k/\(∀j,j<k->news[(i - p)*k+j]? =c[j]?)/\R.rd I c z)\/((i<p\/p+cnt<=i)/\xs[i]? =some z))
  (h:St I w0 w (Ch.own (af E R) [.slice (some ⟨g,ofs,none⟩) n cap] xs::C)):St I w0 (w.setCells g (ofs+p*k) news) (Ch.own (af E R) [.slice (some ⟨g,ofs,none⟩) zs.length cap] zs::C):=by
 obtain ⟨hb,hi,F,⟨G,K,rfl,⟨hl,e2⟩,e3⟩,h4,h5⟩:=h
 rcases e2 with ⟨hv,rfl,rfl⟩ | ⟨g',ofs',cap',cur,K1,hv,k1,k2,k3,k4,rfl,k5⟩
 ·simp at hv
 ·simp only[List.cons.injEq,Value.slice.injEq,Option.some.injEq,Addr.mk.injEq,and_true] at hv
  obtain ⟨⟨rfl,rfl⟩,rfl,rfl⟩:=hv
  obtain rfl:=k5.sh hSh
  have hat:=fun i x hx=>k5.at Hp.le.rfl (by simp) i x hx
  rw[hR] at hat k4
  have hln:cur.toList.length=cur.size:=Array.length_toList
  have m0:(p+cnt)*k=p*k+cnt*k:=Nat.add_mul _ _ _
  have m1:(p+cnt)*k<=cap*k:=Nat.mul_le_mul_right _ hfit
  have hroom:ofs+p*k+news.length<=cur.size:=by omega
  obtain ⟨o1,o2,o3,o4,o5⟩:=oH g news (ofs+p*k) w
  have hrow:=q9 news (ofs+p*k) w cur hroom k1
  have hgK:g∉K:=by rw[List.cons_append] at h4;simpa using (List.nodup_cons.1 h4).1
  have key: ∀q,((cur.toList.take (ofs+p*k)++news++cur.toList.drop (ofs+p*k+news.length)).toArray.toList.drop ofs)[q]? =if p*k<=q/\q<p*k+cnt*k then news[q - p*k]? else (cur.toList.drop ofs)[q]? :=by
   intro q
   rw[List.getElem?_drop]
   show (cur.toList.take (ofs+p*k)++news++cur.toList.drop (ofs+p*k+news.length))[ofs+q]? =_
   have htl:(cur.toList.take (ofs+p*k)).length=ofs+p*k:=by rw[aA];omega
   by_cases c1:q<p*k
   ·rw[if_neg (by omega),ai,List.getElem?_append_left (by omega),List.getElem?_take,if_pos (by omega),List.getElem?_drop]
   ·by_cases c2:q<p*k+cnt*k
    ·rw[if_pos (by omega),ai,List.getElem?_append_right (by omega),htl,List.getElem?_append_left (by omega)]
     congr 1;omega
    ·rw[if_neg (by omega),List.getElem?_append_right (by rw[aw];omega),aw,htl,hn,List.getElem?_drop,List.getElem?_drop]
     congr 1;omega
  refine ⟨⟨o1.trans hb.1,o2.trans hb.2.1,o3.trans hb.2.2.1,by rw[o4];exact hb.2.2.2⟩,fun q u hq=>?_,[g] ++K,⟨[g],K,rfl,⟨hlim,.inr ⟨g,ofs,cap,_,[],rfl,hrow,hz,k3,?_,rfl,zr hC fun i x hx=>?_⟩⟩,e3.stay fun q hq=>o5 q fun e=>hgK (e ▸ hq)⟩,h4,h5⟩
  ·show (w.setCells g (ofs+p*k) _).heap[q]? =some u
   rw[o5 q fun e=>by rw[e,h5 g (by simp)] at hq;cases hq]
   exact hi q u hq
  ·rw[hR];simp only[List.size_toArray,aw,aA,aR,hln];omega
  ·rw[hR]
   rcases hnew i x hx with ⟨n1,n2,c,c1,c2,c3⟩ | ⟨n1,n2⟩
   ·refine ⟨c,c1,fun j hj=>?_,c3⟩
    have a1:p*k<=i*k:=Nat.mul_le_mul_right _ n1
    have a2:i*k+k<=p*k+cnt*k:=by rw[<-Nat.succ_mul,<-Nat.add_mul];exact Nat.mul_le_mul_right _ n2
    have a3:(i - p)*k=i*k - p*k:=Nat.sub_mul _ _ _
    rw[key,if_pos (by omega),<-c2 j hj,a3]
    congr 1;omega
   ·obtain ⟨c,c1,c2,c3⟩:=hat i x n2
    refine ⟨c,c1,fun j hj=>?_,c3⟩
    have a1:i*k+k<=p*k\/p*k+cnt*k<=i*k:=by
     rcases n1 with n1 | n1
     ·left;rw[<-Nat.succ_mul];exact Nat.mul_le_mul_right _ n1
     ·right;rw[<-Nat.add_mul];exact Nat.mul_le_mul_right _ n1
    rw[key,if_neg (by omega)]
    exact c2 j hj
def rj (cur:Array Value) (ofs k j m:Nat):List Value:=((cur.toList.drop ofs).drop (j*k)).take ((m - j)*k)
theorem sw {cur:Array Value} {ofs k j m cap:Nat} (h:ofs+cap*k<=cur.size) (hj:j<=m) (hm:m<=cap):(rj cur ofs k j m).length=(m - j)*k:=by
 have m1:m*k<=cap*k:=Nat.mul_le_mul_right _ hm
 have m2:(m - j)*k=m*k - j*k:=Nat.sub_mul _ _ _
 have m3:j*k<=m*k:=Nat.mul_le_mul_right _ hj
 unfold rj
 rw[aA,aR,aR,Array.length_toList];omega
theorem kO {cur:Array Value} {ofs k j m q:Nat} (hq:q<(m - j)*k):(rj cur ofs k j m)[q]? =(cur.toList.drop ofs)[j*k+q]? :=by
 unfold rj
 rw[List.getElem?_take,if_pos hq,List.getElem?_drop]
theorem J5 {α:Type} {R:Rep α} {xs:List α} {cur:Array Value} {ofs k j m:Nat} (hk:0<k) (hm:m<=xs.length) (hat: ∀(i:Nat) x,xs[i]? =some x-> ∃c:List Value,c.length=k/\(∀j,j<k->(cur.toList.drop ofs)[i*k+j]? =c[j]?)/\R.rd I c x): ∀u∈rj cur ofs k j m,u.oneCell'=true:=by
 intro u hu
 obtain ⟨q,hq⟩:=List.getElem?_of_mem hu
 have hq':=(List.getElem?_eq_some_iff.1 hq).1
 have hq2:q<(m - j)*k:=by
  unfold rj at hq'
  rw[aA] at hq';omega
 rw[kO hq2] at hq
 have m2:(m - j)*k=m*k - j*k:=Nat.sub_mul _ _ _
 have m1:m*k<=xs.length*k:=Nat.mul_le_mul_right _ hm
 have hqn:(j*k+q) / k<xs.length:=by rw[Nat.div_lt_iff_lt_mul hk];omega
 obtain ⟨c,c1,c2,c3⟩:=hat _ _ (List.getElem?_eq_getElem hqn)
 have:=c2 ((j*k+q) % k) (Nat.mod_lt _ hk)
 rw[Nat.div_add_mod',hq] at this
 exact R.rd_one c3 u (List.mem_of_getElem? this.symm)
theorem wo {g ofs:Nat} {cur:Array Value} {E:TypeId} {fr:Nat×Nat} (h:w.heap[g]? =some (.cells cur E fr)) (q:Nat):w.cell? ⟨g,ofs+q,none⟩=(cur.toList.drop ofs)[q]? :=by
 simp[World.cell?,h]
def oh {α:Type} (xs:List α) (i j m:Nat):List α:=xs.take i++(((xs.take m).drop j)++xs.drop (i+(m - j)))
theorem vj {α:Type} {xs:List α} {i j m:Nat} (h1:i<=j) (h2:j<=m) (h3:m<=xs.length):(oh xs i j m).length=xs.length:=by
 simp only[oh,aw,aA,aR];omega
theorem BY {α:Type} {xs:List α} {i j m q:Nat} (h1:i<=j) (h2:j<=m) (h3:m<=xs.length):(oh xs i j m)[q]? =if i<=q/\q<i+(m - j) then xs[j+(q - i)]? else xs[q]? :=by
 have hi:(xs.take i).length=i:=by rw[aA];omega
 have hm:((xs.take m).drop j).length=m - j:=by rw[aR,aA];omega
 unfold oh
 by_cases c1:q<i
 ·rw[if_neg (by omega),List.getElem?_append_left (by omega),List.getElem?_take,if_pos c1]
 ·rw[List.getElem?_append_right (by omega),hi]
  by_cases c2:q<i+(m - j)
  ·rw[if_pos (by omega),List.getElem?_append_left (by omega),List.getElem?_drop,List.getElem?_take,if_pos (by omega)]
  ·rw[if_neg (by omega),List.getElem?_append_right (by omega),hm,List.getElem?_drop];congr 1;omega
theorem C8 {α:Type} {E T:TypeId} {R:Rep α} {z:Value} {n b:Nat} {x y:Operand} {g ofs cap len i j m c:Nat} {a:Addr} {xs:List α} (hSh:R.Sh) (hC:Cpy R R) (hT:P.underlying T=some (.slice E)) (hE:TZ P E z n b) (hn:0<n) (hR:R.size=n)
  (ho:o.op= .call { callee:=.builtin .append,args:= #[x,y],argTypes:= #[T,T] }) (hx:ev x= .slice (some ⟨g,ofs,none⟩) i cap) (hy:ev y= .slice (some a) (m - j) c) (ha:j<m->a=⟨g,ofs+j*n,none⟩) (hij:i<=j) (hj:j<=m) (hm:m<=xs.length) :
  OpT P I w0 o ev [Ch.own (af E R) [.slice (some ⟨g,ofs,none⟩) len cap] xs] (· = .slice (some ⟨g,ofs,none⟩) (i+(m - j)) cap) (fun _=>[Ch.own (af E R) [.slice (some ⟨g,ofs,none⟩) len cap] (oh xs i j m)]):=by
 intro w C hs
 obtain ⟨info,hi',hz,hsize,hby⟩:=info_parts hE
 obtain ⟨rfl,r1,r2,cur,r3,r4,hat⟩:=BX hSh hR hs
 have hln:=sw (k:=n) (j:=j) r4 hj (Nat.le_trans hm r1)
 have m1:xs.length*n<=cap*n:=Nat.mul_le_mul_right _ r1
 have m2:i*n<=j*n:=Nat.mul_le_mul_right _ hij
 have m3:(m - j)*n=m*n - j*n:=Nat.sub_mul _ _ _
 have m4:j*n<=m*n:=Nat.mul_le_mul_right _ hj
 have m5:m*n<=xs.length*n:=Nat.mul_le_mul_right _ hm
 have hcl:(cur.toList.drop ofs).length=cur.size - ofs:=by rw[aR,Array.length_toList]
 have hrun:=run_append_room_cells (P:=P) w T o.type E info hT hi' g ofs i cap a (m - j) c (rj cur ofs n j m) (by rw[hsize];exact hln) (fun q u hq=>by
  have hq':=(List.getElem?_eq_some_iff.1 hq).1
  rw[hln] at hq'
  rw[kO hq'] at hq
  by_cases hjm:j<m
  ·rw[ha hjm];simp only[Addr.add_mid];rw[Nat.add_assoc,wo r3];exact hq
  ·rw[show m - j=0 from by omega] at hq';omega) (J5 hn hm hat) (by omega) (fun q hq=>by
  rw[hln] at hq
  rw[hsize,Nat.add_assoc,wo r3,List.getElem?_eq_getElem (by rw[hcl];omega)];rfl) (fun q _=>by simp[World.frozen?,r3])
 rw[hsize] at hrun
 rw[dh ho hx hy hrun]
 have hsl:=vj (xs:=xs) hij hj hm
 have hxl:=(hs.hd 0 rfl).2
 have:=GQ (zs:=oh xs i j m) hSh hC hR (p:=i) (cnt:=m - j) hln (by omega) (by omega) (by omega) (fun q u hq=>by
  rw[BY hij hj hm] at hq
  by_cases c1:i<=q/\q<i+(m - j)
  ·rw[if_pos c1] at hq
   obtain ⟨c,d1,d2,d3⟩:=hat _ _ hq
   refine .inl ⟨c1.1,c1.2,c,d1,fun t ht=>?_,d3⟩
   have e1:(q - i)*n+n<=(m - j)*n:=by rw[<-Nat.succ_mul];exact Nat.mul_le_mul_right _ (by omega)
   rw[kO (by omega),<-d2 t ht,Nat.add_mul]
   congr 1;omega
  ·rw[if_neg c1] at hq
   exact .inr ⟨by omega,hq⟩) hs
 rw[hsl] at this
 exact ⟨rfl,this⟩
theorem zt (w:World) (t e ty:TypeId) (z:Value) (ht:P.underlying t=some (.slice e)) (hv:(zeroValue e).run P w= .ok z w) (b o n c:Nat) (hn:0<n)
  (hc: ∀j,j<(Builtin.zeroCells z.cells n).toList.length->(w.cell? ⟨b,o+j,none⟩).isSome=true) (hf: ∀j,j<(Builtin.zeroCells z.cells n).toList.length->w.frozen? ⟨b,o+j,none⟩=false) (h1: ∀v∈(Builtin.zeroCells z.cells n).toList,v.oneCell'=true) :
  (Builtin.clear_ #[t] ty #[.slice (some ⟨b,o,none⟩) n c]).run P w= .ok (.tuple #[]) (w.setCells b o (Builtin.zeroCells z.cells n).toList):=by
 have hst:=run_storeCells_cells (P:=P) b o (Builtin.zeroCells z.cells n).toList 0 w (by simpa using hc) (by simpa using hf) h1
 simp only[Nat.add_zero] at hst
 obtain ⟨m,rfl⟩: ∃m,n=m+1:=⟨n - 1,by omega⟩
 simp[Builtin.clear_,run_underlying ht,hv,hst]
theorem rk (w:World) (t e ty:TypeId) (ht:P.underlying t=some (.slice e)) (a:Option Addr) (c:Nat):(Builtin.clear_ #[t] ty #[.slice a 0 c]).run P w= .ok (.tuple #[]) w:=by
 cases a <;> simp[Builtin.clear_,run_underlying ht]
theorem oK {x:Operand} {T:TypeId} {v r:Value} {w w':World} (ho:o.op= .call { callee:=.builtin .clear,args:= #[x],argTypes:= #[T] }) (hx:ev x=v) (hr:(Builtin.clear_ #[T] o.type #[v]).run P w= .ok r w'):(execOp ev o).run P w= .ok (.value r) w':=by
 simp only[execOp,ho,resolve,invoke,builtin,Sem.run_bind,Sem.run_pure,Result.andThen_ok,List.map_toArray,List.map_cons,List.map_nil,hx,hr]
theorem pO {zc:Array Value} {n:Nat} :(Builtin.zeroCells zc n).toList.length=n*zc.size:=by simp[Builtin.zeroCells]
theorem vk {zc:Array Value} {n i j:Nat} (hi:i<n) (hj:j<zc.size):(Builtin.zeroCells zc n).toList[i*zc.size+j]? =zc.toList[j]? :=by
 have h1:i*zc.size+j<n*zc.size:=by
  have:i*zc.size+zc.size<=n*zc.size:=by rw[<-Nat.succ_mul];exact Nat.mul_le_mul_right _ hi
  omega
 have h2:(i*zc.size+j) % zc.size=j:=by rw[Nat.add_comm,Nat.add_mul_mod_self_right,Nat.mod_eq_of_lt hj]
 simp[Builtin.zeroCells,h1,h2,hj]
def wq {α:Type} (xs:List α) (l m:Nat) (z:α):List α:=xs.take l++(List.replicate (m - l) z++xs.drop m)
theorem xi {α:Type} {xs:List α} {l m:Nat} {z:α} (h1:l<=m) (h2:m<=xs.length):(wq xs l m z).length=xs.length:=by
 simp only[wq,aw,aA,aR,List.length_replicate];omega
theorem EN {α:Type} {xs:List α} {l m q:Nat} {z:α} (h1:l<=m) (h2:m<=xs.length):(wq xs l m z)[q]? =if l<=q/\q<m then some z else xs[q]? :=by
 have hi:(xs.take l).length=l:=by rw[aA];omega
 unfold wq
 by_cases c1:q<l
 ·rw[if_neg (by omega),List.getElem?_append_left (by omega),List.getElem?_take,if_pos c1]
 ·rw[List.getElem?_append_right (by omega),hi]
  by_cases c2:q<m
  ·rw[if_pos (by omega),List.getElem?_append_left (by rw[List.length_replicate];omega),List.getElem?_replicate,if_pos (by omega)]
  ·rw[if_neg (by omega),List.getElem?_append_right (by rw[List.length_replicate];omega),List.length_replicate,List.getElem?_drop];congr 1;omega
theorem EO {α:Type} {E T:TypeId} {R:Rep α} {z:Value} {zd:α} {n b:Nat} {x:Operand} {g ofs cap len l m c:Nat} {a:Addr} {xs:List α} (hSh:R.Sh) (hC:Cpy R R) (hT:P.underlying T=some (.slice E)) (hE:TZ P E z n b) (hn:0<n) (hR:R.size=n) (hzs:z.cells.size=n) (hzd:R.rd I z.cells.toList zd)
  (ho:o.op= .call { callee:=.builtin .clear,args:= #[x],argTypes:= #[T] }) (hx:ev x= .slice (some a) (m - l) c) (ha:l<m->a=⟨g,ofs+l*n,none⟩) (hl:l<=m) (hm:m<=xs.length) :
  OpT P I w0 o ev [Ch.own (af E R) [.slice (some ⟨g,ofs,none⟩) len cap] xs] (fun _=>True) (fun _=>[Ch.own (af E R) [.slice (some ⟨g,ofs,none⟩) len cap] (wq xs l m zd)]):=by
 intro w C hs
 obtain ⟨rfl,r1,r2,cur,r3,r4,hat⟩:=BX hSh hR hs
 by_cases hlm:l=m
 ·subst hlm
  rw[Nat.sub_self] at hx
  rw[oK ho hx (rk w T E o.type hT _ _)]
  refine ⟨trivial,?_⟩
  have:wq xs l l zd=xs:=by simp[wq]
  rw[this];exact hs
 ·have hlt:l<m:=by omega
  rw[ha hlt] at hx
  have m1:xs.length*n<=cap*n:=Nat.mul_le_mul_right _ r1
  have m3:(m - l)*n=m*n - l*n:=Nat.sub_mul _ _ _
  have m4:l*n<=m*n:=Nat.mul_le_mul_right _ hl
  have m5:m*n<=xs.length*n:=Nat.mul_le_mul_right _ hm
  have hcl:(cur.toList.drop ofs).length=cur.size - ofs:=by rw[aR,Array.length_toList]
  have hL:(Builtin.zeroCells z.cells (m - l)).toList.length=(m - l)*n:=by rw[pO,hzs]
  have hone: ∀v∈(Builtin.zeroCells z.cells (m - l)).toList,v.oneCell'=true:=by
   intro v hv'
   simp only[Builtin.zeroCells,Array.toList_map,List.mem_map] at hv'
   obtain ⟨q,-,rfl⟩:=hv'
   have hq:q % z.cells.size<z.cells.size:=Nat.mod_lt _ (by omega)
   rw[getElem!_pos z.cells _ hq]
   exact R.rd_one hzd _ (by simp)
  have hrun:=zt (P:=P) w T E o.type z hT (hE.run_zero w) g (ofs+l*n) (m - l) c (by omega) (fun q hq=>by
   rw[hL] at hq
   rw[Nat.add_assoc,wo r3,List.getElem?_eq_getElem (by rw[hcl];omega)];rfl) (fun q _=>by simp[World.frozen?,r3]) hone
  rw[oK ho hx hrun]
  have hsl:=xi (xs:=xs) (z:=zd) hl hm
  have hxl:=(hs.hd 0 rfl).2
  have:=GQ (zs:=wq xs l m zd) hSh hC hR (p:=l) (cnt:=m - l) hL (by omega) (by omega) (by omega) (fun q u hq=>by
   rw[EN hl hm] at hq
   by_cases c1:l<=q/\q<m
   ·rw[if_pos c1] at hq
    obtain rfl:=ae hq
    refine .inl ⟨c1.1,by omega,z.cells.toList,by rw[Array.length_toList,hzs],fun t ht=>?_,hzd⟩
    rw[<-hzs,vk (by omega) (by omega)]
   ·rw[if_neg c1] at hq
    exact .inr ⟨by omega,hq⟩) hs
  rw[hsl] at this
  exact ⟨trivial,this⟩
end
end D
namespace R
open Go.RowKit
open D
theorem Vw.hd {u v:Value} {k n:Nat} {l m:Int} (h:Vw u v k n l m): ∃a c,u= .slice a (m.toNat - l.toNat) c/\0<=l/\l<=m:=by
 rcases h with ⟨-,rfl,-,rfl,rfl⟩ | ⟨g,ofs,cap,x,-,rfl,h1,h2,-⟩
 ·exact ⟨_,_,rfl,Int.le_refl _,Int.le_refl _⟩
 ·exact ⟨_,_,rfl,h1,h2⟩
theorem Vw.one {u v:Value} {k n:Nat} {l m:Int} (h:Vw u v k n l m):u.oneCell'=true:=by
 obtain ⟨a,c,rfl,_⟩:=h.hd;rfl
theorem zu {I:Hp} {w0 w:World} {C:List Ch} {α:Type} {E:TypeId} {R:Rep α} {v:Value} {xs:List α} {k:Nat} (h:St I w0 w (Ch.own (af E R) [v] xs::C)):Vw v v k xs.length 0 xs.length:=by
 obtain ⟨hb,hi,F,⟨G,K,rfl,⟨hl,e2⟩,e3⟩,h4,h5⟩:=h
 rcases e2 with ⟨hv,rfl,rfl⟩ | ⟨g,ofs,cap,cur,K1,hv,k1,k2,k3,k4,rfl,k5⟩
 ·obtain rfl:v= .slice none 0 0:=by simpa using hv
  exact .inl ⟨rfl,rfl,rfl,rfl,rfl⟩
 ·obtain rfl:v= .slice (some ⟨g,ofs,none⟩) xs.length cap:=by simpa using hv
  exact .inr ⟨g,ofs,cap,0,rfl,by simp,by omega,by omega,k2,by omega,Nat.zero_le _,.inr (by simp)⟩
theorem MQ {I:Hp} {w0 w:World} {C:List Ch} {α:Type} {E:TypeId} {R:Rep α} {u v:Value} {xs:List α} {k n:Nat} {l m:Int} (h:St I w0 w (Ch.own (af E R) [v] xs::C)) (hv:Vw u v k n l m):n=xs.length:=by
 have h1:=zu (k:=k) h
 rcases hv with ⟨rfl,-,rfl,-,-⟩ | ⟨g,ofs,cap,x,rfl,-,-⟩ <;> rcases h1 with ⟨e,-,q,-,-⟩ | ⟨g',ofs',cap',x',e,-,-⟩
 ·exact q.symm
 ·cases e
 ·cases e
 ·injection e
theorem PS {u v w:Value} {k n:Nat} {l m a c:Int} (h:Vw u v k n l m) (h1:0<=a) (h2:a<=c) (h3:l+c<=(n:Int)\/c<=m - l) {ao:Option Addr} {len cap:Nat} (hu:u= .slice ao len cap) (hw:w=sliced ao a.toNat c.toNat cap k):Vw w v k n (l+a) (l+c):=by
 rcases h with ⟨rfl,rfl,rfl,rfl,rfl⟩ | ⟨g,ofs,cp,x,rfl,rfl,q1,q2,q3,q4,q5,q6⟩
 ·obtain rfl:a=0:=by simp only[Int.zero_add] at h3;omega
  obtain rfl:c=0:=by simp only[Int.zero_add] at h3;omega
  injection hu with e1 e2 e3
  subst e1;subst e3
  exact .inl ⟨rfl,by rw[hw];simp[sliced],rfl,rfl,rfl⟩
 ·injection hu with e1 e2 e3
  subst e1;subst e3
  subst hw
  have t1:(l+a).toNat=l.toNat+a.toNat:=by omega
  have t2:(l+c).toNat - (l+a).toNat=c.toNat - a.toNat:=by omega
  have t3:(l.toNat+a.toNat)*k=l.toNat*k+a.toNat*k:=Nat.add_mul _ _ _
  by_cases hc:cp - l.toNat=a.toNat
  ·refine .inr ⟨g,ofs,cp,x,rfl,?_,by omega,by omega,q3,by omega,by rw[t1,t3];omega,.inl (by omega)⟩
   simp only[sliced,hc,if_true,t2]
   congr 1;omega
  ·refine .inr ⟨g,ofs,cp,x+a.toNat*k,rfl,?_,by omega,by omega,q3,by omega,by rw[t1,t3];omega,?_⟩
   ·simp only[sliced,hc,if_false,t2,Option.map_some,Addr.add_mid,Nat.add_assoc]
    congr 1;omega
   ·rcases q6 with q6 | q6
    ·exfalso;omega
    ·right;rw[t1,t3,q6]
def oI (ev:Operand->Value):Option Operand->Option Int->Prop
 | none,none=>True
 | some x,some m=>ev x= .int .i64 m
 | _,_=>False
section
variable {P:Program} {I:Hp} {w0:World} {o:Oper} {ev:Operand->Value}
theorem BZ {t e:TypeId} {x:Operand} {lo hi:Option Operand} {ml mh:Option Int} {ao:Option Addr} {len cap n:Nat} {agg:Bool} (hT:P.underlying t=some (.slice e)) (hE:TI P e agg n) (ho:o.op= .slice t x lo hi none) (hx:ev x= .slice ao len cap) (hl:oI ev lo ml) (hh:oI ev hi mh) (hlc:len<=cap)
  (h1:0<=ml.getD 0) (h2:ml.getD 0<=mh.getD len) (h3:mh.getD len<=(cap:Int)) :
  OpT P I w0 o ev [] (· =sliced ao (ml.getD 0).toNat (mh.getD len).toNat cap n) (fun _=>[]):=by
 have he:P.elem t=e:=by simp[Program.elem,hT]
 have hT':P.underlying t=some (.slice (P.elem t)):=by rw[he];exact hT
 refine bm fun w=>?_
 have hs:=TI.size hE w
 rw[<-he] at hs
 cases lo with
 | none =>
  cases ml with
  | some _=>exact hl.elim
  | none =>
   cases hi with
   | none =>
    cases mh with
    | some _=>exact hh.elim
    | none =>
     simp only[execOp,ho,hx,Option.map_some,Option.map_none,Sem.run_bind,run_sliceAt_slice w t _ _ _ _ hT',run_slice_all w t ao len cap hT',hs,Result.andThen_ok]
     simp
   | some hi =>
    cases mh with
    | none=>exact hh.elim
    | some mh =>
     have hh:ev hi= .int .i64 mh:=hh
     simp only[execOp,ho,hx,Option.map_some,Option.map_none,hh,Sem.run_bind,run_sliceAt_slice w t _ _ _ _ hT',run_slice_h w t ao len cap hT' .i64 mh (by simp at h1 h2;omega) h3,hs,Result.andThen_ok]
     rfl
 | some lo =>
  cases ml with
  | none=>exact hl.elim
  | some ml =>
   have hl:ev lo= .int .i64 ml:=hl
   cases hi with
   | none =>
    cases mh with
    | some _=>exact hh.elim
    | none =>
     simp only[execOp,ho,hx,Option.map_some,Option.map_none,hl,Sem.run_bind,run_sliceAt_slice w t _ _ _ _ hT',run_slice_l w t ao len cap hT' .i64 ml h1 h2,hs,Result.andThen_ok]
     rfl
   | some hi =>
    cases mh with
    | none=>exact hh.elim
    | some mh =>
     have hh:ev hi= .int .i64 mh:=hh
     simp only[execOp,ho,hx,Option.map_some,Option.map_none,hl,hh,Sem.run_bind,run_sliceAt_slice w t _ _ _ _ hT',run_slice_lh w t ao len cap hT' .i64 .i64 ml mh h1 h2 h3,hs,Result.andThen_ok]
     rfl
theorem J6 {t e:TypeId} {x y z q:Operand} {ml mh mx:Int} {ao:Option Addr} {len cap n:Nat} {agg:Bool} (hT:P.underlying t=some (.slice e)) (hE:TI P e agg n) (ho:o.op= .slice t x (some y) (some z) (some q)) (hx:ev x= .slice ao len cap) (hl:ev y= .int .i64 ml) (hh:ev z= .int .i64 mh) (hq:ev q= .int .i64 mx)
  (h1:0<=ml) (h2:ml<=mh) (h3:mh<=mx) (h4:mx<=(cap:Int)) :
  OpT P I w0 o ev [] (fun _=>True) (fun _=>[]):=by
 have he:P.elem t=e:=by simp[Program.elem,hT]
 have hT':P.underlying t=some (.slice (P.elem t)):=by rw[he];exact hT
 refine OpT.weak (bm (v:=sliced ao ml.toNat mh.toNat mx.toNat n) fun w=>?_) (fun _ _=>trivial) (fun _ _=>rfl)
 have hs:=TI.size hE w
 rw[<-he] at hs
 simp only[execOp,ho,hx,Option.map_some,hl,hh,hq,Sem.run_bind,run_sliceAt_slice w t _ _ _ _ hT',run_slice_lhm w t ao len cap hT' .i64 .i64 .i64 ml mh mx h1 h2 h3 h4,hs,Result.andThen_ok]
 rfl
end
def PT:(t:Ty)->List Value->Option t.den
 | .raw,[v] =>if h:v.oneCell'=true then some (⟨v,h⟩:Raw) else none
 | .prod .raw b,v::cs=>if h:v.oneCell'=true then (PT b cs).bind fun d=>some ((⟨v,h⟩:Raw),d) else none
 | _,_=>none
theorem PU {J:Hp} : ∀ {t:Ty} {cs:List Value} {d:t.den},PT t cs=some d->t.rep.rd J cs d:=by
 intro t
 induction t with
 | raw =>
  intro cs d h
  match cs,h with
  | [],h=>cases h
  | _::_::_,h=>cases h
  | [v],h =>
   by_cases hv':v.oneCell'=true
   ·have h:(if h:v.oneCell'=true then some (⟨v,h⟩:Raw) else none)=some d:=h
    rw[dif_pos hv'] at h
    obtain rfl:=ae h;rfl
   ·have h:(if h:v.oneCell'=true then some (⟨v,h⟩:Raw) else none)=some d:=h
    rw[dif_neg hv'] at h;cases h
 | prod a b iha ihb =>
  intro cs d h
  cases a with
  | raw =>
   cases cs with
   | nil=>cases h
   | cons v cs =>
    unfold PT at h
    split at h
    ·obtain ⟨d',hd,h⟩:=Option.bind_eq_some_iff.1 h
     obtain rfl:=ae h
     exact ⟨[v],cs,rfl,rfl,ihb hd⟩
    ·cases h
  | _=>cases cs <;> cases h
 | _=>intro cs d h;cases cs <;> cases h
def PV (e t:Ty):Option t.den:=match mU e t (CM e) with
 | some z=>some z
 | none=>PT t (zeroCells e)
theorem II {e t:Ty} {z:t.den} (h:PV e t=some z) (J:Hp):t.rep.rd J (zeroCells e) z:=by
 unfold PV at h
 split at h
 ·rename_i hz
  obtain rfl:=ae h
  exact gR hz (oJ e J)
 ·exact PU h
structure Vb where
 x:Bool
 h:Hdr
 k:Nat
 l:Int
 m:Int
 r:Row
section
variable {Y:Type} (tt:TT) (s:Sg) (k:Res->Option Y)
def V7 (chs:List Ent) (x:Operand):Option Vb:=match opd s x with
 | some (.one (.own h))=>(rowOf h chs).bind fun r=>some ⟨false,h,r.t.size,0,(r.xs.length:Int),r⟩
 | some (.vw u h k n l m)=>(rowOf h chs).bind fun r=>bR (Nat.beq k r.t.size) (some ⟨false,h,k,l,m,r⟩)
 | some (.xv top u h k n l m)=>match rowOf u chs with
  | some r=>bR (Nat.beq k r.t.size) (some ⟨false,u,k,0,(r.xs.length:Int),r⟩)
  | none=>(rowOf h chs).bind fun r=>bR (Nat.beq k r.t.size) (some ⟨true,h,k,l,m,r⟩)
 | _=>none
def OU (x:Operand):Option Vb:=V7 s s.chs x
def loV (x:Option Operand) (d:Int) (k:Int->Option Y):Option Y:=match x with
 | none=>k d
 | some x=>(asI s x).bind k
def C9 (T:TypeId) (x:Operand) (lo hi:Option Operand):Option Y:=(td tt T).bind fun d=>d.el.bind fun E'=>(td tt E').bind fun e=>(OU s x).bind fun b=>bR (Nat.beq e.n b.k) (loV s lo 0 fun ml=>loV s hi (b.m - b.l) fun mh =>
 match b.x with
 | false=>(chk (0<=ml/\ml<=mh/\b.l+mh<=(b.r.xs.length:Int))).bind fun _=>k ⟨[b.r.ent b.h],[],b.r.rest,[],.vw ⟨s.nxt,[]⟩ b.h b.k b.r.xs.length (b.l+ml) (b.l+mh)⟩
 | true=>(chk (0<=ml/\ml<=mh/\mh<=b.m - b.l)).bind fun _=>k ⟨[b.r.ent b.h],[],b.r.rest,[],.xv false ⟨s.nxt,[]⟩ b.h b.k b.r.xs.length (b.l+ml) (b.l+mh)⟩)
def MR (T:TypeId) (x y z q:Operand):Option Y:=(td tt T).bind fun d=>d.el.bind fun E'=>(td tt E').bind fun e=>(OU s x).bind fun b=>bR (Nat.beq e.n b.k) ((asI s y).bind fun ml=>(asI s z).bind fun mh=>(asI s q).bind fun mx =>
 (chk (0<=ml/\ml<=mh/\mh<=mx/\b.l+mx<=(b.r.xs.length:Int))).bind fun _=>k ⟨[b.r.ent b.h],[],b.r.rest,[],.any ⟨s.nxt,[]⟩⟩)
def T8 (T:TypeId) (x:Operand):Option Y:=(td tt T).bind fun d=>match d.el,opd s x with
 | some _,some (.vw u h k' n l m)=>k (.pure s (.one (.val (.int .i64 (m - l)))))
 | some _,some (.xv _ u h k' n l m)=>k (.pure s (.one (.val (.int .i64 (m - l)))))
 | _,_=>none
def GR (T:TypeId) (x i:Operand):Option Y:=(td tt T).bind fun d=>d.el.bind fun E=>(td tt E).bind fun e=>(OU s x).bind fun b=>bR (Nat.beq e.n b.k) ((asI s i).bind fun i=>(chk (0<=i/\i<b.m - b.l)).bind fun _=>(aT b.r.xs (b.l+i)).bind fun a=>k ⟨[b.r.ent b.h],[],b.r.rest,[],.elo b.h b.r.ver b.r.E b.r.t b.r.xs a (b.l+i) 0⟩)
def V8 (T:TypeId) (x y:Operand):Option Y:=(td tt T).bind fun d=>d.el.bind fun E=>(td tt E).bind fun e=>e.bytes.bind fun _=>(OU s x).bind fun b=>(OU s y).bind fun c =>
 bR (Nat.beq e.n b.k&&Hdr.beq c.h b.h&&Nat.beq b.r.E E&&b.r.t.sh) ((chk (b.l=0/\b.m<=c.l/\c.l<=c.m/\c.m<=(b.r.xs.length:Int))).bind fun _=>k ⟨[],[b.r.ent b.h],b.r.rest,[(b.h,.own (.sl b.r.E b.r.t) (oh b.r.xs b.m.toNat c.l.toNat c.m.toNat))],.vw ⟨s.nxt,[]⟩ b.h b.k b.r.xs.length 0 (b.m+(c.m - c.l))⟩)
def MS (T:TypeId) (x:Operand):Option Y:=(td tt T).bind fun d=>d.el.bind fun E=>(td tt E).bind fun e=>e.bytes.bind fun _=>(OU s x).bind fun b =>
 bR (Nat.beq e.n b.k&&Nat.beq b.r.E E&&b.r.t.sh) ((PV e.ty b.r.t).bind fun z=>(chk (b.l<=b.m/\b.m<=(b.r.xs.length:Int))).bind fun _=>k ⟨[],[b.r.ent b.h],b.r.rest,[(b.h,.own (.sl b.r.E b.r.t) (wq b.r.xs b.l.toNat b.m.toNat z))],.any ⟨s.nxt,[]⟩⟩)
end
section
variable {Y:Type} {tt:TT} {s:Sg} {k:Res->Option Y} {P:Program} {w0:World} {o:Oper} {res:Y} {x y:Operand}
theorem GS {chs:List Ent} {b:Vb} (h:V7 s chs x=some b):rowOf b.h chs=some b.r/\b.k=b.r.t.size/\ ∀ {J:Hp} {θ:Th},Fine P w0 J θ s-> ∀ {w:World} {C:List Ch} {xs:List b.r.t.den},xs.length=b.r.xs.length->St J w0 w (Ch.own (af b.r.E b.r.t.rep) [hv θ b.h] xs::C)->Vw (evL (envL θ s) x) (hv θ b.h) b.k b.r.xs.length b.l b.m:=by
 unfold V7 at h
 split at h
 ·rename_i hh hx
  obtain ⟨r,hr,h⟩:=bind_some h
  obtain rfl:=ae h
  refine ⟨hr,rfl,fun {J θ} hf {w C xs} hl hs=>?_⟩
  have h1:=zu (k:=r.t.size) hs
  rw[hl] at h1
  show Vw (evL (envL θ s) x) (hv θ hh) r.t.size r.xs.length 0 _
  rw[aF (θ:=θ) hx]
  exact h1
 ·rename_i u hh k' n l m hx
  obtain ⟨r,hr,h⟩:=bind_some h
  obtain ⟨hk,h⟩:=aj h
  have hk:=au hk
  obtain rfl:=ae h
  refine ⟨hr,hk,fun {J θ} hf {w C xs} hl hs=>?_⟩
  have hxo:u.id<s.nxt/\hh.id<s.nxt/\Vw (hv θ u) (hv θ hh) k' n l m/\m<=(n:Int):=bO hf hx
  have h1:=hxo.2.2.1
  obtain rfl:=MQ hs h1
  show Vw (evL (envL θ s) x) (hv θ hh) k' r.xs.length l m
  rw[aF (θ:=θ) hx,<-hl]
  exact h1
 ·rename_i top u hh k' n l m hx
  split at h
  ·rename_i r hr
   obtain ⟨hk,h⟩:=aj h
   have hk:=au hk
   obtain rfl:=ae h
   refine ⟨hr,hk,fun {J θ} hf {w C xs} hl hs=>?_⟩
   have h1:=zu (k:=k') hs
   rw[hl] at h1
   show Vw (evL (envL θ s) x) (hv θ u) k' r.xs.length 0 _
   rw[aF (θ:=θ) hx]
   exact h1
  ·obtain ⟨r,hr,h⟩:=bind_some h
   obtain ⟨hk,h⟩:=aj h
   have hk:=au hk
   obtain rfl:=ae h
   refine ⟨hr,hk,fun {J θ} hf {w C xs} hl hs=>?_⟩
   have hxo:u.id<s.nxt/\hh.id<s.nxt/\Vw (hv θ u) (hv θ hh) k' n l m/\(top=true->l=0):=bO hf hx
   have h1:=hxo.2.2.1
   obtain rfl:=MQ hs h1
   show Vw (evL (envL θ s) x) (hv θ hh) k' r.xs.length l m
   rw[aF (θ:=θ) hx,<-hl]
   exact h1
 ·cases h
theorem pP {b:Vb} (h:OU s x=some b):rowOf b.h s.chs=some b.r/\b.k=b.r.t.size/\ ∀ {J:Hp} {θ:Th},Fine P w0 J θ s-> ∀ {w:World} {C:List Ch} {xs:List b.r.t.den},xs.length=b.r.xs.length->St J w0 w (Ch.own (af b.r.E b.r.t.rep) [hv θ b.h] xs::C)->Vw (evL (envL θ s) x) (hv θ b.h) b.k b.r.xs.length b.l b.m:=GS h
theorem RZ {Z:Type} {x:Option Operand} {d:Int} {k:Int->Option Z} {z:Z} (h:loV s x d k=some z): ∃m:Option Int,k (m.getD d)=some z/\ ∀θ,oI (evL (envL θ s)) x m:=by
 unfold loV at h
 split at h
 ·exact ⟨none,h,fun _=>trivial⟩
 ·obtain ⟨q,hq,h⟩:=bind_some h
  exact ⟨some q,h,fun θ=>nc hq θ⟩
theorem T9 {h:Hdr} {r:Row} {kk:Nat} {l m:Int} (hr:rowOf h s.chs=some r) (hm:m<=(r.xs.length:Int)) (hop: ∀J θ,Fine P w0 J θ s->OpT P J w0 o (evL (envL θ s)) [toCh P θ (r.ent h)] (fun v=>Vw v (hv θ h) kk r.xs.length l m) (fun _=>[toCh P θ (r.ent h)])):Good P w0 s o ⟨[r.ent h],[],r.rest,[],.vw ⟨s.nxt,[]⟩ h kk r.xs.length l m⟩:=by
 obtain ⟨hp,-⟩:=bK hr
 refine ⟨mZ hp,aQ rfl,fun J θ hf=>OpT.weak (hop J θ hf) (fun u hu=>?_) (fun u hu=>rfl)⟩
 have hok:=jG hf hp
 refine ⟨⟨ax _,aV hok.1,?_,hm⟩,de,fun g hg=>by cases hg⟩
 rw[de,show hv (upd θ s.nxt u) h=hv θ h from aZ Same.upd hok.1]
 exact hu
theorem MT {top:Bool} {h:Hdr} {r:Row} {kk:Nat} {l m:Int} (hr:rowOf h s.chs=some r) (hm:top=true->l=0) (hop: ∀J θ,Fine P w0 J θ s->OpT P J w0 o (evL (envL θ s)) [toCh P θ (r.ent h)] (fun v=>Vw v (hv θ h) kk r.xs.length l m) (fun _=>[toCh P θ (r.ent h)])):Good P w0 s o ⟨[r.ent h],[],r.rest,[],.xv top ⟨s.nxt,[]⟩ h kk r.xs.length l m⟩:=by
 obtain ⟨hp,-⟩:=bK hr
 refine ⟨mZ hp,aQ rfl,fun J θ hf=>OpT.weak (hop J θ hf) (fun u hu=>?_) (fun u hu=>rfl)⟩
 have hok:=jG hf hp
 refine ⟨⟨ax _,aV hok.1,?_,hm⟩,de,fun g hg=>by cases hg⟩
 rw[de,show hv (upd θ s.nxt u) h=hv θ h from aZ Same.upd hok.1]
 exact hu
theorem wt (hT:TTok P tt) {T:TypeId} {lo hi:Option Operand} (ho:o.op= .slice T x lo hi none) (h:C9 tt s k T x lo hi=some res):Oks P w0 s o k res:=by
 obtain ⟨d,hd,h⟩:=bind_some h
 obtain ⟨E',hE,h⟩:=bind_some h
 obtain ⟨e,he,h⟩:=bind_some h
 obtain ⟨b,hb,h⟩:=bind_some h
 obtain ⟨hn,h⟩:=aj h
 have hn:e.n=b.k:=au hn
 obtain ⟨ml,h,hml⟩:=RZ h
 obtain ⟨mh,h,hmh⟩:=RZ h
 obtain ⟨hr,hk,hvw⟩:=pP (P:=P) (w0:=w0) hb
 have key:0<=ml.getD 0->ml.getD 0<=mh.getD (b.m - b.l)->(b.l+mh.getD (b.m - b.l)<=(b.r.xs.length:Int)\/mh.getD (b.m - b.l)<=b.m - b.l)-> ∀J θ,Fine P w0 J θ s->OpT P J w0 o (evL (envL θ s)) [toCh P θ (b.r.ent b.h)] (fun v=>Vw v (hv θ b.h) b.k b.r.xs.length (b.l+ml.getD 0) (b.l+mh.getD (b.m - b.l))) (fun _=>[toCh P θ (b.r.ent b.h)]):=by
  intro c1 c2 c3 J θ hf w C hs
  have h1:=hvw hf rfl hs
  obtain ⟨ao,cap,hu,hl0,hlm⟩:=h1.hd
  have hcap:b.m.toNat - b.l.toNat<=cap/\b.l+cap≥b.r.xs.length:=by
   rcases h1 with ⟨-,q,e1,e2,e3⟩ | ⟨g,ofs,cp,x',-,q,q1,q2,q3,q4,q5,q6⟩
   ·rw[q] at hu;injection hu with _ _ e4
    exact ⟨by omega,by omega⟩
   ·rw[q] at hu;injection hu with _ _ e4
    exact ⟨by omega,by omega⟩
  have e1:mh.getD (b.m - b.l)=mh.getD ((b.m.toNat - b.l.toNat:Nat):Int):=by
   cases mh with
   | none=>show b.m - b.l=_;simp only[Option.getD_none];omega
   | some _=>rfl
  rw[e1] at c2 c3
  have:=BZ (P:=P) (I:=J) (w0:=w0) (ev:=evL (envL θ s)) ((hT.get hd).el _ hE) (hT.get he).ti ho hu (hml θ) (hmh θ) hcap.1 c1 c2 (by omega) w (toCh P θ (b.r.ent b.h)::C) hs
  refine this.imp fun v w' hv'=>⟨?_,hv'.2⟩
  rw[e1]
  exact PS h1 c1 c2 c3 hu (by rw[hv'.1,hn])
 split at h
 ·obtain ⟨u,hc,h⟩:=bind_some h
  obtain ⟨c1,c2,c3⟩:=bw hc
  exact ⟨_,h,T9 hr c3 (key c1 c2 (.inl c3))⟩
 ·obtain ⟨u,hc,h⟩:=bind_some h
  obtain ⟨c1,c2,c3⟩:=bw hc
  exact ⟨_,h,MT hr (fun e=>by cases e) (key c1 c2 (.inr c3))⟩
theorem J7 (hT:TTok P tt) {T:TypeId} {y z q:Operand} (ho:o.op= .slice T x (some y) (some z) (some q)) (h:MR tt s k T x y z q=some res):Oks P w0 s o k res:=by
 obtain ⟨d,hd,h⟩:=bind_some h
 obtain ⟨E',hE,h⟩:=bind_some h
 obtain ⟨e,he,h⟩:=bind_some h
 obtain ⟨b,hb,h⟩:=bind_some h
 obtain ⟨hn,h⟩:=aj h
 obtain ⟨ml,hml,h⟩:=bind_some h
 obtain ⟨mh,hmh,h⟩:=bind_some h
 obtain ⟨mx,hmx,h⟩:=bind_some h
 obtain ⟨u,hc,h⟩:=bind_some h
 obtain ⟨c1,c2,c3,c4⟩:=bw hc
 obtain ⟨hr,hk,hvw⟩:=pP (P:=P) (w0:=w0) hb
 obtain ⟨hp,-⟩:=bK hr
 refine ⟨_,h,mZ hp,aQ rfl,fun J θ hf=>OpT.weak (fact:=fun _=>True) (gv:=fun _=>[toCh P θ (b.r.ent b.h)]) (fun w C hs=>?_) (fun u hu=>⟨ax _,de,fun g hg=>by cases hg⟩) (fun u hu=>rfl)⟩
 have h1:=hvw hf rfl hs
 obtain ⟨ao,cap,hu,hl0,hlm⟩:=h1.hd
 have hcap:b.l+cap≥b.r.xs.length:=by
  rcases h1 with ⟨-,q,e1,e2,e3⟩ | ⟨g,ofs,cp,x',-,q,q1,q2,q3,q4,q5,q6⟩
  ·rw[q] at hu;injection hu with _ _ e4
   omega
  ·rw[q] at hu;injection hu with _ _ e4
   omega
 exact J6 (P:=P) (I:=J) (w0:=w0) (ev:=evL (envL θ s)) ((hT.get hd).el _ hE) (hT.get he).ti ho hu (nc hml θ) (nc hmh θ) (nc hmx θ) c1 c2 c3 (by omega) w (toCh P θ (b.r.ent b.h)::C) hs
theorem IJ (hT:TTok P tt) {T:TypeId} (ho:o.op= .call { callee:=.builtin .len,args:= #[x],argTypes:= #[T] }) (h:T8 tt s k T x=some res):Oks P w0 s o k res:=by
 obtain ⟨d,hd,h⟩:=bind_some h
 split at h
 ·rename_i E u hh k' n l m he hx
  refine jT h rfl fun J θ hf=>?_
  have hxo:u.id<s.nxt/\hh.id<s.nxt/\Vw (hv θ u) (hv θ hh) k' n l m/\m<=(n:Int):=bO hf hx
  obtain ⟨a,c,e,h1,h2⟩:=hxo.2.2.1.hd
  have e2:((m.toNat - l.toNat:Nat):Int)=m - l:=by omega
  have:=uS (P:=P) (I:=J) (w0:=w0) (o:=o) (ev:=evL (envL θ s)) ((hT.get hd).el _ he) ho ((aF (θ:=θ) hx).trans e)
  rw[e2] at this
  exact this
 ·rename_i E top u hh k' n l m he hx
  refine jT h rfl fun J θ hf=>?_
  have hxo:u.id<s.nxt/\hh.id<s.nxt/\Vw (hv θ u) (hv θ hh) k' n l m/\(top=true->l=0):=bO hf hx
  obtain ⟨a,c,e,h1,h2⟩:=hxo.2.2.1.hd
  have e2:((m.toNat - l.toNat:Nat):Int)=m - l:=by omega
  have:=uS (P:=P) (I:=J) (w0:=w0) (o:=o) (ev:=evL (envL θ s)) ((hT.get hd).el _ he) ho ((aF (θ:=θ) hx).trans e)
  rw[e2] at this
  exact this
 ·cases h
theorem B0 (hT:TTok P tt) {T:TypeId} {i:Operand} (ho:o.op= .indexAddr T x i) (h:GR tt s k T x i=some res):Oks P w0 s o k res:=by
 obtain ⟨d,hd,h⟩:=bind_some h
 obtain ⟨E',hE,h⟩:=bind_some h
 obtain ⟨e,he,h⟩:=bind_some h
 obtain ⟨b,hb,h⟩:=bind_some h
 obtain ⟨hn,h⟩:=aj h
 have hn:e.n=b.k:=au hn
 obtain ⟨iv,hi,h⟩:=bind_some h
 obtain ⟨u,hc,h⟩:=bind_some h
 obtain ⟨c1,c2⟩:=bw hc
 obtain ⟨a,ha,h⟩:=bind_some h
 obtain ⟨hr,hk,hvw⟩:=pP (P:=P) (w0:=w0) hb
 obtain ⟨hp,-⟩:=bK hr
 refine ⟨_,h,mZ hp,aQ rfl,fun J θ hf=>OpT.weak (fact:=(· =pt (hv θ b.h) ((b.l+iv).toNat*b.r.t.size+0))) (gv:=fun _=>[toCh P θ (b.r.ent b.h)]) (fun w C hs=>?_) (fun u hu=>?_) (fun u hu=>rfl)⟩
 ·have h1:=hvw hf rfl hs
  have hT2:=(hT.get hd).el _ hE
  have hti:=(hT.get he).ti
  rcases h1 with ⟨-,q,e1,e2,e3⟩ | ⟨g,ofs,cp,x',q0,q,q1,q2,q3,q4,q5,q6⟩
  ·exfalso;omega
  ·have hx':x'=b.l.toNat*b.k:=by
    rcases q6 with q6 | q6
    ·exfalso;omega
    ·exact q6
   subst hx'
   have hval:pt (hv θ b.h) ((b.l+iv).toNat*b.r.t.size+0)= .pointer (some ⟨g,ofs+b.l.toNat*b.k+iv.toNat*e.n,none⟩):=by
    rw[q0]
    show Value.pointer (some ⟨g,ofs+((b.l+iv).toNat*b.r.t.size+0),none⟩)=_
    rw[show (b.l+iv).toNat=b.l.toNat+iv.toNat from by omega,<-hk,hn,Nat.add_mul]
    congr 3;omega
   rw[hval]
   have h2:iv<((b.m.toNat - b.l.toNat:Nat):Int):=by omega
   have:OpT P J w0 o (evL (envL θ s)) [] (· = .pointer (some ⟨g,ofs+b.l.toNat*b.k+iv.toNat*e.n,none⟩)) (fun _=>[]):=by
    refine bm fun w=>?_
    simp[execOp,ho,q,nc hi θ,Instr.indexAt,asIntOf,run_underlying hT2,hti.run_size,c1,h2,Result.andThen,Addr.add_mid]
   exact this w (toCh P θ (b.r.ent b.h)::C) hs
 ·have hok:=jG hf hp
  refine ⟨⟨aV hok.1,ha,(uZ hr hok.2.1).newer (Res.newer (mZ hp) (aQ rfl J θ hf)) (Nat.le_succ _)⟩,?_,fun g hg=>by cases hg⟩
  rw[hu]
  show pt (hv (upd θ s.nxt _) b.h) _=pt (hv θ b.h) _
  rw[show hv (upd θ s.nxt _) b.h=hv θ b.h from aZ Same.upd hok.1]
theorem Da {h:Hdr} {r:Row} {xs:List r.t.den} {av:AV} {fact:Th->Value->Prop} (hr:rowOf h s.chs=some r) (hop: ∀J θ,Fine P w0 J θ s->OpT P J w0 o (evL (envL θ s)) [toCh P θ (r.ent h)] (fact θ) (fun _=>[Ch.own (af r.E r.t.rep) [hv θ h] xs]))
  (hav: ∀J θ u,Fine P w0 J θ s->fact θ u->h.id<s.nxt->av.ok P w0 J (upd θ s.nxt u) (s.nxt+1) ((h,s.nxt,.own (.sl r.E r.t) xs)::r.rest)/\av.v (upd θ s.nxt u)=u):Good P w0 s o ⟨[],[r.ent h],r.rest,[(h,.own (.sl r.E r.t) xs)],av⟩:=by
 obtain ⟨hp,-⟩:=bK hr
 refine ⟨Be hp,aQ rfl,fun J θ hf=>OpT.weak (hop J θ hf) (fun u hu=>?_) (fun u hu=>?_)⟩
 ·have hok:=jG hf hp
  obtain ⟨q1,q2⟩:=hav J θ u hf hu hok.1
  refine ⟨q1,q2,fun g hg=>?_⟩
  obtain rfl:=aq hg
  exact ⟨aV hok.1,ax _,trivial⟩
 ·have hok:=jG hf hp
  show [Ch.own _ [hv θ h] xs] = [Ch.own _ [hv (upd θ s.nxt u) h] xs]
  rw[show hv (upd θ s.nxt u) h=hv θ h from aZ Same.upd hok.1]
  rfl
theorem PW (hT:TTok P tt) {T:TypeId} (ho:o.op= .call { callee:=.builtin .append,args:= #[x,y],argTypes:= #[T,T] }) (h:V8 tt s k T x y=some res):Oks P w0 s o k res:=by
 obtain ⟨d,hd,h⟩:=bind_some h
 obtain ⟨E,hE,h⟩:=bind_some h
 obtain ⟨e,he,h⟩:=bind_some h
 obtain ⟨by_,hby,h⟩:=bind_some h
 obtain ⟨b,hb,h⟩:=bind_some h
 obtain ⟨c,hcv,h⟩:=bind_some h
 obtain ⟨hn,h⟩:=aj h
 simp only[ak] at hn
 obtain ⟨⟨⟨n1,n2⟩,n3⟩,n4⟩:=hn
 have n1:e.n=b.k:=au n1
 have n2:=Hdr.beq_eq n2
 have n3:b.r.E=E:=au n3
 obtain ⟨u,hc,h⟩:=bind_some h
 obtain ⟨c1,c2,c3,c4⟩:=bw hc
 obtain ⟨hr,hk,hvw⟩:=pP (P:=P) (w0:=w0) hb
 obtain ⟨hr2,hk2,hvw2⟩:=pP (P:=P) (w0:=w0) hcv
 have hcr:c.r=b.r:=by
  rw[n2] at hr2
  exact ae (hr2.symm.trans hr)
 have hk3:c.k=b.k:=by rw[hk2,hk,hcr]
 have hdk:=hT.get hd
 have hek:=hT.get he
 obtain ⟨z,hz1,hz2,hz3⟩:=hek.zero by_ hby
 have hTE:P.underlying T=some (.slice b.r.E):=(hdk.el E hE).trans (by rw[n3])
 refine ⟨_,h,Da (fact:=fun θ v=>Vw v (hv θ b.h) b.k b.r.xs.length 0 (b.m+(c.m - c.l))) hr (fun J θ hf=>fun w C hs=>?_) (fun J θ u hf hu hlt=>⟨⟨ax _,aV hlt,?_,by omega⟩,de⟩)⟩
 ·have h1:=hvw hf rfl hs
  have h2:Vw (evL (envL θ s) y) (hv θ b.h) b.k b.r.xs.length c.l c.m:=by
   have:=hvw2 hf rfl (xs:=c.r.xs) (by rw[hcr,n2];exact hs)
   rwa [hcr,n2,hk3] at this
  have hs':St J w0 w (Ch.own (af b.r.E b.r.t.rep) [hv θ b.h] b.r.xs::C):=hs
  rcases h1 with ⟨q0,q,e1,e2,e3⟩ | ⟨g,ofs,cp,x',q0,q,q1,q2,q3,q4,q5,q6⟩
  ·rcases h2 with ⟨p0,p,f1,f2,f3⟩ | ⟨g2,ofs2,cp2,y',p0,p,-⟩
   ·have hx0:b.r.xs= []:=List.eq_nil_of_length_eq_zero e1
    have hrun:(Builtin.append_ #[T,T] o.type #[.slice none 0 0,.slice none 0 0]).run P w= .ok (.slice none 0 0) w:=by
     obtain ⟨info,hi',-,-,-⟩:=info_parts hz1
     rw[<-n3] at hi'
     exact dY hTE hi' (aE _)
    rw[dh ho q p hrun]
    refine ⟨.inl ⟨q0,rfl,e1,rfl,by omega⟩,?_⟩
    have:oh b.r.xs b.m.toNat c.l.toNat c.m.toNat=b.r.xs:=by rw[hx0];simp[oh]
    rw[this]
    exact hs
   ·exfalso;rw[q0] at p0;cases p0
  ·rcases h2 with ⟨p0,p,f1,f2,f3⟩ | ⟨g2,ofs2,cp2,y',p0,p,p1,p2,p3,p4,p5,p6⟩
   ·exfalso;rw[q0] at p0;cases p0
   ·rw[q0] at p0
    simp only[Value.slice.injEq,Option.some.injEq,Addr.mk.injEq,and_true,true_and] at p0
    obtain ⟨⟨rfl,rfl⟩,rfl⟩:=p0
    have hb0:b.l.toNat=0:=by omega
    have hx0:x'=0:=by rw[hb0,Nat.zero_mul] at q5;omega
    subst hx0
    rw[hb0,Nat.sub_zero,Nat.sub_zero,Nat.add_zero] at q
    rw[q0] at hs'⊢
    have:=C8 (P:=P) (I:=J) (w0:=w0) (o:=o) (xs:=b.r.xs) (ev:=evL (envL θ s)) (Ty.sh_ok n4) (Ty.cpy n4) hTE (by rw[n3];exact hz1) (by rw[n1,hk];exact Ty.size_pos _) (b.r.t.rep_size.trans (hk.symm.trans n1.symm)) ho q p (fun hlt=>?_) (by omega) (by omega) (by omega) w C (by simpa using hs')
    ·refine this.imp fun v w' hv'=>⟨?_,hv'.2⟩
     refine .inr ⟨g,ofs,cp,0,rfl,?_,by omega,by omega,q3,by omega,Nat.zero_le _,.inr (by simp)⟩
     rw[hv'.1]
     simp only[Nat.add_zero,Int.toNat_zero,Nat.sub_zero]
     congr 1;omega
    ·rcases p6 with p6 | p6
     ·exfalso;omega
     ·rw[p6,n1]
 ·rw[de,show hv (upd θ s.nxt u) b.h=hv θ b.h from aZ Same.upd hlt]
  exact hu
theorem J8 (hT:TTok P tt) {T:TypeId} (ho:o.op= .call { callee:=.builtin .clear,args:= #[x],argTypes:= #[T] }) (h:MS tt s k T x=some res):Oks P w0 s o k res:=by
 obtain ⟨d,hd,h⟩:=bind_some h
 obtain ⟨E,hE,h⟩:=bind_some h
 obtain ⟨e,he,h⟩:=bind_some h
 obtain ⟨by_,hby,h⟩:=bind_some h
 obtain ⟨b,hb,h⟩:=bind_some h
 obtain ⟨hn,h⟩:=aj h
 simp only[ak] at hn
 obtain ⟨⟨n1,n3⟩,n4⟩:=hn
 have n1:e.n=b.k:=au n1
 have n3:b.r.E=E:=au n3
 obtain ⟨z,hz,h⟩:=bind_some h
 obtain ⟨u,hc,h⟩:=bind_some h
 obtain ⟨c3,c4⟩:=bw hc
 obtain ⟨hr,hk,hvw⟩:=pP (P:=P) (w0:=w0) hb
 have hdk:=hT.get hd
 have hek:=hT.get he
 obtain ⟨zv,hz1,hz2,hz3⟩:=hek.zero by_ hby
 have hzs:zv.cells.size=e.n:=by rw[hz2,List.size_toArray,sp,hek.sz]
 have hTE:P.underlying T=some (.slice b.r.E):=(hdk.el E hE).trans (by rw[n3])
 have hzr: ∀J,b.r.t.rep.rd J zv.cells.toList z:=fun J=>by
  rw[hz2];exact II hz J
 refine ⟨_,h,Da (fact:=fun _ _=>True) hr (fun J θ hf=>fun w C hs=>?_) (fun J θ u hf hu hlt=>⟨ax _,de⟩)⟩
 have h1:=hvw hf rfl hs
 have hs':St J w0 w (Ch.own (af b.r.E b.r.t.rep) [hv θ b.h] b.r.xs::C):=hs
 rcases h1 with ⟨q0,q,e1,e2,e3⟩ | ⟨g,ofs,cp,x',q0,q,q1,q2,q3,q4,q5,q6⟩
 ·have hx0:b.r.xs= []:=List.eq_nil_of_length_eq_zero e1
  rw[oK ho q (rk w T b.r.E o.type hTE _ _)]
  refine ⟨trivial,?_⟩
  have:wq b.r.xs b.l.toNat b.m.toNat z=b.r.xs:=by rw[hx0,e2,e3];simp[wq]
  rw[this]
  exact hs
 ·rw[q0] at hs'⊢
  exact EO (P:=P) (I:=J) (w0:=w0) (o:=o) (ev:=evL (envL θ s)) (Ty.sh_ok n4) (Ty.cpy n4) hTE (by rw[n3];exact hz1) (by rw[n1,hk];exact Ty.size_pos _) (b.r.t.rep_size.trans (hk.symm.trans n1.symm)) hzs (hzr J) ho q (fun hlt=>by
   rcases q6 with q6 | q6
   ·exfalso;omega
   ·rw[q6,n1]) (by omega) (by omega) w C hs'
end
theorem PX {α:Type} {E:TypeId} {R:Rep α} {I:Hp} {w0 w:World} {C:List Ch} {u v:Value} {xs:List α} {l m:Int} {k:Nat} (h:St I w0 w (Ch.own (af E R) [v] xs::C)) (hR:R.size=k) (hv:Vw u v k xs.length l m) (hm:m<=(xs.length:Int)):St I w0 w (Ch.own (af E R) [u] ((xs.take m.toNat).drop l.toNat)::C):=by
 obtain ⟨h1,h2,F,⟨G,K,rfl,k0,e⟩,h4,h5⟩:=h
 obtain ⟨hl,k0⟩:=k0
 rcases hv with ⟨rfl,rfl,hn,rfl,rfl⟩ | ⟨g,ofs,cap,x,rfl,rfl,q1,q2,q3,q4,q5,q6⟩
 ·have hx:xs= []:=List.eq_nil_of_length_eq_zero hn
  subst hx
  exact ⟨h1,h2,G++K,⟨G,K,rfl,⟨Nat.zero_le _,k0⟩,e⟩,h4,h5⟩
 ·rcases k0 with ⟨hv',rfl,rfl⟩ | ⟨g',ofs',cap',cur,K1,hv',k1,k2,k3,k4,rfl,k5⟩
  ·simp at hv'
  ·simp only[List.cons.injEq,Value.slice.injEq,Option.some.injEq,Addr.mk.injEq,and_true,true_and] at hv'
   obtain ⟨⟨rfl,rfl⟩,rfl⟩:=hv'
   rw[hR] at k4
   have hlm:l.toNat<=m.toNat:=by omega
   have hlen:((xs.take m.toNat).drop l.toNat).length=m.toNat - l.toNat:=by rw[aR,aA];omega
   have e1:xs=(xs.take m.toNat).take l.toNat++((xs.take m.toNat).drop l.toNat++xs.drop m.toNat):=by rw[<-ai,List.take_append_drop,List.take_append_drop]
   rw[e1] at k5
   obtain ⟨c1,c2,G1,G2,f1,f2,rfl,-,p1⟩:=k5.cut2
   obtain ⟨G3,G4,rfl,p2,-⟩:=p1.parts
   have hp:((g::(G1++(G3++G4)))++K).Perm (((g::G3)++K)++(G1++G4)):=by
    show (g::((G1++(G3++G4))++K)).Perm (g::((G3++K)++(G1++G4)))
    refine List.Perm.cons g ?_
    rw[ai,ai,ai]
    refine (List.perm_append_comm_assoc G1 G3 _).trans (List.Perm.append_left G3 ?_)
    refine (List.perm_append_comm_assoc G1 G4 K).trans ?_
    rw[<-ai]
    refine List.perm_append_comm.trans ?_
    exact List.Perm.append_left K List.perm_append_comm
   have hl1:((xs.take m.toNat).take l.toNat).length=l.toNat:=by rw[aA,aA];omega
   rw[hl1,hR] at f2
   have hdr:cur.toList.drop (ofs+l.toNat*k)=c2:=by
    rw[<-List.drop_drop,f1]
    exact List.drop_left' f2
   have hbx: ∀c,OwnEls R I w c ((xs.take m.toNat).drop l.toNat) G3->St I w0 w (Ch.own (af E R) [.slice (some ⟨g,ofs+x,none⟩) (m.toNat - l.toNat) (cap - l.toNat)] ((xs.take m.toNat).drop l.toNat)::C)\/c≠cur.toList.drop (ofs+x):=fun c hc=>by
    by_cases hcc:c=cur.toList.drop (ofs+x)
    ·subst hcc
     have m1:l.toNat*k+(cap - l.toNat)*k=cap*k:=by rw[<-Nat.add_mul];congr 1;omega
     refine .inl ⟨h1,h2,(g::G3)++K,⟨g::G3,K,rfl,⟨by rw[hlen];omega,.inr ⟨g,ofs+x,cap - l.toNat,cur,G3,by rw[hlen],k1,by rw[hlen];omega,by omega,by rw[hR];omega,rfl,hc⟩⟩,e⟩,(List.nodup_append.1 (hp.nodup_iff.1 h4)).1,fun b hb=>h5 b (hp.mem_iff.2 (aU _ hb))⟩
    ·exact .inr hcc
   rcases q6 with q6 | q6
   ·have hz:(xs.take m.toNat).drop l.toNat= []:=List.eq_nil_of_length_eq_zero (by rw[hlen];omega)
    have hG3:G3= []:=by rw[hz] at p2;exact p2
    rcases hbx (cur.toList.drop (ofs+x)) (by rw[hz,hG3];rfl) with r | r
    ·exact r
    ·exact absurd rfl r
   ·subst q6
    rw[<-hdr] at p2
    rcases hbx _ p2 with r | r
    ·exact r
    ·exact absurd rfl r
def l8 (u:Hdr):List (Nat×Nat×AV)->List (Nat×Nat×AV)
 | [] =>[]
 | (t,ver,.xv top u' h k n l m)::es=>(match Hdr.beq u' u with | true=>(t,ver,.one (.own u')) | false=>(t,ver,.xv top u' h k n l m))::l8 u es
 | (t,ver,.vw u' h k n l m)::es=>(match Hdr.beq u' u with | true=>(t,ver,.one (.own u)) | false=>(t,ver,.vw u' h k n l m))::l8 u es
 | e::es=>e::l8 u es
def PY {Y:Type} (s:Sg) (v:AV) (kk:Sg->Option Y):Option Y:=match v with
 | .xv _ u _ _ _ _ _=>kk ⟨l8 u s.env,s.chs,s.nxt+1⟩
 | .vw u h k n l m=>match rowOf h s.chs with
  | some r=>bR (Nat.beq k r.t.size) (kk ⟨l8 u s.env,(u,s.nxt,.own (.sl r.E r.t) ((r.xs.take m.toNat).drop l.toNat))::r.rest,s.nxt+1⟩)
  | none=>kk s
 | _=>kk s
def PZ {Y:Type} :List AV->Sg->(Sg->Option Y)->Option Y
 | [],s,kk=>kk s
 | v::vs,s,kk=>PY s v fun s=>PZ vs s kk
section
variable {P:Program} {I J:Hp} {w0 w:World} {F:Ch} {n:Nat} {θ:Th} {s:Sg} {a:Act}
theorem Db {u:Hdr} {N:Nat} {chs:List Ent} : ∀ {l:List (Nat×Nat×AV)},(∀e∈l,e.2.2.ok P w0 J θ N chs)->(∀e∈l8 u l,e.2.2.ok P w0 J θ N chs/\ ∃e0∈l,e0.2.1=e.2.1)/\((l8 u l).map fun e=>(e.1,e.2.2.v θ))=(l.map fun e=>(e.1,e.2.2.v θ))/\((l.Pairwise fun a b=>a.2.1≠b.2.1)->(l8 u l).Pairwise fun a b=>a.2.1≠b.2.1)
 | [],h=>⟨fun e he=>(by cases he),rfl,fun _=>List.Pairwise.nil⟩
 | e::es,h=>by
  obtain ⟨k1,k2,k3⟩:=Db (u:=u) (l:=es) fun e he=>h e (bh _ he)
  have hh:=h e (List.mem_cons_self ..)
  have fin: ∀e',e'.1=e.1->e'.2.1=e.2.1->e'.2.2.ok P w0 J θ N chs->e'.2.2.v θ=e.2.2.v θ->(∀q∈e'::l8 u es,q.2.2.ok P w0 J θ N chs/\ ∃e0∈e::es,e0.2.1=q.2.1)/\((e'::l8 u es).map fun e=>(e.1,e.2.2.v θ))=((e::es).map fun e=>(e.1,e.2.2.v θ))/\(((e::es).Pairwise fun a b=>a.2.1≠b.2.1)->(e'::l8 u es).Pairwise fun a b=>a.2.1≠b.2.1):=fun e' f1 f2 f3 f4=>by
   refine ⟨fun q hq=>?_,?_,fun hp=>?_⟩
   ·rcases az hq with rfl | hq
    ·exact ⟨f3,e,List.mem_cons_self ..,f2.symm⟩
    ·obtain ⟨r1,e0,r2,r3⟩:=k1 q hq
     exact ⟨r1,e0,bh _ r2,r3⟩
   ·rw[List.map_cons,List.map_cons,k2,f1,f4]
   ·obtain ⟨p1,p2⟩:=List.pairwise_cons.1 hp
    refine List.pairwise_cons.2 ⟨fun q hq=>?_,k3 p2⟩
    obtain ⟨r1,e0,r2,r3⟩:=k1 q hq
    rw[f2,<-r3]
    exact p1 e0 r2
  obtain ⟨t,ver,av⟩:=e
  cases av with
  | vw u' h' k' n' l' m' =>
   have hh:u'.id<N/\h'.id<N/\Vw (hv θ u') (hv θ h') k' n' l' m'/\m'<=(n':Int):=hh
   cases hb:Hdr.beq u' u with
   | true =>
    have:=Hdr.beq_eq hb
    subst this
    have e1:l8 u' ((t,ver,.vw u' h' k' n' l' m')::es)=(t,ver,.one (.own u'))::l8 u' es:=by simp[l8,hb]
    rw[e1]
    exact fin (t,ver,.one (.own u')) rfl rfl ⟨hh.1,hh.2.2.1.one⟩ rfl
   | false =>
    have e1:l8 u ((t,ver,.vw u' h' k' n' l' m')::es)=(t,ver,.vw u' h' k' n' l' m')::l8 u es:=by simp[l8,hb]
    rw[e1]
    exact fin _ rfl rfl hh rfl
  | xv top u' h' k' n' l' m' =>
   have hh:u'.id<N/\h'.id<N/\Vw (hv θ u') (hv θ h') k' n' l' m'/\(top=true->l'=0):=hh
   cases hb:Hdr.beq u' u with
   | true =>
    have:=Hdr.beq_eq hb
    subst this
    have e1:l8 u' ((t,ver,.xv top u' h' k' n' l' m')::es)=(t,ver,.one (.own u'))::l8 u' es:=by simp[l8,hb]
    rw[e1]
    exact fin (t,ver,.one (.own u')) rfl rfl ⟨hh.1,hh.2.2.1.one⟩ rfl
   | false =>
    have e1:l8 u ((t,ver,.xv top u' h' k' n' l' m')::es)=(t,ver,.xv top u' h' k' n' l' m')::l8 u es:=by simp[l8,hb]
    rw[e1]
    exact fin _ rfl rfl hh rfl
  | _=>exact fin _ rfl rfl hh rfl
theorem P0 {Y:Type} {kk:Sg->Option Y} {y:Y} {v:AV} (h:PY s v kk=some y) (hv':v.ok P w0 J θ s.nxt s.chs) (hS:Sim P I w0 F n J θ s a w): ∃s',kk s'=some y/\Sim P I w0 F n J θ s' a w/\Newer s.nxt s.chs s'.chs/\s.nxt<=s'.nxt:=by
 have base:Sim P I w0 F n J θ s a w/\Newer s.nxt s.chs s.chs/\s.nxt<=s.nxt:=⟨hS,Newer.rfl,aE _⟩
 unfold PY at h
 split at h
 ·rename_i top u hh k N l m
  obtain ⟨q1,q2,q3⟩:=Db (u:=u) (P:=P) (w0:=w0) (J:=J) (θ:=θ) (N:=s.nxt) (chs:=s.chs) hS.fine.env
  refine ⟨_,h,⟨hS.le,?_,hS.st,fun e he=>AV.ok_same Same.rfl (Nat.le_succ _) Newer.rfl (q1 e he).1 Hp.le.rfl,fun e he=>?_,q3 hS.fine.nd,fun e he=>fh Same.rfl (Nat.le_succ _) Newer.rfl (hS.fine.chs e he) Hp.le.rfl,hS.fine.lay⟩,Newer.rfl,Nat.le_succ _⟩
  ·show Agr n a ((l8 u s.env).map _);rw[q2];exact hS.agr
  ·obtain ⟨-,e0,r1,r2⟩:=q1 e he
   rw[<-r2];exact aV (hS.fine.ver e0 r1)
 ·rename_i u hh k N l m
  have hvo:u.id<s.nxt/\hh.id<s.nxt/\Vw (hv θ u) (hv θ hh) k N l m/\m<=(N:Int):=hv'
  split at h
  ·rename_i r hr
   obtain ⟨hk,h⟩:=aj h
   have hk:=au hk
   obtain ⟨hp,-⟩:=bK hr
   obtain ⟨q1,q2,q3⟩:=Db (u:=u) (P:=P) (w0:=w0) (J:=J) (θ:=θ) (N:=s.nxt) (chs:=s.chs) hS.fine.env
   have hst:=hS.st.perm ((hp.map (toCh P θ)).append_right [F])
   have hst:St J w0 w (Ch.own (af r.E r.t.rep) [hv θ hh] r.xs::(r.rest.map (toCh P θ)++ [F])):=hst
   have hN:=MQ hst hvo.2.2.1
   subst hN
   have hst2:=PX hst (r.t.rep_size.trans hk.symm) hvo.2.2.1 hvo.2.2.2
   have hnew:Newer s.nxt s.chs ((u,s.nxt,.own (.sl r.E r.t) ((r.xs.take m.toNat).drop l.toNat))::r.rest):=fun e he h' ver' c hs'=>by
    rcases az he with rfl | he
    ·obtain ⟨rfl,hs'⟩:=hs'
     rcases hs' with ⟨rfl,rfl⟩ | hs'
     ·exact .inl (aE _)
     ·exact hs'.elim
    ·exact .inr ⟨e,hp.mem_iff.2 (bh _ he),hs'⟩
   refine ⟨_,h,⟨hS.le,?_,hst2,fun e he=>AV.ok_same Same.rfl (Nat.le_succ _) hnew (q1 e he).1 Hp.le.rfl,fun e he=>?_,q3 hS.fine.nd,fun e he=>?_,hS.fine.lay⟩,hnew,Nat.le_succ _⟩
   ·show Agr n a ((l8 u s.env).map _);rw[q2];exact hS.agr
   ·obtain ⟨-,e0,r1,r2⟩:=q1 e he
    rw[<-r2];exact aV (hS.fine.ver e0 r1)
   ·rcases az he with rfl | he
    ·exact ⟨aV hvo.1,ax _,trivial⟩
    ·exact fh Same.rfl (Nat.le_succ _) hnew (hS.fine.chs e (hp.mem_iff.2 (bh _ he))) Hp.le.rfl
  ·exact ⟨_,h,base⟩
 ·exact ⟨_,h,base⟩
theorem IK {Y:Type} {kk:Sg->Option Y} {y:Y} : ∀ {vs:List AV} {s:Sg},PZ vs s kk=some y->(∀v∈vs,v.ok P w0 J θ s.nxt s.chs)->Sim P I w0 F n J θ s a w-> ∃s',kk s'=some y/\Sim P I w0 F n J θ s' a w/\s.nxt<=s'.nxt
 | [],s,h,_,hS=>⟨s,h,hS,aE _⟩
 | v::vs,s,h,hv',hS=>by
  obtain ⟨s1,e,h1,h2,h3⟩:=P0 (show PY s v (fun s=>PZ vs s kk)=some y from h) (hv' v (List.mem_cons_self ..)) hS
  obtain ⟨s',e',k1,k2⟩:=IK (vs:=vs) e (fun x hx=>AV.ok_same Same.rfl h3 h2 (hv' x (bh _ hx)) Hp.le.rfl) h1
  exact ⟨s',e',k1,Nat.le_trans h3 k2⟩
end
end R
namespace D
open Go.RowKit
section
variable {P:Program} {I J:Hp} {w0 w w':World} {cs C:List Ch} {o:Oper} {ev:Operand->Value}
theorem J9 {dT sT ty e:TypeId} {k g o dLen dCap sLen sCap:Nat} {ao:Option Addr} {cs:List Value} (hu:P.underlying dT=some (.slice e)) (hs:(sizeOf e).run P w= .ok k w) (hn:cs.length=Nat.min sLen dLen*k)
  (hsrc:cs= [] \/ ∃a,ao=some a/\ ∀j v,cs[j]? =some v->w.cell? (a.add j)=some v) (hc: ∀j,j<cs.length->(w.cell? ⟨g,o+j,none⟩).isSome=true) (hf: ∀j,j<cs.length->w.frozen? ⟨g,o+j,none⟩=false) (h1: ∀v∈cs,v.oneCell'=true) :
  (Builtin.copy_ #[dT,sT] ty #[.slice (some ⟨g,o,none⟩) dLen dCap,.slice ao sLen sCap]).run P w= .ok (goInt (Nat.min sLen dLen)) (w.setCells g o cs):=by
 have hst:=run_storeCells_cells (P:=P) g o cs 0 w (by simpa using hc) (by simpa using hf) h1
 simp only[Nat.add_zero] at hst
 have hfc:(Builtin.firstCells k (Nat.min sLen dLen) (.slice ao sLen sCap)).run P w= .ok cs.toArray w:=by
  rcases hsrc with rfl | ⟨a,rfl,h⟩
  ·cases ao with
   | none=>rfl
   | some a=>exact run_firstCells_some (P:=P) w k _ a sLen sCap [] hn (fun j v hj=>by simp at hj)
  ·exact run_firstCells_some (P:=P) w k _ a sLen sCap cs hn h
 simp[Builtin.copy_,run_underlying hu,Builtin.lenOf,hs,hfc,hst]
theorem vl {x y:Operand} {T U:TypeId} {v u r:Value} {w w':World} (ho:o.op= .call { callee:=.builtin .copy,args:= #[x,y],argTypes:= #[T,U] }) (hx:ev x=v) (hy:ev y=u) (hr:(Builtin.copy_ #[T,U] o.type #[v,u]).run P w= .ok r w'):(execOp ev o).run P w= .ok (.value r) w':=by
 simp only[execOp,ho,resolve,invoke,builtin,Sem.run_bind,Sem.run_pure,Result.andThen_ok,List.map_toArray,List.map_cons,List.map_nil,hx,hy,hr]
theorem qq {x y:Operand} {T U:TypeId} {v u r:Value} {w w':World} (ho:o.op= .call { callee:=.builtin .append,args:= #[x,y],argTypes:= #[T,U] }) (hx:ev x=v) (hy:ev y=u) (hr:(Builtin.append_ #[T,U] o.type #[v,u]).run P w= .ok r w'):(execOp ev o).run P w= .ok (.value r) w':=by
 simp only[execOp,ho,resolve,invoke,builtin,Sem.run_bind,Sem.run_pure,Result.andThen_ok,List.map_toArray,List.map_cons,List.map_nil,hx,hy,hr]
def vY {α:Type} (xs:List α) (p:Nat) (ys:List α):List α:=xs.take p++(ys++xs.drop (p+ys.length))
theorem nf {α:Type} {xs ys:List α} {p:Nat} (hp:p<=xs.length):(vY xs p ys).length=max xs.length (p+ys.length):=by
 simp only[vY,aw,aA,aR];omega
theorem vm {α:Type} {xs ys:List α} {p q:Nat} (hp:p<=xs.length):(vY xs p ys)[q]? =if p<=q/\q<p+ys.length then ys[q - p]? else xs[q]? :=by
 have hi:(xs.take p).length=p:=by rw[aA];omega
 unfold vY
 by_cases c1:q<p
 ·rw[if_neg (by omega),List.getElem?_append_left (by omega),List.getElem?_take,if_pos c1]
 ·rw[List.getElem?_append_right (by omega),hi]
  by_cases c2:q<p+ys.length
  ·rw[if_pos (by omega),List.getElem?_append_left (by omega)]
  ·rw[if_neg (by omega),List.getElem?_append_right (by omega),List.getElem?_drop];congr 1;omega
def RdCells {α:Type} (R:Rep α) (I:Hp) (k:Nat) (news:List Value) (ys:List α):Prop:=news.length=ys.length*k/\ ∀(i:Nat) y,ys[i]? =some y-> ∃c:List Value,c.length=k/\(∀j,j<k->news[i*k+j]? =c[j]?)/\R.rd I c y
theorem RdCells.one {α:Type} {R:Rep α} {k:Nat} {news:List Value} {ys:List α} (hk:0<k) (h:RdCells R I k news ys): ∀u∈news,u.oneCell'=true:=by
 intro u hu
 obtain ⟨q,hq⟩:=List.getElem?_of_mem hu
 have hq':=(List.getElem?_eq_some_iff.1 hq).1
 rw[h.1] at hq'
 have hqn:q / k<ys.length:=by rw[Nat.div_lt_iff_lt_mul hk];exact hq'
 obtain ⟨c,c1,c2,c3⟩:=h.2 _ _ (List.getElem?_eq_getElem hqn)
 have:=c2 (q % k) (Nat.mod_lt _ hk)
 rw[Nat.div_add_mod',hq] at this
 exact R.rd_one c3 u (List.mem_of_getElem? this.symm)
theorem EP {α:Type} {R:Rep α} {xs:List α} {cur:Array Value} {ofs k j m:Nat} (hm:m<=xs.length) (hcap:ofs+xs.length*k<=cur.size) (hj:j<=m) (hat: ∀(i:Nat) x,xs[i]? =some x-> ∃c:List Value,c.length=k/\(∀j,j<k->(cur.toList.drop ofs)[i*k+j]? =c[j]?)/\R.rd I c x):RdCells R I k (rj cur ofs k j m) ((xs.take m).drop j):=by
 have hl:((xs.take m).drop j).length=m - j:=by rw[aR,aA];omega
 refine ⟨by rw[hl];exact sw hcap hj hm,fun i y hy=>?_⟩
 have hi:i<m - j:=by rw[<-hl];exact (List.getElem?_eq_some_iff.1 hy).1
 rw[List.getElem?_drop,List.getElem?_take,if_pos (by omega)] at hy
 obtain ⟨c,c1,c2,c3⟩:=hat _ _ hy
 refine ⟨c,c1,fun q hq=>?_,c3⟩
 have e1:i*k+k<=(m - j)*k:=by rw[<-Nat.succ_mul];exact Nat.mul_le_mul_right _ (by omega)
 rw[kO (by omega),<-c2 q hq,Nat.add_mul]
 congr 1;omega
theorem P1 {α:Type} {E:TypeId} {R:Rep α} (hSh:R.Sh) (hC:Cpy R R) {k:Nat} (hk:0<k) (hR:R.size=k) {g ofs n cap p:Nat} {xs ys:List α} {news:List Value} (hn:RdCells R I k news ys) (hp:p<=xs.length) (hfit:p+ys.length<=cap) (hlim:p+ys.length<=lim)
  (h:St I w0 w (Ch.own (af E R) [.slice (some ⟨g,ofs,none⟩) n cap] xs::C)):St I w0 (w.setCells g (ofs+p*k) news) (Ch.own (af E R) [.slice (some ⟨g,ofs,none⟩) (vY xs p ys).length cap] (vY xs p ys)::C):=by
 obtain ⟨rfl,r1,r2,-⟩:=BX hSh hR h
 have hl:=nf (xs:=xs) (ys:=ys) hp
 have hxl:=(h.hd 0 rfl).2
 refine GQ hSh hC hR (p:=p) (cnt:=ys.length) hn.1 hfit (by rw[hl];omega) (by rw[hl];omega) (fun q u hq=>?_) h
 rw[vm hp] at hq
 by_cases c1:p<=q/\q<p+ys.length
 ·rw[if_pos c1] at hq
  obtain ⟨c,d1,d2,d3⟩:=hn.2 _ _ hq
  exact .inl ⟨c1.1,c1.2,c,d1,d2,d3⟩
 ·rw[if_neg c1] at hq
  exact .inr ⟨by omega,hq⟩
theorem Ka {α:Type} {E:TypeId} {R:Rep α} (hC:Cpy R R) {k:Nat} (hR:R.size=k) {g cap:Nat} {cells:List Value} {xs:List α} (hcap:xs.length<=cap) (hmx:cap<=maxLen) (hl:cap*k<=cells.length) (hlim:xs.length<=lim) (hel: ∀(i:Nat) x,xs[i]? =some x-> ∃c:List Value,c.length=k/\(∀j,j<k->cells[i*k+j]? =c[j]?)/\R.rd I c x)
  (h:St I w0 w (Ch.blk g cells E::C)):St I w0 w (Ch.own (af E R) [.slice (some ⟨g,0,none⟩) xs.length cap] xs::C):=by
 obtain ⟨hb,hi,F,⟨G,K,rfl,⟨rfl,e2⟩,e3⟩,h4,h5⟩:=h
 refine ⟨hb,hi,[g] ++K,⟨[g],K,rfl,⟨hlim,.inr ⟨g,0,cap,cells.toArray,[],rfl,e2,hcap,hmx,?_,rfl,zr hC fun i x hx=>?_⟩⟩,e3⟩,h4,h5⟩
 ·rw[hR];simpa using hl
 ·rw[hR]
  obtain ⟨c,c1,c2,c3⟩:=hel i x hx
  exact ⟨c,c1,fun j hj=>by rw[<-c2 j hj];simp,c3⟩
theorem zw {T U ty E:TypeId} {z:Value} {n b:Nat} {kn:IntKind} (hT:P.underlying T=some (.slice E)) (hU:P.underlying U=some (.int kn)) (hE:TZ P E z n b) {a:Addr} {i cap q:Nat} {old:List Value} (hn:0<n) (hq:0<q) (hroom:cap<i+q) (hbig:(i+q)*b<=140737488355328) (hb:1<=b)
  (hl:old.length=i*n) (hold: ∀j v,old[j]? =some v->w.cell? (a.add j)=some v) :
  ∃c,i+q<=c/\c<=maxLen/\(Builtin.append_ #[T,U] ty #[.slice (some a) i cap,.int .i64 q]).run P w= .ok (.slice (some ⟨w.heap.size,0,none⟩) (i+q) c) (w.drew.alloc (.cells (old.toArray++Builtin.zeroCells z.cells q++Builtin.zeroCells z.cells (c - (i+q))) E)):=by
 obtain ⟨info,hi',hz,hsize,hby⟩:=info_parts hE
 have h0:(i+q)*1<=(i+q)*b:=Nat.mul_le_mul_left _ hb
 have h1:q*b<=(i+q)*b:=Nat.mul_le_mul_right _ (by omega)
 have hw:i64.wrap (q:Int)=q:=by rw[IntKind.wrap_i64];omega
 have h63': ¬(9223372036854775807<((i:Int)+(q:Int))):=by omega
 have hnx:=growslice_fits (bytes:=b) hroom hbig
 have h48': ¬(281474976710656<Builtin.nextslicecap (i+q) cap*b):=by omega
 have h48i: ¬(281474976710656<(q:Int)*(b:Int)):=by
  rw[<-Int.natCast_mul];omega
 have hneg: ¬((q:Int)<0):=by omega
 have hns: ¬(q*n=0):=Nat.mul_ne_zero (by omega) (by omega)
 have hnr: ¬(i+q<=cap):=by omega
 have hfc:(Builtin.firstCells n i (.slice (some a) i cap)).run P w.drew= .ok old.toArray w.drew:=run_firstCells_some (P:=P) w.drew n i a i cap old hl (fun j v hj=>hold j v hj)
 refine ⟨grownCap w (i+q) cap E,grownCap_ge w _ _ _,grownCap_le_maxLen w _ _ _ (by unfold maxLen;omega),?_⟩
 simp[Builtin.append_,run_underlying hT,run_underlying hU,sizeOf,typeInfo,zeroValue,hi',hz,hsize,hby,asInt,asIntOf,hw,hneg,hns,hnr,h63',h48',h48i,Question.forced,hfc,newRow,grownCap]
end
end D
namespace R
open Go.RowKit
open D
open Classical in
noncomputable def zx {Y:Type} (n:Nat) (f:Nat->Option Y):Option Y:=if h: ∃y,∀c,n<=c->c<=maxLen->f c=some y then some h.choose else none
theorem ER {Y:Type} {n:Nat} {f:Nat->Option Y} {y:Y} (h:zx n f=some y): ∀c,n<=c->c<=maxLen->f c=some y:=by
 unfold zx at h
 split at h
 ·rename_i hh
  have:=hh.choose_spec
  rw[ae h] at this
  exact this
 ·cases h
theorem Kb {Y:Type} {n:Nat} {f:Nat->Option Y} {y:Y} (hn:n<=maxLen) (h: ∀c,n<=c->c<=maxLen->f c=some y):zx n f=some y:=by
 unfold zx
 have hh: ∃y,∀c,n<=c->c<=maxLen->f c=some y:=⟨y,h⟩
 rw[dif_pos hh]
 have h1:=hh.choose_spec n (aE _) hn
 rw[h n (aE _) hn] at h1
 exact h1.symm
theorem Dc: ∃F:(Y:Type)->Nat->(Nat->Option Y)->Option Y,(∀Y n f y,F Y n f=some y-> ∀c,n<=c->c<=maxLen->f c=some y)/\ ∀Y n f y,n<=maxLen->(∀c,n<=c->c<=maxLen->f c=some y)->F Y n f=some y:=
 ⟨fun Y n f=>zx n f,fun Y n f y h=>ER h,fun Y n f y hn h=>Kb hn h⟩
noncomputable def IL {Y:Type} (n:Nat) (f:Nat->Option Y):Option Y:=Classical.choose Dc Y n f
theorem GT {Y:Type} {n:Nat} {f:Nat->Option Y} {y:Y} (h:IL n f=some y): ∀c,n<=c->c<=maxLen->f c=some y:=(Classical.choose_spec Dc).1 Y n f y h
theorem MU {Y:Type} {n:Nat} {f:Nat->Option Y} {y:Y} (hn:n<=maxLen) (h: ∀c,n<=c->c<=maxLen->f c=some y):IL n f=some y:=(Classical.choose_spec Dc).2 Y n f y hn h
def Ua (tt:TT) (s:Sg) (o:Oper):Option (Hdr×Row):=match o.op with
 | .call c=>match c.callee,c.args.toList,c.argTypes.toList with
  | .builtin .cap,[x],[T] =>(td tt T).bind fun d=>d.el.bind fun _=>match opd s x with
   | some (.one (.own h))=>(rowOf h s.chs).bind fun r=>some (h,r)
   | _=>none
  | _,_,_=>none
 | _=>none
def R0 (q:Hdr×Row) (c:Nat):Res:=⟨[q.2.ent q.1],[],q.2.rest,[],.capv q.1 c⟩
theorem ES {P:Program} {o:Oper} {ev:Operand->Value} {x:Operand} {T:TypeId} {v r:Value} {w w':World} (ho:o.op= .call { callee:=.builtin .cap,args:= #[x],argTypes:= #[T] }) (hx:ev x=v) (hr:(Builtin.cap_ #[T] o.type #[v]).run P w= .ok r w'):(execOp ev o).run P w= .ok (.value r) w':=by
 simp only[execOp,ho,resolve,invoke,builtin,Sem.run_bind,Sem.run_pure,Result.andThen_ok,List.map_toArray,List.map_cons,List.map_nil,hx,hr]
theorem wu {α:Type} {E:TypeId} {R:Rep α} {I:Hp} {w0 w:World} {C:List Ch} {v:Value} {xs:List α} (h:St I w0 w (Ch.own (af E R) [v] xs::C)): ∃a,v= .slice a xs.length (K8 v)/\xs.length<=K8 v/\K8 v<=maxLen:=by
 obtain ⟨hb,hi,F,⟨G,K,rfl,⟨hl,e2⟩,e3⟩,h4,h5⟩:=h
 rcases e2 with ⟨hv,rfl,rfl⟩ | ⟨g,ofs,cap,cur,K1,hv,k1,k2,k3,k4,rfl,k5⟩
 ·obtain rfl:v= .slice none 0 0:=by simpa using hv
  exact ⟨_,rfl,aE _,Nat.zero_le _⟩
 ·obtain rfl:v= .slice (some ⟨g,ofs,none⟩) xs.length cap:=by simpa using hv
  exact ⟨_,rfl,k2,k3⟩
section
variable {tt:TT} {s:Sg} {P:Program} {I J:Hp} {w0 w:World} {F:Ch} {n:Nat} {θ:Th} {a:Act} {o:Oper}
theorem P2 (hT:TTok P tt) {q:Hdr×Row} (h:Ua tt s o=some q) (hS:Sim P I w0 F n J θ s a w):q.2.xs.length<=K8 (hv θ q.1)/\K8 (hv θ q.1)<=maxLen/\GoodA P w0 J θ s o (R0 q (K8 (hv θ q.1))):=by
 unfold Ua at h
 split at h
 ·rename_i c ho
  split at h
  ·rename_i x T h1 h2 h3
   obtain ⟨d,hd,h⟩:=bind_some h
   obtain ⟨E,hE,h⟩:=bind_some h
   split at h
   ·rename_i hh hx
    obtain ⟨r,hr,h⟩:=bind_some h
    obtain rfl:=ae h
    obtain ⟨hp,-⟩:=bK hr
    have hst:=hS.st.perm ((hp.map (toCh P θ)).append_right [F])
    have hst:St J w0 w (Ch.own (af r.E r.t.rep) [hv θ hh] r.xs::(r.rest.map (toCh P θ)++ [F])):=hst
    obtain ⟨ad,c1,c2,c3⟩:=wu hst
    refine ⟨c2,c3,mZ hp,aQ rfl J θ hS.fine,?_⟩
    have hok:=jG hS.fine hp
    have ho':o.op= .call { callee:=.builtin .cap,args:= #[x],argTypes:= #[T] }:=by
     obtain ⟨cal,args,tys⟩:=c
     have h1:cal= .builtin .cap:=h1
     have h2:args.toList= [x]:=h2
     have h3:tys.toList= [T]:=h3
     rw[ho,h1,show args= #[x] from Array.ext' h2,show tys= #[T] from Array.ext' h3]
    have hTE:=(hT.get hd).el E hE
    have he:P.elem T=E:=by simp[Program.elem,hTE]
    refine OpT.weak (fact:=(· = .int .i64 (K8 (hv θ hh)))) (gv:=fun _=>[toCh P θ (r.ent hh)]) (fun w C hs=>?_) (fun u hu=>⟨⟨aV hok.1,?_⟩,?_,fun g hg=>by cases hg⟩) (fun u hu=>rfl)
    ·have hrun:(Builtin.cap_ #[T] o.type #[hv θ hh]).run P w= .ok (goInt (K8 (hv θ hh))) w:=by
      rw[c1]
      exact run_cap_slice (P:=P) w T o.type _ _ _ (by rw[he];exact hTE)
     rw[ES ho' (aF hx) hrun]
     exact ⟨rfl,hs⟩
    ·show K8 (hv (upd θ s.nxt u) hh)=_
     rw[show hv (upd θ s.nxt u) hh=hv θ hh from aZ Same.upd hok.1]
    ·exact hu.symm
   ·cases h
  ·cases h
 ·cases h
end
def B1 (h:Hdr):List (Nat×Nat×AV)->Option Nat
 | [] =>none
 | (_,_,.capv h' c)::es=>if Hdr.beq h' h then some c else B1 h es
 | _::es=>B1 h es
theorem zy {P:Program} {w0:World} {J:Hp} {θ:Th} {n:Nat} {chs:List Ent} {h:Hdr} {c:Nat} : ∀ {l:List (Nat×Nat×AV)},B1 h l=some c->(∀e∈l,e.2.2.ok P w0 J θ n chs)->K8 (hv θ h)=c
 | (t,ver,av)::es,hc,hl=>by
  have ih:=fun hc=>zy (l:=es) (h:=h) (c:=c) hc fun e he=>hl e (bh _ he)
  have hh:=hl (t,ver,av) (List.mem_cons_self ..)
  unfold B1 at hc
  split at hc
  ·rename_i heq;cases heq
  ·rename_i h' c' es' heq
   injection heq with e1 e2
   injection e1 with e3 e4
   injection e4 with e5 e6
   subst e2;subst e6
   split at hc
   ·rename_i hb
    have:=Hdr.beq_eq hb
    subst this
    obtain rfl:=ae hc
    exact hh.2
   ·exact ih hc
  ·rename_i heq
   injection heq with e1 e2
   subst e2
   exact ih hc
def MV (h:Hdr):List (Nat×Nat×AV)->Option (Hdr×Int)
 | [] =>none
 | (_,_,.xv true u h' _ _ _ m)::es=>if Hdr.beq h' h then some (u,m) else MV h es
 | _::es=>MV h es
theorem IM {P:Program} {w0:World} {J:Hp} {θ:Th} {n:Nat} {chs:List Ent} {h:Hdr} {q:Hdr×Int} : ∀ {l:List (Nat×Nat×AV)},MV h l=some q->(∀e∈l,e.2.2.ok P w0 J θ n chs)->q.1.id<n/\ ∃k N,Vw (hv θ q.1) (hv θ h) k N 0 q.2
 | (t,ver,av)::es,hc,hl=>by
  have ih:=fun hc=>IM (l:=es) (h:=h) (q:=q) hc fun e he=>hl e (bh _ he)
  have hh:=hl (t,ver,av) (List.mem_cons_self ..)
  unfold MV at hc
  split at hc
  ·rename_i heq;cases heq
  ·rename_i u h' kk nn ll mm es' heq
   injection heq with e1 e2
   injection e1 with e3 e4
   injection e4 with e5 e6
   subst e2;subst e6
   split at hc
   ·rename_i hb
    have:=Hdr.beq_eq hb
    subst this
    obtain rfl:=ae hc
    obtain ⟨q1,q2,q3,q4⟩:=hh
    have q4:=q4 rfl
    subst q4
    exact ⟨q1,_,_,q3⟩
   ·exact ih hc
  ·rename_i heq
   injection heq with e1 e2
   subst e2
   exact ih hc
section
variable {Y:Type} (tt:TT) (s:Sg) (k:Res->Option Y)
def Ub (b:BinOp) (x y:Operand):Option Y:=match opd s x,opd s y with
 | some (.one (.val (.int .i64 m))),some (.capv _ c)=>bR (Vz b) (kv s k (.bool (Xa b m (c:Int))))
 | _,_=>none
def MW (T:TypeId) (x hi:Operand):Option Y:=(td tt T).bind fun d=>d.el.bind fun E'=>(td tt E').bind fun e=>match opd s x with
 | some (.one (.own h))=>(rowOf h s.chs).bind fun r=>bR (Nat.beq e.n r.t.size) ((asI s hi).bind fun m=>(B1 h s.env).bind fun c=>(chk ((r.xs.length:Int)<=m/\m<=(c:Int))).bind fun _=>k ⟨[r.ent h],[],r.rest,[],.xv true ⟨s.nxt,[]⟩ h r.t.size r.xs.length 0 m⟩)
 | _=>none
def V9 (T U:TypeId) (x y:Operand):Option Y:=(td tt T).bind fun d=>d.el.bind fun E=>(td tt E).bind fun e=>e.bytes.bind fun by_=>(td tt U).bind fun f=>f.ik.bind fun ik=>(OU s x).bind fun b=>(asI s y).bind fun q =>
 bR (Nat.beq e.n b.k&&Nat.beq b.r.E E&&b.r.t.sh&&ik.isSome && !b.x) ((PV e.ty b.r.t).bind fun z=>(B1 b.h s.env).bind fun c =>
 (chk (b.l=0/\b.m<=(b.r.xs.length:Int)/\0<q/\(c:Int)<b.m+q/\(b.m+q)*(by_:Int)<=140737488355328)).bind fun _=>k ⟨[b.r.ent b.h],[],b.r.rest,[(⟨s.nxt,[]⟩,.own (.sl b.r.E b.r.t) (b.r.xs.take b.m.toNat++List.replicate q.toNat z))],.one (.own ⟨s.nxt,[]⟩)⟩)
def vZ (b c:Vb):Int:=min (c.m - c.l) (b.m - b.l)
def xV {α:Type} (xs:List α) (l:Int) (cnt:Int):List α:=(xs.take (l+cnt).toNat).drop l.toNat
def Wa (b c:Vb):Option Y:=(chk (0<=c.l/\0<=vZ b c/\c.l+vZ b c<=(b.r.xs.length:Int)/\0<=b.l/\b.l<=(b.r.xs.length:Int))).bind fun _=>match b.x with
 | false=>(chk (b.m<=(b.r.xs.length:Int))).bind fun _=>k ⟨[],[b.r.ent b.h],b.r.rest,[(b.h,.own (.sl b.r.E b.r.t) (vY b.r.xs b.l.toNat (xV b.r.xs c.l (vZ b c))))],.one (.val (.int .i64 (vZ b c)))⟩
 | true=>(MV b.h s.env).bind fun q=>(chk (b.l+vZ b c=q.2/\(b.r.xs.length:Int)<=q.2)).bind fun _=>k ⟨[],[b.r.ent b.h],b.r.rest,[(q.1,.own (.sl b.r.E b.r.t) (vY b.r.xs b.l.toNat (xV b.r.xs c.l (vZ b c))))],.one (.val (.int .i64 (vZ b c)))⟩
def Wb (b c:Vb):Option Y:=(mV (.sl c.r.E c.r.t) (.sl b.r.E b.r.t) c.r.xs).bind fun ys=>(chk (0<=c.l/\0<=vZ b c/\c.l+vZ b c<=(ys.length:Int)/\0<=b.l/\b.l<=(b.r.xs.length:Int)/\b.m<=(b.r.xs.length:Int))).bind fun _ =>
 k ⟨[c.r.ent c.h],[b.r.ent b.h],c.r.rest,[(b.h,.own (.sl b.r.E b.r.t) (vY b.r.xs b.l.toNat (xV ys c.l (vZ b c))))],.one (.val (.int .i64 (vZ b c)))⟩
def MX (T:TypeId) (x y:Operand):Option Y:=(td tt T).bind fun d=>d.el.bind fun E=>(td tt E).bind fun e=>(OU s x).bind fun b=>(OU s y).bind fun c=>bR (Nat.beq e.n b.k&&Nat.beq c.k b.k&&Nat.beq b.r.E E&&b.r.t.sh) (match Hdr.beq c.h b.h with
 | true=>Wa s k b c
 | false=>(V7 s b.r.rest y).bind fun c=>bR (Nat.beq c.k b.k) (Wb k b c))
def Uc (x y:Operand):Option Y:=match opd s x with
 | some (.one (.own h))=>(rowOf h s.chs).bind fun r=>(V7 s r.rest y).bind fun c=>(chk (0<r.xs.length/\c.l<c.m)).bind fun _=>k ⟨[r.ent h,c.r.ent c.h],[],c.r.rest,[],.one (.val (.bool false))⟩
 | _=>none
end
section
variable {Y:Type} {tt:TT} {s:Sg} {k:Res->Option Y} {P:Program} {w0:World} {o:Oper} {res:Y} {x y:Operand}
theorem P3 {b:BinOp} {t u:TypeId} (ho:o.op= .binOp b t x y u) (h:Ub s k b x y=some res):Oks P w0 s o k res:=by
 unfold Ub at h
 split at h
 ·rename_i m hh c hx hy
  obtain ⟨hb,h⟩:=aj h
  exact jT h rfl fun J θ hf=>tP ho (aF hx) (aF hy) hb rfl
 ·cases h
theorem Kc (hT:TTok P tt) {T:TypeId} {hi:Operand} (ho:o.op= .slice T x none (some hi) none) (h:MW tt s k T x hi=some res):Oks P w0 s o k res:=by
 obtain ⟨d,hd,h⟩:=bind_some h
 obtain ⟨E',hE,h⟩:=bind_some h
 obtain ⟨e,he,h⟩:=bind_some h
 split at h
 ·rename_i hh hx
  obtain ⟨r,hr,h⟩:=bind_some h
  obtain ⟨hn,h⟩:=aj h
  have hn:e.n=r.t.size:=au hn
  obtain ⟨m,hm,h⟩:=bind_some h
  obtain ⟨c,hc,h⟩:=bind_some h
  obtain ⟨u,hk,h⟩:=bind_some h
  obtain ⟨c1,c2⟩:=bw hk
  refine ⟨_,h,MT hr (fun _=>rfl) fun J θ hf=>fun w C hs=>?_⟩
  have hst:St J w0 w (Ch.own (af r.E r.t.rep) [hv θ hh] r.xs::C):=hs
  have hcv:=zy hc hf.env
  obtain ⟨ad,e1,e2,e3⟩:=wu hst
  rw[hcv] at e1 e2
  have:=BZ (P:=P) (I:=J) (w0:=w0) (ev:=evL (envL θ s)) (lo:=none) (hi:=some hi) (ml:=none) (mh:=some m) ((hT.get hd).el _ hE) (hT.get he).ti ho ((aF (θ:=θ) hx).trans e1) trivial (nc hm θ) e2 (Int.le_refl _) (by show (0:Int)<=m;omega) c2 w (toCh P θ (r.ent hh)::C) hs
  refine this.imp fun v w' hv'=>⟨?_,hv'.2⟩
  have h1:=zu (k:=r.t.size) hst
  rcases h1 with ⟨q0,-,q1,-,-⟩ | ⟨g,ofs,cp,x',q0,-,-⟩
  ·have h0:c=0:=by rw[q0] at hcv;exact hcv.symm
   refine .inl ⟨q0,?_,q1,rfl,by omega⟩
   rw[q0] at e1
   injection e1 with f1 f2 f3
   obtain rfl:m=0:=by omega
   rw[hv'.1,<-f1,h0]
   simp[sliced]
  ·rw[q0] at e1⊢
   injection e1 with f1 f2 f3
   refine .inr ⟨g,ofs,cp,0,rfl,?_,Int.le_refl _,by omega,by omega,by omega,Nat.zero_le _,.inr (by simp)⟩
   rw[hv'.1,<-f1,<-f3]
   simp[sliced,Addr.add_mid]
 ·cases h
theorem P4 (hT:TTok P tt) {T U:TypeId} (ho:o.op= .call { callee:=.builtin .append,args:= #[x,y],argTypes:= #[T,U] }) (h:V9 tt s k T U x y=some res):Oks P w0 s o k res:=by
 obtain ⟨d,hd,h⟩:=bind_some h
 obtain ⟨E,hE,h⟩:=bind_some h
 obtain ⟨e,he,h⟩:=bind_some h
 obtain ⟨by_,hby,h⟩:=bind_some h
 obtain ⟨f,hf',h⟩:=bind_some h
 obtain ⟨ik,hik,h⟩:=bind_some h
 obtain ⟨b,hb,h⟩:=bind_some h
 obtain ⟨q,hq,h⟩:=bind_some h
 obtain ⟨hn,h⟩:=aj h
 simp only[ak] at hn
 obtain ⟨⟨⟨⟨n1,n3⟩,n4⟩,n5⟩,n6⟩:=hn
 have n1:e.n=b.k:=au n1
 have n3:b.r.E=E:=au n3
 obtain ⟨z,hz,h⟩:=bind_some h
 obtain ⟨c,hc,h⟩:=bind_some h
 obtain ⟨u,hk',h⟩:=bind_some h
 obtain ⟨c1,c2,c3,c4,c5⟩:=bw hk'
 obtain ⟨hr,hk,hvw⟩:=pP (P:=P) (w0:=w0) hb
 obtain ⟨hp,-⟩:=bK hr
 obtain ⟨kn,hkn⟩:=Option.isSome_iff_exists.1 n5
 have hTU:P.underlying U=some (.int kn):=(hT.get hf').ik (some kn) (by rw[hik,hkn])
 have hdk:=hT.get hd
 have hek:=hT.get he
 obtain ⟨zv,hz1,hz2,hz3⟩:=hek.zero by_ hby
 have hzs:zv.cells.size=e.n:=by rw[hz2,List.size_toArray,sp,hek.sz]
 have hTE:P.underlying T=some (.slice b.r.E):=(hdk.el E hE).trans (by rw[n3])
 have hz1':TZ P b.r.E zv e.n by_:=by rw[n3];exact hz1
 have hzr: ∀J,b.r.t.rep.rd J zv.cells.toList z:=fun J=>by rw[hz2];exact II hz J
 have hnp:0<e.n:=by rw[n1,hk];exact Ty.size_pos _
 have hR:b.r.t.rep.size=e.n:=b.r.t.rep_size.trans (hk.symm.trans n1.symm)
 refine ⟨_,h,good_row (rs:=[b.r.ent b.h]) (ns:=[]) (mZ hp) fun J θ hf=>fun w C hs=>?_⟩
 have hst:St J w0 w (Ch.own (af b.r.E b.r.t.rep) [hv θ b.h] b.r.xs::C):=hs
 have h1:=hvw hf rfl hst
 have hcv:=zy hc hf.env
 obtain ⟨ad,e1,e2,e3⟩:=wu hst
 have hxl:=(hst.hd 0 rfl).2
 have hq0:((q.toNat:Nat):Int)=q:=by omega
 have hq1:0<q.toNat:=by omega
 have hbig:(b.m.toNat+q.toNat)*by_<=140737488355328:=by
  have:(((b.m.toNat+q.toNat)*by_:Nat):Int)=(b.m+q)*by_:=by
   rw[Int.natCast_mul,Int.natCast_add,hq0,show ((b.m.toNat:Nat):Int)=b.m from by obtain ⟨_,_,_,g1,g2⟩:=h1.hd;omega]
  omega
 have hbig1:b.m.toNat+q.toNat<=140737488355328:=by
  have:(b.m.toNat+q.toNat)*1<=(b.m.toNat+q.toNat)*by_:=Nat.mul_le_mul_left _ hz3
  omega
 have hy:evL (envL θ s) y= .int .i64 (q.toNat:Nat):=by rw[hq0];exact nc hq θ
 have fin: ∀(old:List Value) (cc:Nat),old.length=b.m.toNat*e.n->(∀(i:Nat) a,(b.r.xs.take b.m.toNat)[i]? =some a-> ∃c:List Value,c.length=e.n/\(∀j,j<e.n->old[i*e.n+j]? =c[j]?)/\b.r.t.rep.rd J c a)->b.m.toNat<=b.r.xs.length->b.m.toNat+q.toNat<=cc->cc<=maxLen->
   St J w0 (w.drew.alloc (.cells (old.toArray++Builtin.zeroCells zv.cells q.toNat++Builtin.zeroCells zv.cells (cc - (b.m.toNat+q.toNat))) b.r.E)) ((Ch.own (Ty.sl b.r.E b.r.t).rep [.slice (some ⟨w.heap.size,0,none⟩) (b.m.toNat+q.toNat) cc] (b.r.xs.take b.m.toNat++List.replicate q.toNat z):: [toCh P θ (b.r.ent b.h)])++C):=by
  intro old cc hl hel hml hcc hmx
  have hA:=(hst.drew).alloc (old++(Builtin.zeroCells zv.cells q.toNat).toList++(Builtin.zeroCells zv.cells (cc - (b.m.toNat+q.toNat))).toList) b.r.E
  have ea:(old++(Builtin.zeroCells zv.cells q.toNat).toList++(Builtin.zeroCells zv.cells (cc - (b.m.toNat+q.toNat))).toList).toArray=old.toArray++Builtin.zeroCells zv.cells q.toNat++Builtin.zeroCells zv.cells (cc - (b.m.toNat+q.toNat)):=by
   apply Array.ext';simp
  rw[ea] at hA
  have hlen:(b.r.xs.take b.m.toNat++List.replicate q.toNat z).length=b.m.toNat+q.toNat:=by rw[aw,aA,List.length_replicate];omega
  have hzl:(Builtin.zeroCells zv.cells q.toNat).toList.length=q.toNat*e.n:=by rw[pO,hzs]
  have hzl2:(Builtin.zeroCells zv.cells (cc - (b.m.toNat+q.toNat))).toList.length=(cc - (b.m.toNat+q.toNat))*e.n:=by rw[pO,hzs]
  have m1:b.m.toNat*e.n+q.toNat*e.n+(cc - (b.m.toNat+q.toNat))*e.n=cc*e.n:=by rw[<-Nat.add_mul,<-Nat.add_mul];congr 1;omega
  have:=Ka (xs:=b.r.xs.take b.m.toNat++List.replicate q.toNat z) (Ty.cpy n4) (k:=e.n) hR (by rw[hlen];exact hcc) hmx (by rw[aw,aw,hl,hzl,hzl2,m1];exact aE _) (by rw[hlen];unfold lim;omega) (fun i a ha=>by
   by_cases hi:i<b.m.toNat
   ·rw[List.getElem?_append_left (by rw[aA];omega)] at ha
    obtain ⟨c,d1,d2,d3⟩:=hel i a ha
    refine ⟨c,d1,fun j hj=>?_,d3⟩
    have m2:i*e.n+e.n<=b.m.toNat*e.n:=by rw[<-Nat.succ_mul];exact Nat.mul_le_mul_right _ hi
    rw[ai,List.getElem?_append_left (by omega)]
    exact d2 j hj
   ·have hi2:i<b.m.toNat+q.toNat:=by rw[<-hlen];exact (List.getElem?_eq_some_iff.1 ha).1
    rw[List.getElem?_append_right (by rw[aA];omega),aA,List.getElem?_replicate,if_pos (by omega)] at ha
    obtain rfl:=ae ha
    refine ⟨zv.cells.toList,by rw[Array.length_toList,hzs],fun j hj=>?_,hzr J⟩
    have m2:b.m.toNat*e.n<=i*e.n:=Nat.mul_le_mul_right _ (by omega)
    have m3:i*e.n+e.n<=(b.m.toNat+q.toNat)*e.n:=by rw[<-Nat.succ_mul];exact Nat.mul_le_mul_right _ hi2
    have m4:(b.m.toNat+q.toNat)*e.n=b.m.toNat*e.n+q.toNat*e.n:=Nat.add_mul _ _ _
    have m5:(i - b.m.toNat)*e.n=i*e.n - b.m.toNat*e.n:=Nat.sub_mul _ _ _
    rw[List.getElem?_append_left (by rw[aw,hl,hzl];omega),List.getElem?_append_right (by omega),hl,show i*e.n+j - b.m.toNat*e.n=(i - b.m.toNat)*e.n+j from by omega,<-hzs,vk (by omega) (by omega)]) hA
  rw[hlen] at this
  exact this
 rcases h1 with ⟨q0,hu,g1,g2,g3⟩ | ⟨g,ofs,cp,x',q0,hu,q1,q2,q3,q4,q5,q6⟩
 ·have hm0:b.m.toNat=0:=by omega
  obtain ⟨info,hi',hzz,hsize,hbb⟩:=info_parts hz1'
  have hrun:=Lib.run_append_nil_zeros (P:=P) w T U o.type b.r.E info zv .i64 kn hTE hTU hi' hzz q.toNat hq1 (by rw[hsize];exact hnp) (by omega) (by rw[hbb];rw[hm0,Nat.zero_add] at hbig;omega)
  rw[qq ho hu hy hrun]
  refine ⟨trivial,?_⟩
  have:=fin [] (grownCap w q.toNat 0 b.r.E) (by simp[hm0]) (fun i a ha=>by rw[hm0] at ha;simp at ha) (by omega) (by rw[hm0,Nat.zero_add];exact grownCap_ge w _ _ _) (grownCap_le_maxLen w _ _ _ (by unfold maxLen;omega))
  rw[hm0,Nat.zero_add] at this
  simpa [hm0] using this
 ·have hb0:b.l.toNat=0:=by omega
  have hx0:x'=0:=by rw[hb0,Nat.zero_mul] at q5;omega
  subst hx0
  rw[hb0,Nat.sub_zero,Nat.sub_zero,Nat.add_zero] at hu
  rw[q0] at hcv hst
  have hcp:cp=c:=hcv
  obtain ⟨-,r1,r2,cur,r3,r4,hat⟩:=BX (k:=e.n) (Ty.sh_ok n4) hR hst
  have hml:b.m.toNat<=b.r.xs.length:=by omega
  have hln:=sw (cur:=cur) (ofs:=ofs) (k:=e.n) (j:=0) (m:=b.m.toNat) (cap:=cp) r4 (Nat.zero_le _) (Nat.le_trans hml r1)
  rw[Nat.sub_zero] at hln
  obtain ⟨cc,g1,g2,hrun⟩:=zw (P:=P) (w:=w) (ty:=o.type) (a:=⟨g,ofs,none⟩) (i:=b.m.toNat) (cap:=cp) (q:=q.toNat) (old:=rj cur ofs e.n 0 b.m.toNat) hTE hTU hz1' hnp hq1 (by omega) hbig hz3 hln (fun j v hj=>by
   have hj':=(List.getElem?_eq_some_iff.1 hj).1
   rw[hln] at hj'
   rw[kO (by simpa using hj')] at hj
   simp only[Addr.add_mid]
   rw[wo r3]
   simpa using hj)
  rw[qq ho hu hy hrun]
  refine ⟨trivial,fin _ cc hln (fun i a ha=>?_) hml g1 g2⟩
  have hi:i<b.m.toNat:=by
   have:=(List.getElem?_eq_some_iff.1 ha).1
   rw[aA] at this;omega
  rw[List.getElem?_take,if_pos hi] at ha
  obtain ⟨c,d1,d2,d3⟩:=hat i a ha
  refine ⟨c,d1,fun j hj=>?_,d3⟩
  have m2:i*e.n+e.n<=b.m.toNat*e.n:=by rw[<-Nat.succ_mul];exact Nat.mul_le_mul_right _ hi
  rw[kO (by rw[Nat.sub_zero];omega),<-d2 j hj]
  simp
theorem Dd {α:Type} {xs:List α} {l cnt:Int} (h0:0<=l) (h1:0<=cnt) (h2:l+cnt<=(xs.length:Int)):(xV xs l cnt).length=cnt.toNat:=by
 unfold xV
 rw[aR,aA];omega
theorem ET {I:Hp} {w:World} {C:List Ch} {α:Type} {E:TypeId} {R:Rep α} (hSh:R.Sh) {k:Nat} (hk:0<k) (hR:R.size=k) {v u:Value} {xs:List α} {l m cnt:Int} (hst:St I w0 w (Ch.own (af E R) [v] xs::C)) (hv:Vw u v k xs.length l m) (h1:0<=cnt) (h2:l+cnt<=(xs.length:Int)) (h3:cnt<=m - l) :
  ∃ao sc news,u= .slice ao (m.toNat - l.toNat) sc/\RdCells R I k news (xV xs l cnt)/\(news= [] \/ ∃a,ao=some a/\ ∀j v,news[j]? =some v->w.cell? (a.add j)=some v):=by
 rcases hv with ⟨q0,hu,g1,g2,g3⟩ | ⟨g,ofs,cp,x',q0,hu,q1,q2,q3,q4,q5,q6⟩
 ·have hx:xs= []:=List.eq_nil_of_length_eq_zero g1
  subst hx
  refine ⟨none,0,[],by rw[hu,g2,g3];rfl,⟨by simp[xV],fun i y hy=>by simp[xV] at hy⟩,.inl rfl⟩
 ·rw[q0] at hst
  obtain ⟨-,r1,r2,cur,r3,r4,hat⟩:=BX (k:=k) hSh hR hst
  have m1:xs.length*k<=cp*k:=Nat.mul_le_mul_right _ r1
  have hrd:=EP (R:=R) (I:=I) (xs:=xs) (cur:=cur) (ofs:=ofs) (k:=k) (j:=l.toNat) (m:=(l+cnt).toNat) (by omega) (by omega) (by omega) hat
  refine ⟨_,_,rj cur ofs k l.toNat (l+cnt).toNat,hu,hrd,?_⟩
  by_cases hc:cnt=0
  ·left
   have:=hrd.1
   have e:((xs.take (l+cnt).toNat).drop l.toNat).length=0:=by rw[aR,aA];omega
   rw[e,Nat.zero_mul] at this
   exact List.eq_nil_of_length_eq_zero this
  ·right
   refine ⟨_,rfl,fun j v hj=>?_⟩
   have hx':x'=l.toNat*k:=by
    rcases q6 with q6 | q6
    ·exfalso;omega
    ·exact q6
   have hj':=(List.getElem?_eq_some_iff.1 hj).1
   have hll:(rj cur ofs k l.toNat (l+cnt).toNat).length=((l+cnt).toNat - l.toNat)*k:=sw (cap:=xs.length) (by omega) (by omega) (by omega)
   rw[hll] at hj'
   rw[kO hj'] at hj
   simp only[Addr.add_mid]
   rw[hx',Nat.add_assoc,wo r3]
   exact hj
theorem EU {I:Hp} {ev:Operand->Value} {w:World} {C:List Ch} {α:Type} {E T U:TypeId} {R:Rep α} (hSh:R.Sh) (hC:Cpy R R) {k:Nat} {agg:Bool} (hT:P.underlying T=some (.slice E)) (hE:TI P E agg k) (hk:0<k) (hR:R.size=k) {v ux:Value} {xs ys:List α} {l m l2 m2:Int} {ao:Option Addr} {sc:Nat} {news:List Value}
  (ho:o.op= .call { callee:=.builtin .copy,args:= #[x,y],argTypes:= #[T,U] }) (hx:ev x=ux) (hy:ev y= .slice ao (m2.toNat - l2.toNat) sc) (hst:St I w0 w (Ch.own (af E R) [v] xs::C)) (hv:Vw ux v k xs.length l m) (hn:RdCells R I k news ys) (hsrc:news= [] \/ ∃a,ao=some a/\ ∀j v,news[j]? =some v->w.cell? (a.add j)=some v)
  (h0:0<=l2) (h02:l2<=m2) (hys:(ys.length:Int)=min (m2 - l2) (m - l)) (hl:l<=(xs.length:Int)) :
  Upon P (fun r w'=>r= .int .i64 (min (m2 - l2) (m - l))/\ ∃u',(∀a b c,v= .slice a b c->u'= .slice a (vY xs l.toNat ys).length c)/\St I w0 w' (Ch.own (af E R) [u'] (vY xs l.toNat ys)::C)) ((execOp ev o).run P w):=by
 have hmin:((Nat.min (m2.toNat - l2.toNat) (m.toNat - l.toNat):Nat):Int)=min (m2 - l2) (m - l):=by
  obtain ⟨_,_,_,g1,g2⟩:=hv.hd
  show ((min (m2.toNat - l2.toNat) (m.toNat - l.toNat):Nat):Int)=_
  omega
 have hcnt:Nat.min (m2.toNat - l2.toNat) (m.toNat - l.toNat)=ys.length:=by omega
 rcases hv with ⟨q0,hu,g1,g2,g3⟩ | ⟨g,ofs,cp,x',q0,hu,q1,q2,q3,q4,q5,q6⟩
 ·have hxx:xs= []:=List.eq_nil_of_length_eq_zero g1
  have hy0:ys= []:=List.eq_nil_of_length_eq_zero (by rw[<-hcnt,g2,g3];exact Nat.min_zero _)
  have hrun:(Builtin.copy_ #[T,U] o.type #[.slice none 0 0,.slice ao (m2.toNat - l2.toNat) sc]).run P w= .ok (goInt 0) w:=by
   have hm0:(m2.toNat - l2.toNat).min 0=0:=Nat.min_zero _
   cases ao with
   | none=>simp[Builtin.copy_,run_underlying hT,Builtin.lenOf,TI.size hE w,Builtin.firstCells,hm0]
   | some a =>
    have h0:(loadCells a 0).run P w= .ok #[] w:=run_loadCells_list (P:=P) w a [] (by simp)
    simp[Builtin.copy_,run_underlying hT,Builtin.lenOf,TI.size hE w,Builtin.firstCells,hm0,h0]
  rw[vl ho (hx.trans hu) hy hrun]
  refine ⟨?_,v,fun a b c e=>?_,?_⟩
  ·rw[<-hmin,hcnt,hy0];rfl
  ·rw[q0] at e
   injection e with e1 e2 e3
   rw[q0,e1,<-e3,hxx,hy0];simp[vY]
  ·rw[hxx] at hst
   rw[hxx,hy0]
   have:vY ([] :List α) l.toNat [] = []:=by simp[vY]
   rw[this];exact hst
 ·rw[q0] at hst⊢
  obtain ⟨-,r1,r2,cur,r3,r4,hat⟩:=BX (k:=k) hSh hR hst
  have hfit:l.toNat+ys.length<=cp:=by omega
  have m0:(l.toNat+ys.length)*k=l.toNat*k+ys.length*k:=Nat.add_mul _ _ _
  have m1:(l.toNat+ys.length)*k<=cp*k:=Nat.mul_le_mul_right _ hfit
  have hcl:(cur.toList.drop ofs).length=cur.size - ofs:=by rw[aR,Array.length_toList]
  have hnl:=hn.1
  have hx2:x'=l.toNat*k\/ys= []:=by
   rcases q6 with q6 | q6
   ·right;exact List.eq_nil_of_length_eq_zero (by omega)
   ·exact .inl q6
  have hrun:=J9 (P:=P) (w:=w) (dT:=T) (sT:=U) (ty:=o.type) (k:=k) (g:=g) (o:=ofs+x') (dLen:=m.toNat - l.toNat) (dCap:=cp - l.toNat) (sLen:=m2.toNat - l2.toNat) (sCap:=sc) (ao:=ao) (cs:=news) hT (TI.size hE w) (by rw[hnl,hcnt]) hsrc (fun q hq=>by
   rw[hnl] at hq
   rcases hx2 with hx2 | hx2
   ·rw[hx2,Nat.add_assoc,wo r3,List.getElem?_eq_getElem (by rw[hcl];omega)];rfl
   ·rw[hx2] at hq;simp at hq) (fun q _=>by simp[World.frozen?,r3]) (hn.one hk)
  rw[vl ho (hx.trans hu) hy hrun]
  refine ⟨?_,.slice (some ⟨g,ofs,none⟩) (vY xs l.toNat ys).length cp,fun a b c e=>?_,?_⟩
  ·show goInt (Nat.min _ _)=_
   rw[<-hmin];rfl
  ·injection e with e1 e2 e3
   rw[<-e1,<-e3]
  ·have:=P1 hSh hC hk hR (p:=l.toNat) hn (by omega) hfit (by unfold lim;unfold maxLen at r2;omega) hst
   rcases hx2 with hx2 | hx2
   ·rw[hx2];exact this
   ·have hn0:news= []:=List.eq_nil_of_length_eq_zero (by rw[hnl,hx2];simp)
    rw[hn0] at this⊢
    exact this
theorem oZ {b c:Vb} :vZ b c<=c.m - c.l/\vZ b c<=b.m - b.l:=⟨Int.min_le_left _ _,Int.min_le_right _ _⟩
theorem EV (hT:TTok P tt) {T U:TypeId} (ho:o.op= .call { callee:=.builtin .copy,args:= #[x,y],argTypes:= #[T,U] }) (h:MX tt s k T x y=some res):Oks P w0 s o k res:=by
 obtain ⟨d,hd,h⟩:=bind_some h
 obtain ⟨E,hE,h⟩:=bind_some h
 obtain ⟨e,he,h⟩:=bind_some h
 obtain ⟨b,hb,h⟩:=bind_some h
 obtain ⟨c,hc,h⟩:=bind_some h
 obtain ⟨hn,h⟩:=aj h
 simp only[ak] at hn
 obtain ⟨⟨⟨n1,n2⟩,n3⟩,n4⟩:=hn
 have n1:e.n=b.k:=au n1
 have n2:c.k=b.k:=au n2
 have n3:b.r.E=E:=au n3
 obtain ⟨hr,hk,hvw⟩:=pP (P:=P) (w0:=w0) hb
 obtain ⟨hp,-⟩:=bK hr
 have hTE:P.underlying T=some (.slice b.r.E):=((hT.get hd).el E hE).trans (by rw[n3])
 have hti:TI P b.r.E e.agg b.k:=by rw[n3,<-n1];exact (hT.get he).ti
 have hkp:0<b.k:=by rw[hk];exact Ty.size_pos _
 have hR:b.r.t.rep.size=b.k:=b.r.t.rep_size.trans hk.symm
 split at h
 ·rename_i hbeq
  have hh:=Hdr.beq_eq hbeq
  obtain ⟨hr2,hk2,hvw2⟩:=pP (P:=P) (w0:=w0) hc
  have hcr:c.r=b.r:=by
   rw[hh] at hr2
   exact ae (hr2.symm.trans hr)
  obtain ⟨u,hc1,h⟩:=bind_some h
  obtain ⟨c1,c2,c3,c4,c5⟩:=bw hc1
  have key: ∀J θ,Fine P w0 J θ s-> ∀w C,St J w0 w (toCh P θ (b.r.ent b.h)::C)->Upon P (fun r w'=>r= .int .i64 (vZ b c)/\ ∃u',(∀a q z,hv θ b.h= .slice a q z->u'= .slice a (vY b.r.xs b.l.toNat (xV b.r.xs c.l (vZ b c))).length z)/\St J w0 w' (Ch.own (af b.r.E b.r.t.rep) [u'] (vY b.r.xs b.l.toNat (xV b.r.xs c.l (vZ b c)))::C)) ((execOp (evL (envL θ s)) o).run P w):=by
   intro J θ hf w C hs
   have hst:St J w0 w (Ch.own (af b.r.E b.r.t.rep) [hv θ b.h] b.r.xs::C):=hs
   have h1:=hvw hf rfl hst
   have h2:Vw (evL (envL θ s) y) (hv θ b.h) b.k b.r.xs.length c.l c.m:=by
    have:=hvw2 hf rfl (xs:=c.r.xs) (by rw[hcr,hh];exact hst)
    rwa [hcr,hh,n2] at this
   obtain ⟨ao,sc,news,hy,hrd,hsrc⟩:=ET (Ty.sh_ok n4) hkp hR hst h2 c2 c3 (oZ).1
   have hlen:=Dd (xs:=b.r.xs) c1 c2 c3
   exact EU (P:=P) (w0:=w0) (o:=o) (Ty.sh_ok n4) (Ty.cpy n4) hTE hti hkp hR ho rfl hy hst h1 hrd hsrc c1 (by have:=(oZ (b:=b) (c:=c)).1;omega) (by rw[hlen];unfold vZ at *;omega) c5
  have hll:=Dd (xs:=b.r.xs) c1 c2 c3
  have hcl:=nf (xs:=b.r.xs) (ys:=xV b.r.xs c.l (vZ b c)) (p:=b.l.toNat) (by omega)
  have hcf:=(oZ (b:=b) (c:=c)).2
  split at h
  ·obtain ⟨u2,hc2,h⟩:=bind_some h
   have d1:=bw hc2
   refine ⟨_,h,Da (fact:=fun _ v=>v= .int .i64 (vZ b c)) hr (fun J θ hf=>fun w C hs=>?_) (fun J θ u hf hu hlt=>⟨rfl,hu.symm⟩)⟩
   refine (key J θ hf w C hs).imp fun r w' hv0=>⟨hv0.1,?_⟩
   obtain ⟨-,u',e1,e2⟩:=hv0
   have hst:St J w0 w (Ch.own (af b.r.E b.r.t.rep) [hv θ b.h] b.r.xs::C):=hs
   obtain ⟨ad,f1,f2,f3⟩:=wu hst
   have:=e1 _ _ _ f1
   have hu':u'=hv θ b.h:=by
    rw[this,hcl,show max b.r.xs.length (b.l.toNat+(xV b.r.xs c.l (vZ b c)).length)=b.r.xs.length from by omega]
    exact f1.symm
   rw[hu'] at e2
   exact e2
  ·obtain ⟨q,hq,h⟩:=bind_some h
   obtain ⟨u2,hc2,h⟩:=bind_some h
   obtain ⟨d1,d2⟩:=bw hc2
   refine ⟨_,h,Be hp,aQ rfl,fun J θ hf=>?_⟩
   obtain ⟨t1,k0,N0,t2⟩:=IM hq hf.env
   refine OpT.weak (fact:=fun v=>v= .int .i64 (vZ b c)) (gv:=fun _=>[Ch.own (af b.r.E b.r.t.rep) [hv θ q.1] (vY b.r.xs b.l.toNat (xV b.r.xs c.l (vZ b c)))]) (fun w C hs=>?_) (fun u hu=>⟨rfl,hu.symm,fun g hg=>?_⟩) (fun u hu=>?_)
   ·refine (key J θ hf w C hs).imp fun r w' hv0=>⟨hv0.1,?_⟩
    obtain ⟨-,u',e1,e2⟩:=hv0
    have hst:St J w0 w (Ch.own (af b.r.E b.r.t.rep) [hv θ b.h] b.r.xs::C):=hs
    obtain ⟨ad,f1,f2,f3⟩:=wu hst
    have:=e1 _ _ _ f1
    have hlen:(vY b.r.xs b.l.toNat (xV b.r.xs c.l (vZ b c))).length=q.2.toNat:=by rw[hcl];omega
    have hu':u'=hv θ q.1:=by
     rw[this,hlen]
     rcases t2 with ⟨q0,hu,g1,g2,g3⟩ | ⟨g,ofs,cp,x',q0,hu,q1,q2,q3,q4,q5,q6⟩
     ·rw[q0] at f1
      injection f1 with i1 i2 i3
      rw[hu,<-i1,g3,q0];rfl
     ·rw[q0] at f1
      injection f1 with i1 i2 i3
      have hx0:x'=0:=by simpa using q5
      rw[hu,<-i1,q0,hx0]
      simp[K8]
    rw[hu'] at e2
    exact e2
   ·obtain rfl:=aq hg
    exact ⟨aV t1,ax _,trivial⟩
   ·show [Ch.own _ [hv θ q.1] _] = [Ch.own _ [hv (upd θ s.nxt u) q.1] _]
    rw[show hv (upd θ s.nxt u) q.1=hv θ q.1 from aZ Same.upd t1]
    rfl
 ·obtain ⟨c,hc',h⟩:=bind_some h
  obtain ⟨hkk,h⟩:=aj h
  have n2:c.k=b.k:=au hkk
  obtain ⟨hr2,hk2,hvw2⟩:=GS (P:=P) (w0:=w0) hc'
  obtain ⟨hp2,-⟩:=bK hr2
  obtain ⟨ys,hys,h⟩:=bind_some h
  obtain ⟨u,hc1,h⟩:=bind_some h
  obtain ⟨c1,c2,c3,c4,c5,c6⟩:=bw hc1
  have hent:=wg (h:=c.h) hys
  have hyl:c.r.xs.length=ys.length:=by
   obtain ⟨e1,e2⟩:=mW hys
   obtain ⟨x1,x2,x3,x4,x5,ver,E2,t2,xs2,rest2⟩:=c
   simp only at e1 e2⊢
   injection e1 with e3 e4
   subst e3;subst e4
   rw[e2]
  have hll:=Dd (xs:=ys) c1 c2 c3
  have hcl:=nf (xs:=b.r.xs) (ys:=xV ys c.l (vZ b c)) (p:=b.l.toNat) (by omega)
  have hcf:=(oZ (b:=b) (c:=c)).2
  have hperm:s.chs.Perm ([c.r.ent c.h] ++ [b.r.ent b.h] ++c.r.rest):=by
   refine hp.trans ((hp2.cons _).trans ?_)
   exact List.Perm.swap _ _ _
  refine ⟨_,h,hperm,aQ rfl,fun J θ hf=>?_⟩
  have hok:=jG hf hp
  refine OpT.weak (fact:=fun v=>v= .int .i64 (vZ b c)) (gv:=fun _=>[toCh P θ (c.r.ent c.h),Ch.own (af b.r.E b.r.t.rep) [hv θ b.h] (vY b.r.xs b.l.toNat (xV ys c.l (vZ b c)))]) (fun w C hs=>?_) (fun u hu=>⟨rfl,hu.symm,fun g hg=>?_⟩) (fun u hu=>?_)
  ·have hs:St J w0 w (toCh P θ (c.r.ent c.h)::Ch.own (af b.r.E b.r.t.rep) [hv θ b.h] b.r.xs::C):=hs
   have hsb:=hs.perm (List.Perm.swap _ _ _)
   have h1:=hvw hf rfl hsb
   have h2:=hvw2 hf rfl (show St J w0 w (Ch.own (af c.r.E c.r.t.rep) [hv θ c.h] c.r.xs::_) from hs)
   rw[hyl,n2] at h2
   rw[hent] at hs hsb⊢
   have hs2:St J w0 w (Ch.own (af b.r.E b.r.t.rep) [hv θ c.h] ys::Ch.own (af b.r.E b.r.t.rep) [hv θ b.h] b.r.xs::C):=hs
   obtain ⟨ao,sc,news,hy,hrd,hsrc⟩:=ET (Ty.sh_ok n4) hkp hR hs2 h2 c2 c3 (oZ).1
   have:=EU (P:=P) (w0:=w0) (o:=o) (Ty.sh_ok n4) (Ty.cpy n4) hTE hti hkp hR ho rfl hy hsb h1 hrd hsrc c1 (by have:=(oZ (b:=b) (c:=c)).1;omega) (by rw[hll];unfold vZ at *;omega) c5
   refine this.imp fun r w' hv0=>⟨hv0.1,?_⟩
   obtain ⟨-,u',e1,e2⟩:=hv0
   obtain ⟨ad,f1,f2,f3⟩:=wu hsb
   have:=e1 _ _ _ f1
   have hu':u'=hv θ b.h:=by
    rw[this,hcl,show max b.r.xs.length (b.l.toNat+(xV ys c.l (vZ b c)).length)=b.r.xs.length from by omega]
    exact f1.symm
   rw[hu'] at e2
   exact e2.perm (List.Perm.swap _ _ _)
  ·obtain rfl:=aq hg
   exact ⟨aV hok.1,ax _,trivial⟩
  ·show [toCh P θ (c.r.ent c.h),Ch.own _ [hv θ b.h] _] = [toCh P θ (c.r.ent c.h),Ch.own _ [hv (upd θ s.nxt u) b.h] _]
   rw[show hv (upd θ s.nxt u) b.h=hv θ b.h from aZ Same.upd hok.1]
   rfl
theorem EW {α:Type} {E:TypeId} {R:Rep α} {I:Hp} {w0 w:World} {C:List Ch} {g ofs n cap:Nat} {xs:List α} (h:St I w0 w (Ch.own (af E R) [.slice (some ⟨g,ofs,none⟩) n cap] xs::C)): ∃cur,w.heap[g]? =some (.cells cur E (0,0))/\ofs+cap*R.size<=cur.size/\n=xs.length/\n<=cap/\ ∃F,Sep I C w F/\g∉F:=by
 obtain ⟨hb,hi,F,⟨G,K,rfl,⟨hl,e2⟩,e3⟩,h4,h5⟩:=h
 rcases e2 with ⟨hv,rfl,rfl⟩ | ⟨g',ofs',cap',cur,K1,hv,k1,k2,k3,k4,rfl,k5⟩
 ·simp at hv
 ·simp only[List.cons.injEq,Value.slice.injEq,Option.some.injEq,Addr.mk.injEq,and_true] at hv
  obtain ⟨⟨rfl,rfl⟩,rfl,rfl⟩:=hv
  refine ⟨cur,k1,k4,rfl,k2,K,e3,?_⟩
  intro hg
  rw[List.cons_append] at h4
  exact (List.nodup_cons.1 h4).1 (aX _ hg)
theorem P5 {kf:FuncId} (hov:Xe P kf) {ts:Array TypeId} (ho:o.op= .call { callee:=.value (.func kf),args:= #[x,y],argTypes:=ts }) (h:Uc s k x y=some res):Oks P w0 s o k res:=by
 unfold Uc at h
 split at h
 ·rename_i hh hx
  obtain ⟨r,hr,h⟩:=bind_some h
  obtain ⟨c,hc,h⟩:=bind_some h
  obtain ⟨u,hk,h⟩:=bind_some h
  obtain ⟨c1,c2⟩:=bw hk
  obtain ⟨hp,-⟩:=bK hr
  obtain ⟨hr2,hk2,hvw2⟩:=GS (P:=P) (w0:=w0) hc
  obtain ⟨hp2,-⟩:=bK hr2
  have hperm:s.chs.Perm ([r.ent hh,c.r.ent c.h] ++ [] ++c.r.rest):=hp.trans (hp2.cons _)
  refine ⟨_,h,hperm,aQ rfl,fun J θ hf=>OpT.weak (fact:=(· = .bool false)) (gv:=fun _=>[toCh P θ (r.ent hh),toCh P θ (c.r.ent c.h)]) (fun w C hs=>?_) (fun u hu=>⟨rfl,hu.symm,fun g hg=>by cases hg⟩) (fun u hu=>rfl)⟩
  have hs1:St J w0 w (Ch.own (af r.E r.t.rep) [hv θ hh] r.xs::Ch.own (af c.r.E c.r.t.rep) [hv θ c.h] c.r.xs::C):=hs
  have hs2:=hs1.perm (List.Perm.swap _ _ _)
  have h2:=hvw2 hf rfl hs2
  have h1:=zu (k:=1) hs1
  rcases h1 with ⟨q0,-,g1,-,-⟩ | ⟨g,ofs,cp,x',q0,-,-⟩
  ·omega
  rcases h2 with ⟨p0,hu,e1,e2,e3⟩ | ⟨g2,ofs2,cp2,x2,p0,hu,p1,p2,p3,p4,p5,p6⟩
  ·omega
  rw[q0] at hs1
  rw[q0,p0] at hs2
  obtain ⟨curA,a1,a2,a3,a4,-⟩:=EW hs1
  obtain ⟨curB,b1,b2,b3,b4,FB,b5,b6⟩:=EW hs2
  have hne:g≠g2:=by
   intro e
   obtain ⟨GA,KA,hFB,hA,-⟩:=b5
   have:g∈GA:=by
    obtain ⟨-,hA⟩:=hA
    rcases hA with ⟨hv0,-,-⟩ | ⟨g',ofs',cap',cur,K1,hv0,-,-,-,-,rfl,-⟩
    ·simp at hv0
    ·simp only[List.cons.injEq,Value.slice.injEq,Option.some.injEq,Addr.mk.injEq,and_true] at hv0
     rw[hv0.1.1];simp
   exact b6 (by rw[hFB,<-e];exact aU _ this)
  have hkp:1<=c.r.t.rep.size:=by rw[Ty.rep_size];exact Ty.size_pos _
  have hcpos:0<cp2:=by omega
  have hb0:0<curB.size:=by
   have:cp2*1<=cp2*c.r.t.rep.size:=Nat.mul_le_mul_left _ hkp
   omega
  have hrun:=hov w g g2 ofs (ofs2+x2) r.xs.length (c.m.toNat - c.l.toNat) cp (cp2 - c.l.toNat) curA curB _ _ hne a1 b1 hb0
  have hxv:evL (envL θ s) x= .slice (some ⟨g,ofs,none⟩) r.xs.length cp:=(aF (θ:=θ) hx).trans q0
  have he:(execOp (evL (envL θ s)) o).run P w= .ok (.value (.bool false)) w:=by
   simp only[execOp,ho,resolve,show evL (envL θ s) (.func kf)= .func (.func kf) #[] #[] from rfl,Deferred.ofValue,Sem.run_bind,Sem.run_pure,Result.andThen_ok,invoke,List.map_toArray,List.map_cons,List.map_nil,hxv,hu]
   exact hrun
  rw[he]
  exact ⟨rfl,hs⟩
 ·cases h
theorem XV {kf:FuncId} {fn:Func} {tS tR E:TypeId} {n:Nat} {agg:Bool} (hf:P.funcs[kf]? =some fn) (hname:(fn.name == "runtime.NumGoroutine")=false) (hb:fn.body.isNone=true) (hn:Extern.findNext fn=none) (he:Extern.find fn=some (Extern.SlicesOverlaps.overlaps #[tS,tS] #[tR])) (hS:P.underlying tS=some (.slice E)) (hE:TI P E agg n):Xe P kf:=by
 intro w g h oa ob la lb ca cb curA curB tA tB hne hA hB hpos
 rw[run_callFunc_extern hf hname hb hn he,Lib.run_overlaps_apart (P:=P) w tS tR E hS n (fun w=>TI.size hE w) ⟨g,oa,none⟩ ⟨h,ob,none⟩ la ca lb cb hne tA tB curA.size curB.size (by simp[World.shape?,hA]) (by simp[World.shape?,hB]) (by omega) (by simp[World.frozen?,hA]) (by simp[World.frozen?,hA])]
 rfl
end
end R
namespace R
open Go.RowKit
open D
structure PartA where
 h:Hdr
 ver:Nat
 E:TypeId
 t:Ty
 xs:List t.den
 lo:Nat
 hi:Nat
def P6:AV->Option PartA
 | .sub h ver E t xs l=>some ⟨h,ver,E,t,xs,l.toNat,xs.length⟩
 | .pre h ver E t xs l=>some ⟨h,ver,E,t,xs,0,l.toNat⟩
 | _=>none
section
variable {Y:Type} (tt:TT) (s:Sg) (k:Res->Option Y)
def Xi (E:TypeId) (b:Nat) (t:Ty) (xs:List t.den) (nsx rest:List Ent) (q:PartA):Option Y:=
 (rowOf q.h rest).bind fun r=>bR (Nat.beq r.ver q.ver&&(t.sh&&t.dp)) ((mV (.sl r.E r.t) (.sl E t) r.xs).bind fun ys=>(cd b xs ((ys.take q.hi).drop q.lo)).bind fun zs=>k ⟨[r.ent q.h],nsx,r.rest,[(⟨s.nxt,[]⟩,.own (.sl E t) zs)],.one (.own ⟨s.nxt,[]⟩)⟩)
def Ud (T:TypeId) (x y:Operand):Option Y:=(td tt T).bind fun d=>d.el.bind fun E=>(td tt E).bind fun e=>e.bytes.bind fun b=>(opd s y).bind fun yv=>(P6 yv).bind fun q=>match opd s x with
 | some (.one (.own h))=>(rowOf h s.chs).bind fun r=>bR (Nat.beq r.E E&&Nat.beq r.t.size e.n) (Xi s k r.E b r.t r.xs [r.ent h] r.rest q)
 | some (.one (.val v))=>bR (isNil v&&Nat.beq q.t.size e.n) (Xi s k E b q.t [] [] s.chs q)
 | _=>none
end
section
variable {Y:Type} {tt:TT} {an:List (Nat×Ty)} {s:Sg} {k:Res->Option Y} {P:Program} {w0:World} {o:Oper} {res:Y} {x y:Operand}
theorem P7 {J:Hp} {θ:Th} {n:Nat} {chs:List Ent} {v:AV} {q:PartA} (h:P6 v=some q) (hv':v.ok P w0 J θ n chs):v.v θ=pJ (hv θ q.h) q.lo q.hi q.t.size/\q.lo<=q.hi/\q.hi<=q.xs.length/\q.h.id<n/\Mem chs n q.h q.ver (.own (.sl q.E q.t) q.xs):=by
 unfold P6 at h
 split at h
 ·rename_i hh ver E t xs l
  obtain rfl:=ae h
  obtain ⟨h1,h2,h3⟩:=hv'
  exact ⟨rfl,by show l.toNat<=xs.length;omega,aE _,h1,h3⟩
 ·rename_i hh ver E t xs l
  obtain rfl:=ae h
  obtain ⟨h1,h2,h3⟩:=hv'
  exact ⟨rfl,Nat.zero_le _,by show l.toNat<=xs.length;omega,h1,h3⟩
 ·cases h
theorem EX {I:Hp} {ev:Operand->Value} {α:Type} {E T:TypeId} {R:Rep α} {z:Value} {n b:Nat} {x y:Operand} {s u:Value} {xs ys zs:List α} {lo hi:Nat} (h:cd b xs ((ys.take hi).drop lo)=some zs) (h1:lo<=hi) (h2:hi<=ys.length) (hd:R.Dp) (hc:Cpy R R) (hT:P.underlying T=some (.slice E)) (hE:TZ P E z n b) (hzs:z.cells.size=n) (hn:0<n) (hR:R.size=n) (hb1:1<=b) (ho:o.op= .call { callee:=.builtin .append,args:= #[x,y],argTypes:= #[T,T] }) (hx:ev x=s) (hy:ev y=pJ u lo hi n) :
  OpT P I w0 o ev [Ch.own (af E R) [s] xs,Ch.own (af E R) [u] ys] (fun _=>True) (fun v=>[Ch.own (af E R) [v] zs,Ch.own (af E R) [u] ys]):=by
 intro w C hs
 have key:=ve (P:=P) (I:=I) (w0:=w0) (o:=o) (ev:=ev) (ls:=[Ch.own (af E R) [u] ys]) (rn:=[Ch.own (af E R) [s] xs]) (fact:=fun _=>True) (gv:=fun v=>[Ch.own (af E R) [v] zs]) (fun v=>⟨yW (CH hd),trivial⟩) (fun J' hJ hrd _=>tT h hc hR (Ic (hrd _ _ _ (List.mem_singleton.2 rfl)) h1 h2 hR) hT hE hzs hn hR hb1 ho hx hy) w C (hs.perm ((List.Perm.swap _ _ _).append_right C))
 exact key.imp fun v w hv=>⟨hv.1,hv.2.perm ((List.Perm.swap _ _ _).append_right C)⟩
theorem P8 {q:PartA} {nsx rest:List Ent} {r:Row} {J:Hp} {θ:Th} {n:Nat} (hp:s.chs.Perm (nsx++rest)) (hr:rowOf q.h rest=some r) (hv:r.ver=q.ver) (hm:Mem s.chs n q.h q.ver (.own (.sl q.E q.t) q.xs)):Chk.own (.sl r.E r.t) r.xs=Chk.own (.sl q.E q.t) q.xs:=by
 obtain ⟨hp2,-⟩:=bK hr
 exact hm.2 (r.ent q.h) (hp.mem_iff.2 (aX _ (hp2.mem_iff.2 (by simp)))) _ ⟨rfl,.inl ⟨hv,rfl⟩⟩
theorem MY {T E:TypeId} {z:Value} {n b:Nat} {t:Ty} {xs:List t.den} {nsx rest:List Ent} {q:PartA} {yv:AV} (hq:P6 yv=some q) (hp:s.chs.Perm (nsx++rest)) (hT:P.underlying T=some (.slice E)) (hE:TZ P E z n b) (hzs:z.cells.size=n) (hn:0<n) (ht:t.size=n) (hb1:1<=b) (ho:o.op= .call { callee:=.builtin .append,args:= #[x,y],argTypes:= #[T,T] }) (hy:opd s y=some yv)
  (hx: ∀J θ,Fine P w0 J θ s-> ∃v,evL (envL θ s) x=v/\ ∀(rn:List Ch) (fact:Value->Prop) (gv:Value->List Ch),OpT P J w0 o (evL (envL θ s)) (Ch.own (af E t.rep) [v] xs::rn) fact gv->OpT P J w0 o (evL (envL θ s)) (nsx.map (toCh P θ)++rn) fact gv)
  (h:Xi s k E b t xs nsx rest q=some res):Oks P w0 s o k res:=by
 unfold Xi at h
 obtain ⟨r,hr,h⟩:=bind_some h
 obtain ⟨hc,h⟩:=aj h
 rw[ak,ak] at hc
 obtain ⟨hv1,hsh,hdp⟩:=hc
 have hv1:=au hv1
 obtain ⟨ys,hys,h⟩:=bind_some h
 obtain ⟨zs,hzs',h⟩:=bind_some h
 obtain ⟨hpr,-⟩:=bK hr
 have he:=wg (h:=q.h) hys
 refine ⟨_,h,good_row (hp.trans ((hpr.append_left nsx).trans List.perm_middle)) fun J θ hf=>?_⟩
 obtain ⟨v,hv',hx⟩:=hx J θ hf
 obtain ⟨p1,p2,p3,-,p5⟩:=P7 hq (bO hf hy)
 have hrow:=P8 (J:=J) (θ:=θ) hp hr hv1 p5
 have hent:r.ent q.h=(q.h,r.ver,.own (.sl q.E q.t) q.xs):=by
  show (q.h,r.ver,Chk.own (.sl r.E r.t) r.xs)=_
  rw[hrow]
 rw[he] at hent
 have hcc:Chk.own (.sl E t) ys=Chk.own (.sl q.E q.t) q.xs:=(Prod.mk.inj (Prod.mk.inj hent).2).2
 have hsz:q.t.size=n/\q.xs.length=ys.length:=by
  clear hv' hx h hys hzs' hent he hrow
  obtain ⟨qh,qver,qE,qt,qxs,qlo,qhi⟩:=q
  simp only at hcc
  have e1:Ty.sl E t=Ty.sl qE qt:=(Chk.own.inj hcc).1
  obtain ⟨rfl,rfl⟩:=Ty.sl.inj e1
  have e2:ys=qxs:=eq_of_heq (Chk.own.inj hcc).2
  exact ⟨ht,by rw[e2]⟩
 rw[he]
 have:=EX (P:=P) (I:=J) (w0:=w0) (R:=t.rep) hzs' p2 (by rw[<-hsz.2];exact p3) (Ty.dp_ok hdp) (Ty.cpy hsh) hT hE hzs hn (t.rep_size.trans ht) hb1 ho hv' ((aF (θ:=θ) hy).trans (by rw[p1,hsz.1]))
 exact OpT.permN (List.perm_append_comm (l₁:=[_])) (hx _ _ _ this)
theorem IN (hT:TTok P tt) {T:TypeId} (ho:o.op= .call { callee:=.builtin .append,args:= #[x,y],argTypes:= #[T,T] }) (h:Ud tt s k T x y=some res):Oks P w0 s o k res:=by
 obtain ⟨d,hd,h⟩:=bind_some h
 obtain ⟨E,hE,h⟩:=bind_some h
 obtain ⟨e,he,h⟩:=bind_some h
 obtain ⟨b,hb,h⟩:=bind_some h
 obtain ⟨yv,hy,h⟩:=bind_some h
 obtain ⟨q,hq,h⟩:=bind_some h
 have hdk:=hT.get hd
 have hek:=hT.get he
 obtain ⟨z,hz1,hz2,hz3⟩:=hek.zero b hb
 have hzs:z.cells.size=e.n:=by rw[hz2,List.size_toArray,sp,hek.sz]
 split at h
 ·rename_i hh hx
  obtain ⟨r,hr,h⟩:=bind_some h
  obtain ⟨hc,h⟩:=aj h
  rw[ak] at hc
  have hc1:=au hc.1
  have hc2:=au hc.2
  obtain ⟨hp,-⟩:=bK hr
  exact MY (nsx:=[r.ent hh]) hq hp ((hdk.el E hE).trans (by rw[hc1])) (by rw[hc1];exact hz1) hzs (by rw[<-hc2];exact Ty.size_pos _) hc2 hz3 ho hy (fun J θ hf=>⟨_,aF hx,fun rn fact gv h=>h⟩) h
 ·rename_i v hx
  obtain ⟨hc,h⟩:=aj h
  rw[ak] at hc
  have hc1:=mz hc.1
  have hc2:=au hc.2
  refine MY (nsx:=[]) hq (List.Perm.refl _) (hdk.el E hE) hz1 hzs (by rw[<-hc2];exact Ty.size_pos _) hc2 hz3 ho hy (fun J θ hf=>⟨_,aF hx,fun rn fact gv h=>?_⟩) h
  rw[show (AV.one (LV.val v)).v θ= .slice none 0 0 from hc1] at h
  exact OpT.nilrow h
 ·cases h
end
structure HRow where
 E:TypeId
 t:Ty
 xs:List t.den
 n:Nat
def Wc:Hol->Option HRow
 | ⟨_,_,.sl E t,d,.sl _ _,_,f,_,_,_,_,_⟩=>some ⟨E,t,d,List.length (α:=t.den) (f ([] :List _))⟩
 | _=>none
section
variable {Y:Type} (tt:TT) (s:Sg) (k:Res->Option Y)
def MZ (T:TypeId) (x i:Operand):Option Y:=(td tt T).bind fun d=>match d.el,opd s x,opd s i with
 | some E,some (.one (.own h)),some (.one (.val (.int .i64 i)))=>(Gz h s.chs).bind fun r=>(Wc r).bind fun q=>(td tt E).bind fun e=>bR (Nat.beq e.n q.t.size&&Bd h r.rest) ((aT q.xs i).bind fun a=>(chk (i<(q.n:Int))).bind fun _=>k ⟨[r.ent h],[],r.rest,[],.elo h r.over q.E q.t q.xs a i 0⟩)
 | _,_,_=>none
end
section
variable {Y:Type} {tt:TT} {s:Sg} {k:Res->Option Y} {P:Program} {w0:World} {o:Oper} {res:Y} {x:Operand}
theorem Wd {I:Hp} {α β:Type} {E E':TypeId} {R:Rep α} {S:Rep β} {v c:Value} {f:List β->List α} {b off:Nat} {w:World} {K:List Nat} (h:(Ch.gap (af E R) [v] (af E' S) f b off c).holds I w K):Hd v (f []).length:=by
 obtain ⟨h1,⟨cur,E0,h2,h2'⟩,h3,h4⟩:=h
 obtain ⟨F,-,hF⟩:=h4 I (w.setCell ⟨b,off,none⟩ (.slice none 0 0)) (.slice none 0 0) [] [] Hp.le.rfl (fun x hx hne=>by
  simp only[World.setCell]
  rw[Array.getElem?_modify,if_neg (fun e=>hne e.symm)]) (fun cur' E1 hc=>by
  simp only[World.setCell]
  rw[Array.getElem?_modify,if_pos rfl,hc];rfl) ⟨by simp,.inl ⟨rfl,rfl,rfl⟩⟩
 exact Hd.of_own hF
theorem Ke (hT:TTok P tt) {T:TypeId} {i:Operand} (ho:o.op= .indexAddr T x i) (h:MZ tt s k T x i=some res):Oks P w0 s o k res:=by
 obtain ⟨d,hd,h⟩:=bind_some h
 split at h
 ·rename_i E hh j he hx hi
  obtain ⟨r,hr,h⟩:=bind_some h
  obtain ⟨q,hq,h⟩:=bind_some h
  obtain ⟨e,hE,h⟩:=bind_some h
  obtain ⟨hn,h⟩:=aj h
  obtain ⟨a,ha,h⟩:=bind_some h
  obtain ⟨u0,hc,h⟩:=bind_some h
  have hc:=bw hc
  rw[ak] at hn
  obtain ⟨hn,hno⟩:=hn
  have hn:=au hn
  have hp:=yw hr
  obtain ⟨ver1,over1,t0,d1,u1,y1,f1,i1,k1,off1,lv1,rest1⟩:=r
  cases t0 with
  | sl E1 t1 =>
   cases u1 with
   | sl E2 t2 =>
    obtain rfl:=ae (show some _=some q from hq)
    refine ⟨_,h,mZ hp,aQ rfl,fun J θ hf=>OpT.weak (fact:=(· =pt (hv θ hh) (j.toNat*t1.size+0))) (gv:=fun _=>[toCh P θ (Hol.ent _ hh)]) (fun w C hs=>?_) (fun u hu=>?_) (fun u hu=>rfl)⟩
    ·have hs1:St J w0 w (Ch.gap (af E1 t1.rep) [hv θ hh] (af E2 t2.rep) f1 (ptB (hv θ hh)) (ptO (hv θ hh)+(i1.toNat*k1+off1)) (lv1.v θ)::C):=hs
     have hD:Hd (hv θ hh) (f1 ([] :List t2.den)).length:=by
      obtain ⟨-,-,F,hsep,-,-⟩:=hs1
      obtain ⟨G,K,-,hg,-⟩:=hsep
      exact Wd hg
     have hin:inI (α:=t1.den) (f1 ([] :List t2.den)) j:=⟨(CE ha).1,by
      have:=(CE ha).1
      have hc:j<((List.length (α:=t1.den) (f1 ([] :List t2.den)):Nat):Int):=hc
      show j.toNat<List.length (α:=t1.den) (f1 ([] :List t2.den))
      omega⟩
     have:=q7 (I:=J) (w0:=w0) (P:=P) (o:=o) hD ((hT.get hd).el _ he) (hT.get hE).ti ho (aF hx) (aF hi) hin
     rw[hn] at this
     exact this w _ hs
    ·have hok:=jG hf hp
     obtain ⟨q1,q2,q3,q4,q5,q6⟩:=hok
     have hm:Mem s.chs s.nxt hh over1 (.own (.sl E1 t1) d1):=⟨Nat.lt_trans q4 q2,fun e' he' c' hs'=>by
      rcases az (hp.mem_iff.1 he') with rfl | he'
      ·rcases hs'.2 with ⟨h1,-⟩ | ⟨-,h1⟩
       ·exact absurd h1 (Nat.ne_of_gt q4)
       ·exact h1
      ·exact absurd hs'.1 (oc hno he')⟩
     refine ⟨⟨aV q1,ha,hm.newer (Res.newer (mZ hp) (aQ rfl J θ hf)) (Nat.le_succ _)⟩,?_,fun g hg=>by cases hg⟩
     rw[hu]
     show pt (hv (upd θ s.nxt _) hh) _=pt (hv θ hh) _
     rw[show hv (upd θ s.nxt _) hh=hv θ hh from aZ Same.upd q1]
   | _=>cases hq
  | _=>cases hq
 ·cases h
end
end R
end Go.Proofs.YtodbpnpbhpeepaaGreatDoor
