/- FnExactEngineAnswers: for every input the law returns true and changes nothing that was there. Part 4 of 9. -/
import Derived.Test.YtfkokkokjgjkgaaGreatDoorNC2
set_option synthInstance.maxSize 20000
set_option synthInstance.maxHeartbeats 2000000
set_option linter.unusedVariables false
set_option linter.unusedSimpArgs false
set_option linter.unnecessarySimpa false
set_option linter.unusedSectionVars false
set_option maxRecDepth 1000000
namespace Go.Proofs.YtfkokkokjgjkgaaGreatDoor
open Go.IntKind (i64)
namespace R
open Go.RowKit
open D
theorem yx {l m:List Ch} (h:Ch.deeps l) (k:Ch.deeps m):Ch.deeps (l++m):=by
 induction l with
 | nil=>exact k
 | cons c l ih=>exact ⟨h.1,ih h.2⟩
theorem tw {v:Value} : ∀(ts:List Ty) (i:Nat) (d:jj ts),Gv ts=true->Ch.deeps (xh i ts d v)
 | [],_,_,_=>trivial
 | t::ts,i,d,h=>by
  have h:(t.dp&&Gv ts)=true:=h
  rw[ai] at h
  exact ⟨An (Ty.dp_ok h.1),tw ts (i+1) d.2 h.2⟩
theorem Db {v:Value} (ts:List Ty) (d:jj ts) (h:Gv ts=true):Ch.deeps (resGv ts d v):=by
 match ts,d,h with
 | [t],d,h =>
  have h:(t.dp&&true)=true:=h
  rw[Bool.and_true] at h
  exact ⟨An (Ty.dp_ok h),trivial⟩
 | [],d,h=>exact tw (v:=v) [] 0 d h
 | _::_::_,d,h=>exact tw (v:=v) _ 0 d h
theorem Ou {α:Type} {E:TypeId} {R:Rep α} (h:R.Fin):(af E R).Fin:=by
 rintro I cs xs ⟨ao,cap,rfl,hl,h1⟩
 rcases h1 with rfl | ⟨b,off,ccs,t,fr,h1,h2,h4⟩
 ·exact ⟨[],ao,cap,rfl,hl,.inl rfl⟩
 have key: ∀n,∃L,∀i x,i<n->xs[i]? =some x-> ∃c:List Value,c.length=R.size/\(∀j,j<R.size->ccs.toList[off+i*R.size+j]? =c[j]?)/\R.rd (only I L) c x:=by
  intro n
  induction n with
  | zero=>exact ⟨[],fun i x hi=>by omega⟩
  | succ n ih =>
   have ⟨L,hL⟩:=ih
   cases hx:xs[n]? with
   | none=>exact ⟨L,fun i x hi hx'=>hL i x (by grind) hx'⟩
   | some y =>
    have ⟨c,e1,e2,e3⟩:=h4 n y hx
    have ⟨M,hM⟩:=h e3
    refine ⟨L++M,fun i x hi hx'=>?_⟩
    by_cases e:i=n
    ·subst e;rw[hx] at hx';cases ad hx'
     exact ⟨c,e1,e2,R.rd_mono hM (jk fun b hb=>bc _ hb)⟩
    ·have ⟨c,e1,e2,e3⟩:=hL i x (by omega) hx'
     exact ⟨c,e1,e2,R.rd_mono e3 (jk fun b hb=>aZ _ hb)⟩
 have ⟨L,hL⟩:=key xs.length
 refine ⟨b::L,ao,cap,rfl,hl,.inr ⟨b,off,ccs,t,fr,h1,by simp[only,h2],fun i x hx=>?_⟩⟩
 have ⟨c,e1,e2,e3⟩:=hL i x (by grind) hx
 exact ⟨c,e1,e2,R.rd_mono e3 (jk fun b hb=>be _ hb)⟩
theorem Sf {α:Type} {R:Rep α} (hR:R.Fin) {cs:List Value} {x:α} :(Ch.own (D9 R) cs x).recl:=by
 rintro I J w F hJ hw ⟨h0,h1,h⟩ hF
 have ⟨L,k⟩:=hR (h (fun b=>if b∈F then w.heap[b]? else J b) (fun b o hb=>by grind) fun b hb=>if_pos hb)
 let M:=RY (L.filter fun b=>(I b).isNone&&(J b).isSome)
 have hM: ∀b,b∈M↔b∈L/\I b=none/\J b≠none:=fun b=>by
  simp[M,vN,List.mem_filter,ai,Option.isNone_iff_eq_none,Option.isSome_iff_ne_none]
 refine ⟨M,fun b hb=>((hM b).1 hb).2,tu,h0,fun b hb=>?_,fun K hK hB=>R.rd_mono k fun b o hb=>?_⟩
 ·rcases aH hb with hb | hb
  ·exact h1 b hb
  ·have ⟨o,ho⟩:=Option.ne_none_iff_exists'.1 ((hM b).1 hb).2.2
   exact (Array.getElem?_eq_some_iff.1 (hw b o ho)).1
 ·unfold only at hb
  split at hb
  ·by_cases hf:b∈F
   ·have hb:(if b∈F then w.heap[b]? else J b)=some o:=hb;rw[if_pos hf] at hb
    rw[hB b (aZ _ hf),hb]
   ·have hb:(if b∈F then w.heap[b]? else J b)=some o:=hb;rw[if_neg hf] at hb
    cases hI:I b with
    | none=>rw[hB b (bc _ ((hM b).2 ⟨‹_›,hI,by grind⟩))];exact hw b o hb
    | some o' =>
     have:=hJ b o' hI
     have:=hK b o' hI
     grind
  ·cases hb
def Ty.fin:Ty->Bool
 | .int _=>true
 | .bool=>true
 | .str=>true
 | .prod a b=>a.fin&&b.fin
 | .wr t=>t.fin
 | .sl _ t=>t.fin
 | .bag t=>t.fin
 | _=>false
theorem Ty.fin_ok: ∀ {t:Ty},t.fin=true->t.rep.Fin
 | .int _,_=>Ea
 | .bool,_=>Ea (h1:=fun _=>rfl)
 | .str,_=>Ea (h1:=fun _=>rfl)
 | .raw,h=>by cases h
 | .prod a b,h=>by
  have h:(a.fin&&b.fin)=true:=h
  rw[ai] at h
  exact RX (fin_ok h.1) (fin_ok h.2)
 | .wr t,h=>fin_ok (t:=t) h
 | .sl _ t,h=>Ou (fin_ok (t:=t) h)
 | .bag t,h=>fun k=>fin_ok (t:=t) h k
 | .fro _,h=>by cases h
 | .tree _ _ _,h=>by cases h
def recT:Ty->Bool
 | .tree _ _ u=>u.fin
 | .bag u=>u.fin
 | _=>false
theorem Ov {t:Ty} (h:recT t=true) {cs:List Value} {d:t.den} :(Ch.own t.rep cs d).recl:=by
 cases t with
 | tree T E u=>exact NR (Ty.fin_ok h)
 | bag u=>exact Sf (Ty.fin_ok h)
 | _=>cases h
def Et:List Ty->Bool
 | [] =>true
 | t::ts=>(t.dp&&Et ts) || (recT t&&Gv ts)
theorem xn {v:Value} {D:List Ch} (hD:Ch.deeps D): ∀(ts:List Ty) (i:Nat) (d:jj ts),Et ts=true->Ch.back (xh i ts d v++D)
 | [],_,_,_=>Ch.back_deeps hD
 | t::ts,i,d,h=>by
  have h:((t.dp&&Et ts) || (recT t&&Gv ts))=true:=h
  rw[Bool.or_eq_true,ai,ai] at h
  rcases h with h | h
  ·exact .inl ⟨An (Ty.dp_ok h.1),xn hD ts (i+1) d.2 h.2⟩
  ·exact .inr ⟨Ov h.1,yx (tw ts (i+1) d.2 h.2) hD⟩
theorem xo {v:Value} {D:List Ch} (hD:Ch.deeps D) (ts:List Ty) (d:jj ts) (h:Et ts=true):Ch.back (resGv ts d v++D):=by
 match ts,d,h with
 | [t],d,h =>
  have h:((t.dp&&true) || (recT t&&true))=true:=h
  rw[Bool.and_true,Bool.and_true,Bool.or_eq_true] at h
  rcases h with h | h
  ·exact .inl ⟨An (Ty.dp_ok h),Ch.back_deeps hD⟩
  ·exact .inr ⟨Ov h,hD⟩
 | [],d,h=>exact xn (v:=v) hD [] 0 d h
 | _::_::_,d,h=>exact xn (v:=v) hD _ 0 d h
theorem Zl {α:Type} {b:Nat} {T:TypeId} {R:Rep α} {d:α} (h:R.Dp):(Ch.box b T R d).deep:=by
 rintro I J w F ⟨cells,G,rfl,h1,h2⟩
 exact ⟨cells,G,rfl,h1,h h2⟩
theorem eF {γ:Value} : ∀(ps:List PM) (vs:List Value) (d:jj (outs ps)),zn ps=true->Ch.deeps (outCh γ ps vs d)
 | [],vs,_,_=>by cases vs <;> trivial
 | .ow t::ps,[],d,h=>trivial
 | .ow t::ps,v::vs,d,h=>by
  have h:(t.dp&&zn ps)=true:=h
  rw[ai] at h
  exact ⟨An (Ty.dp_ok h.1),eF ps vs d.2 h.2⟩
 | .ptr T t::ps,[],d,h=>trivial
 | .ptr T t::ps,v::vs,d,h=>by
  have h:(t.dp&&zn ps)=true:=h
  rw[ai] at h
  exact ⟨Zl (Ty.dp_ok h.1),eF ps vs d.2 h.2⟩
 | .rd _::ps,[],d,h=>trivial
 | .rd _::ps,v::vs,d,h=>eF ps vs d h
 | .eat _::ps,[],d,h=>trivial
 | .eat _::ps,v::vs,d,h=>eF ps vs d h
 | .fn _ _::ps,[],d,h=>trivial
 | .fn _ _::ps,v::vs,d,h=>eF ps vs d h
 | .cap _ _::ps,[],d,h=>trivial
 | .cap _ _::ps,v::vs,d,h=>eF ps vs d h
 | .capf _ _ _::ps,[],d,h=>trivial
 | .fk _::ps,[],d,h=>trivial
 | .capf _ _ _::ps,v::vs,d,h=>eF ps vs d h
 | .fk _::ps,v::vs,d,h=>eF ps vs d h
 | .crs _ _::ps,[],d,h=>trivial
 | .crs _ _::ps,v::vs,d,h=>⟨Y2,eF ps vs d.2 h⟩
theorem gZ {id:Nat} {pth:Nat->List Nat} : ∀(t:Ty) (d:t.den) (j:Nat),∀g∈rh id pth t d j,Sd g.2
 | .prod a b,d,j=>fun g hg=>by
  rcases aH hg with hg | hg
  ·exact gZ a d.1 j g hg
  ·exact gZ b d.2 _ g hg
 | .sl E t,d,j=>fun g hg=>by cases au hg;trivial
 | .wr t,d,j=>gZ t d j
 | .int _,_,_=>fun g hg=>by cases hg
 | .bool,_,_=>fun g hg=>by cases hg
 | .str,_,_=>fun g hg=>by cases hg
 | .raw,_,_=>fun g hg=>by cases hg
 | .fro _,_,_=>fun g hg=>by cases hg
 | .bag t,_,_=>fun g hg=>by cases t <;> first | (cases hg;done) | (cases au hg;trivial)
 | .tree _ _ _,d,j=>fun g hg=>by cases au hg;trivial
theorem uW {id:Nat} : ∀(i:Nat) (ts:List Ty) (d:jj ts),∀g∈yu id i ts d,Sd g.2
 | _,[],_=>fun g hg=>by cases hg
 | i,t::ts,d=>fun g hg=>by
  rcases aH hg with hg | hg
  ·exact gZ t d.1 0 g hg
  ·exact uW (i+1) ts d.2 g hg
theorem qB {id:Nat} (ts:List Ty) (d:jj ts): ∀g∈vT id ts d,Sd g.2:=by
 match ts,d with
 | [t],d=>exact gZ t d.1 0
 | [],d=>exact uW (id:=id) 0 [] d
 | _::_::_,d=>exact uW (id:=id) 0 _ d
theorem vX {g:Hdr×Chk} {ver:Nat} {c:Chk} (h:Sd g.2) (k:SaysH g.2 ver c):False:=by
 have ⟨a,x⟩:=g
 cases x <;> first | exact h.elim | exact k.elim
theorem Si {h:Hdr} {chs:List Ent} {q:Row} (hq:rowOf h chs=some q) {e:Ent} (he:e∈chs) (h1:e.1=h):e=q.ent h:=by
 have ⟨p,k⟩:=bN hq
 grind
theorem Ow {h:Hdr} {chs:List Ent} {q:TreeE} (hq:Gw h chs=some q) {e:Ent} (he:e∈chs) (h1:e.1=h):e=q.ent h:=by
 have ⟨p,k⟩:=Oj hq
 grind
theorem Sj {h:Hdr} {chs:List Ent} {q:Blk} (hq:YM h chs=some q) {e:Ent} (he:e∈chs) (h1:e.1=h):e=q.ent h:=by
 have ⟨p,k⟩:=Ol hq
 rcases ax ((kA p).mem_iff.1 he) with rfl | he
 ·rfl
 grind
theorem OpT.post {P:Program} {w0:World} {o:Oper} {I:Hp} {ev:Operand->Value} {rn:List Ch} {fact fact':Value->Prop} {gv gv':Value->List Ch} (h:OpT P I w0 o ev rn fact gv) (hp: ∀v w C,fact v->St I w0 w (gv v++C)->fact' v/\St I w0 w (gv' v++C)):OpT P I w0 o ev rn fact' gv' :=
 fun w C hs=>(h w C hs).imp fun v w hv=>hp v w C hv.1 hv.2
theorem OpT.sepTo {P:Program} {w0:World} {o:Oper} {I:Hp} {ev:Operand->Value} {l l':List Ch} {fact:Value->Prop} {gv:Value->List Ch} (k:rX I l l') (h:OpT P I w0 o ev l' fact gv):OpT P I w0 o ev l fact gv:=fun w C hs=>by
 have ⟨h1,h2,F,h3,h4,h5⟩:=hs
 obtain ⟨G,K,rfl,e1,e2⟩:=h3.split
 exact h w C ⟨h1,h2,G++K,(k w G e1).append e2,h4,h5⟩
section
variable {Y:Type} (ft:FT) (s:Sg) (k:Res->Option Y)
def Ox (s:Sg):List Operand->Option (List AV)
 | [] =>some []
 | x::xs=>(opd s x).bind fun v=>(Ox s xs).bind fun vs=>some (v::vs)
def Oy (f:FS) (xs:List AV) (kx:List Ent->List Ent->List Ent->Option GhQ->dens (f.rs++outs f.ps)->Option Y):Option Y:=(fy ft s s.chs f.ps xs).bind fun a =>
 (Es (IJ a.lent []) a.rest).bind fun pl=>match (Gv f.rs&&zn f.ps) || pl.1.isEmpty with
 | true=>(appP f.ps f.m a.d).bind fun r=>kx pl.1 a.own pl.2 a.gh r
 | false=>bL (Et f.rs&&zn f.ps) ((appP f.ps f.m a.d).bind fun r=>kx [] (a.own++pl.1) pl.2 a.gh r)
def Zm (f : FS) (xs : List AV) (L M R : List Ent) (gh : Option GhQ) (r : dens (f.rs ++ outs f.ps)) : Option Y :=
    k ⟨L, M, R, vT s.nxt f.rs (hFst f.rs (outs f.ps) (toH _ r)) ++ ny gh f.ps xs (hSnd f.rs (outs f.ps) (toH _ r)), IF s.nxt f.rs (hFst f.rs (outs f.ps) (toH _ r))⟩
def Vc (g:FuncId) (xs:List Operand):Option Y:=(fs ft g).bind fun f=>bL (!f.ov)<|(Ox s xs).bind fun vs=>Oy ft s f vs (Zm s k f vs)
def acx:(ts:List Ty)->jj ts->Int
 | [.sl _ t],d=>((List.length (α:=t.den) d.1:Nat):Int)
 | _,_=>1
def Oz (ts:List Ty) (d:jj ts):Bool:=decide (acx ts d=0)
def Vd (g : FuncId) (xs : List Operand) : Option Y := (fs ft g).bind fun f => bL (!f.ov) <| (Ox s xs).bind fun vs => Oy ft s f vs fun L M R gh r =>
    if Oz f.rs (hFst f.rs (outs f.ps) (toH _ r)) then k ⟨L, M, R, ny gh f.ps vs (hSnd f.rs (outs f.ps) (toH _ r)), .one (.val (.slice none 0 0))⟩
    else Zm s k f vs L M R gh r
def Zn (f:FS) (n:Nat):Bool:=match f.ps.drop n with
 | [.ptr _ _] =>true
 | _=>false
def acy (t n:Nat):Option (FuncId×Hdr):=match look s.env t with
 | some (.one (.own h))=>(ac4 h s.chs).bind fun c=>(fs ft c.1).bind fun f=>match Zn f n with
  | true=>some c
  | false=>none
 | _=>none
def ac5 (n:Nat):LV->Option (List Ty×List Ty)
 | .fn _ a b _=>some (a,b)
 | .own h=>(On h s.chs).bind fun q=>(fs ft q.1).bind fun f=>(W5 ((f.ps.drop q.2.1.length).take n)).bind fun a=>some (a,f.rs++outs f.ps)
 | _=>none
def Xa:(ts:List Ty)->List Operand->Option (jj ts×List Hdr)
 | [],[] =>some ((),[])
 | t::ts,x::xs=>(opd s x).bind fun v=>(Az s.chs t v).bind fun a=>(Xa ts xs).bind fun r=>some ((a.1,r.1),a.2++r.2)
 | _,_=>none
def OA (t:Nat) (xs:List Operand):Option Y:=(oneOf0 (look s.env t)).bind fun y=>(ac5 ft s xs.length y).bind fun ab=>(W8 ft s.chs 4 ab.1 ab.2 y).bind fun q=>(Xa s ab.1 xs).bind fun d =>
 (Es (IJ (q.lent++d.2) []) s.chs).bind fun pl=>bL (Gv ab.2) ((app ab.1 q.e d.1).bind fun r=>k ⟨pl.1,[],pl.2,vT s.nxt ab.2 (toH _ r),IF s.nxt ab.2 (toH _ r)⟩)
where oneOf0:Option AV->Option LV
 | some (.one x)=>some x
 | _=>none
end
section
variable {Y:Type} {ft:FT} {s:Sg} {k:Res->Option Y} {P:Program} {w0:World} {o:Oper} {res:Y}
theorem Eu {J:Hp} {θ:Th} {hs:List Hdr} {l:List Ent} (e2:l.map (·.1)=IJ hs []) (hsub: ∀e∈l,e∈s.chs) (hr: ∀ {α:Type} (R:Rep α) (v:List Value) (a:α),Ch.own R v a∈l.map (toCh P θ)->R.rd J v a) (hb: ∀g c E,Ch.blk g c E∈l.map (toCh P θ)->J g=some (.cells c.toArray E (0,0))):Lent J θ s.chs hs:=fun h hh=>by
 have hd:h∈l.map (·.1):=by
  rw[e2]
  rcases AB (acc:=[]) hh with h1 | h1
  ·exact h1
  ·cases h1
 have ⟨e,he,h1⟩:=List.mem_map.1 hd
 refine ⟨fun q hq=>?_,fun q hq=>?_,fun q hq=>?_⟩
 ·have:=Si hq (hsub e he) h1
  subst this
  exact hr _ _ _ (List.mem_map.2 ⟨_,he,rfl⟩)
 ·have:=Ow hq (hsub e he) h1
  subst this
  exact hr _ _ _ (List.mem_map.2 ⟨_,he,rfl⟩)
 ·have:=Sj hq (hsub e he) h1
  subst this
  exact hb _ _ _ (List.mem_map.2 ⟨_,he,rfl⟩)
theorem hO: ∀ {ps:List PM} {xs:List AV} {chs:List Ent} {r:Args ps},fy ft s chs ps xs=some r->chs.Perm (r.own++r.rest)
 | [],[],chs,r,h=>by cases ad (show some _=some r from h);rfl
 | .rd t::ps,x::xs,chs,r,h=>by
  have ⟨a,ha,h⟩:=bind_some (show (Az s.chs t x).bind _=some r from h)
  have ⟨q,hq,h⟩:=bind_some h
  cases ad h
  exact hO (ps:=ps) hq
 | .ow t::ps,x::xs,chs,r,h=>by
  have ⟨hg,h⟩:=aj (show bL (nU x==t.isProd) _=some r from h)
  have ⟨cs,hcs,h⟩:=bind_some h
  have ⟨q,hq,h⟩:=bind_some h
  have ⟨he,h⟩:=aj h
  have ⟨r',hr,h⟩:=bind_some h
  cases ad h
  show chs.Perm ((q.used++r'.own)++r'.rest)
  rw[aA]
  exact (eM hq).trans ((hO hr).append_left _)
 | .eat t::ps,x::xs,chs,r,h=>by
  have ⟨hg,h⟩:=aj (show bL (nU x==t.isProd) _=some r from h)
  have ⟨cs,hcs,h⟩:=bind_some h
  have ⟨q,hq,h⟩:=bind_some h
  have ⟨he,h⟩:=aj h
  have ⟨r',hr,h⟩:=bind_some h
  cases ad h
  rw[aA]
  exact (eM hq).trans ((hO hr).append_left _)
 | .fn a b::ps,x::xs,chs,r,h=>by
  unfold fy at h
  split at h
  ·have ⟨q,hq,h⟩:=bind_some h
   have ⟨r',hr,h⟩:=bind_some h
   cases ad h
   exact hO (ps:=ps) hr
  grind
 | .ptr T t::ps,x::xs,chs,r,h=>by
  unfold fy at h
  split at h
  ·have ⟨ho,h⟩:=aj h
   have ⟨q,hq,h⟩:=bind_some h
   have ⟨r',hr,h⟩:=bind_some h
   cases ad h
   rw[aA]
   exact (yw hq).trans ((hO hr).append_left _)
  grind
 | .crs T E::ps,x::xs,chs,r,h=>by
  unfold fy at h
  split at h
  ·have ⟨ho,h⟩:=aj h
   have ⟨q,hq,h⟩:=bind_some h
   have ⟨r',hr,h⟩:=bind_some h
   have ⟨hn,h⟩:=aj h
   cases ad h
   exact (nR hq).1.trans ((hO hr).cons _)
  grind
 | .fk g::ps,x::xs,chs,r,h=>by
  unfold fy at h
  split at h
  ·have ⟨hk,h⟩:=aj h
   have ⟨r',hr,h⟩:=bind_some h
   cases ad h
   exact hO (ps:=ps) hr
  grind
 | .cap _ _::_,_::_,_,_,h=>by cases h
 | .capf _ _ _::_,_::_,_,_,h=>by cases h
 | [],_::_,_,r,h=>by cases h
 | .rd _::_,[],_,r,h=>by cases h
 | .ow _::_,[],_,r,h=>by cases h
 | .eat _::_,[],_,r,h=>by cases h
 | .fn _ _::_,[],_,r,h=>by cases h
 | .ptr _ _::_,[],_,r,h=>by cases h
 | .cap _ _::_,[],_,_,h=>by cases h
 | .capf _ _ _::_,[],_,_,h=>by cases h
 | .fk _::_,[],_,_,h=>by cases h
 | .crs _ _::_,[],_,_,h=>by cases h
theorem Mf: ∀ {t:Ty} {d:t.den} {cs:List LV},∀g∈AE t d cs,Sd g.2:=by
 intro t
 induction t with
 | prod a b iha ihb =>
  intro d cs g hg
  rcases aH hg with hg | hg
  ·grind
  grind
 | wr t ih=>intro d cs g hg;exact ih g hg
 | sl E t ih =>
  intro d cs g hg
  cases cs with
  | nil=>cases hg
  | cons x l =>
   cases x with
   | own h=>cases au hg;trivial
   | _=>cases hg
 | _=>intro d cs g hg;cases hg
theorem fA {gh:Option GhQ} : ∀ {ps:List PM} {xs:List AV} {d:jj (outs ps)},∀g∈ny gh ps xs d,∀ver c,SaysH g.2 ver c->False
 | [],xs,d=>fun g hg=>by cases xs <;> cases hg
 | .ow t::ps,[],d=>fun g hg=>by cases hg
 | .ow t::ps,x::xs,d=>fun g hg=>by
  rcases aH hg with hg | hg
  ·cases hb:lD x with
   | none=>grind
   | some cs=>grind[vX,Mf]
  ·exact fA g hg
 | .ptr T t::ps,[],d=>fun g hg=>by cases hg
 | .ptr T t::ps,x::xs,d=>fun g hg=>by
  rcases aH hg with hg | hg
  ·split at hg
   ·cases au hg;exact fun ver c k=>k
   grind
  ·exact fA g hg
 | .rd _::ps,[],d=>fun g hg=>by cases hg
 | .rd _::ps,_::xs,d=>fA (ps:=ps)
 | .eat _::ps,[],d=>fun g hg=>by cases hg
 | .eat _::ps,_::xs,d=>fA (ps:=ps)
 | .fn _ _::ps,[],d=>fun g hg=>by cases hg
 | .fn _ _::ps,_::xs,d=>fA (ps:=ps)
 | .cap _ _::ps,[],d=>fun g hg=>by cases hg
 | .cap _ _::ps,_::xs,d=>fA (ps:=ps)
 | .capf _ _ _::ps,[],d=>fun g hg=>by cases hg
 | .fk _::ps,[],d=>fun g hg=>by cases hg
 | .capf _ _ _::ps,_::xs,d=>fA (ps:=ps)
 | .fk _::ps,_::xs,d=>fA (ps:=ps)
 | .crs T E::ps,[],d=>fun g hg=>by cases hg
 | .crs T E::ps,x::xs,d=>fun g hg=>by
  rcases aH hg with hg | hg
  ·split at hg
   ·cases au hg;exact fun ver c k=>k
   grind
  ·exact fA g hg
theorem Sk {α:Type} (A L O C:List α):(A++(L++(O++C))).Perm (O++(A++(L++C))):=by
 grind[aA,List.perm_append_comm_assoc]
theorem OB {α:Type} (B A L C:List α):(B++(A++(L++C))).Perm (L++(A++B)++C):=by
 have h:(B++(A++L)).Perm (L++(A++B)):=List.perm_append_comm.trans ((List.Perm.of_eq (aA ..)).trans (List.perm_append_comm_assoc _ _ _))
 have:=h.append_right C
 grind
theorem Sl {P:Program} {I:Hp} {w0:World} {o:Oper} {ev:Operand->Value} {ls rn:List Ch} {fact:Value->Prop} {gv:Value->List Ch} (hd: ∀v,Ch.back (gv v))
  (h: ∀J,I.le J->(∀ {α:Type} (R:Rep α) (v:List Value) (a:α),Ch.own R v a∈ls->R.rd J v a)->(∀g l E,Ch.blk g l E∈ls->J g=some (.cells l.toArray E (0,0)))->OpT P J w0 o ev rn fact gv):OpT P I w0 o ev (ls++rn) fact gv:=by
 intro w C hs
 rw[aA] at hs
 have ⟨J,h1,h2,h3,h4,h5⟩:=Oi hs
 exact (h J h1 h2 h3 w _ h4).imp fun v w' hv=>⟨hv.1,hv.2.back h1 (hd v)⟩
theorem OC {α:Type} (L G O C:List α):(L++(G++O)++C).Perm (O++(L++C)++G):=by
 refine (List.Perm.append_right C List.perm_append_comm).trans ?_
 grind[aA,List.perm_append_comm]
theorem OD {ts:List Ty} {d:jj ts} {v:Value} (h:Oz ts d=true) (k:yt ts d v):v= .slice none 0 0:=by
 have h:=of_decide_eq_true h
 unfold acx at h
 split at h
 ·exact k (Int.ofNat.inj h)
 omega
def ghV (θ:Th):Option GhQ->Value
 | some q=>q.v θ
 | none=>undef
theorem Dc {θ:Th} {o:Option GhQ} : ∀q,o=some q->ghV θ o=q.v θ:=fun q h=>by rw[h];rfl
theorem KG {J:Hp} {θ:Th} (hf:Fine P w0 J θ s): ∀ {xs:List Operand} {vs:List AV},Ox s xs=some vs->xs.map (evL (envL θ s))=vs.map (·.v θ)/\ ∀x∈vs,x.ok P w0 J θ s.nxt s.chs
 | [],vs,h=>by cases ad (show some _=some vs from h);grind
 | x::xs,vs,h=>by
  have ⟨v,hv',h⟩:=bind_some (show (opd s x).bind _=some vs from h)
  have ⟨us,hus,h⟩:=bind_some h
  cases ad h
  have ⟨k1,k2⟩:=KG hf hus
  refine ⟨by rw[List.map_cons,List.map_cons,k1,aB (θ:=θ) hv'],fun y hy=>?_⟩
  rcases ax hy with rfl | hy
  ·exact bA hf hv'
  ·exact k2 y hy
def OE (P:Program) (w0:World) (s:Sg) (cv:Operand) (g:FuncId) (xs:List Operand) (vs:List AV):Prop:= ∀J θ,Fine P w0 J θ s-> ∃cap:Array Value,evL (envL θ s) cv= .func (.func g) #[] cap/\xs.map (evL (envL θ s))++cap.toList=vs.map (·.v θ)/\ ∀x∈vs,x.ok P w0 J θ s.nxt s.chs
theorem KH {g:FuncId} {xs:List Operand} {vs:List AV} (h:Ox s xs=some vs):OE P w0 s (.func g) g xs vs:=fun J θ hf=>by
 have ⟨k1,k2⟩:=KG hf h
 exact ⟨#[],rfl,by grind,k2⟩
theorem GE (hF:FTok P ft) {f:FS} {g:FuncId} (hen:Enters P g) {fact:dens (f.rs++outs f.ps)->Value->Prop} (hcon: ∀w0 J γ vs (d:denP f.ps) r,Lay P J->PArgs P w0 J γ f.ps vs d->appP f.ps f.m d=some r->
  Con P g vs.toArray J w0 (owCh γ f.ps vs d) (fact r) (fun v=>resGv f.rs (hFst f.rs (outs f.ps) (toH _ r)) v++outCh γ f.ps vs (hSnd f.rs (outs f.ps) (toH _ r)))) {xs:Array Operand} {ts:Array TypeId} {cv:Operand} {vs:List AV} (hcv:OE P w0 s cv g xs.toList vs) (ho:o.op= .call { callee:=.value cv,args:=xs,argTypes:=ts }) {kx:List Ent->List Ent->List Ent->Option GhQ->dens (f.rs++outs f.ps)->Option Y} (h:Oy ft s f vs kx=some res) :
  ∃L M R r a,kx L M R a.gh r=some res/\s.chs.Perm (L++M++R)/\fy ft s s.chs f.ps vs=some a/\ ∀J θ,Fine P w0 J θ s->OpT P J w0 o (evL (envL θ s)) (L.map (toCh P θ)++M.map (toCh P θ)) (fact r) (fun v=>L.map (toCh P θ)++(resGv f.rs (hFst f.rs (outs f.ps) (toH _ r)) v++outCh (ghV θ a.gh) f.ps (vs.map (·.v θ)) (hSnd f.rs (outs f.ps) (toH _ r)))):=by
 obtain ⟨a,ha,h⟩:=bind_some h
 obtain ⟨pl,hpl,h⟩:=bind_some h
 obtain ⟨p2,e2⟩:=xm hpl
 have hpp:s.chs.Perm (a.own++a.rest):=hO ha
 have hperm:s.chs.Perm (pl.1++a.own++pl.2):=by
  refine hpp.trans ((p2.append_left a.own).trans ?_)
  rw[aA]
  exact List.perm_append_comm_assoc _ _ _
 split at h
 ·rename_i hc
  obtain ⟨r,hr,h⟩:=bind_some h
  rw[Bool.or_eq_true,ai] at hc
  refine ⟨_,_,_,r,a,h,hperm,ha,fun J θ hf=>?_⟩
  obtain ⟨cap,q1,q2,q3⟩:=hcv J θ hf
  rcases hc with ⟨hc1,hc2⟩ | hc
  ·refine vV (fun v=>yx (Db _ _ hc1) (eF _ _ _ hc2)) fun J' hJ hrd hbl=>?_
   obtain ⟨k1,k2,k3⟩:=gY hF hf hJ ha q3 (fun e he=>he) (Eu e2 (fun e he=>hperm.mem_iff.2 (by simp[he])) hrd hbl) (ghV θ a.gh) Dc
   exact OpT.sepTo k3 (qy hen ho q1 (by rw[List.nil_append,q2]) (hcon w0 J' (ghV θ a.gh) _ a.d r (hf.lay.mono hJ) k1 hr))
  ·have hpl:pl.1= []:=List.isEmpty_iff.1 hc
   obtain ⟨k1,k2,k3⟩:=gY hF hf Hp.le.rfl ha q3 (fun e he=>he) (Eu (P:=P) e2 (fun e he=>hperm.mem_iff.2 (by simp[he])) (by rw[hpl];intro α R v x hm;cases hm) (by rw[hpl];intro g c E hm;cases hm)) (ghV θ a.gh) Dc
   rw[hpl]
   exact OpT.sepTo k3 (qy hen ho q1 (by rw[List.nil_append,q2]) (hcon w0 J (ghV θ a.gh) _ a.d r hf.lay k1 hr))
 ·obtain ⟨hc,h⟩:=aj h
  obtain ⟨r,hr,h⟩:=bind_some h
  rw[ai] at hc
  refine ⟨[],_,_,r,a,h,(by
   rw[List.nil_append]
   refine hperm.trans ?_
   exact List.Perm.append_right _ List.perm_append_comm),ha,fun J θ hf=>?_⟩
  obtain ⟨cap,q1,q2,q3⟩:=hcv J θ hf
  have:=Sl (P:=P) (I:=J) (w0:=w0) (o:=o) (ev:=evL (envL θ s)) (ls:=pl.1.map (toCh P θ)) (rn:=a.own.map (toCh P θ)) (fact:=fact r) (gv:=fun v=>resGv f.rs (hFst f.rs (outs f.ps) (toH _ r)) v++outCh (ghV θ a.gh) f.ps (vs.map (·.v θ)) (hSnd f.rs (outs f.ps) (toH _ r))) (fun v=>xo (eF _ _ _ hc.2) _ _ hc.1) fun J' hJ hrd hbl=>by
    obtain ⟨k1,k2,k3⟩:=gY hF hf hJ ha q3 (fun e he=>he) (Eu e2 (fun e he=>hperm.mem_iff.2 (by simp[he])) hrd hbl) (ghV θ a.gh) Dc
    exact OpT.sepTo k3 (qy hen ho q1 (by rw[List.nil_append,q2]) (hcon w0 J' (ghV θ a.gh) _ a.d r (hf.lay.mono hJ) k1 hr))
  rw[List.map_nil,List.nil_append,aS]
  exact OpT.permN List.perm_append_comm this
section
variable {f:FS} {vs:List AV} {L M R:List Ent} {r:dens (f.rs++outs f.ps)} {a:Args f.ps} (hvs: ∀J θ,Fine P w0 J θ s-> ∀x∈vs,x.ok P w0 J θ s.nxt s.chs)
include hvs
theorem GF (ha:fy ft s s.chs f.ps vs=some a) (hperm:s.chs.Perm (L++M++R))
  (h1: ∀J θ,Fine P w0 J θ s->OpT P J w0 o (evL (envL θ s)) (L.map (toCh P θ)++M.map (toCh P θ)) (resFa f.rs) (fun v=>L.map (toCh P θ)++(resGv f.rs (hFst f.rs (outs f.ps) (toH _ r)) v++outCh (ghV θ a.gh) f.ps (vs.map (·.v θ)) (hSnd f.rs (outs f.ps) (toH _ r))))) :
  Good P w0 s o ⟨L,M,R,vT s.nxt f.rs (hFst f.rs (outs f.ps) (toH _ r))++ny a.gh f.ps vs (hSnd f.rs (outs f.ps) (toH _ r)),IF s.nxt f.rs (hFst f.rs (outs f.ps) (toH _ r))⟩:=by
 have hez: ∀g∈vT s.nxt f.rs (hFst f.rs (outs f.ps) (toH _ r))++ny a.gh f.ps vs (hSnd f.rs (outs f.ps) (toH _ r)),∀ver c,SaysH g.2 ver c->False:=fun g hg=>by
  rcases aH hg with hg | hg
  ·exact fun ver c k=>vX (qB _ _ g hg) k
  ·exact fA g hg
 refine ⟨hperm,fun J θ hf g hg ver c hs=>(hez g hg ver c hs).elim,fun J θ hf=>?_⟩
 rw[aS]
 refine OpT.post (h1 J θ hf) fun v w C hv0 hst=>?_
 have hst1:St J w0 w (resGv f.rs (hFst f.rs (outs f.ps) (toH _ r)) v++(L.map (toCh P θ)++(outCh (ghV θ a.gh) f.ps (vs.map (·.v θ)) (hSnd f.rs (outs f.ps) (toH _ r))++C))):=by
  refine hst.perm ?_
  rw[aA,aA]
  exact List.perm_append_comm_assoc _ _ _
 have ⟨q1,q2,q3,q4⟩:=KD (P:=P) (m:=s.nxt) (θ:=upd θ s.nxt v) (n:=s.nxt+1) (chs:=Res.chs ⟨L,M,R,vT s.nxt f.rs (hFst f.rs (outs f.ps) (toH _ r))++ny a.gh f.ps vs (hSnd f.rs (outs f.ps) (toH _ r)),IF s.nxt f.rs (hFst f.rs (outs f.ps) (toH _ r))⟩ s.nxt) (aw _) (iN (vs:=θ) (i:=s.nxt) (v:=v)) f.rs (hFst f.rs (outs f.ps) (toH _ r)) _ hv0 hst1
 have q5:=q4.perm (Sk _ _ _ _)
 have ⟨b1,b2⟩:=nz (P:=P) (θ:=θ) (θ':=upd θ s.nxt v) (m:=s.nxt) hf Same.upd (aF _) (hSnd f.rs (outs f.ps) (toH _ r)) ha (hvs J θ hf) (fun e he=>he) (fun q hq=>⟨hq,Dc q hq⟩) q5
 refine ⟨⟨q1,q2,fun g hg=>?_⟩,?_⟩
 ·rcases aH hg with hg | hg
  ·exact uV (qB _ _ g hg) (by grind) (aw _)
  ·exact KF (b2 g hg).1 (Nat.le_succ _) (aT (b2 g hg).2) (aw _)
 ·rw[aS]
  exact b1.perm (OB _ _ _ _)
theorem Mg (ha:fy ft s s.chs f.ps vs=some a) (hperm:s.chs.Perm (L++M++R)) (hn:Oz f.rs (hFst f.rs (outs f.ps) (toH _ r))=true)
  (h1: ∀J θ,Fine P w0 J θ s->OpT P J w0 o (evL (envL θ s)) (L.map (toCh P θ)++M.map (toCh P θ)) (fun v=>resFa f.rs v/\yt f.rs (hFst f.rs (outs f.ps) (toH _ r)) v) (fun v=>L.map (toCh P θ)++(resGv f.rs (hFst f.rs (outs f.ps) (toH _ r)) v++outCh (ghV θ a.gh) f.ps (vs.map (·.v θ)) (hSnd f.rs (outs f.ps) (toH _ r))))) :
  Good P w0 s o ⟨L,M,R,ny a.gh f.ps vs (hSnd f.rs (outs f.ps) (toH _ r)),.one (.val (.slice none 0 0))⟩:=by
 refine ⟨hperm,fun J θ hf g hg ver c hs=>(fA g hg ver c hs).elim,fun J θ hf=>?_⟩
 rw[aS]
 refine OpT.post (h1 J θ hf) fun v w C hv0 hst=>?_
 have q5:St J w0 w (outCh (ghV θ a.gh) f.ps (vs.map (·.v θ)) (hSnd f.rs (outs f.ps) (toH _ r))++(L.map (toCh P θ)++C)):=by
  refine St.left (ds:=resGv f.rs (hFst f.rs (outs f.ps) (toH _ r)) v) (hst.perm ?_)
  exact OC _ _ _ _
 have ⟨b1,b2⟩:=nz (P:=P) (θ:=θ) (θ':=upd θ s.nxt v) (m:=s.nxt) hf Same.upd (aF _) (hSnd f.rs (outs f.ps) (toH _ r)) ha (hvs J θ hf) (fun e he=>he) (fun q hq=>⟨hq,Dc q hq⟩) q5
 refine ⟨⟨Eq.refl true,(OD hn hv0.2).symm,fun g hg=>KF (b2 g hg).1 (Nat.le_succ _) (aT (b2 g hg).2) (aw _)⟩,?_⟩
 refine b1.perm ?_
 grind[aA,List.perm_append_comm_assoc]
end
theorem AF {cv:Operand} {g:FuncId} {xs:List Operand} {vs:List AV} (h:OE P w0 s cv g xs vs): ∀J θ,Fine P w0 J θ s-> ∀x∈vs,x.ok P w0 J θ s.nxt s.chs:=fun J θ hf=>by
 obtain ⟨cap,-,-,h⟩:=h J θ hf
 exact h
theorem OF (hF:FTok P ft) {g:FuncId} {xs:Array Operand} {ts:Array TypeId} (ho:o.op= .call { callee:=.value (.func g),args:=xs,argTypes:=ts }) (h:Vc ft s k g xs.toList=some res):Oks P w0 s o k res:=by
 have ⟨f,hf',h⟩:=bind_some h
 have ⟨hov,h⟩:=aj h
 have ⟨vs,hvs,h⟩:=bind_some h
 have hov:f.ov=false:=by simpa using hov
 have hfo:=hF.get hf'
 have hc:=KH (P:=P) (w0:=w0) (g:=g) hvs
 have ⟨L,M,R,r,a,h,hp,ha,h1⟩:=GE (w0:=w0) hF (hfo.en hov) (fact:=fun _=>resFa f.rs) (hfo.con hov) hc ho h
 exact ⟨_,h,GF (AF hc) ha hp h1⟩
theorem OG (hF:FTok P ft) {g:FuncId} {xs:Array Operand} {ts:Array TypeId} (hcl: ∀f,fs ft g=some f->NilOk P g f) (ho:o.op= .call { callee:=.value (.func g),args:=xs,argTypes:=ts }) (h:Vd ft s k g xs.toList=some res):Oks P w0 s o k res:=by
 have ⟨f,hf',h⟩:=bind_some h
 have ⟨hov,h⟩:=aj h
 have ⟨vs,hvs,h⟩:=bind_some h
 have hov:f.ov=false:=by simpa using hov
 have hfo:=hF.get hf'
 have hc:=KH (P:=P) (w0:=w0) (g:=g) hvs
 have ⟨L,M,R,r,a,h,hp,ha,h1⟩:=GE (w0:=w0) hF (hfo.en hov) (fact:=fun r v=>resFa f.rs v/\yt f.rs (hFst f.rs (outs f.ps) (toH _ r)) v) (hcl f hf') hc ho h
 split at h
 ·exact ⟨_,h,Mg (AF hc) ha hp ‹_› h1⟩
 ·exact ⟨_,h,GF (AF hc) ha hp fun J θ hf=>OpT.weak (h1 J θ hf) (fun v hv=>hv.1) fun v _=>rfl⟩
theorem KI {J J':Hp} {θ:Th} (hf:Fine P w0 J θ s) (hJ:J.le J'): ∀ {ts:List Ty} {xs:List Operand} {r:jj ts×List Hdr},Xa s ts xs=some r->Lent J' θ s.chs r.2->NT J' ts (xs.map (evL (envL θ s))) r.1
 | [],[],r,h,_=>by rfl
 | t::ts,x::xs,r,h,hl=>by
  have ⟨v,hv',h⟩:=bind_some (show (opd s x).bind _=some r from h)
  have ⟨a,ha,h⟩:=bind_some h
  have ⟨q,hq,h⟩:=bind_some h
  cases ad h
  have ⟨cs,c1,c2⟩:=Gx ha (AV.ok_same Same.rfl (aF _) Newer.rfl (bA hf hv') hJ) hl.l
  rw[<-aB (θ:=θ) hv'] at c1
  exact ⟨_,cs,_,rfl,c1,c2,KI hf hJ hq hl.r⟩
 | [],_::_,r,h,_=>by cases h
 | _::_,[],r,h,_=>by cases h
theorem OH (hF:FTok P ft) {t:Nat} {xs:Array Operand} {ts:Array TypeId} (ho:o.op= .call { callee:=.value (.tmp t),args:=xs,argTypes:=ts }) (h:OA ft s k t xs.toList=some res):Oks P w0 s o k res:=by
 have ⟨y,hy,h⟩:=bind_some h
 have ⟨ab,hab,h⟩:=bind_some h
 have ⟨q,hq,h⟩:=bind_some h
 have ⟨d,hd,h⟩:=bind_some h
 have ⟨pl,hpl,h⟩:=bind_some h
 have ⟨hc1,h⟩:=aj h
 have ⟨r,hr,h⟩:=bind_some h
 have hy:look s.env t=some (.one y):=by
  unfold OA.oneOf0 at hy
  split at hy
  ·grind
  ·cases hy
 have ⟨p2,e2⟩:=xm hpl
 refine ⟨_,h,by grind,fun J θ hf g hg ver c hs=>(vX (qB _ _ g hg) hs).elim,fun J θ hf=>?_⟩
 have hyo:=bA (x:=.tmp t) hf hy
 have h1:OpT P J w0 o (evL (envL θ s)) (pl.1.map (toCh P θ)++ []) (resFa ab.2) (fun v=>pl.1.map (toCh P θ)++resGv ab.2 (toH _ r) v):=by
  refine vV (fun v=>Db _ _ hc1) fun J' hJ hrd hbl=>?_
  have hl:=Eu (s:=s) e2 (fun e he=>p2.mem_iff.2 (by grind)) hrd hbl
  have ⟨kk,first,capt,h3,h4,h5⟩:=II hF hf.lay hf.chs hq hyo J' hJ hl.l
  have hcon:=h5 J' Hp.le.rfl _ d.1 (KI hf hJ hd hl.r) r hr
  have hev:=(aB (x:=.tmp t) hy).trans h3
  exact qy h4 ho hev (by simp) hcon
 rw[List.append_nil] at h1
 rw[List.append_nil]
 refine OpT.post h1 fun v w C hv0 hst=>?_
 have hst1:St J w0 w (resGv ab.2 (toH _ r) v++(pl.1.map (toCh P θ)++C)):=by
  refine hst.perm ?_
  rw[aA]
  exact List.perm_append_comm_assoc _ _ _
 have ⟨q1,q2,q3,q4⟩:=KD (P:=P) (m:=s.nxt) (θ:=upd θ s.nxt v) (n:=s.nxt+1) (chs:=Res.chs ⟨pl.1,[],pl.2,vT s.nxt ab.2 (toH _ r),IF s.nxt ab.2 (toH _ r)⟩ s.nxt) (aw _) (iN (vs:=θ) (i:=s.nxt) (v:=v)) ab.2 (toH _ r) _ hv0 hst1
 refine ⟨⟨q1,q2,fun g hg=>uV (qB _ _ g hg) (by grind) (aw _)⟩,?_⟩
 refine q4.perm ?_
 grind[aA,List.perm_append_comm_assoc]
end
section
variable {Y:Type} (tt:TT) (s:Sg) (k:Res->Option Y)
def Sn:AV->Option (Bool×List LV)
 | .one x=>some (false,[x])
 | .agg xs=>some (true,xs)
 | _=>none
def Ev (s:Sg):List Operand->Option (List (Bool×List LV))
 | [] =>some []
 | x::xs=>(opd s x).bind fun v=>(Sn v).bind fun y=>(Ev s xs).bind fun ys=>some (y::ys)
def KJ (s:Sg):List Operand->Option (List LV)
 | [] =>some []
 | x::xs=>match opd s x with
  | some (.one y)=>(KJ s xs).bind fun ys=>some (y::ys)
  | _=>none
def Ve (fn:Fn) (first captured:Array Operand):Option Y:=match fn with
 | .func g=>(Ev s first.toList).bind fun ys=>(KJ s captured.toList).bind fun xs=>k ⟨[],[],s.chs,[(⟨s.nxt,[]⟩,.clo g ys xs)],.one (.own ⟨s.nxt,[]⟩)⟩
 | _=>none
def OI (T:TypeId) (x:Operand):Option Y:=(td tt T).bind fun d=>match opd s x with
 | some (.one (.fz h T' t a off))=>(xj d.agg t off d.n).bind fun p=>bL (p.ty.isProd==d.agg) (k (.pure s (NX s.nxt p.ty (p.get a))))
 | some (.one (.fzf h T' ps rs e))=>bL (Nat.beq d.n 1 && !d.agg) (k (.pure s (.one (.fn ⟨s.nxt,[]⟩ ps rs e))))
 | _=>none
def OJ (T:TypeId) (x:Operand) (f:Nat):Option Y:=(td tt T).bind fun d=>(d.fields[f]?).bind fun q=>match opd s x with
 | some (.one (.fz h T' t a off))=>k (.pure s (.one (.fz h T' t a (off+q.1))))
 | _=>none
end
section
variable {Y:Type} {tt:TT} {s:Sg} {k:Res->Option Y} {P:Program} {w0:World} {o:Oper} {res:Y} {x:Operand}
theorem Dd {J:Hp} {θ:Th} (hf:Fine P w0 J θ s): ∀ {l:List Operand} {ys:List (Bool×List LV)},Ev s l=some ys->l.map (evL (envL θ s))=ys.map (kt θ)/\ ∀y∈ys,∀x∈y.2,x.ok P w0 J θ s.nxt
 | [],ys,h=>by cases ad (show some _=some ys from h);grind
 | x::l,ys,h=>by
  have ⟨v,hv',h⟩:=bind_some (show (opd s x).bind _=some ys from h)
  have ⟨y,hy,h⟩:=bind_some h
  have ⟨zs,hz,h⟩:=bind_some h
  have ⟨k1,k2⟩:=Dd hf hz
  have hvo:=bA hf hv'
  have hev:=aB (θ:=θ) hv'
  have key:v.v θ=kt θ y/\ ∀x∈y.2,x.ok P w0 J θ s.nxt:=by
   cases v with
   | one z=>cases ad (show some _=some y from hy);exact ⟨rfl,fun x hx=>by cases au hx;exact hvo⟩
   | agg zs=>cases ad (show some _=some y from hy);exact ⟨rfl,hvo⟩
   | _=>cases hy
  refine ⟨by grind,fun z hz=>?_⟩
  grind
theorem GG {J:Hp} {θ:Th} (hf:Fine P w0 J θ s): ∀ {l:List Operand} {ys:List LV},KJ s l=some ys->l.map (evL (envL θ s))=ys.map (·.v θ)/\ ∀x∈ys,x.ok P w0 J θ s.nxt
 | [],ys,h=>by cases ad (show some _=some ys from h);grind
 | x::l,ys,h=>by
  unfold KJ at h
  split at h
  ·rename_i y hy
   have ⟨zs,hz,h⟩:=bind_some h
   cases ad h
   have ⟨k1,k2⟩:=GG hf hz
   have hvo:=bA hf hy
   refine ⟨by rw[List.map_cons,List.map_cons,k1,aB (θ:=θ) hy];rfl,fun z hz=>?_⟩
   rcases ax hz with rfl | hz
   ·exact hvo
   grind
  grind
theorem OK {fn:Fn} {first captured:Array Operand} (ho:o.op= .makeFunc fn first captured) (h:Ve s k fn first captured=some res):Oks P w0 s o k res:=by
 cases fn with
 | func g =>
  have ⟨ys,hys,h⟩:=bind_some (show (Ev s first.toList).bind _=some res from h)
  have ⟨xs,hxs,h⟩:=bind_some h
  refine ⟨_,h,List.Perm.refl _,aR rfl,fun J θ hf=>?_⟩
  have ⟨k1,k2⟩:=Dd hf hys
  have ⟨k3,k4⟩:=GG hf hxs
  refine OpT.post (D2 ho rfl) fun v w C hv0 hst=>?_
  rw[k1,k3] at hv0
  have hh:hv (upd θ s.nxt v) ⟨s.nxt,[]⟩=v:=iN
  refine ⟨⟨⟨aw _,by rw[hh,hv0];rfl⟩,hh,fun g hg=>?_⟩,?_⟩
  ·cases au hg
   refine ⟨aw _,aw _,fun y hy x hx=>LV.ok_same Same.upd (Nat.le_succ _) (k2 y hy x hx) Hp.le.rfl,fun x hx=>LV.ok_same Same.upd (Nat.le_succ _) (k4 x hx) Hp.le.rfl,?_⟩
   rw[hh,kc Same.upd k4,List.map_congr_left fun y hy=>xi Same.upd (k2 y hy)]
   omega
  ·exact St.emp.2 hst
 | _=>cases h
theorem GH (hT:TTok P tt) {T:TypeId} (ho:o.op= .load T x) (h:OI tt s k T x=some res):Oks P w0 s o k res:=by
 have ⟨d,hd,h⟩:=bind_some h
 have hdk:=hT.get hd
 split at h
 ·rename_i hh T' t a off hx
  have ⟨p,hp,h⟩:=bind_some h
  have ⟨hg,h⟩:=aj h
  have hg:p.ty.isProd=d.agg:=by simpa using hg
  have hp:=zR _ _ _ _ hp
  refine ⟨_,h,List.Perm.refl _,aR rfl,fun J θ hf=>?_⟩
  have ⟨h1,cells,h2,h3⟩:=bA hf hx
  have ⟨c,e1,e2⟩:=hp.fld J cells a h3
  have hl:=(p.ty.rep.rd_len e2).trans (p.ty.rep_size.trans hp.size)
  have e1':(cells.drop off).take d.n=c:=by rw[<-hp.size,<-p.ty.rep_size];exact e1
  refine OpT.weak (yo h2 hdk.ti ho (aB (θ:=θ) hx) hdk.one e1' hl rfl) (fun v hv0=>?_) (fun v hv0=>rfl)
  have hlds:Lds p.ty.isProd c v:=by
   rw[hg]
   cases hb:d.agg with
   | true=>rw[hb] at hv0;exact hv0
   | false =>
    rw[hb] at hv0
    have h1':d.n=1:=by
     have:=hdk.one
     rw[hb] at this
     simpa using this
    obtain ⟨u,rfl⟩:=List.length_eq_one_iff.1 (hl.trans h1')
    rw[show v=u from hv0];rfl
  have:=pM (P:=P) (w0:=w0) (J:=J) (θ:=upd θ s.nxt v) (id:=s.nxt) (n:=s.nxt+1) (chs:=(Res.pure s (NX s.nxt p.ty (p.get a))).chs s.nxt) (aw _) iN p.ty (p.get a) c e2 hlds
  exact ⟨this.1,this.2,fun g hg=>by cases hg⟩
 ·rename_i hh T' ps rs e hx
  have ⟨hn,h⟩:=aj h
  rw[ai] at hn
  have hn1:=al hn.1
  refine ⟨_,h,List.Perm.refl _,aR rfl,fun J θ hf=>?_⟩
  have ⟨h1,u,h2,h3⟩:=bA hf hx
  refine OpT.weak (yo (d:=[u]) (u:=u) h2 hdk.ti ho (aB (θ:=θ) hx) hdk.one (by grind) (by grind) (by grind)) (fun v hv0=>?_) (fun v hv0=>rfl)
  have hh:hv (upd θ s.nxt v) ⟨s.nxt,[]⟩=v:=iN
  exact ⟨⟨aw _,by grind⟩,hh,fun g hg=>by cases hg⟩
 grind
theorem Mh (hT:TTok P tt) {T:TypeId} {f:Nat} (ho:o.op= .fieldAddr T x f) (h:OJ tt s k T x f=some res):Oks P w0 s o k res:=by
 have ⟨d,hd,h⟩:=bind_some h
 have ⟨q,hq,h⟩:=bind_some h
 have hf:=(hT.get hd).fld f q hq
 split at h
 ·rename_i hh T' t a off hx
  exact ⟨_,h,ep (fun J θ hF=>lX hf ho (aB (θ:=θ) hx)) fun J θ hF=>(by have:=bA hF hx;exact this)⟩
 grind
end
end R
namespace R
open Go.RowKit
open D
section
variable {P:Program} {I:Hp} {w0:World} {o:Oper} {ev:Operand->Value}
theorem KK {x:Operand} {a:Addr} (ho:o.op= .nilCheck x) (hx:ev x= .pointer (some a)):OpT P I w0 o ev [] (· = .pointer (some a)) (fun _=>[]):=
 bd fun w=>by simp_all[execOp]
theorem Xb {x y:Operand} {T U:TypeId} {m n:Int} (ho:o.op= .call { callee:=.builtin .min,args:= #[x,y],argTypes:= #[T,U] }) (hx:ev x= .int .i64 m) (hy:ev y= .int .i64 n):OpT P I w0 o ev [] (· = .int .i64 (min m n)) (fun _=>[]):=
 bd fun w=>by
  have e:min m n=if n<m then n else m:=by omega
  simp_all[execOp,resolve,invoke,builtin,Builtin.min_,Builtin.min2]
theorem Xc {x y:Operand} {T U:TypeId} {m n:Int} (ho:o.op= .call { callee:=.builtin .max,args:= #[x,y],argTypes:= #[T,U] }) (hx:ev x= .int .i64 m) (hy:ev y= .int .i64 n):OpT P I w0 o ev [] (· = .int .i64 (max m n)) (fun _=>[]):=
 bd fun w=>by
  have e:max m n=if m<n then n else m:=by omega
  simp_all[execOp,resolve,invoke,builtin,Builtin.max_,Builtin.max2]
theorem De {t e:TypeId} {a:Option Addr} {w:World} (hT:P.underlying t=some (.pointer e)):(Op.equal t (.pointer a) (.pointer none)).run P w= .ok a.isNone w:=by
 have key: ∀n,(Op.equalIn (n+1) t (.pointer a) (.pointer none)).run P w= .ok a.isNone w:=fun n=>by
  unfold Op.equalIn
  rw[Sem.run_bind,run_underlying hT,Result.andThen_ok]
  cases a <;> rfl
 exact key 9999
theorem OL {t e:TypeId} {a:Option Addr} {l c:Nat} {w:World} (hT:P.underlying t=some (.slice e)):(Op.equal t (.slice a l c) (.slice none 0 0)).run P w= .ok (Gk (.slice a l c)) w:=by
 have key: ∀n,(Op.equalIn (n+1) t (.slice a l c) (.slice none 0 0)).run P w= .ok (Gk (.slice a l c)) w:=fun n=>by
  unfold Op.equalIn
  rw[Sem.run_bind,run_underlying hT,Result.andThen_ok]
  cases a <;> rfl
 exact key 9999
theorem IK {x y:Operand} {t u e:TypeId} {a:Option Addr} {l c:Nat} (hT:P.underlying t=some (.slice e)) (ho:o.op= .binOp .eql t x y u) (hx:ev x= .slice a l c) (hy:ev y= .slice none 0 0):OpT P I w0 o ev [] (· = .bool (Gk (.slice a l c))) (fun _=>[]):=
 bd fun w=>by
  have g1:eqGuard .eql t x y (.slice a l c) (.slice none 0 0)=pure ():=rfl
  have g2:binOp .eql t (.slice a l c) (.slice none 0 0)=(do pure (.bool (<-Op.equal t (.slice a l c) (.slice none 0 0)))):=rfl
  simp_all[execOp,Sem.run_bind,Sem.run_pure,OL,Result.andThen_ok]
theorem OM {x y:Operand} {t u e:TypeId} {a:Option Addr} (hT:P.underlying t=some (.pointer e)) (ho:o.op= .binOp .eql t x y u) (hx:ev x= .pointer a) (hy:ev y= .pointer none):OpT P I w0 o ev [] (· = .bool a.isNone) (fun _=>[]):=
 bd fun w=>by
  have g1:eqGuard .eql t x y (.pointer a) (.pointer none)=pure ():=rfl
  have g2:binOp .eql t (.pointer a) (.pointer none)=(do pure (.bool (<-Op.equal t (.pointer a) (.pointer none)))):=rfl
  simp_all[execOp,Sem.run_bind,Sem.run_pure,De,Result.andThen_ok]
theorem ON {x y:Operand} {t u e:TypeId} {a:Option Addr} (hT:P.underlying t=some (.pointer e)) (ho:o.op= .binOp .neq t x y u) (hx:ev x= .pointer a) (hy:ev y= .pointer none):OpT P I w0 o ev [] (· = .bool (!a.isNone)) (fun _=>[]):=
 bd fun w=>by
  have g1:eqGuard .neq t x y (.pointer a) (.pointer none)=pure ():=rfl
  have g2:binOp .neq t (.pointer a) (.pointer none)=(do pure (.bool (!(<-Op.equal t (.pointer a) (.pointer none))))):=rfl
  simp_all[execOp,Sem.run_bind,Sem.run_pure,De,Result.andThen_ok]
end
section
variable {Y:Type} (tt:TT) (s:Sg) (k:Res->Option Y)
def Xd (x:Operand):Option Y:=match opd s x with
 | some (.one (.ptr h off))=>k (.pure s (.one (.ptr h off)))
 | some (.one (.rd h (.tree T E t) d))=>(Tr.get d).bind fun _=>k (.pure s (.one (.rd h (.tree T E t) d)))
 | _=>none
def abn (x y:Operand):Option Y:=match opd s x,opd s y with
 | some (.one (.val (.int .i64 m))),some (.one (.val (.int .i64 n)))=>kv s k (.int .i64 (min m n))
 | _,_=>none
def abo (x y:Operand):Option Y:=match opd s x,opd s y with
 | some (.one (.val (.int .i64 m))),some (.one (.val (.int .i64 n)))=>kv s k (.int .i64 (max m n))
 | _,_=>none
def abp (b:BinOp) (T:TypeId) (x y:Operand):Option Y:=(td tt T).bind fun q=>q.pt.bind fun _=>match opd s x,opd s y with
 | some (.one (.rd h (.tree T' E t) d)),some (.one (.val v))=>bL (C6 v) (match b with
  | .eql=>kv s k (.bool d.isNil)
  | .neq=>k (.pure s (.one (.nb d.isNil)))
  | _=>none)
 | some (.one (.ptr h off)),some (.one (.val v))=>bL (C6 v) (match b with
  | .eql=>kv s k (.bool false)
  | .neq=>kv s k (.bool true)
  | _=>none)
 | _,_=>none
def aaJ (b:BinOp) (T:TypeId) (x y:Operand):Option Y:=(td tt T).bind fun q=>q.el.bind fun _=>match opd s x,opd s y,b with
 | some (.one (.rdn h b (.sl E t) d)),some (.one (.val v)),.eql=>bL (isNil v) (kv s k (.bool b))
 | some (.one (.own h)),some (.one (.val v)),.eql=>bL (isNil v) ((rowOf h s.chs).bind fun r=>(chk (0<(r.xs.length:Int))).bind fun _=>k ⟨[r.ent h],[],r.rest,[],.one (.val (.bool false))⟩)
 | some (.one (.val u)),some (.one (.val v)),.eql=>bL (isNil v&&isNil u) (kv s k (.bool true))
 | _,_,_=>none
def OO (T:TypeId) (x:Operand) (f:Nat):Option Y:=(td tt T).bind fun d=>(d.fields[f]?).bind fun q=>match opd s x with
 | some (.one (.rd h (.tree T' E t) a))=>(Tr.get a).bind fun p=>k (.pure s (.one (.fz h T' (.prod t (.sl E (.tree T' E t))) p q.1)))
 | _=>none
def abq (s:Sg) (x:Operand):Option (Hdr×(E:TypeId)×(t:Ty)×List t.den):=match opd s x with
 | some (.one (.rd h (.sl E t) xs))=>some (h,⟨E,t,xs⟩)
 | _=>none
def asI (s:Sg) (x:Operand):Option Int:=match opd s x with
 | some (.one (.val (.int .i64 m)))=>some m
 | _=>none
def So (E:TypeId) (t:Ty) (xs:List t.den):Option Y:=k (.pure s (.one (.rd ⟨s.nxt,[]⟩ (.sl E t) xs)))
def OP (T:TypeId) (x:Operand) (lo hi:Option Operand):Option Y:=(td tt T).bind fun d=>d.el.bind fun E'=>(td tt E').bind fun e=>(abq s x).bind fun r=>bL (Nat.beq e.n r.2.2.1.size) (match lo,hi with
 | some l,none=>(asI s l).bind fun l=>(chk (0<=l/\l<=(r.2.2.2.length:Int))).bind fun _=>So s k r.2.1 r.2.2.1 (r.2.2.2.drop l.toNat)
 | none,some h=>(asI s h).bind fun h=>(chk (0<=h/\h<=(r.2.2.2.length:Int))).bind fun _=>So s k r.2.1 r.2.2.1 (r.2.2.2.take h.toNat)
 | some l,some h=>(asI s l).bind fun l=>(asI s h).bind fun h=>(chk (0<=l/\l<=h/\h<=(r.2.2.2.length:Int))).bind fun _=>So s k r.2.1 r.2.2.1 ((r.2.2.2.take h.toNat).drop l.toNat)
 | none,none=>none)
def OQ (T:TypeId) (x:Operand) (lo hi:Option Operand):Option Y:=(td tt T).bind fun d=>match d.el,opd s x,lo,hi with
 | some E',some (.one (.own h)),none,some hi=>(rowOf h s.chs).bind fun r=>(td tt E').bind fun e=>bL (Nat.beq e.n r.t.size) ((asI s hi).bind fun m=>(chk (0<=m/\m<=(r.xs.length:Int))).bind fun _=>newRow s k r.E r.t [r.ent h] r.rest (r.xs.take m.toNat))
 | _,_,_,_=>none
def OR (T:TypeId) (x:Operand) (lo hi:Option Operand):Option Y:=(td tt T).bind fun d=>match d.el,opd s x,lo,hi with
 | some E',some (.one (.own h)),some lo,none=>(rowOf h s.chs).bind fun r=>(td tt E').bind fun e=>bL (Nat.beq e.n r.t.size) ((asI s lo).bind fun m=>(chk (0<=m/\m<=(r.xs.length:Int))).bind fun _=>newRow s k r.E r.t [r.ent h] r.rest (r.xs.drop m.toNat))
 | _,_,_,_=>none
def OS (T:TypeId) (x:Operand) (lo hi:Option Operand):Option Y:=(td tt T).bind fun d=>match d.el,opd s x,lo,hi with
 | some E',some (.one (.own h)),some lo,none=>(rowOf h s.chs).bind fun r=>(td tt E').bind fun e=>bL (Nat.beq e.n r.t.size) ((asI s lo).bind fun m=>(chk (0<=m/\m<=(r.xs.length:Int))).bind fun _=>k ⟨[r.ent h],[],r.rest,[],.sub h r.ver r.E r.t r.xs m⟩)
 | _,_,_,_=>none
def OT (T:TypeId) (x:Operand) (lo hi:Option Operand):Option Y:=(td tt T).bind fun d=>match d.el,opd s x,lo,hi with
 | some E',some (.one (.own h)),none,some hi=>(rowOf h s.chs).bind fun r=>(td tt E').bind fun e=>bL (Nat.beq e.n r.t.size) ((asI s hi).bind fun m=>(chk (0<=m/\m<=(r.xs.length:Int))).bind fun _=>k ⟨[r.ent h],[],r.rest,[],.pre h r.ver r.E r.t r.xs m⟩)
 | _,_,_,_=>none
structure Src0 where
 h:Hdr
 sub:Bool
 ver:Nat
 lo:Int
def Vf:AV->Option Src0
 | .one (.own h)=>some ⟨h,false,0,0⟩
 | .sub h ver _ _ _ l=>some ⟨h,true,ver,l⟩
 | _=>none
def Vg (h:Hdr) (ver:Nat) (E:TypeId) (k1:IntKind) (xs:List Int) (rest:List Ent) (lo:Int) (y:AV):Option Y:=match y with
 | .one (.rd _ (.sl _ (.int k2)) ys)=>bL (k1==k2) ((chk (0<=lo/\lo<=(xs.length:Int))).bind fun _=>k ⟨[],[(h,ver,.own (.sl E (.int k1)) xs)],rest,[(h,.own (.sl E (.int k1)) (FZ xs lo.toNat ys))],.one (.val (.int .i64 ((min ys.length (xs.length - lo.toNat):Nat):Int)))⟩)
 | .pre h2 v2 _ _ _ hi=>bL (Hdr.beq h2 h&&Nat.beq v2 ver) ((chk (0<=lo/\lo<=(xs.length:Int))).bind fun _=>(chk (0<=hi/\hi<=(xs.length:Int))).bind fun _=>k ⟨[],[(h,ver,.own (.sl E (.int k1)) xs)],rest,[(h,.own (.sl E (.int k1)) (FZ xs lo.toNat (xs.take hi.toNat)))],.one (.val (.int .i64 ((min (xs.take hi.toNat).length (xs.length - lo.toNat):Nat):Int)))⟩)
 | _=>none
def IL (r:Row):Option ((k:IntKind)×List Int):=match r.t,r.xs with
 | .int k,xs=>some ⟨k,xs⟩
 | _,_=>none
def Zo (T:TypeId) (x y:Operand):Option Y:=(td tt T).bind fun d=>d.el.bind fun E=>(td tt E).bind fun e=>bL (Nat.beq e.n 1) ((opd s x).bind fun xv=>(Vf xv).bind fun c=>(rowOf c.h s.chs).bind fun r=>bL (Nat.beq r.E E&&(!c.sub || Nat.beq c.ver r.ver)) ((IL r).bind fun q=>(opd s y).bind fun yv=>Vg k c.h r.ver r.E q.1 q.2 r.rest c.lo yv))
def OU (E b:Nat) (x:Operand):Option Y:=match opd s x with
 | some (.sub h ver E' t xs l)=>(rowOf h s.chs).bind fun r=>bL (Nat.beq r.ver ver&&(t.sh&&Nat.beq t.size 1)) ((cM b [] (xs.drop l.toNat)).bind fun zs=>k ⟨[r.ent h],[],r.rest,[(⟨s.nxt,[]⟩,.own (.sl E t) zs)],.one (.own ⟨s.nxt,[]⟩)⟩)
 | some (.one (.own h))=>(rowOf h s.chs).bind fun r=>bL (r.t.sh&&Nat.beq r.t.size 1) ((cM b [] r.xs).bind fun zs=>k ⟨[r.ent h],[],r.rest,[(⟨s.nxt,[]⟩,.own (.sl E r.t) zs)],.one (.own ⟨s.nxt,[]⟩)⟩)
 | some (.one (.rd h (.sl E' t) xs))=>bL (t.sh&&Nat.beq t.size 1) ((cM b [] xs).bind fun zs=>newRow s k E t [] s.chs zs)
 | _=>none
end
section
variable {Y:Type} {tt:TT} {s:Sg} {k:Res->Option Y} {P:Program} {w0:World} {o:Oper} {res:Y} {x y:Operand}
theorem Sp {av:AV} {fact:Hp->Th->Value->Prop} (hop: ∀J θ,Fine P w0 J θ s->OpT P J w0 o (evL (envL θ s)) [] (fact J θ) (fun _=>[])) (hok: ∀J θ v,Fine P w0 J θ s->fact J θ v->av.ok P w0 J (upd θ s.nxt v) (s.nxt+1) s.chs/\av.v (upd θ s.nxt v)=v):Good P w0 s o (Res.pure s av):=
 ⟨List.Perm.refl _,fun _ _ _ g hg=>(by cases hg),fun J θ hf=>OpT.weak (hop J θ hf) (fun v hv=>by
  have ⟨h1,h2⟩:=hok J θ v hf hv
  exact ⟨h1,h2,fun g hg=>by cases hg⟩) (fun v hv=>rfl)⟩
theorem Sq (ho:o.op= .nilCheck x) (h:Xd s k x=some res):Oks P w0 s o k res:=by
 unfold Xd at h
 split at h
 ·rename_i hh off hx
  exact ⟨_,h,ep (fun J θ hf=>KK ho (aB hx)) fun J θ hf=>bA hf hx⟩
 ·rename_i hh T E t d hx
  have ⟨p,hp,h⟩:=bind_some h
  refine ⟨_,h,ep (fun J θ hf=>?_) fun J θ hf=>bA hf hx⟩
  have hxo:=bA hf hx
  obtain ⟨b,e,-⟩:=Kq (E:=E) hxo.2 hp
  have hev:=(aB hx).trans e
  grind[KK,aB]
 grind
theorem Xe {T U:TypeId} (ho:o.op= .call { callee:=.builtin .min,args:= #[x,y],argTypes:= #[T,U] }) (h:abn s k x y=some res):Oks P w0 s o k res:=by
 unfold abn at h
 split at h
 ·rename_i m n hx hy
  exact kz h rfl fun J θ hf=>Xb ho (aB hx) (aB hy)
 grind
theorem Xf {T U:TypeId} (ho:o.op= .call { callee:=.builtin .max,args:= #[x,y],argTypes:= #[T,U] }) (h:abo s k x y=some res):Oks P w0 s o k res:=by
 unfold abo at h
 split at h
 ·rename_i m n hx hy
  exact kz h rfl fun J θ hf=>Xc ho (aB hx) (aB hy)
 grind
theorem OV (hT:TTok P tt) {b:BinOp} {t u:TypeId} (ho:o.op= .binOp b t x y u) (h:abp tt s k b t x y=some res):Oks P w0 s o k res:=by
 have ⟨q,hq,h⟩:=bind_some h
 have ⟨e,he,h⟩:=bind_some h
 have hpt:=(hT.get hq).pt e he
 split at h
 ·rename_i hh T' E t' d v hx hy
  have ⟨hn,h⟩:=aj h
  have hn:=Aq hn
  subst hn
  have key: ∀J θ,Fine P w0 J θ s-> ∃a:Option Addr,evL (envL θ s) x= .pointer a/\a.isNone=d.isNil:=fun J θ hf=>by
   have hxo:=bA hf hx
   have ⟨a,e1,e2⟩:=RW hxo.2
   exact ⟨a,(aB hx).trans e1,e2⟩
  split at h
  ·refine kz h rfl fun J θ hf=>?_
   have ⟨a,e1,e2⟩:=key J θ hf
   rw[<-e2]
   exact OM hpt ho e1 (aB hy)
  ·refine ⟨_,h,ep (fun J θ hf=>?_) fun _ _ _=>trivial⟩
   have ⟨a,e1,e2⟩:=key J θ hf
   rw[<-e2]
   exact ON hpt ho e1 (aB hy)
  grind
 ·rename_i hh off v hx hy
  have ⟨hn,h⟩:=aj h
  have hn:=Aq hn
  subst hn
  split at h
  ·exact kz h rfl fun J θ hf=>OM hpt ho (aB hx) (aB hy)
  ·exact kz h rfl fun J θ hf=>ON hpt ho (aB hx) (aB hy)
  grind
 grind
theorem IM (hT:TTok P tt) {b:BinOp} {t u:TypeId} (ho:o.op= .binOp b t x y u) (h:aaJ tt s k b t x y=some res):Oks P w0 s o k res:=by
 have ⟨q,hq,h⟩:=bind_some h
 have ⟨e,he,h⟩:=bind_some h
 have hel:=(hT.get hq).el e he
 split at h
 ·rename_i hh b' E t' d v hx hy _ _
  have ⟨hn,h⟩:=aj h
  have hn:=nw hn
  subst hn
  refine kz h rfl fun J θ hf=>?_
  have hxo:=bA hf hx
  obtain ⟨h1,⟨ao,cap,h2,-⟩,h3⟩:=hxo
  have h2:hv θ hh= .slice ao d.length cap:=by simpa using h2
  rw[h2] at h3
  rw[<-h3]
  exact IK hel ho ((aB hx).trans h2) (aB hy)
 ·rename_i hh v hx hy _ _
  have ⟨hn,h⟩:=aj h
  have hn:=nw hn
  subst hn
  have ⟨r,hr,h⟩:=bind_some h
  have ⟨u0,hc,h⟩:=bind_some h
  have hc:=bQ hc
  obtain ⟨hp,-⟩:=bN hr
  refine ⟨_,h,pq hp,aR rfl,fun J θ hf=>OpT.weak (uT (fact:=(· = .bool false)) fun hD=>?_) (fun u hu=>?_) (fun u hu=>rfl)⟩
  ·have ⟨ao,cap,e1,e2,e3⟩:=hD
   obtain ⟨bb,off,rfl⟩:=e2 (by omega)
   exact IK hel ho ((aB hx).trans e1) (aB hy)
  ·subst hu
   exact ⟨Eq.refl true,rfl,fun g hg=>by cases hg⟩
 ·rename_i u v hx hy _ _
  have ⟨hn,h⟩:=aj h
  rw[ai] at hn
  have hv:=nw hn.1
  have hu:=nw hn.2
  subst hv
  subst hu
  exact kz h rfl fun J θ hf=>IK hel ho (aB hx) (aB hy)
 grind
theorem Mi (hT:TTok P tt) {T:TypeId} {f:Nat} (ho:o.op= .fieldAddr T x f) (h:OO tt s k T x f=some res):Oks P w0 s o k res:=by
 have ⟨d,hd,h⟩:=bind_some h
 have ⟨q,hq,h⟩:=bind_some h
 split at h
 ·rename_i hh T' E t a hx
  have ⟨p,hp,h⟩:=bind_some h
  have hfl:=(hT.get hd).fld f q hq
  have key: ∀J θ,Fine P w0 J θ s->hh.id<s.nxt/\ ∃b,hv θ hh= .pointer (some ⟨b,0,none⟩)/\ ∃cells:List Value,J b=some (.cells cells.toArray T' (0,0))/\(Ty.prod t (.sl E (.tree T' E t))).rep.rd J cells p:=fun J θ hf=>by
   have hxo:=bA hf hx
   have ⟨b,e,cells,k1,k2⟩:=Kq (E:=E) hxo.2 hp
   exact ⟨hxo.1,b,e,cells,k1,k2⟩
  refine ⟨_,h,ep (fun J θ hf=>?_) fun J θ hf=>?_⟩
  ·obtain ⟨-,b,e,-⟩:=key J θ hf
   have hev:=(aB hx).trans e
   have:=lX (P:=P) (I:=J) (w0:=w0) hfl ho hev
   rw[Nat.zero_add] at this
   show OpT P J w0 o _ [] (· = .pointer (some ⟨bk (hv θ hh),q.1,none⟩)) _
   rw[e]
   exact this
  ·have ⟨h1,b,e,cells,k1,k2⟩:=key J θ hf
   exact ⟨h1,cells,by rw[e];exact k1,k2⟩
 grind
theorem Xg {r:Hdr×(E:TypeId)×(t:Ty)×List t.den} (h:abq s x=some r):opd s x=some (.one (.rd r.1 (.sl r.2.1 r.2.2.1) r.2.2.2)):=by
 grind[abq,ad]
theorem uj {m:Int} (h:asI s x=some m) (θ:Th):evL (envL θ s) x= .int .i64 m:=by
 unfold asI at h
 split at h
 ·rename_i hx
  cases ad h
  exact aB hx
 grind
theorem Ew {E:TypeId} {t:Ty} {xs:List t.den} (h:So s k E t xs=some res) (hop: ∀J θ,Fine P w0 J θ s->OpT P J w0 o (evL (envL θ s)) [] (fun v=>(Ty.sl E t).rep.rd J [v] xs) (fun _=>[])):Oks P w0 s o k res:=
 ⟨_,h,Sp (fact:=fun J θ v=>(Ty.sl E t).rep.rd J [v] xs) hop fun J θ v hf hv'=>⟨⟨aw _,by grind[dB]⟩,dB⟩⟩
theorem Mj (hT:TTok P tt) {T:TypeId} {lo hi:Option Operand} (ho:o.op= .slice T x lo hi none) (h:OP tt s k T x lo hi=some res):Oks P w0 s o k res:=by
 have ⟨d,hd,h⟩:=bind_some h
 have ⟨E',hE,h⟩:=bind_some h
 have ⟨e,he,h⟩:=bind_some h
 have ⟨⟨hh,E,t,xs⟩,hr,h⟩:=bind_some h
 have hx:=Xg hr
 have ⟨hn,h⟩:=aj h
 have hn:=al hn
 have hdE:=(hT.get hd).el E' hE
 have hti:=(hT.get he).ti
 have key: ∀J θ,Fine P w0 J θ s->(af E t.rep).rd J [hv θ hh] xs:=fun J θ hf=>(bA hf hx).2
 have hsz:=t.rep_size.trans hn.symm
 split at h
 ·have ⟨m,hm,h⟩:=bind_some h
  have ⟨u,hc,h⟩:=bind_some h
  have hc:=bQ hc
  refine Ew h fun J θ hf=>OpT.weak (uQ hdE hti (Hd.of_rd (key J θ hf)) ho (aB hx) (uj hm θ) hc) (fun v hv'=>?_) (fun v hv'=>rfl)
  subst hv'
  exact Ko (key J θ hf) (by grind) hsz
 ·have ⟨m,hm,h⟩:=bind_some h
  have ⟨u,hc,h⟩:=bind_some h
  have hc:=bQ hc
  refine Ew h fun J θ hf=>OpT.weak (uR hdE hti (Hd.of_rd (key J θ hf)) ho (aB hx) (uj hm θ) hc) (fun v hv'=>?_) (fun v hv'=>rfl)
  subst hv'
  exact RS (key J θ hf) (by omega) hsz
 ·have ⟨m,hm,h⟩:=bind_some h
  have ⟨m2,hm2,h⟩:=bind_some h
  have ⟨u,hc,h⟩:=bind_some h
  have hc:=bQ hc
  refine Ew h fun J θ hf=>OpT.weak (Gi hdE hti (Hd.of_rd (key J θ hf)) ho (aB hx) (uj hm θ) (uj hm2 θ) hc) (fun v hv'=>?_) (fun v hv'=>rfl)
  subst hv'
  exact Kn (key J θ hf) (by omega) (by omega) hsz
 grind
theorem Sr {α:Type} {E:TypeId} {R:Rep α} {I:Hp} {w:World} {C:List Ch} {v:Value} {xs:List α} {m n:Nat} (h:St I w0 w (Ch.own (af E R) [v] xs::C)) (hm:m<=xs.length) (hn:R.size=n):St I w0 w (Ch.own (af E R) [rf v m xs.length n] (xs.drop m)::C):=by
 obtain ⟨h1,h2,F,⟨G,K,rfl,k,e⟩,h4,h5⟩:=h
 have ⟨hl,k⟩:=k
 have hlen:(xs.drop m).length=xs.length - m:=bJ
 rcases k with ⟨hv',rfl,rfl⟩ | ⟨g,ofs,cap,cur,K1,hv',k1,k2,k3,k4,rfl,k5⟩
 ·obtain rfl:v= .slice none 0 0:=by grind
  obtain rfl:m=0:=by grind
  refine ⟨h1,h2,[] ++K,⟨[],K,rfl,⟨by simp,.inl ⟨?_,rfl,rfl⟩⟩,e⟩,h4,h5⟩
  rfl
 ·rw[<-List.take_append_drop m xs] at k5
  obtain ⟨c1,c2,G1,G2,f1,f2,rfl,-,q1⟩:=k5.cut2
  have hp:((g::(G1++G2))++K).Perm (((g::G2)++K)++G1):=by
   rw[aA]
   have:((G1++G2)++K).Perm (G2++(K++G1)):=by
    rw[aA,<-aA G2 K G1];exact List.perm_append_comm
   exact this.cons g
  have hdr:cur.toList.drop (ofs+m*R.size)=c2:=by
   rw[<-List.drop_drop,f1]
   have:(xs.take m).length=m:=by rw[aI];omega
   rw[this] at f2
   exact List.drop_left' f2
  by_cases hc:cap=m
  ·have hx0:xs.drop m= []:=List.eq_nil_of_length_eq_zero (by omega)
   rw[hx0] at q1
   obtain rfl:G2= []:=q1
   refine ⟨h1,h2,(g:: [])++K,⟨g:: [],K,rfl,⟨by omega,.inr ⟨g,ofs,0,cur,[],?_,k1,by omega,Nat.zero_le _,by omega,rfl,by rw[hx0];rfl⟩⟩,e⟩,(List.nodup_append.1 (hp.nodup_iff.1 h4)).1,fun b hb=>h5 b (hp.mem_iff.2 (aZ _ hb))⟩
   grind[rf,sliced]
  ·refine ⟨h1,h2,(g::G2)++K,⟨g::G2,K,rfl,⟨by omega,.inr ⟨g,ofs+m*R.size,cap - m,cur,G2,?_,k1,by omega,by omega,?_,rfl,by grind⟩⟩,e⟩,(List.nodup_append.1 (hp.nodup_iff.1 h4)).1,fun b hb=>h5 b (hp.mem_iff.2 (aZ _ hb))⟩
   ·grind[rf,sliced,Addr.add_mid]
   ·have:m*R.size+(cap - m)*R.size=cap*R.size:=by rw[<-Nat.add_mul];congr 1;omega
    omega
theorem Ss {α:Type} {E:TypeId} {R:Rep α} {I:Hp} {w:World} {C:List Ch} {v:Value} {xs:List α} {m n:Nat} (h:St I w0 w (Ch.own (af E R) [v] xs::C)) (hm:m<=xs.length) (hn:R.size=n):St I w0 w (Ch.own (af E R) [rf v 0 m n] (xs.take m)::C):=by
 obtain ⟨h1,h2,F,⟨G,K,rfl,k,e⟩,h4,h5⟩:=h
 have ⟨hl,k⟩:=k
 have hlen:(xs.take m).length=m:=by rw[aI];omega
 rcases k with ⟨hv',rfl,rfl⟩ | ⟨g,ofs,cap,cur,K1,hv',k1,k2,k3,k4,rfl,k5⟩
 ·obtain rfl:v= .slice none 0 0:=by grind
  obtain rfl:m=0:=by grind
  refine ⟨h1,h2,[] ++K,⟨[],K,rfl,⟨by simp,.inl ⟨?_,rfl,rfl⟩⟩,e⟩,h4,h5⟩
  rfl
 ·rw[<-List.take_append_drop m xs] at k5
  obtain ⟨G1,G2,rfl,q1,-⟩:=k5.parts
  have hp:((g::(G1++G2))++K).Perm (((g::G1)++K)++G2):=by
   rw[aA]
   show (g::((G1++G2)++K)).Perm (g::(G1++(K++G2)))
   rw[aA]
   exact (List.perm_append_comm.append_left G1).cons g
  refine ⟨h1,h2,(g::G1)++K,⟨g::G1,K,rfl,⟨by omega,.inr ⟨g,ofs,cap,cur,G1,?_,k1,by omega,k3,k4,rfl,q1⟩⟩,e⟩,(List.nodup_append.1 (hp.nodup_iff.1 h4)).1,fun b hb=>h5 b (hp.mem_iff.2 (aZ _ hb))⟩
  grind[rf,sliced,Addr.add]
theorem Mk (hT:TTok P tt) {T:TypeId} {lo hi:Option Operand} (ho:o.op= .slice T x lo hi none) (h:OQ tt s k T x lo hi=some res):Oks P w0 s o k res:=by
 have ⟨d,hd,h⟩:=bind_some h
 split at h
 ·rename_i E' hh hi' he hx _
  have ⟨r,hr,h⟩:=bind_some h
  have ⟨e,hE,h⟩:=bind_some h
  have ⟨hn,h⟩:=aj h
  have hn:=al hn
  have ⟨m,hm,h⟩:=bind_some h
  have ⟨u,hc,h⟩:=bind_some h
  have hc:=bQ hc
  obtain ⟨hp,-⟩:=bN hr
  have hsz:=r.t.rep_size.trans hn.symm
  refine ⟨_,h,good_row (rs:=[]) (El hp) fun J θ hf=>?_⟩
  have h1:OpT P J w0 o (evL (envL θ s)) [Ch.own (af r.E r.t.rep) [hv θ hh] r.xs] (· =rf (hv θ hh) 0 m.toNat e.n) (fun _=>[Ch.own (af r.E r.t.rep) [hv θ hh] r.xs]):=uT fun hD=>uR ((hT.get hd).el _ he) (hT.get hE).ti hD ho (aB hx) (uj hm θ) hc
  refine OpT.post h1 fun v w C hv' hs=>⟨trivial,?_⟩
  subst hv'
  exact Ss hs (by omega) hsz
 grind
theorem Ml (hT:TTok P tt) {T:TypeId} {lo hi:Option Operand} (ho:o.op= .slice T x lo hi none) (h:OR tt s k T x lo hi=some res):Oks P w0 s o k res:=by
 have ⟨d,hd,h⟩:=bind_some h
 split at h
 ·rename_i E' hh lo' he hx _
  have ⟨r,hr,h⟩:=bind_some h
  have ⟨e,hE,h⟩:=bind_some h
  have ⟨hn,h⟩:=aj h
  have hn:=al hn
  have ⟨m,hm,h⟩:=bind_some h
  have ⟨u,hc,h⟩:=bind_some h
  have hc:=bQ hc
  obtain ⟨hp,-⟩:=bN hr
  have hsz:=r.t.rep_size.trans hn.symm
  refine ⟨_,h,good_row (rs:=[]) (El hp) fun J θ hf=>?_⟩
  have h1:OpT P J w0 o (evL (envL θ s)) [Ch.own (af r.E r.t.rep) [hv θ hh] r.xs] (· =rf (hv θ hh) m.toNat r.xs.length e.n) (fun _=>[Ch.own (af r.E r.t.rep) [hv θ hh] r.xs]):=uT fun hD=>uQ ((hT.get hd).el _ he) (hT.get hE).ti hD ho (aB hx) (uj hm θ) hc
  refine OpT.post h1 fun v w C hv' hs=>⟨trivial,?_⟩
  subst hv'
  exact Sr hs (by omega) hsz
 grind
theorem OW {h:Hdr} {ver:Nat} {E:TypeId} {t:Ty} {xs:List t.den} {l:Int} {J:Hp} {θ:Th} {r:Row} (hr:rowOf h s.chs=some r) (hv:r.ver=ver) (hm:AV.ok P w0 J θ s.nxt s.chs (.sub h ver E t xs l)):r.ent h=(h,ver,.own (.sl E t) xs):=by
 obtain ⟨hp,-⟩:=bN hr
 have:=hm.2.2.2 (r.ent h) (hp.mem_iff.2 (by simp)) _ ⟨rfl,.inl ⟨hv,rfl⟩⟩
 show (h,r.ver,Chk.own (.sl r.E r.t) r.xs)=_
 rw[hv,show Chk.own (.sl r.E r.t) r.xs=_ from this]
theorem Mm (hT:TTok P tt) {T:TypeId} {lo hi:Option Operand} (ho:o.op= .slice T x lo hi none) (h:OS tt s k T x lo hi=some res):Oks P w0 s o k res:=by
 have ⟨d,hd,h⟩:=bind_some h
 split at h
 ·rename_i E' hh lo' he hx _
  have ⟨r,hr,h⟩:=bind_some h
  have ⟨e,hE,h⟩:=bind_some h
  have ⟨hn,h⟩:=aj h
  have hn:=al hn
  have ⟨m,hm,h⟩:=bind_some h
  have ⟨u,hc,h⟩:=bind_some h
  have hc:=bQ hc
  obtain ⟨hp,-⟩:=bN hr
  refine ⟨_,h,pq hp,aR rfl,fun J θ hf=>OpT.weak (uT (fact:=(· =rf (hv θ hh) m.toNat r.xs.length e.n)) fun hD=>uQ ((hT.get hd).el _ he) (hT.get hE).ti hD ho (aB hx) (uj hm θ) hc) (fun u hu=>?_) (fun u hu=>rfl)⟩
  have hok:=jl hf hp
  refine ⟨⟨aT hok.1,hc,(vP hr hok.2.1).newer (Res.newer (pq hp) (aR rfl J θ hf)) (Nat.le_succ _)⟩,?_,fun g hg=>by cases hg⟩
  rw[hu,hn]
  show rf (hv (upd θ s.nxt _) hh) _ _ _=rf (hv θ hh) _ _ _
  rw[show hv (upd θ s.nxt _) hh=hv θ hh from aX Same.upd hok.1]
 grind
theorem Mn (hT:TTok P tt) {T:TypeId} {lo hi:Option Operand} (ho:o.op= .slice T x lo hi none) (h:OT tt s k T x lo hi=some res):Oks P w0 s o k res:=by
 have ⟨d,hd,h⟩:=bind_some h
 split at h
 ·rename_i E' hh hi' he hx _
  have ⟨r,hr,h⟩:=bind_some h
  have ⟨e,hE,h⟩:=bind_some h
  have ⟨hn,h⟩:=aj h
  have hn:=al hn
  have ⟨m,hm,h⟩:=bind_some h
  have ⟨u,hc,h⟩:=bind_some h
  have hc:=bQ hc
  obtain ⟨hp,-⟩:=bN hr
  refine ⟨_,h,pq hp,aR rfl,fun J θ hf=>OpT.weak (uT (fact:=(· =rf (hv θ hh) 0 m.toNat e.n)) fun hD=>uR ((hT.get hd).el _ he) (hT.get hE).ti hD ho (aB hx) (uj hm θ) hc) (fun u hu=>?_) (fun u hu=>rfl)⟩
  have hok:=jl hf hp
  refine ⟨⟨aT hok.1,hc,(vP hr hok.2.1).newer (Res.newer (pq hp) (aR rfl J θ hf)) (Nat.le_succ _)⟩,?_,fun g hg=>by cases hg⟩
  rw[hu,hn]
  show rf (hv (upd θ s.nxt _) hh) _ _ _=rf (hv θ hh) _ _ _
  rw[show hv (upd θ s.nxt _) hh=hv θ hh from aX Same.upd hok.1]
 grind
theorem KL {e:Ent} {rest:List Ent} {t:Ty} {d:t.den} {v:Value} (hp:s.chs.Perm (e::rest)) (h1:v.oneCell'=true) (hop: ∀J θ,Fine P w0 J θ s->OpT P J w0 o (evL (envL θ s)) [toCh P θ e] (· =v) (fun _=>[Ch.own t.rep [hv θ e.1] d])):Good P w0 s o ⟨[],[e],rest,[(e.1,.own t d)],.one (.val v)⟩:=by
 refine ⟨El hp,aR rfl,fun J θ hf=>OpT.weak (hop J θ hf) (fun u hu=>?_) (fun u hu=>?_)⟩
 ·have hok:=jl hf hp
  refine ⟨h1,hu.symm,fun g hg=>?_⟩
  cases au hg
  exact ⟨aT hok.1,aw _,trivial⟩
 ·have hok:=jl hf hp
  show [Ch.own t.rep [hv θ e.1] d] = [Ch.own t.rep [hv (upd θ s.nxt u) e.1] d]
  rw[show hv (upd θ s.nxt u) e.1=hv θ e.1 from aX Same.upd hok.1]
theorem IN {r:Row} {q:(k:IntKind)×List Int} {h:Hdr} (hq:IL r=some q):r.ent h=(h,r.ver,.own (.sl r.E (.int q.1)) q.2):=by
 have ⟨ver,E,t,xs,rest⟩:=r
 unfold IL at hq
 split at hq
 ·rename_i k xs' h1 h2
  cases ad hq
  subst h1
  cases eq_of_heq h2
  rfl
 grind
theorem Su (hT:TTok P tt) {T U:TypeId} (ho:o.op= .call { callee:=.builtin .copy,args:= #[x,y],argTypes:= #[T,U] }) (h:Zo tt s k T x y=some res):Oks P w0 s o k res:=by
 have ⟨d,hd,h⟩:=bind_some h
 have ⟨E,hE,h⟩:=bind_some h
 have ⟨e,he,h⟩:=bind_some h
 have ⟨hn,h⟩:=aj h
 have hn:=al hn
 have ⟨xv,hx,h⟩:=bind_some h
 have ⟨c,hc,h⟩:=bind_some h
 have ⟨r,hr,h⟩:=bind_some h
 have ⟨hver,h⟩:=aj h
 rw[ai] at hver
 have hrE:=al hver.1
 have ⟨q,hq,h⟩:=bind_some h
 have ⟨yv,hy,h⟩:=bind_some h
 obtain ⟨hp,-⟩:=bN hr
 have hent:=IN (h:=c.h) hq
 rw[hent,hrE] at hp
 have hTe:=(hT.get hd).el E hE
 have hsz:(P.info? E).map (·.size)=some 1:=by have:=(hT.get he).ti;rw[hn] at this;exact Za this
 have hto: ∀J θ,Fine P w0 J θ s->(evL (envL θ s) x=hv θ c.h/\c.lo.toNat=0)\/evL (envL θ s) x=rf (hv θ c.h) c.lo.toNat q.2.length 1:=by
  intro J θ hf
  unfold Vf at hc
  split at hc
  ·cases ad hc
   exact .inl ⟨aB hx,rfl⟩
  ·rename_i hh ver' E' t' xs' l
   cases ad hc
   have hv2:ver'=r.ver:=al (by grind)
   have h1:=OW hr hv2.symm (bA hf hx)
   rw[hent] at h1
   have h2:=(Prod.mk.inj (Prod.mk.inj h1).2).2
   injection h2 with h3 h4
   injection h3 with h5 h6
   subst h6
   cases eq_of_heq h4
   right
   rw[aB (θ:=θ) hx]
   rfl
  ·cases hc
 unfold Vg at h
 split at h
 ·rename_i hh E' k2 ys
  have ⟨hk,h⟩:=aj h
  have hk:q.1=k2:=by simpa using hk
  subst hk
  have ⟨u,hlo,h⟩:=bind_some h
  have hlo:=bQ hlo
  rw[hrE] at h
  refine ⟨_,h,KL (e:=(c.h,r.ver,.own (.sl E (.int q.1)) q.2)) hp rfl fun J θ hf=>?_⟩
  have l1:c.lo.toNat<=q.2.length:=by omega
  exact Ix (lo:=c.lo.toNat) (bA hf hy).2 hTe hsz ho rfl (aB hy) l1 (hto J θ hf)
 ·rename_i h2 v2 E' t' xs' hi
  have ⟨hk,h9⟩:=aj h
  rw[ai] at hk
  have e1:=Hdr.beq_eq hk.1
  subst e1
  have e2:=al hk.2
  subst e2
  have ⟨u,hlo,h9⟩:=bind_some h9
  have hlo:=bQ hlo
  have ⟨u,hhi,h9⟩:=bind_some h9
  have hhi:=bQ hhi
  have l1:c.lo.toNat<=q.2.length:=by omega
  have l2:hi.toNat<=q.2.length:=by omega
  rw[hrE] at h9
  refine ⟨_,h9,KL (e:=(c.h,r.ver,.own (.sl E (.int q.1)) q.2)) hp rfl fun J θ hf=>?_⟩
  have hyo:=bA hf hy
  have h1:=hyo.2.2.2 (c.h,r.ver,.own (.sl E (.int q.1)) q.2) (hp.mem_iff.2 (by simp)) _ ⟨rfl,.inl ⟨rfl,rfl⟩⟩
  injection h1 with h3 h4
  injection h3 with h5 h6
  subst h6
  exact D8 (lo:=c.lo.toNat) (hi:=hi.toNat) hTe hsz ho rfl ((aB hy).trans rfl) l1 l2 (hto J θ hf)
 grind
inductive All2 {α β:Type} (p:α->β->Prop):List α->List β->Prop
 | nil:All2 p [] []
 | cons {a:α} {b:β} {l:List α} {m:List β} (h:p a b) (k:All2 p l m):All2 p (a::l) (b::m)
theorem All2.length_eq {α β:Type} {p:α->β->Prop} {l:List α} {m:List β} (h:All2 p l m):l.length=m.length:=by
 induction h with
 | nil=>rfl
 | cons _ _ ih=>grind
theorem OX {α:Type} {R:Rep α} (hR:R.Sh) (h1:R.size=1) {I:Hp} {w:World} : ∀ {xs:List α} {cur:List Value} {K:List Nat},OwnEls R I w cur xs K-> ∃ps:List Raw,K= [] /\OwnEls Ij I w cur ps [] /\All2 (fun p x=>R.rd I [p.1] x) ps xs
 | [],cur,K,h=>⟨[],h,rfl,.nil⟩
 | x::xs,cur,K,⟨c,rest,G,K1,e1,e2,e3,e4,e5⟩=>by
  obtain ⟨rfl,hrd⟩:=hR e4
  obtain ⟨p,rfl⟩:=List.length_eq_one_iff.1 (e2.trans h1)
  obtain ⟨ps,rfl,k2,k3⟩:=OX hR h1 e5
  exact ⟨⟨p,R.rd_one hrd p (by simp)⟩::ps,e3,⟨[p],rest,[],[],e1,rfl,rfl,⟨rfl,rfl⟩,k2⟩,.cons hrd k3⟩
theorem OY {α:Type} {R:Rep α} (hC:Cpy R R) (h1:R.size=1) {I:Hp} {w:World} : ∀ {xs:List α} {ps:List Raw} {cur:List Value} {K:List Nat},OwnEls Ij I w cur ps K->All2 (fun p x=>R.rd I [p.1] x) ps xs->K= [] /\OwnEls R I w cur xs []
 | [],[],cur,K,h,_=>⟨h,rfl⟩
 | x::xs,p::ps,cur,K,h,hh=>by
  have ⟨c,rest,G,K1,e1,e2,e3,e4,e5⟩:=h
  cases hh with
  | cons hp hps =>
   obtain ⟨rfl,e4⟩:=e4
   obtain rfl:c= [p.1]:=e4
   obtain ⟨rfl,k⟩:=OY hC h1 e5 hps
   exact ⟨e3,[p.1],rest,[],[],e1,h1.symm,rfl,hC hp,k⟩
 | [],_::_,_,_,_,hh=>by cases hh
 | _::_,[],_,_,_,hh=>by cases hh
theorem Xh {α:Type} {E:TypeId} {R:Rep α} (hR:R.Sh) (h1:R.size=1) {I:Hp} {w:World} {C:List Ch} {v:Value} {xs:List α} (h:St I w0 w (Ch.own (af E R) [v] xs::C)): ∃ps:List Raw,All2 (fun p x=>R.rd I [p.1] x) ps xs/\St I w0 w (Ch.own (af E Ij) [v] ps::C):=by
 obtain ⟨a1,a2,F,⟨G,K,rfl,⟨hl,k⟩,e⟩,a4,a5⟩:=h
 rcases k with ⟨hv',rfl,rfl⟩ | ⟨g,ofs,cap,cur,K1,hv',k1,k2,k3,k4,rfl,k5⟩
 ·exact ⟨[],.nil,a1,a2,[] ++K,⟨[],K,rfl,⟨Nat.zero_le _,.inl ⟨hv',rfl,rfl⟩⟩,e⟩,a4,a5⟩
 ·obtain ⟨ps,rfl,q1,q2⟩:=OX hR h1 k5
  have hlen:=q2.length_eq
  exact ⟨ps,q2,a1,a2,[g] ++K,⟨[g],K,rfl,⟨by omega,.inr ⟨g,ofs,cap,cur,[],by grind,k1,by omega,k3,by rw[h1] at k4;exact k4,rfl,q1⟩⟩,e⟩,a4,a5⟩
theorem IP {α:Type} {E:TypeId} {R:Rep α} (hC:Cpy R R) (h1:R.size=1) {I:Hp} {w:World} {C:List Ch} {v:Value} {xs:List α} {ps:List Raw} (hp:All2 (fun p x=>R.rd I [p.1] x) ps xs) (h:St I w0 w (Ch.own (af E Ij) [v] ps::C)):St I w0 w (Ch.own (af E R) [v] xs::C):=by
 obtain ⟨a1,a2,F,⟨G,K,rfl,⟨hl,k⟩,e⟩,a4,a5⟩:=h
 have hlen:=hp.length_eq
 rcases k with ⟨hv',rfl,rfl⟩ | ⟨g,ofs,cap,cur,K1,hv',k1,k2,k3,k4,rfl,k5⟩
 ·cases hp
  exact ⟨a1,a2,[] ++K,⟨[],K,rfl,⟨Nat.zero_le _,.inl ⟨hv',rfl,rfl⟩⟩,e⟩,a4,a5⟩
 ·obtain ⟨rfl,q1⟩:=OY hC h1 k5 hp
  exact ⟨a1,a2,[g] ++K,⟨[g],K,rfl,⟨by omega,.inr ⟨g,ofs,cap,cur,[],by grind,k1,by omega,k3,by rw[h1];exact k4,rfl,q1⟩⟩,e⟩,a4,a5⟩
theorem Zp {α:Type} {E:TypeId} {R:Rep α} (h1:R.size=1) {I:Hp} {v:Value} {xs:List α} (h:(af E R).rd I [v] xs): ∃ps:List Raw,All2 (fun p x=>R.rd I [p.1] x) ps xs/\(af E Ij).rd I [v] ps:=by
 obtain ⟨ao,cap,e,hl,h⟩:=h
 obtain rfl:v= .slice ao xs.length cap:=by grind
 rcases h with rfl | ⟨b,off,ccs,t,fr,rfl,h2,h3⟩
 ·exact ⟨[],.nil,ao,cap,rfl,hl,.inl rfl⟩
 ·have key: ∀(xs:List α) (k0:Nat),(∀i x,xs[i]? =some x-> ∃c:List Value,c.length=R.size/\(∀j,j<R.size->ccs.toList[off+(k0+i)*R.size+j]? =c[j]?)/\R.rd I c x)-> ∃ps:List Raw,All2 (fun p x=>R.rd I [p.1] x) ps xs/\ ∀i p,ps[i]? =some p->ccs.toList[off+(k0+i)]? =some p.1:=by
   intro xs
   induction xs with
   | nil=>intro k0 _;exact ⟨[],.nil,fun i p hp=>by grind⟩
   | cons x xs ih =>
    intro k0 h
    have ⟨c,e1,e2,e3⟩:=h 0 x rfl
    obtain ⟨p,rfl⟩:=List.length_eq_one_iff.1 (e1.trans h1)
    have ⟨ps,q1,q2⟩:=ih (k0+1) fun i y hy=>by
     have:=h (i+1) y (by grind)
     grind
    refine ⟨⟨p,R.rd_one e3 p (by simp)⟩::ps,.cons e3 q1,fun i u hu=>?_⟩
    cases i with
    | zero =>
     obtain rfl:⟨p,R.rd_one e3 p (by simp)⟩=u:=by grind
     simp_all
    | succ i =>
     grind
  have ⟨ps,q1,q2⟩:=key xs 0 (fun i x hx=>by grind)
  have hlen:=q1.length_eq
  refine ⟨ps,q1,_,cap,by grind,by omega,.inr ⟨b,off,ccs,t,fr,rfl,h2,fun i p hp=>?_⟩⟩
  refine ⟨[p.1],rfl,fun j hj=>?_,rfl⟩
  have hj:j=0:=by have:j<1:=hj;omega
  subst hj
  show ccs.toList[off+i*1+0]? =_
  grind
theorem yy {α β:Type} {p:α->β->Prop} : ∀ {xs:List α} {ys:List β} (n:Nat),All2 p xs ys->All2 p (xs.drop n) (ys.drop n)
 | _,_,0,h=>h
 | _,_,n+1,.nil=>.nil
 | _,_,n+1,.cons _ h=>yy n h
theorem Ex {α:Type} {b:Nat} {xs zs:List α} (h:cM b [] xs=some zs):zs=xs/\(∀ {β:Type} (ys:List β),ys.length=xs.length->cM b [] ys=some ys):=by
 have ⟨h1,h2⟩:=vI h
 simp_all[cM,if_pos]
theorem GI {E':TypeId} {α:Type} {R:Rep α} (hR:R.Sh) (hC:Cpy R R) (h1:R.size=1) {kf:FuncId} {E b:Nat} (hcl:xl P kf E b) {xs zs:List α} {l:Nat} (hl:l<=xs.length) (hz:cM b [] (xs.drop l)=some zs) {v u:Value} (hu:u=rf v l xs.length 1\/(l=0/\u=v)) {ts:Array TypeId} {J:Hp} {θ:Th} (hlay:Lay P J) (ho:o.op= .call { callee:=.value (.func kf),args:= #[x],argTypes:=ts }) {ev:Operand->Value} (hev:ev x=u) (hevf:ev (.func kf)= .func (.func kf) #[] #[]) :
  OpT P J w0 o ev [Ch.own (af E' R) [v] xs] (fun _=>True) (fun r=>[Ch.own (af E' R) [v] xs,Ch.own (af E R) [r] zs]):=by
 obtain ⟨rfl,tF⟩:=Ex hz
 intro w C hs
 have ⟨ps,hp,hs1⟩:=Xh hR h1 hs
 have hlen:=hp.length_eq
 have h2:OpT P J w0 o ev ([Ch.own (af E' Ij) [v] ps] ++ []) (fun _=>True) (fun r=>[Ch.own (af E' Ij) [v] ps] ++ [Ch.own (af E Ij) [r] (ps.drop l)]):=by
  refine vV (fun v=>⟨An (D7 Zi),trivial⟩) fun J' hJ hrd hbl=>?_
  have hr:=hrd (af E' Ij) [v] ps (by simp)
  have hr2:(af E' Ij).rd J' [u] (ps.drop l):=by
   rcases hu with rfl | ⟨rfl,rfl⟩
   ·rw[<-hlen]
    exact Ko hr (by omega) rfl
   ·exact hr
  exact qy hcl.1 ho hevf (by grind) (hcl.2 E' J' w0 u (ps.drop l) (ps.drop l) (hlay.mono hJ) hr2 (tF _ (by grind)))
 have:=h2 w C (by simp_all)
 refine this.imp fun r w' hr=>⟨trivial,?_⟩
 have h3:St J w0 w' (Ch.own (af E' Ij) [v] ps::Ch.own (af E Ij) [r] (ps.drop l)::C):=by simpa using hr.2
 have h4:=IP hC h1 hp h3
 have h5:=IP hC h1 (yy l hp) (h4.perm (List.Perm.swap _ _ _))
 exact h5.perm (List.Perm.swap _ _ _)
theorem Sv {E':TypeId} {α:Type} {R:Rep α} (hC:Cpy R R) (h1:R.size=1) {kf:FuncId} {E b:Nat} (hcl:xl P kf E b) {xs zs:List α} (hz:cM b [] xs=some zs) {v:Value} {ts:Array TypeId} {J:Hp} (hlay:Lay P J) (hr:(af E' R).rd J [v] xs) (ho:o.op= .call { callee:=.value (.func kf),args:= #[x],argTypes:=ts }) {ev:Operand->Value} (hev:ev x=v) (hevf:ev (.func kf)= .func (.func kf) #[] #[]) :
  OpT P J w0 o ev [] (fun _=>True) (fun r=>[Ch.own (af E R) [r] zs]):=by
 obtain ⟨rfl,tF⟩:=Ex hz
 have ⟨ps,hp,hr2⟩:=Zp h1 hr
 have:=qy (P:=P) (w0:=w0) (o:=o) hcl.1 ho hevf (by grind) (hcl.2 E' J w0 v ps ps hlay hr2 (tF _ hp.length_eq))
 exact OpT.post this fun r w C _ hs=>⟨trivial,IP hC h1 hp hs⟩
theorem GJ {e:Ent} {rest:List Ent} {E:TypeId} {t:Ty} {xs:List t.den} (hp:s.chs.Perm (e::rest)) (hop: ∀J θ,Fine P w0 J θ s->OpT P J w0 o (evL (envL θ s)) [toCh P θ e] (fun _=>True) (fun v=>[toCh P θ e,Ch.own (Ty.sl E t).rep [v] xs])):Good P w0 s o ⟨[e],[],rest,[(⟨s.nxt,[]⟩,.own (.sl E t) xs)],.one (.own ⟨s.nxt,[]⟩)⟩:=
 good_row (rs:=[e]) (ns:=[]) hp fun J θ hf=>fun w C hs=>(hop J θ hf w C hs).imp fun v w hv=>⟨hv.1,hv.2.perm ((List.Perm.swap _ _ _).append_right C)⟩
theorem OZ {kf:FuncId} {E b:Nat} (hcl:xl P kf E b) {ts:Array TypeId} (ho:o.op= .call { callee:=.value (.func kf),args:= #[x],argTypes:=ts }) (h:OU s k E b x=some res):Oks P w0 s o k res:=by
 unfold OU at h
 split at h
 ·rename_i hh ver E' t xs l hx
  have ⟨r,hr,h⟩:=bind_some h
  have ⟨hc,h⟩:=aj h
  rw[ai,ai] at hc
  have hver:=al hc.1
  have hsz:=al hc.2.2
  have ⟨zs,hz,h⟩:=bind_some h
  obtain ⟨hp,-⟩:=bN hr
  refine ⟨_,h,GJ hp fun J θ hf=>?_⟩
  have hxo:=bA hf hx
  have he:=OW hr hver hxo
  rw[he]
  refine GI (Ty.sh_ok hc.2.1) (Ty.cpy hc.2.1) (t.rep_size.trans hsz) hcl (l:=l.toNat) (by have:=hxo.2.1;omega) hz (.inl ?_) (J:=J) (θ:=θ) hf.lay ho rfl rfl
  rw[<-hsz]
  exact aB hx
 ·rename_i hh hx
  have ⟨r,hr,h⟩:=bind_some h
  have ⟨hc,h⟩:=aj h
  rw[ai] at hc
  have hsz:=al hc.2
  have ⟨zs,hz,h⟩:=bind_some h
  obtain ⟨hp,-⟩:=bN hr
  refine ⟨_,h,GJ hp fun J θ hf=>?_⟩
  exact GI (Ty.sh_ok hc.1) (Ty.cpy hc.1) (r.t.rep_size.trans hsz) hcl (l:=0) (Nat.zero_le _) (by grind) (.inr ⟨rfl,aB hx⟩) (J:=J) (θ:=θ) hf.lay ho rfl rfl
 ·rename_i hh E' t xs hx
  have ⟨hc,h⟩:=aj h
  rw[ai] at hc
  have hsz:=al hc.2
  have ⟨zs,hz,h⟩:=bind_some h
  exact ⟨_,h,good_row (rs:=[]) (ns:=[]) (List.Perm.refl _) fun J θ hf=>Sv (Ty.cpy hc.1) (t.rep_size.trans hsz) hcl hz hf.lay (bA hf hx).2 ho (aB hx) rfl⟩
 grind
end
end R
namespace R
open Go.RowKit
open D
structure Fr (s:Sg) (θ:Th) (s':Sg) (θ':Th):Prop where
 le:s.nxt<=s'.nxt
 same:Same s.nxt θ θ'
 env: ∀e∈s'.env,e.2.1<s.nxt->e∈s.env
 chs:Newer s.nxt s.chs s'.chs
section
variable {s s1 s2:Sg} {θ θ1 θ2:Th}
theorem Fr.rfl:Fr s θ s θ:=⟨aF _,Same.rfl,fun e he _=>he,Newer.rfl⟩
theorem Fr.trans (h:Fr s θ s1 θ1) (k:Fr s1 θ1 s2 θ2):Fr s θ s2 θ2:=
 ⟨Nat.le_trans h.le k.le,h.same.trans k.same h.le,fun e he hv=>h.env e (k.env e he (ay hv h.le)) hv,fun e he h' ver c hs=>by
  rcases k.chs e he h' ver c hs with h1 | ⟨e1,he1,hs1⟩
  ·exact .inl (Nat.le_trans h.le h1)
  ·exact h.chs e1 he1 h' ver c hs1⟩
theorem Fr.put {d:Option Nat} {v:AV} {chs:List Ent} (hs:Same s.nxt θ θ1) (hc:Newer s.nxt s.chs chs):Fr s θ ⟨NV d s.nxt v s.env,chs,s.nxt+1⟩ θ1:=
 ⟨Nat.le_succ _,hs,fun e he hv=>by
  grind[qz],hc⟩
end
def AG (p:AV->Option AV):Nat->List (Nat×Nat×AV)->List (Nat×Nat×AV)
 | _,[] =>[]
 | k,e::l=>(match p e.2.2 with
  | some x=>(e.1,k,x)
  | none=>e)::AG p (k+1) l
section
variable {P:Program} {I J J':Hp} {w0 w:World} {F:Ch} {n:Nat} {θ θ':Th} {s:Sg} {a:Act}
theorem se {p:AV->Option AV} {e:Nat×Nat×AV} : ∀ {l:List (Nat×Nat×AV)} {k:Nat},e∈AG p k l->(e∈l)\/(k<=e.2.1/\e.2.1<k+l.length/\ ∃e0∈l,e0.1=e.1/\p e0.2.2=some e.2.2)
 | [],k,h=>by cases h
 | e0::l,k,h=>by
  rcases ax h with h | h
  ·grind
  ·rcases se h with h | ⟨h2,h3,e1,h4,h5⟩
   ·grind
   grind
theorem KM {p:AV->Option AV} : ∀ {l:List (Nat×Nat×AV)} {k:Nat},l.Pairwise (fun a b=>a.2.1≠b.2.1)->(∀e∈l,e.2.1<k)->(AG p k l).Pairwise fun a b=>a.2.1≠b.2.1
 | [],_,_,_=>List.Pairwise.nil
 | e0::l,k,h,hk=>by
  have ⟨h1,h2⟩:=List.pairwise_cons.1 h
  refine List.pairwise_cons.2 ⟨fun e he=>?_,KM h2 fun e he=>aT (hk e (by grind))⟩
  rcases se he with he | ⟨k2,-,-⟩
  ·grind
  grind
theorem Df {p:AV->Option AV} : ∀ {l:List (Nat×Nat×AV)} {k:Nat},(∀e∈l,e.2.2.v θ'=e.2.2.v θ)->(∀e∈l,∀x,p e.2.2=some x->x.v θ'=e.2.2.v θ)->(AG p k l).map (fun e=>(e.1,e.2.2.v θ'))=l.map fun e=>(e.1,e.2.2.v θ)
 | [],_,_,_=>rfl
 | e0::l,k,h,hp=>by
  rw[AG,List.map_cons,List.map_cons,Df (fun e he=>h e (by grind)) fun e he=>hp e (by grind)]
  grind
theorem Sim.repl {p:AV->Option AV} {chs':List Ent} (hS:Sim P I w0 F n J θ s a w) (hs:Same s.nxt θ θ') (hJ:J.le J') (hst:St J' w0 w (chs'.map (toCh P θ')++ [F])) (hn:Newer s.nxt s.chs chs') (hok: ∀e∈chs',okE P w0 J' θ' (s.nxt+1) chs' e)
  (hp: ∀e∈s.env,∀x,p e.2.2=some x->x.ok P w0 J' θ' (s.nxt+1) chs'/\x.v θ'=e.2.2.v θ):Sim P I w0 F n J' θ' ⟨AG p (s.nxt+1) s.env,chs',s.nxt+1+s.env.length⟩ a w/\Fr s θ ⟨AG p (s.nxt+1) s.env,chs',s.nxt+1+s.env.length⟩ θ':=by
 have hle:s.nxt+1<=s.nxt+1+s.env.length:=Nat.le_add_right _ _
 refine ⟨⟨hS.le.trans hJ,?_,hst,fun e he=>?_,fun e he=>?_,KM hS.fine.nd fun e he=>aT (hS.fine.ver e he),fun e he=>eL Same.rfl hle Newer.rfl (hok e he) Hp.le.rfl,hS.fine.lay.mono hJ⟩,by grind,hs,fun e he hv=>?_,hn⟩
 ·have:envL θ' ⟨AG p (s.nxt+1) s.env,chs',s.nxt+1+s.env.length⟩=envL θ s:=Df (fun e he=>AV.v_same hs (hS.fine.env e he)) fun e he x hx=>(hp e he x hx).2
  rw[this];exact hS.agr
 ·rcases se he with he | ⟨-,-,e0,h1,-,h2⟩
  ·exact AV.ok_same hs (by grind) hn (hS.fine.env e he) hJ
  ·exact AV.ok_same Same.rfl hle Newer.rfl (hp e0 h1 _ h2).1 Hp.le.rfl
 ·rcases se he with he | ⟨h2,h3,-⟩
  ·have:=hS.fine.ver e he
   grind
  omega
 ·rcases se he with he | ⟨h2,-⟩
  ·exact he
  omega
end
def Zq (h:Hdr) (s:Sg):Option Sg:=(pull h s.chs).bind fun r=>match r.1.2.2 with
 | .box T t d=>some ⟨s.env,(h,s.nxt,.blk T (fj s.nxt (fun j=>[j]) t d 0))::((rh s.nxt (fun j=>[j]) t d 0).map (fun g=>(g.1,s.nxt,g.2))++r.2),s.nxt+1⟩
 | _=>none
section
variable {P:Program} {I J:Hp} {w0 w:World} {F:Ch} {n:Nat} {θ:Th} {s s':Sg} {a:Act} {h:Hdr}
theorem Sw (hs:Zq h s=some s') (hS:Sim P I w0 F n J θ s a w): ∃θ',Sim P I w0 F n J θ' s' a w/\Fr s θ s' θ':=by
 have ⟨r,hr,hs⟩:=bind_some hs
 have ⟨p,k⟩:=fa hr
 have ⟨⟨h2,ver,c⟩,rest⟩:=r
 obtain rfl:h2=h:=k
 cases c with
 | box T t d =>
  cases ad (show some _=some s' from hs)
  have hok:=hS.fine.chs _ (p.mem_iff.2 (List.mem_cons_self ..))
  have h0:=hS.st.perm ((p.map (toCh P θ)).append_right [F])
  have h1:=h0
  have ⟨cells,h1⟩:=St.box.1 h1
  let θ':=upd θ s.nxt (.agg cells.toArray)
  have hsame:Same s.nxt θ θ':=Same.upd
  have h3:=h1.perm (List.Perm.swap _ _ _)
  have ⟨k1,k2,k3,k4⟩:=iQ (P:=P) (m:=s.nxt) (θ:=θ') (pth:=fun j=>[j]) (n:=s.nxt+1) (aw _) t d 0 cells _ (fun i v hv'=>by
   show vg (upd θ s.nxt (.agg cells.toArray) s.nxt) [0+i] =v
   simp_all[iN,Nat.zero_add,U9]) h3
  have hmem: ∀e,e∈rest->e∈s.chs:=fun e he=>p.mem_iff.2 (be _ he)
  have hnew:Newer s.nxt s.chs ((h2,s.nxt,.blk T (fj s.nxt (fun j=>[j]) t d 0))::((rh s.nxt (fun j=>[j]) t d 0).map (fun g=>(g.1,s.nxt,g.2))++rest)):=fun e he h' ver' c hs'=>by
   rcases ax he with rfl | he
   ·obtain ⟨rfl,hs'⟩:=hs'
    rcases hs' with ⟨h1,-⟩ | hs'
    ·grind
    ·exact hs'.elim
   ·rcases aH he with he | he
    ·obtain ⟨g,hg,rfl⟩:=List.mem_map.1 he
     rcases hs'.2 with ⟨h1,-⟩ | hs'
     ·grind
     grind[vX,gZ]
    grind
  refine ⟨θ',⟨hS.le,?_,?_,fun e he=>AV.ok_same hsame (Nat.le_succ _) hnew (hS.fine.env e he) Hp.le.rfl,fun e he=>aT (hS.fine.ver e he),hS.fine.nd,fun e he=>?_,hS.fine.lay⟩,Nat.le_succ _,hsame,fun e he _=>he,hnew⟩
  ·show Agr n a (envL θ' s)
   rw[vO hsame hS.fine.env];exact hS.agr
  ·rw[List.map_cons,aS,List.map_map]
   have e1:toCh P θ' (h2,s.nxt,Chk.blk T (fj s.nxt (fun j=>[j]) t d 0))=Ch.blk (bk (hv θ h2)) cells T:=by
    show Ch.blk (bk (hv θ' h2)) ((fj s.nxt (fun j=>[j]) t d 0).map (·.v θ')) T=_
    rw[k2,aX hsame hok.1]
   rw[e1,fW hsame fun e he=>hS.fine.chs e (hmem e he)]
   have:=k4.perm (List.perm_middle (l₁:=(rh s.nxt (fun j=>[j]) t d 0).map fun g=>toCh P θ' (g.1,s.nxt,g.2)))
   rw[List.cons_append,aA]
   exact this
  ·rcases ax he with rfl | he
   ·exact ⟨aT hok.1,aw _,k1⟩
   ·rcases aH he with he | he
    ·obtain ⟨g,hg,rfl⟩:=List.mem_map.1 he
     exact uV (gZ t d 0 g hg) (by grind) (aw _)
    ·exact eL hsame (Nat.le_succ _) hnew (hS.fine.chs e (hmem e he)) Hp.le.rfl
 | _=>cases hs
end
def IQ:List Ent->List Hdr
 | [] =>[]
 | (h,_,.box _ _ _)::l=>h::IQ l
 | _::l=>IQ l
def O0:List Hdr->Sg->Sg
 | [],s=>s
 | h::hs,s=>O0 hs (match Zq h s with
  | some s'=>s'
  | none=>s)
def qC (s:Sg):Sg:=O0 (IQ s.chs) s
def AH (h:Hdr):LV->Bool
 | .own h'=>Hdr.beq h' h
 | _=>false
def LV.frz (h:Hdr) (t:Ty) (d:t.den) (x:LV):LV:=match AH h x with
 | true=>.rd h t d
 | false=>x
def AV.frz (h:Hdr) (t:Ty) (d:t.den):AV->Option AV
 | .one x=>match AH h x with
  | true=>some (.one (.rd h t d))
  | false=>none
 | .agg xs=>match xs.any (AH h) with
  | true=>some (.agg (xs.map (LV.frz h t d)))
  | false=>none
 | .tup ys=>match ys.any fun y=>y.2.any (AH h) with
  | true=>some (.tup (ys.map fun y=>(y.1,y.2.map (LV.frz h t d))))
  | false=>none
 | _=>none
def O1 (h:Hdr) (t:Ty) (d:t.den) (k:Nat) (e:Ent):Ent:=match e.2.2 with
 | .blk T cells=>match cells.any (AH h) with
  | true=>(e.1,k,.blk T (cells.map (LV.frz h t d)))
  | false=>e
 | _=>e
def Vh (h:Hdr) (y:AV) (x:AV):Option AV:=match x with
 | .one (.ptr h' off)=>match Hdr.beq h' h&&Nat.beq off 0 with
  | true=>some y
  | false=>none
 | _=>none
section
variable {P:Program} {J J':Hp} {w0:World} {n m k:Nat} {θ:Th} {h:Hdr} {t:Ty} {d:t.den} {chs:List Ent}
theorem GK {x:LV} (hx:AH h x=true):x= .own h:=by
 unfold AH at hx
 grind[Hdr.beq_eq]
theorem LV.frz_v (x:LV):(x.frz h t d).v θ=x.v θ:=by
 unfold LV.frz
 split
 ·rename_i hx;rw[GK hx];rfl
 ·rfl
theorem LV.frz_ok {x:LV} (hx:x.ok P w0 J θ n) (hn:n<=m) (hJ:J.le J') (hh:h.id<m) (hr:t.rep.rd J' [hv θ h] d):(x.frz h t d).ok P w0 J' θ m:=by
 unfold LV.frz
 split
 ·exact ⟨hh,hr⟩
 ·exact LV.ok_same Same.rfl hn hx hJ
theorem IR (xs:List LV):(xs.map (LV.frz h t d)).map (·.v θ)=xs.map (·.v θ):=by
 grind[List.map_map,List.map_congr_left,LV.frz_v]
theorem Sx (y:Bool×List LV):kt θ (y.1,y.2.map (LV.frz h t d))=kt θ y:=by
 grind[kt,IR,LV.frz_v]
theorem AV.frz_ok {x y:AV} (hy:x.frz h t d=some y) (hx:x.ok P w0 J θ n chs) {chs':List Ent} (hn:n<=m) (hJ:J.le J') (hh:h.id<m) (hr:t.rep.rd J' [hv θ h] d):y.ok P w0 J' θ m chs'/\y.v θ=x.v θ:=by
 unfold AV.frz at hy
 split at hy
 ·split at hy
  ·rename_i hb
   cases ad hy
   rw[GK hb]
   exact ⟨⟨hh,hr⟩,rfl⟩
  grind
 ·split at hy
  ·cases ad hy
   refine ⟨fun z hz=>?_,?_⟩
   ·obtain ⟨z0,hz0,rfl⟩:=List.mem_map.1 hz
    exact LV.frz_ok (hx z0 hz0) hn hJ hh hr
   ·show Value.agg _=Value.agg _
    rw[IR]
  grind
 ·split at hy
  ·cases ad hy
   refine ⟨fun z hz=>?_,?_⟩
   ·obtain ⟨z0,hz0,rfl⟩:=List.mem_map.1 hz
    intro u hu
    obtain ⟨u0,hu0,rfl⟩:=List.mem_map.1 hu
    exact LV.frz_ok (hx z0 hz0 u0 hu0) hn hJ hh hr
   ·show Value.tuple _=Value.tuple _
    simp_all[List.map_map,List.map_congr_left,Sx]
  grind
 grind
theorem O2 (e:Ent):toCh P θ (O1 h t d k e)=toCh P θ e:=by
 have ⟨h1,v,c⟩:=e
 unfold O1
 split
 ·rename_i T cells heq
  split
  ·show Ch.blk _ ((cells.map _).map _) _=_
   rw[IR]
   obtain rfl:c= .blk T cells:=heq
   rfl
  ·rfl
 ·rfl
theorem O3 {e:Ent} {h':Hdr} {ver:Nat} {c:Chk} (hs:Says (O1 h t d k e) h' ver c):ver=k\/Says e h' ver c:=by
 unfold O1 at hs
 split at hs
 ·split at hs
  ·rcases hs.2 with ⟨h1,-⟩ | h1
   ·grind
   ·exact h1.elim
  grind
 grind
theorem Mo {l:List Ent} :Newer k l (l.map (O1 h t d k)):=fun e he h' ver c hs=>by
 obtain ⟨e0,he0,rfl⟩:=List.mem_map.1 he
 rcases O3 hs with h1 | h1
 ·exact .inl (Nat.le_of_eq h1.symm)
 ·exact .inr ⟨e0,he0,h1⟩
theorem Xi {e:Ent} (he:okE P w0 J θ n chs e) {chs':List Ent} (hc:Newer n chs chs') (hn:n<m) (hJ:J.le J') (hh:h.id<m) (hr:t.rep.rd J' [hv θ h] d):okE P w0 J' θ m chs' (O1 h t d n e):=by
 have h0:=eL Same.rfl (Nat.le_of_lt hn) hc he hJ
 unfold O1
 split
 ·rename_i T cells heq
  split
  ·have ⟨h1,v,c⟩:=e
   obtain rfl:c= .blk T cells:=heq
   exact ⟨h0.1,hn,fun x hx=>by
    obtain ⟨x0,hx0,rfl⟩:=List.mem_map.1 hx
    exact LV.frz_ok (he.2.2 x0 hx0) (Nat.le_of_lt hn) hJ hh hr⟩
  omega
 omega
end
abbrev Trs:=List (TypeId×TypeId×Ty)
def abr (l:Trs) (T:TypeId):Option (TypeId×Ty):=match l with
 | [] =>none
 | (U,x)::l=>if Nat.beq U T then some x else abr l T
def Xj (tr:Trs):Ty->Bool
 | .tree _ _ _=>true
 | .sl E _=>match abr tr E with
  | some q=>Nat.beq q.1 0
  | none=>false
 | .bag t=>Xj tr t
 | _=>false
def ri:(t:Ty)->t.den->(u:Ty)×u.den
 | .bag (.sl E t),d=>⟨.sl E t,d⟩
 | t,d=>⟨t,d⟩
theorem O4 {J:Hp} {cs:List Value} : ∀ {t:Ty} {d:t.den},t.rep.rd J cs d->(ri t d).1.rep.rd J cs (ri t d).2:=fun {t d} h=>by
 cases t with
 | bag u=>cases u <;> exact h
 | _=>exact h
def O5 (tr:Trs) (h:Hdr) (s:Sg):Option Sg:=(pull h s.chs).bind fun r=>match r.1.2.2 with
 | .own t d=>match Xj tr t with
  | true=>some ⟨AG (AV.frz h (ri t d).1 (ri t d).2) (s.nxt+1) s.env,r.2.map (O1 h (ri t d).1 (ri t d).2 s.nxt),s.nxt+1+s.env.length⟩
  | false=>none
 | _=>none
def Vi (T E:TypeId) (t:Ty) (x:LV) (chs:List Ent):Option (List (Tr t.den)×List Ent×List Ent):=match x with
 | .own h=>(rowOf h chs).bind fun r=>(my (.sl r.E r.t) (.sl E (.tree T E t)) r.xs).bind fun ks=>some (ks,[r.ent h],r.rest)
 | x=>(R3 E (.tree T E t) x).bind fun ks=>some (ks,[],chs)
def O6 (tr:Trs) (h:Hdr) (s:Sg):Option Sg:=(rO h s.chs).bind fun b=>(abr tr b.T).bind fun q=>(cP q.2 b.cells).bind fun a=>match a.2 with
 | [kid] =>(Vi b.T q.1 q.2 kid b.rest).bind fun ks=>some ⟨AG (Vh h (.one (.rd ⟨s.nxt,[]⟩ (.tree b.T q.1 q.2) (.node a.1 ks.1)))) (s.nxt+1) s.env,ks.2.2,s.nxt+1+s.env.length⟩
 | _=>none
section
variable {P:Program} {I J:Hp} {w0 w:World} {F:Ch} {n:Nat} {θ:Th} {s s':Sg} {a:Act} {h:Hdr}
theorem O7 {m:Nat} {chs chs':List Ent} (h: ∀e,e∈chs'->e∈chs):Newer m chs chs':=fun e he h' ver c hs=>.inr ⟨e,h e he,hs⟩
theorem O8 {tr:Trs} (hs:O5 tr h s=some s') (hS:Sim P I w0 F n J θ s a w): ∃J',J.le J'/\Sim P I w0 F n J' θ s' a w/\Fr s θ s' θ:=by
 have ⟨r,hr,hs⟩:=bind_some hs
 have ⟨p,k⟩:=fa hr
 have ⟨⟨h2,ver,c⟩,rest⟩:=r
 obtain rfl:h2=h:=k
 cases c with
 | own t d =>
  have hs:(match Xj tr t with
   | true=>some (⟨AG (AV.frz h2 (ri t d).1 (ri t d).2) (s.nxt+1) s.env,rest.map (O1 h2 (ri t d).1 (ri t d).2 s.nxt),s.nxt+1+s.env.length⟩:Sg)
   | false=>none)=some s':=hs
  split at hs
  ·cases ad (show some _=some s' from hs)
   have hok:=hS.fine.chs _ (p.mem_iff.2 (List.mem_cons_self ..))
   have h1:St J w0 w (Ch.own t.rep [hv θ h2] d::(rest.map (toCh P θ)++ [F])):=hS.st.perm ((p.map (toCh P θ)).append_right [F])
   have ⟨J',hJ,hrd0,hst⟩:=h1.freeze
   have hrd:=O4 hrd0
   have hmem: ∀e,e∈rest->e∈s.chs:=fun e he=>p.mem_iff.2 (be _ he)
   have hnew:Newer s.nxt s.chs (rest.map (O1 h2 (ri t d).1 (ri t d).2 s.nxt)):=fun e he h' ver c hs=>by
    rcases Mo e he h' ver c hs with h1 | ⟨e0,he0,h1⟩
    ·omega
    grind
   refine ⟨J',hJ,hS.repl Same.rfl hJ ?_ hnew (fun e he=>?_) fun e he x hx=>AV.frz_ok hx (hS.fine.env e he) (Nat.le_succ _) hJ (aT hok.1) hrd⟩
   ·grind[List.map_map,List.map_congr_left,toCh,O1,O2]
   ·obtain ⟨e0,he0,rfl⟩:=List.mem_map.1 he
    exact Xi (hS.fine.chs e0 (hmem e0 he0)) hnew (aw _) hJ (aT hok.1) hrd
  grind
 | _=>cases hs
theorem O9 {tr:Trs} (hs:O6 tr h s=some s') (hS:Sim P I w0 F n J θ s a w): ∃J' θ',J.le J'/\Sim P I w0 F n J' θ' s' a w/\Fr s θ s' θ':=by
 have ⟨b,hb,hs⟩:=bind_some hs
 have ⟨⟨E,t⟩,hq,hs⟩:=bind_some hs
 have ⟨c,hc,hs⟩:=bind_some hs
 have p:=kA hb
 have hok:=hS.fine.chs _ (p.mem_iff.2 (List.mem_cons_self ..))
 have hcells:=hok.2.2
 have ⟨c1,e1,k1⟩:=fx (J:=J) (θ:=θ) hc hcells
 split at hs
 ·rename_i kid hkid
  have ⟨ks,hks,hs⟩:=bind_some hs
  cases ad hs
  have h0:=hS.st.perm ((p.map (toCh P θ)).append_right [F])
  have h1:=h0
  have hcv:b.cells.map (·.v θ)=c1.map (·.v θ)++ [kid.v θ]:=by rw[e1,hkid,aS];rfl
  let θ':=upd θ s.nxt (.pointer (some ⟨bk (hv θ h),0,none⟩))
  have hsame:Same s.nxt θ θ':=Same.upd
  have key: ∃J1,J.le J1/\(Ty.sl E (.tree b.T E t)).rep.rd J1 [kid.v θ] ks.1/\St J1 w0 w (Ch.blk (bk (hv θ h)) (b.cells.map (·.v θ)) b.T::(ks.2.2.map (toCh P θ)++ [F]))/\ ∀e,e∈ks.2.2->e∈b.rest:=by
   unfold Vi at hks
   split at hks
   ·rename_i hk
    have ⟨r,hr,hks⟩:=bind_some hks
    have ⟨xs,hxs,hks⟩:=bind_some hks
    cases ad hks
    obtain ⟨pr,-⟩:=bN hr
    have h2:St J w0 w (Ch.own (Ty.sl r.E r.t).rep [hv θ hk] r.xs::Ch.blk (bk (hv θ h)) (b.cells.map (·.v θ)) b.T::(r.rest.map (toCh P θ)++ [F])):=by
     refine (h1.perm ?_:St J w0 w _)
     have:=((pr.map (toCh P θ)).append_right [F]).cons (Ch.blk (bk (hv θ h)) (b.cells.map (·.v θ)) b.T)
     exact this.trans (List.Perm.swap _ _ _)
    have ⟨J1,hJ1,hrd,hst⟩:=h2.freeze
    exact ⟨J1,hJ1,gy hxs hrd,hst,fun e he=>pr.mem_iff.2 (be _ he)⟩
   ·have ⟨xs,hxs,hks⟩:=bind_some hks
    cases ad hks
    exact ⟨J,Hp.le.rfl,Ar hxs (hcells kid (by grind)),h1,fun e he=>he⟩
  have ⟨J1,hJ1,hk1,hst1,hm1⟩:=key
  have ⟨J2,hJ2,hb2,hst2⟩:=hst1.freeze_blk
  have hJ:=hJ1.trans hJ2
  have hmem:=fun e he=>p.mem_iff.2 (be _ (hm1 e he))
  have hnew:Newer s.nxt s.chs ks.2.2:=O7 hmem
  have hpv:hv θ' ⟨s.nxt,[]⟩= .pointer (some ⟨bk (hv θ h),0,none⟩):=iN
  refine ⟨J2,θ',hJ,hS.repl hsame hJ ?_ hnew (fun e he=>eL hsame (Nat.le_succ _) hnew (hS.fine.chs e (hmem e he)) hJ) fun e he x hx=>?_⟩
  ·rw[fW hsame fun e he=>hS.fine.chs e (hmem e he)]
   omega
  ·unfold Vh at hx
   split at hx
   ·rename_i h' off heq
    split at hx
    ·rename_i hp
     cases ad hx
     rw[ai] at hp
     refine ⟨⟨aw _,?_⟩,?_⟩
     ·rw[hpv]
      rw[hcv] at hb2
      exact NQ hb2 (Rep.rd_mono _ k1 hJ) (Rep.rd_mono _ hk1 hJ2)
     ·rw[heq,Hdr.beq_eq hp.1,al hp.2]
      exact hpv
    grind
   grind
 grind
end
def orS (x:Option Sg) (s:Sg):Sg:=match x with
 | some s'=>s'
 | none=>s
def Sy (tr:Trs):List (Bool×Hdr)->Sg->Sg
 | [],s=>s
 | (true,h)::hs,s=>Sy tr hs (orS (O6 tr h s) s)
 | (false,h)::hs,s=>Sy tr hs (orS (O5 tr h s) s)
section
variable {P:Program} {I J:Hp} {w0 w:World} {F:Ch} {n:Nat} {θ:Th} {s s':Sg} {a:Act}
theorem Ey: ∀ {hs:List Hdr} {s:Sg} {θ:Th},Sim P I w0 F n J θ s a w-> ∃θ',Sim P I w0 F n J θ' (O0 hs s) a w/\Fr s θ (O0 hs s) θ'
 | [],s,θ,hS=>⟨θ,hS,Fr.rfl⟩
 | h::hs,s,θ,hS=>by
  unfold O0
  split
  ·rename_i s' he
   have ⟨θ1,S1,F1⟩:=Sw he hS
   have ⟨θ2,S2,F2⟩:=Ey (hs:=hs) S1
   exact ⟨θ2,S2,F1.trans F2⟩
  ·exact Ey hS
theorem zS (hS:Sim P I w0 F n J θ s a w): ∃θ',Sim P I w0 F n J θ' (qC s) a w/\Fr s θ (qC s) θ':=Ey hS
theorem uX {tr:Trs} : ∀ {hs:List (Bool×Hdr)} {s:Sg} {J:Hp} {θ:Th},Sim P I w0 F n J θ s a w-> ∃J' θ',J.le J'/\Sim P I w0 F n J' θ' (Sy tr hs s) a w/\Fr s θ (Sy tr hs s) θ'
 | [],s,J,θ,hS=>⟨J,θ,Hp.le.rfl,hS,Fr.rfl⟩
 | (true,h)::hs,s,J,θ,hS=>by
  unfold Sy
  cases he:O6 tr h s with
  | some s' =>
   have ⟨J1,θ1,L1,S1,F1⟩:=O9 he hS
   obtain ⟨J2,θ2,L2,S2,F2⟩:=uX (hs:=hs) S1
   exact ⟨J2,θ2,L1.trans L2,S2,F1.trans F2⟩
  | none=>exact uX hS
 | (false,h)::hs,s,J,θ,hS=>by
  unfold Sy
  cases he:O5 tr h s with
  | some s' =>
   have ⟨J1,L1,S1,F1⟩:=O8 he hS
   obtain ⟨J2,θ2,L2,S2,F2⟩:=uX (hs:=hs) S1
   exact ⟨J2,θ2,L1.trans L2,S2,F1.trans F2⟩
  | none=>exact uX hS
end
end R
namespace D
open Go.RowKit
section
variable {P:Program} {I J:Hp} {w0 w w':World} {cs C:List Ch} {o:Oper} {ev:Operand->Value}
theorem GL {α:Type} {R:Rep α} (hC:Cpy R R): ∀ {xs:List α} {cur:List Value},(∀i x,xs[i]? =some x-> ∃c:List Value,c.length=R.size/\(∀j,j<R.size->cur[i*R.size+j]? =c[j]?)/\R.rd I c x)->OwnEls R I w cur xs []
 | [],cur,_=>rfl
 | x::xs,cur,h=>by
  have ⟨c,c1,c2,c3⟩:=h 0 x rfl
  refine ⟨c,cur.drop R.size,[],[],?_,c1,rfl,hC c3,GL hC fun i y hy=>?_⟩
  ·apply List.ext_getElem?
   grind
  ·have ⟨d,d1,d2,d3⟩:=h (i+1) y (by grind)
   grind
end
end D
namespace D
open Go.RowKit
section
variable {P:Program} {I J:Hp} {w0 w w':World} {cs C:List Ch} {o:Oper} {ev:Operand->Value}
theorem Pa {α:Type} {E:TypeId} {R:Rep α} (hSh:R.Sh) {k:Nat} (hR:R.size=k) {g ofs n cap:Nat} {xs:List α} (h:St I w0 w (Ch.own (af E R) [.slice (some ⟨g,ofs,none⟩) n cap] xs::C)) :
  n=xs.length/\xs.length<=cap/\cap<=maxLen/\ ∃cur,w.heap[g]? =some (.cells cur E (0,0))/\ofs+cap*k<=cur.size/\ ∀(i:Nat) x,xs[i]? =some x-> ∃c:List Value,c.length=k/\(∀j,j<k->(cur.toList.drop ofs)[i*k+j]? =c[j]?)/\R.rd I c x:=by
 obtain ⟨hb,hi,F,⟨G,K,rfl,⟨hl,e2⟩,e3⟩,h4,h5⟩:=h
 rcases e2 with ⟨hv,rfl,rfl⟩ | ⟨g',ofs',cap',cur,K1,hv,k1,k2,k3,k4,rfl,k5⟩
 ·simp at hv
 ·simp only[List.cons.injEq,Value.slice.injEq,Option.some.injEq,Addr.mk.injEq,and_true] at hv
  obtain ⟨⟨rfl,rfl⟩,rfl,rfl⟩:=hv
  obtain rfl:=k5.sh hSh
  have hat:=fun i x hx=>k5.at Hp.le.rfl (by simp) i x hx
  rw[hR] at hat k4
  exact ⟨rfl,k2,k3,cur,k1,k4,hat⟩
theorem IS {α:Type} {E:TypeId} {R:Rep α} (hSh:R.Sh) (hC:Cpy R R) {k:Nat} (hR:R.size=k) {g ofs n cap p cnt:Nat} {xs zs:List α} {news:List Value} (hn:news.length=cnt*k) (hfit:p+cnt<=cap) (hz:zs.length<=cap) (hlim:zs.length<=lim)
  (hnew: ∀i z,zs[i]? =some z->(p<=i/\i<p+cnt/\ ∃c:List Value,c.length=k/\(∀j,j<k->news[(i - p)*k+j]? =c[j]?)/\R.rd I c z)\/((i<p\/p+cnt<=i)/\xs[i]? =some z))
  (h:St I w0 w (Ch.own (af E R) [.slice (some ⟨g,ofs,none⟩) n cap] xs::C)):St I w0 (w.setCells g (ofs+p*k) news) (Ch.own (af E R) [.slice (some ⟨g,ofs,none⟩) zs.length cap] zs::C):=by
 obtain ⟨hb,hi,F,⟨G,K,rfl,⟨hl,e2⟩,e3⟩,h4,h5⟩:=h
 rcases e2 with ⟨hv,rfl,rfl⟩ | ⟨g',ofs',cap',cur,K1,hv,k1,k2,k3,k4,rfl,k5⟩
 ·simp at hv
 ·simp only[List.cons.injEq,Value.slice.injEq,Option.some.injEq,Addr.mk.injEq,and_true] at hv
  obtain ⟨⟨rfl,rfl⟩,rfl,rfl⟩:=hv
  obtain rfl:=k5.sh hSh
  have hat:=fun i x hx=>k5.at Hp.le.rfl (by simp) i x hx
  rw[hR] at hat k4
  have hln:cur.toList.length=cur.size:=Array.length_toList
  have m0:(p+cnt)*k=p*k+cnt*k:=Nat.add_mul _ _ _
  have m1:(p+cnt)*k<=cap*k:=Nat.mul_le_mul_right _ hfit
  have hroom:ofs+p*k+news.length<=cur.size:=by omega
  obtain ⟨o1,o2,o3,o4,o5⟩:=pj g news (ofs+p*k) w
  have hrow:=rW news (ofs+p*k) w cur hroom k1
  have hgK:g∉K:=by rw[List.cons_append] at h4;simpa using (List.nodup_cons.1 h4).1
  have key: ∀q,((cur.toList.take (ofs+p*k)++news++cur.toList.drop (ofs+p*k+news.length)).toArray.toList.drop ofs)[q]? =if p*k<=q/\q<p*k+cnt*k then news[q - p*k]? else (cur.toList.drop ofs)[q]? :=by
   intro q
   rw[List.getElem?_drop]
   show (cur.toList.take (ofs+p*k)++news++cur.toList.drop (ofs+p*k+news.length))[ofs+q]? =_
   have htl:(cur.toList.take (ofs+p*k)).length=ofs+p*k:=by rw[aI];omega
   by_cases c1:q<p*k
   ·rw[if_neg (by omega),aA,List.getElem?_append_left (by omega),List.getElem?_take,if_pos (by omega),List.getElem?_drop]
   ·by_cases c2:q<p*k+cnt*k
    ·rw[if_pos (by omega),aA,List.getElem?_append_right (by omega),htl,List.getElem?_append_left (by omega)]
     congr 1;omega
    ·rw[if_neg (by omega),List.getElem?_append_right (by rw[aC];omega),aC,htl,hn,List.getElem?_drop,List.getElem?_drop]
     congr 1;omega
  refine ⟨⟨o1.trans hb.1,o2.trans hb.2.1,o3.trans hb.2.2.1,by rw[o4];exact hb.2.2.2⟩,fun q u hq=>?_,[g] ++K,⟨[g],K,rfl,⟨hlim,.inr ⟨g,ofs,cap,_,[],rfl,hrow,hz,k3,?_,rfl,GL hC fun i x hx=>?_⟩⟩,e3.stay fun q hq=>o5 q fun e=>hgK (e ▸ hq)⟩,h4,h5⟩
  ·show (w.setCells g (ofs+p*k) _).heap[q]? =some u
   rw[o5 q fun e=>by rw[e,h5 g (by simp)] at hq;cases hq]
   exact hi q u hq
  ·rw[hR];simp only[List.size_toArray,aC,aI,bJ,hln];omega
  ·rw[hR]
   rcases hnew i x hx with ⟨n1,n2,c,c1,c2,c3⟩ | ⟨n1,n2⟩
   ·refine ⟨c,c1,fun j hj=>?_,c3⟩
    have a1:p*k<=i*k:=Nat.mul_le_mul_right _ n1
    have a2:i*k+k<=p*k+cnt*k:=by rw[<-Nat.succ_mul,<-Nat.add_mul];exact Nat.mul_le_mul_right _ n2
    have a3:(i - p)*k=i*k - p*k:=Nat.sub_mul _ _ _
    rw[key,if_pos (by omega),<-c2 j hj,a3]
    congr 1;omega
   ·obtain ⟨c,c1,c2,c3⟩:=hat i x n2
    refine ⟨c,c1,fun j hj=>?_,c3⟩
    have a1:i*k+k<=p*k\/p*k+cnt*k<=i*k:=by
     rcases n1 with n1 | n1
     ·left;rw[<-Nat.succ_mul];exact Nat.mul_le_mul_right _ n1
     ·right;rw[<-Nat.add_mul];exact Nat.mul_le_mul_right _ n1
    rw[key,if_neg (by omega)]
    exact c2 j hj
def AI (cur:Array Value) (ofs k j m:Nat):List Value:=((cur.toList.drop ofs).drop (j*k)).take ((m - j)*k)
theorem Mq {cur:Array Value} {ofs k j m cap:Nat} (h:ofs+cap*k<=cur.size) (hj:j<=m) (hm:m<=cap):(AI cur ofs k j m).length=(m - j)*k:=by
 have m1:m*k<=cap*k:=Nat.mul_le_mul_right _ hm
 have m2:(m - j)*k=m*k - j*k:=Nat.sub_mul _ _ _
 have m3:j*k<=m*k:=Nat.mul_le_mul_right _ hj
 unfold AI
 rw[aI,bJ,bJ,Array.length_toList];omega
theorem xp {cur:Array Value} {ofs k j m q:Nat} (hq:q<(m - j)*k):(AI cur ofs k j m)[q]? =(cur.toList.drop ofs)[j*k+q]? :=by
 unfold AI
 rw[List.getElem?_take,if_pos hq,List.getElem?_drop]
theorem Mr {α:Type} {R:Rep α} {xs:List α} {cur:Array Value} {ofs k j m:Nat} (hk:0<k) (hm:m<=xs.length) (hat: ∀(i:Nat) x,xs[i]? =some x-> ∃c:List Value,c.length=k/\(∀j,j<k->(cur.toList.drop ofs)[i*k+j]? =c[j]?)/\R.rd I c x): ∀u∈AI cur ofs k j m,u.oneCell'=true:=by
 intro u hu
 obtain ⟨q,hq⟩:=List.getElem?_of_mem hu
 have hq':=(List.getElem?_eq_some_iff.1 hq).1
 have hq2:q<(m - j)*k:=by
  unfold AI at hq'
  rw[aI] at hq';omega
 rw[xp hq2] at hq
 have m2:(m - j)*k=m*k - j*k:=Nat.sub_mul _ _ _
 have m1:m*k<=xs.length*k:=Nat.mul_le_mul_right _ hm
 have hqn:(j*k+q) / k<xs.length:=by rw[Nat.div_lt_iff_lt_mul hk];omega
 obtain ⟨c,c1,c2,c3⟩:=hat _ _ (List.getElem?_eq_getElem hqn)
 have:=c2 ((j*k+q) % k) (Nat.mod_lt _ hk)
 rw[Nat.div_add_mod',hq] at this
 exact R.rd_one c3 u (List.mem_of_getElem? this.symm)
theorem IU {g ofs:Nat} {cur:Array Value} {E:TypeId} {fr:Nat×Nat} (h:w.heap[g]? =some (.cells cur E fr)) (q:Nat):w.cell? ⟨g,ofs+q,none⟩=(cur.toList.drop ofs)[q]? :=by
 simp[World.cell?,h]
def yz {α:Type} (xs:List α) (i j m:Nat):List α:=xs.take i++(((xs.take m).drop j)++xs.drop (i+(m - j)))
theorem Ez {α:Type} {xs:List α} {i j m:Nat} (h1:i<=j) (h2:j<=m) (h3:m<=xs.length):(yz xs i j m).length=xs.length:=by
 simp only[yz,aC,aI,bJ];omega
theorem Ms {α:Type} {xs:List α} {i j m q:Nat} (h1:i<=j) (h2:j<=m) (h3:m<=xs.length):(yz xs i j m)[q]? =if i<=q/\q<i+(m - j) then xs[j+(q - i)]? else xs[q]? :=by
 have hi:(xs.take i).length=i:=by rw[aI];omega
 have hm:((xs.take m).drop j).length=m - j:=by rw[bJ,aI];omega
 unfold yz
 by_cases c1:q<i
 ·rw[if_neg (by omega),List.getElem?_append_left (by omega),List.getElem?_take,if_pos c1]
 ·rw[List.getElem?_append_right (by omega),hi]
  by_cases c2:q<i+(m - j)
  ·rw[if_pos (by omega),List.getElem?_append_left (by omega),List.getElem?_drop,List.getElem?_take,if_pos (by omega)]
  ·rw[if_neg (by omega),List.getElem?_append_right (by omega),hm,List.getElem?_drop];congr 1;omega
theorem EA {α:Type} {E T:TypeId} {R:Rep α} {z:Value} {n b:Nat} {x y:Operand} {g ofs cap len i j m c:Nat} {a:Addr} {xs:List α} (hSh:R.Sh) (hC:Cpy R R) (hT:P.underlying T=some (.slice E)) (hE:TZ P E z n b) (hn:0<n) (hR:R.size=n)
  (ho:o.op= .call { callee:=.builtin .append,args:= #[x,y],argTypes:= #[T,T] }) (hx:ev x= .slice (some ⟨g,ofs,none⟩) i cap) (hy:ev y= .slice (some a) (m - j) c) (ha:j<m->a=⟨g,ofs+j*n,none⟩) (hij:i<=j) (hj:j<=m) (hm:m<=xs.length) :
  OpT P I w0 o ev [Ch.own (af E R) [.slice (some ⟨g,ofs,none⟩) len cap] xs] (· = .slice (some ⟨g,ofs,none⟩) (i+(m - j)) cap) (fun _=>[Ch.own (af E R) [.slice (some ⟨g,ofs,none⟩) len cap] (yz xs i j m)]):=by
 intro w C hs
 obtain ⟨info,hi',hz,hsize,hby⟩:=info_parts hE
 obtain ⟨rfl,r1,r2,cur,r3,r4,hat⟩:=Pa hSh hR hs
 have hln:=Mq (k:=n) (j:=j) r4 hj (Nat.le_trans hm r1)
 have m1:xs.length*n<=cap*n:=Nat.mul_le_mul_right _ r1
 have m2:i*n<=j*n:=Nat.mul_le_mul_right _ hij
 have m3:(m - j)*n=m*n - j*n:=Nat.sub_mul _ _ _
 have m4:j*n<=m*n:=Nat.mul_le_mul_right _ hj
 have m5:m*n<=xs.length*n:=Nat.mul_le_mul_right _ hm
 have hcl:(cur.toList.drop ofs).length=cur.size - ofs:=by rw[bJ,Array.length_toList]
 have hrun:=run_append_room_cells (P:=P) w T o.type E info hT hi' g ofs i cap a (m - j) c (AI cur ofs n j m) (by rw[hsize];exact hln) (fun q u hq=>by
  have hq':=(List.getElem?_eq_some_iff.1 hq).1
  rw[hln] at hq'
  rw[xp hq'] at hq
  by_cases hjm:j<m
  ·rw[ha hjm];simp only[Addr.add_mid];rw[Nat.add_assoc,IU r3];exact hq
  ·rw[show m - j=0 from by omega] at hq';omega) (Mr hn hm hat) (by omega) (fun q hq=>by
  rw[hln] at hq
  rw[hsize,Nat.add_assoc,IU r3,List.getElem?_eq_getElem (by rw[hcl];omega)];rfl) (fun q _=>by simp[World.frozen?,r3])
 rw[hsize] at hrun
 rw[dm ho hx hy hrun]
 have hsl:=Ez (xs:=xs) hij hj hm
 have hxl:=(hs.hd 0 rfl).2
 have:=IS (zs:=yz xs i j m) hSh hC hR (p:=i) (cnt:=m - j) hln (by omega) (by omega) (by omega) (fun q u hq=>by
  rw[Ms hij hj hm] at hq
  by_cases c1:i<=q/\q<i+(m - j)
  ·rw[if_pos c1] at hq
   obtain ⟨c,d1,d2,d3⟩:=hat _ _ hq
   refine .inl ⟨c1.1,c1.2,c,d1,fun t ht=>?_,d3⟩
   have e1:(q - i)*n+n<=(m - j)*n:=by rw[<-Nat.succ_mul];exact Nat.mul_le_mul_right _ (by omega)
   rw[xp (by omega),<-d2 t ht,Nat.add_mul]
   congr 1;omega
  ·rw[if_neg c1] at hq
   exact .inr ⟨by omega,hq⟩) hs
 rw[hsl] at this
 exact ⟨rfl,this⟩
theorem AJ (w:World) (t e ty:TypeId) (z:Value) (ht:P.underlying t=some (.slice e)) (hv:(zeroValue e).run P w= .ok z w) (b o n c:Nat) (hn:0<n)
  (hc: ∀j,j<(Builtin.zeroCells z.cells n).toList.length->(w.cell? ⟨b,o+j,none⟩).isSome=true) (hf: ∀j,j<(Builtin.zeroCells z.cells n).toList.length->w.frozen? ⟨b,o+j,none⟩=false) (h1: ∀v∈(Builtin.zeroCells z.cells n).toList,v.oneCell'=true) :
  (Builtin.clear_ #[t] ty #[.slice (some ⟨b,o,none⟩) n c]).run P w= .ok (.tuple #[]) (w.setCells b o (Builtin.zeroCells z.cells n).toList):=by
 have hst:=run_storeCells_cells (P:=P) b o (Builtin.zeroCells z.cells n).toList 0 w (by simpa using hc) (by simpa using hf) h1
 simp only[Nat.add_zero] at hst
 obtain ⟨m,rfl⟩: ∃m,n=m+1:=⟨n - 1,by omega⟩
 simp[Builtin.clear_,run_underlying ht,hv,hst]
theorem sf (w:World) (t e ty:TypeId) (ht:P.underlying t=some (.slice e)) (a:Option Addr) (c:Nat):(Builtin.clear_ #[t] ty #[.slice a 0 c]).run P w= .ok (.tuple #[]) w:=by
 cases a <;> simp[Builtin.clear_,run_underlying ht]
theorem pv {x:Operand} {T:TypeId} {v r:Value} {w w':World} (ho:o.op= .call { callee:=.builtin .clear,args:= #[x],argTypes:= #[T] }) (hx:ev x=v) (hr:(Builtin.clear_ #[T] o.type #[v]).run P w= .ok r w'):(execOp ev o).run P w= .ok (.value r) w':=by
 simp only[execOp,ho,resolve,invoke,builtin,Sem.run_bind,Sem.run_pure,Result.andThen_ok,List.map_toArray,List.map_cons,List.map_nil,hx,hr]
theorem EB {zc:Array Value} {n:Nat} :(Builtin.zeroCells zc n).toList.length=n*zc.size:=by simp[Builtin.zeroCells]
theorem EC {zc:Array Value} {n i j:Nat} (hi:i<n) (hj:j<zc.size):(Builtin.zeroCells zc n).toList[i*zc.size+j]? =zc.toList[j]? :=by
 have h1:i*zc.size+j<n*zc.size:=by
  have:i*zc.size+zc.size<=n*zc.size:=by rw[<-Nat.succ_mul];exact Nat.mul_le_mul_right _ hi
  omega
 have h2:(i*zc.size+j) % zc.size=j:=by rw[Nat.add_comm,Nat.add_mul_mod_self_right,Nat.mod_eq_of_lt hj]
 simp[Builtin.zeroCells,h1,h2,hj]
def uY {α:Type} (xs:List α) (l m:Nat) (z:α):List α:=xs.take l++(List.replicate (m - l) z++xs.drop m)
theorem yA {α:Type} {xs:List α} {l m:Nat} {z:α} (h1:l<=m) (h2:m<=xs.length):(uY xs l m z).length=xs.length:=by
 simp only[uY,aC,aI,bJ,List.length_replicate];omega
theorem Pb {α:Type} {xs:List α} {l m q:Nat} {z:α} (h1:l<=m) (h2:m<=xs.length):(uY xs l m z)[q]? =if l<=q/\q<m then some z else xs[q]? :=by
 have hi:(xs.take l).length=l:=by rw[aI];omega
 unfold uY
 by_cases c1:q<l
 ·rw[if_neg (by omega),List.getElem?_append_left (by omega),List.getElem?_take,if_pos c1]
 ·rw[List.getElem?_append_right (by omega),hi]
  by_cases c2:q<m
  ·rw[if_pos (by omega),List.getElem?_append_left (by rw[List.length_replicate];omega),List.getElem?_replicate,if_pos (by omega)]
  ·rw[if_neg (by omega),List.getElem?_append_right (by rw[List.length_replicate];omega),List.length_replicate,List.getElem?_drop];congr 1;omega
theorem GM {α:Type} {E T:TypeId} {R:Rep α} {z:Value} {zd:α} {n b:Nat} {x:Operand} {g ofs cap len l m c:Nat} {a:Addr} {xs:List α} (hSh:R.Sh) (hC:Cpy R R) (hT:P.underlying T=some (.slice E)) (hE:TZ P E z n b) (hn:0<n) (hR:R.size=n) (hzs:z.cells.size=n) (hzd:R.rd I z.cells.toList zd)
  (ho:o.op= .call { callee:=.builtin .clear,args:= #[x],argTypes:= #[T] }) (hx:ev x= .slice (some a) (m - l) c) (ha:l<m->a=⟨g,ofs+l*n,none⟩) (hl:l<=m) (hm:m<=xs.length) :
  OpT P I w0 o ev [Ch.own (af E R) [.slice (some ⟨g,ofs,none⟩) len cap] xs] (fun _=>True) (fun _=>[Ch.own (af E R) [.slice (some ⟨g,ofs,none⟩) len cap] (uY xs l m zd)]):=by
 intro w C hs
 obtain ⟨rfl,r1,r2,cur,r3,r4,hat⟩:=Pa hSh hR hs
 by_cases hlm:l=m
 ·subst hlm
  rw[Nat.sub_self] at hx
  rw[pv ho hx (sf w T E o.type hT _ _)]
  refine ⟨trivial,?_⟩
  have:uY xs l l zd=xs:=by simp[uY]
  rw[this];exact hs
 ·have hlt:l<m:=by omega
  rw[ha hlt] at hx
  have m1:xs.length*n<=cap*n:=Nat.mul_le_mul_right _ r1
  have m3:(m - l)*n=m*n - l*n:=Nat.sub_mul _ _ _
  have m4:l*n<=m*n:=Nat.mul_le_mul_right _ hl
  have m5:m*n<=xs.length*n:=Nat.mul_le_mul_right _ hm
  have hcl:(cur.toList.drop ofs).length=cur.size - ofs:=by rw[bJ,Array.length_toList]
  have hL:(Builtin.zeroCells z.cells (m - l)).toList.length=(m - l)*n:=by rw[EB,hzs]
  have hone: ∀v∈(Builtin.zeroCells z.cells (m - l)).toList,v.oneCell'=true:=by
   intro v hv'
   simp only[Builtin.zeroCells,Array.toList_map,List.mem_map] at hv'
   obtain ⟨q,-,rfl⟩:=hv'
   have hq:q % z.cells.size<z.cells.size:=Nat.mod_lt _ (by omega)
   rw[getElem!_pos z.cells _ hq]
   exact R.rd_one hzd _ (by simp)
  have hrun:=AJ (P:=P) w T E o.type z hT (hE.run_zero w) g (ofs+l*n) (m - l) c (by omega) (fun q hq=>by
   rw[hL] at hq
   rw[Nat.add_assoc,IU r3,List.getElem?_eq_getElem (by rw[hcl];omega)];rfl) (fun q _=>by simp[World.frozen?,r3]) hone
  rw[pv ho hx hrun]
  have hsl:=yA (xs:=xs) (z:=zd) hl hm
  have hxl:=(hs.hd 0 rfl).2
  have:=IS (zs:=uY xs l m zd) hSh hC hR (p:=l) (cnt:=m - l) hL (by omega) (by omega) (by omega) (fun q u hq=>by
   rw[Pb hl hm] at hq
   by_cases c1:l<=q/\q<m
   ·rw[if_pos c1] at hq
    obtain rfl:=ad hq
    refine .inl ⟨c1.1,by omega,z.cells.toList,by rw[Array.length_toList,hzs],fun t ht=>?_,hzd⟩
    rw[<-hzs,EC (by omega) (by omega)]
   ·rw[if_neg c1] at hq
    exact .inr ⟨by omega,hq⟩) hs
  rw[hsl] at this
  exact ⟨trivial,this⟩
end
end D
namespace R
open Go.RowKit
open D
theorem Vw.hd {u v:Value} {k n:Nat} {l m:Int} (h:Vw u v k n l m): ∃a c,u= .slice a (m.toNat - l.toNat) c/\0<=l/\l<=m:=by
 rcases h with ⟨-,rfl,-,rfl,rfl⟩ | ⟨g,ofs,cap,x,-,rfl,h1,h2,-⟩
 ·grind
 grind
theorem Vw.one {u v:Value} {k n:Nat} {l m:Int} (h:Vw u v k n l m):u.oneCell'=true:=by
 obtain ⟨a,c,rfl,_⟩:=h.hd;rfl
theorem IV {I:Hp} {w0 w:World} {C:List Ch} {α:Type} {E:TypeId} {R:Rep α} {v:Value} {xs:List α} {k:Nat} (h:St I w0 w (Ch.own (af E R) [v] xs::C)):Vw v v k xs.length 0 xs.length:=by
 obtain ⟨hb,hi,F,⟨G,K,rfl,⟨hl,e2⟩,e3⟩,h4,h5⟩:=h
 rcases e2 with ⟨hv,rfl,rfl⟩ | ⟨g,ofs,cap,cur,K1,hv,k1,k2,k3,k4,rfl,k5⟩
 ·obtain rfl:v= .slice none 0 0:=by grind
  exact .inl ⟨rfl,rfl,rfl,rfl,rfl⟩
 ·obtain rfl:v= .slice (some ⟨g,ofs,none⟩) xs.length cap:=by grind
  exact .inr ⟨g,ofs,cap,0,rfl,by simp,by omega,by omega,k2,by omega,Nat.zero_le _,.inr (by simp)⟩
theorem Pc {I:Hp} {w0 w:World} {C:List Ch} {α:Type} {E:TypeId} {R:Rep α} {u v:Value} {xs:List α} {k n:Nat} {l m:Int} (h:St I w0 w (Ch.own (af E R) [v] xs::C)) (hv:Vw u v k n l m):n=xs.length:=by
 have h1:=IV (k:=k) h
 rcases hv with ⟨rfl,-,rfl,-,-⟩ | ⟨g,ofs,cap,x,rfl,-,-⟩ <;> rcases h1 with ⟨e,-,q,-,-⟩ | ⟨g',ofs',cap',x',e,-,-⟩
 ·omega
 ·cases e
 ·cases e
 grind
theorem Sz {u v w:Value} {k n:Nat} {l m a c:Int} (h:Vw u v k n l m) (h1:0<=a) (h2:a<=c) (h3:l+c<=(n:Int)\/c<=m - l) {ao:Option Addr} {len cap:Nat} (hu:u= .slice ao len cap) (hw:w=sliced ao a.toNat c.toNat cap k):Vw w v k n (l+a) (l+c):=by
 rcases h with ⟨rfl,rfl,rfl,rfl,rfl⟩ | ⟨g,ofs,cp,x,rfl,rfl,q1,q2,q3,q4,q5,q6⟩
 ·obtain rfl:a=0:=by omega
  obtain rfl:c=0:=by omega
  injection hu with e1 e2 e3
  subst e1;subst e3
  exact .inl ⟨rfl,by grind[sliced],rfl,rfl,rfl⟩
 ·injection hu with e1 e2 e3
  subst e1;subst e3
  subst hw
  have t1:(l+a).toNat=l.toNat+a.toNat:=by omega
  have t2:(l+c).toNat - (l+a).toNat=c.toNat - a.toNat:=by omega
  have t3:(l.toNat+a.toNat)*k=l.toNat*k+a.toNat*k:=Nat.add_mul _ _ _
  by_cases hc:cp - l.toNat=a.toNat
  ·refine .inr ⟨g,ofs,cp,x,rfl,?_,by omega,by omega,q3,by omega,by grind,.inl (by omega)⟩
   simp[sliced,hc,if_true,t2]
   grind
  ·refine .inr ⟨g,ofs,cp,x+a.toNat*k,rfl,?_,by omega,by omega,q3,by omega,by grind,?_⟩
   ·simp[sliced,hc,if_false,t2,Option.map_some,Addr.add_mid,Nat.add_assoc]
    grind
   grind
def oI (ev:Operand->Value):Option Operand->Option Int->Prop
 | none,none=>True
 | some x,some m=>ev x= .int .i64 m
 | _,_=>False
section
variable {P:Program} {I:Hp} {w0:World} {o:Oper} {ev:Operand->Value}
theorem Mt {t e:TypeId} {x:Operand} {lo hi:Option Operand} {ml mh:Option Int} {ao:Option Addr} {len cap n:Nat} {agg:Bool} (hT:P.underlying t=some (.slice e)) (hE:TI P e agg n) (ho:o.op= .slice t x lo hi none) (hx:ev x= .slice ao len cap) (hl:oI ev lo ml) (hh:oI ev hi mh) (hlc:len<=cap)
  (h1:0<=ml.getD 0) (h2:ml.getD 0<=mh.getD len) (h3:mh.getD len<=(cap:Int)) :
  OpT P I w0 o ev [] (· =sliced ao (ml.getD 0).toNat (mh.getD len).toNat cap n) (fun _=>[]):=by
 have he:P.elem t=e:=by simp[Program.elem,hT]
 refine bd fun w=>?_
 have hs:=TI.size hE w
 cases lo with
 | none =>
  cases ml with
  | some _=>exact hl.elim
  | none =>
   cases hi with
   | none =>
    cases mh with
    | some _=>exact hh.elim
    | none =>
     simp_all[execOp,Option.map_some,Option.map_none,Sem.run_bind,run_sliceAt_slice,run_slice_all,Result.andThen_ok]
   | some hi =>
    cases mh with
    | none=>exact hh.elim
    | some mh =>
     have hh:ev hi= .int .i64 mh:=hh
     simp_all[execOp,Option.map_some,Option.map_none,Sem.run_bind,run_sliceAt_slice,run_slice_h,Result.andThen_ok]
 | some lo =>
  cases ml with
  | none=>exact hl.elim
  | some ml =>
   have hl:ev lo= .int .i64 ml:=hl
   cases hi with
   | none =>
    cases mh with
    | some _=>exact hh.elim
    | none =>
     simp_all[execOp,Option.map_some,Option.map_none,Sem.run_bind,run_sliceAt_slice,run_slice_l,Result.andThen_ok]
   | some hi =>
    cases mh with
    | none=>exact hh.elim
    | some mh =>
     have hh:ev hi= .int .i64 mh:=hh
     simp_all[execOp,Option.map_some,Option.map_none,Sem.run_bind,run_sliceAt_slice,run_slice_lh,Result.andThen_ok]
end
def SA:(t:Ty)->List Value->Option t.den
 | .raw,[v] =>if h:v.oneCell'=true then some (⟨v,h⟩:Raw) else none
 | .prod .raw b,v::cs=>if h:v.oneCell'=true then (SA b cs).bind fun d=>some ((⟨v,h⟩:Raw),d) else none
 | _,_=>none
theorem SB {J:Hp} : ∀ {t:Ty} {cs:List Value} {d:t.den},SA t cs=some d->t.rep.rd J cs d:=by
 intro t
 induction t with
 | raw =>
  intro cs d h
  match cs,h with
  | [],h=>cases h
  | _::_::_,h=>cases h
  | [v],h =>
   by_cases hv':v.oneCell'=true
   ·have h:(if h:v.oneCell'=true then some (⟨v,h⟩:Raw) else none)=some d:=h
    rw[dif_pos hv'] at h
    cases ad h;rfl
   ·have h:(if h:v.oneCell'=true then some (⟨v,h⟩:Raw) else none)=some d:=h
    grind
 | prod a b iha ihb =>
  intro cs d h
  cases a with
  | raw =>
   cases cs with
   | nil=>cases h
   | cons v cs =>
    unfold SA at h
    split at h
    ·have ⟨d',hd,h⟩:=Option.bind_eq_some_iff.1 h
     cases ad h
     exact ⟨[v],cs,rfl,rfl,ihb hd⟩
    grind
  | _=>cases cs <;> cases h
 | _=>intro cs d h;cases cs <;> cases h
def Xk (e t:Ty):Option t.den:=match my e t (Ec e) with
 | some z=>some z
 | none=>SA t (zeroCells e)
theorem SC {e t:Ty} {z:t.den} (h:Xk e t=some z) (J:Hp):t.rep.rd J (zeroCells e) z:=by
 grind[Xk,ad,gy,pn,SB]
structure Vb where
 x:Bool
 h:Hdr
 k:Nat
 l:Int
 m:Int
 r:Row
section
variable {Y:Type} (tt:TT) (s:Sg) (k:Res->Option Y)
def abt (chs:List Ent) (x:Operand):Option Vb:=match opd s x with
 | some (.one (.own h))=>(rowOf h chs).bind fun r=>some ⟨false,h,r.t.size,0,(r.xs.length:Int),r⟩
 | some (.vw u h k n l m)=>(rowOf h chs).bind fun r=>bL (Nat.beq k r.t.size) (some ⟨false,h,k,l,m,r⟩)
 | some (.xv top u h k n l m)=>match rowOf u chs with
  | some r=>bL (Nat.beq k r.t.size) (some ⟨false,u,k,0,(r.xs.length:Int),r⟩)
  | none=>(rowOf h chs).bind fun r=>bL (Nat.beq k r.t.size) (some ⟨true,h,k,l,m,r⟩)
 | _=>none
def YN (x:Operand):Option Vb:=abt s s.chs x
def loV (x:Option Operand) (d:Int) (k:Int->Option Y):Option Y:=match x with
 | none=>k d
 | some x=>(asI s x).bind k
def ED (T:TypeId) (x:Operand) (lo hi:Option Operand):Option Y:=(td tt T).bind fun d=>d.el.bind fun E'=>(td tt E').bind fun e=>(YN s x).bind fun b=>bL (Nat.beq e.n b.k) (loV s lo 0 fun ml=>loV s hi (b.m - b.l) fun mh =>
 match b.x with
 | false=>(chk (0<=ml/\ml<=mh/\b.l+mh<=(b.r.xs.length:Int))).bind fun _=>k ⟨[b.r.ent b.h],[],b.r.rest,[],.vw ⟨s.nxt,[]⟩ b.h b.k b.r.xs.length (b.l+ml) (b.l+mh)⟩
 | true=>(chk (0<=ml/\ml<=mh/\mh<=b.m - b.l)).bind fun _=>k ⟨[b.r.ent b.h],[],b.r.rest,[],.xv false ⟨s.nxt,[]⟩ b.h b.k b.r.xs.length (b.l+ml) (b.l+mh)⟩)
def Xl (T:TypeId) (x:Operand):Option Y:=(td tt T).bind fun d=>match d.el,opd s x with
 | some _,some (.vw u h k' n l m)=>k (.pure s (.one (.val (.int .i64 (m - l)))))
 | some _,some (.xv _ u h k' n l m)=>k (.pure s (.one (.val (.int .i64 (m - l)))))
 | _,_=>none
def IW (T:TypeId) (x i:Operand):Option Y:=(td tt T).bind fun d=>d.el.bind fun E=>(td tt E).bind fun e=>(YN s x).bind fun b=>bL (Nat.beq e.n b.k) ((asI s i).bind fun i=>(chk (0<=i/\i<b.m - b.l)).bind fun _=>(aG b.r.xs (b.l+i)).bind fun a=>k ⟨[b.r.ent b.h],[],b.r.rest,[],.elo b.h b.r.ver b.r.E b.r.t b.r.xs a (b.l+i) 0⟩)
def Zr (T:TypeId) (x y:Operand):Option Y:=(td tt T).bind fun d=>d.el.bind fun E=>(td tt E).bind fun e=>e.bytes.bind fun _=>(YN s x).bind fun b=>(YN s y).bind fun c =>
 bL (Nat.beq e.n b.k&&Hdr.beq c.h b.h&&Nat.beq b.r.E E&&b.r.t.sh) ((chk (b.l=0/\b.m<=c.l/\c.l<=c.m/\c.m<=(b.r.xs.length:Int))).bind fun _=>k ⟨[],[b.r.ent b.h],b.r.rest,[(b.h,.own (.sl b.r.E b.r.t) (yz b.r.xs b.m.toNat c.l.toNat c.m.toNat))],.vw ⟨s.nxt,[]⟩ b.h b.k b.r.xs.length 0 (b.m+(c.m - c.l))⟩)
def Pd (T:TypeId) (x:Operand):Option Y:=(td tt T).bind fun d=>d.el.bind fun E=>(td tt E).bind fun e=>e.bytes.bind fun _=>(YN s x).bind fun b =>
 bL (Nat.beq e.n b.k&&Nat.beq b.r.E E&&b.r.t.sh) ((Xk e.ty b.r.t).bind fun z=>(chk (b.l<=b.m/\b.m<=(b.r.xs.length:Int))).bind fun _=>k ⟨[],[b.r.ent b.h],b.r.rest,[(b.h,.own (.sl b.r.E b.r.t) (uY b.r.xs b.l.toNat b.m.toNat z))],.any ⟨s.nxt,[]⟩⟩)
end
section
variable {Y:Type} {tt:TT} {s:Sg} {k:Res->Option Y} {P:Program} {w0:World} {o:Oper} {res:Y} {x y:Operand}
theorem Xm {chs:List Ent} {b:Vb} (h:abt s chs x=some b):rowOf b.h chs=some b.r/\b.k=b.r.t.size/\ ∀ {J:Hp} {θ:Th},Fine P w0 J θ s-> ∀ {w:World} {C:List Ch} {xs:List b.r.t.den},xs.length=b.r.xs.length->St J w0 w (Ch.own (af b.r.E b.r.t.rep) [hv θ b.h] xs::C)->Vw (evL (envL θ s) x) (hv θ b.h) b.k b.r.xs.length b.l b.m:=by
 unfold abt at h
 split at h
 ·rename_i hh hx
  have ⟨r,hr,h⟩:=bind_some h
  cases ad h
  refine ⟨hr,rfl,fun {J θ} hf {w C xs} hl hs=>?_⟩
  have h1:=IV (k:=r.t.size) hs
  rw[hl] at h1
  rw[aB (θ:=θ) hx]
  exact h1
 ·rename_i u hh k' n l m hx
  have ⟨r,hr,h⟩:=bind_some h
  have ⟨hk,h⟩:=aj h
  have hk:=al hk
  cases ad h
  refine ⟨hr,hk,fun {J θ} hf {w C xs} hl hs=>?_⟩
  have hxo:=bA hf hx
  have h1:=hxo.2.2.1
  cases Pc hs h1
  rw[aB (θ:=θ) hx,<-hl]
  exact h1
 ·rename_i top u hh k' n l m hx
  split at h
  ·rename_i r hr
   have ⟨hk,h⟩:=aj h
   have hk:=al hk
   cases ad h
   refine ⟨hr,hk,fun {J θ} hf {w C xs} hl hs=>?_⟩
   have h1:=IV (k:=k') hs
   rw[hl] at h1
   rw[aB (θ:=θ) hx]
   exact h1
  ·have ⟨r,hr,h⟩:=bind_some h
   have ⟨hk,h⟩:=aj h
   have hk:=al hk
   cases ad h
   refine ⟨hr,hk,fun {J θ} hf {w C xs} hl hs=>?_⟩
   have hxo:=bA hf hx
   have h1:=hxo.2.2.1
   cases Pc hs h1
   rw[aB (θ:=θ) hx,<-hl]
   exact h1
 grind
theorem AK {b:Vb} (h:YN s x=some b):rowOf b.h s.chs=some b.r/\b.k=b.r.t.size/\ ∀ {J:Hp} {θ:Th},Fine P w0 J θ s-> ∀ {w:World} {C:List Ch} {xs:List b.r.t.den},xs.length=b.r.xs.length->St J w0 w (Ch.own (af b.r.E b.r.t.rep) [hv θ b.h] xs::C)->Vw (evL (envL θ s) x) (hv θ b.h) b.k b.r.xs.length b.l b.m:=Xm h
theorem Vj {Z:Type} {x:Option Operand} {d:Int} {k:Int->Option Z} {z:Z} (h:loV s x d k=some z): ∃m:Option Int,k (m.getD d)=some z/\ ∀θ,oI (evL (envL θ s)) x m:=by
 unfold loV at h
 split at h
 ·exact ⟨none,h,fun _=>trivial⟩
 ·have ⟨q,hq,h⟩:=bind_some h
  exact ⟨some q,h,fun θ=>uj hq θ⟩
theorem Xn {h:Hdr} {r:Row} {kk:Nat} {l m:Int} (hr:rowOf h s.chs=some r) (hm:m<=(r.xs.length:Int)) (hop: ∀J θ,Fine P w0 J θ s->OpT P J w0 o (evL (envL θ s)) [toCh P θ (r.ent h)] (fun v=>Vw v (hv θ h) kk r.xs.length l m) (fun _=>[toCh P θ (r.ent h)])):Good P w0 s o ⟨[r.ent h],[],r.rest,[],.vw ⟨s.nxt,[]⟩ h kk r.xs.length l m⟩:=by
 obtain ⟨hp,-⟩:=bN hr
 refine ⟨pq hp,aR rfl,fun J θ hf=>OpT.weak (hop J θ hf) (fun u hu=>?_) (fun u hu=>rfl)⟩
 have hok:=jl hf hp
 refine ⟨⟨aw _,aT hok.1,?_,hm⟩,dB,fun g hg=>by cases hg⟩
 rw[dB,show hv (upd θ s.nxt u) h=hv θ h from aX Same.upd hok.1]
 exact hu
theorem Xo {top:Bool} {h:Hdr} {r:Row} {kk:Nat} {l m:Int} (hr:rowOf h s.chs=some r) (hm:top=true->l=0) (hop: ∀J θ,Fine P w0 J θ s->OpT P J w0 o (evL (envL θ s)) [toCh P θ (r.ent h)] (fun v=>Vw v (hv θ h) kk r.xs.length l m) (fun _=>[toCh P θ (r.ent h)])):Good P w0 s o ⟨[r.ent h],[],r.rest,[],.xv top ⟨s.nxt,[]⟩ h kk r.xs.length l m⟩:=by
 obtain ⟨hp,-⟩:=bN hr
 refine ⟨pq hp,aR rfl,fun J θ hf=>OpT.weak (hop J θ hf) (fun u hu=>?_) (fun u hu=>rfl)⟩
 have hok:=jl hf hp
 refine ⟨⟨aw _,aT hok.1,?_,hm⟩,dB,fun g hg=>by cases hg⟩
 rw[dB,show hv (upd θ s.nxt u) h=hv θ h from aX Same.upd hok.1]
 exact hu
theorem xq (hT:TTok P tt) {T:TypeId} {lo hi:Option Operand} (ho:o.op= .slice T x lo hi none) (h:ED tt s k T x lo hi=some res):Oks P w0 s o k res:=by
 have ⟨d,hd,h⟩:=bind_some h
 have ⟨E',hE,h⟩:=bind_some h
 have ⟨e,he,h⟩:=bind_some h
 have ⟨b,hb,h⟩:=bind_some h
 have ⟨hn,h⟩:=aj h
 have hn:=al hn
 have ⟨ml,h,hml⟩:=Vj h
 have ⟨mh,h,hmh⟩:=Vj h
 have ⟨hr,hk,hvw⟩:=AK (P:=P) (w0:=w0) hb
 have key:0<=ml.getD 0->ml.getD 0<=mh.getD (b.m - b.l)->(b.l+mh.getD (b.m - b.l)<=(b.r.xs.length:Int)\/mh.getD (b.m - b.l)<=b.m - b.l)-> ∀J θ,Fine P w0 J θ s->OpT P J w0 o (evL (envL θ s)) [toCh P θ (b.r.ent b.h)] (fun v=>Vw v (hv θ b.h) b.k b.r.xs.length (b.l+ml.getD 0) (b.l+mh.getD (b.m - b.l))) (fun _=>[toCh P θ (b.r.ent b.h)]):=by
  intro c1 c2 c3 J θ hf w C hs
  have h1:=hvw hf rfl hs
  have ⟨ao,cap,hu,hl0,hlm⟩:=h1.hd
  have hcap:b.m.toNat - b.l.toNat<=cap/\b.l+cap≥b.r.xs.length:=by
   rcases h1 with ⟨-,q,e1,e2,e3⟩ | ⟨g,ofs,cp,x',-,q,q1,q2,q3,q4,q5,q6⟩
   ·omega
   ·grind
  have e1:mh.getD (b.m - b.l)=mh.getD ((b.m.toNat - b.l.toNat:Nat):Int):=by
   cases mh with
   | none=>grind
   | some _=>rfl
  rw[e1] at c2 c3
  have:=Mt (P:=P) (I:=J) (w0:=w0) (ev:=evL (envL θ s)) ((hT.get hd).el _ hE) (hT.get he).ti ho hu (hml θ) (hmh θ) hcap.1 c1 c2 (by omega) w (toCh P θ (b.r.ent b.h)::C) hs
  refine this.imp fun v w' hv'=>⟨?_,hv'.2⟩
  rw[e1]
  exact Sz h1 c1 c2 c3 hu (by grind)
 split at h
 ·have ⟨u,hc,h⟩:=bind_some h
  have ⟨c1,c2,c3⟩:=bQ hc
  exact ⟨_,h,Xn hr c3 (key c1 c2 (.inl c3))⟩
 ·have ⟨u,hc,h⟩:=bind_some h
  have ⟨c1,c2,c3⟩:=bQ hc
  exact ⟨_,h,Xo hr (fun e=>by cases e) (key c1 c2 (.inr c3))⟩
theorem SD (hT:TTok P tt) {T:TypeId} (ho:o.op= .call { callee:=.builtin .len,args:= #[x],argTypes:= #[T] }) (h:Xl tt s k T x=some res):Oks P w0 s o k res:=by
 have ⟨d,hd,h⟩:=bind_some h
 split at h
 ·rename_i E u hh k' n l m he hx
  refine kz h rfl fun J θ hf=>?_
  have hxo:=bA hf hx
  have ⟨a,c,e,h1,h2⟩:=hxo.2.2.1.hd
  have:=vH (P:=P) (I:=J) (w0:=w0) (o:=o) (ev:=evL (envL θ s)) ((hT.get hd).el _ he) ho ((aB (θ:=θ) hx).trans e)
  grind
 ·rename_i E top u hh k' n l m he hx
  refine kz h rfl fun J θ hf=>?_
  have hxo:=bA hf hx
  have ⟨a,c,e,h1,h2⟩:=hxo.2.2.1.hd
  have:=vH (P:=P) (I:=J) (w0:=w0) (o:=o) (ev:=evL (envL θ s)) ((hT.get hd).el _ he) ho ((aB (θ:=θ) hx).trans e)
  grind
 grind
theorem Dg (hT:TTok P tt) {T:TypeId} {i:Operand} (ho:o.op= .indexAddr T x i) (h:IW tt s k T x i=some res):Oks P w0 s o k res:=by
 have ⟨d,hd,h⟩:=bind_some h
 have ⟨E',hE,h⟩:=bind_some h
 have ⟨e,he,h⟩:=bind_some h
 have ⟨b,hb,h⟩:=bind_some h
 have ⟨hn,h⟩:=aj h
 have hn:=al hn
 have ⟨iv,hi,h⟩:=bind_some h
 have ⟨u,hc,h⟩:=bind_some h
 have ⟨c1,c2⟩:=bQ hc
 have ⟨a,ha,h⟩:=bind_some h
 have ⟨hr,hk,hvw⟩:=AK (P:=P) (w0:=w0) hb
 obtain ⟨hp,-⟩:=bN hr
 refine ⟨_,h,pq hp,aR rfl,fun J θ hf=>OpT.weak (fact:=(· =pt (hv θ b.h) ((b.l+iv).toNat*b.r.t.size+0))) (gv:=fun _=>[toCh P θ (b.r.ent b.h)]) (fun w C hs=>?_) (fun u hu=>?_) (fun u hu=>rfl)⟩
 ·have h1:=hvw hf rfl hs
  have hT2:=(hT.get hd).el _ hE
  have hti:=(hT.get he).ti
  rcases h1 with ⟨-,q,e1,e2,e3⟩ | ⟨g,ofs,cp,x',q0,q,q1,q2,q3,q4,q5,q6⟩
  ·omega
  ·have hval:pt (hv θ b.h) ((b.l+iv).toNat*b.r.t.size+0)= .pointer (some ⟨g,ofs+b.l.toNat*b.k+iv.toNat*e.n,none⟩):=by
    rw[q0]
    show Value.pointer (some ⟨g,ofs+((b.l+iv).toNat*b.r.t.size+0),none⟩)=_
    rw[show (b.l+iv).toNat=b.l.toNat+iv.toNat from by omega,<-hk,hn,Nat.add_mul]
    congr 3;omega
   rw[hval]
   have h2:iv<((b.m.toNat - b.l.toNat:Nat):Int):=by omega
   have:OpT P J w0 o (evL (envL θ s)) [] (· = .pointer (some ⟨g,ofs+b.l.toNat*b.k+iv.toNat*e.n,none⟩)) (fun _=>[]):=by
    refine bd fun w=>?_
    simp[execOp,ho,q,uj hi θ,Instr.indexAt,asIntOf,run_underlying hT2,hti.run_size,c1,h2,Result.andThen,Addr.add_mid]
   exact this w (toCh P θ (b.r.ent b.h)::C) hs
 ·have hok:=jl hf hp
  refine ⟨⟨aT hok.1,ha,(vP hr hok.2.1).newer (Res.newer (pq hp) (aR rfl J θ hf)) (Nat.le_succ _)⟩,?_,fun g hg=>by cases hg⟩
  rw[hu]
  show pt (hv (upd θ s.nxt _) b.h) _=pt (hv θ b.h) _
  rw[show hv (upd θ s.nxt _) b.h=hv θ b.h from aX Same.upd hok.1]
theorem KN {h:Hdr} {r:Row} {xs:List r.t.den} {av:AV} {fact:Th->Value->Prop} (hr:rowOf h s.chs=some r) (hop: ∀J θ,Fine P w0 J θ s->OpT P J w0 o (evL (envL θ s)) [toCh P θ (r.ent h)] (fact θ) (fun _=>[Ch.own (af r.E r.t.rep) [hv θ h] xs]))
  (hav: ∀J θ u,Fine P w0 J θ s->fact θ u->h.id<s.nxt->av.ok P w0 J (upd θ s.nxt u) (s.nxt+1) ((h,s.nxt,.own (.sl r.E r.t) xs)::r.rest)/\av.v (upd θ s.nxt u)=u):Good P w0 s o ⟨[],[r.ent h],r.rest,[(h,.own (.sl r.E r.t) xs)],av⟩:=by
 obtain ⟨hp,-⟩:=bN hr
 refine ⟨El hp,aR rfl,fun J θ hf=>OpT.weak (hop J θ hf) (fun u hu=>?_) (fun u hu=>?_)⟩
 ·have hok:=jl hf hp
  have ⟨q1,q2⟩:=hav J θ u hf hu hok.1
  refine ⟨q1,q2,fun g hg=>?_⟩
  cases au hg
  exact ⟨aT hok.1,aw _,trivial⟩
 ·have hok:=jl hf hp
  show [Ch.own _ [hv θ h] xs] = [Ch.own _ [hv (upd θ s.nxt u) h] xs]
  rw[show hv (upd θ s.nxt u) h=hv θ h from aX Same.upd hok.1]
  rfl
theorem SE (hT:TTok P tt) {T:TypeId} (ho:o.op= .call { callee:=.builtin .append,args:= #[x,y],argTypes:= #[T,T] }) (h:Zr tt s k T x y=some res):Oks P w0 s o k res:=by
 have ⟨d,hd,h⟩:=bind_some h
 have ⟨E,hE,h⟩:=bind_some h
 have ⟨e,he,h⟩:=bind_some h
 have ⟨by_,hby,h⟩:=bind_some h
 have ⟨b,hb,h⟩:=bind_some h
 have ⟨c,hcv,h⟩:=bind_some h
 have ⟨hn,h⟩:=aj h
 simp only[ai] at hn
 have ⟨⟨⟨n1,n2⟩,n3⟩,n4⟩:=hn
 have n1:=al n1
 have n2:=Hdr.beq_eq n2
 have n3:=al n3
 have ⟨u,hc,h⟩:=bind_some h
 have ⟨c1,c2,c3,c4⟩:=bQ hc
 have ⟨hr,hk,hvw⟩:=AK (P:=P) (w0:=w0) hb
 have ⟨hr2,hk2,hvw2⟩:=AK (P:=P) (w0:=w0) hcv
 have hcr:c.r=b.r:=by
  rw[n2] at hr2
  exact ad (hr2.symm.trans hr)
 have hk3:c.k=b.k:=by grind
 have hdk:=hT.get hd
 have hek:=hT.get he
 have ⟨z,hz1,hz2,hz3⟩:=hek.zero by_ hby
 have hTE:P.underlying T=some (.slice b.r.E):=(hdk.el E hE).trans (by rw[n3])
 refine ⟨_,h,KN (fact:=fun θ v=>Vw v (hv θ b.h) b.k b.r.xs.length 0 (b.m+(c.m - c.l))) hr (fun J θ hf=>fun w C hs=>?_) (fun J θ u hf hu hlt=>⟨⟨aw _,aT hlt,?_,by omega⟩,dB⟩)⟩
 ·have h1:=hvw hf rfl hs
  have h2:Vw (evL (envL θ s) y) (hv θ b.h) b.k b.r.xs.length c.l c.m:=by
   have:=hvw2 hf rfl (xs:=c.r.xs) (by rw[hcr,n2];exact hs)
   grind
  have hs':St J w0 w (Ch.own (af b.r.E b.r.t.rep) [hv θ b.h] b.r.xs::C):=hs
  rcases h1 with ⟨q0,q,e1,e2,e3⟩ | ⟨g,ofs,cp,x',q0,q,q1,q2,q3,q4,q5,q6⟩
  ·rcases h2 with ⟨p0,p,f1,f2,f3⟩ | ⟨g2,ofs2,cp2,y',p0,p,-⟩
   ·have hx0:=List.eq_nil_of_length_eq_zero e1
    have hrun:(Builtin.append_ #[T,T] o.type #[.slice none 0 0,.slice none 0 0]).run P w= .ok (.slice none 0 0) w:=by
     obtain ⟨info,hi',-,-,-⟩:=info_parts hz1
     rw[<-n3] at hi'
     exact dP hTE hi' (aF _)
    rw[dm ho q p hrun]
    refine ⟨.inl ⟨q0,rfl,e1,rfl,by omega⟩,?_⟩
    grind[yz]
   grind
  ·rcases h2 with ⟨p0,p,f1,f2,f3⟩ | ⟨g2,ofs2,cp2,y',p0,p,p1,p2,p3,p4,p5,p6⟩
   ·grind
   ·rw[q0] at p0
    simp[Value.slice.injEq,Option.some.injEq,Addr.mk.injEq,and_true,true_and] at p0
    obtain ⟨⟨rfl,rfl⟩,rfl⟩:=p0
    have hb0:b.l.toNat=0:=by omega
    have hx0:x'=0:=by rw[hb0,Nat.zero_mul] at q5;omega
    subst hx0
    rw[hb0,Nat.sub_zero,Nat.sub_zero,Nat.add_zero] at q
    rw[q0] at hs'⊢
    have:=EA (P:=P) (I:=J) (w0:=w0) (o:=o) (xs:=b.r.xs) (ev:=evL (envL θ s)) (Ty.sh_ok n4) (Ty.cpy n4) hTE (by rw[n3];omega) (by grind[Ty.size_pos]) (b.r.t.rep_size.trans (hk.symm.trans n1.symm)) ho q p (fun hlt=>?_) (by omega) (by omega) (by omega) w C (by simpa using hs')
    ·refine this.imp fun v w' hv'=>⟨?_,hv'.2⟩
     refine .inr ⟨g,ofs,cp,0,rfl,?_,by omega,by omega,q3,by omega,Nat.zero_le _,.inr (by simp)⟩
     grind
    grind
 grind[dB,hv,upd,aX,Same.upd]
theorem Mu (hT:TTok P tt) {T:TypeId} (ho:o.op= .call { callee:=.builtin .clear,args:= #[x],argTypes:= #[T] }) (h:Pd tt s k T x=some res):Oks P w0 s o k res:=by
 have ⟨d,hd,h⟩:=bind_some h
 have ⟨E,hE,h⟩:=bind_some h
 have ⟨e,he,h⟩:=bind_some h
 have ⟨by_,hby,h⟩:=bind_some h
 have ⟨b,hb,h⟩:=bind_some h
 have ⟨hn,h⟩:=aj h
 simp only[ai] at hn
 have ⟨⟨n1,n3⟩,n4⟩:=hn
 have n1:=al n1
 have n3:=al n3
 have ⟨z,hz,h⟩:=bind_some h
 have ⟨u,hc,h⟩:=bind_some h
 have ⟨c3,c4⟩:=bQ hc
 have ⟨hr,hk,hvw⟩:=AK (P:=P) (w0:=w0) hb
 have hdk:=hT.get hd
 have hek:=hT.get he
 have ⟨zv,hz1,hz2,hz3⟩:=hek.zero by_ hby
 have hzs:zv.cells.size=e.n:=by rw[hz2,List.size_toArray,zQ,hek.sz]
 have hTE:P.underlying T=some (.slice b.r.E):=(hdk.el E hE).trans (by rw[n3])
 have hzr: ∀J,b.r.t.rep.rd J zv.cells.toList z:=fun J=>by
  grind[SC]
 refine ⟨_,h,KN (fact:=fun _ _=>True) hr (fun J θ hf=>fun w C hs=>?_) (fun J θ u hf hu hlt=>⟨aw _,dB⟩)⟩
 have h1:=hvw hf rfl hs
 have hs':St J w0 w (Ch.own (af b.r.E b.r.t.rep) [hv θ b.h] b.r.xs::C):=hs
 rcases h1 with ⟨q0,q,e1,e2,e3⟩ | ⟨g,ofs,cp,x',q0,q,q1,q2,q3,q4,q5,q6⟩
 ·rw[pv ho q (sf w T b.r.E o.type hTE _ _)]
  refine ⟨trivial,?_⟩
  grind[uY]
 ·rw[q0] at hs'⊢
  exact GM (P:=P) (I:=J) (w0:=w0) (o:=o) (ev:=evL (envL θ s)) (Ty.sh_ok n4) (Ty.cpy n4) hTE (by rw[n3];omega) (by grind[Ty.size_pos]) (b.r.t.rep_size.trans (hk.symm.trans n1.symm)) hzs (hzr J) ho q (fun hlt=>by
   grind) (by omega) (by omega) w C hs'
end
theorem SF {α:Type} {E:TypeId} {R:Rep α} {I:Hp} {w0 w:World} {C:List Ch} {u v:Value} {xs:List α} {l m:Int} {k:Nat} (h:St I w0 w (Ch.own (af E R) [v] xs::C)) (hR:R.size=k) (hv:Vw u v k xs.length l m) (hm:m<=(xs.length:Int)):St I w0 w (Ch.own (af E R) [u] ((xs.take m.toNat).drop l.toNat)::C):=by
 obtain ⟨h1,h2,F,⟨G,K,rfl,k0,e⟩,h4,h5⟩:=h
 have ⟨hl,k0⟩:=k0
 rcases hv with ⟨rfl,rfl,hn,rfl,rfl⟩ | ⟨g,ofs,cap,x,rfl,rfl,q1,q2,q3,q4,q5,q6⟩
 ·have hx:=List.eq_nil_of_length_eq_zero hn
  subst hx
  exact ⟨h1,h2,G++K,⟨G,K,rfl,⟨Nat.zero_le _,k0⟩,e⟩,h4,h5⟩
 ·rcases k0 with ⟨hv',rfl,rfl⟩ | ⟨g',ofs',cap',cur,K1,hv',k1,k2,k3,k4,rfl,k5⟩
  ·grind
  ·simp[List.cons.injEq,Value.slice.injEq,Option.some.injEq,Addr.mk.injEq,and_true,true_and] at hv'
   obtain ⟨⟨rfl,rfl⟩,rfl⟩:=hv'
   rw[hR] at k4
   have hlm:l.toNat<=m.toNat:=by omega
   have hlen:((xs.take m.toNat).drop l.toNat).length=m.toNat - l.toNat:=by rw[bJ,aI];omega
   have e1:xs=(xs.take m.toNat).take l.toNat++((xs.take m.toNat).drop l.toNat++xs.drop m.toNat):=by grind[aA,List.take_append_drop]
   rw[e1] at k5
   obtain ⟨c1,c2,G1,G2,f1,f2,rfl,-,p1⟩:=k5.cut2
   obtain ⟨G3,G4,rfl,p2,-⟩:=p1.parts
   have hp:((g::(G1++(G3++G4)))++K).Perm (((g::G3)++K)++(G1++G4)):=by
    show (g::((G1++(G3++G4))++K)).Perm (g::((G3++K)++(G1++G4)))
    refine List.Perm.cons g ?_
    rw[aA,aA,aA]
    refine (List.perm_append_comm_assoc G1 G3 _).trans (List.Perm.append_left G3 ?_)
    refine (List.perm_append_comm_assoc G1 G4 K).trans ?_
    rw[<-aA]
    refine List.perm_append_comm.trans ?_
    exact List.Perm.append_left K List.perm_append_comm
   have hl1:((xs.take m.toNat).take l.toNat).length=l.toNat:=by rw[aI,aI];omega
   rw[hl1,hR] at f2
   have hdr:cur.toList.drop (ofs+l.toNat*k)=c2:=by
    rw[<-List.drop_drop,f1]
    exact List.drop_left' f2
   have hbx: ∀c,OwnEls R I w c ((xs.take m.toNat).drop l.toNat) G3->St I w0 w (Ch.own (af E R) [.slice (some ⟨g,ofs+x,none⟩) (m.toNat - l.toNat) (cap - l.toNat)] ((xs.take m.toNat).drop l.toNat)::C)\/c≠cur.toList.drop (ofs+x):=fun c hc=>by
    by_cases hcc:c=cur.toList.drop (ofs+x)
    ·subst hcc
     have m1:l.toNat*k+(cap - l.toNat)*k=cap*k:=by rw[<-Nat.add_mul];congr 1;omega
     refine .inl ⟨h1,h2,(g::G3)++K,⟨g::G3,K,rfl,⟨by omega,.inr ⟨g,ofs+x,cap - l.toNat,cur,G3,by grind,k1,by omega,by omega,by grind,rfl,hc⟩⟩,e⟩,(List.nodup_append.1 (hp.nodup_iff.1 h4)).1,fun b hb=>h5 b (hp.mem_iff.2 (aZ _ hb))⟩
    grind
   rcases q6 with q6 | q6
   ·have hz:(xs.take m.toNat).drop l.toNat= []:=List.eq_nil_of_length_eq_zero (by omega)
    have hG3:G3= []:=by rw[hz] at p2;exact p2
    rcases hbx (cur.toList.drop (ofs+x)) (by rw[hz,hG3];rfl) with r | r
    ·exact r
    grind
   grind
def pw (u:Hdr):List (Nat×Nat×AV)->List (Nat×Nat×AV)
 | [] =>[]
 | (t,ver,.xv top u' h k n l m)::es=>(match Hdr.beq u' u with | true=>(t,ver,.one (.own u')) | false=>(t,ver,.xv top u' h k n l m))::pw u es
 | (t,ver,.vw u' h k n l m)::es=>(match Hdr.beq u' u with | true=>(t,ver,.one (.own u)) | false=>(t,ver,.vw u' h k n l m))::pw u es
 | e::es=>e::pw u es
def SG {Y:Type} (s:Sg) (v:AV) (kk:Sg->Option Y):Option Y:=match v with
 | .xv _ u _ _ _ _ _=>kk ⟨pw u s.env,s.chs,s.nxt+1⟩
 | .vw u h k n l m=>match rowOf h s.chs with
  | some r=>bL (Nat.beq k r.t.size) (kk ⟨pw u s.env,(u,s.nxt,.own (.sl r.E r.t) ((r.xs.take m.toNat).drop l.toNat))::r.rest,s.nxt+1⟩)
  | none=>kk s
 | _=>kk s
def SH {Y:Type} :List AV->Sg->(Sg->Option Y)->Option Y
 | [],s,kk=>kk s
 | v::vs,s,kk=>SG s v fun s=>SH vs s kk
section
variable {P:Program} {I J:Hp} {w0 w:World} {F:Ch} {n:Nat} {θ:Th} {s:Sg} {a:Act}
theorem EE {u:Hdr} {N:Nat} {chs:List Ent} : ∀ {l:List (Nat×Nat×AV)},(∀e∈l,e.2.2.ok P w0 J θ N chs)->(∀e∈pw u l,e.2.2.ok P w0 J θ N chs/\ ∃e0∈l,e0.2.1=e.2.1)/\((pw u l).map fun e=>(e.1,e.2.2.v θ))=(l.map fun e=>(e.1,e.2.2.v θ))/\((l.Pairwise fun a b=>a.2.1≠b.2.1)->(pw u l).Pairwise fun a b=>a.2.1≠b.2.1)
 | [],h=>⟨fun e he=>(by cases he),rfl,fun _=>List.Pairwise.nil⟩
 | e::es,h=>by
  have ⟨k1,k2,k3⟩:=EE (u:=u) (l:=es) fun e he=>h e (be _ he)
  have hh:=h e (List.mem_cons_self ..)
  have fin: ∀e',e'.1=e.1->e'.2.1=e.2.1->e'.2.2.ok P w0 J θ N chs->e'.2.2.v θ=e.2.2.v θ->(∀q∈e'::pw u es,q.2.2.ok P w0 J θ N chs/\ ∃e0∈e::es,e0.2.1=q.2.1)/\((e'::pw u es).map fun e=>(e.1,e.2.2.v θ))=((e::es).map fun e=>(e.1,e.2.2.v θ))/\(((e::es).Pairwise fun a b=>a.2.1≠b.2.1)->(e'::pw u es).Pairwise fun a b=>a.2.1≠b.2.1):=fun e' f1 f2 f3 f4=>by
   refine ⟨fun q hq=>?_,?_,fun hp=>?_⟩
   ·rcases ax hq with rfl | hq
    ·exact ⟨f3,e,List.mem_cons_self ..,f2.symm⟩
    ·have ⟨r1,e0,r2,r3⟩:=k1 q hq
     exact ⟨r1,e0,be _ r2,r3⟩
   ·rw[List.map_cons,List.map_cons,k2,f1,f4]
   ·have ⟨p1,p2⟩:=List.pairwise_cons.1 hp
    refine List.pairwise_cons.2 ⟨fun q hq=>?_,k3 p2⟩
    have ⟨r1,e0,r2,r3⟩:=k1 q hq
    rw[f2,<-r3]
    exact p1 e0 r2
  obtain ⟨t,ver,av⟩:=e
  cases av with
  | vw u' h' k' n' l' m' =>
   cases hb:Hdr.beq u' u with
   | true =>
    have:=Hdr.beq_eq hb
    subst this
    have e1:pw u' ((t,ver,.vw u' h' k' n' l' m')::es)=(t,ver,.one (.own u'))::pw u' es:=by simp[pw,hb]
    rw[e1]
    exact fin (t,ver,.one (.own u')) rfl rfl ⟨hh.1,hh.2.2.1.one⟩ rfl
   | false =>
    grind[pw]
  | xv top u' h' k' n' l' m' =>
   cases hb:Hdr.beq u' u with
   | true =>
    have:=Hdr.beq_eq hb
    subst this
    have e1:pw u' ((t,ver,.xv top u' h' k' n' l' m')::es)=(t,ver,.one (.own u'))::pw u' es:=by simp[pw,hb]
    rw[e1]
    exact fin (t,ver,.one (.own u')) rfl rfl ⟨hh.1,hh.2.2.1.one⟩ rfl
   | false =>
    grind[pw]
  | _=>exact fin _ rfl rfl hh rfl
theorem SI {Y:Type} {kk:Sg->Option Y} {y:Y} {v:AV} (h:SG s v kk=some y) (hv':v.ok P w0 J θ s.nxt s.chs) (hS:Sim P I w0 F n J θ s a w): ∃s',kk s'=some y/\Sim P I w0 F n J θ s' a w/\Newer s.nxt s.chs s'.chs/\s.nxt<=s'.nxt:=by
 have base:Sim P I w0 F n J θ s a w/\Newer s.nxt s.chs s.chs/\s.nxt<=s.nxt:=⟨hS,Newer.rfl,aF _⟩
 unfold SG at h
 split at h
 ·rename_i top u hh k N l m
  have ⟨q1,q2,q3⟩:=EE (u:=u) (P:=P) (w0:=w0) (J:=J) (θ:=θ) (N:=s.nxt) (chs:=s.chs) hS.fine.env
  refine ⟨_,h,⟨hS.le,?_,hS.st,fun e he=>AV.ok_same Same.rfl (Nat.le_succ _) Newer.rfl (q1 e he).1 Hp.le.rfl,fun e he=>?_,q3 hS.fine.nd,fun e he=>eL Same.rfl (Nat.le_succ _) Newer.rfl (hS.fine.chs e he) Hp.le.rfl,hS.fine.lay⟩,Newer.rfl,Nat.le_succ _⟩
  ·show Agr n a ((pw u s.env).map _);rw[q2];exact hS.agr
  ·obtain ⟨-,e0,r1,r2⟩:=q1 e he
   rw[<-r2];exact aT (hS.fine.ver e0 r1)
 ·rename_i u hh k N l m
  have hvo:=hv'
  split at h
  ·rename_i r hr
   have ⟨hk,h⟩:=aj h
   have hk:=al hk
   obtain ⟨hp,-⟩:=bN hr
   have ⟨q1,q2,q3⟩:=EE (u:=u) (P:=P) (w0:=w0) (J:=J) (θ:=θ) (N:=s.nxt) (chs:=s.chs) hS.fine.env
   have hst:=hS.st.perm ((hp.map (toCh P θ)).append_right [F])
   have hN:=Pc hst hvo.2.2.1
   subst hN
   have hst2:=SF hst (r.t.rep_size.trans hk.symm) hvo.2.2.1 hvo.2.2.2
   have hnew:Newer s.nxt s.chs ((u,s.nxt,.own (.sl r.E r.t) ((r.xs.take m.toNat).drop l.toNat))::r.rest):=fun e he h' ver' c hs'=>by
    rcases ax he with rfl | he
    ·obtain ⟨rfl,hs'⟩:=hs'
     rcases hs' with ⟨rfl,rfl⟩ | hs'
     ·grind
     ·exact hs'.elim
    grind
   refine ⟨_,h,⟨hS.le,?_,hst2,fun e he=>AV.ok_same Same.rfl (Nat.le_succ _) hnew (q1 e he).1 Hp.le.rfl,fun e he=>?_,q3 hS.fine.nd,fun e he=>?_,hS.fine.lay⟩,hnew,Nat.le_succ _⟩
   ·show Agr n a ((pw u s.env).map _);rw[q2];exact hS.agr
   ·obtain ⟨-,e0,r1,r2⟩:=q1 e he
    rw[<-r2];exact aT (hS.fine.ver e0 r1)
   ·rcases ax he with rfl | he
    ·exact ⟨aT hvo.1,aw _,trivial⟩
    ·exact eL Same.rfl (Nat.le_succ _) hnew (hS.fine.chs e (hp.mem_iff.2 (be _ he))) Hp.le.rfl
  grind
 grind
theorem KO {Y:Type} {kk:Sg->Option Y} {y:Y} : ∀ {vs:List AV} {s:Sg},SH vs s kk=some y->(∀v∈vs,v.ok P w0 J θ s.nxt s.chs)->Sim P I w0 F n J θ s a w-> ∃s',kk s'=some y/\Sim P I w0 F n J θ s' a w/\s.nxt<=s'.nxt
 | [],s,h,_,hS=>⟨s,h,hS,aF _⟩
 | v::vs,s,h,hv',hS=>by
  have ⟨s1,e,h1,h2,h3⟩:=SI (show SG s v (fun s=>SH vs s kk)=some y from h) (hv' v (List.mem_cons_self ..)) hS
  have ⟨s',e',k1,k2⟩:=KO (vs:=vs) e (fun x hx=>AV.ok_same Same.rfl h3 h2 (hv' x (be _ hx)) Hp.le.rfl) h1
  grind
end
end R
namespace D
open Go.RowKit
section
variable {P:Program} {I J:Hp} {w0 w w':World} {cs C:List Ch} {o:Oper} {ev:Operand->Value}
end
end D
namespace R
open Go.RowKit
open D
section
variable {tt:TT} {s:Sg} {P:Program} {I J:Hp} {w0 w:World} {F:Ch} {n:Nat} {θ:Th} {a:Act} {o:Oper}
end
section
variable {Y:Type} (tt:TT) (s:Sg) (k:Res->Option Y)
end
section
variable {Y:Type} {tt:TT} {s:Sg} {k:Res->Option Y} {P:Program} {w0:World} {o:Oper} {res:Y} {x y:Operand}
end
end R
namespace R
open Go.RowKit
open D
structure PartA where
 h:Hdr
 ver:Nat
 E:TypeId
 t:Ty
 xs:List t.den
 lo:Nat
 hi:Nat
def SJ:AV->Option PartA
 | .sub h ver E t xs l=>some ⟨h,ver,E,t,xs,l.toNat,xs.length⟩
 | .pre h ver E t xs l=>some ⟨h,ver,E,t,xs,0,l.toNat⟩
 | _=>none
section
variable {Y:Type} (tt:TT) (s:Sg) (k:Res->Option Y)
def aaK (E:TypeId) (b:Nat) (t:Ty) (xs:List t.den) (nsx rest:List Ent) (q:PartA):Option Y:=
 (rowOf q.h rest).bind fun r=>bL (Nat.beq r.ver q.ver&&(t.sh&&t.dp)) ((oM (.sl r.E r.t) (.sl E t) r.xs).bind fun ys=>(cM b xs ((ys.take q.hi).drop q.lo)).bind fun zs=>k ⟨[r.ent q.h],nsx,r.rest,[(⟨s.nxt,[]⟩,.own (.sl E t) zs)],.one (.own ⟨s.nxt,[]⟩)⟩)
def Xp (T:TypeId) (x y:Operand):Option Y:=(td tt T).bind fun d=>d.el.bind fun E=>(td tt E).bind fun e=>e.bytes.bind fun b=>(opd s y).bind fun yv=>(SJ yv).bind fun q=>match opd s x with
 | some (.one (.own h))=>(rowOf h s.chs).bind fun r=>bL (Nat.beq r.E E&&Nat.beq r.t.size e.n) (aaK s k r.E b r.t r.xs [r.ent h] r.rest q)
 | some (.one (.val v))=>bL (isNil v&&Nat.beq q.t.size e.n) (aaK s k E b q.t [] [] s.chs q)
 | _=>none
end
section
variable {Y:Type} {tt:TT} {an:List (Nat×Ty)} {s:Sg} {k:Res->Option Y} {P:Program} {w0:World} {o:Oper} {res:Y} {x y:Operand}
theorem SK {J:Hp} {θ:Th} {n:Nat} {chs:List Ent} {v:AV} {q:PartA} (h:SJ v=some q) (hv':v.ok P w0 J θ n chs):v.v θ=rf (hv θ q.h) q.lo q.hi q.t.size/\q.lo<=q.hi/\q.hi<=q.xs.length/\q.h.id<n/\Mem chs n q.h q.ver (.own (.sl q.E q.t) q.xs):=by
 unfold SJ at h
 split at h
 ·rename_i hh ver E t xs l
  obtain rfl:=ad h
  obtain ⟨h1,h2,h3⟩:=hv'
  exact ⟨rfl,by show l.toNat<=xs.length;omega,aF _,h1,h3⟩
 ·rename_i hh ver E t xs l
  obtain rfl:=ad h
  obtain ⟨h1,h2,h3⟩:=hv'
  exact ⟨rfl,Nat.zero_le _,by show l.toNat<=xs.length;omega,h1,h3⟩
 ·cases h
theorem GN {I:Hp} {ev:Operand->Value} {α:Type} {E T:TypeId} {R:Rep α} {z:Value} {n b:Nat} {x y:Operand} {s u:Value} {xs ys zs:List α} {lo hi:Nat} (h:cM b xs ((ys.take hi).drop lo)=some zs) (h1:lo<=hi) (h2:hi<=ys.length) (hd:R.Dp) (hc:Cpy R R) (hT:P.underlying T=some (.slice E)) (hE:TZ P E z n b) (hzs:z.cells.size=n) (hn:0<n) (hR:R.size=n) (hb1:1<=b) (ho:o.op= .call { callee:=.builtin .append,args:= #[x,y],argTypes:= #[T,T] }) (hx:ev x=s) (hy:ev y=rf u lo hi n) :
  OpT P I w0 o ev [Ch.own (af E R) [s] xs,Ch.own (af E R) [u] ys] (fun _=>True) (fun v=>[Ch.own (af E R) [v] zs,Ch.own (af E R) [u] ys]):=by
 intro w C hs
 have key:=vV (P:=P) (I:=I) (w0:=w0) (o:=o) (ev:=ev) (ls:=[Ch.own (af E R) [u] ys]) (rn:=[Ch.own (af E R) [s] xs]) (fact:=fun _=>True) (gv:=fun v=>[Ch.own (af E R) [v] zs]) (fun v=>⟨An (D7 hd),trivial⟩) (fun J' hJ hrd _=>uP h hc hR (Kn (hrd _ _ _ (List.mem_singleton.2 rfl)) h1 h2 hR) hT hE hzs hn hR hb1 ho hx hy) w C (hs.perm ((List.Perm.swap _ _ _).append_right C))
 exact key.imp fun v w hv=>⟨hv.1,hv.2.perm ((List.Perm.swap _ _ _).append_right C)⟩
theorem SL {q:PartA} {nsx rest:List Ent} {r:Row} {J:Hp} {θ:Th} {n:Nat} (hp:s.chs.Perm (nsx++rest)) (hr:rowOf q.h rest=some r) (hv:r.ver=q.ver) (hm:Mem s.chs n q.h q.ver (.own (.sl q.E q.t) q.xs)):Chk.own (.sl r.E r.t) r.xs=Chk.own (.sl q.E q.t) q.xs:=by
 obtain ⟨hp2,-⟩:=bN hr
 exact hm.2 (r.ent q.h) (hp.mem_iff.2 (bc _ (hp2.mem_iff.2 (by simp)))) _ ⟨rfl,.inl ⟨hv,rfl⟩⟩
theorem Pe {T E:TypeId} {z:Value} {n b:Nat} {t:Ty} {xs:List t.den} {nsx rest:List Ent} {q:PartA} {yv:AV} (hq:SJ yv=some q) (hp:s.chs.Perm (nsx++rest)) (hT:P.underlying T=some (.slice E)) (hE:TZ P E z n b) (hzs:z.cells.size=n) (hn:0<n) (ht:t.size=n) (hb1:1<=b) (ho:o.op= .call { callee:=.builtin .append,args:= #[x,y],argTypes:= #[T,T] }) (hy:opd s y=some yv)
  (hx: ∀J θ,Fine P w0 J θ s-> ∃v,evL (envL θ s) x=v/\ ∀(rn:List Ch) (fact:Value->Prop) (gv:Value->List Ch),OpT P J w0 o (evL (envL θ s)) (Ch.own (af E t.rep) [v] xs::rn) fact gv->OpT P J w0 o (evL (envL θ s)) (nsx.map (toCh P θ)++rn) fact gv)
  (h:aaK s k E b t xs nsx rest q=some res):Oks P w0 s o k res:=by
 unfold aaK at h
 obtain ⟨r,hr,h⟩:=bind_some h
 obtain ⟨hc,h⟩:=aj h
 rw[ai,ai] at hc
 obtain ⟨hv1,hsh,hdp⟩:=hc
 have hv1:=al hv1
 obtain ⟨ys,hys,h⟩:=bind_some h
 obtain ⟨zs,hzs',h⟩:=bind_some h
 obtain ⟨hpr,-⟩:=bN hr
 have he:=C8 (h:=q.h) hys
 refine ⟨_,h,good_row (hp.trans ((hpr.append_left nsx).trans List.perm_middle)) fun J θ hf=>?_⟩
 obtain ⟨v,hv',hx⟩:=hx J θ hf
 obtain ⟨p1,p2,p3,-,p5⟩:=SK hq (bA hf hy)
 have hrow:=SL (J:=J) (θ:=θ) hp hr hv1 p5
 have hent:r.ent q.h=(q.h,r.ver,.own (.sl q.E q.t) q.xs):=by
  show (q.h,r.ver,Chk.own (.sl r.E r.t) r.xs)=_
  rw[hrow]
 rw[he] at hent
 have hcc:Chk.own (.sl E t) ys=Chk.own (.sl q.E q.t) q.xs:=(Prod.mk.inj (Prod.mk.inj hent).2).2
 have hsz:q.t.size=n/\q.xs.length=ys.length:=by
  clear hv' hx h hys hzs' hent he hrow
  obtain ⟨qh,qver,qE,qt,qxs,qlo,qhi⟩:=q
  simp only at hcc
  have e1:Ty.sl E t=Ty.sl qE qt:=(Chk.own.inj hcc).1
  obtain ⟨rfl,rfl⟩:=Ty.sl.inj e1
  have e2:ys=qxs:=eq_of_heq (Chk.own.inj hcc).2
  exact ⟨ht,by rw[e2]⟩
 rw[he]
 have:=GN (P:=P) (I:=J) (w0:=w0) (R:=t.rep) hzs' p2 (by rw[<-hsz.2];exact p3) (Ty.dp_ok hdp) (Ty.cpy hsh) hT hE hzs hn (t.rep_size.trans ht) hb1 ho hv' ((aB (θ:=θ) hy).trans (by rw[p1,hsz.1]))
 exact OpT.permN (List.perm_append_comm (l₁:=[_])) (hx _ _ _ this)
theorem SM (hT:TTok P tt) {T:TypeId} (ho:o.op= .call { callee:=.builtin .append,args:= #[x,y],argTypes:= #[T,T] }) (h:Xp tt s k T x y=some res):Oks P w0 s o k res:=by
 obtain ⟨d,hd,h⟩:=bind_some h
 obtain ⟨E,hE,h⟩:=bind_some h
 obtain ⟨e,he,h⟩:=bind_some h
 obtain ⟨b,hb,h⟩:=bind_some h
 obtain ⟨yv,hy,h⟩:=bind_some h
 obtain ⟨q,hq,h⟩:=bind_some h
 have hdk:=hT.get hd
 have hek:=hT.get he
 obtain ⟨z,hz1,hz2,hz3⟩:=hek.zero b hb
 have hzs:z.cells.size=e.n:=by rw[hz2,List.size_toArray,zQ,hek.sz]
 split at h
 ·rename_i hh hx
  obtain ⟨r,hr,h⟩:=bind_some h
  obtain ⟨hc,h⟩:=aj h
  rw[ai] at hc
  have hc1:=al hc.1
  have hc2:=al hc.2
  obtain ⟨hp,-⟩:=bN hr
  exact Pe (nsx:=[r.ent hh]) hq hp ((hdk.el E hE).trans (by rw[hc1])) (by rw[hc1];exact hz1) hzs (by rw[<-hc2];exact Ty.size_pos _) hc2 hz3 ho hy (fun J θ hf=>⟨_,aB hx,fun rn fact gv h=>h⟩) h
 ·rename_i v hx
  obtain ⟨hc,h⟩:=aj h
  rw[ai] at hc
  have hc1:=nw hc.1
  have hc2:=al hc.2
  refine Pe (nsx:=[]) hq (List.Perm.refl _) (hdk.el E hE) hz1 hzs (by rw[<-hc2];exact Ty.size_pos _) hc2 hz3 ho hy (fun J θ hf=>⟨_,aB hx,fun rn fact gv h=>?_⟩) h
  rw[show (AV.one (LV.val v)).v θ= .slice none 0 0 from hc1] at h
  exact OpT.nilrow h
 ·cases h
end
structure HRow where
 E:TypeId
 t:Ty
 xs:List t.den
 n:Nat
def Zs:Hol->Option HRow
 | ⟨_,_,.sl E t,d,.sl _ _,_,f,_,_,_,_,_⟩=>some ⟨E,t,d,List.length (α:=t.den) (f ([] :List _))⟩
 | _=>none
section
variable {Y:Type} (tt:TT) (s:Sg) (k:Res->Option Y)
def Pf (T:TypeId) (x i:Operand):Option Y:=(td tt T).bind fun d=>match d.el,opd s x,opd s i with
 | some E,some (.one (.own h)),some (.one (.val (.int .i64 i)))=>(Em h s.chs).bind fun r=>(Zs r).bind fun q=>(td tt E).bind fun e=>bL (Nat.beq e.n q.t.size&&Co h r.rest) ((aG q.xs i).bind fun a=>(chk (i<(q.n:Int))).bind fun _=>k ⟨[r.ent h],[],r.rest,[],.elo h r.over q.E q.t q.xs a i 0⟩)
 | _,_,_=>none
end
section
variable {Y:Type} {tt:TT} {s:Sg} {k:Res->Option Y} {P:Program} {w0:World} {o:Oper} {res:Y} {x:Operand}
theorem Zt {I:Hp} {α β:Type} {E E':TypeId} {R:Rep α} {S:Rep β} {v c:Value} {f:List β->List α} {b off:Nat} {w:World} {K:List Nat} (h:(Ch.gap (af E R) [v] (af E' S) f b off c).holds I w K):Hd v (f []).length:=by
 obtain ⟨h1,⟨cur,E0,h2,h2'⟩,h3,h4⟩:=h
 obtain ⟨F,-,hF⟩:=h4 I (w.setCell ⟨b,off,none⟩ (.slice none 0 0)) (.slice none 0 0) [] [] Hp.le.rfl (fun x hx hne=>by
  simp only[World.setCell]
  rw[Array.getElem?_modify,if_neg (fun e=>hne e.symm)]) (fun cur' E1 hc=>by
  simp only[World.setCell]
  rw[Array.getElem?_modify,if_pos rfl,hc];rfl) ⟨by simp,.inl ⟨rfl,rfl,rfl⟩⟩
 exact Hd.of_own hF
theorem Mv (hT:TTok P tt) {T:TypeId} {i:Operand} (ho:o.op= .indexAddr T x i) (h:Pf tt s k T x i=some res):Oks P w0 s o k res:=by
 obtain ⟨d,hd,h⟩:=bind_some h
 split at h
 ·rename_i E hh j he hx hi
  obtain ⟨r,hr,h⟩:=bind_some h
  obtain ⟨q,hq,h⟩:=bind_some h
  obtain ⟨e,hE,h⟩:=bind_some h
  obtain ⟨hn,h⟩:=aj h
  obtain ⟨a,ha,h⟩:=bind_some h
  obtain ⟨u0,hc,h⟩:=bind_some h
  have hc:=bQ hc
  rw[ai] at hn
  obtain ⟨hn,hno⟩:=hn
  have hn:=al hn
  have hp:=vR hr
  obtain ⟨ver1,over1,t0,d1,u1,y1,f1,i1,k1,off1,lv1,rest1⟩:=r
  cases t0 with
  | sl E1 t1 =>
   cases u1 with
   | sl E2 t2 =>
    obtain rfl:=ad (show some _=some q from hq)
    refine ⟨_,h,pq hp,aR rfl,fun J θ hf=>OpT.weak (fact:=(· =pt (hv θ hh) (j.toNat*t1.size+0))) (gv:=fun _=>[toCh P θ (Hol.ent _ hh)]) (fun w C hs=>?_) (fun u hu=>?_) (fun u hu=>rfl)⟩
    ·have hs1:St J w0 w (Ch.gap (af E1 t1.rep) [hv θ hh] (af E2 t2.rep) f1 (ptB (hv θ hh)) (ptO (hv θ hh)+(i1.toNat*k1+off1)) (lv1.v θ)::C):=hs
     have hD:Hd (hv θ hh) (f1 ([] :List t2.den)).length:=by
      obtain ⟨-,-,F,hsep,-,-⟩:=hs1
      obtain ⟨G,K,-,hg,-⟩:=hsep
      exact Zt hg
     have hin:inI (α:=t1.den) (f1 ([] :List t2.den)) j:=⟨(D4 ha).1,by
      have:=(D4 ha).1
      have hc:j<((List.length (α:=t1.den) (f1 ([] :List t2.den)):Nat):Int):=hc
      show j.toNat<List.length (α:=t1.den) (f1 ([] :List t2.den))
      omega⟩
     have:=rU (I:=J) (w0:=w0) (P:=P) (o:=o) hD ((hT.get hd).el _ he) (hT.get hE).ti ho (aB hx) (aB hi) hin
     rw[hn] at this
     exact this w _ hs
    ·have hok:=jl hf hp
     obtain ⟨q1,q2,q3,q4,q5,q6⟩:=hok
     have hm:Mem s.chs s.nxt hh over1 (.own (.sl E1 t1) d1):=⟨Nat.lt_trans q4 q2,fun e' he' c' hs'=>by
      rcases ax (hp.mem_iff.1 he') with rfl | he'
      ·rcases hs'.2 with ⟨h1,-⟩ | ⟨-,h1⟩
       ·exact absurd h1 (Nat.ne_of_gt q4)
       ·exact h1
      ·exact absurd hs'.1 (oO hno he')⟩
     refine ⟨⟨aT q1,ha,hm.newer (Res.newer (pq hp) (aR rfl J θ hf)) (Nat.le_succ _)⟩,?_,fun g hg=>by cases hg⟩
     rw[hu]
     show pt (hv (upd θ s.nxt _) hh) _=pt (hv θ hh) _
     rw[show hv (upd θ s.nxt _) hh=hv θ hh from aX Same.upd q1]
   | _=>cases hq
  | _=>cases hq
 ·cases h
end
end R
namespace D
open Go.RowKit
def mU (a b:ByteArray):Option ByteArray:=(chk (a.size+b.size<=9223372036854775807)).bind fun _=>some (a++b)
def lu (s:ByteArray) (i:Int):Option Int:=(chk (0<=i/\i<(s.size:Int))).bind fun _=>some ((s.data.toList.getD i.toNat 0).toNat:Int)
def sg (s:ByteArray) (l h:Int):Option ByteArray:=(chk (0<=l/\l<=h/\h<=(s.size:Int))).bind fun _=>some (s.extract l.toNat h.toNat)
def yB (l:List Int):ByteArray:=l.foldl (fun r n=>r.push (UInt8.ofNat n.toNat)) ByteArray.empty
section
variable {P:Program} {I:Hp} {w0:World} {o:Oper} {ev:Operand->Value} {x y:Operand}
theorem Xq {t u:TypeId} {m n:ByteArray} (h:m.size+n.size<=9223372036854775807) (ho:o.op= .binOp .add t x y u) (hx:ev x= .string m) (hy:ev y= .string n):OpT P I w0 o ev [] (· = .string (m++n)) (fun _=>[]):=
 bd fun w=>by simp[execOp,ho,hx,hy,eqGuard,binOp_string_add,run_string_add_sum w m n h,Result.andThen]
theorem Pg {T:TypeId} {m:ByteArray} {k:IntKind} {i:Int} (hT:P.underlying T=some .string) (h:0<=i/\i<(m.size:Int)) (ho:o.op= .index T x y) (hx:ev x= .string m) (hy:ev y= .int k i):OpT P I w0 o ev [] (· = .int .u8 ((m.data.toList.getD i.toNat 0).toNat:Int)) (fun _=>[]):=
 bd fun w=>by
  have h2:i.toNat<m.size:=by omega
  have e:m.data.toList.getD i.toNat 0=m[i.toNat]'h2:=by
   have h3:i.toNat<m.data.toList.length:=by simpa using h2
   rw[List.getD_eq_getElem?_getD,List.getElem?_eq_getElem h3]
   simp[ByteArray.getElem_eq_getElem_data]
  have:=run_index_string (P:=P) (w:=w) T m k i hT
  rw[dif_pos h] at this
  rw[e]
  simp[execOp,ho,hx,hy,this,Result.andThen]
def Xr (ev:Operand->Value) (d:Int):Option Operand->Int->Prop
 | none,n=>n=d
 | some z,n=> ∃k,ev z= .int k n
theorem Ph {T:TypeId} {m:ByteArray} {lo hi:Option Operand} {l h:Int} (hT:P.underlying T=some .string) (hb:0<=l/\l<=h/\h<=(m.size:Int)) (ho:o.op= .slice T x lo hi none) (hx:ev x= .string m)
  (hl:Xr ev 0 lo l) (hh:Xr ev (m.size:Int) hi h):OpT P I w0 o ev [] (· = .string (m.extract l.toNat h.toNat)) (fun _=>[]):=
 bd fun w=>by
  have hat: ∀a b,(Instr.sliceAt T (.string m) a b none).run P w=(Instr.slice T (.string m) a b none).run P w:=fun a b=>by
   simp[Instr.sliceAt,run_underlying hT]
  cases lo with
  | none =>
   obtain rfl:l=0:=hl
   cases hi with
   | none =>
    obtain rfl:h=(m.size:Int):=hh
    simp[execOp,ho,hx,hat,run_slice_string_all,hT,Result.andThen]
   | some b =>
    obtain ⟨k,hb'⟩:=hh
    simp[execOp,ho,hx,hb',hat,run_slice_string_h (t:=T) (s:=m) (P:=P) (w:=w) hT k h hb.2.1 hb.2.2,Result.andThen]
  | some a =>
   obtain ⟨j,ha⟩:=hl
   cases hi with
   | none =>
    obtain rfl:h=(m.size:Int):=hh
    simp[execOp,ho,hx,ha,hat,run_slice_string_l (t:=T) (s:=m) (P:=P) (w:=w) hT j l hb.1 hb.2.1,Result.andThen]
   | some b =>
    obtain ⟨k,hb'⟩:=hh
    have:=run_slice_string_if (P:=P) (w:=w) T m j k l h hT
    rw[if_pos ⟨by omega,hb.2.2⟩,if_pos ⟨hb.1,hb.2.1⟩] at this
    simp[execOp,ho,hx,ha,hb',hat,this,Result.andThen]
theorem AL {S D E E':TypeId} {h1: ∀a:Int,(Value.int .u8 a).oneCell'=true} {v:Value} {xs:List Int} (hS:P.underlying S=some (.slice E)) (hE:P.underlying E=some (.int .u8)) (hD:P.underlying D=some .string) (hr:(af E' (lr Int (.int .u8) h1)).rd I [v] xs) (ho:o.op= .convert S D x) (hx:ev x=v):OpT P I w0 o ev [] (· = .string (yB xs)) (fun _=>[]):=by
 intro w C hs
 obtain ⟨ao,cap,rfl,hc⟩:=Src.of_rd hs hr
 have hrun:(execOp ev o).run P w= .ok (.value (.string (yB xs))) w:=by
  have e1:(convert S D (.slice ao (xs.map (Value.int .u8)).length cap)).run P w= .ok (.string (yB xs)) w:=by
   rw[run_convert_bytes_string w S D E ao _ cap hS hE hD]
   rcases hc with hc | ⟨a,rfl,hc⟩
   ·have hx0:xs= []:=by simpa using hc
    subst hx0
    cases ao with
    | none=>rfl
    | some a=>exact run_bytesToString w a _ cap [] (run_loadCells_list (P:=P) w a [] (by simp))
   ·rw[List.length_map]
    exact run_bytesToString w a _ cap xs (by
     have:=run_loadCells_list (P:=P) w a (xs.map (Value.int .u8)) hc
     rwa [List.length_map] at this)
  simp only[List.length_map] at e1 hx
  simp[execOp,ho,hx,e1,Result.andThen]
 rw[hrun]
 exact ⟨rfl,hs⟩
end
end D
namespace R
open Go.RowKit
open D
section
variable {Y:Type} (tt:TT) (s:Sg) (k:Res->Option Y)
def Xs (b:BinOp) (t:TypeId) (x y:Operand):Option Y:=match b,opd s x,opd s y with
 | .add,some (.one (.val (.string m))),some (.one (.val (.string n)))=>(mU m n).bind fun r=>kv s k (.string r)
 | _,_,_=>aaG tt s k b t x y
def Zu (T:TypeId) (x i:Operand):Option Y:=(td tt T).bind fun d=>d.ik.bind fun k1=>match k1,opd s x,opd s i with
 | none,some (.one (.val (.string m))),some (.one (.val (.int j n)))=>(lu m n).bind fun r=>kv s k (.int .u8 r)
 | _,_,_=>none
def aaL (d:Int):Option Operand->Option Int
 | none=>some d
 | some y=>match opd s y with
  | some (.one (.val (.int _ n)))=>some n
  | _=>none
def Pi (T:TypeId) (x:Operand) (lo hi:Option Operand):Option Y:=(td tt T).bind fun d=>d.ik.bind fun k1=>match k1,opd s x with
 | none,some (.one (.val (.string m)))=>(aaL s 0 lo).bind fun l=>(aaL s (m.size:Int) hi).bind fun h=>(sg m l h).bind fun r=>kv s k (.string r)
 | _,_=>none
def Vk (S D:TypeId) (x:Operand):Option Y:=(td tt S).bind fun a=>(td tt D).bind fun b=>a.el.bind fun E=>(td tt E).bind fun e=>e.ik.bind fun k1=>b.ik.bind fun k2=>match k1,k2,opd s x with
 | some .u8,none,some (.one (.own h))=>(rowOf h s.chs).bind fun r=>(my (.sl r.E r.t) (.sl r.E (.int .u8)) r.xs).bind fun xs=>k ⟨[r.ent h],[],r.rest,[],.one (.val (.string (yB xs)))⟩
 | some .u8,none,some (.one (.rd _ t d))=>(my t (.sl E (.int .u8)) d).bind fun xs=>kv s k (.string (yB xs))
 | some .u8,none,some (.one (.val (.slice none 0 0)))=>kv s k (.string ByteArray.empty)
 | _,_,_=>none
end
section
variable {Y:Type} {tt:TT} {s:Sg} {k:Res->Option Y} {P:Program} {w0:World} {o:Oper} {res:Y} {x y:Operand}
theorem SN (hT:TTok P tt) {b:BinOp} {t u:TypeId} (ho:o.op= .binOp b t x y u) (h:Xs tt s k b t x y=some res):Oks P w0 s o k res:=by
 unfold Xs at h
 split at h
 ·rename_i m n hx hy
  obtain ⟨r,hr,h⟩:=bind_some h
  obtain ⟨u1,hc,hr⟩:=bind_some hr
  obtain rfl:=ad hr
  exact kz h rfl fun J θ hf=>Xq (bQ hc) ho (aB hx) (aB hy)
 ·exact N3 hT ho h
theorem SO (hT:TTok P tt) {T:TypeId} {i:Operand} (ho:o.op= .index T x i) (h:Zu tt s k T x i=some res):Oks P w0 s o k res:=by
 obtain ⟨d,hd,g1⟩:=bind_some h
 obtain ⟨k1,h1,g2⟩:=bind_some g1
 clear h g1
 split at g2
 ·rename_i m j n hx hi
  obtain ⟨r,hr,h⟩:=bind_some g2
  obtain ⟨u1,hc,hr⟩:=bind_some hr
  obtain rfl:=ad hr
  exact kz h rfl fun J θ hf=>Pg ((hT.get hd).ik _ h1) (bQ hc) ho (aB hx) (aB hi)
 ·cases g2
theorem Pj {d n:Int} {θ:Th} {lo:Option Operand} (h:aaL s d lo=some n):Xr (evL (envL θ s)) d lo n:=by
 cases lo with
 | none=>exact (ad h).symm
 | some z =>
  simp only[aaL] at h
  split at h
  ·rename_i j m hz
   obtain rfl:=ad h
   exact ⟨j,aB hz⟩
  ·cases h
theorem Mw (hT:TTok P tt) {T:TypeId} {lo hi:Option Operand} (ho:o.op= .slice T x lo hi none) (h:Pi tt s k T x lo hi=some res):Oks P w0 s o k res:=by
 obtain ⟨d,hd,g1⟩:=bind_some h
 obtain ⟨k1,h1,g2⟩:=bind_some g1
 clear h g1
 split at g2
 ·rename_i m hx
  obtain ⟨l,hl,g3⟩:=bind_some g2
  obtain ⟨e,he,g4⟩:=bind_some g3
  obtain ⟨r,hr,h⟩:=bind_some g4
  obtain ⟨u1,hc,hr⟩:=bind_some hr
  obtain rfl:=ad hr
  exact kz h rfl fun J θ hf=>Ph ((hT.get hd).ik _ h1) (bQ hc) ho (aB hx) (Pj hl) (Pj he)
 ·cases g2
theorem Pm (hT:TTok P tt) {S D:TypeId} (ho:o.op= .convert S D x) (h:Vk tt s k S D x=some res):Oks P w0 s o k res:=by
 obtain ⟨a,ha,g1⟩:=bind_some h
 obtain ⟨b,hb,g2⟩:=bind_some g1
 obtain ⟨E,hE,g3⟩:=bind_some g2
 obtain ⟨e,he,g4⟩:=bind_some g3
 obtain ⟨k1,h1,g5⟩:=bind_some g4
 obtain ⟨k2,h2,g6⟩:=bind_some g5
 clear h g1 g2 g3 g4 g5
 have hS:=(hT.get ha).el _ hE
 have hD:=(hT.get hb).ik _ h2
 have hU:=(hT.get he).ik _ h1
 split at g6
 ·rename_i hh hx
  obtain ⟨r,hr,g7⟩:=bind_some g6
  obtain ⟨xs,hxs,g8⟩:=bind_some g7
  obtain ⟨hp,-⟩:=bN hr
  refine ⟨_,g8,pq hp,aR rfl,fun J θ hf=>OpT.weak (vV (ls:=[Ch.own (Ty.sl r.E r.t).rep [hv θ hh] r.xs]) (rn:=[]) (gv:=fun _=>[]) (fun _=>trivial) fun J' hJ hrd hbl=>?_) (fact:=(· = .string (yB xs))) (fun u hu=>?_) (fun u hu=>rfl)⟩
  ·have h3:=gy hxs (hrd _ _ _ (List.mem_singleton_self _))
   exact AL hS hU hD h3 ho (aB hx)
  ·subst hu
   exact ⟨Eq.refl true,rfl,fun g hg=>by cases hg⟩
 ·rename_i hh t d hx
  obtain ⟨xs,hxs,g7⟩:=bind_some g6
  exact kz g7 rfl fun J θ hf=>AL hS hU hD (gy hxs (bA hf hx).2) ho (aB hx)
 ·rename_i hx
  exact kz g6 rfl fun J θ hf=>AL (E':=0) (xs:=[]) (h1:=fun _=>rfl) hS hU hD ⟨none,0,rfl,⟨by simp,by simp⟩,.inl rfl⟩ ho (aB hx)
 ·cases g6
end
end R
namespace R
open Go.RowKit
open D
section
variable {Y:Type} (s:Sg) (k:Res->Option Y)
end
section
variable {Y:Type} {s:Sg} {k:Res->Option Y} {P:Program} {w0:World} {o:Oper} {res:Y} {x y:Operand}
theorem SP {J:Hp} {θ:Th} {n:Nat} {chs:List Ent} {h:Hdr} {ver T:Nat} {cells:List LV} (h1:h.id<n) (h2:ver<n) (h3: ∀x∈cells,x.ok P w0 J θ n):okE P w0 J θ n chs (h,ver,.blk T cells):=⟨h1,h2,h3⟩
end
end R
namespace R
open Go.RowKit
open D
def Vl (h:Hdr) (s:Sg):Option Sg:=(pull h s.chs).bind fun r=>match r.1.2.2 with
 | .own (.sl E (.bag t)) xs=>some ⟨s.env,(h,s.nxt,.own (.sl E (.fro (.fro (.fro t)))) xs)::r.2,s.nxt+1⟩
 | _=>none
def xr (h:Hdr) (s:Sg):Sg:=match Vl h s with
 | some s'=>s'
 | none=>s
def Mx (o:Oper) (s:Sg):Sg:=match o.op with
 | .indexAddr _ x _=>match opd s x with
  | some (.one (.own h))=>xr h s
  | _=>s
 | _=>s
def ac6:Chk->Bool
 | .own (.sl _ (.fro (.fro (.fro _)))) _=>true
 | _=>false
def IX (n:Nat) (e:Ent):Ent:=match e.2.2 with
 | .own (.sl E (.fro (.fro (.fro t)))) xs=>(e.1,n,.own (.sl E (.bag t)) xs)
 | _=>e
def SQ (s:Sg):Sg:=match s.chs.any fun e=>ac6 e.2.2 with
 | true=>⟨s.env,s.chs.map (IX s.nxt),s.nxt+1⟩
 | false=>s
def YO (s:Sg):Sg:=SQ (qC s)
section
variable {P:Program} {I J:Hp} {w0 w:World} {F:Ch} {n:Nat} {θ:Th} {s s':Sg} {a:Act} {h:Hdr}
theorem GO (hs:Vl h s=some s') (hS:Sim P I w0 F n J θ s a w): ∃J',J.le J'/\Sim P I w0 F n J' θ s' a w/\Fr s θ s' θ:=by
 obtain ⟨r,hr,hs⟩:=bind_some hs
 obtain ⟨p,k⟩:=fa hr
 obtain ⟨⟨h2,ver,c⟩,rest⟩:=r
 obtain rfl:h2=h:=k
 cases c with
 | own t' d =>
  cases t' with
  | sl E t' =>
   cases t' with
   | bag t =>
    obtain rfl:=ad (show some _=some s' from hs)
    have hok:=hS.fine.chs _ (p.mem_iff.2 (List.mem_cons_self ..))
    have h1:St J w0 w (Ch.own (af E (D9 t.rep)) [hv θ h2] d::(rest.map (toCh P θ)++ [F])):=hS.st.perm ((p.map (toCh P θ)).append_right [F])
    obtain ⟨J',hJ,hst⟩:=h1.freeze_els
    have hmem: ∀e,e∈rest->e∈s.chs:=fun e he=>p.mem_iff.2 (be _ he)
    have hnew:Newer s.nxt s.chs ((h2,s.nxt,Chk.own (.sl E (.fro (.fro (.fro t)))) d)::rest):=fun e he h' ver' c hs'=>by
     rcases ax he with rfl | he
     ·obtain ⟨rfl,hs'⟩:=hs'
      rcases hs' with ⟨h1,-⟩ | hs'
      ·exact .inl (Nat.le_of_eq h1)
      ·exact hs'.elim
     ·exact .inr ⟨e,hmem e he,hs'⟩
    refine ⟨J',hJ,⟨hS.le.trans hJ,hS.agr,?_,fun e he=>AV.ok_same Same.rfl (Nat.le_succ _) hnew (hS.fine.env e he) hJ,fun e he=>aT (hS.fine.ver e he),hS.fine.nd,fun e he=>?_,hS.fine.lay.mono hJ⟩,Nat.le_succ _,Same.rfl,fun e he _=>he,hnew⟩
    ·show St J' w0 w (Ch.own (af E (tm (tm (tm t.rep)))) [hv θ h2] d::(rest.map (toCh P θ)++ [F]))
     obtain ⟨b1,b2,F0,⟨G,K,rfl,⟨hl,e2⟩,e3⟩,b4,b5⟩:=hst
     refine ⟨b1,b2,G++K,⟨G,K,rfl,⟨hl,?_⟩,e3⟩,b4,b5⟩
     rcases e2 with e2 | ⟨g,ofs,cap,cur,K1,hv',k1,k2,k3,k4,k6,k5⟩
     ·exact .inl e2
     ·exact .inr ⟨g,ofs,cap,cur,K1,hv',k1,k2,k3,k4,k6,OwnEls.turn (R:=tm t.rep) (S:=tm (tm (tm t.rep))) rfl (fun c x G hx=>⟨hx.1,hx.2⟩) k5⟩
    ·rcases ax he with rfl | he
     ·exact ⟨aT hok.1,aw _,trivial⟩
     ·exact eL Same.rfl (Nat.le_succ _) hnew (hS.fine.chs e (hmem e he)) hJ
   | _=>cases hs
  | _=>cases hs
 | _=>cases hs
theorem SR {o:Oper} (hS:Sim P I w0 F n J θ s a w): ∃J',J.le J'/\Sim P I w0 F n J' θ (Mx o s) a w/\Fr s θ (Mx o s) θ:=by
 unfold Mx
 split
 ·split
  ·unfold xr
   split
   ·exact GO ‹_› hS
   ·exact ⟨J,Hp.le.rfl,hS,Fr.rfl⟩
  ·exact ⟨J,Hp.le.rfl,hS,Fr.rfl⟩
 ·exact ⟨J,Hp.le.rfl,hS,Fr.rfl⟩
theorem KP {f g:Ent->Ch} {C:List Ch} : ∀ {l:List Ent} {K:List Nat},(∀e∈l,∀F,(f e).holds J w F->(g e).holds J w F)->Sep J (l.map f++C) w K->Sep J (l.map g++C) w K
 | [],K,_,h=>h
 | e::l,_,hh,⟨G,K',e1,h1,h2⟩=>⟨G,K',e1,hh e (by simp) G h1,KP (fun e he=>hh e (by simp[he])) h2⟩
theorem My {n:Nat} {e:Ent} {h:Hdr} {ver:Nat} {c:Chk} (k:Says (IX n e) h ver c):ver=n\/Says e h ver c:=by
 unfold IX at k
 split at k
 ·obtain ⟨rfl,k⟩:=k
  rcases k with ⟨h1,-⟩ | k
  ·exact .inl h1.symm
  ·exact k.elim
 ·exact .inr k
theorem SS (hS:Sim P I w0 F n J θ s a w):Sim P I w0 F n J θ (SQ s) a w/\Fr s θ (SQ s) θ:=by
 unfold SQ
 split
 ·have hnew:Newer s.nxt s.chs (s.chs.map (IX s.nxt)):=fun e he h ver c hs=>by
   obtain ⟨e0,h0,rfl⟩:=List.mem_map.1 he
   rcases My hs with rfl | hs
   ·exact .inl (aF _)
   ·exact .inr ⟨e0,h0,hs⟩
  refine ⟨⟨hS.le,hS.agr,?_,fun e he=>AV.ok_same Same.rfl (Nat.le_succ _) hnew (hS.fine.env e he) Hp.le.rfl,fun e he=>aT (hS.fine.ver e he),hS.fine.nd,fun e he=>?_,hS.fine.lay⟩,Nat.le_succ _,Same.rfl,fun e he _=>he,hnew⟩
  ·obtain ⟨h1,h2,K,h3,h4,h5⟩:=hS.st
   refine ⟨h1,h2,K,?_,h4,h5⟩
   rw[List.map_map]
   refine KP (fun e he G hG=>?_) h3
   show (toCh P θ (IX s.nxt e)).holds J w G
   obtain ⟨hh,ver,c⟩:=e
   unfold IX
   split
   ·rename_i E t xs hc
    obtain rfl:c= .own (.sl E (.fro (.fro (.fro t)))) xs:=hc
    obtain ⟨hl,e2⟩:=(show (af E (tm (tm (tm t.rep)))).own J w [hv θ hh] xs G from hG)
    refine (show (af E (D9 t.rep)).own J w [hv θ hh] xs G from ⟨hl,?_⟩)
    rcases e2 with e2 | ⟨g,ofs,cap,cur,K1,hv',k1,k2,k3,k4,k6,k5⟩
    ·exact .inl e2
    ·exact .inr ⟨g,ofs,cap,cur,K1,hv',k1,k2,k3,k4,k6,OwnEls.turn (R:=tm (tm (tm t.rep))) (S:=D9 t.rep) rfl (fun c x G hx=>by rw[hx.1];exact Kp hx.2) k5⟩
   ·exact hG
  ·obtain ⟨e0,h0,rfl⟩:=List.mem_map.1 he
   have hok:=hS.fine.chs e0 h0
   have:=eL Same.rfl (Nat.le_succ _) hnew hok (J':=J) Hp.le.rfl
   obtain ⟨hh,ver,c⟩:=e0
   unfold IX
   split
   ·exact ⟨this.1,aw _,trivial⟩
   ·exact this
 ·exact ⟨hS,Fr.rfl⟩
theorem Pn (hS:Sim P I w0 F n J θ s a w): ∃θ',Sim P I w0 F n J θ' (YO s) a w/\Fr s θ (YO s) θ':=by
 obtain ⟨θ',S1,F1⟩:=zS hS
 obtain ⟨S2,F2⟩:=SS S1
 exact ⟨θ',S2,F1.trans F2⟩
end
end R
namespace R
open Go.RowKit
open D
section
variable {Y:Type} (ft:FT) (s:Sg) (k:Res->Option Y)
def Po (ns:List Int):List LV:=ns.map fun n=>.val (.int .i64 n)
def acz (T:Nat) (g:FuncId) (x:Operand):Option Y:=(fs ft g).bind fun f=>(opd s x).bind fun v=>(fy ft s s.chs f.ps [v]).bind fun a=>bL (a.lent.isEmpty&&a.own.isEmpty) <|
 (appP f.ps f.m a.d).bind fun r=>(W3 (f.rs++outs f.ps) (toH _ r)).bind fun ns=>match opd s x with
 | some (.one lv)=>k ⟨[],[],s.chs,[(⟨s.nxt,[]⟩,.blk T (lv::Po ns))],.one (.ptr ⟨s.nxt,[]⟩ 0)⟩
 | _=>none
end
section
variable {Y:Type} {ft:FT} {s:Sg} {k:Res->Option Y} {P:Program} {w0:World} {o:Oper} {res:Y} {x:Operand}
theorem SU {J:Hp} {θ:Th} {n:Nat} {ns:List Int} : ∀z∈Po ns,z.ok P w0 J θ n:=fun z hz=>by
 obtain ⟨m,hm,rfl⟩:=List.mem_map.1 hz
 exact Eq.refl true
theorem Xt {θ:Th} {ns:List Int} :(Po ns).map (·.v θ)=ns.map (Value.int .i64):=by
 unfold Po
 rw[List.map_map];rfl
theorem Xu {T:Nat} {g:FuncId} (hF:FTok P ft) (hk: ∀f,fs ft g=some f->NewOk P g T f) {ts:Array TypeId} (ho:o.op= .call { callee:=.value (.func g),args:= #[x],argTypes:=ts }) (h:acz ft s k T g x=some res):Oks P w0 s o k res:=by
 obtain ⟨f,hf',h⟩:=bind_some h
 obtain ⟨v0,hv0',h⟩:=bind_some h
 obtain ⟨a,ha,h⟩:=bind_some h
 obtain ⟨hc,h⟩:=aj h
 rw[ai] at hc
 have hl0:a.lent= []:=List.isEmpty_iff.1 hc.1
 have ho0:a.own= []:=List.isEmpty_iff.1 hc.2
 obtain ⟨r,hr,h⟩:=bind_some h
 obtain ⟨ns,hns,h⟩:=bind_some h
 split at h
 ·rename_i lv hx
  refine ⟨_,h,by simp,aR rfl,fun J θ hf=>?_⟩
  have k1:lv.ok P w0 J θ s.nxt:=bA hf hx
  obtain rfl:v0= .one lv:=ad (hv0'.symm.trans hx)
  obtain ⟨q1,-,-⟩:=gY (J':=J) hF hf Hp.le.rfl ha (fun y hy=>by obtain rfl:=au hy;exact k1) (fun e he=>he) (by rw[hl0];exact fun h hh=>by cases hh) (ghV θ a.gh) Dc
  have hev:evL (envL θ s) x=lv.v θ:=aB (θ:=θ) hx
  have q1:PArgs P w0 J (ghV θ a.gh) f.ps [lv.v θ] a.d:=q1
  have hl:(#[] :Array Value).toList++(#[x] :Array Operand).toList.map (evL (envL θ s))++(#[] :Array Value).toList=([lv.v θ] :List Value).toArray.toList:=by
   simp only[List.map_cons,List.map_nil,List.nil_append,List.append_nil,hev]
  refine OpT.weak (qy (hk f hf').1 ho rfl hl ((hk f hf').2 w0 J (ghV θ a.gh) [lv.v θ] a.d r ns hf.lay q1 hr hns)) (fun v hv0=>?_) (fun v hv0=>?_)
  ·obtain ⟨b,rfl⟩:=hv0
   refine ⟨aw _,by show Value.pointer (some ⟨bk (hv _ ⟨s.nxt,[]⟩),0,none⟩)=_;rw[dB];rfl,fun g hg=>?_⟩
   obtain rfl:=au hg
   refine SP (aw _) (aw _) fun z hz=>?_
   rcases ax hz with rfl | hz
   ·exact LV.ok_same Same.upd (Nat.le_succ _) k1 Hp.le.rfl
   ·exact SU z hz
  ·show [Ch.blk (bk v) ([lv.v θ] ++ns.map (Value.int .i64)) T] = [Ch.blk (bk (hv (upd θ s.nxt v) ⟨s.nxt,[]⟩)) ((lv::Po ns).map (·.v (upd θ s.nxt v))) T]
   rw[dB,List.map_cons,Xt,LV.v_same Same.upd k1];rfl
 ·cases h
end
end R
namespace R
open Go.RowKit
open D
section
variable {P:Program} {I J:Hp} {w0 w:World} {C:List Ch} {o:Oper} {ev:Operand->Value} {α β:Type} {R:Rep α} {S:Rep β} {E T:TypeId}
theorem St.lend {v:Value} {xs:List α} {a:α} {i:Int} (ha:aG xs i=some a) (hS:R.size=1) (h:St I w0 w (Ch.own (af E R) [v] xs::C)) :
  ∃c,c.oneCell'=true/\St I w0 w (Ch.own R [c] a::Ch.gap (af E R) [v] R (fun y=>xs.set i.toNat y) (ptB v) (ptO v+(i.toNat*R.size+0)) c::C):=by
 obtain ⟨hb,hi,F,⟨G,K,rfl,e2,e3⟩,h2,h3⟩:=h
 have hlt:=(List.getElem?_eq_some_iff.1 (pg ha)).1
 obtain ⟨g,ofs,cap,cur,K1,K3,c1,cell,c3,G1,rfl,hl,k1,k2,k3,k4,rfl,f1,f2,f3,f4,f5,f6⟩:=uS e2 (pg ha)
 obtain ⟨c,rfl⟩:=List.length_eq_one_iff.1 ((R.own_len f5).trans hS)
 have hperm:((g::(K1++(G1++K3)))++K).Perm (G1++((g::(K1++([] ++K3)))++K)):=by
  grind
 have hnd:=hperm.nodup_iff.1 h2
 refine ⟨c,R.own_one f5 c (by simp),hb,hi,G1++((g::(K1++([] ++K3)))++K),⟨G1,_,rfl,f5,g::(K1++([] ++K3)),K,rfl,?_,e3⟩,hnd,fun b hb=>h3 b (hperm.mem_iff.2 hb)⟩
 exact U3 (S:=R) (off:=0) (u:=fun _ y=>y) (a:=a) (v0:=c) hlt hl k1 k2 k3 k4 f1 f2 f3 f4 f6 rfl (K2:=[]) (fun b hb e=>by grind) (fun b hb=>by cases hb) hS fun J w' d' y G' hJ hs ho=>by
  obtain ⟨d0,rfl⟩:=List.length_eq_one_iff.1 ((R.own_len ho).trans hS)
  exact ⟨G',by simp,ho⟩
theorem GP {cs:List Value} {f:β->α} {b off:Nat} {v:Value} {x:Operand} (hT:TI P T false 1) (ho:o.op= .load T x) (hx:ev x= .pointer (some ⟨b,off,none⟩)) (h1:v.oneCell'=true) :
  OpT P I w0 o ev [Ch.gap R cs S f b off v] (· =v) (fun _=>[Ch.gap R cs S f b off v]):=by
 intro w C hs
 obtain ⟨hb0,hi,F,⟨K,K2,rfl,⟨k1,⟨cur,E,k2,k2'⟩,k3,k4⟩,e3⟩,h4,h5⟩:=id hs
 obtain ⟨u,hr,hu⟩:=Kh (P:=P) (w:=w) (b:=b) (off:=off) (d:=[v]) hT rfl (fun _=>rfl) (fun j u hj=>by
  have hj0:j=0:=by have:=(List.getElem?_eq_some_iff.1 hj).1;simpa using this
  subst hj0
  simp only[World.cell?,k2]
  simp_all)
 obtain rfl:v=u:=by simpa using (show [v] = [u] from hu)
 simp only[execOp,ho,hx,Sem.run_bind,hr,Result.andThen_ok]
 exact ⟨rfl,hs⟩
end
section
variable {Y:Type} (tt:TT) (s:Sg) (k:Res->Option Y)
def Vm (T:TypeId) (x:Operand):Option Y:=(td tt T).bind fun d=>match opd s x with
 | some (.elo h ver E t xs a i off)=>(Em h s.chs).bind fun r=>bL (Nat.beq r.k t.size&&Nat.beq r.off off && !d.agg&&Nat.beq d.n 1) ((chk (i=r.i)).bind fun _=>k ⟨[r.ent h],[],r.rest,[],.one r.lv⟩)
 | _=>none
end
section
variable {Y:Type} {tt:TT} {s:Sg} {k:Res->Option Y} {P:Program} {w0:World} {o:Oper} {res:Y} {x:Operand}
theorem Pp (hT:TTok P tt) {T:TypeId} (ho:o.op= .load T x) (h:Vm tt s k T x=some res):Oks P w0 s o k res:=by
 obtain ⟨d,hd,h⟩:=bind_some h
 split at h
 ·rename_i hh ver E t xs a i off hx
  obtain ⟨r,hr,h⟩:=bind_some h
  obtain ⟨hc,h⟩:=aj h
  rw[ai,ai,ai] at hc
  obtain ⟨⟨⟨hc1,hc2⟩,hc3⟩,hc4⟩:=hc
  obtain ⟨u,hi,h⟩:=bind_some h
  have hi:=bQ hi
  have hc1:=al hc1
  have hc2:=al hc2
  have hc3:d.agg=false:=by simpa using hc3
  have hc4:=al hc4
  have hp:=vR hr
  have hti:=(hT.get hd).ti
  rw[hc3,hc4] at hti
  refine ⟨_,h,pq hp,aR rfl,fun J θ hf=>?_⟩
  have hok:=jl hf hp
  have hlv:r.lv.ok P w0 J θ s.nxt:=hok.2.2.1
  have hxv:evL (envL θ s) x= .pointer (some ⟨ptB (hv θ hh),ptO (hv θ hh)+(r.i.toNat*r.k+r.off),none⟩):=by
   rw[aB (θ:=θ) hx,hc1,hc2,<-hi];rfl
  have:=GP (P:=P) (I:=J) (w0:=w0) (R:=r.t.rep) (S:=r.u.rep) (cs:=[hv θ hh]) (f:=r.f) (v:=r.lv.v θ) hti ho hxv (LV.one hlv)
  refine OpT.weak this (fun v hv0=>⟨LV.ok_same Same.upd (Nat.le_succ _) hlv Hp.le.rfl,?_,fun g hg=>by cases hg⟩) (fun v hv0=>rfl)
  rw[hv0]
  exact LV.v_same Same.upd hlv
 ·cases h
end
def Xv (h:Hdr) (i:Int) (s:Sg):Option Sg:=(rowOf h s.chs).bind fun r=>bL (Nat.beq r.t.size 1) ((aG r.xs i).bind fun a =>
 some ⟨s.env,(⟨s.nxt,[]⟩,s.nxt,.own r.t a)::(h,s.nxt,.hole r.ver (.sl r.E r.t) r.xs r.t a (fun y=>r.xs.set i.toNat y) i r.t.size 0 (.own ⟨s.nxt,[]⟩))::r.rest,s.nxt+1⟩)
def Zv {Y:Type} (h:Hdr) (i:Int) (s:Sg) (k:Sg->Option Y):Option Y:=(rowOf h s.chs).bind fun r=>bL (Nat.beq r.t.size 1) ((aG r.xs i).bind fun a =>
 k ⟨s.env,(⟨s.nxt,[]⟩,s.nxt,.own r.t a)::(h,s.nxt,.hole r.ver (.sl r.E r.t) r.xs r.t a (fun y=>r.xs.set i.toNat y) i r.t.size 0 (.own ⟨s.nxt,[]⟩))::r.rest,s.nxt+1⟩)
theorem Mz {Y:Type} {h:Hdr} {i:Int} {s:Sg} {k:Sg->Option Y} {y:Y} (e:Zv h i s k=some y): ∃s',Xv h i s=some s'/\k s'=some y:=by
 obtain ⟨r,hr,e⟩:=bind_some e
 obtain ⟨hc,e⟩:=aj e
 obtain ⟨a,ha,e⟩:=bind_some e
 refine ⟨_,?_,e⟩
 unfold Xv
 rw[hr]
 show bL (Nat.beq r.t.size 1) _=_
 rw[hc]
 show (aG r.xs i).bind _=_
 rw[ha];rfl
section
variable {P:Program} {I J:Hp} {w0 w:World} {F:Ch} {n:Nat} {θ:Th} {s s':Sg} {a:Act}
theorem SV {h:Hdr} {i:Int} (hs:Xv h i s=some s') (hS:Sim P I w0 F n J θ s a w): ∃θ',Sim P I w0 F n J θ' s' a w/\Fr s θ s' θ':=by
 obtain ⟨r,hr,hs⟩:=bind_some hs
 obtain ⟨hc,hs⟩:=aj hs
 obtain ⟨x,hx,hs⟩:=bind_some hs
 obtain rfl:=ad hs
 have hsz:r.t.rep.size=1:=r.t.rep_size.trans (al hc)
 obtain ⟨hp,hno⟩:=bN hr
 have hok:=jl hS.fine hp
 have h1:St J w0 w (Ch.own (af r.E r.t.rep) [hv θ h] r.xs::(r.rest.map (toCh P θ)++ [F])):=hS.st.perm ((hp.map (toCh P θ)).append_right [F])
 obtain ⟨c,hc1,hst⟩:=St.lend hx hsz h1
 have hmem: ∀e,e∈r.rest->e∈s.chs:=fun e he=>hp.mem_iff.2 (be _ he)
 have hsame:Same s.nxt θ (upd θ s.nxt c):=Same.upd
 have hnv:hv (upd θ s.nxt c) ⟨s.nxt,[]⟩=c:=dB
 have hov:hv (upd θ s.nxt c) h=hv θ h:=aX hsame hok.1
 have hnew:Newer s.nxt s.chs ((⟨s.nxt,[]⟩,s.nxt,.own r.t x)::(h,s.nxt,.hole r.ver (.sl r.E r.t) r.xs r.t x (fun y=>r.xs.set i.toNat y) i r.t.size 0 (.own ⟨s.nxt,[]⟩))::r.rest):=fun e he h' ver' c' hs'=>by
  rcases ax he with rfl | he
  ·rcases hs'.2 with ⟨h1,-⟩ | h1
   ·exact .inl (Nat.le_of_eq h1)
   ·exact h1.elim
  ·rcases ax he with rfl | he
   ·obtain ⟨rfl,hs'⟩:=hs'
    rcases hs' with ⟨h1,-⟩ | ⟨rfl,rfl⟩
    ·exact .inl (Nat.le_of_eq h1)
    ·exact .inr ⟨r.ent _,hp.mem_iff.2 (by simp),rfl,.inl ⟨rfl,rfl⟩⟩
   ·exact .inr ⟨e,hmem e he,hs'⟩
 have hset:r.xs.set i.toNat x=r.xs:=by
  obtain ⟨hlt,e⟩:=List.getElem?_eq_some_iff.1 (pg hx)
  rw[<-e];exact List.set_getElem_self hlt
 have hown:(LV.own ⟨s.nxt,[]⟩).ok P w0 J (upd θ s.nxt c) (s.nxt+1):=⟨aw _,by rw[hnv];exact hc1⟩
 refine ⟨upd θ s.nxt c,⟨hS.le,?_,?_,fun e he=>AV.ok_same hsame (Nat.le_succ _) hnew (hS.fine.env e he) Hp.le.rfl,fun e he=>aT (hS.fine.ver e he),hS.fine.nd,fun e he=>?_,hS.fine.lay⟩,Nat.le_succ _,hsame,fun e he _=>he,hnew⟩
 ·show Agr n a (envL (upd θ s.nxt c) s)
  rw[vO hsame hS.fine.env];exact hS.agr
 ·rw[List.map_cons,List.map_cons,fW hsame fun e he=>hS.fine.chs e (hmem e he)]
  have e1:toCh P (upd θ s.nxt c) (⟨s.nxt,[]⟩,s.nxt,.own r.t x)=Ch.own r.t.rep [c] x:=by
   show Ch.own r.t.rep [hv (upd θ s.nxt c) ⟨s.nxt,[]⟩] x=_
   rw[hnv]
  have e2:toCh P (upd θ s.nxt c) (h,s.nxt,.hole r.ver (.sl r.E r.t) r.xs r.t x (fun y=>r.xs.set i.toNat y) i r.t.size 0 (.own ⟨s.nxt,[]⟩))=Ch.gap (af r.E r.t.rep) [hv θ h] r.t.rep (fun y=>r.xs.set i.toNat y) (ptB (hv θ h)) (ptO (hv θ h)+(i.toNat*r.t.rep.size+0)) c:=by
   show Ch.gap (af r.E r.t.rep) [hv (upd θ s.nxt c) h] r.t.rep _ (ptB (hv (upd θ s.nxt c) h)) (ptO (hv (upd θ s.nxt c) h)+(i.toNat*r.t.size+0)) (hv (upd θ s.nxt c) ⟨s.nxt,[]⟩)=_
   rw[hnv,hov,<-r.t.rep_size]
  rw[e1,e2]
  exact hst
 ·rcases ax he with rfl | he
  ·exact ⟨aw _,aw _,trivial⟩
  ·rcases ax he with rfl | he
   ·refine ⟨aT hok.1,aw _,hown,hok.2.1,hset,fun l hl=>?_⟩
    cases LV.own.inj hl
    refine ⟨aw _,fun e he c' hs'=>?_⟩
    rcases ax he with rfl | he
    ·rcases hs'.2 with ⟨-,h1⟩ | h1
     ·exact h1
     ·exact h1.elim
    ·rcases ax he with rfl | he
     ·have:=hok.1
      rw[show h=(⟨s.nxt,[]⟩:Hdr) from hs'.1] at this
      exact absurd this (Nat.lt_irrefl _)
     ·have:=(hS.fine.chs e (hmem e he)).1
      rw[hs'.1] at this
      exact absurd this (Nat.lt_irrefl _)
   ·exact eL hsame (Nat.le_succ _) hnew (hS.fine.chs e (hmem e he)) Hp.le.rfl
end
theorem St.loose {α:Type} {E:TypeId} {R:Rep α} {I:Hp} {w0 w:World} {v:List Value} {xs:List α} {C:List Ch} (h:St I w0 w (Ch.own (af E (tm (tm (tm R)))) v xs::C)):St I w0 w (Ch.own (af E (D9 R)) v xs::C):=by
 obtain ⟨hb,hi,F,⟨G,K,rfl,⟨hl,e2⟩,e3⟩,h4,h5⟩:=h
 rcases e2 with ⟨rfl,rfl,rfl⟩ | ⟨g,ofs,cap,cur,K1,hv,k1,k2,k3,k4,k6,k5⟩
 ·exact ⟨hb,hi,_,⟨_,K,rfl,⟨hl,.inl ⟨rfl,rfl,rfl⟩⟩,e3⟩,h4,h5⟩
 ·exact ⟨hb,hi,_,⟨_,K,rfl,⟨hl,.inr ⟨g,ofs,cap,cur,K1,hv,k1,k2,k3,k4,k6,OwnEls.turn (R:=tm (tm (tm R))) (S:=D9 R) rfl (fun c x G hx=>by rw[hx.1];exact Kp hx.2) k5⟩⟩,e3⟩,h4,h5⟩
def abu:Ty->Bool
 | .fro (.fro (.fro _))=>true
 | _=>false
section
variable {Y:Type} (tt:TT) (s:Sg) (k:Res->Option Y)
def Pq (T:TypeId) (x y:Operand):Option Y:=(td tt T).bind fun d=>match opd s x,opd s y with
 | some (.elo h ver E (.fro (.fro (.fro t))) xs a i off),some (.one (.own l))=>(rowOf h s.chs).bind fun r=>bL (Nat.beq r.ver ver&&Nat.beq d.n 1&&Nat.beq off 0&&Nat.beq t.size 1 && !d.agg) ((cQ (.bag t) [.own l] r.rest).bind fun q=>bL q.cells.isEmpty (k ⟨[],r.ent h::q.used,q.rest,[(h,.own (.sl E (.bag t)) (List.set (α:=t.den) xs i.toNat q.d))],.any ⟨s.nxt,[]⟩⟩))
 | _,_=>none
end
section
variable {Y:Type} {tt:TT} {s:Sg} {k:Res->Option Y} {P:Program} {w0:World} {o:Oper} {res:Y} {x y:Operand}
theorem MA (hT:TTok P tt) {T:TypeId} (ho:o.op= .store T x y) (h:Pq tt s k T x y=some res):Oks P w0 s o k res:=by
 obtain ⟨d,hd,h⟩:=bind_some h
 split at h
 ·rename_i hh ver E t xs a i off l hx hy
  obtain ⟨r,hr,h⟩:=bind_some h
  obtain ⟨hg,h⟩:=aj h
  rw[ai,ai,ai,ai] at hg
  obtain ⟨⟨⟨⟨hg1,hg2⟩,hg3⟩,hg4⟩,hg5⟩:=hg
  have hver:=al hg1
  have hg2:=al hg2
  have hg3:=al hg3
  have hg4:=al hg4
  have hg5:d.agg=false:=by simpa using hg5
  obtain ⟨q,hq,h⟩:=bind_some h
  obtain ⟨hbe,h⟩:=aj h
  obtain ⟨hp,-⟩:=bN hr
  have hti:=(hT.get hd).ti
  rw[hg5,hg2] at hti
  refine ⟨_,h,(hp.trans ((eM hq).cons _)),aR rfl,fun J θ hf=>?_⟩
  have ho':=bA hf hx
  have he:=xk hr hver ho'
  have hok:=jl hf hp
  have hlv:(LV.own l).ok P w0 J θ s.nxt:=bA hf hy
  have c1: ∀x ∈ [LV.own l],x.ok P w0 J θ s.nxt:=fun x hx=>by
   cases au hx
   exact hlv
  obtain ⟨-,cc,e1,e2⟩:=gX (J:=J) (θ:=θ) hq c1
  rw[List.isEmpty_iff.1 hbe,List.append_nil] at e1
  subst e1
  have hsz:(D9 t.rep).size=1:=t.rep_size.trans hg4
  have:=vL (P:=P) (I:=J) (w0:=w0) (o:=o) (T:=T) (E:=E) (R:=D9 t.rep) (S:=D9 t.rep) (v:=hv θ hh) (u:=hv θ l) (k:=t.size) (off:=off) e2 ho'.2.1 (by rw[hg3];exact UpdO.self) hti ho (aB (θ:=θ) hx) (aB (θ:=θ) hy) (Ao (LV.one hlv)) (Ef c1) rfl hsz t.rep_size (by omega)
  have key:OpT P J w0 o (evL (envL θ s)) (Ch.own (af E (tm (tm (tm t.rep)))) [hv θ hh] xs::q.used.map (toCh P θ)) (fun _=>True) (fun _=>[Ch.own (af E (D9 t.rep)) [hv θ hh] (List.set (α:=t.den) xs i.toNat q.d)]):=fun w C hs=>this w C (St.loose hs)
  rw[he]
  refine OpT.weak key (fun u hu=>⟨aw _,dB,fun g hg=>?_⟩) (fun u hu=>?_)
  ·cases au hg
   exact ⟨aT hok.1,aw _,trivial⟩
  ·show [Ch.own _ [hv θ hh] _] = [Ch.own _ [hv (upd θ s.nxt u) hh] _]
   rw[show hv (upd θ s.nxt u) hh=hv θ hh from aX Same.upd hok.1];rfl
 ·cases h
end
end R
namespace R
open Go.RowKit
open D
structure Mp where
 ver:Nat
 md:MD
 m:List (md.k.den×md.e.den)
 rest:List Ent
def MD.ck (d:MD) (m:List (d.k.den×d.e.den)):Chk:=.map d.K d.E d.k d.e m
def aaM (h:Hdr) (chs:List Ent):Option Mp:=(pull h chs).bind fun r=>match r.1.2.2 with
 | .map K E k e m=>some ⟨r.1.2.1,⟨K,E,k,e⟩,m,r.2⟩
 | _=>none
def Mp.ent (r:Mp) (h:Hdr):Ent:=(h,r.ver,r.md.ck r.m)
theorem IY {h:Hdr} {chs:List Ent} {r:Mp} (e:aaM h chs=some r):chs.Perm (r.ent h::r.rest):=by
 obtain ⟨q,hq,e⟩:=bind_some e
 obtain ⟨p,k⟩:=fa hq
 obtain ⟨⟨h',ver,c⟩,rest⟩:=q
 obtain rfl:h'=h:=k
 cases c with
 | map K E k e' m =>
  obtain rfl:=ad (show some _=some r from e)
  exact p
 | _=>cases e
def MK.beq:MK->MK->Bool
 | .int,.int=>true
 | .ii,.ii=>true
 | _,_=>false
def ME.beq:ME->ME->Bool
 | .int,.int=>true
 | .bool,.bool=>true
 | _,_=>false
def MD.beq (a b:MD):Bool:=Nat.beq a.K b.K&&Nat.beq a.E b.E&&MK.beq a.k b.k&&ME.beq a.e b.e
theorem MD.beq_eq {a b:MD} (h:MD.beq a b=true):a=b:=by
 obtain ⟨K,E,k,e⟩:=a
 obtain ⟨K',E',k',e'⟩:=b
 unfold MD.beq at h
 simp only[ai] at h
 obtain ⟨⟨⟨h1,h2⟩,h3⟩,h4⟩:=h
 obtain rfl:K=K':=al h1
 obtain rfl:E=E':=al h2
 obtain rfl:k=k':=by cases k <;> cases k' <;> first | rfl | cases h3
 obtain rfl:e=e':=by cases e <;> cases e' <;> first | rfl | cases h4
 rfl
def SW:(k:MK)->AV->Option k.den
 | .int,.one (.val (.int .i64 n))=>some n
 | .ii,.agg [.val (.int .i64 a),.val (.int .i64 b)] =>some (a,b)
 | _,_=>none
theorem EF {k:MK} {v:AV} {d:k.den} (h:SW k v=some d) (θ:Th):v.v θ=k.val d:=by
 unfold SW at h
 split at h
 ·rw[<-ad h];rfl
 ·rw[<-ad h];rfl
 ·cases h
def Xw:(e:ME)->AV->Option e.den
 | .int,.one (.val (.int .i64 n))=>some n
 | .bool,.one (.val (.bool b))=>some b
 | .bool,.one (.nb b)=>some (!b)
 | _,_=>none
theorem SX {e:ME} {v:AV} {d:e.den} (h:Xw e v=some d) (θ:Th):v.v θ=e.val d:=by
 unfold Xw at h
 split at h
 ·rw[<-ad h];rfl
 ·rw[<-ad h];rfl
 ·rw[<-ad h];rfl
 ·cases h
theorem ME.val_one (e:ME) (d:e.den):(e.val d).oneCell'=true:=by cases e <;> rfl
section
variable {Y:Type} (tt:TT) (s:Sg) (k:Res->Option Y)
def acA (T:TypeId):Option Y:=(td tt T).bind fun d=>d.mp.bind fun md=>k ⟨[],[],s.chs,[(⟨s.nxt,[]⟩,md.ck [])],.one (.own ⟨s.nxt,[]⟩)⟩
def Xx (T:TypeId) (m x y:Operand):Option Y:=(td tt T).bind fun d=>d.mp.bind fun md=>match opd s m with
 | some (.one (.own h))=>(aaM h s.chs).bind fun r=>bL (MD.beq md r.md) ((opd s x).bind fun kv=>(SW r.md.k kv).bind fun q=>(opd s y).bind fun ev=>(Xw r.md.e ev).bind fun i =>
  (@RB r.md.k.den r.md.e.den r.m r.md.k.ok r.md.e.ok q i).bind fun M=>k ⟨[],[r.ent h],r.rest,[(h,r.md.ck M)],.any ⟨s.nxt,[]⟩⟩)
 | _=>none
def Vn (T:TypeId) (m x:Operand) (two:Bool):Option Y:=(td tt T).bind fun d=>d.mp.bind fun md=>match opd s m with
 | some (.one (.own h))=>(aaM h s.chs).bind fun r=>bL (MD.beq md r.md) ((opd s x).bind fun kv=>(SW r.md.k kv).bind fun q =>
  aaF false (r.md.k.ok q=true) (instDecidableEqBool _ _) (match two with
   | true=>k ⟨[r.ent h],[],r.rest,[],.tup [(false,[.val (r.md.e.val ((@lkM r.md.k.den r.md.e.den r.md.k.dec r.m q).getD r.md.e.z))]),(false,[.val (.bool (@lkM r.md.k.den r.md.e.den r.md.k.dec r.m q).isSome)])]⟩
   | false=>k ⟨[r.ent h],[],r.rest,[],.one (.val (r.md.e.val ((@lkM r.md.k.den r.md.e.den r.md.k.dec r.m q).getD r.md.e.z)))⟩))
 | _=>none
end
section
variable {Y:Type} {tt:TT} {s:Sg} {k:Res->Option Y} {P:Program} {w0:World} {o:Oper} {res:Y} {m x y:Operand}
theorem Ps {θ:Th} {h:Hdr} {ver:Nat} {md:MD} {M:List (md.k.den×md.e.den)} :toCh P θ (h,ver,md.ck M)= @Ch.mp P md.K md.E md.k.den md.e.den md.k.dec md.k.lit md.k.ok md.e.lit md.e.z (hv θ h) M:=rfl
theorem Zw {I:Hp} {w:World} {C:List Ch} {K E:TypeId} {κ ε:Type} [DecidableEq κ] {lit:κ->Lit} {ok:κ->Bool} {elit:ε->Lit} {z:ε} {v:Value} {M:List (κ×ε)} (h:St I w0 w (Ch.mp P K E lit ok elit z v M::C)):v.oneCell'=true:=by
 obtain ⟨h1,h2,F,⟨G,G',rfl,⟨b,rfl,rfl,h3⟩,e⟩,h4,h5⟩:=h
 rfl
theorem Xy (hT:TTok P tt) {T:TypeId} (ho:o.op= .makeMap T none) (h:acA tt s k T=some res):Oks P w0 s o k res:=by
 obtain ⟨d,hd,h⟩:=bind_some h
 obtain ⟨md,hm,h⟩:=bind_some h
 refine ⟨_,h,by simp,aR rfl,fun J θ hf=>?_⟩
 have h1:= @Iv P J w0 o (evL (envL θ s)) md.k.den md.e.den md.k.dec md.k.lit md.k.ok md.e.lit md.e.z T md.K md.E ho
 intro w C hs
 refine (h1 w C hs).imp fun v w' hv=>?_
 have hone:=letI:=md.k.dec;Zw hv.2
 refine ⟨⟨⟨aw _,by rw[dB];exact hone⟩,dB,fun g hg=>?_⟩,?_⟩
 ·obtain rfl:=au hg
  exact ⟨aw _,aw _,trivial⟩
 ·show St J w0 w' ([toCh P (upd θ s.nxt v) (⟨s.nxt,[]⟩,s.nxt,md.ck [])] ++C)
  rw[Ps,dB];exact hv.2
theorem KQ (hT:TTok P tt) {T:TypeId} (ho:o.op= .mapUpdate T m x y\/o.op= .insert T m x y) (h:Xx tt s k T m x y=some res):Oks P w0 s o k res:=by
 obtain ⟨d,hd,h⟩:=bind_some h
 obtain ⟨md,hm,h⟩:=bind_some h
 split at h
 ·rename_i hh hx
  obtain ⟨r,hr,h⟩:=bind_some h
  obtain ⟨he,h⟩:=aj h
  obtain ⟨kv,hk,h⟩:=bind_some h
  obtain ⟨q,hq,h⟩:=bind_some h
  obtain ⟨ev,hev,h⟩:=bind_some h
  obtain ⟨i,hi,h⟩:=bind_some h
  obtain ⟨M,hM,h⟩:=bind_some h
  have hp:=IY hr
  obtain ⟨m1,m2,m3⟩:=(hT.get hd).mp _ hm
  rw[MD.beq_eq he] at m1 m2 m3
  refine ⟨_,h,El hp,aR rfl,fun J θ hf=>?_⟩
  have hok:=jl hf hp
  have h1:= @LY P J w0 o (evL (envL θ s)) r.md.k.den r.md.e.den r.md.k.dec r.md.k.lit r.md.k.val r.md.k.ok r.md.e.val r.md.e.lit r.md.e.ok r.md.e.z T r.md.K r.md.E m x y (hv θ hh) q i r.m M m2 m3 m1 ho (aB hx) ((aB hk).trans (EF hq θ)) ((aB hev).trans (SX hi θ)) hM
  refine OpT.weak h1 (fun u hu=>⟨aw _,dB,fun g hg=>?_⟩) (fun u hu=>?_)
  ·obtain rfl:=au hg
   exact ⟨aT hok.1,aw _,trivial⟩
  ·show [_] = [toCh P (upd θ s.nxt u) (hh,s.nxt,r.md.ck M)]
   rw[Ps,show hv (upd θ s.nxt u) hh=hv θ hh from aX Same.upd hok.1]
 ·cases h
theorem Pt (hT:TTok P tt) {T:TypeId} {two:Bool} (ho:o.op= .lookup T m x two) (h:Vn tt s k T m x two=some res):Oks P w0 s o k res:=by
 obtain ⟨d,hd,h⟩:=bind_some h
 obtain ⟨md,hm,h⟩:=bind_some h
 split at h
 ·rename_i hh hx
  obtain ⟨r,hr,h⟩:=bind_some h
  obtain ⟨he,h⟩:=aj h
  obtain ⟨kv,hk,h⟩:=bind_some h
  obtain ⟨q,hq,h⟩:=bind_some h
  obtain ⟨hok,h⟩:=Iz h
  have hp:=IY hr
  obtain ⟨m1,m2,m3⟩:=(hT.get hd).mp _ hm
  rw[MD.beq_eq he] at m1 m2 m3
  cases two with
  | true =>
   refine ⟨_,h,pq hp,fun _ _ _ g hg=>(by cases hg),fun J θ hf=>?_⟩
   have h1:= @Iw P J w0 o (evL (envL θ s)) r.md.k.den r.md.e.den r.md.k.dec r.md.k.lit r.md.k.val r.md.k.ok r.md.e.val r.md.e.lit r.md.e.ok r.md.e.z T r.md.K r.md.E m x (hv θ hh) q r.m m2 m3 hok m1 ho (aB hx) ((aB hk).trans (EF hq θ))
   refine OpT.weak h1 (fun u hu=>⟨fun y hy z hz=>?_,?_,fun g hg=>by cases hg⟩) (fun u hu=>rfl)
   ·rcases ax hy with rfl | hy
    ·obtain rfl:=au hz;exact ME.val_one _ _
    ·obtain rfl:=au hy
     obtain rfl:=au hz;exact Eq.refl true
   ·rw[hu];rfl
  | false =>
   refine ⟨_,h,pq hp,fun _ _ _ g hg=>(by cases hg),fun J θ hf=>?_⟩
   have h1:= @Gg P J w0 o (evL (envL θ s)) r.md.k.den r.md.e.den r.md.k.dec r.md.k.lit r.md.k.val r.md.k.ok r.md.e.val r.md.e.lit r.md.e.ok r.md.e.z T r.md.K r.md.E m x (hv θ hh) q r.m m2 m3 hok m1 ho (aB hx) ((aB hk).trans (EF hq θ))
   refine OpT.weak h1 (fun u hu=>⟨ME.val_one _ _,?_,fun g hg=>by cases hg⟩) (fun u hu=>rfl)
   rw[hu];rfl
 ·cases h
end
end R
namespace R
open Go.RowKit
open D
structure Env where
 tt:TT
 ft:FT
 an:List (Nat×Ty)
 n:Nat
 tr:Trs
section
variable {Y:Type} (V:Env) (s:Sg) (k:Res->Option Y)
def AM (d:Nat):List (Nat×Ty)->Bool
 | [] =>false
 | (u,_)::l=>Nat.beq u d || AM d l
def abv (d:Nat):List (Nat×Ty)->Bool
 | [] =>false
 | (u,.raw)::l=>Nat.beq u d || abv d l
 | _::l=>abv d l
def abw (d:Option Nat) (an:List (Nat×Ty)):Bool:=match d with
 | some d=>abv d an
 | none=>false
def acB (d:Nat):List (Nat×Ty)->Bool
 | [] =>false
 | (u,.str)::l=>Nat.beq u d || acB d l
 | _::l=>acB d l
def Zx (d:Option Nat) (an:List (Nat×Ty)):Bool:=match d with
 | some d=>AM d an
 | none=>false
def Xz (dst:Option Nat) (c:Call):Option Y:=match c.callee,c.args.toList,c.argTypes.toList with
 | .builtin .len,[x],[T] =>match opd s x with
  | some (.one (.own _))=>Zf V.tt s k T x
  | some (.vw _ _ _ _ _ _)=>Xl V.tt s k T x
  | some (.xv _ _ _ _ _ _ _)=>Xl V.tt s k T x
  | _=>sLen V.tt s k T x
 | .builtin .append,[x,y],[T,U] =>match Nat.beq T U with
  | true=>(match opd s x with
   | some (.vw _ _ _ _ _ _)=>Zr V.tt s k T x y
   | _=>(match opd s y with
    | some (.sub _ _ _ _ _ _)=>Xp V.tt s k T x y
    | some (.pre _ _ _ _ _ _)=>Xp V.tt s k T x y
    | _=>acv V.tt V.an s k dst T x y))
  | false=>none
 | .builtin .clear,[x],[T] =>Pd V.tt s k T x
 | .builtin .copy,[x,y],[T,_] =>Zo V.tt s k T x y
 | .builtin .min,[x,y],[_,_] =>abn s k x y
 | .builtin .max,[x,y],[_,_] =>abo s k x y
 | .value (.func g),xs,_=>match (fs V.ft g).bind (·.cl) with
  | some q=>match Nat.beq q.2 7,xs with
   | true,xs=>Vd V.ft s k g xs
   | false,[x] =>(match Nat.beq q.2 9 with
    | true=>acz V.ft s k q.1 g x
    | false=>bL (!Nat.beq q.2 0 && !Nat.ble 1000 q.2) (OU s k q.1 q.2 x))
   | _,_=>none
  | none=>Vc V.ft s k g xs
 | .value (.tmp t),xs,_=>OA V.ft s k t xs
 | _,_,_=>none
def step (o:Oper):Option Y:=match o.op with
  | .move x=>WU s k x
  | .assign x=>WU s k x
  | .pick c x y=>Zd s k c x y
  | .unOp .not _ x=>abg s k x
  | .unOp .neg _ x=>abh s k x
  | .binOp b t x y _=>match opd s x with
    | some (.one (.rd _ (.tree _ _ _) _))=>abp V.tt s k b t x y
    | some (.one (.ptr _ _))=>abp V.tt s k b t x y
    | some (.one (.rdn _ _ _ _))=>aaJ V.tt s k b t x y
    | some (.one (.own _))=>aaJ V.tt s k b t x y
    | some (.one (.val (.slice _ _ _)))=>aaJ V.tt s k b t x y
    | some (.one (.val (.string _)))=>Xs V.tt s k b t x y
    | _=>aaG V.tt s k b t x y
  | .index T x i=>Zu V.tt s k T x i
  | .extract x i=>Ee s k x i
  | .indexAddr T x i=>match opd s x with
    | some (.one (.own h))=>(match Em h s.chs with
      | some _=>Pf V.tt s k T x i
      | none=>N8 V.tt s k T x i)
    | some (.vw _ _ _ _ _ _)=>IW V.tt s k T x i
    | some (.xv _ _ _ _ _ _ _)=>IW V.tt s k T x i
    | _=>N2 V.tt s k T x i
  | .fieldAddr T x f=>match opd s x with
    | some (.one (.fz _ _ _ _ _))=>OJ V.tt s k T x f
    | some (.one (.rd _ (.tree _ _ _) _))=>OO V.tt s k T x f
    | _=>U1 V.tt s k T x f
  | .load T x=>match opd s x with
    | some (.elr _ _ _ _ _ _ _)=>U2 V.tt s k T x
    | some (.elo h _ _ _ _ _ _ _)=>(match Em h s.chs with
      | some _=>Vm V.tt s k T x
      | none=>U6 V.tt s k T x)
    | some (.one (.fz _ _ _ _ _))=>OI V.tt s k T x
    | some (.one (.fzf _ _ _ _ _))=>OI V.tt s k T x
    | _=>U5 V.tt s k T x
  | .store T x y=>match opd s x with
    | some (.elo h _ _ t _ _ _ _)=>match Em h s.chs with
      | some _=>Og V.tt s k T x y
      | none=>(match abu t,opd s y with
        | true,some (.one (.own _))=>Pq V.tt s k T x y
        | _,_=>N9 V.tt s k T x y)
    | _=>N7 V.tt s k T x y
  | .nilCheck x=>Xd s k x
  | .slice T x lo hi none=>match opd s x with
    | some (.vw _ _ _ _ _ _)=>ED V.tt s k T x lo hi
    | some (.xv _ _ _ _ _ _ _)=>ED V.tt s k T x lo hi
    | some (.one (.own _))=>match abw o.dst V.an with
     | true=>ED V.tt s k T x lo hi
     | false=>match lo with
      | some _=>match Zx o.dst V.an with
        | true=>OR V.tt s k T x lo hi
        | false=>OS V.tt s k T x lo hi
      | none=>match Zx o.dst V.an with
        | true=>OT V.tt s k T x lo hi
        | false=>OQ V.tt s k T x lo hi
    | some (.one (.val (.string _)))=>Pi V.tt s k T x lo hi
    | _=>OP V.tt s k T x lo hi
  | .box T x=>acq s k T x
  | .alloc T=>U4 V.tt s k T
  | .build T parts=>U8 V.tt s k T parts
  | .buildSlice T m parts=>acu V.tt V.an s k o.dst T m parts
  | .makeSlice T x y=>Zg V.tt V.an s k o.dst T x y
  | .call c=>Xz V s k o.dst c
  | .makeFunc f x y=>Ve s k f x y
  | .makeMap T none=>acA V.tt s k T
  | .convert S D x=>match opd s x with
    | some (.one (.val (.int _ _)))=>Ze V.tt s k S D x
    | _=>Vk V.tt s k S D x
  | .mapUpdate T m x y=>Xx V.tt s k T m x y
  | .insert T m x y=>Xx V.tt s k T m x y
  | .lookup T m x two=>Vn V.tt s k T m x two
  | _=>none
end
section
variable {Y:Type} {V:Env} {s:Sg} {k:Res->Option Y} {P:Program} {w0:World} {o:Oper} {res:Y}
theorem abx {α:Type} {a:Array α} {x:α} (h:a.toList= [x]):a= #[x]:=Array.ext' h
theorem aaN {α:Type} {a:Array α} {x y:α} (h:a.toList= [x,y]):a= #[x,y]:=Array.ext' h
theorem SY (hT:TTok P V.tt) (hF:FTok P V.ft) {c:Call} (ho:o.op= .call c) (h:Xz V s k o.dst c=some res):Oks P w0 s o k res:=by
 have ⟨cal,args,tys⟩:=c
 unfold Xz at h
 split at h
 ·grind[builtin,abx,R4,SD,WX]
 ·grind[builtin,aaN,al,SE,SM,W2]
 ·grind[builtin,abx,Mu]
 ·grind[builtin,aaN,Su]
 ·grind[builtin,min,aaN,Xe]
 ·grind[builtin,max,aaN,Xf]
 ·rename_i g h1
  obtain rfl:cal= .value (.func g):=h1
  split at h
  ·rename_i q hq
   have ⟨f,hf,hq⟩:=bind_some hq
   split at h
   ·rename_i hb
    exact OG hF (fun f' hf'=>by
     obtain rfl:f=f':=ad (hf.symm.trans hf')
     exact ((hF.get hf).cl q hq).2.1 hb) ho h
   ·rename_i x h7 hx
    obtain rfl:args= #[x]:=abx hx
    split at h
    ·rename_i h9
     exact Xu hF (fun f' hf'=>by
      obtain rfl:f=f':=ad (hf.symm.trans hf')
      exact ((hF.get hf).cl q hq).2.2 h9) ho h
    ·rename_i h9
     have ⟨hb,h8⟩:=aj h
     rw[ai] at hb
     exact OZ (((hF.get hf).cl q hq).1.2.1 (by grind) h7 (by grind) h9) ho h8
   grind
  grind[OF]
 ·grind[OH]
 grind
theorem Pu (hT:TTok P V.tt) (hF:FTok P V.ft) (h:step V s k o=some res):Oks P w0 s o k res:=by
 unfold step at h
 split at h
 ·exact Kt (.inl ‹_›) h
 ·exact Kt (.inr ‹_›) h
 ·exact R1 ‹_› h
 ·exact WV ‹_› h
 ·exact WW ‹_› h
 ·have ho:= ‹o.op=_›
  split at h
  ·exact OV hT ho h
  ·exact OV hT ho h
  ·exact IM hT ho h
  ·exact IM hT ho h
  ·exact IM hT ho h
  ·exact SN hT ho h
  ·exact N3 hT ho h
 ·exact SO hT ‹_› h
 ·exact IA ‹_› h
 ·have ho:= ‹o.op=_›
  split at h
  ·split at h
   ·exact Mv hT ho h
   ·exact L9 hT ho h
  ·exact Dg hT ho h
  ·exact Dg hT ho h
  ·exact L6 hT ho h
 ·have ho:= ‹o.op=_›
  split at h
  ·exact Mh hT ho h
  ·exact Mi hT ho h
  ·exact N4 hT ho h
 ·have ho:= ‹o.op=_›
  split at h
  ·exact N5 hT ho h
  ·split at h
   ·exact Pp hT ho h
   ·exact Od hT ho h
  ·exact GH hT ho h
  ·exact GH hT ho h
  ·exact Oc hT ho h
 ·have ho:= ‹o.op=_›
  split at h
  ·split at h
   ·exact Md hT ho h
   ·split at h
    ·exact MA hT ho h
    ·exact Ma hT ho h
  ·exact L8 hT ho h
 ·exact Sq ‹_› h
 ·have ho:= ‹o.op=_›
  split at h
  ·exact xq hT ho h
  ·exact xq hT ho h
  ·split at h
   ·exact xq hT ho h
   ·split at h
    ·split at h
     ·exact Ml hT ho h
     ·exact Mm hT ho h
    ·split at h
     ·exact Mn hT ho h
     ·exact Mk hT ho h
  ·exact Mw hT ho h
  ·exact Mj hT ho h
 ·exact WY ‹_› h
 ·exact Oa hT ‹_› h
 ·exact Oe hT ‹_› h
 ·exact W1 hT ‹_› h
 ·exact R6 hT ‹_› h
 ·exact SY hT hF ‹_› h
 ·exact OK ‹_› h
 ·exact Xy hT ‹_› h
 ·have ho:= ‹o.op=_›
  split at h
  ·exact R2 hT ho h
  ·exact Pm hT ho h
 ·exact KQ hT (.inl ‹_›) h
 ·exact KQ hT (.inr ‹_›) h
 ·exact Pt hT ‹_› h
 ·cases h
end
inductive Gd
 | no | skip | bad
 | yes (t:Nat) (b neg want:Bool)
def guardOf (ops:List Oper) (s:Sg) (o:Oper):Gd:=match o.guard with
 | none=>.no
 | some (g,want)=>match ops[g]? with
  | some p=>match p.dst with
   | some t=>match look s.env t with
    | some (.one (.val (.bool b)))=>.yes t b false want
    | some (.one (.nb b))=>.yes t b true want
    | some .und=>.skip
    | _=>.bad
   | none=>.bad
  | none=>.bad
def IZ (s:Sg) (t:Nat) (b:Bool):Sg:=⟨(t,s.nxt,.one (.val (.bool b)))::s.env,s.chs,s.nxt+1⟩
def AN:AV->List Hdr
 | .one (.own h)=>[h]
 | .agg xs=>xs.flatMap fun x=>match x with | .own h=>[h] | _=>[]
 | .elo h _ _ _ _ _ _ _=>[h]
 | _=>[]
def vY:List Hdr->Sg->Sg
 | [],s=>s
 | h::hs,s=>vY hs (settle 4 h s)
def Dh (s:Sg):List Operand->List Hdr
 | [] =>[]
 | x::xs=>(match opd s x with | some v=>AN v | none=>[])++Dh s xs
def aby (o:Oper):List Operand:=match o.op with
 | .store _ _ y=>[y]
 | .build _ parts=>parts.toList.map (·.2)
 | .buildSlice _ _ parts=>parts.toList.map (·.2)
 | .call c=>c.args.toList
 | .box _ x=>[x]
 | .binOp _ _ x _ _=>[x]
 | .nilCheck x=>[x]
 | _=>[]
def acC (o:Bool):AV->List (Bool×Hdr)
 | .one (.own h)=>[(false,h)]
 | .one (.ptr h off)=>if o&&Nat.beq off 0 then [(true,h)] else []
 | .agg xs=>xs.flatMap fun x=>match x with | .own h=>[(false,h)] | .ptr h off=>if o&&Nat.beq off 0 then [(true,h)] else [] | _=>[]
 | _=>[]
def aaO (s:Sg) (o:Bool):List Operand->List (Bool×Hdr)
 | [] =>[]
 | x::xs=>(match opd s x with | some v=>acC o v | none=>[])++aaO s o xs
def keeps (o:Oper):Bool:=match o.op with
 | .binOp _ _ _ _ _=>false
 | .nilCheck _=>false
 | _=>true
def Pv:List LV->List (Bool×Hdr)
 | [] =>[]
 | .own h::l=>(false,h)::Pv l
 | _::l=>Pv l
def ldH (s:Sg) (o:Oper):List (Bool×Hdr):=match o.op with
 | .load _ x=>match opd s x with
  | some (.one (.ptr h _))=>match rO h s.chs with
   | some b=>Pv b.cells
   | none=>[]
  | _=>[]
 | _=>[]
def SZ:Trs->Bool
 | [] =>false
 | q::l=>Nat.beq q.2.1 0 || SZ l
def ldF (tr:Trs) (s:Sg) (o:Oper):List (Bool×Hdr):=match SZ tr with
 | true=>ldH s o
 | false=>[]
def Pw:Trs->Trs
 | [] =>[]
 | q::l=>match Nat.beq q.2.1 0 with
  | true=>Pw l
  | false=>q::Pw l
def abz (s:Sg) (o:Oper):Bool:=match o.op with
 | .store _ x _=>match opd s x with
  | some (.one (.ptr _ _))=>true
  | _=>false
 | .call c=>match c.callee with
  | .value _=>false
  | .builtin .len=>false
  | _=>true
 | _=>false
def abA (s:Sg) (q:Bool×Hdr):Bool:=match pull q.2 s.chs with
 | some r=>(match r.1.2.2 with
  | .own (.tree _ _ _) _=>true
  | _=>false)
 | none=>false
def ac7 (b:Bool) (s:Sg) (o:Oper):List (Bool×Hdr):=match b,o.op with
 | true,.assign x=>(aaO s false [x]).filter (abA s)
 | _,_=>[]
def acD (tr:Trs) (s:Sg) (o:Oper):List (Bool×Hdr):=match SZ tr&&abz s o with
 | true=>[]
 | false=>ac7 (SZ tr) s o++aaO s (keeps o) (aby o)
def Px:Trs->Trs
 | [] =>[]
 | q::l=>match q.2.2 with
  | .str=>Px l
  | _=>q::Px l
def Zy:Trs->Bool
 | [] =>false
 | q::l=>(match q.2.2 with
  | .raw=>true
  | _=>false) || Zy l
def ac8 (tr:Trs) (s:Sg) (o:Oper):List (Bool×Hdr):=match Zy tr,o.op with
 | true,.assign x=>aaO s false [x]
 | _,_=>[]
def S4 (tr:Trs) (o:Oper) (s:Sg):Sg:=match tr with
 | [] =>s
 | _=>Sy (Px tr) (ac8 tr s o++acD (Px tr) s o) s
def aaP (tr:Trs) (o:Oper) (s0:Sg):Sg:=match qC s0 with
 | s=>S4 tr o (Mx o (vY (Dh s o.op.operands.toList) s))
section
variable {Y:Type} (V:Env) (all:List Oper) (k:Sg->Option Y)
noncomputable def S5 (kont:Sg->Option Y) (o:Oper) (s:Sg):Option Y:=match guardOf all s o with
 | .bad=>none
 | .no=>bL (okO V.n s o) (step V s (fun r=>kont (after s o.dst r)) o)
 | .skip=>bL (dstOk V.n o.dst) (kont (skip s o.dst))
 | .yes t b neg want=>if b then (match (!neg)==want with
   | true=>bL (okO V.n (IZ s t (!neg)) o) (step V (IZ s t (!neg)) (fun r=>kont (after (IZ s t (!neg)) o.dst r)) o)
   | false=>bL (dstOk V.n o.dst) (kont (skip (IZ s t (!neg)) o.dst)))
  else (match neg==want with
   | true=>bL (okO V.n (IZ s t neg) o) (step V (IZ s t neg) (fun r=>kont (after (IZ s t neg) o.dst r)) o)
   | false=>bL (dstOk V.n o.dst) (kont (skip (IZ s t neg) o.dst)))
noncomputable def KR:List Oper->Sg->Option Y
 | [],s=>k s
 | o::os,s=>S5 V all (KR os) o (aaP V.tr o s)
end
section
variable {Y:Type} {V:Env} {P:Program} {I:Hp} {w0 w:World} {F:Ch} {J:Hp} {θ:Th} {s:Sg} {a:Act} {res:Y} {Q:Exit->Act->World->Prop}
theorem MB {h:Hdr} {s':Sg} (hs:IE h s=some s') (hS:Sim P I w0 F V.n J θ s a w):Fr s θ s' θ:=by
 have ⟨r,hr,hs⟩:=bind_some hs
 have ⟨q,hq,hs⟩:=bind_some hs
 have hp:=vR hr
 have ⟨l,ver,hl,hp2,hu⟩:=Gt hq
 cases hb:q.1 with
 | true =>
  rw[hb] at hs
  cases ad (show some _=some s' from hs)
  refine ⟨Nat.le_succ _,Same.rfl,fun e he _=>he,fun e he h' ver' c hs'=>?_⟩
  rcases ax he with rfl | he
  ·obtain ⟨rfl,hs'⟩:=hs'
   rcases hs' with ⟨rfl,rfl⟩ | hs'
   ·exact .inr ⟨r.ent h,hp.mem_iff.2 (by simp),rfl,.inr ⟨rfl,rfl⟩⟩
   ·exact hs'.elim
  grind
 | false =>
  rw[hb] at hs
  cases ad (show some _=some s' from hs)
  refine ⟨Nat.le_succ _,Same.rfl,fun e he _=>he,fun e he h' ver' c hs'=>?_⟩
  rcases ax he with rfl | he
  ·obtain ⟨rfl,hs'⟩:=hs'
   rcases hs' with ⟨rfl,rfl⟩ | hs'
   ·grind
   ·exact hs'.elim
  grind
theorem GQ: ∀ {m:Nat} {h:Hdr} {s:Sg},Sim P I w0 F V.n J θ s a w->Fr s θ (settle m h s) θ
 | 0,_,_,hS=>Fr.rfl
 | m+1,h,s,hS=>by
  unfold settle
  split
  ·split
   ·split
    ·rename_i hs
     exact (GQ hS).trans (MB hs (Ay hS))
    ·exact Fr.rfl
   ·exact Fr.rfl
  ·exact Fr.rfl
theorem tx: ∀ {hs:List Hdr} {s:Sg},Sim P I w0 F V.n J θ s a w->Sim P I w0 F V.n J θ (vY hs s) a w/\Fr s θ (vY hs s) θ
 | [],s,hS=>⟨hS,Fr.rfl⟩
 | h::hs,s,hS=>by
  have ⟨k1,k2⟩:=tx (hs:=hs) (Ay (m:=4) (h:=h) hS)
  exact ⟨k1,(GQ hS).trans k2⟩
theorem XA {t:Nat} {b:Bool} (hS:Sim P I w0 F V.n J θ s a w) (hv':(envL θ s).lookup t=some (.bool b)):Sim P I w0 F V.n J θ (IZ s t b) a w/\Fr s θ (IZ s t b) θ:=by
 refine ⟨⟨hS.le,hS.agr.sub fun u v h=>?_,hS.st,fun e he=>?_,fun e he=>?_,Gl (d:=some t) (av:=.one (.val (.bool b))) hS.fine.nd hS.fine.ver,fun e he=>eL Same.rfl (Nat.le_succ _) Newer.rfl (hS.fine.chs e he) Hp.le.rfl,hS.fine.lay⟩,Nat.le_succ _,Same.rfl,fun e he h=>?_,Newer.rfl⟩
 ·have h:List.lookup u ((t,Value.bool b)::envL θ s)=some v:=h
  grind
 ·rcases ax he with rfl | he
  ·rfl
  ·exact AV.ok_same Same.rfl (Nat.le_succ _) Newer.rfl (hS.fine.env e he) Hp.le.rfl
 ·rcases ax he with rfl | he
  ·exact aw _
  ·exact aT (hS.fine.ver e he)
 ·rcases ax he with rfl | he
  ·grind
  omega
theorem S6 {ops:Array Oper} {o:Oper} :match guardOf ops.toList s o with
  | .no=>o.guard=none
  | .skip=> ∃g want d,o.guard=some (g,want)/\(ops[g]?).bind (·.dst)=some d/\(envL θ s).lookup d=some undef
  | .yes t b neg want=> ∃g,o.guard=some (g,want)/\(ops[g]?).bind (·.dst)=some t/\(envL θ s).lookup t=some (.bool (if neg then !b else b))
  | .bad=>True:=by
 unfold guardOf
 cases hg:o.guard with
 | none=>rfl
 | some gw =>
  have ⟨g,want⟩:=gw
  simp only
  cases hp:ops.toList[g]? with
  | none=>trivial
  | some p =>
   simp only
   cases hd:p.dst with
   | none=>trivial
   | some t =>
    simp only
    have hd':(ops[g]?).bind (·.dst)=some t:=by
     rw[<-Array.getElem?_toList,hp];exact hd
    cases hl:look s.env t with
    | none=>trivial
    | some v =>
     have hv':=gz (θ:=θ) hl
     cases v with
     | one x =>
      cases x with
      | val u =>
       cases u with
       | bool b=>exact ⟨g,rfl,hd',hv'⟩
       | _=>trivial
      | nb b=>exact ⟨g,rfl,hd',hv'⟩
      | _=>trivial
     | und=>exact ⟨g,want,t,rfl,hd',hv'⟩
     | _=>trivial
theorem KS {o:Oper} {r:Res} (hG:GoodA P w0 J θ s o r) (hS:Sim P I w0 F V.n J θ s a w) {θ':Th} (hs:Same s.nxt θ θ'):Fr s θ (after s o.dst r) θ' :=
 Fr.put hs (Res.newer hG.perm hG.says)
theorem S7 (hT:TTok P V.tt) (hF:FTok P V.ft) {ops:Array Oper} {rest:List Oper} {o:Oper} {kont:Sg->Option Y} (h:S5 V ops.toList kont o s=some res) (hS:Sim P I w0 F V.n J θ s a w)
  (K: ∀s' θ' a' w',kont s'=some res->Sim P I w0 F V.n J θ' s' a' w'->Fr s θ s' θ'->wpList P ops Q rest a' w'):wpList P ops Q (o::rest) a w:=by
 have hg:=S6 (θ:=θ) (s:=s) (ops:=ops) (o:=o)
 have run: ∀s1,Sim P I w0 F V.n J θ s1 a w->Fr s θ s1 θ->(∀g want,o.guard=some (g,want)-> ∃d,(ops[g]?).bind (·.dst)=some d/\(envL θ s1).lookup d=some (.bool want))->bL (okO V.n s1 o) (step V s1 (fun r=>kont (after s1 o.dst r)) o)=some res->wpList P ops Q (o::rest) a w:=by
  intro s1 hS1 hF1 hgd h
  have ⟨hk,h⟩:=aj h
  obtain ⟨r,hr,hG⟩:=Pu hT hF h
  cases hgo:o.guard with
  | none=>exact Zb (hG.at hS1.fine) hS1 hgo hk fun θ' a' w' hs hS'=>K _ θ' a' w' hr hS' (hF1.trans (KS (hG.at hS1.fine) hS1 hs))
  | some gw =>
   have ⟨g,want⟩:=gw
   have ⟨d,hd,hv'⟩:=hgd g want hgo
   exact WQ (hG.at hS1.fine) hS1 hgo hd hv' rfl hk fun θ' a' w' hs hS'=>K _ θ' a' w' hr hS' (hF1.trans (KS (hG.at hS1.fine) hS1 hs))
 have skp: ∀s1,Sim P I w0 F V.n J θ s1 a w->Fr s θ s1 θ-> ∀g want d b,o.guard=some (g,want)->(ops[g]?).bind (·.dst)=some d->(envL θ s1).lookup d=some (.bool b)->b=(!want)->bL (dstOk V.n o.dst) (kont (skip s1 o.dst))=some res->wpList P ops Q (o::rest) a w:=by
  intro s1 hS1 hF1 g want d b hgo hd hv' hb h
  have ⟨hk,h⟩:=aj h
  exact RZ hS1 hgo hd hv' hb hk fun a' hS'=>K _ θ a' w h hS' (hF1.trans (Fr.put Same.rfl Newer.rfl))
 unfold S5 at h
 split at h
 ·cases h
 ·have ⟨hk,h9⟩:=aj h
  exact run s hS Fr.rfl (fun g want e=>by grind) (by rw[hk];exact h9)
 ·rename_i hgo
  rw[hgo] at hg
  have ⟨g,want,d,h1,h2,h3⟩:=hg
  have ⟨hk,h⟩:=aj h
  exact LZ hS h1 h2 h3 hk fun a' hS'=>K _ θ a' w h hS' (Fr.put Same.rfl Newer.rfl)
 ·rename_i t b neg want hgo
  have both: ∀c:Bool,(envL θ s).lookup t=some (.bool c)->(match c==want with
    | true=>bL (okO V.n (IZ s t c) o) (step V (IZ s t c) (fun r=>kont (after (IZ s t c) o.dst r)) o)
    | false=>bL (dstOk V.n o.dst) (kont (skip (IZ s t c) o.dst)))=some res->wpList P ops Q (o::rest) a w:=by
   intro c hc h
   have ⟨q1,q2⟩:=XA hS hc
   have hlk:(envL θ (IZ s t c)).lookup t=some (.bool c):=by
    show List.lookup t ((t,Value.bool c)::envL θ s)=_
    grind
   split at h
   ·grind
   ·grind
  grind
theorem XB {tr:Trs} {o:Oper} (hS:Sim P I w0 F V.n J θ s a w): ∃J' θ',J.le J'/\Sim P I w0 F V.n J' θ' (aaP tr o s) a w/\Fr s θ (aaP tr o s) θ':=by
 have ⟨θ1,S1,F1⟩:=zS hS
 have ⟨S2,F2⟩:=tx (hs:=Dh (qC s) o.op.operands.toList) S1
 have ⟨J2,hJ2,S3,F3⟩:=SR (o:=o) S2
 show∃J' θ',J.le J'/\Sim P I w0 F V.n J' θ' (S4 tr o (Mx o (vY (Dh (qC s) o.op.operands.toList) (qC s)))) a w/\Fr s θ (S4 tr o (Mx o (vY (Dh (qC s) o.op.operands.toList) (qC s)))) θ'
 unfold S4
 split
 ·exact ⟨J2,θ1,hJ2,S3,(F1.trans F2).trans F3⟩
 ·obtain ⟨J',θ',h1,h2,h3⟩:=uX S3
  exact ⟨J',θ',hJ2.trans h1,h2,((F1.trans F2).trans F3).trans h3⟩
theorem GR (hT:TTok P V.tt) (hF:FTok P V.ft) {ops:Array Oper} {k:Sg->Option Y} : ∀ {l:List Oper} {s:Sg} {J:Hp} {θ:Th} {a:Act} {w:World},KR V ops.toList k l s=some res->Sim P I w0 F V.n J θ s a w->
  (∀s' J' θ' a' w',k s'=some res->Sim P I w0 F V.n J' θ' s' a' w'->J.le J'->Fr s θ s' θ'->Q .normal a' w')->wpList P ops Q l a w
 | [],s,J,θ,a,w,h,hS,K=>wpList_nil (K s J θ a w h hS Hp.le.rfl Fr.rfl)
 | o::os,s,J,θ,a,w,h,hS,K=>by
  have ⟨J1,θ1,q0,q1,q2⟩:=XB (tr:=V.tr) (o:=o) hS
  exact S7 hT hF (show S5 V ops.toList (KR V ops.toList k os) o (aaP V.tr o s)=some res from h) q1 fun s' θ' a' w' hk hS' hFr =>
   GR hT hF hk hS' fun s2 J2 θ2 a2 w2 hk2 hS2 hJ2 hFr2=>K s2 J2 θ2 a2 w2 hk2 hS2 (q0.trans hJ2) ((q2.trans hFr).trans hFr2)
end
end R
end Go.Proofs.YtfkokkokjgjkgaaGreatDoor
