/- FnContainment: for every input the law returns true and changes nothing that was there. Part 3 of 8. -/
import Derived.Test.YtfbgafccgaoepaaGreatKC1
set_option synthInstance.maxSize 20000
set_option synthInstance.maxHeartbeats 2000000
set_option linter.unusedVariables false
set_option linter.unusedSimpArgs false
set_option linter.unnecessarySimpa false
set_option linter.unusedSectionVars false
set_option maxRecDepth 1000000
namespace Go.Proofs.YtfbgafccgaoepaaGreat
open Go.IntKind (i64)
namespace R
open Go.RowKit
open D
theorem wz {l m:List Ch} (h:Ch.deeps l) (k:Ch.deeps m):Ch.deeps (l++m):=by
 induction l with
 | nil=>exact k
 | cons c l ih=>exact ⟨h.1,ih h.2⟩
theorem rO {v:Value} : ∀(ts:List Ty) (i:Nat) (d:iV ts),Dl ts=true->Ch.deeps (vo i ts d v)
 | [],_,_,_=>trivial
 | t::ts,i,d,h=>by
  have h:(t.dp&&Dl ts)=true:=h
  rw[ah] at h
  exact ⟨xH (Ty.dp_ok h.1),rO ts (i+1) d.2 h.2⟩
theorem Ao {v:Value} (ts:List Ty) (d:iV ts) (h:Dl ts=true):Ch.deeps (resGv ts d v):=by
 match ts,d,h with
 | [t],d,h =>
  have h:(t.dp&&true)=true:=h
  rw[Bool.and_true] at h
  exact ⟨xH (Ty.dp_ok h),trivial⟩
 | [],d,h=>exact rO (v:=v) [] 0 d h
 | _::_::_,d,h=>exact rO (v:=v) _ 0 d h
theorem Le {α:Type} {E:TypeId} {R:Rep α} (h:R.Fin):(aw E R).Fin:=by
 rintro I cs xs ⟨ao,cap,rfl,hl,h1⟩
 rcases h1 with rfl | ⟨b,off,ccs,t,fr,h1,h2,h4⟩
 ·exact ⟨[],ao,cap,rfl,hl,.inl rfl⟩
 have key: ∀n,∃L,∀i x,i<n->xs[i]? =some x-> ∃c:List Value,c.length=R.size/\(∀j,j<R.size->ccs.toList[off+i*R.size+j]? =c[j]?)/\R.rd (only I L) c x:=by
  intro n
  induction n with
  | zero=>exact ⟨[],fun i x hi=>by omega⟩
  | succ n ih =>
   have ⟨L,hL⟩:=ih
   cases hx:xs[n]? with
   | none=>exact ⟨L,fun i x hi hx'=>hL i x (by grind) hx'⟩
   | some y =>
    have ⟨c,e1,e2,e3⟩:=h4 n y hx
    have ⟨M,hM⟩:=h e3
    refine ⟨L++M,fun i x hi hx'=>?_⟩
    by_cases e:i=n
    ·subst e;rw[hx] at hx';cases ae hx'
     exact ⟨c,e1,e2,R.rd_mono hM (je fun b hb=>aX _ hb)⟩
    ·have ⟨c,e1,e2,e3⟩:=hL i x (by omega) hx'
     exact ⟨c,e1,e2,R.rd_mono e3 (je fun b hb=>aT _ hb)⟩
 have ⟨L,hL⟩:=key xs.length
 refine ⟨b::L,ao,cap,rfl,hl,.inr ⟨b,off,ccs,t,fr,h1,by simp[only,h2],fun i x hx=>?_⟩⟩
 have ⟨c,e1,e2,e3⟩:=hL i x (by grind) hx
 exact ⟨c,e1,e2,R.rd_mono e3 (je fun b hb=>ba _ hb)⟩
theorem Pq {α:Type} {R:Rep α} (hR:R.Fin) {cs:List Value} {x:α} :(Ch.own (Bu R) cs x).recl:=by
 rintro I J w F hJ hw ⟨h0,h1,h⟩ hF
 have ⟨L,k⟩:=hR (h (fun b=>if b∈F then w.heap[b]? else J b) (fun b o hb=>by grind) fun b hb=>if_pos hb)
 let M:=O7 (L.filter fun b=>(I b).isNone&&(J b).isSome)
 have hM: ∀b,b∈M↔b∈L/\I b=none/\J b≠none:=fun b=>by
  simp[M,tX,List.mem_filter,ah,Option.isNone_iff_eq_none,Option.isSome_iff_ne_none]
 refine ⟨M,fun b hb=>((hM b).1 hb).2,rL,h0,fun b hb=>?_,fun K hK hB=>R.rd_mono k fun b o hb=>?_⟩
 ·rcases aH hb with hb | hb
  ·exact h1 b hb
  ·have ⟨o,ho⟩:=Option.ne_none_iff_exists'.1 ((hM b).1 hb).2.2
   exact (Array.getElem?_eq_some_iff.1 (hw b o ho)).1
 ·unfold only at hb
  split at hb
  ·by_cases hf:b∈F
   ·have hb:(if b∈F then w.heap[b]? else J b)=some o:=hb;rw[if_pos hf] at hb
    rw[hB b (aT _ hf),hb]
   ·have hb:(if b∈F then w.heap[b]? else J b)=some o:=hb;rw[if_neg hf] at hb
    cases hI:I b with
    | none=>rw[hB b (aX _ ((hM b).2 ⟨‹_›,hI,by grind⟩))];exact hw b o hb
    | some o' =>
     have:=hJ b o' hI
     have:=hK b o' hI
     grind
  ·cases hb
def Ty.fin:Ty->Bool
 | .int _=>true
 | .bool=>true
 | .str=>true
 | .prod a b=>a.fin&&b.fin
 | .wr t=>t.fin
 | .sl _ t=>t.fin
 | .bag t=>t.fin
 | _=>false
theorem Ty.fin_ok: ∀ {t:Ty},t.fin=true->t.rep.Fin
 | .int _,_=>Bv
 | .bool,_=>Bv (h1:=fun _=>rfl)
 | .str,_=>Bv (h1:=fun _=>rfl)
 | .raw,h=>by cases h
 | .prod a b,h=>by
  have h:(a.fin&&b.fin)=true:=h
  rw[ah] at h
  exact O6 (fin_ok h.1) (fin_ok h.2)
 | .wr t,h=>fin_ok (t:=t) h
 | .sl _ t,h=>Le (fin_ok (t:=t) h)
 | .bag t,h=>fun k=>fin_ok (t:=t) h k
 | .fro _,h=>by cases h
 | .tree _ _ _,h=>by cases h
def YA:Ty->Bool
 | .tree _ _ u=>u.fin
 | .bag u=>u.fin
 | _=>false
theorem Lf {t:Ty} (h:YA t=true) {cs:List Value} {d:t.den} :(Ch.own t.rep cs d).recl:=by
 cases t with
 | tree T E u=>exact KD (Ty.fin_ok h)
 | bag u=>exact Pq (Ty.fin_ok h)
 | _=>cases h
def Dv:List Ty->Bool
 | [] =>true
 | t::ts=>(t.dp&&Dv ts) || (YA t&&Dl ts)
theorem vA {v:Value} {D:List Ch} (hD:Ch.deeps D): ∀(ts:List Ty) (i:Nat) (d:iV ts),Dv ts=true->Ch.back (vo i ts d v++D)
 | [],_,_,_=>Ch.back_deeps hD
 | t::ts,i,d,h=>by
  have h:((t.dp&&Dv ts) || (YA t&&Dl ts))=true:=h
  rw[Bool.or_eq_true,ah,ah] at h
  rcases h with h | h
  ·exact .inl ⟨xH (Ty.dp_ok h.1),vA hD ts (i+1) d.2 h.2⟩
  ·exact .inr ⟨Lf h.1,wz (rO ts (i+1) d.2 h.2) hD⟩
theorem vB {v:Value} {D:List Ch} (hD:Ch.deeps D) (ts:List Ty) (d:iV ts) (h:Dv ts=true):Ch.back (resGv ts d v++D):=by
 match ts,d,h with
 | [t],d,h =>
  have h:((t.dp&&true) || (YA t&&true))=true:=h
  rw[Bool.and_true,Bool.and_true,Bool.or_eq_true] at h
  rcases h with h | h
  ·exact .inl ⟨xH (Ty.dp_ok h),Ch.back_deeps hD⟩
  ·exact .inr ⟨Lf h,hD⟩
 | [],d,h=>exact vA (v:=v) hD [] 0 d h
 | _::_::_,d,h=>exact vA (v:=v) hD _ 0 d h
theorem RZ {α:Type} {b:Nat} {T:TypeId} {R:Rep α} {d:α} (h:R.Dp):(Ch.box b T R d).deep:=by
 rintro I J w F ⟨cells,G,rfl,h1,h2⟩
 exact ⟨cells,G,rfl,h1,h h2⟩
theorem dF {γ:Value} : ∀(ps:List PM) (vs:List Value) (d:iV (outs ps)),vz ps=true->Ch.deeps (outCh γ ps vs d)
 | [],vs,_,_=>by cases vs <;> trivial
 | .ow t::ps,[],d,h=>trivial
 | .ow t::ps,v::vs,d,h=>by
  have h:(t.dp&&vz ps)=true:=h
  rw[ah] at h
  exact ⟨xH (Ty.dp_ok h.1),dF ps vs d.2 h.2⟩
 | .ptr T t::ps,[],d,h=>trivial
 | .ptr T t::ps,v::vs,d,h=>by
  have h:(t.dp&&vz ps)=true:=h
  rw[ah] at h
  exact ⟨RZ (Ty.dp_ok h.1),dF ps vs d.2 h.2⟩
 | .rd _::ps,[],d,h=>trivial
 | .rd _::ps,v::vs,d,h=>dF ps vs d h
 | .eat _::ps,[],d,h=>trivial
 | .eat _::ps,v::vs,d,h=>dF ps vs d h
 | .fn _ _::ps,[],d,h=>trivial
 | .fn _ _::ps,v::vs,d,h=>dF ps vs d h
 | .cap _ _::ps,[],d,h=>trivial
 | .cap _ _::ps,v::vs,d,h=>dF ps vs d h
 | .capf _ _ _::ps,[],d,h=>trivial
 | .fk _::ps,[],d,h=>trivial
 | .capf _ _ _::ps,v::vs,d,h=>dF ps vs d h
 | .fk _::ps,v::vs,d,h=>dF ps vs d h
 | .crs _ _::ps,[],d,h=>trivial
 | .kb _ _ _::ps,[],d,h=>trivial
 | .kc _::ps,[],d,h=>trivial
 | .kb _ T t::ps,v::vs,d,h=>by
  have h:(t.dp&&vz ps)=true:=h
  rw[ah] at h
  exact ⟨RZ (Ty.dp_ok h.1),dF ps vs d.2 h.2⟩
 | .kc _::ps,v::vs,d,h=>dF ps vs d h
 | .crs _ _::ps,v::vs,d,h=>⟨RI,dF ps vs d.2 h⟩
theorem gW {id:Nat} {pth:Nat->List Nat} : ∀(t:Ty) (d:t.den) (j:Nat),∀g∈pV id pth t d j,Po g.2
 | .prod a b,d,j=>fun g hg=>by
  rcases aH hg with hg | hg
  ·exact gW a d.1 j g hg
  ·exact gW b d.2 _ g hg
 | .sl E t,d,j=>fun g hg=>by cases ak hg;trivial
 | .wr t,d,j=>gW t d j
 | .int _,_,_=>fun g hg=>by cases hg
 | .bool,_,_=>fun g hg=>by cases hg
 | .str,_,_=>fun g hg=>by cases hg
 | .raw,_,_=>fun g hg=>by cases hg
 | .fro _,_,_=>fun g hg=>by cases hg
 | .bag t,_,_=>fun g hg=>by cases t <;> first | (cases hg;done) | (cases ak hg;trivial)
 | .tree _ _ _,d,j=>fun g hg=>by cases ak hg;trivial
theorem tf {id:Nat} : ∀(i:Nat) (ts:List Ty) (d:iV ts),∀g∈wv id i ts d,Po g.2
 | _,[],_=>fun g hg=>by cases hg
 | i,t::ts,d=>fun g hg=>by
  rcases aH hg with hg | hg
  ·exact gW t d.1 0 g hg
  ·exact tf (i+1) ts d.2 g hg
theorem po {id:Nat} (ts:List Ty) (d:iV ts): ∀g∈ue id ts d,Po g.2:=by
 match ts,d with
 | [t],d=>exact gW t d.1 0
 | [],d=>exact tf (id:=id) 0 [] d
 | _::_::_,d=>exact tf (id:=id) 0 _ d
theorem uj {g:Hdr×Chk} {ver:Nat} {c:Chk} (h:Po g.2) (k:SaysH g.2 ver c):False:=by
 have ⟨a,x⟩:=g
 cases x <;> first | exact h.elim | exact k.elim
theorem Ps {h:Hdr} {chs:List Ent} {q:Row} (hq:rowOf h chs=some q) {e:Ent} (he:e∈chs) (h1:e.1=h):e=q.ent h:=by
 have ⟨p,k⟩:=bf hq
 grind
theorem Lh {h:Hdr} {chs:List Ent} {q:TreeE} (hq:Dm h chs=some q) {e:Ent} (he:e∈chs) (h1:e.1=h):e=q.ent h:=by
 have ⟨p,k⟩:=K7 hq
 grind
theorem Pt {h:Hdr} {chs:List Ent} {q:Blk} (hq:V2 h chs=some q) {e:Ent} (he:e∈chs) (h1:e.1=h):e=q.ent h:=by
 have ⟨p,k⟩:=K8 hq
 rcases az ((jq p).mem_iff.1 he) with rfl | he
 ·rfl
 grind
theorem OpT.post {P:Program} {w0:World} {o:Oper} {I:Hp} {ev:Operand->Value} {rn:List Ch} {fact fact':Value->Prop} {gv gv':Value->List Ch} (h:OpT P I w0 o ev rn fact gv) (hp: ∀v w C,fact v->St I w0 w (gv v++C)->fact' v/\St I w0 w (gv' v++C)):OpT P I w0 o ev rn fact' gv' :=
 fun w C hs=>(h w C hs).imp fun v w hv=>hp v w C hv.1 hv.2
theorem OpT.sepTo {P:Program} {w0:World} {o:Oper} {I:Hp} {ev:Operand->Value} {l l':List Ch} {fact:Value->Prop} {gv:Value->List Ch} (k:qy I l l') (h:OpT P I w0 o ev l' fact gv):OpT P I w0 o ev l fact gv:=fun w C hs=>by
 have ⟨h1,h2,F,h3,h4,h5⟩:=hs
 obtain ⟨G,K,rfl,e1,e2⟩:=h3.split
 exact h w C ⟨h1,h2,G++K,(k w G e1).append e2,h4,h5⟩
section
variable {Y:Type} (ft:FT) (s:Sg) (k:Res->Option Y)
def Dw (s:Sg):List Operand->Option (List AV)
 | [] =>some []
 | x::xs=>(opd s x).bind fun v=>(Dw s xs).bind fun vs=>some (v::vs)
def Dx (f:FS) (xs:List AV) (kx:List Ent->List Ent->List Ent->Option GhQ->dens (f.rs++outs f.ps)->Option Y):Option Y:=(dq ft s s.chs f.ps xs).bind fun a =>
 (BM (Fu a.lent []) a.rest).bind fun pl=>match (Dl f.rs&&vz f.ps) || pl.1.isEmpty with
 | true=>(appP f.ps f.m a.d).bind fun r=>kx pl.1 a.own pl.2 a.gh r
 | false=>bw (Dv f.rs&&vz f.ps) ((appP f.ps f.m a.d).bind fun r=>kx [] (a.own++pl.1) pl.2 a.gh r)
def Ub (f : FS) (xs : List AV) (L M R : List Ent) (gh : Option GhQ) (r : dens (f.rs ++ outs f.ps)) : Option Y :=
    k ⟨L, M, R, ue s.nxt f.rs (hFst f.rs (outs f.ps) (toH _ r)) ++ gV gh f.ps xs (hSnd f.rs (outs f.ps) (toH _ r)), BH s.nxt f.rs (hFst f.rs (outs f.ps) (toH _ r))⟩
def R0 (g:FuncId) (xs:List Operand):Option Y:=(fs ft g).bind fun f=>bw (!f.ov)<|(Dw s xs).bind fun vs=>Dx ft s f vs (Ub s k f vs)
def ZV:(ts:List Ty)->iV ts->Int
 | [.sl _ t],d=>((List.length (α:=t.den) d.1:Nat):Int)
 | _,_=>1
def Li (ts:List Ty) (d:iV ts):Bool:=decide (ZV ts d=0)
def R1 (g : FuncId) (xs : List Operand) : Option Y := (fs ft g).bind fun f => bw (!f.ov) <| (Dw s xs).bind fun vs => Dx ft s f vs fun L M R gh r =>
    if Li f.rs (hFst f.rs (outs f.ps) (toH _ r)) then k ⟨L, M, R, gV gh f.ps vs (hSnd f.rs (outs f.ps) (toH _ r)), .one (.val (.slice none 0 0))⟩
    else Ub s k f vs L M R gh r
def WD (f:FS) (n:Nat):Bool:=match f.ps.drop n with
 | [.ptr _ _] =>true
 | _=>false
def Hk (t n:Nat):Option (FuncId×Hdr):=match look s.env t with
 | some (.one (.own h))=>(Yz h s.chs).bind fun c=>(fs ft c.1).bind fun f=>match WD f n with
  | true=>some c
  | false=>none
 | _=>none
def R2 (c:FuncId×Hdr) (xs:List Operand):Option Y:=(fs ft c.1).bind fun f=>bw (!f.ov)<|(Dw s xs).bind fun vs=>Dx ft s f (vs++ [.one (.ptr c.2 0)]) (Ub s k f (vs++ [.one (.ptr c.2 0)]))
def aak (n:Nat):LV->Option (List Ty×List Ty)
 | .fn _ a b _=>some (a,b)
 | .own h=>(La h s.chs).bind fun q=>(fs ft q.1).bind fun f=>(T6 ((f.ps.drop q.2.1.length).take n)).bind fun a=>some (a,f.rs++outs f.ps)
 | _=>none
def Uc:(ts:List Ty)->List Operand->Option (iV ts×List Hdr)
 | [],[] =>some ((),[])
 | t::ts,x::xs=>(opd s x).bind fun v=>(xS s.chs t v).bind fun a=>(Uc ts xs).bind fun r=>some ((a.1,r.1),a.2++r.2)
 | _,_=>none
def Lj (t:Nat) (xs:List Operand):Option Y:=(oneOf0 (look s.env t)).bind fun y=>(aak ft s xs.length y).bind fun ab=>(T9 ft s.chs 4 ab.1 ab.2 y).bind fun q=>(Uc s ab.1 xs).bind fun d =>
 (BM (Fu (q.lent++d.2) []) s.chs).bind fun pl=>bw (Dl ab.2) ((app ab.1 q.e d.1).bind fun r=>k ⟨pl.1,[],pl.2,ue s.nxt ab.2 (toH _ r),BH s.nxt ab.2 (toH _ r)⟩)
where oneOf0:Option AV->Option LV
 | some (.one x)=>some x
 | _=>none
end
section
variable {Y:Type} {ft:FT} {s:Sg} {k:Res->Option Y} {P:Program} {w0:World} {o:Oper} {res:Y}
theorem BQ {J:Hp} {θ:Th} {hs:List Hdr} {l:List Ent} (e2:l.map (·.1)=Fu hs []) (hsub: ∀e∈l,e∈s.chs) (hr: ∀ {α:Type} (R:Rep α) (v:List Value) (a:α),Ch.own R v a∈l.map (toCh P θ)->R.rd J v a) (hb: ∀g c E,Ch.blk g c E∈l.map (toCh P θ)->J g=some (.cells c.toArray E (0,0))):Lent J θ s.chs hs:=fun h hh=>by
 have hd:h∈l.map (·.1):=by
  rw[e2]
  rcases xU (acc:=[]) hh with h1 | h1
  ·exact h1
  ·cases h1
 have ⟨e,he,h1⟩:=List.mem_map.1 hd
 refine ⟨fun q hq=>?_,fun q hq=>?_,fun q hq=>?_⟩
 ·have:=Ps hq (hsub e he) h1
  subst this
  exact hr _ _ _ (List.mem_map.2 ⟨_,he,rfl⟩)
 ·have:=Lh hq (hsub e he) h1
  subst this
  exact hr _ _ _ (List.mem_map.2 ⟨_,he,rfl⟩)
 ·have:=Pt hq (hsub e he) h1
  subst this
  exact hb _ _ _ (List.mem_map.2 ⟨_,he,rfl⟩)
theorem fj: ∀ {ps:List PM} {xs:List AV} {chs:List Ent} {r:Args ps},dq ft s chs ps xs=some r->chs.Perm (r.own++r.rest)
 | [],[],chs,r,h=>by cases ae (show some _=some r from h);rfl
 | .rd t::ps,x::xs,chs,r,h=>by
  have ⟨a,ha,h⟩:=bind_some (show (xS s.chs t x).bind _=some r from h)
  have ⟨q,hq,h⟩:=bind_some h
  cases ae h
  exact fj (ps:=ps) hq
 | .ow t::ps,x::xs,chs,r,h=>by
  have ⟨hg,h⟩:=aj (show bw (mI x==t.isProd) _=some r from h)
  have ⟨cs,hcs,h⟩:=bind_some h
  have ⟨q,hq,h⟩:=bind_some h
  have ⟨he,h⟩:=aj h
  have ⟨r',hr,h⟩:=bind_some h
  cases ae h
  show chs.Perm ((q.used++r'.own)++r'.rest)
  rw[aD]
  exact (eW hq).trans ((fj hr).append_left _)
 | .eat t::ps,x::xs,chs,r,h=>by
  have ⟨hg,h⟩:=aj (show bw (mI x==t.isProd) _=some r from h)
  have ⟨cs,hcs,h⟩:=bind_some h
  have ⟨q,hq,h⟩:=bind_some h
  have ⟨he,h⟩:=aj h
  have ⟨r',hr,h⟩:=bind_some h
  cases ae h
  rw[aD]
  exact (eW hq).trans ((fj hr).append_left _)
 | .fn a b::ps,x::xs,chs,r,h=>by
  unfold dq at h
  split at h
  ·have ⟨q,hq,h⟩:=bind_some h
   have ⟨r',hr,h⟩:=bind_some h
   cases ae h
   exact fj (ps:=ps) hr
  grind
 | .ptr T t::ps,x::xs,chs,r,h=>by
  unfold dq at h
  split at h
  ·have ⟨ho,h⟩:=aj h
   have ⟨q,hq,h⟩:=bind_some h
   have ⟨r',hr,h⟩:=bind_some h
   cases ae h
   rw[aD]
   exact (nE hq).trans ((fj hr).append_left _)
  grind
 | .crs T E::ps,x::xs,chs,r,h=>by
  unfold dq at h
  split at h
  ·have ⟨ho,h⟩:=aj h
   have ⟨q,hq,h⟩:=bind_some h
   have ⟨r',hr,h⟩:=bind_some h
   have ⟨hn,h⟩:=aj h
   cases ae h
   exact (mC hq).1.trans ((fj hr).cons _)
  grind
 | .fk g::ps,x::xs,chs,r,h=>by
  unfold dq at h
  split at h
  ·have ⟨hk,h⟩:=aj h
   have ⟨r',hr,h⟩:=bind_some h
   cases ae h
   exact fj (ps:=ps) hr
  grind
 | .kb g T t::ps,x::xs,chs,r,h=>by
  unfold dq at h
  split at h
  ·have ⟨c,hc,h⟩:=bind_some h
   have ⟨hk,h⟩:=aj h
   have ⟨q,hq,h⟩:=bind_some h
   have ⟨r',hr,h⟩:=bind_some h
   have ⟨hn,h⟩:=aj h
   cases ae h
   rw[aD]
   exact (nE hq).trans ((fj hr).append_left _)
  grind
 | .kc g::ps,x::xs,chs,r,h=>by
  unfold dq at h
  split at h
  ·have ⟨c,hc,h⟩:=bind_some h
   have ⟨hk,h⟩:=aj h
   have ⟨r',hr,h⟩:=bind_some h
   have ⟨hn,h⟩:=aj h
   cases ae h
   exact fj (ps:=ps) hr
  grind
 | .kb _ _ _::_,[],_,_,h=>by cases h
 | .kc _::_,[],_,_,h=>by cases h
 | .cap _ _::_,_::_,_,_,h=>by cases h
 | .capf _ _ _::_,_::_,_,_,h=>by cases h
 | [],_::_,_,r,h=>by cases h
 | .rd _::_,[],_,r,h=>by cases h
 | .ow _::_,[],_,r,h=>by cases h
 | .eat _::_,[],_,r,h=>by cases h
 | .fn _ _::_,[],_,r,h=>by cases h
 | .ptr _ _::_,[],_,r,h=>by cases h
 | .cap _ _::_,[],_,_,h=>by cases h
 | .capf _ _ _::_,[],_,_,h=>by cases h
 | .fk _::_,[],_,_,h=>by cases h
 | .crs _ _::_,[],_,_,h=>by cases h
theorem I3: ∀ {t:Ty} {d:t.den} {cs:List LV},∀g∈xW t d cs,Po g.2:=by
 intro t
 induction t with
 | prod a b iha ihb =>
  intro d cs g hg
  rcases aH hg with hg | hg
  ·grind
  grind
 | wr t ih=>intro d cs g hg;exact ih g hg
 | sl E t ih =>
  intro d cs g hg
  cases cs with
  | nil=>cases hg
  | cons x l =>
   cases x with
   | own h=>cases ak hg;trivial
   | _=>cases hg
 | _=>intro d cs g hg;cases hg
theorem dG {gh:Option GhQ} : ∀ {ps:List PM} {xs:List AV} {d:iV (outs ps)},∀g∈gV gh ps xs d,∀ver c,SaysH g.2 ver c->False
 | [],xs,d=>fun g hg=>by cases xs <;> cases hg
 | .ow t::ps,[],d=>fun g hg=>by cases hg
 | .ow t::ps,x::xs,d=>fun g hg=>by
  rcases aH hg with hg | hg
  ·cases hb:kz x with
   | none=>grind
   | some cs=>grind[uj,I3]
  ·exact dG g hg
 | .ptr T t::ps,[],d=>fun g hg=>by cases hg
 | .ptr T t::ps,x::xs,d=>fun g hg=>by
  rcases aH hg with hg | hg
  ·split at hg
   ·cases ak hg;exact fun ver c k=>k
   grind
  ·exact dG g hg
 | .rd _::ps,[],d=>fun g hg=>by cases hg
 | .rd _::ps,_::xs,d=>dG (ps:=ps)
 | .eat _::ps,[],d=>fun g hg=>by cases hg
 | .eat _::ps,_::xs,d=>dG (ps:=ps)
 | .fn _ _::ps,[],d=>fun g hg=>by cases hg
 | .fn _ _::ps,_::xs,d=>dG (ps:=ps)
 | .cap _ _::ps,[],d=>fun g hg=>by cases hg
 | .cap _ _::ps,_::xs,d=>dG (ps:=ps)
 | .capf _ _ _::ps,[],d=>fun g hg=>by cases hg
 | .fk _::ps,[],d=>fun g hg=>by cases hg
 | .capf _ _ _::ps,_::xs,d=>dG (ps:=ps)
 | .fk _::ps,_::xs,d=>dG (ps:=ps)
 | .kc _::ps,[],d=>fun g hg=>by cases hg
 | .kc _::ps,_::xs,d=>dG (ps:=ps)
 | .kb _ T t::ps,[],d=>fun g hg=>by cases hg
 | .kb _ T t::ps,x::xs,d=>fun g hg=>by
  rcases aH hg with hg | hg
  ·split at hg
   ·cases ak hg;exact fun ver c k=>k
   grind
  ·exact dG g hg
 | .crs T E::ps,[],d=>fun g hg=>by cases hg
 | .crs T E::ps,x::xs,d=>fun g hg=>by
  rcases aH hg with hg | hg
  ·split at hg
   ·cases ak hg;exact fun ver c k=>k
   grind
  ·exact dG g hg
theorem Pu {α:Type} (A L O C:List α):(A++(L++(O++C))).Perm (O++(A++(L++C))):=by
 grind[aD,List.perm_append_comm_assoc]
theorem Lk {α:Type} (B A L C:List α):(B++(A++(L++C))).Perm (L++(A++B)++C):=by
 have h:(B++(A++L)).Perm (L++(A++B)):=List.perm_append_comm.trans ((List.Perm.of_eq (aD ..)).trans (List.perm_append_comm_assoc _ _ _))
 have:=h.append_right C
 grind
theorem Pv {P:Program} {I:Hp} {w0:World} {o:Oper} {ev:Operand->Value} {ls rn:List Ch} {fact:Value->Prop} {gv:Value->List Ch} (hd: ∀v,Ch.back (gv v))
  (h: ∀J,I.le J->(∀ {α:Type} (R:Rep α) (v:List Value) (a:α),Ch.own R v a∈ls->R.rd J v a)->(∀g l E,Ch.blk g l E∈ls->J g=some (.cells l.toArray E (0,0)))->OpT P J w0 o ev rn fact gv):OpT P I w0 o ev (ls++rn) fact gv:=by
 intro w C hs
 rw[aD] at hs
 have ⟨J,h1,h2,h3,h4,h5⟩:=K6 hs
 exact (h J h1 h2 h3 w _ h4).imp fun v w' hv=>⟨hv.1,hv.2.back h1 (hd v)⟩
theorem Ll {α:Type} (L G O C:List α):(L++(G++O)++C).Perm (O++(L++C)++G):=by
 refine (List.Perm.append_right C List.perm_append_comm).trans ?_
 grind[aD,List.perm_append_comm]
theorem Lm {ts:List Ty} {d:iV ts} {v:Value} (h:Li ts d=true) (k:wu ts d v):v= .slice none 0 0:=by
 have h:=of_decide_eq_true h
 unfold ZV at h
 split at h
 ·exact k (Int.ofNat.inj h)
 omega
def ghV (θ:Th):Option GhQ->Value
 | some q=>q.v θ
 | none=>undef
theorem xX {θ:Th} {o:Option GhQ} : ∀q,o=some q->ghV θ o=q.v θ:=fun q h=>by rw[h];rfl
theorem BR {J:Hp} {θ:Th} (hf:Fine P w0 J θ s): ∀ {xs:List Operand} {vs:List AV},Dw s xs=some vs->xs.map (evL (envL θ s))=vs.map (·.v θ)/\ ∀x∈vs,x.ok P w0 J θ s.nxt s.chs
 | [],vs,h=>by cases ae (show some _=some vs from h);grind
 | x::xs,vs,h=>by
  have ⟨v,hv',h⟩:=bind_some (show (opd s x).bind _=some vs from h)
  have ⟨us,hus,h⟩:=bind_some h
  cases ae h
  have ⟨k1,k2⟩:=BR hf hus
  refine ⟨by rw[List.map_cons,List.map_cons,k1,aC (θ:=θ) hv'],fun y hy=>?_⟩
  rcases az hy with rfl | hy
  ·exact bu hf hv'
  ·exact k2 y hy
def Hl (P:Program) (w0:World) (s:Sg) (cv:Operand) (g:FuncId) (xs:List Operand) (vs:List AV):Prop:= ∀J θ,Fine P w0 J θ s-> ∃cap:Array Value,evL (envL θ s) cv= .func (.func g) #[] cap/\xs.map (evL (envL θ s))++cap.toList=vs.map (·.v θ)/\ ∀x∈vs,x.ok P w0 J θ s.nxt s.chs
theorem BT {g:FuncId} {xs:List Operand} {vs:List AV} (h:Dw s xs=some vs):Hl P w0 s (.func g) g xs vs:=fun J θ hf=>by
 have ⟨k1,k2⟩:=BR hf h
 exact ⟨#[],rfl,by grind,k2⟩
theorem Pw {t n:Nat} {c:FuncId×Hdr} {xs:List Operand} {vs:List AV} (hp:Hk ft s t n=some c) (h:Dw s xs=some vs):Hl P w0 s (.tmp t) c.1 xs (vs++ [.one (.ptr c.2 0)]):=fun J θ hf=>by
 unfold Hk at hp
 split at hp
 ·rename_i hh hlk
  obtain ⟨c',hc,hp⟩:=bind_some hp
  obtain ⟨f,hf',hp⟩:=bind_some hp
  split at hp
  ·obtain rfl:=ae hp
   obtain ⟨k1,k2⟩:=BR hf h
   obtain ⟨ver,hm⟩:=BO hc
   have hok:=(hf.chs _ hm).2.2
   have hfv:hv θ hh= .func (.func c'.1) #[] #[.pointer (some ⟨bk (hv θ c'.2),0,none⟩)]:=hok.2.2
   have hid:c'.2.id<s.nxt:=hok.2.1 (.ptr c'.2 0) (by simp)
   refine ⟨#[.pointer (some ⟨bk (hv θ c'.2),0,none⟩)],?_,?_,fun x hx=>?_⟩
   ·rw[<-hfv];exact aC (x:=.tmp t) (θ:=θ) hlk
   ·rw[k1,aM];rfl
   ·rcases aH hx with hx | hx
    ·exact k2 x hx
    ·obtain rfl:=ak hx
     exact hid
  ·cases hp
 ·cases hp
theorem uk (hF:FTok P ft) {f:FS} {g:FuncId} (hen:Enters P g) {fact:dens (f.rs++outs f.ps)->Value->Prop} (hcon: ∀w0 J γ vs (d:denP f.ps) r,Lay P J->PArgs P w0 J γ f.ps vs d->appP f.ps f.m d=some r->
  Con P g vs.toArray J w0 (owCh γ f.ps vs d) (fact r) (fun v=>resGv f.rs (hFst f.rs (outs f.ps) (toH _ r)) v++outCh γ f.ps vs (hSnd f.rs (outs f.ps) (toH _ r)))) {xs:Array Operand} {ts:Array TypeId} {cv:Operand} {vs:List AV} (hcv:Hl P w0 s cv g xs.toList vs) (ho:o.op= .call { callee:=.value cv,args:=xs,argTypes:=ts }) {kx:List Ent->List Ent->List Ent->Option GhQ->dens (f.rs++outs f.ps)->Option Y} (h:Dx ft s f vs kx=some res) :
  ∃L M R r a,kx L M R a.gh r=some res/\s.chs.Perm (L++M++R)/\dq ft s s.chs f.ps vs=some a/\ ∀J θ,Fine P w0 J θ s->OpT P J w0 o (evL (envL θ s)) (L.map (toCh P θ)++M.map (toCh P θ)) (fact r) (fun v=>L.map (toCh P θ)++(resGv f.rs (hFst f.rs (outs f.ps) (toH _ r)) v++outCh (ghV θ a.gh) f.ps (vs.map (·.v θ)) (hSnd f.rs (outs f.ps) (toH _ r)))):=by
 obtain ⟨a,ha,h⟩:=bind_some h
 obtain ⟨pl,hpl,h⟩:=bind_some h
 obtain ⟨p2,e2⟩:=vv hpl
 have hpp:s.chs.Perm (a.own++a.rest):=fj ha
 have hperm:s.chs.Perm (pl.1++a.own++pl.2):=by
  refine hpp.trans ((p2.append_left a.own).trans ?_)
  rw[aD]
  exact List.perm_append_comm_assoc _ _ _
 split at h
 ·rename_i hc
  obtain ⟨r,hr,h⟩:=bind_some h
  rw[Bool.or_eq_true,ah] at hc
  refine ⟨_,_,_,r,a,h,hperm,ha,fun J θ hf=>?_⟩
  obtain ⟨cap,q1,q2,q3⟩:=hcv J θ hf
  rcases hc with ⟨hc1,hc2⟩ | hc
  ·refine ug (fun v=>wz (Ao _ _ hc1) (dF _ _ _ hc2)) fun J' hJ hrd hbl=>?_
   obtain ⟨k1,k2,k3⟩:=fE hF hf hJ ha q3 (fun e he=>he) (BQ e2 (fun e he=>hperm.mem_iff.2 (by simp[he])) hrd hbl) (ghV θ a.gh) xX
   exact OpT.sepTo k3 (nz hen ho q1 (by rw[List.nil_append,q2]) (hcon w0 J' (ghV θ a.gh) _ a.d r (hf.lay.mono hJ) k1 hr))
  ·have hpl:pl.1= []:=List.isEmpty_iff.1 hc
   obtain ⟨k1,k2,k3⟩:=fE hF hf Hp.le.rfl ha q3 (fun e he=>he) (BQ (P:=P) e2 (fun e he=>hperm.mem_iff.2 (by simp[he])) (by rw[hpl];intro α R v x hm;cases hm) (by rw[hpl];intro g c E hm;cases hm)) (ghV θ a.gh) xX
   rw[hpl]
   exact OpT.sepTo k3 (nz hen ho q1 (by rw[List.nil_append,q2]) (hcon w0 J (ghV θ a.gh) _ a.d r hf.lay k1 hr))
 ·obtain ⟨hc,h⟩:=aj h
  obtain ⟨r,hr,h⟩:=bind_some h
  rw[ah] at hc
  refine ⟨[],_,_,r,a,h,(by
   rw[List.nil_append]
   refine hperm.trans ?_
   exact List.Perm.append_right _ List.perm_append_comm),ha,fun J θ hf=>?_⟩
  obtain ⟨cap,q1,q2,q3⟩:=hcv J θ hf
  have:=Pv (P:=P) (I:=J) (w0:=w0) (o:=o) (ev:=evL (envL θ s)) (ls:=pl.1.map (toCh P θ)) (rn:=a.own.map (toCh P θ)) (fact:=fact r) (gv:=fun v=>resGv f.rs (hFst f.rs (outs f.ps) (toH _ r)) v++outCh (ghV θ a.gh) f.ps (vs.map (·.v θ)) (hSnd f.rs (outs f.ps) (toH _ r))) (fun v=>vB (dF _ _ _ hc.2) _ _ hc.1) fun J' hJ hrd hbl=>by
    obtain ⟨k1,k2,k3⟩:=fE hF hf hJ ha q3 (fun e he=>he) (BQ e2 (fun e he=>hperm.mem_iff.2 (by simp[he])) hrd hbl) (ghV θ a.gh) xX
    exact OpT.sepTo k3 (nz hen ho q1 (by rw[List.nil_append,q2]) (hcon w0 J' (ghV θ a.gh) _ a.d r (hf.lay.mono hJ) k1 hr))
  rw[List.map_nil,List.nil_append,aM]
  exact OpT.permN List.perm_append_comm this
section
variable {f:FS} {vs:List AV} {L M R:List Ent} {r:dens (f.rs++outs f.ps)} {a:Args f.ps} (hvs: ∀J θ,Fine P w0 J θ s-> ∀x∈vs,x.ok P w0 J θ s.nxt s.chs)
include hvs
theorem xY (ha:dq ft s s.chs f.ps vs=some a) (hperm:s.chs.Perm (L++M++R))
  (h1: ∀J θ,Fine P w0 J θ s->OpT P J w0 o (evL (envL θ s)) (L.map (toCh P θ)++M.map (toCh P θ)) (resFa f.rs) (fun v=>L.map (toCh P θ)++(resGv f.rs (hFst f.rs (outs f.ps) (toH _ r)) v++outCh (ghV θ a.gh) f.ps (vs.map (·.v θ)) (hSnd f.rs (outs f.ps) (toH _ r))))) :
  Good P w0 s o ⟨L,M,R,ue s.nxt f.rs (hFst f.rs (outs f.ps) (toH _ r))++gV a.gh f.ps vs (hSnd f.rs (outs f.ps) (toH _ r)),BH s.nxt f.rs (hFst f.rs (outs f.ps) (toH _ r))⟩:=by
 have hez: ∀g∈ue s.nxt f.rs (hFst f.rs (outs f.ps) (toH _ r))++gV a.gh f.ps vs (hSnd f.rs (outs f.ps) (toH _ r)),∀ver c,SaysH g.2 ver c->False:=fun g hg=>by
  rcases aH hg with hg | hg
  ·exact fun ver c k=>uj (po _ _ g hg) k
  ·exact dG g hg
 refine ⟨hperm,fun J θ hf g hg ver c hs=>(hez g hg ver c hs).elim,fun J θ hf=>?_⟩
 rw[aM]
 refine OpT.post (h1 J θ hf) fun v w C hv0 hst=>?_
 have hst1:St J w0 w (resGv f.rs (hFst f.rs (outs f.ps) (toH _ r)) v++(L.map (toCh P θ)++(outCh (ghV θ a.gh) f.ps (vs.map (·.v θ)) (hSnd f.rs (outs f.ps) (toH _ r))++C))):=by
  refine hst.perm ?_
  rw[aD,aD]
  exact List.perm_append_comm_assoc _ _ _
 have ⟨q1,q2,q3,q4⟩:=BJ (P:=P) (m:=s.nxt) (θ:=upd θ s.nxt v) (n:=s.nxt+1) (chs:=Res.chs ⟨L,M,R,ue s.nxt f.rs (hFst f.rs (outs f.ps) (toH _ r))++gV a.gh f.ps vs (hSnd f.rs (outs f.ps) (toH _ r)),BH s.nxt f.rs (hFst f.rs (outs f.ps) (toH _ r))⟩ s.nxt) (au _) (fq (vs:=θ) (i:=s.nxt) (v:=v)) f.rs (hFst f.rs (outs f.ps) (toH _ r)) _ hv0 hst1
 have q5:=q4.perm (Pu _ _ _ _)
 have ⟨b1,b2⟩:=jr (P:=P) (θ:=θ) (θ':=upd θ s.nxt v) (m:=s.nxt) hf Same.upd (ay _) (hSnd f.rs (outs f.ps) (toH _ r)) ha (hvs J θ hf) (fun e he=>he) (fun q hq=>⟨hq,xX q hq⟩) q5
 refine ⟨⟨q1,q2,fun g hg=>?_⟩,?_⟩
 ·rcases aH hg with hg | hg
  ·exact qF (po _ _ g hg) (by grind) (au _)
  ·exact BP (b2 g hg).1 (Nat.le_succ _) (aN (b2 g hg).2) (au _)
 ·rw[aM]
  exact b1.perm (Lk _ _ _ _)
theorem I4 (ha:dq ft s s.chs f.ps vs=some a) (hperm:s.chs.Perm (L++M++R)) (hn:Li f.rs (hFst f.rs (outs f.ps) (toH _ r))=true)
  (h1: ∀J θ,Fine P w0 J θ s->OpT P J w0 o (evL (envL θ s)) (L.map (toCh P θ)++M.map (toCh P θ)) (fun v=>resFa f.rs v/\wu f.rs (hFst f.rs (outs f.ps) (toH _ r)) v) (fun v=>L.map (toCh P θ)++(resGv f.rs (hFst f.rs (outs f.ps) (toH _ r)) v++outCh (ghV θ a.gh) f.ps (vs.map (·.v θ)) (hSnd f.rs (outs f.ps) (toH _ r))))) :
  Good P w0 s o ⟨L,M,R,gV a.gh f.ps vs (hSnd f.rs (outs f.ps) (toH _ r)),.one (.val (.slice none 0 0))⟩:=by
 refine ⟨hperm,fun J θ hf g hg ver c hs=>(dG g hg ver c hs).elim,fun J θ hf=>?_⟩
 rw[aM]
 refine OpT.post (h1 J θ hf) fun v w C hv0 hst=>?_
 have q5:St J w0 w (outCh (ghV θ a.gh) f.ps (vs.map (·.v θ)) (hSnd f.rs (outs f.ps) (toH _ r))++(L.map (toCh P θ)++C)):=by
  refine St.left (ds:=resGv f.rs (hFst f.rs (outs f.ps) (toH _ r)) v) (hst.perm ?_)
  exact Ll _ _ _ _
 have ⟨b1,b2⟩:=jr (P:=P) (θ:=θ) (θ':=upd θ s.nxt v) (m:=s.nxt) hf Same.upd (ay _) (hSnd f.rs (outs f.ps) (toH _ r)) ha (hvs J θ hf) (fun e he=>he) (fun q hq=>⟨hq,xX q hq⟩) q5
 refine ⟨⟨Eq.refl true,(Lm hn hv0.2).symm,fun g hg=>BP (b2 g hg).1 (Nat.le_succ _) (aN (b2 g hg).2) (au _)⟩,?_⟩
 refine b1.perm ?_
 grind[aD,List.perm_append_comm_assoc]
end
theorem qG {cv:Operand} {g:FuncId} {xs:List Operand} {vs:List AV} (h:Hl P w0 s cv g xs vs): ∀J θ,Fine P w0 J θ s-> ∀x∈vs,x.ok P w0 J θ s.nxt s.chs:=fun J θ hf=>by
 obtain ⟨cap,-,-,h⟩:=h J θ hf
 exact h
theorem Ln (hF:FTok P ft) {g:FuncId} {xs:Array Operand} {ts:Array TypeId} (ho:o.op= .call { callee:=.value (.func g),args:=xs,argTypes:=ts }) (h:R0 ft s k g xs.toList=some res):Oks P w0 s o k res:=by
 have ⟨f,hf',h⟩:=bind_some h
 have ⟨hov,h⟩:=aj h
 have ⟨vs,hvs,h⟩:=bind_some h
 have hov:f.ov=false:=by simpa using hov
 have hfo:=hF.get hf'
 have hc:=BT (P:=P) (w0:=w0) (g:=g) hvs
 have ⟨L,M,R,r,a,h,hp,ha,h1⟩:=uk (w0:=w0) hF (hfo.en hov) (fact:=fun _=>resFa f.rs) (hfo.con hov) hc ho h
 exact ⟨_,h,xY (qG hc) ha hp h1⟩
theorem Lo (hF:FTok P ft) {t n:Nat} {c:FuncId×Hdr} (hpc:Hk ft s t n=some c) {xs:Array Operand} {ts:Array TypeId} (ho:o.op= .call { callee:=.value (.tmp t),args:=xs,argTypes:=ts }) (h:R2 ft s k c xs.toList=some res):Oks P w0 s o k res:=by
 have ⟨f,hf',h⟩:=bind_some h
 have ⟨hov,h⟩:=aj h
 have ⟨vs,hvs,h⟩:=bind_some h
 have hov:f.ov=false:=by simpa using hov
 have hfo:=hF.get hf'
 have hc:=Pw (P:=P) (w0:=w0) hpc hvs
 have ⟨L,M,R,r,a,h,hp,ha,h1⟩:=uk (w0:=w0) hF (hfo.en hov) (fact:=fun _=>resFa f.rs) (hfo.con hov) hc ho h
 exact ⟨_,h,xY (qG hc) ha hp h1⟩
theorem Lp (hF:FTok P ft) {g:FuncId} {xs:Array Operand} {ts:Array TypeId} (hcl: ∀f,fs ft g=some f->NilOk P g f) (ho:o.op= .call { callee:=.value (.func g),args:=xs,argTypes:=ts }) (h:R1 ft s k g xs.toList=some res):Oks P w0 s o k res:=by
 have ⟨f,hf',h⟩:=bind_some h
 have ⟨hov,h⟩:=aj h
 have ⟨vs,hvs,h⟩:=bind_some h
 have hov:f.ov=false:=by simpa using hov
 have hfo:=hF.get hf'
 have hc:=BT (P:=P) (w0:=w0) (g:=g) hvs
 have ⟨L,M,R,r,a,h,hp,ha,h1⟩:=uk (w0:=w0) hF (hfo.en hov) (fact:=fun r v=>resFa f.rs v/\wu f.rs (hFst f.rs (outs f.ps) (toH _ r)) v) (hcl f hf') hc ho h
 split at h
 ·exact ⟨_,h,I4 (qG hc) ha hp ‹_› h1⟩
 ·exact ⟨_,h,xY (qG hc) ha hp fun J θ hf=>OpT.weak (h1 J θ hf) (fun v hv=>hv.1) fun v _=>rfl⟩
theorem Hm {J J':Hp} {θ:Th} (hf:Fine P w0 J θ s) (hJ:J.le J'): ∀ {ts:List Ty} {xs:List Operand} {r:iV ts×List Hdr},Uc s ts xs=some r->Lent J' θ s.chs r.2->KE J' ts (xs.map (evL (envL θ s))) r.1
 | [],[],r,h,_=>by rfl
 | t::ts,x::xs,r,h,hl=>by
  have ⟨v,hv',h⟩:=bind_some (show (opd s x).bind _=some r from h)
  have ⟨a,ha,h⟩:=bind_some h
  have ⟨q,hq,h⟩:=bind_some h
  cases ae h
  have ⟨cs,c1,c2⟩:=Dn ha (AV.ok_same Same.rfl (ay _) Newer.rfl (bu hf hv') hJ) hl.l
  rw[<-aC (θ:=θ) hv'] at c1
  exact ⟨_,cs,_,rfl,c1,c2,Hm hf hJ hq hl.r⟩
 | [],_::_,r,h,_=>by cases h
 | _::_,[],r,h,_=>by cases h
theorem Lq (hF:FTok P ft) {t:Nat} {xs:Array Operand} {ts:Array TypeId} (ho:o.op= .call { callee:=.value (.tmp t),args:=xs,argTypes:=ts }) (h:Lj ft s k t xs.toList=some res):Oks P w0 s o k res:=by
 have ⟨y,hy,h⟩:=bind_some h
 have ⟨ab,hab,h⟩:=bind_some h
 have ⟨q,hq,h⟩:=bind_some h
 have ⟨d,hd,h⟩:=bind_some h
 have ⟨pl,hpl,h⟩:=bind_some h
 have ⟨hc1,h⟩:=aj h
 have ⟨r,hr,h⟩:=bind_some h
 have hy:look s.env t=some (.one y):=by
  unfold Lj.oneOf0 at hy
  split at hy
  ·grind
  ·cases hy
 have ⟨p2,e2⟩:=vv hpl
 refine ⟨_,h,by grind,fun J θ hf g hg ver c hs=>(uj (po _ _ g hg) hs).elim,fun J θ hf=>?_⟩
 have hyo:=bu (x:=.tmp t) hf hy
 have h1:OpT P J w0 o (evL (envL θ s)) (pl.1.map (toCh P θ)++ []) (resFa ab.2) (fun v=>pl.1.map (toCh P θ)++resGv ab.2 (toH _ r) v):=by
  refine ug (fun v=>Ao _ _ hc1) fun J' hJ hrd hbl=>?_
  have hl:=BQ (s:=s) e2 (fun e he=>p2.mem_iff.2 (by grind)) hrd hbl
  have ⟨kk,first,capt,h3,h4,h5⟩:=Ft hF hf.lay hf.chs hq hyo J' hJ hl.l
  have hcon:=h5 J' Hp.le.rfl _ d.1 (Hm hf hJ hd hl.r) r hr
  have hev:=(aC (x:=.tmp t) hy).trans h3
  exact nz h4 ho hev (by simp) hcon
 rw[List.append_nil] at h1
 rw[List.append_nil]
 refine OpT.post h1 fun v w C hv0 hst=>?_
 have hst1:St J w0 w (resGv ab.2 (toH _ r) v++(pl.1.map (toCh P θ)++C)):=by
  refine hst.perm ?_
  rw[aD]
  exact List.perm_append_comm_assoc _ _ _
 have ⟨q1,q2,q3,q4⟩:=BJ (P:=P) (m:=s.nxt) (θ:=upd θ s.nxt v) (n:=s.nxt+1) (chs:=Res.chs ⟨pl.1,[],pl.2,ue s.nxt ab.2 (toH _ r),BH s.nxt ab.2 (toH _ r)⟩ s.nxt) (au _) (fq (vs:=θ) (i:=s.nxt) (v:=v)) ab.2 (toH _ r) _ hv0 hst1
 refine ⟨⟨q1,q2,fun g hg=>qF (po _ _ g hg) (by grind) (au _)⟩,?_⟩
 refine q4.perm ?_
 grind[aD,List.perm_append_comm_assoc]
end
section
variable {Y:Type} (tt:TT) (s:Sg) (k:Res->Option Y)
def Px:AV->Option (Bool×List LV)
 | .one x=>some (false,[x])
 | .agg xs=>some (true,xs)
 | _=>none
def BU (s:Sg):List Operand->Option (List (Bool×List LV))
 | [] =>some []
 | x::xs=>(opd s x).bind fun v=>(Px v).bind fun y=>(BU s xs).bind fun ys=>some (y::ys)
def Hn (s:Sg):List Operand->Option (List LV)
 | [] =>some []
 | x::xs=>match opd s x with
  | some (.one y)=>(Hn s xs).bind fun ys=>some (y::ys)
  | _=>none
def R3 (fn:Fn) (first captured:Array Operand):Option Y:=match fn with
 | .func g=>(BU s first.toList).bind fun ys=>(Hn s captured.toList).bind fun xs=>k ⟨[],[],s.chs,[(⟨s.nxt,[]⟩,.clo g ys xs)],.one (.own ⟨s.nxt,[]⟩)⟩
 | _=>none
def Lr (T:TypeId) (x:Operand):Option Y:=(td tt T).bind fun d=>match opd s x with
 | some (.one (.fz h T' t a off))=>(vq d.agg t off d.n).bind fun p=>bw (p.ty.isProd==d.agg) (k (.pure s (KJ s.nxt p.ty (p.get a))))
 | some (.one (.fzf h T' ps rs e))=>bw (Nat.beq d.n 1 && !d.agg) (k (.pure s (.one (.fn ⟨s.nxt,[]⟩ ps rs e))))
 | _=>none
def Ls (T:TypeId) (x:Operand) (f:Nat):Option Y:=(td tt T).bind fun d=>(d.fields[f]?).bind fun q=>match opd s x with
 | some (.one (.fz h T' t a off))=>k (.pure s (.one (.fz h T' t a (off+q.1))))
 | _=>none
end
section
variable {Y:Type} {tt:TT} {s:Sg} {k:Res->Option Y} {P:Program} {w0:World} {o:Oper} {res:Y} {x:Operand}
theorem Ap {J:Hp} {θ:Th} (hf:Fine P w0 J θ s): ∀ {l:List Operand} {ys:List (Bool×List LV)},BU s l=some ys->l.map (evL (envL θ s))=ys.map (jR θ)/\ ∀y∈ys,∀x∈y.2,x.ok P w0 J θ s.nxt
 | [],ys,h=>by cases ae (show some _=some ys from h);grind
 | x::l,ys,h=>by
  have ⟨v,hv',h⟩:=bind_some (show (opd s x).bind _=some ys from h)
  have ⟨y,hy,h⟩:=bind_some h
  have ⟨zs,hz,h⟩:=bind_some h
  have ⟨k1,k2⟩:=Ap hf hz
  have hvo:=bu hf hv'
  have hev:=aC (θ:=θ) hv'
  have key:v.v θ=jR θ y/\ ∀x∈y.2,x.ok P w0 J θ s.nxt:=by
   cases v with
   | one z=>cases ae (show some _=some y from hy);exact ⟨rfl,fun x hx=>by cases ak hx;exact hvo⟩
   | agg zs=>cases ae (show some _=some y from hy);exact ⟨rfl,hvo⟩
   | _=>cases hy
  refine ⟨by grind,fun z hz=>?_⟩
  grind
theorem Dy {J:Hp} {θ:Th} (hf:Fine P w0 J θ s): ∀ {l:List Operand} {ys:List LV},Hn s l=some ys->l.map (evL (envL θ s))=ys.map (·.v θ)/\ ∀x∈ys,x.ok P w0 J θ s.nxt
 | [],ys,h=>by cases ae (show some _=some ys from h);grind
 | x::l,ys,h=>by
  unfold Hn at h
  split at h
  ·rename_i y hy
   have ⟨zs,hz,h⟩:=bind_some h
   cases ae h
   have ⟨k1,k2⟩:=Dy hf hz
   have hvo:=bu hf hy
   refine ⟨by rw[List.map_cons,List.map_cons,k1,aC (θ:=θ) hy];rfl,fun z hz=>?_⟩
   rcases az hz with rfl | hz
   ·exact hvo
   grind
  grind
theorem Lt {fn:Fn} {first captured:Array Operand} (ho:o.op= .makeFunc fn first captured) (h:R3 s k fn first captured=some res):Oks P w0 s o k res:=by
 cases fn with
 | func g =>
  have ⟨ys,hys,h⟩:=bind_some (show (BU s first.toList).bind _=some res from h)
  have ⟨xs,hxs,h⟩:=bind_some h
  refine ⟨_,h,List.Perm.refl _,aL rfl,fun J θ hf=>?_⟩
  have ⟨k1,k2⟩:=Ap hf hys
  have ⟨k3,k4⟩:=Dy hf hxs
  refine OpT.post (Bn ho rfl) fun v w C hv0 hst=>?_
  rw[k1,k3] at hv0
  have hh:hv (upd θ s.nxt v) ⟨s.nxt,[]⟩=v:=fq
  refine ⟨⟨⟨au _,by rw[hh,hv0];rfl⟩,hh,fun g hg=>?_⟩,?_⟩
  ·cases ak hg
   refine ⟨au _,au _,fun y hy x hx=>LV.ok_same Same.upd (Nat.le_succ _) (k2 y hy x hx) Hp.le.rfl,fun x hx=>LV.ok_same Same.upd (Nat.le_succ _) (k4 x hx) Hp.le.rfl,?_⟩
   rw[hh,gB Same.upd k4,List.map_congr_left fun y hy=>vp Same.upd (k2 y hy)]
   omega
  ·exact St.emp.2 hst
 | _=>cases h
theorem Dz (hT:TTok P tt) {T:TypeId} (ho:o.op= .load T x) (h:Lr tt s k T x=some res):Oks P w0 s o k res:=by
 have ⟨d,hd,h⟩:=bind_some h
 have hdk:=hT.get hd
 split at h
 ·rename_i hh T' t a off hx
  have ⟨p,hp,h⟩:=bind_some h
  have ⟨hg,h⟩:=aj h
  have hg:p.ty.isProd=d.agg:=by simpa using hg
  have hp:=xg _ _ _ _ hp
  refine ⟨_,h,List.Perm.refl _,aL rfl,fun J θ hf=>?_⟩
  have ⟨h1,cells,h2,h3⟩:=bu hf hx
  have ⟨c,e1,e2⟩:=hp.fld J cells a h3
  have hl:=(p.ty.rep.rd_len e2).trans (p.ty.rep_size.trans hp.size)
  have e1':(cells.drop off).take d.n=c:=by rw[<-hp.size,<-p.ty.rep_size];exact e1
  refine OpT.weak (wo h2 hdk.ti ho (aC (θ:=θ) hx) hdk.one e1' hl rfl) (fun v hv0=>?_) (fun v hv0=>rfl)
  have hlds:Lds p.ty.isProd c v:=by
   rw[hg]
   cases hb:d.agg with
   | true=>rw[hb] at hv0;exact hv0
   | false =>
    rw[hb] at hv0
    have h1':d.n=1:=by
     have:=hdk.one
     rw[hb] at this
     simpa using this
    obtain ⟨u,rfl⟩:=List.length_eq_one_iff.1 (hl.trans h1')
    rw[show v=u from hv0];rfl
  have:=oC (P:=P) (w0:=w0) (J:=J) (θ:=upd θ s.nxt v) (id:=s.nxt) (n:=s.nxt+1) (chs:=(Res.pure s (KJ s.nxt p.ty (p.get a))).chs s.nxt) (au _) fq p.ty (p.get a) c e2 hlds
  exact ⟨this.1,this.2,fun g hg=>by cases hg⟩
 ·rename_i hh T' ps rs e hx
  have ⟨hn,h⟩:=aj h
  rw[ah] at hn
  have hn1:=aq hn.1
  refine ⟨_,h,List.Perm.refl _,aL rfl,fun J θ hf=>?_⟩
  have ⟨h1,u,h2,h3⟩:=bu hf hx
  refine OpT.weak (wo (d:=[u]) (u:=u) h2 hdk.ti ho (aC (θ:=θ) hx) hdk.one (by grind) (by grind) (by grind)) (fun v hv0=>?_) (fun v hv0=>rfl)
  have hh:hv (upd θ s.nxt v) ⟨s.nxt,[]⟩=v:=fq
  exact ⟨⟨au _,by grind⟩,hh,fun g hg=>by cases hg⟩
 grind
theorem I5 (hT:TTok P tt) {T:TypeId} {f:Nat} (ho:o.op= .fieldAddr T x f) (h:Ls tt s k T x f=some res):Oks P w0 s o k res:=by
 have ⟨d,hd,h⟩:=bind_some h
 have ⟨q,hq,h⟩:=bind_some h
 have hf:=(hT.get hd).fld f q hq
 split at h
 ·rename_i hh T' t a off hx
  exact ⟨_,h,eF (fun J θ hF=>kL hf ho (aC (θ:=θ) hx)) fun J θ hF=>(by have:=bu hF hx;exact this)⟩
 grind
end
end R
namespace R
open Go.RowKit
open D
section
variable {P:Program} {I:Hp} {w0:World} {o:Oper} {ev:Operand->Value}
theorem Ho {x:Operand} {a:Addr} (ho:o.op= .nilCheck x) (hx:ev x= .pointer (some a)):OpT P I w0 o ev [] (· = .pointer (some a)) (fun _=>[]):=
 a6 fun w=>by simp_all[execOp]
theorem Ud {x y:Operand} {T U:TypeId} {m n:Int} (ho:o.op= .call { callee:=.builtin .min,args:= #[x,y],argTypes:= #[T,U] }) (hx:ev x= .int .i64 m) (hy:ev y= .int .i64 n):OpT P I w0 o ev [] (· = .int .i64 (min m n)) (fun _=>[]):=
 a6 fun w=>by
  have e:min m n=if n<m then n else m:=by omega
  simp_all[execOp,resolve,invoke,builtin,Builtin.min_,Builtin.min2]
theorem Ue {x y:Operand} {T U:TypeId} {m n:Int} (ho:o.op= .call { callee:=.builtin .max,args:= #[x,y],argTypes:= #[T,U] }) (hx:ev x= .int .i64 m) (hy:ev y= .int .i64 n):OpT P I w0 o ev [] (· = .int .i64 (max m n)) (fun _=>[]):=
 a6 fun w=>by
  have e:max m n=if m<n then n else m:=by omega
  simp_all[execOp,resolve,invoke,builtin,Builtin.max_,Builtin.max2]
theorem Aq {t e:TypeId} {a:Option Addr} {w:World} (hT:P.underlying t=some (.pointer e)):(Op.equal t (.pointer a) (.pointer none)).run P w= .ok a.isNone w:=by
 have key: ∀n,(Op.equalIn (n+1) t (.pointer a) (.pointer none)).run P w= .ok a.isNone w:=fun n=>by
  unfold Op.equalIn
  rw[Sem.run_bind,run_underlying hT,Result.andThen_ok]
  cases a <;> rfl
 exact key 9999
theorem Lu {t e:TypeId} {a:Option Addr} {l c:Nat} {w:World} (hT:P.underlying t=some (.slice e)):(Op.equal t (.slice a l c) (.slice none 0 0)).run P w= .ok (Dc (.slice a l c)) w:=by
 have key: ∀n,(Op.equalIn (n+1) t (.slice a l c) (.slice none 0 0)).run P w= .ok (Dc (.slice a l c)) w:=fun n=>by
  unfold Op.equalIn
  rw[Sem.run_bind,run_underlying hT,Result.andThen_ok]
  cases a <;> rfl
 exact key 9999
theorem Fv {x y:Operand} {t u e:TypeId} {a:Option Addr} {l c:Nat} (hT:P.underlying t=some (.slice e)) (ho:o.op= .binOp .eql t x y u) (hx:ev x= .slice a l c) (hy:ev y= .slice none 0 0):OpT P I w0 o ev [] (· = .bool (Dc (.slice a l c))) (fun _=>[]):=
 a6 fun w=>by
  have g1:eqGuard .eql t x y (.slice a l c) (.slice none 0 0)=pure ():=rfl
  have g2:binOp .eql t (.slice a l c) (.slice none 0 0)=(do pure (.bool (<-Op.equal t (.slice a l c) (.slice none 0 0)))):=rfl
  simp_all[execOp,Sem.run_bind,Sem.run_pure,Lu,Result.andThen_ok]
theorem Lv {x y:Operand} {t u e:TypeId} {a:Option Addr} (hT:P.underlying t=some (.pointer e)) (ho:o.op= .binOp .eql t x y u) (hx:ev x= .pointer a) (hy:ev y= .pointer none):OpT P I w0 o ev [] (· = .bool a.isNone) (fun _=>[]):=
 a6 fun w=>by
  have g1:eqGuard .eql t x y (.pointer a) (.pointer none)=pure ():=rfl
  have g2:binOp .eql t (.pointer a) (.pointer none)=(do pure (.bool (<-Op.equal t (.pointer a) (.pointer none)))):=rfl
  simp_all[execOp,Sem.run_bind,Sem.run_pure,Aq,Result.andThen_ok]
theorem Lw {x y:Operand} {t u e:TypeId} {a:Option Addr} (hT:P.underlying t=some (.pointer e)) (ho:o.op= .binOp .neq t x y u) (hx:ev x= .pointer a) (hy:ev y= .pointer none):OpT P I w0 o ev [] (· = .bool (!a.isNone)) (fun _=>[]):=
 a6 fun w=>by
  have g1:eqGuard .neq t x y (.pointer a) (.pointer none)=pure ():=rfl
  have g2:binOp .neq t (.pointer a) (.pointer none)=(do pure (.bool (!(<-Op.equal t (.pointer a) (.pointer none))))):=rfl
  simp_all[execOp,Sem.run_bind,Sem.run_pure,Aq,Result.andThen_ok]
end
section
variable {Y:Type} (tt:TT) (s:Sg) (k:Res->Option Y)
def Uf (x:Operand):Option Y:=match opd s x with
 | some (.one (.ptr h off))=>k (.pure s (.one (.ptr h off)))
 | some (.one (.rd h (.tree T E t) d))=>(Tr.get d).bind fun _=>k (.pure s (.one (.rd h (.tree T E t) d)))
 | _=>none
def Y2 (x y:Operand):Option Y:=match opd s x,opd s y with
 | some (.one (.val (.int .i64 m))),some (.one (.val (.int .i64 n)))=>kv s k (.int .i64 (min m n))
 | _,_=>none
def Y3 (x y:Operand):Option Y:=match opd s x,opd s y with
 | some (.one (.val (.int .i64 m))),some (.one (.val (.int .i64 n)))=>kv s k (.int .i64 (max m n))
 | _,_=>none
def Y4 (b:BinOp) (T:TypeId) (x y:Operand):Option Y:=(td tt T).bind fun q=>q.pt.bind fun _=>match opd s x,opd s y with
 | some (.one (.rd h (.tree T' E t) d)),some (.one (.val v))=>bw (Am v) (match b with
  | .eql=>kv s k (.bool d.isNil)
  | .neq=>k (.pure s (.one (.nb d.isNil)))
  | _=>none)
 | some (.one (.ptr h off)),some (.one (.val v))=>bw (Am v) (match b with
  | .eql=>kv s k (.bool false)
  | .neq=>kv s k (.bool true)
  | _=>none)
 | _,_=>none
def YB (b:BinOp) (T:TypeId) (x y:Operand):Option Y:=(td tt T).bind fun q=>q.el.bind fun _=>match opd s x,opd s y,b with
 | some (.one (.rdn h b (.sl E t) d)),some (.one (.val v)),.eql=>bw (isNil v) (kv s k (.bool b))
 | some (.one (.own h)),some (.one (.val v)),.eql=>bw (isNil v) ((rowOf h s.chs).bind fun r=>(chk (0<(r.xs.length:Int))).bind fun _=>k ⟨[r.ent h],[],r.rest,[],.one (.val (.bool false))⟩)
 | some (.one (.val u)),some (.one (.val v)),.eql=>bw (isNil v&&isNil u) (kv s k (.bool true))
 | _,_,_=>none
def Lx (T:TypeId) (x:Operand) (f:Nat):Option Y:=(td tt T).bind fun d=>(d.fields[f]?).bind fun q=>match opd s x with
 | some (.one (.rd h (.tree T' E t) a))=>(Tr.get a).bind fun p=>k (.pure s (.one (.fz h T' (.prod t (.sl E (.tree T' E t))) p q.1)))
 | _=>none
def Y5 (s:Sg) (x:Operand):Option (Hdr×(E:TypeId)×(t:Ty)×List t.den):=match opd s x with
 | some (.one (.rd h (.sl E t) xs))=>some (h,⟨E,t,xs⟩)
 | _=>none
def asI (s:Sg) (x:Operand):Option Int:=match opd s x with
 | some (.one (.val (.int .i64 m)))=>some m
 | _=>none
def Py (E:TypeId) (t:Ty) (xs:List t.den):Option Y:=k (.pure s (.one (.rd ⟨s.nxt,[]⟩ (.sl E t) xs)))
def Ly (T:TypeId) (x:Operand) (lo hi:Option Operand):Option Y:=(td tt T).bind fun d=>d.el.bind fun E'=>(td tt E').bind fun e=>(Y5 s x).bind fun r=>bw (Nat.beq e.n r.2.2.1.size) (match lo,hi with
 | some l,none=>(asI s l).bind fun l=>(chk (0<=l/\l<=(r.2.2.2.length:Int))).bind fun _=>Py s k r.2.1 r.2.2.1 (r.2.2.2.drop l.toNat)
 | none,some h=>(asI s h).bind fun h=>(chk (0<=h/\h<=(r.2.2.2.length:Int))).bind fun _=>Py s k r.2.1 r.2.2.1 (r.2.2.2.take h.toNat)
 | some l,some h=>(asI s l).bind fun l=>(asI s h).bind fun h=>(chk (0<=l/\l<=h/\h<=(r.2.2.2.length:Int))).bind fun _=>Py s k r.2.1 r.2.2.1 ((r.2.2.2.take h.toNat).drop l.toNat)
 | none,none=>none)
def Lz (T:TypeId) (x:Operand) (lo hi:Option Operand):Option Y:=(td tt T).bind fun d=>match d.el,opd s x,lo,hi with
 | some E',some (.one (.own h)),none,some hi=>(rowOf h s.chs).bind fun r=>(td tt E').bind fun e=>bw (Nat.beq e.n r.t.size) ((asI s hi).bind fun m=>(chk (0<=m/\m<=(r.xs.length:Int))).bind fun _=>newRow s k r.E r.t [r.ent h] r.rest (r.xs.take m.toNat))
 | _,_,_,_=>none
def LA (T:TypeId) (x:Operand) (lo hi:Option Operand):Option Y:=(td tt T).bind fun d=>match d.el,opd s x,lo,hi with
 | some E',some (.one (.own h)),some lo,none=>(rowOf h s.chs).bind fun r=>(td tt E').bind fun e=>bw (Nat.beq e.n r.t.size) ((asI s lo).bind fun m=>(chk (0<=m/\m<=(r.xs.length:Int))).bind fun _=>newRow s k r.E r.t [r.ent h] r.rest (r.xs.drop m.toNat))
 | _,_,_,_=>none
def LB (T:TypeId) (x:Operand) (lo hi:Option Operand):Option Y:=(td tt T).bind fun d=>match d.el,opd s x,lo,hi with
 | some E',some (.one (.own h)),some lo,none=>(rowOf h s.chs).bind fun r=>(td tt E').bind fun e=>bw (Nat.beq e.n r.t.size) ((asI s lo).bind fun m=>(chk (0<=m/\m<=(r.xs.length:Int))).bind fun _=>k ⟨[r.ent h],[],r.rest,[],.sub h r.ver r.E r.t r.xs m⟩)
 | _,_,_,_=>none
def LC (T:TypeId) (x:Operand) (lo hi:Option Operand):Option Y:=(td tt T).bind fun d=>match d.el,opd s x,lo,hi with
 | some E',some (.one (.own h)),none,some hi=>(rowOf h s.chs).bind fun r=>(td tt E').bind fun e=>bw (Nat.beq e.n r.t.size) ((asI s hi).bind fun m=>(chk (0<=m/\m<=(r.xs.length:Int))).bind fun _=>k ⟨[r.ent h],[],r.rest,[],.pre h r.ver r.E r.t r.xs m⟩)
 | _,_,_,_=>none
structure Src0 where
 h:Hdr
 sub:Bool
 ver:Nat
 lo:Int
def R4:AV->Option Src0
 | .one (.own h)=>some ⟨h,false,0,0⟩
 | .sub h ver _ _ _ l=>some ⟨h,true,ver,l⟩
 | _=>none
def R5 (h:Hdr) (ver:Nat) (E:TypeId) (k1:IntKind) (xs:List Int) (rest:List Ent) (lo:Int) (y:AV):Option Y:=match y with
 | .one (.rd _ (.sl _ (.int k2)) ys)=>bw (k1==k2) ((chk (0<=lo/\lo<=(xs.length:Int))).bind fun _=>k ⟨[],[(h,ver,.own (.sl E (.int k1)) xs)],rest,[(h,.own (.sl E (.int k1)) (CW xs lo.toNat ys))],.one (.val (.int .i64 ((min ys.length (xs.length - lo.toNat):Nat):Int)))⟩)
 | .pre h2 v2 _ _ _ hi=>bw (Hdr.beq h2 h&&Nat.beq v2 ver) ((chk (0<=lo/\lo<=(xs.length:Int))).bind fun _=>(chk (0<=hi/\hi<=(xs.length:Int))).bind fun _=>k ⟨[],[(h,ver,.own (.sl E (.int k1)) xs)],rest,[(h,.own (.sl E (.int k1)) (CW xs lo.toNat (xs.take hi.toNat)))],.one (.val (.int .i64 ((min (xs.take hi.toNat).length (xs.length - lo.toNat):Nat):Int)))⟩)
 | _=>none
def Fw (r:Row):Option ((k:IntKind)×List Int):=match r.t,r.xs with
 | .int k,xs=>some ⟨k,xs⟩
 | _,_=>none
def WE (T:TypeId) (x y:Operand):Option Y:=(td tt T).bind fun d=>d.el.bind fun E=>(td tt E).bind fun e=>bw (Nat.beq e.n 1) ((opd s x).bind fun xv=>(R4 xv).bind fun c=>(rowOf c.h s.chs).bind fun r=>bw (Nat.beq r.E E&&(!c.sub || Nat.beq c.ver r.ver)) ((Fw r).bind fun q=>(opd s y).bind fun yv=>R5 k c.h r.ver r.E q.1 q.2 r.rest c.lo yv))
def LD (E b:Nat) (x:Operand):Option Y:=match opd s x with
 | some (.sub h ver E' t xs l)=>(rowOf h s.chs).bind fun r=>bw (Nat.beq r.ver ver&&(t.sh&&Nat.beq t.size 1)) ((cP b [] (xs.drop l.toNat)).bind fun zs=>k ⟨[r.ent h],[],r.rest,[(⟨s.nxt,[]⟩,.own (.sl E t) zs)],.one (.own ⟨s.nxt,[]⟩)⟩)
 | some (.one (.own h))=>(rowOf h s.chs).bind fun r=>bw (r.t.sh&&Nat.beq r.t.size 1) ((cP b [] r.xs).bind fun zs=>k ⟨[r.ent h],[],r.rest,[(⟨s.nxt,[]⟩,.own (.sl E r.t) zs)],.one (.own ⟨s.nxt,[]⟩)⟩)
 | some (.one (.rd h (.sl E' t) xs))=>bw (t.sh&&Nat.beq t.size 1) ((cP b [] xs).bind fun zs=>newRow s k E t [] s.chs zs)
 | _=>none
end
section
variable {Y:Type} {tt:TT} {s:Sg} {k:Res->Option Y} {P:Program} {w0:World} {o:Oper} {res:Y} {x y:Operand}
theorem Pz {av:AV} {fact:Hp->Th->Value->Prop} (hop: ∀J θ,Fine P w0 J θ s->OpT P J w0 o (evL (envL θ s)) [] (fact J θ) (fun _=>[])) (hok: ∀J θ v,Fine P w0 J θ s->fact J θ v->av.ok P w0 J (upd θ s.nxt v) (s.nxt+1) s.chs/\av.v (upd θ s.nxt v)=v):Good P w0 s o (Res.pure s av):=
 ⟨List.Perm.refl _,fun _ _ _ g hg=>(by cases hg),fun J θ hf=>OpT.weak (hop J θ hf) (fun v hv=>by
  have ⟨h1,h2⟩:=hok J θ v hf hv
  exact ⟨h1,h2,fun g hg=>by cases hg⟩) (fun v hv=>rfl)⟩
theorem PA (ho:o.op= .nilCheck x) (h:Uf s k x=some res):Oks P w0 s o k res:=by
 unfold Uf at h
 split at h
 ·rename_i hh off hx
  exact ⟨_,h,eF (fun J θ hf=>Ho ho (aC hx)) fun J θ hf=>bu hf hx⟩
 ·rename_i hh T E t d hx
  have ⟨p,hp,h⟩:=bind_some h
  refine ⟨_,h,eF (fun J θ hf=>?_) fun J θ hf=>bu hf hx⟩
  have hxo:=bu hf hx
  obtain ⟨b,e,-⟩:=G5 (E:=E) hxo.2 hp
  have hev:=(aC hx).trans e
  grind[Ho,aC]
 grind
theorem Ug {T U:TypeId} (ho:o.op= .call { callee:=.builtin .min,args:= #[x,y],argTypes:= #[T,U] }) (h:Y2 s k x y=some res):Oks P w0 s o k res:=by
 unfold Y2 at h
 split at h
 ·rename_i m n hx hy
  exact jS h rfl fun J θ hf=>Ud ho (aC hx) (aC hy)
 grind
theorem Uh {T U:TypeId} (ho:o.op= .call { callee:=.builtin .max,args:= #[x,y],argTypes:= #[T,U] }) (h:Y3 s k x y=some res):Oks P w0 s o k res:=by
 unfold Y3 at h
 split at h
 ·rename_i m n hx hy
  exact jS h rfl fun J θ hf=>Ue ho (aC hx) (aC hy)
 grind
theorem LF (hT:TTok P tt) {b:BinOp} {t u:TypeId} (ho:o.op= .binOp b t x y u) (h:Y4 tt s k b t x y=some res):Oks P w0 s o k res:=by
 have ⟨q,hq,h⟩:=bind_some h
 have ⟨e,he,h⟩:=bind_some h
 have hpt:=(hT.get hq).pt e he
 split at h
 ·rename_i hh T' E t' d v hx hy
  have ⟨hn,h⟩:=aj h
  have hn:=xK hn
  subst hn
  have key: ∀J θ,Fine P w0 J θ s-> ∃a:Option Addr,evL (envL θ s) x= .pointer a/\a.isNone=d.isNil:=fun J θ hf=>by
   have hxo:=bu hf hx
   have ⟨a,e1,e2⟩:=O5 hxo.2
   exact ⟨a,(aC hx).trans e1,e2⟩
  split at h
  ·refine jS h rfl fun J θ hf=>?_
   have ⟨a,e1,e2⟩:=key J θ hf
   rw[<-e2]
   exact Lv hpt ho e1 (aC hy)
  ·refine ⟨_,h,eF (fun J θ hf=>?_) fun _ _ _=>trivial⟩
   have ⟨a,e1,e2⟩:=key J θ hf
   rw[<-e2]
   exact Lw hpt ho e1 (aC hy)
  grind
 ·rename_i hh off v hx hy
  have ⟨hn,h⟩:=aj h
  have hn:=xK hn
  subst hn
  split at h
  ·exact jS h rfl fun J θ hf=>Lv hpt ho (aC hx) (aC hy)
  ·exact jS h rfl fun J θ hf=>Lw hpt ho (aC hx) (aC hy)
  grind
 grind
theorem Fx (hT:TTok P tt) {b:BinOp} {t u:TypeId} (ho:o.op= .binOp b t x y u) (h:YB tt s k b t x y=some res):Oks P w0 s o k res:=by
 have ⟨q,hq,h⟩:=bind_some h
 have ⟨e,he,h⟩:=bind_some h
 have hel:=(hT.get hq).el e he
 split at h
 ·rename_i hh b' E t' d v hx hy _ _
  have ⟨hn,h⟩:=aj h
  have hn:=l8 hn
  subst hn
  refine jS h rfl fun J θ hf=>?_
  have hxo:=bu hf hx
  obtain ⟨h1,⟨ao,cap,h2,-⟩,h3⟩:=hxo
  have h2:hv θ hh= .slice ao d.length cap:=by simpa using h2
  rw[h2] at h3
  rw[<-h3]
  exact Fv hel ho ((aC hx).trans h2) (aC hy)
 ·rename_i hh v hx hy _ _
  have ⟨hn,h⟩:=aj h
  have hn:=l8 hn
  subst hn
  have ⟨r,hr,h⟩:=bind_some h
  have ⟨u0,hc,h⟩:=bind_some h
  have hc:=bD hc
  obtain ⟨hp,-⟩:=bf hr
  refine ⟨_,h,ma hp,aL rfl,fun J θ hf=>OpT.weak (tc (fact:=(· = .bool false)) fun hD=>?_) (fun u hu=>?_) (fun u hu=>rfl)⟩
  ·have ⟨ao,cap,e1,e2,e3⟩:=hD
   obtain ⟨bb,off,rfl⟩:=e2 (by omega)
   exact Fv hel ho ((aC hx).trans e1) (aC hy)
  ·subst hu
   exact ⟨Eq.refl true,rfl,fun g hg=>by cases hg⟩
 ·rename_i u v hx hy _ _
  have ⟨hn,h⟩:=aj h
  rw[ah] at hn
  have hv:=l8 hn.1
  have hu:=l8 hn.2
  subst hv
  subst hu
  exact jS h rfl fun J θ hf=>Fv hel ho (aC hx) (aC hy)
 grind
theorem I6 (hT:TTok P tt) {T:TypeId} {f:Nat} (ho:o.op= .fieldAddr T x f) (h:Lx tt s k T x f=some res):Oks P w0 s o k res:=by
 have ⟨d,hd,h⟩:=bind_some h
 have ⟨q,hq,h⟩:=bind_some h
 split at h
 ·rename_i hh T' E t a hx
  have ⟨p,hp,h⟩:=bind_some h
  have hfl:=(hT.get hd).fld f q hq
  have key: ∀J θ,Fine P w0 J θ s->hh.id<s.nxt/\ ∃b,hv θ hh= .pointer (some ⟨b,0,none⟩)/\ ∃cells:List Value,J b=some (.cells cells.toArray T' (0,0))/\(Ty.prod t (.sl E (.tree T' E t))).rep.rd J cells p:=fun J θ hf=>by
   have hxo:=bu hf hx
   have ⟨b,e,cells,k1,k2⟩:=G5 (E:=E) hxo.2 hp
   exact ⟨hxo.1,b,e,cells,k1,k2⟩
  refine ⟨_,h,eF (fun J θ hf=>?_) fun J θ hf=>?_⟩
  ·obtain ⟨-,b,e,-⟩:=key J θ hf
   have hev:=(aC hx).trans e
   have:=kL (P:=P) (I:=J) (w0:=w0) hfl ho hev
   rw[Nat.zero_add] at this
   show OpT P J w0 o _ [] (· = .pointer (some ⟨bk (hv θ hh),q.1,none⟩)) _
   rw[e]
   exact this
  ·have ⟨h1,b,e,cells,k1,k2⟩:=key J θ hf
   exact ⟨h1,cells,by rw[e];exact k1,k2⟩
 grind
theorem Ui {r:Hdr×(E:TypeId)×(t:Ty)×List t.den} (h:Y5 s x=some r):opd s x=some (.one (.rd r.1 (.sl r.2.1 r.2.2.1) r.2.2.2)):=by
 grind[Y5,ae]
theorem mJ {m:Int} (h:asI s x=some m) (θ:Th):evL (envL θ s) x= .int .i64 m:=by
 unfold asI at h
 split at h
 ·rename_i hx
  cases ae h
  exact aC hx
 grind
theorem BV {E:TypeId} {t:Ty} {xs:List t.den} (h:Py s k E t xs=some res) (hop: ∀J θ,Fine P w0 J θ s->OpT P J w0 o (evL (envL θ s)) [] (fun v=>(Ty.sl E t).rep.rd J [v] xs) (fun _=>[])):Oks P w0 s o k res:=
 ⟨_,h,Pz (fact:=fun J θ v=>(Ty.sl E t).rep.rd J [v] xs) hop fun J θ v hf hv'=>⟨⟨au _,by grind[cW]⟩,cW⟩⟩
theorem I7 (hT:TTok P tt) {T:TypeId} {lo hi:Option Operand} (ho:o.op= .slice T x lo hi none) (h:Ly tt s k T x lo hi=some res):Oks P w0 s o k res:=by
 have ⟨d,hd,h⟩:=bind_some h
 have ⟨E',hE,h⟩:=bind_some h
 have ⟨e,he,h⟩:=bind_some h
 have ⟨⟨hh,E,t,xs⟩,hr,h⟩:=bind_some h
 have hx:=Ui hr
 have ⟨hn,h⟩:=aj h
 have hn:=aq hn
 have hdE:=(hT.get hd).el E' hE
 have hti:=(hT.get he).ti
 have key: ∀J θ,Fine P w0 J θ s->(aw E t.rep).rd J [hv θ hh] xs:=fun J θ hf=>(bu hf hx).2
 have hsz:=t.rep_size.trans hn.symm
 split at h
 ·have ⟨m,hm,h⟩:=bind_some h
  have ⟨u,hc,h⟩:=bind_some h
  have hc:=bD hc
  refine BV h fun J θ hf=>OpT.weak (sX hdE hti (Hd.of_rd (key J θ hf)) ho (aC hx) (mJ hm θ) hc) (fun v hv'=>?_) (fun v hv'=>rfl)
  subst hv'
  exact GZ (key J θ hf) (by grind) hsz
 ·have ⟨m,hm,h⟩:=bind_some h
  have ⟨u,hc,h⟩:=bind_some h
  have hc:=bD hc
  refine BV h fun J θ hf=>OpT.weak (sY hdE hti (Hd.of_rd (key J θ hf)) ho (aC hx) (mJ hm θ) hc) (fun v hv'=>?_) (fun v hv'=>rfl)
  subst hv'
  exact O1 (key J θ hf) (by omega) hsz
 ·have ⟨m,hm,h⟩:=bind_some h
  have ⟨m2,hm2,h⟩:=bind_some h
  have ⟨u,hc,h⟩:=bind_some h
  have hc:=bD hc
  refine BV h fun J θ hf=>OpT.weak (Da hdE hti (Hd.of_rd (key J θ hf)) ho (aC hx) (mJ hm θ) (mJ hm2 θ) hc) (fun v hv'=>?_) (fun v hv'=>rfl)
  subst hv'
  exact GY (key J θ hf) (by omega) (by omega) hsz
 grind
theorem PB {α:Type} {E:TypeId} {R:Rep α} {I:Hp} {w:World} {C:List Ch} {v:Value} {xs:List α} {m n:Nat} (h:St I w0 w (Ch.own (aw E R) [v] xs::C)) (hm:m<=xs.length) (hn:R.size=n):St I w0 w (Ch.own (aw E R) [pU v m xs.length n] (xs.drop m)::C):=by
 obtain ⟨h1,h2,F,⟨G,K,rfl,k,e⟩,h4,h5⟩:=h
 have ⟨hl,k⟩:=k
 have hlen:(xs.drop m).length=xs.length - m:=bC
 rcases k with ⟨hv',rfl,rfl⟩ | ⟨g,ofs,cap,cur,K1,hv',k1,k2,k3,k4,rfl,k5⟩
 ·obtain rfl:v= .slice none 0 0:=by grind
  obtain rfl:m=0:=by grind
  refine ⟨h1,h2,[] ++K,⟨[],K,rfl,⟨by simp,.inl ⟨?_,rfl,rfl⟩⟩,e⟩,h4,h5⟩
  rfl
 ·rw[<-List.take_append_drop m xs] at k5
  obtain ⟨c1,c2,G1,G2,f1,f2,rfl,-,q1⟩:=k5.cut2
  have hp:((g::(G1++G2))++K).Perm (((g::G2)++K)++G1):=by
   rw[aD]
   have:((G1++G2)++K).Perm (G2++(K++G1)):=by
    rw[aD,<-aD G2 K G1];exact List.perm_append_comm
   exact this.cons g
  have hdr:cur.toList.drop (ofs+m*R.size)=c2:=by
   rw[<-List.drop_drop,f1]
   have:(xs.take m).length=m:=by rw[aF];omega
   rw[this] at f2
   exact List.drop_left' f2
  by_cases hc:cap=m
  ·have hx0:xs.drop m= []:=List.eq_nil_of_length_eq_zero (by omega)
   rw[hx0] at q1
   obtain rfl:G2= []:=q1
   refine ⟨h1,h2,(g:: [])++K,⟨g:: [],K,rfl,⟨by omega,.inr ⟨g,ofs,0,cur,[],?_,k1,by omega,Nat.zero_le _,by omega,rfl,by rw[hx0];rfl⟩⟩,e⟩,(List.nodup_append.1 (hp.nodup_iff.1 h4)).1,fun b hb=>h5 b (hp.mem_iff.2 (aT _ hb))⟩
   grind[pU,sliced]
  ·refine ⟨h1,h2,(g::G2)++K,⟨g::G2,K,rfl,⟨by omega,.inr ⟨g,ofs+m*R.size,cap - m,cur,G2,?_,k1,by omega,by omega,?_,rfl,by grind⟩⟩,e⟩,(List.nodup_append.1 (hp.nodup_iff.1 h4)).1,fun b hb=>h5 b (hp.mem_iff.2 (aT _ hb))⟩
   ·grind[pU,sliced,Addr.add_mid]
   ·have:m*R.size+(cap - m)*R.size=cap*R.size:=by rw[<-Nat.add_mul];congr 1;omega
    omega
theorem PC {α:Type} {E:TypeId} {R:Rep α} {I:Hp} {w:World} {C:List Ch} {v:Value} {xs:List α} {m n:Nat} (h:St I w0 w (Ch.own (aw E R) [v] xs::C)) (hm:m<=xs.length) (hn:R.size=n):St I w0 w (Ch.own (aw E R) [pU v 0 m n] (xs.take m)::C):=by
 obtain ⟨h1,h2,F,⟨G,K,rfl,k,e⟩,h4,h5⟩:=h
 have ⟨hl,k⟩:=k
 have hlen:(xs.take m).length=m:=by rw[aF];omega
 rcases k with ⟨hv',rfl,rfl⟩ | ⟨g,ofs,cap,cur,K1,hv',k1,k2,k3,k4,rfl,k5⟩
 ·obtain rfl:v= .slice none 0 0:=by grind
  obtain rfl:m=0:=by grind
  refine ⟨h1,h2,[] ++K,⟨[],K,rfl,⟨by simp,.inl ⟨?_,rfl,rfl⟩⟩,e⟩,h4,h5⟩
  rfl
 ·rw[<-List.take_append_drop m xs] at k5
  obtain ⟨G1,G2,rfl,q1,-⟩:=k5.parts
  have hp:((g::(G1++G2))++K).Perm (((g::G1)++K)++G2):=by
   rw[aD]
   show (g::((G1++G2)++K)).Perm (g::(G1++(K++G2)))
   rw[aD]
   exact (List.perm_append_comm.append_left G1).cons g
  refine ⟨h1,h2,(g::G1)++K,⟨g::G1,K,rfl,⟨by omega,.inr ⟨g,ofs,cap,cur,G1,?_,k1,by omega,k3,k4,rfl,q1⟩⟩,e⟩,(List.nodup_append.1 (hp.nodup_iff.1 h4)).1,fun b hb=>h5 b (hp.mem_iff.2 (aT _ hb))⟩
  grind[pU,sliced,Addr.add]
theorem I8 (hT:TTok P tt) {T:TypeId} {lo hi:Option Operand} (ho:o.op= .slice T x lo hi none) (h:Lz tt s k T x lo hi=some res):Oks P w0 s o k res:=by
 have ⟨d,hd,h⟩:=bind_some h
 split at h
 ·rename_i E' hh hi' he hx _
  have ⟨r,hr,h⟩:=bind_some h
  have ⟨e,hE,h⟩:=bind_some h
  have ⟨hn,h⟩:=aj h
  have hn:=aq hn
  have ⟨m,hm,h⟩:=bind_some h
  have ⟨u,hc,h⟩:=bind_some h
  have hc:=bD hc
  obtain ⟨hp,-⟩:=bf hr
  have hsz:=r.t.rep_size.trans hn.symm
  refine ⟨_,h,good_row (rs:=[]) (zQ hp) fun J θ hf=>?_⟩
  have h1:OpT P J w0 o (evL (envL θ s)) [Ch.own (aw r.E r.t.rep) [hv θ hh] r.xs] (· =pU (hv θ hh) 0 m.toNat e.n) (fun _=>[Ch.own (aw r.E r.t.rep) [hv θ hh] r.xs]):=tc fun hD=>sY ((hT.get hd).el _ he) (hT.get hE).ti hD ho (aC hx) (mJ hm θ) hc
  refine OpT.post h1 fun v w C hv' hs=>⟨trivial,?_⟩
  subst hv'
  exact PC hs (by omega) hsz
 grind
theorem I9 (hT:TTok P tt) {T:TypeId} {lo hi:Option Operand} (ho:o.op= .slice T x lo hi none) (h:LA tt s k T x lo hi=some res):Oks P w0 s o k res:=by
 have ⟨d,hd,h⟩:=bind_some h
 split at h
 ·rename_i E' hh lo' he hx _
  have ⟨r,hr,h⟩:=bind_some h
  have ⟨e,hE,h⟩:=bind_some h
  have ⟨hn,h⟩:=aj h
  have hn:=aq hn
  have ⟨m,hm,h⟩:=bind_some h
  have ⟨u,hc,h⟩:=bind_some h
  have hc:=bD hc
  obtain ⟨hp,-⟩:=bf hr
  have hsz:=r.t.rep_size.trans hn.symm
  refine ⟨_,h,good_row (rs:=[]) (zQ hp) fun J θ hf=>?_⟩
  have h1:OpT P J w0 o (evL (envL θ s)) [Ch.own (aw r.E r.t.rep) [hv θ hh] r.xs] (· =pU (hv θ hh) m.toNat r.xs.length e.n) (fun _=>[Ch.own (aw r.E r.t.rep) [hv θ hh] r.xs]):=tc fun hD=>sX ((hT.get hd).el _ he) (hT.get hE).ti hD ho (aC hx) (mJ hm θ) hc
  refine OpT.post h1 fun v w C hv' hs=>⟨trivial,?_⟩
  subst hv'
  exact PB hs (by omega) hsz
 grind
theorem LG {h:Hdr} {ver:Nat} {E:TypeId} {t:Ty} {xs:List t.den} {l:Int} {J:Hp} {θ:Th} {r:Row} (hr:rowOf h s.chs=some r) (hv:r.ver=ver) (hm:AV.ok P w0 J θ s.nxt s.chs (.sub h ver E t xs l)):r.ent h=(h,ver,.own (.sl E t) xs):=by
 obtain ⟨hp,-⟩:=bf hr
 have:=hm.2.2.2 (r.ent h) (hp.mem_iff.2 (by simp)) _ ⟨rfl,.inl ⟨hv,rfl⟩⟩
 show (h,r.ver,Chk.own (.sl r.E r.t) r.xs)=_
 rw[hv,show Chk.own (.sl r.E r.t) r.xs=_ from this]
theorem Ja (hT:TTok P tt) {T:TypeId} {lo hi:Option Operand} (ho:o.op= .slice T x lo hi none) (h:LB tt s k T x lo hi=some res):Oks P w0 s o k res:=by
 have ⟨d,hd,h⟩:=bind_some h
 split at h
 ·rename_i E' hh lo' he hx _
  have ⟨r,hr,h⟩:=bind_some h
  have ⟨e,hE,h⟩:=bind_some h
  have ⟨hn,h⟩:=aj h
  have hn:=aq hn
  have ⟨m,hm,h⟩:=bind_some h
  have ⟨u,hc,h⟩:=bind_some h
  have hc:=bD hc
  obtain ⟨hp,-⟩:=bf hr
  refine ⟨_,h,ma hp,aL rfl,fun J θ hf=>OpT.weak (tc (fact:=(· =pU (hv θ hh) m.toNat r.xs.length e.n)) fun hD=>sX ((hT.get hd).el _ he) (hT.get hE).ti hD ho (aC hx) (mJ hm θ) hc) (fun u hu=>?_) (fun u hu=>rfl)⟩
  have hok:=gU hf hp
  refine ⟨⟨aN hok.1,hc,(tZ hr hok.2.1).newer (Res.newer (ma hp) (aL rfl J θ hf)) (Nat.le_succ _)⟩,?_,fun g hg=>by cases hg⟩
  rw[hu,hn]
  show pU (hv (upd θ s.nxt _) hh) _ _ _=pU (hv θ hh) _ _ _
  rw[show hv (upd θ s.nxt _) hh=hv θ hh from aS Same.upd hok.1]
 grind
theorem Jb (hT:TTok P tt) {T:TypeId} {lo hi:Option Operand} (ho:o.op= .slice T x lo hi none) (h:LC tt s k T x lo hi=some res):Oks P w0 s o k res:=by
 have ⟨d,hd,h⟩:=bind_some h
 split at h
 ·rename_i E' hh hi' he hx _
  have ⟨r,hr,h⟩:=bind_some h
  have ⟨e,hE,h⟩:=bind_some h
  have ⟨hn,h⟩:=aj h
  have hn:=aq hn
  have ⟨m,hm,h⟩:=bind_some h
  have ⟨u,hc,h⟩:=bind_some h
  have hc:=bD hc
  obtain ⟨hp,-⟩:=bf hr
  refine ⟨_,h,ma hp,aL rfl,fun J θ hf=>OpT.weak (tc (fact:=(· =pU (hv θ hh) 0 m.toNat e.n)) fun hD=>sY ((hT.get hd).el _ he) (hT.get hE).ti hD ho (aC hx) (mJ hm θ) hc) (fun u hu=>?_) (fun u hu=>rfl)⟩
  have hok:=gU hf hp
  refine ⟨⟨aN hok.1,hc,(tZ hr hok.2.1).newer (Res.newer (ma hp) (aL rfl J θ hf)) (Nat.le_succ _)⟩,?_,fun g hg=>by cases hg⟩
  rw[hu,hn]
  show pU (hv (upd θ s.nxt _) hh) _ _ _=pU (hv θ hh) _ _ _
  rw[show hv (upd θ s.nxt _) hh=hv θ hh from aS Same.upd hok.1]
 grind
theorem Hq {e:Ent} {rest:List Ent} {t:Ty} {d:t.den} {v:Value} (hp:s.chs.Perm (e::rest)) (h1:v.oneCell'=true) (hop: ∀J θ,Fine P w0 J θ s->OpT P J w0 o (evL (envL θ s)) [toCh P θ e] (· =v) (fun _=>[Ch.own t.rep [hv θ e.1] d])):Good P w0 s o ⟨[],[e],rest,[(e.1,.own t d)],.one (.val v)⟩:=by
 refine ⟨zQ hp,aL rfl,fun J θ hf=>OpT.weak (hop J θ hf) (fun u hu=>?_) (fun u hu=>?_)⟩
 ·have hok:=gU hf hp
  refine ⟨h1,hu.symm,fun g hg=>?_⟩
  cases ak hg
  exact ⟨aN hok.1,au _,trivial⟩
 ·have hok:=gU hf hp
  show [Ch.own t.rep [hv θ e.1] d] = [Ch.own t.rep [hv (upd θ s.nxt u) e.1] d]
  rw[show hv (upd θ s.nxt u) e.1=hv θ e.1 from aS Same.upd hok.1]
theorem Fy {r:Row} {q:(k:IntKind)×List Int} {h:Hdr} (hq:Fw r=some q):r.ent h=(h,r.ver,.own (.sl r.E (.int q.1)) q.2):=by
 have ⟨ver,E,t,xs,rest⟩:=r
 unfold Fw at hq
 split at hq
 ·rename_i k xs' h1 h2
  cases ae hq
  subst h1
  cases eq_of_heq h2
  rfl
 grind
theorem PD (hT:TTok P tt) {T U:TypeId} (ho:o.op= .call { callee:=.builtin .copy,args:= #[x,y],argTypes:= #[T,U] }) (h:WE tt s k T x y=some res):Oks P w0 s o k res:=by
 have ⟨d,hd,h⟩:=bind_some h
 have ⟨E,hE,h⟩:=bind_some h
 have ⟨e,he,h⟩:=bind_some h
 have ⟨hn,h⟩:=aj h
 have hn:=aq hn
 have ⟨xv,hx,h⟩:=bind_some h
 have ⟨c,hc,h⟩:=bind_some h
 have ⟨r,hr,h⟩:=bind_some h
 have ⟨hver,h⟩:=aj h
 rw[ah] at hver
 have hrE:=aq hver.1
 have ⟨q,hq,h⟩:=bind_some h
 have ⟨yv,hy,h⟩:=bind_some h
 obtain ⟨hp,-⟩:=bf hr
 have hent:=Fy (h:=c.h) hq
 rw[hent,hrE] at hp
 have hTe:=(hT.get hd).el E hE
 have hsz:(P.info? E).map (·.size)=some 1:=by have:=(hT.get he).ti;rw[hn] at this;exact Wt this
 have hto: ∀J θ,Fine P w0 J θ s->(evL (envL θ s) x=hv θ c.h/\c.lo.toNat=0)\/evL (envL θ s) x=pU (hv θ c.h) c.lo.toNat q.2.length 1:=by
  intro J θ hf
  unfold R4 at hc
  split at hc
  ·cases ae hc
   exact .inl ⟨aC hx,rfl⟩
  ·rename_i hh ver' E' t' xs' l
   cases ae hc
   have hv2:ver'=r.ver:=aq (by grind)
   have h1:=LG hr hv2.symm (bu hf hx)
   rw[hent] at h1
   have h2:=(Prod.mk.inj (Prod.mk.inj h1).2).2
   injection h2 with h3 h4
   injection h3 with h5 h6
   subst h6
   cases eq_of_heq h4
   right
   rw[aC (θ:=θ) hx]
   rfl
  ·cases hc
 unfold R5 at h
 split at h
 ·rename_i hh E' k2 ys
  have ⟨hk,h⟩:=aj h
  have hk:q.1=k2:=by simpa using hk
  subst hk
  have ⟨u,hlo,h⟩:=bind_some h
  have hlo:=bD hlo
  rw[hrE] at h
  refine ⟨_,h,Hq (e:=(c.h,r.ver,.own (.sl E (.int q.1)) q.2)) hp rfl fun J θ hf=>?_⟩
  have l1:c.lo.toNat<=q.2.length:=by omega
  exact Fi (lo:=c.lo.toNat) (bu hf hy).2 hTe hsz ho rfl (aC hy) l1 (hto J θ hf)
 ·rename_i h2 v2 E' t' xs' hi
  have ⟨hk,h9⟩:=aj h
  rw[ah] at hk
  have e1:=Hdr.beq_eq hk.1
  subst e1
  have e2:=aq hk.2
  subst e2
  have ⟨u,hlo,h9⟩:=bind_some h9
  have hlo:=bD hlo
  have ⟨u,hhi,h9⟩:=bind_some h9
  have hhi:=bD hhi
  have l1:c.lo.toNat<=q.2.length:=by omega
  have l2:hi.toNat<=q.2.length:=by omega
  rw[hrE] at h9
  refine ⟨_,h9,Hq (e:=(c.h,r.ver,.own (.sl E (.int q.1)) q.2)) hp rfl fun J θ hf=>?_⟩
  have hyo:=bu hf hy
  have h1:=hyo.2.2.2 (c.h,r.ver,.own (.sl E (.int q.1)) q.2) (hp.mem_iff.2 (by simp)) _ ⟨rfl,.inl ⟨rfl,rfl⟩⟩
  injection h1 with h3 h4
  injection h3 with h5 h6
  subst h6
  exact Bt (lo:=c.lo.toNat) (hi:=hi.toNat) hTe hsz ho rfl ((aC hy).trans rfl) l1 l2 (hto J θ hf)
 grind
inductive All2 {α β:Type} (p:α->β->Prop):List α->List β->Prop
 | nil:All2 p [] []
 | cons {a:α} {b:β} {l:List α} {m:List β} (h:p a b) (k:All2 p l m):All2 p (a::l) (b::m)
theorem All2.length_eq {α β:Type} {p:α->β->Prop} {l:List α} {m:List β} (h:All2 p l m):l.length=m.length:=by
 induction h with
 | nil=>rfl
 | cons _ _ ih=>grind
theorem LH {α:Type} {R:Rep α} (hR:R.Sh) (h1:R.size=1) {I:Hp} {w:World} : ∀ {xs:List α} {cur:List Value} {K:List Nat},OwnEls R I w cur xs K-> ∃ps:List Raw,K= [] /\OwnEls E4 I w cur ps [] /\All2 (fun p x=>R.rd I [p.1] x) ps xs
 | [],cur,K,h=>⟨[],h,rfl,.nil⟩
 | x::xs,cur,K,⟨c,rest,G,K1,e1,e2,e3,e4,e5⟩=>by
  obtain ⟨rfl,hrd⟩:=hR e4
  obtain ⟨p,rfl⟩:=List.length_eq_one_iff.1 (e2.trans h1)
  obtain ⟨ps,rfl,k2,k3⟩:=LH hR h1 e5
  exact ⟨⟨p,R.rd_one hrd p (by simp)⟩::ps,e3,⟨[p],rest,[],[],e1,rfl,rfl,⟨rfl,rfl⟩,k2⟩,.cons hrd k3⟩
theorem LI {α:Type} {R:Rep α} (hC:Cpy R R) (h1:R.size=1) {I:Hp} {w:World} : ∀ {xs:List α} {ps:List Raw} {cur:List Value} {K:List Nat},OwnEls E4 I w cur ps K->All2 (fun p x=>R.rd I [p.1] x) ps xs->K= [] /\OwnEls R I w cur xs []
 | [],[],cur,K,h,_=>⟨h,rfl⟩
 | x::xs,p::ps,cur,K,h,hh=>by
  have ⟨c,rest,G,K1,e1,e2,e3,e4,e5⟩:=h
  cases hh with
  | cons hp hps =>
   obtain ⟨rfl,e4⟩:=e4
   obtain rfl:c= [p.1]:=e4
   obtain ⟨rfl,k⟩:=LI hC h1 e5 hps
   exact ⟨e3,[p.1],rest,[],[],e1,h1.symm,rfl,hC hp,k⟩
 | [],_::_,_,_,_,hh=>by cases hh
 | _::_,[],_,_,_,hh=>by cases hh
theorem Uj {α:Type} {E:TypeId} {R:Rep α} (hR:R.Sh) (h1:R.size=1) {I:Hp} {w:World} {C:List Ch} {v:Value} {xs:List α} (h:St I w0 w (Ch.own (aw E R) [v] xs::C)): ∃ps:List Raw,All2 (fun p x=>R.rd I [p.1] x) ps xs/\St I w0 w (Ch.own (aw E E4) [v] ps::C):=by
 obtain ⟨a1,a2,F,⟨G,K,rfl,⟨hl,k⟩,e⟩,a4,a5⟩:=h
 rcases k with ⟨hv',rfl,rfl⟩ | ⟨g,ofs,cap,cur,K1,hv',k1,k2,k3,k4,rfl,k5⟩
 ·exact ⟨[],.nil,a1,a2,[] ++K,⟨[],K,rfl,⟨Nat.zero_le _,.inl ⟨hv',rfl,rfl⟩⟩,e⟩,a4,a5⟩
 ·obtain ⟨ps,rfl,q1,q2⟩:=LH hR h1 k5
  have hlen:=q2.length_eq
  exact ⟨ps,q2,a1,a2,[g] ++K,⟨[g],K,rfl,⟨by omega,.inr ⟨g,ofs,cap,cur,[],by grind,k1,by omega,k3,by rw[h1] at k4;exact k4,rfl,q1⟩⟩,e⟩,a4,a5⟩
theorem Fz {α:Type} {E:TypeId} {R:Rep α} (hC:Cpy R R) (h1:R.size=1) {I:Hp} {w:World} {C:List Ch} {v:Value} {xs:List α} {ps:List Raw} (hp:All2 (fun p x=>R.rd I [p.1] x) ps xs) (h:St I w0 w (Ch.own (aw E E4) [v] ps::C)):St I w0 w (Ch.own (aw E R) [v] xs::C):=by
 obtain ⟨a1,a2,F,⟨G,K,rfl,⟨hl,k⟩,e⟩,a4,a5⟩:=h
 have hlen:=hp.length_eq
 rcases k with ⟨hv',rfl,rfl⟩ | ⟨g,ofs,cap,cur,K1,hv',k1,k2,k3,k4,rfl,k5⟩
 ·cases hp
  exact ⟨a1,a2,[] ++K,⟨[],K,rfl,⟨Nat.zero_le _,.inl ⟨hv',rfl,rfl⟩⟩,e⟩,a4,a5⟩
 ·obtain ⟨rfl,q1⟩:=LI hC h1 k5 hp
  exact ⟨a1,a2,[g] ++K,⟨[g],K,rfl,⟨by omega,.inr ⟨g,ofs,cap,cur,[],by grind,k1,by omega,k3,by rw[h1];exact k4,rfl,q1⟩⟩,e⟩,a4,a5⟩
theorem WG {α:Type} {E:TypeId} {R:Rep α} (h1:R.size=1) {I:Hp} {v:Value} {xs:List α} (h:(aw E R).rd I [v] xs): ∃ps:List Raw,All2 (fun p x=>R.rd I [p.1] x) ps xs/\(aw E E4).rd I [v] ps:=by
 obtain ⟨ao,cap,e,hl,h⟩:=h
 obtain rfl:v= .slice ao xs.length cap:=by grind
 rcases h with rfl | ⟨b,off,ccs,t,fr,rfl,h2,h3⟩
 ·exact ⟨[],.nil,ao,cap,rfl,hl,.inl rfl⟩
 ·have key: ∀(xs:List α) (k0:Nat),(∀i x,xs[i]? =some x-> ∃c:List Value,c.length=R.size/\(∀j,j<R.size->ccs.toList[off+(k0+i)*R.size+j]? =c[j]?)/\R.rd I c x)-> ∃ps:List Raw,All2 (fun p x=>R.rd I [p.1] x) ps xs/\ ∀i p,ps[i]? =some p->ccs.toList[off+(k0+i)]? =some p.1:=by
   intro xs
   induction xs with
   | nil=>intro k0 _;exact ⟨[],.nil,fun i p hp=>by grind⟩
   | cons x xs ih =>
    intro k0 h
    have ⟨c,e1,e2,e3⟩:=h 0 x rfl
    obtain ⟨p,rfl⟩:=List.length_eq_one_iff.1 (e1.trans h1)
    have ⟨ps,q1,q2⟩:=ih (k0+1) fun i y hy=>by
     have:=h (i+1) y (by grind)
     grind
    refine ⟨⟨p,R.rd_one e3 p (by simp)⟩::ps,.cons e3 q1,fun i u hu=>?_⟩
    cases i with
    | zero =>
     obtain rfl:⟨p,R.rd_one e3 p (by simp)⟩=u:=by grind
     simp_all
    | succ i =>
     grind
  have ⟨ps,q1,q2⟩:=key xs 0 (fun i x hx=>by grind)
  have hlen:=q1.length_eq
  refine ⟨ps,q1,_,cap,by grind,by omega,.inr ⟨b,off,ccs,t,fr,rfl,h2,fun i p hp=>?_⟩⟩
  refine ⟨[p.1],rfl,fun j hj=>?_,rfl⟩
  have hj:j=0:=by have:j<1:=hj;omega
  subst hj
  show ccs.toList[off+i*1+0]? =_
  grind
theorem wA {α β:Type} {p:α->β->Prop} : ∀ {xs:List α} {ys:List β} (n:Nat),All2 p xs ys->All2 p (xs.drop n) (ys.drop n)
 | _,_,0,h=>h
 | _,_,n+1,.nil=>.nil
 | _,_,n+1,.cons _ h=>wA n h
theorem BW {α:Type} {b:Nat} {xs zs:List α} (h:cP b [] xs=some zs):zs=xs/\(∀ {β:Type} (ys:List β),ys.length=xs.length->cP b [] ys=some ys):=by
 have ⟨h1,h2⟩:=tS h
 simp_all[cP,if_pos]
theorem DA {E':TypeId} {α:Type} {R:Rep α} (hR:R.Sh) (hC:Cpy R R) (h1:R.size=1) {kf:FuncId} {E b:Nat} (hcl:vu P kf E b) {xs zs:List α} {l:Nat} (hl:l<=xs.length) (hz:cP b [] (xs.drop l)=some zs) {v u:Value} (hu:u=pU v l xs.length 1\/(l=0/\u=v)) {ts:Array TypeId} {J:Hp} {θ:Th} (hlay:Lay P J) (ho:o.op= .call { callee:=.value (.func kf),args:= #[x],argTypes:=ts }) {ev:Operand->Value} (hev:ev x=u) (hevf:ev (.func kf)= .func (.func kf) #[] #[]) :
  OpT P J w0 o ev [Ch.own (aw E' R) [v] xs] (fun _=>True) (fun r=>[Ch.own (aw E' R) [v] xs,Ch.own (aw E R) [r] zs]):=by
 obtain ⟨rfl,CX⟩:=BW hz
 intro w C hs
 have ⟨ps,hp,hs1⟩:=Uj hR h1 hs
 have hlen:=hp.length_eq
 have h2:OpT P J w0 o ev ([Ch.own (aw E' E4) [v] ps] ++ []) (fun _=>True) (fun r=>[Ch.own (aw E' E4) [v] ps] ++ [Ch.own (aw E E4) [r] (ps.drop l)]):=by
  refine ug (fun v=>⟨xH (Bs WA),trivial⟩) fun J' hJ hrd hbl=>?_
  have hr:=hrd (aw E' E4) [v] ps (by simp)
  have hr2:(aw E' E4).rd J' [u] (ps.drop l):=by
   rcases hu with rfl | ⟨rfl,rfl⟩
   ·rw[<-hlen]
    exact GZ hr (by omega) rfl
   ·exact hr
  exact nz hcl.1 ho hevf (by grind) (hcl.2 E' J' w0 u (ps.drop l) (ps.drop l) (hlay.mono hJ) hr2 (CX _ (by grind)))
 have:=h2 w C (by simp_all)
 refine this.imp fun r w' hr=>⟨trivial,?_⟩
 have h3:St J w0 w' (Ch.own (aw E' E4) [v] ps::Ch.own (aw E E4) [r] (ps.drop l)::C):=by simpa using hr.2
 have h4:=Fz hC h1 hp h3
 have h5:=Fz hC h1 (wA l hp) (h4.perm (List.Perm.swap _ _ _))
 exact h5.perm (List.Perm.swap _ _ _)
theorem PE {E':TypeId} {α:Type} {R:Rep α} (hC:Cpy R R) (h1:R.size=1) {kf:FuncId} {E b:Nat} (hcl:vu P kf E b) {xs zs:List α} (hz:cP b [] xs=some zs) {v:Value} {ts:Array TypeId} {J:Hp} (hlay:Lay P J) (hr:(aw E' R).rd J [v] xs) (ho:o.op= .call { callee:=.value (.func kf),args:= #[x],argTypes:=ts }) {ev:Operand->Value} (hev:ev x=v) (hevf:ev (.func kf)= .func (.func kf) #[] #[]) :
  OpT P J w0 o ev [] (fun _=>True) (fun r=>[Ch.own (aw E R) [r] zs]):=by
 obtain ⟨rfl,CX⟩:=BW hz
 have ⟨ps,hp,hr2⟩:=WG h1 hr
 have:=nz (P:=P) (w0:=w0) (o:=o) hcl.1 ho hevf (by grind) (hcl.2 E' J w0 v ps ps hlay hr2 (CX _ hp.length_eq))
 exact OpT.post this fun r w C _ hs=>⟨trivial,Fz hC h1 hp hs⟩
theorem DB {e:Ent} {rest:List Ent} {E:TypeId} {t:Ty} {xs:List t.den} (hp:s.chs.Perm (e::rest)) (hop: ∀J θ,Fine P w0 J θ s->OpT P J w0 o (evL (envL θ s)) [toCh P θ e] (fun _=>True) (fun v=>[toCh P θ e,Ch.own (Ty.sl E t).rep [v] xs])):Good P w0 s o ⟨[e],[],rest,[(⟨s.nxt,[]⟩,.own (.sl E t) xs)],.one (.own ⟨s.nxt,[]⟩)⟩:=
 good_row (rs:=[e]) (ns:=[]) hp fun J θ hf=>fun w C hs=>(hop J θ hf w C hs).imp fun v w hv=>⟨hv.1,hv.2.perm ((List.Perm.swap _ _ _).append_right C)⟩
theorem LJ {kf:FuncId} {E b:Nat} (hcl:vu P kf E b) {ts:Array TypeId} (ho:o.op= .call { callee:=.value (.func kf),args:= #[x],argTypes:=ts }) (h:LD s k E b x=some res):Oks P w0 s o k res:=by
 unfold LD at h
 split at h
 ·rename_i hh ver E' t xs l hx
  have ⟨r,hr,h⟩:=bind_some h
  have ⟨hc,h⟩:=aj h
  rw[ah,ah] at hc
  have hver:=aq hc.1
  have hsz:=aq hc.2.2
  have ⟨zs,hz,h⟩:=bind_some h
  obtain ⟨hp,-⟩:=bf hr
  refine ⟨_,h,DB hp fun J θ hf=>?_⟩
  have hxo:=bu hf hx
  have he:=LG hr hver hxo
  rw[he]
  refine DA (Ty.sh_ok hc.2.1) (Ty.cpy hc.2.1) (t.rep_size.trans hsz) hcl (l:=l.toNat) (by have:=hxo.2.1;omega) hz (.inl ?_) (J:=J) (θ:=θ) hf.lay ho rfl rfl
  rw[<-hsz]
  exact aC hx
 ·rename_i hh hx
  have ⟨r,hr,h⟩:=bind_some h
  have ⟨hc,h⟩:=aj h
  rw[ah] at hc
  have hsz:=aq hc.2
  have ⟨zs,hz,h⟩:=bind_some h
  obtain ⟨hp,-⟩:=bf hr
  refine ⟨_,h,DB hp fun J θ hf=>?_⟩
  exact DA (Ty.sh_ok hc.1) (Ty.cpy hc.1) (r.t.rep_size.trans hsz) hcl (l:=0) (Nat.zero_le _) (by grind) (.inr ⟨rfl,aC hx⟩) (J:=J) (θ:=θ) hf.lay ho rfl rfl
 ·rename_i hh E' t xs hx
  have ⟨hc,h⟩:=aj h
  rw[ah] at hc
  have hsz:=aq hc.2
  have ⟨zs,hz,h⟩:=bind_some h
  exact ⟨_,h,good_row (rs:=[]) (ns:=[]) (List.Perm.refl _) fun J θ hf=>PE (Ty.cpy hc.1) (t.rep_size.trans hsz) hcl hz hf.lay (bu hf hx).2 ho (aC hx) rfl⟩
 grind
end
end R
namespace R
open Go.RowKit
open D
structure Fr (s:Sg) (θ:Th) (s':Sg) (θ':Th):Prop where
 le:s.nxt<=s'.nxt
 same:Same s.nxt θ θ'
 env: ∀e∈s'.env,e.2.1<s.nxt->e∈s.env
 chs:Newer s.nxt s.chs s'.chs
section
variable {s s1 s2:Sg} {θ θ1 θ2:Th}
theorem Fr.rfl:Fr s θ s θ:=⟨ay _,Same.rfl,fun e he _=>he,Newer.rfl⟩
theorem Fr.trans (h:Fr s θ s1 θ1) (k:Fr s1 θ1 s2 θ2):Fr s θ s2 θ2:=
 ⟨Nat.le_trans h.le k.le,h.same.trans k.same h.le,fun e he hv=>h.env e (k.env e he (aI hv h.le)) hv,fun e he h' ver c hs=>by
  rcases k.chs e he h' ver c hs with h1 | ⟨e1,he1,hs1⟩
  ·exact .inl (Nat.le_trans h.le h1)
  ·exact h.chs e1 he1 h' ver c hs1⟩
theorem Fr.put {d:Option Nat} {v:AV} {chs:List Ent} (hs:Same s.nxt θ θ1) (hc:Newer s.nxt s.chs chs):Fr s θ ⟨KH d s.nxt v s.env,chs,s.nxt+1⟩ θ1:=
 ⟨Nat.le_succ _,hs,fun e he hv=>by
  grind[l7],hc⟩
end
def xZ (p:AV->Option AV):Nat->List (Nat×Nat×AV)->List (Nat×Nat×AV)
 | _,[] =>[]
 | k,e::l=>(match p e.2.2 with
  | some x=>(e.1,k,x)
  | none=>e)::xZ p (k+1) l
section
variable {P:Program} {I J J':Hp} {w0 w:World} {F:Ch} {n:Nat} {θ θ':Th} {s:Sg} {a:Act}
theorem qH {p:AV->Option AV} {e:Nat×Nat×AV} : ∀ {l:List (Nat×Nat×AV)} {k:Nat},e∈xZ p k l->(e∈l)\/(k<=e.2.1/\e.2.1<k+l.length/\ ∃e0∈l,e0.1=e.1/\p e0.2.2=some e.2.2)
 | [],k,h=>by cases h
 | e0::l,k,h=>by
  rcases az h with h | h
  ·grind
  ·rcases qH h with h | ⟨h2,h3,e1,h4,h5⟩
   ·grind
   grind
theorem Hr {p:AV->Option AV} : ∀ {l:List (Nat×Nat×AV)} {k:Nat},l.Pairwise (fun a b=>a.2.1≠b.2.1)->(∀e∈l,e.2.1<k)->(xZ p k l).Pairwise fun a b=>a.2.1≠b.2.1
 | [],_,_,_=>List.Pairwise.nil
 | e0::l,k,h,hk=>by
  have ⟨h1,h2⟩:=List.pairwise_cons.1 h
  refine List.pairwise_cons.2 ⟨fun e he=>?_,Hr h2 fun e he=>aN (hk e (by grind))⟩
  rcases qH he with he | ⟨k2,-,-⟩
  ·grind
  grind
theorem Ar {p:AV->Option AV} : ∀ {l:List (Nat×Nat×AV)} {k:Nat},(∀e∈l,e.2.2.v θ'=e.2.2.v θ)->(∀e∈l,∀x,p e.2.2=some x->x.v θ'=e.2.2.v θ)->(xZ p k l).map (fun e=>(e.1,e.2.2.v θ'))=l.map fun e=>(e.1,e.2.2.v θ)
 | [],_,_,_=>rfl
 | e0::l,k,h,hp=>by
  rw[xZ,List.map_cons,List.map_cons,Ar (fun e he=>h e (by grind)) fun e he=>hp e (by grind)]
  grind
theorem Sim.repl {p:AV->Option AV} {chs':List Ent} (hS:Sim P I w0 F n J θ s a w) (hs:Same s.nxt θ θ') (hJ:J.le J') (hst:St J' w0 w (chs'.map (toCh P θ')++ [F])) (hn:Newer s.nxt s.chs chs') (hok: ∀e∈chs',okE P w0 J' θ' (s.nxt+1) chs' e)
  (hp: ∀e∈s.env,∀x,p e.2.2=some x->x.ok P w0 J' θ' (s.nxt+1) chs'/\x.v θ'=e.2.2.v θ):Sim P I w0 F n J' θ' ⟨xZ p (s.nxt+1) s.env,chs',s.nxt+1+s.env.length⟩ a w/\Fr s θ ⟨xZ p (s.nxt+1) s.env,chs',s.nxt+1+s.env.length⟩ θ':=by
 have hle:s.nxt+1<=s.nxt+1+s.env.length:=Nat.le_add_right _ _
 refine ⟨⟨hS.le.trans hJ,?_,hst,fun e he=>?_,fun e he=>?_,Hr hS.fine.nd fun e he=>aN (hS.fine.ver e he),fun e he=>dS Same.rfl hle Newer.rfl (hok e he) Hp.le.rfl,hS.fine.lay.mono hJ⟩,by grind,hs,fun e he hv=>?_,hn⟩
 ·have:envL θ' ⟨xZ p (s.nxt+1) s.env,chs',s.nxt+1+s.env.length⟩=envL θ s:=Ar (fun e he=>AV.v_same hs (hS.fine.env e he)) fun e he x hx=>(hp e he x hx).2
  rw[this];exact hS.agr
 ·rcases qH he with he | ⟨-,-,e0,h1,-,h2⟩
  ·exact AV.ok_same hs (by grind) hn (hS.fine.env e he) hJ
  ·exact AV.ok_same Same.rfl hle Newer.rfl (hp e0 h1 _ h2).1 Hp.le.rfl
 ·rcases qH he with he | ⟨h2,h3,-⟩
  ·have:=hS.fine.ver e he
   grind
  omega
 ·rcases qH he with he | ⟨h2,-⟩
  ·exact he
  omega
end
def WH (h:Hdr) (s:Sg):Option Sg:=(pull h s.chs).bind fun r=>match r.1.2.2 with
 | .box T t d=>some ⟨s.env,(h,s.nxt,.blk T (fu s.nxt (fun j=>[j]) t d 0))::((pV s.nxt (fun j=>[j]) t d 0).map (fun g=>(g.1,s.nxt,g.2))++r.2),s.nxt+1⟩
 | _=>none
section
variable {P:Program} {I J:Hp} {w0 w:World} {F:Ch} {n:Nat} {θ:Th} {s s':Sg} {a:Act} {h:Hdr}
theorem PF (hs:WH h s=some s') (hS:Sim P I w0 F n J θ s a w): ∃θ',Sim P I w0 F n J θ' s' a w/\Fr s θ s' θ':=by
 have ⟨r,hr,hs⟩:=bind_some hs
 have ⟨p,k⟩:=fh hr
 have ⟨⟨h2,ver,c⟩,rest⟩:=r
 obtain rfl:h2=h:=k
 cases c with
 | box T t d =>
  cases ae (show some _=some s' from hs)
  have hok:=hS.fine.chs _ (p.mem_iff.2 (List.mem_cons_self ..))
  have h0:=hS.st.perm ((p.map (toCh P θ)).append_right [F])
  have h1:=h0
  have ⟨cells,h1⟩:=St.box.1 h1
  let θ':=upd θ s.nxt (.agg cells.toArray)
  have hsame:Same s.nxt θ θ':=Same.upd
  have h3:=h1.perm (List.Perm.swap _ _ _)
  have ⟨k1,k2,k3,k4⟩:=iB (P:=P) (m:=s.nxt) (θ:=θ') (pth:=fun j=>[j]) (n:=s.nxt+1) (au _) t d 0 cells _ (fun i v hv'=>by
   show vg (upd θ s.nxt (.agg cells.toArray) s.nxt) [0+i] =v
   simp_all[fq,Nat.zero_add,RX]) h3
  have hmem: ∀e,e∈rest->e∈s.chs:=fun e he=>p.mem_iff.2 (ba _ he)
  have hnew:Newer s.nxt s.chs ((h2,s.nxt,.blk T (fu s.nxt (fun j=>[j]) t d 0))::((pV s.nxt (fun j=>[j]) t d 0).map (fun g=>(g.1,s.nxt,g.2))++rest)):=fun e he h' ver' c hs'=>by
   rcases az he with rfl | he
   ·obtain ⟨rfl,hs'⟩:=hs'
    rcases hs' with ⟨h1,-⟩ | hs'
    ·grind
    ·exact hs'.elim
   ·rcases aH he with he | he
    ·obtain ⟨g,hg,rfl⟩:=List.mem_map.1 he
     rcases hs'.2 with ⟨h1,-⟩ | hs'
     ·grind
     grind[uj,gW]
    grind
  refine ⟨θ',⟨hS.le,?_,?_,fun e he=>AV.ok_same hsame (Nat.le_succ _) hnew (hS.fine.env e he) Hp.le.rfl,fun e he=>aN (hS.fine.ver e he),hS.fine.nd,fun e he=>?_,hS.fine.lay⟩,Nat.le_succ _,hsame,fun e he _=>he,hnew⟩
  ·show Agr n a (envL θ' s)
   rw[qA hsame hS.fine.env];exact hS.agr
  ·rw[List.map_cons,aM,List.map_map]
   have e1:toCh P θ' (h2,s.nxt,Chk.blk T (fu s.nxt (fun j=>[j]) t d 0))=Ch.blk (bk (hv θ h2)) cells T:=by
    show Ch.blk (bk (hv θ' h2)) ((fu s.nxt (fun j=>[j]) t d 0).map (·.v θ')) T=_
    rw[k2,aS hsame hok.1]
   rw[e1,dU hsame fun e he=>hS.fine.chs e (hmem e he)]
   have:=k4.perm (List.perm_middle (l₁:=(pV s.nxt (fun j=>[j]) t d 0).map fun g=>toCh P θ' (g.1,s.nxt,g.2)))
   rw[List.cons_append,aD]
   exact this
  ·rcases az he with rfl | he
   ·exact ⟨aN hok.1,au _,k1⟩
   ·rcases aH he with he | he
    ·obtain ⟨g,hg,rfl⟩:=List.mem_map.1 he
     exact qF (gW t d 0 g hg) (by grind) (au _)
    ·exact dS hsame (Nat.le_succ _) hnew (hS.fine.chs e (hmem e he)) Hp.le.rfl
 | _=>cases hs
end
def FC:List Ent->List Hdr
 | [] =>[]
 | (h,_,.box _ _ _)::l=>h::FC l
 | _::l=>FC l
def LK:List Hdr->Sg->Sg
 | [],s=>s
 | h::hs,s=>LK hs (match WH h s with
  | some s'=>s'
  | none=>s)
def ql (s:Sg):Sg:=LK (FC s.chs) s
def ya (h:Hdr):LV->Bool
 | .own h'=>Hdr.beq h' h
 | _=>false
def LV.frz (h:Hdr) (t:Ty) (d:t.den) (x:LV):LV:=match ya h x with
 | true=>.rd h t d
 | false=>x
def AV.frz (h:Hdr) (t:Ty) (d:t.den):AV->Option AV
 | .one x=>match ya h x with
  | true=>some (.one (.rd h t d))
  | false=>none
 | .agg xs=>match xs.any (ya h) with
  | true=>some (.agg (xs.map (LV.frz h t d)))
  | false=>none
 | .tup ys=>match ys.any fun y=>y.2.any (ya h) with
  | true=>some (.tup (ys.map fun y=>(y.1,y.2.map (LV.frz h t d))))
  | false=>none
 | _=>none
def LL (h:Hdr) (t:Ty) (d:t.den) (k:Nat) (e:Ent):Ent:=match e.2.2 with
 | .blk T cells=>match cells.any (ya h) with
  | true=>(e.1,k,.blk T (cells.map (LV.frz h t d)))
  | false=>e
 | _=>e
def R6 (h:Hdr) (y:AV) (x:AV):Option AV:=match x with
 | .one (.ptr h' off)=>match Hdr.beq h' h&&Nat.beq off 0 with
  | true=>some y
  | false=>none
 | _=>none
section
variable {P:Program} {J J':Hp} {w0:World} {n m k:Nat} {θ:Th} {h:Hdr} {t:Ty} {d:t.den} {chs:List Ent}
theorem DC {x:LV} (hx:ya h x=true):x= .own h:=by
 unfold ya at hx
 grind[Hdr.beq_eq]
theorem LV.frz_v (x:LV):(x.frz h t d).v θ=x.v θ:=by
 unfold LV.frz
 split
 ·rename_i hx;rw[DC hx];rfl
 ·rfl
theorem LV.frz_ok {x:LV} (hx:x.ok P w0 J θ n) (hn:n<=m) (hJ:J.le J') (hh:h.id<m) (hr:t.rep.rd J' [hv θ h] d):(x.frz h t d).ok P w0 J' θ m:=by
 unfold LV.frz
 split
 ·exact ⟨hh,hr⟩
 ·exact LV.ok_same Same.rfl hn hx hJ
theorem FD (xs:List LV):(xs.map (LV.frz h t d)).map (·.v θ)=xs.map (·.v θ):=by
 grind[List.map_map,List.map_congr_left,LV.frz_v]
theorem PG (y:Bool×List LV):jR θ (y.1,y.2.map (LV.frz h t d))=jR θ y:=by
 grind[jR,FD,LV.frz_v]
theorem AV.frz_ok {x y:AV} (hy:x.frz h t d=some y) (hx:x.ok P w0 J θ n chs) {chs':List Ent} (hn:n<=m) (hJ:J.le J') (hh:h.id<m) (hr:t.rep.rd J' [hv θ h] d):y.ok P w0 J' θ m chs'/\y.v θ=x.v θ:=by
 unfold AV.frz at hy
 split at hy
 ·split at hy
  ·rename_i hb
   cases ae hy
   rw[DC hb]
   exact ⟨⟨hh,hr⟩,rfl⟩
  grind
 ·split at hy
  ·cases ae hy
   refine ⟨fun z hz=>?_,?_⟩
   ·obtain ⟨z0,hz0,rfl⟩:=List.mem_map.1 hz
    exact LV.frz_ok (hx z0 hz0) hn hJ hh hr
   ·show Value.agg _=Value.agg _
    rw[FD]
  grind
 ·split at hy
  ·cases ae hy
   refine ⟨fun z hz=>?_,?_⟩
   ·obtain ⟨z0,hz0,rfl⟩:=List.mem_map.1 hz
    intro u hu
    obtain ⟨u0,hu0,rfl⟩:=List.mem_map.1 hu
    exact LV.frz_ok (hx z0 hz0 u0 hu0) hn hJ hh hr
   ·show Value.tuple _=Value.tuple _
    simp_all[List.map_map,List.map_congr_left,PG]
  grind
 grind
theorem LM (e:Ent):toCh P θ (LL h t d k e)=toCh P θ e:=by
 have ⟨h1,v,c⟩:=e
 unfold LL
 split
 ·rename_i T cells heq
  split
  ·show Ch.blk _ ((cells.map _).map _) _=_
   rw[FD]
   obtain rfl:c= .blk T cells:=heq
   rfl
  ·rfl
 ·rfl
theorem LN {e:Ent} {h':Hdr} {ver:Nat} {c:Chk} (hs:Says (LL h t d k e) h' ver c):ver=k\/Says e h' ver c:=by
 unfold LL at hs
 split at hs
 ·split at hs
  ·rcases hs.2 with ⟨h1,-⟩ | h1
   ·grind
   ·exact h1.elim
  grind
 grind
theorem Jc {l:List Ent} :Newer k l (l.map (LL h t d k)):=fun e he h' ver c hs=>by
 obtain ⟨e0,he0,rfl⟩:=List.mem_map.1 he
 rcases LN hs with h1 | h1
 ·exact .inl (Nat.le_of_eq h1.symm)
 ·exact .inr ⟨e0,he0,h1⟩
theorem Uk {e:Ent} (he:okE P w0 J θ n chs e) {chs':List Ent} (hc:Newer n chs chs') (hn:n<m) (hJ:J.le J') (hh:h.id<m) (hr:t.rep.rd J' [hv θ h] d):okE P w0 J' θ m chs' (LL h t d n e):=by
 have h0:=dS Same.rfl (Nat.le_of_lt hn) hc he hJ
 unfold LL
 split
 ·rename_i T cells heq
  split
  ·have ⟨h1,v,c⟩:=e
   obtain rfl:c= .blk T cells:=heq
   exact ⟨h0.1,hn,fun x hx=>by
    obtain ⟨x0,hx0,rfl⟩:=List.mem_map.1 hx
    exact LV.frz_ok (he.2.2 x0 hx0) (Nat.le_of_lt hn) hJ hh hr⟩
  omega
 omega
end
abbrev Trs:=List (TypeId×TypeId×Ty)
def Y6 (l:Trs) (T:TypeId):Option (TypeId×Ty):=match l with
 | [] =>none
 | (U,x)::l=>if Nat.beq U T then some x else Y6 l T
def Ul (tr:Trs):Ty->Bool
 | .tree _ _ _=>true
 | .sl E _=>match Y6 tr E with
  | some q=>Nat.beq q.1 0
  | none=>false
 | .bag t=>Ul tr t
 | _=>false
def pW:(t:Ty)->t.den->(u:Ty)×u.den
 | .bag (.sl E t),d=>⟨.sl E t,d⟩
 | t,d=>⟨t,d⟩
theorem LO {J:Hp} {cs:List Value} : ∀ {t:Ty} {d:t.den},t.rep.rd J cs d->(pW t d).1.rep.rd J cs (pW t d).2:=fun {t d} h=>by
 cases t with
 | bag u=>cases u <;> exact h
 | _=>exact h
def LP (tr:Trs) (h:Hdr) (s:Sg):Option Sg:=(pull h s.chs).bind fun r=>match r.1.2.2 with
 | .own t d=>match Ul tr t with
  | true=>some ⟨xZ (AV.frz h (pW t d).1 (pW t d).2) (s.nxt+1) s.env,r.2.map (LL h (pW t d).1 (pW t d).2 s.nxt),s.nxt+1+s.env.length⟩
  | false=>none
 | _=>none
def R7 (T E:TypeId) (t:Ty) (x:LV) (chs:List Ent):Option (List (Tr t.den)×List Ent×List Ent):=match x with
 | .own h=>(rowOf h chs).bind fun r=>(mE (.sl r.E r.t) (.sl E (.tree T E t)) r.xs).bind fun ks=>some (ks,[r.ent h],r.rest)
 | x=>(Pc E (.tree T E t) x).bind fun ks=>some (ks,[],chs)
def LQ (tr:Trs) (h:Hdr) (s:Sg):Option Sg:=(pj h s.chs).bind fun b=>(Y6 tr b.T).bind fun q=>(dk q.2 b.cells).bind fun a=>match a.2 with
 | [kid] =>(R7 b.T q.1 q.2 kid b.rest).bind fun ks=>some ⟨xZ (R6 h (.one (.rd ⟨s.nxt,[]⟩ (.tree b.T q.1 q.2) (.node a.1 ks.1)))) (s.nxt+1) s.env,ks.2.2,s.nxt+1+s.env.length⟩
 | _=>none
section
variable {P:Program} {I J:Hp} {w0 w:World} {F:Ch} {n:Nat} {θ:Th} {s s':Sg} {a:Act} {h:Hdr}
theorem LR {m:Nat} {chs chs':List Ent} (h: ∀e,e∈chs'->e∈chs):Newer m chs chs':=fun e he h' ver c hs=>.inr ⟨e,h e he,hs⟩
theorem LS {tr:Trs} (hs:LP tr h s=some s') (hS:Sim P I w0 F n J θ s a w): ∃J',J.le J'/\Sim P I w0 F n J' θ s' a w/\Fr s θ s' θ:=by
 have ⟨r,hr,hs⟩:=bind_some hs
 have ⟨p,k⟩:=fh hr
 have ⟨⟨h2,ver,c⟩,rest⟩:=r
 obtain rfl:h2=h:=k
 cases c with
 | own t d =>
  have hs:(match Ul tr t with
   | true=>some (⟨xZ (AV.frz h2 (pW t d).1 (pW t d).2) (s.nxt+1) s.env,rest.map (LL h2 (pW t d).1 (pW t d).2 s.nxt),s.nxt+1+s.env.length⟩:Sg)
   | false=>none)=some s':=hs
  split at hs
  ·cases ae (show some _=some s' from hs)
   have hok:=hS.fine.chs _ (p.mem_iff.2 (List.mem_cons_self ..))
   have h1:St J w0 w (Ch.own t.rep [hv θ h2] d::(rest.map (toCh P θ)++ [F])):=hS.st.perm ((p.map (toCh P θ)).append_right [F])
   have ⟨J',hJ,hrd0,hst⟩:=h1.freeze
   have hrd:=LO hrd0
   have hmem: ∀e,e∈rest->e∈s.chs:=fun e he=>p.mem_iff.2 (ba _ he)
   have hnew:Newer s.nxt s.chs (rest.map (LL h2 (pW t d).1 (pW t d).2 s.nxt)):=fun e he h' ver c hs=>by
    rcases Jc e he h' ver c hs with h1 | ⟨e0,he0,h1⟩
    ·omega
    grind
   refine ⟨J',hJ,hS.repl Same.rfl hJ ?_ hnew (fun e he=>?_) fun e he x hx=>AV.frz_ok hx (hS.fine.env e he) (Nat.le_succ _) hJ (aN hok.1) hrd⟩
   ·grind[List.map_map,List.map_congr_left,toCh,LL,LM]
   ·obtain ⟨e0,he0,rfl⟩:=List.mem_map.1 he
    exact Uk (hS.fine.chs e0 (hmem e0 he0)) hnew (au _) hJ (aN hok.1) hrd
  grind
 | _=>cases hs
theorem LU {tr:Trs} (hs:LQ tr h s=some s') (hS:Sim P I w0 F n J θ s a w): ∃J' θ',J.le J'/\Sim P I w0 F n J' θ' s' a w/\Fr s θ s' θ':=by
 have ⟨b,hb,hs⟩:=bind_some hs
 have ⟨⟨E,t⟩,hq,hs⟩:=bind_some hs
 have ⟨c,hc,hs⟩:=bind_some hs
 have p:=jq hb
 have hok:=hS.fine.chs _ (p.mem_iff.2 (List.mem_cons_self ..))
 have hcells:=hok.2.2
 have ⟨c1,e1,k1⟩:=gm (J:=J) (θ:=θ) hc hcells
 split at hs
 ·rename_i kid hkid
  have ⟨ks,hks,hs⟩:=bind_some hs
  cases ae hs
  have h0:=hS.st.perm ((p.map (toCh P θ)).append_right [F])
  have h1:=h0
  have hcv:b.cells.map (·.v θ)=c1.map (·.v θ)++ [kid.v θ]:=by rw[e1,hkid,aM];rfl
  let θ':=upd θ s.nxt (.pointer (some ⟨bk (hv θ h),0,none⟩))
  have hsame:Same s.nxt θ θ':=Same.upd
  have key: ∃J1,J.le J1/\(Ty.sl E (.tree b.T E t)).rep.rd J1 [kid.v θ] ks.1/\St J1 w0 w (Ch.blk (bk (hv θ h)) (b.cells.map (·.v θ)) b.T::(ks.2.2.map (toCh P θ)++ [F]))/\ ∀e,e∈ks.2.2->e∈b.rest:=by
   unfold R7 at hks
   split at hks
   ·rename_i hk
    have ⟨r,hr,hks⟩:=bind_some hks
    have ⟨xs,hxs,hks⟩:=bind_some hks
    cases ae hks
    obtain ⟨pr,-⟩:=bf hr
    have h2:St J w0 w (Ch.own (Ty.sl r.E r.t).rep [hv θ hk] r.xs::Ch.blk (bk (hv θ h)) (b.cells.map (·.v θ)) b.T::(r.rest.map (toCh P θ)++ [F])):=by
     refine (h1.perm ?_:St J w0 w _)
     have:=((pr.map (toCh P θ)).append_right [F]).cons (Ch.blk (bk (hv θ h)) (b.cells.map (·.v θ)) b.T)
     exact this.trans (List.Perm.swap _ _ _)
    have ⟨J1,hJ1,hrd,hst⟩:=h2.freeze
    exact ⟨J1,hJ1,gR hxs hrd,hst,fun e he=>pr.mem_iff.2 (ba _ he)⟩
   ·have ⟨xs,hxs,hks⟩:=bind_some hks
    cases ae hks
    exact ⟨J,Hp.le.rfl,xL hxs (hcells kid (by grind)),h1,fun e he=>he⟩
  have ⟨J1,hJ1,hk1,hst1,hm1⟩:=key
  have ⟨J2,hJ2,hb2,hst2⟩:=hst1.freeze_blk
  have hJ:=hJ1.trans hJ2
  have hmem:=fun e he=>p.mem_iff.2 (ba _ (hm1 e he))
  have hnew:Newer s.nxt s.chs ks.2.2:=LR hmem
  have hpv:hv θ' ⟨s.nxt,[]⟩= .pointer (some ⟨bk (hv θ h),0,none⟩):=fq
  refine ⟨J2,θ',hJ,hS.repl hsame hJ ?_ hnew (fun e he=>dS hsame (Nat.le_succ _) hnew (hS.fine.chs e (hmem e he)) hJ) fun e he x hx=>?_⟩
  ·rw[dU hsame fun e he=>hS.fine.chs e (hmem e he)]
   omega
  ·unfold R6 at hx
   split at hx
   ·rename_i h' off heq
    split at hx
    ·rename_i hp
     cases ae hx
     rw[ah] at hp
     refine ⟨⟨au _,?_⟩,?_⟩
     ·rw[hpv]
      rw[hcv] at hb2
      exact KB hb2 (Rep.rd_mono _ k1 hJ) (Rep.rd_mono _ hk1 hJ2)
     ·rw[heq,Hdr.beq_eq hp.1,aq hp.2]
      exact hpv
    grind
   grind
 grind
end
def orS (x:Option Sg) (s:Sg):Sg:=match x with
 | some s'=>s'
 | none=>s
def PH (tr:Trs):List (Bool×Hdr)->Sg->Sg
 | [],s=>s
 | (true,h)::hs,s=>PH tr hs (orS (LQ tr h s) s)
 | (false,h)::hs,s=>PH tr hs (orS (LP tr h s) s)
section
variable {P:Program} {I J:Hp} {w0 w:World} {F:Ch} {n:Nat} {θ:Th} {s s':Sg} {a:Act}
theorem BX: ∀ {hs:List Hdr} {s:Sg} {θ:Th},Sim P I w0 F n J θ s a w-> ∃θ',Sim P I w0 F n J θ' (LK hs s) a w/\Fr s θ (LK hs s) θ'
 | [],s,θ,hS=>⟨θ,hS,Fr.rfl⟩
 | h::hs,s,θ,hS=>by
  unfold LK
  split
  ·rename_i s' he
   have ⟨θ1,S1,F1⟩:=PF he hS
   have ⟨θ2,S2,F2⟩:=BX (hs:=hs) S1
   exact ⟨θ2,S2,F1.trans F2⟩
  ·exact BX hS
theorem xh (hS:Sim P I w0 F n J θ s a w): ∃θ',Sim P I w0 F n J θ' (ql s) a w/\Fr s θ (ql s) θ':=BX hS
theorem tg {tr:Trs} : ∀ {hs:List (Bool×Hdr)} {s:Sg} {J:Hp} {θ:Th},Sim P I w0 F n J θ s a w-> ∃J' θ',J.le J'/\Sim P I w0 F n J' θ' (PH tr hs s) a w/\Fr s θ (PH tr hs s) θ'
 | [],s,J,θ,hS=>⟨J,θ,Hp.le.rfl,hS,Fr.rfl⟩
 | (true,h)::hs,s,J,θ,hS=>by
  unfold PH
  cases he:LQ tr h s with
  | some s' =>
   have ⟨J1,θ1,L1,S1,F1⟩:=LU he hS
   obtain ⟨J2,θ2,L2,S2,F2⟩:=tg (hs:=hs) S1
   exact ⟨J2,θ2,L1.trans L2,S2,F1.trans F2⟩
  | none=>exact tg hS
 | (false,h)::hs,s,J,θ,hS=>by
  unfold PH
  cases he:LP tr h s with
  | some s' =>
   have ⟨J1,L1,S1,F1⟩:=LS he hS
   obtain ⟨J2,θ2,L2,S2,F2⟩:=tg (hs:=hs) S1
   exact ⟨J2,θ2,L1.trans L2,S2,F1.trans F2⟩
  | none=>exact tg hS
end
end R
namespace D
open Go.RowKit
section
variable {P:Program} {I J:Hp} {w0 w w':World} {cs C:List Ch} {o:Oper} {ev:Operand->Value}
theorem yc {α:Type} {R:Rep α} (hC:Cpy R R): ∀ {xs:List α} {cur:List Value},(∀i x,xs[i]? =some x-> ∃c:List Value,c.length=R.size/\(∀j,j<R.size->cur[i*R.size+j]? =c[j]?)/\R.rd I c x)->OwnEls R I w cur xs []
 | [],cur,_=>rfl
 | x::xs,cur,h=>by
  have ⟨c,c1,c2,c3⟩:=h 0 x rfl
  refine ⟨c,cur.drop R.size,[],[],?_,c1,rfl,hC c3,yc hC fun i y hy=>?_⟩
  ·apply List.ext_getElem?
   grind
  ·have ⟨d,d1,d2,d3⟩:=h (i+1) y (by grind)
   grind
end
end D
namespace D
open Go.RowKit
section
variable {P:Program} {I J:Hp} {w0 w w':World} {cs C:List Ch} {o:Oper} {ev:Operand->Value}
theorem yd {α:Type} {E:TypeId} {R:Rep α} (hSh:R.Sh) {k:Nat} (hR:R.size=k) {g ofs n cap:Nat} {xs:List α} (h:St I w0 w (Ch.own (aw E R) [.slice (some ⟨g,ofs,none⟩) n cap] xs::C)) :
  n=xs.length/\xs.length<=cap/\cap<=maxLen/\ ∃cur,w.heap[g]? =some (.cells cur E (0,0))/\ofs+cap*k<=cur.size/\ ∀(i:Nat) x,xs[i]? =some x-> ∃c:List Value,c.length=k/\(∀j,j<k->(cur.toList.drop ofs)[i*k+j]? =c[j]?)/\R.rd I c x:=by
 obtain ⟨hb,hi,F,⟨G,K,rfl,⟨hl,e2⟩,e3⟩,h4,h5⟩:=h
 rcases e2 with ⟨hv,rfl,rfl⟩ | ⟨g',ofs',cap',cur,K1,hv,k1,k2,k3,k4,rfl,k5⟩
 ·simp at hv
 ·simp only[List.cons.injEq,Value.slice.injEq,Option.some.injEq,Addr.mk.injEq,and_true] at hv
  obtain ⟨⟨rfl,rfl⟩,rfl,rfl⟩:=hv
  obtain rfl:=k5.sh hSh
  have hat:=fun i x hx=>k5.at Hp.le.rfl (by simp) i x hx
  rw[hR] at hat k4
  exact ⟨rfl,k2,k3,cur,k1,k4,hat⟩
theorem BY {α:Type} {E:TypeId} {R:Rep α} (hSh:R.Sh) (hC:Cpy R R) {k:Nat} (hR:R.size=k) {g ofs n cap p cnt:Nat} {xs zs:List α} {news:List Value} (hn:news.length=cnt*k) (hfit:p+cnt<=cap) (hz:zs.length<=cap) (hlim:zs.length<=lim)
  (hnew: ∀i z,zs[i]? =some z->(p<=i/\i<p+cnt/\ ∃c:List Value,c.length=k/\(∀j,j<k->news[(i - p)*k+j]? =c[j]?)/\R.rd I c z)\/((i<p\/p+cnt<=i)/\xs[i]? =some z))
  (h:St I w0 w (Ch.own (aw E R) [.slice (some ⟨g,ofs,none⟩) n cap] xs::C)):St I w0 (w.setCells g (ofs+p*k) news) (Ch.own (aw E R) [.slice (some ⟨g,ofs,none⟩) zs.length cap] zs::C):=by
 obtain ⟨hb,hi,F,⟨G,K,rfl,⟨hl,e2⟩,e3⟩,h4,h5⟩:=h
 rcases e2 with ⟨hv,rfl,rfl⟩ | ⟨g',ofs',cap',cur,K1,hv,k1,k2,k3,k4,rfl,k5⟩
 ·simp at hv
 ·simp only[List.cons.injEq,Value.slice.injEq,Option.some.injEq,Addr.mk.injEq,and_true] at hv
  obtain ⟨⟨rfl,rfl⟩,rfl,rfl⟩:=hv
  obtain rfl:=k5.sh hSh
  have hat:=fun i x hx=>k5.at Hp.le.rfl (by simp) i x hx
  rw[hR] at hat k4
  have hln:cur.toList.length=cur.size:=Array.length_toList
  have m0:(p+cnt)*k=p*k+cnt*k:=Nat.add_mul _ _ _
  have m1:(p+cnt)*k<=cap*k:=Nat.mul_le_mul_right _ hfit
  have hroom:ofs+p*k+news.length<=cur.size:=by omega
  obtain ⟨o1,o2,o3,o4,o5⟩:=oc g news (ofs+p*k) w
  have hrow:=qx news (ofs+p*k) w cur hroom k1
  have hgK:g∉K:=by rw[List.cons_append] at h4;simpa using (List.nodup_cons.1 h4).1
  have key: ∀q,((cur.toList.take (ofs+p*k)++news++cur.toList.drop (ofs+p*k+news.length)).toArray.toList.drop ofs)[q]? =if p*k<=q/\q<p*k+cnt*k then news[q - p*k]? else (cur.toList.drop ofs)[q]? :=by
   intro q
   rw[List.getElem?_drop]
   show (cur.toList.take (ofs+p*k)++news++cur.toList.drop (ofs+p*k+news.length))[ofs+q]? =_
   have htl:(cur.toList.take (ofs+p*k)).length=ofs+p*k:=by rw[aF];omega
   by_cases c1:q<p*k
   ·rw[if_neg (by omega),aD,List.getElem?_append_left (by omega),List.getElem?_take,if_pos (by omega),List.getElem?_drop]
   ·by_cases c2:q<p*k+cnt*k
    ·rw[if_pos (by omega),aD,List.getElem?_append_right (by omega),htl,List.getElem?_append_left (by omega)]
     congr 1;omega
    ·rw[if_neg (by omega),List.getElem?_append_right (by rw[al];omega),al,htl,hn,List.getElem?_drop,List.getElem?_drop]
     congr 1;omega
  refine ⟨⟨o1.trans hb.1,o2.trans hb.2.1,o3.trans hb.2.2.1,by rw[o4];exact hb.2.2.2⟩,fun q u hq=>?_,[g] ++K,⟨[g],K,rfl,⟨hlim,.inr ⟨g,ofs,cap,_,[],rfl,hrow,hz,k3,?_,rfl,yc hC fun i x hx=>?_⟩⟩,e3.stay fun q hq=>o5 q fun e=>hgK (e ▸ hq)⟩,h4,h5⟩
  ·show (w.setCells g (ofs+p*k) _).heap[q]? =some u
   rw[o5 q fun e=>by rw[e,h5 g (by simp)] at hq;cases hq]
   exact hi q u hq
  ·rw[hR];simp only[List.size_toArray,al,aF,bC,hln];omega
  ·rw[hR]
   rcases hnew i x hx with ⟨n1,n2,c,c1,c2,c3⟩ | ⟨n1,n2⟩
   ·refine ⟨c,c1,fun j hj=>?_,c3⟩
    have a1:p*k<=i*k:=Nat.mul_le_mul_right _ n1
    have a2:i*k+k<=p*k+cnt*k:=by rw[<-Nat.succ_mul,<-Nat.add_mul];exact Nat.mul_le_mul_right _ n2
    have a3:(i - p)*k=i*k - p*k:=Nat.sub_mul _ _ _
    rw[key,if_pos (by omega),<-c2 j hj,a3]
    congr 1;omega
   ·obtain ⟨c,c1,c2,c3⟩:=hat i x n2
    refine ⟨c,c1,fun j hj=>?_,c3⟩
    have a1:i*k+k<=p*k\/p*k+cnt*k<=i*k:=by
     rcases n1 with n1 | n1
     ·left;rw[<-Nat.succ_mul];exact Nat.mul_le_mul_right _ n1
     ·right;rw[<-Nat.add_mul];exact Nat.mul_le_mul_right _ n1
    rw[key,if_neg (by omega)]
    exact c2 j hj
def qI (cur:Array Value) (ofs k j m:Nat):List Value:=((cur.toList.drop ofs).drop (j*k)).take ((m - j)*k)
theorem rP {cur:Array Value} {ofs k j m cap:Nat} (h:ofs+cap*k<=cur.size) (hj:j<=m) (hm:m<=cap):(qI cur ofs k j m).length=(m - j)*k:=by
 have m1:m*k<=cap*k:=Nat.mul_le_mul_right _ hm
 have m2:(m - j)*k=m*k - j*k:=Nat.sub_mul _ _ _
 have m3:j*k<=m*k:=Nat.mul_le_mul_right _ hj
 unfold qI
 rw[aF,bC,bC,Array.length_toList];omega
theorem kB {cur:Array Value} {ofs k j m q:Nat} (hq:q<(m - j)*k):(qI cur ofs k j m)[q]? =(cur.toList.drop ofs)[j*k+q]? :=by
 unfold qI
 rw[List.getElem?_take,if_pos hq,List.getElem?_drop]
theorem Jd {α:Type} {R:Rep α} {xs:List α} {cur:Array Value} {ofs k j m:Nat} (hk:0<k) (hm:m<=xs.length) (hat: ∀(i:Nat) x,xs[i]? =some x-> ∃c:List Value,c.length=k/\(∀j,j<k->(cur.toList.drop ofs)[i*k+j]? =c[j]?)/\R.rd I c x): ∀u∈qI cur ofs k j m,u.oneCell'=true:=by
 intro u hu
 obtain ⟨q,hq⟩:=List.getElem?_of_mem hu
 have hq':=(List.getElem?_eq_some_iff.1 hq).1
 have hq2:q<(m - j)*k:=by
  unfold qI at hq'
  rw[aF] at hq';omega
 rw[kB hq2] at hq
 have m2:(m - j)*k=m*k - j*k:=Nat.sub_mul _ _ _
 have m1:m*k<=xs.length*k:=Nat.mul_le_mul_right _ hm
 have hqn:(j*k+q) / k<xs.length:=by rw[Nat.div_lt_iff_lt_mul hk];omega
 obtain ⟨c,c1,c2,c3⟩:=hat _ _ (List.getElem?_eq_getElem hqn)
 have:=c2 ((j*k+q) % k) (Nat.mod_lt _ hk)
 rw[Nat.div_add_mod',hq] at this
 exact R.rd_one c3 u (List.mem_of_getElem? this.symm)
theorem vC {g ofs:Nat} {cur:Array Value} {E:TypeId} {fr:Nat×Nat} (h:w.heap[g]? =some (.cells cur E fr)) (q:Nat):w.cell? ⟨g,ofs+q,none⟩=(cur.toList.drop ofs)[q]? :=by
 simp[World.cell?,h]
def wB {α:Type} (xs:List α) (i j m:Nat):List α:=xs.take i++(((xs.take m).drop j)++xs.drop (i+(m - j)))
theorem BZ {α:Type} {xs:List α} {i j m:Nat} (h1:i<=j) (h2:j<=m) (h3:m<=xs.length):(wB xs i j m).length=xs.length:=by
 simp only[wB,al,aF,bC];omega
theorem Je {α:Type} {xs:List α} {i j m q:Nat} (h1:i<=j) (h2:j<=m) (h3:m<=xs.length):(wB xs i j m)[q]? =if i<=q/\q<i+(m - j) then xs[j+(q - i)]? else xs[q]? :=by
 have hi:(xs.take i).length=i:=by rw[aF];omega
 have hm:((xs.take m).drop j).length=m - j:=by rw[bC,aF];omega
 unfold wB
 by_cases c1:q<i
 ·rw[if_neg (by omega),List.getElem?_append_left (by omega),List.getElem?_take,if_pos c1]
 ·rw[List.getElem?_append_right (by omega),hi]
  by_cases c2:q<i+(m - j)
  ·rw[if_pos (by omega),List.getElem?_append_left (by omega),List.getElem?_drop,List.getElem?_take,if_pos (by omega)]
  ·rw[if_neg (by omega),List.getElem?_append_right (by omega),hm,List.getElem?_drop];congr 1;omega
theorem B0 {α:Type} {E T:TypeId} {R:Rep α} {z:Value} {n b:Nat} {x y:Operand} {g ofs cap len i j m c:Nat} {a:Addr} {xs:List α} (hSh:R.Sh) (hC:Cpy R R) (hT:P.underlying T=some (.slice E)) (hE:TZ P E z n b) (hn:0<n) (hR:R.size=n)
  (ho:o.op= .call { callee:=.builtin .append,args:= #[x,y],argTypes:= #[T,T] }) (hx:ev x= .slice (some ⟨g,ofs,none⟩) i cap) (hy:ev y= .slice (some a) (m - j) c) (ha:j<m->a=⟨g,ofs+j*n,none⟩) (hij:i<=j) (hj:j<=m) (hm:m<=xs.length) :
  OpT P I w0 o ev [Ch.own (aw E R) [.slice (some ⟨g,ofs,none⟩) len cap] xs] (· = .slice (some ⟨g,ofs,none⟩) (i+(m - j)) cap) (fun _=>[Ch.own (aw E R) [.slice (some ⟨g,ofs,none⟩) len cap] (wB xs i j m)]):=by
 intro w C hs
 obtain ⟨info,hi',hz,hsize,hby⟩:=info_parts hE
 obtain ⟨rfl,r1,r2,cur,r3,r4,hat⟩:=yd hSh hR hs
 have hln:=rP (k:=n) (j:=j) r4 hj (Nat.le_trans hm r1)
 have m1:xs.length*n<=cap*n:=Nat.mul_le_mul_right _ r1
 have m2:i*n<=j*n:=Nat.mul_le_mul_right _ hij
 have m3:(m - j)*n=m*n - j*n:=Nat.sub_mul _ _ _
 have m4:j*n<=m*n:=Nat.mul_le_mul_right _ hj
 have m5:m*n<=xs.length*n:=Nat.mul_le_mul_right _ hm
 have hcl:(cur.toList.drop ofs).length=cur.size - ofs:=by rw[bC,Array.length_toList]
 have hrun:=run_append_room_cells (P:=P) w T o.type E info hT hi' g ofs i cap a (m - j) c (qI cur ofs n j m) (by rw[hsize];exact hln) (fun q u hq=>by
  have hq':=(List.getElem?_eq_some_iff.1 hq).1
  rw[hln] at hq'
  rw[kB hq'] at hq
  by_cases hjm:j<m
  ·rw[ha hjm];simp only[Addr.add_mid];rw[Nat.add_assoc,vC r3];exact hq
  ·rw[show m - j=0 from by omega] at hq';omega) (Jd hn hm hat) (by omega) (fun q hq=>by
  rw[hln] at hq
  rw[hsize,Nat.add_assoc,vC r3,List.getElem?_eq_getElem (by rw[hcl];omega)];rfl) (fun q _=>by simp[World.frozen?,r3])
 rw[hsize] at hrun
 rw[dn ho hx hy hrun]
 have hsl:=BZ (xs:=xs) hij hj hm
 have hxl:=(hs.hd 0 rfl).2
 have:=BY (zs:=wB xs i j m) hSh hC hR (p:=i) (cnt:=m - j) hln (by omega) (by omega) (by omega) (fun q u hq=>by
  rw[Je hij hj hm] at hq
  by_cases c1:i<=q/\q<i+(m - j)
  ·rw[if_pos c1] at hq
   obtain ⟨c,d1,d2,d3⟩:=hat _ _ hq
   refine .inl ⟨c1.1,c1.2,c,d1,fun t ht=>?_,d3⟩
   have e1:(q - i)*n+n<=(m - j)*n:=by rw[<-Nat.succ_mul];exact Nat.mul_le_mul_right _ (by omega)
   rw[kB (by omega),<-d2 t ht,Nat.add_mul]
   congr 1;omega
  ·rw[if_neg c1] at hq
   exact .inr ⟨by omega,hq⟩) hs
 rw[hsl] at this
 exact ⟨rfl,this⟩
theorem ye (w:World) (t e ty:TypeId) (z:Value) (ht:P.underlying t=some (.slice e)) (hv:(zeroValue e).run P w= .ok z w) (b o n c:Nat) (hn:0<n)
  (hc: ∀j,j<(Builtin.zeroCells z.cells n).toList.length->(w.cell? ⟨b,o+j,none⟩).isSome=true) (hf: ∀j,j<(Builtin.zeroCells z.cells n).toList.length->w.frozen? ⟨b,o+j,none⟩=false) (h1: ∀v∈(Builtin.zeroCells z.cells n).toList,v.oneCell'=true) :
  (Builtin.clear_ #[t] ty #[.slice (some ⟨b,o,none⟩) n c]).run P w= .ok (.tuple #[]) (w.setCells b o (Builtin.zeroCells z.cells n).toList):=by
 have hst:=run_storeCells_cells (P:=P) b o (Builtin.zeroCells z.cells n).toList 0 w (by simpa using hc) (by simpa using hf) h1
 simp only[Nat.add_zero] at hst
 obtain ⟨m,rfl⟩: ∃m,n=m+1:=⟨n - 1,by omega⟩
 simp[Builtin.clear_,run_underlying ht,hv,hst]
theorem qJ (w:World) (t e ty:TypeId) (ht:P.underlying t=some (.slice e)) (a:Option Addr) (c:Nat):(Builtin.clear_ #[t] ty #[.slice a 0 c]).run P w= .ok (.tuple #[]) w:=by
 cases a <;> simp[Builtin.clear_,run_underlying ht]
theorem oh {x:Operand} {T:TypeId} {v r:Value} {w w':World} (ho:o.op= .call { callee:=.builtin .clear,args:= #[x],argTypes:= #[T] }) (hx:ev x=v) (hr:(Builtin.clear_ #[T] o.type #[v]).run P w= .ok r w'):(execOp ev o).run P w= .ok (.value r) w':=by
 simp only[execOp,ho,resolve,invoke,builtin,Sem.run_bind,Sem.run_pure,Result.andThen_ok,List.map_toArray,List.map_cons,List.map_nil,hx,hr]
theorem pq {zc:Array Value} {n:Nat} :(Builtin.zeroCells zc n).toList.length=n*zc.size:=by simp[Builtin.zeroCells]
theorem um {zc:Array Value} {n i j:Nat} (hi:i<n) (hj:j<zc.size):(Builtin.zeroCells zc n).toList[i*zc.size+j]? =zc.toList[j]? :=by
 have h1:i*zc.size+j<n*zc.size:=by
  have:i*zc.size+zc.size<=n*zc.size:=by rw[<-Nat.succ_mul];exact Nat.mul_le_mul_right _ hi
  omega
 have h2:(i*zc.size+j) % zc.size=j:=by rw[Nat.add_comm,Nat.add_mul_mod_self_right,Nat.mod_eq_of_lt hj]
 simp[Builtin.zeroCells,h1,h2,hj]
def th {α:Type} (xs:List α) (l m:Nat) (z:α):List α:=xs.take l++(List.replicate (m - l) z++xs.drop m)
theorem wC {α:Type} {xs:List α} {l m:Nat} {z:α} (h1:l<=m) (h2:m<=xs.length):(th xs l m z).length=xs.length:=by
 simp only[th,al,aF,bC,List.length_replicate];omega
theorem LW {α:Type} {xs:List α} {l m q:Nat} {z:α} (h1:l<=m) (h2:m<=xs.length):(th xs l m z)[q]? =if l<=q/\q<m then some z else xs[q]? :=by
 have hi:(xs.take l).length=l:=by rw[aF];omega
 unfold th
 by_cases c1:q<l
 ·rw[if_neg (by omega),List.getElem?_append_left (by omega),List.getElem?_take,if_pos c1]
 ·rw[List.getElem?_append_right (by omega),hi]
  by_cases c2:q<m
  ·rw[if_pos (by omega),List.getElem?_append_left (by rw[List.length_replicate];omega),List.getElem?_replicate,if_pos (by omega)]
  ·rw[if_neg (by omega),List.getElem?_append_right (by rw[List.length_replicate];omega),List.length_replicate,List.getElem?_drop];congr 1;omega
theorem DD {α:Type} {E T:TypeId} {R:Rep α} {z:Value} {zd:α} {n b:Nat} {x:Operand} {g ofs cap len l m c:Nat} {a:Addr} {xs:List α} (hSh:R.Sh) (hC:Cpy R R) (hT:P.underlying T=some (.slice E)) (hE:TZ P E z n b) (hn:0<n) (hR:R.size=n) (hzs:z.cells.size=n) (hzd:R.rd I z.cells.toList zd)
  (ho:o.op= .call { callee:=.builtin .clear,args:= #[x],argTypes:= #[T] }) (hx:ev x= .slice (some a) (m - l) c) (ha:l<m->a=⟨g,ofs+l*n,none⟩) (hl:l<=m) (hm:m<=xs.length) :
  OpT P I w0 o ev [Ch.own (aw E R) [.slice (some ⟨g,ofs,none⟩) len cap] xs] (fun _=>True) (fun _=>[Ch.own (aw E R) [.slice (some ⟨g,ofs,none⟩) len cap] (th xs l m zd)]):=by
 intro w C hs
 obtain ⟨rfl,r1,r2,cur,r3,r4,hat⟩:=yd hSh hR hs
 by_cases hlm:l=m
 ·subst hlm
  rw[Nat.sub_self] at hx
  rw[oh ho hx (qJ w T E o.type hT _ _)]
  refine ⟨trivial,?_⟩
  have:th xs l l zd=xs:=by simp[th]
  rw[this];exact hs
 ·have hlt:l<m:=by omega
  rw[ha hlt] at hx
  have m1:xs.length*n<=cap*n:=Nat.mul_le_mul_right _ r1
  have m3:(m - l)*n=m*n - l*n:=Nat.sub_mul _ _ _
  have m4:l*n<=m*n:=Nat.mul_le_mul_right _ hl
  have m5:m*n<=xs.length*n:=Nat.mul_le_mul_right _ hm
  have hcl:(cur.toList.drop ofs).length=cur.size - ofs:=by rw[bC,Array.length_toList]
  have hL:(Builtin.zeroCells z.cells (m - l)).toList.length=(m - l)*n:=by rw[pq,hzs]
  have hone: ∀v∈(Builtin.zeroCells z.cells (m - l)).toList,v.oneCell'=true:=by
   intro v hv'
   simp only[Builtin.zeroCells,Array.toList_map,List.mem_map] at hv'
   obtain ⟨q,-,rfl⟩:=hv'
   have hq:q % z.cells.size<z.cells.size:=Nat.mod_lt _ (by omega)
   rw[getElem!_pos z.cells _ hq]
   exact R.rd_one hzd _ (by simp)
  have hrun:=ye (P:=P) w T E o.type z hT (hE.run_zero w) g (ofs+l*n) (m - l) c (by omega) (fun q hq=>by
   rw[hL] at hq
   rw[Nat.add_assoc,vC r3,List.getElem?_eq_getElem (by rw[hcl];omega)];rfl) (fun q _=>by simp[World.frozen?,r3]) hone
  rw[oh ho hx hrun]
  have hsl:=wC (xs:=xs) (z:=zd) hl hm
  have hxl:=(hs.hd 0 rfl).2
  have:=BY (zs:=th xs l m zd) hSh hC hR (p:=l) (cnt:=m - l) hL (by omega) (by omega) (by omega) (fun q u hq=>by
   rw[LW hl hm] at hq
   by_cases c1:l<=q/\q<m
   ·rw[if_pos c1] at hq
    obtain rfl:=ae hq
    refine .inl ⟨c1.1,by omega,z.cells.toList,by rw[Array.length_toList,hzs],fun t ht=>?_,hzd⟩
    rw[<-hzs,um (by omega) (by omega)]
   ·rw[if_neg c1] at hq
    exact .inr ⟨by omega,hq⟩) hs
  rw[hsl] at this
  exact ⟨trivial,this⟩
end
end D
namespace R
open Go.RowKit
open D
theorem Vw.hd {u v:Value} {k n:Nat} {l m:Int} (h:Vw u v k n l m): ∃a c,u= .slice a (m.toNat - l.toNat) c/\0<=l/\l<=m:=by
 rcases h with ⟨-,rfl,-,rfl,rfl⟩ | ⟨g,ofs,cap,x,-,rfl,h1,h2,-⟩
 ·grind
 grind
theorem Vw.one {u v:Value} {k n:Nat} {l m:Int} (h:Vw u v k n l m):u.oneCell'=true:=by
 obtain ⟨a,c,rfl,_⟩:=h.hd;rfl
theorem yf {I:Hp} {w0 w:World} {C:List Ch} {α:Type} {E:TypeId} {R:Rep α} {v:Value} {xs:List α} {k:Nat} (h:St I w0 w (Ch.own (aw E R) [v] xs::C)):Vw v v k xs.length 0 xs.length:=by
 obtain ⟨hb,hi,F,⟨G,K,rfl,⟨hl,e2⟩,e3⟩,h4,h5⟩:=h
 rcases e2 with ⟨hv,rfl,rfl⟩ | ⟨g,ofs,cap,cur,K1,hv,k1,k2,k3,k4,rfl,k5⟩
 ·obtain rfl:v= .slice none 0 0:=by grind
  exact .inl ⟨rfl,rfl,rfl,rfl,rfl⟩
 ·obtain rfl:v= .slice (some ⟨g,ofs,none⟩) xs.length cap:=by grind
  exact .inr ⟨g,ofs,cap,0,rfl,by simp,by omega,by omega,k2,by omega,Nat.zero_le _,.inr (by simp)⟩
theorem LY {I:Hp} {w0 w:World} {C:List Ch} {α:Type} {E:TypeId} {R:Rep α} {u v:Value} {xs:List α} {k n:Nat} {l m:Int} (h:St I w0 w (Ch.own (aw E R) [v] xs::C)) (hv:Vw u v k n l m):n=xs.length:=by
 have h1:=yf (k:=k) h
 rcases hv with ⟨rfl,-,rfl,-,-⟩ | ⟨g,ofs,cap,x,rfl,-,-⟩ <;> rcases h1 with ⟨e,-,q,-,-⟩ | ⟨g',ofs',cap',x',e,-,-⟩
 ·omega
 ·cases e
 ·cases e
 grind
theorem PI {u v w:Value} {k n:Nat} {l m a c:Int} (h:Vw u v k n l m) (h1:0<=a) (h2:a<=c) (h3:l+c<=(n:Int)\/c<=m - l) {ao:Option Addr} {len cap:Nat} (hu:u= .slice ao len cap) (hw:w=sliced ao a.toNat c.toNat cap k):Vw w v k n (l+a) (l+c):=by
 rcases h with ⟨rfl,rfl,rfl,rfl,rfl⟩ | ⟨g,ofs,cp,x,rfl,rfl,q1,q2,q3,q4,q5,q6⟩
 ·obtain rfl:a=0:=by omega
  obtain rfl:c=0:=by omega
  injection hu with e1 e2 e3
  subst e1;subst e3
  exact .inl ⟨rfl,by grind[sliced],rfl,rfl,rfl⟩
 ·injection hu with e1 e2 e3
  subst e1;subst e3
  subst hw
  have t1:(l+a).toNat=l.toNat+a.toNat:=by omega
  have t2:(l+c).toNat - (l+a).toNat=c.toNat - a.toNat:=by omega
  have t3:(l.toNat+a.toNat)*k=l.toNat*k+a.toNat*k:=Nat.add_mul _ _ _
  by_cases hc:cp - l.toNat=a.toNat
  ·refine .inr ⟨g,ofs,cp,x,rfl,?_,by omega,by omega,q3,by omega,by grind,.inl (by omega)⟩
   simp[sliced,hc,if_true,t2]
   grind
  ·refine .inr ⟨g,ofs,cp,x+a.toNat*k,rfl,?_,by omega,by omega,q3,by omega,by grind,?_⟩
   ·simp[sliced,hc,if_false,t2,Option.map_some,Addr.add_mid,Nat.add_assoc]
    grind
   grind
def oI (ev:Operand->Value):Option Operand->Option Int->Prop
 | none,none=>True
 | some x,some m=>ev x= .int .i64 m
 | _,_=>False
section
variable {P:Program} {I:Hp} {w0:World} {o:Oper} {ev:Operand->Value}
theorem As {t e:TypeId} {x:Operand} {lo hi:Option Operand} {ml mh:Option Int} {ao:Option Addr} {len cap n:Nat} {agg:Bool} (hT:P.underlying t=some (.slice e)) (hE:TI P e agg n) (ho:o.op= .slice t x lo hi none) (hx:ev x= .slice ao len cap) (hl:oI ev lo ml) (hh:oI ev hi mh) (hlc:len<=cap)
  (h1:0<=ml.getD 0) (h2:ml.getD 0<=mh.getD len) (h3:mh.getD len<=(cap:Int)) :
  OpT P I w0 o ev [] (· =sliced ao (ml.getD 0).toNat (mh.getD len).toNat cap n) (fun _=>[]):=by
 have he:P.elem t=e:=by simp[Program.elem,hT]
 refine a6 fun w=>?_
 have hs:=TI.size hE w
 cases lo with
 | none =>
  cases ml with
  | some _=>exact hl.elim
  | none =>
   cases hi with
   | none =>
    cases mh with
    | some _=>exact hh.elim
    | none =>
     simp_all[execOp,Option.map_some,Option.map_none,Sem.run_bind,run_sliceAt_slice,run_slice_all,Result.andThen_ok]
   | some hi =>
    cases mh with
    | none=>exact hh.elim
    | some mh =>
     have hh:ev hi= .int .i64 mh:=hh
     simp_all[execOp,Option.map_some,Option.map_none,Sem.run_bind,run_sliceAt_slice,run_slice_h,Result.andThen_ok]
 | some lo =>
  cases ml with
  | none=>exact hl.elim
  | some ml =>
   have hl:ev lo= .int .i64 ml:=hl
   cases hi with
   | none =>
    cases mh with
    | some _=>exact hh.elim
    | none =>
     simp_all[execOp,Option.map_some,Option.map_none,Sem.run_bind,run_sliceAt_slice,run_slice_l,Result.andThen_ok]
   | some hi =>
    cases mh with
    | none=>exact hh.elim
    | some mh =>
     have hh:ev hi= .int .i64 mh:=hh
     simp_all[execOp,Option.map_some,Option.map_none,Sem.run_bind,run_sliceAt_slice,run_slice_lh,Result.andThen_ok]
theorem Jf {t e:TypeId} {x y z q:Operand} {ml mh mx:Int} {ao:Option Addr} {len cap n:Nat} {agg:Bool} (hT:P.underlying t=some (.slice e)) (hE:TI P e agg n) (ho:o.op= .slice t x (some y) (some z) (some q)) (hx:ev x= .slice ao len cap) (hl:ev y= .int .i64 ml) (hh:ev z= .int .i64 mh) (hq:ev q= .int .i64 mx)
  (h1:0<=ml) (h2:ml<=mh) (h3:mh<=mx) (h4:mx<=(cap:Int)) :
  OpT P I w0 o ev [] (fun _=>True) (fun _=>[]):=by
 have he:P.elem t=e:=by simp[Program.elem,hT]
 refine OpT.weak (a6 (v:=sliced ao ml.toNat mh.toNat mx.toNat n) fun w=>?_) (fun _ _=>trivial) (fun _ _=>rfl)
 have hs:=TI.size hE w
 simp_all[execOp,Option.map_some,Sem.run_bind,run_sliceAt_slice,run_slice_lhm,Result.andThen_ok]
end
def PJ:(t:Ty)->List Value->Option t.den
 | .raw,[v] =>if h:v.oneCell'=true then some (⟨v,h⟩:Raw) else none
 | .prod .raw b,v::cs=>if h:v.oneCell'=true then (PJ b cs).bind fun d=>some ((⟨v,h⟩:Raw),d) else none
 | _,_=>none
theorem PK {J:Hp} : ∀ {t:Ty} {cs:List Value} {d:t.den},PJ t cs=some d->t.rep.rd J cs d:=by
 intro t
 induction t with
 | raw =>
  intro cs d h
  match cs,h with
  | [],h=>cases h
  | _::_::_,h=>cases h
  | [v],h =>
   by_cases hv':v.oneCell'=true
   ·have h:(if h:v.oneCell'=true then some (⟨v,h⟩:Raw) else none)=some d:=h
    rw[dif_pos hv'] at h
    cases ae h;rfl
   ·have h:(if h:v.oneCell'=true then some (⟨v,h⟩:Raw) else none)=some d:=h
    grind
 | prod a b iha ihb =>
  intro cs d h
  cases a with
  | raw =>
   cases cs with
   | nil=>cases h
   | cons v cs =>
    unfold PJ at h
    split at h
    ·have ⟨d',hd,h⟩:=Option.bind_eq_some_iff.1 h
     cases ae h
     exact ⟨[v],cs,rfl,rfl,ihb hd⟩
    grind
  | _=>cases cs <;> cases h
 | _=>intro cs d h;cases cs <;> cases h
def PL (e t:Ty):Option t.den:=match mE e t (Bw e) with
 | some z=>some z
 | none=>PJ t (zeroCells e)
theorem Hs {e t:Ty} {z:t.den} (h:PL e t=some z) (J:Hp):t.rep.rd J (zeroCells e) z:=by
 grind[PL,ae,gR,od,PK]
structure Vb where
 x:Bool
 h:Hdr
 k:Nat
 l:Int
 m:Int
 r:Row
section
variable {Y:Type} (tt:TT) (s:Sg) (k:Res->Option Y)
def WI (chs:List Ent) (x:Operand):Option Vb:=match opd s x with
 | some (.one (.own h))=>(rowOf h chs).bind fun r=>some ⟨false,h,r.t.size,0,(r.xs.length:Int),r⟩
 | some (.vw u h k n l m)=>(rowOf h chs).bind fun r=>bw (Nat.beq k r.t.size) (some ⟨false,h,k,l,m,r⟩)
 | some (.xv top u h k n l m)=>match rowOf u chs with
  | some r=>bw (Nat.beq k r.t.size) (some ⟨false,u,k,0,(r.xs.length:Int),r⟩)
  | none=>(rowOf h chs).bind fun r=>bw (Nat.beq k r.t.size) (some ⟨true,h,k,l,m,r⟩)
 | _=>none
def OM (x:Operand):Option Vb:=WI s s.chs x
def loV (x:Option Operand) (d:Int) (k:Int->Option Y):Option Y:=match x with
 | none=>k d
 | some x=>(asI s x).bind k
def B1 (T:TypeId) (x:Operand) (lo hi:Option Operand):Option Y:=(td tt T).bind fun d=>d.el.bind fun E'=>(td tt E').bind fun e=>(OM s x).bind fun b=>bw (Nat.beq e.n b.k) (loV s lo 0 fun ml=>loV s hi (b.m - b.l) fun mh =>
 match b.x with
 | false=>(chk (0<=ml/\ml<=mh/\b.l+mh<=(b.r.xs.length:Int))).bind fun _=>k ⟨[b.r.ent b.h],[],b.r.rest,[],.vw ⟨s.nxt,[]⟩ b.h b.k b.r.xs.length (b.l+ml) (b.l+mh)⟩
 | true=>(chk (0<=ml/\ml<=mh/\mh<=b.m - b.l)).bind fun _=>k ⟨[b.r.ent b.h],[],b.r.rest,[],.xv false ⟨s.nxt,[]⟩ b.h b.k b.r.xs.length (b.l+ml) (b.l+mh)⟩)
def LZ (T:TypeId) (x y z q:Operand):Option Y:=(td tt T).bind fun d=>d.el.bind fun E'=>(td tt E').bind fun e=>(OM s x).bind fun b=>bw (Nat.beq e.n b.k) ((asI s y).bind fun ml=>(asI s z).bind fun mh=>(asI s q).bind fun mx =>
 (chk (0<=ml/\ml<=mh/\mh<=mx/\b.l+mx<=(b.r.xs.length:Int))).bind fun _=>k ⟨[b.r.ent b.h],[],b.r.rest,[],.any ⟨s.nxt,[]⟩⟩)
def Um (T:TypeId) (x:Operand):Option Y:=(td tt T).bind fun d=>match d.el,opd s x with
 | some _,some (.vw u h k' n l m)=>k (.pure s (.one (.val (.int .i64 (m - l)))))
 | some _,some (.xv _ u h k' n l m)=>k (.pure s (.one (.val (.int .i64 (m - l)))))
 | _,_=>none
def FE (T:TypeId) (x i:Operand):Option Y:=(td tt T).bind fun d=>d.el.bind fun E=>(td tt E).bind fun e=>(OM s x).bind fun b=>bw (Nat.beq e.n b.k) ((asI s i).bind fun i=>(chk (0<=i/\i<b.m - b.l)).bind fun _=>(aK b.r.xs (b.l+i)).bind fun a=>k ⟨[b.r.ent b.h],[],b.r.rest,[],.elo b.h b.r.ver b.r.E b.r.t b.r.xs a (b.l+i) 0⟩)
def WJ (T:TypeId) (x y:Operand):Option Y:=(td tt T).bind fun d=>d.el.bind fun E=>(td tt E).bind fun e=>e.bytes.bind fun _=>(OM s x).bind fun b=>(OM s y).bind fun c =>
 bw (Nat.beq e.n b.k&&Hdr.beq c.h b.h&&Nat.beq b.r.E E&&b.r.t.sh) ((chk (b.l=0/\b.m<=c.l/\c.l<=c.m/\c.m<=(b.r.xs.length:Int))).bind fun _=>k ⟨[],[b.r.ent b.h],b.r.rest,[(b.h,.own (.sl b.r.E b.r.t) (wB b.r.xs b.m.toNat c.l.toNat c.m.toNat))],.vw ⟨s.nxt,[]⟩ b.h b.k b.r.xs.length 0 (b.m+(c.m - c.l))⟩)
def L4 (T:TypeId) (x:Operand):Option Y:=(td tt T).bind fun d=>d.el.bind fun E=>(td tt E).bind fun e=>e.bytes.bind fun _=>(OM s x).bind fun b =>
 bw (Nat.beq e.n b.k&&Nat.beq b.r.E E&&b.r.t.sh) ((PL e.ty b.r.t).bind fun z=>(chk (b.l<=b.m/\b.m<=(b.r.xs.length:Int))).bind fun _=>k ⟨[],[b.r.ent b.h],b.r.rest,[(b.h,.own (.sl b.r.E b.r.t) (th b.r.xs b.l.toNat b.m.toNat z))],.any ⟨s.nxt,[]⟩⟩)
end
section
variable {Y:Type} {tt:TT} {s:Sg} {k:Res->Option Y} {P:Program} {w0:World} {o:Oper} {res:Y} {x y:Operand}
theorem FF {chs:List Ent} {b:Vb} (h:WI s chs x=some b):rowOf b.h chs=some b.r/\b.k=b.r.t.size/\ ∀ {J:Hp} {θ:Th},Fine P w0 J θ s-> ∀ {w:World} {C:List Ch} {xs:List b.r.t.den},xs.length=b.r.xs.length->St J w0 w (Ch.own (aw b.r.E b.r.t.rep) [hv θ b.h] xs::C)->Vw (evL (envL θ s) x) (hv θ b.h) b.k b.r.xs.length b.l b.m:=by
 unfold WI at h
 split at h
 ·rename_i hh hx
  have ⟨r,hr,h⟩:=bind_some h
  cases ae h
  refine ⟨hr,rfl,fun {J θ} hf {w C xs} hl hs=>?_⟩
  have h1:=yf (k:=r.t.size) hs
  rw[hl] at h1
  rw[aC (θ:=θ) hx]
  exact h1
 ·rename_i u hh k' n l m hx
  have ⟨r,hr,h⟩:=bind_some h
  have ⟨hk,h⟩:=aj h
  have hk:=aq hk
  cases ae h
  refine ⟨hr,hk,fun {J θ} hf {w C xs} hl hs=>?_⟩
  have hxo:=bu hf hx
  have h1:=hxo.2.2.1
  cases LY hs h1
  rw[aC (θ:=θ) hx,<-hl]
  exact h1
 ·rename_i top u hh k' n l m hx
  split at h
  ·rename_i r hr
   have ⟨hk,h⟩:=aj h
   have hk:=aq hk
   cases ae h
   refine ⟨hr,hk,fun {J θ} hf {w C xs} hl hs=>?_⟩
   have h1:=yf (k:=k') hs
   rw[hl] at h1
   rw[aC (θ:=θ) hx]
   exact h1
  ·have ⟨r,hr,h⟩:=bind_some h
   have ⟨hk,h⟩:=aj h
   have hk:=aq hk
   cases ae h
   refine ⟨hr,hk,fun {J θ} hf {w C xs} hl hs=>?_⟩
   have hxo:=bu hf hx
   have h1:=hxo.2.2.1
   cases LY hs h1
   rw[aC (θ:=θ) hx,<-hl]
   exact h1
 grind
theorem pv {b:Vb} (h:OM s x=some b):rowOf b.h s.chs=some b.r/\b.k=b.r.t.size/\ ∀ {J:Hp} {θ:Th},Fine P w0 J θ s-> ∀ {w:World} {C:List Ch} {xs:List b.r.t.den},xs.length=b.r.xs.length->St J w0 w (Ch.own (aw b.r.E b.r.t.rep) [hv θ b.h] xs::C)->Vw (evL (envL θ s) x) (hv θ b.h) b.k b.r.xs.length b.l b.m:=FF h
theorem R8 {Z:Type} {x:Option Operand} {d:Int} {k:Int->Option Z} {z:Z} (h:loV s x d k=some z): ∃m:Option Int,k (m.getD d)=some z/\ ∀θ,oI (evL (envL θ s)) x m:=by
 unfold loV at h
 split at h
 ·exact ⟨none,h,fun _=>trivial⟩
 ·have ⟨q,hq,h⟩:=bind_some h
  exact ⟨some q,h,fun θ=>mJ hq θ⟩
theorem Un {h:Hdr} {r:Row} {kk:Nat} {l m:Int} (hr:rowOf h s.chs=some r) (hm:m<=(r.xs.length:Int)) (hop: ∀J θ,Fine P w0 J θ s->OpT P J w0 o (evL (envL θ s)) [toCh P θ (r.ent h)] (fun v=>Vw v (hv θ h) kk r.xs.length l m) (fun _=>[toCh P θ (r.ent h)])):Good P w0 s o ⟨[r.ent h],[],r.rest,[],.vw ⟨s.nxt,[]⟩ h kk r.xs.length l m⟩:=by
 obtain ⟨hp,-⟩:=bf hr
 refine ⟨ma hp,aL rfl,fun J θ hf=>OpT.weak (hop J θ hf) (fun u hu=>?_) (fun u hu=>rfl)⟩
 have hok:=gU hf hp
 refine ⟨⟨au _,aN hok.1,?_,hm⟩,cW,fun g hg=>by cases hg⟩
 rw[cW,show hv (upd θ s.nxt u) h=hv θ h from aS Same.upd hok.1]
 exact hu
theorem L5 {top:Bool} {h:Hdr} {r:Row} {kk:Nat} {l m:Int} (hr:rowOf h s.chs=some r) (hm:top=true->l=0) (hop: ∀J θ,Fine P w0 J θ s->OpT P J w0 o (evL (envL θ s)) [toCh P θ (r.ent h)] (fun v=>Vw v (hv θ h) kk r.xs.length l m) (fun _=>[toCh P θ (r.ent h)])):Good P w0 s o ⟨[r.ent h],[],r.rest,[],.xv top ⟨s.nxt,[]⟩ h kk r.xs.length l m⟩:=by
 obtain ⟨hp,-⟩:=bf hr
 refine ⟨ma hp,aL rfl,fun J θ hf=>OpT.weak (hop J θ hf) (fun u hu=>?_) (fun u hu=>rfl)⟩
 have hok:=gU hf hp
 refine ⟨⟨au _,aN hok.1,?_,hm⟩,cW,fun g hg=>by cases hg⟩
 rw[cW,show hv (upd θ s.nxt u) h=hv θ h from aS Same.upd hok.1]
 exact hu
theorem vD (hT:TTok P tt) {T:TypeId} {lo hi:Option Operand} (ho:o.op= .slice T x lo hi none) (h:B1 tt s k T x lo hi=some res):Oks P w0 s o k res:=by
 have ⟨d,hd,h⟩:=bind_some h
 have ⟨E',hE,h⟩:=bind_some h
 have ⟨e,he,h⟩:=bind_some h
 have ⟨b,hb,h⟩:=bind_some h
 have ⟨hn,h⟩:=aj h
 have hn:=aq hn
 have ⟨ml,h,hml⟩:=R8 h
 have ⟨mh,h,hmh⟩:=R8 h
 have ⟨hr,hk,hvw⟩:=pv (P:=P) (w0:=w0) hb
 have key:0<=ml.getD 0->ml.getD 0<=mh.getD (b.m - b.l)->(b.l+mh.getD (b.m - b.l)<=(b.r.xs.length:Int)\/mh.getD (b.m - b.l)<=b.m - b.l)-> ∀J θ,Fine P w0 J θ s->OpT P J w0 o (evL (envL θ s)) [toCh P θ (b.r.ent b.h)] (fun v=>Vw v (hv θ b.h) b.k b.r.xs.length (b.l+ml.getD 0) (b.l+mh.getD (b.m - b.l))) (fun _=>[toCh P θ (b.r.ent b.h)]):=by
  intro c1 c2 c3 J θ hf w C hs
  have h1:=hvw hf rfl hs
  have ⟨ao,cap,hu,hl0,hlm⟩:=h1.hd
  have hcap:b.m.toNat - b.l.toNat<=cap/\b.l+cap≥b.r.xs.length:=by
   rcases h1 with ⟨-,q,e1,e2,e3⟩ | ⟨g,ofs,cp,x',-,q,q1,q2,q3,q4,q5,q6⟩
   ·omega
   ·grind
  have e1:mh.getD (b.m - b.l)=mh.getD ((b.m.toNat - b.l.toNat:Nat):Int):=by
   cases mh with
   | none=>grind
   | some _=>rfl
  rw[e1] at c2 c3
  have:=As (P:=P) (I:=J) (w0:=w0) (ev:=evL (envL θ s)) ((hT.get hd).el _ hE) (hT.get he).ti ho hu (hml θ) (hmh θ) hcap.1 c1 c2 (by omega) w (toCh P θ (b.r.ent b.h)::C) hs
  refine this.imp fun v w' hv'=>⟨?_,hv'.2⟩
  rw[e1]
  exact PI h1 c1 c2 c3 hu (by grind)
 split at h
 ·have ⟨u,hc,h⟩:=bind_some h
  have ⟨c1,c2,c3⟩:=bD hc
  exact ⟨_,h,Un hr c3 (key c1 c2 (.inl c3))⟩
 ·have ⟨u,hc,h⟩:=bind_some h
  have ⟨c1,c2,c3⟩:=bD hc
  exact ⟨_,h,L5 hr (fun e=>by cases e) (key c1 c2 (.inr c3))⟩
theorem Jg (hT:TTok P tt) {T:TypeId} {y z q:Operand} (ho:o.op= .slice T x (some y) (some z) (some q)) (h:LZ tt s k T x y z q=some res):Oks P w0 s o k res:=by
 have ⟨d,hd,h⟩:=bind_some h
 have ⟨E',hE,h⟩:=bind_some h
 have ⟨e,he,h⟩:=bind_some h
 have ⟨b,hb,h⟩:=bind_some h
 have ⟨hn,h⟩:=aj h
 have ⟨ml,hml,h⟩:=bind_some h
 have ⟨mh,hmh,h⟩:=bind_some h
 have ⟨mx,hmx,h⟩:=bind_some h
 have ⟨u,hc,h⟩:=bind_some h
 have ⟨c1,c2,c3,c4⟩:=bD hc
 have ⟨hr,hk,hvw⟩:=pv (P:=P) (w0:=w0) hb
 obtain ⟨hp,-⟩:=bf hr
 refine ⟨_,h,ma hp,aL rfl,fun J θ hf=>OpT.weak (fact:=fun _=>True) (gv:=fun _=>[toCh P θ (b.r.ent b.h)]) (fun w C hs=>?_) (fun u hu=>⟨au _,cW,fun g hg=>by cases hg⟩) (fun u hu=>rfl)⟩
 have h1:=hvw hf rfl hs
 have ⟨ao,cap,hu,hl0,hlm⟩:=h1.hd
 have hcap:b.l+cap≥b.r.xs.length:=by
  rcases h1 with ⟨-,q,e1,e2,e3⟩ | ⟨g,ofs,cp,x',-,q,q1,q2,q3,q4,q5,q6⟩
  ·omega
  ·grind
 exact Jf (P:=P) (I:=J) (w0:=w0) (ev:=evL (envL θ s)) ((hT.get hd).el _ hE) (hT.get he).ti ho hu (mJ hml θ) (mJ hmh θ) (mJ hmx θ) c1 c2 c3 (by omega) w (toCh P θ (b.r.ent b.h)::C) hs
theorem PN (hT:TTok P tt) {T:TypeId} (ho:o.op= .call { callee:=.builtin .len,args:= #[x],argTypes:= #[T] }) (h:Um tt s k T x=some res):Oks P w0 s o k res:=by
 have ⟨d,hd,h⟩:=bind_some h
 split at h
 ·rename_i E u hh k' n l m he hx
  refine jS h rfl fun J θ hf=>?_
  have hxo:=bu hf hx
  have ⟨a,c,e,h1,h2⟩:=hxo.2.2.1.hd
  have:=tQ (P:=P) (I:=J) (w0:=w0) (o:=o) (ev:=evL (envL θ s)) ((hT.get hd).el _ he) ho ((aC (θ:=θ) hx).trans e)
  grind
 ·rename_i E top u hh k' n l m he hx
  refine jS h rfl fun J θ hf=>?_
  have hxo:=bu hf hx
  have ⟨a,c,e,h1,h2⟩:=hxo.2.2.1.hd
  have:=tQ (P:=P) (I:=J) (w0:=w0) (o:=o) (ev:=evL (envL θ s)) ((hT.get hd).el _ he) ho ((aC (θ:=θ) hx).trans e)
  grind
 grind
theorem Au (hT:TTok P tt) {T:TypeId} {i:Operand} (ho:o.op= .indexAddr T x i) (h:FE tt s k T x i=some res):Oks P w0 s o k res:=by
 have ⟨d,hd,h⟩:=bind_some h
 have ⟨E',hE,h⟩:=bind_some h
 have ⟨e,he,h⟩:=bind_some h
 have ⟨b,hb,h⟩:=bind_some h
 have ⟨hn,h⟩:=aj h
 have hn:=aq hn
 have ⟨iv,hi,h⟩:=bind_some h
 have ⟨u,hc,h⟩:=bind_some h
 have ⟨c1,c2⟩:=bD hc
 have ⟨a,ha,h⟩:=bind_some h
 have ⟨hr,hk,hvw⟩:=pv (P:=P) (w0:=w0) hb
 obtain ⟨hp,-⟩:=bf hr
 refine ⟨_,h,ma hp,aL rfl,fun J θ hf=>OpT.weak (fact:=(· =pt (hv θ b.h) ((b.l+iv).toNat*b.r.t.size+0))) (gv:=fun _=>[toCh P θ (b.r.ent b.h)]) (fun w C hs=>?_) (fun u hu=>?_) (fun u hu=>rfl)⟩
 ·have h1:=hvw hf rfl hs
  have hT2:=(hT.get hd).el _ hE
  have hti:=(hT.get he).ti
  rcases h1 with ⟨-,q,e1,e2,e3⟩ | ⟨g,ofs,cp,x',q0,q,q1,q2,q3,q4,q5,q6⟩
  ·omega
  ·have hval:pt (hv θ b.h) ((b.l+iv).toNat*b.r.t.size+0)= .pointer (some ⟨g,ofs+b.l.toNat*b.k+iv.toNat*e.n,none⟩):=by
    rw[q0]
    show Value.pointer (some ⟨g,ofs+((b.l+iv).toNat*b.r.t.size+0),none⟩)=_
    rw[show (b.l+iv).toNat=b.l.toNat+iv.toNat from by omega,<-hk,hn,Nat.add_mul]
    congr 3;omega
   rw[hval]
   have h2:iv<((b.m.toNat - b.l.toNat:Nat):Int):=by omega
   have:OpT P J w0 o (evL (envL θ s)) [] (· = .pointer (some ⟨g,ofs+b.l.toNat*b.k+iv.toNat*e.n,none⟩)) (fun _=>[]):=by
    refine a6 fun w=>?_
    simp[execOp,ho,q,mJ hi θ,Instr.indexAt,asIntOf,run_underlying hT2,hti.run_size,c1,h2,Result.andThen,Addr.add_mid]
   exact this w (toCh P θ (b.r.ent b.h)::C) hs
 ·have hok:=gU hf hp
  refine ⟨⟨aN hok.1,ha,(tZ hr hok.2.1).newer (Res.newer (ma hp) (aL rfl J θ hf)) (Nat.le_succ _)⟩,?_,fun g hg=>by cases hg⟩
  rw[hu]
  show pt (hv (upd θ s.nxt _) b.h) _=pt (hv θ b.h) _
  rw[show hv (upd θ s.nxt _) b.h=hv θ b.h from aS Same.upd hok.1]
theorem B2 {h:Hdr} {r:Row} {xs:List r.t.den} {av:AV} {fact:Th->Value->Prop} (hr:rowOf h s.chs=some r) (hop: ∀J θ,Fine P w0 J θ s->OpT P J w0 o (evL (envL θ s)) [toCh P θ (r.ent h)] (fact θ) (fun _=>[Ch.own (aw r.E r.t.rep) [hv θ h] xs]))
  (hav: ∀J θ u,Fine P w0 J θ s->fact θ u->h.id<s.nxt->av.ok P w0 J (upd θ s.nxt u) (s.nxt+1) ((h,s.nxt,.own (.sl r.E r.t) xs)::r.rest)/\av.v (upd θ s.nxt u)=u):Good P w0 s o ⟨[],[r.ent h],r.rest,[(h,.own (.sl r.E r.t) xs)],av⟩:=by
 obtain ⟨hp,-⟩:=bf hr
 refine ⟨zQ hp,aL rfl,fun J θ hf=>OpT.weak (hop J θ hf) (fun u hu=>?_) (fun u hu=>?_)⟩
 ·have hok:=gU hf hp
  have ⟨q1,q2⟩:=hav J θ u hf hu hok.1
  refine ⟨q1,q2,fun g hg=>?_⟩
  cases ak hg
  exact ⟨aN hok.1,au _,trivial⟩
 ·have hok:=gU hf hp
  show [Ch.own _ [hv θ h] xs] = [Ch.own _ [hv (upd θ s.nxt u) h] xs]
  rw[show hv (upd θ s.nxt u) h=hv θ h from aS Same.upd hok.1]
  rfl
theorem PO (hT:TTok P tt) {T:TypeId} (ho:o.op= .call { callee:=.builtin .append,args:= #[x,y],argTypes:= #[T,T] }) (h:WJ tt s k T x y=some res):Oks P w0 s o k res:=by
 have ⟨d,hd,h⟩:=bind_some h
 have ⟨E,hE,h⟩:=bind_some h
 have ⟨e,he,h⟩:=bind_some h
 have ⟨by_,hby,h⟩:=bind_some h
 have ⟨b,hb,h⟩:=bind_some h
 have ⟨c,hcv,h⟩:=bind_some h
 have ⟨hn,h⟩:=aj h
 simp only[ah] at hn
 have ⟨⟨⟨n1,n2⟩,n3⟩,n4⟩:=hn
 have n1:=aq n1
 have n2:=Hdr.beq_eq n2
 have n3:=aq n3
 have ⟨u,hc,h⟩:=bind_some h
 have ⟨c1,c2,c3,c4⟩:=bD hc
 have ⟨hr,hk,hvw⟩:=pv (P:=P) (w0:=w0) hb
 have ⟨hr2,hk2,hvw2⟩:=pv (P:=P) (w0:=w0) hcv
 have hcr:c.r=b.r:=by
  rw[n2] at hr2
  exact ae (hr2.symm.trans hr)
 have hk3:c.k=b.k:=by grind
 have hdk:=hT.get hd
 have hek:=hT.get he
 have ⟨z,hz1,hz2,hz3⟩:=hek.zero by_ hby
 have hTE:P.underlying T=some (.slice b.r.E):=(hdk.el E hE).trans (by rw[n3])
 refine ⟨_,h,B2 (fact:=fun θ v=>Vw v (hv θ b.h) b.k b.r.xs.length 0 (b.m+(c.m - c.l))) hr (fun J θ hf=>fun w C hs=>?_) (fun J θ u hf hu hlt=>⟨⟨au _,aN hlt,?_,by omega⟩,cW⟩)⟩
 ·have h1:=hvw hf rfl hs
  have h2:Vw (evL (envL θ s) y) (hv θ b.h) b.k b.r.xs.length c.l c.m:=by
   have:=hvw2 hf rfl (xs:=c.r.xs) (by rw[hcr,n2];exact hs)
   grind
  have hs':St J w0 w (Ch.own (aw b.r.E b.r.t.rep) [hv θ b.h] b.r.xs::C):=hs
  rcases h1 with ⟨q0,q,e1,e2,e3⟩ | ⟨g,ofs,cp,x',q0,q,q1,q2,q3,q4,q5,q6⟩
  ·rcases h2 with ⟨p0,p,f1,f2,f3⟩ | ⟨g2,ofs2,cp2,y',p0,p,-⟩
   ·have hx0:=List.eq_nil_of_length_eq_zero e1
    have hrun:(Builtin.append_ #[T,T] o.type #[.slice none 0 0,.slice none 0 0]).run P w= .ok (.slice none 0 0) w:=by
     obtain ⟨info,hi',-,-,-⟩:=info_parts hz1
     rw[<-n3] at hi'
     exact et hTE hi' (ay _)
    rw[dn ho q p hrun]
    refine ⟨.inl ⟨q0,rfl,e1,rfl,by omega⟩,?_⟩
    grind[wB]
   grind
  ·rcases h2 with ⟨p0,p,f1,f2,f3⟩ | ⟨g2,ofs2,cp2,y',p0,p,p1,p2,p3,p4,p5,p6⟩
   ·grind
   ·rw[q0] at p0
    simp[Value.slice.injEq,Option.some.injEq,Addr.mk.injEq,and_true,true_and] at p0
    obtain ⟨⟨rfl,rfl⟩,rfl⟩:=p0
    have hb0:b.l.toNat=0:=by omega
    have hx0:x'=0:=by rw[hb0,Nat.zero_mul] at q5;omega
    subst hx0
    rw[hb0,Nat.sub_zero,Nat.sub_zero,Nat.add_zero] at q
    rw[q0] at hs'⊢
    have:=B0 (P:=P) (I:=J) (w0:=w0) (o:=o) (xs:=b.r.xs) (ev:=evL (envL θ s)) (Ty.sh_ok n4) (Ty.cpy n4) hTE (by rw[n3];omega) (by grind[Ty.size_pos]) (b.r.t.rep_size.trans (hk.symm.trans n1.symm)) ho q p (fun hlt=>?_) (by omega) (by omega) (by omega) w C (by simpa using hs')
    ·refine this.imp fun v w' hv'=>⟨?_,hv'.2⟩
     refine .inr ⟨g,ofs,cp,0,rfl,?_,by omega,by omega,q3,by omega,Nat.zero_le _,.inr (by simp)⟩
     grind
    grind
 grind[cW,hv,upd,aS,Same.upd]
theorem Jh (hT:TTok P tt) {T:TypeId} (ho:o.op= .call { callee:=.builtin .clear,args:= #[x],argTypes:= #[T] }) (h:L4 tt s k T x=some res):Oks P w0 s o k res:=by
 have ⟨d,hd,h⟩:=bind_some h
 have ⟨E,hE,h⟩:=bind_some h
 have ⟨e,he,h⟩:=bind_some h
 have ⟨by_,hby,h⟩:=bind_some h
 have ⟨b,hb,h⟩:=bind_some h
 have ⟨hn,h⟩:=aj h
 simp only[ah] at hn
 have ⟨⟨n1,n3⟩,n4⟩:=hn
 have n1:=aq n1
 have n3:=aq n3
 have ⟨z,hz,h⟩:=bind_some h
 have ⟨u,hc,h⟩:=bind_some h
 have ⟨c3,c4⟩:=bD hc
 have ⟨hr,hk,hvw⟩:=pv (P:=P) (w0:=w0) hb
 have hdk:=hT.get hd
 have hek:=hT.get he
 have ⟨zv,hz1,hz2,hz3⟩:=hek.zero by_ hby
 have hzs:zv.cells.size=e.n:=by rw[hz2,List.size_toArray,tY,hek.sz]
 have hTE:P.underlying T=some (.slice b.r.E):=(hdk.el E hE).trans (by rw[n3])
 have hzr: ∀J,b.r.t.rep.rd J zv.cells.toList z:=fun J=>by
  grind[Hs]
 refine ⟨_,h,B2 (fact:=fun _ _=>True) hr (fun J θ hf=>fun w C hs=>?_) (fun J θ u hf hu hlt=>⟨au _,cW⟩)⟩
 have h1:=hvw hf rfl hs
 have hs':St J w0 w (Ch.own (aw b.r.E b.r.t.rep) [hv θ b.h] b.r.xs::C):=hs
 rcases h1 with ⟨q0,q,e1,e2,e3⟩ | ⟨g,ofs,cp,x',q0,q,q1,q2,q3,q4,q5,q6⟩
 ·rw[oh ho q (qJ w T b.r.E o.type hTE _ _)]
  refine ⟨trivial,?_⟩
  grind[th]
 ·rw[q0] at hs'⊢
  exact DD (P:=P) (I:=J) (w0:=w0) (o:=o) (ev:=evL (envL θ s)) (Ty.sh_ok n4) (Ty.cpy n4) hTE (by rw[n3];omega) (by grind[Ty.size_pos]) (b.r.t.rep_size.trans (hk.symm.trans n1.symm)) hzs (hzr J) ho q (fun hlt=>by
   grind) (by omega) (by omega) w C hs'
end
theorem PP {α:Type} {E:TypeId} {R:Rep α} {I:Hp} {w0 w:World} {C:List Ch} {u v:Value} {xs:List α} {l m:Int} {k:Nat} (h:St I w0 w (Ch.own (aw E R) [v] xs::C)) (hR:R.size=k) (hv:Vw u v k xs.length l m) (hm:m<=(xs.length:Int)):St I w0 w (Ch.own (aw E R) [u] ((xs.take m.toNat).drop l.toNat)::C):=by
 obtain ⟨h1,h2,F,⟨G,K,rfl,k0,e⟩,h4,h5⟩:=h
 have ⟨hl,k0⟩:=k0
 rcases hv with ⟨rfl,rfl,hn,rfl,rfl⟩ | ⟨g,ofs,cap,x,rfl,rfl,q1,q2,q3,q4,q5,q6⟩
 ·have hx:=List.eq_nil_of_length_eq_zero hn
  subst hx
  exact ⟨h1,h2,G++K,⟨G,K,rfl,⟨Nat.zero_le _,k0⟩,e⟩,h4,h5⟩
 ·rcases k0 with ⟨hv',rfl,rfl⟩ | ⟨g',ofs',cap',cur,K1,hv',k1,k2,k3,k4,rfl,k5⟩
  ·grind
  ·simp[List.cons.injEq,Value.slice.injEq,Option.some.injEq,Addr.mk.injEq,and_true,true_and] at hv'
   obtain ⟨⟨rfl,rfl⟩,rfl⟩:=hv'
   rw[hR] at k4
   have hlm:l.toNat<=m.toNat:=by omega
   have hlen:((xs.take m.toNat).drop l.toNat).length=m.toNat - l.toNat:=by rw[bC,aF];omega
   have e1:xs=(xs.take m.toNat).take l.toNat++((xs.take m.toNat).drop l.toNat++xs.drop m.toNat):=by grind[aD,List.take_append_drop]
   rw[e1] at k5
   obtain ⟨c1,c2,G1,G2,f1,f2,rfl,-,p1⟩:=k5.cut2
   obtain ⟨G3,G4,rfl,p2,-⟩:=p1.parts
   have hp:((g::(G1++(G3++G4)))++K).Perm (((g::G3)++K)++(G1++G4)):=by
    show (g::((G1++(G3++G4))++K)).Perm (g::((G3++K)++(G1++G4)))
    refine List.Perm.cons g ?_
    rw[aD,aD,aD]
    refine (List.perm_append_comm_assoc G1 G3 _).trans (List.Perm.append_left G3 ?_)
    refine (List.perm_append_comm_assoc G1 G4 K).trans ?_
    rw[<-aD]
    refine List.perm_append_comm.trans ?_
    exact List.Perm.append_left K List.perm_append_comm
   have hl1:((xs.take m.toNat).take l.toNat).length=l.toNat:=by rw[aF,aF];omega
   rw[hl1,hR] at f2
   have hdr:cur.toList.drop (ofs+l.toNat*k)=c2:=by
    rw[<-List.drop_drop,f1]
    exact List.drop_left' f2
   have hbx: ∀c,OwnEls R I w c ((xs.take m.toNat).drop l.toNat) G3->St I w0 w (Ch.own (aw E R) [.slice (some ⟨g,ofs+x,none⟩) (m.toNat - l.toNat) (cap - l.toNat)] ((xs.take m.toNat).drop l.toNat)::C)\/c≠cur.toList.drop (ofs+x):=fun c hc=>by
    by_cases hcc:c=cur.toList.drop (ofs+x)
    ·subst hcc
     have m1:l.toNat*k+(cap - l.toNat)*k=cap*k:=by rw[<-Nat.add_mul];congr 1;omega
     refine .inl ⟨h1,h2,(g::G3)++K,⟨g::G3,K,rfl,⟨by omega,.inr ⟨g,ofs+x,cap - l.toNat,cur,G3,by grind,k1,by omega,by omega,by grind,rfl,hc⟩⟩,e⟩,(List.nodup_append.1 (hp.nodup_iff.1 h4)).1,fun b hb=>h5 b (hp.mem_iff.2 (aT _ hb))⟩
    grind
   rcases q6 with q6 | q6
   ·have hz:(xs.take m.toNat).drop l.toNat= []:=List.eq_nil_of_length_eq_zero (by omega)
    have hG3:G3= []:=by rw[hz] at p2;exact p2
    rcases hbx (cur.toList.drop (ofs+x)) (by rw[hz,hG3];rfl) with r | r
    ·exact r
    grind
   grind
def oi (u:Hdr):List (Nat×Nat×AV)->List (Nat×Nat×AV)
 | [] =>[]
 | (t,ver,.xv top u' h k n l m)::es=>(match Hdr.beq u' u with | true=>(t,ver,.one (.own u')) | false=>(t,ver,.xv top u' h k n l m))::oi u es
 | (t,ver,.vw u' h k n l m)::es=>(match Hdr.beq u' u with | true=>(t,ver,.one (.own u)) | false=>(t,ver,.vw u' h k n l m))::oi u es
 | e::es=>e::oi u es
def PQ {Y:Type} (s:Sg) (v:AV) (kk:Sg->Option Y):Option Y:=match v with
 | .xv _ u _ _ _ _ _=>kk ⟨oi u s.env,s.chs,s.nxt+1⟩
 | .vw u h k n l m=>match rowOf h s.chs with
  | some r=>bw (Nat.beq k r.t.size) (kk ⟨oi u s.env,(u,s.nxt,.own (.sl r.E r.t) ((r.xs.take m.toNat).drop l.toNat))::r.rest,s.nxt+1⟩)
  | none=>kk s
 | _=>kk s
def PR {Y:Type} :List AV->Sg->(Sg->Option Y)->Option Y
 | [],s,kk=>kk s
 | v::vs,s,kk=>PQ s v fun s=>PR vs s kk
section
variable {P:Program} {I J:Hp} {w0 w:World} {F:Ch} {n:Nat} {θ:Th} {s:Sg} {a:Act}
theorem B3 {u:Hdr} {N:Nat} {chs:List Ent} : ∀ {l:List (Nat×Nat×AV)},(∀e∈l,e.2.2.ok P w0 J θ N chs)->(∀e∈oi u l,e.2.2.ok P w0 J θ N chs/\ ∃e0∈l,e0.2.1=e.2.1)/\((oi u l).map fun e=>(e.1,e.2.2.v θ))=(l.map fun e=>(e.1,e.2.2.v θ))/\((l.Pairwise fun a b=>a.2.1≠b.2.1)->(oi u l).Pairwise fun a b=>a.2.1≠b.2.1)
 | [],h=>⟨fun e he=>(by cases he),rfl,fun _=>List.Pairwise.nil⟩
 | e::es,h=>by
  have ⟨k1,k2,k3⟩:=B3 (u:=u) (l:=es) fun e he=>h e (ba _ he)
  have hh:=h e (List.mem_cons_self ..)
  have fin: ∀e',e'.1=e.1->e'.2.1=e.2.1->e'.2.2.ok P w0 J θ N chs->e'.2.2.v θ=e.2.2.v θ->(∀q∈e'::oi u es,q.2.2.ok P w0 J θ N chs/\ ∃e0∈e::es,e0.2.1=q.2.1)/\((e'::oi u es).map fun e=>(e.1,e.2.2.v θ))=((e::es).map fun e=>(e.1,e.2.2.v θ))/\(((e::es).Pairwise fun a b=>a.2.1≠b.2.1)->(e'::oi u es).Pairwise fun a b=>a.2.1≠b.2.1):=fun e' f1 f2 f3 f4=>by
   refine ⟨fun q hq=>?_,?_,fun hp=>?_⟩
   ·rcases az hq with rfl | hq
    ·exact ⟨f3,e,List.mem_cons_self ..,f2.symm⟩
    ·have ⟨r1,e0,r2,r3⟩:=k1 q hq
     exact ⟨r1,e0,ba _ r2,r3⟩
   ·rw[List.map_cons,List.map_cons,k2,f1,f4]
   ·have ⟨p1,p2⟩:=List.pairwise_cons.1 hp
    refine List.pairwise_cons.2 ⟨fun q hq=>?_,k3 p2⟩
    have ⟨r1,e0,r2,r3⟩:=k1 q hq
    rw[f2,<-r3]
    exact p1 e0 r2
  obtain ⟨t,ver,av⟩:=e
  cases av with
  | vw u' h' k' n' l' m' =>
   cases hb:Hdr.beq u' u with
   | true =>
    have:=Hdr.beq_eq hb
    subst this
    have e1:oi u' ((t,ver,.vw u' h' k' n' l' m')::es)=(t,ver,.one (.own u'))::oi u' es:=by simp[oi,hb]
    rw[e1]
    exact fin (t,ver,.one (.own u')) rfl rfl ⟨hh.1,hh.2.2.1.one⟩ rfl
   | false =>
    grind[oi]
  | xv top u' h' k' n' l' m' =>
   cases hb:Hdr.beq u' u with
   | true =>
    have:=Hdr.beq_eq hb
    subst this
    have e1:oi u' ((t,ver,.xv top u' h' k' n' l' m')::es)=(t,ver,.one (.own u'))::oi u' es:=by simp[oi,hb]
    rw[e1]
    exact fin (t,ver,.one (.own u')) rfl rfl ⟨hh.1,hh.2.2.1.one⟩ rfl
   | false =>
    grind[oi]
  | _=>exact fin _ rfl rfl hh rfl
theorem PS {Y:Type} {kk:Sg->Option Y} {y:Y} {v:AV} (h:PQ s v kk=some y) (hv':v.ok P w0 J θ s.nxt s.chs) (hS:Sim P I w0 F n J θ s a w): ∃s',kk s'=some y/\Sim P I w0 F n J θ s' a w/\Newer s.nxt s.chs s'.chs/\s.nxt<=s'.nxt:=by
 have base:Sim P I w0 F n J θ s a w/\Newer s.nxt s.chs s.chs/\s.nxt<=s.nxt:=⟨hS,Newer.rfl,ay _⟩
 unfold PQ at h
 split at h
 ·rename_i top u hh k N l m
  have ⟨q1,q2,q3⟩:=B3 (u:=u) (P:=P) (w0:=w0) (J:=J) (θ:=θ) (N:=s.nxt) (chs:=s.chs) hS.fine.env
  refine ⟨_,h,⟨hS.le,?_,hS.st,fun e he=>AV.ok_same Same.rfl (Nat.le_succ _) Newer.rfl (q1 e he).1 Hp.le.rfl,fun e he=>?_,q3 hS.fine.nd,fun e he=>dS Same.rfl (Nat.le_succ _) Newer.rfl (hS.fine.chs e he) Hp.le.rfl,hS.fine.lay⟩,Newer.rfl,Nat.le_succ _⟩
  ·show Agr n a ((oi u s.env).map _);rw[q2];exact hS.agr
  ·obtain ⟨-,e0,r1,r2⟩:=q1 e he
   rw[<-r2];exact aN (hS.fine.ver e0 r1)
 ·rename_i u hh k N l m
  have hvo:=hv'
  split at h
  ·rename_i r hr
   have ⟨hk,h⟩:=aj h
   have hk:=aq hk
   obtain ⟨hp,-⟩:=bf hr
   have ⟨q1,q2,q3⟩:=B3 (u:=u) (P:=P) (w0:=w0) (J:=J) (θ:=θ) (N:=s.nxt) (chs:=s.chs) hS.fine.env
   have hst:=hS.st.perm ((hp.map (toCh P θ)).append_right [F])
   have hN:=LY hst hvo.2.2.1
   subst hN
   have hst2:=PP hst (r.t.rep_size.trans hk.symm) hvo.2.2.1 hvo.2.2.2
   have hnew:Newer s.nxt s.chs ((u,s.nxt,.own (.sl r.E r.t) ((r.xs.take m.toNat).drop l.toNat))::r.rest):=fun e he h' ver' c hs'=>by
    rcases az he with rfl | he
    ·obtain ⟨rfl,hs'⟩:=hs'
     rcases hs' with ⟨rfl,rfl⟩ | hs'
     ·grind
     ·exact hs'.elim
    grind
   refine ⟨_,h,⟨hS.le,?_,hst2,fun e he=>AV.ok_same Same.rfl (Nat.le_succ _) hnew (q1 e he).1 Hp.le.rfl,fun e he=>?_,q3 hS.fine.nd,fun e he=>?_,hS.fine.lay⟩,hnew,Nat.le_succ _⟩
   ·show Agr n a ((oi u s.env).map _);rw[q2];exact hS.agr
   ·obtain ⟨-,e0,r1,r2⟩:=q1 e he
    rw[<-r2];exact aN (hS.fine.ver e0 r1)
   ·rcases az he with rfl | he
    ·exact ⟨aN hvo.1,au _,trivial⟩
    ·exact dS Same.rfl (Nat.le_succ _) hnew (hS.fine.chs e (hp.mem_iff.2 (ba _ he))) Hp.le.rfl
  grind
 grind
theorem Ht {Y:Type} {kk:Sg->Option Y} {y:Y} : ∀ {vs:List AV} {s:Sg},PR vs s kk=some y->(∀v∈vs,v.ok P w0 J θ s.nxt s.chs)->Sim P I w0 F n J θ s a w-> ∃s',kk s'=some y/\Sim P I w0 F n J θ s' a w/\s.nxt<=s'.nxt
 | [],s,h,_,hS=>⟨s,h,hS,ay _⟩
 | v::vs,s,h,hv',hS=>by
  have ⟨s1,e,h1,h2,h3⟩:=PS (show PQ s v (fun s=>PR vs s kk)=some y from h) (hv' v (List.mem_cons_self ..)) hS
  have ⟨s',e',k1,k2⟩:=Ht (vs:=vs) e (fun x hx=>AV.ok_same Same.rfl h3 h2 (hv' x (ba _ hx)) Hp.le.rfl) h1
  grind
end
end R
namespace D
open Go.RowKit
section
variable {P:Program} {I J:Hp} {w0 w w':World} {cs C:List Ch} {o:Oper} {ev:Operand->Value}
theorem Ji {dT sT ty e:TypeId} {k g o dLen dCap sLen sCap:Nat} {ao:Option Addr} {cs:List Value} (hu:P.underlying dT=some (.slice e)) (hs:(sizeOf e).run P w= .ok k w) (hn:cs.length=Nat.min sLen dLen*k)
  (hsrc:cs= [] \/ ∃a,ao=some a/\ ∀j v,cs[j]? =some v->w.cell? (a.add j)=some v) (hc: ∀j,j<cs.length->(w.cell? ⟨g,o+j,none⟩).isSome=true) (hf: ∀j,j<cs.length->w.frozen? ⟨g,o+j,none⟩=false) (h1: ∀v∈cs,v.oneCell'=true) :
  (Builtin.copy_ #[dT,sT] ty #[.slice (some ⟨g,o,none⟩) dLen dCap,.slice ao sLen sCap]).run P w= .ok (goInt (Nat.min sLen dLen)) (w.setCells g o cs):=by
 have hst:=run_storeCells_cells (P:=P) g o cs 0 w (by simpa using hc) (by simpa using hf) h1
 simp only[Nat.add_zero] at hst
 have hfc:(Builtin.firstCells k (Nat.min sLen dLen) (.slice ao sLen sCap)).run P w= .ok cs.toArray w:=by
  rcases hsrc with rfl | ⟨a,rfl,h⟩
  ·cases ao with
   | none=>rfl
   | some a=>exact run_firstCells_some (P:=P) w k _ a sLen sCap [] hn (fun j v hj=>by simp at hj)
  ·exact run_firstCells_some (P:=P) w k _ a sLen sCap cs hn h
 simp[Builtin.copy_,run_underlying hu,Builtin.lenOf,hs,hfc,hst]
theorem uo {x y:Operand} {T U:TypeId} {v u r:Value} {w w':World} (ho:o.op= .call { callee:=.builtin .copy,args:= #[x,y],argTypes:= #[T,U] }) (hx:ev x=v) (hy:ev y=u) (hr:(Builtin.copy_ #[T,U] o.type #[v,u]).run P w= .ok r w'):(execOp ev o).run P w= .ok (.value r) w':=by
 simp only[execOp,ho,resolve,invoke,builtin,Sem.run_bind,Sem.run_pure,Result.andThen_ok,List.map_toArray,List.map_cons,List.map_nil,hx,hy,hr]
theorem pX {x y:Operand} {T U:TypeId} {v u r:Value} {w w':World} (ho:o.op= .call { callee:=.builtin .append,args:= #[x,y],argTypes:= #[T,U] }) (hx:ev x=v) (hy:ev y=u) (hr:(Builtin.append_ #[T,U] o.type #[v,u]).run P w= .ok r w'):(execOp ev o).run P w= .ok (.value r) w':=by
 simp only[execOp,ho,resolve,invoke,builtin,Sem.run_bind,Sem.run_pure,Result.andThen_ok,List.map_toArray,List.map_cons,List.map_nil,hx,hy,hr]
def B4 {α:Type} (xs:List α) (p:Nat) (ys:List α):List α:=xs.take p++(ys++xs.drop (p+ys.length))
theorem tj {α:Type} {xs ys:List α} {p:Nat} (hp:p<=xs.length):(B4 xs p ys).length=max xs.length (p+ys.length):=by
 simp only[B4,al,aF,bC];omega
theorem PU {α:Type} {xs ys:List α} {p q:Nat} (hp:p<=xs.length):(B4 xs p ys)[q]? =if p<=q/\q<p+ys.length then ys[q - p]? else xs[q]? :=by
 have hi:(xs.take p).length=p:=by rw[aF];omega
 unfold B4
 by_cases c1:q<p
 ·rw[if_neg (by omega),List.getElem?_append_left (by omega),List.getElem?_take,if_pos c1]
 ·rw[List.getElem?_append_right (by omega),hi]
  by_cases c2:q<p+ys.length
  ·rw[if_pos (by omega),List.getElem?_append_left (by omega)]
  ·rw[if_neg (by omega),List.getElem?_append_right (by omega),List.getElem?_drop];congr 1;omega
def RdCells {α:Type} (R:Rep α) (I:Hp) (k:Nat) (news:List Value) (ys:List α):Prop:=news.length=ys.length*k/\ ∀(i:Nat) y,ys[i]? =some y-> ∃c:List Value,c.length=k/\(∀j,j<k->news[i*k+j]? =c[j]?)/\R.rd I c y
theorem RdCells.one {α:Type} {R:Rep α} {k:Nat} {news:List Value} {ys:List α} (hk:0<k) (h:RdCells R I k news ys): ∀u∈news,u.oneCell'=true:=by
 intro u hu
 obtain ⟨q,hq⟩:=List.getElem?_of_mem hu
 have hq':=(List.getElem?_eq_some_iff.1 hq).1
 rw[h.1] at hq'
 have hqn:q / k<ys.length:=by rw[Nat.div_lt_iff_lt_mul hk];exact hq'
 obtain ⟨c,c1,c2,c3⟩:=h.2 _ _ (List.getElem?_eq_getElem hqn)
 have:=c2 (q % k) (Nat.mod_lt _ hk)
 rw[Nat.div_add_mod',hq] at this
 exact R.rd_one c3 u (List.mem_of_getElem? this.symm)
theorem DE {α:Type} {R:Rep α} {xs:List α} {cur:Array Value} {ofs k j m:Nat} (hm:m<=xs.length) (hcap:ofs+xs.length*k<=cur.size) (hj:j<=m) (hat: ∀(i:Nat) x,xs[i]? =some x-> ∃c:List Value,c.length=k/\(∀j,j<k->(cur.toList.drop ofs)[i*k+j]? =c[j]?)/\R.rd I c x):RdCells R I k (qI cur ofs k j m) ((xs.take m).drop j):=by
 have hl:((xs.take m).drop j).length=m - j:=by rw[bC,aF];omega
 refine ⟨by rw[hl];exact rP hcap hj hm,fun i y hy=>?_⟩
 have hi:i<m - j:=by rw[<-hl];exact (List.getElem?_eq_some_iff.1 hy).1
 rw[List.getElem?_drop,List.getElem?_take,if_pos (by omega)] at hy
 obtain ⟨c,c1,c2,c3⟩:=hat _ _ hy
 refine ⟨c,c1,fun q hq=>?_,c3⟩
 have e1:i*k+k<=(m - j)*k:=by rw[<-Nat.succ_mul];exact Nat.mul_le_mul_right _ (by omega)
 rw[kB (by omega),<-c2 q hq,Nat.add_mul]
 congr 1;omega
theorem PV {α:Type} {E:TypeId} {R:Rep α} (hSh:R.Sh) (hC:Cpy R R) {k:Nat} (hk:0<k) (hR:R.size=k) {g ofs n cap p:Nat} {xs ys:List α} {news:List Value} (hn:RdCells R I k news ys) (hp:p<=xs.length) (hfit:p+ys.length<=cap) (hlim:p+ys.length<=lim)
  (h:St I w0 w (Ch.own (aw E R) [.slice (some ⟨g,ofs,none⟩) n cap] xs::C)):St I w0 (w.setCells g (ofs+p*k) news) (Ch.own (aw E R) [.slice (some ⟨g,ofs,none⟩) (B4 xs p ys).length cap] (B4 xs p ys)::C):=by
 obtain ⟨rfl,r1,r2,-⟩:=yd hSh hR h
 have hl:=tj (xs:=xs) (ys:=ys) hp
 have hxl:=(h.hd 0 rfl).2
 refine BY hSh hC hR (p:=p) (cnt:=ys.length) hn.1 hfit (by rw[hl];omega) (by rw[hl];omega) (fun q u hq=>?_) h
 rw[PU hp] at hq
 by_cases c1:p<=q/\q<p+ys.length
 ·rw[if_pos c1] at hq
  obtain ⟨c,d1,d2,d3⟩:=hn.2 _ _ hq
  exact .inl ⟨c1.1,c1.2,c,d1,d2,d3⟩
 ·rw[if_neg c1] at hq
  exact .inr ⟨by omega,hq⟩
theorem Jj {α:Type} {E:TypeId} {R:Rep α} (hC:Cpy R R) {k:Nat} (hR:R.size=k) {g cap:Nat} {cells:List Value} {xs:List α} (hcap:xs.length<=cap) (hmx:cap<=maxLen) (hl:cap*k<=cells.length) (hlim:xs.length<=lim) (hel: ∀(i:Nat) x,xs[i]? =some x-> ∃c:List Value,c.length=k/\(∀j,j<k->cells[i*k+j]? =c[j]?)/\R.rd I c x)
  (h:St I w0 w (Ch.blk g cells E::C)):St I w0 w (Ch.own (aw E R) [.slice (some ⟨g,0,none⟩) xs.length cap] xs::C):=by
 obtain ⟨hb,hi,F,⟨G,K,rfl,⟨rfl,e2⟩,e3⟩,h4,h5⟩:=h
 refine ⟨hb,hi,[g] ++K,⟨[g],K,rfl,⟨hlim,.inr ⟨g,0,cap,cells.toArray,[],rfl,e2,hcap,hmx,?_,rfl,yc hC fun i x hx=>?_⟩⟩,e3⟩,h4,h5⟩
 ·rw[hR];simpa using hl
 ·rw[hR]
  obtain ⟨c,c1,c2,c3⟩:=hel i x hx
  exact ⟨c,c1,fun j hj=>by rw[<-c2 j hj];simp,c3⟩
theorem yg {T U ty E:TypeId} {z:Value} {n b:Nat} {kn:IntKind} (hT:P.underlying T=some (.slice E)) (hU:P.underlying U=some (.int kn)) (hE:TZ P E z n b) {a:Addr} {i cap q:Nat} {old:List Value} (hn:0<n) (hq:0<q) (hroom:cap<i+q) (hbig:(i+q)*b<=140737488355328) (hb:1<=b)
  (hl:old.length=i*n) (hold: ∀j v,old[j]? =some v->w.cell? (a.add j)=some v) :
  ∃c,i+q<=c/\c<=maxLen/\(Builtin.append_ #[T,U] ty #[.slice (some a) i cap,.int .i64 q]).run P w= .ok (.slice (some ⟨w.heap.size,0,none⟩) (i+q) c) (w.drew.alloc (.cells (old.toArray++Builtin.zeroCells z.cells q++Builtin.zeroCells z.cells (c - (i+q))) E)):=by
 obtain ⟨info,hi',hz,hsize,hby⟩:=info_parts hE
 have h0:(i+q)*1<=(i+q)*b:=Nat.mul_le_mul_left _ hb
 have h1:q*b<=(i+q)*b:=Nat.mul_le_mul_right _ (by omega)
 have hw:i64.wrap (q:Int)=q:=by rw[IntKind.wrap_i64];omega
 have h63': ¬(9223372036854775807<((i:Int)+(q:Int))):=by omega
 have hnx:=growslice_fits (bytes:=b) hroom hbig
 have h48': ¬(281474976710656<Builtin.nextslicecap (i+q) cap*b):=by omega
 have h48i: ¬(281474976710656<(q:Int)*(b:Int)):=by
  rw[<-Int.natCast_mul];omega
 have hneg: ¬((q:Int)<0):=by omega
 have hns: ¬(q*n=0):=Nat.mul_ne_zero (by omega) (by omega)
 have hnr: ¬(i+q<=cap):=by omega
 have hfc:(Builtin.firstCells n i (.slice (some a) i cap)).run P w.drew= .ok old.toArray w.drew:=run_firstCells_some (P:=P) w.drew n i a i cap old hl (fun j v hj=>hold j v hj)
 refine ⟨grownCap w (i+q) cap E,grownCap_ge w _ _ _,grownCap_le_maxLen w _ _ _ (by unfold maxLen;omega),?_⟩
 simp[Builtin.append_,run_underlying hT,run_underlying hU,sizeOf,typeInfo,zeroValue,hi',hz,hsize,hby,asInt,asIntOf,hw,hneg,hns,hnr,h63',h48',h48i,Question.forced,hfc,newRow,grownCap]
end
end D
namespace R
open Go.RowKit
open D
open Classical in
noncomputable def yh {Y:Type} (n:Nat) (f:Nat->Option Y):Option Y:=if h: ∃y,∀c,n<=c->c<=maxLen->f c=some y then some h.choose else none
theorem DF {Y:Type} {n:Nat} {f:Nat->Option Y} {y:Y} (h:yh n f=some y): ∀c,n<=c->c<=maxLen->f c=some y:=by
 unfold yh at h
 split at h
 ·grind
 grind
theorem Jk {Y:Type} {n:Nat} {f:Nat->Option Y} {y:Y} (hn:n<=maxLen) (h: ∀c,n<=c->c<=maxLen->f c=some y):yh n f=some y:=by
 unfold yh
 have hh: ∃y,∀c,n<=c->c<=maxLen->f c=some y:=⟨y,h⟩
 grind
theorem Hu: ∃F:(Y:Type)->Nat->(Nat->Option Y)->Option Y,(∀Y n f y,F Y n f=some y-> ∀c,n<=c->c<=maxLen->f c=some y)/\ ∀Y n f y,n<=maxLen->(∀c,n<=c->c<=maxLen->f c=some y)->F Y n f=some y:=
 ⟨fun Y n f=>yh n f,fun Y n f y h=>DF h,fun Y n f y hn h=>Jk hn h⟩
noncomputable def R9 {Y:Type} (n:Nat) (f:Nat->Option Y):Option Y:=Classical.choose Hu Y n f
theorem FG {Y:Type} {n:Nat} {f:Nat->Option Y} {y:Y} (h:R9 n f=some y): ∀c,n<=c->c<=maxLen->f c=some y:=(Classical.choose_spec Hu).1 Y n f y h
def Uo (tt:TT) (s:Sg) (o:Oper):Option (Hdr×Row):=match o.op with
 | .call c=>match c.callee,c.args.toList,c.argTypes.toList with
  | .builtin .cap,[x],[T] =>(td tt T).bind fun d=>d.el.bind fun _=>match opd s x with
   | some (.one (.own h))=>(rowOf h s.chs).bind fun r=>some (h,r)
   | _=>none
  | _,_,_=>none
 | _=>none
def Sa (q:Hdr×Row) (c:Nat):Res:=⟨[q.2.ent q.1],[],q.2.rest,[],.capv q.1 c⟩
theorem DG {P:Program} {o:Oper} {ev:Operand->Value} {x:Operand} {T:TypeId} {v r:Value} {w w':World} (ho:o.op= .call { callee:=.builtin .cap,args:= #[x],argTypes:= #[T] }) (hx:ev x=v) (hr:(Builtin.cap_ #[T] o.type #[v]).run P w= .ok r w'):(execOp ev o).run P w= .ok (.value r) w':=by
 simp[execOp,ho,resolve,invoke,builtin,Sem.run_bind,Sem.run_pure,Result.andThen_ok,List.map_toArray,List.map_cons,List.map_nil,hx,hr]
theorem vE {α:Type} {E:TypeId} {R:Rep α} {I:Hp} {w0 w:World} {C:List Ch} {v:Value} {xs:List α} (h:St I w0 w (Ch.own (aw E R) [v] xs::C)): ∃a,v= .slice a xs.length (OK v)/\xs.length<=OK v/\OK v<=maxLen:=by
 obtain ⟨hb,hi,F,⟨G,K,rfl,⟨hl,e2⟩,e3⟩,h4,h5⟩:=h
 rcases e2 with ⟨hv,rfl,rfl⟩ | ⟨g,ofs,cap,cur,K1,hv,k1,k2,k3,k4,rfl,k5⟩
 ·obtain rfl:v= .slice none 0 0:=by grind
  exact ⟨_,rfl,ay _,Nat.zero_le _⟩
 ·obtain rfl:v= .slice (some ⟨g,ofs,none⟩) xs.length cap:=by grind
  exact ⟨_,rfl,k2,k3⟩
section
variable {tt:TT} {s:Sg} {P:Program} {I J:Hp} {w0 w:World} {F:Ch} {n:Nat} {θ:Th} {a:Act} {o:Oper}
theorem PX (hT:TTok P tt) {q:Hdr×Row} (h:Uo tt s o=some q) (hS:Sim P I w0 F n J θ s a w):q.2.xs.length<=OK (hv θ q.1)/\OK (hv θ q.1)<=maxLen/\GoodA P w0 J θ s o (Sa q (OK (hv θ q.1))):=by
 unfold Uo at h
 split at h
 ·rename_i c ho
  split at h
  ·rename_i x T h1 h2 h3
   have ⟨d,hd,h⟩:=bind_some h
   have ⟨E,hE,h⟩:=bind_some h
   split at h
   ·rename_i hh hx
    have ⟨r,hr,h⟩:=bind_some h
    cases ae h
    obtain ⟨hp,-⟩:=bf hr
    have hst:=hS.st.perm ((hp.map (toCh P θ)).append_right [F])
    have hst:St J w0 w (Ch.own (aw r.E r.t.rep) [hv θ hh] r.xs::(r.rest.map (toCh P θ)++ [F])):=hst
    have ⟨ad,c1,c2,c3⟩:=vE hst
    refine ⟨c2,c3,ma hp,aL rfl J θ hS.fine,?_⟩
    have hok:=gU hS.fine hp
    have ho':o.op= .call { callee:=.builtin .cap,args:= #[x],argTypes:= #[T] }:=by
     have ⟨cal,args,tys⟩:=c
     have h1:cal= .builtin .cap:=h1
     rw[ho,h1,show args= #[x] from Array.ext' h2,show tys= #[T] from Array.ext' h3]
    have hTE:=(hT.get hd).el E hE
    have he:P.elem T=E:=by simp[Program.elem,hTE]
    refine OpT.weak (fact:=(· = .int .i64 (OK (hv θ hh)))) (gv:=fun _=>[toCh P θ (r.ent hh)]) (fun w C hs=>?_) (fun u hu=>⟨⟨aN hok.1,?_⟩,?_,fun g hg=>by cases hg⟩) (fun u hu=>rfl)
    ·have hrun:(Builtin.cap_ #[T] o.type #[hv θ hh]).run P w= .ok (goInt (OK (hv θ hh))) w:=by
      rw[c1]
      exact run_cap_slice (P:=P) w T o.type _ _ _ (by grind)
     rw[DG ho' (aC hx) hrun]
     exact ⟨rfl,hs⟩
    ·rw[show hv (upd θ s.nxt u) hh=hv θ hh from aS Same.upd hok.1]
    ·exact hu.symm
   grind
  grind
 grind
end
def Av (h:Hdr):List (Nat×Nat×AV)->Option Nat
 | [] =>none
 | (_,_,.capv h' c)::es=>if Hdr.beq h' h then some c else Av h es
 | _::es=>Av h es
theorem yi {P:Program} {w0:World} {J:Hp} {θ:Th} {n:Nat} {chs:List Ent} {h:Hdr} {c:Nat} : ∀ {l:List (Nat×Nat×AV)},Av h l=some c->(∀e∈l,e.2.2.ok P w0 J θ n chs)->OK (hv θ h)=c
 | (t,ver,av)::es,hc,hl=>by
  have ih:=fun hc=>yi (l:=es) (h:=h) (c:=c) hc fun e he=>hl e (ba _ he)
  have hh:=hl (t,ver,av) (List.mem_cons_self ..)
  unfold Av at hc
  split at hc
  ·grind
  ·rename_i h' c' es' heq
   injection heq with e1 e2
   injection e1 with e3 e4
   injection e4 with e5 e6
   subst e6
   split at hc
   ·rename_i hb
    have:=Hdr.beq_eq hb
    subst this
    cases ae hc
    exact hh.2
   grind
  grind
def L6 (h:Hdr):List (Nat×Nat×AV)->Option (Hdr×Int)
 | [] =>none
 | (_,_,.xv true u h' _ _ _ m)::es=>if Hdr.beq h' h then some (u,m) else L6 h es
 | _::es=>L6 h es
theorem Hv {P:Program} {w0:World} {J:Hp} {θ:Th} {n:Nat} {chs:List Ent} {h:Hdr} {q:Hdr×Int} : ∀ {l:List (Nat×Nat×AV)},L6 h l=some q->(∀e∈l,e.2.2.ok P w0 J θ n chs)->q.1.id<n/\ ∃k N,Vw (hv θ q.1) (hv θ h) k N 0 q.2
 | (t,ver,av)::es,hc,hl=>by
  have ih:=fun hc=>Hv (l:=es) (h:=h) (q:=q) hc fun e he=>hl e (ba _ he)
  have hh:=hl (t,ver,av) (List.mem_cons_self ..)
  unfold L6 at hc
  split at hc
  ·grind
  ·rename_i u h' kk nn ll mm es' heq
   injection heq with e1 e2
   injection e1 with e3 e4
   injection e4 with e5 e6
   subst e6
   split at hc
   ·rename_i hb
    have:=Hdr.beq_eq hb
    have ⟨q1,q2,q3,q4⟩:=hh
    grind
   grind
  grind
section
variable {Y:Type} (tt:TT) (s:Sg) (k:Res->Option Y)
def Up (b:BinOp) (x y:Operand):Option Y:=match opd s x,opd s y with
 | some (.one (.val (.int .i64 m))),some (.capv _ c)=>bw (Wh b) (kv s k (.bool (cmpI b m (c:Int))))
 | _,_=>none
def L7 (T:TypeId) (x hi:Operand):Option Y:=(td tt T).bind fun d=>d.el.bind fun E'=>(td tt E').bind fun e=>match opd s x with
 | some (.one (.own h))=>(rowOf h s.chs).bind fun r=>bw (Nat.beq e.n r.t.size) ((asI s hi).bind fun m=>(Av h s.env).bind fun c=>(chk ((r.xs.length:Int)<=m/\m<=(c:Int))).bind fun _=>k ⟨[r.ent h],[],r.rest,[],.xv true ⟨s.nxt,[]⟩ h r.t.size r.xs.length 0 m⟩)
 | _=>none
def WK (T U:TypeId) (x y:Operand):Option Y:=(td tt T).bind fun d=>d.el.bind fun E=>(td tt E).bind fun e=>e.bytes.bind fun by_=>(td tt U).bind fun f=>f.ik.bind fun ik=>(OM s x).bind fun b=>(asI s y).bind fun q =>
 bw (Nat.beq e.n b.k&&Nat.beq b.r.E E&&b.r.t.sh&&ik.isSome && !b.x) ((PL e.ty b.r.t).bind fun z=>(Av b.h s.env).bind fun c =>
 (chk (b.l=0/\b.m<=(b.r.xs.length:Int)/\0<q/\(c:Int)<b.m+q/\(b.m+q)*(by_:Int)<=140737488355328)).bind fun _=>k ⟨[b.r.ent b.h],[],b.r.rest,[(⟨s.nxt,[]⟩,.own (.sl b.r.E b.r.t) (b.r.xs.take b.m.toNat++List.replicate q.toNat z))],.one (.own ⟨s.nxt,[]⟩)⟩)
def vF (b c:Vb):Int:=min (c.m - c.l) (b.m - b.l)
def E5 {α:Type} (xs:List α) (l:Int) (cnt:Int):List α:=(xs.take (l+cnt).toNat).drop l.toNat
def WL (b c:Vb):Option Y:=(chk (0<=c.l/\0<=vF b c/\c.l+vF b c<=(b.r.xs.length:Int)/\0<=b.l/\b.l<=(b.r.xs.length:Int))).bind fun _=>match b.x with
 | false=>(chk (b.m<=(b.r.xs.length:Int))).bind fun _=>k ⟨[],[b.r.ent b.h],b.r.rest,[(b.h,.own (.sl b.r.E b.r.t) (B4 b.r.xs b.l.toNat (E5 b.r.xs c.l (vF b c))))],.one (.val (.int .i64 (vF b c)))⟩
 | true=>(L6 b.h s.env).bind fun q=>(chk (b.l+vF b c=q.2/\(b.r.xs.length:Int)<=q.2)).bind fun _=>k ⟨[],[b.r.ent b.h],b.r.rest,[(q.1,.own (.sl b.r.E b.r.t) (B4 b.r.xs b.l.toNat (E5 b.r.xs c.l (vF b c))))],.one (.val (.int .i64 (vF b c)))⟩
def WM (b c:Vb):Option Y:=(mF (.sl c.r.E c.r.t) (.sl b.r.E b.r.t) c.r.xs).bind fun ys=>(chk (0<=c.l/\0<=vF b c/\c.l+vF b c<=(ys.length:Int)/\0<=b.l/\b.l<=(b.r.xs.length:Int)/\b.m<=(b.r.xs.length:Int))).bind fun _ =>
 k ⟨[c.r.ent c.h],[b.r.ent b.h],c.r.rest,[(b.h,.own (.sl b.r.E b.r.t) (B4 b.r.xs b.l.toNat (E5 ys c.l (vF b c))))],.one (.val (.int .i64 (vF b c)))⟩
def L8 (T:TypeId) (x y:Operand):Option Y:=(td tt T).bind fun d=>d.el.bind fun E=>(td tt E).bind fun e=>(OM s x).bind fun b=>(OM s y).bind fun c=>bw (Nat.beq e.n b.k&&Nat.beq c.k b.k&&Nat.beq b.r.E E&&b.r.t.sh) (match Hdr.beq c.h b.h with
 | true=>WL s k b c
 | false=>(WI s b.r.rest y).bind fun c=>bw (Nat.beq c.k b.k) (WM k b c))
def Uq (x y:Operand):Option Y:=match opd s x with
 | some (.one (.own h))=>(rowOf h s.chs).bind fun r=>(WI s r.rest y).bind fun c=>(chk (0<r.xs.length/\c.l<c.m)).bind fun _=>k ⟨[r.ent h,c.r.ent c.h],[],c.r.rest,[],.one (.val (.bool false))⟩
 | _=>none
end
section
variable {Y:Type} {tt:TT} {s:Sg} {k:Res->Option Y} {P:Program} {w0:World} {o:Oper} {res:Y} {x y:Operand}
theorem PY {b:BinOp} {t u:TypeId} (ho:o.op= .binOp b t x y u) (h:Up s k b x y=some res):Oks P w0 s o k res:=by
 unfold Up at h
 split at h
 ·rename_i m hh c hx hy
  have ⟨hb,h⟩:=aj h
  exact jS h rfl fun J θ hf=>sV ho (aC hx) (aC hy) hb rfl
 grind
theorem Jl (hT:TTok P tt) {T:TypeId} {hi:Operand} (ho:o.op= .slice T x none (some hi) none) (h:L7 tt s k T x hi=some res):Oks P w0 s o k res:=by
 have ⟨d,hd,h⟩:=bind_some h
 have ⟨E',hE,h⟩:=bind_some h
 have ⟨e,he,h⟩:=bind_some h
 split at h
 ·rename_i hh hx
  have ⟨r,hr,h⟩:=bind_some h
  have ⟨hn,h⟩:=aj h
  have ⟨m,hm,h⟩:=bind_some h
  have ⟨c,hc,h⟩:=bind_some h
  have ⟨u,hk,h⟩:=bind_some h
  have ⟨c1,c2⟩:=bD hk
  refine ⟨_,h,L5 hr (fun _=>rfl) fun J θ hf=>fun w C hs=>?_⟩
  have hst:St J w0 w (Ch.own (aw r.E r.t.rep) [hv θ hh] r.xs::C):=hs
  have hcv:=yi hc hf.env
  have ⟨ad,e1,e2,e3⟩:=vE hst
  rw[hcv] at e1 e2
  have:=As (P:=P) (I:=J) (w0:=w0) (ev:=evL (envL θ s)) (lo:=none) (hi:=some hi) (ml:=none) (mh:=some m) ((hT.get hd).el _ hE) (hT.get he).ti ho ((aC (θ:=θ) hx).trans e1) trivial (mJ hm θ) e2 (Int.le_refl _) (by grind) c2 w (toCh P θ (r.ent hh)::C) hs
  refine this.imp fun v w' hv'=>⟨?_,hv'.2⟩
  have h1:=yf (k:=r.t.size) hst
  rcases h1 with ⟨q0,-,q1,-,-⟩ | ⟨g,ofs,cp,x',q0,-,-⟩
  ·have h0:c=0:=by rw[q0] at hcv;exact hcv.symm
   refine .inl ⟨q0,?_,q1,rfl,by omega⟩
   grind[sliced]
  ·rw[q0] at e1⊢
   injection e1 with f1 f2 f3
   refine .inr ⟨g,ofs,cp,0,rfl,?_,Int.le_refl _,by omega,by omega,by omega,Nat.zero_le _,.inr (by simp)⟩
   grind[sliced,Addr.add_mid]
 grind
theorem PZ (hT:TTok P tt) {T U:TypeId} (ho:o.op= .call { callee:=.builtin .append,args:= #[x,y],argTypes:= #[T,U] }) (h:WK tt s k T U x y=some res):Oks P w0 s o k res:=by
 obtain ⟨d,hd,h⟩:=bind_some h
 obtain ⟨E,hE,h⟩:=bind_some h
 obtain ⟨e,he,h⟩:=bind_some h
 obtain ⟨by_,hby,h⟩:=bind_some h
 obtain ⟨f,hf',h⟩:=bind_some h
 obtain ⟨ik,hik,h⟩:=bind_some h
 obtain ⟨b,hb,h⟩:=bind_some h
 obtain ⟨q,hq,h⟩:=bind_some h
 obtain ⟨hn,h⟩:=aj h
 simp only[ah] at hn
 obtain ⟨⟨⟨⟨n1,n3⟩,n4⟩,n5⟩,n6⟩:=hn
 have n1:e.n=b.k:=aq n1
 have n3:b.r.E=E:=aq n3
 obtain ⟨z,hz,h⟩:=bind_some h
 obtain ⟨c,hc,h⟩:=bind_some h
 obtain ⟨u,hk',h⟩:=bind_some h
 obtain ⟨c1,c2,c3,c4,c5⟩:=bD hk'
 obtain ⟨hr,hk,hvw⟩:=pv (P:=P) (w0:=w0) hb
 obtain ⟨hp,-⟩:=bf hr
 obtain ⟨kn,hkn⟩:=Option.isSome_iff_exists.1 n5
 have hTU:P.underlying U=some (.int kn):=(hT.get hf').ik (some kn) (by grind)
 have hdk:=hT.get hd
 have hek:=hT.get he
 obtain ⟨zv,hz1,hz2,hz3⟩:=hek.zero by_ hby
 have hzs:zv.cells.size=e.n:=by rw[hz2,List.size_toArray,tY,hek.sz]
 have hTE:P.underlying T=some (.slice b.r.E):=(hdk.el E hE).trans (by rw[n3])
 have hz1':TZ P b.r.E zv e.n by_:=by rw[n3];exact hz1
 have hzr: ∀J,b.r.t.rep.rd J zv.cells.toList z:=fun J=>by grind[Hs]
 have hnp:0<e.n:=by rw[n1,hk];exact Ty.size_pos _
 have hR:b.r.t.rep.size=e.n:=b.r.t.rep_size.trans (hk.symm.trans n1.symm)
 refine ⟨_,h,good_row (rs:=[b.r.ent b.h]) (ns:=[]) (ma hp) fun J θ hf=>fun w C hs=>?_⟩
 have hst:St J w0 w (Ch.own (aw b.r.E b.r.t.rep) [hv θ b.h] b.r.xs::C):=hs
 have h1:=hvw hf rfl hst
 have hcv:=yi hc hf.env
 obtain ⟨ad,e1,e2,e3⟩:=vE hst
 have hxl:=(hst.hd 0 rfl).2
 have hq0:((q.toNat:Nat):Int)=q:=by omega
 have hq1:0<q.toNat:=by omega
 have hbig:(b.m.toNat+q.toNat)*by_<=140737488355328:=by
  have:(((b.m.toNat+q.toNat)*by_:Nat):Int)=(b.m+q)*by_:=by
   rw[Int.natCast_mul,Int.natCast_add,hq0,show ((b.m.toNat:Nat):Int)=b.m from by obtain ⟨_,_,_,g1,g2⟩:=h1.hd;omega]
  omega
 have hbig1:b.m.toNat+q.toNat<=140737488355328:=by
  have:(b.m.toNat+q.toNat)*1<=(b.m.toNat+q.toNat)*by_:=Nat.mul_le_mul_left _ hz3
  omega
 have hy:evL (envL θ s) y= .int .i64 (q.toNat:Nat):=by rw[hq0];exact mJ hq θ
 have fin: ∀(old:List Value) (cc:Nat),old.length=b.m.toNat*e.n->(∀(i:Nat) a,(b.r.xs.take b.m.toNat)[i]? =some a-> ∃c:List Value,c.length=e.n/\(∀j,j<e.n->old[i*e.n+j]? =c[j]?)/\b.r.t.rep.rd J c a)->b.m.toNat<=b.r.xs.length->b.m.toNat+q.toNat<=cc->cc<=maxLen->
   St J w0 (w.drew.alloc (.cells (old.toArray++Builtin.zeroCells zv.cells q.toNat++Builtin.zeroCells zv.cells (cc - (b.m.toNat+q.toNat))) b.r.E)) ((Ch.own (Ty.sl b.r.E b.r.t).rep [.slice (some ⟨w.heap.size,0,none⟩) (b.m.toNat+q.toNat) cc] (b.r.xs.take b.m.toNat++List.replicate q.toNat z):: [toCh P θ (b.r.ent b.h)])++C):=by
  intro old cc hl hel hml hcc hmx
  have hA:=(hst.drew).alloc (old++(Builtin.zeroCells zv.cells q.toNat).toList++(Builtin.zeroCells zv.cells (cc - (b.m.toNat+q.toNat))).toList) b.r.E
  have ea:(old++(Builtin.zeroCells zv.cells q.toNat).toList++(Builtin.zeroCells zv.cells (cc - (b.m.toNat+q.toNat))).toList).toArray=old.toArray++Builtin.zeroCells zv.cells q.toNat++Builtin.zeroCells zv.cells (cc - (b.m.toNat+q.toNat)):=by
   apply Array.ext';simp
  rw[ea] at hA
  have hlen:(b.r.xs.take b.m.toNat++List.replicate q.toNat z).length=b.m.toNat+q.toNat:=by rw[al,aF,List.length_replicate];omega
  have hzl:(Builtin.zeroCells zv.cells q.toNat).toList.length=q.toNat*e.n:=by rw[pq,hzs]
  have hzl2:(Builtin.zeroCells zv.cells (cc - (b.m.toNat+q.toNat))).toList.length=(cc - (b.m.toNat+q.toNat))*e.n:=by rw[pq,hzs]
  have m1:b.m.toNat*e.n+q.toNat*e.n+(cc - (b.m.toNat+q.toNat))*e.n=cc*e.n:=by rw[<-Nat.add_mul,<-Nat.add_mul];congr 1;omega
  have:=Jj (xs:=b.r.xs.take b.m.toNat++List.replicate q.toNat z) (Ty.cpy n4) (k:=e.n) hR (by omega) hmx (by grind) (by grind[lim]) (fun i a ha=>by
   by_cases hi:i<b.m.toNat
   ·grind
   ·have hi2:i<b.m.toNat+q.toNat:=by rw[<-hlen];exact (List.getElem?_eq_some_iff.1 ha).1
    rw[List.getElem?_append_right (by grind),aF,List.getElem?_replicate,if_pos (by omega)] at ha
    obtain rfl:=ae ha
    refine ⟨zv.cells.toList,by omega,fun j hj=>?_,hzr J⟩
    have m2:b.m.toNat*e.n<=i*e.n:=Nat.mul_le_mul_right _ (by omega)
    have m3:i*e.n+e.n<=(b.m.toNat+q.toNat)*e.n:=by rw[<-Nat.succ_mul];exact Nat.mul_le_mul_right _ hi2
    have m4:(b.m.toNat+q.toNat)*e.n=b.m.toNat*e.n+q.toNat*e.n:=Nat.add_mul _ _ _
    have m5:(i - b.m.toNat)*e.n=i*e.n - b.m.toNat*e.n:=Nat.sub_mul _ _ _
    rw[List.getElem?_append_left (by grind),List.getElem?_append_right (by omega),hl,show i*e.n+j - b.m.toNat*e.n=(i - b.m.toNat)*e.n+j from by omega,<-hzs,um (by omega) (by omega)]) hA
  rw[hlen] at this
  exact this
 rcases h1 with ⟨q0,hu,g1,g2,g3⟩ | ⟨g,ofs,cp,x',q0,hu,q1,q2,q3,q4,q5,q6⟩
 ·have hm0:b.m.toNat=0:=by omega
  obtain ⟨info,hi',hzz,hsize,hbb⟩:=info_parts hz1'
  have hrun:=Lib.run_append_nil_zeros (P:=P) w T U o.type b.r.E info zv .i64 kn hTE hTU hi' hzz q.toNat hq1 (by omega) (by omega) (by grind)
  rw[pX ho hu hy hrun]
  refine ⟨trivial,?_⟩
  have:=fin [] (grownCap w q.toNat 0 b.r.E) (by grind) (fun i a ha=>by grind) (by omega) (by rw[hm0,Nat.zero_add];exact grownCap_ge w _ _ _) (grownCap_le_maxLen w _ _ _ (by unfold maxLen;omega))
  rw[hm0,Nat.zero_add] at this
  grind
 ·have hb0:b.l.toNat=0:=by omega
  have hx0:x'=0:=by rw[hb0,Nat.zero_mul] at q5;omega
  subst hx0
  rw[hb0,Nat.sub_zero,Nat.sub_zero,Nat.add_zero] at hu
  rw[q0] at hcv hst
  have hcp:cp=c:=hcv
  obtain ⟨-,r1,r2,cur,r3,r4,hat⟩:=yd (k:=e.n) (Ty.sh_ok n4) hR hst
  have hml:b.m.toNat<=b.r.xs.length:=by omega
  have hln:=rP (cur:=cur) (ofs:=ofs) (k:=e.n) (j:=0) (m:=b.m.toNat) (cap:=cp) r4 (Nat.zero_le _) (Nat.le_trans hml r1)
  rw[Nat.sub_zero] at hln
  obtain ⟨cc,g1,g2,hrun⟩:=yg (P:=P) (w:=w) (ty:=o.type) (a:=⟨g,ofs,none⟩) (i:=b.m.toNat) (cap:=cp) (q:=q.toNat) (old:=qI cur ofs e.n 0 b.m.toNat) hTE hTU hz1' hnp hq1 (by omega) hbig hz3 hln (fun j v hj=>by
   have hj':=(List.getElem?_eq_some_iff.1 hj).1
   rw[hln] at hj'
   rw[kB (by simpa using hj')] at hj
   grind[Addr.add_mid,vC])
  rw[pX ho hu hy hrun]
  refine ⟨trivial,fin _ cc hln (fun i a ha=>?_) hml g1 g2⟩
  have hi:i<b.m.toNat:=by
   have:=(List.getElem?_eq_some_iff.1 ha).1
   rw[aF] at this;omega
  rw[List.getElem?_take,if_pos hi] at ha
  obtain ⟨c,d1,d2,d3⟩:=hat i a ha
  refine ⟨c,d1,fun j hj=>?_,d3⟩
  have m2:i*e.n+e.n<=b.m.toNat*e.n:=by rw[<-Nat.succ_mul];exact Nat.mul_le_mul_right _ hi
  rw[kB (by rw[Nat.sub_zero];omega),<-d2 j hj]
  simp
theorem B5 {α:Type} {xs:List α} {l cnt:Int} (h0:0<=l) (h1:0<=cnt) (h2:l+cnt<=(xs.length:Int)):(E5 xs l cnt).length=cnt.toNat:=by
 grind[E5,bC,aF]
theorem DH {I:Hp} {w:World} {C:List Ch} {α:Type} {E:TypeId} {R:Rep α} (hSh:R.Sh) {k:Nat} (hk:0<k) (hR:R.size=k) {v u:Value} {xs:List α} {l m cnt:Int} (hst:St I w0 w (Ch.own (aw E R) [v] xs::C)) (hv:Vw u v k xs.length l m) (h1:0<=cnt) (h2:l+cnt<=(xs.length:Int)) (h3:cnt<=m - l) :
  ∃ao sc news,u= .slice ao (m.toNat - l.toNat) sc/\RdCells R I k news (E5 xs l cnt)/\(news= [] \/ ∃a,ao=some a/\ ∀j v,news[j]? =some v->w.cell? (a.add j)=some v):=by
 rcases hv with ⟨q0,hu,g1,g2,g3⟩ | ⟨g,ofs,cp,x',q0,hu,q1,q2,q3,q4,q5,q6⟩
 ·have hx:=List.eq_nil_of_length_eq_zero g1
  subst hx
  refine ⟨none,0,[],by grind,⟨by simp[E5],fun i y hy=>by simp[E5] at hy⟩,.inl rfl⟩
 ·rw[q0] at hst
  obtain ⟨-,r1,r2,cur,r3,r4,hat⟩:=yd (k:=k) hSh hR hst
  have m1:xs.length*k<=cp*k:=Nat.mul_le_mul_right _ r1
  have hrd:=DE (R:=R) (I:=I) (xs:=xs) (cur:=cur) (ofs:=ofs) (k:=k) (j:=l.toNat) (m:=(l+cnt).toNat) (by omega) (by omega) (by omega) hat
  refine ⟨_,_,qI cur ofs k l.toNat (l+cnt).toNat,hu,hrd,?_⟩
  by_cases hc:cnt=0
  ·left
   have:=hrd.1
   simp_all
  ·right
   refine ⟨_,rfl,fun j v hj=>?_⟩
   grind[qI,rP,kB,Addr.add_mid,Nat.add_assoc,vC]
theorem DI {I:Hp} {ev:Operand->Value} {w:World} {C:List Ch} {α:Type} {E T U:TypeId} {R:Rep α} (hSh:R.Sh) (hC:Cpy R R) {k:Nat} {agg:Bool} (hT:P.underlying T=some (.slice E)) (hE:TI P E agg k) (hk:0<k) (hR:R.size=k) {v ux:Value} {xs ys:List α} {l m l2 m2:Int} {ao:Option Addr} {sc:Nat} {news:List Value}
  (ho:o.op= .call { callee:=.builtin .copy,args:= #[x,y],argTypes:= #[T,U] }) (hx:ev x=ux) (hy:ev y= .slice ao (m2.toNat - l2.toNat) sc) (hst:St I w0 w (Ch.own (aw E R) [v] xs::C)) (hv:Vw ux v k xs.length l m) (hn:RdCells R I k news ys) (hsrc:news= [] \/ ∃a,ao=some a/\ ∀j v,news[j]? =some v->w.cell? (a.add j)=some v)
  (h0:0<=l2) (h02:l2<=m2) (hys:(ys.length:Int)=min (m2 - l2) (m - l)) (hl:l<=(xs.length:Int)) :
  Upon P (fun r w'=>r= .int .i64 (min (m2 - l2) (m - l))/\ ∃u',(∀a b c,v= .slice a b c->u'= .slice a (B4 xs l.toNat ys).length c)/\St I w0 w' (Ch.own (aw E R) [u'] (B4 xs l.toNat ys)::C)) ((execOp ev o).run P w):=by
 have hmin:((Nat.min (m2.toNat - l2.toNat) (m.toNat - l.toNat):Nat):Int)=min (m2 - l2) (m - l):=by
  have ⟨_,_,_,g1,g2⟩:=hv.hd
  show ((min (m2.toNat - l2.toNat) (m.toNat - l.toNat):Nat):Int)=_
  omega
 have hcnt:Nat.min (m2.toNat - l2.toNat) (m.toNat - l.toNat)=ys.length:=by omega
 rcases hv with ⟨q0,hu,g1,g2,g3⟩ | ⟨g,ofs,cp,x',q0,hu,q1,q2,q3,q4,q5,q6⟩
 ·have hxx:=List.eq_nil_of_length_eq_zero g1
  have hy0:ys= []:=List.eq_nil_of_length_eq_zero (by omega)
  have hrun:(Builtin.copy_ #[T,U] o.type #[.slice none 0 0,.slice ao (m2.toNat - l2.toNat) sc]).run P w= .ok (goInt 0) w:=by
   have hm0:(m2.toNat - l2.toNat).min 0=0:=Nat.min_zero _
   cases ao with
   | none=>simp[Builtin.copy_,run_underlying hT,Builtin.lenOf,TI.size hE w,Builtin.firstCells,hm0]
   | some a =>
    have h0:(loadCells a 0).run P w= .ok #[] w:=run_loadCells_list (P:=P) w a [] (by simp)
    simp[Builtin.copy_,run_underlying hT,Builtin.lenOf,TI.size hE w,Builtin.firstCells,hm0,h0]
  rw[uo ho (hx.trans hu) hy hrun]
  refine ⟨?_,v,fun a b c e=>?_,?_⟩
  ·rw[<-hmin,hcnt,hy0];rfl
  ·grind[B4]
  grind[B4]
 ·rw[q0] at hst⊢
  obtain ⟨-,r1,r2,cur,r3,r4,hat⟩:=yd (k:=k) hSh hR hst
  have hfit:l.toNat+ys.length<=cp:=by omega
  have m1:(l.toNat+ys.length)*k<=cp*k:=Nat.mul_le_mul_right _ hfit
  have hcl:(cur.toList.drop ofs).length=cur.size - ofs:=by grind
  have hnl:=hn.1
  have hx2:x'=l.toNat*k\/ys= []:=by
   rcases q6 with q6 | q6
   ·right;exact List.eq_nil_of_length_eq_zero (by omega)
   ·omega
  have hrun:=Ji (P:=P) (w:=w) (dT:=T) (sT:=U) (ty:=o.type) (k:=k) (g:=g) (o:=ofs+x') (dLen:=m.toNat - l.toNat) (dCap:=cp - l.toNat) (sLen:=m2.toNat - l2.toNat) (sCap:=sc) (ao:=ao) (cs:=news) hT (TI.size hE w) (by grind) hsrc (fun q hq=>by
   grind[Nat.add_assoc,vC,List.getElem?_eq_getElem]) (fun q _=>by simp[World.frozen?,r3]) (hn.one hk)
  rw[uo ho (hx.trans hu) hy hrun]
  refine ⟨?_,.slice (some ⟨g,ofs,none⟩) (B4 xs l.toNat ys).length cp,fun a b c e=>?_,?_⟩
  ·simp_all[goInt,Nat.min]
  ·grind
  ·have:=PV hSh hC hk hR (p:=l.toNat) hn (by omega) hfit (by grind[lim,maxLen]) hst
   rcases hx2 with hx2 | hx2
   ·grind
   ·have hn0:news= []:=List.eq_nil_of_length_eq_zero (by grind)
    rw[hn0] at this⊢
    exact this
theorem oE {b c:Vb} :vF b c<=c.m - c.l/\vF b c<=b.m - b.l:=⟨Int.min_le_left _ _,Int.min_le_right _ _⟩
theorem L9 (hT:TTok P tt) {T U:TypeId} (ho:o.op= .call { callee:=.builtin .copy,args:= #[x,y],argTypes:= #[T,U] }) (h:L8 tt s k T x y=some res):Oks P w0 s o k res:=by
 have ⟨d,hd,h⟩:=bind_some h
 have ⟨E,hE,h⟩:=bind_some h
 have ⟨e,he,h⟩:=bind_some h
 have ⟨b,hb,h⟩:=bind_some h
 have ⟨c,hc,h⟩:=bind_some h
 have ⟨hn,h⟩:=aj h
 simp only[ah] at hn
 have ⟨⟨⟨n1,n2⟩,n3⟩,n4⟩:=hn
 have n1:e.n=b.k:=aq n1
 have n2:c.k=b.k:=aq n2
 have n3:b.r.E=E:=aq n3
 have ⟨hr,hk,hvw⟩:=pv (P:=P) (w0:=w0) hb
 obtain ⟨hp,-⟩:=bf hr
 have hTE:P.underlying T=some (.slice b.r.E):=((hT.get hd).el E hE).trans (by rw[n3])
 have hti:TI P b.r.E e.agg b.k:=by rw[n3,<-n1];exact (hT.get he).ti
 have hkp:0<b.k:=by rw[hk];exact Ty.size_pos _
 have hR:b.r.t.rep.size=b.k:=b.r.t.rep_size.trans hk.symm
 split at h
 ·rename_i hbeq
  have hh:=Hdr.beq_eq hbeq
  have ⟨hr2,hk2,hvw2⟩:=pv (P:=P) (w0:=w0) hc
  have hcr:c.r=b.r:=by
   rw[hh] at hr2
   exact ae (hr2.symm.trans hr)
  have ⟨u,hc1,h⟩:=bind_some h
  have ⟨c1,c2,c3,c4,c5⟩:=bD hc1
  have key: ∀J θ,Fine P w0 J θ s-> ∀w C,St J w0 w (toCh P θ (b.r.ent b.h)::C)->Upon P (fun r w'=>r= .int .i64 (vF b c)/\ ∃u',(∀a q z,hv θ b.h= .slice a q z->u'= .slice a (B4 b.r.xs b.l.toNat (E5 b.r.xs c.l (vF b c))).length z)/\St J w0 w' (Ch.own (aw b.r.E b.r.t.rep) [u'] (B4 b.r.xs b.l.toNat (E5 b.r.xs c.l (vF b c)))::C)) ((execOp (evL (envL θ s)) o).run P w):=by
   intro J θ hf w C hs
   have hst:St J w0 w (Ch.own (aw b.r.E b.r.t.rep) [hv θ b.h] b.r.xs::C):=hs
   have h1:=hvw hf rfl hst
   have h2:Vw (evL (envL θ s) y) (hv θ b.h) b.k b.r.xs.length c.l c.m:=by
    have:=hvw2 hf rfl (xs:=c.r.xs) (by rw[hcr,hh];omega)
    grind
   have ⟨ao,sc,news,hy,hrd,hsrc⟩:=DH (Ty.sh_ok n4) hkp hR hst h2 c2 c3 (oE).1
   have hlen:=B5 (xs:=b.r.xs) c1 c2 c3
   exact DI (P:=P) (w0:=w0) (o:=o) (Ty.sh_ok n4) (Ty.cpy n4) hTE hti hkp hR ho rfl hy hst h1 hrd hsrc c1 (by have:=(oE (b:=b) (c:=c)).1;omega) (by grind[vF]) c5
  have hll:=B5 (xs:=b.r.xs) c1 c2 c3
  have hcl:=tj (xs:=b.r.xs) (ys:=E5 b.r.xs c.l (vF b c)) (p:=b.l.toNat) (by omega)
  have hcf:=(oE (b:=b) (c:=c)).2
  split at h
  ·have ⟨u2,hc2,h⟩:=bind_some h
   have d1:=bD hc2
   refine ⟨_,h,B2 (fact:=fun _ v=>v= .int .i64 (vF b c)) hr (fun J θ hf=>fun w C hs=>?_) (fun J θ u hf hu hlt=>⟨rfl,hu.symm⟩)⟩
   refine (key J θ hf w C hs).imp fun r w' hv0=>⟨hv0.1,?_⟩
   obtain ⟨-,u',e1,e2⟩:=hv0
   have hst:St J w0 w (Ch.own (aw b.r.E b.r.t.rep) [hv θ b.h] b.r.xs::C):=hs
   have ⟨ad,f1,f2,f3⟩:=vE hst
   grind
  ·have ⟨q,hq,h⟩:=bind_some h
   have ⟨u2,hc2,h⟩:=bind_some h
   have ⟨d1,d2⟩:=bD hc2
   refine ⟨_,h,zQ hp,aL rfl,fun J θ hf=>?_⟩
   have ⟨t1,k0,N0,t2⟩:=Hv hq hf.env
   refine OpT.weak (fact:=fun v=>v= .int .i64 (vF b c)) (gv:=fun _=>[Ch.own (aw b.r.E b.r.t.rep) [hv θ q.1] (B4 b.r.xs b.l.toNat (E5 b.r.xs c.l (vF b c)))]) (fun w C hs=>?_) (fun u hu=>⟨rfl,hu.symm,fun g hg=>?_⟩) (fun u hu=>?_)
   ·refine (key J θ hf w C hs).imp fun r w' hv0=>⟨hv0.1,?_⟩
    obtain ⟨-,u',e1,e2⟩:=hv0
    have hst:St J w0 w (Ch.own (aw b.r.E b.r.t.rep) [hv θ b.h] b.r.xs::C):=hs
    have ⟨ad,f1,f2,f3⟩:=vE hst
    have:=e1 _ _ _ f1
    have hlen:(B4 b.r.xs b.l.toNat (E5 b.r.xs c.l (vF b c))).length=q.2.toNat:=by rw[hcl];omega
    have hu':u'=hv θ q.1:=by
     rw[this,hlen]
     rcases t2 with ⟨q0,hu,g1,g2,g3⟩ | ⟨g,ofs,cp,x',q0,hu,q1,q2,q3,q4,q5,q6⟩
     ·grind
     ·grind
    grind
   ·obtain rfl:=ak hg
    exact ⟨aN t1,au _,trivial⟩
   ·show [Ch.own _ [hv θ q.1] _] = [Ch.own _ [hv (upd θ s.nxt u) q.1] _]
    rw[show hv (upd θ s.nxt u) q.1=hv θ q.1 from aS Same.upd t1]
    rfl
 ·have ⟨c,hc',h⟩:=bind_some h
  have ⟨hkk,h⟩:=aj h
  have n2:c.k=b.k:=aq hkk
  obtain ⟨hr2,hk2,hvw2⟩:=FF (P:=P) (w0:=w0) hc'
  obtain ⟨hp2,-⟩:=bf hr2
  obtain ⟨ys,hys,h⟩:=bind_some h
  obtain ⟨u,hc1,h⟩:=bind_some h
  obtain ⟨c1,c2,c3,c4,c5,c6⟩:=bD hc1
  have hent:=vt (h:=c.h) hys
  have hyl:c.r.xs.length=ys.length:=by
   obtain ⟨e1,e2⟩:=mG hys
   obtain ⟨x1,x2,x3,x4,x5,ver,E2,t2,xs2,rest2⟩:=c
   simp only at e1 e2⊢
   injection e1 with e3 e4
   subst e3;subst e4
   rw[e2]
  have hll:=B5 (xs:=ys) c1 c2 c3
  have hcl:=tj (xs:=b.r.xs) (ys:=E5 ys c.l (vF b c)) (p:=b.l.toNat) (by omega)
  have hcf:=(oE (b:=b) (c:=c)).2
  have hperm:s.chs.Perm ([c.r.ent c.h] ++ [b.r.ent b.h] ++c.r.rest):=by
   refine hp.trans ((hp2.cons _).trans ?_)
   exact List.Perm.swap _ _ _
  refine ⟨_,h,hperm,aL rfl,fun J θ hf=>?_⟩
  have hok:=gU hf hp
  refine OpT.weak (fact:=fun v=>v= .int .i64 (vF b c)) (gv:=fun _=>[toCh P θ (c.r.ent c.h),Ch.own (aw b.r.E b.r.t.rep) [hv θ b.h] (B4 b.r.xs b.l.toNat (E5 ys c.l (vF b c)))]) (fun w C hs=>?_) (fun u hu=>⟨rfl,hu.symm,fun g hg=>?_⟩) (fun u hu=>?_)
  ·have hs:St J w0 w (toCh P θ (c.r.ent c.h)::Ch.own (aw b.r.E b.r.t.rep) [hv θ b.h] b.r.xs::C):=hs
   have hsb:=hs.perm (List.Perm.swap _ _ _)
   have h1:=hvw hf rfl hsb
   have h2:=hvw2 hf rfl (show St J w0 w (Ch.own (aw c.r.E c.r.t.rep) [hv θ c.h] c.r.xs::_) from hs)
   rw[hyl,n2] at h2
   rw[hent] at hs hsb⊢
   have hs2:St J w0 w (Ch.own (aw b.r.E b.r.t.rep) [hv θ c.h] ys::Ch.own (aw b.r.E b.r.t.rep) [hv θ b.h] b.r.xs::C):=hs
   obtain ⟨ao,sc,news,hy,hrd,hsrc⟩:=DH (Ty.sh_ok n4) hkp hR hs2 h2 c2 c3 (oE).1
   have:=DI (P:=P) (w0:=w0) (o:=o) (Ty.sh_ok n4) (Ty.cpy n4) hTE hti hkp hR ho rfl hy hsb h1 hrd hsrc c1 (by have:=(oE (b:=b) (c:=c)).1;omega) (by grind[vF]) c5
   refine this.imp fun r w' hv0=>⟨hv0.1,?_⟩
   obtain ⟨-,u',e1,e2⟩:=hv0
   obtain ⟨ad,f1,f2,f3⟩:=vE hsb
   have:=e1 _ _ _ f1
   have hu':u'=hv θ b.h:=by
    rw[this,hcl,show max b.r.xs.length (b.l.toNat+(E5 ys c.l (vF b c)).length)=b.r.xs.length from by omega]
    exact f1.symm
   rw[hu'] at e2
   exact e2.perm (List.Perm.swap _ _ _)
  ·obtain rfl:=ak hg
   exact ⟨aN hok.1,au _,trivial⟩
  ·show [toCh P θ (c.r.ent c.h),Ch.own _ [hv θ b.h] _] = [toCh P θ (c.r.ent c.h),Ch.own _ [hv (upd θ s.nxt u) b.h] _]
   rw[show hv (upd θ s.nxt u) b.h=hv θ b.h from aS Same.upd hok.1]
   rfl
theorem DJ {α:Type} {E:TypeId} {R:Rep α} {I:Hp} {w0 w:World} {C:List Ch} {g ofs n cap:Nat} {xs:List α} (h:St I w0 w (Ch.own (aw E R) [.slice (some ⟨g,ofs,none⟩) n cap] xs::C)): ∃cur,w.heap[g]? =some (.cells cur E (0,0))/\ofs+cap*R.size<=cur.size/\n=xs.length/\n<=cap/\ ∃F,Sep I C w F/\g∉F:=by
 obtain ⟨hb,hi,F,⟨G,K,rfl,⟨hl,e2⟩,e3⟩,h4,h5⟩:=h
 grind
theorem P0 {kf:FuncId} (hov:ZT P kf) {ts:Array TypeId} (ho:o.op= .call { callee:=.value (.func kf),args:= #[x,y],argTypes:=ts }) (h:Uq s k x y=some res):Oks P w0 s o k res:=by
 unfold Uq at h
 split at h
 ·rename_i hh hx
  have ⟨r,hr,h⟩:=bind_some h
  have ⟨c,hc,h⟩:=bind_some h
  have ⟨u,hk,h⟩:=bind_some h
  have ⟨c1,c2⟩:=bD hk
  obtain ⟨hp,-⟩:=bf hr
  have ⟨hr2,hk2,hvw2⟩:=FF (P:=P) (w0:=w0) hc
  obtain ⟨hp2,-⟩:=bf hr2
  have hperm:=hp.trans (hp2.cons _)
  refine ⟨_,h,hperm,aL rfl,fun J θ hf=>OpT.weak (fact:=(· = .bool false)) (gv:=fun _=>[toCh P θ (r.ent hh),toCh P θ (c.r.ent c.h)]) (fun w C hs=>?_) (fun u hu=>⟨rfl,hu.symm,fun g hg=>by cases hg⟩) (fun u hu=>rfl)⟩
  have hs1:St J w0 w (Ch.own (aw r.E r.t.rep) [hv θ hh] r.xs::Ch.own (aw c.r.E c.r.t.rep) [hv θ c.h] c.r.xs::C):=hs
  have hs2:=hs1.perm (List.Perm.swap _ _ _)
  have h2:=hvw2 hf rfl hs2
  have h1:=yf (k:=1) hs1
  rcases h1 with ⟨q0,-,g1,-,-⟩ | ⟨g,ofs,cp,x',q0,-,-⟩
  ·omega
  rcases h2 with ⟨p0,hu,e1,e2,e3⟩ | ⟨g2,ofs2,cp2,x2,p0,hu,p1,p2,p3,p4,p5,p6⟩
  ·omega
  rw[q0] at hs1
  rw[q0,p0] at hs2
  obtain ⟨curA,a1,a2,a3,a4,-⟩:=DJ hs1
  have ⟨curB,b1,b2,b3,b4,FB,b5,b6⟩:=DJ hs2
  have hne:g≠g2:=by
   intro e
   obtain ⟨GA,KA,hFB,hA,-⟩:=b5
   have:g∈GA:=by
    obtain ⟨-,hA⟩:=hA
    rcases hA with ⟨hv0,-,-⟩ | ⟨g',ofs',cap',cur,K1,hv0,-,-,-,-,rfl,-⟩
    ·grind
    ·grind
   exact b6 (by grind)
  have hkp:1<=c.r.t.rep.size:=by rw[Ty.rep_size];exact Ty.size_pos _
  have hb0:0<curB.size:=by
   have:cp2*1<=cp2*c.r.t.rep.size:=Nat.mul_le_mul_left _ hkp
   omega
  have hrun:=hov w g g2 ofs (ofs2+x2) r.xs.length (c.m.toNat - c.l.toNat) cp (cp2 - c.l.toNat) curA curB _ _ hne a1 b1 hb0
  have hxv:=(aC (θ:=θ) hx).trans q0
  have he:(execOp (evL (envL θ s)) o).run P w= .ok (.value (.bool false)) w:=by
   simp[execOp,ho,resolve,show evL (envL θ s) (.func kf)= .func (.func kf) #[] #[] from rfl,Deferred.ofValue,Sem.run_bind,Sem.run_pure,Result.andThen_ok,invoke,List.map_toArray,List.map_cons,List.map_nil,hxv,hu]
   exact hrun
  rw[he]
  exact ⟨rfl,hs⟩
 grind
end
end R
namespace R
open Go.RowKit
open D
structure PartA where
 h:Hdr
 ver:Nat
 E:TypeId
 t:Ty
 xs:List t.den
 lo:Nat
 hi:Nat
def P1:AV->Option PartA
 | .sub h ver E t xs l=>some ⟨h,ver,E,t,xs,l.toNat,xs.length⟩
 | .pre h ver E t xs l=>some ⟨h,ver,E,t,xs,0,l.toNat⟩
 | _=>none
section
variable {Y:Type} (tt:TT) (s:Sg) (k:Res->Option Y)
def YC (E:TypeId) (b:Nat) (t:Ty) (xs:List t.den) (nsx rest:List Ent) (q:PartA):Option Y:=
 (rowOf q.h rest).bind fun r=>bw (Nat.beq r.ver q.ver&&(t.sh&&t.dp)) ((mF (.sl r.E r.t) (.sl E t) r.xs).bind fun ys=>(cP b xs ((ys.take q.hi).drop q.lo)).bind fun zs=>k ⟨[r.ent q.h],nsx,r.rest,[(⟨s.nxt,[]⟩,.own (.sl E t) zs)],.one (.own ⟨s.nxt,[]⟩)⟩)
def Ur (T:TypeId) (x y:Operand):Option Y:=(td tt T).bind fun d=>d.el.bind fun E=>(td tt E).bind fun e=>e.bytes.bind fun b=>(opd s y).bind fun yv=>(P1 yv).bind fun q=>match opd s x with
 | some (.one (.own h))=>(rowOf h s.chs).bind fun r=>bw (Nat.beq r.E E&&Nat.beq r.t.size e.n) (YC s k r.E b r.t r.xs [r.ent h] r.rest q)
 | some (.one (.val v))=>bw (isNil v&&Nat.beq q.t.size e.n) (YC s k E b q.t [] [] s.chs q)
 | _=>none
end
section
variable {Y:Type} {tt:TT} {an:List (Nat×Ty)} {s:Sg} {k:Res->Option Y} {P:Program} {w0:World} {o:Oper} {res:Y} {x y:Operand}
theorem P2 {J:Hp} {θ:Th} {n:Nat} {chs:List Ent} {v:AV} {q:PartA} (h:P1 v=some q) (hv':v.ok P w0 J θ n chs):v.v θ=pU (hv θ q.h) q.lo q.hi q.t.size/\q.lo<=q.hi/\q.hi<=q.xs.length/\q.h.id<n/\Mem chs n q.h q.ver (.own (.sl q.E q.t) q.xs):=by
 unfold P1 at h
 split at h
 ·rename_i hh ver E t xs l
  obtain rfl:=ae h
  obtain ⟨h1,h2,h3⟩:=hv'
  exact ⟨rfl,by show l.toNat<=xs.length;omega,ay _,h1,h3⟩
 ·rename_i hh ver E t xs l
  obtain rfl:=ae h
  obtain ⟨h1,h2,h3⟩:=hv'
  exact ⟨rfl,Nat.zero_le _,by show l.toNat<=xs.length;omega,h1,h3⟩
 ·cases h
theorem DK {I:Hp} {ev:Operand->Value} {α:Type} {E T:TypeId} {R:Rep α} {z:Value} {n b:Nat} {x y:Operand} {s u:Value} {xs ys zs:List α} {lo hi:Nat} (h:cP b xs ((ys.take hi).drop lo)=some zs) (h1:lo<=hi) (h2:hi<=ys.length) (hd:R.Dp) (hc:Cpy R R) (hT:P.underlying T=some (.slice E)) (hE:TZ P E z n b) (hzs:z.cells.size=n) (hn:0<n) (hR:R.size=n) (hb1:1<=b) (ho:o.op= .call { callee:=.builtin .append,args:= #[x,y],argTypes:= #[T,T] }) (hx:ev x=s) (hy:ev y=pU u lo hi n) :
  OpT P I w0 o ev [Ch.own (aw E R) [s] xs,Ch.own (aw E R) [u] ys] (fun _=>True) (fun v=>[Ch.own (aw E R) [v] zs,Ch.own (aw E R) [u] ys]):=by
 intro w C hs
 have key:=ug (P:=P) (I:=I) (w0:=w0) (o:=o) (ev:=ev) (ls:=[Ch.own (aw E R) [u] ys]) (rn:=[Ch.own (aw E R) [s] xs]) (fact:=fun _=>True) (gv:=fun v=>[Ch.own (aw E R) [v] zs]) (fun v=>⟨xH (Bs hd),trivial⟩) (fun J' hJ hrd _=>sW h hc hR (GY (hrd _ _ _ (List.mem_singleton.2 rfl)) h1 h2 hR) hT hE hzs hn hR hb1 ho hx hy) w C (hs.perm ((List.Perm.swap _ _ _).append_right C))
 exact key.imp fun v w hv=>⟨hv.1,hv.2.perm ((List.Perm.swap _ _ _).append_right C)⟩
theorem P3 {q:PartA} {nsx rest:List Ent} {r:Row} {J:Hp} {θ:Th} {n:Nat} (hp:s.chs.Perm (nsx++rest)) (hr:rowOf q.h rest=some r) (hv:r.ver=q.ver) (hm:Mem s.chs n q.h q.ver (.own (.sl q.E q.t) q.xs)):Chk.own (.sl r.E r.t) r.xs=Chk.own (.sl q.E q.t) q.xs:=by
 obtain ⟨hp2,-⟩:=bf hr
 exact hm.2 (r.ent q.h) (hp.mem_iff.2 (aX _ (hp2.mem_iff.2 (by simp)))) _ ⟨rfl,.inl ⟨hv,rfl⟩⟩
theorem Mc {T E:TypeId} {z:Value} {n b:Nat} {t:Ty} {xs:List t.den} {nsx rest:List Ent} {q:PartA} {yv:AV} (hq:P1 yv=some q) (hp:s.chs.Perm (nsx++rest)) (hT:P.underlying T=some (.slice E)) (hE:TZ P E z n b) (hzs:z.cells.size=n) (hn:0<n) (ht:t.size=n) (hb1:1<=b) (ho:o.op= .call { callee:=.builtin .append,args:= #[x,y],argTypes:= #[T,T] }) (hy:opd s y=some yv)
  (hx: ∀J θ,Fine P w0 J θ s-> ∃v,evL (envL θ s) x=v/\ ∀(rn:List Ch) (fact:Value->Prop) (gv:Value->List Ch),OpT P J w0 o (evL (envL θ s)) (Ch.own (aw E t.rep) [v] xs::rn) fact gv->OpT P J w0 o (evL (envL θ s)) (nsx.map (toCh P θ)++rn) fact gv)
  (h:YC s k E b t xs nsx rest q=some res):Oks P w0 s o k res:=by
 unfold YC at h
 obtain ⟨r,hr,h⟩:=bind_some h
 obtain ⟨hc,h⟩:=aj h
 rw[ah,ah] at hc
 obtain ⟨hv1,hsh,hdp⟩:=hc
 have hv1:=aq hv1
 obtain ⟨ys,hys,h⟩:=bind_some h
 obtain ⟨zs,hzs',h⟩:=bind_some h
 obtain ⟨hpr,-⟩:=bf hr
 have he:=vt (h:=q.h) hys
 refine ⟨_,h,good_row (hp.trans ((hpr.append_left nsx).trans List.perm_middle)) fun J θ hf=>?_⟩
 obtain ⟨v,hv',hx⟩:=hx J θ hf
 obtain ⟨p1,p2,p3,-,p5⟩:=P2 hq (bu hf hy)
 have hrow:=P3 (J:=J) (θ:=θ) hp hr hv1 p5
 have hent:r.ent q.h=(q.h,r.ver,.own (.sl q.E q.t) q.xs):=by
  show (q.h,r.ver,Chk.own (.sl r.E r.t) r.xs)=_
  rw[hrow]
 rw[he] at hent
 have hcc:Chk.own (.sl E t) ys=Chk.own (.sl q.E q.t) q.xs:=(Prod.mk.inj (Prod.mk.inj hent).2).2
 have hsz:q.t.size=n/\q.xs.length=ys.length:=by
  clear hv' hx h hys hzs' hent he hrow
  obtain ⟨qh,qver,qE,qt,qxs,qlo,qhi⟩:=q
  simp only at hcc
  have e1:Ty.sl E t=Ty.sl qE qt:=(Chk.own.inj hcc).1
  obtain ⟨rfl,rfl⟩:=Ty.sl.inj e1
  have e2:ys=qxs:=eq_of_heq (Chk.own.inj hcc).2
  exact ⟨ht,by rw[e2]⟩
 rw[he]
 have:=DK (P:=P) (I:=J) (w0:=w0) (R:=t.rep) hzs' p2 (by rw[<-hsz.2];exact p3) (Ty.dp_ok hdp) (Ty.cpy hsh) hT hE hzs hn (t.rep_size.trans ht) hb1 ho hv' ((aC (θ:=θ) hy).trans (by rw[p1,hsz.1]))
 exact OpT.permN (List.perm_append_comm (l₁:=[_])) (hx _ _ _ this)
theorem P4 (hT:TTok P tt) {T:TypeId} (ho:o.op= .call { callee:=.builtin .append,args:= #[x,y],argTypes:= #[T,T] }) (h:Ur tt s k T x y=some res):Oks P w0 s o k res:=by
 obtain ⟨d,hd,h⟩:=bind_some h
 obtain ⟨E,hE,h⟩:=bind_some h
 obtain ⟨e,he,h⟩:=bind_some h
 obtain ⟨b,hb,h⟩:=bind_some h
 obtain ⟨yv,hy,h⟩:=bind_some h
 obtain ⟨q,hq,h⟩:=bind_some h
 have hdk:=hT.get hd
 have hek:=hT.get he
 obtain ⟨z,hz1,hz2,hz3⟩:=hek.zero b hb
 have hzs:z.cells.size=e.n:=by rw[hz2,List.size_toArray,tY,hek.sz]
 split at h
 ·rename_i hh hx
  obtain ⟨r,hr,h⟩:=bind_some h
  obtain ⟨hc,h⟩:=aj h
  rw[ah] at hc
  have hc1:=aq hc.1
  have hc2:=aq hc.2
  obtain ⟨hp,-⟩:=bf hr
  exact Mc (nsx:=[r.ent hh]) hq hp ((hdk.el E hE).trans (by rw[hc1])) (by rw[hc1];exact hz1) hzs (by rw[<-hc2];exact Ty.size_pos _) hc2 hz3 ho hy (fun J θ hf=>⟨_,aC hx,fun rn fact gv h=>h⟩) h
 ·rename_i v hx
  obtain ⟨hc,h⟩:=aj h
  rw[ah] at hc
  have hc1:=l8 hc.1
  have hc2:=aq hc.2
  refine Mc (nsx:=[]) hq (List.Perm.refl _) (hdk.el E hE) hz1 hzs (by rw[<-hc2];exact Ty.size_pos _) hc2 hz3 ho hy (fun J θ hf=>⟨_,aC hx,fun rn fact gv h=>?_⟩) h
  rw[show (AV.one (LV.val v)).v θ= .slice none 0 0 from hc1] at h
  exact OpT.nilrow h
 ·cases h
end
structure HRow where
 E:TypeId
 t:Ty
 xs:List t.den
 n:Nat
def WN:Hol->Option HRow
 | ⟨_,_,.sl E t,d,.sl _ _,_,f,_,_,_,_,_⟩=>some ⟨E,t,d,List.length (α:=t.den) (f ([] :List _))⟩
 | _=>none
section
variable {Y:Type} (tt:TT) (s:Sg) (k:Res->Option Y)
def Md (T:TypeId) (x i:Operand):Option Y:=(td tt T).bind fun d=>match d.el,opd s x,opd s i with
 | some E,some (.one (.own h)),some (.one (.val (.int .i64 i)))=>(BF h s.chs).bind fun r=>(WN r).bind fun q=>(td tt E).bind fun e=>bw (Nat.beq e.n q.t.size&&zP h r.rest) ((aK q.xs i).bind fun a=>(chk (i<(q.n:Int))).bind fun _=>k ⟨[r.ent h],[],r.rest,[],.elo h r.over q.E q.t q.xs a i 0⟩)
 | _,_,_=>none
end
section
variable {Y:Type} {tt:TT} {s:Sg} {k:Res->Option Y} {P:Program} {w0:World} {o:Oper} {res:Y} {x:Operand}
theorem WO {I:Hp} {α β:Type} {E E':TypeId} {R:Rep α} {S:Rep β} {v c:Value} {f:List β->List α} {b off:Nat} {w:World} {K:List Nat} (h:(Ch.gap (aw E R) [v] (aw E' S) f b off c).holds I w K):Hd v (f []).length:=by
 obtain ⟨h1,⟨cur,E0,h2,h2'⟩,h3,h4⟩:=h
 obtain ⟨F,-,hF⟩:=h4 I (w.setCell ⟨b,off,none⟩ (.slice none 0 0)) (.slice none 0 0) [] [] Hp.le.rfl (fun x hx hne=>by
  simp only[World.setCell]
  rw[Array.getElem?_modify,if_neg (fun e=>hne e.symm)]) (fun cur' E1 hc=>by
  simp only[World.setCell]
  rw[Array.getElem?_modify,if_pos rfl,hc];rfl) ⟨by simp,.inl ⟨rfl,rfl,rfl⟩⟩
 exact Hd.of_own hF
theorem Jm (hT:TTok P tt) {T:TypeId} {i:Operand} (ho:o.op= .indexAddr T x i) (h:Md tt s k T x i=some res):Oks P w0 s o k res:=by
 obtain ⟨d,hd,h⟩:=bind_some h
 split at h
 ·rename_i E hh j he hx hi
  obtain ⟨r,hr,h⟩:=bind_some h
  obtain ⟨q,hq,h⟩:=bind_some h
  obtain ⟨e,hE,h⟩:=bind_some h
  obtain ⟨hn,h⟩:=aj h
  obtain ⟨a,ha,h⟩:=bind_some h
  obtain ⟨u0,hc,h⟩:=bind_some h
  have hc:=bD hc
  rw[ah] at hn
  obtain ⟨hn,hno⟩:=hn
  have hn:=aq hn
  have hp:=uc hr
  obtain ⟨ver1,over1,t0,d1,u1,y1,f1,i1,k1,off1,lv1,rest1⟩:=r
  cases t0 with
  | sl E1 t1 =>
   cases u1 with
   | sl E2 t2 =>
    obtain rfl:=ae (show some _=some q from hq)
    refine ⟨_,h,ma hp,aL rfl,fun J θ hf=>OpT.weak (fact:=(· =pt (hv θ hh) (j.toNat*t1.size+0))) (gv:=fun _=>[toCh P θ (Hol.ent _ hh)]) (fun w C hs=>?_) (fun u hu=>?_) (fun u hu=>rfl)⟩
    ·have hs1:St J w0 w (Ch.gap (aw E1 t1.rep) [hv θ hh] (aw E2 t2.rep) f1 (ptB (hv θ hh)) (ptO (hv θ hh)+(i1.toNat*k1+off1)) (lv1.v θ)::C):=hs
     have hD:Hd (hv θ hh) (f1 ([] :List t2.den)).length:=by
      obtain ⟨-,-,F,hsep,-,-⟩:=hs1
      obtain ⟨G,K,-,hg,-⟩:=hsep
      exact WO hg
     have hin:inI (α:=t1.den) (f1 ([] :List t2.den)) j:=⟨(Bp ha).1,by
      have:=(Bp ha).1
      have hc:j<((List.length (α:=t1.den) (f1 ([] :List t2.den)):Nat):Int):=hc
      show j.toNat<List.length (α:=t1.den) (f1 ([] :List t2.den))
      omega⟩
     have:=qv (I:=J) (w0:=w0) (P:=P) (o:=o) hD ((hT.get hd).el _ he) (hT.get hE).ti ho (aC hx) (aC hi) hin
     rw[hn] at this
     exact this w _ hs
    ·have hok:=gU hf hp
     obtain ⟨q1,q2,q3,q4,q5,q6⟩:=hok
     have hm:Mem s.chs s.nxt hh over1 (.own (.sl E1 t1) d1):=⟨Nat.lt_trans q4 q2,fun e' he' c' hs'=>by
      rcases az (hp.mem_iff.1 he') with rfl | he'
      ·rcases hs'.2 with ⟨h1,-⟩ | ⟨-,h1⟩
       ·exact absurd h1 (Nat.ne_of_gt q4)
       ·exact h1
      ·exact absurd hs'.1 (nD hno he')⟩
     refine ⟨⟨aN q1,ha,hm.newer (Res.newer (ma hp) (aL rfl J θ hf)) (Nat.le_succ _)⟩,?_,fun g hg=>by cases hg⟩
     rw[hu]
     show pt (hv (upd θ s.nxt _) hh) _=pt (hv θ hh) _
     rw[show hv (upd θ s.nxt _) hh=hv θ hh from aS Same.upd q1]
   | _=>cases hq
  | _=>cases hq
 ·cases h
end
end R
namespace D
open Go.RowKit
def Us (a b:ByteArray):Option ByteArray:=(chk (a.size+b.size<=9223372036854775807)).bind fun _=>some (a++b)
def FH (s:ByteArray) (i:Int):Option Int:=(chk (0<=i/\i<(s.size:Int))).bind fun _=>some ((s.data.toList.getD i.toNat 0).toNat:Int)
def Ut (s:ByteArray) (l h:Int):Option ByteArray:=(chk (0<=l/\l<=h/\h<=(s.size:Int))).bind fun _=>some (s.extract l.toNat h.toNat)
def yj (l:List Int):ByteArray:=l.foldl (fun r n=>r.push (UInt8.ofNat n.toNat)) ByteArray.empty
section
variable {P:Program} {I:Hp} {w0:World} {o:Oper} {ev:Operand->Value} {x y:Operand}
theorem Uu {t u:TypeId} {m n:ByteArray} (h:m.size+n.size<=9223372036854775807) (ho:o.op= .binOp .add t x y u) (hx:ev x= .string m) (hy:ev y= .string n):OpT P I w0 o ev [] (· = .string (m++n)) (fun _=>[]):=
 a6 fun w=>by simp[execOp,ho,hx,hy,eqGuard,binOp_string_add,run_string_add_sum w m n h,Result.andThen]
theorem Me {T:TypeId} {m:ByteArray} {k:IntKind} {i:Int} (hT:P.underlying T=some .string) (h:0<=i/\i<(m.size:Int)) (ho:o.op= .index T x y) (hx:ev x= .string m) (hy:ev y= .int k i):OpT P I w0 o ev [] (· = .int .u8 ((m.data.toList.getD i.toNat 0).toNat:Int)) (fun _=>[]):=
 a6 fun w=>by
  have h2:i.toNat<m.size:=by omega
  have e:m.data.toList.getD i.toNat 0=m[i.toNat]'h2:=by
   have h3:i.toNat<m.data.toList.length:=by simpa using h2
   rw[List.getD_eq_getElem?_getD,List.getElem?_eq_getElem h3]
   simp[ByteArray.getElem_eq_getElem_data]
  have:=run_index_string (P:=P) (w:=w) T m k i hT
  rw[dif_pos h] at this
  rw[e]
  simp[execOp,ho,hx,hy,this,Result.andThen]
def Uv (ev:Operand->Value) (d:Int):Option Operand->Int->Prop
 | none,n=>n=d
 | some z,n=> ∃k,ev z= .int k n
theorem Mf {T:TypeId} {m:ByteArray} {lo hi:Option Operand} {l h:Int} (hT:P.underlying T=some .string) (hb:0<=l/\l<=h/\h<=(m.size:Int)) (ho:o.op= .slice T x lo hi none) (hx:ev x= .string m)
  (hl:Uv ev 0 lo l) (hh:Uv ev (m.size:Int) hi h):OpT P I w0 o ev [] (· = .string (m.extract l.toNat h.toNat)) (fun _=>[]):=
 a6 fun w=>by
  have hat: ∀a b,(Instr.sliceAt T (.string m) a b none).run P w=(Instr.slice T (.string m) a b none).run P w:=fun a b=>by
   simp[Instr.sliceAt,run_underlying hT]
  cases lo with
  | none =>
   obtain rfl:l=0:=hl
   cases hi with
   | none =>
    obtain rfl:h=(m.size:Int):=hh
    simp[execOp,ho,hx,hat,run_slice_string_all,hT,Result.andThen]
   | some b =>
    obtain ⟨k,hb'⟩:=hh
    simp[execOp,ho,hx,hb',hat,run_slice_string_h (t:=T) (s:=m) (P:=P) (w:=w) hT k h hb.2.1 hb.2.2,Result.andThen]
  | some a =>
   obtain ⟨j,ha⟩:=hl
   cases hi with
   | none =>
    obtain rfl:h=(m.size:Int):=hh
    simp[execOp,ho,hx,ha,hat,run_slice_string_l (t:=T) (s:=m) (P:=P) (w:=w) hT j l hb.1 hb.2.1,Result.andThen]
   | some b =>
    obtain ⟨k,hb'⟩:=hh
    have:=run_slice_string_if (P:=P) (w:=w) T m j k l h hT
    rw[if_pos ⟨by omega,hb.2.2⟩,if_pos ⟨hb.1,hb.2.1⟩] at this
    simp[execOp,ho,hx,ha,hb',hat,this,Result.andThen]
theorem yk {S D E E':TypeId} {h1: ∀a:Int,(Value.int .u8 a).oneCell'=true} {v:Value} {xs:List Int} (hS:P.underlying S=some (.slice E)) (hE:P.underlying E=some (.int .u8)) (hD:P.underlying D=some .string) (hr:(aw E' (kt Int (.int .u8) h1)).rd I [v] xs) (ho:o.op= .convert S D x) (hx:ev x=v):OpT P I w0 o ev [] (· = .string (yj xs)) (fun _=>[]):=by
 intro w C hs
 obtain ⟨ao,cap,rfl,hc⟩:=Src.of_rd hs hr
 have hrun:(execOp ev o).run P w= .ok (.value (.string (yj xs))) w:=by
  have e1:(convert S D (.slice ao (xs.map (Value.int .u8)).length cap)).run P w= .ok (.string (yj xs)) w:=by
   rw[run_convert_bytes_string w S D E ao _ cap hS hE hD]
   rcases hc with hc | ⟨a,rfl,hc⟩
   ·have hx0:xs= []:=by simpa using hc
    subst hx0
    cases ao with
    | none=>rfl
    | some a=>exact run_bytesToString w a _ cap [] (run_loadCells_list (P:=P) w a [] (by simp))
   ·rw[List.length_map]
    exact run_bytesToString w a _ cap xs (by
     have:=run_loadCells_list (P:=P) w a (xs.map (Value.int .u8)) hc
     rwa [List.length_map] at this)
  simp only[List.length_map] at e1 hx
  simp[execOp,ho,hx,e1,Result.andThen]
 rw[hrun]
 exact ⟨rfl,hs⟩
end
end D
namespace R
open Go.RowKit
open D
section
variable {Y:Type} (tt:TT) (s:Sg) (k:Res->Option Y)
def Uw (b:BinOp) (t:TypeId) (x y:Operand):Option Y:=match b,opd s x,opd s y with
 | .add,some (.one (.val (.string m))),some (.one (.val (.string n)))=>(Us m n).bind fun r=>kv s k (.string r)
 | _,_,_=>Yw tt s k b t x y
def WQ (T:TypeId) (x i:Operand):Option Y:=(td tt T).bind fun d=>d.ik.bind fun k1=>match k1,opd s x,opd s i with
 | none,some (.one (.val (.string m))),some (.one (.val (.int j n)))=>(FH m n).bind fun r=>kv s k (.int .u8 r)
 | _,_,_=>none
def YD (d:Int):Option Operand->Option Int
 | none=>some d
 | some y=>match opd s y with
  | some (.one (.val (.int _ n)))=>some n
  | _=>none
def Mg (T:TypeId) (x:Operand) (lo hi:Option Operand):Option Y:=(td tt T).bind fun d=>d.ik.bind fun k1=>match k1,opd s x with
 | none,some (.one (.val (.string m)))=>(YD s 0 lo).bind fun l=>(YD s (m.size:Int) hi).bind fun h=>(Ut m l h).bind fun r=>kv s k (.string r)
 | _,_=>none
def Sb (S D:TypeId) (x:Operand):Option Y:=(td tt S).bind fun a=>(td tt D).bind fun b=>a.el.bind fun E=>(td tt E).bind fun e=>e.ik.bind fun k1=>b.ik.bind fun k2=>match k1,k2,opd s x with
 | some .u8,none,some (.one (.own h))=>(rowOf h s.chs).bind fun r=>(mE (.sl r.E r.t) (.sl r.E (.int .u8)) r.xs).bind fun xs=>k ⟨[r.ent h],[],r.rest,[],.one (.val (.string (yj xs)))⟩
 | some .u8,none,some (.one (.rd _ t d))=>(mE t (.sl E (.int .u8)) d).bind fun xs=>kv s k (.string (yj xs))
 | some .u8,none,some (.one (.val (.slice none 0 0)))=>kv s k (.string ByteArray.empty)
 | _,_,_=>none
end
section
variable {Y:Type} {tt:TT} {s:Sg} {k:Res->Option Y} {P:Program} {w0:World} {o:Oper} {res:Y} {x y:Operand}
theorem P5 (hT:TTok P tt) {b:BinOp} {t u:TypeId} (ho:o.op= .binOp b t x y u) (h:Uw tt s k b t x y=some res):Oks P w0 s o k res:=by
 unfold Uw at h
 split at h
 ·rename_i m n hx hy
  obtain ⟨r,hr,h⟩:=bind_some h
  obtain ⟨u1,hc,hr⟩:=bind_some hr
  obtain rfl:=ae hr
  exact jS h rfl fun J θ hf=>Uu (bD hc) ho (aC hx) (aC hy)
 ·exact KO hT ho h
theorem P6 (hT:TTok P tt) {T:TypeId} {i:Operand} (ho:o.op= .index T x i) (h:WQ tt s k T x i=some res):Oks P w0 s o k res:=by
 obtain ⟨d,hd,g1⟩:=bind_some h
 obtain ⟨k1,h1,g2⟩:=bind_some g1
 clear h g1
 split at g2
 ·rename_i m j n hx hi
  obtain ⟨r,hr,h⟩:=bind_some g2
  obtain ⟨u1,hc,hr⟩:=bind_some hr
  obtain rfl:=ae hr
  exact jS h rfl fun J θ hf=>Me ((hT.get hd).ik _ h1) (bD hc) ho (aC hx) (aC hi)
 ·cases g2
theorem Mh {d n:Int} {θ:Th} {lo:Option Operand} (h:YD s d lo=some n):Uv (evL (envL θ s)) d lo n:=by
 cases lo with
 | none=>exact (ae h).symm
 | some z =>
  simp only[YD] at h
  split at h
  ·rename_i j m hz
   obtain rfl:=ae h
   exact ⟨j,aC hz⟩
  ·cases h
theorem Jn (hT:TTok P tt) {T:TypeId} {lo hi:Option Operand} (ho:o.op= .slice T x lo hi none) (h:Mg tt s k T x lo hi=some res):Oks P w0 s o k res:=by
 obtain ⟨d,hd,g1⟩:=bind_some h
 obtain ⟨k1,h1,g2⟩:=bind_some g1
 clear h g1
 split at g2
 ·rename_i m hx
  obtain ⟨l,hl,g3⟩:=bind_some g2
  obtain ⟨e,he,g4⟩:=bind_some g3
  obtain ⟨r,hr,h⟩:=bind_some g4
  obtain ⟨u1,hc,hr⟩:=bind_some hr
  obtain rfl:=ae hr
  exact jS h rfl fun J θ hf=>Mf ((hT.get hd).ik _ h1) (bD hc) ho (aC hx) (Mh hl) (Mh he)
 ·cases g2
theorem Mi (hT:TTok P tt) {S D:TypeId} (ho:o.op= .convert S D x) (h:Sb tt s k S D x=some res):Oks P w0 s o k res:=by
 obtain ⟨a,ha,g1⟩:=bind_some h
 obtain ⟨b,hb,g2⟩:=bind_some g1
 obtain ⟨E,hE,g3⟩:=bind_some g2
 obtain ⟨e,he,g4⟩:=bind_some g3
 obtain ⟨k1,h1,g5⟩:=bind_some g4
 obtain ⟨k2,h2,g6⟩:=bind_some g5
 clear h g1 g2 g3 g4 g5
 have hS:=(hT.get ha).el _ hE
 have hD:=(hT.get hb).ik _ h2
 have hU:=(hT.get he).ik _ h1
 split at g6
 ·rename_i hh hx
  obtain ⟨r,hr,g7⟩:=bind_some g6
  obtain ⟨xs,hxs,g8⟩:=bind_some g7
  obtain ⟨hp,-⟩:=bf hr
  refine ⟨_,g8,ma hp,aL rfl,fun J θ hf=>OpT.weak (ug (ls:=[Ch.own (Ty.sl r.E r.t).rep [hv θ hh] r.xs]) (rn:=[]) (gv:=fun _=>[]) (fun _=>trivial) fun J' hJ hrd hbl=>?_) (fact:=(· = .string (yj xs))) (fun u hu=>?_) (fun u hu=>rfl)⟩
  ·have h3:=gR hxs (hrd _ _ _ (List.mem_singleton_self _))
   exact yk hS hU hD h3 ho (aC hx)
  ·subst hu
   exact ⟨Eq.refl true,rfl,fun g hg=>by cases hg⟩
 ·rename_i hh t d hx
  obtain ⟨xs,hxs,g7⟩:=bind_some g6
  exact jS g7 rfl fun J θ hf=>yk hS hU hD (gR hxs (bu hf hx).2) ho (aC hx)
 ·rename_i hx
  exact jS g6 rfl fun J θ hf=>yk (E':=0) (xs:=[]) (h1:=fun _=>rfl) hS hU hD ⟨none,0,rfl,⟨by simp,by simp⟩,.inl rfl⟩ ho (aC hx)
 ·cases g6
end
end R
namespace R
open Go.RowKit
open D
section
variable {Y:Type} (s:Sg) (k:Res->Option Y)
def Y7 (T f:Nat) (x y:Operand):Option Y:=match opd s x,opd s y with
 | some (.agg xs),some (.agg ys)=>k ⟨[],[],s.chs,[(⟨s.nxt,[]⟩,.clo f [] [.ptr ⟨s.nxt,[0]⟩ 0,.ptr ⟨s.nxt,[1]⟩ 0]),(⟨s.nxt,[0]⟩,.blk T xs),(⟨s.nxt,[1]⟩,.blk T ys)],.one (.own ⟨s.nxt,[]⟩)⟩
 | _,_=>none
end
section
variable {Y:Type} {s:Sg} {k:Res->Option Y} {P:Program} {w0:World} {o:Oper} {res:Y} {x y:Operand}
theorem P7 {J:Hp} {θ:Th} {n:Nat} {chs:List Ent} {h:Hdr} {ver f:Nat} {capt:List LV} (h1:h.id<n) (h2:ver<n) (h3: ∀x∈capt,x.ok P w0 J θ n) (h4:hv θ h= .func (.func f) #[] (capt.map (·.v θ)).toArray):okE P w0 J θ n chs (h,ver,.clo f [] capt):=
 ⟨h1,h2,fun y hy=>(by cases hy),h3,h4⟩
theorem B6 {J:Hp} {θ:Th} {n:Nat} {chs:List Ent} {h:Hdr} {ver T:Nat} {cells:List LV} (h1:h.id<n) (h2:ver<n) (h3: ∀x∈cells,x.ok P w0 J θ n):okE P w0 J θ n chs (h,ver,.blk T cells):=⟨h1,h2,h3⟩
set_option maxHeartbeats 2000000 in
theorem Ux {g T f:Nat} (hk:Pg P g T f) {ts:Array TypeId} (ho:o.op= .call { callee:=.value (.func g),args:= #[x,y],argTypes:=ts }) (h:Y7 s k T f x y=some res):Oks P w0 s o k res:=by
 unfold Y7 at h
 split at h
 ·rename_i xs ys hx hy
  refine ⟨_,h,by simp,aL rfl,fun J θ hf=>?_⟩
  have k1: ∀z∈xs,z.ok P w0 J θ s.nxt:=bu hf hx
  have k2: ∀z∈ys,z.ok P w0 J θ s.nxt:=bu hf hy
  have hl:(#[] :Array Value).toList++(#[x,y] :Array Operand).toList.map (evL (envL θ s))++(#[] :Array Value).toList=(#[.agg (xs.map (·.v θ)).toArray,.agg (ys.map (·.v θ)).toArray] :Array Value).toList:=by
   simp only[List.map_cons,List.map_nil,List.nil_append,List.append_nil,aC (θ:=θ) hx,aC (θ:=θ) hy]
   rfl
  refine OpT.weak (nz hk.1 ho rfl hl (hk.2 J w0 (xs.map (·.v θ)) (ys.map (·.v θ)))) (fun v hv0=>?_) (fun v hv0=>?_)
  ·obtain ⟨b1,b2,rfl⟩:=hv0
   refine ⟨⟨au _,by rw[cW];rfl⟩,cW,fun g hg=>?_⟩
   rcases az hg with rfl | hg
   ·refine P7 (au _) (au _) (fun z hz=>?_) ?_
    ·rcases az hz with rfl | hz
     ·exact au _
     ·obtain rfl:=ak hz
      exact au _
    ·show hv (upd θ s.nxt _) ⟨s.nxt,[]⟩=_
     rw[cW]
     show Value.func _ _ _=Value.func _ _ #[.pointer (some ⟨bk (vg (upd θ s.nxt _ s.nxt) [0]),0,none⟩),.pointer (some ⟨bk (vg (upd θ s.nxt _ s.nxt) [1]),0,none⟩)]
     rw[fq]
     rfl
   rcases az hg with rfl | hg
   ·exact B6 (au _) (au _) fun z hz=>LV.ok_same Same.upd (Nat.le_succ _) (k1 z hz) Hp.le.rfl
   ·obtain rfl:=ak hg
    exact B6 (au _) (au _) fun z hz=>LV.ok_same Same.upd (Nat.le_succ _) (k2 z hz) Hp.le.rfl
  ·show [Ch.emp,Ch.blk (bk (vg v [0])) _ T,Ch.blk (bk (vg v [1])) _ T] = [Ch.emp,Ch.blk (bk (vg (upd θ s.nxt v s.nxt) [0])) (xs.map _) T,Ch.blk (bk (vg (upd θ s.nxt v s.nxt) [1])) (ys.map _) T]
   rw[fq,gB Same.upd k1,gB Same.upd k2]
 ·cases h
end
end R
end Go.Proofs.YtfbgafccgaoepaaGreat
