/- FnContainment: for every input the law returns true and changes nothing that was there. Part 2 of 8. -/
import Derived.Test.YtfbgafccgaoepaaGreatKC0
set_option synthInstance.maxSize 20000
set_option synthInstance.maxHeartbeats 2000000
set_option linter.unusedVariables false
set_option linter.unusedSimpArgs false
set_option linter.unnecessarySimpa false
set_option linter.unusedSectionVars false
set_option maxRecDepth 1000000
namespace Go.Proofs.YtfbgafccgaoepaaGreat
open Go.IntKind (i64)
namespace R
open Go.RowKit
open D
structure Res where
 rs:List Ent
 ns:List Ent
 rest:List Ent
 gives:List (Hdr×Chk)
 av:AV
def Res.chs (r:Res) (ver:Nat):List Ent:=r.gives.map (fun g=>(g.1,ver,g.2))++(r.rs++r.rest)
def KH (d:Option Nat) (n:Nat) (v:AV) (l:List (Nat×Nat×AV)):List (Nat×Nat×AV):=match d with
 | some d=>(d,n,v)::l
 | none=>l
def after (s:Sg) (d:Option Nat) (r:Res):Sg:=⟨KH d s.nxt r.av s.env,r.chs s.nxt,s.nxt+1⟩
def Res.pure (s:Sg) (av:AV):Res:=⟨[],[],s.chs,[],av⟩
structure Good (P:Program) (w0:World) (s:Sg) (o:Oper) (r:Res):Prop where
 perm:s.chs.Perm (r.rs++r.ns++r.rest)
 says: ∀J θ,Fine P w0 J θ s-> ∀g,g∈r.gives-> ∀ver c,SaysH g.2 ver c-> ∃e0,e0∈s.chs/\Says e0 g.1 ver c
 op: ∀J θ,Fine P w0 J θ s->OpT P J w0 o (evL (envL θ s)) ((r.rs++r.ns).map (toCh P θ))
  (fun v=>r.av.ok P w0 J (upd θ s.nxt v) (s.nxt+1) (r.chs s.nxt)/\r.av.v (upd θ s.nxt v)=v/\ ∀g∈r.gives,okE P w0 J (upd θ s.nxt v) (s.nxt+1) (r.chs s.nxt) (g.1,s.nxt,g.2))
  (fun v=>r.rs.map (toCh P θ)++r.gives.map fun g=>toCh P (upd θ s.nxt v) (g.1,s.nxt,g.2))
structure GoodA (P:Program) (w0:World) (J:Hp) (θ:Th) (s:Sg) (o:Oper) (r:Res):Prop where
 perm:s.chs.Perm (r.rs++r.ns++r.rest)
 says: ∀g,g∈r.gives-> ∀ver c,SaysH g.2 ver c-> ∃e0,e0∈s.chs/\Says e0 g.1 ver c
 op:OpT P J w0 o (evL (envL θ s)) ((r.rs++r.ns).map (toCh P θ))
  (fun v=>r.av.ok P w0 J (upd θ s.nxt v) (s.nxt+1) (r.chs s.nxt)/\r.av.v (upd θ s.nxt v)=v/\ ∀g∈r.gives,okE P w0 J (upd θ s.nxt v) (s.nxt+1) (r.chs s.nxt) (g.1,s.nxt,g.2))
  (fun v=>r.rs.map (toCh P θ)++r.gives.map fun g=>toCh P (upd θ s.nxt v) (g.1,s.nxt,g.2))
theorem Good.at {P:Program} {w0:World} {J:Hp} {θ:Th} {s:Sg} {o:Oper} {r:Res} (h:Good P w0 s o r) (hf:Fine P w0 J θ s):GoodA P w0 J θ s o r:=⟨h.perm,h.says J θ hf,h.op J θ hf⟩
def plain (l:List (Hdr×Chk)):Bool:=l.all fun g=>match g.2 with
 | .hole _ _ _ _ _ _ _ _ _ _=>false
 | _=>true
theorem aL {P:Program} {w0:World} {s:Sg} {l:List (Hdr×Chk)} {chs:List Ent} (h:plain l=true): ∀J θ,Fine P w0 J θ s-> ∀g,g∈l-> ∀ver c,SaysH g.2 ver c-> ∃e0,e0∈chs/\Says e0 g.1 ver c:=fun _ _ _ g hg ver c hs=>by
 have:=(List.all_eq_true.1 h) g hg
 have ⟨h',x⟩:=g
 cases x with
 | hole _ _ _ _ _ _ _ _ _ _=>grind
 | _=>exact hs.elim
theorem OpT.weak {P:Program} {w0:World} {o:Oper} {I:Hp} {ev:Operand->Value} {rn:List Ch} {fact fact':Value->Prop} {gv gv':Value->List Ch} (h:OpT P I w0 o ev rn fact gv) (hf: ∀v,fact v->fact' v) (hg: ∀v,fact v->gv v=gv' v):OpT P I w0 o ev rn fact' gv' :=
 fun w C hs=>(h w C hs).imp fun v w hv=>⟨hf v hv.1,by grind⟩
section
variable {P:Program} {I:Hp} {w0 w:World} {F:Ch} {n:Nat} {J:Hp} {θ:Th} {s:Sg} {a:Act} {o:Oper} {r:Res} {av:AV}
theorem Res.newer (hp:s.chs.Perm (r.rs++r.ns++r.rest)) (hs: ∀g,g∈r.gives-> ∀ver c,SaysH g.2 ver c-> ∃e0,e0∈s.chs/\Says e0 g.1 ver c):Newer s.nxt s.chs (r.chs s.nxt):=fun e he h ver c k=>by
 rcases aH he with he | he
 ·obtain ⟨g,hg,rfl⟩:=List.mem_map.1 he
  obtain ⟨rfl,k⟩:=k
  grind
 grind
theorem eF (hop: ∀J θ,Fine P w0 J θ s->OpT P J w0 o (evL (envL θ s)) [] (· =av.v θ) (fun _=>[])) (hok: ∀J θ,Fine P w0 J θ s->av.ok P w0 J θ s.nxt s.chs):Good P w0 s o (Res.pure s av):=
 ⟨List.Perm.refl _,fun _ _ _ g hg=>(by cases hg),fun J θ hf=>OpT.weak (hop J θ hf) (fun v hv=>by
  subst hv
  exact ⟨AV.ok_same Same.upd (Nat.le_succ _) Newer.rfl (hok J θ hf) Hp.le.rfl,AV.v_same Same.upd (hok J θ hf),fun g hg=>by cases hg⟩) (fun v hv=>rfl)⟩
theorem xe {θ':Th} {d:Option Nat} {v:Value} (h:envL θ' s=envL θ s) (hv:av.v θ'=v) {chs:List Ent} {m:Nat} :envL θ' ⟨KH d s.nxt av s.env,chs,m⟩=Kl d v (envL θ s):=by
 cases d with
 | none=>exact h
 | some d=>show (d,av.v θ')::envL θ' s=_;rw[h,hv];rfl
theorem l7 {e:Nat×Nat×AV} {k:Nat} : ∀ {d:Option Nat} {l:List (Nat×Nat×AV)},e∈KH d k av l->(e.2.2=av/\e.2.1=k)\/e∈l:=by
 intro d l hd
 cases d with
 | none=>exact .inr hd
 | some d =>
  rcases az hd with rfl | h
  ·grind
  grind
theorem Ak {d:Option Nat} {k:Nat} {l:List (Nat×Nat×AV)} (h:l.Pairwise fun a b=>a.2.1≠b.2.1) (hv: ∀e∈l,e.2.1<k):(KH d k av l).Pairwise fun a b=>a.2.1≠b.2.1:=by
 cases d with
 | none=>exact h
 | some d=>exact List.pairwise_cons.2 ⟨fun e he h'=>by grind,h⟩
theorem RN {ops:Array Oper} {rest:List Oper} {Q:Exit->Act->World->Prop} (hG:GoodA P w0 J θ s o r) (hS:Sim P I w0 F n J θ s a w) (hg:o.guard=none) (hk:okO n s o=true)
  (k: ∀θ' a w,Same s.nxt θ θ'->Sim P I w0 F n J θ' (after s o.dst r) a w->wpList P ops Q rest a w):wpList P ops Q (o::rest) a w:=by
 have hp:(s.chs.map (toCh P θ)++ [F]).Perm ((r.rs++r.ns).map (toCh P θ)++(r.rest.map (toCh P θ)++ [F])):=by
  have:=(hG.perm.map (toCh P θ)).append_right [F]
  grind
 have hallc: ∀e,e∈r.rs\/e∈r.rest->okE P w0 J θ s.nxt s.chs e:=fun e he=>hS.fine.chs e (hG.perm.mem_iff.2 (by grind))
 have hnew:=Res.newer hG.perm hG.says
 refine RG hS.agr hS.st hg (hG.op) hp (KG hk) fun v a w hv A S=>k (upd θ s.nxt v) a w Same.upd ⟨hS.le,?_,?_,?_,?_,Ak hS.fine.nd hS.fine.ver,?_,hS.fine.lay⟩
 ·rw[show envL (upd θ s.nxt v) (after s o.dst r)=Kl o.dst v (envL θ s) from xe (qA Same.upd hS.fine.env) hv.2.1];exact A
 ·have e:(after s o.dst r).chs.map (toCh P (upd θ s.nxt v))=(r.gives.map fun g=>toCh P (upd θ s.nxt v) (g.1,s.nxt,g.2))++(r.rs.map (toCh P θ)++r.rest.map (toCh P θ)):=by
   show (Res.chs r s.nxt).map _=_
   unfold Res.chs
   rw[aM,aM,List.map_map,dU Same.upd fun e he=>hallc e (.inl he),dU Same.upd fun e he=>hallc e (.inr he)]
   rfl
  refine S.perm ?_
  grind[aD,List.perm_append_comm_assoc]
 ·intro e he
  rcases l7 he with h | h
  ·rw[h.1];exact hv.1
  ·exact AV.ok_same Same.upd (Nat.le_succ _) hnew (hS.fine.env e h) Hp.le.rfl
 ·intro e he
  rcases l7 he with h | h
  ·rw[h.2];exact au _
  ·exact aN (hS.fine.ver e h)
 ·intro e he
  rcases aH he with he | he
  ·obtain ⟨g,hg',rfl⟩:=List.mem_map.1 he
   exact hv.2.2 g hg'
  ·exact dS Same.upd (Nat.le_succ _) hnew (hallc e (by grind)) Hp.le.rfl
theorem TP {ops:Array Oper} {rest:List Oper} {Q:Exit->Act->World->Prop} {g d:Nat} {want b:Bool} (hG:GoodA P w0 J θ s o r) (hS:Sim P I w0 F n J θ s a w) (hg:o.guard=some (g,want)) (hd:((ops[g]?).bind (·.dst))=some d) (hv:(envL θ s).lookup d=some (.bool b)) (hb:b=want) (hk:okO n s o=true)
  (k: ∀θ' a w,Same s.nxt θ θ'->Sim P I w0 F n J θ' (after s o.dst r) a w->wpList P ops Q rest a w):wpList P ops Q (o::rest) a w:=by
 have hp:(s.chs.map (toCh P θ)++ [F]).Perm ((r.rs++r.ns).map (toCh P θ)++(r.rest.map (toCh P θ)++ [F])):=by
  have:=(hG.perm.map (toCh P θ)).append_right [F]
  grind
 have hallc: ∀e,e∈r.rs\/e∈r.rest->okE P w0 J θ s.nxt s.chs e:=fun e he=>hS.fine.chs e (hG.perm.mem_iff.2 (by grind))
 have hnew:=Res.newer hG.perm hG.says
 refine OX hS.agr hS.st hg hd hv hb (hG.op) hp (KG hk) fun v a w hv A S=>k (upd θ s.nxt v) a w Same.upd ⟨hS.le,?_,?_,?_,?_,Ak hS.fine.nd hS.fine.ver,?_,hS.fine.lay⟩
 ·rw[show envL (upd θ s.nxt v) (after s o.dst r)=Kl o.dst v (envL θ s) from xe (qA Same.upd hS.fine.env) hv.2.1];exact A
 ·have e:(after s o.dst r).chs.map (toCh P (upd θ s.nxt v))=(r.gives.map fun g=>toCh P (upd θ s.nxt v) (g.1,s.nxt,g.2))++(r.rs.map (toCh P θ)++r.rest.map (toCh P θ)):=by
   show (Res.chs r s.nxt).map _=_
   unfold Res.chs
   rw[aM,aM,List.map_map,dU Same.upd fun e he=>hallc e (.inl he),dU Same.upd fun e he=>hallc e (.inr he)]
   rfl
  refine S.perm ?_
  grind[aD,List.perm_append_comm_assoc]
 ·intro e he
  rcases l7 he with h | h
  ·rw[h.1];exact hv.1
  ·exact AV.ok_same Same.upd (Nat.le_succ _) hnew (hS.fine.env e h) Hp.le.rfl
 ·intro e he
  rcases l7 he with h | h
  ·rw[h.2];exact au _
  ·exact aN (hS.fine.ver e h)
 ·intro e he
  rcases aH he with he | he
  ·obtain ⟨g,hg',rfl⟩:=List.mem_map.1 he
   exact hv.2.2 g hg'
  ·exact dS Same.upd (Nat.le_succ _) hnew (hallc e (by grind)) Hp.le.rfl
def skip (s:Sg) (d:Option Nat):Sg:=⟨KH d s.nxt .und s.env,s.chs,s.nxt+1⟩
theorem KI {v:AV} {d:Option Nat} (hS:Sim P I w0 F n J θ s a w) {a':Act} (hA:Agr n a' (Kl d (v.v θ) (envL θ s))) (hv:v.ok P w0 J θ s.nxt s.chs):Sim P I w0 F n J θ ⟨KH d s.nxt v s.env,s.chs,s.nxt+1⟩ a' w:=
 ⟨hS.le,by grind[xe],hS.st,fun e he=>by
  rcases l7 he with h | h
  ·rw[h.1];exact AV.ok_same Same.rfl (Nat.le_succ _) Newer.rfl hv Hp.le.rfl
  ·exact AV.ok_same Same.rfl (Nat.le_succ _) Newer.rfl (hS.fine.env e h) Hp.le.rfl,fun e he=>by
  rcases l7 he with h | h
  ·grind
  ·exact aN (hS.fine.ver e h),Ak hS.fine.nd hS.fine.ver,fun e he=>dS Same.rfl (Nat.le_succ _) Newer.rfl (hS.fine.chs e he) Hp.le.rfl,hS.fine.lay⟩
theorem O8 {ops:Array Oper} {rest:List Oper} {Q:Exit->Act->World->Prop} {g d:Nat} {want b:Bool} (hS:Sim P I w0 F n J θ s a w) (hg:o.guard=some (g,want)) (hd:((ops[g]?).bind (·.dst))=some d) (hv:(envL θ s).lookup d=some (.bool b)) (hb:b= !want) (hn:dstOk n o.dst=true)
  (k: ∀a,Sim P I w0 F n J θ (skip s o.dst) a w->wpList P ops Q rest a w):wpList P ops Q (o::rest) a w:=
 OW hS.agr hS.st hg hd hv hb hn fun a A=>k a (KI hS A trivial)
theorem IR {ops:Array Oper} {rest:List Oper} {Q:Exit->Act->World->Prop} {g d:Nat} {want:Bool} (hS:Sim P I w0 F n J θ s a w) (hg:o.guard=some (g,want)) (hd:((ops[g]?).bind (·.dst))=some d) (hv:(envL θ s).lookup d=some undef) (hn:dstOk n o.dst=true)
  (k: ∀a,Sim P I w0 F n J θ (skip s o.dst) a w->wpList P ops Q rest a w):wpList P ops Q (o::rest) a w:=
 IP hS.agr hS.st hg hd hv hn fun a A=>k a (KI hS A trivial)
end
def ikD:Option IntKind->TypeDesc
 | some k=>.int k
 | none=>.string
structure MD where
 K:TypeId
 E:TypeId
 k:MK
 e:ME
def MDok (P:Program) (T:TypeId) (m:MD):Prop:=
 P.underlying T=some (.map m.K m.E)/\ @KeyOk P m.K m.k.den m.k.dec m.k.val m.k.lit m.k.ok/\EltOk P m.E m.e.val m.e.lit m.e.ok m.e.z
structure TD where
 agg:Bool
 n:Nat
 el:Option TypeId
 ty:Ty
 fields:List (Nat×Nat)
 bytes:Option Nat
 place:Option (List (Nat×Nat))
 boo:Bool
 eq:Option (List (Option IntKind))
 mp:Option MD
 ik:Option (Option IntKind)
 fz:Bool
 pt:Option TypeId
def Curq:List (Option IntKind)->(List Value->List Value->Bool->Prop)->Prop
 | [],p=>p [] [] true
 | none::ks,p=> ∀a b:Bool,Curq ks fun xs ys r=>p (.bool a::xs) (.bool b::ys) ((a==b)&&r)
 | some k::ks,p=> ∀a b:Int,Curq ks fun xs ys r=>p (.int k a::xs) (.int k b::ys) ((a==b)&&r)
def lvB:LV->Option Bool
 | .val (.bool b)=>some b
 | .nb b=>some (!b)
 | _=>none
def lvI (k:IntKind):LV->Option Int
 | .val (.int j m)=>if j=k then some m else none
 | _=>none
theorem YT {θ:Th} {x:LV} {b:Bool} (h:lvB x=some b):x.v θ= .bool b:=by
 unfold lvB at h
 split at h <;> first | (cases h;rfl) | cases h
theorem YU {θ:Th} {k:IntKind} {x:LV} {m:Int} (h:lvI k x=some m):x.v θ= .int k m:=by
 unfold lvI at h
 split at h
 ·split at h
  ·rename_i e;subst e;cases h;rfl
  grind
 grind
def aaj:Option IntKind->LV->LV->Option Bool
 | none,x,y=>(lvB x).bind fun a=>(lvB y).bind fun b=>some (a==b)
 | some k,x,y=>(lvI k x).bind fun a=>(lvI k y).bind fun b=>some (a==b)
def YV:List (Option IntKind)->List LV->List LV->Option Bool
 | [],[],[] =>some true
 | k::ks,x::xs,y::ys=>(aaj k x y).bind fun q=>(YV ks xs ys).bind fun r=>some (q&&r)
 | _,_,_=>none
theorem TQ {θ:Th} : ∀ {ks:List (Option IntKind)} {p:List Value->List Value->Bool->Prop} {xs ys:List LV} {r:Bool},Curq ks p->YV ks xs ys=some r->p (xs.map (·.v θ)) (ys.map (·.v θ)) r:=by
 intro ks
 induction ks with
 | nil =>
  intro p xs ys r hp h
  match xs,ys,h with
  | [],[],h=>cases h;exact hp
 | cons k ks ih =>
  intro p xs ys r hp h
  match xs,ys,h with
  | x::xs,y::ys,h =>
   have ⟨q,hq,h⟩:=Option.bind_eq_some_iff.1 h
   have ⟨r',hr,h⟩:=Option.bind_eq_some_iff.1 h
   cases k with
   | none =>
    have ⟨a,ha,hq⟩:=Option.bind_eq_some_iff.1 hq
    have ⟨b,hb,hq⟩:=Option.bind_eq_some_iff.1 hq
    have:=ih (hp a b) hr
    grind[YT]
   | some k =>
    have ⟨a,ha,hq⟩:=Option.bind_eq_some_iff.1 hq
    have ⟨b,hb,hq⟩:=Option.bind_eq_some_iff.1 hq
    have:=ih (hp a b) hr
    grind[YU]
def zeroCells:Ty->List Value
 | .int k=>[.int k 0]
 | .bool=>[.bool false]
 | .str=>[.string ⟨#[]⟩]
 | .raw=>[.int .i64 0]
 | .prod a b=>zeroCells a++zeroCells b
 | .sl _ _=>[.slice none 0 0]
 | .fro t=>zeroCells t
 | .wr t=>zeroCells t
 | .tree _ _ _=>[.pointer none]
 | .bag t=>zeroCells t
def Bw:(t:Ty)->t.den
 | .int _=>(0:Int)
 | .bool=>false
 | .str=>(⟨#[]⟩:ByteArray)
 | .raw=>(⟨.int .i64 0,rfl⟩:Raw)
 | .prod a b=>(Bw a,Bw b)
 | .sl _ t=>([] :List t.den)
 | .fro t=>Bw t
 | .wr t=>Bw t
 | .tree _ _ t=>(Tr.nil:Tr t.den)
 | .bag t=>Bw t
theorem od: ∀(t:Ty) (I:Hp),t.rep.rd I (zeroCells t) (Bw t)
 | .int k,I=>rfl
 | .bool,I=>rfl
 | .str,I=>rfl
 | .raw,I=>rfl
 | .prod a b,I=>⟨_,_,rfl,od a I,od b I⟩
 | .sl _ _,I=>RK
 | .fro t,I=>od t I
 | .wr t,I=>od t I
 | .tree _ _ _,I=>⟨_,rfl,.nil⟩
 | .bag t,I=>od t I
theorem xf: ∀(t:Ty),Zro t.rep (zeroCells t) (Bw t)
 | .int k=>xd
 | .bool=>(xd (h1:=fun _=>rfl))
 | .str=>(xd (h1:=fun _=>rfl))
 | .raw=>(xd (α:=Raw) (enc:=(·.1)) (h1:=(·.2)) (x:=⟨.int .i64 0,rfl⟩))
 | .prod a b=>OZ (xf a) (xf b)
 | .sl _ _=>Tu
 | .fro t=>Tv (od t)
 | .wr t=>xf t
 | .tree _ _ _=>O4
 | .bag t=>TN (od t)
theorem G6: ∀(t:Ty),∀v∈zeroCells t,v.oneCell'=true:=fun t v hv=>Rep.rd_one _ (od t fun _=>none) v hv
theorem ky: ∀t:Ty,zeroCells t.erase=zeroCells t
 | .int _=>rfl
 | .bool=>rfl
 | .str=>rfl
 | .raw=>rfl
 | .prod a b=>by show zeroCells a.erase++zeroCells b.erase=_;rw[ky a,ky b];rfl
 | .sl _ _=>rfl
 | .fro t=>ky t
 | .wr t=>ky t
 | .tree _ _ _=>rfl
 | .bag t=>ky t
theorem tY (t:Ty):(zeroCells t).length=t.size:=(Rep.rd_len _ (od t fun _=>none)).trans t.rep_size
abbrev TT:=List (TypeId×TD)
def td (tt:TT) (T:Nat):Option TD:=match tt with
 | [] =>none
 | (U,d)::l=>if Nat.beq U T then some d else td l T
structure TDok (P:Program) (T:TypeId) (d:TD):Prop where
 ti:TI P T d.agg d.n
 one:(d.agg || d.n==1)=true
 sz:d.ty.size=d.n
 el: ∀E,d.el=some E->P.underlying T=some (.slice E)
 fld: ∀f q,d.fields[f]? =some q->TF P T f q.1 q.2
 zero: ∀b,d.bytes=some b-> ∃z,TZ P T z d.n b/\z.cells=(zeroCells d.ty).toArray/\1<=b
 place: ∀pl,d.place=some pl->TB P T pl
 boo:d.boo=true->P.underlying T=some .bool
 eq: ∀ks,d.eq=some ks-> ∀w,Curq ks fun xs ys r=>EqT P T (.agg xs.toArray) (.agg ys.toArray) r w
 mp: ∀m,d.mp=some m->MDok P T m
 ik: ∀k,d.ik=some k->P.underlying T=some (ikD k)
 fz:d.fz=true-> ∃b,TZ P T .nilFunc 1 b
 pt: ∀e,d.pt=some e->P.underlying T=some (.pointer e)
def TTok (P:Program):TT->Prop
 | [] =>True
 | (T,d)::l=>TDok P T d/\TTok P l
theorem TTok.get {P:Program} {T:Nat} {d:TD} : ∀ {tt:TT},TTok P tt->td tt T=some d->TDok P T d
 | (U,x)::l,⟨h1,h2⟩,h=>by
  unfold td at h
  split at h
  ·rename_i hu
   have:=aq hu
   subst this
   rw[<-ae h];exact h1
  ·exact TTok.get h2 h
def oe (id:Nat):(t:Ty)->t.den->Nat->List LV
 | .int k,d,_=>[.val (.int k d)]
 | .bool,d,_=>[.val (.bool d)]
 | .str,d,_=>[.val (.string d)]
 | .raw,d,_=>[.val d.1]
 | .prod a b,d,j=>oe id a d.1 j++oe id b d.2 (j+a.size)
 | .sl E t,d,j=>[.rd ⟨id,[j]⟩ (.sl E t) d]
 | .fro t,d,j=>oe id t d j
 | .bag t,d,j=>oe id t d j
 | .wr t,d,j=>oe id t d j
 | .tree T E t,d,j=>[.rd ⟨id,[j]⟩ (.tree T E t) d]
def KJ (id:Nat):(t:Ty)->t.den->AV
 | .prod a b,d=>.agg (oe id (.prod a b) d 0)
 | .int k,d=>.one (.val (.int k d))
 | .bool,d=>.one (.val (.bool d))
 | .str,d=>.one (.val (.string d))
 | .raw,d=>.one (.val d.1)
 | .sl E t,d=>.one (.rd ⟨id,[]⟩ (.sl E t) d)
 | .fro t,d=>KJ id t d
 | .bag t,d=>KJ id t d
 | .wr t,d=>.agg (oe id t d 0)
 | .tree T E t,d=>.one (.rd ⟨id,[]⟩ (.tree T E t) d)
theorem gS {P:Program} {w0:World} {J:Hp} {θ:Th} {id n:Nat} (hid:id<n) {all:List Value} (hu:θ id= .agg all.toArray): ∀(t:Ty) (d:t.den) (j:Nat) (cs:List Value),t.rep.rd J cs d->(∀i v,cs[i]? =some v->all[j+i]? =some v)->
  (∀x∈oe id t d j,x.ok P w0 J θ n)/\(oe id t d j).map (·.v θ)=cs
 | .int k,d,j,cs,h,_=>⟨fun x hx=>by cases ak hx;rfl,h.symm⟩
 | .bool,d,j,cs,h,_=>⟨fun x hx=>by cases ak hx;rfl,h.symm⟩
 | .str,d,j,cs,h,_=>⟨fun x hx=>by cases ak hx;rfl,h.symm⟩
 | .raw,d,j,cs,h,_=>⟨fun x hx=>by cases ak hx;exact d.2,h.symm⟩
 | .prod a b,d,j,cs,h,hc=>by
  obtain ⟨c1,c2,rfl,h1,h2⟩:=h
  have hl:=(Rep.rd_len _ h1).trans a.rep_size
  obtain ⟨e1,e2⟩:=gS hid hu a d.1 j c1 h1 fun i v hv=>hc i v (by grind)
  obtain ⟨e3,e4⟩:=gS hid hu b d.2 (j+a.size) c2 h2 fun i v hv=>by
   have:=hc (a.size+i) v (by grind)
   grind
  refine ⟨fun x hx=>?_,?_⟩
  ·rcases aH hx with hx | hx
   ·exact e1 x hx
   ·exact e3 x hx
  grind[oe]
 | .sl E t,d,j,cs,h,hc=>by
  obtain ⟨u,rfl⟩:=List.length_eq_one_iff.1 (Rep.rd_len _ h)
  have hh:hv θ ⟨id,[j]⟩=u:=by
   show vg (θ id) [j] =u
   rw[hu]
   show (all.toArray.getD j undef)=u
   have:=hc 0 u rfl
   rw[Nat.add_zero] at this
   simp[Array.getD_eq_getD_getElem?,this]
  refine ⟨fun x hx=>?_,?_⟩
  ·cases ak hx
   exact ⟨hid,by grind⟩
  ·show [hv θ ⟨id,[j]⟩] = [u]
   rw[hh]
 | .fro t,d,j,cs,h,hc=>gS hid hu t d j cs h hc
 | .bag t,d,j,cs,h,hc=>gS hid hu t d j cs h hc
 | .wr t,d,j,cs,h,hc=>gS hid hu t d j cs h hc
 | .tree T E t,d,j,cs,h,hc=>by
  obtain ⟨u,rfl⟩:=List.length_eq_one_iff.1 (Rep.rd_len _ h)
  have hh:hv θ ⟨id,[j]⟩=u:=by
   show vg (θ id) [j] =u
   rw[hu]
   show (all.toArray.getD j undef)=u
   have:=hc 0 u rfl
   rw[Nat.add_zero] at this
   simp[Array.getD_eq_getD_getElem?,this]
  refine ⟨fun x hx=>?_,?_⟩
  ·cases ak hx
   exact ⟨hid,by grind⟩
  ·show [hv θ ⟨id,[j]⟩] = [u]
   rw[hh]
theorem oC {P:Program} {w0:World} {J:Hp} {θ:Th} {id n:Nat} {chs:List Ent} (hid:id<n) {u:Value} (hu:θ id=u): ∀(t:Ty) (d:t.den) (cs:List Value),t.rep.rd J cs d->Lds t.isProd cs u->(KJ id t d).ok P w0 J θ n chs/\(KJ id t d).v θ=u
 | .int k,d,cs,h,hl=>⟨Eq.refl true,by
  rw[h] at hl;exact (List.cons.inj hl).1⟩
 | .bool,d,cs,h,hl=>⟨Eq.refl true,by
  rw[h] at hl;exact (List.cons.inj hl).1⟩
 | .str,d,cs,h,hl=>⟨Eq.refl true,by
  rw[h] at hl;exact (List.cons.inj hl).1⟩
 | .raw,d,cs,h,hl=>⟨d.2,by
  rw[h] at hl;exact (List.cons.inj hl).1⟩
 | .prod a b,d,cs,h,hl=>by
  have hl:u= .agg cs.toArray:=hl
  obtain ⟨e1,e2⟩:=gS (J:=J) hid (hu.trans hl) (.prod a b) d 0 cs h (fun i v hv=>by grind)
  exact ⟨e1,by show Value.agg _=_;grind⟩
 | .sl E t,d,cs,h,hl=>by
  subst hl
  have hh:hv θ ⟨id,[]⟩=u:=hu
  exact ⟨⟨hid,by grind⟩,hh⟩
 | .fro t,d,cs,h,hl=>oC hid hu t d cs h hl
 | .bag t,d,cs,h,hl=>oC hid hu t d cs h hl
 | .wr t,d,cs,h,hl=>by
  have hl:u= .agg cs.toArray:=hl
  obtain ⟨e1,e2⟩:=gS (J:=J) hid (hu.trans hl) t d 0 cs h (fun i v hv=>by grind)
  exact ⟨e1,by show Value.agg _=_;grind⟩
 | .tree T E t,d,cs,h,hl=>by
  subst hl
  have hh:hv θ ⟨id,[]⟩=u:=hu
  exact ⟨⟨hid,by grind⟩,hh⟩
structure Part (t:Ty) where
 ty:Ty
 get:t.den->ty.den
 set:t.den->ty.den->t.den
def vq (g:Bool):(t:Ty)->Nat->Nat->Option (Part t)
 | t,off,n=>if Nat.beq off 0&&(Nat.beq t.size n&&(t.isProd==g)) then some ⟨t,fun x=>x,fun _ y=>y⟩ else match t with
  | .prod a b=>if Nat.blt off a.size then (vq g a off n).bind fun r=>some ⟨r.ty,fun x=>r.get x.1,fun x y=>(r.set x.1 y,x.2)⟩ else (vq g b (off - a.size) n).bind fun r=>some ⟨r.ty,fun x=>r.get x.2,fun x y=>(x.1,r.set x.2 y)⟩
  | .fro a=>(vq g a off n).bind fun r=>some ⟨.fro r.ty,r.get,r.set⟩
  | .wr a=>(vq g a off n).bind fun r=>some ⟨r.ty,r.get,r.set⟩
  | _=>none
def Lens {α β:Type} (R:Rep α) (off:Nat) (S:Rep β) (f:α->β) (u:α->β->α):Prop:= ∀I w c x G,R.own I w c x G-> ∃d G1 K,G.Perm (G1++K)/\(c.drop off).take S.size=d/\S.own I w d (f x) G1 /\
 ∀J w' d' y G',I.le J->(∀b,b∈K->w'.heap[b]? =w.heap[b]?)->S.own J w' d' y G'-> ∃F,F.Perm (G'++K)/\R.own J w' (spl c off d') (u x y) F
theorem Lens.self {α:Type} {R:Rep α} :Lens R 0 R (fun x=>x) (fun _ y=>y):=fun I w c x G h =>
 ⟨c,G,[],by simp,by rw[<-R.own_len h];simp,h,fun J w' d' y G' hJ hK h'=>⟨G',by simp,by rw[Ai _ _ _ (by rw[R.own_len h,R.own_len h'];omega),R.own_len h',<-R.own_len h];grind⟩⟩
theorem Lens.fst {α β γ:Type} {A:Rep α} {B:Rep β} {S:Rep γ} {off:Nat} {f:α->γ} {u:α->γ->α} (hs:off+S.size<=A.size) (h:Lens A off S f u):Lens (qk A B) off S (fun x=>f x.1) (fun x y=>(u x.1 y,x.2)):=by
 rintro I w c x G ⟨c1,c2,Ga,Gb,rfl,rfl,h1,h2⟩
 have ⟨d,G1,K,p,e1,e2,e3⟩:=h I w c1 x.1 Ga h1
 refine ⟨d,G1,K++Gb,by grind,?_,e2,fun J w' d' y G' hJ hK h'=>?_⟩
 ·have hl:=A.own_len h1
  grind
 ·have ⟨F,q,k⟩:=e3 J w' d' y G' hJ (fun b hb=>hK b (aT _ hb)) h'
  refine ⟨F++Gb,by grind,spl c1 off d',c2,F,Gb,?_,rfl,k,B.own_stay (B.own_mono h2 hJ) fun b hb=>hK b (aX _ hb)⟩
  rw[tT _ _ _ _ (by rw[A.own_len h1,S.own_len h'];exact hs)]
theorem Lens.snd {α β γ:Type} {A:Rep α} {B:Rep β} {S:Rep γ} {off:Nat} {f:β->γ} {u:β->γ->β} (h:Lens B off S f u):Lens (qk A B) (A.size+off) S (fun x=>f x.2) (fun x y=>(x.1,u x.2 y)):=by
 rintro I w c x G ⟨c1,c2,Ga,Gb,rfl,rfl,h1,h2⟩
 have ⟨d,G1,K,p,e1,e2,e3⟩:=h I w c2 x.2 Gb h2
 have hl:=A.own_len h1
 refine ⟨d,G1,Ga++K,(p.append_left Ga).trans (List.perm_append_comm_assoc _ _ _),?_,e2,fun J w' d' y G' hJ hK h'=>?_⟩
 ·grind[List.drop_append,List.drop_of_length_le,Nat.add_sub_cancel_left]
 ·have ⟨F,q,k⟩:=e3 J w' d' y G' hJ (fun b hb=>hK b (aX _ hb)) h'
  refine ⟨Ga++F,(q.append_left Ga).trans (List.perm_append_comm_assoc _ _ _),c1,spl c2 off d',Ga,F,?_,rfl,A.own_stay (A.own_mono h1 hJ) fun b hb=>hK b (aT _ hb),k⟩
  rw[<-hl,oB]
theorem Lens.fro {α β:Type} {R:Rep α} {S:Rep β} {off:Nat} {f:α->β} {u:α->β->α} (h:Fld R off S f) (k:Upd R off S u):Lens (qu R) off (qu S) f u:=by
 rintro I w c x G ⟨rfl,h1⟩
 have ⟨d,e1,e2⟩:=h I c x h1
 refine ⟨d,[],[],by simp,e1,⟨rfl,e2⟩,fun J w' d' y G' hJ hK h'=>⟨[],by rw[h'.1];simp,rfl,k J c x d' y (R.rd_mono h1 hJ) h'.2⟩⟩
structure PartOk {t:Ty} (off n:Nat) (r:Part t):Prop where
 fld:Fld t.rep off r.ty.rep r.get
 upd:Upd t.rep off r.ty.rep r.set
 updO:UpdO t.rep off r.ty.rep r.set
 lens:Lens t.rep off r.ty.rep r.get r.set
 eta: ∀x,r.set x (r.get x)=x
 size:r.ty.size=n
 fit:off+n<=t.size
theorem xg {g:Bool} : ∀(t:Ty) (off n:Nat) (r:Part t),vq g t off n=some r->PartOk off n r:=by
 intro t
 induction t with
 | prod a b iha ihb =>
  intro off n r h
  unfold vq at h
  split at h
  ·rename_i hc
   rw[ah,ah] at hc
   have h1:=aq hc.1
   have h2:=aq hc.2.1
   subst h1
   cases ae h
   exact ⟨Fld.self,Upd.self,UpdO.self,Lens.self,fun _=>rfl,h2,by omega⟩
  ·simp only at h
   split at h
   ·have ⟨q,e,h⟩:=bind_some h
    cases ae h
    have k:=iha off n q e
    have hfit:off+q.ty.rep.size<=a.rep.size:=by rw[q.ty.rep_size,a.rep_size,k.size];exact k.fit
    exact ⟨Fld.fst k.fld,Upd.fst hfit k.upd,UpdO.fst hfit k.updO,Lens.fst hfit k.lens,fun x=>congrArg (fun z=>(z,x.2)) (k.eta x.1),k.size,by have:=k.fit;show off+n<=a.size+b.size;omega⟩
   ·rename_i hlt
    have ⟨q,e,h⟩:=bind_some h
    cases ae h
    have k:=ihb (off - a.size) n q e
    have hge:a.size<=off:=by
     rw[Nat.blt_eq] at hlt;omega
    have e1:a.rep.size+(off - a.size)=off:=by rw[a.rep_size];omega
    refine ⟨?_,?_,?_,?_,fun x=>congrArg (fun z=>(x.1,z)) (k.eta x.2),k.size,by have:=k.fit;show off+n<=a.size+b.size;omega⟩
    ·have:=Fld.snd (A:=a.rep) k.fld
     rwa [e1] at this
    ·have:=Upd.snd (A:=a.rep) k.upd
     rwa [e1] at this
    ·have:=UpdO.snd (A:=a.rep) k.updO
     rwa [e1] at this
    ·have:=Lens.snd (A:=a.rep) k.lens
     rwa [e1] at this
 | fro a ih =>
  intro off n r h
  unfold vq at h
  split at h
  ·rename_i hc
   rw[ah,ah] at hc
   have h1:=aq hc.1
   have h2:=aq hc.2.1
   subst h1
   cases ae h
   exact ⟨Fld.self,Upd.self,UpdO.self,Lens.self,fun _=>rfl,h2,by omega⟩
  ·have ⟨q,e,h⟩:=bind_some h
   cases ae h
   have k:=ih off n q e
   exact ⟨k.fld,k.upd,fun I w c x G d y K h1 h2=>⟨[],[],⟨rfl,k.upd I c x d y h1.2 h2.2⟩,by rw[h1.1,h2.1]⟩,Lens.fro k.fld k.upd,k.eta,k.size,k.fit⟩
 | wr a ih =>
  intro off n r h
  unfold vq at h
  split at h
  ·rename_i hc
   rw[ah,ah] at hc
   have h1:=aq hc.1
   have h2:=aq hc.2.1
   subst h1
   cases ae h
   exact ⟨Fld.self,Upd.self,UpdO.self,Lens.self,fun _=>rfl,h2,by omega⟩
  ·have ⟨q,e,h⟩:=bind_some h
   cases ae h
   have k:=ih off n q e
   exact ⟨k.fld,k.upd,k.updO,k.lens,k.eta,k.size,k.fit⟩
 | _ =>
  intro off n r h
  unfold vq at h
  split at h
  ·rename_i hc
   rw[ah,ah] at hc
   have h1:=aq hc.1
   have h2:=aq hc.2.1
   subst h1
   cases ae h
   exact ⟨Fld.self,Upd.self,UpdO.self,Lens.self,fun _=>rfl,h2,by omega⟩
  grind
end R
namespace R
open Go.RowKit
open D
def one (v:Value):AV:=.one (.val v)
def asB:AV->Option (Bool×Bool)
 | .one (.val (.bool b))=>some (b,true)
 | .one (.nb b)=>some (b,false)
 | _=>none
def onB {Y:Type} (v:AV) (x y:Option Y):Option Y:=match v with
 | .one (.val (.bool b))=>if b then x else y
 | .one (.nb b)=>if b then y else x
 | _=>none
theorem RO {Y:Type} {v:AV} {x y:Option Y} {r:Y} (h:onB v x y=some r): ∃b:Bool,(∀θ,v.v θ= .bool b)/\(if b then x else y)=some r:=by
 unfold onB at h
 split at h
 ·exact ⟨_,fun θ=>rfl,h⟩
 ·rename_i b
  refine ⟨!b,fun θ=>rfl,?_⟩
  grind
 grind
def bw {Y:Type} (b:Bool) (x:Option Y):Option Y:=match b with
 | true=>x
 | false=>none
theorem aj {Y:Type} {b:Bool} {x:Option Y} {r:Y} (h:bw b x=some r):b=true/\x=some r:=by
 cases b
 ·cases h
 ·exact ⟨rfl,h⟩
def isLit:Value->Bool
 | .int _ (.ofNat _)=>true
 | .int _ (.negSucc _)=>true
 | _=>false
def arith (b:BinOp) (k:IntKind) (m n:Int):Option Value:=match k,b with
 | .i64,.add=>some (.int .i64 (i64.wrap (m+n)))
 | .i64,.sub=>some (.int .i64 (i64.wrap (m - n)))
 | .i64,.mul=>some (.int .i64 (i64.wrap (m*n)))
 | .i64,.and=>some (.int .i64 (nw m n))
 | .i64,.or=>some (.int .i64 (orI m n))
 | .i64,.xor=>some (.int .i64 (Yt m n))
 | .u64,.add=>some (.int .u64 (IntKind.u64.wrap (m+n)))
 | .u64,.sub=>some (.int .u64 (IntKind.u64.wrap (m - n)))
 | .u64,.mul=>some (.int .u64 (IntKind.u64.wrap (m*n)))
 | .u64,.and=>some (.int .u64 (OJ m n))
 | .u8,.sub=>some (.int .u8 (IntKind.u8.wrap (m - n)))
 | _,.eql=>some (.bool (m==n))
 | _,.neq=>some (.bool (m !=n))
 | _,.lss=>some (.bool (decide (m<n)))
 | _,.leq=>some (.bool (decide (m<=n)))
 | _,.gtr=>some (.bool (decide (m>n)))
 | _,.geq=>some (.bool (decide (m≥n)))
 | _,_=>none
def Dd (b:BinOp) (k:IntKind) (m n:Int):Option (Value×((p:Prop)×Decidable p)):=match k,b with
 | .i64,.quo=>some (.int .i64 (RH m n),⟨n≠0,inferInstance⟩)
 | .i64,.rem=>some (.int .i64 (Int.tmod m n),⟨n≠0,inferInstance⟩)
 | .i64,.shl=>some (.int .i64 (wU m n),⟨0<=n,inferInstance⟩)
 | .i64,.shr=>some (.int .i64 (nr m n),⟨0<=n,inferInstance⟩)
 | .u64,.shr=>some (.int .u64 (nr m n),⟨0<=n,inferInstance⟩)
 | _,_=>none
def ZN (k:IntKind) (m n:Int):Int:=k.wrap (m*2 ^ (min n.toNat k.bits))
def ZO (k:IntKind) (m n:Int):Int:=m.fdiv (2 ^ (min n.toNat k.bits))
def De (b:BinOp) (k:IntKind) (m n:Int):Option Value:=match b,k with
 | .shl,.i64=>some (.int .i64 (wU m n))
 | .shr,.i64=>some (.int .i64 (nr m n))
 | .shr,.u64=>some (.int .u64 (nr m n))
 | .shl,k=>some (.int k (ZN k m n))
 | .shr,k=>some (.int k (ZO k m n))
 | _,_=>none
def Yv {Y:Type} (c:Bool) (p:Prop) (d:Decidable p) (x:Option Y):Option Y:=match c with
 | true=> @ite _ p d x none
 | false=>(@chk p d).bind fun _=>x
theorem Fk {Y:Type} {c:Bool} {p:Prop} {d:Decidable p} {x:Option Y} {r:Y} (h:Yv c p d x=some r):p/\x=some r:=by
 cases c with
 | true =>
  have h: @ite _ p d x none=some r:=h
  grind
 | false =>
  have ⟨u,e,h⟩:=bind_some (show (@chk p d).bind _=some r from h)
  grind[bD]
def isConst:Operand->Bool
 | .const _=>true
 | _=>false
def eqB (b:BinOp) (m n:Bool):Option Value:=match b with
 | .eql=>some (.bool (m==n))
 | .neq=>some (.bool (m !=n))
 | _=>none
def eqS (b:BinOp) (m n:ByteArray):Option Value:=match b with
 | .eql=>some (.bool (m==n))
 | .neq=>some (.bool (m !=n))
 | _=>none
section
variable {P:Program} {I:Hp} {w0:World} {o:Oper} {ev:Operand->Value} {x y:Operand} {t u:TypeId}
theorem O9 {b:BinOp} {k:IntKind} {m n:Int} {r:Value} (h:arith b k m n=some r) (ho:o.op= .binOp b t x y u) (hx:ev x= .int k m) (hy:ev y= .int k n):OpT P I w0 o ev [] (· =r) (fun _=>[]):=by
 unfold arith at h
 split at h <;> first | cases h | (cases ae h)
 ·exact SZ ho hx hy
 ·exact S4 ho hx hy
 ·exact S5 ho hx hy
 ·exact Ta ho hx hy
 ·exact Wi ho hx hy
 ·exact Tb ho hx hy
 ·exact TA ho hx hy
 ·exact TC ho hx hy
 ·exact TE ho hx hy
 ·exact TG ho hx hy
 ·exact a6 fun w=>by simp[execOp,ho,hx,hy];rfl
 ·exact sV ho hx hy rfl rfl
 ·exact sV ho hx hy rfl rfl
 ·exact sV ho hx hy rfl rfl
 ·exact sV ho hx hy rfl rfl
 ·exact sV ho hx hy rfl rfl
 ·exact sV ho hx hy rfl rfl
theorem KK {b:BinOp} {k:IntKind} {m n:Int} {r:Value×((p:Prop)×Decidable p)} (h:Dd b k m n=some r) (hp:r.2.1) (ho:o.op= .binOp b t x y u) (hx:ev x= .int k m) (hy:ev y= .int k n):OpT P I w0 o ev [] (· =r.1) (fun _=>[]):=by
 unfold Dd at h
 split at h <;> first | cases h | (cases ae h)
 ·grind[S6]
 ·grind[S7]
 ·grind[S8]
 ·grind[S9]
 grind[TH]
theorem KL {b:BinOp} {k j:IntKind} {m n:Int} {r:Value} (h:De b k m n=some r) (hp:0<=n) (ho:o.op= .binOp b t x y u) (hx:ev x= .int k m) (hy:ev y= .int j n):OpT P I w0 o ev [] (· =r) (fun _=>[]):=by
 have hn: ¬n<0:=by omega
 unfold De at h
 split at h <;> first | (cases ae h) | grind
 all_goals exact a6 fun w=>by simp[execOp,ho,hx,hy,eqGuard,binOp,Op.shift,hn,Result.andThen,wU,nr,ZN,ZO,IntKind.bits]
theorem IS {b:BinOp} {k:IntKind} {m n:Int} {r:Value} (h:De b k m n=some r):r.oneCell'=true:=by
 unfold De at h
 split at h <;> first | (cases ae h;rfl) | grind
theorem KM {b:BinOp} {k:IntKind} {m n:Int} {r:Value} (h:arith b k m n=some r):r.oneCell'=true:=by
 unfold arith at h
 split at h <;> cases h <;> rfl
theorem IT {b:BinOp} {k:IntKind} {m n:Int} {r:Value×((p:Prop)×Decidable p)} (h:Dd b k m n=some r):r.1.oneCell'=true:=by
 unfold Dd at h
 split at h <;> cases h <;> rfl
theorem Bx {b:BinOp} {m n:Bool} {r:Value} (h:eqB b m n=some r):r.oneCell'=true:=by
 unfold eqB at h
 split at h <;> cases h <;> rfl
theorem TS {b:BinOp} {m n:ByteArray} {r:Value} (h:eqS b m n=some r):r.oneCell'=true:=by
 unfold eqS at h
 split at h <;> cases h <;> rfl
theorem G7 {b:BinOp} {m n:Bool} {r:Value} (h:eqB b m n=some r) (hT:P.underlying t=some .bool) (ho:o.op= .binOp b t x y u) (hx:ev x= .bool m) (hy:ev y= .bool n):OpT P I w0 o ev [] (· =r) (fun _=>[]):=by
 unfold eqB at h
 grind[ae,Tc,Td]
theorem Wu {b:BinOp} {m n:ByteArray} {r:Value} (h:eqS b m n=some r) (ho:o.op= .binOp b t x y u) (hx:ev x= .string m) (hy:ev y= .string n):OpT P I w0 o ev [] (· =r) (fun _=>[]):=by
 unfold eqS at h
 grind[ae,To,Tp]
end
section
variable {Y:Type} (tt:TT) (s:Sg) (k:Res->Option Y)
def kv (v:Value):Option Y:=k (.pure s (.one (.val v)))
def TU (x:Operand):Option Y:=(opd s x).bind fun v=>k (.pure s v)
def Wv (c x y:Operand):Option Y:=(opd s c).bind fun c=>onB c ((opd s x).bind fun v=>k (.pure s v)) ((opd s y).bind fun v=>k (.pure s v))
def YW (x:Operand):Option Y:=match opd s x with
 | some (.one (.val (.bool b)))=>k (.pure s (.one (.nb b)))
 | some (.one (.nb b))=>kv s k (.bool b)
 | _=>none
def YX (x:Operand):Option Y:=match opd s x with
 | some (.one (.val (.int .i64 n)))=>kv s k (.int .i64 (i64.wrap (-n)))
 | _=>none
def Yw (b:BinOp) (t:TypeId) (x y:Operand):Option Y:=match opd s x,opd s y with
 | some (.one (.val (.int j m))),some (.one (.val (.int j' n)))=>if j=j' then match arith b j m n with
   | some r=>kv s k r
   | none=>(Dd b j m n).bind fun r=>Yv (isConst y) r.2.1 r.2.2 (kv s k r.1)
  else (De b j m n).bind fun r=>Yv (isConst y) (0<=n) inferInstance (kv s k r)
 | some (.one (.val (.bool m))),some (.one (.val (.bool n)))=>(td tt t).bind fun d=>bw d.boo ((eqB b m n).bind fun r=>kv s k r)
 | some (.one (.nb m)),some (.one (.val (.bool n)))=>(td tt t).bind fun d=>bw d.boo ((eqB b (!m) n).bind fun r=>kv s k r)
 | some (.one (.val (.bool m))),some (.one (.nb n))=>(td tt t).bind fun d=>bw d.boo ((eqB b m (!n)).bind fun r=>kv s k r)
 | some (.one (.nb m)),some (.one (.nb n))=>(td tt t).bind fun d=>bw d.boo ((eqB b (!m) (!n)).bind fun r=>kv s k r)
 | some (.one (.val (.string m))),some (.one (.val (.string n)))=>(eqS b m n).bind fun r=>kv s k r
 | some (.agg xs),some (.agg ys)=>(td tt t).bind fun d=>d.eq.bind fun ks=>(YV ks xs ys).bind fun r=>match b with
  | .eql=>kv s k (.bool r)
  | .neq=>k (.pure s (.one (.nb r)))
  | _=>none
 | _,_=>none
def Ww (S D:TypeId) (x:Operand):Option Y:=(td tt S).bind fun a=>(td tt D).bind fun b=>a.ik.bind fun k1=>b.ik.bind fun k2=>match opd s x,k1,k2 with
 | some (.one (.val (.int j m))),some k1,some k2=>if j=k1 then kv s k (.int k2 (k2.wrap m)) else none
 | _,_,_=>none
def By (x:Operand) (i:Nat):Option Y:=match opd s x with
 | some (.tup ys)=>(ys[i]?).bind fun y=>if y.1 then k (.pure s (.agg y.2)) else match y.2 with
  | [x] =>k (.pure s (.one x))
  | _=>none
 | _=>none
def sLen (T:TypeId) (x:Operand):Option Y:=(td tt T).bind fun d=>match d.el,opd s x with
 | some _,some (.one (.rd _ (.sl _ _) xs))=>kv s k (.int .i64 (xs.length:Int))
 | some _,some (.one (.val (.slice none 0 0)))=>kv s k (.int .i64 ((0:Nat):Int))
 | none,some (.one (.val (.string b)))=>d.ik.bind fun k1=>match k1 with
  | none=>kv s k (.int .i64 (b.size:Int))
  | _=>none
 | _,_=>none
def KN (T:TypeId) (x i:Operand):Option Y:=(td tt T).bind fun d=>match d.el,opd s x,opd s i with
 | some E,some (.one (.rd h (.sl E' t) xs)),some (.one (.val (.int .i64 i)))=>(td tt E).bind fun e=>bw (Nat.beq e.n t.size) ((aK xs i).bind fun a=>k (.pure s (.elr h E' t xs a i 0)))
 | _,_,_=>none
def RP (T:TypeId) (x:Operand) (f:Nat):Option Y:=(td tt T).bind fun d=>(d.fields[f]?).bind fun q=>match opd s x with
 | some (.elr h E t xs a i off)=>k (.pure s (.elr h E t xs a i (off+q.1)))
 | some (.elo h ver E t xs a i off)=>k (.pure s (.elo h ver E t xs a i (off+q.1)))
 | some (.one (.ptr h off))=>k (.pure s (.one (.ptr h (off+q.1))))
 | _=>none
def RQ (T:TypeId) (x:Operand):Option Y:=(td tt T).bind fun d=>match opd s x with
 | some (.elr h E t xs a i off)=>(vq d.agg t off d.n).bind fun p=>bw (p.ty.isProd==d.agg) (k (.pure s (KJ s.nxt p.ty (p.get a))))
 | _=>none
end
section
variable {Y:Type} {tt:TT} {s:Sg} {k:Res->Option Y} {P:Program} {w0:World} {o:Oper} {res:Y} {x y:Operand}
def Oks (P:Program) (w0:World) (s:Sg) (o:Oper) (k:Res->Option Y) (res:Y):Prop:= ∃r,k r=some res/\Good P w0 s o r
theorem jS {v:Value} (h:kv s k v=some res) (h1:v.oneCell'=true) (hop: ∀J θ,Fine P w0 J θ s->OpT P J w0 o (evL (envL θ s)) [] (· =v) (fun _=>[])):Oks P w0 s o k res:=
 ⟨_,h,eF hop fun _ _ _=>h1⟩
theorem G8 (ho:o.op= .move x\/o.op= .assign x) (h:TU s k x=some res):Oks P w0 s o k res:=by
 have ⟨v,hv,h⟩:=bind_some h
 refine ⟨_,h,eF (fun J θ hf=>?_) fun J θ hf=>bu hf hv⟩
 rcases ho with ho | ho
 ·exact OP ho (aC hv)
 ·exact IK ho (aC hv)
theorem Pa {c:Operand} (ho:o.op= .pick c x y) (h:Wv s k c x y=some res):Oks P w0 s o k res:=by
 have ⟨v,hv,h⟩:=bind_some h
 have ⟨b,hb,h⟩:=RO h
 cases b with
 | true =>
  have ⟨u,hu,h⟩:=bind_some (show (opd s x).bind _=some res from h)
  exact ⟨_,h,eF (fun J θ hf=>GR ho ((aC hv).trans (hb θ)) (aC hu)) fun J θ hf=>bu hf hu⟩
 | false =>
  have ⟨u,hu,h⟩:=bind_some (show (opd s y).bind _=some res from h)
  exact ⟨_,h,eF (fun J θ hf=>GR ho ((aC hv).trans (hb θ)) (aC hu)) fun J θ hf=>bu hf hu⟩
theorem TV {t:TypeId} (ho:o.op= .unOp .not t x) (h:YW s k x=some res):Oks P w0 s o k res:=by
 unfold YW at h
 split at h
 ·rename_i b hx
  exact ⟨_,h,eF (fun J θ hf=>Km ho (aC hx)) fun _ _ _=>trivial⟩
 ·rename_i b hx
  exact jS h rfl fun J θ hf=>by
   have:=Km (P:=P) (I:=J) (w0:=w0) (b:= !b) ho (aC (θ:=θ) hx)
   grind
 grind
theorem TW {t:TypeId} (ho:o.op= .unOp .neg t x) (h:YX s k x=some res):Oks P w0 s o k res:=by
 unfold YX at h
 split at h
 ·rename_i b hx
  exact jS h rfl fun J θ hf=>SY ho (aC hx)
 grind
theorem KO (hT:TTok P tt) {b:BinOp} {t u:TypeId} (ho:o.op= .binOp b t x y u) (h:Yw tt s k b t x y=some res):Oks P w0 s o k res:=by
 unfold Yw at h
 split at h
 ·rename_i j m j' n hx hy
  split at h
  ·rename_i hj
   subst hj
   split at h
   ·rename_i r hr
    exact jS h (KM hr) fun J θ hf=>O9 hr ho (aC hx) (aC hy)
   ·have ⟨r,hr,h⟩:=bind_some h
    have ⟨hp,h⟩:=Fk h
    exact jS h (IT hr) fun J θ hf=>KK hr hp ho (aC hx) (aC hy)
  ·have ⟨r,hr,h⟩:=bind_some h
   have ⟨hp,h⟩:=Fk h
   exact jS h (IS hr) fun J θ hf=>KL hr hp ho (aC hx) (aC hy)
 ·rename_i m n hx hy
  have ⟨d,hd,h⟩:=bind_some h
  have ⟨hb,h⟩:=aj h
  have ⟨r,hr,h⟩:=bind_some h
  exact jS h (Bx hr) fun J θ hf=>G7 hr ((hT.get hd).boo hb) ho (aC hx) (aC hy)
 ·rename_i m n hx hy
  have ⟨d,hd,h⟩:=bind_some h
  have ⟨hb,h⟩:=aj h
  have ⟨r,hr,h⟩:=bind_some h
  exact jS h (Bx hr) fun J θ hf=>G7 hr ((hT.get hd).boo hb) ho (aC hx) (aC hy)
 ·rename_i m n hx hy
  have ⟨d,hd,h⟩:=bind_some h
  have ⟨hb,h⟩:=aj h
  have ⟨r,hr,h⟩:=bind_some h
  exact jS h (Bx hr) fun J θ hf=>G7 hr ((hT.get hd).boo hb) ho (aC hx) (aC hy)
 ·rename_i m n hx hy
  have ⟨d,hd,h⟩:=bind_some h
  have ⟨hb,h⟩:=aj h
  have ⟨r,hr,h⟩:=bind_some h
  exact jS h (Bx hr) fun J θ hf=>G7 hr ((hT.get hd).boo hb) ho (aC hx) (aC hy)
 ·rename_i m n hx hy
  have ⟨r,hr,h⟩:=bind_some h
  exact jS h (TS hr) fun J θ hf=>Wu hr ho (aC hx) (aC hy)
 ·rename_i xs ys hx hy
  have ⟨d,hd,h⟩:=bind_some h
  have ⟨ks,hk,h⟩:=bind_some h
  have ⟨r,hr,h⟩:=bind_some h
  have he: ∀(θ:Th) w,EqT P t (AV.v θ (.agg xs)) (AV.v θ (.agg ys)) r w:=fun θ w=>TQ ((hT.get hd).eq _ hk w) hr
  split at h
  ·exact jS h rfl fun J θ hf=>Tq (he θ) ho (aC hx) (aC hy) rfl
  ·exact ⟨_,h,eF (fun J θ hf=>Ts (he θ) ho (aC hx) (aC hy) rfl) fun _ _ _=>trivial⟩
  grind
 grind
theorem Pb (hT:TTok P tt) {S D:TypeId} (ho:o.op= .convert S D x) (h:Ww tt s k S D x=some res):Oks P w0 s o k res:=by
 have ⟨a,ha,g1⟩:=bind_some h
 have ⟨b,hb,g2⟩:=bind_some g1
 have ⟨k1,h1,g3⟩:=bind_some g2
 have ⟨k2,h2,g4⟩:=bind_some g3
 split at g4
 ·rename_i j m k1 k2 hx
  split at g4
  ·rename_i e;subst e
   exact jS g4 rfl fun J θ hf=>C9 ((hT.get ha).ik _ h1) ((hT.get hb).ik _ h2) ho (aC hx)
  grind
 grind
theorem Fl {i:Nat} (ho:o.op= .extract x i) (h:By s k x i=some res):Oks P w0 s o k res:=by
 unfold By at h
 split at h
 ·rename_i ys hx
  have ⟨y,hy,h⟩:=bind_some h
  have hi: ∀θ,((ys.map (jR θ)).toArray)[i]? =some (jR θ y):=fun θ=>by grind
  have hm:=List.mem_of_getElem? hy
  split at h
  ·rename_i h1
   exact ⟨_,h,eF (fun J θ hf=>xD ho (aC hx) ((hi θ).trans (by unfold jR;rw[if_pos h1];rfl))) fun J θ hf=>(bu hf hx) y hm⟩
  ·rename_i h1
   split at h
   ·rename_i z hz
    exact ⟨_,h,eF (fun J θ hf=>xD ho (aC hx) ((hi θ).trans (by unfold jR;rw[if_neg h1,hz];rfl))) fun J θ hf=>(bu hf hx) y hm z (by grind)⟩
   grind
 grind
theorem TX (hT:TTok P tt) {T:TypeId} (ho:o.op= .call { callee:=.builtin .len,args:= #[x],argTypes:= #[T] }) (h:sLen tt s k T x=some res):Oks P w0 s o k res:=by
 have ⟨d,hd,h⟩:=bind_some h
 split at h
 ·rename_i E h' E' t xs he hx
  exact jS h rfl fun J θ hf=>Ag (Hd.of_rd (bu hf hx).2) ((hT.get hd).el _ he) ho (aC hx)
 ·rename_i E he hx
  exact jS h rfl fun J θ hf=>tQ ((hT.get hd).el _ he) ho (aC hx)
 ·rename_i b he hx
  have ⟨k1,h1,g⟩:=bind_some h
  cases k1 with
  | none=>exact jS g rfl fun J θ hf=>E8 ((hT.get hd).ik _ h1) ho (aC hx)
  | some k1=>cases g
 grind
theorem IU (hT:TTok P tt) {T:TypeId} {i:Operand} (ho:o.op= .indexAddr T x i) (h:KN tt s k T x i=some res):Oks P w0 s o k res:=by
 have ⟨d,hd,h⟩:=bind_some h
 split at h
 ·rename_i E h' E' t xs j he hx hi
  have ⟨e,hE,h⟩:=bind_some h
  have ⟨hn,h⟩:=aj h
  have ⟨a,ha,h⟩:=bind_some h
  have hn:=aq hn
  refine ⟨_,h,eF (fun J θ hf=>?_) fun J θ hf=>⟨(bu hf hx).1,ha,(bu hf hx).2⟩⟩
  have:=qv (I:=J) (w0:=w0) (Hd.of_rd (bu hf hx).2) ((hT.get hd).el _ he) (hT.get hE).ti ho (aC hx) (aC hi) (Bp ha)
  rw[hn] at this
  exact this
 grind
theorem KP (hT:TTok P tt) {T:TypeId} {f:Nat} (ho:o.op= .fieldAddr T x f) (h:RP tt s k T x f=some res):Oks P w0 s o k res:=by
 have ⟨d,hd,h⟩:=bind_some h
 have ⟨q,hq,h⟩:=bind_some h
 have hf:=(hT.get hd).fld f q hq
 split at h
 ·rename_i hh E t xs a i off hx
  refine ⟨_,h,eF (fun J θ hF=>?_) fun J θ hF=>(by have:=bu hF hx;exact this)⟩
  have:=wq (I:=J) (w0:=w0) hf ho (aC (θ:=θ) hx)
  rw[Nat.add_assoc] at this
  exact this
 ·rename_i hh ver E t xs a i off hx
  refine ⟨_,h,eF (fun J θ hF=>?_) fun J θ hF=>(by have:=bu hF hx;exact this)⟩
  have:=wq (I:=J) (w0:=w0) hf ho (aC (θ:=θ) hx)
  rw[Nat.add_assoc] at this
  exact this
 ·rename_i hh off hx
  exact ⟨_,h,eF (fun J θ hF=>kL hf ho (aC (θ:=θ) hx)) fun J θ hF=>(by have:=bu hF hx;exact this)⟩
 grind
theorem KQ (hT:TTok P tt) {T:TypeId} (ho:o.op= .load T x) (h:RQ tt s k T x=some res):Oks P w0 s o k res:=by
 have ⟨d,hd,h⟩:=bind_some h
 split at h
 ·rename_i hh E t xs a i off hx
  have ⟨p,hp,h⟩:=bind_some h
  have ⟨hg,h⟩:=aj h
  have hp:=xg _ _ _ _ hp
  have hdk:=hT.get hd
  refine ⟨_,h,List.Perm.refl _,aL rfl,fun J θ hf=>?_⟩
  have ho':=bu hf hx
  have:=E9 (P:=P) (w0:=w0) (o:=o) (T:=T) ho'.2.2 ho'.2.1 hp.fld hdk.ti (p.ty.rep_size.trans hp.size) hdk.one ho (aC (θ:=θ) hx) t.rep_size
  refine OpT.weak this (fun v hv=>?_) (fun v hv=>rfl)
  have ⟨c,h1,h2⟩:=hv
  rw[<-show (p.ty.isProd==d.agg)=true->p.ty.isProd=d.agg from fun e=>by grind,] at h2
  all_goals first | exact hg | skip
  have:=oC (P:=P) (w0:=w0) (J:=J) (θ:=upd θ s.nxt v) (id:=s.nxt) (n:=s.nxt+1) (chs:=(Res.pure s (KJ s.nxt p.ty (p.get a))).chs s.nxt) (au _) fq p.ty (p.get a) c h1 h2
  exact ⟨this.1,this.2,fun g hg=>by cases hg⟩
 grind
end
end R
namespace R
open Go.RowKit
open D
def pull (h:Hdr):List Ent->Option (Ent×List Ent)
 | [] =>none
 | e::l=>if Hdr.beq e.1 h then some (e,l) else (pull h l).bind fun r=>some (r.1,e::r.2)
theorem fh {h:Hdr} : ∀ {l:List Ent} {r:Ent×List Ent},pull h l=some r->l.Perm (r.1::r.2)/\r.1.1=h
 | [],r,e=>by cases e
 | x::l,r,e=>by
  unfold pull at e
  split at e
  ·rename_i hx
   obtain rfl:=ae e
   exact ⟨List.Perm.refl _,Hdr.beq_eq hx⟩
  ·obtain ⟨q,hq,e⟩:=bind_some e
   obtain rfl:=ae e
   obtain ⟨p,k⟩:=fh hq
   exact ⟨(p.cons x).trans (List.Perm.swap _ _ _),k⟩
def zP (h:Hdr) (l:List Ent):Bool:=l.all fun e=> !(Hdr.beq e.1 h)
theorem xJ: ∀l:List Nat,V0 l l=true
 | [] =>rfl
 | a::l=>by show (Nat.beq a a&&V0 l l)=true;rw[Nat.beq_refl,xJ l];rfl
theorem nD {h:Hdr} {l:List Ent} (k:zP h l=true) {e:Ent} (he:e∈l):e.1≠h:=by
 intro e1
 have:=(List.all_eq_true.1 k) e he
 rw[e1] at this
 unfold Hdr.beq at this
 rw[Nat.beq_refl,xJ] at this
 cases this
structure Row where
 ver:Nat
 E:TypeId
 t:Ty
 xs:List t.den
 rest:List Ent
def rowOf (h:Hdr) (chs:List Ent):Option Row:=(pull h chs).bind fun r=>match r.1.2.2 with
 | .own (.sl E t) xs=>bw (zP h r.2) (some ⟨r.1.2.1,E,t,xs,r.2⟩)
 | _=>none
def Row.ent (r:Row) (h:Hdr):Ent:=(h,r.ver,.own (.sl r.E r.t) r.xs)
theorem bf {h:Hdr} {chs:List Ent} {r:Row} (e:rowOf h chs=some r):chs.Perm (r.ent h::r.rest)/\ ∀e∈r.rest,e.1≠h:=by
 obtain ⟨q,hq,e⟩:=bind_some e
 obtain ⟨p,k⟩:=fh hq
 obtain ⟨⟨h',ver,c⟩,rest⟩:=q
 obtain rfl:h'=h:=k
 cases c with
 | own t' d =>
  cases t' with
  | sl E t =>
   obtain ⟨hn,e⟩:=aj (show bw (zP h' rest) _=some r from e)
   obtain rfl:=ae e
   exact ⟨p,fun e he=>nD hn he⟩
  | _=>cases e
 | _=>cases e
theorem tZ {h:Hdr} {chs:List Ent} {r:Row} (e:rowOf h chs=some r) {n:Nat} (hv:r.ver<n):Mem chs n h r.ver (.own (.sl r.E r.t) r.xs):=by
 obtain ⟨p,k⟩:=bf e
 refine ⟨hv,fun x hx c hs=>?_⟩
 rcases az (p.mem_iff.1 hx) with rfl | hx
 ·rcases hs.2 with h1 | h1
  ·exact h1.2
  ·exact h1.elim
 ·exact absurd hs.1 (k x hx)
structure Blk where
 ver:Nat
 T:TypeId
 cells:List LV
 rest:List Ent
def pj (h:Hdr) (chs:List Ent):Option Blk:=(pull h chs).bind fun r=>match r.1.2.2 with
 | .blk T cells=>some ⟨r.1.2.1,T,cells,r.2⟩
 | _=>none
def Blk.ent (r:Blk) (h:Hdr):Ent:=(h,r.ver,.blk r.T r.cells)
theorem jq {h:Hdr} {chs:List Ent} {r:Blk} (e:pj h chs=some r):chs.Perm (r.ent h::r.rest):=by
 obtain ⟨q,hq,e⟩:=bind_some e
 obtain ⟨p,k⟩:=fh hq
 obtain ⟨⟨h',ver,c⟩,rest⟩:=q
 obtain rfl:h'=h:=k
 cases c with
 | blk T cells =>
  obtain rfl:=ae (show some _=some r from e)
  exact p
 | _=>cases e
def kz:AV->Option (List LV)
 | .one x=>some [x]
 | .agg xs=>some xs
 | _=>none
theorem iy {v:AV} {cs:List LV} (h:kz v=some cs) {P:Program} {w0:World} {J:Hp} {θ:Th} {n:Nat} {chs:List Ent} (hv:v.ok P w0 J θ n chs):(∀x∈cs,x.ok P w0 J θ n)/\(v.v θ).cells=(cs.map (·.v θ)).toArray:=by
 unfold kz at h
 split at h
 ·obtain rfl:=ae h
  exact ⟨fun x hx=>by obtain rfl:=ak hx;exact hv,xI (LV.one (show LV.ok P w0 J θ n _ from hv))⟩
 ·obtain rfl:=ae h
  exact ⟨hv,rfl⟩
 ·cases h
theorem Bz {P:Program} {w0:World} {J:Hp} {θ:Th} {n:Nat} {cs:List LV} (h: ∀x∈cs,x.ok P w0 J θ n):(cs.map (·.v θ)).all (·.oneCell')=true:=List.all_eq_true.2 fun v hv=>by
 obtain ⟨x,hx,rfl⟩:=List.mem_map.1 hv
 exact LV.one (h x hx)
def BA (k:IntKind):LV->Option Int
 | .val (.int k' n)=>if k'=k then some n else none
 | _=>none
def Al:LV->Option Bool
 | .val (.bool b)=>some b
 | .nb b=>some (!b)
 | _=>none
def IV:LV->Option ByteArray
 | .val (.string b)=>some b
 | _=>none
def isNil:Value->Bool
 | .slice none 0 0=>true
 | _=>false
theorem l8 {v:Value} (h:isNil v=true):v= .slice none 0 0:=by
 unfold isNil at h
 split at h
 ·rfl
 ·cases h
def Pc (E:TypeId) (t:Ty):LV->Option (List t.den)
 | .rd _ t' d=>mE t' (.sl E t) d
 | .val v=>bw (isNil v) (some [])
 | _=>none
def Am:Value->Bool
 | .pointer none=>true
 | _=>false
theorem xK {v:Value} (h:Am v=true):v= .pointer none:=by
 unfold Am at h
 split at h
 ·rfl
 ·cases h
def V1 (T E:TypeId) (t:Ty):LV->Option (Tr t.den)
 | .rd _ t' d=>mE t' (.tree T E t) d
 | .val v=>bw (Am v) (some .nil)
 | _=>none
def hd1 {α:Type} (f:LV->Option α):List LV->Option (α×List LV)
 | x::r=>(f x).bind fun d=>some (d,r)
 | [] =>none
def dk:(t:Ty)->List LV->Option (t.den×List LV)
 | .int k,l=>hd1 (BA k) l
 | .bool,l=>hd1 Al l
 | .str,l=>hd1 IV l
 | .raw,_=>none
 | .prod a b,l=>(dk a l).bind fun x=>(dk b x.2).bind fun y=>some ((x.1,y.1),y.2)
 | .sl E t,l=>hd1 (Pc E t) l
 | .fro t,l=>dk t l
 | .bag t,l=>dk t l
 | .wr t,l=>dk t l
 | .tree T E t,l=>hd1 (V1 T E t) l
theorem BB {k:IntKind} {x:LV} {n:Int} (h:BA k x=some n) (θ:Th):x.v θ= .int k n:=by
 unfold BA at h
 split at h
 ·split at h
  ·rename_i hk
   subst hk
   obtain rfl:=ae h
   rfl
  ·cases h
 ·cases h
theorem Df {x:LV} {n:Bool} (h:Al x=some n) (θ:Th):x.v θ= .bool n:=by
 unfold Al at h
 split at h
 ·obtain rfl:=ae h;rfl
 ·obtain rfl:=ae h;rfl
 ·cases h
theorem G9 {x:LV} {n:ByteArray} (h:IV x=some n) (θ:Th):x.v θ= .string n:=by
 unfold IV at h
 split at h
 ·obtain rfl:=ae h;rfl
 ·cases h
theorem xL {E:TypeId} {t:Ty} {x:LV} {d:List t.den} (h:Pc E t x=some d) {P:Program} {w0:World} {J:Hp} {θ:Th} {n:Nat} (hx:x.ok P w0 J θ n):(Ty.sl E t).rep.rd J [x.v θ] d:=by
 cases x with
 | rd h' t' d'=>exact gR (show mE t' (.sl E t) d'=some d from h) hx.2
 | val v =>
  obtain ⟨h1,h⟩:=aj (show bw (isNil v) (some [])=some d from h)
  obtain rfl:=ae h
  show (Ty.sl E t).rep.rd J [v] []
  rw[l8 h1]
  exact RK
 | _=>cases h
theorem Fm {T E:TypeId} {t:Ty} {x:LV} {d:Tr t.den} (h:V1 T E t x=some d) {P:Program} {w0:World} {J:Hp} {θ:Th} {n:Nat} (hx:x.ok P w0 J θ n):(Ty.tree T E t).rep.rd J [x.v θ] d:=by
 cases x with
 | rd h' t' d'=>exact gR (show mE t' (.tree T E t) d'=some d from h) hx.2
 | val v =>
  obtain ⟨h1,h⟩:=aj (show bw (Am v) (some .nil)=some d from h)
  obtain rfl:=ae h
  show (Ty.tree T E t).rep.rd J [v] .nil
  rw[xK h1]
  exact ⟨_,rfl,.nil⟩
 | _=>cases h
theorem Dg {α:Type} {f:LV->Option α} {cs:List LV} {r:α×List LV} (h:hd1 f cs=some r): ∃x,cs=x::r.2/\f x=some r.1:=by
 cases cs with
 | nil=>cases h
 | cons x l =>
  obtain ⟨d,hd,h⟩:=bind_some (show (f x).bind _=some r from h)
  obtain rfl:=ae h
  exact ⟨x,rfl,hd⟩
theorem gm {P:Program} {w0:World} {J:Hp} {θ:Th} {n:Nat} : ∀ {t:Ty} {cs:List LV} {r:t.den×List LV},dk t cs=some r->(∀x∈cs,x.ok P w0 J θ n)-> ∃c1,cs=c1++r.2/\t.rep.rd J (c1.map (·.v θ)) r.1:=by
 intro t
 induction t with
 | int k =>
  intro cs r h hc
  obtain ⟨x,rfl,hx⟩:=Dg (show hd1 _ _=some r from h)
  exact ⟨[x],rfl,congrArg (fun v=>[v]) (BB hx θ)⟩
 | bool =>
  intro cs r h hc
  obtain ⟨x,rfl,hx⟩:=Dg (show hd1 _ _=some r from h)
  exact ⟨[x],rfl,congrArg (fun v=>[v]) (Df hx θ)⟩
 | str =>
  intro cs r h hc
  obtain ⟨x,rfl,hx⟩:=Dg (show hd1 _ _=some r from h)
  exact ⟨[x],rfl,congrArg (fun v=>[v]) (G9 hx θ)⟩
 | raw =>
  intro cs r h hc
  cases (show none=some r from h)
 | prod a b iha ihb =>
  intro cs r h hc
  obtain ⟨x,hx,h⟩:=bind_some (show (dk a cs).bind _=some r from h)
  obtain ⟨y,hy,h⟩:=bind_some h
  obtain rfl:=ae h
  obtain ⟨c1,rfl,k1⟩:=iha hx hc
  obtain ⟨c2,e2,k2⟩:=ihb hy fun z hz=>hc z (aX _ hz)
  exact ⟨c1++c2,by rw[e2,aD],c1.map (·.v θ),c2.map (·.v θ),by rw[aM],k1,k2⟩
 | sl E t ih =>
  intro cs r h hc
  obtain ⟨x,rfl,hx⟩:=Dg (show hd1 _ _=some r from h)
  exact ⟨[x],rfl,xL hx (hc x (by simp))⟩
 | fro t ih =>
  intro cs r h hc
  exact ih (show dk t cs=some r from h) hc
 | bag t ih =>
  intro cs r h hc
  exact ih (show dk t cs=some r from h) hc
 | wr t ih =>
  intro cs r h hc
  exact ih (show dk t cs=some r from h) hc
 | tree T E t ih =>
  intro cs r h hc
  obtain ⟨x,rfl,hx⟩:=Dg (show hd1 _ _=some r from h)
  exact ⟨[x],rfl,Fm hx (hc x (by simp))⟩
end R
namespace R
open Go.RowKit
open D
section
variable {P:Program} {I J:Hp} {w0 w w':World} {C:List Ch} {o:Oper} {ev:Operand->Value} {α β:Type} {R:Rep α} {S:Rep β} {E T:TypeId}
theorem sZ {v:Value} {xs:List α} {i:Nat} {x:α} {F:List Nat} (h:(aw E R).own I w [v] xs F) (hx:xs[i]? =some x) :
  ∃g ofs cap cur K1 K3 c1 cell c3 G,v= .slice (some ⟨g,ofs,none⟩) xs.length cap/\xs.length<=lim/\w.heap[g]? =some (.cells cur E (0,0))/\xs.length<=cap/\cap<=maxLen/\ofs+cap*R.size<=cur.size/\F=g::(K1++(G++K3)) /\
   cur.toList.drop ofs=c1++(cell++c3)/\c1.length=i*R.size/\cell.length=R.size/\OwnEls R I w c1 (xs.take i) K1/\R.own I w cell x G/\OwnEls R I w c3 (xs.drop (i+1)) K3:=by
 have hlt:=(List.getElem?_eq_some_iff.1 hx).1
 obtain ⟨hl,⟨-,rfl,-⟩ | ⟨g,ofs,cap,cur,K,hv,k1,k2,k3,k4,rfl,k5⟩⟩:=h
 ·grind
 obtain rfl:v= .slice (some ⟨g,ofs,none⟩) xs.length cap:=by grind
 have e:xs=xs.take i++(x::xs.drop (i+1)):=by
  grind[List.drop_eq_getElem_cons,List.take_append_drop]
 rw[e] at k5
 obtain ⟨c1,c2,K1,K2,f1,f2,rfl,f4,cells,c3,G,K3,rfl,f6,rfl,f8,f9⟩:=k5.cut2
 have hi:(xs.take i).length=i:=by rw[aF];omega
 rw[hi] at f2
 exact ⟨g,ofs,cap,cur,K1,K3,c1,cells,c3,G,rfl,hl,k1,k2,k3,k4,rfl,f1,f2,f6,f4,f8,f9⟩
theorem BC {off n k:Nat} {f:α->β} {u:α->β->α} {x:Operand} {v:Value} {xs:List α} {a:α} {i:Int} {agg:Bool} (hS:S.Sh) (ha:aK xs i=some a) (hf:Lens R off S f u) (hT:TI P T agg n) (hSn:S.size=n) (hn:(agg || n==1)=true) (ho:o.op= .load T x) (hx:ev x=pt v (i.toNat*k+off)) (hk:R.size=k) :
  OpT P I w0 o ev [Ch.own (aw E R) [v] xs] (fun u=> ∃d,S.rd I d (f a)/\Lds agg d u) (fun _=>[Ch.own (aw E R) [v] xs]):=by
 intro w C hs
 obtain ⟨hb,hi,F,⟨G,K,rfl,e2,e3⟩,h2,h3⟩:=id hs
 obtain ⟨g,ofs,cap,cur,K1,K3,c1,cell,c3,G1,rfl,hl,k1,k2,k3,k4,rfl,f1,f2,f3,-,f5,-⟩:=sZ e2 (nZ ha)
 obtain ⟨d,G2,K2,p,e1,e4,-⟩:=hf I w cell a G1 f5
 obtain ⟨-,d2⟩:=hS e4
 have hdl:=(S.rd_len d2).trans hSn
 have ⟨u,hr,hu⟩:=GS (P:=P) (w:=w) (b:=g) (off:=ofs+(i.toNat*k+off)) hT hdl (fun e=>by grind) (fun j u hj=>by
  rw[<-e1,List.getElem?_take] at hj
  split at hj
  ·simp[World.cell?,k1]
   rw[<-Array.getElem?_toList,show ofs+(i.toNat*k+off)+j=ofs+(i.toNat*k+off+j) from Nat.add_assoc _ _ _,<-List.getElem?_drop,f1,List.getElem?_append_right (by grind),List.getElem?_append_left (by grind),f2,hk]
   grind
  grind)
 simp[execOp,ho,hx,pt,ptB,ptO,Sem.run_bind,hr,Result.andThen_ok]
 exact ⟨⟨d,d2,hu⟩,hs⟩
theorem RR {off:Nat} {u:α->β->α} {xs:List α} {i:Nat} {a:α} {g ofs cap:Nat} {cur:Array Value} {K1 K2 K3:List Nat} {c1 cell c3:List Value} {v0:Value}
  (hlt:i<xs.length) (hl:xs.length<=lim) (k1:w.heap[g]? =some (.cells cur E (0,0))) (k2:xs.length<=cap) (k3:cap<=maxLen) (k4:ofs+cap*R.size<=cur.size) (f1:cur.toList.drop ofs=c1++(cell++c3)) (f2:c1.length=i*R.size) (f3:cell.length=R.size)
  (f4:OwnEls R I w c1 (xs.take i) K1) (f6:OwnEls R I w c3 (xs.drop (i+1)) K3) (hv:cell[off]? =some v0) (hne: ∀b,b∈K1++(K2++K3)->b≠g) (hlv: ∀b,b∈K2->b<w.heap.size) (hS:S.size=1)
  (hW: ∀J w' d' y G',I.le J->(∀b,b∈K2->w'.heap[b]? =w.heap[b]?)->S.own J w' d' y G'-> ∃F,F.Perm (G'++K2)/\R.own J w' (spl cell off d') (u a y) F) :
  (Ch.gap (aw E R) [.slice (some ⟨g,ofs,none⟩) xs.length cap] S (fun y=>xs.set i (u a y)) g (ofs+(i*R.size+off)) v0).holds I w (g::(K1++(K2++K3))):=by
 have hoff:=(List.getElem?_eq_some_iff.1 hv).1
 refine ⟨by simp,⟨cur,E,k1,?_⟩,fun b hb=>?_,fun J w' v' y G' hJ hs hg h'=>?_⟩
 ·rw[<-Array.getElem?_toList,<-List.getElem?_drop (i:=ofs),f1,List.getElem?_append_right (by omega),List.getElem?_append_left (by omega),f2]
  grind
 ·rcases az hb with rfl | hb
  ·grind
  ·rcases aH hb with hb | hb
   ·exact f4.live b hb
   ·rcases aH hb with hb | hb
    ·grind
    ·exact f6.live b hb
 ·have st:=fun b hb=>hs b (ba _ hb) (hne b hb)
  have ⟨F1,p,q⟩:=hW J w' [v'] y G' hJ (fun b hb=>st b (aX _ (aT _ hb))) h'
  have hcur:=hg cur E k1
  have hcells:(cur.setIfInBounds (ofs+(i*R.size+off)) v').toList.drop ofs=c1++(spl cell off [v'] ++c3):=by
   rw[Array.toList_setIfInBounds,List.drop_set,if_neg (by omega),Nat.add_sub_cancel_left,f1,List.set_append_right _ _ (by omega),List.set_append_left _ _ (by omega),f2]
   rw[show i*R.size+off - i*R.size=off from by omega];rfl
  refine ⟨g::(K1++(F1++K3)),?_,by grind,.inr ⟨g,ofs,cap,_,K1++(F1++K3),by grind,hcur,by grind,k3,by grind,rfl,?_⟩⟩
  ·grind
  ·show OwnEls R J w' _ (xs.set i (u a y)) _
   rw[List.set_eq_take_append_cons_drop,if_pos hlt,hcells]
   exact OwnEls.glue (ys:=xs.take i) (zs:=u a y::xs.drop (i+1)) (by grind) ((f4.mono hJ).stay fun b hb=>st b (aT _ hb))
    ⟨spl cell off [v'],c3,F1,K3,rfl,by rw[vn];exact f3,rfl,q,(f6.mono hJ).stay fun b hb=>st b (aX _ (aX _ hb))⟩
theorem BD {off k:Nat} {f:α->β} {u:α->β->α} {x:Operand} {v:Value} {xs:List α} {a:α} {i:Int} (ha:aK xs i=some a) (hf:Lens R off S f u) (hT:TI P T false 1) (hS:S.size=1) (ho:o.op= .load T x) (hx:ev x=pt v (i.toNat*k+off)) (hk:R.size=k) :
  OpT P I w0 o ev [Ch.own (aw E R) [v] xs] (fun u=>u.oneCell'=true) (fun c=>[Ch.own S [c] (f a),Ch.gap (aw E R) [v] S (fun y=>xs.set i.toNat (u a y)) (ptB v) (ptO v+(i.toNat*k+off)) c]):=by
 intro w C hs
 obtain ⟨hb,hi,F,⟨G,K,rfl,e2,e3⟩,h2,h3⟩:=hs
 have hlt:=(List.getElem?_eq_some_iff.1 (nZ ha)).1
 obtain ⟨g,ofs,cap,cur,K1,K3,c1,cell,c3,G1,rfl,hl,k1,k2,k3,k4,rfl,f1,f2,f3,f4,f5,f6⟩:=sZ e2 (nZ ha)
 have ⟨d,G2,K2,p,e1,e4,e5⟩:=hf I w cell a G1 f5
 have hdl:=(S.own_len e4).trans hS
 obtain ⟨c,rfl⟩:=List.length_eq_one_iff.1 hdl
 have hc:cell[off]? =some c:=by
  have:=congrArg (fun l:List Value=>l[0]?) e1
  simpa [List.getElem?_take,List.getElem?_drop,hS] using this
 have ⟨u',hr,hu⟩:=GS (P:=P) (w:=w) (b:=g) (off:=ofs+(i.toNat*k+off)) (d:=[c]) hT rfl (fun _=>rfl) (fun j u hj=>by
  have hj0:j=0:=by have:=(List.getElem?_eq_some_iff.1 hj).1;simpa using this
  subst hj0
  simp only[World.cell?,k1]
  rw[<-Array.getElem?_toList,show ofs+(i.toNat*k+off)+0=ofs+(i.toNat*k+off+0) from Nat.add_assoc _ _ _,<-List.getElem?_drop,f1,List.getElem?_append_right (by grind),List.getElem?_append_left (by grind),f2,hk]
  simp_all)
 obtain rfl:c=u':=by simpa using (show [c] = [u'] from hu)
 simp[execOp,ho,hx,pt,ptB,ptO,Sem.run_bind,hr,Result.andThen_ok]
 have hperm:((g::(K1++(G1++K3)))++K).Perm (G2++((g::(K1++(K2++K3)))++K)):=by
  grind
 have hnd:=hperm.nodup_iff.1 h2
 refine ⟨S.own_one e4 c (by simp),hb,hi,G2++((g::(K1++(K2++K3)))++K),⟨G2,_,rfl,e4,g::(K1++(K2++K3)),K,rfl,?_,e3⟩,hnd,fun b hb=>h3 b (hperm.mem_iff.2 hb)⟩
 have:=RR (u:=u) (a:=a) (v0:=c) hlt hl k1 k2 k3 k4 f1 f2 f3 f4 f6 hc (K2:=K2) (S:=S) (fun b hb e=>by
  grind) (fun b hb=>R.own_live f5 b (p.mem_iff.2 (aX _ hb))) hS e5
 grind
theorem St.settle {cs:List Value} {f:β->α} {b off:Nat} {v:Value} {y:β} (h:St I w0 w (Ch.own S [v] y::Ch.gap R cs S f b off v::C)):St I w0 w (Ch.own R cs (f y)::C):=by
 obtain ⟨h1,h2,F,⟨G,K,rfl,e1,K',K2,rfl,⟨k1,⟨cur,E,k2,k2'⟩,k3,k4⟩,e3⟩,h4,h5⟩:=h
 have ⟨F,p,q⟩:=k4 I w v y G Hp.le.rfl (fun _ _ _=>rfl) (fun cur' E' hc=>by
  rw[k2] at hc⊢
  obtain ⟨rfl,rfl⟩:cur=cur'/\E=E':=by grind
  congr 2
  grind) e1
 have p2:(F++K2).Perm (G++(K'++K2)):=by rw[<-aD];exact p.append_right _
 exact ⟨h1,h2,F++K2,⟨F,K2,rfl,q,e3⟩,p2.nodup_iff.2 h4,fun b hb=>h5 b (p2.mem_iff.1 hb)⟩
theorem BE {cs:List Value} {f:β->α} {b off:Nat} {v u:Value} {x y:Operand} (hT:TI P T false 1) (ho:o.op= .store T x y) (hx:ev x= .pointer (some ⟨b,off,none⟩)) (hy:ev y=u) (h1:u.oneCell'=true) :
  OpT P I w0 o ev [Ch.gap R cs S f b off v] (fun _=>True) (fun _=>[Ch.gap R cs S f b off u]):=by
 intro w C hs
 obtain ⟨hb0,hi,F,⟨K,K2,rfl,⟨k1,⟨cur,E,k2,k2'⟩,k3,k4⟩,e3⟩,h4,h5⟩:=id hs
 have hr:=GT (P:=P) (w:=w) hT (g:=b) (o:=off) (l:=[u]) (xI h1) rfl (fun j hj=>by
  simp_all[World.cell?,Option.isSome_none,Bool.false_eq_true,ite_false,Nat.add_zero]) (fun j=>by simp[World.frozen?,k2]) (fun v hv=>by grind)
 simp only[execOp,ho,hx,hy,Sem.run_bind,hr,Result.andThen_ok]
 refine ⟨trivial,?_⟩
 refine St.step (w:=w) (c:=[Ch.gap R cs S f b off v]) (c':=[Ch.gap R cs S f b off u]) (w':=w.setCell ⟨b,off,none⟩ u) hs rfl rfl rfl (by simp_all) ?_
 rintro F ⟨K,K',rfl,⟨q1,⟨cur',E',q2,q2'⟩,q3,q4⟩,rfl⟩ hnd hfr
 rw[List.append_nil] at *
 refine ⟨fun c hc hn=>Below.heap_setCell _ _ _ _ fun e=>hn (e ▸ q1),K,⟨K,[],by simp,⟨q1,⟨_,E',fD q2,?_⟩,fun c hc=>by simp_all,fun J w'' v' y' G hJ s1 s2=>q4 J w'' v' y' G hJ (fun c hc hne=>by grind[Below.heap_setCell]) fun cur2 E2 hc=>?_⟩,rfl⟩,hnd,fun c hc=>.inl hc⟩
 ·grind
 ·have:=s2 _ E2 (fD (v:=u) (o:=off) hc)
  simp_all
end
end R
namespace R
open Go.RowKit
open D
def ua (E:TypeId) (t:Ty) (x:LV) (chs:List Ent):Option (List t.den×List Ent×List Ent):=match x with
 | .own h=>(pull h chs).bind fun r=>match r.1.2.2 with
  | .own t' d=>(mF t' (.sl E t) d).bind fun d=>some (d,[r.1],r.2)
  | _=>none
 | .val v=>bw (isNil v) (some ([],[],chs))
 | _=>none
def xM (T E:TypeId) (t:Ty) (x:LV) (chs:List Ent):Option (Tr t.den×List Ent×List Ent):=match x with
 | .own h=>(pull h chs).bind fun r=>match r.1.2.2 with
  | .own t' d=>(mF t' (.tree T E t) d).bind fun d=>some (d,[r.1],r.2)
  | _=>none
 | x=>(V1 T E t x).bind fun d=>some (d,[],chs)
structure Took (t:Ty) where
 d:t.den
 cells:List LV
 used:List Ent
 rest:List Ent
def cy:(t:Ty)->List LV->List Ent->Option (Took t)
 | .prod a b,l,chs=>(cy a l chs).bind fun x=>(cy b x.cells x.rest).bind fun y=>some ⟨(x.d,y.d),y.cells,x.used++y.used,y.rest⟩
 | .sl E t,l,chs=>match l with
  | x::r=>(ua E t x chs).bind fun q=>some ⟨q.1,r,q.2.1,q.2.2⟩
  | [] =>none
 | .int k,l,chs=>(dk (.int k) l).bind fun x=>some ⟨x.1,x.2,[],chs⟩
 | .bool,l,chs=>(dk .bool l).bind fun x=>some ⟨x.1,x.2,[],chs⟩
 | .str,l,chs=>(dk .str l).bind fun x=>some ⟨x.1,x.2,[],chs⟩
 | .raw,_,_=>none
 | .fro t,l,chs=>(dk t l).bind fun x=>some ⟨x.1,x.2,[],chs⟩
 | .bag t,l,chs=>match cy t l chs with
  | some x=>some ⟨x.d,x.cells,x.used,x.rest⟩
  | none=>(dk t l).bind fun x=>some ⟨x.1,x.2,[],chs⟩
 | .wr t,l,chs=>(cy t l chs).bind fun x=>some ⟨x.d,x.cells,x.used,x.rest⟩
 | .tree T E t,l,chs=>match l with
  | x::r=>(xM T E t x chs).bind fun q=>some ⟨q.1,r,q.2.1,q.2.2⟩
  | [] =>none
theorem xN {E:TypeId} {t:Ty} {x:LV} {chs:List Ent} {q:List t.den×List Ent×List Ent} (h:ua E t x chs=some q) (P:Program) (J:Hp) (θ:Th):chs.Perm (q.2.1++q.2.2)/\Bun J (q.2.1.map (toCh P θ)) (Ty.sl E t).rep [x.v θ] q.1:=by
 cases x with
 | own h' =>
  have ⟨r,hr,h⟩:=bind_some (show (pull h' chs).bind _=some q from h)
  have ⟨p,k⟩:=fh hr
  have ⟨⟨h2,ver,c⟩,rest⟩:=r
  obtain rfl:h2=h':=k
  cases c with
  | own t' d =>
   have ⟨d',hd,h⟩:=bind_some (show (mF t' (.sl E t) d).bind _=some q from h)
   obtain ⟨e,rfl⟩:=mG hd
   cases ae h
   subst e
   exact ⟨p,Kw⟩
  | _=>cases h
 | val v =>
  have ⟨h1,h⟩:=aj (show bw (isNil v) _=some q from h)
  cases ae h
  refine ⟨List.Perm.refl _,?_⟩
  rw[l8 h1]
  exact Tt
 | _=>cases h
theorem xO {E:TypeId} {t:Ty} {x:LV} {chs:List Ent} {q:List t.den×List Ent×List Ent} (h:ua E t x chs=some q):chs.Perm (q.2.1++q.2.2):=by
 cases x with
 | own h' =>
  have ⟨r,hr,h⟩:=bind_some (show (pull h' chs).bind _=some q from h)
  grind[fh,bind_some,mF,bind,ae]
 | val v =>
  have ⟨h1,h⟩:=aj (show bw (isNil v) _=some q from h)
  grind[ae,List.Perm.refl]
 | _=>cases h
theorem xP {T E:TypeId} {t:Ty} {x:LV} {chs:List Ent} {q:Tr t.den×List Ent×List Ent} (h:xM T E t x chs=some q):chs.Perm (q.2.1++q.2.2):=by
 unfold xM at h
 split at h
 ·have ⟨r,hr,h⟩:=bind_some h
  have ⟨p,k⟩:=fh hr
  split at h
  ·have ⟨d',hd,h⟩:=bind_some h
   grind
  grind
 ·have ⟨d,hd,h⟩:=bind_some h
  grind[ae,List.Perm.refl]
theorem ub {J:Hp} {α:Type} {R:Rep α} (hc:Cpy R R) {c:List Value} {x:α} (h:R.rd J c x):Bun J [] R c x:=fun w F k=>by
 rw[show F= [] from k];exact hc h
theorem KR {T E:TypeId} {t:Ty} {x:LV} {chs:List Ent} {q:Tr t.den×List Ent×List Ent} (h:xM T E t x chs=some q) {P:Program} {w0:World} {J:Hp} {θ:Th} {n:Nat} (hx:x.ok P w0 J θ n):Bun J (q.2.1.map (toCh P θ)) (Ty.tree T E t).rep [x.v θ] q.1:=by
 unfold xM at h
 split at h
 ·rename_i h'
  have ⟨r,hr,h⟩:=bind_some h
  have ⟨p,k⟩:=fh hr
  have ⟨⟨h2,ver,c⟩,rest⟩:=r
  obtain rfl:h2=h':=k
  cases c with
  | own t' d =>
   have ⟨d',hd,h⟩:=bind_some (show (mF t' (.tree T E t) d).bind _=some q from h)
   obtain ⟨e,rfl⟩:=mG hd
   cases ae h
   subst e
   exact Kw
  | _=>cases h
 ·have ⟨d,hd,h⟩:=bind_some h
  cases ae h
  exact ub O3 (Fm hd hx)
theorem gT {P:Program} {w0:World} {J:Hp} {θ:Th} {n:Nat} : ∀ {t:Ty} {cs:List LV} {chs:List Ent} {r:Took t},cy t cs chs=some r->(∀x∈cs,x.ok P w0 J θ n)->
  chs.Perm (r.used++r.rest)/\ ∃c1,cs=c1++r.cells/\Bun J (r.used.map (toCh P θ)) t.rep (c1.map (·.v θ)) r.d:=by
 intro t
 induction t with
 | prod a b iha ihb =>
  intro cs chs r h hc
  have ⟨x,hx,h⟩:=bind_some (show (cy a cs chs).bind _=some r from h)
  have ⟨y,hy,h⟩:=bind_some h
  cases ae h
  obtain ⟨p1,c1,rfl,k1⟩:=iha hx hc
  have ⟨p2,c2,e2,k2⟩:=ihb hy fun z hz=>hc z (aX _ hz)
  refine ⟨by rw[aD];exact p1.trans (p2.append_left _),c1++c2,by grind,?_⟩
  rw[aM,aM]
  exact OY k1 k2
 | sl E t ih =>
  intro cs chs r h hc
  cases cs with
  | nil=>cases h
  | cons x l =>
   have ⟨q,hq,h⟩:=bind_some (show (ua E t x chs).bind _=some r from h)
   cases ae h
   have ⟨p,k⟩:=xN hq P J θ
   exact ⟨p,[x],rfl,k⟩
 | fro t ih =>
  intro cs chs r h hc
  have ⟨x,hx,h⟩:=bind_some (show (dk t cs).bind _=some r from h)
  cases ae h
  have ⟨c1,e,k⟩:=gm hx hc
  exact ⟨List.Perm.refl _,c1,e,Wp k⟩
 | wr t ih =>
  intro cs chs r h hc
  have ⟨x,hx,h⟩:=bind_some (show (cy t cs chs).bind _=some r from h)
  cases ae h
  exact ih hx hc
 | bag t ih =>
  intro cs chs r h hc
  have h:(match cy t cs chs with
   | some x=>some ⟨x.d,x.cells,x.used,x.rest⟩
   | none=>(dk t cs).bind fun x=>some ⟨x.1,x.2,[],chs⟩:Option (Took (.bag t)))=some r:=by
   rw[<-h];rfl
  cases hx:cy t cs chs with
  | some x =>
   rw[hx] at h
   cases ae h
   have ⟨p,c1,e,k⟩:=ih hx hc
   exact ⟨p,c1,e,TM k⟩
  | none =>
   rw[hx] at h
   obtain ⟨x,hx2,h⟩:=bind_some h
   cases ae h
   obtain ⟨c1,e,k⟩:=gm hx2 hc
   exact ⟨List.Perm.refl _,c1,e,fun w F hs=>by
    have hs:F= []:=hs
    subst hs
    exact G0 k⟩
 | tree T E t ih =>
  intro cs chs r h hc
  cases cs with
  | nil=>cases h
  | cons x l =>
   have ⟨q,hq,h⟩:=bind_some (show (xM T E t x chs).bind _=some r from h)
   cases ae h
   exact ⟨xP hq,[x],rfl,KR hq (hc x (by simp))⟩
 | int k =>
  intro cs chs r h hc
  have ⟨x,hx,h⟩:=bind_some (show (dk _ cs).bind _=some r from h)
  cases ae h
  have ⟨c1,e,k⟩:=gm hx hc
  exact ⟨List.Perm.refl _,c1,e,ub tR k⟩
 | bool =>
  intro cs chs r h hc
  have ⟨x,hx,h⟩:=bind_some (show (dk _ cs).bind _=some r from h)
  cases ae h
  have ⟨c1,e,k⟩:=gm hx hc
  exact ⟨List.Perm.refl _,c1,e,ub GW k⟩
 | str =>
  intro cs chs r h hc
  have ⟨x,hx,h⟩:=bind_some (show (dk _ cs).bind _=some r from h)
  cases ae h
  have ⟨c1,e,k⟩:=gm hx hc
  exact ⟨List.Perm.refl _,c1,e,ub Kq k⟩
 | raw =>
  intro cs chs r h hc
  cases (show none=some r from h)
theorem eW: ∀ {t:Ty} {cs:List LV} {chs:List Ent} {r:Took t},cy t cs chs=some r->chs.Perm (r.used++r.rest):=by
 intro t
 induction t with
 | prod a b iha ihb =>
  intro cs chs r h
  have ⟨x,hx,h⟩:=bind_some (show (cy a cs chs).bind _=some r from h)
  have ⟨y,hy,h⟩:=bind_some h
  cases ae h
  exact (by rw[aD];exact (iha hx).trans ((ihb hy).append_left _))
 | sl E t ih =>
  intro cs chs r h
  cases cs with
  | nil=>cases h
  | cons x l =>
   have ⟨q,hq,h⟩:=bind_some (show (ua E t x chs).bind _=some r from h)
   grind[ae,xO]
 | fro t ih =>
  intro cs chs r h
  have ⟨x,hx,h⟩:=bind_some (show (dk t cs).bind _=some r from h)
  grind[ae,List.Perm.refl]
 | wr t ih =>
  intro cs chs r h
  have ⟨x,hx,h⟩:=bind_some (show (cy t cs chs).bind _=some r from h)
  grind
 | bag t ih =>
  intro cs chs r h
  have h:(match cy t cs chs with
   | some x=>some ⟨x.d,x.cells,x.used,x.rest⟩
   | none=>(dk t cs).bind fun x=>some ⟨x.1,x.2,[],chs⟩:Option (Took (.bag t)))=some r:=by
   rw[<-h];rfl
  cases hx:cy t cs chs with
  | some x =>
   rw[hx] at h
   cases ae h
   exact ih hx
  | none =>
   rw[hx] at h
   obtain ⟨x,hx2,h⟩:=bind_some h
   cases ae h
   exact List.Perm.refl _
 | tree T E t ih =>
  intro cs chs r h
  cases cs with
  | nil=>cases h
  | cons x l =>
   have ⟨q,hq,h⟩:=bind_some (show (xM T E t x chs).bind _=some r from h)
   grind[ae,xP]
 | int k =>
  intro cs chs r h
  have ⟨x,hx,h⟩:=bind_some (show (dk _ cs).bind _=some r from h)
  grind[ae,List.Perm.refl]
 | bool =>
  intro cs chs r h
  have ⟨x,hx,h⟩:=bind_some (show (dk _ cs).bind _=some r from h)
  grind[ae,List.Perm.refl]
 | str =>
  intro cs chs r h
  have ⟨x,hx,h⟩:=bind_some (show (dk _ cs).bind _=some r from h)
  grind[ae,List.Perm.refl]
 | raw =>
  intro cs chs r h
  cases (show none=some r from h)
section
variable {Y:Type} (tt:TT) (s:Sg) (k:Res->Option Y)
def ZP (T:TypeId) (x:Operand):Option Y:=(opd s x).bind fun v=>(kz v).bind fun cs=>k ⟨[],[],s.chs,[(⟨s.nxt,[]⟩,.blk T cs)],.one (.ptr ⟨s.nxt,[]⟩ 0)⟩
def RS (T:TypeId):Option Y:=(td tt T).bind fun d=>match d.fz with
 | true=>k ⟨[],[],s.chs,[(⟨s.nxt,[]⟩,.blk T [.val .nilFunc])],.one (.ptr ⟨s.nxt,[]⟩ 0)⟩
 | false=>d.bytes.bind fun _=>k ⟨[],[],s.chs,[(⟨s.nxt,[]⟩,.blk T ((zeroCells d.ty).map .val))],.one (.ptr ⟨s.nxt,[]⟩ 0)⟩
def YY (agg:Bool) (cs:List LV):Option AV:=match agg with
 | true=>some (.agg cs)
 | false=>match cs with
  | [x] =>some (.one x)
  | _=>none
def RT (T:TypeId) (x:Operand):Option Y:=(td tt T).bind fun d=>match opd s x with
 | some (.one (.ptr h off))=>(pj h s.chs).bind fun b=>bw (Nat.beq ((b.cells.drop off).take d.n).length d.n) ((YY d.agg ((b.cells.drop off).take d.n)).bind fun v=>k ⟨[b.ent h],[],b.rest,[],v⟩)
 | _=>none
def KS (T:TypeId) (x y:Operand):Option Y:=(td tt T).bind fun d=>match opd s x with
 | some (.one (.ptr h off))=>(opd s y).bind fun v=>(kz v).bind fun cs=>(pj h s.chs).bind fun b=>bw (Nat.beq cs.length d.n&&Nat.ble (off+d.n) b.cells.length) (k ⟨[],[b.ent h],b.rest,[(h,.blk b.T (b.cells.take off++cs++b.cells.drop (off+cs.length)))],.any ⟨s.nxt,[]⟩⟩)
 | _=>none
def Wx (T:TypeId) (x:Operand):Option Y:=(td tt T).bind fun d=>match d.el,opd s x with
 | some _,some (.one (.own h))=>(rowOf h s.chs).bind fun r=>k ⟨[r.ent h],[],r.rest,[],.one (.val (.int .i64 (r.xs.length:Int)))⟩
 | _,_=>none
def KT (T:TypeId) (x i:Operand):Option Y:=(td tt T).bind fun d=>match d.el,opd s x,opd s i with
 | some E,some (.one (.own h)),some (.one (.val (.int .i64 i)))=>(rowOf h s.chs).bind fun r=>(td tt E).bind fun e=>bw (Nat.beq e.n r.t.size) ((aK r.xs i).bind fun a=>k ⟨[r.ent h],[],r.rest,[],.elo h r.ver r.E r.t r.xs a i 0⟩)
 | _,_,_=>none
def RU (T:TypeId) (x:Operand):Option Y:=(td tt T).bind fun d=>match opd s x with
 | some (.elo h ver E t xs a i off)=>(rowOf h s.chs).bind fun r=>bw (Nat.beq r.ver ver) ((vq d.agg t off d.n).bind fun p=>match p.ty.sh with
  | true=>bw (p.ty.isProd==d.agg) (k ⟨[r.ent h],[],r.rest,[],KJ s.nxt p.ty (p.get a)⟩)
  | false=>bw (Nat.beq p.ty.size 1 && !d.agg) (k ⟨[],[r.ent h],r.rest,[(⟨s.nxt,[]⟩,.own p.ty (p.get a)),(h,.hole ver (.sl E t) xs p.ty (p.get a) (fun y=>xs.set i.toNat (p.set a y)) i t.size off (.own ⟨s.nxt,[]⟩))],.one (.own ⟨s.nxt,[]⟩)⟩))
 | _=>none
def KU (T:TypeId) (x y:Operand):Option Y:=(td tt T).bind fun d=>match opd s x with
 | some (.elo h ver E t xs a i off)=>(opd s y).bind fun v=>(kz v).bind fun cs=>(rowOf h s.chs).bind fun r=>bw (Nat.beq r.ver ver&&Nat.beq cs.length d.n) ((vq d.agg t off d.n).bind fun p=>match t.sh with
  | true=>(dk p.ty cs).bind fun b=>bw b.2.isEmpty (k ⟨[],[r.ent h],r.rest,[(h,.own (.sl E t) (xs.set i.toNat (p.set a b.1)))],.any ⟨s.nxt,[]⟩⟩)
  | false=>(cy p.ty cs r.rest).bind fun q=>bw q.cells.isEmpty (k ⟨[],r.ent h::q.used,q.rest,[(h,.own (.sl E t) (xs.set i.toNat (p.set a q.d)))],.any ⟨s.nxt,[]⟩⟩))
 | _=>none
end
section
variable {Y:Type} {tt:TT} {s:Sg} {k:Res->Option Y} {P:Program} {w0:World} {o:Oper} {res:Y} {x y:Operand}
theorem tc {I:Hp} {ev:Operand->Value} {α:Type} {R:Rep α} {E:TypeId} {v:Value} {xs:List α} {fact:Value->Prop} (h:Hd v xs.length->OpT P I w0 o ev [] fact (fun _=>[])):OpT P I w0 o ev [Ch.own (aw E R) [v] xs] fact (fun _=>[Ch.own (aw E R) [v] xs]):=
 fun w C hs=>h (hs.hd 0 rfl).1 w (Ch.own (aw E R) [v] xs::C) hs
theorem cW {θ:Th} {n:Nat} {v:Value} :hv (upd θ n v) ⟨n,[]⟩=v:=fq
theorem TY {T:TypeId} (ho:o.op= .box T x) (h:ZP s k T x=some res):Oks P w0 s o k res:=by
 have ⟨v,hv',h⟩:=bind_some h
 have ⟨cs,hcs,h⟩:=bind_some h
 refine ⟨_,h,by simp,aL rfl,fun J θ hf=>?_⟩
 have ⟨h1,h2⟩:=iy hcs (bu hf hv')
 refine OpT.weak (Te (l:=cs.map (·.v θ)) (aC hv') h2 ho) (fun v hpt=>⟨au _,?_,fun g hg=>?_⟩) (fun v hpt=>?_)
 ·show Value.pointer (some ⟨bk (hv _ ⟨s.nxt,[]⟩),0,none⟩)=v
  grind[cW,Fe]
 ·cases ak hg
  exact ⟨au _,au _,fun x hx=>LV.ok_same Same.upd (Nat.le_succ _) (h1 x hx) Hp.le.rfl⟩
 ·show [Ch.blk (bk v) _ T] = [Ch.blk (bk (hv _ ⟨s.nxt,[]⟩)) (cs.map _) T]
  rw[cW,gB Same.upd h1]
theorem KV (hT:TTok P tt) {T:TypeId} (ho:o.op= .alloc T) (h:RS tt s k T=some res):Oks P w0 s o k res:=by
 have ⟨d,hd,h⟩:=bind_some h
 split at h
 ·rename_i hfz
  have ⟨b,hb⟩:=(hT.get hd).fz hfz
  refine ⟨_,h,by simp,aL rfl,fun J θ hf=>?_⟩
  refine OpT.weak (C2 (l:=[.nilFunc]) hb rfl ho) (fun v hpt=>⟨au _,?_,fun g hg=>?_⟩) (fun v hpt=>?_)
  ·show Value.pointer (some ⟨bk (hv _ ⟨s.nxt,[]⟩),0,none⟩)=v
   grind[cW,Fe]
  ·cases ak hg
   refine ⟨au _,au _,fun x hx=>?_⟩
   cases ak hx
   rfl
  ·show [Ch.blk (bk v) _ T] = [Ch.blk (bk (hv _ ⟨s.nxt,[]⟩)) _ T]
   rw[cW];rfl
 have ⟨z,hz,h⟩:=bind_some h
 obtain ⟨zv,hz1,hz2,-⟩:=(hT.get hd).zero z hz
 refine ⟨_,h,by simp,aL rfl,fun J θ hf=>?_⟩
 refine OpT.weak (C2 (l:=zeroCells d.ty) hz1 hz2 ho) (fun v hpt=>⟨au _,?_,fun g hg=>?_⟩) (fun v hpt=>?_)
 ·show Value.pointer (some ⟨bk (hv _ ⟨s.nxt,[]⟩),0,none⟩)=v
  grind[cW,Fe]
 ·cases ak hg
  refine ⟨au _,au _,fun x hx=>?_⟩
  obtain ⟨u,hu,rfl⟩:=List.mem_map.1 hx
  exact G6 _ u hu
 ·show [Ch.blk (bk v) _ T] = [Ch.blk (bk (hv _ ⟨s.nxt,[]⟩)) (((zeroCells d.ty).map LV.val).map _) T]
  rw[cW,List.map_map]
  congr 2
  exact (List.map_id' _).symm
theorem KW {agg:Bool} {cs:List LV} {v:AV} (h:YY agg cs=some v) {P:Program} {w0:World} {J:Hp} {θ:Th} {n:Nat} {chs:List Ent} (hc: ∀x∈cs,x.ok P w0 J θ n):v.ok P w0 J θ n chs/\(if agg then Value.agg (cs.map (·.v θ)).toArray else (cs.map (·.v θ)).getD 0 undef)=v.v θ:=by
 cases agg with
 | true =>
  cases ae (show some (AV.agg cs)=some v from h)
  exact ⟨hc,rfl⟩
 | false =>
  cases cs with
  | nil=>cases h
  | cons x l =>
   cases l with
   | nil =>
    cases ae (show some (AV.one x)=some v from h)
    exact ⟨hc x (by simp),rfl⟩
   | cons _ _=>cases h
theorem gU {e:Ent} {r:List Ent} {J:Hp} {θ:Th} (hf:Fine P w0 J θ s) (hp:s.chs.Perm (e::r)):okE P w0 J θ s.nxt s.chs e:=hf.chs e (hp.mem_iff.2 (by simp))
theorem ma {e:Ent} {r l:List Ent} (hp:l.Perm (e::r)):l.Perm ([e] ++ [] ++r):=hp
theorem zQ {e:Ent} {r l:List Ent} (hp:l.Perm (e::r)):l.Perm ([] ++ [e] ++r):=hp
theorem KX (hT:TTok P tt) {T:TypeId} (ho:o.op= .load T x) (h:RT tt s k T x=some res):Oks P w0 s o k res:=by
 have ⟨d,hd,h⟩:=bind_some h
 split at h
 ·rename_i hh off hx
  have ⟨b,hb,h⟩:=bind_some h
  have ⟨hl,h⟩:=aj h
  have ⟨v,hv',h⟩:=bind_some h
  have hp:=jq hb
  have hl:=aq hl
  refine ⟨_,h,ma hp,aL rfl,fun J θ hf=>?_⟩
  have hc: ∀z∈(b.cells.drop off).take d.n,z.ok P w0 J θ s.nxt:=fun z hz=>(gU hf hp).2.2 z (List.mem_of_mem_drop (List.mem_of_mem_take hz))
  have ⟨k1,k2⟩:=KW (chs:=s.chs) hv' hc
  have hdk:=hT.get hd
  refine OpT.weak (C3 (l:=b.cells.map (·.v θ)) (E:=b.T) hdk.ti ho (aC hx) hdk.one (by simp_all) (by grind) k2) (fun u hu=>?_) (fun u hu=>rfl)
  subst hu
  exact ⟨AV.ok_same Same.upd (Nat.le_succ _) (Res.newer (ma hp) (aL rfl J θ hf)) k1 Hp.le.rfl,AV.v_same Same.upd k1,fun g hg=>by cases hg⟩
 grind
theorem IW (hT:TTok P tt) {T:TypeId} (ho:o.op= .store T x y) (h:KS tt s k T x y=some res):Oks P w0 s o k res:=by
 have ⟨d,hd,h⟩:=bind_some h
 split at h
 ·rename_i hh off hx
  have ⟨v,hv',h⟩:=bind_some h
  have ⟨cs,hcs,h⟩:=bind_some h
  have ⟨b,hb,h⟩:=bind_some h
  have ⟨hl,h⟩:=aj h
  rw[ah] at hl
  have hl1:=aq hl.1
  have hl2:=bI hl.2
  have hp:=jq hb
  refine ⟨_,h,zQ hp,aL rfl,fun J θ hf=>?_⟩
  have ⟨c1,c2⟩:=iy hcs (bu hf hv')
  have hok:=gU hf hp
  have hdk:=hT.get hd
  have hall: ∀z∈b.cells.take off++cs++b.cells.drop (off+cs.length),z.ok P w0 J θ s.nxt:=fun z hz=>by
   rcases aH hz with hz | hz
   ·rcases aH hz with hz | hz
    ·exact hok.2.2 z (List.mem_of_mem_take hz)
    grind
   ·exact hok.2.2 z (List.mem_of_mem_drop hz)
  refine OpT.weak (Br (l:=b.cells.map (·.v θ)) (E:=b.T) hdk.ti ho (aC hx) (aC hv') c2 (by grind) (Bz c1) (by grind)) (fun u hu=>⟨au _,cW,fun g hg=>?_⟩) (fun u hu=>?_)
  ·cases ak hg
   exact ⟨aN hok.1,au _,fun z hz=>LV.ok_same Same.upd (Nat.le_succ _) (hall z hz) Hp.le.rfl⟩
  ·show [Ch.blk (bk (hv θ hh)) _ b.T] = [Ch.blk (bk (hv (upd θ s.nxt u) hh)) _ b.T]
   rw[show hv (upd θ s.nxt u) hh=hv θ hh from aS Same.upd hok.1,Ai _ _ _ (by grind),gB Same.upd hall,aM,aM,List.map_take,List.map_drop,List.length_map]
 grind
theorem Pd (hT:TTok P tt) {T:TypeId} (ho:o.op= .call { callee:=.builtin .len,args:= #[x],argTypes:= #[T] }) (h:Wx tt s k T x=some res):Oks P w0 s o k res:=by
 have ⟨d,hd,h⟩:=bind_some h
 split at h
 ·rename_i E hh he hx
  have ⟨r,hr,h⟩:=bind_some h
  obtain ⟨hp,-⟩:=bf hr
  refine ⟨_,h,ma hp,aL rfl,fun J θ hf=>OpT.weak (tc fun hD=>Ag hD ((hT.get hd).el _ he) ho (aC hx)) (fun u hu=>?_) (fun u hu=>rfl)⟩
  subst hu
  exact ⟨Eq.refl true,rfl,fun g hg=>by cases hg⟩
 grind
theorem IX (hT:TTok P tt) {T:TypeId} {i:Operand} (ho:o.op= .indexAddr T x i) (h:KT tt s k T x i=some res):Oks P w0 s o k res:=by
 have ⟨d,hd,h⟩:=bind_some h
 split at h
 ·rename_i E hh j he hx hi
  have ⟨r,hr,h⟩:=bind_some h
  have ⟨e,hE,h⟩:=bind_some h
  have ⟨hn,h⟩:=aj h
  have ⟨a,ha,h⟩:=bind_some h
  have hn:=aq hn
  have ⟨hp,hno⟩:=bf hr
  refine ⟨_,h,ma hp,aL rfl,fun J θ hf=>OpT.weak (tc (fact:=(· =pt (hv θ hh) (j.toNat*r.t.size+0))) fun hD=>?_) (fun u hu=>?_) (fun u hu=>rfl)⟩
  ·have:=qv (I:=J) (w0:=w0) hD ((hT.get hd).el _ he) (hT.get hE).ti ho (aC hx) (aC hi) (Bp ha)
   rw[hn] at this
   exact this
  ·have hok:=gU hf hp
   refine ⟨⟨aN hok.1,ha,(tZ hr hok.2.1).newer (Res.newer (ma hp) (aL rfl J θ hf)) (Nat.le_succ _)⟩,?_,fun g hg=>by cases hg⟩
   rw[hu]
   show pt (hv (upd θ s.nxt _) hh) _=pt (hv θ hh) _
   rw[show hv (upd θ s.nxt _) hh=hv θ hh from aS Same.upd hok.1]
 grind
theorem vr {h:Hdr} {ver:Nat} {E:TypeId} {t:Ty} {xs:List t.den} {a:t.den} {i:Int} {off:Nat} {J:Hp} {θ:Th} {r:Row} (hr:rowOf h s.chs=some r) (hv:r.ver=ver) (hm:AV.ok P w0 J θ s.nxt s.chs (.elo h ver E t xs a i off)):r.ent h=(h,ver,.own (.sl E t) xs):=by
 obtain ⟨hp,-⟩:=bf hr
 have:=hm.2.2.2 (r.ent h) (hp.mem_iff.2 (by simp)) _ ⟨rfl,.inl ⟨hv,rfl⟩⟩
 show (h,r.ver,Chk.own (.sl r.E r.t) r.xs)=_
 rw[hv,show Chk.own (.sl r.E r.t) r.xs=_ from this]
theorem KY (hT:TTok P tt) {T:TypeId} (ho:o.op= .load T x) (h:RU tt s k T x=some res):Oks P w0 s o k res:=by
 have ⟨d,hd,h⟩:=bind_some h
 split at h
 ·rename_i hh ver E t xs a i off hx
  have ⟨r,hr,h⟩:=bind_some h
  have ⟨hv',h⟩:=aj h
  have hv':=aq hv'
  have ⟨p,hp',h⟩:=bind_some h
  have hpo:=xg _ _ _ _ hp'
  obtain ⟨hp,-⟩:=bf hr
  have hdk:=hT.get hd
  split at h
  ·rename_i hsh
   have ⟨hg,h⟩:=aj h
   have hg:p.ty.isProd=d.agg:=by simpa using hg
   refine ⟨_,h,ma hp,aL rfl,fun J θ hf=>?_⟩
   have ho':=bu hf hx
   have he:=vr hr hv' ho'
   have:=BC (P:=P) (I:=J) (w0:=w0) (o:=o) (T:=T) (E:=E) (Ty.sh_ok hsh) ho'.2.1 hpo.lens hdk.ti (p.ty.rep_size.trans hpo.size) hdk.one ho (aC (θ:=θ) hx) t.rep_size
   rw[he]
   refine OpT.weak this (fun u hu=>?_) (fun u hu=>rfl)
   have ⟨c,h1,h2⟩:=hu
   rw[<-hg] at h2
   have:=oC (P:=P) (w0:=w0) (J:=J) (θ:=upd θ s.nxt u) (id:=s.nxt) (n:=s.nxt+1) (chs:=Res.chs ⟨[r.ent hh],[],r.rest,[],KJ s.nxt p.ty (p.get a)⟩ s.nxt) (au _) fq p.ty (p.get a) c h1 h2
   grind
  ·have ⟨hg,h⟩:=aj h
   rw[ah] at hg
   have hg1:=aq hg.1
   have hg2:d.agg=false:=by simpa using hg.2
   refine ⟨_,h,zQ hp,fun J θ hf g hg ver' c hs=>?_,fun J θ hf=>?_⟩
   ·rcases az hg with rfl | hg
    ·exact hs.elim
    ·cases ak hg
     obtain ⟨rfl,rfl⟩:=hs
     exact ⟨r.ent hh,hp.mem_iff.2 (by simp),by rw[vr hr hv' (bu hf hx)];exact ⟨rfl,.inl ⟨rfl,rfl⟩⟩⟩
   have ho':=bu hf hx
   have he:=vr hr hv' ho'
   have hok:=gU hf hp
   have hti:=hdk.ti
   rw[hg2,<-hpo.size,hg1] at hti
   have:=BD (P:=P) (I:=J) (w0:=w0) (o:=o) (T:=T) (E:=E) ho'.2.1 hpo.lens hti (p.ty.rep_size.trans hg1) ho (aC (θ:=θ) hx) t.rep_size
   rw[he]
   have hset:xs.set i.toNat (p.set a (p.get a))=xs:=by
    have ⟨hlt,e⟩:=List.getElem?_eq_some_iff.1 (nZ ho'.2.1)
    rw[hpo.eta,<-e];exact List.set_getElem_self hlt
   have hver:ver<s.nxt:=by rw[<-hv'];exact hok.2.1
   refine OpT.weak this (fun u hu=>⟨⟨au _,by rw[cW];exact hu⟩,cW,fun g hg=>?_⟩) (fun u hu=>?_)
   ·rcases az hg with rfl | hg
    ·exact ⟨au _,au _,trivial⟩
    ·cases ak hg
     refine ⟨aN hok.1,au _,⟨au _,by rw[cW];exact hu⟩,hver,hset,fun l hl=>?_⟩
     cases LV.own.inj hl
     refine ⟨au _,fun e he c hs=>?_⟩
     rcases aH he with he | he
     ·obtain ⟨g,hg,rfl⟩:=List.mem_map.1 he
      rcases az hg with rfl | hg
      ·rcases hs.2 with h1 | h1
       ·grind
       ·exact h1.elim
      ·cases ak hg
       have:=hok.1
       rw[show hh=(⟨s.nxt,[]⟩:Hdr) from hs.1] at this
       exact absurd this (Nat.lt_irrefl _)
     ·have he:e∈s.chs:=hp.mem_iff.2 (ba _ (by grind))
      have hek:=hf.chs e he
      have:=hek.1
      rw[hs.1] at this
      grind
   ·show [Ch.own p.ty.rep [u] (p.get a),Ch.gap _ [hv θ hh] p.ty.rep _ (ptB (hv θ hh)) (ptO (hv θ hh)+_) u] = [Ch.own p.ty.rep [hv (upd θ s.nxt u) ⟨s.nxt,[]⟩] (p.get a),Ch.gap _ [hv (upd θ s.nxt u) hh] p.ty.rep _ (ptB (hv (upd θ s.nxt u) hh)) (ptO (hv (upd θ s.nxt u) hh)+_) (hv (upd θ s.nxt u) ⟨s.nxt,[]⟩)]
    rw[cW,show hv (upd θ s.nxt u) hh=hv θ hh from aS Same.upd hok.1];rfl
 grind
theorem IY (hT:TTok P tt) {T:TypeId} (ho:o.op= .store T x y) (h:KU tt s k T x y=some res):Oks P w0 s o k res:=by
 have ⟨d,hd,h⟩:=bind_some h
 split at h
 ·rename_i hh ver E t xs a i off hx
  have ⟨v,hv',h⟩:=bind_some h
  have ⟨cs,hcs,h⟩:=bind_some h
  have ⟨r,hr,h⟩:=bind_some h
  have ⟨hg,h⟩:=aj h
  rw[ah] at hg
  have hver:=aq hg.1
  have hcl:=aq hg.2
  have ⟨p,hp',h⟩:=bind_some h
  have hpo:=xg _ _ _ _ hp'
  obtain ⟨hp,-⟩:=bf hr
  have hdk:=hT.get hd
  split at h
  ·rename_i hsh
   have ⟨b,hb,h⟩:=bind_some h
   have ⟨hbe,h⟩:=aj h
   refine ⟨_,h,zQ hp,aL rfl,fun J θ hf=>?_⟩
   have ho':=bu hf hx
   have he:=vr hr hver ho'
   have hok:=gU hf hp
   have ⟨c1,c2⟩:=iy hcs (bu hf hv')
   have ⟨cc,e1,e2⟩:=gm (J:=J) hb c1
   rw[List.isEmpty_iff.1 hbe,List.append_nil] at e1
   subst e1
   have:=C6 (P:=P) (I:=J) (w0:=w0) (o:=o) (T:=T) (E:=E) (Ty.sh_ok hsh) (Ty.cpy hsh) ho'.2.1 hpo.upd hdk.ti ho (aC (θ:=θ) hx) (aC hv') c2 (Bz c1) (by grind) t.rep_size hpo.fit e2
   rw[he]
   refine OpT.weak this (fun u hu=>⟨au _,cW,fun g hg=>?_⟩) (fun u hu=>?_)
   ·cases ak hg
    exact ⟨aN hok.1,au _,trivial⟩
   ·show [Ch.own _ [hv θ hh] _] = [Ch.own _ [hv (upd θ s.nxt u) hh] _]
    rw[show hv (upd θ s.nxt u) hh=hv θ hh from aS Same.upd hok.1];rfl
  ·have ⟨q,hq,h⟩:=bind_some h
   have ⟨hbe,h⟩:=aj h
   refine ⟨_,h,(hp.trans ((eW hq).cons _)),aL rfl,fun J θ hf=>?_⟩
   have ho':=bu hf hx
   have he:=vr hr hver ho'
   have hok:=gU hf hp
   have ⟨c1,c2⟩:=iy hcs (bu hf hv')
   obtain ⟨-,cc,e1,e2⟩:=gT (J:=J) (θ:=θ) hq c1
   rw[List.isEmpty_iff.1 hbe,List.append_nil] at e1
   subst e1
   have:=tV (P:=P) (I:=J) (w0:=w0) (o:=o) (T:=T) (E:=E) e2 ho'.2.1 hpo.updO hdk.ti ho (aC (θ:=θ) hx) (aC hv') c2 (Bz c1) (by grind) (p.ty.rep_size.trans hpo.size) t.rep_size hpo.fit
   rw[he]
   refine OpT.weak this (fun u hu=>⟨au _,cW,fun g hg=>?_⟩) (fun u hu=>?_)
   ·cases ak hg
    exact ⟨aN hok.1,au _,trivial⟩
   ·show [Ch.own _ [hv θ hh] _] = [Ch.own _ [hv (upd θ s.nxt u) hh] _]
    rw[show hv (upd θ s.nxt u) hh=hv θ hh from aS Same.upd hok.1];rfl
 grind
end
end R
namespace R
open Go.RowKit
open D
def Pe (pl:List (Nat×Nat)) (cells:List LV):List (Nat×List LV)->Option (List LV)
 | [] =>some cells
 | (i,l)::rest=>(pl[i]?).bind fun q=>bw (Nat.beq l.length q.2&&Nat.ble (q.1+q.2) cells.length) (Pe pl (cells.take q.1++l++cells.drop (q.1+q.2)) rest)
theorem Ha {pl:List (Nat×Nat)} {θ:Th} : ∀ {ps:List (Nat×List LV)} {cells r:List LV},Pe pl cells ps=some r->Fc (pl[·]?) (cells.map (·.v θ)) (ps.map fun p=>(p.1,p.2.map (·.v θ)))=some (r.map (·.v θ))
 | [],cells,r,h=>by cases ae (show some cells=some r from h);rfl
 | (i,l)::ps,cells,r,h=>by
  have ⟨q,hq,h⟩:=bind_some (show (pl[i]?).bind _=some r from h)
  have ⟨hc,h⟩:=aj h
  have:=Ha (θ:=θ) h
  simp_all[List.map_cons,Fc,List.length_map,if_pos,aM,List.map_take,List.map_drop]
theorem Dh {pl:List (Nat×Nat)} {Q:LV->Prop} : ∀ {ps:List (Nat×List LV)} {cells r:List LV},Pe pl cells ps=some r->(∀x∈cells,Q x)->(∀p∈ps,∀x∈p.2,Q x)-> ∀x∈r,Q x
 | [],cells,r,h,hc,hp=>by cases ae (show some cells=some r from h);exact hc
 | (i,l)::ps,cells,r,h,hc,hp=>by
  have ⟨q,hq,h⟩:=bind_some (show (pl[i]?).bind _=some r from h)
  obtain ⟨-,h⟩:=aj h
  refine Dh h (fun x hx=>?_) fun p hp'=>hp p (by grind)
  rcases aH hx with hx | hx
  ·rcases aH hx with hx | hx
   ·grind
   simp_all
  grind
def partsOf (s:Sg):List (Nat×Operand)->Option (List (Nat×List LV))
 | [] =>some []
 | (i,x)::l=>(opd s x).bind fun v=>(kz v).bind fun cs=>(partsOf s l).bind fun r=>some ((i,cs)::r)
theorem oD {P:Program} {w0:World} {s:Sg} {J:Hp} {θ:Th} (hf:Fine P w0 J θ s): ∀ {l:List (Nat×Operand)} {ps:List (Nat×List LV)},partsOf s l=some ps->
  peq (l.map fun p=>(p.1,evL (envL θ s) p.2)) (ps.map fun p=>(p.1,p.2.map (·.v θ)))/\ ∀p∈ps,∀x∈p.2,x.ok P w0 J θ s.nxt
 | [],ps,h=>by cases ae (show some [] =some ps from h);exact ⟨trivial,fun p hp=>by cases hp⟩
 | (i,x)::l,ps,h=>by
  have ⟨v,hv',h⟩:=bind_some (show (opd s x).bind _=some ps from h)
  have ⟨cs,hcs,h⟩:=bind_some h
  have ⟨r,hr,h⟩:=bind_some h
  cases ae h
  have ⟨h1,h2⟩:=oD hf hr
  have ⟨c1,c2⟩:=iy hcs (bu hf hv')
  refine ⟨⟨rfl,by grind[aC],h1⟩,fun p hp=>?_⟩
  grind
structure Lits (t:Ty) where
 xs:List t.den
 used:List Ent
 rest:List Ent
def T0 (t:Ty):List (Nat×List LV)->Nat->Option (List t.den)
 | [],_=>some []
 | (i,cs)::l,j=>bw (Nat.beq i j) ((dk t cs).bind fun d=>bw d.2.isEmpty ((T0 t l (j+1)).bind fun r=>some (d.1::r)))
def Hb (t:Ty):List (Nat×List LV)->Nat->List Ent->Option (Lits t)
 | [],_,chs=>some ⟨[],[],chs⟩
 | (i,cs)::l,j,chs=>bw (Nat.beq i j&&Nat.beq cs.length t.size) ((cy t cs chs).bind fun d=>bw d.cells.isEmpty ((Hb t l (j+1) d.rest).bind fun r=>some ⟨d.d::r.xs,d.used++r.used,r.rest⟩))
section
variable {P:Program} {w0:World} {J:Hp} {θ:Th} {n:Nat} {t:Ty}
theorem Hc: ∀ {l:List (Nat×List LV)} {j:Nat} {xs:List t.den},T0 t l j=some xs->(∀p∈l,∀x∈p.2,x.ok P w0 J θ n)->l.map (·.1)=(List.range' j l.length)/\xs.length=l.length/\(∀p∈l,p.2.length=t.size)/\ ∀p,p∈(l.map fun p=>p.2.map (·.v θ)).zip xs->t.rep.rd J p.1 p.2
 | [],j,xs,h,hc=>by cases ae (show some [] =some xs from h);simp_all
 | (i,cs)::l,j,xs,h,hc=>by
  have ⟨hi,h⟩:=aj (show bw (Nat.beq i j) _=some xs from h)
  have ⟨d,hd,h⟩:=bind_some h
  have ⟨he,h⟩:=aj h
  have ⟨r,hr,h⟩:=bind_some h
  cases ae h
  have hi:=aq hi
  subst hi
  have ⟨c1,e1,e2⟩:=gm (J:=J) hd (hc (i,cs) (by simp))
  rw[List.isEmpty_iff.1 he,List.append_nil] at e1
  subst e1
  have ⟨h1,h2,h3,h4⟩:=Hc hr fun p hp=>hc p (by grind)
  refine ⟨by rw[List.map_cons,h1];rfl,by grind,fun p hp=>?_,fun p hp=>?_⟩
  ·rcases az hp with rfl | hp
   ·have:=Rep.rd_len _ e2
    rw[List.length_map,t.rep_size] at this;omega
   grind
  ·rcases az hp with rfl | hp
   ·exact e2
   ·exact h4 p hp
theorem xQ: ∀ {l:List (Nat×List LV)} {j:Nat} {chs:List Ent} {r:Lits t},Hb t l j chs=some r->chs.Perm (r.used++r.rest)
 | [],j,chs,r,h=>by cases ae (show some _=some r from h);rfl
 | (i,cs)::l,j,chs,r,h=>by
  have ⟨hi,h⟩:=aj (show bw (Nat.beq i j&&Nat.beq cs.length t.size) _=some r from h)
  have ⟨d,hd,h⟩:=bind_some h
  have ⟨he,h⟩:=aj h
  have ⟨q,hq,h⟩:=bind_some h
  cases ae h
  rw[aD]
  exact (eW hd).trans ((xQ hq).append_left _)
theorem Di: ∀ {l:List (Nat×List LV)} {j:Nat} {chs:List Ent} {r:Lits t},Hb t l j chs=some r->(∀p∈l,∀x∈p.2,x.ok P w0 J θ n)->l.map (·.1)=(List.range' j l.length)/\r.xs.length=l.length/\(∀p∈l,p.2.length=t.size)/\qy J (r.used.map (toCh P θ)) (C5 t.rep (l.map fun p=>p.2.map (·.v θ)) r.xs)
 | [],j,chs,r,h,hc=>by cases ae (show some _=some r from h);exact ⟨rfl,rfl,fun p hp=>(by cases hp),tU⟩
 | (i,cs)::l,j,chs,r,h,hc=>by
  have ⟨hi,h⟩:=aj (show bw (Nat.beq i j&&Nat.beq cs.length t.size) _=some r from h)
  have ⟨d,hd,h⟩:=bind_some h
  have ⟨he,h⟩:=aj h
  have ⟨q,hq,h⟩:=bind_some h
  cases ae h
  rw[ah] at hi
  have hcl:=aq hi.2
  have hi:=aq hi.1
  subst hi
  obtain ⟨-,c1,e1,e2⟩:=gT (J:=J) (θ:=θ) hd (hc (i,cs) (by simp))
  rw[List.isEmpty_iff.1 he,List.append_nil] at e1
  subst e1
  have ⟨h1,h2,h3,h4⟩:=Di hq fun p hp=>hc p (by grind)
  refine ⟨by rw[List.map_cons,h1];rfl,by grind,fun p hp=>?_,?_⟩
  ·grind
  ·rw[aM]
   exact qz e2 h4
end
section
variable {P:Program} {w0:World} {I:Hp} {o:Oper} {ev:Operand->Value} {s:Sg}
def RV (ev:Operand->Value) (θ:Th):List (Nat×Operand)->List (Nat×List LV)->List (Value×List Value)
 | p::l,q::m=>(ev p.2,q.2.map (·.v θ))::RV ev θ l m
 | _,_=>[]
theorem Fo {θ:Th} : ∀ {l:List (Nat×Operand)} {ps:List (Nat×List LV)} {j:Nat},peq (l.map fun p=>(p.1,ev p.2)) (ps.map fun p=>(p.1,p.2.map (·.v θ)))->ps.map (·.1)=List.range' j ps.length->
  l.map (fun p=>(p.1,ev p.2))=((RV ev θ l ps).zipIdx j).map (fun p=>(p.2,p.1.1))/\(RV ev θ l ps).length=ps.length/\(RV ev θ l ps).map (·.2)=ps.map (fun p=>p.2.map (·.v θ))/\ ∀u∈RV ev θ l ps,u.1.cells=u.2.toArray/\ ∃p∈ps,u.2.length=p.2.length
 | [],[],j,_,_=>⟨rfl,rfl,rfl,fun u hu=>by cases hu⟩
 | (i,x)::l,(i',cs)::ps,j,h,hj=>by
  have ⟨e1,e2,h⟩:=(show i=i'/\(ev x).cells=(cs.map (·.v θ)).toArray/\peq _ _ from h)
  have hj1:i'=j:=by
   have:=congrArg (fun l:List Nat=>l.head?) hj
   simpa [List.range'] using this
  have hj2:ps.map (·.1)=List.range' (j+1) ps.length:=by
   have:=congrArg List.tail hj
   simpa [List.range'] using this
  have ⟨h1,h2,h3,h4⟩:=Fo h hj2
  refine ⟨?_,by grind[RV],by show _::_=_::_;rw[h3],fun u hu=>?_⟩
  ·show (i,ev x)::_=(j,ev x)::_
   grind
  ·rcases az hu with rfl | hu
   ·simp_all
   grind
 | [],_::_,j,h,_=>h.elim
 | _::_,[],j,h,_=>h.elim
theorem T1 {α:Type} {R:Rep α} {E:TypeId} {xs:List α} {rn:List Ch} {fact:Value->Prop} {gv:Value->List Ch} (h:OpT P I w0 o ev rn fact (fun v=>Ch.own (aw E R) [v] xs::gv v)):OpT P I w0 o ev rn (fun v=>fact v/\v.oneCell'=true) (fun v=>Ch.own (aw E R) [v] xs::gv v):=
 OpT.weak (OpT.hdk (fun v=>v) 0 (fun v=>rfl) h) (fun v hv=>⟨hv.1,Hd.one hv.2⟩) fun v hv=>rfl
theorem good_row {rs ns rest:List Ent} {E:TypeId} {t:Ty} {xs:List t.den} (hp:s.chs.Perm (rs++ns++rest)) (hop: ∀J θ,Fine P w0 J θ s->OpT P J w0 o (evL (envL θ s)) ((rs++ns).map (toCh P θ)) (fun _=>True) (fun v=>Ch.own (Ty.sl E t).rep [v] xs::rs.map (toCh P θ))):Good P w0 s o ⟨rs,ns,rest,[(⟨s.nxt,[]⟩,.own (.sl E t) xs)],.one (.own ⟨s.nxt,[]⟩)⟩:=
 ⟨hp,aL rfl,fun J θ hf=>by
  have h1:=T1 (hop J θ hf)
  have h2:OpT P J w0 o (evL (envL θ s)) ((rs++ns).map (toCh P θ)) (fun v=>True/\v.oneCell'=true) (fun v=>rs.map (toCh P θ)++ [Ch.own (Ty.sl E t).rep [v] xs]):=
   fun w C hs=>(h1 w C hs).imp fun v w hv=>⟨hv.1,hv.2.perm (List.Perm.append_right C (List.perm_append_comm (l₁:=[_])))⟩
  refine OpT.weak h2 (fun v hv0=>⟨⟨au _,by grind[cW]⟩,cW,fun g hg=>?_⟩) (fun v hv0=>?_)
  ·cases ak hg
   exact ⟨au _,au _,trivial⟩
  ·show _=_++ [Ch.own _ [hv (upd θ s.nxt v) ⟨s.nxt,[]⟩] _]
   rw[cW]⟩
end
section
variable {Y:Type} (tt:TT) (an:List (Nat×Ty)) (s:Sg) (k:Res->Option Y)
def RW (T:TypeId) (parts:Array (Nat×Operand)):Option Y:=(td tt T).bind fun d=>d.place.bind fun pl=>d.bytes.bind fun _=>(partsOf s parts.toList).bind fun ps=>(Pe pl ((zeroCells d.ty).map .val) ps).bind fun r=>k (.pure s (.agg r))
def ZQ:List (Nat×Ty)->Nat->Ty->Ty
 | [],_,t=>t
 | (u,t')::l,d,t=>if Nat.beq u d then t' else ZQ l d t
def OL (d:Option Nat) (t:Ty):Ty:=match d with
 | none=>t
 | some d=>ZQ an d t
def newRow (E:TypeId) (t:Ty) (ns rest:List Ent) (xs:List t.den):Option Y:=k ⟨[],ns,rest,[(⟨s.nxt,[]⟩,.own (.sl E t) xs)],.one (.own ⟨s.nxt,[]⟩)⟩
def YZ (E : TypeId) (n : Nat) (t : Ty) (m : Nat) (l : List (Nat × Operand)) : Option Y := (partsOf s l).bind fun ps => bw (Nat.beq ps.length (m + 1) && Nat.beq t.size n && Nat.ble ((m + 1) * n) 16777216) (match t.sh with
    | true => (T0 t ps 0).bind fun xs => newRow s k E t [] s.chs xs
    | false => (Hb t ps 0 s.chs).bind fun r => newRow s k E t r.used r.rest r.xs)
def ZR (dst:Option Nat) (T:TypeId) (m:Nat) (parts:Array (Nat×Operand)):Option Y:=(td tt T).bind fun d=>d.el.bind fun E=>(td tt E).bind fun e=>match m with
 | 0=>bw parts.toList.isEmpty (newRow s k E (OL an dst e.ty) [] s.chs [])
 | m+1=>e.bytes.bind fun _=>YZ s k E e.n (OL an dst e.ty) m parts.toList
def Fp:Operand->Operand->Bool
 | .tmp t,.tmp u=>Nat.beq t u
 | .const (.int .i64 m),.const (.int .i64 n)=>match m,n with
  | .ofNat a,.ofNat b=>Nat.beq a b
  | _,_=>false
 | _,_=>false
def Wy (dst:Option Nat) (T:TypeId) (x y:Operand):Option Y:=(td tt T).bind fun d=>d.el.bind fun E=>(td tt E).bind fun e=>e.bytes.bind fun b=>match opd s x with
 | some (.one (.val (.int .i64 l)))=>bw (Fp x y&&Nat.beq e.ty.size e.n&&decide ((OL an dst e.ty).erase=e.ty.erase)) ((mkI b l (Bw (OL an dst e.ty))).bind fun xs=>newRow s k E (OL an dst e.ty) [] s.chs xs)
 | _=>none
end
section
variable {Y:Type} {tt:TT} {an:List (Nat×Ty)} {s:Sg} {k:Res->Option Y} {P:Program} {w0:World} {o:Oper} {res:Y} {x y:Operand}
theorem KZ (hT:TTok P tt) {T:TypeId} {parts:Array (Nat×Operand)} (ho:o.op= .build T parts) (h:RW tt s k T parts=some res):Oks P w0 s o k res:=by
 have ⟨d,hd,h⟩:=bind_some h
 have ⟨pl,hpl,h⟩:=bind_some h
 have ⟨b,hb,h⟩:=bind_some h
 have ⟨ps,hps,h⟩:=bind_some h
 have ⟨r,hr,h⟩:=bind_some h
 have hdk:=hT.get hd
 obtain ⟨z,hz1,hz2,-⟩:=hdk.zero b hb
 refine ⟨_,h,eF (fun J θ hf=>?_) fun J θ hf=>?_⟩
 ·have ⟨h1,h2⟩:=oD hf hps
  have h3:=Ha (θ:=θ) hr
  rw[List.map_map,show (zeroCells d.ty).map ((fun x:LV=>x.v θ) ∘ LV.val)=zeroCells d.ty from List.map_id' _] at h3
  exact Kt _ (hdk.place pl hpl) hz1 hz2 ho h1 h3
 ·have ⟨h1,h2⟩:=oD hf hps
  exact Dh hr (fun x hx=>by
   obtain ⟨u,hu,rfl⟩:=List.mem_map.1 hx
   exact G6 _ u hu) h2
theorem T2 (hT:TTok P tt) {T:TypeId} {m:Nat} {parts:Array (Nat×Operand)} (ho:o.op= .buildSlice T m parts) (h:ZR tt an s k o.dst T m parts=some res):Oks P w0 s o k res:=by
 have ⟨d,hd,h⟩:=bind_some h
 have ⟨E,hE,h⟩:=bind_some h
 have ⟨e,he,h⟩:=bind_some h
 have hdk:=hT.get hd
 have hek:=hT.get he
 cases m with
 | zero =>
  have ⟨hp,h⟩:=aj (show bw parts.toList.isEmpty _=some res from h)
  have hp0:parts= #[]:=by simpa using hp
  subst hp0
  exact ⟨_,h,good_row (rs:=[]) (by simp) fun J θ hf=>OQ (hdk.el E hE) hek.ti ho⟩
 | succ m =>
  have ⟨b,hb,h⟩:=bind_some (show e.bytes.bind _=some res from h)
  have ⟨ps,hps,h⟩:=bind_some h
  have ⟨hc,h⟩:=aj h
  rw[ah,ah] at hc
  have hc1:=aq hc.1.1
  have hc2:=aq hc.1.2
  have hc3:=bI hc.2
  obtain ⟨z,hz1,hz2,-⟩:=hek.zero b hb
  have hn:0<e.n:=by rw[<-hc2];exact Ty.size_pos _
  split at h
  ·rename_i hsh
   have ⟨xs,hxs,h⟩:=bind_some h
   refine ⟨_,h,good_row (rs:=[]) (by simp) fun J θ hf=>?_⟩
   have ⟨h1,h2⟩:=oD hf hps
   have ⟨l1,l2,l3,l4⟩:=Hc (J:=J) hxs h2
   have ⟨u1,u2,u3,u4⟩:=Fo h1 l1
   exact Fa (RV (evL (envL θ s)) θ parts.toList ps) xs (Ty.cpy hsh) (by grind) (hdk.el E hE) hz1 hn ((Ty.rep_size _).trans hc2) (Nat.succ_pos _) hc3 ho u1 (u2.trans hc1) (l2.trans hc1) fun u hu=>⟨(u4 u hu).1,by
    grind⟩
  ·have ⟨r,hr,h⟩:=bind_some h
   refine ⟨_,h,good_row (rs:=[]) (xQ hr) fun J θ hf=>?_⟩
   have ⟨h1,h2⟩:=oD hf hps
   have ⟨l1,l2,l3,l4⟩:=Di (J:=J) hr h2
   have ⟨u1,u2,u3,u4⟩:=Fo h1 l1
   rw[<-u3] at l4
   exact OpT.pre l4 rfl (Kp (RV (evL (envL θ s)) θ parts.toList ps) r.xs (hdk.el E hE) hz1 hn ((Ty.rep_size _).trans hc2) (Nat.succ_pos _) hc3 ho u1 (u2.trans hc1) (l2.trans hc1) fun u hu=>⟨(u4 u hu).1,by
    grind⟩)
theorem IZ {x y:Operand} (h:Fp x y=true):x=y:=by
 unfold Fp at h
 split at h
 ·simp_all
 ·split at h
  ·simp_all
  grind
 grind
theorem Pf (hT:TTok P tt) {T:TypeId} (ho:o.op= .makeSlice T x y) (h:Wy tt an s k o.dst T x y=some res):Oks P w0 s o k res:=by
 have ⟨d,hd,h⟩:=bind_some h
 have ⟨E,hE,h⟩:=bind_some h
 have ⟨e,he,h⟩:=bind_some h
 have ⟨b,hb,h⟩:=bind_some h
 have hdk:=hT.get hd
 have hek:=hT.get he
 split at h
 ·rename_i l hx
  have ⟨hc,h⟩:=aj h
  rw[ah,ah] at hc
  have ⟨⟨hc1,hc2⟩,hc3⟩:=hc
  have ⟨xs,hxs,h⟩:=bind_some h
  have hc1:=IZ hc1
  have hc2:=aq hc2
  have ⟨z,hz1,hz2,hz3⟩:=hek.zero b hb
  have hz:z.cells.toList=zeroCells (OL an o.dst e.ty):=by grind[ky,OL]
  have hn:(OL an o.dst e.ty).size=e.n:=by grind[tY,ky]
  refine ⟨_,h,good_row (rs:=[]) (by simp) fun J θ hf=>?_⟩
  exact Wq (by grind[xf]) (hdk.el E hE) hz1 ho ((Ty.rep_size _).trans hn) (by grind[Ty.size_pos]) hz3 (aC hx) (by rw[<-hc1];exact aC hx) hxs
 grind
end
end R
namespace R
open Go.RowKit
open D
section
variable {Y:Type} (tt:TT) (an:List (Nat×Ty)) (s:Sg) (k:Res->Option Y)
def Yx (E:TypeId) (b:Nat) (t:Ty) (xs:List t.den) (nsx rest:List Ent) (y:AV):Option Y:=match y with
 | .one (.own h)=>(rowOf h rest).bind fun r=>(mF (.sl r.E r.t) (.sl E t) r.xs).bind fun ys=>(cP b xs ys).bind fun zs=>match t.sh with
  | true=>k ⟨[r.ent h],nsx,r.rest,[(⟨s.nxt,[]⟩,.own (.sl E t) zs)],.one (.own ⟨s.nxt,[]⟩)⟩
  | false=>k ⟨[],nsx++ [r.ent h],r.rest,[(⟨s.nxt,[]⟩,.own (.sl E t) zs)],.one (.own ⟨s.nxt,[]⟩)⟩
 | .one (.rd h t' d)=>bw t.sh ((mE t' (.sl E t) d).bind fun ys=>(cP b xs ys).bind fun zs=>k ⟨[],nsx,rest,[(⟨s.nxt,[]⟩,.own (.sl E t) zs)],.one (.own ⟨s.nxt,[]⟩)⟩)
 | .one (.rdn h _ t' d)=>bw t.sh ((mE t' (.sl E t) d).bind fun ys=>(cP b xs ys).bind fun zs=>k ⟨[],nsx,rest,[(⟨s.nxt,[]⟩,.own (.sl E t) zs)],.one (.own ⟨s.nxt,[]⟩)⟩)
 | _=>none
def Wz (y:AV) (t:Ty):Ty:=match y with
 | .one (.own h)=>match rowOf h s.chs with
  | some r=>r.t
  | none=>t
 | _=>t
def ZS (dst:Option Nat) (T:TypeId) (x y:Operand):Option Y:=(td tt T).bind fun d=>d.el.bind fun E=>(td tt E).bind fun e=>e.bytes.bind fun b=>(opd s y).bind fun yv=>match opd s x with
 | some (.one (.own h))=>(rowOf h s.chs).bind fun r=>bw (Nat.beq r.E E&&Nat.beq r.t.size e.n) (Yx s k r.E b r.t r.xs [r.ent h] r.rest yv)
 | some (.one (.val v))=>bw (isNil v&&Nat.beq (Wz s yv (OL an dst e.ty)).size e.n) (Yx s k E b (Wz s yv (OL an dst e.ty)) [] [] s.chs yv)
 | _=>none
end
section
variable {Y:Type} {tt:TT} {an:List (Nat×Ty)} {s:Sg} {k:Res->Option Y} {P:Program} {w0:World} {o:Oper} {res:Y} {x y:Operand}
theorem OpT.nilrow {I:Hp} {ev:Operand->Value} {α:Type} {E:TypeId} {R:Rep α} {rn:List Ch} {fact:Value->Prop} {gv:Value->List Ch} (h:OpT P I w0 o ev (Ch.own (aw E R) [.slice none 0 0] ([] :List α)::rn) fact gv):OpT P I w0 o ev rn fact gv:=fun w C hs=>h w C hs.nil
theorem OpT.permN {I:Hp} {ev:Operand->Value} {rn rn':List Ch} {fact:Value->Prop} {gv:Value->List Ch} (hp:rn'.Perm rn) (h:OpT P I w0 o ev rn fact gv):OpT P I w0 o ev rn' fact gv:=fun w C hs=>h w C (hs.perm (hp.append_right C))
theorem vt {r:Row} {E:TypeId} {t:Ty} {ys:List t.den} {h:Hdr} (hc:mF (.sl r.E r.t) (.sl E t) r.xs=some ys):r.ent h=(h,r.ver,.own (.sl E t) ys):=by
 have ⟨e,e2⟩:=mG hc
 obtain ⟨rfl,rfl⟩:=Ty.sl.inj e
 rw[e2];rfl
theorem K0 {T E:TypeId} {z:Value} {n b:Nat} {t:Ty} {xs:List t.den} {nsx rest:List Ent} {yv:AV} (hp:s.chs.Perm (nsx++rest)) (hT:P.underlying T=some (.slice E)) (hE:TZ P E z n b) (hzs:z.cells.size=n) (hn:0<n) (ht:t.size=n) (hb1:1<=b) (ho:o.op= .call { callee:=.builtin .append,args:= #[x,y],argTypes:= #[T,T] }) (hy:opd s y=some yv)
  (hx: ∀J θ,Fine P w0 J θ s-> ∃v,evL (envL θ s) x=v/\ ∀(rn:List Ch) (fact:Value->Prop) (gv:Value->List Ch),OpT P J w0 o (evL (envL θ s)) (Ch.own (aw E t.rep) [v] xs::rn) fact gv->OpT P J w0 o (evL (envL θ s)) (nsx.map (toCh P θ)++rn) fact gv)
  (h:Yx s k E b t xs nsx rest yv=some res):Oks P w0 s o k res:=by
 unfold Yx at h
 split at h
 ·rename_i hh
  have ⟨r,hr,h⟩:=bind_some h
  have ⟨ys,hys,h⟩:=bind_some h
  have ⟨zs,hzs',h⟩:=bind_some h
  obtain ⟨hpr,-⟩:=bf hr
  have he:=vt (h:=hh) hys
  split at h
  ·rename_i hsh
   refine ⟨_,h,good_row (hp.trans ((hpr.append_left nsx).trans List.perm_middle)) fun J θ hf=>?_⟩
   have ⟨v,hv',hx⟩:=hx J θ hf
   rw[he]
   have:=C7 (P:=P) (I:=J) (w0:=w0) (R:=t.rep) hzs' (Ty.sh_ok hsh) (Ty.cpy hsh) hT hE hzs hn (t.rep_size.trans ht) hb1 ho hv' (aC (θ:=θ) hy)
   exact OpT.permN (List.perm_append_comm (l₁:=[_])) (hx _ _ _ this)
  ·refine ⟨_,h,good_row (rs:=[]) (by
    have:=hp.trans (hpr.append_left nsx)
    grind) fun J θ hf=>?_⟩
   have ⟨v,hv',hx⟩:=hx J θ hf
   rw[he]
   have:=Tn (P:=P) (I:=J) (w0:=w0) (R:=t.rep) hzs' hT hE hzs hn (t.rep_size.trans ht) hb1 ho hv' (aC (θ:=θ) hy)
   have:=hx _ _ _ this
   rw[List.nil_append,aM]
   exact this
 ·have ⟨hsh,h⟩:=aj h
  have ⟨ys,hys,h⟩:=bind_some h
  have ⟨zs,hzs',h⟩:=bind_some h
  refine ⟨_,h,good_row (rs:=[]) hp fun J θ hf=>?_⟩
  have ⟨v,hv',hx⟩:=hx J θ hf
  have hrd:=gR hys (bu hf hy).2
  have:=sW (P:=P) (I:=J) (w0:=w0) (R:=t.rep) (S:=t.rep) (E':=E) hzs' (Ty.cpy hsh) (t.rep_size.trans ht) hrd hT hE hzs hn (t.rep_size.trans ht) hb1 ho hv' (aC (θ:=θ) hy)
  have:=hx _ _ _ this
  rw[List.append_nil] at this
  exact this
 ·have ⟨hsh,h⟩:=aj h
  have ⟨ys,hys,h⟩:=bind_some h
  have ⟨zs,hzs',h⟩:=bind_some h
  refine ⟨_,h,good_row (rs:=[]) hp fun J θ hf=>?_⟩
  have ⟨v,hv',hx⟩:=hx J θ hf
  have hrd:=gR hys (bu hf hy).2.1
  have:=sW (P:=P) (I:=J) (w0:=w0) (R:=t.rep) (S:=t.rep) (E':=E) hzs' (Ty.cpy hsh) (t.rep_size.trans ht) hrd hT hE hzs hn (t.rep_size.trans ht) hb1 ho hv' (aC (θ:=θ) hy)
  have:=hx _ _ _ this
  rw[List.append_nil] at this
  exact this
 grind
theorem T3 (hT:TTok P tt) {T:TypeId} (ho:o.op= .call { callee:=.builtin .append,args:= #[x,y],argTypes:= #[T,T] }) (h:ZS tt an s k o.dst T x y=some res):Oks P w0 s o k res:=by
 have ⟨d,hd,h⟩:=bind_some h
 have ⟨E,hE,h⟩:=bind_some h
 have ⟨e,he,h⟩:=bind_some h
 have ⟨b,hb,h⟩:=bind_some h
 have ⟨yv,hy,h⟩:=bind_some h
 have hdk:=hT.get hd
 have hek:=hT.get he
 have ⟨z,hz1,hz2,hz3⟩:=hek.zero b hb
 have hzs:z.cells.size=e.n:=by rw[hz2,List.size_toArray,tY,hek.sz]
 split at h
 ·rename_i hh hx
  have ⟨r,hr,h⟩:=bind_some h
  have ⟨hc,h⟩:=aj h
  rw[ah] at hc
  have hc1:=aq hc.1
  have hc2:=aq hc.2
  obtain ⟨hp,-⟩:=bf hr
  exact K0 (nsx:=[r.ent hh]) hp ((hdk.el E hE).trans (by rw[hc1])) (by grind) hzs (by grind[Ty.size_pos]) hc2 hz3 ho hy (fun J θ hf=>⟨_,aC hx,fun rn fact gv h=>h⟩) h
 ·rename_i v hx
  have ⟨hc,h⟩:=aj h
  rw[ah] at hc
  have hc1:=l8 hc.1
  have hc2:=aq hc.2
  refine K0 (nsx:=[]) (List.Perm.refl _) (hdk.el E hE) hz1 hzs (by grind[Ty.size_pos]) hc2 hz3 ho hy (fun J θ hf=>⟨_,aC hx,fun rn fact gv h=>?_⟩) h
  rw[show (AV.one (LV.val v)).v θ= .slice none 0 0 from hc1] at h
  exact OpT.nilrow h
 grind
end
structure Hol where
 ver:Nat
 over:Nat
 t:Ty
 d:t.den
 u:Ty
 y:u.den
 f:u.den->t.den
 i:Int
 k:Nat
 off:Nat
 lv:LV
 rest:List Ent
def BF (h:Hdr) (chs:List Ent):Option Hol:=(pull h chs).bind fun r=>match r.1.2.2 with
 | .hole over t d u y f i k off lv=>some ⟨r.1.2.1,over,t,d,u,y,f,i,k,off,lv,r.2⟩
 | _=>none
def Hol.ent (r:Hol) (h:Hdr):Ent:=(h,r.ver,.hole r.over r.t r.d r.u r.y r.f r.i r.k r.off r.lv)
theorem uc {h:Hdr} {chs:List Ent} {r:Hol} (e:BF h chs=some r):chs.Perm (r.ent h::r.rest):=by
 have ⟨q,hq,e⟩:=bind_some e
 have ⟨p,k⟩:=fh hq
 have ⟨⟨h',ver,c⟩,rest⟩:=q
 obtain rfl:h'=h:=k
 cases c with
 | hole over t d u y f i k off lv =>
  cases ae (show some _=some r from e)
  exact p
 | _=>cases e
def partOf (r:Hol):Option (Bool×r.u.den×List Ent):=match r.lv with
 | .own l=>(pull l r.rest).bind fun q=>match q.1.2.2 with
  | .own u' d=>(mF u' r.u d).bind fun d=>some (Nat.beq q.1.2.1 r.ver,d,q.2)
  | _=>none
 | _=>none
theorem Dj {r:Hol} {q:Bool×r.u.den×List Ent} (h:partOf r=some q): ∃l ver,r.lv= .own l/\r.rest.Perm ((l,ver,.own r.u q.2.1)::q.2.2)/\(q.1=true->ver=r.ver):=by
 have ⟨ver,over,t,d,u,y,f,i,k,off,lv,rest⟩:=r
 cases lv with
 | own l =>
  have ⟨e,he,h⟩:=bind_some (show (pull l rest).bind _=some q from h)
  grind[fh,bind_some,mF,bind,ae,mG,aq]
 | _=>cases h
def Fq (h:Hdr) (s:Sg):Option Sg:=(BF h s.chs).bind fun r=>(partOf r).bind fun q=>match q.1 with
 | true=>some ⟨s.env,(h,r.over,.own r.t r.d)::q.2.2,s.nxt+1⟩
 | false=>some ⟨s.env,(h,s.nxt,.own r.t (r.f q.2.1))::q.2.2,s.nxt+1⟩
section
variable {P:Program} {I J:Hp} {w0 w:World} {F:Ch} {n:Nat} {θ:Th} {s s':Sg} {a:Act} {o:Oper}
theorem Sim.chs (hS:Sim P I w0 F n J θ s a w) {chs':List Ent} (hst:St J w0 w (chs'.map (toCh P θ)++ [F])) (hn:Newer s.nxt s.chs chs') (hok: ∀e∈chs',okE P w0 J θ (s.nxt+1) chs' e):Sim P I w0 F n J θ ⟨s.env,chs',s.nxt+1⟩ a w:=
 ⟨hS.le,hS.agr,hst,fun e he=>AV.ok_same Same.rfl (Nat.le_succ _) hn (hS.fine.env e he) Hp.le.rfl,fun e he=>aN (hS.fine.ver e he),hS.fine.nd,hok,hS.fine.lay⟩
theorem I0 {h:Hdr} (hs:Fq h s=some s') (hS:Sim P I w0 F n J θ s a w):Sim P I w0 F n J θ s' a w:=by
 have ⟨r,hr,hs⟩:=bind_some hs
 have ⟨q,hq,hs⟩:=bind_some hs
 have hp:=uc hr
 have ⟨l,ver,hl,hp2,hu⟩:=Dj hq
 have hp3:=hp.trans (hp2.cons _)
 have hok:=hS.fine.chs (r.ent h) (hp.mem_iff.2 (by simp))
 have hst:St J w0 w (Ch.own r.t.rep [hv θ h] (r.f q.2.1)::(q.2.2.map (toCh P θ)++ [F])):=by
  have h0:=hS.st.perm ((hp3.map (toCh P θ)).append_right [F])
  have h1:St J w0 w (Ch.own r.u.rep [hv θ l] q.2.1::Ch.gap r.t.rep [hv θ h] r.u.rep r.f (ptB (hv θ h)) (ptO (hv θ h)+(r.i.toNat*r.k+r.off)) (r.lv.v θ)::(q.2.2.map (toCh P θ)++ [F])):=h0.perm (List.Perm.swap _ _ _)
  rw[hl] at h1
  exact St.settle h1
 have hmem: ∀e,e∈q.2.2->e∈s.chs:=fun e he=>hp3.mem_iff.2 (by grind)
 cases hb:q.1 with
 | true =>
  rw[hb] at hs
  cases ae (show some _=some s' from hs)
  have hver:=hu hb
  have hd:q.2.1=r.y:=by
   have:=(hok.2.2.2.2.2 l hl).2 (l,ver,.own r.u q.2.1) (hp3.mem_iff.2 (by simp)) _ ⟨rfl,.inl ⟨hver,rfl⟩⟩
   injection this with _ h2
  have hfd:r.f q.2.1=r.d:=by rw[hd];exact hok.2.2.2.2.1
  rw[hfd] at hst
  have hnew:Newer s.nxt s.chs ((h,r.over,.own r.t r.d)::q.2.2):=fun e he h' ver' c hs'=>by
   rcases az he with rfl | he
   ·obtain ⟨rfl,hs'⟩:=hs'
    rcases hs' with ⟨rfl,rfl⟩ | hs'
    ·exact .inr ⟨r.ent h,hp.mem_iff.2 (by simp),rfl,.inr ⟨rfl,rfl⟩⟩
    ·exact hs'.elim
   grind
  refine hS.chs hst hnew fun e he=>?_
  rcases az he with rfl | he
  ·exact ⟨aN hok.1,aN (Nat.lt_trans hok.2.2.2.1 hok.2.1),trivial⟩
  ·exact dS Same.rfl (Nat.le_succ _) hnew (hS.fine.chs e (hmem e he)) Hp.le.rfl
 | false =>
  rw[hb] at hs
  cases ae (show some _=some s' from hs)
  have hnew:Newer s.nxt s.chs ((h,s.nxt,.own r.t (r.f q.2.1))::q.2.2):=fun e he h' ver' c hs'=>by
   rcases az he with rfl | he
   ·obtain ⟨rfl,hs'⟩:=hs'
    rcases hs' with ⟨rfl,rfl⟩ | hs'
    ·grind
    ·exact hs'.elim
   grind
  refine hS.chs hst hnew fun e he=>?_
  rcases az he with rfl | he
  ·exact ⟨aN hok.1,au _,trivial⟩
  ·exact dS Same.rfl (Nat.le_succ _) hnew (hS.fine.chs e (hmem e he)) Hp.le.rfl
def settle:Nat->Hdr->Sg->Sg
 | 0,_,s=>s
 | m+1,h,s=>match BF h s.chs with
  | some r=>match r.lv with
   | .own l=>match Fq h (settle m l s) with
    | some s'=>s'
    | none=>s
   | _=>s
  | none=>s
theorem xR: ∀ {m:Nat} {h:Hdr} {s:Sg},Sim P I w0 F n J θ s a w->Sim P I w0 F n J θ (settle m h s) a w
 | 0,_,_,hS=>hS
 | m+1,h,s,hS=>by
  unfold settle
  split
  ·split
   ·split
    ·rename_i hs
     exact I0 hs (xR hS)
    omega
   omega
  omega
end
section
variable {Y:Type} (tt:TT) (s:Sg) (k:Res->Option Y)
def K4 (T:TypeId) (x y:Operand):Option Y:=(td tt T).bind fun d=>match opd s x,opd s y with
 | some (.elo h ver E t xs a i off),some (.one lv)=>(BF h s.chs).bind fun r=>bw (Nat.beq r.k t.size&&Nat.beq r.off off && !d.agg&&Nat.beq d.n 1&&(match lv with | .own l=> !(Hdr.beq l h) | _=>true)) ((chk (i=r.i)).bind fun _=>k ⟨[],[r.ent h],r.rest,[(h,.hole r.over r.t r.d r.u r.y r.f r.i r.k r.off lv)],.any ⟨s.nxt,[]⟩⟩)
 | _,_=>none
end
theorem BG (h:Hdr):Hdr.beq h h=true:=by grind[Hdr.beq,Nat.beq_refl,xJ]
section
variable {Y:Type} {tt:TT} {s:Sg} {k:Res->Option Y} {P:Program} {w0:World} {o:Oper} {res:Y} {x y:Operand}
theorem I1 (hT:TTok P tt) {T:TypeId} (ho:o.op= .store T x y) (h:K4 tt s k T x y=some res):Oks P w0 s o k res:=by
 have ⟨d,hd,h⟩:=bind_some h
 split at h
 ·rename_i hh ver E t xs a i off lv hx hy
  have ⟨r,hr,h⟩:=bind_some h
  have ⟨hc,h⟩:=aj h
  rw[ah,ah,ah,ah] at hc
  have ⟨⟨⟨⟨hc1,hc2⟩,hc3⟩,hc4⟩,hc5⟩:=hc
  have ⟨u,hi,h⟩:=bind_some h
  have hi:=bD hi
  have hc1:=aq hc1
  have hc2:=aq hc2
  have hc3:d.agg=false:=by simpa using hc3
  have hc4:=aq hc4
  have hp:=uc hr
  have hti:=(hT.get hd).ti
  rw[hc3,hc4] at hti
  refine ⟨_,h,zQ hp,fun J θ hf g hg ver' c hs=>?_,fun J θ hf=>?_⟩
  ·cases ak hg
   exact ⟨r.ent hh,hp.mem_iff.2 (by simp),rfl,.inr hs⟩
  ·have hok:=gU hf hp
   have hlv:=bu hf hy
   have hxv:evL (envL θ s) x= .pointer (some ⟨ptB (hv θ hh),ptO (hv θ hh)+(r.i.toNat*r.k+r.off),none⟩):=by
    rw[aC (θ:=θ) hx,hc1,hc2,<-hi];rfl
   have hu: ∀u,hv (upd θ s.nxt u) hh=hv θ hh:=fun u=>aS Same.upd hok.1
   have:=BE (P:=P) (I:=J) (w0:=w0) (R:=r.t.rep) (S:=r.u.rep) (cs:=[hv θ hh]) (f:=r.f) (v:=r.lv.v θ) hti ho hxv (aC (θ:=θ) hy) (LV.one hlv)
   refine OpT.weak this (fun v hv0=>⟨au _,cW,fun g hg=>?_⟩) (fun v hv0=>?_)
   ·cases ak hg
    refine ⟨aN hok.1,au _,LV.ok_same Same.upd (Nat.le_succ _) hlv Hp.le.rfl,Nat.lt_trans hok.2.2.2.1 hok.2.1,hok.2.2.2.2.1,fun l hl=>?_⟩
    have hne:l≠hh:=fun e=>by
     grind[Hdr.beq,BG]
    refine ⟨au _,fun e he c hs=>?_⟩
    rcases aH he with he | he
    ·obtain ⟨g,hg,rfl⟩:=List.mem_map.1 he
     cases ak hg
     exact absurd hs.1.symm hne
    ·have he:e∈s.chs:=hp.mem_iff.2 (ba _ (by grind))
     have hek:=hf.chs e he
     have ⟨h',v',c'⟩:=e
     rcases hs.2 with ⟨h1,h2⟩ | h1
     ·have:=hek.2.1
      grind
     ·cases c' with
      | hole over _ _ _ _ _ _ _ _ _ =>
       have:=Nat.lt_trans hek.2.2.2.1 hek.2.1
       rw[h1.1] at this
       grind
      | _=>exact h1.elim
   ·show [Ch.gap _ [hv θ hh] _ _ (ptB (hv θ hh)) (ptO (hv θ hh)+_) (lv.v θ)] = [Ch.gap _ [hv (upd θ s.nxt v) hh] _ _ (ptB (hv (upd θ s.nxt v) hh)) (ptO (hv (upd θ s.nxt v) hh)+_) (lv.v (upd θ s.nxt v))]
    rw[hu,LV.v_same Same.upd hlv]
 grind
end
end R
namespace R
open Go.RowKit
open D
inductive PM
 | rd (t:Ty)
 | ow (t:Ty)
 | fn (ps rs:List Ty)
 | cap (T:TypeId) (t:Ty)
 | capf (T:TypeId) (ps rs:List Ty)
 | ptr (T:TypeId) (t:Ty)
 | eat (t:Ty)
 | fk (g:Nat)
 | crs (T:TypeId) (E:TypeId)
 | kb (g:Nat) (T:TypeId) (t:Ty)
 | kc (g:Nat)
 deriving DecidableEq
def PM.den:PM->Type
 | .rd t=>t.den
 | .ow t=>t.den
 | .fn ps rs=>cur ps (Option (dens rs))
 | .cap _ t=>t.den
 | .capf _ ps rs=>cur ps (Option (dens rs))
 | .ptr _ t=>t.den
 | .eat t=>t.den
 | .fk _=>Unit
 | .crs _ _=>List Int×Int×Int
 | .kb _ _ t=>t.den
 | .kc _=>Unit
def denP:List PM->Type
 | [] =>Unit
 | p::ps=>p.den×denP ps
def curP:List PM->Type->Type
 | [],R=>R
 | p::ps,R=>p.den->curP ps R
def appP {R:Type} :(ps:List PM)->curP ps R->denP ps->R
 | [],f,_=>f
 | _::ps,f,d=>appP ps (f d.1) d.2
def PM.out:PM->List Ty
 | .ow t=>[t]
 | .ptr _ t=>[t]
 | .crs _ _=>[.prod (.int .i64) (.int .i64)]
 | .kb _ _ t=>[t]
 | _=>[]
def outs:List PM->List Ty
 | [] =>[]
 | p::ps=>match p with
  | .ow t=>t::outs ps
  | .ptr _ t=>t::outs ps
  | .crs _ _=>.prod (.int .i64) (.int .i64)::outs ps
  | .kb _ _ t=>t::outs ps
  | _=>outs ps
def hFst:(ts us:List Ty)->iV (ts++us)->iV ts
 | [],_,_=>()
 | _::ts,us,d=>(d.1,hFst ts us d.2)
def hSnd:(ts us:List Ty)->iV (ts++us)->iV us
 | [],_,d=>d
 | _::ts,us,d=>hSnd ts us d.2
structure FS where
 ps:List PM
 rs:List Ty
 m:curP ps (Option (dens (rs++outs ps)))
 cl:Option (TypeId×Nat)
theorem WA:E4.Dp:=xG
def vu (P:Program) (k:FuncId) (E b:Nat):Prop:=Enters P k/\ ∀(E':TypeId) (I:Hp) (w0:World) (v:Value) (xs zs:List Raw),Lay P I->(aw E' E4).rd I [v] xs->cP b [] xs=some zs->Con P k #[v] I w0 [] (fun _=>True) (fun r=>[Ch.own (aw E E4) [r] zs])
abbrev FT:=List (Nat×FS)
def fs (ft:FT) (k:Nat):Option FS:=match ft with
 | [] =>none
 | (j,f)::l=>if Nat.beq j k then some f else fs l k
def Y0 (P:Program) (w0:World) (J:Hp) (γ:Value):(p:PM)->Value->p.den->Prop
 | .rd t,v,d=> ∃cs,Lds t.isProd cs v/\t.rep.rd J cs d
 | .ow t,v,_=>nC v=t.isProd
 | .fn a b,v,d=>FnOk P w0 J v a b d
 | .cap T t,v,d=> ∃b,v= .pointer (some ⟨b,0,none⟩)/\ ∃cells:List Value,J b=some (.cells cells.toArray T (0,0))/\t.rep.rd J cells d
 | .capf T x y,v,d=> ∃b,v= .pointer (some ⟨b,0,none⟩)/\ ∃u:Value,J b=some (.cells [u].toArray T (0,0))/\FnOk P w0 J u x y d
 | .ptr T t,v,_=> ∃b,v= .pointer (some ⟨b,0,none⟩)
 | .eat t,v,_=>nC v=t.isProd
 | .fk g,v,_=>v= .func (.func g) #[] #[]
 | .crs _ E,v,d=>(∃b,v= .pointer (some ⟨b,0,none⟩))/\(Ty.sl E (.int .u8)).rep.rd J [γ] d.1
 | .kb g _ _,v,_=>v= .func (.func g) #[] #[γ] /\ ∃b,γ= .pointer (some ⟨b,0,none⟩)
 | .kc g,v,_=>v= .func (.func g) #[] #[γ] /\ ∃b,γ= .pointer (some ⟨b,0,none⟩)
def PArgs (P:Program) (w0:World) (J:Hp) (γ:Value):(ps:List PM)->List Value->denP ps->Prop
 | [],vs,_=>vs= []
 | p::ps,vs,d=> ∃v r,vs=v::r/\Y0 P w0 J γ p v d.1/\PArgs P w0 J γ ps r d.2
def owCh (γ:Value):(ps:List PM)->List Value->denP ps->List Ch
 | p::ps,v::vs,d=>match p,d with
  | .ow t,d=>Ch.own t.rep (jU t.isProd v) d.1::owCh γ ps vs d.2
  | .ptr T t,d=>Ch.box (bk v) T t.rep d.1::owCh γ ps vs d.2
  | .eat t,d=>Ch.own t.rep (jU t.isProd v) d.1::owCh γ ps vs d.2
  | .rd _,d=>owCh γ ps vs d.2
  | .fn _ _,d=>owCh γ ps vs d.2
  | .cap _ _,d=>owCh γ ps vs d.2
  | .capf _ _ _,d=>owCh γ ps vs d.2
  | .fk _,d=>owCh γ ps vs d.2
  | .crs T _,d=>Ch.blk (bk v) [γ,.int .i64 d.1.2.1,.int .i64 d.1.2.2] T::owCh γ ps vs d.2
  | .kb _ T t,d=>Ch.box (bk γ) T t.rep d.1::owCh γ ps vs d.2
  | .kc _,d=>owCh γ ps vs d.2
 | _,_,_=>[]
def outCh (γ:Value):(ps:List PM)->List Value->iV (outs ps)->List Ch
 | p::ps,v::vs,d=>match p,d with
  | .ow t,d=>Ch.own t.rep (jU t.isProd v) d.1::outCh γ ps vs d.2
  | .ptr T t,d=>Ch.box (bk v) T t.rep d.1::outCh γ ps vs d.2
  | .eat _,d=>outCh γ ps vs d
  | .rd _,d=>outCh γ ps vs d
  | .fn _ _,d=>outCh γ ps vs d
  | .cap _ _,d=>outCh γ ps vs d
  | .capf _ _ _,d=>outCh γ ps vs d
  | .fk _,d=>outCh γ ps vs d
  | .crs T _,d=>Ch.blk (bk v) [γ,.int .i64 d.1.1,.int .i64 d.1.2] T::outCh γ ps vs d.2
  | .kb _ T t,d=>Ch.box (bk γ) T t.rep d.1::outCh γ ps vs d.2
  | .kc _,d=>outCh γ ps vs d
 | _,_,_=>[]
def ZT (P:Program) (k:FuncId):Prop:= ∀(w:World) (g h oa ob la lb ca cb:Nat) (curA curB:Array Value) (tA tB:TypeId),g≠h->w.heap[g]? =some (.cells curA tA (0,0))->w.heap[h]? =some (.cells curB tB (0,0))->0<curB.size->(callFunc k #[.slice (some ⟨g,oa,none⟩) la ca,.slice (some ⟨h,ob,none⟩) lb cb]).run P w= .ok (.value (.bool false)) w
def Pg (P:Program) (k:FuncId) (T f:Nat):Prop:=Enters P k/\ ∀(I:Hp) (w0:World) (c d:List Value),Con P k #[.agg c.toArray,.agg d.toArray] I w0 []
 (fun v=> ∃b1 b2,v= .func (.func f) #[] #[.pointer (some ⟨b1,0,none⟩),.pointer (some ⟨b2,0,none⟩)]) (fun v=>[Ch.emp,Ch.blk (bk (vg v [0])) c T,Ch.blk (bk (vg v [1])) d T])
def FS.ov (f:FS):Bool:=match f.cl with
 | some q=>Nat.beq q.2 0 || Nat.beq q.2 9
 | none=>false
def ClOk (P:Program) (k:FuncId) (E b:Nat):Prop:=(Nat.beq b 0=true->ZT P k)/\(Nat.beq b 0=false->Nat.beq b 7=false->Nat.ble 1000 b=false->Nat.beq b 9=false->vu P k E b)/\(Nat.ble 1000 b=true->Pg P k E (b - 1000))
def wu:(ts:List Ty)->iV ts->Value->Prop
 | [.sl _ t],d,v=>List.length (α:=t.den) d.1=0->v= .slice none 0 0
 | _,_,_=>True
def NilOk (P : Program) (k : FuncId) (f : FS) : Prop := ∀ w0 J γ vs (d : denP f.ps) r, Lay P J -> PArgs P w0 J γ f.ps vs d -> appP f.ps f.m d = some r ->
    Con P k vs.toArray J w0 (owCh γ f.ps vs d) (fun v => resFa f.rs v /\ wu f.rs (hFst f.rs (outs f.ps) (toH _ r)) v) (fun v => resGv f.rs (hFst f.rs (outs f.ps) (toH _ r)) v ++ outCh γ f.ps vs (hSnd f.rs (outs f.ps) (toH _ r)))
def T4:(ts:List Ty)->iV ts->Option (List Int)
 | [],_=>some []
 | .int .i64::ts,d=>(T4 ts d.2).map fun l=>d.1::l
 | _::_,_=>none
def NewOk (P : Program) (k : FuncId) (T : Nat) (f : FS) : Prop := Enters P k /\ ∀ w0 J γ vs (d : denP f.ps) r ns, Lay P J -> PArgs P w0 J γ f.ps vs d -> appP f.ps f.m d = some r -> T4 (f.rs ++ outs f.ps) (toH _ r) = some ns ->
    Con P k vs.toArray J w0 [] (fun v => ∃ b, v = .pointer (some ⟨b, 0, none⟩)) (fun v => [Ch.blk (bk v) (vs ++ ns.map (Value.int .i64)) T])
structure FOk (P:Program) (k:FuncId) (f:FS):Prop where
 cl: ∀q,f.cl=some q->ClOk P k q.1 q.2/\(Nat.beq q.2 7=true->NilOk P k f)/\(Nat.beq q.2 9=true->NewOk P k q.1 f)
 en:f.ov=false->Enters P k
 con:f.ov=false-> ∀w0 J γ vs (d:denP f.ps) r,Lay P J->PArgs P w0 J γ f.ps vs d->appP f.ps f.m d=some r->
  Con P k vs.toArray J w0 (owCh γ f.ps vs d) (resFa f.rs) (fun v=>resGv f.rs (hFst f.rs (outs f.ps) (toH _ r)) v++outCh γ f.ps vs (hSnd f.rs (outs f.ps) (toH _ r)))
def FTok (P:Program):FT->Prop
 | [] =>True
 | (k,f)::l=>FOk P k f/\FTok P l
theorem FTok.get {P:Program} {k:Nat} {f:FS} : ∀ {ft:FT},FTok P ft->fs ft k=some f->FOk P k f
 | (j,x)::l,⟨h1,h2⟩,h=>by
  unfold fs at h
  split at h
  ·rename_i hj
   have:=aq hj
   subst this
   rw[<-ae h];exact h1
  ·exact FTok.get h2 h
def Ty.dp:Ty->Bool
 | .prod a b=>a.dp&&b.dp
 | .sl _ t=>t.dp
 | .fro _=>false
 | .bag _=>false
 | .wr t=>t.dp
 | .tree _ _ _=>false
 | _=>true
theorem Ty.dp_ok: ∀ {t:Ty},t.dp=true->t.rep.Dp
 | .int _,_=>xG
 | .bool,_=>Ti
 | .str,_=>Wm
 | .raw,_=>xG (α:=Raw) (enc:=(·.1)) (h1:=(·.2))
 | .prod a b,h=>by
  have h:(a.dp&&b.dp)=true:=h
  rw[ah] at h
  exact Tj (dp_ok h.1) (dp_ok h.2)
 | .sl _ t,h=>Bs (dp_ok (show t.dp=true from h))
 | .fro _,h=>by cases h
 | .bag _,h=>by cases h
 | .wr t,h=>dp_ok (t:=t) h
 | .tree _ _ _,h=>by cases h
def kM (id:Nat) (pth:Nat->List Nat):(t:Ty)->t.den->Nat->List LV
 | .int k,d,_=>[.val (.int k d)]
 | .bool,d,_=>[.val (.bool d)]
 | .str,d,_=>[.val (.string d)]
 | .raw,d,_=>[.val d.1]
 | .prod a b,d,j=>kM id pth a d.1 j++kM id pth b d.2 (j+a.size)
 | .sl E t,d,j=>[.rd ⟨id,pth j⟩ (.sl E t) d]
 | .fro t,d,j=>kM id pth t d j
 | .bag t,d,j=>kM id pth t d j
 | .wr t,d,j=>kM id pth t d j
 | .tree T E t,d,j=>[.rd ⟨id,pth j⟩ (.tree T E t) d]
theorem iz {P:Program} {w0:World} {J:Hp} {θ:Th} {id n:Nat} {pth:Nat->List Nat} (hid:id<n): ∀(t:Ty) (d:t.den) (j:Nat) (cs:List Value),t.rep.rd J cs d->(∀i v,cs[i]? =some v->vg (θ id) (pth (j+i))=v)->
  (∀x∈kM id pth t d j,x.ok P w0 J θ n)/\(kM id pth t d j).map (·.v θ)=cs
 | .int k,d,j,cs,h,_=>⟨fun x hx=>by cases ak hx;rfl,h.symm⟩
 | .bool,d,j,cs,h,_=>⟨fun x hx=>by cases ak hx;rfl,h.symm⟩
 | .str,d,j,cs,h,_=>⟨fun x hx=>by cases ak hx;rfl,h.symm⟩
 | .raw,d,j,cs,h,_=>⟨fun x hx=>by cases ak hx;exact d.2,h.symm⟩
 | .prod a b,d,j,cs,h,hc=>by
  obtain ⟨c1,c2,rfl,h1,h2⟩:=h
  have hl:=(Rep.rd_len _ h1).trans a.rep_size
  obtain ⟨e1,e2⟩:=iz hid a d.1 j c1 h1 fun i v hv=>hc i v (by grind)
  obtain ⟨e3,e4⟩:=iz hid b d.2 (j+a.size) c2 h2 fun i v hv=>by
   have:=hc (a.size+i) v (by grind)
   rwa [show j+a.size+i=j+(a.size+i) from by omega]
  refine ⟨fun x hx=>?_,?_⟩
  ·rcases aH hx with hx | hx
   ·exact e1 x hx
   ·exact e3 x hx
  grind[kM]
 | .sl E t,d,j,cs,h,hc=>by
  obtain ⟨u,rfl⟩:=List.length_eq_one_iff.1 (Rep.rd_len _ h)
  have hh:hv θ ⟨id,pth j⟩=u:=by
   have:=hc 0 u rfl
   rwa [Nat.add_zero] at this
  refine ⟨fun x hx=>?_,?_⟩
  ·cases ak hx
   exact ⟨hid,by grind⟩
  ·show [hv θ ⟨id,pth j⟩] = [u]
   rw[hh]
 | .fro t,d,j,cs,h,hc=>iz hid t d j cs h hc
 | .bag t,d,j,cs,h,hc=>iz hid t d j cs h hc
 | .wr t,d,j,cs,h,hc=>iz hid t d j cs h hc
 | .tree T E t,d,j,cs,h,hc=>by
  obtain ⟨u,rfl⟩:=List.length_eq_one_iff.1 (Rep.rd_len _ h)
  have hh:hv θ ⟨id,pth j⟩=u:=by
   have:=hc 0 u rfl
   rwa [Nat.add_zero] at this
  refine ⟨fun x hx=>?_,?_⟩
  ·cases ak hx
   exact ⟨hid,by grind⟩
  ·show [hv θ ⟨id,pth j⟩] = [u]
   rw[hh]
def fu (id:Nat) (pth:Nat->List Nat):(t:Ty)->t.den->Nat->List LV
 | .int k,d,_=>[.val (.int k d)]
 | .bool,d,_=>[.val (.bool d)]
 | .str,d,_=>[.val (.string d)]
 | .raw,d,_=>[.val d.1]
 | .prod a b,d,j=>fu id pth a d.1 j++fu id pth b d.2 (j+a.size)
 | .sl _ _,_,j=>[.own ⟨id,pth j⟩]
 | .fro t,d,j=>kM id pth t d j
 | .bag t,_,j=>(List.range t.size).map fun i=>.own ⟨id,pth (j+i)⟩
 | .wr t,d,j=>fu id pth t d j
 | .tree _ _ _,_,j=>[.own ⟨id,pth j⟩]
def pV (id:Nat) (pth:Nat->List Nat):(t:Ty)->t.den->Nat->List (Hdr×Chk)
 | .prod a b,d,j=>pV id pth a d.1 j++pV id pth b d.2 (j+a.size)
 | .wr t,d,j=>pV id pth t d j
 | .tree T E t,d,j=>[(⟨id,pth j⟩,.own (.tree T E t) d)]
 | .sl E t,d,j=>[(⟨id,pth j⟩,.own (.sl E t) d)]
 | .bag (.sl E t),d,j=>[(⟨id,pth j⟩,.own (.bag (.sl E t)) d)]
 | _,_,_=>[]
section
variable {P:Program} {I J:Hp} {w0 w:World} {C:List Ch} {θ:Th} {n m:Nat}
theorem He {α β:Type} {A:Rep α} {B:Rep β} {cs:List Value} {x:α×β} (h:St I w0 w (Ch.own (qk A B) cs x::C)): ∃c d,cs=c++d/\c.length=A.size/\St I w0 w (Ch.own A c x.1::Ch.own B d x.2::C):=by
 obtain ⟨h1,h2,F,⟨G,K,rfl,⟨c,d,G1,G2,rfl,rfl,k1,k2⟩,e⟩,h4,h5⟩:=h
 exact ⟨c,d,rfl,A.own_len k1,h1,h2,(G1++G2)++K,⟨G1,G2++K,by grind,k1,G2,K,rfl,k2,e⟩,h4,h5⟩
theorem ud {α:Type} {enc:α->Value} {h1: ∀a,(enc a).oneCell'=true} {cs:List Value} {x:α} (h:St I w0 w (Ch.own (kt α enc h1) cs x::C)):cs= [enc x] /\St I w0 w C:=by
 obtain ⟨h1,h2,F,⟨G,K,rfl,⟨rfl,k⟩,e⟩,h4,h5⟩:=h
 exact ⟨k,h1,h2,K,e,h4,h5⟩
theorem Ph {id:Nat} {pth:Nat->List Nat} (hid:id<n) (t:Ty) (d:t.den) (j:Nat) (cs:List Value) (C:List Ch) (hc: ∀i v,cs[i]? =some v->vg (θ id) (pth (j+i))=v) (h:St J w0 w (Ch.own (Ty.bag t).rep cs d::C)) :
  (∀x∈fu id pth (.bag t) d j,x.ok P w0 J θ n)/\(fu id pth (.bag t) d j).map (·.v θ)=cs/\St J w0 w C:=by
  obtain ⟨h1,h2,F,⟨G,K,rfl,k,e⟩,h4,h5⟩:=h
  have hl:=((Ty.bag t).rep.own_len k).trans t.rep_size
  have ho:=(Ty.bag t).rep.own_one k
  have hst:St J w0 w C:=⟨h1,h2,K,e,(List.nodup_append.1 h4).2.1,fun b hb=>h5 b (aX _ hb)⟩
  have hat: ∀i (hi:i<cs.length),hv θ ⟨id,pth (j+i)⟩=cs[i]:=fun i hi=>hc i _ (List.getElem?_eq_getElem hi)
  refine ⟨fun x hx=>?_,?_,hst⟩
  ·obtain ⟨i,hi,rfl⟩:=List.mem_map.1 hx
   exact ⟨hid,by grind⟩
  ·show ((List.range t.size).map fun i=>LV.own ⟨id,pth (j+i)⟩).map (·.v θ)=cs
   rw[List.map_map,<-hl]
   refine List.ext_getElem (by simp) fun i h1 h2=>?_
   rw[List.getElem_map,List.getElem_range]
   exact hat i h2
theorem iB {id:Nat} {pth:Nat->List Nat} (hid:id<n): ∀(t:Ty) (d:t.den) (j:Nat) (cs:List Value) (C:List Ch),(∀i v,cs[i]? =some v->vg (θ id) (pth (j+i))=v)->St J w0 w (Ch.own t.rep cs d::C)->
  (∀x∈fu id pth t d j,x.ok P w0 J θ n)/\(fu id pth t d j).map (·.v θ)=cs/\(∀g∈pV id pth t d j,g.1.id=id)/\St J w0 w (((pV id pth t d j).map fun g=>toCh P θ (g.1,m,g.2))++C)
 | .int k,d,j,cs,C,_,h=>by
  obtain ⟨rfl,h0⟩:=ud h
  exact ⟨fun x hx=>by cases ak hx;rfl,rfl,fun g hg=>(by cases hg),h0⟩
 | .bool,d,j,cs,C,_,h=>by
  obtain ⟨rfl,h0⟩:=ud (h1:=fun _=>rfl) h
  exact ⟨fun x hx=>by cases ak hx;rfl,rfl,fun g hg=>(by cases hg),h0⟩
 | .str,d,j,cs,C,_,h=>by
  obtain ⟨rfl,h0⟩:=ud (h1:=fun _=>rfl) h
  exact ⟨fun x hx=>by cases ak hx;rfl,rfl,fun g hg=>(by cases hg),h0⟩
 | .raw,d,j,cs,C,_,h=>by
  obtain ⟨rfl,h0⟩:=ud (α:=Raw) (enc:=(·.1)) (h1:=(·.2)) h
  exact ⟨fun x hx=>by cases ak hx;exact d.2,rfl,fun g hg=>(by cases hg),h0⟩
 | .prod a b,d,j,cs,C,hc,h=>by
  obtain ⟨c1,c2,rfl,hl,h⟩:=He h
  rw[a.rep_size] at hl
  have ⟨e1,e2,e3,e4⟩:=iB hid a d.1 j c1 _ (fun i v hv=>hc i v (by grind)) h
  obtain ⟨k1,k2,k3,k4⟩:=iB hid b d.2 (j+a.size) c2 _ (fun i v hv=>by
   have:=hc (a.size+i) v (by grind)
   rwa [show j+a.size+i=j+(a.size+i) from by omega]) (e4.perm List.perm_middle)
  refine ⟨fun x hx=>?_,?_,fun g hg=>?_,?_⟩
  ·rcases aH hx with hx | hx
   ·grind
   grind
  ·grind[fu]
  ·rcases aH hg with hg | hg
   ·grind
   grind
  ·show St J w0 w (((pV id pth a d.1 j++pV id pth b d.2 (j+a.size)).map _)++C)
   refine k4.perm ?_
   grind[aD,List.perm_append_comm_assoc]
 | .sl E t,d,j,cs,C,hc,h=>by
  have hone: ∃u,cs= [u] /\u.oneCell'=true:=by
   obtain ⟨h1,h2,F,⟨G,K,rfl,k,e⟩,h4,h5⟩:=h
   have hl:=(Ty.sl E t).rep.own_len k
   obtain ⟨u,rfl⟩:=List.length_eq_one_iff.1 hl
   exact ⟨u,rfl,(Ty.sl E t).rep.own_one k u (by simp)⟩
  obtain ⟨u,rfl,h1⟩:=hone
  have hh:hv θ ⟨id,pth j⟩=u:=by
   have:=hc 0 u rfl
   rwa [Nat.add_zero] at this
  refine ⟨fun x hx=>?_,?_,fun g hg=>?_,?_⟩
  ·cases ak hx
   exact ⟨hid,by grind⟩
  ·show [hv θ ⟨id,pth j⟩] = [u]
   rw[hh]
  ·cases ak hg;rfl
  ·show St J w0 w (Ch.own _ [hv θ ⟨id,pth j⟩] d::C)
   grind
 | .fro t,d,j,cs,C,hc,h=>by
  obtain ⟨h1,h2,F,⟨G,K,rfl,⟨rfl,k⟩,e⟩,h4,h5⟩:=h
  obtain ⟨e1,e2⟩:=iz (J:=J) hid t d j cs k hc
  exact ⟨e1,e2,fun g hg=>(by cases hg),h1,h2,K,e,h4,h5⟩
 | .wr t,d,j,cs,C,hc,hs=>iB hid t d j cs C hc hs
 | .bag t,d,j,cs,C,hc,h=>by
  have key:=Ph (P:=P) hid t d j cs C hc h
  cases t with
  | sl E t =>
   have hone: ∃u,cs= [u] /\u.oneCell'=true:=by
    obtain ⟨h1,h2,F,⟨G,K,rfl,k,e⟩,h4,h5⟩:=h
    have hl:=(Ty.bag (.sl E t)).rep.own_len k
    obtain ⟨u,rfl⟩:=List.length_eq_one_iff.1 hl
    exact ⟨u,rfl,(Ty.bag (.sl E t)).rep.own_one k u (by simp)⟩
   obtain ⟨u,rfl,h1⟩:=hone
   have hh:hv θ ⟨id,pth j⟩=u:=by
    have:=hc 0 u rfl
    rwa [Nat.add_zero] at this
   refine ⟨fun x hx=>?_,?_,fun g hg=>?_,?_⟩
   ·cases ak hx
    exact ⟨hid,by grind⟩
   ·show [hv θ ⟨id,pth j⟩] = [u]
    rw[hh]
   ·cases ak hg;rfl
   ·show St J w0 w (Ch.own _ [hv θ ⟨id,pth j⟩] d::C)
    grind
  | _=>exact ⟨key.1,key.2.1,fun g hg=>(by cases hg),key.2.2⟩
 | .tree T E t,d,j,cs,C,hc,h=>by
  have hone: ∃u,cs= [u] /\u.oneCell'=true:=by
   obtain ⟨h1,h2,F,⟨G,K,rfl,k,e⟩,h4,h5⟩:=h
   have hl:=(Ty.tree T E t).rep.own_len k
   obtain ⟨u,rfl⟩:=List.length_eq_one_iff.1 hl
   exact ⟨u,rfl,(Ty.tree T E t).rep.own_one k u (by simp)⟩
  obtain ⟨u,rfl,h1⟩:=hone
  have hh:hv θ ⟨id,pth j⟩=u:=by
   have:=hc 0 u rfl
   rwa [Nat.add_zero] at this
  refine ⟨fun x hx=>?_,?_,fun g hg=>?_,?_⟩
  ·cases ak hx
   exact ⟨hid,by grind⟩
  ·show [hv θ ⟨id,pth j⟩] = [u]
   rw[hh]
  ·cases ak hg;rfl
  ·show St J w0 w (Ch.own _ [hv θ ⟨id,pth j⟩] d::C)
   grind
end
def I2 (agg:Bool) (pre:List Nat):Nat->List Nat:=match agg with
 | true=>fun j=>pre++ [j]
 | false=>fun _=>pre
def jV (id:Nat) (pre:List Nat) (t:Ty) (d:t.den):Bool×List LV:=(t.isProd,fu id (I2 t.isProd pre) t d 0)
def kA (id:Nat) (pre:List Nat) (t:Ty) (d:t.den):List (Hdr×Chk):=pV id (I2 t.isProd pre) t d 0
def Dk (id:Nat):(i:Nat)->(ts:List Ty)->iV ts->List (Bool×List LV)
 | _,[],_=>[]
 | i,t::ts,d=>jV id [i] t d.1::Dk id (i+1) ts d.2
def wv (id:Nat):(i:Nat)->(ts:List Ty)->iV ts->List (Hdr×Chk)
 | _,[],_=>[]
 | i,t::ts,d=>kA id [i] t d.1++wv id (i+1) ts d.2
def K5 (y:Bool×List LV):AV:=match y with
 | (true,l)=>.agg l
 | (false,[x])=>.one x
 | _=>.und
def BH (id:Nat):(ts:List Ty)->iV ts->AV
 | [t],d=>K5 (jV id [] t d.1)
 | ts,d=>.tup (Dk id 0 ts d)
def ue (id:Nat):(ts:List Ty)->iV ts->List (Hdr×Chk)
 | [t],d=>kA id [] t d.1
 | ts,d=>wv id 0 ts d
theorem Hf: ∀p:List Nat,vg undef p=undef
 | [] =>rfl
 | i::l=>by
  exact Hf l
theorem Hg: ∀(p q:List Nat) (v:Value),vg v (p++q)=vg (vg v p) q
 | [],q,v=>by rfl
 | i::p,q,v=>by
  cases v with
  | tuple vs=>exact Hg p q _
  | agg cs=>exact Hg p q _
  | func _ _ cs=>exact Hg p q _
  | _=>exact (Hf q).symm
theorem RX {cs:Array Value} {j:Nat} {v:Value} (h:cs.toList[j]? =some v):vg (.agg cs) [j] =v:=by
 show cs.getD j undef=v
 simp_all
theorem Ty.size_one: ∀ {t:Ty},t.isProd=false->t.size=1
 | .int _,_=>rfl
 | .bool,_=>rfl
 | .str,_=>rfl
 | .raw,_=>rfl
 | .prod _ _,h=>by cases h
 | .sl _ _,_=>rfl
 | .fro t,h=>Ty.size_one (t:=t) h
 | .wr _,h=>by cases h
 | .tree _ _ _,_=>rfl
 | .bag t,h=>Ty.size_one (t:=t) h
theorem qB {id:Nat} {pth:Nat->List Nat} : ∀ {t:Ty} {d:t.den} {j:Nat},t.isProd=false->(kM id pth t d j).length=1
 | .int _,_,_,_=>rfl
 | .bool,_,_,_=>rfl
 | .str,_,_,_=>rfl
 | .raw,_,_,_=>rfl
 | .prod _ _,_,_,h=>by cases h
 | .sl _ _,_,_,_=>rfl
 | .fro t,d,j,h=>qB (t:=t) h
 | .bag t,d,j,h=>qB (t:=t) h
 | .wr _,_,_,h=>by cases h
 | .tree _ _ _,_,_,_=>rfl
theorem qC {id:Nat} {pth:Nat->List Nat} {t:Ty} {d:t.den} {j:Nat} (h1:t.isProd=false):(fu id pth t d j).length=1:=by
 cases t with
 | prod a b=>cases h1
 | fro t=>exact qB (t:=t) h1
 | wr t=>cases h1
 | bag t =>
  show ((List.range t.size).map _).length=1
  rw[List.length_map,List.length_range]
  exact Ty.size_one h1
 | _=>rfl
def Dl:List Ty->Bool
 | [] =>true
 | t::ts=>t.dp&&Dl ts
section
variable {P:Program} {I J:Hp} {w0 w:World} {C:List Ch} {θ:Th} {n m:Nat}
theorem BI {chs:List Ent} : ∀y:Bool×List LV,(y.1=false->y.2.length=1)->(∀x∈y.2,x.ok P w0 J θ n)->(K5 y).ok P w0 J θ n chs/\(K5 y).v θ=jR θ y:=by
 rintro ⟨b,l⟩ hl hx
 cases b with
 | true=>exact ⟨hx,rfl⟩
 | false =>
  obtain ⟨x,rfl⟩:=List.length_eq_one_iff.1 (hl rfl)
  exact ⟨hx x (by simp),rfl⟩
theorem uf {id:Nat} {pre:List Nat} (hid:id<n) {t:Ty} {d:t.den} {u:Value} (hu:hv θ ⟨id,pre⟩=u) (hg:nC u=t.isProd) (h:St J w0 w (Ch.own t.rep (jU t.isProd u) d::C)) :
  (∀x∈(jV id pre t d).2,x.ok P w0 J θ n)/\(jV id pre t d).2.map (·.v θ)=jU t.isProd u/\jR θ (jV id pre t d)=u/\(∀g∈kA id pre t d,g.1.id=id)/\St J w0 w (((kA id pre t d).map fun g=>toCh P θ (g.1,m,g.2))++C):=by
 have hu:vg (θ id) pre=u:=hu
 cases hb:t.isProd with
 | true =>
  rw[hb] at hg h
  cases u with
  | agg cs =>
   have ⟨k1,k2,k3,k4⟩:=iB (P:=P) (m:=m) (θ:=θ) (pth:=I2 true pre) hid t d 0 cs.toList C (fun i v hv=>by
    show vg (θ id) (pre++ [0+i])=v
    simp_all[Hg,Nat.zero_add,RX]) h
   refine ⟨by grind[jV],by unfold jV;rw[hb];exact k2,?_,by grind[kA],by grind[kA]⟩
   simp_all[jV,jR,fu,I2]
  | _=>cases hg
 | false =>
  rw[hb] at hg h
  have ⟨k1,k2,k3,k4⟩:=iB (P:=P) (m:=m) (θ:=θ) (pth:=I2 false pre) hid t d 0 [u] C (fun i v hv=>by
   cases i with
   | zero=>exact hu.trans (by grind)
   | succ i=>grind) h
  refine ⟨by grind[jV],by unfold jV;rw[hb];exact k2,?_,by grind[kA],by grind[kA]⟩
  grind[jV,jR,fu,I2,undef,List.cons.inj]
theorem Hh {id:Nat} (hid:id<n) {vs:Array Value} (hu:θ id= .tuple vs): ∀(ts:List Ty) (i:Nat) (d:iV ts) (C:List Ch),(∀j t,ts[j]? =some t->nC (vs.getD (i+j) undef)=t.isProd)->St J w0 w (vo i ts d (.tuple vs)++C)->
  (∀y∈Dk id i ts d,∀x∈y.2,x.ok P w0 J θ n)/\(Dk id i ts d).map (jR θ)=(List.range' i ts.length).map (fun j=>vs.getD j undef)/\(∀g∈wv id i ts d,g.1.id=id)/\St J w0 w (((wv id i ts d).map fun g=>toCh P θ (g.1,m,g.2))++C)
 | [],i,d,C,_,h=>⟨fun y hy=>(by cases hy),rfl,fun g hg=>(by cases hg),h⟩
 | t::ts,i,d,C,ha,h=>by
  obtain ⟨e1,-,e2,e3,e4⟩:=uf (P:=P) (m:=m) (θ:=θ) (pre:=[i]) (u:=vs.getD i undef) hid (by show vg (θ id) [i] =_;rw[hu];rfl) (ha 0 t rfl) h
  have ⟨k1,k2,k3,k4⟩:=Hh hid hu ts (i+1) d.2 (((kA id [i] t d.1).map fun g=>toCh P θ (g.1,m,g.2))++C) (fun j t hj=>by
   have:=ha (j+1) t hj
   grind) (e4.perm (List.perm_append_comm_assoc _ _ _))
  refine ⟨fun y hy=>?_,?_,fun g hg=>?_,?_⟩
  ·rcases az hy with rfl | hy
   ·exact e1
   grind
  ·show jR θ _::(Dk id (i+1) ts d.2).map _=_
   rw[e2,k2];rfl
  ·rcases aH hg with hg | hg
   ·grind
   grind
  ·show St J w0 w (((kA id [i] t d.1++wv id (i+1) ts d.2).map _)++C)
   refine k4.perm ?_
   grind[aD,List.perm_append_comm_assoc]
theorem BJ {id:Nat} (hid:id<n) {chs:List Ent} {v:Value} (hu:θ id=v): ∀(ts:List Ty) (d:iV ts) (C:List Ch),resFa ts v->St J w0 w (resGv ts d v++C)->
  (BH id ts d).ok P w0 J θ n chs/\(BH id ts d).v θ=v/\(∀g∈ue id ts d,g.1.id=id)/\St J w0 w (((ue id ts d).map fun g=>toCh P θ (g.1,m,g.2))++C):=by
 intro ts d C hf h
 have tup: ∀vs,v= .tuple vs->vs.size=ts.length->(∀i t,ts[i]? =some t->nC (vs.getD i undef)=t.isProd)->St J w0 w (vo 0 ts d v++C)->
   (AV.tup (Dk id 0 ts d)).ok P w0 J θ n chs/\(AV.tup (Dk id 0 ts d)).v θ=v/\(∀g∈wv id 0 ts d,g.1.id=id)/\St J w0 w (((wv id 0 ts d).map fun g=>toCh P θ (g.1,m,g.2))++C):=by
  rintro vs rfl hsz ha h
  have ⟨k1,k2,k3,k4⟩:=Hh (P:=P) (m:=m) hid hu ts 0 d C (fun j t hj=>by grind) h
  refine ⟨k1,?_,k3,k4⟩
  show Value.tuple ((Dk id 0 ts d).map (jR θ)).toArray=_
  congr 1
  apply Array.ext'
  apply List.ext_getElem?
  intro i
  by_cases hi:i<ts.length
  ·simp_all
  ·grind
 match ts,d,hf,h,tup with
 | [t],d,hf,h,_ =>
  obtain ⟨k1,-,k2,k3,k4⟩:=uf (P:=P) (m:=m) (θ:=θ) (pre:=[]) hid (show hv θ ⟨id,[]⟩=v from hu) hf h
  obtain ⟨q1,q2⟩:=BI _ (fun e=>qC e) k1
  exact ⟨q1,q2.trans k2,k3,k4⟩
 | [],d,hf,h,tup=>have ⟨vs,h1,h2,h3⟩:=hf;exact tup vs h1 h2 h3 h
 | _::_::_,d,hf,h,tup=>have ⟨vs,h1,h2,h3⟩:=hf;exact tup vs h1 h2 h3 h
end
end R
namespace R
open Go.RowKit
open D
section
variable {P:Program} {I:Hp} {w0 w:World} {o:Oper} {ev:Operand->Value}
theorem K6 {ls rn cs:List Ch} (h:St I w0 w (ls++(rn++cs))): ∃J,I.le J/\(∀ {α:Type} (R:Rep α) (v:List Value) (a:α),Ch.own R v a∈ls->R.rd J v a)/\(∀g l E,Ch.blk g l E∈ls->J g=some (.cells l.toArray E (0,0)))/\St J w0 w (rn++ [Ch.fr I cs]) /\
  ∀w' ds,Ch.deeps ds->St J w0 w' (ds++ [Ch.fr I cs])->St I w0 w' (ds++(ls++cs)):=by
 have ⟨hb,hi,F,h1,h2,h3⟩:=h
 obtain ⟨G,K,rfl,e2,e3⟩:=h1.split
 have ⟨n1,n2,n3⟩:=List.nodup_append.1 h2
 let J:=fun b=>if b∈G then w.heap[b]? else I b
 have hIJ:I.le J:=fun b o hb'=>by
  grind
 have hJG: ∀b,b∈G->J b=w.heap[b]? :=fun b hb'=>if_pos hb'
 have hJn: ∀b,b∉G->J b=I b:=fun b hb'=>if_neg hb'
 have hmem: ∀ {ls:List Ch} {G:List Nat} {c:Ch},Sep I ls w G->c∈ls-> ∃G',(∀b,b∈G'->b∈G)/\c.holds I w G':=by
  intro ls
  induction ls with
  | nil=>grind
  | cons d ls ih =>
   rintro G c ⟨G1,K1,rfl,e,e'⟩ hc
   grind
 obtain ⟨K1,K2,rfl,g1,g2⟩:=e3.split
 refine ⟨J,hIJ,fun R v a hm=>?_,fun g l E hm=>?_,⟨hb,fun b o hb'=>?_,K1++K2,(g1.mono hIJ).append ⟨K2,[],by simp,g2,rfl⟩,n2,fun b hb'=>?_⟩,?_⟩
 ·have ⟨G',f1,f2⟩:=hmem e2 hm
  exact R.own_rd f2 hIJ fun b hb=>hJG b (f1 b hb)
 ·have ⟨G',f1,f2,f3⟩:=hmem e2 hm
  grind
 ·by_cases hg:b∈G
  ·rw[hJG b hg] at hb';exact hb'
  ·rw[hJn b hg] at hb';exact hi b o hb'
 ·grind
 ·rintro w' ds hd ⟨kb,ki,F',k1,k2,k3⟩
  obtain ⟨F1,F2,rfl,q1,F3,F4,rfl,q4,rfl⟩:=k1.split
  have hl2:=e2.live
  have hlv: ∀b,b∈G->w'.heap[b]? =w.heap[b]? :=fun b hg=>by
   have ⟨o,ho⟩: ∃o,w.heap[b]? =some o:=⟨_,Array.getElem?_eq_getElem (hl2 b hg)⟩
   rw[ho]
   exact ki b o (by grind)
  refine ⟨kb,hIJ.trans ki,F1++(G++F3),(q1.deeps hd).append ((e2.stay hlv).append q4),?_,fun b hb'=>?_⟩
  ·grind
  grind
theorem ug {ls rn:List Ch} {fact:Value->Prop} {gv:Value->List Ch} (hd: ∀v,Ch.deeps (gv v))
  (h: ∀J,I.le J->(∀ {α:Type} (R:Rep α) (v:List Value) (a:α),Ch.own R v a∈ls->R.rd J v a)->(∀g l E,Ch.blk g l E∈ls->J g=some (.cells l.toArray E (0,0)))->OpT P J w0 o ev rn fact gv):OpT P I w0 o ev (ls++rn) fact (fun v=>ls++gv v):=by
 intro w C hs
 rw[aD] at hs
 have ⟨J,h1,h2,h3,h4,h5⟩:=K6 hs
 refine (h J h1 h2 h3 w _ h4).imp fun v w' hv=>⟨hv.1,?_⟩
 have:=h5 w' _ (hd v) hv.2
 refine this.perm ?_
 grind[aD,List.perm_append_comm_assoc]
end
def RY (chs:List Ent) (E:TypeId) (t:Ty) (x:LV):Option (List t.den×List Hdr):=match x with
 | .own h=>(rowOf h chs).bind fun q=>(mE (.sl q.E q.t) (.sl E t) q.xs).bind fun d=>some (d,[h])
 | x=>(Pc E t x).bind fun d=>some (d,[])
structure TreeE where
 ver:Nat
 T:TypeId
 E:TypeId
 t:Ty
 d:Tr t.den
 rest:List Ent
def Dm (h:Hdr) (chs:List Ent):Option TreeE:=(pull h chs).bind fun r=>match r.1.2.2 with
 | .own (.tree T E t) d=>bw (zP h r.2) (some ⟨r.1.2.1,T,E,t,d,r.2⟩)
 | _=>none
def TreeE.ent (r:TreeE) (h:Hdr):Ent:=(h,r.ver,.own (.tree r.T r.E r.t) r.d)
theorem K7 {h:Hdr} {chs:List Ent} {r:TreeE} (e:Dm h chs=some r):chs.Perm (r.ent h::r.rest)/\ ∀e∈r.rest,e.1≠h:=by
 have ⟨q,hq,e⟩:=bind_some e
 have ⟨p,k⟩:=fh hq
 have ⟨⟨h',ver,c⟩,rest⟩:=q
 obtain rfl:h'=h:=k
 cases c with
 | own t' d =>
  cases t' with
  | tree T E t =>
   have ⟨hn,e⟩:=aj (show bw (zP h' rest) _=some r from e)
   cases ae e
   exact ⟨p,fun e he=>nD hn he⟩
  | _=>cases e
 | _=>cases e
def gL (chs:List Ent):(t:Ty)->List LV->Option (t.den×List LV×List Hdr)
 | .prod a b,l=>(gL chs a l).bind fun x=>(gL chs b x.2.1).bind fun y=>some ((x.1,y.1),y.2.1,x.2.2++y.2.2)
 | .sl E t,l=>match l with
  | x::r=>(RY chs E t x).bind fun q=>some (q.1,r,q.2)
  | [] =>none
 | .fro t,l=>gL chs t l
 | .bag t,l=>gL chs t l
 | .wr t,l=>gL chs t l
 | .int k,l=>(dk (.int k) l).bind fun x=>some (x.1,x.2,[])
 | .bool,l=>(dk .bool l).bind fun x=>some (x.1,x.2,[])
 | .str,l=>(dk .str l).bind fun x=>some (x.1,x.2,[])
 | .raw,_=>none
 | .tree T E t,l=>match l with
  | .own h::r=>(Dm h chs).bind fun q=>(mE (.tree q.T q.E q.t) (.tree T E t) q.d).bind fun d=>some (d,r,[h])
  | l=>(dk (.tree T E t) l).bind fun x=>some (x.1,x.2,[])
def V2 (h:Hdr) (chs:List Ent):Option Blk:=(pj h chs).bind fun b=>bw (zP h b.rest) (some b)
theorem K8 {h:Hdr} {chs:List Ent} {b:Blk} (k:V2 h chs=some b):pj h chs=some b/\ ∀e∈b.rest,e.1≠h:=by
 have ⟨b',hb,k⟩:=bind_some k
 have ⟨h1,k⟩:=aj k
 cases ae k
 exact ⟨hb,fun e he=>nD h1 he⟩
def Lent (J:Hp) (θ:Th) (chs:List Ent) (hs:List Hdr):Prop:= ∀h∈hs,(∀q,rowOf h chs=some q->(Ty.sl q.E q.t).rep.rd J [hv θ h] q.xs)/\(∀q,Dm h chs=some q->(Ty.tree q.T q.E q.t).rep.rd J [hv θ h] q.d)/\ ∀b,V2 h chs=some b->J (bk (hv θ h))=some (.cells (b.cells.map (·.v θ)).toArray b.T (0,0))
theorem Lent.l {J:Hp} {θ:Th} {chs:List Ent} {a b:List Hdr} (h:Lent J θ chs (a++b)):Lent J θ chs a:=fun x hx=>h x (aT _ hx)
theorem Lent.r {J:Hp} {θ:Th} {chs:List Ent} {a b:List Hdr} (h:Lent J θ chs (a++b)):Lent J θ chs b:=fun x hx=>h x (aX _ hx)
theorem pn {P:Program} {w0:World} {J:Hp} {θ:Th} {n:Nat} {chs:List Ent} : ∀ {t:Ty} {cs:List LV} {r:t.den×List LV×List Hdr},gL chs t cs=some r->(∀x∈cs,x.ok P w0 J θ n)->Lent J θ chs r.2.2-> ∃c1,cs=c1++r.2.1/\t.rep.rd J (c1.map (·.v θ)) r.1:=by
 intro t
 induction t with
 | prod a b iha ihb =>
  intro cs r h hc hl
  have ⟨x,hx,h⟩:=bind_some (show (gL chs a cs).bind _=some r from h)
  have ⟨y,hy,h⟩:=bind_some h
  cases ae h
  obtain ⟨c1,rfl,k1⟩:=iha hx hc hl.l
  have ⟨c2,e2,k2⟩:=ihb hy (fun z hz=>hc z (aX _ hz)) hl.r
  exact ⟨c1++c2,by grind,c1.map (·.v θ),c2.map (·.v θ),by grind,k1,k2⟩
 | sl E t ih =>
  intro cs r h hc hl
  cases cs with
  | nil=>cases h
  | cons x l =>
   have ⟨q,hq,h⟩:=bind_some (show (RY chs E t x).bind _=some r from h)
   cases ae h
   refine ⟨[x],rfl,?_⟩
   cases x with
   | own h' =>
    have ⟨z,hz,hq⟩:=bind_some (show (rowOf h' chs).bind _=some q from hq)
    have ⟨d,hd,hq⟩:=bind_some hq
    cases ae hq
    exact gR hd ((hl h' (by simp)).1 z hz)
   | rd h2 t2 d2 =>
    have ⟨d,hd,hq⟩:=bind_some (show (Pc E t (.rd h2 t2 d2)).bind _=some q from hq)
    cases ae hq
    exact xL hd (hc _ (by simp))
   | val v =>
    have ⟨d,hd,hq⟩:=bind_some (show (Pc E t (.val v)).bind _=some q from hq)
    cases ae hq
    exact xL hd (hc _ (by simp))
   | nb _=>cases (show none=some q from hq)
   | ptr _ _=>cases (show none=some q from hq)
   | fn _ _ _ _=>cases (show none=some q from hq)
   | fz _ _ _ _ _=>cases (show none=some q from hq)
   | fzf _ _ _ _ _=>cases (show none=some q from hq)
   | rdn _ _ _ _=>cases (show none=some q from hq)
 | fro t ih =>
  intro cs r h hc hl
  exact ih (show gL chs t cs=some r from h) hc hl
 | bag t ih =>
  intro cs r h hc hl
  exact ih (show gL chs t cs=some r from h) hc hl
 | wr t ih =>
  intro cs r h hc hl
  exact ih (show gL chs t cs=some r from h) hc hl
 | int k =>
  intro cs r h hc hl
  have ⟨x,hx,h⟩:=bind_some (show (dk _ cs).bind _=some r from h)
  cases ae h
  exact gm hx hc
 | bool =>
  intro cs r h hc hl
  have ⟨x,hx,h⟩:=bind_some (show (dk _ cs).bind _=some r from h)
  cases ae h
  exact gm hx hc
 | raw =>
  intro cs r h hc hl
  cases (show none=some r from h)
 | str =>
  intro cs r h hc hl
  have ⟨x,hx,h⟩:=bind_some (show (dk _ cs).bind _=some r from h)
  cases ae h
  exact gm hx hc
 | tree T E t ih =>
  intro cs r h hc hl
  have old:((dk (.tree T E t) cs).bind fun x=>some (x.1,x.2,([] :List Hdr)))=some r-> ∃c1,cs=c1++r.2.1/\(Ty.tree T E t).rep.rd J (c1.map (·.v θ)) r.1:=fun h=>by
   have ⟨x,hx,h⟩:=bind_some h
   cases ae h
   exact gm hx hc
  cases cs with
  | nil=>exact old h
  | cons x l =>
   cases x with
   | own h' =>
    have ⟨q,hq,h⟩:=bind_some (show (Dm h' chs).bind _=some r from h)
    have ⟨d,hd,h⟩:=bind_some h
    cases ae h
    exact ⟨[.own h'],rfl,gR hd ((hl h' (by simp)).2.1 q hq)⟩
   | _=>exact old h
def xS (chs:List Ent) (t:Ty) (v:AV):Option (t.den×List Hdr):=match v,t.isProd with
 | .agg cs,true=>(gL chs t cs).bind fun r=>bw r.2.1.isEmpty (some (r.1,r.2.2))
 | .one x,false=>(gL chs t [x]).bind fun r=>bw r.2.1.isEmpty (some (r.1,r.2.2))
 | _,_=>none
theorem Dn {P:Program} {w0:World} {J:Hp} {θ:Th} {n:Nat} {chs:List Ent} {t:Ty} {v:AV} {r:t.den×List Hdr} (h:xS chs t v=some r) (hv':v.ok P w0 J θ n chs) (hl:Lent J θ chs r.2): ∃cs,Lds t.isProd cs (v.v θ)/\t.rep.rd J cs r.1:=by
 unfold xS at h
 split at h
 ·rename_i cs hb
  have ⟨q,hq,h⟩:=bind_some h
  have ⟨he,h⟩:=aj h
  cases ae h
  have ⟨c1,e,k⟩:=pn hq hv' hl
  rw[List.isEmpty_iff.1 he,List.append_nil] at e
  subst e
  exact ⟨_,by rw[hb];rfl,k⟩
 ·rename_i x hb
  have ⟨q,hq,h⟩:=bind_some h
  have ⟨he,h⟩:=aj h
  cases ae h
  have ⟨c1,e,k⟩:=pn hq (fun y hy=>by cases ak hy;exact hv') hl
  rw[List.isEmpty_iff.1 he,List.append_nil] at e
  subst e
  exact ⟨_,by rw[hb];rfl,k⟩
 grind
def Do (ps rs ps' rs':List Ty) (e:cur ps (Option (dens rs))):Option (cur ps' (Option (dens rs'))):=if h:ps=ps'/\rs=rs' then some (h.1 ▸ h.2 ▸ e) else none
theorem Dq {ps rs ps' rs':List Ty} {e:cur ps (Option (dens rs))} {e':cur ps' (Option (dens rs'))} (h:Do ps rs ps' rs' e=some e') {P:Program} {w0:World} {J:Hp} {v:Value} (hf:FnOk P w0 J v ps rs e):FnOk P w0 J v ps' rs' e':=by
 grind[Do,ae]
structure FnR (a b:List Ty) where
 e:cur a (Option (dens b))
 lent:List Hdr
structure CapR (p:PM) where
 d:p.den
 lent:List Hdr
section
variable (ft:FT) (chs:List Ent)
def T5 (rec:(a b:List Ty)->LV->Option (FnR a b)):(p:PM)->LV->Option (CapR p)
 | .cap T t,x=>match x with
  | .ptr h off=>bw (Nat.beq off 0) ((V2 h chs).bind fun b=>bw (Nat.beq b.T T) ((gL chs t b.cells).bind fun r=>bw r.2.1.isEmpty (some ⟨r.1,h::r.2.2⟩)))
  | .fz h T' t' d off=>bw (Nat.beq off 0&&Nat.beq T' T) ((mE t' t d).bind fun d=>some ⟨d,[]⟩)
  | _=>none
 | .capf T a b,x=>match x with
  | .ptr h off=>bw (Nat.beq off 0) ((V2 h chs).bind fun bl=>bw (Nat.beq bl.T T) (match bl.cells with
   | [y] =>(rec a b y).bind fun r=>some ⟨r.e,h::r.lent⟩
   | _=>none))
  | .fzf h T' a' b' e=>bw (Nat.beq T' T) ((Do a' b' a b e).bind fun e=>some ⟨e,[]⟩)
  | _=>none
 | _,_=>none
def K9 (rec:(a b:List Ty)->LV->Option (FnR a b)):(qs:List PM)->List LV->Option (denP qs×List Hdr)
 | [],[] =>some ((),[])
 | q::qs,x::xs=>(T5 chs rec q x).bind fun r=>(K9 rec qs xs).bind fun s=>some ((r.d,s.1),r.lent++s.2)
 | _,_=>none
def Fs:(ts:List Ty)->List (Bool×List LV)->Option (iV ts×List Hdr)
 | [],[] =>some ((),[])
 | t::ts,y::ys=>bw (y.1==t.isProd) ((gL chs t y.2).bind fun r=>bw (r.2.1.isEmpty&&(y.1 || Nat.beq y.2.length 1)) ((Fs ts ys).bind fun q=>some ((r.1,q.1),r.2.2++q.2)))
 | _,_=>none
end
def T6:List PM->Option (List Ty)
 | [] =>some []
 | .rd t::ps=>(T6 ps).bind fun ts=>some (t::ts)
 | _=>none
def rds:List Ty->List PM->List PM
 | [],qs=>qs
 | t::ts,qs=>.rd t::rds ts qs
def T7:(ts:List Ty)->(qs:List PM)->iV ts->denP qs->denP (rds ts qs)
 | [],_,_,e=>e
 | _::ts,qs,d,e=>(d.1,T7 ts qs d.2 e)
def T8 {R:Type} :(a:List Ty)->(iV a->R)->cur a R
 | [],g=>g ()
 | _::a,g=>fun x=>T8 a fun d=>g (x,d)
theorem Dr {R:Type} : ∀(a:List Ty) (g:iV a->R) (d:iV a),app a (T8 a g) d=g d
 | [],_,_=>rfl
 | _::a,g,d=>Dr a (fun x=>g (d.1,x)) d.2
def Pi:PM->Bool
 | .cap _ _=>true
 | .capf _ _ _=>true
 | _=>false
def uh:List PM->Bool
 | [] =>true
 | p::ps=>Pi p&&uh ps
def WB (chs:List Ent) (rec:(a b:List Ty)->LV->Option (FnR a b)) (a b:List Ty) (f:FS) (r1:List Ty) (qs:List PM) (first:List (Bool×List LV)) (capt:List LV):Option (FnR a b):=
 if h:f.ps=rds r1 (rds a qs)/\f.rs++outs f.ps=b then
  (Fs chs r1 first).bind fun d1=>(K9 chs rec qs capt).bind fun dc =>
   some ⟨T8 a fun x=>h.2 ▸ appP f.ps f.m (h.1 ▸ T7 r1 (rds a qs) d1.1 (T7 a qs x dc.1)),d1.2++dc.2⟩
 else none
def Yy (ft:FT) (chs:List Ent) (rec:(a b:List Ty)->LV->Option (FnR a b)) (a b:List Ty) (k:FuncId) (first:List (Bool×List LV)) (capt:List LV):Option (FnR a b):=(fs ft k).bind fun f=>(T6 (f.ps.take first.length)).bind fun r1 =>
 bw (!f.ov&&uh (f.ps.drop (first.length+a.length))) (WB chs rec a b f r1 (f.ps.drop (first.length+a.length)) first capt)
def La (h:Hdr) (chs:List Ent):Option (FuncId×List (Bool×List LV)×List LV):=(pull h chs).bind fun r=>match r.1.2.2 with
 | .clo k first capt=>some (k,first,capt)
 | _=>none
def T9 (ft:FT) (chs:List Ent):Nat->(a b:List Ty)->LV->Option (FnR a b)
 | 0,_,_,_=>none
 | n+1,a,b,x=>match x with
  | .fn h a' b' e=>(Do a' b' a b e).bind fun e=>some ⟨e,[]⟩
  | .own h=>(La h chs).bind fun q=>Yy ft chs (T9 ft chs n) a b q.1 q.2.1 q.2.2
  | .val v=>match v with
   | .func (.func k) f c=>bw (f.toList.isEmpty&&c.toList.isEmpty) (Yy ft chs (T9 ft chs n) a b k [] [])
   | _=>none
  | _=>none
section
variable {P:Program} {w0:World} {J J':Hp} {θ:Th} {n:Nat} {chs chs0:List Ent} {ft:FT}
theorem Ds: ∀(rs us:List Ty) (i:Nat) (d:iV (rs++us)) (v:Value),us= [] ->vo i (rs++us) d v=vo i rs (hFst rs us d) v
 | [],us,i,d,v,h=>by subst h;rfl
 | t::rs,us,i,d,v,h=>by
  show Ch.own _ _ _::vo (i+1) (rs++us) d.2 v=Ch.own _ _ _::vo (i+1) rs (hFst rs us d.2) v
  rw[Ds rs us (i+1) d.2 v h];rfl
theorem Lb (rs us:List Ty) (d:iV (rs++us)) (v:Value) (h:us= []):resGv (rs++us) d v=resGv rs (hFst rs us d) v:=by
 match rs,d with
 | [],d=>subst h;rfl
 | [t],d=>subst h;rfl
 | t::u::rs,d=>exact Ds (t::u::rs) us 0 d v h
theorem Lc (rs us:List Ty) (v:Value) (h:us= []):resFa rs v->resFa (rs++us) v:=by
 grind
theorem BK {qs:List PM} : ∀ts:List Ty,outs (rds ts qs)=outs qs
 | [] =>rfl
 | _::ts=>BK ts
theorem Pj {qs:List PM} :uh qs=true->outs qs= []:=by
 induction qs with
 | nil=>intro _;rfl
 | cons q qs ih =>
  intro h
  have h:(Pi q&&uh qs)=true:=h
  rw[ah] at h
  cases q with
  | cap _ _=>exact ih h.2
  | capf _ _ _=>exact ih h.2
  | _=>cases h.1
theorem BL {γ:Value} {qs:List PM} : ∀(ts:List Ty) (vs us:List Value) (d:iV ts) (e:denP qs),vs.length=ts.length->owCh γ (rds ts qs) (vs++us) (T7 ts qs d e)=owCh γ qs us e
 | [],[],us,d,e,_=>rfl
 | _::ts,v::vs,us,d,e,h=>BL ts vs us d.2 e (by grind)
 | [],_::_,_,_,_,h=>by cases h
 | _::_,[],_,_,_,h=>by cases h
theorem Pm {γ:Value} {qs:List PM} : ∀(us:List Value) (e:denP qs),uh qs=true->owCh γ qs us e= []:=by
 induction qs with
 | nil=>intro us e _;rfl
 | cons q qs ih =>
  intro us e h
  cases us with
  | nil=>rfl
  | cons u us =>
   have h:(Pi q&&uh qs)=true:=h
   rw[ah] at h
   cases q with
   | cap _ _=>exact ih us e.2 h.2
   | capf _ _ _=>exact ih us e.2 h.2
   | _=>cases h.1
theorem Dt {γ:Value} {qs:List PM} {us:List Value} : ∀(ts:List Ty) (vs:List Value),vs.length=ts.length->uh qs=true-> ∀d:iV (outs (rds ts qs)),outCh γ (rds ts qs) (vs++us) d= []
 | [],[],_,h=>fun d=>by
  have key: ∀ {qs:List PM} (us:List Value) (d:iV (outs qs)),uh qs=true->outCh γ qs us d= []:=by
   intro qs
   induction qs with
   | nil=>intro us d _;rfl
   | cons q qs ih =>
    intro us d h
    cases us with
    | nil=>rfl
    | cons u us =>
     have h:(Pi q&&uh qs)=true:=h
     rw[ah] at h
     cases q with
     | cap _ _=>exact ih us d h.2
     | capf _ _ _=>exact ih us d h.2
     | _=>cases h.1
  exact key us d h
 | _::ts,v::vs,hl,h=>fun d=>Dt ts vs (by grind) h d
 | [],_::_,h,_=>by cases h
 | _::_,[],h,_=>by cases h
theorem xT {γ:Value} {qs:List PM} {us:List Value} {e:denP qs} (h:PArgs P w0 J γ qs us e): ∀ {ts:List Ty} {vs:List Value} {d:iV ts},KE J ts vs d->PArgs P w0 J γ (rds ts qs) (vs++us) (T7 ts qs d e)/\vs.length=ts.length
 | [],vs,d,hr=>by
  subst hr
  exact ⟨h,rfl⟩
 | t::ts,vs,d,hr=>by
  obtain ⟨v,cs,r,rfl,k1,k2,k3⟩:=hr
  have ⟨q1,q2⟩:=xT h k3
  exact ⟨⟨v,r++us,rfl,⟨cs,k1,k2⟩,q1⟩,by grind⟩
theorem Hi {h:Hdr} {b:Blk} (k:V2 h chs=some b) (hc: ∀e∈chs,okE P w0 J θ n chs0 e):okE P w0 J θ n chs0 (b.ent h):=hc _ ((jq (K8 k).1).mem_iff.2 (List.mem_cons_self ..))
theorem Pn {rec:(a b:List Ty)->LV->Option (FnR a b)} (hrec: ∀a b x r,rec a b x=some r->x.ok P w0 J θ n->Lent J' θ chs r.lent->FnOk P w0 J' (x.v θ) a b r.e) (hJ:J.le J') (hc: ∀e∈chs,okE P w0 J θ n chs0 e) {p:PM} {x:LV} {r:CapR p} (h:T5 chs rec p x=some r) (hx:x.ok P w0 J θ n) (hl:Lent J' θ chs r.lent):Y0 P w0 J' undef p (x.v θ) r.d:=by
 cases p with
 | cap T t =>
  cases x with
  | ptr hh off =>
   have ⟨ho,h⟩:=aj (show bw (Nat.beq off 0) _=some r from h)
   have ⟨b,hb,h⟩:=bind_some h
   have ⟨hT,h⟩:=aj h
   have ⟨q,hq,h⟩:=bind_some h
   have ⟨he,h⟩:=aj h
   cases ae h
   cases aq ho
   have hT:=aq hT
   have hk:=(hl hh (by simp)).2.2 b hb
   have hbo:=Hi (P:=P) (w0:=w0) (J:=J) (n:=n) hb hc
   have ⟨c1,e1,k⟩:=pn (J:=J') hq (fun x hx=>LV.ok_same Same.rfl (ay _) (hbo.2.2 x hx) hJ) (fun y hy=>hl y (by grind))
   exact ⟨_,rfl,_,by grind,k⟩
  | fz hh T' t' d off =>
   have ⟨ho,h⟩:=aj (show bw (Nat.beq off 0&&Nat.beq T' T) _=some r from h)
   rw[ah] at ho
   have ⟨d',hd,h⟩:=bind_some h
   cases ae h
   cases aq ho.1
   cases aq ho.2
   have ⟨h1,cells,h2,h3⟩:=hx
   exact ⟨_,rfl,cells,hJ _ _ h2,gR hd (Rep.rd_mono _ h3 hJ)⟩
  | _=>cases h
 | capf T a b =>
  cases x with
  | ptr hh off =>
   have ⟨ho,g1⟩:=aj (show bw (Nat.beq off 0) _=some r from h)
   have ⟨bl,hb,g2⟩:=bind_some g1
   have ⟨hT,g3⟩:=aj g2
   cases aq ho
   have hT:=aq hT
   have hbo:=Hi (P:=P) (w0:=w0) (J:=J) (n:=n) hb hc
   split at g3
   ·rename_i y hy
    have ⟨q,hq,g4⟩:=bind_some g3
    cases ae g4
    have hk:=(hl hh (by simp)).2.2 bl hb
    exact ⟨_,rfl,_,by grind,hrec a b y q hq (hbo.2.2 y (by grind)) fun z hz=>hl z (by grind)⟩
   grind
  | fzf hh T' a' b' e =>
   have ⟨ho,h⟩:=aj (show bw (Nat.beq T' T) _=some r from h)
   have ⟨e',he,h⟩:=bind_some h
   cases ae h
   cases aq ho
   have ⟨h1,u,h2,h3⟩:=hx
   exact ⟨_,rfl,u,hJ _ _ h2,(Dq he h3).mono hJ⟩
  | _=>cases h
 | _=>cases h
theorem Du {rec:(a b:List Ty)->LV->Option (FnR a b)} (hrec: ∀a b x r,rec a b x=some r->x.ok P w0 J θ n->Lent J' θ chs r.lent->FnOk P w0 J' (x.v θ) a b r.e) (hJ:J.le J') (hc: ∀e∈chs,okE P w0 J θ n chs0 e): ∀ {qs:List PM} {xs:List LV} {r:denP qs×List Hdr},K9 chs rec qs xs=some r->(∀x∈xs,x.ok P w0 J θ n)->Lent J' θ chs r.2->PArgs P w0 J' undef qs (xs.map (·.v θ)) r.1
 | [],[],r,h,_,_=>by rfl
 | q::qs,x::xs,r,h,hx,hl=>by
  have ⟨a,ha,h⟩:=bind_some (show (T5 chs rec q x).bind _=some r from h)
  have ⟨s,hs,h⟩:=bind_some h
  cases ae h
  exact ⟨_,_,rfl,Pn hrec hJ hc ha (hx x (by simp)) hl.l,Du hrec hJ hc hs (fun y hy=>hx y (by grind)) hl.r⟩
 | [],_::_,r,h,_,_=>by cases h
 | _::_,[],r,h,_,_=>by cases h
theorem An (hJ:J.le J'): ∀ {ts:List Ty} {ys:List (Bool×List LV)} {r:iV ts×List Hdr},Fs chs ts ys=some r->(∀y∈ys,∀x∈y.2,x.ok P w0 J θ n)->Lent J' θ chs r.2->KE J' ts (ys.map (jR θ)) r.1
 | [],[],r,h,_,_=>by rfl
 | t::ts,y::ys,r,h,hy,hl=>by
  have ⟨hg,h⟩:=aj (show bw (y.1==t.isProd) _=some r from h)
  have ⟨a,ha,h⟩:=bind_some h
  have ⟨he,h⟩:=aj h
  have ⟨q,hq,h⟩:=bind_some h
  cases ae h
  have hg:y.1=t.isProd:=by simpa using hg
  have ⟨c1,e1,k⟩:=pn (J:=J') ha (fun x hx=>LV.ok_same Same.rfl (ay _) (hy y (by simp) x hx) hJ) hl.l
  refine ⟨_,y.2.map (·.v θ),_,rfl,?_,by grind,An hJ hq (fun z hz=>hy z (by grind)) hl.r⟩
  have ⟨yb,yl⟩:=y
  subst hg
  cases hb:t.isProd with
  | true=>rfl
  | false =>
   have hlen:yl.length=1:=aq (by grind)
   obtain ⟨x,rfl⟩:=List.length_eq_one_iff.1 hlen
   rfl
 | [],_::_,r,h,_,_=>by cases h
 | _::_,[],r,h,_,_=>by cases h
theorem Ld (hF:FTok P ft) (hlay:Lay P J) {rec:(a b:List Ty)->LV->Option (FnR a b)} (hrec: ∀a b x r,rec a b x=some r->x.ok P w0 J θ n-> ∀J',J.le J'->Lent J' θ chs r.lent->FnOk P w0 J' (x.v θ) a b r.e) (hJ:J.le J') (hc: ∀e∈chs,okE P w0 J θ n chs0 e) {a b:List Ty} {k:FuncId} {first:List (Bool×List LV)} {capt:List LV} {r:FnR a b} (h:Yy ft chs rec a b k first capt=some r)
  (h1: ∀y∈first,∀x∈y.2,x.ok P w0 J θ n) (h2: ∀x∈capt,x.ok P w0 J θ n) (hl:Lent J' θ chs r.lent):FnOk P w0 J' (.func (.func k) (first.map (jR θ)).toArray (capt.map (·.v θ)).toArray) a b r.e:=by
 have ⟨f,hf,h⟩:=bind_some h
 have ⟨r1,hr1,h⟩:=bind_some h
 have ⟨hcap,h⟩:=aj h
 rw[ah] at hcap
 have hov:f.ov=false:=by simpa using hcap.1
 replace hcap:=hcap.2
 have hfo:=hF.get hf
 have hen:=hfo.en hov
 have hcn:=hfo.con hov
 generalize f.ps.drop (first.length+a.length)=qs at h hcap
 unfold WB at h
 split at h
 ·rename_i hh
  have ⟨d1,hd1,h⟩:=bind_some h
  have ⟨dc,hdc,h⟩:=bind_some h
  cases ae h
  obtain ⟨ps,rs,m⟩:=f
  have ⟨e1,e2⟩:=hh
  simp only at e1 e2
  subst e1
  subst e2
  refine ⟨k,_,_,rfl,hen,fun J2 hJ2 args d hargs q hq=>?_⟩
  have hl2:Lent J2 θ chs (d1.2++dc.2):=fun x hx=>⟨fun z hz=>Rep.rd_mono _ ((hl x hx).1 z hz) hJ2,fun z hz=>Rep.rd_mono _ ((hl x hx).2.1 z hz) hJ2,fun z hz=>hJ2 _ _ ((hl x hx).2.2 z hz)⟩
  have k1:=An (hJ.trans hJ2) hd1 h1 hl2.l
  have k2:=Du (fun a b x r hr hx hlx=>hrec a b x r hr hx J2 (hJ.trans hJ2) hlx) (hJ.trans hJ2) hc hdc h2 hl2.r
  have ⟨k3,k4⟩:=xT k2 hargs
  have ⟨k5,k6⟩:=xT k3 k1
  rw[Dr] at hq
  have hcon:=hcn w0 J2 undef _ _ q (hlay.mono (hJ.trans hJ2)) k5 hq
  have hou:outs (rds r1 (rds a qs))= []:=by rw[BK,BK];exact Pj hcap
  have how:owCh undef (rds r1 (rds a qs)) ((first.map (jR θ))++(args++capt.map (·.v θ))) (T7 r1 (rds a qs) d1.1 (T7 a qs d dc.1))= []:=by
   rw[BL _ _ _ _ _ k6,BL _ _ _ _ _ k4];exact Pm _ _ hcap
  have hout: ∀z,outCh undef (rds r1 (rds a qs)) ((first.map (jR θ))++(args++capt.map (·.v θ))) z= []:=by
   intro z
   have hrd: ∀(x y:List Ty),rds x (rds y qs)=rds (x++y) qs:=by
    intro x y
    induction x with
    | nil=>rfl
    | cons t x ih=>exact congrArg (PM.rd t:: ·) ih
   have key: ∀(X:List PM),X=rds (r1++a) qs-> ∀z:iV (outs X),outCh undef X ((first.map (jR θ))++(args++capt.map (·.v θ))) z= []:=by
    rintro X rfl z
    rw[<-aD]
    exact Dt (r1++a) _ (by grind) hcap z
   exact key _ (hrd r1 a) z
  rw[how] at hcon
  intro w C hS
  have hS':=hcon w C hS
  grind[jR,Lc,Lb,outs,rds,toH]
 grind
theorem Hj {h:Hdr} {q:FuncId×List (Bool×List LV)×List LV} (k:La h chs=some q): ∃ver,(h,ver,Chk.clo q.1 q.2.1 q.2.2)∈chs:=by
 have ⟨r,hr,k⟩:=bind_some k
 have ⟨p,e⟩:=fh hr
 grind
theorem Ft (hF:FTok P ft) (hlay:Lay P J) (hc: ∀e∈chs,okE P w0 J θ n chs0 e): ∀ {m:Nat} {a b:List Ty} {x:LV} {r:FnR a b},T9 ft chs m a b x=some r->x.ok P w0 J θ n-> ∀J',J.le J'->Lent J' θ chs r.lent->FnOk P w0 J' (x.v θ) a b r.e
 | 0,_,_,_,_,h,_,_,_,_=>by cases h
 | m+1,a,b,x,r,h,hx,J',hJ,hl=>by
  have hrec: ∀a b x r,T9 ft chs m a b x=some r->x.ok P w0 J θ n-> ∀J',J.le J'->Lent J' θ chs r.lent->FnOk P w0 J' (x.v θ) a b r.e:=fun a b x r h hx J' hJ hl=>Ft hF hlay hc h hx J' hJ hl
  cases x with
  | fn hh a' b' e =>
   have ⟨e',he,h⟩:=bind_some (show (Do a' b' a b e).bind _=some r from h)
   cases ae h
   exact (Dq he hx.2).mono hJ
  | own hh =>
   have ⟨q,hq,h⟩:=bind_some (show (La hh chs).bind _=some r from h)
   have ⟨ver,hm⟩:=Hj hq
   obtain ⟨-,-,k1,k2,k3⟩:=hc _ hm
   have:=Ld hF hlay hrec hJ hc h k1 k2 hl
   show FnOk P w0 J' (hv θ hh) a b r.e
   grind
  | val v =>
   cases v with
   | func fk f c =>
    cases fk with
    | func k =>
     have ⟨he,h⟩:=aj (show bw (f.toList.isEmpty&&c.toList.isEmpty) (Yy ft chs (T9 ft chs m) a b k [] [])=some r from h)
     rw[ah,List.isEmpty_iff,List.isEmpty_iff] at he
     have:=Ld hF hlay hrec hJ hc h (fun y hy=>by cases hy) (fun y hy=>by cases hy) hl
     have e1:f= #[]:=by simpa using he.1
     have e2:c= #[]:=by simpa using he.2
     subst e1
     subst e2
     exact this
    | _=>cases h
   | _=>cases h
  | _=>cases h
end
def BM:List Hdr->List Ent->Option (List Ent×List Ent)
 | [],chs=>some ([],chs)
 | h::hs,chs=>(pull h chs).bind fun r=>(BM hs r.2).bind fun q=>some (r.1::q.1,q.2)
theorem vv: ∀ {hs:List Hdr} {chs:List Ent} {r:List Ent×List Ent},BM hs chs=some r->chs.Perm (r.1++r.2)/\r.1.map (·.1)=hs
 | [],chs,r,h=>by cases ae (show some _=some r from h);simp_all
 | h'::hs,chs,r,h=>by
  have ⟨q,hq,h⟩:=bind_some (show (pull h' chs).bind _=some r from h)
  have ⟨q2,hq2,h⟩:=bind_some h
  cases ae h
  have ⟨p1,e1⟩:=fh hq
  have ⟨p2,e2⟩:=vv hq2
  exact ⟨p1.trans (p2.cons _),by grind⟩
def ZU (h:Hdr) (l:List Hdr):Bool:=l.any fun x=>Hdr.beq x h
def Fu:List Hdr->List Hdr->List Hdr
 | [],_=>[]
 | h::hs,acc=>if ZU h acc then Fu hs acc else h::Fu hs (h::acc)
theorem xU {h:Hdr} : ∀ {hs acc:List Hdr},h∈hs->h∈Fu hs acc\/h∈acc
 | x::hs,acc,hm=>by
  unfold Fu
  split
  ·rename_i hh
   rcases az hm with rfl | hm
   ·have ⟨y,hy,he⟩:=List.any_eq_true.1 hh
    grind[Hdr.beq_eq]
   ·exact xU hm
  ·rcases az hm with rfl | hm
   ·grind
   ·rcases xU (acc:=x::acc) hm with h1 | h1
    ·grind
    grind
end R
namespace R
open Go.RowKit
open D
def mI:AV->Bool
 | .agg _=>true
 | _=>false
theorem xV {v:AV} {cs:List LV} (h:kz v=some cs) {P:Program} {w0:World} {J:Hp} {θ:Th} {n:Nat} {chs:List Ent} (hv':v.ok P w0 J θ n chs) {b:Bool} (hb:mI v=b):jU b (v.v θ)=cs.map (·.v θ)/\nC (v.v θ)=b:=by
 subst hb
 cases v with
 | agg xs =>
  cases ae (show some xs=some cs from h)
  exact ⟨rfl,rfl⟩
 | one x =>
  cases ae (show some [x] =some cs from h)
  refine ⟨rfl,?_⟩
  have h1:=LV.one (show LV.ok P w0 J θ n x from hv')
  show nC (x.v θ)=false
  generalize x.v θ=u at h1
  cases u <;> first | rfl | cases h1
 | _=>cases h
def qD (h:Hdr) (T:TypeId) (t:Ty) (chs:List Ent):Option (t.den×List Ent×List Ent):=(pull h chs).bind fun r=>match r.1.2.2 with
 | .box T' t' d=>bw (Nat.beq T' T) ((mF t' t d).bind fun d=>some (d,[r.1],r.2))
 | .blk T' cells=>bw (Nat.beq T' T) ((cy t cells r.2).bind fun q=>bw q.cells.isEmpty (some (q.d,r.1::q.used,q.rest)))
 | _=>none
theorem Ua {I:Hp} {w:World} {F:List Nat} {ls:List Ch} {α:Type} {R:Rep α} {b:Nat} {T:TypeId} {cells:List Value} {d:α} (h:Sep I (Ch.blk b cells T::ls) w F) (k:Bun I ls R cells d):(Ch.box b T R d).holds I w F:=by
 obtain ⟨G,K,rfl,⟨rfl,h1⟩,h2⟩:=h
 exact ⟨cells,K,rfl,h1,k w K h2⟩
section
variable {P:Program} {w0:World} {J J':Hp} {θ θ':Th} {n m:Nat} {chs chs0:List Ent}
theorem nE {h:Hdr} {T:TypeId} {t:Ty} {chs:List Ent} {q:t.den×List Ent×List Ent} (k:qD h T t chs=some q):chs.Perm (q.2.1++q.2.2):=by
 have ⟨r,hr,k⟩:=bind_some k
 have ⟨p,e⟩:=fh hr
 have ⟨⟨h',ver,c⟩,rest⟩:=r
 cases c with
 | box T' t' d =>
  have ⟨hT,k⟩:=aj (show bw (Nat.beq T' T) _=some q from k)
  have ⟨d',hd,k⟩:=bind_some k
  grind
 | blk T' cells =>
  have ⟨hT,k⟩:=aj (show bw (Nat.beq T' T) _=some q from k)
  have ⟨q',hq,k⟩:=bind_some k
  have ⟨he,k⟩:=aj k
  cases ae k
  exact p.trans ((eW hq).cons _)
 | _=>cases k
theorem rN {h:Hdr} {T:TypeId} {t:Ty} {q:t.den×List Ent×List Ent} (k:qD h T t chs=some q) (hJ:J.le J') (hc: ∀e∈chs,okE P w0 J θ n chs0 e):chs.Perm (q.2.1++q.2.2)/\ ∀w F,Sep J' (q.2.1.map (toCh P θ)) w F->(Ch.box (bk (hv θ h)) T t.rep q.1).holds J' w F:=by
 have ⟨r,hr,k⟩:=bind_some k
 have ⟨p,e⟩:=fh hr
 have ⟨⟨h',ver,c⟩,rest⟩:=r
 obtain rfl:h'=h:=e
 cases c with
 | box T' t' d =>
  have ⟨hT,k⟩:=aj (show bw (Nat.beq T' T) _=some q from k)
  have ⟨d',hd,k⟩:=bind_some k
  cases ae k
  cases aq hT
  obtain ⟨rfl,rfl⟩:=mG hd
  refine ⟨p,fun w F hs=>?_⟩
  obtain ⟨G,K,rfl,h1,rfl⟩:=hs
  rw[List.append_nil];exact h1
 | blk T' cells =>
  have ⟨hT,k⟩:=aj (show bw (Nat.beq T' T) _=some q from k)
  have ⟨q',hq,k⟩:=bind_some k
  have ⟨he,k⟩:=aj k
  cases ae k
  cases aq hT
  have hok:=hc _ (p.mem_iff.2 (List.mem_cons_self ..))
  have ⟨p2,c1,e1,e2⟩:=gT (J:=J') (P:=P) (w0:=w0) (θ:=θ) (n:=n) hq fun x hx=>LV.ok_same Same.rfl (ay _) (hok.2.2 x hx) hJ
  rw[List.isEmpty_iff.1 he,List.append_nil] at e1
  subst e1
  exact ⟨p.trans (p2.cons _),fun w F hs=>Ua hs e2⟩
 | _=>cases k
structure CurQ where
 g:Hdr
 d:List Int×Int×Int
 ent:Ent
 rest:List Ent
def te (h:Hdr) (T E:TypeId) (chs:List Ent):Option CurQ:=(pull h chs).bind fun r=>match r.1.2.2 with
 | .blk T' [.rd g t xs,.val (.int .i64 x),.val (.int .i64 y)] =>bw (Nat.beq T' T) ((mF t (.sl E (.int .u8)) xs).bind fun xs=>some ⟨g,(xs,x,y),r.1,r.2⟩)
 | _=>none
theorem mC {h:Hdr} {T E:TypeId} {chs:List Ent} {q:CurQ} (k:te h T E chs=some q):chs.Perm (q.ent::q.rest)/\ ∃ver,q.ent=(h,ver,.blk T [.rd q.g (.sl E (.int .u8)) q.d.1,.val (.int .i64 q.d.2.1),.val (.int .i64 q.d.2.2)]):=by
 have ⟨r,hr,k2⟩:=bind_some k
 have ⟨p,e⟩:=fh hr
 split at k2
 ·have ⟨hT,k3⟩:=aj k2
  have ⟨xs',hx,k4⟩:=bind_some k3
  grind[ae,aq,mG]
 grind
inductive GhQ
 | cur (h:Hdr) (xs:List Int)
 | box (h:Hdr)
def GhQ.v (θ:Th):GhQ->Value
 | .cur h _=>hv θ h
 | .box h=>.pointer (some ⟨bk (hv θ h),0,none⟩)
def Y1 (h:Hdr):Option GhQ->Bool
 | none=>true
 | some (.box h')=>Hdr.beq h' h
 | _=>false
theorem BN {h:Hdr} {o:Option GhQ} (k:Y1 h o=true): ∀q,o=some q->q= .box h:=by
 rintro q rfl
 cases q with
 | cur _ _=>cases k
 | box h'=>rw[Hdr.beq_eq k]
def Yz (h:Hdr) (chs:List Ent):Option (FuncId×Hdr):=(La h chs).bind fun q=>match q with
 | (k,[],[.ptr hb off])=>if Nat.beq off 0 then some (k,hb) else none
 | _=>none
theorem BO {h:Hdr} {chs:List Ent} {q:FuncId×Hdr} (k:Yz h chs=some q): ∃ver,(h,ver,Chk.clo q.1 [] [.ptr q.2 0])∈chs:=by
 have ⟨⟨g,f,c⟩,hr,k⟩:=bind_some k
 grind[Hj,ae,aq]
structure Args (ps:List PM) where
 d:denP ps
 lent:List Hdr
 own:List Ent
 rest:List Ent
 gh:Option GhQ
def dq (ft:FT) (s:Sg):(chs:List Ent)->(ps:List PM)->List AV->Option (Args ps)
 | chs,[],[] =>some ⟨(),[],[],chs,none⟩
 | chs,.rd t::ps,v::xs=>(xS s.chs t v).bind fun a=>(dq ft s chs ps xs).bind fun r=>some ⟨(a.1,r.d),a.2++r.lent,r.own,r.rest,r.gh⟩
 | chs,.ow t::ps,v::xs=>bw (mI v==t.isProd) ((kz v).bind fun cs=>(cy t cs chs).bind fun q=>bw q.cells.isEmpty ((dq ft s q.rest ps xs).bind fun r=>some ⟨(q.d,r.d),r.lent,q.used++r.own,r.rest,r.gh⟩))
 | chs,.eat t::ps,v::xs=>bw (mI v==t.isProd) ((kz v).bind fun cs=>(cy t cs chs).bind fun q=>bw q.cells.isEmpty ((dq ft s q.rest ps xs).bind fun r=>some ⟨(q.d,r.d),r.lent,q.used++r.own,r.rest,r.gh⟩))
 | chs,.fn a b::ps,x::xs=>match x with
  | .one y=>(T9 ft s.chs 4 a b y).bind fun q=>(dq ft s chs ps xs).bind fun r=>some ⟨(q.e,r.d),q.lent++r.lent,r.own,r.rest,r.gh⟩
  | _=>none
 | chs,.fk g::ps,x::xs=>match x with
  | .one (.val (.func (.func k) f c))=>bw (Nat.beq k g&&f.toList.isEmpty&&c.toList.isEmpty) ((dq ft s chs ps xs).bind fun r=>some ⟨((),r.d),r.lent,r.own,r.rest,r.gh⟩)
  | _=>none
 | chs,.ptr T t::ps,x::xs=>match x with
  | .one (.ptr h off)=>bw (Nat.beq off 0) ((qD h T t chs).bind fun q=>(dq ft s q.2.2 ps xs).bind fun r=>some ⟨(q.1,r.d),r.lent,q.2.1++r.own,r.rest,r.gh⟩)
  | _=>none
 | chs,.crs T E::ps,x::xs=>match x with
  | .one (.ptr h off)=>bw (Nat.beq off 0) ((te h T E chs).bind fun q=>(dq ft s q.rest ps xs).bind fun r=>bw r.gh.isNone (some ⟨(q.d,r.d),r.lent,q.ent::r.own,r.rest,some (.cur q.g q.d.1)⟩))
  | _=>none
 | chs,.kb g T t::ps,x::xs=>match x with
  | .one (.own h)=>(Yz h s.chs).bind fun c=>bw (Nat.beq c.1 g) ((qD c.2 T t chs).bind fun q=>(dq ft s q.2.2 ps xs).bind fun r=>bw (Y1 c.2 r.gh) (some ⟨(q.1,r.d),r.lent,q.2.1++r.own,r.rest,some (.box c.2)⟩))
  | _=>none
 | chs,.kc g::ps,x::xs=>match x with
  | .one (.own h)=>(Yz h s.chs).bind fun c=>bw (Nat.beq c.1 g) ((dq ft s chs ps xs).bind fun r=>bw (Y1 c.2 r.gh) (some ⟨((),r.d),r.lent,r.own,r.rest,some (.box c.2)⟩))
  | _=>none
 | _,_,_=>none
theorem fE {ft:FT} {s:Sg} (hF:FTok P ft) (hf:Fine P w0 J θ s) (hJ:J.le J'): ∀ {ps:List PM} {xs:List AV} {chs:List Ent} {r:Args ps},dq ft s chs ps xs=some r->(∀x∈xs,x.ok P w0 J θ s.nxt s.chs)->(∀e∈chs,e∈s.chs)->Lent J' θ s.chs r.lent-> ∀γ,(∀q,r.gh=some q->γ=q.v θ)->
  PArgs P w0 J' γ ps (xs.map (·.v θ)) r.d/\chs.Perm (r.own++r.rest)/\qy J' (r.own.map (toCh P θ)) (owCh γ ps (xs.map (·.v θ)) r.d)
 | [],[],chs,r,h,_,_,_,γ,hγ=>by
  cases ae (show some _=some r from h)
  exact ⟨Eq.refl _,List.Perm.refl _,tU⟩
 | .rd t::ps,x::xs,chs,r,h,hx,hc,hl,γ,hγ=>by
  have ⟨a,ha,h⟩:=bind_some (show (xS s.chs t x).bind _=some r from h)
  have ⟨q,hq,h⟩:=bind_some h
  cases ae h
  have ⟨k1,k2,k3⟩:=fE hF hf hJ hq (fun y hy=>hx y (by grind)) hc hl.r γ hγ
  have ⟨cs,c1,c2⟩:=Dn ha (AV.ok_same Same.rfl (ay _) Newer.rfl (hx x (by simp)) hJ) hl.l
  exact ⟨⟨_,_,rfl,⟨cs,c1,c2⟩,k1⟩,k2,k3⟩
 | .ow t::ps,x::xs,chs,r,h,hx,hc,hl,γ,hγ=>by
  have ⟨hg,h⟩:=aj (show bw (mI x==t.isProd) _=some r from h)
  have hg:mI x=t.isProd:=by simpa using hg
  have ⟨cs,hcs,h⟩:=bind_some h
  have ⟨q,hq,h⟩:=bind_some h
  have ⟨he,h⟩:=aj h
  have ⟨r',hr,h⟩:=bind_some h
  cases ae h
  have hvo:=hx x (by simp)
  have ⟨c1,c2⟩:=xV hcs hvo hg
  have hok:=(iy hcs (AV.ok_same Same.rfl (ay _) Newer.rfl hvo hJ)).1
  have ⟨p,cc,e1,e2⟩:=gT (J:=J') (θ:=θ) hq hok
  rw[List.isEmpty_iff.1 he,List.append_nil] at e1
  subst e1
  have ⟨k1,k2,k3⟩:=fE hF hf hJ hr (fun y hy=>hx y (by grind)) (fun e h=>hc e (p.mem_iff.2 (by simp[h]))) hl γ hγ
  refine ⟨⟨_,_,rfl,c2,k1⟩,by rw[aD];exact p.trans (k2.append_left _),?_⟩
  show qy J' ((q.used++r'.own).map _) (Ch.own t.rep (jU t.isProd (x.v θ)) q.d::_)
  rw[aM,c1]
  exact qz e2 k3
 | .eat t::ps,x::xs,chs,r,h,hx,hc,hl,γ,hγ=>by
  have ⟨hg,h⟩:=aj (show bw (mI x==t.isProd) _=some r from h)
  have hg:mI x=t.isProd:=by simpa using hg
  have ⟨cs,hcs,h⟩:=bind_some h
  have ⟨q,hq,h⟩:=bind_some h
  have ⟨he,h⟩:=aj h
  have ⟨r',hr,h⟩:=bind_some h
  cases ae h
  have hvo:=hx x (by simp)
  have ⟨c1,c2⟩:=xV hcs hvo hg
  have hok:=(iy hcs (AV.ok_same Same.rfl (ay _) Newer.rfl hvo hJ)).1
  have ⟨p,cc,e1,e2⟩:=gT (J:=J') (θ:=θ) hq hok
  rw[List.isEmpty_iff.1 he,List.append_nil] at e1
  subst e1
  have ⟨k1,k2,k3⟩:=fE hF hf hJ hr (fun y hy=>hx y (by grind)) (fun e h=>hc e (p.mem_iff.2 (by simp[h]))) hl γ hγ
  refine ⟨⟨_,_,rfl,c2,k1⟩,by rw[aD];exact p.trans (k2.append_left _),?_⟩
  show qy J' ((q.used++r'.own).map _) (Ch.own t.rep (jU t.isProd (x.v θ)) q.d::_)
  rw[aM,c1]
  exact qz e2 k3
 | .fn a b::ps,x::xs,chs,r,h,hx,hc,hl,γ,hγ=>by
  unfold dq at h
  split at h
  ·rename_i y
   have ⟨q,hq,h⟩:=bind_some h
   have ⟨r',hr,h⟩:=bind_some h
   cases ae h
   have ⟨k1,k2,k3⟩:=fE hF hf hJ hr (fun z hz=>hx z (by grind)) hc hl.r γ hγ
   exact ⟨⟨_,_,rfl,Ft hF hf.lay hf.chs hq (show LV.ok P w0 J θ s.nxt y from hx (.one y) (by simp)) J' hJ hl.l,k1⟩,k2,k3⟩
  grind
 | .ptr T t::ps,x::xs,chs,r,h,hx,hc,hl,γ,hγ=>by
  unfold dq at h
  split at h
  ·have ⟨ho,h⟩:=aj h
   have ⟨q,hq,h⟩:=bind_some h
   have ⟨r',hr,h⟩:=bind_some h
   cases ae h
   cases aq ho
   have ⟨p,hb⟩:=rN (P:=P) (w0:=w0) (J:=J) (J':=J') (θ:=θ) (n:=s.nxt) (chs0:=s.chs) hq hJ fun e he=>hf.chs e (hc e he)
   have ⟨k1,k2,k3⟩:=fE hF hf hJ hr (fun y hy=>hx y (by grind)) (fun e h=>hc e (p.mem_iff.2 (by simp[h]))) hl γ hγ
   refine ⟨⟨_,_,rfl,⟨_,rfl⟩,k1⟩,by rw[aD];exact p.trans (k2.append_left _),?_⟩
   rw[aM]
   intro w F hs
   obtain ⟨G,K,rfl,h1,h2⟩:=hs.split
   exact ⟨G,K,rfl,hb w G h1,k3 w K h2⟩
  grind
 | .fk g::ps,x::xs,chs,r,h,hx,hc,hl,γ,hγ=>by
  unfold dq at h
  split at h
  ·have ⟨hk,h⟩:=aj h
   have ⟨r',hr,h⟩:=bind_some h
   cases ae h
   have ⟨k1,k2,k3⟩:=fE hF hf hJ hr (fun z hz=>hx z (by grind)) hc hl γ hγ
   rw[ah,ah] at hk
   have ⟨⟨hk1,hk2⟩,hk3⟩:=hk
   cases aq hk1
   have ef:=Array.ext' (List.isEmpty_iff.1 hk2)
   have ec:=Array.ext' (List.isEmpty_iff.1 hk3)
   subst ef;subst ec
   exact ⟨⟨_,_,rfl,rfl,k1⟩,k2,k3⟩
  grind
 | .crs T E::ps,x::xs,chs,r,h,hx,hc,hl,γ,hγ=>by
  unfold dq at h
  split at h
  ·have ⟨ho,h⟩:=aj h
   have ⟨q,hq,h⟩:=bind_some h
   have ⟨r',hr,h⟩:=bind_some h
   have ⟨hn,h⟩:=aj h
   cases ae h
   cases aq ho
   have hg:=hγ _ rfl
   subst hg
   have ⟨p,ver,he⟩:=mC hq
   have hok:=hf.chs _ (hc _ (p.mem_iff.2 (List.mem_cons_self ..)))
   rw[he] at hok
   have hrd:LV.ok P w0 J θ s.nxt (.rd q.g (.sl E (.int .u8)) q.d.1):=hok.2.2 _ (by simp)
   have ⟨k1,k2,k3⟩:=fE hF hf hJ hr (fun z hz=>hx z (by grind)) (fun e h=>hc e (p.mem_iff.2 (by simp[h]))) hl (hv θ q.g) (fun q' hq'=>by grind)
   refine ⟨⟨_,_,rfl,⟨⟨_,rfl⟩,Rep.rd_mono _ hrd.2 hJ⟩,k1⟩,p.trans (k2.cons _),?_⟩
   rw[he]
   intro w F hs
   obtain ⟨G,K,rfl,h1,h2⟩:=hs
   exact ⟨G,K,rfl,h1,k3 w K h2⟩
  grind
 | .kb g T t::ps,x::xs,chs,r,h,hx,hc,hl,γ,hγ=>by
  unfold dq at h
  split at h
  ·have ⟨c,hcl,h⟩:=bind_some h
   have ⟨hk,h⟩:=aj h
   have ⟨q,hq,h⟩:=bind_some h
   have ⟨r',hr,h⟩:=bind_some h
   have ⟨hn,h⟩:=aj h
   cases ae h
   cases aq hk
   have hg:=hγ _ rfl
   have ⟨ver,hm⟩:=BO hcl
   have hok:=(hf.chs _ hm).2.2
   have hfv:=hok.2.2
   have ⟨p,hb⟩:=rN (P:=P) (w0:=w0) (J:=J) (J':=J') (θ:=θ) (n:=s.nxt) (chs0:=s.chs) hq hJ fun e he=>hf.chs e (hc e he)
   have ⟨k1,k2,k3⟩:=fE hF hf hJ hr (fun z hz=>hx z (by grind)) (fun e h=>hc e (p.mem_iff.2 (by simp[h]))) hl γ (fun q' hq'=>by grind[BN])
   refine ⟨⟨_,_,rfl,⟨by rw[hg];exact hfv,_,hg⟩,k1⟩,by rw[aD];exact p.trans (k2.append_left _),?_⟩
   rw[aM,hg]
   intro w F hs
   obtain ⟨G,K,rfl,h1,h2⟩:=hs.split
   rw[hg] at k3
   exact ⟨G,K,rfl,hb w G h1,k3 w K h2⟩
  grind
 | .kc g::ps,x::xs,chs,r,h,hx,hc,hl,γ,hγ=>by
  unfold dq at h
  split at h
  ·have ⟨c,hcl,h⟩:=bind_some h
   have ⟨hk,h⟩:=aj h
   have ⟨r',hr,h⟩:=bind_some h
   have ⟨hn,h⟩:=aj h
   cases ae h
   cases aq hk
   have hg:=hγ _ rfl
   have ⟨ver,hm⟩:=BO hcl
   have hok:=(hf.chs _ hm).2.2
   have hfv:=hok.2.2
   have ⟨k1,k2,k3⟩:=fE hF hf hJ hr (fun z hz=>hx z (by grind)) hc hl γ (fun q' hq'=>by grind[BN])
   exact ⟨⟨_,_,rfl,⟨by rw[hg];exact hfv,_,hg⟩,k1⟩,k2,k3⟩
  grind
 | .cap _ _::_,_::_,_,_,h,_,_,_,_,_=>by cases h
 | .capf _ _ _::_,_::_,_,_,h,_,_,_,_,_=>by cases h
 | [],_::_,_,r,h,_,_,_,_,_=>by cases h
 | .rd _::_,[],_,r,h,_,_,_,_,_=>by cases h
 | .ow _::_,[],_,r,h,_,_,_,_,_=>by cases h
 | .eat _::_,[],_,r,h,_,_,_,_,_=>by cases h
 | .fn _ _::_,[],_,r,h,_,_,_,_,_=>by cases h
 | .ptr _ _::_,[],_,r,h,_,_,_,_,_=>by cases h
 | .cap _ _::_,[],_,_,h,_,_,_,_,_=>by cases h
 | .capf _ _ _::_,[],_,_,h,_,_,_,_,_=>by cases h
 | .fk _::_,[],_,_,h,_,_,_,_,_=>by cases h
 | .crs _ _::_,[],_,_,h,_,_,_,_,_=>by cases h
 | .kb _ _ _::_,[],_,_,h,_,_,_,_,_=>by cases h
 | .kc _::_,[],_,_,h,_,_,_,_,_=>by cases h
def vz:List PM->Bool
 | [] =>true
 | .ow t::ps=>t.dp&&vz ps
 | .ptr _ t::ps=>t.dp&&vz ps
 | .kb _ _ t::ps=>t.dp&&vz ps
 | _::ps=>vz ps
def xW:(t:Ty)->t.den->List LV->List (Hdr×Chk)
 | .prod a b,d,cs=>xW a d.1 (cs.take a.size)++xW b d.2 (cs.drop a.size)
 | .wr t,d,cs=>xW t d cs
 | .sl E t,d,cs=>match cs with
  | .own h::_=>[(h,.own (.sl E t) d)]
  | _=>[]
 | _,_,_=>[]
def gV (gh:Option GhQ):(ps:List PM)->List AV->iV (outs ps)->List (Hdr×Chk)
 | .ow t::ps,x::xs,d=>((kz x).elim [] fun cs=>xW t d.1 cs)++gV gh ps xs d.2
 | .ptr T t::ps,x::xs,d=>(match x with
  | .one (.ptr h _)=>[(h,.box T t d.1)]
  | _=>[])++gV gh ps xs d.2
 | .rd _::ps,_::xs,d=>gV gh ps xs d
 | .eat _::ps,_::xs,d=>gV gh ps xs d
 | .fn _ _::ps,_::xs,d=>gV gh ps xs d
 | .cap _ _::ps,_::xs,d=>gV gh ps xs d
 | .capf _ _ _::ps,_::xs,d=>gV gh ps xs d
 | .fk _::ps,_::xs,d=>gV gh ps xs d
 | .kc _::ps,_::xs,d=>gV gh ps xs d
 | .kb _ T t::ps,_::xs,d=>(match gh with
  | some (.box h)=>[(h,.box T t d.1)]
  | _=>[])++gV gh ps xs d.2
 | .crs T E::ps,x::xs,d=>(match x,gh with
  | .one (.ptr h _),some (.cur g l)=>[(h,.blk T [.rd g (.sl E (.int .u8)) l,.val (.int .i64 d.1.1),.val (.int .i64 d.1.2)])]
  | _,_=>[])++gV gh ps xs d.2
 | _,_,_=>[]
def Po:Chk->Prop
 | .own _ _=>True
 | .box _ _ _=>True
 | _=>False
theorem qF {g:Hdr×Chk} {ver:Nat} (h:Po g.2) (h1:g.1.id<n) (h2:ver<n):okE P w0 J θ n chs (g.1,ver,g.2):=by
 have ⟨a,c⟩:=g
 cases c with
 | own _ _=>exact ⟨h1,h2,trivial⟩
 | box _ _ _=>exact ⟨h1,h2,trivial⟩
 | _=>exact h.elim
def WC (P:Program) (w0:World) (J:Hp) (θ:Th) (n:Nat) (c:Chk):Prop:=Po c\/ ∃T cells,c= .blk T cells/\ ∀x∈cells,LV.ok P w0 J θ n x
theorem BP {g:Hdr×Chk} {ver m:Nat} (h:WC P w0 J θ m g.2) (hm:m<=n) (h1:g.1.id<n) (h2:ver<n):okE P w0 J θ n chs (g.1,ver,g.2):=by
 rcases h with h | ⟨T,cells,h,hc⟩
 ·exact qF h h1 h2
 ·have ⟨a,c⟩:=g
  obtain rfl:c=_:=h
  exact ⟨h1,h2,fun x hx=>LV.ok_same Same.rfl hm (hc x hx) Hp.le.rfl⟩
theorem Pp {w:World} : ∀ {t:Ty} {d:t.den} {cs:List LV} {C:List Ch},St J w0 w (Ch.own t.rep (cs.map (·.v θ)) d::C)->(∀x∈cs,x.ok P w0 J θ' n)->(∀x∈cs,x.v θ'=x.v θ)->
  St J w0 w ((xW t d cs).map (fun g=>toCh P θ' (g.1,m,g.2))++C)/\ ∀g∈xW t d cs,Po g.2/\g.1.id<n:=by
 intro t
 induction t with
 | prod a b iha ihb =>
  intro d cs C h hc hv0
  have ⟨c1,c2,e,hl,h⟩:=He h
  rw[a.rep_size] at hl
  have e1:c1=(cs.take a.size).map (·.v θ):=by
   simp_all
  have e2:c2=(cs.drop a.size).map (·.v θ):=by
   grind[List.map_drop,List.drop_left]
  rw[e1,e2] at h
  have ⟨k1,k2⟩:=iha h (fun x hx=>hc x (List.mem_of_mem_take hx)) fun x hx=>hv0 x (List.mem_of_mem_take hx)
  have ⟨k3,k4⟩:=ihb (k1.perm List.perm_middle) (fun x hx=>hc x (List.mem_of_mem_drop hx)) fun x hx=>hv0 x (List.mem_of_mem_drop hx)
  refine ⟨?_,fun g hg=>?_⟩
  ·show St J w0 w ((xW a d.1 _++xW b d.2 _).map _++C)
   refine k3.perm ?_
   grind[aD,List.perm_append_comm_assoc]
  ·rcases aH hg with hg | hg
   ·grind
   grind
 | wr t ih =>
  intro d cs C h hc hv0
  exact ih h hc hv0
 | sl E t ih =>
  intro d cs C h hc hv0
  cases cs with
  | nil=>exact ⟨h.tail,fun g hg=>by cases hg⟩
  | cons x l =>
   cases x with
   | own hh =>
    have hone:l= []:=by
     obtain ⟨h1,h2,F,⟨G,K,rfl,k,e⟩,h4,h5⟩:=h
     have:=(Ty.sl E t).rep.own_len k
     have h3:((LV.own hh::l).map (·.v θ)).length=1:=this
     simpa using h3
    subst hone
    refine ⟨?_,fun g hg=>?_⟩
    ·have:=hv0 (.own hh) (by simp)
     show St J w0 w (Ch.own _ [hv θ' hh] d::C)
     rw[show hv θ' hh=hv θ hh from this];exact h
    ·cases ak hg
     exact ⟨trivial,(hc (.own hh) (by simp)).1⟩
   | _=>exact ⟨h.tail,fun g hg=>by cases hg⟩
 | _ =>
  intro d cs C h hc hv0
  exact ⟨h.tail,fun g hg=>by cases hg⟩
theorem jr {w:World} {s:Sg} (hf:Fine P w0 J θ s) (hs:Same s.nxt θ θ') (hm:s.nxt<=m) {γ:Value} {gh:Option GhQ} : ∀ {ps:List PM} {xs:List AV} {ft:FT} {chs:List Ent} {r:Args ps} (d:iV (outs ps)) {C:List Ch},dq ft s chs ps xs=some r->(∀x∈xs,x.ok P w0 J θ s.nxt s.chs)->(∀e∈chs,e∈s.chs)->(∀q,r.gh=some q->gh=some q/\γ=q.v θ)->St J w0 w (outCh γ ps (xs.map (·.v θ)) d++C)->
  St J w0 w ((gV gh ps xs d).map (fun g=>toCh P θ' (g.1,m,g.2))++C)/\ ∀g∈gV gh ps xs d,WC P w0 J θ' m g.2/\g.1.id<s.nxt
 | [],[],ft,chs,r,d,C,h,hx,hc,hγ,hst=>⟨hst,fun g hg=>by cases hg⟩
 | .rd t::ps,x::xs,ft,chs,r,d,C,h,hx,hc,hγ,hst=>by
  have ⟨a,ha,h⟩:=bind_some (show (xS s.chs t x).bind _=some r from h)
  have ⟨q,hq,h⟩:=bind_some h
  cases ae h
  exact jr hf hs hm (ps:=ps) d hq (fun y hy=>hx y (by grind)) hc hγ hst
 | .ow t::ps,x::xs,ft,chs,r,d,C,h,hx,hc,hγ,hst=>by
  have ⟨hg,h⟩:=aj (show bw (mI x==t.isProd) _=some r from h)
  have hg:mI x=t.isProd:=by simpa using hg
  have ⟨cs,hcs,h⟩:=bind_some h
  have ⟨q,hq,h⟩:=bind_some h
  have ⟨he,h⟩:=aj h
  have ⟨r',hr,h⟩:=bind_some h
  cases ae h
  have hvo:=hx x (by simp)
  have ⟨c1,c2⟩:=xV hcs hvo hg
  have hok:=(iy hcs hvo).1
  have hst:St J w0 w (Ch.own t.rep (jU t.isProd (x.v θ)) d.1::(outCh γ ps (xs.map (·.v θ)) d.2++C)):=hst
  rw[c1] at hst
  have ⟨k1,k2⟩:=Pp (P:=P) (θ':=θ') (n:=s.nxt) (m:=m) hst (fun x hx=>LV.ok_same hs (ay _) (hok x hx) Hp.le.rfl) fun x hx=>LV.v_same hs (hok x hx)
  have ⟨k3,k4⟩:=jr hf hs hm (ps:=ps) d.2 hr (fun y hy=>hx y (by grind)) (fun e he=>hc e ((eW hq).mem_iff.2 (by grind))) hγ (k1.perm (List.perm_append_comm_assoc _ _ _))
  have hbk:gV gh (.ow t::ps) (x::xs) d=xW t d.1 cs++gV gh ps xs d.2:=by
   show ((kz x).elim [] fun cs=>xW t d.1 cs)++_=_
   rw[hcs];rfl
  rw[hbk]
  refine ⟨?_,fun g hg=>?_⟩
  ·refine k3.perm ?_
   grind[aD,List.perm_append_comm_assoc]
  ·rcases aH hg with hg | hg
   ·exact ⟨.inl (k2 g hg).1,(k2 g hg).2⟩
   grind
 | .eat t::ps,x::xs,ft,chs,r,d,C,h,hx,hc,hγ,hst=>by
  have ⟨hg,h⟩:=aj (show bw (mI x==t.isProd) _=some r from h)
  have ⟨cs,hcs,h⟩:=bind_some h
  have ⟨q,hq,h⟩:=bind_some h
  have ⟨he,h⟩:=aj h
  have ⟨r',hr,h⟩:=bind_some h
  cases ae h
  exact jr hf hs hm (ps:=ps) d hr (fun y hy=>hx y (by grind)) (fun e he=>hc e ((eW hq).mem_iff.2 (by grind))) hγ hst
 | .fn a b::ps,x::xs,ft,chs,r,d,C,h,hx,hc,hγ,hst=>by
  unfold dq at h
  split at h
  ·have ⟨q,hq,h⟩:=bind_some h
   have ⟨r',hr,h⟩:=bind_some h
   cases ae h
   exact jr hf hs hm (ps:=ps) d hr (fun y hy=>hx y (by grind)) hc hγ hst
  grind
 | .ptr T t::ps,x::xs,ft,chs,r,d,C,h,hx,hc,hγ,hst=>by
  unfold dq at h
  split at h
  ·rename_i hh off
   have ⟨ho,h⟩:=aj h
   have ⟨q,hq,h⟩:=bind_some h
   have ⟨r',hr,h⟩:=bind_some h
   cases ae h
   cases aq ho
   have hid:=hx (.one (.ptr hh 0)) (by simp)
   have ⟨k3,k4⟩:=jr hf hs hm (ps:=ps) (C:=Ch.box (bk (hv θ hh)) T t.rep d.1::C) d.2 hr (fun y hy=>hx y (by grind)) (fun e he=>hc e ((nE hq).mem_iff.2 (by grind))) hγ (hst.perm List.perm_middle.symm)
   refine ⟨?_,fun g hg=>?_⟩
   ·show St J w0 w (Ch.box (bk (hv θ' hh)) T t.rep d.1::((gV gh ps xs d.2).map _++C))
    rw[aS hs hid]
    exact k3.perm List.perm_middle
   ·rcases aH hg with hg | hg
    ·cases ak hg
     exact ⟨.inl trivial,hid⟩
    grind
  grind
 | .fk g::ps,x::xs,ft,chs,r,d,C,h,hx,hc,hγ,hst=>by
  unfold dq at h
  split at h
  ·have ⟨hk,h⟩:=aj h
   have ⟨r',hr,h⟩:=bind_some h
   cases ae h
   exact jr hf hs hm (ps:=ps) d hr (fun y hy=>hx y (by grind)) hc hγ hst
  grind
 | .crs T E::ps,x::xs,ft,chs,r,d,C,h,hx,hc,hγ,hst=>by
  unfold dq at h
  split at h
  ·rename_i hh off
   have ⟨ho,h⟩:=aj h
   have ⟨q,hq,h⟩:=bind_some h
   have ⟨r',hr,h⟩:=bind_some h
   have ⟨hn,h⟩:=aj h
   cases ae h
   cases aq ho
   have ⟨hgh,hg⟩:=hγ _ rfl
   have ⟨p,ver,he⟩:=mC hq
   have hok:=hf.chs _ (hc _ (p.mem_iff.2 (List.mem_cons_self ..)))
   rw[he] at hok
   have hrd:LV.ok P w0 J θ s.nxt (.rd q.g (.sl E (.int .u8)) q.d.1):=hok.2.2 _ (by simp)
   have hid:=hx (.one (.ptr hh 0)) (by simp)
   have ⟨k3,k4⟩:=jr hf hs hm (ps:=ps) (gh:=gh) (C:=Ch.blk (bk (hv θ hh)) [γ,.int .i64 d.1.1,.int .i64 d.1.2] T::C) d.2 hr (fun y hy=>hx y (by grind)) (fun e he=>hc e (p.mem_iff.2 (by grind))) (fun q' hq'=>by grind) (hst.perm List.perm_middle.symm)
   have hbk:gV gh (.crs T E::ps) (.one (.ptr hh 0)::xs) d= [(hh,.blk T [.rd q.g (.sl E (.int .u8)) q.d.1,.val (.int .i64 d.1.1),.val (.int .i64 d.1.2)])] ++gV gh ps xs d.2:=by
    rw[hgh];rfl
   rw[hbk]
   refine ⟨?_,fun g hg2=>?_⟩
   ·show St J w0 w (Ch.blk (bk (hv θ' hh)) [hv θ' q.g,.int .i64 d.1.1,.int .i64 d.1.2] T::((gV gh ps xs d.2).map _++C))
    rw[aS hs hid,aS hs hrd.1,<-show γ=hv θ q.g from hg]
    exact k3.perm List.perm_middle
   ·rcases aH hg2 with hg2 | hg2
    ·cases ak hg2
     refine ⟨.inr ⟨_,_,rfl,fun z hz=>?_⟩,hid⟩
     rcases az hz with rfl | hz
     ·grind[LV.ok_same,Hp.le.rfl]
     ·rcases az hz with rfl | hz
      ·rfl
      ·cases ak hz
       rfl
    grind
  grind
 | .kb g T t::ps,x::xs,ft,chs,r,d,C,h,hx,hc,hγ,hst=>by
  unfold dq at h
  split at h
  ·rename_i hh
   have ⟨c,hcl,h⟩:=bind_some h
   have ⟨hk,h⟩:=aj h
   have ⟨q,hq,h⟩:=bind_some h
   have ⟨r',hr,h⟩:=bind_some h
   have ⟨hn,h⟩:=aj h
   cases ae h
   have ⟨hgh,hg⟩:=hγ _ rfl
   have ⟨ver,hm'⟩:=BO hcl
   have hok:=(hf.chs _ hm').2.2
   have hid:=hok.2.1 (.ptr c.2 0) (by simp)
   have hst:St J w0 w (Ch.box (bk γ) T t.rep d.1::(outCh γ ps (xs.map (·.v θ)) d.2++C)):=hst
   have hbg:bk γ=bk (hv θ c.2):=by rw[hg];rfl
   rw[hbg] at hst
   have ⟨k3,k4⟩:=jr hf hs hm (ps:=ps) (gh:=gh) (C:=Ch.box (bk (hv θ c.2)) T t.rep d.1::C) d.2 hr (fun y hy=>hx y (by grind)) (fun e he=>hc e ((nE hq).mem_iff.2 (by grind))) (fun q' hq'=>by grind[BN]) (hst.perm List.perm_middle.symm)
   have hbk:gV gh (.kb g T t::ps) (.one (.own hh)::xs) d= [(c.2,.box T t d.1)] ++gV gh ps xs d.2:=by
    rw[hgh];rfl
   rw[hbk]
   refine ⟨?_,fun g hg=>?_⟩
   ·show St J w0 w (Ch.box (bk (hv θ' c.2)) T t.rep d.1::((gV gh ps xs d.2).map _++C))
    rw[aS hs hid]
    exact k3.perm List.perm_middle
   ·rcases aH hg with hg | hg
    ·cases ak hg
     exact ⟨.inl trivial,hid⟩
    grind
  grind
 | .kc g::ps,x::xs,ft,chs,r,d,C,h,hx,hc,hγ,hst=>by
  unfold dq at h
  split at h
  ·have ⟨c,hcl,h⟩:=bind_some h
   have ⟨hk,h⟩:=aj h
   have ⟨r',hr,h⟩:=bind_some h
   have ⟨hn,h⟩:=aj h
   exact jr hf hs hm (ps:=ps) d hr (fun y hy=>hx y (by grind)) hc (fun q' hq'=>by grind[BN]) hst
  grind
 | .cap _ _::_,_::_,_,_,_,_,_,h,_,_,_,_=>by cases h
 | .capf _ _ _::_,_::_,_,_,_,_,_,h,_,_,_,_=>by cases h
 | [],_::_,_,_,_,_,_,h,_,_,_,_=>by cases h
 | .rd _::_,[],_,_,_,_,_,h,_,_,_,_=>by cases h
 | .ow _::_,[],_,_,_,_,_,h,_,_,_,_=>by cases h
 | .eat _::_,[],_,_,_,_,_,h,_,_,_,_=>by cases h
 | .fn _ _::_,[],_,_,_,_,_,h,_,_,_,_=>by cases h
 | .ptr _ _::_,[],_,_,_,_,_,h,_,_,_,_=>by cases h
 | .cap _ _::_,[],_,_,_,_,_,h,_,_,_,_=>by cases h
 | .capf _ _ _::_,[],_,_,_,_,_,h,_,_,_,_=>by cases h
 | .fk _::_,[],_,_,_,_,_,h,_,_,_,_=>by cases h
 | .crs _ _::_,[],_,_,_,_,_,h,_,_,_,_=>by cases h
 | .kb _ _ _::_,[],_,_,_,_,_,h,_,_,_,_=>by cases h
 | .kc _::_,[],_,_,_,_,_,h,_,_,_,_=>by cases h
end
end R
end Go.Proofs.YtfbgafccgaoepaaGreat
