/- FnExactEngineAnswers: for every input the law returns true and changes nothing that was there. Part 3 of 9. -/
import Derived.Test.YtfkokkokjgjkgaaGreatDoorNC1
set_option synthInstance.maxSize 20000
set_option synthInstance.maxHeartbeats 2000000
set_option linter.unusedVariables false
set_option linter.unusedSimpArgs false
set_option linter.unnecessarySimpa false
set_option linter.unusedSectionVars false
set_option maxRecDepth 1000000
namespace Go.Proofs.YtfkokkokjgjkgaaGreatDoor
open Go.IntKind (i64)
namespace R
open Go.RowKit
open D
structure Res where
 rs:List Ent
 ns:List Ent
 rest:List Ent
 gives:List (Hdr×Chk)
 av:AV
def Res.chs (r:Res) (ver:Nat):List Ent:=r.gives.map (fun g=>(g.1,ver,g.2))++(r.rs++r.rest)
def NV (d:Option Nat) (n:Nat) (v:AV) (l:List (Nat×Nat×AV)):List (Nat×Nat×AV):=match d with
 | some d=>(d,n,v)::l
 | none=>l
def after (s:Sg) (d:Option Nat) (r:Res):Sg:=⟨NV d s.nxt r.av s.env,r.chs s.nxt,s.nxt+1⟩
def Res.pure (s:Sg) (av:AV):Res:=⟨[],[],s.chs,[],av⟩
structure Good (P:Program) (w0:World) (s:Sg) (o:Oper) (r:Res):Prop where
 perm:s.chs.Perm (r.rs++r.ns++r.rest)
 says: ∀J θ,Fine P w0 J θ s-> ∀g,g∈r.gives-> ∀ver c,SaysH g.2 ver c-> ∃e0,e0∈s.chs/\Says e0 g.1 ver c
 op: ∀J θ,Fine P w0 J θ s->OpT P J w0 o (evL (envL θ s)) ((r.rs++r.ns).map (toCh P θ))
  (fun v=>r.av.ok P w0 J (upd θ s.nxt v) (s.nxt+1) (r.chs s.nxt)/\r.av.v (upd θ s.nxt v)=v/\ ∀g∈r.gives,okE P w0 J (upd θ s.nxt v) (s.nxt+1) (r.chs s.nxt) (g.1,s.nxt,g.2))
  (fun v=>r.rs.map (toCh P θ)++r.gives.map fun g=>toCh P (upd θ s.nxt v) (g.1,s.nxt,g.2))
structure GoodA (P:Program) (w0:World) (J:Hp) (θ:Th) (s:Sg) (o:Oper) (r:Res):Prop where
 perm:s.chs.Perm (r.rs++r.ns++r.rest)
 says: ∀g,g∈r.gives-> ∀ver c,SaysH g.2 ver c-> ∃e0,e0∈s.chs/\Says e0 g.1 ver c
 op:OpT P J w0 o (evL (envL θ s)) ((r.rs++r.ns).map (toCh P θ))
  (fun v=>r.av.ok P w0 J (upd θ s.nxt v) (s.nxt+1) (r.chs s.nxt)/\r.av.v (upd θ s.nxt v)=v/\ ∀g∈r.gives,okE P w0 J (upd θ s.nxt v) (s.nxt+1) (r.chs s.nxt) (g.1,s.nxt,g.2))
  (fun v=>r.rs.map (toCh P θ)++r.gives.map fun g=>toCh P (upd θ s.nxt v) (g.1,s.nxt,g.2))
theorem Good.at {P:Program} {w0:World} {J:Hp} {θ:Th} {s:Sg} {o:Oper} {r:Res} (h:Good P w0 s o r) (hf:Fine P w0 J θ s):GoodA P w0 J θ s o r:=⟨h.perm,h.says J θ hf,h.op J θ hf⟩
def plain (l:List (Hdr×Chk)):Bool:=l.all fun g=>match g.2 with
 | .hole _ _ _ _ _ _ _ _ _ _=>false
 | _=>true
theorem aR {P:Program} {w0:World} {s:Sg} {l:List (Hdr×Chk)} {chs:List Ent} (h:plain l=true): ∀J θ,Fine P w0 J θ s-> ∀g,g∈l-> ∀ver c,SaysH g.2 ver c-> ∃e0,e0∈chs/\Says e0 g.1 ver c:=fun _ _ _ g hg ver c hs=>by
 have:=(List.all_eq_true.1 h) g hg
 have ⟨h',x⟩:=g
 cases x with
 | hole _ _ _ _ _ _ _ _ _ _=>grind
 | _=>exact hs.elim
theorem OpT.weak {P:Program} {w0:World} {o:Oper} {I:Hp} {ev:Operand->Value} {rn:List Ch} {fact fact':Value->Prop} {gv gv':Value->List Ch} (h:OpT P I w0 o ev rn fact gv) (hf: ∀v,fact v->fact' v) (hg: ∀v,fact v->gv v=gv' v):OpT P I w0 o ev rn fact' gv' :=
 fun w C hs=>(h w C hs).imp fun v w hv=>⟨hf v hv.1,by grind⟩
section
variable {P:Program} {I:Hp} {w0 w:World} {F:Ch} {n:Nat} {J:Hp} {θ:Th} {s:Sg} {a:Act} {o:Oper} {r:Res} {av:AV}
theorem Res.newer (hp:s.chs.Perm (r.rs++r.ns++r.rest)) (hs: ∀g,g∈r.gives-> ∀ver c,SaysH g.2 ver c-> ∃e0,e0∈s.chs/\Says e0 g.1 ver c):Newer s.nxt s.chs (r.chs s.nxt):=fun e he h ver c k=>by
 rcases aH he with he | he
 ·obtain ⟨g,hg,rfl⟩:=List.mem_map.1 he
  obtain ⟨rfl,k⟩:=k
  grind
 grind
theorem ep (hop: ∀J θ,Fine P w0 J θ s->OpT P J w0 o (evL (envL θ s)) [] (· =av.v θ) (fun _=>[])) (hok: ∀J θ,Fine P w0 J θ s->av.ok P w0 J θ s.nxt s.chs):Good P w0 s o (Res.pure s av):=
 ⟨List.Perm.refl _,fun _ _ _ g hg=>(by cases hg),fun J θ hf=>OpT.weak (hop J θ hf) (fun v hv=>by
  subst hv
  exact ⟨AV.ok_same Same.upd (Nat.le_succ _) Newer.rfl (hok J θ hf) Hp.le.rfl,AV.v_same Same.upd (hok J θ hf),fun g hg=>by cases hg⟩) (fun v hv=>rfl)⟩
theorem Eb {θ':Th} {d:Option Nat} {v:Value} (h:envL θ' s=envL θ s) (hv:av.v θ'=v) {chs:List Ent} {m:Nat} :envL θ' ⟨NV d s.nxt av s.env,chs,m⟩=RA d v (envL θ s):=by
 cases d with
 | none=>exact h
 | some d=>show (d,av.v θ')::envL θ' s=_;rw[h,hv];rfl
theorem qz {e:Nat×Nat×AV} {k:Nat} : ∀ {d:Option Nat} {l:List (Nat×Nat×AV)},e∈NV d k av l->(e.2.2=av/\e.2.1=k)\/e∈l:=by
 intro d l hd
 cases d with
 | none=>exact .inr hd
 | some d =>
  rcases ax hd with rfl | h
  ·grind
  grind
theorem Gl {d:Option Nat} {k:Nat} {l:List (Nat×Nat×AV)} (h:l.Pairwise fun a b=>a.2.1≠b.2.1) (hv: ∀e∈l,e.2.1<k):(NV d k av l).Pairwise fun a b=>a.2.1≠b.2.1:=by
 cases d with
 | none=>exact h
 | some d=>exact List.pairwise_cons.2 ⟨fun e he h'=>by grind,h⟩
theorem Zb {ops:Array Oper} {rest:List Oper} {Q:Exit->Act->World->Prop} (hG:GoodA P w0 J θ s o r) (hS:Sim P I w0 F n J θ s a w) (hg:o.guard=none) (hk:okO n s o=true)
  (k: ∀θ' a w,Same s.nxt θ θ'->Sim P I w0 F n J θ' (after s o.dst r) a w->wpList P ops Q rest a w):wpList P ops Q (o::rest) a w:=by
 have hp:(s.chs.map (toCh P θ)++ [F]).Perm ((r.rs++r.ns).map (toCh P θ)++(r.rest.map (toCh P θ)++ [F])):=by
  have:=(hG.perm.map (toCh P θ)).append_right [F]
  grind
 have hallc: ∀e,e∈r.rs\/e∈r.rest->okE P w0 J θ s.nxt s.chs e:=fun e he=>hS.fine.chs e (hG.perm.mem_iff.2 (by grind))
 have hnew:=Res.newer hG.perm hG.says
 refine YV hS.agr hS.st hg (hG.op) hp (UZ hk) fun v a w hv A S=>k (upd θ s.nxt v) a w Same.upd ⟨hS.le,?_,?_,?_,?_,Gl hS.fine.nd hS.fine.ver,?_,hS.fine.lay⟩
 ·rw[show envL (upd θ s.nxt v) (after s o.dst r)=RA o.dst v (envL θ s) from Eb (vO Same.upd hS.fine.env) hv.2.1];exact A
 ·have e:(after s o.dst r).chs.map (toCh P (upd θ s.nxt v))=(r.gives.map fun g=>toCh P (upd θ s.nxt v) (g.1,s.nxt,g.2))++(r.rs.map (toCh P θ)++r.rest.map (toCh P θ)):=by
   show (Res.chs r s.nxt).map _=_
   unfold Res.chs
   rw[aS,aS,List.map_map,fW Same.upd fun e he=>hallc e (.inl he),fW Same.upd fun e he=>hallc e (.inr he)]
   rfl
  refine S.perm ?_
  grind[aA,List.perm_append_comm_assoc]
 ·intro e he
  rcases qz he with h | h
  ·rw[h.1];exact hv.1
  ·exact AV.ok_same Same.upd (Nat.le_succ _) hnew (hS.fine.env e h) Hp.le.rfl
 ·intro e he
  rcases qz he with h | h
  ·rw[h.2];exact aw _
  ·exact aT (hS.fine.ver e h)
 ·intro e he
  rcases aH he with he | he
  ·obtain ⟨g,hg',rfl⟩:=List.mem_map.1 he
   exact hv.2.2 g hg'
  ·exact eL Same.upd (Nat.le_succ _) hnew (hallc e (by grind)) Hp.le.rfl
theorem WQ {ops:Array Oper} {rest:List Oper} {Q:Exit->Act->World->Prop} {g d:Nat} {want b:Bool} (hG:GoodA P w0 J θ s o r) (hS:Sim P I w0 F n J θ s a w) (hg:o.guard=some (g,want)) (hd:((ops[g]?).bind (·.dst))=some d) (hv:(envL θ s).lookup d=some (.bool b)) (hb:b=want) (hk:okO n s o=true)
  (k: ∀θ' a w,Same s.nxt θ θ'->Sim P I w0 F n J θ' (after s o.dst r) a w->wpList P ops Q rest a w):wpList P ops Q (o::rest) a w:=by
 have hp:(s.chs.map (toCh P θ)++ [F]).Perm ((r.rs++r.ns).map (toCh P θ)++(r.rest.map (toCh P θ)++ [F])):=by
  have:=(hG.perm.map (toCh P θ)).append_right [F]
  grind
 have hallc: ∀e,e∈r.rs\/e∈r.rest->okE P w0 J θ s.nxt s.chs e:=fun e he=>hS.fine.chs e (hG.perm.mem_iff.2 (by grind))
 have hnew:=Res.newer hG.perm hG.says
 refine RO hS.agr hS.st hg hd hv hb (hG.op) hp (UZ hk) fun v a w hv A S=>k (upd θ s.nxt v) a w Same.upd ⟨hS.le,?_,?_,?_,?_,Gl hS.fine.nd hS.fine.ver,?_,hS.fine.lay⟩
 ·rw[show envL (upd θ s.nxt v) (after s o.dst r)=RA o.dst v (envL θ s) from Eb (vO Same.upd hS.fine.env) hv.2.1];exact A
 ·have e:(after s o.dst r).chs.map (toCh P (upd θ s.nxt v))=(r.gives.map fun g=>toCh P (upd θ s.nxt v) (g.1,s.nxt,g.2))++(r.rs.map (toCh P θ)++r.rest.map (toCh P θ)):=by
   show (Res.chs r s.nxt).map _=_
   unfold Res.chs
   rw[aS,aS,List.map_map,fW Same.upd fun e he=>hallc e (.inl he),fW Same.upd fun e he=>hallc e (.inr he)]
   rfl
  refine S.perm ?_
  grind[aA,List.perm_append_comm_assoc]
 ·intro e he
  rcases qz he with h | h
  ·rw[h.1];exact hv.1
  ·exact AV.ok_same Same.upd (Nat.le_succ _) hnew (hS.fine.env e h) Hp.le.rfl
 ·intro e he
  rcases qz he with h | h
  ·rw[h.2];exact aw _
  ·exact aT (hS.fine.ver e h)
 ·intro e he
  rcases aH he with he | he
  ·obtain ⟨g,hg',rfl⟩:=List.mem_map.1 he
   exact hv.2.2 g hg'
  ·exact eL Same.upd (Nat.le_succ _) hnew (hallc e (by grind)) Hp.le.rfl
def skip (s:Sg) (d:Option Nat):Sg:=⟨NV d s.nxt .und s.env,s.chs,s.nxt+1⟩
theorem NW {v:AV} {d:Option Nat} (hS:Sim P I w0 F n J θ s a w) {a':Act} (hA:Agr n a' (RA d (v.v θ) (envL θ s))) (hv:v.ok P w0 J θ s.nxt s.chs):Sim P I w0 F n J θ ⟨NV d s.nxt v s.env,s.chs,s.nxt+1⟩ a' w:=
 ⟨hS.le,by grind[Eb],hS.st,fun e he=>by
  rcases qz he with h | h
  ·rw[h.1];exact AV.ok_same Same.rfl (Nat.le_succ _) Newer.rfl hv Hp.le.rfl
  ·exact AV.ok_same Same.rfl (Nat.le_succ _) Newer.rfl (hS.fine.env e h) Hp.le.rfl,fun e he=>by
  rcases qz he with h | h
  ·grind
  ·exact aT (hS.fine.ver e h),Gl hS.fine.nd hS.fine.ver,fun e he=>eL Same.rfl (Nat.le_succ _) Newer.rfl (hS.fine.chs e he) Hp.le.rfl,hS.fine.lay⟩
theorem RZ {ops:Array Oper} {rest:List Oper} {Q:Exit->Act->World->Prop} {g d:Nat} {want b:Bool} (hS:Sim P I w0 F n J θ s a w) (hg:o.guard=some (g,want)) (hd:((ops[g]?).bind (·.dst))=some d) (hv:(envL θ s).lookup d=some (.bool b)) (hb:b= !want) (hn:dstOk n o.dst=true)
  (k: ∀a,Sim P I w0 F n J θ (skip s o.dst) a w->wpList P ops Q rest a w):wpList P ops Q (o::rest) a w:=
 RN hS.agr hS.st hg hd hv hb hn fun a A=>k a (NW hS A trivial)
theorem LZ {ops:Array Oper} {rest:List Oper} {Q:Exit->Act->World->Prop} {g d:Nat} {want:Bool} (hS:Sim P I w0 F n J θ s a w) (hg:o.guard=some (g,want)) (hd:((ops[g]?).bind (·.dst))=some d) (hv:(envL θ s).lookup d=some undef) (hn:dstOk n o.dst=true)
  (k: ∀a,Sim P I w0 F n J θ (skip s o.dst) a w->wpList P ops Q rest a w):wpList P ops Q (o::rest) a w:=
 LX hS.agr hS.st hg hd hv hn fun a A=>k a (NW hS A trivial)
end
def ikD:Option IntKind->TypeDesc
 | some k=>.int k
 | none=>.string
structure MD where
 K:TypeId
 E:TypeId
 k:MK
 e:ME
def MDok (P:Program) (T:TypeId) (m:MD):Prop:=
 P.underlying T=some (.map m.K m.E)/\ @KeyOk P m.K m.k.den m.k.dec m.k.val m.k.lit m.k.ok/\EltOk P m.E m.e.val m.e.lit m.e.ok m.e.z
structure TD where
 agg:Bool
 n:Nat
 el:Option TypeId
 ty:Ty
 fields:List (Nat×Nat)
 bytes:Option Nat
 place:Option (List (Nat×Nat))
 boo:Bool
 eq:Option (List (Option IntKind))
 mp:Option MD
 ik:Option (Option IntKind)
 fz:Bool
 pt:Option TypeId
def Curq:List (Option IntKind)->(List Value->List Value->Bool->Prop)->Prop
 | [],p=>p [] [] true
 | none::ks,p=> ∀a b:Bool,Curq ks fun xs ys r=>p (.bool a::xs) (.bool b::ys) ((a==b)&&r)
 | some k::ks,p=> ∀a b:Int,Curq ks fun xs ys r=>p (.int k a::xs) (.int k b::ys) ((a==b)&&r)
def lvB:LV->Option Bool
 | .val (.bool b)=>some b
 | .nb b=>some (!b)
 | _=>none
def lvI (k:IntKind):LV->Option Int
 | .val (.int j m)=>if j=k then some m else none
 | _=>none
theorem abd {θ:Th} {x:LV} {b:Bool} (h:lvB x=some b):x.v θ= .bool b:=by
 unfold lvB at h
 split at h <;> first | (cases h;rfl) | cases h
theorem abe {θ:Th} {k:IntKind} {x:LV} {m:Int} (h:lvI k x=some m):x.v θ= .int k m:=by
 unfold lvI at h
 split at h
 ·split at h
  ·rename_i e;subst e;cases h;rfl
  grind
 grind
def ac2:Option IntKind->LV->LV->Option Bool
 | none,x,y=>(lvB x).bind fun a=>(lvB y).bind fun b=>some (a==b)
 | some k,x,y=>(lvI k x).bind fun a=>(lvI k y).bind fun b=>some (a==b)
def abf:List (Option IntKind)->List LV->List LV->Option Bool
 | [],[],[] =>some true
 | k::ks,x::xs,y::ys=>(ac2 k x y).bind fun q=>(abf ks xs ys).bind fun r=>some (q&&r)
 | _,_,_=>none
theorem WR {θ:Th} : ∀ {ks:List (Option IntKind)} {p:List Value->List Value->Bool->Prop} {xs ys:List LV} {r:Bool},Curq ks p->abf ks xs ys=some r->p (xs.map (·.v θ)) (ys.map (·.v θ)) r:=by
 intro ks
 induction ks with
 | nil =>
  intro p xs ys r hp h
  match xs,ys,h with
  | [],[],h=>cases h;exact hp
 | cons k ks ih =>
  intro p xs ys r hp h
  match xs,ys,h with
  | x::xs,y::ys,h =>
   have ⟨q,hq,h⟩:=Option.bind_eq_some_iff.1 h
   have ⟨r',hr,h⟩:=Option.bind_eq_some_iff.1 h
   cases k with
   | none =>
    have ⟨a,ha,hq⟩:=Option.bind_eq_some_iff.1 hq
    have ⟨b,hb,hq⟩:=Option.bind_eq_some_iff.1 hq
    have:=ih (hp a b) hr
    grind[abd]
   | some k =>
    have ⟨a,ha,hq⟩:=Option.bind_eq_some_iff.1 hq
    have ⟨b,hb,hq⟩:=Option.bind_eq_some_iff.1 hq
    have:=ih (hp a b) hr
    grind[abe]
def zeroCells:Ty->List Value
 | .int k=>[.int k 0]
 | .bool=>[.bool false]
 | .str=>[.string ⟨#[]⟩]
 | .raw=>[.int .i64 0]
 | .prod a b=>zeroCells a++zeroCells b
 | .sl _ _=>[.slice none 0 0]
 | .fro t=>zeroCells t
 | .wr t=>zeroCells t
 | .tree _ _ _=>[.pointer none]
 | .bag t=>zeroCells t
def Ec:(t:Ty)->t.den
 | .int _=>(0:Int)
 | .bool=>false
 | .str=>(⟨#[]⟩:ByteArray)
 | .raw=>(⟨.int .i64 0,rfl⟩:Raw)
 | .prod a b=>(Ec a,Ec b)
 | .sl _ t=>([] :List t.den)
 | .fro t=>Ec t
 | .wr t=>Ec t
 | .tree _ _ t=>(Tr.nil:Tr t.den)
 | .bag t=>Ec t
theorem pn: ∀(t:Ty) (I:Hp),t.rep.rd I (zeroCells t) (Ec t)
 | .int k,I=>rfl
 | .bool,I=>rfl
 | .str,I=>rfl
 | .raw,I=>rfl
 | .prod a b,I=>⟨_,_,rfl,pn a I,pn b I⟩
 | .sl _ _,I=>UX
 | .fro t,I=>pn t I
 | .wr t,I=>pn t I
 | .tree _ _ _,I=>⟨_,rfl,.nil⟩
 | .bag t,I=>pn t I
theorem zP: ∀(t:Ty),Zro t.rep (zeroCells t) (Ec t)
 | .int k=>zO
 | .bool=>(zO (h1:=fun _=>rfl))
 | .str=>(zO (h1:=fun _=>rfl))
 | .raw=>(zO (α:=Raw) (enc:=(·.1)) (h1:=(·.2)) (x:=⟨.int .i64 0,rfl⟩))
 | .prod a b=>RQ (zP a) (zP b)
 | .sl _ _=>WA
 | .fro t=>WB (pn t)
 | .wr t=>zP t
 | .tree _ _ _=>RV
 | .bag t=>WM (pn t)
theorem Kr: ∀(t:Ty),∀v∈zeroCells t,v.oneCell'=true:=fun t v hv=>Rep.rd_one _ (pn t fun _=>none) v hv
theorem lC: ∀t:Ty,zeroCells t.erase=zeroCells t
 | .int _=>rfl
 | .bool=>rfl
 | .str=>rfl
 | .raw=>rfl
 | .prod a b=>by show zeroCells a.erase++zeroCells b.erase=_;rw[lC a,lC b];rfl
 | .sl _ _=>rfl
 | .fro t=>lC t
 | .wr t=>lC t
 | .tree _ _ _=>rfl
 | .bag t=>lC t
theorem zQ (t:Ty):(zeroCells t).length=t.size:=(Rep.rd_len _ (pn t fun _=>none)).trans t.rep_size
abbrev TT:=List (TypeId×TD)
def td (tt:TT) (T:Nat):Option TD:=match tt with
 | [] =>none
 | (U,d)::l=>if Nat.beq U T then some d else td l T
structure TDok (P:Program) (T:TypeId) (d:TD):Prop where
 ti:TI P T d.agg d.n
 one:(d.agg || d.n==1)=true
 sz:d.ty.size=d.n
 el: ∀E,d.el=some E->P.underlying T=some (.slice E)
 fld: ∀f q,d.fields[f]? =some q->TF P T f q.1 q.2
 zero: ∀b,d.bytes=some b-> ∃z,TZ P T z d.n b/\z.cells=(zeroCells d.ty).toArray/\1<=b
 place: ∀pl,d.place=some pl->TB P T pl
 boo:d.boo=true->P.underlying T=some .bool
 eq: ∀ks,d.eq=some ks-> ∀w,Curq ks fun xs ys r=>EqT P T (.agg xs.toArray) (.agg ys.toArray) r w
 mp: ∀m,d.mp=some m->MDok P T m
 ik: ∀k,d.ik=some k->P.underlying T=some (ikD k)
 fz:d.fz=true-> ∃b,TZ P T .nilFunc 1 b
 pt: ∀e,d.pt=some e->P.underlying T=some (.pointer e)
def TTok (P:Program):TT->Prop
 | [] =>True
 | (T,d)::l=>TDok P T d/\TTok P l
theorem TTok.get {P:Program} {T:Nat} {d:TD} : ∀ {tt:TT},TTok P tt->td tt T=some d->TDok P T d
 | (U,x)::l,⟨h1,h2⟩,h=>by
  unfold td at h
  split at h
  ·rename_i hu
   have:=al hu
   subst this
   rw[<-ad h];exact h1
  ·exact TTok.get h2 h
def po (id:Nat):(t:Ty)->t.den->Nat->List LV
 | .int k,d,_=>[.val (.int k d)]
 | .bool,d,_=>[.val (.bool d)]
 | .str,d,_=>[.val (.string d)]
 | .raw,d,j=>[.rd ⟨id,[j]⟩ .raw d]
 | .prod a b,d,j=>po id a d.1 j++po id b d.2 (j+a.size)
 | .sl E t,d,j=>[.rd ⟨id,[j]⟩ (.sl E t) d]
 | .fro t,d,j=>po id t d j
 | .bag t,d,j=>po id t d j
 | .wr t,d,j=>po id t d j
 | .tree T E t,d,j=>[.rd ⟨id,[j]⟩ (.tree T E t) d]
def NX (id:Nat):(t:Ty)->t.den->AV
 | .prod a b,d=>.agg (po id (.prod a b) d 0)
 | .int k,d=>.one (.val (.int k d))
 | .bool,d=>.one (.val (.bool d))
 | .str,d=>.one (.val (.string d))
 | .raw,d=>.one (.val d.1)
 | .sl E t,d=>.one (.rd ⟨id,[]⟩ (.sl E t) d)
 | .fro t,d=>NX id t d
 | .bag t,d=>NX id t d
 | .wr t,d=>.agg (po id t d 0)
 | .tree T E t,d=>.one (.rd ⟨id,[]⟩ (.tree T E t) d)
theorem gW {P:Program} {w0:World} {J:Hp} {θ:Th} {id n:Nat} (hid:id<n) {all:List Value} (hu:θ id= .agg all.toArray): ∀(t:Ty) (d:t.den) (j:Nat) (cs:List Value),t.rep.rd J cs d->(∀i v,cs[i]? =some v->all[j+i]? =some v)->
  (∀x∈po id t d j,x.ok P w0 J θ n)/\(po id t d j).map (·.v θ)=cs
 | .int k,d,j,cs,h,_=>⟨fun x hx=>by cases au hx;rfl,h.symm⟩
 | .bool,d,j,cs,h,_=>⟨fun x hx=>by cases au hx;rfl,h.symm⟩
 | .str,d,j,cs,h,_=>⟨fun x hx=>by cases au hx;rfl,h.symm⟩
 | .raw,d,j,cs,h,hc=>by
  obtain ⟨u,rfl⟩:=List.length_eq_one_iff.1 (Rep.rd_len _ h)
  have hh:hv θ ⟨id,[j]⟩=u:=by
   show vg (θ id) [j] =u
   rw[hu]
   show (all.toArray.getD j undef)=u
   have:=hc 0 u rfl
   rw[Nat.add_zero] at this
   simp[Array.getD_eq_getD_getElem?,this]
  refine ⟨fun x hx=>?_,?_⟩
  ·cases au hx
   exact ⟨hid,by grind⟩
  ·show [hv θ ⟨id,[j]⟩] = [u]
   rw[hh]
 | .prod a b,d,j,cs,h,hc=>by
  obtain ⟨c1,c2,rfl,h1,h2⟩:=h
  have hl:=(Rep.rd_len _ h1).trans a.rep_size
  obtain ⟨e1,e2⟩:=gW hid hu a d.1 j c1 h1 fun i v hv=>hc i v (by grind)
  obtain ⟨e3,e4⟩:=gW hid hu b d.2 (j+a.size) c2 h2 fun i v hv=>by
   have:=hc (a.size+i) v (by grind)
   grind
  refine ⟨fun x hx=>?_,?_⟩
  ·rcases aH hx with hx | hx
   ·exact e1 x hx
   ·exact e3 x hx
  grind[po]
 | .sl E t,d,j,cs,h,hc=>by
  obtain ⟨u,rfl⟩:=List.length_eq_one_iff.1 (Rep.rd_len _ h)
  have hh:hv θ ⟨id,[j]⟩=u:=by
   show vg (θ id) [j] =u
   rw[hu]
   show (all.toArray.getD j undef)=u
   have:=hc 0 u rfl
   rw[Nat.add_zero] at this
   simp[Array.getD_eq_getD_getElem?,this]
  refine ⟨fun x hx=>?_,?_⟩
  ·cases au hx
   exact ⟨hid,by grind⟩
  ·show [hv θ ⟨id,[j]⟩] = [u]
   rw[hh]
 | .fro t,d,j,cs,h,hc=>gW hid hu t d j cs h hc
 | .bag t,d,j,cs,h,hc=>gW hid hu t d j cs h hc
 | .wr t,d,j,cs,h,hc=>gW hid hu t d j cs h hc
 | .tree T E t,d,j,cs,h,hc=>by
  obtain ⟨u,rfl⟩:=List.length_eq_one_iff.1 (Rep.rd_len _ h)
  have hh:hv θ ⟨id,[j]⟩=u:=by
   show vg (θ id) [j] =u
   rw[hu]
   show (all.toArray.getD j undef)=u
   have:=hc 0 u rfl
   rw[Nat.add_zero] at this
   simp[Array.getD_eq_getD_getElem?,this]
  refine ⟨fun x hx=>?_,?_⟩
  ·cases au hx
   exact ⟨hid,by grind⟩
  ·show [hv θ ⟨id,[j]⟩] = [u]
   rw[hh]
theorem pM {P:Program} {w0:World} {J:Hp} {θ:Th} {id n:Nat} {chs:List Ent} (hid:id<n) {u:Value} (hu:θ id=u): ∀(t:Ty) (d:t.den) (cs:List Value),t.rep.rd J cs d->Lds t.isProd cs u->(NX id t d).ok P w0 J θ n chs/\(NX id t d).v θ=u
 | .int k,d,cs,h,hl=>⟨Eq.refl true,by
  rw[h] at hl;exact (List.cons.inj hl).1⟩
 | .bool,d,cs,h,hl=>⟨Eq.refl true,by
  rw[h] at hl;exact (List.cons.inj hl).1⟩
 | .str,d,cs,h,hl=>⟨Eq.refl true,by
  rw[h] at hl;exact (List.cons.inj hl).1⟩
 | .raw,d,cs,h,hl=>⟨d.2,by
  rw[h] at hl;exact (List.cons.inj hl).1⟩
 | .prod a b,d,cs,h,hl=>by
  have hl:u= .agg cs.toArray:=hl
  obtain ⟨e1,e2⟩:=gW (J:=J) hid (hu.trans hl) (.prod a b) d 0 cs h (fun i v hv=>by grind)
  exact ⟨e1,by show Value.agg _=_;grind⟩
 | .sl E t,d,cs,h,hl=>by
  subst hl
  have hh:hv θ ⟨id,[]⟩=u:=hu
  exact ⟨⟨hid,by grind⟩,hh⟩
 | .fro t,d,cs,h,hl=>pM hid hu t d cs h hl
 | .bag t,d,cs,h,hl=>pM hid hu t d cs h hl
 | .wr t,d,cs,h,hl=>by
  have hl:u= .agg cs.toArray:=hl
  obtain ⟨e1,e2⟩:=gW (J:=J) hid (hu.trans hl) t d 0 cs h (fun i v hv=>by grind)
  exact ⟨e1,by show Value.agg _=_;grind⟩
 | .tree T E t,d,cs,h,hl=>by
  subst hl
  have hh:hv θ ⟨id,[]⟩=u:=hu
  exact ⟨⟨hid,by grind⟩,hh⟩
structure Part (t:Ty) where
 ty:Ty
 get:t.den->ty.den
 set:t.den->ty.den->t.den
def xj (g:Bool):(t:Ty)->Nat->Nat->Option (Part t)
 | t,off,n=>if Nat.beq off 0&&(Nat.beq t.size n&&(t.isProd==g)) then some ⟨t,fun x=>x,fun _ y=>y⟩ else match t with
  | .prod a b=>if Nat.blt off a.size then (xj g a off n).bind fun r=>some ⟨r.ty,fun x=>r.get x.1,fun x y=>(r.set x.1 y,x.2)⟩ else (xj g b (off - a.size) n).bind fun r=>some ⟨r.ty,fun x=>r.get x.2,fun x y=>(x.1,r.set x.2 y)⟩
  | .fro a=>(xj g a off n).bind fun r=>some ⟨.fro r.ty,r.get,r.set⟩
  | .wr a=>(xj g a off n).bind fun r=>some ⟨r.ty,r.get,r.set⟩
  | _=>none
def Lens {α β:Type} (R:Rep α) (off:Nat) (S:Rep β) (f:α->β) (u:α->β->α):Prop:= ∀I w c x G,R.own I w c x G-> ∃d G1 K,G.Perm (G1++K)/\(c.drop off).take S.size=d/\S.own I w d (f x) G1 /\
 ∀J w' d' y G',I.le J->(∀b,b∈K->w'.heap[b]? =w.heap[b]?)->S.own J w' d' y G'-> ∃F,F.Perm (G'++K)/\R.own J w' (spl c off d') (u x y) F
theorem Lens.self {α:Type} {R:Rep α} :Lens R 0 R (fun x=>x) (fun _ y=>y):=fun I w c x G h =>
 ⟨c,G,[],by simp,by rw[<-R.own_len h];simp,h,fun J w' d' y G' hJ hK h'=>⟨G',by simp,by rw[C3 _ _ _ (by rw[R.own_len h,R.own_len h'];omega),R.own_len h',<-R.own_len h];grind⟩⟩
theorem Lens.fst {α β γ:Type} {A:Rep α} {B:Rep β} {S:Rep γ} {off:Nat} {f:α->γ} {u:α->γ->α} (hs:off+S.size<=A.size) (h:Lens A off S f u):Lens (aD A B) off S (fun x=>f x.1) (fun x y=>(u x.1 y,x.2)):=by
 rintro I w c x G ⟨c1,c2,Ga,Gb,rfl,rfl,h1,h2⟩
 have ⟨d,G1,K,p,e1,e2,e3⟩:=h I w c1 x.1 Ga h1
 refine ⟨d,G1,K++Gb,by grind,?_,e2,fun J w' d' y G' hJ hK h'=>?_⟩
 ·have hl:=A.own_len h1
  grind
 ·have ⟨F,q,k⟩:=e3 J w' d' y G' hJ (fun b hb=>hK b (aZ _ hb)) h'
  refine ⟨F++Gb,by grind,spl c1 off d',c2,F,Gb,?_,rfl,k,B.own_stay (B.own_mono h2 hJ) fun b hb=>hK b (bc _ hb)⟩
  rw[vJ _ _ _ _ (by rw[A.own_len h1,S.own_len h'];exact hs)]
theorem Lens.snd {α β γ:Type} {A:Rep α} {B:Rep β} {S:Rep γ} {off:Nat} {f:β->γ} {u:β->γ->β} (h:Lens B off S f u):Lens (aD A B) (A.size+off) S (fun x=>f x.2) (fun x y=>(x.1,u x.2 y)):=by
 rintro I w c x G ⟨c1,c2,Ga,Gb,rfl,rfl,h1,h2⟩
 have ⟨d,G1,K,p,e1,e2,e3⟩:=h I w c2 x.2 Gb h2
 have hl:=A.own_len h1
 refine ⟨d,G1,Ga++K,(p.append_left Ga).trans (List.perm_append_comm_assoc _ _ _),?_,e2,fun J w' d' y G' hJ hK h'=>?_⟩
 ·grind[List.drop_append,List.drop_of_length_le,Nat.add_sub_cancel_left]
 ·have ⟨F,q,k⟩:=e3 J w' d' y G' hJ (fun b hb=>hK b (bc _ hb)) h'
  refine ⟨Ga++F,(q.append_left Ga).trans (List.perm_append_comm_assoc _ _ _),c1,spl c2 off d',Ga,F,?_,rfl,A.own_stay (A.own_mono h1 hJ) fun b hb=>hK b (aZ _ hb),k⟩
  rw[<-hl,pK]
theorem Lens.fro {α β:Type} {R:Rep α} {S:Rep β} {off:Nat} {f:α->β} {u:α->β->α} (h:Fld R off S f) (k:Upd R off S u):Lens (tm R) off (tm S) f u:=by
 rintro I w c x G ⟨rfl,h1⟩
 have ⟨d,e1,e2⟩:=h I c x h1
 refine ⟨d,[],[],by simp,e1,⟨rfl,e2⟩,fun J w' d' y G' hJ hK h'=>⟨[],by rw[h'.1];simp,rfl,k J c x d' y (R.rd_mono h1 hJ) h'.2⟩⟩
structure PartOk {t:Ty} (off n:Nat) (r:Part t):Prop where
 fld:Fld t.rep off r.ty.rep r.get
 upd:Upd t.rep off r.ty.rep r.set
 updO:UpdO t.rep off r.ty.rep r.set
 lens:Lens t.rep off r.ty.rep r.get r.set
 eta: ∀x,r.set x (r.get x)=x
 size:r.ty.size=n
 fit:off+n<=t.size
theorem zR {g:Bool} : ∀(t:Ty) (off n:Nat) (r:Part t),xj g t off n=some r->PartOk off n r:=by
 intro t
 induction t with
 | prod a b iha ihb =>
  intro off n r h
  unfold xj at h
  split at h
  ·rename_i hc
   rw[ai,ai] at hc
   have h1:=al hc.1
   have h2:=al hc.2.1
   subst h1
   cases ad h
   exact ⟨Fld.self,Upd.self,UpdO.self,Lens.self,fun _=>rfl,h2,by omega⟩
  ·simp only at h
   split at h
   ·have ⟨q,e,h⟩:=bind_some h
    cases ad h
    have k:=iha off n q e
    have hfit:off+q.ty.rep.size<=a.rep.size:=by rw[q.ty.rep_size,a.rep_size,k.size];exact k.fit
    exact ⟨Fld.fst k.fld,Upd.fst hfit k.upd,UpdO.fst hfit k.updO,Lens.fst hfit k.lens,fun x=>congrArg (fun z=>(z,x.2)) (k.eta x.1),k.size,by have:=k.fit;show off+n<=a.size+b.size;omega⟩
   ·rename_i hlt
    have ⟨q,e,h⟩:=bind_some h
    cases ad h
    have k:=ihb (off - a.size) n q e
    have hge:a.size<=off:=by
     rw[Nat.blt_eq] at hlt;omega
    have e1:a.rep.size+(off - a.size)=off:=by rw[a.rep_size];omega
    refine ⟨?_,?_,?_,?_,fun x=>congrArg (fun z=>(x.1,z)) (k.eta x.2),k.size,by have:=k.fit;show off+n<=a.size+b.size;omega⟩
    ·have:=Fld.snd (A:=a.rep) k.fld
     rwa [e1] at this
    ·have:=Upd.snd (A:=a.rep) k.upd
     rwa [e1] at this
    ·have:=UpdO.snd (A:=a.rep) k.updO
     rwa [e1] at this
    ·have:=Lens.snd (A:=a.rep) k.lens
     rwa [e1] at this
 | fro a ih =>
  intro off n r h
  unfold xj at h
  split at h
  ·rename_i hc
   rw[ai,ai] at hc
   have h1:=al hc.1
   have h2:=al hc.2.1
   subst h1
   cases ad h
   exact ⟨Fld.self,Upd.self,UpdO.self,Lens.self,fun _=>rfl,h2,by omega⟩
  ·have ⟨q,e,h⟩:=bind_some h
   cases ad h
   have k:=ih off n q e
   exact ⟨k.fld,k.upd,fun I w c x G d y K h1 h2=>⟨[],[],⟨rfl,k.upd I c x d y h1.2 h2.2⟩,by rw[h1.1,h2.1]⟩,Lens.fro k.fld k.upd,k.eta,k.size,k.fit⟩
 | wr a ih =>
  intro off n r h
  unfold xj at h
  split at h
  ·rename_i hc
   rw[ai,ai] at hc
   have h1:=al hc.1
   have h2:=al hc.2.1
   subst h1
   cases ad h
   exact ⟨Fld.self,Upd.self,UpdO.self,Lens.self,fun _=>rfl,h2,by omega⟩
  ·have ⟨q,e,h⟩:=bind_some h
   cases ad h
   have k:=ih off n q e
   exact ⟨k.fld,k.upd,k.updO,k.lens,k.eta,k.size,k.fit⟩
 | _ =>
  intro off n r h
  unfold xj at h
  split at h
  ·rename_i hc
   rw[ai,ai] at hc
   have h1:=al hc.1
   have h2:=al hc.2.1
   subst h1
   cases ad h
   exact ⟨Fld.self,Upd.self,UpdO.self,Lens.self,fun _=>rfl,h2,by omega⟩
  grind
end R
namespace R
open Go.RowKit
open D
def one (v:Value):AV:=.one (.val v)
def asB:AV->Option (Bool×Bool)
 | .one (.val (.bool b))=>some (b,true)
 | .one (.nb b)=>some (b,false)
 | _=>none
def onB {Y:Type} (v:AV) (x y:Option Y):Option Y:=match v with
 | .one (.val (.bool b))=>if b then x else y
 | .one (.nb b)=>if b then y else x
 | _=>none
theorem U0 {Y:Type} {v:AV} {x y:Option Y} {r:Y} (h:onB v x y=some r): ∃b:Bool,(∀θ,v.v θ= .bool b)/\(if b then x else y)=some r:=by
 unfold onB at h
 split at h
 ·exact ⟨_,fun θ=>rfl,h⟩
 ·rename_i b
  refine ⟨!b,fun θ=>rfl,?_⟩
  grind
 grind
def bL {Y:Type} (b:Bool) (x:Option Y):Option Y:=match b with
 | true=>x
 | false=>none
theorem aj {Y:Type} {b:Bool} {x:Option Y} {r:Y} (h:bL b x=some r):b=true/\x=some r:=by
 cases b
 ·cases h
 ·exact ⟨rfl,h⟩
def isLit:Value->Bool
 | .int _ (.ofNat _)=>true
 | .int _ (.negSucc _)=>true
 | _=>false
def arith (b:BinOp) (k:IntKind) (m n:Int):Option Value:=match k,b with
 | .i64,.add=>some (.int .i64 (i64.wrap (m+n)))
 | .i64,.sub=>some (.int .i64 (i64.wrap (m - n)))
 | .i64,.mul=>some (.int .i64 (i64.wrap (m*n)))
 | .i64,.and=>some (.int .i64 (tn m n))
 | .i64,.or=>some (.int .i64 (orI m n))
 | .i64,.xor=>some (.int .i64 (ack m n))
 | .u64,.add=>some (.int .u64 (IntKind.u64.wrap (m+n)))
 | .u64,.sub=>some (.int .u64 (IntKind.u64.wrap (m - n)))
 | .u64,.mul=>some (.int .u64 (IntKind.u64.wrap (m*n)))
 | .u64,.and=>some (.int .u64 (RC m n))
 | .u8,.sub=>some (.int .u8 (IntKind.u8.wrap (m - n)))
 | _,.eql=>some (.bool (m==n))
 | _,.neq=>some (.bool (m !=n))
 | _,.lss=>some (.bool (decide (m<n)))
 | _,.leq=>some (.bool (decide (m<=n)))
 | _,.gtr=>some (.bool (decide (m>n)))
 | _,.geq=>some (.bool (decide (m≥n)))
 | _,_=>none
def Gn (b:BinOp) (k:IntKind) (m n:Int):Option (Value×((p:Prop)×Decidable p)):=match k,b with
 | .i64,.quo=>some (.int .i64 (CZ m n),⟨n≠0,inferInstance⟩)
 | .i64,.rem=>some (.int .i64 (Int.tmod m n),⟨n≠0,inferInstance⟩)
 | .i64,.shl=>some (.int .i64 (xf m n),⟨0<=n,inferInstance⟩)
 | .i64,.shr=>some (.int .i64 (oK m n),⟨0<=n,inferInstance⟩)
 | .u64,.shr=>some (.int .u64 (oK m n),⟨0<=n,inferInstance⟩)
 | _,_=>none
def aco (k:IntKind) (m n:Int):Int:=k.wrap (m*2 ^ (min n.toNat k.bits))
def acp (k:IntKind) (m n:Int):Int:=m.fdiv (2 ^ (min n.toNat k.bits))
def Gp (b:BinOp) (k:IntKind) (m n:Int):Option Value:=match b,k with
 | .shl,.i64=>some (.int .i64 (xf m n))
 | .shr,.i64=>some (.int .i64 (oK m n))
 | .shr,.u64=>some (.int .u64 (oK m n))
 | .shl,k=>some (.int k (aco k m n))
 | .shr,k=>some (.int k (acp k m n))
 | _,_=>none
def aaF {Y:Type} (c:Bool) (p:Prop) (d:Decidable p) (x:Option Y):Option Y:=match c with
 | true=> @ite _ p d x none
 | false=>(@chk p d).bind fun _=>x
theorem Iz {Y:Type} {c:Bool} {p:Prop} {d:Decidable p} {x:Option Y} {r:Y} (h:aaF c p d x=some r):p/\x=some r:=by
 cases c with
 | true =>
  have h: @ite _ p d x none=some r:=h
  grind
 | false =>
  have ⟨u,e,h⟩:=bind_some (show (@chk p d).bind _=some r from h)
  grind[bQ]
def isConst:Operand->Bool
 | .const _=>true
 | _=>false
def eqB (b:BinOp) (m n:Bool):Option Value:=match b with
 | .eql=>some (.bool (m==n))
 | .neq=>some (.bool (m !=n))
 | _=>none
def eqS (b:BinOp) (m n:ByteArray):Option Value:=match b with
 | .eql=>some (.bool (m==n))
 | .neq=>some (.bool (m !=n))
 | _=>none
section
variable {P:Program} {I:Hp} {w0:World} {o:Oper} {ev:Operand->Value} {x y:Operand} {t u:TypeId}
theorem R0 {b:BinOp} {k:IntKind} {m n:Int} {r:Value} (h:arith b k m n=some r) (ho:o.op= .binOp b t x y u) (hx:ev x= .int k m) (hy:ev y= .int k n):OpT P I w0 o ev [] (· =r) (fun _=>[]):=by
 unfold arith at h
 split at h <;> first | cases h | (cases ad h)
 ·exact Wa ho hx hy
 ·exact Wb ho hx hy
 ·exact Wc ho hx hy
 ·exact Wh ho hx hy
 ·exact YX ho hx hy
 ·exact Wi ho hx hy
 ·exact WD ho hx hy
 ·exact WE ho hx hy
 ·exact WG ho hx hy
 ·exact WH ho hx hy
 ·exact bd fun w=>by simp[execOp,ho,hx,hy];rfl
 ·exact xe ho hx hy rfl rfl
 ·exact xe ho hx hy rfl rfl
 ·exact xe ho hx hy rfl rfl
 ·exact xe ho hx hy rfl rfl
 ·exact xe ho hx hy rfl rfl
 ·exact xe ho hx hy rfl rfl
theorem NY {b:BinOp} {k:IntKind} {m n:Int} {r:Value×((p:Prop)×Decidable p)} (h:Gn b k m n=some r) (hp:r.2.1) (ho:o.op= .binOp b t x y u) (hx:ev x= .int k m) (hy:ev y= .int k n):OpT P I w0 o ev [] (· =r.1) (fun _=>[]):=by
 unfold Gn at h
 split at h <;> first | cases h | (cases ad h)
 ·grind[Wd]
 ·grind[We]
 ·grind[Wf]
 ·grind[Wg]
 grind[WI]
theorem NZ {b:BinOp} {k j:IntKind} {m n:Int} {r:Value} (h:Gp b k m n=some r) (hp:0<=n) (ho:o.op= .binOp b t x y u) (hx:ev x= .int k m) (hy:ev y= .int j n):OpT P I w0 o ev [] (· =r) (fun _=>[]):=by
 have hn: ¬n<0:=by omega
 unfold Gp at h
 split at h <;> first | (cases ad h) | grind
 all_goals exact bd fun w=>by simp[execOp,ho,hx,hy,eqGuard,binOp,Op.shift,hn,Result.andThen,xf,oK,aco,acp,IntKind.bits]
theorem L4 {b:BinOp} {k:IntKind} {m n:Int} {r:Value} (h:Gp b k m n=some r):r.oneCell'=true:=by
 unfold Gp at h
 split at h <;> first | (cases ad h;rfl) | grind
theorem N1 {b:BinOp} {k:IntKind} {m n:Int} {r:Value} (h:arith b k m n=some r):r.oneCell'=true:=by
 unfold arith at h
 split at h <;> cases h <;> rfl
theorem L5 {b:BinOp} {k:IntKind} {m n:Int} {r:Value×((p:Prop)×Decidable p)} (h:Gn b k m n=some r):r.1.oneCell'=true:=by
 unfold Gn at h
 split at h <;> cases h <;> rfl
theorem Ed {b:BinOp} {m n:Bool} {r:Value} (h:eqB b m n=some r):r.oneCell'=true:=by
 unfold eqB at h
 split at h <;> cases h <;> rfl
theorem WS {b:BinOp} {m n:ByteArray} {r:Value} (h:eqS b m n=some r):r.oneCell'=true:=by
 unfold eqS at h
 split at h <;> cases h <;> rfl
theorem Ks {b:BinOp} {m n:Bool} {r:Value} (h:eqB b m n=some r) (hT:P.underlying t=some .bool) (ho:o.op= .binOp b t x y u) (hx:ev x= .bool m) (hy:ev y= .bool n):OpT P I w0 o ev [] (· =r) (fun _=>[]):=by
 unfold eqB at h
 grind[ad,Wj,Wk]
theorem Zc {b:BinOp} {m n:ByteArray} {r:Value} (h:eqS b m n=some r) (ho:o.op= .binOp b t x y u) (hx:ev x= .string m) (hy:ev y= .string n):OpT P I w0 o ev [] (· =r) (fun _=>[]):=by
 unfold eqS at h
 grind[ad,Wu,Wv]
end
section
variable {Y:Type} (tt:TT) (s:Sg) (k:Res->Option Y)
def kv (v:Value):Option Y:=k (.pure s (.one (.val v)))
def WU (x:Operand):Option Y:=(opd s x).bind fun v=>k (.pure s v)
def Zd (c x y:Operand):Option Y:=(opd s c).bind fun c=>onB c ((opd s x).bind fun v=>k (.pure s v)) ((opd s y).bind fun v=>k (.pure s v))
def abg (x:Operand):Option Y:=match opd s x with
 | some (.one (.val (.bool b)))=>k (.pure s (.one (.nb b)))
 | some (.one (.nb b))=>kv s k (.bool b)
 | _=>none
def abh (x:Operand):Option Y:=match opd s x with
 | some (.one (.val (.int .i64 n)))=>kv s k (.int .i64 (i64.wrap (-n)))
 | _=>none
def aaG (b:BinOp) (t:TypeId) (x y:Operand):Option Y:=match opd s x,opd s y with
 | some (.one (.val (.int j m))),some (.one (.val (.int j' n)))=>if j=j' then match arith b j m n with
   | some r=>kv s k r
   | none=>(Gn b j m n).bind fun r=>aaF (isConst y) r.2.1 r.2.2 (kv s k r.1)
  else (Gp b j m n).bind fun r=>aaF (isConst y) (0<=n) inferInstance (kv s k r)
 | some (.one (.val (.bool m))),some (.one (.val (.bool n)))=>(td tt t).bind fun d=>bL d.boo ((eqB b m n).bind fun r=>kv s k r)
 | some (.one (.nb m)),some (.one (.val (.bool n)))=>(td tt t).bind fun d=>bL d.boo ((eqB b (!m) n).bind fun r=>kv s k r)
 | some (.one (.val (.bool m))),some (.one (.nb n))=>(td tt t).bind fun d=>bL d.boo ((eqB b m (!n)).bind fun r=>kv s k r)
 | some (.one (.nb m)),some (.one (.nb n))=>(td tt t).bind fun d=>bL d.boo ((eqB b (!m) (!n)).bind fun r=>kv s k r)
 | some (.one (.val (.string m))),some (.one (.val (.string n)))=>(eqS b m n).bind fun r=>kv s k r
 | some (.agg xs),some (.agg ys)=>(td tt t).bind fun d=>d.eq.bind fun ks=>(abf ks xs ys).bind fun r=>match b with
  | .eql=>kv s k (.bool r)
  | .neq=>k (.pure s (.one (.nb r)))
  | _=>none
 | _,_=>none
def Ze (S D:TypeId) (x:Operand):Option Y:=(td tt S).bind fun a=>(td tt D).bind fun b=>a.ik.bind fun k1=>b.ik.bind fun k2=>match opd s x,k1,k2 with
 | some (.one (.val (.int j m))),some k1,some k2=>if j=k1 then kv s k (.int k2 (k2.wrap m)) else none
 | _,_,_=>none
def Ee (x:Operand) (i:Nat):Option Y:=match opd s x with
 | some (.tup ys)=>(ys[i]?).bind fun y=>if y.1 then k (.pure s (.agg y.2)) else match y.2 with
  | [x] =>k (.pure s (.one x))
  | _=>none
 | _=>none
def sLen (T:TypeId) (x:Operand):Option Y:=(td tt T).bind fun d=>match d.el,opd s x with
 | some _,some (.one (.rd _ (.sl _ _) xs))=>kv s k (.int .i64 (xs.length:Int))
 | some _,some (.one (.val (.slice none 0 0)))=>kv s k (.int .i64 ((0:Nat):Int))
 | none,some (.one (.val (.string b)))=>d.ik.bind fun k1=>match k1 with
  | none=>kv s k (.int .i64 (b.size:Int))
  | _=>none
 | _,_=>none
def N2 (T:TypeId) (x i:Operand):Option Y:=(td tt T).bind fun d=>match d.el,opd s x,opd s i with
 | some E,some (.one (.rd h (.sl E' t) xs)),some (.one (.val (.int .i64 i)))=>(td tt E).bind fun e=>bL (Nat.beq e.n t.size) ((aG xs i).bind fun a=>k (.pure s (.elr h E' t xs a i 0)))
 | _,_,_=>none
def U1 (T:TypeId) (x:Operand) (f:Nat):Option Y:=(td tt T).bind fun d=>(d.fields[f]?).bind fun q=>match opd s x with
 | some (.elr h E t xs a i off)=>k (.pure s (.elr h E t xs a i (off+q.1)))
 | some (.elo h ver E t xs a i off)=>k (.pure s (.elo h ver E t xs a i (off+q.1)))
 | some (.one (.ptr h off))=>k (.pure s (.one (.ptr h (off+q.1))))
 | _=>none
def U2 (T:TypeId) (x:Operand):Option Y:=(td tt T).bind fun d=>match opd s x with
 | some (.elr h E t xs a i off)=>(xj d.agg t off d.n).bind fun p=>bL (p.ty.isProd==d.agg) (k (.pure s (NX s.nxt p.ty (p.get a))))
 | _=>none
end
section
variable {Y:Type} {tt:TT} {s:Sg} {k:Res->Option Y} {P:Program} {w0:World} {o:Oper} {res:Y} {x y:Operand}
def Oks (P:Program) (w0:World) (s:Sg) (o:Oper) (k:Res->Option Y) (res:Y):Prop:= ∃r,k r=some res/\Good P w0 s o r
theorem kz {v:Value} (h:kv s k v=some res) (h1:v.oneCell'=true) (hop: ∀J θ,Fine P w0 J θ s->OpT P J w0 o (evL (envL θ s)) [] (· =v) (fun _=>[])):Oks P w0 s o k res:=
 ⟨_,h,ep hop fun _ _ _=>h1⟩
theorem Kt (ho:o.op= .move x\/o.op= .assign x) (h:WU s k x=some res):Oks P w0 s o k res:=by
 have ⟨v,hv,h⟩:=bind_some h
 refine ⟨_,h,ep (fun J θ hf=>?_) fun J θ hf=>bA hf hv⟩
 rcases ho with ho | ho
 ·exact RG ho (aB hv)
 ·exact LS ho (aB hv)
theorem R1 {c:Operand} (ho:o.op= .pick c x y) (h:Zd s k c x y=some res):Oks P w0 s o k res:=by
 have ⟨v,hv,h⟩:=bind_some h
 have ⟨b,hb,h⟩:=U0 h
 cases b with
 | true =>
  have ⟨u,hu,h⟩:=bind_some (show (opd s x).bind _=some res from h)
  exact ⟨_,h,ep (fun J θ hf=>Kg ho ((aB hv).trans (hb θ)) (aB hu)) fun J θ hf=>bA hf hu⟩
 | false =>
  have ⟨u,hu,h⟩:=bind_some (show (opd s y).bind _=some res from h)
  exact ⟨_,h,ep (fun J θ hf=>Kg ho ((aB hv).trans (hb θ)) (aB hu)) fun J θ hf=>bA hf hu⟩
theorem WV {t:TypeId} (ho:o.op= .unOp .not t x) (h:abg s k x=some res):Oks P w0 s o k res:=by
 unfold abg at h
 split at h
 ·rename_i b hx
  exact ⟨_,h,ep (fun J θ hf=>NB ho (aB hx)) fun _ _ _=>trivial⟩
 ·rename_i b hx
  exact kz h rfl fun J θ hf=>by
   have:=NB (P:=P) (I:=J) (w0:=w0) (b:= !b) ho (aB (θ:=θ) hx)
   grind
 grind
theorem WW {t:TypeId} (ho:o.op= .unOp .neg t x) (h:abh s k x=some res):Oks P w0 s o k res:=by
 unfold abh at h
 split at h
 ·rename_i b hx
  exact kz h rfl fun J θ hf=>V9 ho (aB hx)
 grind
theorem N3 (hT:TTok P tt) {b:BinOp} {t u:TypeId} (ho:o.op= .binOp b t x y u) (h:aaG tt s k b t x y=some res):Oks P w0 s o k res:=by
 unfold aaG at h
 split at h
 ·rename_i j m j' n hx hy
  split at h
  ·rename_i hj
   subst hj
   split at h
   ·rename_i r hr
    exact kz h (N1 hr) fun J θ hf=>R0 hr ho (aB hx) (aB hy)
   ·have ⟨r,hr,h⟩:=bind_some h
    have ⟨hp,h⟩:=Iz h
    exact kz h (L5 hr) fun J θ hf=>NY hr hp ho (aB hx) (aB hy)
  ·have ⟨r,hr,h⟩:=bind_some h
   have ⟨hp,h⟩:=Iz h
   exact kz h (L4 hr) fun J θ hf=>NZ hr hp ho (aB hx) (aB hy)
 ·rename_i m n hx hy
  have ⟨d,hd,h⟩:=bind_some h
  have ⟨hb,h⟩:=aj h
  have ⟨r,hr,h⟩:=bind_some h
  exact kz h (Ed hr) fun J θ hf=>Ks hr ((hT.get hd).boo hb) ho (aB hx) (aB hy)
 ·rename_i m n hx hy
  have ⟨d,hd,h⟩:=bind_some h
  have ⟨hb,h⟩:=aj h
  have ⟨r,hr,h⟩:=bind_some h
  exact kz h (Ed hr) fun J θ hf=>Ks hr ((hT.get hd).boo hb) ho (aB hx) (aB hy)
 ·rename_i m n hx hy
  have ⟨d,hd,h⟩:=bind_some h
  have ⟨hb,h⟩:=aj h
  have ⟨r,hr,h⟩:=bind_some h
  exact kz h (Ed hr) fun J θ hf=>Ks hr ((hT.get hd).boo hb) ho (aB hx) (aB hy)
 ·rename_i m n hx hy
  have ⟨d,hd,h⟩:=bind_some h
  have ⟨hb,h⟩:=aj h
  have ⟨r,hr,h⟩:=bind_some h
  exact kz h (Ed hr) fun J θ hf=>Ks hr ((hT.get hd).boo hb) ho (aB hx) (aB hy)
 ·rename_i m n hx hy
  have ⟨r,hr,h⟩:=bind_some h
  exact kz h (WS hr) fun J θ hf=>Zc hr ho (aB hx) (aB hy)
 ·rename_i xs ys hx hy
  have ⟨d,hd,h⟩:=bind_some h
  have ⟨ks,hk,h⟩:=bind_some h
  have ⟨r,hr,h⟩:=bind_some h
  have he: ∀(θ:Th) w,EqT P t (AV.v θ (.agg xs)) (AV.v θ (.agg ys)) r w:=fun θ w=>WR ((hT.get hd).eq _ hk w) hr
  split at h
  ·exact kz h rfl fun J θ hf=>Ww (he θ) ho (aB hx) (aB hy) rfl
  ·exact ⟨_,h,ep (fun J θ hf=>Wx (he θ) ho (aB hx) (aB hy) rfl) fun _ _ _=>trivial⟩
  grind
 grind
theorem R2 (hT:TTok P tt) {S D:TypeId} (ho:o.op= .convert S D x) (h:Ze tt s k S D x=some res):Oks P w0 s o k res:=by
 have ⟨a,ha,g1⟩:=bind_some h
 have ⟨b,hb,g2⟩:=bind_some g1
 have ⟨k1,h1,g3⟩:=bind_some g2
 have ⟨k2,h2,g4⟩:=bind_some g3
 split at g4
 ·rename_i j m k1 k2 hx
  split at g4
  ·rename_i e;subst e
   exact kz g4 rfl fun J θ hf=>Gh ((hT.get ha).ik _ h1) ((hT.get hb).ik _ h2) ho (aB hx)
  grind
 grind
theorem IA {i:Nat} (ho:o.op= .extract x i) (h:Ee s k x i=some res):Oks P w0 s o k res:=by
 unfold Ee at h
 split at h
 ·rename_i ys hx
  have ⟨y,hy,h⟩:=bind_some h
  have hi: ∀θ,((ys.map (kt θ)).toArray)[i]? =some (kt θ y):=fun θ=>by grind
  have hm:=List.mem_of_getElem? hy
  split at h
  ·rename_i h1
   exact ⟨_,h,ep (fun J θ hf=>Aj ho (aB hx) ((hi θ).trans (by unfold kt;rw[if_pos h1];rfl))) fun J θ hf=>(bA hf hx) y hm⟩
  ·rename_i h1
   split at h
   ·rename_i z hz
    exact ⟨_,h,ep (fun J θ hf=>Aj ho (aB hx) ((hi θ).trans (by unfold kt;rw[if_neg h1,hz];rfl))) fun J θ hf=>(bA hf hx) y hm z (by grind)⟩
   grind
 grind
theorem WX (hT:TTok P tt) {T:TypeId} (ho:o.op= .call { callee:=.builtin .len,args:= #[x],argTypes:= #[T] }) (h:sLen tt s k T x=some res):Oks P w0 s o k res:=by
 have ⟨d,hd,h⟩:=bind_some h
 split at h
 ·rename_i E h' E' t xs he hx
  exact kz h rfl fun J θ hf=>C1 (Hd.of_rd (bA hf hx).2) ((hT.get hd).el _ he) ho (aB hx)
 ·rename_i E he hx
  exact kz h rfl fun J θ hf=>vH ((hT.get hd).el _ he) ho (aB hx)
 ·rename_i b he hx
  have ⟨k1,h1,g⟩:=bind_some h
  cases k1 with
  | none=>exact kz g rfl fun J θ hf=>Im ((hT.get hd).ik _ h1) ho (aB hx)
  | some k1=>cases g
 grind
theorem L6 (hT:TTok P tt) {T:TypeId} {i:Operand} (ho:o.op= .indexAddr T x i) (h:N2 tt s k T x i=some res):Oks P w0 s o k res:=by
 have ⟨d,hd,h⟩:=bind_some h
 split at h
 ·rename_i E h' E' t xs j he hx hi
  have ⟨e,hE,h⟩:=bind_some h
  have ⟨hn,h⟩:=aj h
  have ⟨a,ha,h⟩:=bind_some h
  have hn:=al hn
  refine ⟨_,h,ep (fun J θ hf=>?_) fun J θ hf=>⟨(bA hf hx).1,ha,(bA hf hx).2⟩⟩
  have:=rU (I:=J) (w0:=w0) (Hd.of_rd (bA hf hx).2) ((hT.get hd).el _ he) (hT.get hE).ti ho (aB hx) (aB hi) (D4 ha)
  rw[hn] at this
  exact this
 grind
theorem N4 (hT:TTok P tt) {T:TypeId} {f:Nat} (ho:o.op= .fieldAddr T x f) (h:U1 tt s k T x f=some res):Oks P w0 s o k res:=by
 have ⟨d,hd,h⟩:=bind_some h
 have ⟨q,hq,h⟩:=bind_some h
 have hf:=(hT.get hd).fld f q hq
 split at h
 ·rename_i hh E t xs a i off hx
  refine ⟨_,h,ep (fun J θ hF=>?_) fun J θ hF=>(by have:=bA hF hx;exact this)⟩
  have:=yp (I:=J) (w0:=w0) hf ho (aB (θ:=θ) hx)
  rw[Nat.add_assoc] at this
  exact this
 ·rename_i hh ver E t xs a i off hx
  refine ⟨_,h,ep (fun J θ hF=>?_) fun J θ hF=>(by have:=bA hF hx;exact this)⟩
  have:=yp (I:=J) (w0:=w0) hf ho (aB (θ:=θ) hx)
  rw[Nat.add_assoc] at this
  exact this
 ·rename_i hh off hx
  exact ⟨_,h,ep (fun J θ hF=>lX hf ho (aB (θ:=θ) hx)) fun J θ hF=>(by have:=bA hF hx;exact this)⟩
 grind
theorem N5 (hT:TTok P tt) {T:TypeId} (ho:o.op= .load T x) (h:U2 tt s k T x=some res):Oks P w0 s o k res:=by
 have ⟨d,hd,h⟩:=bind_some h
 split at h
 ·rename_i hh E t xs a i off hx
  have ⟨p,hp,h⟩:=bind_some h
  have ⟨hg,h⟩:=aj h
  have hp:=zR _ _ _ _ hp
  have hdk:=hT.get hd
  refine ⟨_,h,List.Perm.refl _,aR rfl,fun J θ hf=>?_⟩
  have ho':=bA hf hx
  have:=Io (P:=P) (w0:=w0) (o:=o) (T:=T) ho'.2.2 ho'.2.1 hp.fld hdk.ti (p.ty.rep_size.trans hp.size) hdk.one ho (aB (θ:=θ) hx) t.rep_size
  refine OpT.weak this (fun v hv=>?_) (fun v hv=>rfl)
  have ⟨c,h1,h2⟩:=hv
  rw[<-show (p.ty.isProd==d.agg)=true->p.ty.isProd=d.agg from fun e=>by grind,] at h2
  all_goals first | exact hg | skip
  have:=pM (P:=P) (w0:=w0) (J:=J) (θ:=upd θ s.nxt v) (id:=s.nxt) (n:=s.nxt+1) (chs:=(Res.pure s (NX s.nxt p.ty (p.get a))).chs s.nxt) (aw _) iN p.ty (p.get a) c h1 h2
  exact ⟨this.1,this.2,fun g hg=>by cases hg⟩
 grind
end
end R
namespace R
open Go.RowKit
open D
def pull (h:Hdr):List Ent->Option (Ent×List Ent)
 | [] =>none
 | e::l=>if Hdr.beq e.1 h then some (e,l) else (pull h l).bind fun r=>some (r.1,e::r.2)
theorem fa {h:Hdr} : ∀ {l:List Ent} {r:Ent×List Ent},pull h l=some r->l.Perm (r.1::r.2)/\r.1.1=h
 | [],r,e=>by cases e
 | x::l,r,e=>by
  unfold pull at e
  split at e
  ·rename_i hx
   obtain rfl:=ad e
   exact ⟨List.Perm.refl _,Hdr.beq_eq hx⟩
  ·obtain ⟨q,hq,e⟩:=bind_some e
   obtain rfl:=ad e
   obtain ⟨p,k⟩:=fa hq
   exact ⟨(p.cons x).trans (List.Perm.swap _ _ _),k⟩
def Co (h:Hdr) (l:List Ent):Bool:=l.all fun e=> !(Hdr.beq e.1 h)
theorem Ap: ∀l:List Nat,YK l l=true
 | [] =>rfl
 | a::l=>by show (Nat.beq a a&&YK l l)=true;rw[Nat.beq_refl,Ap l];rfl
theorem oO {h:Hdr} {l:List Ent} (k:Co h l=true) {e:Ent} (he:e∈l):e.1≠h:=by
 intro e1
 have:=(List.all_eq_true.1 k) e he
 rw[e1] at this
 unfold Hdr.beq at this
 rw[Nat.beq_refl,Ap] at this
 cases this
structure Row where
 ver:Nat
 E:TypeId
 t:Ty
 xs:List t.den
 rest:List Ent
def rowOf (h:Hdr) (chs:List Ent):Option Row:=(pull h chs).bind fun r=>match r.1.2.2 with
 | .own (.sl E t) xs=>bL (Co h r.2) (some ⟨r.1.2.1,E,t,xs,r.2⟩)
 | _=>none
def Row.ent (r:Row) (h:Hdr):Ent:=(h,r.ver,.own (.sl r.E r.t) r.xs)
theorem bN {h:Hdr} {chs:List Ent} {r:Row} (e:rowOf h chs=some r):chs.Perm (r.ent h::r.rest)/\ ∀e∈r.rest,e.1≠h:=by
 obtain ⟨q,hq,e⟩:=bind_some e
 obtain ⟨p,k⟩:=fa hq
 obtain ⟨⟨h',ver,c⟩,rest⟩:=q
 obtain rfl:h'=h:=k
 cases c with
 | own t' d =>
  cases t' with
  | sl E t =>
   obtain ⟨hn,e⟩:=aj (show bL (Co h' rest) _=some r from e)
   obtain rfl:=ad e
   exact ⟨p,fun e he=>oO hn he⟩
  | _=>cases e
 | _=>cases e
theorem vP {h:Hdr} {chs:List Ent} {r:Row} (e:rowOf h chs=some r) {n:Nat} (hv:r.ver<n):Mem chs n h r.ver (.own (.sl r.E r.t) r.xs):=by
 obtain ⟨p,k⟩:=bN e
 refine ⟨hv,fun x hx c hs=>?_⟩
 rcases ax (p.mem_iff.1 hx) with rfl | hx
 ·rcases hs.2 with h1 | h1
  ·exact h1.2
  ·exact h1.elim
 ·exact absurd hs.1 (k x hx)
structure Blk where
 ver:Nat
 T:TypeId
 cells:List LV
 rest:List Ent
def rO (h:Hdr) (chs:List Ent):Option Blk:=(pull h chs).bind fun r=>match r.1.2.2 with
 | .blk T cells=>some ⟨r.1.2.1,T,cells,r.2⟩
 | _=>none
def Blk.ent (r:Blk) (h:Hdr):Ent:=(h,r.ver,.blk r.T r.cells)
theorem kA {h:Hdr} {chs:List Ent} {r:Blk} (e:rO h chs=some r):chs.Perm (r.ent h::r.rest):=by
 obtain ⟨q,hq,e⟩:=bind_some e
 obtain ⟨p,k⟩:=fa hq
 obtain ⟨⟨h',ver,c⟩,rest⟩:=q
 obtain rfl:h'=h:=k
 cases c with
 | blk T cells =>
  obtain rfl:=ad (show some _=some r from e)
  exact p
 | _=>cases e
def lD:AV->Option (List LV)
 | .one x=>some [x]
 | .agg xs=>some xs
 | _=>none
theorem iO {v:AV} {cs:List LV} (h:lD v=some cs) {P:Program} {w0:World} {J:Hp} {θ:Th} {n:Nat} {chs:List Ent} (hv:v.ok P w0 J θ n chs):(∀x∈cs,x.ok P w0 J θ n)/\(v.v θ).cells=(cs.map (·.v θ)).toArray:=by
 unfold lD at h
 split at h
 ·obtain rfl:=ad h
  exact ⟨fun x hx=>by obtain rfl:=au hx;exact hv,Ao (LV.one (show LV.ok P w0 J θ n _ from hv))⟩
 ·obtain rfl:=ad h
  exact ⟨hv,rfl⟩
 ·cases h
theorem Ef {P:Program} {w0:World} {J:Hp} {θ:Th} {n:Nat} {cs:List LV} (h: ∀x∈cs,x.ok P w0 J θ n):(cs.map (·.v θ)).all (·.oneCell')=true:=List.all_eq_true.2 fun v hv=>by
 obtain ⟨x,hx,rfl⟩:=List.mem_map.1 hv
 exact LV.one (h x hx)
def Eg (k:IntKind):LV->Option Int
 | .val (.int k' n)=>if k'=k then some n else none
 | _=>none
def C5:LV->Option Bool
 | .val (.bool b)=>some b
 | .nb b=>some (!b)
 | _=>none
def L7:LV->Option ByteArray
 | .val (.string b)=>some b
 | _=>none
def isNil:Value->Bool
 | .slice none 0 0=>true
 | _=>false
theorem nw {v:Value} (h:isNil v=true):v= .slice none 0 0:=by
 unfold isNil at h
 split at h
 ·rfl
 ·cases h
def R3 (E:TypeId) (t:Ty):LV->Option (List t.den)
 | .rd _ t' d=>my t' (.sl E t) d
 | .val v=>bL (isNil v) (some [])
 | _=>none
def C6:Value->Bool
 | .pointer none=>true
 | _=>false
theorem Aq {v:Value} (h:C6 v=true):v= .pointer none:=by
 unfold C6 at h
 split at h
 ·rfl
 ·cases h
def YL (T E:TypeId) (t:Ty):LV->Option (Tr t.den)
 | .rd _ t' d=>my t' (.tree T E t) d
 | .val v=>bL (C6 v) (some .nil)
 | _=>none
def hd1 {α:Type} (f:LV->Option α):List LV->Option (α×List LV)
 | x::r=>(f x).bind fun d=>some (d,r)
 | [] =>none
def abi:LV->Option Raw
 | .rd _ t' d=>my t' .raw d
 | _=>none
def cP:(t:Ty)->List LV->Option (t.den×List LV)
 | .int k,l=>hd1 (Eg k) l
 | .bool,l=>hd1 C5 l
 | .str,l=>hd1 L7 l
 | .raw,l=>hd1 abi l
 | .prod a b,l=>(cP a l).bind fun x=>(cP b x.2).bind fun y=>some ((x.1,y.1),y.2)
 | .sl E t,l=>hd1 (R3 E t) l
 | .fro t,l=>cP t l
 | .bag t,l=>cP t l
 | .wr t,l=>cP t l
 | .tree T E t,l=>hd1 (YL T E t) l
theorem Eh {k:IntKind} {x:LV} {n:Int} (h:Eg k x=some n) (θ:Th):x.v θ= .int k n:=by
 unfold Eg at h
 split at h
 ·split at h
  ·rename_i hk
   subst hk
   obtain rfl:=ad h
   rfl
  ·cases h
 ·cases h
theorem Gq {x:LV} {n:Bool} (h:C5 x=some n) (θ:Th):x.v θ= .bool n:=by
 unfold C5 at h
 split at h
 ·obtain rfl:=ad h;rfl
 ·obtain rfl:=ad h;rfl
 ·cases h
theorem Ku {x:LV} {n:ByteArray} (h:L7 x=some n) (θ:Th):x.v θ= .string n:=by
 unfold L7 at h
 split at h
 ·obtain rfl:=ad h;rfl
 ·cases h
theorem Ar {E:TypeId} {t:Ty} {x:LV} {d:List t.den} (h:R3 E t x=some d) {P:Program} {w0:World} {J:Hp} {θ:Th} {n:Nat} (hx:x.ok P w0 J θ n):(Ty.sl E t).rep.rd J [x.v θ] d:=by
 cases x with
 | rd h' t' d'=>exact gy (show my t' (.sl E t) d'=some d from h) hx.2
 | val v =>
  obtain ⟨h1,h⟩:=aj (show bL (isNil v) (some [])=some d from h)
  obtain rfl:=ad h
  show (Ty.sl E t).rep.rd J [v] []
  rw[nw h1]
  exact UX
 | _=>cases h
theorem IB {T E:TypeId} {t:Ty} {x:LV} {d:Tr t.den} (h:YL T E t x=some d) {P:Program} {w0:World} {J:Hp} {θ:Th} {n:Nat} (hx:x.ok P w0 J θ n):(Ty.tree T E t).rep.rd J [x.v θ] d:=by
 cases x with
 | rd h' t' d'=>exact gy (show my t' (.tree T E t) d'=some d from h) hx.2
 | val v =>
  obtain ⟨h1,h⟩:=aj (show bL (C6 v) (some .nil)=some d from h)
  obtain rfl:=ad h
  show (Ty.tree T E t).rep.rd J [v] .nil
  rw[Aq h1]
  exact ⟨_,rfl,.nil⟩
 | _=>cases h
theorem C7 {α:Type} {f:LV->Option α} {cs:List LV} {r:α×List LV} (h:hd1 f cs=some r): ∃x,cs=x::r.2/\f x=some r.1:=by
 cases cs with
 | nil=>cases h
 | cons x l =>
  obtain ⟨d,hd,h⟩:=bind_some (show (f x).bind _=some r from h)
  obtain rfl:=ad h
  exact ⟨x,rfl,hd⟩
theorem fx {P:Program} {w0:World} {J:Hp} {θ:Th} {n:Nat} : ∀ {t:Ty} {cs:List LV} {r:t.den×List LV},cP t cs=some r->(∀x∈cs,x.ok P w0 J θ n)-> ∃c1,cs=c1++r.2/\t.rep.rd J (c1.map (·.v θ)) r.1:=by
 intro t
 induction t with
 | int k =>
  intro cs r h hc
  obtain ⟨x,rfl,hx⟩:=C7 (show hd1 _ _=some r from h)
  exact ⟨[x],rfl,congrArg (fun v=>[v]) (Eh hx θ)⟩
 | bool =>
  intro cs r h hc
  obtain ⟨x,rfl,hx⟩:=C7 (show hd1 _ _=some r from h)
  exact ⟨[x],rfl,congrArg (fun v=>[v]) (Gq hx θ)⟩
 | str =>
  intro cs r h hc
  obtain ⟨x,rfl,hx⟩:=C7 (show hd1 _ _=some r from h)
  exact ⟨[x],rfl,congrArg (fun v=>[v]) (Ku hx θ)⟩
 | raw =>
  intro cs r h hc
  obtain ⟨x,rfl,hx⟩:=C7 (show hd1 _ _=some r from h)
  refine ⟨[x],rfl,?_⟩
  cases x with
  | rd h' t' d'=>exact gy (show my t' .raw d'=some r.1 from hx) (show h'.id<n/\t'.rep.rd J [hv θ h'] d' from hc (.rd h' t' d') (by simp)).2
  | _=>cases hx
 | prod a b iha ihb =>
  intro cs r h hc
  obtain ⟨x,hx,h⟩:=bind_some (show (cP a cs).bind _=some r from h)
  obtain ⟨y,hy,h⟩:=bind_some h
  obtain rfl:=ad h
  obtain ⟨c1,rfl,k1⟩:=iha hx hc
  obtain ⟨c2,e2,k2⟩:=ihb hy fun z hz=>hc z (bc _ hz)
  exact ⟨c1++c2,by rw[e2,aA],c1.map (·.v θ),c2.map (·.v θ),by rw[aS],k1,k2⟩
 | sl E t ih =>
  intro cs r h hc
  obtain ⟨x,rfl,hx⟩:=C7 (show hd1 _ _=some r from h)
  exact ⟨[x],rfl,Ar hx (hc x (by simp))⟩
 | fro t ih =>
  intro cs r h hc
  exact ih (show cP t cs=some r from h) hc
 | bag t ih =>
  intro cs r h hc
  exact ih (show cP t cs=some r from h) hc
 | wr t ih =>
  intro cs r h hc
  exact ih (show cP t cs=some r from h) hc
 | tree T E t ih =>
  intro cs r h hc
  obtain ⟨x,rfl,hx⟩:=C7 (show hd1 _ _=some r from h)
  exact ⟨[x],rfl,IB hx (hc x (by simp))⟩
end R
namespace R
open Go.RowKit
open D
section
variable {P:Program} {I J:Hp} {w0 w w':World} {C:List Ch} {o:Oper} {ev:Operand->Value} {α β:Type} {R:Rep α} {S:Rep β} {E T:TypeId}
theorem uS {v:Value} {xs:List α} {i:Nat} {x:α} {F:List Nat} (h:(af E R).own I w [v] xs F) (hx:xs[i]? =some x) :
  ∃g ofs cap cur K1 K3 c1 cell c3 G,v= .slice (some ⟨g,ofs,none⟩) xs.length cap/\xs.length<=lim/\w.heap[g]? =some (.cells cur E (0,0))/\xs.length<=cap/\cap<=maxLen/\ofs+cap*R.size<=cur.size/\F=g::(K1++(G++K3)) /\
   cur.toList.drop ofs=c1++(cell++c3)/\c1.length=i*R.size/\cell.length=R.size/\OwnEls R I w c1 (xs.take i) K1/\R.own I w cell x G/\OwnEls R I w c3 (xs.drop (i+1)) K3:=by
 have hlt:=(List.getElem?_eq_some_iff.1 hx).1
 obtain ⟨hl,⟨-,rfl,-⟩ | ⟨g,ofs,cap,cur,K,hv,k1,k2,k3,k4,rfl,k5⟩⟩:=h
 ·grind
 obtain rfl:v= .slice (some ⟨g,ofs,none⟩) xs.length cap:=by grind
 have e:xs=xs.take i++(x::xs.drop (i+1)):=by
  grind[List.drop_eq_getElem_cons,List.take_append_drop]
 rw[e] at k5
 obtain ⟨c1,c2,K1,K2,f1,f2,rfl,f4,cells,c3,G,K3,rfl,f6,rfl,f8,f9⟩:=k5.cut2
 have hi:(xs.take i).length=i:=by rw[aI];omega
 rw[hi] at f2
 exact ⟨g,ofs,cap,cur,K1,K3,c1,cells,c3,G,rfl,hl,k1,k2,k3,k4,rfl,f1,f2,f6,f4,f8,f9⟩
theorem Ei {off n k:Nat} {f:α->β} {u:α->β->α} {x:Operand} {v:Value} {xs:List α} {a:α} {i:Int} {agg:Bool} (hS:S.Sh) (ha:aG xs i=some a) (hf:Lens R off S f u) (hT:TI P T agg n) (hSn:S.size=n) (hn:(agg || n==1)=true) (ho:o.op= .load T x) (hx:ev x=pt v (i.toNat*k+off)) (hk:R.size=k) :
  OpT P I w0 o ev [Ch.own (af E R) [v] xs] (fun u=> ∃d,S.rd I d (f a)/\Lds agg d u) (fun _=>[Ch.own (af E R) [v] xs]):=by
 intro w C hs
 obtain ⟨hb,hi,F,⟨G,K,rfl,e2,e3⟩,h2,h3⟩:=id hs
 obtain ⟨g,ofs,cap,cur,K1,K3,c1,cell,c3,G1,rfl,hl,k1,k2,k3,k4,rfl,f1,f2,f3,-,f5,-⟩:=uS e2 (pg ha)
 obtain ⟨d,G2,K2,p,e1,e4,-⟩:=hf I w cell a G1 f5
 obtain ⟨-,d2⟩:=hS e4
 have hdl:=(S.rd_len d2).trans hSn
 have ⟨u,hr,hu⟩:=Kh (P:=P) (w:=w) (b:=g) (off:=ofs+(i.toNat*k+off)) hT hdl (fun e=>by grind) (fun j u hj=>by
  rw[<-e1,List.getElem?_take] at hj
  split at hj
  ·simp[World.cell?,k1]
   rw[<-Array.getElem?_toList,show ofs+(i.toNat*k+off)+j=ofs+(i.toNat*k+off+j) from Nat.add_assoc _ _ _,<-List.getElem?_drop,f1,List.getElem?_append_right (by grind),List.getElem?_append_left (by grind),f2,hk]
   grind
  grind)
 simp[execOp,ho,hx,pt,ptB,ptO,Sem.run_bind,hr,Result.andThen_ok]
 exact ⟨⟨d,d2,hu⟩,hs⟩
theorem U3 {off:Nat} {u:α->β->α} {xs:List α} {i:Nat} {a:α} {g ofs cap:Nat} {cur:Array Value} {K1 K2 K3:List Nat} {c1 cell c3:List Value} {v0:Value}
  (hlt:i<xs.length) (hl:xs.length<=lim) (k1:w.heap[g]? =some (.cells cur E (0,0))) (k2:xs.length<=cap) (k3:cap<=maxLen) (k4:ofs+cap*R.size<=cur.size) (f1:cur.toList.drop ofs=c1++(cell++c3)) (f2:c1.length=i*R.size) (f3:cell.length=R.size)
  (f4:OwnEls R I w c1 (xs.take i) K1) (f6:OwnEls R I w c3 (xs.drop (i+1)) K3) (hv:cell[off]? =some v0) (hne: ∀b,b∈K1++(K2++K3)->b≠g) (hlv: ∀b,b∈K2->b<w.heap.size) (hS:S.size=1)
  (hW: ∀J w' d' y G',I.le J->(∀b,b∈K2->w'.heap[b]? =w.heap[b]?)->S.own J w' d' y G'-> ∃F,F.Perm (G'++K2)/\R.own J w' (spl cell off d') (u a y) F) :
  (Ch.gap (af E R) [.slice (some ⟨g,ofs,none⟩) xs.length cap] S (fun y=>xs.set i (u a y)) g (ofs+(i*R.size+off)) v0).holds I w (g::(K1++(K2++K3))):=by
 have hoff:=(List.getElem?_eq_some_iff.1 hv).1
 refine ⟨by simp,⟨cur,E,k1,?_⟩,fun b hb=>?_,fun J w' v' y G' hJ hs hg h'=>?_⟩
 ·rw[<-Array.getElem?_toList,<-List.getElem?_drop (i:=ofs),f1,List.getElem?_append_right (by omega),List.getElem?_append_left (by omega),f2]
  grind
 ·rcases ax hb with rfl | hb
  ·grind
  ·rcases aH hb with hb | hb
   ·exact f4.live b hb
   ·rcases aH hb with hb | hb
    ·grind
    ·exact f6.live b hb
 ·have st:=fun b hb=>hs b (be _ hb) (hne b hb)
  have ⟨F1,p,q⟩:=hW J w' [v'] y G' hJ (fun b hb=>st b (bc _ (aZ _ hb))) h'
  have hcur:=hg cur E k1
  have hcells:(cur.setIfInBounds (ofs+(i*R.size+off)) v').toList.drop ofs=c1++(spl cell off [v'] ++c3):=by
   rw[Array.toList_setIfInBounds,List.drop_set,if_neg (by omega),Nat.add_sub_cancel_left,f1,List.set_append_right _ _ (by omega),List.set_append_left _ _ (by omega),f2]
   rw[show i*R.size+off - i*R.size=off from by omega];rfl
  refine ⟨g::(K1++(F1++K3)),?_,by grind,.inr ⟨g,ofs,cap,_,K1++(F1++K3),by grind,hcur,by grind,k3,by grind,rfl,?_⟩⟩
  ·grind
  ·show OwnEls R J w' _ (xs.set i (u a y)) _
   rw[List.set_eq_take_append_cons_drop,if_pos hlt,hcells]
   exact OwnEls.glue (ys:=xs.take i) (zs:=u a y::xs.drop (i+1)) (by grind) ((f4.mono hJ).stay fun b hb=>st b (aZ _ hb))
    ⟨spl cell off [v'],c3,F1,K3,rfl,by rw[xg];exact f3,rfl,q,(f6.mono hJ).stay fun b hb=>st b (bc _ (bc _ hb))⟩
theorem Ej {off k:Nat} {f:α->β} {u:α->β->α} {x:Operand} {v:Value} {xs:List α} {a:α} {i:Int} (ha:aG xs i=some a) (hf:Lens R off S f u) (hT:TI P T false 1) (hS:S.size=1) (ho:o.op= .load T x) (hx:ev x=pt v (i.toNat*k+off)) (hk:R.size=k) :
  OpT P I w0 o ev [Ch.own (af E R) [v] xs] (fun u=>u.oneCell'=true) (fun c=>[Ch.own S [c] (f a),Ch.gap (af E R) [v] S (fun y=>xs.set i.toNat (u a y)) (ptB v) (ptO v+(i.toNat*k+off)) c]):=by
 intro w C hs
 obtain ⟨hb,hi,F,⟨G,K,rfl,e2,e3⟩,h2,h3⟩:=hs
 have hlt:=(List.getElem?_eq_some_iff.1 (pg ha)).1
 obtain ⟨g,ofs,cap,cur,K1,K3,c1,cell,c3,G1,rfl,hl,k1,k2,k3,k4,rfl,f1,f2,f3,f4,f5,f6⟩:=uS e2 (pg ha)
 have ⟨d,G2,K2,p,e1,e4,e5⟩:=hf I w cell a G1 f5
 have hdl:=(S.own_len e4).trans hS
 obtain ⟨c,rfl⟩:=List.length_eq_one_iff.1 hdl
 have hc:cell[off]? =some c:=by
  have:=congrArg (fun l:List Value=>l[0]?) e1
  simpa [List.getElem?_take,List.getElem?_drop,hS] using this
 have ⟨u',hr,hu⟩:=Kh (P:=P) (w:=w) (b:=g) (off:=ofs+(i.toNat*k+off)) (d:=[c]) hT rfl (fun _=>rfl) (fun j u hj=>by
  have hj0:j=0:=by have:=(List.getElem?_eq_some_iff.1 hj).1;simpa using this
  subst hj0
  simp only[World.cell?,k1]
  rw[<-Array.getElem?_toList,show ofs+(i.toNat*k+off)+0=ofs+(i.toNat*k+off+0) from Nat.add_assoc _ _ _,<-List.getElem?_drop,f1,List.getElem?_append_right (by grind),List.getElem?_append_left (by grind),f2,hk]
  simp_all)
 obtain rfl:c=u':=by simpa using (show [c] = [u'] from hu)
 simp[execOp,ho,hx,pt,ptB,ptO,Sem.run_bind,hr,Result.andThen_ok]
 have hperm:((g::(K1++(G1++K3)))++K).Perm (G2++((g::(K1++(K2++K3)))++K)):=by
  grind
 have hnd:=hperm.nodup_iff.1 h2
 refine ⟨S.own_one e4 c (by simp),hb,hi,G2++((g::(K1++(K2++K3)))++K),⟨G2,_,rfl,e4,g::(K1++(K2++K3)),K,rfl,?_,e3⟩,hnd,fun b hb=>h3 b (hperm.mem_iff.2 hb)⟩
 have:=U3 (u:=u) (a:=a) (v0:=c) hlt hl k1 k2 k3 k4 f1 f2 f3 f4 f6 hc (K2:=K2) (S:=S) (fun b hb e=>by
  grind) (fun b hb=>R.own_live f5 b (p.mem_iff.2 (bc _ hb))) hS e5
 grind
theorem St.settle {cs:List Value} {f:β->α} {b off:Nat} {v:Value} {y:β} (h:St I w0 w (Ch.own S [v] y::Ch.gap R cs S f b off v::C)):St I w0 w (Ch.own R cs (f y)::C):=by
 obtain ⟨h1,h2,F,⟨G,K,rfl,e1,K',K2,rfl,⟨k1,⟨cur,E,k2,k2'⟩,k3,k4⟩,e3⟩,h4,h5⟩:=h
 have ⟨F,p,q⟩:=k4 I w v y G Hp.le.rfl (fun _ _ _=>rfl) (fun cur' E' hc=>by
  rw[k2] at hc⊢
  obtain ⟨rfl,rfl⟩:cur=cur'/\E=E':=by grind
  congr 2
  grind) e1
 have p2:(F++K2).Perm (G++(K'++K2)):=by rw[<-aA];exact p.append_right _
 exact ⟨h1,h2,F++K2,⟨F,K2,rfl,q,e3⟩,p2.nodup_iff.2 h4,fun b hb=>h5 b (p2.mem_iff.1 hb)⟩
theorem Ek {cs:List Value} {f:β->α} {b off:Nat} {v u:Value} {x y:Operand} (hT:TI P T false 1) (ho:o.op= .store T x y) (hx:ev x= .pointer (some ⟨b,off,none⟩)) (hy:ev y=u) (h1:u.oneCell'=true) :
  OpT P I w0 o ev [Ch.gap R cs S f b off v] (fun _=>True) (fun _=>[Ch.gap R cs S f b off u]):=by
 intro w C hs
 obtain ⟨hb0,hi,F,⟨K,K2,rfl,⟨k1,⟨cur,E,k2,k2'⟩,k3,k4⟩,e3⟩,h4,h5⟩:=id hs
 have hr:=Ki (P:=P) (w:=w) hT (g:=b) (o:=off) (l:=[u]) (Ao h1) rfl (fun j hj=>by
  simp_all[World.cell?,Option.isSome_none,Bool.false_eq_true,ite_false,Nat.add_zero]) (fun j=>by simp[World.frozen?,k2]) (fun v hv=>by grind)
 simp only[execOp,ho,hx,hy,Sem.run_bind,hr,Result.andThen_ok]
 refine ⟨trivial,?_⟩
 refine St.step (w:=w) (c:=[Ch.gap R cs S f b off v]) (c':=[Ch.gap R cs S f b off u]) (w':=w.setCell ⟨b,off,none⟩ u) hs rfl rfl rfl (by simp_all) ?_
 rintro F ⟨K,K',rfl,⟨q1,⟨cur',E',q2,q2'⟩,q3,q4⟩,rfl⟩ hnd hfr
 rw[List.append_nil] at *
 refine ⟨fun c hc hn=>Below.heap_setCell _ _ _ _ fun e=>hn (e ▸ q1),K,⟨K,[],by simp,⟨q1,⟨_,E',fw q2,?_⟩,fun c hc=>by simp_all,fun J w'' v' y' G hJ s1 s2=>q4 J w'' v' y' G hJ (fun c hc hne=>by grind[Below.heap_setCell]) fun cur2 E2 hc=>?_⟩,rfl⟩,hnd,fun c hc=>.inl hc⟩
 ·grind
 ·have:=s2 _ E2 (fw (v:=u) (o:=off) hc)
  simp_all
end
end R
namespace R
open Go.RowKit
open D
def vQ (E:TypeId) (t:Ty) (x:LV) (chs:List Ent):Option (List t.den×List Ent×List Ent):=match x with
 | .own h=>(pull h chs).bind fun r=>match r.1.2.2 with
  | .own t' d=>(oM t' (.sl E t) d).bind fun d=>some (d,[r.1],r.2)
  | _=>none
 | .val v=>bL (isNil v) (some ([],[],chs))
 | _=>none
def As (T E:TypeId) (t:Ty) (x:LV) (chs:List Ent):Option (Tr t.den×List Ent×List Ent):=match x with
 | .own h=>(pull h chs).bind fun r=>match r.1.2.2 with
  | .own t' d=>(oM t' (.tree T E t) d).bind fun d=>some (d,[r.1],r.2)
  | _=>none
 | x=>(YL T E t x).bind fun d=>some (d,[],chs)
structure Took (t:Ty) where
 d:t.den
 cells:List LV
 used:List Ent
 rest:List Ent
def cQ:(t:Ty)->List LV->List Ent->Option (Took t)
 | .prod a b,l,chs=>(cQ a l chs).bind fun x=>(cQ b x.cells x.rest).bind fun y=>some ⟨(x.d,y.d),y.cells,x.used++y.used,y.rest⟩
 | .sl E t,l,chs=>match l with
  | x::r=>(vQ E t x chs).bind fun q=>some ⟨q.1,r,q.2.1,q.2.2⟩
  | [] =>none
 | .int k,l,chs=>(cP (.int k) l).bind fun x=>some ⟨x.1,x.2,[],chs⟩
 | .bool,l,chs=>(cP .bool l).bind fun x=>some ⟨x.1,x.2,[],chs⟩
 | .str,l,chs=>(cP .str l).bind fun x=>some ⟨x.1,x.2,[],chs⟩
 | .raw,l,chs=>(cP .raw l).bind fun x=>some ⟨x.1,x.2,[],chs⟩
 | .fro t,l,chs=>(cP t l).bind fun x=>some ⟨x.1,x.2,[],chs⟩
 | .bag t,l,chs=>match cQ t l chs with
  | some x=>some ⟨x.d,x.cells,x.used,x.rest⟩
  | none=>(cP t l).bind fun x=>some ⟨x.1,x.2,[],chs⟩
 | .wr t,l,chs=>(cQ t l chs).bind fun x=>some ⟨x.d,x.cells,x.used,x.rest⟩
 | .tree T E t,l,chs=>match l with
  | x::r=>(As T E t x chs).bind fun q=>some ⟨q.1,r,q.2.1,q.2.2⟩
  | [] =>none
theorem Au {E:TypeId} {t:Ty} {x:LV} {chs:List Ent} {q:List t.den×List Ent×List Ent} (h:vQ E t x chs=some q) (P:Program) (J:Hp) (θ:Th):chs.Perm (q.2.1++q.2.2)/\Bun J (q.2.1.map (toCh P θ)) (Ty.sl E t).rep [x.v θ] q.1:=by
 cases x with
 | own h' =>
  have ⟨r,hr,h⟩:=bind_some (show (pull h' chs).bind _=some q from h)
  have ⟨p,k⟩:=fa hr
  have ⟨⟨h2,ver,c⟩,rest⟩:=r
  obtain rfl:h2=h':=k
  cases c with
  | own t' d =>
   have ⟨d',hd,h⟩:=bind_some (show (oM t' (.sl E t) d).bind _=some q from h)
   obtain ⟨e,rfl⟩:=pL hd
   cases ad h
   subst e
   exact ⟨p,NL⟩
  | _=>cases h
 | val v =>
  have ⟨h1,h⟩:=aj (show bL (isNil v) _=some q from h)
  cases ad h
  refine ⟨List.Perm.refl _,?_⟩
  rw[nw h1]
  exact Wz
 | _=>cases h
theorem Av {E:TypeId} {t:Ty} {x:LV} {chs:List Ent} {q:List t.den×List Ent×List Ent} (h:vQ E t x chs=some q):chs.Perm (q.2.1++q.2.2):=by
 cases x with
 | own h' =>
  have ⟨r,hr,h⟩:=bind_some (show (pull h' chs).bind _=some q from h)
  grind[fa,bind_some,oM,bind,ad]
 | val v =>
  have ⟨h1,h⟩:=aj (show bL (isNil v) _=some q from h)
  grind[ad,List.Perm.refl]
 | _=>cases h
theorem Aw {T E:TypeId} {t:Ty} {x:LV} {chs:List Ent} {q:Tr t.den×List Ent×List Ent} (h:As T E t x chs=some q):chs.Perm (q.2.1++q.2.2):=by
 unfold As at h
 split at h
 ·have ⟨r,hr,h⟩:=bind_some h
  have ⟨p,k⟩:=fa hr
  split at h
  ·have ⟨d',hd,h⟩:=bind_some h
   grind
  grind
 ·have ⟨d,hd,h⟩:=bind_some h
  grind[ad,List.Perm.refl]
theorem rZ {J:Hp} {α:Type} {R:Rep α} (hc:Cpy R R) {c:List Value} {x:α} (h:R.rd J c x):Bun J [] R c x:=fun w F k=>by
 rw[show F= [] from k];exact hc h
theorem N6 {T E:TypeId} {t:Ty} {x:LV} {chs:List Ent} {q:Tr t.den×List Ent×List Ent} (h:As T E t x chs=some q) {P:Program} {w0:World} {J:Hp} {θ:Th} {n:Nat} (hx:x.ok P w0 J θ n):Bun J (q.2.1.map (toCh P θ)) (Ty.tree T E t).rep [x.v θ] q.1:=by
 unfold As at h
 split at h
 ·rename_i h'
  have ⟨r,hr,h⟩:=bind_some h
  have ⟨p,k⟩:=fa hr
  have ⟨⟨h2,ver,c⟩,rest⟩:=r
  obtain rfl:h2=h':=k
  cases c with
  | own t' d =>
   have ⟨d',hd,h⟩:=bind_some (show (oM t' (.tree T E t) d).bind _=some q from h)
   obtain ⟨e,rfl⟩:=pL hd
   cases ad h
   subst e
   exact NL
  | _=>cases h
 ·have ⟨d,hd,h⟩:=bind_some h
  cases ad h
  exact rZ RU (IB hd hx)
theorem gX {P:Program} {w0:World} {J:Hp} {θ:Th} {n:Nat} : ∀ {t:Ty} {cs:List LV} {chs:List Ent} {r:Took t},cQ t cs chs=some r->(∀x∈cs,x.ok P w0 J θ n)->
  chs.Perm (r.used++r.rest)/\ ∃c1,cs=c1++r.cells/\Bun J (r.used.map (toCh P θ)) t.rep (c1.map (·.v θ)) r.d:=by
 intro t
 induction t with
 | prod a b iha ihb =>
  intro cs chs r h hc
  have ⟨x,hx,h⟩:=bind_some (show (cQ a cs chs).bind _=some r from h)
  have ⟨y,hy,h⟩:=bind_some h
  cases ad h
  obtain ⟨p1,c1,rfl,k1⟩:=iha hx hc
  have ⟨p2,c2,e2,k2⟩:=ihb hy fun z hz=>hc z (bc _ hz)
  refine ⟨by rw[aA];exact p1.trans (p2.append_left _),c1++c2,by grind,?_⟩
  rw[aS,aS]
  exact RP k1 k2
 | sl E t ih =>
  intro cs chs r h hc
  cases cs with
  | nil=>cases h
  | cons x l =>
   have ⟨q,hq,h⟩:=bind_some (show (vQ E t x chs).bind _=some r from h)
   cases ad h
   have ⟨p,k⟩:=Au hq P J θ
   exact ⟨p,[x],rfl,k⟩
 | fro t ih =>
  intro cs chs r h hc
  have ⟨x,hx,h⟩:=bind_some (show (cP t cs).bind _=some r from h)
  cases ad h
  have ⟨c1,e,k⟩:=fx hx hc
  exact ⟨List.Perm.refl _,c1,e,Y6 k⟩
 | wr t ih =>
  intro cs chs r h hc
  have ⟨x,hx,h⟩:=bind_some (show (cQ t cs chs).bind _=some r from h)
  cases ad h
  exact ih hx hc
 | bag t ih =>
  intro cs chs r h hc
  have h:(match cQ t cs chs with
   | some x=>some ⟨x.d,x.cells,x.used,x.rest⟩
   | none=>(cP t cs).bind fun x=>some ⟨x.1,x.2,[],chs⟩:Option (Took (.bag t)))=some r:=by
   rw[<-h];rfl
  cases hx:cQ t cs chs with
  | some x =>
   rw[hx] at h
   cases ad h
   have ⟨p,c1,e,k⟩:=ih hx hc
   exact ⟨p,c1,e,WL k⟩
  | none =>
   rw[hx] at h
   obtain ⟨x,hx2,h⟩:=bind_some h
   cases ad h
   obtain ⟨c1,e,k⟩:=fx hx2 hc
   exact ⟨List.Perm.refl _,c1,e,fun w F hs=>by
    have hs:F= []:=hs
    subst hs
    exact Kp k⟩
 | tree T E t ih =>
  intro cs chs r h hc
  cases cs with
  | nil=>cases h
  | cons x l =>
   have ⟨q,hq,h⟩:=bind_some (show (As T E t x chs).bind _=some r from h)
   cases ad h
   exact ⟨Aw hq,[x],rfl,N6 hq (hc x (by simp))⟩
 | int k =>
  intro cs chs r h hc
  have ⟨x,hx,h⟩:=bind_some (show (cP _ cs).bind _=some r from h)
  cases ad h
  have ⟨c1,e,k⟩:=fx hx hc
  exact ⟨List.Perm.refl _,c1,e,rZ tq k⟩
 | bool =>
  intro cs chs r h hc
  have ⟨x,hx,h⟩:=bind_some (show (cP _ cs).bind _=some r from h)
  cases ad h
  have ⟨c1,e,k⟩:=fx hx hc
  exact ⟨List.Perm.refl _,c1,e,rZ Kl k⟩
 | str =>
  intro cs chs r h hc
  have ⟨x,hx,h⟩:=bind_some (show (cP _ cs).bind _=some r from h)
  cases ad h
  have ⟨c1,e,k⟩:=fx hx hc
  exact ⟨List.Perm.refl _,c1,e,rZ NG k⟩
 | raw =>
  intro cs chs r h hc
  have ⟨x,hx,h⟩:=bind_some (show (cP _ cs).bind _=some r from h)
  cases ad h
  have ⟨c1,e,k⟩:=fx hx hc
  exact ⟨List.Perm.refl _,c1,e,rZ (tq (α:=Raw) (enc:=(·.1)) (h1:=(·.2))) k⟩
theorem eM: ∀ {t:Ty} {cs:List LV} {chs:List Ent} {r:Took t},cQ t cs chs=some r->chs.Perm (r.used++r.rest):=by
 intro t
 induction t with
 | prod a b iha ihb =>
  intro cs chs r h
  have ⟨x,hx,h⟩:=bind_some (show (cQ a cs chs).bind _=some r from h)
  have ⟨y,hy,h⟩:=bind_some h
  cases ad h
  exact (by rw[aA];exact (iha hx).trans ((ihb hy).append_left _))
 | sl E t ih =>
  intro cs chs r h
  cases cs with
  | nil=>cases h
  | cons x l =>
   have ⟨q,hq,h⟩:=bind_some (show (vQ E t x chs).bind _=some r from h)
   grind[ad,Av]
 | fro t ih =>
  intro cs chs r h
  have ⟨x,hx,h⟩:=bind_some (show (cP t cs).bind _=some r from h)
  grind[ad,List.Perm.refl]
 | wr t ih =>
  intro cs chs r h
  have ⟨x,hx,h⟩:=bind_some (show (cQ t cs chs).bind _=some r from h)
  grind
 | bag t ih =>
  intro cs chs r h
  have h:(match cQ t cs chs with
   | some x=>some ⟨x.d,x.cells,x.used,x.rest⟩
   | none=>(cP t cs).bind fun x=>some ⟨x.1,x.2,[],chs⟩:Option (Took (.bag t)))=some r:=by
   rw[<-h];rfl
  cases hx:cQ t cs chs with
  | some x =>
   rw[hx] at h
   cases ad h
   exact ih hx
  | none =>
   rw[hx] at h
   obtain ⟨x,hx2,h⟩:=bind_some h
   cases ad h
   exact List.Perm.refl _
 | tree T E t ih =>
  intro cs chs r h
  cases cs with
  | nil=>cases h
  | cons x l =>
   have ⟨q,hq,h⟩:=bind_some (show (As T E t x chs).bind _=some r from h)
   grind[ad,Aw]
 | int k =>
  intro cs chs r h
  have ⟨x,hx,h⟩:=bind_some (show (cP _ cs).bind _=some r from h)
  grind[ad,List.Perm.refl]
 | bool =>
  intro cs chs r h
  have ⟨x,hx,h⟩:=bind_some (show (cP _ cs).bind _=some r from h)
  grind[ad,List.Perm.refl]
 | str =>
  intro cs chs r h
  have ⟨x,hx,h⟩:=bind_some (show (cP _ cs).bind _=some r from h)
  grind[ad,List.Perm.refl]
 | raw =>
  intro cs chs r h
  have ⟨x,hx,h⟩:=bind_some (show (cP _ cs).bind _=some r from h)
  grind[ad,List.Perm.refl]
section
variable {Y:Type} (tt:TT) (s:Sg) (k:Res->Option Y)
def acq (T:TypeId) (x:Operand):Option Y:=(opd s x).bind fun v=>(lD v).bind fun cs=>k ⟨[],[],s.chs,[(⟨s.nxt,[]⟩,.blk T cs)],.one (.ptr ⟨s.nxt,[]⟩ 0)⟩
def U4 (T:TypeId):Option Y:=(td tt T).bind fun d=>match d.fz with
 | true=>k ⟨[],[],s.chs,[(⟨s.nxt,[]⟩,.blk T [.val .nilFunc])],.one (.ptr ⟨s.nxt,[]⟩ 0)⟩
 | false=>d.bytes.bind fun _=>k ⟨[],[],s.chs,[(⟨s.nxt,[]⟩,.blk T ((zeroCells d.ty).map .val))],.one (.ptr ⟨s.nxt,[]⟩ 0)⟩
def abj (agg:Bool) (cs:List LV):Option AV:=match agg with
 | true=>some (.agg cs)
 | false=>match cs with
  | [x] =>some (.one x)
  | _=>none
def U5 (T:TypeId) (x:Operand):Option Y:=(td tt T).bind fun d=>match opd s x with
 | some (.one (.ptr h off))=>(rO h s.chs).bind fun b=>bL (Nat.beq ((b.cells.drop off).take d.n).length d.n) ((abj d.agg ((b.cells.drop off).take d.n)).bind fun v=>k ⟨[b.ent h],[],b.rest,[],v⟩)
 | _=>none
def N7 (T:TypeId) (x y:Operand):Option Y:=(td tt T).bind fun d=>match opd s x with
 | some (.one (.ptr h off))=>(opd s y).bind fun v=>(lD v).bind fun cs=>(rO h s.chs).bind fun b=>bL (Nat.beq cs.length d.n&&Nat.ble (off+d.n) b.cells.length) (k ⟨[],[b.ent h],b.rest,[(h,.blk b.T (b.cells.take off++cs++b.cells.drop (off+cs.length)))],.any ⟨s.nxt,[]⟩⟩)
 | _=>none
def Zf (T:TypeId) (x:Operand):Option Y:=(td tt T).bind fun d=>match d.el,opd s x with
 | some _,some (.one (.own h))=>(rowOf h s.chs).bind fun r=>k ⟨[r.ent h],[],r.rest,[],.one (.val (.int .i64 (r.xs.length:Int)))⟩
 | _,_=>none
def N8 (T:TypeId) (x i:Operand):Option Y:=(td tt T).bind fun d=>match d.el,opd s x,opd s i with
 | some E,some (.one (.own h)),some (.one (.val (.int .i64 i)))=>(rowOf h s.chs).bind fun r=>(td tt E).bind fun e=>bL (Nat.beq e.n r.t.size) ((aG r.xs i).bind fun a=>k ⟨[r.ent h],[],r.rest,[],.elo h r.ver r.E r.t r.xs a i 0⟩)
 | _,_,_=>none
def U6 (T:TypeId) (x:Operand):Option Y:=(td tt T).bind fun d=>match opd s x with
 | some (.elo h ver E t xs a i off)=>(rowOf h s.chs).bind fun r=>bL (Nat.beq r.ver ver) ((xj d.agg t off d.n).bind fun p=>match p.ty.sh with
  | true=>bL (p.ty.isProd==d.agg) (k ⟨[r.ent h],[],r.rest,[],NX s.nxt p.ty (p.get a)⟩)
  | false=>bL (Nat.beq p.ty.size 1 && !d.agg) (k ⟨[],[r.ent h],r.rest,[(⟨s.nxt,[]⟩,.own p.ty (p.get a)),(h,.hole ver (.sl E t) xs p.ty (p.get a) (fun y=>xs.set i.toNat (p.set a y)) i t.size off (.own ⟨s.nxt,[]⟩))],.one (.own ⟨s.nxt,[]⟩)⟩))
 | _=>none
def N9 (T:TypeId) (x y:Operand):Option Y:=(td tt T).bind fun d=>match opd s x with
 | some (.elo h ver E t xs a i off)=>(opd s y).bind fun v=>(lD v).bind fun cs=>(rowOf h s.chs).bind fun r=>bL (Nat.beq r.ver ver&&Nat.beq cs.length d.n) ((xj d.agg t off d.n).bind fun p=>match t.sh with
  | true=>(cP p.ty cs).bind fun b=>bL b.2.isEmpty (k ⟨[],[r.ent h],r.rest,[(h,.own (.sl E t) (xs.set i.toNat (p.set a b.1)))],.any ⟨s.nxt,[]⟩⟩)
  | false=>(cQ p.ty cs r.rest).bind fun q=>bL q.cells.isEmpty (k ⟨[],r.ent h::q.used,q.rest,[(h,.own (.sl E t) (xs.set i.toNat (p.set a q.d)))],.any ⟨s.nxt,[]⟩⟩))
 | _=>none
end
section
variable {Y:Type} {tt:TT} {s:Sg} {k:Res->Option Y} {P:Program} {w0:World} {o:Oper} {res:Y} {x y:Operand}
theorem uT {I:Hp} {ev:Operand->Value} {α:Type} {R:Rep α} {E:TypeId} {v:Value} {xs:List α} {fact:Value->Prop} (h:Hd v xs.length->OpT P I w0 o ev [] fact (fun _=>[])):OpT P I w0 o ev [Ch.own (af E R) [v] xs] fact (fun _=>[Ch.own (af E R) [v] xs]):=
 fun w C hs=>h (hs.hd 0 rfl).1 w (Ch.own (af E R) [v] xs::C) hs
theorem dB {θ:Th} {n:Nat} {v:Value} :hv (upd θ n v) ⟨n,[]⟩=v:=iN
theorem WY {T:TypeId} (ho:o.op= .box T x) (h:acq s k T x=some res):Oks P w0 s o k res:=by
 have ⟨v,hv',h⟩:=bind_some h
 have ⟨cs,hcs,h⟩:=bind_some h
 refine ⟨_,h,by simp,aR rfl,fun J θ hf=>?_⟩
 have ⟨h1,h2⟩:=iO hcs (bA hf hv')
 refine OpT.weak (Wl (l:=cs.map (·.v θ)) (aB hv') h2 ho) (fun v hpt=>⟨aw _,?_,fun g hg=>?_⟩) (fun v hpt=>?_)
 ·show Value.pointer (some ⟨bk (hv _ ⟨s.nxt,[]⟩),0,none⟩)=v
  grind[dB,Iu]
 ·cases au hg
  exact ⟨aw _,aw _,fun x hx=>LV.ok_same Same.upd (Nat.le_succ _) (h1 x hx) Hp.le.rfl⟩
 ·show [Ch.blk (bk v) _ T] = [Ch.blk (bk (hv _ ⟨s.nxt,[]⟩)) (cs.map _) T]
  rw[dB,kc Same.upd h1]
theorem Oa (hT:TTok P tt) {T:TypeId} (ho:o.op= .alloc T) (h:U4 tt s k T=some res):Oks P w0 s o k res:=by
 have ⟨d,hd,h⟩:=bind_some h
 split at h
 ·rename_i hfz
  have ⟨b,hb⟩:=(hT.get hd).fz hfz
  refine ⟨_,h,by simp,aR rfl,fun J θ hf=>?_⟩
  refine OpT.weak (F7 (l:=[.nilFunc]) hb rfl ho) (fun v hpt=>⟨aw _,?_,fun g hg=>?_⟩) (fun v hpt=>?_)
  ·show Value.pointer (some ⟨bk (hv _ ⟨s.nxt,[]⟩),0,none⟩)=v
   grind[dB,Iu]
  ·cases au hg
   refine ⟨aw _,aw _,fun x hx=>?_⟩
   cases au hx
   rfl
  ·show [Ch.blk (bk v) _ T] = [Ch.blk (bk (hv _ ⟨s.nxt,[]⟩)) _ T]
   rw[dB];rfl
 have ⟨z,hz,h⟩:=bind_some h
 obtain ⟨zv,hz1,hz2,-⟩:=(hT.get hd).zero z hz
 refine ⟨_,h,by simp,aR rfl,fun J θ hf=>?_⟩
 refine OpT.weak (F7 (l:=zeroCells d.ty) hz1 hz2 ho) (fun v hpt=>⟨aw _,?_,fun g hg=>?_⟩) (fun v hpt=>?_)
 ·show Value.pointer (some ⟨bk (hv _ ⟨s.nxt,[]⟩),0,none⟩)=v
  grind[dB,Iu]
 ·cases au hg
  refine ⟨aw _,aw _,fun x hx=>?_⟩
  obtain ⟨u,hu,rfl⟩:=List.mem_map.1 hx
  exact Kr _ u hu
 ·show [Ch.blk (bk v) _ T] = [Ch.blk (bk (hv _ ⟨s.nxt,[]⟩)) (((zeroCells d.ty).map LV.val).map _) T]
  rw[dB,List.map_map]
  congr 2
  exact (List.map_id' _).symm
theorem Ob {agg:Bool} {cs:List LV} {v:AV} (h:abj agg cs=some v) {P:Program} {w0:World} {J:Hp} {θ:Th} {n:Nat} {chs:List Ent} (hc: ∀x∈cs,x.ok P w0 J θ n):v.ok P w0 J θ n chs/\(if agg then Value.agg (cs.map (·.v θ)).toArray else (cs.map (·.v θ)).getD 0 undef)=v.v θ:=by
 cases agg with
 | true =>
  cases ad (show some (AV.agg cs)=some v from h)
  exact ⟨hc,rfl⟩
 | false =>
  cases cs with
  | nil=>cases h
  | cons x l =>
   cases l with
   | nil =>
    cases ad (show some (AV.one x)=some v from h)
    exact ⟨hc x (by simp),rfl⟩
   | cons _ _=>cases h
theorem jl {e:Ent} {r:List Ent} {J:Hp} {θ:Th} (hf:Fine P w0 J θ s) (hp:s.chs.Perm (e::r)):okE P w0 J θ s.nxt s.chs e:=hf.chs e (hp.mem_iff.2 (by simp))
theorem pq {e:Ent} {r l:List Ent} (hp:l.Perm (e::r)):l.Perm ([e] ++ [] ++r):=hp
theorem El {e:Ent} {r l:List Ent} (hp:l.Perm (e::r)):l.Perm ([] ++ [e] ++r):=hp
theorem Oc (hT:TTok P tt) {T:TypeId} (ho:o.op= .load T x) (h:U5 tt s k T x=some res):Oks P w0 s o k res:=by
 have ⟨d,hd,h⟩:=bind_some h
 split at h
 ·rename_i hh off hx
  have ⟨b,hb,h⟩:=bind_some h
  have ⟨hl,h⟩:=aj h
  have ⟨v,hv',h⟩:=bind_some h
  have hp:=kA hb
  have hl:=al hl
  refine ⟨_,h,pq hp,aR rfl,fun J θ hf=>?_⟩
  have hc: ∀z∈(b.cells.drop off).take d.n,z.ok P w0 J θ s.nxt:=fun z hz=>(jl hf hp).2.2 z (List.mem_of_mem_drop (List.mem_of_mem_take hz))
  have ⟨k1,k2⟩:=Ob (chs:=s.chs) hv' hc
  have hdk:=hT.get hd
  refine OpT.weak (F8 (l:=b.cells.map (·.v θ)) (E:=b.T) hdk.ti ho (aB hx) hdk.one (by simp_all) (by grind) k2) (fun u hu=>?_) (fun u hu=>rfl)
  subst hu
  exact ⟨AV.ok_same Same.upd (Nat.le_succ _) (Res.newer (pq hp) (aR rfl J θ hf)) k1 Hp.le.rfl,AV.v_same Same.upd k1,fun g hg=>by cases hg⟩
 grind
theorem L8 (hT:TTok P tt) {T:TypeId} (ho:o.op= .store T x y) (h:N7 tt s k T x y=some res):Oks P w0 s o k res:=by
 have ⟨d,hd,h⟩:=bind_some h
 split at h
 ·rename_i hh off hx
  have ⟨v,hv',h⟩:=bind_some h
  have ⟨cs,hcs,h⟩:=bind_some h
  have ⟨b,hb,h⟩:=bind_some h
  have ⟨hl,h⟩:=aj h
  rw[ai] at hl
  have hl1:=al hl.1
  have hl2:=a8 hl.2
  have hp:=kA hb
  refine ⟨_,h,El hp,aR rfl,fun J θ hf=>?_⟩
  have ⟨c1,c2⟩:=iO hcs (bA hf hv')
  have hok:=jl hf hp
  have hdk:=hT.get hd
  have hall: ∀z∈b.cells.take off++cs++b.cells.drop (off+cs.length),z.ok P w0 J θ s.nxt:=fun z hz=>by
   rcases aH hz with hz | hz
   ·rcases aH hz with hz | hz
    ·exact hok.2.2 z (List.mem_of_mem_take hz)
    grind
   ·exact hok.2.2 z (List.mem_of_mem_drop hz)
  refine OpT.weak (D6 (l:=b.cells.map (·.v θ)) (E:=b.T) hdk.ti ho (aB hx) (aB hv') c2 (by grind) (Ef c1) (by grind)) (fun u hu=>⟨aw _,dB,fun g hg=>?_⟩) (fun u hu=>?_)
  ·cases au hg
   exact ⟨aT hok.1,aw _,fun z hz=>LV.ok_same Same.upd (Nat.le_succ _) (hall z hz) Hp.le.rfl⟩
  ·show [Ch.blk (bk (hv θ hh)) _ b.T] = [Ch.blk (bk (hv (upd θ s.nxt u) hh)) _ b.T]
   rw[show hv (upd θ s.nxt u) hh=hv θ hh from aX Same.upd hok.1,C3 _ _ _ (by grind),kc Same.upd hall,aS,aS,List.map_take,List.map_drop,List.length_map]
 grind
theorem R4 (hT:TTok P tt) {T:TypeId} (ho:o.op= .call { callee:=.builtin .len,args:= #[x],argTypes:= #[T] }) (h:Zf tt s k T x=some res):Oks P w0 s o k res:=by
 have ⟨d,hd,h⟩:=bind_some h
 split at h
 ·rename_i E hh he hx
  have ⟨r,hr,h⟩:=bind_some h
  obtain ⟨hp,-⟩:=bN hr
  refine ⟨_,h,pq hp,aR rfl,fun J θ hf=>OpT.weak (uT fun hD=>C1 hD ((hT.get hd).el _ he) ho (aB hx)) (fun u hu=>?_) (fun u hu=>rfl)⟩
  subst hu
  exact ⟨Eq.refl true,rfl,fun g hg=>by cases hg⟩
 grind
theorem L9 (hT:TTok P tt) {T:TypeId} {i:Operand} (ho:o.op= .indexAddr T x i) (h:N8 tt s k T x i=some res):Oks P w0 s o k res:=by
 have ⟨d,hd,h⟩:=bind_some h
 split at h
 ·rename_i E hh j he hx hi
  have ⟨r,hr,h⟩:=bind_some h
  have ⟨e,hE,h⟩:=bind_some h
  have ⟨hn,h⟩:=aj h
  have ⟨a,ha,h⟩:=bind_some h
  have hn:=al hn
  have ⟨hp,hno⟩:=bN hr
  refine ⟨_,h,pq hp,aR rfl,fun J θ hf=>OpT.weak (uT (fact:=(· =pt (hv θ hh) (j.toNat*r.t.size+0))) fun hD=>?_) (fun u hu=>?_) (fun u hu=>rfl)⟩
  ·have:=rU (I:=J) (w0:=w0) hD ((hT.get hd).el _ he) (hT.get hE).ti ho (aB hx) (aB hi) (D4 ha)
   rw[hn] at this
   exact this
  ·have hok:=jl hf hp
   refine ⟨⟨aT hok.1,ha,(vP hr hok.2.1).newer (Res.newer (pq hp) (aR rfl J θ hf)) (Nat.le_succ _)⟩,?_,fun g hg=>by cases hg⟩
   rw[hu]
   show pt (hv (upd θ s.nxt _) hh) _=pt (hv θ hh) _
   rw[show hv (upd θ s.nxt _) hh=hv θ hh from aX Same.upd hok.1]
 grind
theorem xk {h:Hdr} {ver:Nat} {E:TypeId} {t:Ty} {xs:List t.den} {a:t.den} {i:Int} {off:Nat} {J:Hp} {θ:Th} {r:Row} (hr:rowOf h s.chs=some r) (hv:r.ver=ver) (hm:AV.ok P w0 J θ s.nxt s.chs (.elo h ver E t xs a i off)):r.ent h=(h,ver,.own (.sl E t) xs):=by
 obtain ⟨hp,-⟩:=bN hr
 have:=hm.2.2.2 (r.ent h) (hp.mem_iff.2 (by simp)) _ ⟨rfl,.inl ⟨hv,rfl⟩⟩
 show (h,r.ver,Chk.own (.sl r.E r.t) r.xs)=_
 rw[hv,show Chk.own (.sl r.E r.t) r.xs=_ from this]
theorem Od (hT:TTok P tt) {T:TypeId} (ho:o.op= .load T x) (h:U6 tt s k T x=some res):Oks P w0 s o k res:=by
 have ⟨d,hd,h⟩:=bind_some h
 split at h
 ·rename_i hh ver E t xs a i off hx
  have ⟨r,hr,h⟩:=bind_some h
  have ⟨hv',h⟩:=aj h
  have hv':=al hv'
  have ⟨p,hp',h⟩:=bind_some h
  have hpo:=zR _ _ _ _ hp'
  obtain ⟨hp,-⟩:=bN hr
  have hdk:=hT.get hd
  split at h
  ·rename_i hsh
   have ⟨hg,h⟩:=aj h
   have hg:p.ty.isProd=d.agg:=by simpa using hg
   refine ⟨_,h,pq hp,aR rfl,fun J θ hf=>?_⟩
   have ho':=bA hf hx
   have he:=xk hr hv' ho'
   have:=Ei (P:=P) (I:=J) (w0:=w0) (o:=o) (T:=T) (E:=E) (Ty.sh_ok hsh) ho'.2.1 hpo.lens hdk.ti (p.ty.rep_size.trans hpo.size) hdk.one ho (aB (θ:=θ) hx) t.rep_size
   rw[he]
   refine OpT.weak this (fun u hu=>?_) (fun u hu=>rfl)
   have ⟨c,h1,h2⟩:=hu
   rw[<-hg] at h2
   have:=pM (P:=P) (w0:=w0) (J:=J) (θ:=upd θ s.nxt u) (id:=s.nxt) (n:=s.nxt+1) (chs:=Res.chs ⟨[r.ent hh],[],r.rest,[],NX s.nxt p.ty (p.get a)⟩ s.nxt) (aw _) iN p.ty (p.get a) c h1 h2
   grind
  ·have ⟨hg,h⟩:=aj h
   rw[ai] at hg
   have hg1:=al hg.1
   have hg2:d.agg=false:=by simpa using hg.2
   refine ⟨_,h,El hp,fun J θ hf g hg ver' c hs=>?_,fun J θ hf=>?_⟩
   ·rcases ax hg with rfl | hg
    ·exact hs.elim
    ·cases au hg
     obtain ⟨rfl,rfl⟩:=hs
     exact ⟨r.ent hh,hp.mem_iff.2 (by simp),by rw[xk hr hv' (bA hf hx)];exact ⟨rfl,.inl ⟨rfl,rfl⟩⟩⟩
   have ho':=bA hf hx
   have he:=xk hr hv' ho'
   have hok:=jl hf hp
   have hti:=hdk.ti
   rw[hg2,<-hpo.size,hg1] at hti
   have:=Ej (P:=P) (I:=J) (w0:=w0) (o:=o) (T:=T) (E:=E) ho'.2.1 hpo.lens hti (p.ty.rep_size.trans hg1) ho (aB (θ:=θ) hx) t.rep_size
   rw[he]
   have hset:xs.set i.toNat (p.set a (p.get a))=xs:=by
    have ⟨hlt,e⟩:=List.getElem?_eq_some_iff.1 (pg ho'.2.1)
    rw[hpo.eta,<-e];exact List.set_getElem_self hlt
   have hver:ver<s.nxt:=by rw[<-hv'];exact hok.2.1
   refine OpT.weak this (fun u hu=>⟨⟨aw _,by rw[dB];exact hu⟩,dB,fun g hg=>?_⟩) (fun u hu=>?_)
   ·rcases ax hg with rfl | hg
    ·exact ⟨aw _,aw _,trivial⟩
    ·cases au hg
     refine ⟨aT hok.1,aw _,⟨aw _,by rw[dB];exact hu⟩,hver,hset,fun l hl=>?_⟩
     cases LV.own.inj hl
     refine ⟨aw _,fun e he c hs=>?_⟩
     rcases aH he with he | he
     ·obtain ⟨g,hg,rfl⟩:=List.mem_map.1 he
      rcases ax hg with rfl | hg
      ·rcases hs.2 with h1 | h1
       ·grind
       ·exact h1.elim
      ·cases au hg
       have:=hok.1
       rw[show hh=(⟨s.nxt,[]⟩:Hdr) from hs.1] at this
       exact absurd this (Nat.lt_irrefl _)
     ·have he:e∈s.chs:=hp.mem_iff.2 (be _ (by grind))
      have hek:=hf.chs e he
      have:=hek.1
      rw[hs.1] at this
      grind
   ·show [Ch.own p.ty.rep [u] (p.get a),Ch.gap _ [hv θ hh] p.ty.rep _ (ptB (hv θ hh)) (ptO (hv θ hh)+_) u] = [Ch.own p.ty.rep [hv (upd θ s.nxt u) ⟨s.nxt,[]⟩] (p.get a),Ch.gap _ [hv (upd θ s.nxt u) hh] p.ty.rep _ (ptB (hv (upd θ s.nxt u) hh)) (ptO (hv (upd θ s.nxt u) hh)+_) (hv (upd θ s.nxt u) ⟨s.nxt,[]⟩)]
    rw[dB,show hv (upd θ s.nxt u) hh=hv θ hh from aX Same.upd hok.1];rfl
 grind
theorem Ma (hT:TTok P tt) {T:TypeId} (ho:o.op= .store T x y) (h:N9 tt s k T x y=some res):Oks P w0 s o k res:=by
 have ⟨d,hd,h⟩:=bind_some h
 split at h
 ·rename_i hh ver E t xs a i off hx
  have ⟨v,hv',h⟩:=bind_some h
  have ⟨cs,hcs,h⟩:=bind_some h
  have ⟨r,hr,h⟩:=bind_some h
  have ⟨hg,h⟩:=aj h
  rw[ai] at hg
  have hver:=al hg.1
  have hcl:=al hg.2
  have ⟨p,hp',h⟩:=bind_some h
  have hpo:=zR _ _ _ _ hp'
  obtain ⟨hp,-⟩:=bN hr
  have hdk:=hT.get hd
  split at h
  ·rename_i hsh
   have ⟨b,hb,h⟩:=bind_some h
   have ⟨hbe,h⟩:=aj h
   refine ⟨_,h,El hp,aR rfl,fun J θ hf=>?_⟩
   have ho':=bA hf hx
   have he:=xk hr hver ho'
   have hok:=jl hf hp
   have ⟨c1,c2⟩:=iO hcs (bA hf hv')
   have ⟨cc,e1,e2⟩:=fx (J:=J) hb c1
   rw[List.isEmpty_iff.1 hbe,List.append_nil] at e1
   subst e1
   have:=Ge (P:=P) (I:=J) (w0:=w0) (o:=o) (T:=T) (E:=E) (Ty.sh_ok hsh) (Ty.cpy hsh) ho'.2.1 hpo.upd hdk.ti ho (aB (θ:=θ) hx) (aB hv') c2 (Ef c1) (by grind) t.rep_size hpo.fit e2
   rw[he]
   refine OpT.weak this (fun u hu=>⟨aw _,dB,fun g hg=>?_⟩) (fun u hu=>?_)
   ·cases au hg
    exact ⟨aT hok.1,aw _,trivial⟩
   ·show [Ch.own _ [hv θ hh] _] = [Ch.own _ [hv (upd θ s.nxt u) hh] _]
    rw[show hv (upd θ s.nxt u) hh=hv θ hh from aX Same.upd hok.1];rfl
  ·have ⟨q,hq,h⟩:=bind_some h
   have ⟨hbe,h⟩:=aj h
   refine ⟨_,h,(hp.trans ((eM hq).cons _)),aR rfl,fun J θ hf=>?_⟩
   have ho':=bA hf hx
   have he:=xk hr hver ho'
   have hok:=jl hf hp
   have ⟨c1,c2⟩:=iO hcs (bA hf hv')
   obtain ⟨-,cc,e1,e2⟩:=gX (J:=J) (θ:=θ) hq c1
   rw[List.isEmpty_iff.1 hbe,List.append_nil] at e1
   subst e1
   have:=vL (P:=P) (I:=J) (w0:=w0) (o:=o) (T:=T) (E:=E) e2 ho'.2.1 hpo.updO hdk.ti ho (aB (θ:=θ) hx) (aB hv') c2 (Ef c1) (by grind) (p.ty.rep_size.trans hpo.size) t.rep_size hpo.fit
   rw[he]
   refine OpT.weak this (fun u hu=>⟨aw _,dB,fun g hg=>?_⟩) (fun u hu=>?_)
   ·cases au hg
    exact ⟨aT hok.1,aw _,trivial⟩
   ·show [Ch.own _ [hv θ hh] _] = [Ch.own _ [hv (upd θ s.nxt u) hh] _]
    rw[show hv (upd θ s.nxt u) hh=hv θ hh from aX Same.upd hok.1];rfl
 grind
end
end R
namespace R
open Go.RowKit
open D
def R5 (pl:List (Nat×Nat)) (cells:List LV):List (Nat×List LV)->Option (List LV)
 | [] =>some cells
 | (i,l)::rest=>(pl[i]?).bind fun q=>bL (Nat.beq l.length q.2&&Nat.ble (q.1+q.2) cells.length) (R5 pl (cells.take q.1++l++cells.drop (q.1+q.2)) rest)
theorem Kv {pl:List (Nat×Nat)} {θ:Th} : ∀ {ps:List (Nat×List LV)} {cells r:List LV},R5 pl cells ps=some r->Ir (pl[·]?) (cells.map (·.v θ)) (ps.map fun p=>(p.1,p.2.map (·.v θ)))=some (r.map (·.v θ))
 | [],cells,r,h=>by cases ad (show some cells=some r from h);rfl
 | (i,l)::ps,cells,r,h=>by
  have ⟨q,hq,h⟩:=bind_some (show (pl[i]?).bind _=some r from h)
  have ⟨hc,h⟩:=aj h
  have:=Kv (θ:=θ) h
  simp_all[List.map_cons,Ir,List.length_map,if_pos,aS,List.map_take,List.map_drop]
theorem Gr {pl:List (Nat×Nat)} {Q:LV->Prop} : ∀ {ps:List (Nat×List LV)} {cells r:List LV},R5 pl cells ps=some r->(∀x∈cells,Q x)->(∀p∈ps,∀x∈p.2,Q x)-> ∀x∈r,Q x
 | [],cells,r,h,hc,hp=>by cases ad (show some cells=some r from h);exact hc
 | (i,l)::ps,cells,r,h,hc,hp=>by
  have ⟨q,hq,h⟩:=bind_some (show (pl[i]?).bind _=some r from h)
  obtain ⟨-,h⟩:=aj h
  refine Gr h (fun x hx=>?_) fun p hp'=>hp p (by grind)
  rcases aH hx with hx | hx
  ·rcases aH hx with hx | hx
   ·grind
   simp_all
  grind
def partsOf (s:Sg):List (Nat×Operand)->Option (List (Nat×List LV))
 | [] =>some []
 | (i,x)::l=>(opd s x).bind fun v=>(lD v).bind fun cs=>(partsOf s l).bind fun r=>some ((i,cs)::r)
theorem pN {P:Program} {w0:World} {s:Sg} {J:Hp} {θ:Th} (hf:Fine P w0 J θ s): ∀ {l:List (Nat×Operand)} {ps:List (Nat×List LV)},partsOf s l=some ps->
  peq (l.map fun p=>(p.1,evL (envL θ s) p.2)) (ps.map fun p=>(p.1,p.2.map (·.v θ)))/\ ∀p∈ps,∀x∈p.2,x.ok P w0 J θ s.nxt
 | [],ps,h=>by cases ad (show some [] =some ps from h);exact ⟨trivial,fun p hp=>by cases hp⟩
 | (i,x)::l,ps,h=>by
  have ⟨v,hv',h⟩:=bind_some (show (opd s x).bind _=some ps from h)
  have ⟨cs,hcs,h⟩:=bind_some h
  have ⟨r,hr,h⟩:=bind_some h
  cases ad h
  have ⟨h1,h2⟩:=pN hf hr
  have ⟨c1,c2⟩:=iO hcs (bA hf hv')
  refine ⟨⟨rfl,by grind[aB],h1⟩,fun p hp=>?_⟩
  grind
structure Lits (t:Ty) where
 xs:List t.den
 used:List Ent
 rest:List Ent
def WZ (t:Ty):List (Nat×List LV)->Nat->Option (List t.den)
 | [],_=>some []
 | (i,cs)::l,j=>bL (Nat.beq i j) ((cP t cs).bind fun d=>bL d.2.isEmpty ((WZ t l (j+1)).bind fun r=>some (d.1::r)))
def Kw (t:Ty):List (Nat×List LV)->Nat->List Ent->Option (Lits t)
 | [],_,chs=>some ⟨[],[],chs⟩
 | (i,cs)::l,j,chs=>bL (Nat.beq i j&&Nat.beq cs.length t.size) ((cQ t cs chs).bind fun d=>bL d.cells.isEmpty ((Kw t l (j+1) d.rest).bind fun r=>some ⟨d.d::r.xs,d.used++r.used,r.rest⟩))
section
variable {P:Program} {w0:World} {J:Hp} {θ:Th} {n:Nat} {t:Ty}
theorem Kx: ∀ {l:List (Nat×List LV)} {j:Nat} {xs:List t.den},WZ t l j=some xs->(∀p∈l,∀x∈p.2,x.ok P w0 J θ n)->l.map (·.1)=(List.range' j l.length)/\xs.length=l.length/\(∀p∈l,p.2.length=t.size)/\ ∀p,p∈(l.map fun p=>p.2.map (·.v θ)).zip xs->t.rep.rd J p.1 p.2
 | [],j,xs,h,hc=>by cases ad (show some [] =some xs from h);simp_all
 | (i,cs)::l,j,xs,h,hc=>by
  have ⟨hi,h⟩:=aj (show bL (Nat.beq i j) _=some xs from h)
  have ⟨d,hd,h⟩:=bind_some h
  have ⟨he,h⟩:=aj h
  have ⟨r,hr,h⟩:=bind_some h
  cases ad h
  have hi:=al hi
  subst hi
  have ⟨c1,e1,e2⟩:=fx (J:=J) hd (hc (i,cs) (by simp))
  rw[List.isEmpty_iff.1 he,List.append_nil] at e1
  subst e1
  have ⟨h1,h2,h3,h4⟩:=Kx hr fun p hp=>hc p (by grind)
  refine ⟨by rw[List.map_cons,h1];rfl,by grind,fun p hp=>?_,fun p hp=>?_⟩
  ·rcases ax hp with rfl | hp
   ·have:=Rep.rd_len _ e2
    rw[List.length_map,t.rep_size] at this;omega
   grind
  ·rcases ax hp with rfl | hp
   ·exact e2
   ·exact h4 p hp
theorem Ax: ∀ {l:List (Nat×List LV)} {j:Nat} {chs:List Ent} {r:Lits t},Kw t l j chs=some r->chs.Perm (r.used++r.rest)
 | [],j,chs,r,h=>by cases ad (show some _=some r from h);rfl
 | (i,cs)::l,j,chs,r,h=>by
  have ⟨hi,h⟩:=aj (show bL (Nat.beq i j&&Nat.beq cs.length t.size) _=some r from h)
  have ⟨d,hd,h⟩:=bind_some h
  have ⟨he,h⟩:=aj h
  have ⟨q,hq,h⟩:=bind_some h
  cases ad h
  rw[aA]
  exact (eM hd).trans ((Ax hq).append_left _)
theorem Gs: ∀ {l:List (Nat×List LV)} {j:Nat} {chs:List Ent} {r:Lits t},Kw t l j chs=some r->(∀p∈l,∀x∈p.2,x.ok P w0 J θ n)->l.map (·.1)=(List.range' j l.length)/\r.xs.length=l.length/\(∀p∈l,p.2.length=t.size)/\rX J (r.used.map (toCh P θ)) (Gc t.rep (l.map fun p=>p.2.map (·.v θ)) r.xs)
 | [],j,chs,r,h,hc=>by cases ad (show some _=some r from h);exact ⟨rfl,rfl,fun p hp=>(by cases hp),vK⟩
 | (i,cs)::l,j,chs,r,h,hc=>by
  have ⟨hi,h⟩:=aj (show bL (Nat.beq i j&&Nat.beq cs.length t.size) _=some r from h)
  have ⟨d,hd,h⟩:=bind_some h
  have ⟨he,h⟩:=aj h
  have ⟨q,hq,h⟩:=bind_some h
  cases ad h
  rw[ai] at hi
  have hcl:=al hi.2
  have hi:=al hi.1
  subst hi
  obtain ⟨-,c1,e1,e2⟩:=gX (J:=J) (θ:=θ) hd (hc (i,cs) (by simp))
  rw[List.isEmpty_iff.1 he,List.append_nil] at e1
  subst e1
  have ⟨h1,h2,h3,h4⟩:=Gs hq fun p hp=>hc p (by grind)
  refine ⟨by rw[List.map_cons,h1];rfl,by grind,fun p hp=>?_,?_⟩
  ·grind
  ·rw[aS]
   exact rY e2 h4
end
section
variable {P:Program} {w0:World} {I:Hp} {o:Oper} {ev:Operand->Value} {s:Sg}
def U7 (ev:Operand->Value) (θ:Th):List (Nat×Operand)->List (Nat×List LV)->List (Value×List Value)
 | p::l,q::m=>(ev p.2,q.2.map (·.v θ))::U7 ev θ l m
 | _,_=>[]
theorem IC {θ:Th} : ∀ {l:List (Nat×Operand)} {ps:List (Nat×List LV)} {j:Nat},peq (l.map fun p=>(p.1,ev p.2)) (ps.map fun p=>(p.1,p.2.map (·.v θ)))->ps.map (·.1)=List.range' j ps.length->
  l.map (fun p=>(p.1,ev p.2))=((U7 ev θ l ps).zipIdx j).map (fun p=>(p.2,p.1.1))/\(U7 ev θ l ps).length=ps.length/\(U7 ev θ l ps).map (·.2)=ps.map (fun p=>p.2.map (·.v θ))/\ ∀u∈U7 ev θ l ps,u.1.cells=u.2.toArray/\ ∃p∈ps,u.2.length=p.2.length
 | [],[],j,_,_=>⟨rfl,rfl,rfl,fun u hu=>by cases hu⟩
 | (i,x)::l,(i',cs)::ps,j,h,hj=>by
  have ⟨e1,e2,h⟩:=(show i=i'/\(ev x).cells=(cs.map (·.v θ)).toArray/\peq _ _ from h)
  have hj1:i'=j:=by
   have:=congrArg (fun l:List Nat=>l.head?) hj
   simpa [List.range'] using this
  have hj2:ps.map (·.1)=List.range' (j+1) ps.length:=by
   have:=congrArg List.tail hj
   simpa [List.range'] using this
  have ⟨h1,h2,h3,h4⟩:=IC h hj2
  refine ⟨?_,by grind[U7],by show _::_=_::_;rw[h3],fun u hu=>?_⟩
  ·show (i,ev x)::_=(j,ev x)::_
   grind
  ·rcases ax hu with rfl | hu
   ·simp_all
   grind
 | [],_::_,j,h,_=>h.elim
 | _::_,[],j,h,_=>h.elim
theorem W0 {α:Type} {R:Rep α} {E:TypeId} {xs:List α} {rn:List Ch} {fact:Value->Prop} {gv:Value->List Ch} (h:OpT P I w0 o ev rn fact (fun v=>Ch.own (af E R) [v] xs::gv v)):OpT P I w0 o ev rn (fun v=>fact v/\v.oneCell'=true) (fun v=>Ch.own (af E R) [v] xs::gv v):=
 OpT.weak (OpT.hdk (fun v=>v) 0 (fun v=>rfl) h) (fun v hv=>⟨hv.1,Hd.one hv.2⟩) fun v hv=>rfl
theorem good_row {rs ns rest:List Ent} {E:TypeId} {t:Ty} {xs:List t.den} (hp:s.chs.Perm (rs++ns++rest)) (hop: ∀J θ,Fine P w0 J θ s->OpT P J w0 o (evL (envL θ s)) ((rs++ns).map (toCh P θ)) (fun _=>True) (fun v=>Ch.own (Ty.sl E t).rep [v] xs::rs.map (toCh P θ))):Good P w0 s o ⟨rs,ns,rest,[(⟨s.nxt,[]⟩,.own (.sl E t) xs)],.one (.own ⟨s.nxt,[]⟩)⟩:=
 ⟨hp,aR rfl,fun J θ hf=>by
  have h1:=W0 (hop J θ hf)
  have h2:OpT P J w0 o (evL (envL θ s)) ((rs++ns).map (toCh P θ)) (fun v=>True/\v.oneCell'=true) (fun v=>rs.map (toCh P θ)++ [Ch.own (Ty.sl E t).rep [v] xs]):=
   fun w C hs=>(h1 w C hs).imp fun v w hv=>⟨hv.1,hv.2.perm (List.Perm.append_right C (List.perm_append_comm (l₁:=[_])))⟩
  refine OpT.weak h2 (fun v hv0=>⟨⟨aw _,by grind[dB]⟩,dB,fun g hg=>?_⟩) (fun v hv0=>?_)
  ·cases au hg
   exact ⟨aw _,aw _,trivial⟩
  ·show _=_++ [Ch.own _ [hv (upd θ s.nxt v) ⟨s.nxt,[]⟩] _]
   rw[dB]⟩
end
section
variable {Y:Type} (tt:TT) (an:List (Nat×Ty)) (s:Sg) (k:Res->Option Y)
def U8 (T:TypeId) (parts:Array (Nat×Operand)):Option Y:=(td tt T).bind fun d=>d.place.bind fun pl=>d.bytes.bind fun _=>(partsOf s parts.toList).bind fun ps=>(R5 pl ((zeroCells d.ty).map .val) ps).bind fun r=>k (.pure s (.agg r))
def acr:List (Nat×Ty)->Nat->Ty->Ty
 | [],_,t=>t
 | (u,t')::l,d,t=>if Nat.beq u d then t' else acr l d t
def RD (d:Option Nat) (t:Ty):Ty:=match d with
 | none=>t
 | some d=>acr an d t
def newRow (E:TypeId) (t:Ty) (ns rest:List Ent) (xs:List t.den):Option Y:=k ⟨[],ns,rest,[(⟨s.nxt,[]⟩,.own (.sl E t) xs)],.one (.own ⟨s.nxt,[]⟩)⟩
def abk (E : TypeId) (n : Nat) (t : Ty) (m : Nat) (l : List (Nat × Operand)) : Option Y := (partsOf s l).bind fun ps => bL (Nat.beq ps.length (m + 1) && Nat.beq t.size n && Nat.ble ((m + 1) * n) 16777216) (match t.sh with
    | true => (WZ t ps 0).bind fun xs => newRow s k E t [] s.chs xs
    | false => (Kw t ps 0 s.chs).bind fun r => newRow s k E t r.used r.rest r.xs)
def acu (dst:Option Nat) (T:TypeId) (m:Nat) (parts:Array (Nat×Operand)):Option Y:=(td tt T).bind fun d=>d.el.bind fun E=>(td tt E).bind fun e=>match m with
 | 0=>bL parts.toList.isEmpty (newRow s k E (RD an dst e.ty) [] s.chs [])
 | m+1=>e.bytes.bind fun _=>abk s k E e.n (RD an dst e.ty) m parts.toList
def ID:Operand->Operand->Bool
 | .tmp t,.tmp u=>Nat.beq t u
 | .const (.int .i64 m),.const (.int .i64 n)=>match m,n with
  | .ofNat a,.ofNat b=>Nat.beq a b
  | _,_=>false
 | _,_=>false
def Zg (dst:Option Nat) (T:TypeId) (x y:Operand):Option Y:=(td tt T).bind fun d=>d.el.bind fun E=>(td tt E).bind fun e=>e.bytes.bind fun b=>match opd s x with
 | some (.one (.val (.int .i64 l)))=>bL (ID x y&&Nat.beq e.ty.size e.n&&decide ((RD an dst e.ty).erase=e.ty.erase)) ((mkI b l (Ec (RD an dst e.ty))).bind fun xs=>newRow s k E (RD an dst e.ty) [] s.chs xs)
 | _=>none
end
section
variable {Y:Type} {tt:TT} {an:List (Nat×Ty)} {s:Sg} {k:Res->Option Y} {P:Program} {w0:World} {o:Oper} {res:Y} {x y:Operand}
theorem Oe (hT:TTok P tt) {T:TypeId} {parts:Array (Nat×Operand)} (ho:o.op= .build T parts) (h:U8 tt s k T parts=some res):Oks P w0 s o k res:=by
 have ⟨d,hd,h⟩:=bind_some h
 have ⟨pl,hpl,h⟩:=bind_some h
 have ⟨b,hb,h⟩:=bind_some h
 have ⟨ps,hps,h⟩:=bind_some h
 have ⟨r,hr,h⟩:=bind_some h
 have hdk:=hT.get hd
 obtain ⟨z,hz1,hz2,-⟩:=hdk.zero b hb
 refine ⟨_,h,ep (fun J θ hf=>?_) fun J θ hf=>?_⟩
 ·have ⟨h1,h2⟩:=pN hf hps
  have h3:=Kv (θ:=θ) hr
  rw[List.map_map,show (zeroCells d.ty).map ((fun x:LV=>x.v θ) ∘ LV.val)=zeroCells d.ty from List.map_id' _] at h3
  exact NJ _ (hdk.place pl hpl) hz1 hz2 ho h1 h3
 ·have ⟨h1,h2⟩:=pN hf hps
  exact Gr hr (fun x hx=>by
   obtain ⟨u,hu,rfl⟩:=List.mem_map.1 hx
   exact Kr _ u hu) h2
theorem W1 (hT:TTok P tt) {T:TypeId} {m:Nat} {parts:Array (Nat×Operand)} (ho:o.op= .buildSlice T m parts) (h:acu tt an s k o.dst T m parts=some res):Oks P w0 s o k res:=by
 have ⟨d,hd,h⟩:=bind_some h
 have ⟨E,hE,h⟩:=bind_some h
 have ⟨e,he,h⟩:=bind_some h
 have hdk:=hT.get hd
 have hek:=hT.get he
 cases m with
 | zero =>
  have ⟨hp,h⟩:=aj (show bL parts.toList.isEmpty _=some res from h)
  have hp0:parts= #[]:=by simpa using hp
  subst hp0
  exact ⟨_,h,good_row (rs:=[]) (by simp) fun J θ hf=>RH (hdk.el E hE) hek.ti ho⟩
 | succ m =>
  have ⟨b,hb,h⟩:=bind_some (show e.bytes.bind _=some res from h)
  have ⟨ps,hps,h⟩:=bind_some h
  have ⟨hc,h⟩:=aj h
  rw[ai,ai] at hc
  have hc1:=al hc.1.1
  have hc2:=al hc.1.2
  have hc3:=a8 hc.2
  obtain ⟨z,hz1,hz2,-⟩:=hek.zero b hb
  have hn:0<e.n:=by rw[<-hc2];exact Ty.size_pos _
  split at h
  ·rename_i hsh
   have ⟨xs,hxs,h⟩:=bind_some h
   refine ⟨_,h,good_row (rs:=[]) (by simp) fun J θ hf=>?_⟩
   have ⟨h1,h2⟩:=pN hf hps
   have ⟨l1,l2,l3,l4⟩:=Kx (J:=J) hxs h2
   have ⟨u1,u2,u3,u4⟩:=IC h1 l1
   exact Ip (U7 (evL (envL θ s)) θ parts.toList ps) xs (Ty.cpy hsh) (by grind) (hdk.el E hE) hz1 hn ((Ty.rep_size _).trans hc2) (Nat.succ_pos _) hc3 ho u1 (u2.trans hc1) (l2.trans hc1) fun u hu=>⟨(u4 u hu).1,by
    grind⟩
  ·have ⟨r,hr,h⟩:=bind_some h
   refine ⟨_,h,good_row (rs:=[]) (Ax hr) fun J θ hf=>?_⟩
   have ⟨h1,h2⟩:=pN hf hps
   have ⟨l1,l2,l3,l4⟩:=Gs (J:=J) hr h2
   have ⟨u1,u2,u3,u4⟩:=IC h1 l1
   rw[<-u3] at l4
   exact OpT.pre l4 rfl (NF (U7 (evL (envL θ s)) θ parts.toList ps) r.xs (hdk.el E hE) hz1 hn ((Ty.rep_size _).trans hc2) (Nat.succ_pos _) hc3 ho u1 (u2.trans hc1) (l2.trans hc1) fun u hu=>⟨(u4 u hu).1,by
    grind⟩)
theorem Mb {x y:Operand} (h:ID x y=true):x=y:=by
 unfold ID at h
 split at h
 ·simp_all
 ·split at h
  ·simp_all
  grind
 grind
theorem R6 (hT:TTok P tt) {T:TypeId} (ho:o.op= .makeSlice T x y) (h:Zg tt an s k o.dst T x y=some res):Oks P w0 s o k res:=by
 have ⟨d,hd,h⟩:=bind_some h
 have ⟨E,hE,h⟩:=bind_some h
 have ⟨e,he,h⟩:=bind_some h
 have ⟨b,hb,h⟩:=bind_some h
 have hdk:=hT.get hd
 have hek:=hT.get he
 split at h
 ·rename_i l hx
  have ⟨hc,h⟩:=aj h
  rw[ai,ai] at hc
  have ⟨⟨hc1,hc2⟩,hc3⟩:=hc
  have ⟨xs,hxs,h⟩:=bind_some h
  have hc1:=Mb hc1
  have hc2:=al hc2
  have ⟨z,hz1,hz2,hz3⟩:=hek.zero b hb
  have hz:z.cells.toList=zeroCells (RD an o.dst e.ty):=by grind[lC,RD]
  have hn:(RD an o.dst e.ty).size=e.n:=by grind[zQ,lC]
  refine ⟨_,h,good_row (rs:=[]) (by simp) fun J θ hf=>?_⟩
  exact Y7 (by grind[zP]) (hdk.el E hE) hz1 ho ((Ty.rep_size _).trans hn) (by grind[Ty.size_pos]) hz3 (aB hx) (by rw[<-hc1];exact aB hx) hxs
 grind
end
end R
namespace R
open Go.RowKit
open D
section
variable {Y:Type} (tt:TT) (an:List (Nat×Ty)) (s:Sg) (k:Res->Option Y)
def aaH (E:TypeId) (b:Nat) (t:Ty) (xs:List t.den) (nsx rest:List Ent) (y:AV):Option Y:=match y with
 | .one (.own h)=>(rowOf h rest).bind fun r=>(oM (.sl r.E r.t) (.sl E t) r.xs).bind fun ys=>(cM b xs ys).bind fun zs=>match t.sh with
  | true=>k ⟨[r.ent h],nsx,r.rest,[(⟨s.nxt,[]⟩,.own (.sl E t) zs)],.one (.own ⟨s.nxt,[]⟩)⟩
  | false=>k ⟨[],nsx++ [r.ent h],r.rest,[(⟨s.nxt,[]⟩,.own (.sl E t) zs)],.one (.own ⟨s.nxt,[]⟩)⟩
 | .one (.rd h t' d)=>bL t.sh ((my t' (.sl E t) d).bind fun ys=>(cM b xs ys).bind fun zs=>k ⟨[],nsx,rest,[(⟨s.nxt,[]⟩,.own (.sl E t) zs)],.one (.own ⟨s.nxt,[]⟩)⟩)
 | .one (.rdn h _ t' d)=>bL t.sh ((my t' (.sl E t) d).bind fun ys=>(cM b xs ys).bind fun zs=>k ⟨[],nsx,rest,[(⟨s.nxt,[]⟩,.own (.sl E t) zs)],.one (.own ⟨s.nxt,[]⟩)⟩)
 | _=>none
def Zh (y:AV) (t:Ty):Ty:=match y with
 | .one (.own h)=>match rowOf h s.chs with
  | some r=>r.t
  | none=>t
 | _=>t
def acv (dst:Option Nat) (T:TypeId) (x y:Operand):Option Y:=(td tt T).bind fun d=>d.el.bind fun E=>(td tt E).bind fun e=>e.bytes.bind fun b=>(opd s y).bind fun yv=>match opd s x with
 | some (.one (.own h))=>(rowOf h s.chs).bind fun r=>bL (Nat.beq r.E E&&Nat.beq r.t.size e.n) (aaH s k r.E b r.t r.xs [r.ent h] r.rest yv)
 | some (.one (.val v))=>bL (isNil v&&Nat.beq (Zh s yv (RD an dst e.ty)).size e.n) (aaH s k E b (Zh s yv (RD an dst e.ty)) [] [] s.chs yv)
 | _=>none
end
section
variable {Y:Type} {tt:TT} {an:List (Nat×Ty)} {s:Sg} {k:Res->Option Y} {P:Program} {w0:World} {o:Oper} {res:Y} {x y:Operand}
theorem OpT.nilrow {I:Hp} {ev:Operand->Value} {α:Type} {E:TypeId} {R:Rep α} {rn:List Ch} {fact:Value->Prop} {gv:Value->List Ch} (h:OpT P I w0 o ev (Ch.own (af E R) [.slice none 0 0] ([] :List α)::rn) fact gv):OpT P I w0 o ev rn fact gv:=fun w C hs=>h w C hs.nil
theorem OpT.permN {I:Hp} {ev:Operand->Value} {rn rn':List Ch} {fact:Value->Prop} {gv:Value->List Ch} (hp:rn'.Perm rn) (h:OpT P I w0 o ev rn fact gv):OpT P I w0 o ev rn' fact gv:=fun w C hs=>h w C (hs.perm (hp.append_right C))
theorem C8 {r:Row} {E:TypeId} {t:Ty} {ys:List t.den} {h:Hdr} (hc:oM (.sl r.E r.t) (.sl E t) r.xs=some ys):r.ent h=(h,r.ver,.own (.sl E t) ys):=by
 have ⟨e,e2⟩:=pL hc
 obtain ⟨rfl,rfl⟩:=Ty.sl.inj e
 rw[e2];rfl
theorem Of {T E:TypeId} {z:Value} {n b:Nat} {t:Ty} {xs:List t.den} {nsx rest:List Ent} {yv:AV} (hp:s.chs.Perm (nsx++rest)) (hT:P.underlying T=some (.slice E)) (hE:TZ P E z n b) (hzs:z.cells.size=n) (hn:0<n) (ht:t.size=n) (hb1:1<=b) (ho:o.op= .call { callee:=.builtin .append,args:= #[x,y],argTypes:= #[T,T] }) (hy:opd s y=some yv)
  (hx: ∀J θ,Fine P w0 J θ s-> ∃v,evL (envL θ s) x=v/\ ∀(rn:List Ch) (fact:Value->Prop) (gv:Value->List Ch),OpT P J w0 o (evL (envL θ s)) (Ch.own (af E t.rep) [v] xs::rn) fact gv->OpT P J w0 o (evL (envL θ s)) (nsx.map (toCh P θ)++rn) fact gv)
  (h:aaH s k E b t xs nsx rest yv=some res):Oks P w0 s o k res:=by
 unfold aaH at h
 split at h
 ·rename_i hh
  have ⟨r,hr,h⟩:=bind_some h
  have ⟨ys,hys,h⟩:=bind_some h
  have ⟨zs,hzs',h⟩:=bind_some h
  obtain ⟨hpr,-⟩:=bN hr
  have he:=C8 (h:=hh) hys
  split at h
  ·rename_i hsh
   refine ⟨_,h,good_row (hp.trans ((hpr.append_left nsx).trans List.perm_middle)) fun J θ hf=>?_⟩
   have ⟨v,hv',hx⟩:=hx J θ hf
   rw[he]
   have:=Gf (P:=P) (I:=J) (w0:=w0) (R:=t.rep) hzs' (Ty.sh_ok hsh) (Ty.cpy hsh) hT hE hzs hn (t.rep_size.trans ht) hb1 ho hv' (aB (θ:=θ) hy)
   exact OpT.permN (List.perm_append_comm (l₁:=[_])) (hx _ _ _ this)
  ·refine ⟨_,h,good_row (rs:=[]) (by
    have:=hp.trans (hpr.append_left nsx)
    grind) fun J θ hf=>?_⟩
   have ⟨v,hv',hx⟩:=hx J θ hf
   rw[he]
   have:=Wt (P:=P) (I:=J) (w0:=w0) (R:=t.rep) hzs' hT hE hzs hn (t.rep_size.trans ht) hb1 ho hv' (aB (θ:=θ) hy)
   have:=hx _ _ _ this
   rw[List.nil_append,aS]
   exact this
 ·have ⟨hsh,h⟩:=aj h
  have ⟨ys,hys,h⟩:=bind_some h
  have ⟨zs,hzs',h⟩:=bind_some h
  refine ⟨_,h,good_row (rs:=[]) hp fun J θ hf=>?_⟩
  have ⟨v,hv',hx⟩:=hx J θ hf
  have hrd:=gy hys (bA hf hy).2
  have:=uP (P:=P) (I:=J) (w0:=w0) (R:=t.rep) (S:=t.rep) (E':=E) hzs' (Ty.cpy hsh) (t.rep_size.trans ht) hrd hT hE hzs hn (t.rep_size.trans ht) hb1 ho hv' (aB (θ:=θ) hy)
  have:=hx _ _ _ this
  rw[List.append_nil] at this
  exact this
 ·have ⟨hsh,h⟩:=aj h
  have ⟨ys,hys,h⟩:=bind_some h
  have ⟨zs,hzs',h⟩:=bind_some h
  refine ⟨_,h,good_row (rs:=[]) hp fun J θ hf=>?_⟩
  have ⟨v,hv',hx⟩:=hx J θ hf
  have hrd:=gy hys (bA hf hy).2.1
  have:=uP (P:=P) (I:=J) (w0:=w0) (R:=t.rep) (S:=t.rep) (E':=E) hzs' (Ty.cpy hsh) (t.rep_size.trans ht) hrd hT hE hzs hn (t.rep_size.trans ht) hb1 ho hv' (aB (θ:=θ) hy)
  have:=hx _ _ _ this
  rw[List.append_nil] at this
  exact this
 grind
theorem W2 (hT:TTok P tt) {T:TypeId} (ho:o.op= .call { callee:=.builtin .append,args:= #[x,y],argTypes:= #[T,T] }) (h:acv tt an s k o.dst T x y=some res):Oks P w0 s o k res:=by
 have ⟨d,hd,h⟩:=bind_some h
 have ⟨E,hE,h⟩:=bind_some h
 have ⟨e,he,h⟩:=bind_some h
 have ⟨b,hb,h⟩:=bind_some h
 have ⟨yv,hy,h⟩:=bind_some h
 have hdk:=hT.get hd
 have hek:=hT.get he
 have ⟨z,hz1,hz2,hz3⟩:=hek.zero b hb
 have hzs:z.cells.size=e.n:=by rw[hz2,List.size_toArray,zQ,hek.sz]
 split at h
 ·rename_i hh hx
  have ⟨r,hr,h⟩:=bind_some h
  have ⟨hc,h⟩:=aj h
  rw[ai] at hc
  have hc1:=al hc.1
  have hc2:=al hc.2
  obtain ⟨hp,-⟩:=bN hr
  exact Of (nsx:=[r.ent hh]) hp ((hdk.el E hE).trans (by rw[hc1])) (by grind) hzs (by grind[Ty.size_pos]) hc2 hz3 ho hy (fun J θ hf=>⟨_,aB hx,fun rn fact gv h=>h⟩) h
 ·rename_i v hx
  have ⟨hc,h⟩:=aj h
  rw[ai] at hc
  have hc1:=nw hc.1
  have hc2:=al hc.2
  refine Of (nsx:=[]) (List.Perm.refl _) (hdk.el E hE) hz1 hzs (by grind[Ty.size_pos]) hc2 hz3 ho hy (fun J θ hf=>⟨_,aB hx,fun rn fact gv h=>?_⟩) h
  rw[show (AV.one (LV.val v)).v θ= .slice none 0 0 from hc1] at h
  exact OpT.nilrow h
 grind
end
structure Hol where
 ver:Nat
 over:Nat
 t:Ty
 d:t.den
 u:Ty
 y:u.den
 f:u.den->t.den
 i:Int
 k:Nat
 off:Nat
 lv:LV
 rest:List Ent
def Em (h:Hdr) (chs:List Ent):Option Hol:=(pull h chs).bind fun r=>match r.1.2.2 with
 | .hole over t d u y f i k off lv=>some ⟨r.1.2.1,over,t,d,u,y,f,i,k,off,lv,r.2⟩
 | _=>none
def Hol.ent (r:Hol) (h:Hdr):Ent:=(h,r.ver,.hole r.over r.t r.d r.u r.y r.f r.i r.k r.off r.lv)
theorem vR {h:Hdr} {chs:List Ent} {r:Hol} (e:Em h chs=some r):chs.Perm (r.ent h::r.rest):=by
 have ⟨q,hq,e⟩:=bind_some e
 have ⟨p,k⟩:=fa hq
 have ⟨⟨h',ver,c⟩,rest⟩:=q
 obtain rfl:h'=h:=k
 cases c with
 | hole over t d u y f i k off lv =>
  cases ad (show some _=some r from e)
  exact p
 | _=>cases e
def partOf (r:Hol):Option (Bool×r.u.den×List Ent):=match r.lv with
 | .own l=>(pull l r.rest).bind fun q=>match q.1.2.2 with
  | .own u' d=>(oM u' r.u d).bind fun d=>some (Nat.beq q.1.2.1 r.ver,d,q.2)
  | _=>none
 | _=>none
theorem Gt {r:Hol} {q:Bool×r.u.den×List Ent} (h:partOf r=some q): ∃l ver,r.lv= .own l/\r.rest.Perm ((l,ver,.own r.u q.2.1)::q.2.2)/\(q.1=true->ver=r.ver):=by
 have ⟨ver,over,t,d,u,y,f,i,k,off,lv,rest⟩:=r
 cases lv with
 | own l =>
  have ⟨e,he,h⟩:=bind_some (show (pull l rest).bind _=some q from h)
  grind[fa,bind_some,oM,bind,ad,pL,al]
 | _=>cases h
def IE (h:Hdr) (s:Sg):Option Sg:=(Em h s.chs).bind fun r=>(partOf r).bind fun q=>match q.1 with
 | true=>some ⟨s.env,(h,r.over,.own r.t r.d)::q.2.2,s.nxt+1⟩
 | false=>some ⟨s.env,(h,s.nxt,.own r.t (r.f q.2.1))::q.2.2,s.nxt+1⟩
section
variable {P:Program} {I J:Hp} {w0 w:World} {F:Ch} {n:Nat} {θ:Th} {s s':Sg} {a:Act} {o:Oper}
theorem Sim.chs (hS:Sim P I w0 F n J θ s a w) {chs':List Ent} (hst:St J w0 w (chs'.map (toCh P θ)++ [F])) (hn:Newer s.nxt s.chs chs') (hok: ∀e∈chs',okE P w0 J θ (s.nxt+1) chs' e):Sim P I w0 F n J θ ⟨s.env,chs',s.nxt+1⟩ a w:=
 ⟨hS.le,hS.agr,hst,fun e he=>AV.ok_same Same.rfl (Nat.le_succ _) hn (hS.fine.env e he) Hp.le.rfl,fun e he=>aT (hS.fine.ver e he),hS.fine.nd,hok,hS.fine.lay⟩
theorem Mc {h:Hdr} (hs:IE h s=some s') (hS:Sim P I w0 F n J θ s a w):Sim P I w0 F n J θ s' a w:=by
 have ⟨r,hr,hs⟩:=bind_some hs
 have ⟨q,hq,hs⟩:=bind_some hs
 have hp:=vR hr
 have ⟨l,ver,hl,hp2,hu⟩:=Gt hq
 have hp3:=hp.trans (hp2.cons _)
 have hok:=hS.fine.chs (r.ent h) (hp.mem_iff.2 (by simp))
 have hst:St J w0 w (Ch.own r.t.rep [hv θ h] (r.f q.2.1)::(q.2.2.map (toCh P θ)++ [F])):=by
  have h0:=hS.st.perm ((hp3.map (toCh P θ)).append_right [F])
  have h1:St J w0 w (Ch.own r.u.rep [hv θ l] q.2.1::Ch.gap r.t.rep [hv θ h] r.u.rep r.f (ptB (hv θ h)) (ptO (hv θ h)+(r.i.toNat*r.k+r.off)) (r.lv.v θ)::(q.2.2.map (toCh P θ)++ [F])):=h0.perm (List.Perm.swap _ _ _)
  rw[hl] at h1
  exact St.settle h1
 have hmem: ∀e,e∈q.2.2->e∈s.chs:=fun e he=>hp3.mem_iff.2 (by grind)
 cases hb:q.1 with
 | true =>
  rw[hb] at hs
  cases ad (show some _=some s' from hs)
  have hver:=hu hb
  have hd:q.2.1=r.y:=by
   have:=(hok.2.2.2.2.2 l hl).2 (l,ver,.own r.u q.2.1) (hp3.mem_iff.2 (by simp)) _ ⟨rfl,.inl ⟨hver,rfl⟩⟩
   injection this with _ h2
  have hfd:r.f q.2.1=r.d:=by rw[hd];exact hok.2.2.2.2.1
  rw[hfd] at hst
  have hnew:Newer s.nxt s.chs ((h,r.over,.own r.t r.d)::q.2.2):=fun e he h' ver' c hs'=>by
   rcases ax he with rfl | he
   ·obtain ⟨rfl,hs'⟩:=hs'
    rcases hs' with ⟨rfl,rfl⟩ | hs'
    ·exact .inr ⟨r.ent h,hp.mem_iff.2 (by simp),rfl,.inr ⟨rfl,rfl⟩⟩
    ·exact hs'.elim
   grind
  refine hS.chs hst hnew fun e he=>?_
  rcases ax he with rfl | he
  ·exact ⟨aT hok.1,aT (Nat.lt_trans hok.2.2.2.1 hok.2.1),trivial⟩
  ·exact eL Same.rfl (Nat.le_succ _) hnew (hS.fine.chs e (hmem e he)) Hp.le.rfl
 | false =>
  rw[hb] at hs
  cases ad (show some _=some s' from hs)
  have hnew:Newer s.nxt s.chs ((h,s.nxt,.own r.t (r.f q.2.1))::q.2.2):=fun e he h' ver' c hs'=>by
   rcases ax he with rfl | he
   ·obtain ⟨rfl,hs'⟩:=hs'
    rcases hs' with ⟨rfl,rfl⟩ | hs'
    ·grind
    ·exact hs'.elim
   grind
  refine hS.chs hst hnew fun e he=>?_
  rcases ax he with rfl | he
  ·exact ⟨aT hok.1,aw _,trivial⟩
  ·exact eL Same.rfl (Nat.le_succ _) hnew (hS.fine.chs e (hmem e he)) Hp.le.rfl
def settle:Nat->Hdr->Sg->Sg
 | 0,_,s=>s
 | m+1,h,s=>match Em h s.chs with
  | some r=>match r.lv with
   | .own l=>match IE h (settle m l s) with
    | some s'=>s'
    | none=>s
   | _=>s
  | none=>s
theorem Ay: ∀ {m:Nat} {h:Hdr} {s:Sg},Sim P I w0 F n J θ s a w->Sim P I w0 F n J θ (settle m h s) a w
 | 0,_,_,hS=>hS
 | m+1,h,s,hS=>by
  unfold settle
  split
  ·split
   ·split
    ·rename_i hs
     exact Mc hs (Ay hS)
    omega
   omega
  omega
end
section
variable {Y:Type} (tt:TT) (s:Sg) (k:Res->Option Y)
def Og (T:TypeId) (x y:Operand):Option Y:=(td tt T).bind fun d=>match opd s x,opd s y with
 | some (.elo h ver E t xs a i off),some (.one lv)=>(Em h s.chs).bind fun r=>bL (Nat.beq r.k t.size&&Nat.beq r.off off && !d.agg&&Nat.beq d.n 1&&(match lv with | .own l=> !(Hdr.beq l h) | _=>true)) ((chk (i=r.i)).bind fun _=>k ⟨[],[r.ent h],r.rest,[(h,.hole r.over r.t r.d r.u r.y r.f r.i r.k r.off lv)],.any ⟨s.nxt,[]⟩⟩)
 | _,_=>none
end
theorem En (h:Hdr):Hdr.beq h h=true:=by grind[Hdr.beq,Nat.beq_refl,Ap]
section
variable {Y:Type} {tt:TT} {s:Sg} {k:Res->Option Y} {P:Program} {w0:World} {o:Oper} {res:Y} {x y:Operand}
theorem Md (hT:TTok P tt) {T:TypeId} (ho:o.op= .store T x y) (h:Og tt s k T x y=some res):Oks P w0 s o k res:=by
 have ⟨d,hd,h⟩:=bind_some h
 split at h
 ·rename_i hh ver E t xs a i off lv hx hy
  have ⟨r,hr,h⟩:=bind_some h
  have ⟨hc,h⟩:=aj h
  rw[ai,ai,ai,ai] at hc
  have ⟨⟨⟨⟨hc1,hc2⟩,hc3⟩,hc4⟩,hc5⟩:=hc
  have ⟨u,hi,h⟩:=bind_some h
  have hi:=bQ hi
  have hc1:=al hc1
  have hc2:=al hc2
  have hc3:d.agg=false:=by simpa using hc3
  have hc4:=al hc4
  have hp:=vR hr
  have hti:=(hT.get hd).ti
  rw[hc3,hc4] at hti
  refine ⟨_,h,El hp,fun J θ hf g hg ver' c hs=>?_,fun J θ hf=>?_⟩
  ·cases au hg
   exact ⟨r.ent hh,hp.mem_iff.2 (by simp),rfl,.inr hs⟩
  ·have hok:=jl hf hp
   have hlv:=bA hf hy
   have hxv:evL (envL θ s) x= .pointer (some ⟨ptB (hv θ hh),ptO (hv θ hh)+(r.i.toNat*r.k+r.off),none⟩):=by
    rw[aB (θ:=θ) hx,hc1,hc2,<-hi];rfl
   have hu: ∀u,hv (upd θ s.nxt u) hh=hv θ hh:=fun u=>aX Same.upd hok.1
   have:=Ek (P:=P) (I:=J) (w0:=w0) (R:=r.t.rep) (S:=r.u.rep) (cs:=[hv θ hh]) (f:=r.f) (v:=r.lv.v θ) hti ho hxv (aB (θ:=θ) hy) (LV.one hlv)
   refine OpT.weak this (fun v hv0=>⟨aw _,dB,fun g hg=>?_⟩) (fun v hv0=>?_)
   ·cases au hg
    refine ⟨aT hok.1,aw _,LV.ok_same Same.upd (Nat.le_succ _) hlv Hp.le.rfl,Nat.lt_trans hok.2.2.2.1 hok.2.1,hok.2.2.2.2.1,fun l hl=>?_⟩
    have hne:l≠hh:=fun e=>by
     grind[Hdr.beq,En]
    refine ⟨aw _,fun e he c hs=>?_⟩
    rcases aH he with he | he
    ·obtain ⟨g,hg,rfl⟩:=List.mem_map.1 he
     cases au hg
     exact absurd hs.1.symm hne
    ·have he:e∈s.chs:=hp.mem_iff.2 (be _ (by grind))
     have hek:=hf.chs e he
     have ⟨h',v',c'⟩:=e
     rcases hs.2 with ⟨h1,h2⟩ | h1
     ·have:=hek.2.1
      grind
     ·cases c' with
      | hole over _ _ _ _ _ _ _ _ _ =>
       have:=Nat.lt_trans hek.2.2.2.1 hek.2.1
       rw[h1.1] at this
       grind
      | _=>exact h1.elim
   ·show [Ch.gap _ [hv θ hh] _ _ (ptB (hv θ hh)) (ptO (hv θ hh)+_) (lv.v θ)] = [Ch.gap _ [hv (upd θ s.nxt v) hh] _ _ (ptB (hv (upd θ s.nxt v) hh)) (ptO (hv (upd θ s.nxt v) hh)+_) (lv.v (upd θ s.nxt v))]
    rw[hu,LV.v_same Same.upd hlv]
 grind
end
end R
namespace R
open Go.RowKit
open D
inductive PM
 | rd (t:Ty)
 | ow (t:Ty)
 | fn (ps rs:List Ty)
 | cap (T:TypeId) (t:Ty)
 | capf (T:TypeId) (ps rs:List Ty)
 | ptr (T:TypeId) (t:Ty)
 | eat (t:Ty)
 | fk (g:Nat)
 | crs (T:TypeId) (E:TypeId)
 deriving DecidableEq
def PM.den:PM->Type
 | .rd t=>t.den
 | .ow t=>t.den
 | .fn ps rs=>cur ps (Option (dens rs))
 | .cap _ t=>t.den
 | .capf _ ps rs=>cur ps (Option (dens rs))
 | .ptr _ t=>t.den
 | .eat t=>t.den
 | .fk _=>Unit
 | .crs _ _=>List Int×Int×Int
def denP:List PM->Type
 | [] =>Unit
 | p::ps=>p.den×denP ps
def curP:List PM->Type->Type
 | [],R=>R
 | p::ps,R=>p.den->curP ps R
def appP {R:Type} :(ps:List PM)->curP ps R->denP ps->R
 | [],f,_=>f
 | _::ps,f,d=>appP ps (f d.1) d.2
def PM.out:PM->List Ty
 | .ow t=>[t]
 | .ptr _ t=>[t]
 | .crs _ _=>[.prod (.int .i64) (.int .i64)]
 | _=>[]
def outs:List PM->List Ty
 | [] =>[]
 | p::ps=>match p with
  | .ow t=>t::outs ps
  | .ptr _ t=>t::outs ps
  | .crs _ _=>.prod (.int .i64) (.int .i64)::outs ps
  | _=>outs ps
def hFst:(ts us:List Ty)->jj (ts++us)->jj ts
 | [],_,_=>()
 | _::ts,us,d=>(d.1,hFst ts us d.2)
def hSnd:(ts us:List Ty)->jj (ts++us)->jj us
 | [],_,d=>d
 | _::ts,us,d=>hSnd ts us d.2
structure FS where
 ps:List PM
 rs:List Ty
 m:curP ps (Option (dens (rs++outs ps)))
 cl:Option (TypeId×Nat)
theorem Zi:Ij.Dp:=Am
def xl (P:Program) (k:FuncId) (E b:Nat):Prop:=Enters P k/\ ∀(E':TypeId) (I:Hp) (w0:World) (v:Value) (xs zs:List Raw),Lay P I->(af E' Ij).rd I [v] xs->cM b [] xs=some zs->Con P k #[v] I w0 [] (fun _=>True) (fun r=>[Ch.own (af E Ij) [r] zs])
abbrev FT:=List (Nat×FS)
def fs (ft:FT) (k:Nat):Option FS:=match ft with
 | [] =>none
 | (j,f)::l=>if Nat.beq j k then some f else fs l k
def abl (P:Program) (w0:World) (J:Hp) (γ:Value):(p:PM)->Value->p.den->Prop
 | .rd t,v,d=> ∃cs,Lds t.isProd cs v/\t.rep.rd J cs d
 | .ow t,v,_=>oN v=t.isProd
 | .fn a b,v,d=>FnOk P w0 J v a b d
 | .cap T t,v,d=> ∃b,v= .pointer (some ⟨b,0,none⟩)/\ ∃cells:List Value,J b=some (.cells cells.toArray T (0,0))/\t.rep.rd J cells d
 | .capf T x y,v,d=> ∃b,v= .pointer (some ⟨b,0,none⟩)/\ ∃u:Value,J b=some (.cells [u].toArray T (0,0))/\FnOk P w0 J u x y d
 | .ptr T t,v,_=> ∃b,v= .pointer (some ⟨b,0,none⟩)
 | .eat t,v,_=>oN v=t.isProd
 | .fk g,v,_=>v= .func (.func g) #[] #[]
 | .crs _ E,v,d=>(∃b,v= .pointer (some ⟨b,0,none⟩))/\(Ty.sl E (.int .u8)).rep.rd J [γ] d.1
def PArgs (P:Program) (w0:World) (J:Hp) (γ:Value):(ps:List PM)->List Value->denP ps->Prop
 | [],vs,_=>vs= []
 | p::ps,vs,d=> ∃v r,vs=v::r/\abl P w0 J γ p v d.1/\PArgs P w0 J γ ps r d.2
def owCh (γ:Value):(ps:List PM)->List Value->denP ps->List Ch
 | p::ps,v::vs,d=>match p,d with
  | .ow t,d=>Ch.own t.rep (ka t.isProd v) d.1::owCh γ ps vs d.2
  | .ptr T t,d=>Ch.box (bk v) T t.rep d.1::owCh γ ps vs d.2
  | .eat t,d=>Ch.own t.rep (ka t.isProd v) d.1::owCh γ ps vs d.2
  | .rd _,d=>owCh γ ps vs d.2
  | .fn _ _,d=>owCh γ ps vs d.2
  | .cap _ _,d=>owCh γ ps vs d.2
  | .capf _ _ _,d=>owCh γ ps vs d.2
  | .fk _,d=>owCh γ ps vs d.2
  | .crs T _,d=>Ch.blk (bk v) [γ,.int .i64 d.1.2.1,.int .i64 d.1.2.2] T::owCh γ ps vs d.2
 | _,_,_=>[]
def outCh (γ:Value):(ps:List PM)->List Value->jj (outs ps)->List Ch
 | p::ps,v::vs,d=>match p,d with
  | .ow t,d=>Ch.own t.rep (ka t.isProd v) d.1::outCh γ ps vs d.2
  | .ptr T t,d=>Ch.box (bk v) T t.rep d.1::outCh γ ps vs d.2
  | .eat _,d=>outCh γ ps vs d
  | .rd _,d=>outCh γ ps vs d
  | .fn _ _,d=>outCh γ ps vs d
  | .cap _ _,d=>outCh γ ps vs d
  | .capf _ _ _,d=>outCh γ ps vs d
  | .fk _,d=>outCh γ ps vs d
  | .crs T _,d=>Ch.blk (bk v) [γ,.int .i64 d.1.1,.int .i64 d.1.2] T::outCh γ ps vs d.2
 | _,_,_=>[]
def ac3 (P:Program) (k:FuncId):Prop:= ∀(w:World) (g h oa ob la lb ca cb:Nat) (curA curB:Array Value) (tA tB:TypeId),g≠h->w.heap[g]? =some (.cells curA tA (0,0))->w.heap[h]? =some (.cells curB tB (0,0))->0<curB.size->(callFunc k #[.slice (some ⟨g,oa,none⟩) la ca,.slice (some ⟨h,ob,none⟩) lb cb]).run P w= .ok (.value (.bool false)) w
def abm (P:Program) (k:FuncId) (T f:Nat):Prop:=Enters P k/\ ∀(I:Hp) (w0:World) (c d:List Value),Con P k #[.agg c.toArray,.agg d.toArray] I w0 []
 (fun v=> ∃b1 b2,v= .func (.func f) #[] #[.pointer (some ⟨b1,0,none⟩),.pointer (some ⟨b2,0,none⟩)]) (fun v=>[Ch.emp,Ch.blk (bk (vg v [0])) c T,Ch.blk (bk (vg v [1])) d T])
def FS.ov (f:FS):Bool:=match f.cl with
 | some q=>Nat.beq q.2 0 || Nat.beq q.2 9
 | none=>false
def ClOk (P:Program) (k:FuncId) (E b:Nat):Prop:=(Nat.beq b 0=true->ac3 P k)/\(Nat.beq b 0=false->Nat.beq b 7=false->Nat.ble 1000 b=false->Nat.beq b 9=false->xl P k E b)/\(Nat.ble 1000 b=true->abm P k E (b - 1000))
def yt:(ts:List Ty)->jj ts->Value->Prop
 | [.sl _ t],d,v=>List.length (α:=t.den) d.1=0->v= .slice none 0 0
 | _,_,_=>True
def NilOk (P : Program) (k : FuncId) (f : FS) : Prop := ∀ w0 J γ vs (d : denP f.ps) r, Lay P J -> PArgs P w0 J γ f.ps vs d -> appP f.ps f.m d = some r ->
    Con P k vs.toArray J w0 (owCh γ f.ps vs d) (fun v => resFa f.rs v /\ yt f.rs (hFst f.rs (outs f.ps) (toH _ r)) v) (fun v => resGv f.rs (hFst f.rs (outs f.ps) (toH _ r)) v ++ outCh γ f.ps vs (hSnd f.rs (outs f.ps) (toH _ r)))
def W3:(ts:List Ty)->jj ts->Option (List Int)
 | [],_=>some []
 | .int .i64::ts,d=>(W3 ts d.2).map fun l=>d.1::l
 | _::_,_=>none
def NewOk (P : Program) (k : FuncId) (T : Nat) (f : FS) : Prop := Enters P k /\ ∀ w0 J γ vs (d : denP f.ps) r ns, Lay P J -> PArgs P w0 J γ f.ps vs d -> appP f.ps f.m d = some r -> W3 (f.rs ++ outs f.ps) (toH _ r) = some ns ->
    Con P k vs.toArray J w0 [] (fun v => ∃ b, v = .pointer (some ⟨b, 0, none⟩)) (fun v => [Ch.blk (bk v) (vs ++ ns.map (Value.int .i64)) T])
structure FOk (P:Program) (k:FuncId) (f:FS):Prop where
 cl: ∀q,f.cl=some q->ClOk P k q.1 q.2/\(Nat.beq q.2 7=true->NilOk P k f)/\(Nat.beq q.2 9=true->NewOk P k q.1 f)
 en:f.ov=false->Enters P k
 con:f.ov=false-> ∀w0 J γ vs (d:denP f.ps) r,Lay P J->PArgs P w0 J γ f.ps vs d->appP f.ps f.m d=some r->
  Con P k vs.toArray J w0 (owCh γ f.ps vs d) (resFa f.rs) (fun v=>resGv f.rs (hFst f.rs (outs f.ps) (toH _ r)) v++outCh γ f.ps vs (hSnd f.rs (outs f.ps) (toH _ r)))
def FTok (P:Program):FT->Prop
 | [] =>True
 | (k,f)::l=>FOk P k f/\FTok P l
theorem FTok.get {P:Program} {k:Nat} {f:FS} : ∀ {ft:FT},FTok P ft->fs ft k=some f->FOk P k f
 | (j,x)::l,⟨h1,h2⟩,h=>by
  unfold fs at h
  split at h
  ·rename_i hj
   have:=al hj
   subst this
   rw[<-ad h];exact h1
  ·exact FTok.get h2 h
def Ty.dp:Ty->Bool
 | .prod a b=>a.dp&&b.dp
 | .sl _ t=>t.dp
 | .fro _=>false
 | .bag _=>false
 | .wr t=>t.dp
 | .tree _ _ _=>false
 | _=>true
theorem Ty.dp_ok: ∀ {t:Ty},t.dp=true->t.rep.Dp
 | .int _,_=>Am
 | .bool,_=>Wo
 | .str,_=>Y1
 | .raw,_=>Am (α:=Raw) (enc:=(·.1)) (h1:=(·.2))
 | .prod a b,h=>by
  have h:(a.dp&&b.dp)=true:=h
  rw[ai] at h
  exact Wp (dp_ok h.1) (dp_ok h.2)
 | .sl _ t,h=>D7 (dp_ok (show t.dp=true from h))
 | .fro _,h=>by cases h
 | .bag _,h=>by cases h
 | .wr t,h=>dp_ok (t:=t) h
 | .tree _ _ _,h=>by cases h
def lY (id:Nat) (pth:Nat->List Nat):(t:Ty)->t.den->Nat->List LV
 | .int k,d,_=>[.val (.int k d)]
 | .bool,d,_=>[.val (.bool d)]
 | .str,d,_=>[.val (.string d)]
 | .raw,d,j=>[.rd ⟨id,pth j⟩ .raw d]
 | .prod a b,d,j=>lY id pth a d.1 j++lY id pth b d.2 (j+a.size)
 | .sl E t,d,j=>[.rd ⟨id,pth j⟩ (.sl E t) d]
 | .fro t,d,j=>lY id pth t d j
 | .bag t,d,j=>lY id pth t d j
 | .wr t,d,j=>lY id pth t d j
 | .tree T E t,d,j=>[.rd ⟨id,pth j⟩ (.tree T E t) d]
theorem iP {P:Program} {w0:World} {J:Hp} {θ:Th} {id n:Nat} {pth:Nat->List Nat} (hid:id<n): ∀(t:Ty) (d:t.den) (j:Nat) (cs:List Value),t.rep.rd J cs d->(∀i v,cs[i]? =some v->vg (θ id) (pth (j+i))=v)->
  (∀x∈lY id pth t d j,x.ok P w0 J θ n)/\(lY id pth t d j).map (·.v θ)=cs
 | .int k,d,j,cs,h,_=>⟨fun x hx=>by cases au hx;rfl,h.symm⟩
 | .bool,d,j,cs,h,_=>⟨fun x hx=>by cases au hx;rfl,h.symm⟩
 | .str,d,j,cs,h,_=>⟨fun x hx=>by cases au hx;rfl,h.symm⟩
 | .raw,d,j,cs,h,hc=>by
  obtain ⟨u,rfl⟩:=List.length_eq_one_iff.1 (Rep.rd_len _ h)
  have hh:hv θ ⟨id,pth j⟩=u:=by
   have:=hc 0 u rfl
   rwa [Nat.add_zero] at this
  refine ⟨fun x hx=>?_,?_⟩
  ·cases au hx
   exact ⟨hid,by grind⟩
  ·show [hv θ ⟨id,pth j⟩] = [u]
   rw[hh]
 | .prod a b,d,j,cs,h,hc=>by
  obtain ⟨c1,c2,rfl,h1,h2⟩:=h
  have hl:=(Rep.rd_len _ h1).trans a.rep_size
  obtain ⟨e1,e2⟩:=iP hid a d.1 j c1 h1 fun i v hv=>hc i v (by grind)
  obtain ⟨e3,e4⟩:=iP hid b d.2 (j+a.size) c2 h2 fun i v hv=>by
   have:=hc (a.size+i) v (by grind)
   rwa [show j+a.size+i=j+(a.size+i) from by omega]
  refine ⟨fun x hx=>?_,?_⟩
  ·rcases aH hx with hx | hx
   ·exact e1 x hx
   ·exact e3 x hx
  grind[lY]
 | .sl E t,d,j,cs,h,hc=>by
  obtain ⟨u,rfl⟩:=List.length_eq_one_iff.1 (Rep.rd_len _ h)
  have hh:hv θ ⟨id,pth j⟩=u:=by
   have:=hc 0 u rfl
   rwa [Nat.add_zero] at this
  refine ⟨fun x hx=>?_,?_⟩
  ·cases au hx
   exact ⟨hid,by grind⟩
  ·show [hv θ ⟨id,pth j⟩] = [u]
   rw[hh]
 | .fro t,d,j,cs,h,hc=>iP hid t d j cs h hc
 | .bag t,d,j,cs,h,hc=>iP hid t d j cs h hc
 | .wr t,d,j,cs,h,hc=>iP hid t d j cs h hc
 | .tree T E t,d,j,cs,h,hc=>by
  obtain ⟨u,rfl⟩:=List.length_eq_one_iff.1 (Rep.rd_len _ h)
  have hh:hv θ ⟨id,pth j⟩=u:=by
   have:=hc 0 u rfl
   rwa [Nat.add_zero] at this
  refine ⟨fun x hx=>?_,?_⟩
  ·cases au hx
   exact ⟨hid,by grind⟩
  ·show [hv θ ⟨id,pth j⟩] = [u]
   rw[hh]
def fj (id:Nat) (pth:Nat->List Nat):(t:Ty)->t.den->Nat->List LV
 | .int k,d,_=>[.val (.int k d)]
 | .bool,d,_=>[.val (.bool d)]
 | .str,d,_=>[.val (.string d)]
 | .raw,d,_=>[.val d.1]
 | .prod a b,d,j=>fj id pth a d.1 j++fj id pth b d.2 (j+a.size)
 | .sl _ _,_,j=>[.own ⟨id,pth j⟩]
 | .fro t,d,j=>lY id pth t d j
 | .bag t,_,j=>(List.range t.size).map fun i=>.own ⟨id,pth (j+i)⟩
 | .wr t,d,j=>fj id pth t d j
 | .tree _ _ _,_,j=>[.own ⟨id,pth j⟩]
def rh (id:Nat) (pth:Nat->List Nat):(t:Ty)->t.den->Nat->List (Hdr×Chk)
 | .prod a b,d,j=>rh id pth a d.1 j++rh id pth b d.2 (j+a.size)
 | .wr t,d,j=>rh id pth t d j
 | .tree T E t,d,j=>[(⟨id,pth j⟩,.own (.tree T E t) d)]
 | .sl E t,d,j=>[(⟨id,pth j⟩,.own (.sl E t) d)]
 | .bag (.sl E t),d,j=>[(⟨id,pth j⟩,.own (.bag (.sl E t)) d)]
 | _,_,_=>[]
section
variable {P:Program} {I J:Hp} {w0 w:World} {C:List Ch} {θ:Th} {n m:Nat}
theorem Ky {α β:Type} {A:Rep α} {B:Rep β} {cs:List Value} {x:α×β} (h:St I w0 w (Ch.own (aD A B) cs x::C)): ∃c d,cs=c++d/\c.length=A.size/\St I w0 w (Ch.own A c x.1::Ch.own B d x.2::C):=by
 obtain ⟨h1,h2,F,⟨G,K,rfl,⟨c,d,G1,G2,rfl,rfl,k1,k2⟩,e⟩,h4,h5⟩:=h
 exact ⟨c,d,rfl,A.own_len k1,h1,h2,(G1++G2)++K,⟨G1,G2++K,by grind,k1,G2,K,rfl,k2,e⟩,h4,h5⟩
theorem vS {α:Type} {enc:α->Value} {h1: ∀a,(enc a).oneCell'=true} {cs:List Value} {x:α} (h:St I w0 w (Ch.own (lr α enc h1) cs x::C)):cs= [enc x] /\St I w0 w C:=by
 obtain ⟨h1,h2,F,⟨G,K,rfl,⟨rfl,k⟩,e⟩,h4,h5⟩:=h
 exact ⟨k,h1,h2,K,e,h4,h5⟩
theorem R7 {id:Nat} {pth:Nat->List Nat} (hid:id<n) (t:Ty) (d:t.den) (j:Nat) (cs:List Value) (C:List Ch) (hc: ∀i v,cs[i]? =some v->vg (θ id) (pth (j+i))=v) (h:St J w0 w (Ch.own (Ty.bag t).rep cs d::C)) :
  (∀x∈fj id pth (.bag t) d j,x.ok P w0 J θ n)/\(fj id pth (.bag t) d j).map (·.v θ)=cs/\St J w0 w C:=by
  obtain ⟨h1,h2,F,⟨G,K,rfl,k,e⟩,h4,h5⟩:=h
  have hl:=((Ty.bag t).rep.own_len k).trans t.rep_size
  have ho:=(Ty.bag t).rep.own_one k
  have hst:St J w0 w C:=⟨h1,h2,K,e,(List.nodup_append.1 h4).2.1,fun b hb=>h5 b (bc _ hb)⟩
  have hat: ∀i (hi:i<cs.length),hv θ ⟨id,pth (j+i)⟩=cs[i]:=fun i hi=>hc i _ (List.getElem?_eq_getElem hi)
  refine ⟨fun x hx=>?_,?_,hst⟩
  ·obtain ⟨i,hi,rfl⟩:=List.mem_map.1 hx
   exact ⟨hid,by grind⟩
  ·show ((List.range t.size).map fun i=>LV.own ⟨id,pth (j+i)⟩).map (·.v θ)=cs
   rw[List.map_map,<-hl]
   refine List.ext_getElem (by simp) fun i h1 h2=>?_
   rw[List.getElem_map,List.getElem_range]
   exact hat i h2
theorem iQ {id:Nat} {pth:Nat->List Nat} (hid:id<n): ∀(t:Ty) (d:t.den) (j:Nat) (cs:List Value) (C:List Ch),(∀i v,cs[i]? =some v->vg (θ id) (pth (j+i))=v)->St J w0 w (Ch.own t.rep cs d::C)->
  (∀x∈fj id pth t d j,x.ok P w0 J θ n)/\(fj id pth t d j).map (·.v θ)=cs/\(∀g∈rh id pth t d j,g.1.id=id)/\St J w0 w (((rh id pth t d j).map fun g=>toCh P θ (g.1,m,g.2))++C)
 | .int k,d,j,cs,C,_,h=>by
  obtain ⟨rfl,h0⟩:=vS h
  exact ⟨fun x hx=>by cases au hx;rfl,rfl,fun g hg=>(by cases hg),h0⟩
 | .bool,d,j,cs,C,_,h=>by
  obtain ⟨rfl,h0⟩:=vS (h1:=fun _=>rfl) h
  exact ⟨fun x hx=>by cases au hx;rfl,rfl,fun g hg=>(by cases hg),h0⟩
 | .str,d,j,cs,C,_,h=>by
  obtain ⟨rfl,h0⟩:=vS (h1:=fun _=>rfl) h
  exact ⟨fun x hx=>by cases au hx;rfl,rfl,fun g hg=>(by cases hg),h0⟩
 | .raw,d,j,cs,C,_,h=>by
  obtain ⟨rfl,h0⟩:=vS (α:=Raw) (enc:=(·.1)) (h1:=(·.2)) h
  exact ⟨fun x hx=>by cases au hx;exact d.2,rfl,fun g hg=>(by cases hg),h0⟩
 | .prod a b,d,j,cs,C,hc,h=>by
  obtain ⟨c1,c2,rfl,hl,h⟩:=Ky h
  rw[a.rep_size] at hl
  have ⟨e1,e2,e3,e4⟩:=iQ hid a d.1 j c1 _ (fun i v hv=>hc i v (by grind)) h
  obtain ⟨k1,k2,k3,k4⟩:=iQ hid b d.2 (j+a.size) c2 _ (fun i v hv=>by
   have:=hc (a.size+i) v (by grind)
   rwa [show j+a.size+i=j+(a.size+i) from by omega]) (e4.perm List.perm_middle)
  refine ⟨fun x hx=>?_,?_,fun g hg=>?_,?_⟩
  ·rcases aH hx with hx | hx
   ·grind
   grind
  ·grind[fj]
  ·rcases aH hg with hg | hg
   ·grind
   grind
  ·show St J w0 w (((rh id pth a d.1 j++rh id pth b d.2 (j+a.size)).map _)++C)
   refine k4.perm ?_
   grind[aA,List.perm_append_comm_assoc]
 | .sl E t,d,j,cs,C,hc,h=>by
  have hone: ∃u,cs= [u] /\u.oneCell'=true:=by
   obtain ⟨h1,h2,F,⟨G,K,rfl,k,e⟩,h4,h5⟩:=h
   have hl:=(Ty.sl E t).rep.own_len k
   obtain ⟨u,rfl⟩:=List.length_eq_one_iff.1 hl
   exact ⟨u,rfl,(Ty.sl E t).rep.own_one k u (by simp)⟩
  obtain ⟨u,rfl,h1⟩:=hone
  have hh:hv θ ⟨id,pth j⟩=u:=by
   have:=hc 0 u rfl
   rwa [Nat.add_zero] at this
  refine ⟨fun x hx=>?_,?_,fun g hg=>?_,?_⟩
  ·cases au hx
   exact ⟨hid,by grind⟩
  ·show [hv θ ⟨id,pth j⟩] = [u]
   rw[hh]
  ·cases au hg;rfl
  ·show St J w0 w (Ch.own _ [hv θ ⟨id,pth j⟩] d::C)
   grind
 | .fro t,d,j,cs,C,hc,h=>by
  obtain ⟨h1,h2,F,⟨G,K,rfl,⟨rfl,k⟩,e⟩,h4,h5⟩:=h
  obtain ⟨e1,e2⟩:=iP (J:=J) hid t d j cs k hc
  exact ⟨e1,e2,fun g hg=>(by cases hg),h1,h2,K,e,h4,h5⟩
 | .wr t,d,j,cs,C,hc,hs=>iQ hid t d j cs C hc hs
 | .bag t,d,j,cs,C,hc,h=>by
  have key:=R7 (P:=P) hid t d j cs C hc h
  cases t with
  | sl E t =>
   have hone: ∃u,cs= [u] /\u.oneCell'=true:=by
    obtain ⟨h1,h2,F,⟨G,K,rfl,k,e⟩,h4,h5⟩:=h
    have hl:=(Ty.bag (.sl E t)).rep.own_len k
    obtain ⟨u,rfl⟩:=List.length_eq_one_iff.1 hl
    exact ⟨u,rfl,(Ty.bag (.sl E t)).rep.own_one k u (by simp)⟩
   obtain ⟨u,rfl,h1⟩:=hone
   have hh:hv θ ⟨id,pth j⟩=u:=by
    have:=hc 0 u rfl
    rwa [Nat.add_zero] at this
   refine ⟨fun x hx=>?_,?_,fun g hg=>?_,?_⟩
   ·cases au hx
    exact ⟨hid,by grind⟩
   ·show [hv θ ⟨id,pth j⟩] = [u]
    rw[hh]
   ·cases au hg;rfl
   ·show St J w0 w (Ch.own _ [hv θ ⟨id,pth j⟩] d::C)
    grind
  | _=>exact ⟨key.1,key.2.1,fun g hg=>(by cases hg),key.2.2⟩
 | .tree T E t,d,j,cs,C,hc,h=>by
  have hone: ∃u,cs= [u] /\u.oneCell'=true:=by
   obtain ⟨h1,h2,F,⟨G,K,rfl,k,e⟩,h4,h5⟩:=h
   have hl:=(Ty.tree T E t).rep.own_len k
   obtain ⟨u,rfl⟩:=List.length_eq_one_iff.1 hl
   exact ⟨u,rfl,(Ty.tree T E t).rep.own_one k u (by simp)⟩
  obtain ⟨u,rfl,h1⟩:=hone
  have hh:hv θ ⟨id,pth j⟩=u:=by
   have:=hc 0 u rfl
   rwa [Nat.add_zero] at this
  refine ⟨fun x hx=>?_,?_,fun g hg=>?_,?_⟩
  ·cases au hx
   exact ⟨hid,by grind⟩
  ·show [hv θ ⟨id,pth j⟩] = [u]
   rw[hh]
  ·cases au hg;rfl
  ·show St J w0 w (Ch.own _ [hv θ ⟨id,pth j⟩] d::C)
   grind
end
def Me (agg:Bool) (pre:List Nat):Nat->List Nat:=match agg with
 | true=>fun j=>pre++ [j]
 | false=>fun _=>pre
def kB (id:Nat) (pre:List Nat) (t:Ty) (d:t.den):Bool×List LV:=(t.isProd,fj id (Me t.isProd pre) t d 0)
def lE (id:Nat) (pre:List Nat) (t:Ty) (d:t.den):List (Hdr×Chk):=rh id (Me t.isProd pre) t d 0
def Gu (id:Nat):(i:Nat)->(ts:List Ty)->jj ts->List (Bool×List LV)
 | _,[],_=>[]
 | i,t::ts,d=>kB id [i] t d.1::Gu id (i+1) ts d.2
def yu (id:Nat):(i:Nat)->(ts:List Ty)->jj ts->List (Hdr×Chk)
 | _,[],_=>[]
 | i,t::ts,d=>lE id [i] t d.1++yu id (i+1) ts d.2
def Oh (y:Bool×List LV):AV:=match y with
 | (true,l)=>.agg l
 | (false,[x])=>.one x
 | _=>.und
def IF (id:Nat):(ts:List Ty)->jj ts->AV
 | [t],d=>Oh (kB id [] t d.1)
 | ts,d=>.tup (Gu id 0 ts d)
def vT (id:Nat):(ts:List Ty)->jj ts->List (Hdr×Chk)
 | [t],d=>lE id [] t d.1
 | ts,d=>yu id 0 ts d
theorem Kz: ∀p:List Nat,vg undef p=undef
 | [] =>rfl
 | i::l=>by
  exact Kz l
theorem KA: ∀(p q:List Nat) (v:Value),vg v (p++q)=vg (vg v p) q
 | [],q,v=>by rfl
 | i::p,q,v=>by
  cases v with
  | tuple vs=>exact KA p q _
  | agg cs=>exact KA p q _
  | func _ _ cs=>exact KA p q _
  | _=>exact (Kz q).symm
theorem U9 {cs:Array Value} {j:Nat} {v:Value} (h:cs.toList[j]? =some v):vg (.agg cs) [j] =v:=by
 show cs.getD j undef=v
 simp_all
theorem Ty.size_one: ∀ {t:Ty},t.isProd=false->t.size=1
 | .int _,_=>rfl
 | .bool,_=>rfl
 | .str,_=>rfl
 | .raw,_=>rfl
 | .prod _ _,h=>by cases h
 | .sl _ _,_=>rfl
 | .fro t,h=>Ty.size_one (t:=t) h
 | .wr _,h=>by cases h
 | .tree _ _ _,_=>rfl
 | .bag t,h=>Ty.size_one (t:=t) h
theorem sb {id:Nat} {pth:Nat->List Nat} : ∀ {t:Ty} {d:t.den} {j:Nat},t.isProd=false->(lY id pth t d j).length=1
 | .int _,_,_,_=>rfl
 | .bool,_,_,_=>rfl
 | .str,_,_,_=>rfl
 | .raw,_,_,_=>rfl
 | .prod _ _,_,_,h=>by cases h
 | .sl _ _,_,_,_=>rfl
 | .fro t,d,j,h=>sb (t:=t) h
 | .bag t,d,j,h=>sb (t:=t) h
 | .wr _,_,_,h=>by cases h
 | .tree _ _ _,_,_,_=>rfl
theorem sd {id:Nat} {pth:Nat->List Nat} {t:Ty} {d:t.den} {j:Nat} (h1:t.isProd=false):(fj id pth t d j).length=1:=by
 cases t with
 | prod a b=>cases h1
 | fro t=>exact sb (t:=t) h1
 | wr t=>cases h1
 | bag t =>
  show ((List.range t.size).map _).length=1
  rw[List.length_map,List.length_range]
  exact Ty.size_one h1
 | _=>rfl
def Gv:List Ty->Bool
 | [] =>true
 | t::ts=>t.dp&&Gv ts
section
variable {P:Program} {I J:Hp} {w0 w:World} {C:List Ch} {θ:Th} {n m:Nat}
theorem Eo {chs:List Ent} : ∀y:Bool×List LV,(y.1=false->y.2.length=1)->(∀x∈y.2,x.ok P w0 J θ n)->(Oh y).ok P w0 J θ n chs/\(Oh y).v θ=kt θ y:=by
 rintro ⟨b,l⟩ hl hx
 cases b with
 | true=>exact ⟨hx,rfl⟩
 | false =>
  obtain ⟨x,rfl⟩:=List.length_eq_one_iff.1 (hl rfl)
  exact ⟨hx x (by simp),rfl⟩
theorem vU {id:Nat} {pre:List Nat} (hid:id<n) {t:Ty} {d:t.den} {u:Value} (hu:hv θ ⟨id,pre⟩=u) (hg:oN u=t.isProd) (h:St J w0 w (Ch.own t.rep (ka t.isProd u) d::C)) :
  (∀x∈(kB id pre t d).2,x.ok P w0 J θ n)/\(kB id pre t d).2.map (·.v θ)=ka t.isProd u/\kt θ (kB id pre t d)=u/\(∀g∈lE id pre t d,g.1.id=id)/\St J w0 w (((lE id pre t d).map fun g=>toCh P θ (g.1,m,g.2))++C):=by
 have hu:vg (θ id) pre=u:=hu
 cases hb:t.isProd with
 | true =>
  rw[hb] at hg h
  cases u with
  | agg cs =>
   have ⟨k1,k2,k3,k4⟩:=iQ (P:=P) (m:=m) (θ:=θ) (pth:=Me true pre) hid t d 0 cs.toList C (fun i v hv=>by
    show vg (θ id) (pre++ [0+i])=v
    simp_all[KA,Nat.zero_add,U9]) h
   refine ⟨by grind[kB],by unfold kB;rw[hb];exact k2,?_,by grind[lE],by grind[lE]⟩
   simp_all[kB,kt,fj,Me]
  | _=>cases hg
 | false =>
  rw[hb] at hg h
  have ⟨k1,k2,k3,k4⟩:=iQ (P:=P) (m:=m) (θ:=θ) (pth:=Me false pre) hid t d 0 [u] C (fun i v hv=>by
   cases i with
   | zero=>exact hu.trans (by grind)
   | succ i=>grind) h
  refine ⟨by grind[kB],by unfold kB;rw[hb];exact k2,?_,by grind[lE],by grind[lE]⟩
  grind[kB,kt,fj,Me,undef,List.cons.inj]
theorem KB {id:Nat} (hid:id<n) {vs:Array Value} (hu:θ id= .tuple vs): ∀(ts:List Ty) (i:Nat) (d:jj ts) (C:List Ch),(∀j t,ts[j]? =some t->oN (vs.getD (i+j) undef)=t.isProd)->St J w0 w (xh i ts d (.tuple vs)++C)->
  (∀y∈Gu id i ts d,∀x∈y.2,x.ok P w0 J θ n)/\(Gu id i ts d).map (kt θ)=(List.range' i ts.length).map (fun j=>vs.getD j undef)/\(∀g∈yu id i ts d,g.1.id=id)/\St J w0 w (((yu id i ts d).map fun g=>toCh P θ (g.1,m,g.2))++C)
 | [],i,d,C,_,h=>⟨fun y hy=>(by cases hy),rfl,fun g hg=>(by cases hg),h⟩
 | t::ts,i,d,C,ha,h=>by
  obtain ⟨e1,-,e2,e3,e4⟩:=vU (P:=P) (m:=m) (θ:=θ) (pre:=[i]) (u:=vs.getD i undef) hid (by show vg (θ id) [i] =_;rw[hu];rfl) (ha 0 t rfl) h
  have ⟨k1,k2,k3,k4⟩:=KB hid hu ts (i+1) d.2 (((lE id [i] t d.1).map fun g=>toCh P θ (g.1,m,g.2))++C) (fun j t hj=>by
   have:=ha (j+1) t hj
   grind) (e4.perm (List.perm_append_comm_assoc _ _ _))
  refine ⟨fun y hy=>?_,?_,fun g hg=>?_,?_⟩
  ·rcases ax hy with rfl | hy
   ·exact e1
   grind
  ·show kt θ _::(Gu id (i+1) ts d.2).map _=_
   rw[e2,k2];rfl
  ·rcases aH hg with hg | hg
   ·grind
   grind
  ·show St J w0 w (((lE id [i] t d.1++yu id (i+1) ts d.2).map _)++C)
   refine k4.perm ?_
   grind[aA,List.perm_append_comm_assoc]
theorem KD {id:Nat} (hid:id<n) {chs:List Ent} {v:Value} (hu:θ id=v): ∀(ts:List Ty) (d:jj ts) (C:List Ch),resFa ts v->St J w0 w (resGv ts d v++C)->
  (IF id ts d).ok P w0 J θ n chs/\(IF id ts d).v θ=v/\(∀g∈vT id ts d,g.1.id=id)/\St J w0 w (((vT id ts d).map fun g=>toCh P θ (g.1,m,g.2))++C):=by
 intro ts d C hf h
 have tup: ∀vs,v= .tuple vs->vs.size=ts.length->(∀i t,ts[i]? =some t->oN (vs.getD i undef)=t.isProd)->St J w0 w (xh 0 ts d v++C)->
   (AV.tup (Gu id 0 ts d)).ok P w0 J θ n chs/\(AV.tup (Gu id 0 ts d)).v θ=v/\(∀g∈yu id 0 ts d,g.1.id=id)/\St J w0 w (((yu id 0 ts d).map fun g=>toCh P θ (g.1,m,g.2))++C):=by
  rintro vs rfl hsz ha h
  have ⟨k1,k2,k3,k4⟩:=KB (P:=P) (m:=m) hid hu ts 0 d C (fun j t hj=>by grind) h
  refine ⟨k1,?_,k3,k4⟩
  show Value.tuple ((Gu id 0 ts d).map (kt θ)).toArray=_
  congr 1
  apply Array.ext'
  apply List.ext_getElem?
  intro i
  by_cases hi:i<ts.length
  ·simp_all
  ·grind
 match ts,d,hf,h,tup with
 | [t],d,hf,h,_ =>
  obtain ⟨k1,-,k2,k3,k4⟩:=vU (P:=P) (m:=m) (θ:=θ) (pre:=[]) hid (show hv θ ⟨id,[]⟩=v from hu) hf h
  obtain ⟨q1,q2⟩:=Eo _ (fun e=>sd e) k1
  exact ⟨q1,q2.trans k2,k3,k4⟩
 | [],d,hf,h,tup=>have ⟨vs,h1,h2,h3⟩:=hf;exact tup vs h1 h2 h3 h
 | _::_::_,d,hf,h,tup=>have ⟨vs,h1,h2,h3⟩:=hf;exact tup vs h1 h2 h3 h
end
end R
namespace R
open Go.RowKit
open D
section
variable {P:Program} {I:Hp} {w0 w:World} {o:Oper} {ev:Operand->Value}
theorem Oi {ls rn cs:List Ch} (h:St I w0 w (ls++(rn++cs))): ∃J,I.le J/\(∀ {α:Type} (R:Rep α) (v:List Value) (a:α),Ch.own R v a∈ls->R.rd J v a)/\(∀g l E,Ch.blk g l E∈ls->J g=some (.cells l.toArray E (0,0)))/\St J w0 w (rn++ [Ch.fr I cs]) /\
  ∀w' ds,Ch.deeps ds->St J w0 w' (ds++ [Ch.fr I cs])->St I w0 w' (ds++(ls++cs)):=by
 have ⟨hb,hi,F,h1,h2,h3⟩:=h
 obtain ⟨G,K,rfl,e2,e3⟩:=h1.split
 have ⟨n1,n2,n3⟩:=List.nodup_append.1 h2
 let J:=fun b=>if b∈G then w.heap[b]? else I b
 have hIJ:I.le J:=fun b o hb'=>by
  grind
 have hJG: ∀b,b∈G->J b=w.heap[b]? :=fun b hb'=>if_pos hb'
 have hJn: ∀b,b∉G->J b=I b:=fun b hb'=>if_neg hb'
 have hmem: ∀ {ls:List Ch} {G:List Nat} {c:Ch},Sep I ls w G->c∈ls-> ∃G',(∀b,b∈G'->b∈G)/\c.holds I w G':=by
  intro ls
  induction ls with
  | nil=>grind
  | cons d ls ih =>
   rintro G c ⟨G1,K1,rfl,e,e'⟩ hc
   grind
 obtain ⟨K1,K2,rfl,g1,g2⟩:=e3.split
 refine ⟨J,hIJ,fun R v a hm=>?_,fun g l E hm=>?_,⟨hb,fun b o hb'=>?_,K1++K2,(g1.mono hIJ).append ⟨K2,[],by simp,g2,rfl⟩,n2,fun b hb'=>?_⟩,?_⟩
 ·have ⟨G',f1,f2⟩:=hmem e2 hm
  exact R.own_rd f2 hIJ fun b hb=>hJG b (f1 b hb)
 ·have ⟨G',f1,f2,f3⟩:=hmem e2 hm
  grind
 ·by_cases hg:b∈G
  ·rw[hJG b hg] at hb';exact hb'
  ·rw[hJn b hg] at hb';exact hi b o hb'
 ·grind
 ·rintro w' ds hd ⟨kb,ki,F',k1,k2,k3⟩
  obtain ⟨F1,F2,rfl,q1,F3,F4,rfl,q4,rfl⟩:=k1.split
  have hl2:=e2.live
  have hlv: ∀b,b∈G->w'.heap[b]? =w.heap[b]? :=fun b hg=>by
   have ⟨o,ho⟩: ∃o,w.heap[b]? =some o:=⟨_,Array.getElem?_eq_getElem (hl2 b hg)⟩
   rw[ho]
   exact ki b o (by grind)
  refine ⟨kb,hIJ.trans ki,F1++(G++F3),(q1.deeps hd).append ((e2.stay hlv).append q4),?_,fun b hb'=>?_⟩
  ·grind
  grind
theorem vV {ls rn:List Ch} {fact:Value->Prop} {gv:Value->List Ch} (hd: ∀v,Ch.deeps (gv v))
  (h: ∀J,I.le J->(∀ {α:Type} (R:Rep α) (v:List Value) (a:α),Ch.own R v a∈ls->R.rd J v a)->(∀g l E,Ch.blk g l E∈ls->J g=some (.cells l.toArray E (0,0)))->OpT P J w0 o ev rn fact gv):OpT P I w0 o ev (ls++rn) fact (fun v=>ls++gv v):=by
 intro w C hs
 rw[aA] at hs
 have ⟨J,h1,h2,h3,h4,h5⟩:=Oi hs
 refine (h J h1 h2 h3 w _ h4).imp fun v w' hv=>⟨hv.1,?_⟩
 have:=h5 w' _ (hd v) hv.2
 refine this.perm ?_
 grind[aA,List.perm_append_comm_assoc]
end
def Va (chs:List Ent) (E:TypeId) (t:Ty) (x:LV):Option (List t.den×List Hdr):=match x with
 | .own h=>(rowOf h chs).bind fun q=>(my (.sl q.E q.t) (.sl E t) q.xs).bind fun d=>some (d,[h])
 | x=>(R3 E t x).bind fun d=>some (d,[])
structure TreeE where
 ver:Nat
 T:TypeId
 E:TypeId
 t:Ty
 d:Tr t.den
 rest:List Ent
def Gw (h:Hdr) (chs:List Ent):Option TreeE:=(pull h chs).bind fun r=>match r.1.2.2 with
 | .own (.tree T E t) d=>bL (Co h r.2) (some ⟨r.1.2.1,T,E,t,d,r.2⟩)
 | _=>none
def TreeE.ent (r:TreeE) (h:Hdr):Ent:=(h,r.ver,.own (.tree r.T r.E r.t) r.d)
theorem Oj {h:Hdr} {chs:List Ent} {r:TreeE} (e:Gw h chs=some r):chs.Perm (r.ent h::r.rest)/\ ∀e∈r.rest,e.1≠h:=by
 have ⟨q,hq,e⟩:=bind_some e
 have ⟨p,k⟩:=fa hq
 have ⟨⟨h',ver,c⟩,rest⟩:=q
 obtain rfl:h'=h:=k
 cases c with
 | own t' d =>
  cases t' with
  | tree T E t =>
   have ⟨hn,e⟩:=aj (show bL (Co h' rest) _=some r from e)
   cases ad e
   exact ⟨p,fun e he=>oO hn he⟩
  | _=>cases e
 | _=>cases e
def gN (chs:List Ent):(t:Ty)->List LV->Option (t.den×List LV×List Hdr)
 | .prod a b,l=>(gN chs a l).bind fun x=>(gN chs b x.2.1).bind fun y=>some ((x.1,y.1),y.2.1,x.2.2++y.2.2)
 | .sl E t,l=>match l with
  | x::r=>(Va chs E t x).bind fun q=>some (q.1,r,q.2)
  | [] =>none
 | .fro t,l=>gN chs t l
 | .bag t,l=>gN chs t l
 | .wr t,l=>gN chs t l
 | .int k,l=>(cP (.int k) l).bind fun x=>some (x.1,x.2,[])
 | .bool,l=>(cP .bool l).bind fun x=>some (x.1,x.2,[])
 | .str,l=>(cP .str l).bind fun x=>some (x.1,x.2,[])
 | .raw,_=>none
 | .tree T E t,l=>match l with
  | .own h::r=>(Gw h chs).bind fun q=>(my (.tree q.T q.E q.t) (.tree T E t) q.d).bind fun d=>some (d,r,[h])
  | l=>(cP (.tree T E t) l).bind fun x=>some (x.1,x.2,[])
def YM (h:Hdr) (chs:List Ent):Option Blk:=(rO h chs).bind fun b=>bL (Co h b.rest) (some b)
theorem Ol {h:Hdr} {chs:List Ent} {b:Blk} (k:YM h chs=some b):rO h chs=some b/\ ∀e∈b.rest,e.1≠h:=by
 have ⟨b',hb,k⟩:=bind_some k
 have ⟨h1,k⟩:=aj k
 cases ad k
 exact ⟨hb,fun e he=>oO h1 he⟩
def Lent (J:Hp) (θ:Th) (chs:List Ent) (hs:List Hdr):Prop:= ∀h∈hs,(∀q,rowOf h chs=some q->(Ty.sl q.E q.t).rep.rd J [hv θ h] q.xs)/\(∀q,Gw h chs=some q->(Ty.tree q.T q.E q.t).rep.rd J [hv θ h] q.d)/\ ∀b,YM h chs=some b->J (bk (hv θ h))=some (.cells (b.cells.map (·.v θ)).toArray b.T (0,0))
theorem Lent.l {J:Hp} {θ:Th} {chs:List Ent} {a b:List Hdr} (h:Lent J θ chs (a++b)):Lent J θ chs a:=fun x hx=>h x (aZ _ hx)
theorem Lent.r {J:Hp} {θ:Th} {chs:List Ent} {a b:List Hdr} (h:Lent J θ chs (a++b)):Lent J θ chs b:=fun x hx=>h x (bc _ hx)
theorem qA {P:Program} {w0:World} {J:Hp} {θ:Th} {n:Nat} {chs:List Ent} : ∀ {t:Ty} {cs:List LV} {r:t.den×List LV×List Hdr},gN chs t cs=some r->(∀x∈cs,x.ok P w0 J θ n)->Lent J θ chs r.2.2-> ∃c1,cs=c1++r.2.1/\t.rep.rd J (c1.map (·.v θ)) r.1:=by
 intro t
 induction t with
 | prod a b iha ihb =>
  intro cs r h hc hl
  have ⟨x,hx,h⟩:=bind_some (show (gN chs a cs).bind _=some r from h)
  have ⟨y,hy,h⟩:=bind_some h
  cases ad h
  obtain ⟨c1,rfl,k1⟩:=iha hx hc hl.l
  have ⟨c2,e2,k2⟩:=ihb hy (fun z hz=>hc z (bc _ hz)) hl.r
  exact ⟨c1++c2,by grind,c1.map (·.v θ),c2.map (·.v θ),by grind,k1,k2⟩
 | sl E t ih =>
  intro cs r h hc hl
  cases cs with
  | nil=>cases h
  | cons x l =>
   have ⟨q,hq,h⟩:=bind_some (show (Va chs E t x).bind _=some r from h)
   cases ad h
   refine ⟨[x],rfl,?_⟩
   cases x with
   | own h' =>
    have ⟨z,hz,hq⟩:=bind_some (show (rowOf h' chs).bind _=some q from hq)
    have ⟨d,hd,hq⟩:=bind_some hq
    cases ad hq
    exact gy hd ((hl h' (by simp)).1 z hz)
   | rd h2 t2 d2 =>
    have ⟨d,hd,hq⟩:=bind_some (show (R3 E t (.rd h2 t2 d2)).bind _=some q from hq)
    cases ad hq
    exact Ar hd (hc _ (by simp))
   | val v =>
    have ⟨d,hd,hq⟩:=bind_some (show (R3 E t (.val v)).bind _=some q from hq)
    cases ad hq
    exact Ar hd (hc _ (by simp))
   | nb _=>cases (show none=some q from hq)
   | ptr _ _=>cases (show none=some q from hq)
   | fn _ _ _ _=>cases (show none=some q from hq)
   | fz _ _ _ _ _=>cases (show none=some q from hq)
   | fzf _ _ _ _ _=>cases (show none=some q from hq)
   | rdn _ _ _ _=>cases (show none=some q from hq)
 | fro t ih =>
  intro cs r h hc hl
  exact ih (show gN chs t cs=some r from h) hc hl
 | bag t ih =>
  intro cs r h hc hl
  exact ih (show gN chs t cs=some r from h) hc hl
 | wr t ih =>
  intro cs r h hc hl
  exact ih (show gN chs t cs=some r from h) hc hl
 | int k =>
  intro cs r h hc hl
  have ⟨x,hx,h⟩:=bind_some (show (cP _ cs).bind _=some r from h)
  cases ad h
  exact fx hx hc
 | bool =>
  intro cs r h hc hl
  have ⟨x,hx,h⟩:=bind_some (show (cP _ cs).bind _=some r from h)
  cases ad h
  exact fx hx hc
 | raw =>
  intro cs r h hc hl
  cases (show none=some r from h)
 | str =>
  intro cs r h hc hl
  have ⟨x,hx,h⟩:=bind_some (show (cP _ cs).bind _=some r from h)
  cases ad h
  exact fx hx hc
 | tree T E t ih =>
  intro cs r h hc hl
  have old:((cP (.tree T E t) cs).bind fun x=>some (x.1,x.2,([] :List Hdr)))=some r-> ∃c1,cs=c1++r.2.1/\(Ty.tree T E t).rep.rd J (c1.map (·.v θ)) r.1:=fun h=>by
   have ⟨x,hx,h⟩:=bind_some h
   cases ad h
   exact fx hx hc
  cases cs with
  | nil=>exact old h
  | cons x l =>
   cases x with
   | own h' =>
    have ⟨q,hq,h⟩:=bind_some (show (Gw h' chs).bind _=some r from h)
    have ⟨d,hd,h⟩:=bind_some h
    cases ad h
    exact ⟨[.own h'],rfl,gy hd ((hl h' (by simp)).2.1 q hq)⟩
   | _=>exact old h
def Az (chs:List Ent) (t:Ty) (v:AV):Option (t.den×List Hdr):=match v,t.isProd with
 | .agg cs,true=>(gN chs t cs).bind fun r=>bL r.2.1.isEmpty (some (r.1,r.2.2))
 | .one x,false=>(gN chs t [x]).bind fun r=>bL r.2.1.isEmpty (some (r.1,r.2.2))
 | _,_=>none
theorem Gx {P:Program} {w0:World} {J:Hp} {θ:Th} {n:Nat} {chs:List Ent} {t:Ty} {v:AV} {r:t.den×List Hdr} (h:Az chs t v=some r) (hv':v.ok P w0 J θ n chs) (hl:Lent J θ chs r.2): ∃cs,Lds t.isProd cs (v.v θ)/\t.rep.rd J cs r.1:=by
 unfold Az at h
 split at h
 ·rename_i cs hb
  have ⟨q,hq,h⟩:=bind_some h
  have ⟨he,h⟩:=aj h
  cases ad h
  have ⟨c1,e,k⟩:=qA hq hv' hl
  rw[List.isEmpty_iff.1 he,List.append_nil] at e
  subst e
  exact ⟨_,by rw[hb];rfl,k⟩
 ·rename_i x hb
  have ⟨q,hq,h⟩:=bind_some h
  have ⟨he,h⟩:=aj h
  cases ad h
  have ⟨c1,e,k⟩:=qA hq (fun y hy=>by cases au hy;exact hv') hl
  rw[List.isEmpty_iff.1 he,List.append_nil] at e
  subst e
  exact ⟨_,by rw[hb];rfl,k⟩
 grind
def Gy (ps rs ps' rs':List Ty) (e:cur ps (Option (dens rs))):Option (cur ps' (Option (dens rs'))):=if h:ps=ps'/\rs=rs' then some (h.1 ▸ h.2 ▸ e) else none
theorem Gz {ps rs ps' rs':List Ty} {e:cur ps (Option (dens rs))} {e':cur ps' (Option (dens rs'))} (h:Gy ps rs ps' rs' e=some e') {P:Program} {w0:World} {J:Hp} {v:Value} (hf:FnOk P w0 J v ps rs e):FnOk P w0 J v ps' rs' e':=by
 grind[Gy,ad]
structure FnR (a b:List Ty) where
 e:cur a (Option (dens b))
 lent:List Hdr
structure CapR (p:PM) where
 d:p.den
 lent:List Hdr
section
variable (ft:FT) (chs:List Ent)
def W4 (rec:(a b:List Ty)->LV->Option (FnR a b)):(p:PM)->LV->Option (CapR p)
 | .cap T t,x=>match x with
  | .ptr h off=>bL (Nat.beq off 0) ((YM h chs).bind fun b=>bL (Nat.beq b.T T) ((gN chs t b.cells).bind fun r=>bL r.2.1.isEmpty (some ⟨r.1,h::r.2.2⟩)))
  | .fz h T' t' d off=>bL (Nat.beq off 0&&Nat.beq T' T) ((my t' t d).bind fun d=>some ⟨d,[]⟩)
  | _=>none
 | .capf T a b,x=>match x with
  | .ptr h off=>bL (Nat.beq off 0) ((YM h chs).bind fun bl=>bL (Nat.beq bl.T T) (match bl.cells with
   | [y] =>(rec a b y).bind fun r=>some ⟨r.e,h::r.lent⟩
   | _=>none))
  | .fzf h T' a' b' e=>bL (Nat.beq T' T) ((Gy a' b' a b e).bind fun e=>some ⟨e,[]⟩)
  | _=>none
 | _,_=>none
def Om (rec:(a b:List Ty)->LV->Option (FnR a b)):(qs:List PM)->List LV->Option (denP qs×List Hdr)
 | [],[] =>some ((),[])
 | q::qs,x::xs=>(W4 chs rec q x).bind fun r=>(Om rec qs xs).bind fun s=>some ((r.d,s.1),r.lent++s.2)
 | _,_=>none
def IG:(ts:List Ty)->List (Bool×List LV)->Option (jj ts×List Hdr)
 | [],[] =>some ((),[])
 | t::ts,y::ys=>bL (y.1==t.isProd) ((gN chs t y.2).bind fun r=>bL (r.2.1.isEmpty&&(y.1 || Nat.beq y.2.length 1)) ((IG ts ys).bind fun q=>some ((r.1,q.1),r.2.2++q.2)))
 | _,_=>none
end
def W5:List PM->Option (List Ty)
 | [] =>some []
 | .rd t::ps=>(W5 ps).bind fun ts=>some (t::ts)
 | _=>none
def rds:List Ty->List PM->List PM
 | [],qs=>qs
 | t::ts,qs=>.rd t::rds ts qs
def W6:(ts:List Ty)->(qs:List PM)->jj ts->denP qs->denP (rds ts qs)
 | [],_,_,e=>e
 | _::ts,qs,d,e=>(d.1,W6 ts qs d.2 e)
def W7 {R:Type} :(a:List Ty)->(jj a->R)->cur a R
 | [],g=>g ()
 | _::a,g=>fun x=>W7 a fun d=>g (x,d)
theorem GA {R:Type} : ∀(a:List Ty) (g:jj a->R) (d:jj a),app a (W7 a g) d=g d
 | [],_,_=>rfl
 | _::a,g,d=>GA a (fun x=>g (d.1,x)) d.2
def R8:PM->Bool
 | .cap _ _=>true
 | .capf _ _ _=>true
 | _=>false
def vW:List PM->Bool
 | [] =>true
 | p::ps=>R8 p&&vW ps
def Zj (chs:List Ent) (rec:(a b:List Ty)->LV->Option (FnR a b)) (a b:List Ty) (f:FS) (r1:List Ty) (qs:List PM) (first:List (Bool×List LV)) (capt:List LV):Option (FnR a b):=
 if h:f.ps=rds r1 (rds a qs)/\f.rs++outs f.ps=b then
  (IG chs r1 first).bind fun d1=>(Om chs rec qs capt).bind fun dc =>
   some ⟨W7 a fun x=>h.2 ▸ appP f.ps f.m (h.1 ▸ W6 r1 (rds a qs) d1.1 (W6 a qs x dc.1)),d1.2++dc.2⟩
 else none
def aaI (ft:FT) (chs:List Ent) (rec:(a b:List Ty)->LV->Option (FnR a b)) (a b:List Ty) (k:FuncId) (first:List (Bool×List LV)) (capt:List LV):Option (FnR a b):=(fs ft k).bind fun f=>(W5 (f.ps.take first.length)).bind fun r1 =>
 bL (!f.ov&&vW (f.ps.drop (first.length+a.length))) (Zj chs rec a b f r1 (f.ps.drop (first.length+a.length)) first capt)
def On (h:Hdr) (chs:List Ent):Option (FuncId×List (Bool×List LV)×List LV):=(pull h chs).bind fun r=>match r.1.2.2 with
 | .clo k first capt=>some (k,first,capt)
 | _=>none
def W8 (ft:FT) (chs:List Ent):Nat->(a b:List Ty)->LV->Option (FnR a b)
 | 0,_,_,_=>none
 | n+1,a,b,x=>match x with
  | .fn h a' b' e=>(Gy a' b' a b e).bind fun e=>some ⟨e,[]⟩
  | .own h=>(On h chs).bind fun q=>aaI ft chs (W8 ft chs n) a b q.1 q.2.1 q.2.2
  | .val v=>match v with
   | .func (.func k) f c=>bL (f.toList.isEmpty&&c.toList.isEmpty) (aaI ft chs (W8 ft chs n) a b k [] [])
   | _=>none
  | _=>none
section
variable {P:Program} {w0:World} {J J':Hp} {θ:Th} {n:Nat} {chs chs0:List Ent} {ft:FT}
theorem GB: ∀(rs us:List Ty) (i:Nat) (d:jj (rs++us)) (v:Value),us= [] ->xh i (rs++us) d v=xh i rs (hFst rs us d) v
 | [],us,i,d,v,h=>by subst h;rfl
 | t::rs,us,i,d,v,h=>by
  show Ch.own _ _ _::xh (i+1) (rs++us) d.2 v=Ch.own _ _ _::xh (i+1) rs (hFst rs us d.2) v
  rw[GB rs us (i+1) d.2 v h];rfl
theorem Oo (rs us:List Ty) (d:jj (rs++us)) (v:Value) (h:us= []):resGv (rs++us) d v=resGv rs (hFst rs us d) v:=by
 match rs,d with
 | [],d=>subst h;rfl
 | [t],d=>subst h;rfl
 | t::u::rs,d=>exact GB (t::u::rs) us 0 d v h
theorem Oq (rs us:List Ty) (v:Value) (h:us= []):resFa rs v->resFa (rs++us) v:=by
 grind
theorem Ep {qs:List PM} : ∀ts:List Ty,outs (rds ts qs)=outs qs
 | [] =>rfl
 | _::ts=>Ep ts
theorem R9 {qs:List PM} :vW qs=true->outs qs= []:=by
 induction qs with
 | nil=>intro _;rfl
 | cons q qs ih =>
  intro h
  have h:(R8 q&&vW qs)=true:=h
  rw[ai] at h
  cases q with
  | cap _ _=>exact ih h.2
  | capf _ _ _=>exact ih h.2
  | _=>cases h.1
theorem Er {γ:Value} {qs:List PM} : ∀(ts:List Ty) (vs us:List Value) (d:jj ts) (e:denP qs),vs.length=ts.length->owCh γ (rds ts qs) (vs++us) (W6 ts qs d e)=owCh γ qs us e
 | [],[],us,d,e,_=>rfl
 | _::ts,v::vs,us,d,e,h=>Er ts vs us d.2 e (by grind)
 | [],_::_,_,_,_,h=>by cases h
 | _::_,[],_,_,_,h=>by cases h
theorem Sa {γ:Value} {qs:List PM} : ∀(us:List Value) (e:denP qs),vW qs=true->owCh γ qs us e= []:=by
 induction qs with
 | nil=>intro us e _;rfl
 | cons q qs ih =>
  intro us e h
  cases us with
  | nil=>rfl
  | cons u us =>
   have h:(R8 q&&vW qs)=true:=h
   rw[ai] at h
   cases q with
   | cap _ _=>exact ih us e.2 h.2
   | capf _ _ _=>exact ih us e.2 h.2
   | _=>cases h.1
theorem GC {γ:Value} {qs:List PM} {us:List Value} : ∀(ts:List Ty) (vs:List Value),vs.length=ts.length->vW qs=true-> ∀d:jj (outs (rds ts qs)),outCh γ (rds ts qs) (vs++us) d= []
 | [],[],_,h=>fun d=>by
  have key: ∀ {qs:List PM} (us:List Value) (d:jj (outs qs)),vW qs=true->outCh γ qs us d= []:=by
   intro qs
   induction qs with
   | nil=>intro us d _;rfl
   | cons q qs ih =>
    intro us d h
    cases us with
    | nil=>rfl
    | cons u us =>
     have h:(R8 q&&vW qs)=true:=h
     rw[ai] at h
     cases q with
     | cap _ _=>exact ih us d h.2
     | capf _ _ _=>exact ih us d h.2
     | _=>cases h.1
  exact key us d h
 | _::ts,v::vs,hl,h=>fun d=>GC ts vs (by grind) h d
 | [],_::_,h,_=>by cases h
 | _::_,[],h,_=>by cases h
theorem AA {γ:Value} {qs:List PM} {us:List Value} {e:denP qs} (h:PArgs P w0 J γ qs us e): ∀ {ts:List Ty} {vs:List Value} {d:jj ts},NT J ts vs d->PArgs P w0 J γ (rds ts qs) (vs++us) (W6 ts qs d e)/\vs.length=ts.length
 | [],vs,d,hr=>by
  subst hr
  exact ⟨h,rfl⟩
 | t::ts,vs,d,hr=>by
  obtain ⟨v,cs,r,rfl,k1,k2,k3⟩:=hr
  have ⟨q1,q2⟩:=AA h k3
  exact ⟨⟨v,r++us,rfl,⟨cs,k1,k2⟩,q1⟩,by grind⟩
theorem KE {h:Hdr} {b:Blk} (k:YM h chs=some b) (hc: ∀e∈chs,okE P w0 J θ n chs0 e):okE P w0 J θ n chs0 (b.ent h):=hc _ ((kA (Ol k).1).mem_iff.2 (List.mem_cons_self ..))
theorem Sb {rec:(a b:List Ty)->LV->Option (FnR a b)} (hrec: ∀a b x r,rec a b x=some r->x.ok P w0 J θ n->Lent J' θ chs r.lent->FnOk P w0 J' (x.v θ) a b r.e) (hJ:J.le J') (hc: ∀e∈chs,okE P w0 J θ n chs0 e) {p:PM} {x:LV} {r:CapR p} (h:W4 chs rec p x=some r) (hx:x.ok P w0 J θ n) (hl:Lent J' θ chs r.lent):abl P w0 J' undef p (x.v θ) r.d:=by
 cases p with
 | cap T t =>
  cases x with
  | ptr hh off =>
   have ⟨ho,h⟩:=aj (show bL (Nat.beq off 0) _=some r from h)
   have ⟨b,hb,h⟩:=bind_some h
   have ⟨hT,h⟩:=aj h
   have ⟨q,hq,h⟩:=bind_some h
   have ⟨he,h⟩:=aj h
   cases ad h
   cases al ho
   have hT:=al hT
   have hk:=(hl hh (by simp)).2.2 b hb
   have hbo:=KE (P:=P) (w0:=w0) (J:=J) (n:=n) hb hc
   have ⟨c1,e1,k⟩:=qA (J:=J') hq (fun x hx=>LV.ok_same Same.rfl (aF _) (hbo.2.2 x hx) hJ) (fun y hy=>hl y (by grind))
   exact ⟨_,rfl,_,by grind,k⟩
  | fz hh T' t' d off =>
   have ⟨ho,h⟩:=aj (show bL (Nat.beq off 0&&Nat.beq T' T) _=some r from h)
   rw[ai] at ho
   have ⟨d',hd,h⟩:=bind_some h
   cases ad h
   cases al ho.1
   cases al ho.2
   have ⟨h1,cells,h2,h3⟩:=hx
   exact ⟨_,rfl,cells,hJ _ _ h2,gy hd (Rep.rd_mono _ h3 hJ)⟩
  | _=>cases h
 | capf T a b =>
  cases x with
  | ptr hh off =>
   have ⟨ho,g1⟩:=aj (show bL (Nat.beq off 0) _=some r from h)
   have ⟨bl,hb,g2⟩:=bind_some g1
   have ⟨hT,g3⟩:=aj g2
   cases al ho
   have hT:=al hT
   have hbo:=KE (P:=P) (w0:=w0) (J:=J) (n:=n) hb hc
   split at g3
   ·rename_i y hy
    have ⟨q,hq,g4⟩:=bind_some g3
    cases ad g4
    have hk:=(hl hh (by simp)).2.2 bl hb
    exact ⟨_,rfl,_,by grind,hrec a b y q hq (hbo.2.2 y (by grind)) fun z hz=>hl z (by grind)⟩
   grind
  | fzf hh T' a' b' e =>
   have ⟨ho,h⟩:=aj (show bL (Nat.beq T' T) _=some r from h)
   have ⟨e',he,h⟩:=bind_some h
   cases ad h
   cases al ho
   have ⟨h1,u,h2,h3⟩:=hx
   exact ⟨_,rfl,u,hJ _ _ h2,(Gz he h3).mono hJ⟩
  | _=>cases h
 | _=>cases h
theorem GD {rec:(a b:List Ty)->LV->Option (FnR a b)} (hrec: ∀a b x r,rec a b x=some r->x.ok P w0 J θ n->Lent J' θ chs r.lent->FnOk P w0 J' (x.v θ) a b r.e) (hJ:J.le J') (hc: ∀e∈chs,okE P w0 J θ n chs0 e): ∀ {qs:List PM} {xs:List LV} {r:denP qs×List Hdr},Om chs rec qs xs=some r->(∀x∈xs,x.ok P w0 J θ n)->Lent J' θ chs r.2->PArgs P w0 J' undef qs (xs.map (·.v θ)) r.1
 | [],[],r,h,_,_=>by rfl
 | q::qs,x::xs,r,h,hx,hl=>by
  have ⟨a,ha,h⟩:=bind_some (show (W4 chs rec q x).bind _=some r from h)
  have ⟨s,hs,h⟩:=bind_some h
  cases ad h
  exact ⟨_,_,rfl,Sb hrec hJ hc ha (hx x (by simp)) hl.l,GD hrec hJ hc hs (fun y hy=>hx y (by grind)) hl.r⟩
 | [],_::_,r,h,_,_=>by cases h
 | _::_,[],r,h,_,_=>by cases h
theorem C9 (hJ:J.le J'): ∀ {ts:List Ty} {ys:List (Bool×List LV)} {r:jj ts×List Hdr},IG chs ts ys=some r->(∀y∈ys,∀x∈y.2,x.ok P w0 J θ n)->Lent J' θ chs r.2->NT J' ts (ys.map (kt θ)) r.1
 | [],[],r,h,_,_=>by rfl
 | t::ts,y::ys,r,h,hy,hl=>by
  have ⟨hg,h⟩:=aj (show bL (y.1==t.isProd) _=some r from h)
  have ⟨a,ha,h⟩:=bind_some h
  have ⟨he,h⟩:=aj h
  have ⟨q,hq,h⟩:=bind_some h
  cases ad h
  have hg:y.1=t.isProd:=by simpa using hg
  have ⟨c1,e1,k⟩:=qA (J:=J') ha (fun x hx=>LV.ok_same Same.rfl (aF _) (hy y (by simp) x hx) hJ) hl.l
  refine ⟨_,y.2.map (·.v θ),_,rfl,?_,by grind,C9 hJ hq (fun z hz=>hy z (by grind)) hl.r⟩
  have ⟨yb,yl⟩:=y
  subst hg
  cases hb:t.isProd with
  | true=>rfl
  | false =>
   have hlen:yl.length=1:=al (by grind)
   obtain ⟨x,rfl⟩:=List.length_eq_one_iff.1 hlen
   rfl
 | [],_::_,r,h,_,_=>by cases h
 | _::_,[],r,h,_,_=>by cases h
theorem Ot (hF:FTok P ft) (hlay:Lay P J) {rec:(a b:List Ty)->LV->Option (FnR a b)} (hrec: ∀a b x r,rec a b x=some r->x.ok P w0 J θ n-> ∀J',J.le J'->Lent J' θ chs r.lent->FnOk P w0 J' (x.v θ) a b r.e) (hJ:J.le J') (hc: ∀e∈chs,okE P w0 J θ n chs0 e) {a b:List Ty} {k:FuncId} {first:List (Bool×List LV)} {capt:List LV} {r:FnR a b} (h:aaI ft chs rec a b k first capt=some r)
  (h1: ∀y∈first,∀x∈y.2,x.ok P w0 J θ n) (h2: ∀x∈capt,x.ok P w0 J θ n) (hl:Lent J' θ chs r.lent):FnOk P w0 J' (.func (.func k) (first.map (kt θ)).toArray (capt.map (·.v θ)).toArray) a b r.e:=by
 have ⟨f,hf,h⟩:=bind_some h
 have ⟨r1,hr1,h⟩:=bind_some h
 have ⟨hcap,h⟩:=aj h
 rw[ai] at hcap
 have hov:f.ov=false:=by simpa using hcap.1
 replace hcap:=hcap.2
 have hfo:=hF.get hf
 have hen:=hfo.en hov
 have hcn:=hfo.con hov
 generalize f.ps.drop (first.length+a.length)=qs at h hcap
 unfold Zj at h
 split at h
 ·rename_i hh
  have ⟨d1,hd1,h⟩:=bind_some h
  have ⟨dc,hdc,h⟩:=bind_some h
  cases ad h
  obtain ⟨ps,rs,m⟩:=f
  have ⟨e1,e2⟩:=hh
  simp only at e1 e2
  subst e1
  subst e2
  refine ⟨k,_,_,rfl,hen,fun J2 hJ2 args d hargs q hq=>?_⟩
  have hl2:Lent J2 θ chs (d1.2++dc.2):=fun x hx=>⟨fun z hz=>Rep.rd_mono _ ((hl x hx).1 z hz) hJ2,fun z hz=>Rep.rd_mono _ ((hl x hx).2.1 z hz) hJ2,fun z hz=>hJ2 _ _ ((hl x hx).2.2 z hz)⟩
  have k1:=C9 (hJ.trans hJ2) hd1 h1 hl2.l
  have k2:=GD (fun a b x r hr hx hlx=>hrec a b x r hr hx J2 (hJ.trans hJ2) hlx) (hJ.trans hJ2) hc hdc h2 hl2.r
  have ⟨k3,k4⟩:=AA k2 hargs
  have ⟨k5,k6⟩:=AA k3 k1
  rw[GA] at hq
  have hcon:=hcn w0 J2 undef _ _ q (hlay.mono (hJ.trans hJ2)) k5 hq
  have hou:outs (rds r1 (rds a qs))= []:=by rw[Ep,Ep];exact R9 hcap
  have how:owCh undef (rds r1 (rds a qs)) ((first.map (kt θ))++(args++capt.map (·.v θ))) (W6 r1 (rds a qs) d1.1 (W6 a qs d dc.1))= []:=by
   rw[Er _ _ _ _ _ k6,Er _ _ _ _ _ k4];exact Sa _ _ hcap
  have hout: ∀z,outCh undef (rds r1 (rds a qs)) ((first.map (kt θ))++(args++capt.map (·.v θ))) z= []:=by
   intro z
   have hrd: ∀(x y:List Ty),rds x (rds y qs)=rds (x++y) qs:=by
    intro x y
    induction x with
    | nil=>rfl
    | cons t x ih=>exact congrArg (PM.rd t:: ·) ih
   have key: ∀(X:List PM),X=rds (r1++a) qs-> ∀z:jj (outs X),outCh undef X ((first.map (kt θ))++(args++capt.map (·.v θ))) z= []:=by
    rintro X rfl z
    rw[<-aA]
    exact GC (r1++a) _ (by grind) hcap z
   exact key _ (hrd r1 a) z
  rw[how] at hcon
  intro w C hS
  have hS':=hcon w C hS
  grind[kt,Oq,Oo,outs,rds,toH]
 grind
theorem Sc {h:Hdr} {q:FuncId×List (Bool×List LV)×List LV} (k:On h chs=some q): ∃ver,(h,ver,Chk.clo q.1 q.2.1 q.2.2)∈chs:=by
 have ⟨r,hr,k⟩:=bind_some k
 have ⟨p,e⟩:=fa hr
 grind
theorem II (hF:FTok P ft) (hlay:Lay P J) (hc: ∀e∈chs,okE P w0 J θ n chs0 e): ∀ {m:Nat} {a b:List Ty} {x:LV} {r:FnR a b},W8 ft chs m a b x=some r->x.ok P w0 J θ n-> ∀J',J.le J'->Lent J' θ chs r.lent->FnOk P w0 J' (x.v θ) a b r.e
 | 0,_,_,_,_,h,_,_,_,_=>by cases h
 | m+1,a,b,x,r,h,hx,J',hJ,hl=>by
  have hrec: ∀a b x r,W8 ft chs m a b x=some r->x.ok P w0 J θ n-> ∀J',J.le J'->Lent J' θ chs r.lent->FnOk P w0 J' (x.v θ) a b r.e:=fun a b x r h hx J' hJ hl=>II hF hlay hc h hx J' hJ hl
  cases x with
  | fn hh a' b' e =>
   have ⟨e',he,h⟩:=bind_some (show (Gy a' b' a b e).bind _=some r from h)
   cases ad h
   exact (Gz he hx.2).mono hJ
  | own hh =>
   have ⟨q,hq,h⟩:=bind_some (show (On hh chs).bind _=some r from h)
   have ⟨ver,hm⟩:=Sc hq
   obtain ⟨-,-,k1,k2,k3⟩:=hc _ hm
   have:=Ot hF hlay hrec hJ hc h k1 k2 hl
   show FnOk P w0 J' (hv θ hh) a b r.e
   grind
  | val v =>
   cases v with
   | func fk f c =>
    cases fk with
    | func k =>
     have ⟨he,h⟩:=aj (show bL (f.toList.isEmpty&&c.toList.isEmpty) (aaI ft chs (W8 ft chs m) a b k [] [])=some r from h)
     rw[ai,List.isEmpty_iff,List.isEmpty_iff] at he
     have:=Ot hF hlay hrec hJ hc h (fun y hy=>by cases hy) (fun y hy=>by cases hy) hl
     have e1:f= #[]:=by simpa using he.1
     have e2:c= #[]:=by simpa using he.2
     subst e1
     subst e2
     exact this
    | _=>cases h
   | _=>cases h
  | _=>cases h
end
def Es:List Hdr->List Ent->Option (List Ent×List Ent)
 | [],chs=>some ([],chs)
 | h::hs,chs=>(pull h chs).bind fun r=>(Es hs r.2).bind fun q=>some (r.1::q.1,q.2)
theorem xm: ∀ {hs:List Hdr} {chs:List Ent} {r:List Ent×List Ent},Es hs chs=some r->chs.Perm (r.1++r.2)/\r.1.map (·.1)=hs
 | [],chs,r,h=>by cases ad (show some _=some r from h);simp_all
 | h'::hs,chs,r,h=>by
  have ⟨q,hq,h⟩:=bind_some (show (pull h' chs).bind _=some r from h)
  have ⟨q2,hq2,h⟩:=bind_some h
  cases ad h
  have ⟨p1,e1⟩:=fa hq
  have ⟨p2,e2⟩:=xm hq2
  exact ⟨p1.trans (p2.cons _),by grind⟩
def acw (h:Hdr) (l:List Hdr):Bool:=l.any fun x=>Hdr.beq x h
def IJ:List Hdr->List Hdr->List Hdr
 | [],_=>[]
 | h::hs,acc=>if acw h acc then IJ hs acc else h::IJ hs (h::acc)
theorem AB {h:Hdr} : ∀ {hs acc:List Hdr},h∈hs->h∈IJ hs acc\/h∈acc
 | x::hs,acc,hm=>by
  unfold IJ
  split
  ·rename_i hh
   rcases ax hm with rfl | hm
   ·have ⟨y,hy,he⟩:=List.any_eq_true.1 hh
    grind[Hdr.beq_eq]
   ·exact AB hm
  ·rcases ax hm with rfl | hm
   ·grind
   ·rcases AB (acc:=x::acc) hm with h1 | h1
    ·grind
    grind
end R
namespace R
open Go.RowKit
open D
def nU:AV->Bool
 | .agg _=>true
 | _=>false
theorem AC {v:AV} {cs:List LV} (h:lD v=some cs) {P:Program} {w0:World} {J:Hp} {θ:Th} {n:Nat} {chs:List Ent} (hv':v.ok P w0 J θ n chs) {b:Bool} (hb:nU v=b):ka b (v.v θ)=cs.map (·.v θ)/\oN (v.v θ)=b:=by
 subst hb
 cases v with
 | agg xs =>
  cases ad (show some xs=some cs from h)
  exact ⟨rfl,rfl⟩
 | one x =>
  cases ad (show some [x] =some cs from h)
  refine ⟨rfl,?_⟩
  have h1:=LV.one (show LV.ok P w0 J θ n x from hv')
  show oN (x.v θ)=false
  generalize x.v θ=u at h1
  cases u <;> first | rfl | cases h1
 | _=>cases h
def AD (h:Hdr) (T:TypeId) (t:Ty) (chs:List Ent):Option (t.den×List Ent×List Ent):=(pull h chs).bind fun r=>match r.1.2.2 with
 | .box T' t' d=>bL (Nat.beq T' T) ((oM t' t d).bind fun d=>some (d,[r.1],r.2))
 | .blk T' cells=>bL (Nat.beq T' T) ((cQ t cells r.2).bind fun q=>bL q.cells.isEmpty (some (q.d,r.1::q.used,q.rest)))
 | _=>none
theorem W9 {I:Hp} {w:World} {F:List Nat} {ls:List Ch} {α:Type} {R:Rep α} {b:Nat} {T:TypeId} {cells:List Value} {d:α} (h:Sep I (Ch.blk b cells T::ls) w F) (k:Bun I ls R cells d):(Ch.box b T R d).holds I w F:=by
 obtain ⟨G,K,rfl,⟨rfl,h1⟩,h2⟩:=h
 exact ⟨cells,K,rfl,h1,k w K h2⟩
section
variable {P:Program} {w0:World} {J J':Hp} {θ θ':Th} {n m:Nat} {chs chs0:List Ent}
theorem yw {h:Hdr} {T:TypeId} {t:Ty} {chs:List Ent} {q:t.den×List Ent×List Ent} (k:AD h T t chs=some q):chs.Perm (q.2.1++q.2.2):=by
 have ⟨r,hr,k⟩:=bind_some k
 have ⟨p,e⟩:=fa hr
 have ⟨⟨h',ver,c⟩,rest⟩:=r
 cases c with
 | box T' t' d =>
  have ⟨hT,k⟩:=aj (show bL (Nat.beq T' T) _=some q from k)
  have ⟨d',hd,k⟩:=bind_some k
  grind
 | blk T' cells =>
  have ⟨hT,k⟩:=aj (show bL (Nat.beq T' T) _=some q from k)
  have ⟨q',hq,k⟩:=bind_some k
  have ⟨he,k⟩:=aj k
  cases ad k
  exact p.trans ((eM hq).cons _)
 | _=>cases k
theorem Da {h:Hdr} {T:TypeId} {t:Ty} {q:t.den×List Ent×List Ent} (k:AD h T t chs=some q) (hJ:J.le J') (hc: ∀e∈chs,okE P w0 J θ n chs0 e):chs.Perm (q.2.1++q.2.2)/\ ∀w F,Sep J' (q.2.1.map (toCh P θ)) w F->(Ch.box (bk (hv θ h)) T t.rep q.1).holds J' w F:=by
 have ⟨r,hr,k⟩:=bind_some k
 have ⟨p,e⟩:=fa hr
 have ⟨⟨h',ver,c⟩,rest⟩:=r
 obtain rfl:h'=h:=e
 cases c with
 | box T' t' d =>
  have ⟨hT,k⟩:=aj (show bL (Nat.beq T' T) _=some q from k)
  have ⟨d',hd,k⟩:=bind_some k
  cases ad k
  cases al hT
  obtain ⟨rfl,rfl⟩:=pL hd
  refine ⟨p,fun w F hs=>?_⟩
  obtain ⟨G,K,rfl,h1,rfl⟩:=hs
  rw[List.append_nil];exact h1
 | blk T' cells =>
  have ⟨hT,k⟩:=aj (show bL (Nat.beq T' T) _=some q from k)
  have ⟨q',hq,k⟩:=bind_some k
  have ⟨he,k⟩:=aj k
  cases ad k
  cases al hT
  have hok:=hc _ (p.mem_iff.2 (List.mem_cons_self ..))
  have ⟨p2,c1,e1,e2⟩:=gX (J:=J') (P:=P) (w0:=w0) (θ:=θ) (n:=n) hq fun x hx=>LV.ok_same Same.rfl (aF _) (hok.2.2 x hx) hJ
  rw[List.isEmpty_iff.1 he,List.append_nil] at e1
  subst e1
  exact ⟨p.trans (p2.cons _),fun w F hs=>W9 hs e2⟩
 | _=>cases k
structure CurQ where
 g:Hdr
 d:List Int×Int×Int
 ent:Ent
 rest:List Ent
def uU (h:Hdr) (T E:TypeId) (chs:List Ent):Option CurQ:=(pull h chs).bind fun r=>match r.1.2.2 with
 | .blk T' [.rd g t xs,.val (.int .i64 x),.val (.int .i64 y)] =>bL (Nat.beq T' T) ((oM t (.sl E (.int .u8)) xs).bind fun xs=>some ⟨g,(xs,x,y),r.1,r.2⟩)
 | _=>none
theorem nR {h:Hdr} {T E:TypeId} {chs:List Ent} {q:CurQ} (k:uU h T E chs=some q):chs.Perm (q.ent::q.rest)/\ ∃ver,q.ent=(h,ver,.blk T [.rd q.g (.sl E (.int .u8)) q.d.1,.val (.int .i64 q.d.2.1),.val (.int .i64 q.d.2.2)]):=by
 have ⟨r,hr,k2⟩:=bind_some k
 have ⟨p,e⟩:=fa hr
 split at k2
 ·have ⟨hT,k3⟩:=aj k2
  have ⟨xs',hx,k4⟩:=bind_some k3
  grind[ad,al,pL]
 grind
inductive GhQ
 | cur (h:Hdr) (xs:List Int)
 | box (h:Hdr)
def GhQ.v (θ:Th):GhQ->Value
 | .cur h _=>hv θ h
 | .box h=>.pointer (some ⟨bk (hv θ h),0,none⟩)
def ac4 (h:Hdr) (chs:List Ent):Option (FuncId×Hdr):=(On h chs).bind fun q=>match q with
 | (k,[],[.ptr hb off])=>if Nat.beq off 0 then some (k,hb) else none
 | _=>none
structure Args (ps:List PM) where
 d:denP ps
 lent:List Hdr
 own:List Ent
 rest:List Ent
 gh:Option GhQ
def fy (ft:FT) (s:Sg):(chs:List Ent)->(ps:List PM)->List AV->Option (Args ps)
 | chs,[],[] =>some ⟨(),[],[],chs,none⟩
 | chs,.rd t::ps,v::xs=>(Az s.chs t v).bind fun a=>(fy ft s chs ps xs).bind fun r=>some ⟨(a.1,r.d),a.2++r.lent,r.own,r.rest,r.gh⟩
 | chs,.ow t::ps,v::xs=>bL (nU v==t.isProd) ((lD v).bind fun cs=>(cQ t cs chs).bind fun q=>bL q.cells.isEmpty ((fy ft s q.rest ps xs).bind fun r=>some ⟨(q.d,r.d),r.lent,q.used++r.own,r.rest,r.gh⟩))
 | chs,.eat t::ps,v::xs=>bL (nU v==t.isProd) ((lD v).bind fun cs=>(cQ t cs chs).bind fun q=>bL q.cells.isEmpty ((fy ft s q.rest ps xs).bind fun r=>some ⟨(q.d,r.d),r.lent,q.used++r.own,r.rest,r.gh⟩))
 | chs,.fn a b::ps,x::xs=>match x with
  | .one y=>(W8 ft s.chs 4 a b y).bind fun q=>(fy ft s chs ps xs).bind fun r=>some ⟨(q.e,r.d),q.lent++r.lent,r.own,r.rest,r.gh⟩
  | _=>none
 | chs,.fk g::ps,x::xs=>match x with
  | .one (.val (.func (.func k) f c))=>bL (Nat.beq k g&&f.toList.isEmpty&&c.toList.isEmpty) ((fy ft s chs ps xs).bind fun r=>some ⟨((),r.d),r.lent,r.own,r.rest,r.gh⟩)
  | _=>none
 | chs,.ptr T t::ps,x::xs=>match x with
  | .one (.ptr h off)=>bL (Nat.beq off 0) ((AD h T t chs).bind fun q=>(fy ft s q.2.2 ps xs).bind fun r=>some ⟨(q.1,r.d),r.lent,q.2.1++r.own,r.rest,r.gh⟩)
  | _=>none
 | chs,.crs T E::ps,x::xs=>match x with
  | .one (.ptr h off)=>bL (Nat.beq off 0) ((uU h T E chs).bind fun q=>(fy ft s q.rest ps xs).bind fun r=>bL r.gh.isNone (some ⟨(q.d,r.d),r.lent,q.ent::r.own,r.rest,some (.cur q.g q.d.1)⟩))
  | _=>none
 | _,_,_=>none
theorem gY {ft:FT} {s:Sg} (hF:FTok P ft) (hf:Fine P w0 J θ s) (hJ:J.le J'): ∀ {ps:List PM} {xs:List AV} {chs:List Ent} {r:Args ps},fy ft s chs ps xs=some r->(∀x∈xs,x.ok P w0 J θ s.nxt s.chs)->(∀e∈chs,e∈s.chs)->Lent J' θ s.chs r.lent-> ∀γ,(∀q,r.gh=some q->γ=q.v θ)->
  PArgs P w0 J' γ ps (xs.map (·.v θ)) r.d/\chs.Perm (r.own++r.rest)/\rX J' (r.own.map (toCh P θ)) (owCh γ ps (xs.map (·.v θ)) r.d)
 | [],[],chs,r,h,_,_,_,γ,hγ=>by
  cases ad (show some _=some r from h)
  exact ⟨Eq.refl _,List.Perm.refl _,vK⟩
 | .rd t::ps,x::xs,chs,r,h,hx,hc,hl,γ,hγ=>by
  have ⟨a,ha,h⟩:=bind_some (show (Az s.chs t x).bind _=some r from h)
  have ⟨q,hq,h⟩:=bind_some h
  cases ad h
  have ⟨k1,k2,k3⟩:=gY hF hf hJ hq (fun y hy=>hx y (by grind)) hc hl.r γ hγ
  have ⟨cs,c1,c2⟩:=Gx ha (AV.ok_same Same.rfl (aF _) Newer.rfl (hx x (by simp)) hJ) hl.l
  exact ⟨⟨_,_,rfl,⟨cs,c1,c2⟩,k1⟩,k2,k3⟩
 | .ow t::ps,x::xs,chs,r,h,hx,hc,hl,γ,hγ=>by
  have ⟨hg,h⟩:=aj (show bL (nU x==t.isProd) _=some r from h)
  have hg:nU x=t.isProd:=by simpa using hg
  have ⟨cs,hcs,h⟩:=bind_some h
  have ⟨q,hq,h⟩:=bind_some h
  have ⟨he,h⟩:=aj h
  have ⟨r',hr,h⟩:=bind_some h
  cases ad h
  have hvo:=hx x (by simp)
  have ⟨c1,c2⟩:=AC hcs hvo hg
  have hok:=(iO hcs (AV.ok_same Same.rfl (aF _) Newer.rfl hvo hJ)).1
  have ⟨p,cc,e1,e2⟩:=gX (J:=J') (θ:=θ) hq hok
  rw[List.isEmpty_iff.1 he,List.append_nil] at e1
  subst e1
  have ⟨k1,k2,k3⟩:=gY hF hf hJ hr (fun y hy=>hx y (by grind)) (fun e h=>hc e (p.mem_iff.2 (by simp[h]))) hl γ hγ
  refine ⟨⟨_,_,rfl,c2,k1⟩,by rw[aA];exact p.trans (k2.append_left _),?_⟩
  show rX J' ((q.used++r'.own).map _) (Ch.own t.rep (ka t.isProd (x.v θ)) q.d::_)
  rw[aS,c1]
  exact rY e2 k3
 | .eat t::ps,x::xs,chs,r,h,hx,hc,hl,γ,hγ=>by
  have ⟨hg,h⟩:=aj (show bL (nU x==t.isProd) _=some r from h)
  have hg:nU x=t.isProd:=by simpa using hg
  have ⟨cs,hcs,h⟩:=bind_some h
  have ⟨q,hq,h⟩:=bind_some h
  have ⟨he,h⟩:=aj h
  have ⟨r',hr,h⟩:=bind_some h
  cases ad h
  have hvo:=hx x (by simp)
  have ⟨c1,c2⟩:=AC hcs hvo hg
  have hok:=(iO hcs (AV.ok_same Same.rfl (aF _) Newer.rfl hvo hJ)).1
  have ⟨p,cc,e1,e2⟩:=gX (J:=J') (θ:=θ) hq hok
  rw[List.isEmpty_iff.1 he,List.append_nil] at e1
  subst e1
  have ⟨k1,k2,k3⟩:=gY hF hf hJ hr (fun y hy=>hx y (by grind)) (fun e h=>hc e (p.mem_iff.2 (by simp[h]))) hl γ hγ
  refine ⟨⟨_,_,rfl,c2,k1⟩,by rw[aA];exact p.trans (k2.append_left _),?_⟩
  show rX J' ((q.used++r'.own).map _) (Ch.own t.rep (ka t.isProd (x.v θ)) q.d::_)
  rw[aS,c1]
  exact rY e2 k3
 | .fn a b::ps,x::xs,chs,r,h,hx,hc,hl,γ,hγ=>by
  unfold fy at h
  split at h
  ·rename_i y
   have ⟨q,hq,h⟩:=bind_some h
   have ⟨r',hr,h⟩:=bind_some h
   cases ad h
   have ⟨k1,k2,k3⟩:=gY hF hf hJ hr (fun z hz=>hx z (by grind)) hc hl.r γ hγ
   exact ⟨⟨_,_,rfl,II hF hf.lay hf.chs hq (show LV.ok P w0 J θ s.nxt y from hx (.one y) (by simp)) J' hJ hl.l,k1⟩,k2,k3⟩
  grind
 | .ptr T t::ps,x::xs,chs,r,h,hx,hc,hl,γ,hγ=>by
  unfold fy at h
  split at h
  ·have ⟨ho,h⟩:=aj h
   have ⟨q,hq,h⟩:=bind_some h
   have ⟨r',hr,h⟩:=bind_some h
   cases ad h
   cases al ho
   have ⟨p,hb⟩:=Da (P:=P) (w0:=w0) (J:=J) (J':=J') (θ:=θ) (n:=s.nxt) (chs0:=s.chs) hq hJ fun e he=>hf.chs e (hc e he)
   have ⟨k1,k2,k3⟩:=gY hF hf hJ hr (fun y hy=>hx y (by grind)) (fun e h=>hc e (p.mem_iff.2 (by simp[h]))) hl γ hγ
   refine ⟨⟨_,_,rfl,⟨_,rfl⟩,k1⟩,by rw[aA];exact p.trans (k2.append_left _),?_⟩
   rw[aS]
   intro w F hs
   obtain ⟨G,K,rfl,h1,h2⟩:=hs.split
   exact ⟨G,K,rfl,hb w G h1,k3 w K h2⟩
  grind
 | .fk g::ps,x::xs,chs,r,h,hx,hc,hl,γ,hγ=>by
  unfold fy at h
  split at h
  ·have ⟨hk,h⟩:=aj h
   have ⟨r',hr,h⟩:=bind_some h
   cases ad h
   have ⟨k1,k2,k3⟩:=gY hF hf hJ hr (fun z hz=>hx z (by grind)) hc hl γ hγ
   rw[ai,ai] at hk
   have ⟨⟨hk1,hk2⟩,hk3⟩:=hk
   cases al hk1
   have ef:=Array.ext' (List.isEmpty_iff.1 hk2)
   have ec:=Array.ext' (List.isEmpty_iff.1 hk3)
   subst ef;subst ec
   exact ⟨⟨_,_,rfl,rfl,k1⟩,k2,k3⟩
  grind
 | .crs T E::ps,x::xs,chs,r,h,hx,hc,hl,γ,hγ=>by
  unfold fy at h
  split at h
  ·have ⟨ho,h⟩:=aj h
   have ⟨q,hq,h⟩:=bind_some h
   have ⟨r',hr,h⟩:=bind_some h
   have ⟨hn,h⟩:=aj h
   cases ad h
   cases al ho
   have hg:=hγ _ rfl
   subst hg
   have ⟨p,ver,he⟩:=nR hq
   have hok:=hf.chs _ (hc _ (p.mem_iff.2 (List.mem_cons_self ..)))
   rw[he] at hok
   have hrd:LV.ok P w0 J θ s.nxt (.rd q.g (.sl E (.int .u8)) q.d.1):=hok.2.2 _ (by simp)
   have ⟨k1,k2,k3⟩:=gY hF hf hJ hr (fun z hz=>hx z (by grind)) (fun e h=>hc e (p.mem_iff.2 (by simp[h]))) hl (hv θ q.g) (fun q' hq'=>by grind)
   refine ⟨⟨_,_,rfl,⟨⟨_,rfl⟩,Rep.rd_mono _ hrd.2 hJ⟩,k1⟩,p.trans (k2.cons _),?_⟩
   rw[he]
   intro w F hs
   obtain ⟨G,K,rfl,h1,h2⟩:=hs
   exact ⟨G,K,rfl,h1,k3 w K h2⟩
  grind
 | .cap _ _::_,_::_,_,_,h,_,_,_,_,_=>by cases h
 | .capf _ _ _::_,_::_,_,_,h,_,_,_,_,_=>by cases h
 | [],_::_,_,r,h,_,_,_,_,_=>by cases h
 | .rd _::_,[],_,r,h,_,_,_,_,_=>by cases h
 | .ow _::_,[],_,r,h,_,_,_,_,_=>by cases h
 | .eat _::_,[],_,r,h,_,_,_,_,_=>by cases h
 | .fn _ _::_,[],_,r,h,_,_,_,_,_=>by cases h
 | .ptr _ _::_,[],_,r,h,_,_,_,_,_=>by cases h
 | .cap _ _::_,[],_,_,h,_,_,_,_,_=>by cases h
 | .capf _ _ _::_,[],_,_,h,_,_,_,_,_=>by cases h
 | .fk _::_,[],_,_,h,_,_,_,_,_=>by cases h
 | .crs _ _::_,[],_,_,h,_,_,_,_,_=>by cases h
def zn:List PM->Bool
 | [] =>true
 | .ow t::ps=>t.dp&&zn ps
 | .ptr _ t::ps=>t.dp&&zn ps
 | _::ps=>zn ps
def AE:(t:Ty)->t.den->List LV->List (Hdr×Chk)
 | .prod a b,d,cs=>AE a d.1 (cs.take a.size)++AE b d.2 (cs.drop a.size)
 | .wr t,d,cs=>AE t d cs
 | .sl E t,d,cs=>match cs with
  | .own h::_=>[(h,.own (.sl E t) d)]
  | _=>[]
 | _,_,_=>[]
def ny (gh:Option GhQ):(ps:List PM)->List AV->jj (outs ps)->List (Hdr×Chk)
 | .ow t::ps,x::xs,d=>((lD x).elim [] fun cs=>AE t d.1 cs)++ny gh ps xs d.2
 | .ptr T t::ps,x::xs,d=>(match x with
  | .one (.ptr h _)=>[(h,.box T t d.1)]
  | _=>[])++ny gh ps xs d.2
 | .rd _::ps,_::xs,d=>ny gh ps xs d
 | .eat _::ps,_::xs,d=>ny gh ps xs d
 | .fn _ _::ps,_::xs,d=>ny gh ps xs d
 | .cap _ _::ps,_::xs,d=>ny gh ps xs d
 | .capf _ _ _::ps,_::xs,d=>ny gh ps xs d
 | .fk _::ps,_::xs,d=>ny gh ps xs d
 | .crs T E::ps,x::xs,d=>(match x,gh with
  | .one (.ptr h _),some (.cur g l)=>[(h,.blk T [.rd g (.sl E (.int .u8)) l,.val (.int .i64 d.1.1),.val (.int .i64 d.1.2)])]
  | _,_=>[])++ny gh ps xs d.2
 | _,_,_=>[]
def Sd:Chk->Prop
 | .own _ _=>True
 | .box _ _ _=>True
 | _=>False
theorem uV {g:Hdr×Chk} {ver:Nat} (h:Sd g.2) (h1:g.1.id<n) (h2:ver<n):okE P w0 J θ n chs (g.1,ver,g.2):=by
 have ⟨a,c⟩:=g
 cases c with
 | own _ _=>exact ⟨h1,h2,trivial⟩
 | box _ _ _=>exact ⟨h1,h2,trivial⟩
 | _=>exact h.elim
def Zk (P:Program) (w0:World) (J:Hp) (θ:Th) (n:Nat) (c:Chk):Prop:=Sd c\/ ∃T cells,c= .blk T cells/\ ∀x∈cells,LV.ok P w0 J θ n x
theorem KF {g:Hdr×Chk} {ver m:Nat} (h:Zk P w0 J θ m g.2) (hm:m<=n) (h1:g.1.id<n) (h2:ver<n):okE P w0 J θ n chs (g.1,ver,g.2):=by
 rcases h with h | ⟨T,cells,h,hc⟩
 ·exact uV h h1 h2
 ·have ⟨a,c⟩:=g
  obtain rfl:c=_:=h
  exact ⟨h1,h2,fun x hx=>LV.ok_same Same.rfl hm (hc x hx) Hp.le.rfl⟩
theorem Se {w:World} : ∀ {t:Ty} {d:t.den} {cs:List LV} {C:List Ch},St J w0 w (Ch.own t.rep (cs.map (·.v θ)) d::C)->(∀x∈cs,x.ok P w0 J θ' n)->(∀x∈cs,x.v θ'=x.v θ)->
  St J w0 w ((AE t d cs).map (fun g=>toCh P θ' (g.1,m,g.2))++C)/\ ∀g∈AE t d cs,Sd g.2/\g.1.id<n:=by
 intro t
 induction t with
 | prod a b iha ihb =>
  intro d cs C h hc hv0
  have ⟨c1,c2,e,hl,h⟩:=Ky h
  rw[a.rep_size] at hl
  have e1:c1=(cs.take a.size).map (·.v θ):=by
   simp_all
  have e2:c2=(cs.drop a.size).map (·.v θ):=by
   grind[List.map_drop,List.drop_left]
  rw[e1,e2] at h
  have ⟨k1,k2⟩:=iha h (fun x hx=>hc x (List.mem_of_mem_take hx)) fun x hx=>hv0 x (List.mem_of_mem_take hx)
  have ⟨k3,k4⟩:=ihb (k1.perm List.perm_middle) (fun x hx=>hc x (List.mem_of_mem_drop hx)) fun x hx=>hv0 x (List.mem_of_mem_drop hx)
  refine ⟨?_,fun g hg=>?_⟩
  ·show St J w0 w ((AE a d.1 _++AE b d.2 _).map _++C)
   refine k3.perm ?_
   grind[aA,List.perm_append_comm_assoc]
  ·rcases aH hg with hg | hg
   ·grind
   grind
 | wr t ih =>
  intro d cs C h hc hv0
  exact ih h hc hv0
 | sl E t ih =>
  intro d cs C h hc hv0
  cases cs with
  | nil=>exact ⟨h.tail,fun g hg=>by cases hg⟩
  | cons x l =>
   cases x with
   | own hh =>
    have hone:l= []:=by
     obtain ⟨h1,h2,F,⟨G,K,rfl,k,e⟩,h4,h5⟩:=h
     have:=(Ty.sl E t).rep.own_len k
     have h3:((LV.own hh::l).map (·.v θ)).length=1:=this
     simpa using h3
    subst hone
    refine ⟨?_,fun g hg=>?_⟩
    ·have:=hv0 (.own hh) (by simp)
     show St J w0 w (Ch.own _ [hv θ' hh] d::C)
     rw[show hv θ' hh=hv θ hh from this];exact h
    ·cases au hg
     exact ⟨trivial,(hc (.own hh) (by simp)).1⟩
   | _=>exact ⟨h.tail,fun g hg=>by cases hg⟩
 | _ =>
  intro d cs C h hc hv0
  exact ⟨h.tail,fun g hg=>by cases hg⟩
theorem nz {w:World} {s:Sg} (hf:Fine P w0 J θ s) (hs:Same s.nxt θ θ') (hm:s.nxt<=m) {γ:Value} {gh:Option GhQ} : ∀ {ps:List PM} {xs:List AV} {ft:FT} {chs:List Ent} {r:Args ps} (d:jj (outs ps)) {C:List Ch},fy ft s chs ps xs=some r->(∀x∈xs,x.ok P w0 J θ s.nxt s.chs)->(∀e∈chs,e∈s.chs)->(∀q,r.gh=some q->gh=some q/\γ=q.v θ)->St J w0 w (outCh γ ps (xs.map (·.v θ)) d++C)->
  St J w0 w ((ny gh ps xs d).map (fun g=>toCh P θ' (g.1,m,g.2))++C)/\ ∀g∈ny gh ps xs d,Zk P w0 J θ' m g.2/\g.1.id<s.nxt
 | [],[],ft,chs,r,d,C,h,hx,hc,hγ,hst=>⟨hst,fun g hg=>by cases hg⟩
 | .rd t::ps,x::xs,ft,chs,r,d,C,h,hx,hc,hγ,hst=>by
  have ⟨a,ha,h⟩:=bind_some (show (Az s.chs t x).bind _=some r from h)
  have ⟨q,hq,h⟩:=bind_some h
  cases ad h
  exact nz hf hs hm (ps:=ps) d hq (fun y hy=>hx y (by grind)) hc hγ hst
 | .ow t::ps,x::xs,ft,chs,r,d,C,h,hx,hc,hγ,hst=>by
  have ⟨hg,h⟩:=aj (show bL (nU x==t.isProd) _=some r from h)
  have hg:nU x=t.isProd:=by simpa using hg
  have ⟨cs,hcs,h⟩:=bind_some h
  have ⟨q,hq,h⟩:=bind_some h
  have ⟨he,h⟩:=aj h
  have ⟨r',hr,h⟩:=bind_some h
  cases ad h
  have hvo:=hx x (by simp)
  have ⟨c1,c2⟩:=AC hcs hvo hg
  have hok:=(iO hcs hvo).1
  have hst:St J w0 w (Ch.own t.rep (ka t.isProd (x.v θ)) d.1::(outCh γ ps (xs.map (·.v θ)) d.2++C)):=hst
  rw[c1] at hst
  have ⟨k1,k2⟩:=Se (P:=P) (θ':=θ') (n:=s.nxt) (m:=m) hst (fun x hx=>LV.ok_same hs (aF _) (hok x hx) Hp.le.rfl) fun x hx=>LV.v_same hs (hok x hx)
  have ⟨k3,k4⟩:=nz hf hs hm (ps:=ps) d.2 hr (fun y hy=>hx y (by grind)) (fun e he=>hc e ((eM hq).mem_iff.2 (by grind))) hγ (k1.perm (List.perm_append_comm_assoc _ _ _))
  have hbk:ny gh (.ow t::ps) (x::xs) d=AE t d.1 cs++ny gh ps xs d.2:=by
   show ((lD x).elim [] fun cs=>AE t d.1 cs)++_=_
   rw[hcs];rfl
  rw[hbk]
  refine ⟨?_,fun g hg=>?_⟩
  ·refine k3.perm ?_
   grind[aA,List.perm_append_comm_assoc]
  ·rcases aH hg with hg | hg
   ·exact ⟨.inl (k2 g hg).1,(k2 g hg).2⟩
   grind
 | .eat t::ps,x::xs,ft,chs,r,d,C,h,hx,hc,hγ,hst=>by
  have ⟨hg,h⟩:=aj (show bL (nU x==t.isProd) _=some r from h)
  have ⟨cs,hcs,h⟩:=bind_some h
  have ⟨q,hq,h⟩:=bind_some h
  have ⟨he,h⟩:=aj h
  have ⟨r',hr,h⟩:=bind_some h
  cases ad h
  exact nz hf hs hm (ps:=ps) d hr (fun y hy=>hx y (by grind)) (fun e he=>hc e ((eM hq).mem_iff.2 (by grind))) hγ hst
 | .fn a b::ps,x::xs,ft,chs,r,d,C,h,hx,hc,hγ,hst=>by
  unfold fy at h
  split at h
  ·have ⟨q,hq,h⟩:=bind_some h
   have ⟨r',hr,h⟩:=bind_some h
   cases ad h
   exact nz hf hs hm (ps:=ps) d hr (fun y hy=>hx y (by grind)) hc hγ hst
  grind
 | .ptr T t::ps,x::xs,ft,chs,r,d,C,h,hx,hc,hγ,hst=>by
  unfold fy at h
  split at h
  ·rename_i hh off
   have ⟨ho,h⟩:=aj h
   have ⟨q,hq,h⟩:=bind_some h
   have ⟨r',hr,h⟩:=bind_some h
   cases ad h
   cases al ho
   have hid:=hx (.one (.ptr hh 0)) (by simp)
   have ⟨k3,k4⟩:=nz hf hs hm (ps:=ps) (C:=Ch.box (bk (hv θ hh)) T t.rep d.1::C) d.2 hr (fun y hy=>hx y (by grind)) (fun e he=>hc e ((yw hq).mem_iff.2 (by grind))) hγ (hst.perm List.perm_middle.symm)
   refine ⟨?_,fun g hg=>?_⟩
   ·show St J w0 w (Ch.box (bk (hv θ' hh)) T t.rep d.1::((ny gh ps xs d.2).map _++C))
    rw[aX hs hid]
    exact k3.perm List.perm_middle
   ·rcases aH hg with hg | hg
    ·cases au hg
     exact ⟨.inl trivial,hid⟩
    grind
  grind
 | .fk g::ps,x::xs,ft,chs,r,d,C,h,hx,hc,hγ,hst=>by
  unfold fy at h
  split at h
  ·have ⟨hk,h⟩:=aj h
   have ⟨r',hr,h⟩:=bind_some h
   cases ad h
   exact nz hf hs hm (ps:=ps) d hr (fun y hy=>hx y (by grind)) hc hγ hst
  grind
 | .crs T E::ps,x::xs,ft,chs,r,d,C,h,hx,hc,hγ,hst=>by
  unfold fy at h
  split at h
  ·rename_i hh off
   have ⟨ho,h⟩:=aj h
   have ⟨q,hq,h⟩:=bind_some h
   have ⟨r',hr,h⟩:=bind_some h
   have ⟨hn,h⟩:=aj h
   cases ad h
   cases al ho
   have ⟨hgh,hg⟩:=hγ _ rfl
   have ⟨p,ver,he⟩:=nR hq
   have hok:=hf.chs _ (hc _ (p.mem_iff.2 (List.mem_cons_self ..)))
   rw[he] at hok
   have hrd:LV.ok P w0 J θ s.nxt (.rd q.g (.sl E (.int .u8)) q.d.1):=hok.2.2 _ (by simp)
   have hid:=hx (.one (.ptr hh 0)) (by simp)
   have ⟨k3,k4⟩:=nz hf hs hm (ps:=ps) (gh:=gh) (C:=Ch.blk (bk (hv θ hh)) [γ,.int .i64 d.1.1,.int .i64 d.1.2] T::C) d.2 hr (fun y hy=>hx y (by grind)) (fun e he=>hc e (p.mem_iff.2 (by grind))) (fun q' hq'=>by grind) (hst.perm List.perm_middle.symm)
   have hbk:ny gh (.crs T E::ps) (.one (.ptr hh 0)::xs) d= [(hh,.blk T [.rd q.g (.sl E (.int .u8)) q.d.1,.val (.int .i64 d.1.1),.val (.int .i64 d.1.2)])] ++ny gh ps xs d.2:=by
    rw[hgh];rfl
   rw[hbk]
   refine ⟨?_,fun g hg2=>?_⟩
   ·show St J w0 w (Ch.blk (bk (hv θ' hh)) [hv θ' q.g,.int .i64 d.1.1,.int .i64 d.1.2] T::((ny gh ps xs d.2).map _++C))
    rw[aX hs hid,aX hs hrd.1,<-show γ=hv θ q.g from hg]
    exact k3.perm List.perm_middle
   ·rcases aH hg2 with hg2 | hg2
    ·cases au hg2
     refine ⟨.inr ⟨_,_,rfl,fun z hz=>?_⟩,hid⟩
     rcases ax hz with rfl | hz
     ·grind[LV.ok_same,Hp.le.rfl]
     ·rcases ax hz with rfl | hz
      ·rfl
      ·cases au hz
       rfl
    grind
  grind
 | .cap _ _::_,_::_,_,_,_,_,_,h,_,_,_,_=>by cases h
 | .capf _ _ _::_,_::_,_,_,_,_,_,h,_,_,_,_=>by cases h
 | [],_::_,_,_,_,_,_,h,_,_,_,_=>by cases h
 | .rd _::_,[],_,_,_,_,_,h,_,_,_,_=>by cases h
 | .ow _::_,[],_,_,_,_,_,h,_,_,_,_=>by cases h
 | .eat _::_,[],_,_,_,_,_,h,_,_,_,_=>by cases h
 | .fn _ _::_,[],_,_,_,_,_,h,_,_,_,_=>by cases h
 | .ptr _ _::_,[],_,_,_,_,_,h,_,_,_,_=>by cases h
 | .cap _ _::_,[],_,_,_,_,_,h,_,_,_,_=>by cases h
 | .capf _ _ _::_,[],_,_,_,_,_,h,_,_,_,_=>by cases h
 | .fk _::_,[],_,_,_,_,_,h,_,_,_,_=>by cases h
 | .crs _ _::_,[],_,_,_,_,_,h,_,_,_,_=>by cases h
end
end R
end Go.Proofs.YtfkokkokjgjkgaaGreatDoor
