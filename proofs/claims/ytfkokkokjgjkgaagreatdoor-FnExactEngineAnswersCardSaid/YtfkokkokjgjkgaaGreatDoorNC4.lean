/- FnExactEngineAnswers: for every input the law returns true and changes nothing that was there. Part 5 of 9. -/
import Derived.Test.YtfkokkokjgjkgaaGreatDoorNC3
set_option synthInstance.maxSize 20000
set_option synthInstance.maxHeartbeats 2000000
set_option linter.unusedVariables false
set_option linter.unusedSimpArgs false
set_option linter.unnecessarySimpa false
set_option linter.unusedSectionVars false
set_option maxRecDepth 1000000
namespace Go.Proofs.YtfkokkokjgjkgaaGreatDoor
open Go.IntKind (i64)
namespace R
open Go.RowKit
open D
inductive Knd
 | num (k:IntKind) | boo | str
 | rd (E:TypeId) (t:Ty)
 | own (E:TypeId) (t:Ty)
 | map (d:MD)
 | tre (T E:TypeId) (t:Ty)
 | bx (T:TypeId) (k:IntKind)
def Knd.den:Knd->Type
 | .num _=>Int
 | .boo=>Bool
 | .str=>ByteArray
 | .rd _ t=>List t.den
 | .own _ t=>List t.den
 | .map d=>List (d.k.den×d.e.den)
 | .tre _ _ t=>Tr t.den
 | .bx _ _=>Int
def Zz {a b:MD} (h:a=b) (m:List (a.k.den×a.e.den)):List (b.k.den×b.e.den):=h ▸ m
def GS (d:MD) (x:LV) (chs:List Ent):Option (List (d.k.den×d.e.den)×List Ent):=match x with
 | .own h=>(aaM h chs).bind fun r=>if h:MD.beq r.md d=true then some (Zz (MD.beq_eq h) r.m,r.rest) else none
 | _=>none
theorem GT {d:MD} {x:LV} {chs:List Ent} {q:List (d.k.den×d.e.den)×List Ent} (h:GS d x chs=some q): ∃hh ver,x= .own hh/\chs.Perm ((hh,ver,d.ck q.1)::q.2):=by
 unfold GS at h
 split at h
 ·rename_i hh
  have ⟨r,hr,h⟩:=bind_some h
  have hp:=IY hr
  have ⟨ver,md,m,rest⟩:=r
  split at h
  ·rename_i he
   cases MD.beq_eq he
   cases ad h
   exact ⟨hh,ver,rfl,hp⟩
  grind
 grind
def KT (T:TypeId) (k:IntKind) (x:LV) (chs:List Ent):Option (Int×List Ent):=match x with
 | .ptr h off=>bL (Nat.beq off 0) ((rO h chs).bind fun b=>bL (Nat.beq b.T T) (match b.cells with
  | [c] =>(Eg k c).bind fun d=>some (d,b.rest)
  | _=>none))
 | _=>none
theorem GU {T:TypeId} {k:IntKind} {x:LV} {chs:List Ent} {q:Int×List Ent} (h:KT T k x chs=some q): ∃hh ver c,x= .ptr hh 0/\Eg k c=some q.1/\chs.Perm ((hh,ver,.blk T [c])::q.2):=by
 cases x with
 | ptr hh off =>
  have ⟨h0,h⟩:=aj (show bL (Nat.beq off 0) _=some q from h)
  cases al h0
  have ⟨b,hb,h2⟩:=bind_some h
  have ⟨h1,h3⟩:=aj h2
  have hp:=kA hb
  have ⟨ver,T',cells,rest⟩:=b
  obtain rfl:T'=T:=al h1
  match cells,h3,hp with
  | [c],h,hp =>
   have ⟨d,hd,h4⟩:=bind_some (show (Eg k c).bind _=some q from h)
   cases ad h4
   exact ⟨hh,ver,c,rfl,hd,hp⟩
  | [],h,_=>cases h
  | _::_::_,h,_=>cases h
 | _=>cases h
def Vo:List Knd->Type
 | [] =>Unit
 | [k] =>k.den
 | k::l::ks=>k.den×Vo (l::ks)
def rj:List Knd->Type
 | [] =>Unit
 | k::ks=>k.den×rj ks
def toN:(ks:List Knd)->Vo ks->rj ks
 | [],_=>()
 | [_],d=>(d,())
 | _::l::ks,d=>(d.1,toN (l::ks) d.2)
def ofN:(ks:List Knd)->rj ks->Vo ks
 | [],_=>()
 | [_],d=>d.1
 | _::l::ks,d=>(d.1,ofN (l::ks) d.2)
theorem px: ∀(ks:List Knd) (d:rj ks),toN ks (ofN ks d)=d
 | [],_=>rfl
 | [_],_=>rfl
 | _::l::ks,d=>congrArg (Prod.mk d.1) (px (l::ks) d.2)
def Vp (k:Knd) (x:LV) (chs:List Ent):Option (k.den×List Ent):=match k with
 | .num k=>(Eg k x).bind fun d=>some (d,chs)
 | .boo=>(C5 x).bind fun d=>some (d,chs)
 | .str=>(L7 x).bind fun d=>some (d,chs)
 | .rd E t=>(R3 E t x).bind fun d=>some (d,chs)
 | .own E t=>(vQ E t x chs).bind fun q=>some (q.1,q.2.2)
 | .map d=>GS d x chs
 | .tre T E t=>(YL T E t x).bind fun d=>some (d,chs)
 | .bx T k=>KT T k x chs
def aaQ (id:Nat):(k:Knd)->k.den->LV
 | .num k,d=>.val (.int k d)
 | .boo,d=>.val (.bool d)
 | .str,d=>.val (.string d)
 | .rd E t,d=>.rd ⟨id,[]⟩ (.sl E t) d
 | .own _ _,_=>.own ⟨id,[]⟩
 | .map _,_=>.own ⟨id,[]⟩
 | .tre T E t,d=>.rd ⟨id,[]⟩ (.tree T E t) d
 | .bx _ _,_=>.ptr ⟨id,[]⟩ 0
def YP (id ver:Nat):(k:Knd)->k.den->List Ent
 | .own E t,d=>[(⟨id,[]⟩,ver,.own (.sl E t) d)]
 | .map md,d=>[(⟨id,[]⟩,ver,md.ck d)]
 | .bx T k,d=>[(⟨id,[]⟩,ver,.blk T [.val (.int k d)])]
 | _,_=>[]
def Cp:(ks:List Knd)->List LV->List Ent->Option (rj ks×List Ent)
 | [],[],chs=>some ((),chs)
 | k::ks,x::xs,chs=>(Vp k x chs).bind fun q=>(Cp ks xs q.2).bind fun r=>some ((q.1,r.1),r.2)
 | _,_,_=>none
def EG (id:Nat):(ks:List Knd)->rj ks->List LV
 | [],_=>[]
 | k::ks,d=>aaQ id k d.1::EG (id+1) ks d.2
def EH (id ver:Nat):(ks:List Knd)->rj ks->List Ent
 | [],_=>[]
 | k::ks,d=>YP id ver k d.1++EH (id+1) ver ks d.2
section
variable {P:Program} {w0 w:World} {J:Hp} {θ:Th} {n:Nat} {C:List Ch}
theorem St.bun {ls:List Ch} {α:Type} {R:Rep α} {cs:List Value} {x:α} (h:St J w0 w (ls++C)) (hb:Bun J ls R cs x):St J w0 w (Ch.own R cs x::C):=by
 have ⟨h1,h2,F,h3,h4,h5⟩:=h
 obtain ⟨G,K,rfl,e1,e2⟩:=h3.split
 exact ⟨h1,h2,G++K,⟨G,K,rfl,hb w G e1,e2⟩,h4,h5⟩
theorem S8 {α:Type} {R:Rep α} {u:Value} {x:α} (h:St J w0 w (Ch.own R [u] x::C)):u.oneCell'=true:=by
 obtain ⟨h1,h2,F,⟨G,K,rfl,k,e⟩,h4,h5⟩:=h
 exact R.own_one k u (by simp)
theorem XC {k:Knd} {x:LV} {chs:List Ent} {q:k.den×List Ent} (h:Vp k x chs=some q) (hx:x.ok P w0 J θ n) (hS:St J w0 w (chs.map (toCh P θ)++C)) {θ':Th} {id ver m:Nat} (hid:θ' id=x.v θ) (hm:id<m) :
  (aaQ id k q.1).ok P w0 J θ' m/\(aaQ id k q.1).v θ'=x.v θ/\St J w0 w ((YP id ver k q.1).map (toCh P θ')++(q.2.map (toCh P θ)++C))/\ ∀e∈q.2,e∈chs:=by
 have hh:hv θ' ⟨id,[]⟩=x.v θ:=hid
 cases k with
 | num k =>
  have ⟨d,hd,h⟩:=bind_some (show (Eg k x).bind _=some q from h)
  cases ad h
  exact ⟨Eq.refl true,(Eh hd θ).symm,hS,fun e he=>he⟩
 | boo =>
  have ⟨d,hd,h⟩:=bind_some (show (C5 x).bind _=some q from h)
  cases ad h
  exact ⟨Eq.refl true,(Gq hd θ).symm,hS,fun e he=>he⟩
 | str =>
  have ⟨d,hd,h⟩:=bind_some (show (L7 x).bind _=some q from h)
  cases ad h
  exact ⟨Eq.refl true,(Ku hd θ).symm,hS,fun e he=>he⟩
 | rd E t =>
  have ⟨d,hd,h⟩:=bind_some (show (R3 E t x).bind _=some q from h)
  cases ad h
  refine ⟨⟨hm,?_⟩,hh,hS,fun e he=>he⟩
  grind[Ar]
 | tre T E t =>
  have ⟨d,hd,h⟩:=bind_some (show (YL T E t x).bind _=some q from h)
  cases ad h
  refine ⟨⟨hm,?_⟩,hh,hS,fun e he=>he⟩
  grind[IB]
 | own E t =>
  have ⟨r,hr,h⟩:=bind_some (show (vQ E t x chs).bind _=some q from h)
  cases ad h
  have ⟨p,hb⟩:=Au hr P J θ
  have h1:St J w0 w (Ch.own (Ty.sl E t).rep [x.v θ] r.1::(r.2.2.map (toCh P θ)++C)):=by
   refine St.bun ?_ hb
   have:=hS.perm ((p.map (toCh P θ)).append_right C)
   grind
  refine ⟨⟨hm,by grind[S8]⟩,hh,?_,fun e he=>p.mem_iff.2 (by grind)⟩
  show St J w0 w (Ch.own _ [hv θ' ⟨id,[]⟩] _::_)
  simp_all
 | map d =>
  obtain ⟨h0,ver0,rfl,p⟩:=GT (show GS d x chs=some q from h)
  have h1:St J w0 w (toCh P θ (h0,ver0,d.ck q.1)::(q.2.map (toCh P θ)++C)):=by
   have:=hS.perm ((p.map (toCh P θ)).append_right C)
   exact this
  have e0:hv θ h0=LV.v θ (.own h0):=rfl
  have h2:St J w0 w (@Ch.mp P d.K d.E d.k.den d.e.den d.k.dec d.k.lit d.k.ok d.e.lit d.e.z (hv θ h0) (show List (d.k.den×d.e.den) from q.1)::(q.2.map (toCh P θ)++C)):=h1
  refine ⟨⟨hm,by rw[hh];exact hx.2⟩,hh,?_,fun e he=>p.mem_iff.2 (by grind)⟩
  show St J w0 w (@Ch.mp P d.K d.E d.k.den d.e.den d.k.dec d.k.lit d.k.ok d.e.lit d.e.z (hv θ' ⟨id,[]⟩) (show List (d.k.den×d.e.den) from q.1)::_)
  simp_all
 | bx T k =>
  obtain ⟨h0,ver0,c,rfl,hc,p⟩:=GU (show KT T k x chs=some q from h)
  have h1:=hS.perm ((p.map (toCh P θ)).append_right C)
  have e0:bk (hv θ' ⟨id,[]⟩)=bk (hv θ h0):=by rw[hh];rfl
  refine ⟨hm,?_,?_,fun e he=>p.mem_iff.2 (by grind)⟩
  ·show Value.pointer (some ⟨bk (hv θ' ⟨id,[]⟩),0,none⟩)=_
   rw[e0];rfl
  ·show St J w0 w (Ch.blk (bk (hv θ' ⟨id,[]⟩)) [.int k _] T::_)
   rw[e0,<-Eh hc θ];exact h1
theorem zT: ∀ {ks:List Knd} {xs:List LV} {chs:List Ent} {q:rj ks×List Ent} {id ver:Nat} {C:List Ch},Cp ks xs chs=some q->(∀x∈xs,x.ok P w0 J θ n)->St J w0 w (chs.map (toCh P θ)++C)-> ∀ {θ':Th} {m:Nat},(∀i x,xs[i]? =some x->θ' (id+i)=x.v θ)->id+ks.length<=m->
  (∀x∈EG id ks q.1,x.ok P w0 J θ' m)/\(EG id ks q.1).map (·.v θ')=xs.map (·.v θ)/\St J w0 w ((EH id ver ks q.1).map (toCh P θ')++(q.2.map (toCh P θ)++C))/\ ∀e∈q.2,e∈chs
 | [],[],chs,q,id,ver,C,h,_,hS,θ',m,_,_=>by
  cases ad (show some _=some q from h)
  exact ⟨fun x hx=>(by cases hx),rfl,hS,fun e he=>he⟩
 | k::ks,x::xs,chs,q,id,ver,C,h,hx,hS,θ',m,hid,hm=>by
  have ⟨a,ha,h⟩:=bind_some (show (Vp k x chs).bind _=some q from h)
  have ⟨b,hb,h⟩:=bind_some h
  cases ad h
  have hm':id<m:=by rw[aK] at hm;omega
  have ⟨a1,a2,a3,a4⟩:=XC (ver:=ver) ha (hx x (by simp)) hS (θ':=θ') (id:=id) (m:=m) (hid 0 x rfl) hm'
  have ⟨b1,b2,b3,b4⟩:=zT (id:=id+1) (ver:=ver) (C:=(YP id ver k a.1).map (toCh P θ')++C) hb (fun y hy=>hx y (by grind)) (a3.perm (List.perm_append_comm_assoc _ _ _)) (θ':=θ') (m:=m) (fun i y hy=>by
   have:=hid (i+1) y hy
   grind) (by grind)
  refine ⟨fun y hy=>?_,?_,?_,fun e he=>a4 e (b4 e he)⟩
  ·rcases ax hy with rfl | hy
   ·exact a1
   grind
  ·grind[LV.v,EG]
  ·refine b3.perm ?_
   grind[List.perm_append_comm_assoc,EH,toCh,YP,aA]
 | [],_::_,chs,q,id,ver,C,h,_,_,_,_,_,_=>by cases h
 | _::_,[],chs,q,id,ver,C,h,_,_,_,_,_,_=>by cases h
end
inductive It
 | slot (t:Nat) (k:Knd)
 | box (t:Nat) (ks:List Knd)
 | row (t:Nat) (E:TypeId) (u:Ty)
 | agg (t:Nat) (ks:List Knd)
 | par (i:Nat) (p:List Nat) (E:TypeId) (u:Ty)
 | gone (t:Nat)
 | cur (t:Nat)
 | pbx (i:Nat) (ks:List Knd)
def It.s (t:Nat):It:=.slot t (.num .i64)
inductive RIt
 | slot (t:Nat) (k:Knd)
 | box (h:Hdr) (T:TypeId) (ks:List Knd)
 | row (h:Hdr) (E:TypeId) (u:Ty)
 | agg (t:Nat) (k:Knd) (ks:List Knd)
 | cur (h:Hdr) (T:TypeId) (g:Hdr) (E:TypeId) (xs:List Int)
def RIt.ks:RIt->List Knd
 | .slot _ k=>[k]
 | .box _ _ ks=>ks
 | .row _ E u=>[.own E u]
 | .agg _ k ks=>k::ks
 | .cur _ _ _ _ _=>[.num .i64,.num .i64]
def rP:List RIt->List Knd
 | [] =>[]
 | r::rs=>r.ks++rP rs
def RE:Option AV->Option Hdr
 | some (.one (.ptr h off))=>if Nat.beq off 0 then some h else none
 | _=>none
def ZA:Option AV->Option Hdr
 | some (.one (.own h))=>some h
 | _=>none
theorem XD {v:Option AV} {h:Hdr} (k:ZA v=some h):v=some (.one (.own h)):=by
 unfold ZA at k
 grind
def ZB (h:Hdr) (chs:List Ent):Option (Hdr×TypeId×TypeId×List Int):=(pull h chs).bind fun r=>match r.1.2.2 with
 | .blk T [.rd g (.sl E (.int .u8)) xs,_,_] =>some (g,T,E,xs)
 | _=>none
theorem KU {h g:Hdr} {T E:TypeId} {xs:List Int} {chs:List Ent} (k:ZB h chs=some (g,T,E,xs)): ∃ver a b,(h,ver,Chk.blk T [.rd g (.sl E (.int .u8)) xs,a,b])∈chs:=by
 have ⟨r,hr,k2⟩:=bind_some k
 have ⟨p,e⟩:=fa hr
 grind
def resolve (s:Sg):It->Option RIt
 | .slot t k=>some (.slot t k)
 | .box t ks=>(RE (look s.env t)).bind fun h=>(rO h s.chs).bind fun b=>some (.box h b.T ks)
 | .row t E u=>(ZA (look s.env t)).bind fun h=>some (.row h E u)
 | .agg t ks=>match ks with
  | k::ks=>some (.agg t k ks)
  | [] =>none
 | .par i p E u=>bL (Nat.blt i s.nxt) (some (.row ⟨i,p⟩ E u))
 | .gone _=>none
 | .pbx i ks=>(rO ⟨i,[]⟩ s.chs).bind fun b=>some (.box ⟨i,[]⟩ b.T ks)
 | .cur t=>(RE (look s.env t)).bind fun h=>(ZB h s.chs).bind fun q=>some (.cur h q.2.1 q.1 q.2.2.1 q.2.2.2)
def zU (s:Sg):List It->Option (List RIt)
 | [] =>some []
 | i::is=>(resolve s i).bind fun r=>(zU s is).bind fun rs=>some (r::rs)
def oneOf:Option AV->Option LV
 | some (.one x)=>some x
 | _=>none
theorem S9 {v:Option AV} {x:LV} (h:oneOf v=some x):v=some (.one x):=by
 unfold oneOf at h
 grind
def Py:Option AV->Option (List LV)
 | some (.agg xs)=>some xs
 | _=>none
theorem Ta {v:Option AV} {x:List LV} (h:Py v=some x):v=some (.agg x):=by
 unfold Py at h
 grind
def Tb (env:List (Nat×Nat×AV)) (chs:List Ent):(r:RIt)->Option (rj r.ks×List Ent)
 | .slot t k=>(oneOf (look env t)).bind fun x=>Cp [k] [x] chs
 | .box h T ks=>(rO h chs).bind fun b=>bL (Nat.beq b.T T) (Cp ks b.cells b.rest)
 | .row h E u=>Cp [.own E u] [.own h] chs
 | .agg t k ks=>(Py (look env t)).bind fun xs=>Cp (k::ks) xs chs
 | .cur h T g E _=>(uU h T E chs).bind fun q=>bL (Hdr.beq q.g g) (some ((q.d.2.1,q.d.2.2,()),q.rest))
def Tc:(ks ls:List Knd)->rj ks->rj ls->rj (ks++ls)
 | [],_,_,e=>e
 | _::ks,ls,d,e=>(d.1,Tc ks ls d.2 e)
def Vq:(ks ls:List Knd)->rj (ks++ls)->rj ks
 | [],_,_=>()
 | _::ks,ls,d=>(d.1,Vq ks ls d.2)
def XE:(ks ls:List Knd)->rj (ks++ls)->rj ls
 | [],_,d=>d
 | _::ks,ls,d=>XE ks ls d.2
theorem I0: ∀(ks ls:List Knd) (d:rj ks) (e:rj ls),Vq ks ls (Tc ks ls d e)=d
 | [],_,_,_=>rfl
 | _::ks,ls,d,e=>congrArg (Prod.mk d.1) (I0 ks ls d.2 e)
theorem I1: ∀(ks ls:List Knd) (d:rj ks) (e:rj ls),XE ks ls (Tc ks ls d e)=e
 | [],_,_,_=>rfl
 | _::ks,ls,d,e=>I1 ks ls d.2 e
def XF (env:List (Nat×Nat×AV)):(rs:List RIt)->List Ent->Option (rj (rP rs)×List Ent)
 | [],chs=>some ((),chs)
 | r::rs,chs=>(Tb env chs r).bind fun q=>(XF env rs q.2).bind fun p=>some (Tc r.ks (rP rs) q.1 p.1,p.2)
def YQ (id:Nat):(r:RIt)->rj r.ks->List (Nat×Nat×AV)
 | .slot t k,d=>[(t,id,.one (aaQ id k d.1))]
 | .agg t k ks,d=>[(t,id,.agg (EG id (k::ks) d))]
 | _,_=>[]
def YR (id ver:Nat):(r:RIt)->rj r.ks->List Ent
 | .slot _ k,d=>EH id ver [k] d
 | .agg _ k ks,d=>EH id ver (k::ks) d
 | .box h T ks,d=>(h,ver,.blk T (EG id ks d))::EH id ver ks d
 | .row h E u,d=>[(h,ver,.own (.sl E u) d.1)]
 | .cur h T g E xs,d=>[(h,ver,.blk T [.rd g (.sl E (.int .u8)) xs,.val (.int .i64 d.1),.val (.int .i64 d.2.1)])]
def Cq:(id:Nat)->(rs:List RIt)->rj (rP rs)->List (Nat×Nat×AV)
 | _,[],_=>[]
 | id,r::rs,d=>YQ id r (Vq r.ks (rP rs) d)++Cq (id+r.ks.length) rs (XE r.ks (rP rs) d)
def xt (ver:Nat):(id:Nat)->(rs:List RIt)->rj (rP rs)->List Ent
 | _,[],_=>[]
 | id,r::rs,d=>YR id ver r (Vq r.ks (rP rs) d)++xt ver (id+r.ks.length) rs (XE r.ks (rP rs) d)
structure Cut where
 nxt:Nat
 its:List RIt
 env:List (Nat×Nat×AV)
 chs:List Ent
def Cut.top (c:Cut):Nat:=c.nxt+(rP c.its).length
def Cut.at (c:Cut) (d:rj (rP c.its)):Sg:=⟨Cq c.nxt c.its d++c.env,xt c.top c.nxt c.its d++c.chs,c.top+1⟩
def abB (t:Nat):List Nat->Bool
 | [] =>false
 | u::l=>Nat.beq u t || abB t l
def MC (l:List (Nat×Nat×AV)) (t:Nat):Option Nat:=match l with
 | [] =>none
 | (u,k,_)::l=>if Nat.beq u t then some k else MC l t
def zV (env:List (Nat×Nat×AV)):List (Nat×Nat×AV)->Bool
 | [] =>true
 | e::l=>(match MC env e.1 with | some v=>Nat.beq v e.2.1 | none=>false)&&zV env l
def I2:List Ent->List Ent->Option (List Ent)
 | [],chs=>some chs
 | e::l,chs=>(pull e.1 chs).bind fun r=>bL (Nat.beq r.1.2.1 e.2.1) (I2 l r.2)
def distinctH:List Ent->Bool
 | [] =>true
 | e::l=>Co e.1 l&&distinctH l
def ZC:Option AV->List Hdr
 | some (.one (.ptr h _))=>[h]
 | _=>[]
def py (s:Sg):List RIt->List Hdr
 | [] =>[]
 | .slot t (.bx _ _)::rs=>ZC (look s.env t)++py s rs
 | .slot t _::rs=>(match look s.env t with | some v=>AN v | none=>[])++py s rs
 | .box h _ _::rs=>(match rO h s.chs with | some b=>AN (.agg b.cells) | none=>[])++py s rs
 | .row h _ _::rs=>h::py s rs
 | .cur _ _ _ _ _::rs=>py s rs
 | .agg t _ _::rs=>(match look s.env t with | some v=>AN v | none=>[])++py s rs
def AO:List Ent->List Hdr
 | [] =>[]
 | (h,_,.own _ _)::l=>h::AO l
 | _::l=>AO l
def Cut.of (c:Cut) (s0:Sg):Option (rj (rP c.its)):=match vY (AO c.chs) (vY (py s0 c.its) s0) with
 | s=>(XF s.env c.its s.chs).bind fun q=>(I2 c.chs q.2).bind fun _=>bL (zV s.env c.env) (some q.1)
def RIt.hdrs:RIt->List Hdr
 | .slot _ _=>[]
 | .box h _ _=>[h]
 | .row h _ _=>[h]
 | .agg _ _ _=>[]
 | .cur h _ g _ _=>[h,g]
def hdrsR:List RIt->List Hdr
 | [] =>[]
 | r::rs=>r.hdrs++hdrsR rs
def GV:List (Nat×Nat×AV)->List Nat->List (Nat×Nat×AV)
 | [],_=>[]
 | e::l,seen=>match abB e.1 seen with
  | true=>GV l seen
  | false=>e::GV l (e.1::seen)
theorem tz: ∀ {l:List (Nat×Nat×AV)} {seen:List Nat},(GV l seen).Sublist l
 | [],_=>List.Sublist.refl _
 | e::l,seen=>by
  unfold GV
  split
  ·exact tz.cons _
  ·exact tz.cons_cons _
def XG:List It->List It
 | [] =>[]
 | .gone _::is=>XG is
 | i::is=>i::XG is
def XH (s:Sg):List It->List Hdr
 | [] =>[]
 | .gone t::is=>(match look s.env t with
  | some (.one (.ptr h _))=>match rO h s.chs with | some b=>AN (.agg b.cells) | none=>[]
  | some v=>AN v
  | none=>[])++XH s is
 | _::is=>XH s is
def AP (ks:List Nat) (is:List It) (s:Sg):Option Cut:=(zU s (XG is)).bind fun rs=>bL (distinctH s.chs) (some ⟨s.nxt,rs,GV (s.env.filter fun e=> !abB e.1 ks) [],s.chs.filter fun e=> !acw e.1 (XH s is++(py s rs++hdrsR rs))⟩)
theorem XI {P:Program} {w0:World} {J:Hp} {θ:Th} {m id ver:Nat} {chs:List Ent} {k:Knd} {d:k.den} (h1:id<m) (h2:ver<m): ∀e∈YP id ver k d,okE P w0 J θ m chs e:=by
 cases k with
 | own E t=>intro e he;cases au he;exact ⟨h1,h2,trivial⟩
 | map md=>intro e he;cases au he;exact ⟨h1,h2,trivial⟩
 | bx T k=>intro e he;cases au he;exact ⟨h1,h2,fun x hx=>by cases au hx;rfl⟩
 | _=>intro e he;cases he
theorem zW {P:Program} {w0:World} {J:Hp} {θ:Th} {m ver:Nat} {chs:List Ent} (h2:ver<m): ∀ {ks:List Knd} {id:Nat} {d:rj ks},id+ks.length<=m-> ∀e∈EH id ver ks d,okE P w0 J θ m chs e
 | [],_,_,_=>fun e he=>by cases he
 | k::ks,id,d,h1=>fun e he=>by
  rw[aK] at h1
  rcases aH he with he | he
  ·exact XI (by omega) h2 e he
  ·exact zW h2 (by omega) e he
section
variable {P:Program} {w0 w:World} {J:Hp} {θ:Th} {n:Nat} {C:List Ch}
def RitOk (P:Program) (w0:World) (J:Hp) (θ:Th) (n:Nat):RIt->Prop
 | .cur _ _ g E xs=>LV.ok P w0 J θ n (.rd g (.sl E (.int .u8)) xs)
 | _=>True
def acE (P:Program) (w0 w:World) (J:Hp) (θ:Th) (env:List (Nat×Nat×AV)) (chs:List Ent) (hs:List Hdr) (len:Nat) (rest:List Ent) (E:Nat->List (Nat×Nat×AV)) (N:Nat->Nat->List Ent):Prop:=
 ∃vals:List Value,vals.length=len/\ ∀(θ':Th) (id ver m:Nat),(∀i v,vals[i]? =some v->θ' (id+i)=v)->id+len<=m->ver<m->(∀h∈hs,hv θ' h=hv θ h/\h.id<m)-> ∀C,St J w0 w (chs.map (toCh P θ)++C)->
  (∀e∈E id,(∀chs',e.2.2.ok P w0 J θ' m chs')/\ ∃x,look env e.1=some x/\e.2.2.v θ'=x.v θ)/\(∀chs',∀e∈N id ver,okE P w0 J θ' m chs' e)/\St J w0 w ((N id ver).map (toCh P θ')++(rest.map (toCh P θ)++C))
theorem Td {env:List (Nat×Nat×AV)} {chs chs0:List Ent} {r:RIt} {q:rj r.ks×List Ent} (h:Tb env chs r=some q) (henv: ∀e∈env,e.2.2.ok P w0 J θ n chs0) (hchs: ∀e∈chs,okE P w0 J θ n chs0 e) {n1:Nat} (hrit:RitOk P w0 J θ n1 r) :
  acE P w0 w J θ env chs r.hdrs r.ks.length q.2 (fun id=>YQ id r q.1) (fun id ver=>YR id ver r q.1):=by
 cases r with
 | slot t k =>
  have ⟨x,hx,h⟩:=bind_some (show (oneOf (look env t)).bind _=some q from h)
  have hx:=S9 hx
  ·have hxo:x.ok P w0 J θ n:=by
    have ⟨e,he,h1⟩:=tv hx
    have:=henv e he
    rw[h1] at this
    exact this
   refine ⟨[x.v θ],rfl,fun θ' id ver m hid hm hv' hh C hS=>?_⟩
   have ⟨k1,k2,k3,k4⟩:=zT (ver:=ver) (C:=C) (id:=id) (θ':=θ') (m:=m) h (fun y hy=>by cases au hy;omega) hS (fun i y hy=>by
    cases i with
    | zero=>simp at hy;rw[<-hy];exact hid 0 _ rfl
    | succ i=>grind) hm
   refine ⟨fun e he=>?_,fun chs'=>zW hv' hm,k3⟩
   cases au he
   exact ⟨fun chs'=>k1 _ (by simp[EG]),_,hx,(List.cons.inj (show _::_=_::_ from k2)).1⟩
 | box hh T ks =>
  have ⟨b,hb,h⟩:=bind_some (show (rO hh chs).bind _=some q from h)
  have ⟨hT,h⟩:=aj h
  have hT:=al hT
  have hp:=kA hb
  have hbk:=hchs (b.ent hh) (hp.mem_iff.2 (by simp))
  have hlen: ∀ {ks:List Knd} {xs:List LV} {chs:List Ent} {q:rj ks×List Ent},Cp ks xs chs=some q->xs.length=ks.length:=by
   intro ks
   induction ks with
   | nil=>intro xs chs q h;cases xs with
    | nil=>rfl
    | cons _ _=>cases h
   | cons k ks ih=>intro xs chs q h;cases xs with
    | nil=>cases h
    | cons x xs =>
     have ⟨a,ha,h⟩:=bind_some (show (Vp k x chs).bind _=some q from h)
     have ⟨c,hc,h⟩:=bind_some h
     grind
  have hl:=hlen h
  have hvl:(b.cells.map (·.v θ)).length=ks.length:=by rw[List.length_map];exact hl
  have hget: ∀ {θ':Th} {id:Nat},(∀i v,(b.cells.map (·.v θ))[i]? =some v->θ' (id+i)=v)-> ∀i x,b.cells[i]? =some x->θ' (id+i)=x.v θ:=fun hid i x hx=>hid i _ (by grind)
  refine ⟨b.cells.map (·.v θ),hvl,fun θ' id ver m hid hm hv' hh' C hS=>?_⟩
  ·have hS':St J w0 w (b.rest.map (toCh P θ)++(Ch.blk (bk (hv θ hh)) (b.cells.map (·.v θ)) b.T::C)):=by
    refine (hS.perm ((hp.map (toCh P θ)).append_right C)).perm ?_
    exact (List.perm_middle (l₁:=b.rest.map (toCh P θ)) (l₂:=C)).symm
   have ⟨k1,k2,k3,k4⟩:=zT (ver:=ver) (id:=id) (θ':=θ') (m:=m) h hbk.2.2 hS' (hget hid) hm
   have ⟨g1,g2⟩:=hh' hh (by simp[RIt.hdrs])
   refine ⟨fun e he=>(by cases he),fun chs' e he=>?_,?_⟩
   ·rcases ax he with rfl | he
    ·exact ⟨g2,hv',k1⟩
    ·exact zW hv' hm e he
   ·show St J w0 w (Ch.blk (bk (hv θ' hh)) ((EG id ks q.1).map (·.v θ')) T::((EH id ver ks q.1).map (toCh P θ')++(q.2.map (toCh P θ)++C)))
    refine k3.perm ?_
    grind[aA,List.perm_middle]
 | agg t k ks =>
  have ⟨xs,hx,h⟩:=bind_some (show (Py (look env t)).bind _=some q from h)
  have hx:=Ta hx
  have hxo: ∀x∈xs,x.ok P w0 J θ n:=by
   have ⟨e,he,h1⟩:=tv hx
   have:=henv e he
   rw[h1] at this
   exact this
  have hlen: ∀ {ks:List Knd} {xs:List LV} {chs:List Ent} {q:rj ks×List Ent},Cp ks xs chs=some q->xs.length=ks.length:=by
   intro ks
   induction ks with
   | nil=>intro xs chs q h;cases xs with
    | nil=>rfl
    | cons _ _=>cases h
   | cons k ks ih=>intro xs chs q h;cases xs with
    | nil=>cases h
    | cons x xs =>
     have ⟨a,ha,h⟩:=bind_some (show (Vp k x chs).bind _=some q from h)
     have ⟨c,hc,h⟩:=bind_some h
     grind
  refine ⟨xs.map (·.v θ),by rw[List.length_map];exact hlen h,fun θ' id ver m hid hm hv' hh C hS=>?_⟩
  have ⟨k1,k2,k3,k4⟩:=zT (ver:=ver) (C:=C) (id:=id) (θ':=θ') (m:=m) h hxo hS (fun i y hy=>hid i _ (by grind)) hm
  refine ⟨fun e he=>?_,fun chs'=>zW hv' hm,k3⟩
  cases au he
  refine ⟨fun chs'=>k1,_,hx,?_⟩
  show Value.agg ((EG id (k::ks) q.1).map (·.v θ')).toArray=Value.agg (xs.map (·.v θ)).toArray
  rw[k2]
 | row hh E u =>
  have ⟨a,ha,h⟩:=bind_some (show (Vp (.own E u) (.own hh) chs).bind _=some q from h)
  have ⟨c,hc,h⟩:=bind_some h
  cases ad (show some ((),a.2)=some c from hc)
  cases ad h
  have ⟨r,hr,ha⟩:=bind_some (show (vQ E u (.own hh) chs).bind _=some a from ha)
  cases ad ha
  have ⟨p,hb⟩:=Au hr P J θ
  refine ⟨[hv θ hh],rfl,fun θ' id ver m hid hm hv' hh' C hS=>?_⟩
  have h1:St J w0 w (Ch.own (Ty.sl E u).rep [hv θ hh] r.1::(r.2.2.map (toCh P θ)++C)):=by
   refine St.bun ?_ hb
   have:=hS.perm ((p.map (toCh P θ)).append_right C)
   grind
  refine ⟨fun e he=>(by cases he),fun chs' e he=>?_,?_⟩
  ·cases au he
   exact ⟨(hh' hh (by simp[RIt.hdrs])).2,hv',trivial⟩
  ·show St J w0 w (Ch.own _ [hv θ' hh] _::_)
   simp_all[RIt.hdrs]
 | cur hh T g E xs =>
  have ⟨b,hb,h⟩:=bind_some (show (uU hh T E chs).bind _=some q from h)
  have ⟨hg,h⟩:=aj h
  cases ad h
  have hg:=Hdr.beq_eq hg
  have ⟨p,ver0,he⟩:=nR hb
  refine ⟨[.int .i64 b.d.2.1,.int .i64 b.d.2.2],rfl,fun θ' id ver m hid hm hv' hh' C hS=>?_⟩
  have ⟨g1,g2⟩:=hh' hh (by simp[RIt.hdrs])
  have ⟨g3,g4⟩:=hh' g (by simp[RIt.hdrs])
  refine ⟨fun e he=>(by cases he),fun chs' e he=>?_,?_⟩
  ·cases au he
   refine ⟨g2,hv',fun z hz=>?_⟩
   rcases ax hz with rfl | hz
   ·exact ⟨g4,by rw[g3];exact hrit.2⟩
   ·rcases ax hz with rfl | hz
    ·rfl
    ·cases au hz
     rfl
  ·show St J w0 w (Ch.blk (bk (hv θ' hh)) [hv θ' g,.int .i64 b.d.2.1,.int .i64 b.d.2.2] T::(b.rest.map (toCh P θ)++C))
   have h1:=hS.perm ((p.map (toCh P θ)).append_right C)
   rw[List.map_cons,he] at h1
   rw[g1,g3,<-hg]
   exact h1
theorem Te {k:Knd} {x:LV} {chs:List Ent} {q:k.den×List Ent} (h:Vp k x chs=some q): ∀e∈q.2,e∈chs:=by
 cases k with
 | num k=>have ⟨d,hd,h⟩:=bind_some (show (Eg k x).bind _=some q from h);grind
 | boo=>have ⟨d,hd,h⟩:=bind_some (show (C5 x).bind _=some q from h);grind
 | str=>have ⟨d,hd,h⟩:=bind_some (show (L7 x).bind _=some q from h);grind
 | rd E t=>have ⟨d,hd,h⟩:=bind_some (show (R3 E t x).bind _=some q from h);grind
 | own E t =>
  have ⟨r,hr,h⟩:=bind_some (show (vQ E t x chs).bind _=some q from h)
  exact fun e he=>(Av hr).mem_iff.2 (by grind)
 | tre T E t=>have ⟨d,hd,h⟩:=bind_some (show (YL T E t x).bind _=some q from h);grind
 | map d =>
  obtain ⟨h0,ver0,-,p⟩:=GT (show GS d x chs=some q from h)
  grind
 | bx T k =>
  obtain ⟨h0,ver0,c,-,-,p⟩:=GU (show KT T k x chs=some q from h)
  grind
theorem si: ∀ {ks:List Knd} {xs:List LV} {chs:List Ent} {q:rj ks×List Ent},Cp ks xs chs=some q-> ∀e∈q.2,e∈chs
 | [],[],chs,q,h=>by cases ad (show some _=some q from h);grind
 | k::ks,x::xs,chs,q,h=>by
  have ⟨a,ha,h⟩:=bind_some (show (Vp k x chs).bind _=some q from h)
  have ⟨b,hb,h⟩:=bind_some h
  cases ad h
  exact fun e he=>Te ha e (si hb e he)
 | [],_::_,chs,q,h=>by cases h
 | _::_,[],chs,q,h=>by cases h
theorem Pz {env:List (Nat×Nat×AV)} {chs:List Ent} {r:RIt} {q:rj r.ks×List Ent} (h:Tb env chs r=some q): ∀e∈q.2,e∈chs:=by
 cases r with
 | slot t k =>
  have ⟨x,hx,h⟩:=bind_some (show (oneOf (look env t)).bind _=some q from h)
  exact si h
 | box hh T ks =>
  have ⟨b,hb,h⟩:=bind_some (show (rO hh chs).bind _=some q from h)
  have ⟨hT,h⟩:=aj h
  exact fun e he=>(kA hb).mem_iff.2 (be _ (si h e he))
 | row hh E u=>exact si (show Cp [.own E u] [.own hh] chs=some q from h)
 | cur hh T g E xs =>
  have ⟨b,hb,h⟩:=bind_some (show (uU hh T E chs).bind _=some q from h)
  have ⟨hg,h⟩:=aj h
  cases ad h
  exact fun e he=>(nR hb).1.mem_iff.2 (be _ he)
 | agg t k ks =>
  have ⟨x,hx,h⟩:=bind_some (show (Py (look env t)).bind _=some q from h)
  exact si h
theorem KV {env:List (Nat×Nat×AV)} {chs0:List Ent} {n1:Nat} (henv: ∀e∈env,e.2.2.ok P w0 J θ n chs0): ∀ {rs:List RIt} {chs:List Ent} {q:rj (rP rs)×List Ent},XF env rs chs=some q->(∀e∈chs,okE P w0 J θ n chs0 e)->(∀r∈rs,RitOk P w0 J θ n1 r)->
  (∀e∈q.2,e∈chs)/\acE P w0 w J θ env chs (hdrsR rs) (rP rs).length q.2 (fun id=>Cq id rs q.1) (fun id ver=>xt ver id rs q.1)
 | [],chs,q,h,_,_=>by
  cases ad (show some _=some q from h)
  exact ⟨fun e he=>he,[],rfl,fun θ' id ver m _ _ _ _ C hS=>⟨fun e he=>(by cases he),fun chs' e he=>(by cases he),hS⟩⟩
 | r::rs,chs,q,h,hchs,hrit=>by
  have ⟨a,ha,h⟩:=bind_some (show (Tb env chs r).bind _=some q from h)
  have ⟨b,hb,h⟩:=bind_some h
  cases ad h
  have hsub:=Pz ha
  have ⟨v1,l1,k1⟩:=Td (w:=w) ha henv hchs (hrit r (by simp))
  have ⟨s2,v2,l2,k2⟩:=KV henv hb (fun e he=>hchs e (hsub e he)) fun x hx=>hrit x (by grind)
  refine ⟨fun e he=>hsub e (s2 e he),v1++v2,by rw[aC,l1,l2];exact (aC ..).symm,fun θ' id ver m hid hm hv' hh C hS=>?_⟩
  have hm:id+(r.ks.length+(rP rs).length)<=m:=by
   have:(rP (r::rs)).length=r.ks.length+(rP rs).length:=aC ..
   rw[this] at hm;exact hm
  have ⟨a1,a2,a3⟩:=k1 θ' id ver m (fun i v hi=>hid i v (by grind)) (by omega) hv' (fun x hx=>hh x (aZ _ hx)) C hS
  have ⟨b1,b2,b3⟩:=k2 θ' (id+r.ks.length) ver m (fun i v hi=>by
   have:=hid (r.ks.length+i) v (by grind)
   grind) (by omega) hv' (fun x hx=>hh x (bc _ hx)) ((YR id ver r a.1).map (toCh P θ')++C) (a3.perm (List.perm_append_comm_assoc _ _ _))
  have e1:Cq id (r::rs) (Tc r.ks (rP rs) a.1 b.1)=YQ id r a.1++Cq (id+r.ks.length) rs b.1:=by
   show YQ id r (Vq _ _ _)++Cq _ rs (XE _ _ _)=_
   rw[I0,I1]
  have e2:xt ver id (r::rs) (Tc r.ks (rP rs) a.1 b.1)=YR id ver r a.1++xt ver (id+r.ks.length) rs b.1:=by
   show YR id ver r (Vq _ _ _)++xt ver _ rs (XE _ _ _)=_
   rw[I0,I1]
  show (∀e∈Cq id (r::rs) (Tc r.ks (rP rs) a.1 b.1),_)/\(∀chs',∀e∈xt ver id (r::rs) (Tc r.ks (rP rs) a.1 b.1),_)/\St J w0 w ((xt ver id (r::rs) (Tc r.ks (rP rs) a.1 b.1)).map _++_)
  refine ⟨fun e he=>?_,fun chs' e he=>?_,?_⟩
  ·grind
  ·grind
  ·refine b3.perm ?_
   grind[List.perm_append_comm_assoc,xt,toCh,YR,aA]
end
end R
namespace R
open Go.RowKit
open D
def I3:Chk->Prop
 | .hole _ _ _ _ _ _ _ _ _ _=>False
 | _=>True
theorem Tf {id ver:Nat} {k:Knd} {d:k.den} : ∀e∈YP id ver k d,e.2.1=ver/\I3 e.2.2:=by
 cases k with
 | own E t=>intro e he;cases au he;exact ⟨rfl,trivial⟩
 | map md=>intro e he;cases au he;exact ⟨rfl,trivial⟩
 | bx T k=>intro e he;cases au he;exact ⟨rfl,trivial⟩
 | _=>intro e he;cases he
theorem vZ {ver:Nat} : ∀ {ks:List Knd} {id:Nat} {d:rj ks},∀e∈EH id ver ks d,e.2.1=ver/\I3 e.2.2
 | [],_,_=>fun e he=>by cases he
 | k::ks,id,d=>fun e he=>by
  rcases aH he with he | he
  ·exact Tf e he
  ·exact vZ e he
theorem GW {ver:Nat} : ∀ {rs:List RIt} {id:Nat} {d:rj (rP rs)},∀e∈xt ver id rs d,e.2.1=ver/\I3 e.2.2
 | [],_,_=>fun e he=>by cases he
 | r::rs,id,d=>fun e he=>by
  rcases aH he with he | he
  ·cases r with
   | slot t k=>exact vZ e he
   | box h T ks =>
    rcases ax he with rfl | he
    ·exact ⟨rfl,trivial⟩
    ·exact vZ e he
   | row h E u=>cases au he;exact ⟨rfl,trivial⟩
   | agg t k ks=>exact vZ e he
   | cur h T g E xs=>cases au he;exact ⟨rfl,trivial⟩
  ·exact GW e he
theorem GX: ∀ {rs:List RIt} {id:Nat} {d:rj (rP rs)},(∀e∈Cq id rs d,id<=e.2.1/\e.2.1<id+(rP rs).length)/\(Cq id rs d).Pairwise fun a b=>a.2.1≠b.2.1
 | [],_,_=>⟨fun e he=>(by cases he),List.Pairwise.nil⟩
 | r::rs,id,d=>by
  have hl:(rP (r::rs)).length=r.ks.length+(rP rs).length:=aC ..
  have ⟨k1,k2⟩:=GX (rs:=rs) (id:=id+r.ks.length) (d:=XE r.ks (rP rs) d)
  have hE: ∀e∈YQ id r (Vq r.ks (rP rs) d),e.2.1=id/\0<r.ks.length:=fun e he=>by
   cases r with
   | slot t k=>cases au he;exact ⟨rfl,Nat.one_pos⟩
   | agg t k ks=>cases au he;exact ⟨rfl,Nat.succ_pos _⟩
   | box _ _ _=>cases he
   | row _ _ _=>cases he
   | cur _ _ _ _ _=>cases he
  have hP:(YQ id r (Vq r.ks (rP rs) d)).Pairwise fun a b=>a.2.1≠b.2.1:=by
   cases r with
   | slot t k=>exact List.pairwise_singleton _ _
   | agg t k ks=>exact List.pairwise_singleton _ _
   | box _ _ _=>exact List.Pairwise.nil
   | row _ _ _=>exact List.Pairwise.nil
   | cur _ _ _ _ _=>exact List.Pairwise.nil
  refine ⟨fun e he=>?_,List.pairwise_append.2 ⟨hP,k2,fun a ha b hb=>?_⟩⟩
  ·rcases aH he with he | he
   ·grind
   grind
  grind
theorem KW {t v:Nat} : ∀ {l:List (Nat×Nat×AV)},MC l t=some v-> ∃x,look l t=some x/\(t,v,x)∈l
 | (u,k,x)::l,h=>by
  unfold MC at h
  split at h
  ·simp_all[look,if_pos,Nat.beq_refl]
  ·have ⟨y,h1,h2⟩:=KW h
   simp_all[look,if_neg]
theorem AQ {env:List (Nat×Nat×AV)} : ∀ {l:List (Nat×Nat×AV)},zV env l=true-> ∀e∈l,MC env e.1=some e.2.1
 | e::l,h,x,hx=>by
  have h:((match MC env e.1 with | some v=>Nat.beq v e.2.1 | none=>false)&&zV env l)=true:=h
  rw[ai] at h
  rcases ax hx with rfl | hx
  ·grind[hv,al]
  ·exact AQ h.2 x hx
theorem Di: ∀ {l chs rest:List Ent},I2 l chs=some rest->(∀e∈l,∀e'∈chs,e'.1=e.1->e'.2.1=e.2.1->e'=e)->chs.Perm (l++rest)
 | [],chs,rest,h,_=>by cases ad (show some _=some rest from h);rfl
 | e::l,chs,rest,h,k=>by
  have ⟨r,hr,h⟩:=bind_some (show (pull e.1 chs).bind _=some rest from h)
  have ⟨hv,h⟩:=aj h
  have ⟨p,he⟩:=fa hr
  have hre:=k e (by simp) r.1 (p.mem_iff.2 (by simp)) he (al hv)
  rw[hre] at p
  exact p.trans ((Di h fun x hx x' hx'=>k x (by grind) x' (p.mem_iff.2 (by grind))).cons e)
theorem yC: ∀ {l:List Ent},distinctH l=true-> ∀a∈l,∀b∈l,a.1=b.1->a=b
 | e::l,h,a,ha,b,hb,hab=>by
  have h:(Co e.1 l&&distinctH l)=true:=h
  rw[ai] at h
  rcases ax ha with h1 | h1
  ·rcases ax hb with h2 | h2
   ·rw[h1,h2]
   ·rw[h1] at hab;exact absurd hab.symm (oO h.1 h2)
  ·rcases ax hb with h2 | h2
   ·grind[absurd,oO]
   ·exact yC h.2 a h1 b h2 hab
theorem PA {l:List (Nat×Nat×AV)} (h:l.Pairwise fun a b=>a.2.1≠b.2.1): ∀a∈l,∀b∈l,a.2.1=b.2.1->a=b:=by
 induction l with
 | nil=>grind
 | cons e l ih =>
  intro a ha b hb hab
  have ⟨h1,h2⟩:=List.pairwise_cons.1 h
  rcases ax ha with k1 | k1
  ·rcases ax hb with k2 | k2
   ·rw[k1,k2]
   ·rw[k1] at hab;exact absurd hab (h1 b k2)
  ·rcases ax hb with k2 | k2
   ·rw[k2] at hab;exact absurd hab.symm (h1 a k1)
   ·exact ih h2 a k1 b k2 hab
structure CutOk (P:Program) (w0:World) (c:Cut) (s:Sg) (J0:Hp) (θ0:Th):Prop where
 nxt:c.nxt=s.nxt
 env: ∀e∈c.env,e∈s.env
 nd:c.env.Pairwise fun a b=>a.2.1≠b.2.1
 chs: ∀e∈c.chs,e∈s.chs
 dist:distinctH s.chs=true
 hdr: ∀h∈hdrsR c.its,h.id<s.nxt
 fine:Fine P w0 J0 θ0 s
 rit: ∀r∈c.its,RitOk P w0 J0 θ0 s.nxt r
section
variable {V:Env} {P:Program} {I:Hp} {w0 w:World} {F:Ch} {J J0:Hp} {θ θ0:Th} {s s':Sg} {a:Act} {c:Cut}
theorem v7 {ks:List Nat} {is:List It} (h:AP ks is s=some c) (hf:Fine P w0 J θ s):CutOk P w0 c s J θ:=by
 have ⟨rs,hrs,h⟩:=bind_some h
 have ⟨hd,h⟩:=aj h
 cases ad h
 have hres: ∀ {is:List It} {rs:List RIt},zU s is=some rs-> ∀h∈hdrsR rs,h.id<s.nxt:=by
  intro is
  induction is with
  | nil=>intro rs h x hx;cases ad (show some _=some rs from h);cases hx
  | cons i is ih =>
   intro rs h x hx
   have ⟨r,hr,h⟩:=bind_some (show (resolve s i).bind _=some rs from h)
   have ⟨rs',hrs',h⟩:=bind_some h
   cases ad h
   rcases aH hx with hx | hx
   ·cases i with
    | slot t k=>cases ad (show some _=some r from hr);cases hx
    | gone t=>cases hr
    | cur t =>
     have ⟨h0,h1,hr⟩:=bind_some (show (RE (look s.env t)).bind _=some r from hr)
     have ⟨⟨g,T,E,xs⟩,hb,hr⟩:=bind_some hr
     cases ad hr
     have ⟨ver,a,b,hm⟩:=KU hb
     have hok:=hf.chs _ hm
     rcases ax hx with rfl | hx
     ·exact hok.1
     ·cases au hx
      exact (show LV.ok P w0 J θ s.nxt (.rd _ (.sl E (.int .u8)) xs) from hok.2.2 _ (by simp)).1
    | agg t ks =>
     cases ks with
     | nil=>cases hr
     | cons k ks=>cases ad (show some _=some r from hr);cases hx
    | par i p E u =>
     have ⟨hi,hr⟩:=aj (show bL (Nat.blt i s.nxt) _=some r from hr)
     cases ad hr
     cases au hx
     simp_all
    | box t ks =>
     have ⟨h0,h1,hr⟩:=bind_some (show (RE (look s.env t)).bind _=some r from hr)
     have ⟨b,hb,hr⟩:=bind_some hr
     cases ad hr
     cases au hx
     exact (hf.chs _ ((kA hb).mem_iff.2 (List.mem_cons_self ..))).1
    | pbx i ks =>
     have ⟨b,hb,hr⟩:=bind_some (show (rO ⟨i,[]⟩ s.chs).bind _=some r from hr)
     cases ad hr
     cases au hx
     exact (hf.chs _ ((kA hb).mem_iff.2 (List.mem_cons_self ..))).1
    | row t E u =>
     have ⟨h0,h1,hr⟩:=bind_some (show (ZA (look s.env t)).bind _=some r from hr)
     cases ad hr
     cases au hx
     have ⟨e,he,h2⟩:=tv (XD h1)
     have:=hf.env e he
     rw[h2] at this
     exact this.1
   grind
 have hrit: ∀ {is:List It} {rs:List RIt},zU s is=some rs-> ∀r∈rs,RitOk P w0 J θ s.nxt r:=by
  intro is
  induction is with
  | nil=>intro rs h x hx;cases ad (show some _=some rs from h);cases hx
  | cons i is ih =>
   intro rs h x hx
   have ⟨r,hr,h⟩:=bind_some (show (resolve s i).bind _=some rs from h)
   have ⟨rs',hrs',h⟩:=bind_some h
   cases ad h
   rcases ax hx with rfl | hx
   ·cases i with
    | slot t k=>cases ad (show some _=some x from hr);trivial
    | gone t=>cases hr
    | agg t ks =>
     cases ks with
     | nil=>cases hr
     | cons k ks=>cases ad (show some _=some x from hr);trivial
    | par i p E u =>
     have ⟨hi,hr⟩:=aj (show bL (Nat.blt i s.nxt) _=some x from hr)
     cases ad hr
     trivial
    | box t ks =>
     have ⟨h0,h1,hr⟩:=bind_some (show (RE (look s.env t)).bind _=some x from hr)
     have ⟨b,hb,hr⟩:=bind_some hr
     cases ad hr
     trivial
    | pbx i ks =>
     have ⟨b,hb,hr⟩:=bind_some (show (rO ⟨i,[]⟩ s.chs).bind _=some x from hr)
     cases ad hr
     trivial
    | row t E u =>
     have ⟨h0,h1,hr⟩:=bind_some (show (ZA (look s.env t)).bind _=some x from hr)
     cases ad hr
     trivial
    | cur t =>
     have ⟨h0,h1,hr⟩:=bind_some (show (RE (look s.env t)).bind _=some x from hr)
     have ⟨⟨g,T,E,xs⟩,hb,hr⟩:=bind_some hr
     cases ad hr
     have ⟨ver,a,b,hm⟩:=KU hb
     exact (show LV.ok P w0 J θ s.nxt (.rd g (.sl E (.int .u8)) xs) from (hf.chs _ hm).2.2 _ (List.mem_cons_self ..))
   grind
 exact ⟨rfl,fun e he=>(List.mem_filter.1 (tz.mem he)).1,(hf.nd.filter _).sublist tz,fun e he=>(List.mem_filter.1 he).1,hd,hres hrs,hf,hrit hrs⟩
theorem AR (hC:CutOk P w0 c s J0 θ0) (hS:Sim P I w0 F V.n J θ s' a w) (hFr:Fr s θ0 s' θ) (hJ:J0.le J) {d:rj (rP c.its)} (h:c.of s'=some d): ∃θ',Sim P I w0 F V.n J θ' (c.at d) a w/\Fr s θ0 (c.at d) θ':=by
 unfold Cut.of at h
 have ⟨S1,F1⟩:=tx (hs:=py s' c.its) hS
 have ⟨S2,F2⟩:=tx (hs:=AO c.chs) S1
 generalize hs1:vY (AO c.chs) (vY (py s' c.its) s')=s1 at h S2 F2
 simp only at h
 have ⟨q,hq,h⟩:=bind_some h
 have ⟨rest2,hrest,h⟩:=bind_some h
 have ⟨henv,h⟩:=aj h
 cases ad h
 have hfr:=(hFr.trans F1).trans F2
 have hsame:=hfr.same
 have ⟨hsub,vals,hvl,hcut⟩:=KV (w:=w) (n1:=s.nxt) S2.fine.env hq S2.fine.chs fun r hr=>by
  have h1:=hC.rit r hr
  cases r with
  | cur h T g E xs=>exact LV.ok_same hsame (aF _) (show LV.ok P w0 J0 θ0 s.nxt (.rd g (.sl E (.int .u8)) xs) from h1) hJ
  | _=>trivial
 let θ':=fun i=>if i<s.nxt then θ i else vals.getD (i - s.nxt) undef
 have hθ:Same s.nxt θ θ':=fun i hi=>if_pos hi
 have hθ0:=hsame.trans hθ (aF _)
 have htop:c.top=s.nxt+(rP c.its).length:=by unfold Cut.top;rw[hC.nxt]
 have ⟨e1,e2,e3⟩:=hcut θ' s.nxt c.top (c.top+1) (fun i v hi=>by
  grind) (by omega) (aw _) (fun x hx=>⟨aX hθ (hC.hdr x hx),by have:=hC.hdr x hx;omega⟩) [F] S2.st
 have hstay: ∀e∈c.chs,∀e'∈q.2,e'.1=e.1->e'.2.1=e.2.1->e'=e:=fun e he e' he' h1 h2=>by
  have hes:=hC.chs e he
  have hek:=hC.fine.chs e hes
  rcases hfr.chs e' (hsub e' he') e'.1 e'.2.1 e'.2.2 ⟨rfl,.inl ⟨rfl,rfl⟩⟩ with h3 | ⟨e0,he0,h3⟩
  ·have:=hek.2.1;omega
  ·have:=yC hC.dist e0 he0 e hes (h3.1.trans h1)
   subst this
   rcases h3.2 with ⟨h4,h5⟩ | h4
   ·grind
   ·have ⟨y1,y2,y3⟩:=e0
    cases y3 with
    | hole over t dd u y f i k off lv =>
     have h5:=h4.1
     have h6:=hek.2.2.2.1
     omega
    | _=>exact h4.elim
 have hperm:=Di hrest hstay
 have hnew:Newer s.nxt s.chs (xt c.top s.nxt c.its q.1++c.chs):=fun e he h' ver x hs=>by
  rcases aH he with he | he
  ·have ⟨k1,k2⟩:=GW e he
   rcases hs.2 with ⟨h1,h2⟩ | h1
   ·omega
   ·have ⟨y1,y2,y3⟩:=e
    cases y3 with
    | hole _ _ _ _ _ _ _ _ _ _=>exact k2.elim
    | _=>exact h1.elim
  ·exact .inr ⟨e,hC.chs e he,hs⟩
 have hlook: ∀e∈c.env,look s1.env e.1=some e.2.2:=fun e he=>by
  have ⟨x,h1,h2⟩:=KW (AQ henv e he)
  have hes:=hC.env e he
  have:=PA hC.fine.nd _ (hfr.env _ h2 (hC.fine.ver e hes)) e hes rfl
  grind
 have hat:c.at q.1=⟨Cq s.nxt c.its q.1++c.env,xt c.top s.nxt c.its q.1++c.chs,c.top+1⟩:=by unfold Cut.at;rw[hC.nxt]
 have ⟨v1,v2⟩:=GX (rs:=c.its) (id:=s.nxt) (d:=q.1)
 refine ⟨θ',?_,by
  rw[hat]
  refine ⟨show s.nxt<=c.top+1 by rw[htop];omega,hθ0,fun e he hv0=>?_,hnew⟩
  rcases aH he with he | he
  ·have:=v1 e he;omega
  ·exact hC.env e he⟩
 rw[hat]
 refine ⟨S2.le,S2.agr.pick _ fun p hp=>?_,?_,fun e he=>?_,fun e he=>?_,List.pairwise_append.2 ⟨v2,hC.nd,fun x hx y hy hxy=>?_⟩,fun e he=>?_,S2.fine.lay⟩
 ·obtain ⟨e,he,rfl⟩:=List.mem_map.1 hp
  rcases aH he with he | he
  ·obtain ⟨-,x,h1,h2⟩:=e1 e he
   show (envL θ s1).lookup e.1=some (e.2.2.v θ')
   rw[h2];exact gz h1
  ·have hok:=hC.fine.env e (hC.env e he)
   show (envL θ s1).lookup e.1=some (e.2.2.v θ')
   rw[AV.v_same hθ0 hok,<-AV.v_same hsame hok];exact gz (hlook e he)
 ·have hch:c.chs.map (toCh P θ')=c.chs.map (toCh P θ):=List.map_congr_left fun e he=>by
   have hok:=hC.fine.chs e (hC.chs e he)
   rw[nT hθ0 hok,nT hsame hok]
  show St J w0 w ((xt c.top s.nxt c.its q.1++c.chs).map (toCh P θ')++ [F])
  rw[aS,hch]
  have h1:=e3.perm (List.Perm.append_left _ ((hperm.map (toCh P θ)).append_right [F]))
  rw[aS] at h1
  refine St.left (ds:=rest2.map (toCh P θ)) (h1.perm ?_)
  rw[aA,aA,aA]
  exact (List.Perm.append_left _ (List.Perm.append_left _ List.perm_append_comm))
 ·rcases aH he with he | he
  ·exact (e1 e he).1 _
  ·exact AV.ok_same hθ0 (show s.nxt<=c.top+1 by omega) hnew (hC.fine.env e (hC.env e he)) hJ
 ·rcases aH he with he | he
  ·have:=v1 e he
   show e.2.1<c.top+1
   omega
  ·have:=hC.fine.ver e (hC.env e he)
   show e.2.1<c.top+1
   omega
 ·have:=v1 x hx
  have:=hC.fine.ver y (hC.env y hy)
  omega
 ·rcases aH he with he | he
  ·exact e2 _ e he
  ·exact eL hθ0 (show s.nxt<=c.top+1 by omega) hnew (hC.fine.chs e (hC.chs e he)) hJ
end
end R
namespace R
open Go.RowKit
open D
def vF (t:Nat):List Nat->Bool
 | [] =>false
 | u::l=>Nat.beq u t || vF t l
theorem nV {t:Nat} : ∀ {l:List Nat},vF t l=true↔t∈l
 | [] =>by simp[vF]
 | u::l=>by
  unfold vF
  rw[Bool.or_eq_true,nV (l:=l),List.mem_cons]
  grind[al,Nat.beq_refl]
theorem I4 {t:Nat} {l:List Nat} :vF t l=false↔t∉l:=by
 grind[nV]
def AS:List Nat->Bool
 | [] =>true
 | u::l=> !vF u l&&AS l
theorem sj: ∀ {l:List Nat},AS l=true->l.Nodup
 | [],_=>List.nodup_nil
 | u::l,h=>by
  unfold AS at h
  rw[ai,Bool.not_eq_true',I4] at h
  exact List.nodup_cons.2 ⟨h.1,sj h.2⟩
structure OpK where
 reads:List Nat
 needs:List Nat
 gives:List Nat
 src:List (Nat×Option Nat)
structure Skel where
 ops:List OpK
 nres:Nat
 base:List Nat
 pre:List (List Nat)
 fin:List (Nat×Option Nat)
 left:List Nat
structure Sm where
 fact:Nat->(Nat->Value)->Prop
 chunk:Nat->(Nat->Value)->Ch
namespace Skel
def op (p:Skel) (i:Nat):OpK:=p.ops.getD i ⟨[],[],[],[]⟩
def before (p:Skel) (i:Nat):List Nat:=p.pre.getD i []
def srcOf (t:Nat):List (Nat×Option Nat)->Option (Option Nat)
 | [] =>none
 | (u,x)::l=>if Nat.beq u t then some x else srcOf t l
def ev (p:Skel) (L:List (Nat×Value)) (i:Nat) (vs:Nat->Value):Operand->Value
 | .tmp t=>match srcOf t (p.op i).src with
  | some (some j)=>vs j
  | _=>(L.lookup t).getD undef
 | x=>evL L x
end Skel
structure Loc (p:Skel) (q:Sm) (m:Nat):Prop where
 fact: ∀i,i<m-> ∀vs vs',(∀j,j=i\/j∈p.before i->vs' j=vs j)->q.fact i vs->q.fact i vs'
 chB: ∀x,x∈p.base-> ∀vs vs',q.chunk x vs'=q.chunk x vs
 chG: ∀i,i<m-> ∀x,x∈(p.op i).gives-> ∀vs vs',(∀j,j=i\/j∈p.before i->vs' j=vs j)->q.chunk x vs'=q.chunk x vs
def Skel.goal (p:Skel) (q:Sm) (P:Program) (I:Hp) (w0:World) (L:List (Nat×Value)) (i:Nat) (o:Oper):Prop:=
 ∀vs,(∀j,j∈p.before i->q.fact j vs)->
  match LR o vs with
  | some true=>OpT P I w0 o (p.ev L i vs) (((p.op i).reads++(p.op i).needs).map (q.chunk · vs)) (fun v=>q.fact i (upd vs i v)) (fun v=>((p.op i).reads++(p.op i).gives).map (q.chunk · (upd vs i v)))
  | some false=>q.fact i (upd vs i undef)/\(p.op i).needs= [] /\(p.op i).gives= []
  | none=>False
def isDst (ops:List Oper) (j t:Nat):Bool:=match ops[j]? with
 | some o=>match o.dst with
  | some u=>Nat.beq u t
  | none=>false
 | none=>false
theorem v8 {ops:List Oper} {j t:Nat} :isDst ops j t=true↔(ops.toArray[j]?).bind (·.dst)=some t:=by
 unfold isDst
 rw[List.getElem?_toArray]
 cases ops[j]? with
 | none=>simp
 | some o =>
  simp[aa]
  cases o.dst with
  | none=>simp
  | some u=>simp
def Vr (l:List Nat) (f:Nat->Bool):Bool:=match l with
 | [] =>false
 | x::l=>f x || Vr l f
def Cj (l:List Nat) (f:Nat->Bool):Bool:=match l with
 | [] =>true
 | x::l=>f x&&Cj l f
theorem I5 {f:Nat->Bool} : ∀ {l:List Nat},Vr l f=true↔ ∃x,x∈l/\f x=true
 | [] =>by simp[Vr]
 | x::l=>by unfold Vr;rw[Bool.or_eq_true,I5 (l:=l)];simp
theorem sk {f:Nat->Bool} : ∀ {l:List Nat},Cj l f=true↔ ∀x,x∈l->f x=true
 | [] =>by simp[Cj]
 | x::l=>by unfold Cj;rw[ai,sk (l:=l)];simp
def aaR (l:List Oper) (k:Nat) (f:Nat->Oper->Bool):Bool:=match l with
 | [] =>true
 | o::l=>f k o&&aaR l (k+1) f
theorem PB {f:Nat->Oper->Bool} : ∀ {l:List Oper} {k:Nat},aaR l k f=true-> ∀i o,l[i]? =some o->f (k+i) o=true
 | [],_,_,i,o,h=>by grind
 | x::l,k,h,i,o,hi=>by
  unfold aaR at h
  rw[ai] at h
  cases i with
  | zero=>grind
  | succ i =>
   have:=PB h.2 i o (by grind)
   grind
def Skel.okOp (p:Skel) (n:Nat) (kn:Nat->Bool) (ops:List Oper) (all:List Nat) (i:Nat) (o:Oper) (b:List Nat) (r:OpK):Bool:=
 noSelect o&&(dstOk n o.dst&&(Cj (edgesOf o) (fun j=>Nat.blt j i) &&
 (Cj b (fun j=>Nat.blt j i&&(vF j (edgesOf o) || Vr (edgesOf o) fun k=>vF j (p.before k))) &&
 (Cj (slotsOf ops.toArray o) (fun t=>match srcOf t r.src with
  | none=>false
  | some none=>kn t&&Cj all fun j=> !isDst ops j t || (Nat.beq j i || vF i (p.before j))
  | some (some j)=>isDst ops j t&&(vF j b&&Cj all fun k=> !isDst ops k t || (Nat.beq k j || (Nat.beq k i || (vF k (p.before j) || vF i (p.before k)))))) &&
 ((match o.guard with
  | none=>true
  | some (g,_)=>match ops[g]? with
   | none=>false
   | some og=>match og.dst with
    | none=>false
    | some t=>match srcOf t r.src with
     | some (some j)=>Nat.beq j g
     | _=>false) &&
 (Cj (r.reads++r.needs) (fun x=>Nat.blt x p.nres&&(vF x p.base || Vr b fun j=>vF x (p.op j).gives)) &&
 (Cj r.reads (fun x=>Cj all fun k=>Nat.beq k i || (!vF x (p.op k).needs || vF i (p.before k))) &&
 (Cj r.needs (fun x=>Cj all fun k=>Nat.beq k i || !vF x (p.op k).needs) &&
 (Cj r.gives (fun x=>Nat.blt x p.nres&&(!vF x p.base&&(!vF x (r.reads++r.needs)&&Cj all (fun k=>Nat.beq k i || !vF x (p.op k).gives)))) &&
 (AS (r.reads++r.needs)&&AS (r.reads++r.gives)))))))))))
def Skel.ok (p:Skel) (n:Nat) (kn:Nat->Bool) (ops:List Oper):Bool:=
 aaR ops 0 fun i o=>p.okOp n kn ops (List.range ops.length) i o (p.before i) (p.op i)
def Skel.okB (p:Skel) (kn:Nat->Bool) (ops:List Oper):Bool:=
 let all:=List.range ops.length
 AS p.base&&(AS p.left&&(Cj p.left (fun x=>(vF x p.base || Vr all fun j=>vF x (p.op j).gives)&&Cj all fun j=> !vF x (p.op j).needs) &&
 (Cj (p.base++all.flatMap fun j=>(p.op j).gives) (fun x=>vF x p.left || Vr all fun j=>vF x (p.op j).needs) &&
 p.fin.all fun (t,s)=>match s with
  | none=>kn t&&Cj all fun j=> !isDst ops j t
  | some j=>Nat.blt j ops.length&&(isDst ops j t&&Cj all fun k=> !isDst ops k t || (Nat.beq k j || vF k (p.before j))))))
def Skel.out (p:Skel) (L:List (Nat×Value)) (vs:Nat->Value):List (Nat×Value):=
 p.fin.map fun (t,s)=>(t,match s with | some j=>vs j | none=>(L.lookup t).getD undef)
structure Inv (p:Skel) (q:Sm) (C:List Ch) (I:Hp) (w0:World) (n:Nat) (L:List (Nat×Value)) (ops:Array Oper) (S:Nat->Bool) (vs:Nat->Value) (a:Act) (w:World):Prop where
 closed: ∀i,S i=true-> ∀j,j∈p.before i->S j=true
 lt: ∀i,S i=true->i<ops.size
 defers:a.defers= []
 size:a.tmps.size=n
 old: ∀t v,L.lookup t=some v->(∀j,S j=true->(ops[j]?).bind (·.dst)≠some t)->a.tmps.getD t undef=v
 new: ∀j t,S j=true->(ops[j]?).bind (·.dst)=some t->(∀k,S k=true->(ops[k]?).bind (·.dst)=some t->k=j\/k∈p.before j)->a.tmps.getD t undef=vs j
 facts: ∀i,S i=true->q.fact i vs
 st: ∃l:List Nat,l.Nodup/\(∀x,x∈l↔(x∈p.base\/ ∃j,S j=true/\x∈(p.op j).gives)/\ ¬ ∃j,S j=true/\x∈(p.op j).needs)/\St I w0 w (l.map (q.chunk · vs)++C)
structure Skel.Good (p:Skel) (n:Nat) (L:List (Nat×Value)) (ops:Array Oper) (i:Nat) (o:Oper):Prop where
 sel:noSelect o=true
 dst:dstOk n o.dst=true
 edges: ∀j,j∈edgesOf o->j<i
 bef: ∀j,j∈p.before i->j<i/\(j∈edgesOf o\/ ∃k,k∈edgesOf o/\j∈p.before k)
 slots: ∀t,t∈slotsOf ops o->(Skel.srcOf t (p.op i).src=some none/\(L.lookup t).isSome=true/\ ∀j,j<ops.size->(ops[j]?).bind (·.dst)=some t->j=i\/i∈p.before j) \/
  ∃j,Skel.srcOf t (p.op i).src=some (some j)/\(ops[j]?).bind (·.dst)=some t/\j∈p.before i/\ ∀k,k<ops.size->(ops[k]?).bind (·.dst)=some t->k=j\/k=i\/k∈p.before j\/i∈p.before k
 guard: ∀g want,o.guard=some (g,want)-> ∃t,(ops[g]?).bind (·.dst)=some t/\Skel.srcOf t (p.op i).src=some (some g)
 have_: ∀x,x∈(p.op i).reads++(p.op i).needs->x<p.nres/\(x∈p.base\/ ∃j,j∈p.before i/\x∈(p.op j).gives)
 keep: ∀x,x∈(p.op i).reads-> ∀k,k<ops.size->x∈(p.op k).needs->k=i\/i∈p.before k
 once: ∀x,x∈(p.op i).needs-> ∀k,k<ops.size->x∈(p.op k).needs->k=i
 give: ∀x,x∈(p.op i).gives->x<p.nres/\x∉p.base/\x∉(p.op i).reads++(p.op i).needs/\ ∀k,k<ops.size->x∈(p.op k).gives->k=i
 nd1:((p.op i).reads++(p.op i).needs).Nodup
 nd2:((p.op i).reads++(p.op i).gives).Nodup
theorem YS {a b:Nat} :Nat.beq a b=true↔a=b:=⟨al,fun h=>by simp_all⟩
theorem YT {a b:Nat} :Nat.blt a b=true↔a<b:=by rw[Nat.blt_eq]
theorem Skel.good_of_ok {p:Skel} {n:Nat} {kn:Nat->Bool} {L:List (Nat×Value)} {ops:List Oper} (hkn: ∀t,kn t=true->(L.lookup t).isSome=true) (h:p.ok n kn ops=true) {i:Nat} {o:Oper} (hi:ops[i]? =some o):p.Good n L ops.toArray i o:=by
 have h:=PB h i o hi
 rw[Nat.zero_add] at h
 unfold Skel.okOp at h
 simp only[ai,sk,I5,nV,YT,YS,Bool.or_eq_true,Bool.not_eq_true',I4] at h
 have ⟨h1,h2,h2',h3,h4,h5,h7,h8,h9,h10,h11,h12⟩:=h
 refine ⟨h1,h2,h2',fun j hj=>?_,fun t ht=>?_,fun g want hg=>?_,fun x hx=>h7 x hx,fun x hx k hk hn=>?_,fun x hx k hk hn=>?_,fun x hx=>?_,sj h11,sj h12⟩
 ·grind
 ·have:=h4 t ht
  split at this
  ·grind
  ·simp[ai,sk,Bool.or_eq_true,Bool.not_eq_true',YS,nV] at this
   grind[v8]
  ·rename_i j he
   simp[ai,sk,Bool.or_eq_true,Bool.not_eq_true',YS,nV] at this
   grind[v8]
 ·rw[hg] at h5
  simp only at h5
  split at h5
  ·cases h5
  ·rename_i og hog
   split at h5
   ·cases h5
   ·rename_i t ht
    split at h5
    ·rename_i j hj
     refine ⟨t,by rw[List.getElem?_toArray,hog];exact ht,?_⟩
     rw[<-al h5];exact hj
    ·cases h5
 ·grind
 ·grind
 grind
section
variable {p:Skel} {q:Sm} {kn:Nat->Bool} {C:List Ch} {P:Program} {I:Hp} {w0:World} {n:Nat} {L:List (Nat×Value)} {ops:List Oper} {S:Nat->Bool} {vs:Nat->Value} {a:Act} {w:World} {i:Nat} {o:Oper}
theorem Inv.step (hkn: ∀t,kn t=true->(L.lookup t).isSome=true) (hl:Loc p q ops.length) (hok:p.ok n kn ops=true) (hg:p.goal q P I w0 L i o) (hi:ops[i]? =some o) (h:Inv p q C I w0 n L ops.toArray S vs a w) (hn:S i=false) (hpre: ∀j,j∈p.before i->S j=true) {K:Act->World->Prop} {Q:Exit->Act->World->Prop}
  (hK: ∀vs a w,Inv p q C I w0 n L ops.toArray (fun j=>S j || j==i) vs a w->K a w):wpOp P ops.toArray Q i K a w:=by
 have G:=Skel.good_of_ok hkn hok hi
 have him:i<ops.toArray.size:=by have:=(List.getElem?_eq_some_iff.1 hi).1;simpa using this
 have hcl: ∀j,S j=true->i∉p.before j:=fun j hj hb=>by rw[h.closed j hj i hb] at hn;cases hn
 have slot: ∀t,t∈slotsOf ops.toArray o->a.tmps.getD t undef=p.ev L i vs (.tmp t):=by
  intro t ht
  rcases G.slots t ht with ⟨e1,e2,e3⟩ | ⟨j,e1,e2,e3,e4⟩
  ·have ⟨v,hv⟩:=Option.isSome_iff_exists.1 e2
   simp only[Skel.ev,e1,hv,Option.getD_some]
   refine h.old t v hv fun j hj hd=>?_
   grind
  ·simp only[Skel.ev,e1]
   refine h.new j t (hpre j e3) e2 fun k hk hd=>?_
   grind
 have hev: ∀x,x∈o.op.operands->a.eval x=p.ev L i vs x:=by
  intro x hx
  cases x with
  | tmp t =>
   refine slot t ?_
   refine aZ _ (List.mem_filterMap.2 ⟨.tmp t,by grind,rfl⟩)
  | _=>rfl
 have hfacts:=fun j hj=>h.facts j (hpre j hj)
 have goal:=hg vs hfacts
 have main: ∀v w',q.fact i (upd vs i v)->(∃l:List Nat,l.Nodup/\(∀x,x∈l↔(x∈p.base\/ ∃j,(S j || j==i)=true/\x∈(p.op j).gives)/\ ¬ ∃j,(S j || j==i)=true/\x∈(p.op j).needs)/\St I w0 w' (l.map (q.chunk · (upd vs i v))++C))->K (a.put o.dst v) w':=by
  intro v w' hf hst
  refine hK (upd vs i v) _ _ ⟨?_,?_,?_,?_,?_,?_,?_,hst⟩
  ·intro j hj k hk
   simp[Bool.or_eq_true,beq_iff_eq] at hj⊢
   rcases hj with hj | rfl
   ·exact .inl (h.closed j hj k hk)
   grind
  ·intro j hj
   simp[Bool.or_eq_true,beq_iff_eq] at hj
   rcases hj with hj | rfl
   ·exact h.lt j hj
   omega
  ·cases hd:o.dst <;> simp[Act.put,h.defers]
  ·cases hd:o.dst <;> simp[Act.put,h.size]
  ·intro t u hu hj
   have hne:o.dst≠some t:=by
    grind
   have h0:=h.old t u hu fun j hS=>hj j (by grind)
   cases hd:o.dst with
   | none=>exact h0
   | some d =>
    show (a.tmps.setIfInBounds d v).getD t undef=u
    simp_all
  ·intro j t hj hd hk
   simp[Bool.or_eq_true,beq_iff_eq] at hj
   by_cases hdt:o.dst=some t
   ·have hji:j=i:=by
     rcases hj with hj | rfl
     ·grind
     ·rfl
    subst hji
    have hlt:=G.dst
    rw[hdt] at hlt
    have hlt:t<n:=by simpa [dstOk] using hlt
    rw[hdt,iN]
    exact D.vG (by rw[h.size];omega)
   ·have hji:j≠i:=by
     rintro rfl
     rw[show (ops.toArray[j]?)=some o from by grind] at hd
     exact hdt hd
    have hjS:S j=true:=by rcases hj with hj | e;exact hj;exact absurd e hji
    rw[Kf hji]
    have h0:=h.new j t hjS hd fun k hk'=>hk k (by grind)
    cases hd:o.dst with
    | none=>exact h0
    | some d =>
     show (a.tmps.setIfInBounds d v).getD t undef=_
     simp_all
  ·intro j hj
   simp[Bool.or_eq_true,beq_iff_eq] at hj
   by_cases e:j=i
   ·grind
   ·have hjS:S j=true:=by rcases hj with hj | e';exact hj;exact absurd e' e
    refine hl.fact j (by simpa using h.lt j hjS) vs _ (fun k hk=>Kf fun e'=>?_) (h.facts j hjS)
    grind
 have ⟨l,l1,l2,l3⟩:=h.st
 have hstay: ∀v x,x∈l->q.chunk x (upd vs i v)=q.chunk x vs:=by
  intro v x hx
  rcases ((l2 x).1 hx).1 with hb | ⟨j,hj,hxj⟩
  ·exact hl.chB x hb vs _
  ·refine hl.chG j (by simpa using h.lt j hj) x hxj vs _ fun k hk=>Kf fun e'=>?_
   grind
 unfold wpOp
 rw[show (ops.toArray[i]?)=some o from by grind]
 simp only
 have hwant:Region.wanted o (yielded ops.toArray a.tmps)=true↔LR o vs=some true:=by
  unfold Region.wanted LR
  cases hgd:o.guard with
  | none=>simp
  | some q =>
   have ⟨g,want⟩:=q
   have ⟨t,e1,e2⟩:=G.guard g want hgd
   have ht:t∈slotsOf ops.toArray o:=by
    unfold slotsOf Oper.looksAt
    rw[hgd]
    simp only
    rw[e1];simp
   have hv:=slot t ht
   simp only[Skel.ev,e2] at hv
   have hy:yielded ops.toArray a.tmps g=match vs g with | .bool b=>some b | _=>none:=by
    unfold yielded
    rw[e1]
    simp[aa]
    rw[Array.getD_eq_getD_getElem?] at hv
    cases ht:a.tmps[t]? with
    | none =>
     rw[ht] at hv
     rw[<-hv];rfl
    | some u =>
     grind
   grind
 cases hw:LR o vs with
 | none=>grind
 | some b =>
  cases b with
  | false =>
   rw[hw] at goal
   rw[if_neg (by grind)]
   refine main undef w goal.1 ⟨l,l1,fun x=>?_,?_⟩
   ·grind
   grind[List.map_congr_left,undef]
  | true =>
   rw[hw] at goal
   rw[if_pos (by grind)]
   refine .inl ?_
   have hin: ∀x,x∈(p.op i).reads++(p.op i).needs->x∈l:=by
    intro x hx
    rw[l2]
    refine ⟨(G.have_ x hx).2.imp id fun ⟨j,hj,e⟩=>⟨j,hpre j hj,e⟩,fun ⟨k,hk,e⟩=>?_⟩
    rcases aH hx with hx | hx
    ·rcases G.keep x hx k (h.lt k hk) e with rfl | e'
     ·grind
     grind
    ·have:=G.once x hx k (h.lt k hk) e
     grind
   let r:=l.filter fun x=> !((p.op i).reads++(p.op i).needs).contains x
   have hr: ∀x,x∈r↔x∈l/\x∉(p.op i).reads++(p.op i).needs:=by
    simp[r,List.mem_filter]
   have hrn:r.Nodup:=l1.filter _
   have hperm:l.Perm (((p.op i).reads++(p.op i).needs)++r):=by
    refine (List.perm_ext_iff_of_nodup l1 (List.nodup_append.2 ⟨G.nd1,hrn,fun x hx y hy e=>?_⟩)).2 fun x=>?_
    ·subst e;exact ((hr x).1 hy).2 hx
    ·rw[List.mem_append,hr]
     constructor
     ·intro hx
      by_cases e:x∈(p.op i).reads++(p.op i).needs
      ·exact .inl e
      ·exact .inr ⟨hx,e⟩
     ·rintro (e | e)
      ·exact hin x e
      ·exact e.1
   have hs:=l3.perm ((hperm.map (q.chunk · vs)).append_right C)
   rw[aS,aA] at hs
   have hsame:=qx G.sel hev
   have hu:=goal w _ hs
   rw[<-hsame] at hu
   refine hu.wp fun v w' hv=>main v w' hv.1 ⟨((p.op i).reads++(p.op i).gives)++r,?_,fun x=>?_,?_⟩
   ·refine List.nodup_append.2 ⟨G.nd2,hrn,fun x hx y hy e=>?_⟩
    subst e
    rcases aH hx with hx | hx
    ·exact ((hr x).1 hy).2 (aZ _ hx)
    ·obtain ⟨-,g1,g2,g3⟩:=G.give x hx
     rcases ((l2 x).1 ((hr x).1 hy).1).1 with e | ⟨j,hj,e⟩
     ·exact g1 e
     ·have:=g3 j (h.lt j hj) e
      subst this;rw[hn] at hj;cases hj
   ·have hgx:x∈(p.op i).gives->x∉p.base/\(∀k,S k=true->x∉(p.op k).needs)/\x∉(p.op i).needs:=by
     intro hx
     obtain ⟨-,g1,g2,g3⟩:=G.give x hx
     refine ⟨g1,fun k hk e=>?_,fun e=>g2 (bc _ e)⟩
     have hkm:k<ops.length:=by simpa using h.lt k hk
     rcases ((Skel.good_of_ok (L:=L) hkn hok (List.getElem?_eq_getElem hkm)).have_ x (bc _ e)).2 with e' | ⟨j,hj,e'⟩
     ·exact g1 e'
     ·have:=g3 j (h.lt j (h.closed k hk j hj)) e'
      subst this
      exact hcl k hk hj
    rw[List.mem_append,hr]
    constructor
    ·rintro (hx | ⟨hx,hx2⟩)
     ·rcases aH hx with hx | hx
      ·have ⟨e1,e2⟩:=(l2 x).1 (hin x (aZ _ hx))
       refine ⟨e1.imp id fun ⟨j,hj,e⟩=>⟨j,by simp[hj],e⟩,fun ⟨j,hj,e⟩=>?_⟩
       simp[Bool.or_eq_true,beq_iff_eq] at hj
       rcases hj with hj | rfl
       ·exact e2 ⟨j,hj,e⟩
       ·exact (List.nodup_append.1 G.nd1).2.2 x hx x e rfl
      ·have ⟨g1,g2,g3⟩:=hgx hx
       refine ⟨.inr ⟨i,by simp,hx⟩,fun ⟨j,hj,e⟩=>?_⟩
       simp[Bool.or_eq_true,beq_iff_eq] at hj
       rcases hj with hj | rfl
       ·exact g2 j hj e
       ·exact g3 e
     ·have ⟨e1,e2⟩:=(l2 x).1 hx
      refine ⟨e1.imp id fun ⟨j,hj,e⟩=>⟨j,by simp[hj],e⟩,fun ⟨j,hj,e⟩=>?_⟩
      simp[Bool.or_eq_true,beq_iff_eq] at hj
      rcases hj with hj | rfl
      ·exact e2 ⟨j,hj,e⟩
      ·exact hx2 (bc _ e)
    ·rintro ⟨e1,e2⟩
     have e2': ¬ ∃j,S j=true/\x∈(p.op j).needs:=fun ⟨j,hj,e⟩=>e2 ⟨j,by simp[hj],e⟩
     have e2i:=fun e=>e2 ⟨i,by simp,e⟩
     by_cases hxg:x∈(p.op i).gives
     ·exact .inl (bc _ hxg)
     ·have hxl:x∈l:=by
       rw[l2]
       refine ⟨e1.imp id fun ⟨j,hj,e⟩=>?_,e2'⟩
       simp[Bool.or_eq_true,beq_iff_eq] at hj
       rcases hj with hj | rfl
       ·exact ⟨j,hj,e⟩
       ·exact absurd e hxg
      by_cases e:x∈(p.op i).reads++(p.op i).needs
      ·rcases aH e with e | e
       ·exact .inl (aZ _ e)
       ·exact absurd e e2i
      ·exact .inr ⟨hxl,e⟩
   ·rw[aS,aA]
    have:=List.map_congr_left fun x hx=>hstay v x ((hr x).1 hx).1
    rw[this]
    exact hv.2
theorem XJ (hkn: ∀t,kn t=true->(L.lookup t).isSome=true) (hl:Loc p q ops.length) (hok:p.ok n kn ops=true) (hg: ∀i o,ops[i]? =some o->p.goal q P I w0 L i o) {Q:Exit->Act->World->Prop}
  (hQ: ∀vs a w,Inv p q C I w0 n L ops.toArray (fun j=>decide (j<ops.length)) vs a w->Q .normal a w): ∀(fuel:Nat) (listed:Array Bool) (vs:Nat->Value) (a:Act) (w:World),listed.size=ops.length->D.leftOf ops.length listed<=fuel->
   Inv p q C I w0 n L ops.toArray (fun j=>listed.getD j false) vs a w->wpAny P .any ops.toArray Q fuel listed a w:=by
 have done: ∀(listed:Array Bool) (vs:Nat->Value) (a:Act) (w:World),(∀i,i<ops.length->listed.getD i false=true)->Inv p q C I w0 n L ops.toArray (fun j=>listed.getD j false) vs a w->Q .normal a w:=by
  intro listed vs a w hall h
  refine hQ vs a w ?_
  have e:(fun j=>listed.getD j false)=fun j=>decide (j<ops.length):=by
   funext j
   by_cases hj:j<ops.length
   ·grind
   ·cases hl:listed.getD j false with
    | false=>grind
    | true=>exact absurd (by simpa using h.lt j hl) hj
  rw[<-e];exact h
 have nil: ∀(listed:Array Bool) (vs:Nat->Value) (a:Act) (w:World),listed.size=ops.length->Inv p q C I w0 n L ops.toArray (fun j=>listed.getD j false) vs a w->Region.ready .any ops.toArray listed= [] ->Q .normal a w:=by
  intro listed vs a w hsz h hr
  refine done listed vs a w (fun i=>?_) h
  induction i using Nat.strongRecOn with
  | _ i ih =>
   intro hi
   cases hl:listed.getD i false with
   | true=>rfl
   | false =>
    have:i∈Region.ready .any ops.toArray listed:=by
     refine D.mem_ready.2 ⟨by omega,?_,fun o ho j hj=>?_⟩
     ·grind
     ·have hj':=(Skel.good_of_ok (L:=L) hkn hok (show ops[i]? =some o by grind)).edges j hj
      grind
    grind
 intro fuel
 induction fuel with
 | zero =>
  intro listed vs a w hsz hf h
  have hall: ∀i,i<ops.length->listed.getD i false=true:=by
   intro i hi
   cases hl:listed.getD i false with
   | true=>rfl
   | false =>
    have hz:=List.eq_nil_of_length_eq_zero (Nat.le_zero.1 hf)
    simp_all
  refine ⟨?_,done listed vs a w hall h⟩
  cases hr:Region.ready .any ops.toArray listed with
  | nil=>rfl
  | cons i l =>
   have:i∈Region.ready .any ops.toArray listed:=by rw[hr];simp
   grind[D.mem_ready,Array.getD_eq_getD_getElem?,Array.getElem?_eq_getElem]
 | succ fuel ih =>
  intro listed vs a w hsz hf h
  refine ⟨nil listed vs a w hsz h,fun i hi=>?_⟩
  have ⟨h1,h2,h3⟩:=D.mem_ready.1 hi
  have h1':i<ops.length:=by simpa using h1
  have hio:=List.getElem?_eq_getElem h1'
  have hn:listed.getD i false=false:=by
   rw[Array.getD_eq_getD_getElem?,Array.getElem?_eq_getElem (by omega)] at h2⊢
   simpa using h2
  have hgi:=hg i _ hio
  refine h.step hkn hl hok hgi hio hn (fun j hj=>?_) fun vs a w hI=>?_
  ·rcases ((Skel.good_of_ok (L:=L) hkn hok hio).bef j hj).2 with e | ⟨k,hk,e⟩
   ·grind
   ·exact h.closed k (h3 _ (by grind) k hk) j e
  ·refine ih _ vs a w (by grind) ?_ ?_
   ·have hlt:D.leftOf ops.length (listed.setIfInBounds i true)<D.leftOf ops.length listed:=by
     unfold D.leftOf
     have hsub:(List.range ops.length).filter (fun j=> !(listed.setIfInBounds i true).getD j false)=((List.range ops.length).filter (fun j=> !listed.getD j false)).filter (fun j=>j !=i):=by
      rw[List.filter_filter]
      refine List.filter_congr fun j hj=>?_
      by_cases e:i=j
      ·simp_all
      ·rw[Array.getD_eq_getD_getElem?,Array.getElem?_setIfInBounds_ne e,<-Array.getD_eq_getD_getElem?]
       grind
     rw[hsub]
     refine List.length_filter_lt_length_iff_exists.2 ⟨i,List.mem_filter.2 ⟨List.mem_range.2 h1',by grind⟩,by simp⟩
    omega
   ·have e:(fun j=>(listed.setIfInBounds i true).getD j false)=fun j=>(listed.getD j false || j==i):=by
     funext j
     by_cases e:i=j
     ·simp_all
     ·rw[Array.getD_eq_getD_getElem?,Array.getElem?_setIfInBounds_ne e,<-Array.getD_eq_getD_getElem?]
      grind
    grind
theorem Tg {id:Nat} {C0:List Ch} {Q:Exit->Act->World->Prop} (p:Skel) (q:Sm) (hkn: ∀t,kn t=true->(L.lookup t).isSome=true) (hl:Loc p q ops.length) (hm:P.follows .mixedOrders=true) (ha:Agr n a L) (hs:St I w0 w C0) (hp:C0.Perm (p.base.map (q.chunk · fun _=>undef)++C))
  (hok:p.ok n kn ops=true) (hB:p.okB kn ops=true) (hg: ∀i o,ops[i]? =some o->p.goal q P I w0 L i o)
  (k: ∀vs a w,(∀i,i<ops.length->q.fact i vs)->Agr n a (p.out L vs)->St I w0 w (p.left.map (q.chunk · vs)++C)->Q .normal a w):(Code.region id ops.toArray true).wp P Q a w:=by
 unfold Skel.okB at hB
 simp only[ai,sk,I5,nV,Bool.or_eq_true,Bool.not_eq_true',I4,List.all_eq_true] at hB
 have ⟨hb1',hb3',hb4,hb5,hb6⟩:=hB
 have hb1:=sj hb1'
 have hb3:=sj hb3'
 refine wp_region_any hm (XJ (C:=C) hkn hl hok hg (fun vs a w h=>k vs a w (fun i hi=>h.facts i (by grind)) ?_ ?_) _ _ (fun _=>undef) a _ (by simp) ?_ ?_)
 ·refine ⟨h.defers,h.size,fun t v hv=>?_⟩
  have key: ∀(M:List (Nat×Option Nat)),(∀q∈M,q∈p.fin)->(M.map fun (t,s)=>(t,match s with | some j=>vs j | none=>(L.lookup t).getD undef)).lookup t=some v->a.tmps.getD t undef=v:=by
   intro M
   induction M with
   | nil=>grind
   | cons q M ih =>
    intro hM hv
    have ⟨t',s'⟩:=q
    by_cases e:t=t'
    ·subst e
     simp[BEq.rfl,Option.some.injEq] at hv
     have hf:=hb6 (t,s') (hM _ (by simp))
     cases s' with
     | none =>
      simp only[ai,sk,Bool.not_eq_true'] at hf hv
      have ⟨u,hu⟩:=Option.isSome_iff_exists.1 (hkn _ hf.1)
      rw[hu] at hv
      subst hv
      refine h.old t u hu fun j hj hd=>?_
      have hj:j<ops.length:=by simpa using hj
      have:=hf.2 j (List.mem_range.2 hj)
      grind[v8]
     | some j =>
      simp only[ai,sk,YT,YS,Bool.or_eq_true,Bool.not_eq_true',nV] at hf hv
      rw[<-hv]
      refine h.new j t (by grind) (v8.1 hf.2.1) fun k hk hd=>?_
      have hk:k<ops.length:=by simpa using hk
      rcases hf.2.2 k (List.mem_range.2 hk) with e | e
      ·rw[v8.2 hd] at e;cases e
      ·exact e
    grind
  exact key _ (fun _ h=>h) hv
 ·have ⟨l,l1,l2,l3⟩:=h.st
  refine l3.perm (List.Perm.append_right C (List.Perm.map _ ((List.perm_ext_iff_of_nodup l1 hb3).2 fun x=>?_)))
  grind
 ·grind[D.leftOf,Nat.le_trans,List.length_filter_le]
 ·have hf: ∀j,(Array.replicate ops.toArray.size false).getD j false=false:=by
   intro j
   rw[Array.getD_eq_getD_getElem?,Array.getElem?_replicate]
   split <;> rfl
  refine ⟨fun i hi=>?_,fun i hi=>?_,ha.1,ha.2.1,fun t v hv _=>ha.2.2 t v hv,fun j t hj=>?_,fun i hi=>?_,p.base,hb1,fun x=>?_,?_⟩
  ·rw[hf] at hi;cases hi
  ·rw[hf] at hi;cases hi
  ·rw[hf] at hj;cases hj
  ·rw[hf] at hi;cases hi
  ·constructor
   ·intro hx
    refine ⟨.inl hx,fun ⟨j,hj,_⟩=>?_⟩
    rw[hf] at hj;cases hj
   ·rintro ⟨h1 | ⟨j,hj,_⟩,_⟩
    ·exact h1
    ·rw[hf] at hj;cases hj
  ·exact (hs.drawn (w':= { w with drawn:=w.drawn+1 }) rfl rfl rfl rfl).perm hp
end
end R
namespace R
open Go.RowKit
open D
def LV.ids:LV->List Nat
 | .val _=>[]
 | .nb _=>[]
 | .rd h _ _=>[h.id]
 | .own h=>[h.id]
 | .ptr h _=>[h.id]
 | .fn h _ _ _=>[h.id]
 | .fz h _ _ _ _=>[h.id]
 | .fzf h _ _ _ _=>[h.id]
 | .rdn h _ _ _=>[h.id]
def PC:List LV->List Nat
 | [] =>[]
 | x::l=>x.ids++PC l
def aaS:List (Bool×List LV)->List Nat
 | [] =>[]
 | y::l=>PC y.2++aaS l
def AV.ids:AV->List Nat
 | .one x=>x.ids
 | .agg xs=>PC xs
 | .tup ys=>aaS ys
 | .elr h _ _ _ _ _ _=>[h.id]
 | .elo h _ _ _ _ _ _ _=>[h.id]
 | .sub h _ _ _ _ _=>[h.id]
 | .pre h _ _ _ _ _=>[h.id]
 | .vw u h _ _ _ _=>[u.id,h.id]
 | .xv _ u h _ _ _ _=>[u.id,h.id]
 | .capv h _=>[h.id]
 | .any h=>[h.id]
 | .und=>[]
def Chk.ids:Chk->List Nat
 | .own _ _=>[]
 | .blk _ cs=>PC cs
 | .hole _ _ _ _ _ _ _ _ _ lv=>lv.ids
 | .box _ _ _=>[]
 | .map _ _ _ _ _=>[]
 | .clo _ first capt=>aaS first++PC capt
def Dj (h:Hdr) (c:Chk):List Nat:=h.id::c.ids
theorem qD {x:LV} {i:Nat} : ∀ {l:List LV},x∈l->i∈x.ids->i∈PC l
 | y::l,h,hi=>by
  rcases ax h with rfl | h
  ·exact aZ _ hi
  ·exact bc _ (qD h hi)
theorem zX {y:Bool×List LV} {i:Nat} : ∀ {l:List (Bool×List LV)},y∈l->i∈PC y.2->i∈aaS l
 | z::l,h,hi=>by
  rcases ax h with rfl | h
  ·exact aZ _ hi
  ·exact bc _ (zX h hi)
section
variable {P:Program} {w0:World} {J:Hp} {θ θ':Th} {n m:Nat} {chs chs':List Ent}
theorem fh {h:Hdr} (k:θ' h.id=θ h.id):hv θ' h=hv θ h:=by unfold hv;rw[k]
theorem LV.v_loc {x:LV} (h: ∀i∈x.ids,θ' i=θ i):x.v θ'=x.v θ:=by
 cases x with
 | val _=>rfl
 | nb _=>rfl
 | rd k t d=>exact fh (h _ (by simp[LV.ids]))
 | own k=>exact fh (h _ (by simp[LV.ids]))
 | ptr k off=>show Value.pointer (some ⟨bk (hv θ' k),off,none⟩)=_;rw[fh (h _ (by simp[LV.ids]))];rfl
 | fn k ps rs e=>exact fh (h _ (by simp[LV.ids]))
 | fz k T t d off=>show Value.pointer (some ⟨bk (hv θ' k),off,none⟩)=_;rw[fh (h _ (by simp[LV.ids]))];rfl
 | fzf k T ps rs e=>show Value.pointer (some ⟨bk (hv θ' k),0,none⟩)=_;rw[fh (h _ (by simp[LV.ids]))];rfl
 | rdn k b t d=>exact fh (h _ (by simp[LV.ids]))
theorem LV.ok_loc {x:LV} (h: ∀i∈x.ids,θ' i=θ i) (k:x.ok P w0 J θ n):x.ok P w0 J θ' n:=by
 cases x with
 | val _=>exact k
 | nb _=>trivial
 | rd g t d=>exact ⟨k.1,by rw[fh (h _ (by simp[LV.ids]))];exact k.2⟩
 | own g=>exact ⟨k.1,by rw[fh (h _ (by simp[LV.ids]))];exact k.2⟩
 | ptr g off=>exact k
 | fn g ps rs e=>exact ⟨k.1,by rw[fh (h _ (by simp[LV.ids]))];exact k.2⟩
 | fz g T t d off=>exact ⟨k.1,by rw[fh (h _ (by simp[LV.ids]))];exact k.2⟩
 | fzf g T ps rs e=>exact ⟨k.1,by rw[fh (h _ (by simp[LV.ids]))];exact k.2⟩
 | rdn g b t d=>exact ⟨k.1,by rw[fh (h _ (by simp[LV.ids]))];exact k.2⟩
theorem EI {xs:List LV} (h: ∀i∈PC xs,θ' i=θ i):xs.map (·.v θ')=xs.map (·.v θ):=List.map_congr_left fun x hx=>LV.v_loc fun i hi=>h i (qD hx hi)
theorem GY {y:Bool×List LV} (hy: ∀i∈PC y.2,θ' i=θ i):kt θ' y=kt θ y:=by
 unfold kt
 rw[EI hy]
 split
 ·rfl
 ·cases hl:y.2 with
  | nil=>rfl
  | cons x l=>exact LV.v_loc fun i hi=>hy i (by rw[hl];exact aZ _ hi)
theorem AV.v_loc {x:AV} (h: ∀i∈x.ids,θ' i=θ i):x.v θ'=x.v θ:=by
 cases x with
 | one x=>exact LV.v_loc h
 | agg xs=>show Value.agg _=Value.agg _;rw[EI h]
 | tup ys =>
  show Value.tuple _=Value.tuple _
  congr 2
  refine List.map_congr_left fun y hy=>?_
  exact GY fun i hi=>h i (zX hy hi)
 | elr k E t xs x i off=>show pt (hv θ' k) _=_;rw[fh (h _ (by simp[AV.ids]))];rfl
 | elo k ver E t xs x i off=>show pt (hv θ' k) _=_;rw[fh (h _ (by simp[AV.ids]))];rfl
 | sub k ver E t xs l=>show rf (hv θ' k) _ _ _=_;rw[fh (h _ (by simp[AV.ids]))];rfl
 | pre k ver E t xs l=>show rf (hv θ' k) _ _ _=_;rw[fh (h _ (by simp[AV.ids]))];rfl
 | vw u k kk N l m=>exact fh (h _ (by simp[AV.ids]))
 | xv top u k kk N l m=>exact fh (h _ (by simp[AV.ids]))
 | capv k c=>rfl
 | any k=>exact fh (h _ (by simp[AV.ids]))
 | und=>rfl
theorem AV.ok_loc {x:AV} (h: ∀i∈x.ids,θ' i=θ i) (k:x.ok P w0 J θ n chs):x.ok P w0 J θ' n chs:=by
 cases x with
 | one x=>exact LV.ok_loc h k
 | agg xs=>exact fun x hx=>LV.ok_loc (fun i hi=>h i (qD hx hi)) (k x hx)
 | tup ys=>exact fun y hy x hx=>LV.ok_loc (fun i hi=>h i (zX hy (qD hx hi))) (k y hy x hx)
 | elr g E t xs x i off=>exact ⟨k.1,k.2.1,by rw[fh (h _ (by simp[AV.ids]))];exact k.2.2⟩
 | elo g ver E t xs x i off=>exact k
 | sub g ver E t xs l=>exact k
 | pre g ver E t xs l=>exact k
 | vw u g kk N l m=>exact ⟨k.1,k.2.1,by rw[fh (h _ (by simp[AV.ids])),fh (h _ (by simp[AV.ids]))];exact k.2.2⟩
 | xv top u g kk N l m=>exact ⟨k.1,k.2.1,by rw[fh (h _ (by simp[AV.ids])),fh (h _ (by simp[AV.ids]))];exact k.2.2⟩
 | capv g c=>exact ⟨k.1,by rw[fh (h _ (by simp[AV.ids]))];exact k.2⟩
 | any g=>exact k
 | und=>trivial
theorem Ti {e:Ent} (h: ∀i∈Dj e.1 e.2.2,θ' i=θ i):toCh P θ' e=toCh P θ e:=by
 obtain ⟨k,ver,c⟩:=e
 have hk:hv θ' k=hv θ k:=fh (h _ (by simp[Dj]))
 cases c with
 | own t d=>show Ch.own _ [hv θ' k] d=_;rw[hk];rfl
 | blk T cells=>show Ch.blk (bk (hv θ' k)) (cells.map (·.v θ')) T=_;rw[hk,EI fun i hi=>h i (be _ hi)];rfl
 | hole over t d u y f i kk off lv=>show Ch.gap _ [hv θ' k] _ f (ptB (hv θ' k)) (ptO (hv θ' k)+(i.toNat*kk+off)) (lv.v θ')=_;rw[hk,LV.v_loc fun i hi=>h i (be _ hi)];rfl
 | box T t d=>show Ch.box (bk (hv θ' k)) T _ d=_;rw[hk];rfl
 | map K E kk e m=>show @Ch.mp P K E kk.den e.den kk.dec kk.lit kk.ok e.lit e.z (hv θ' k) m=_;rw[hk];rfl
 | clo _ _ _=>rfl
theorem XK {e:Ent} (h: ∀i∈Dj e.1 e.2.2,θ' i=θ i) (k:okE P w0 J θ n chs e):okE P w0 J θ' n chs e:=by
 obtain ⟨g,ver,c⟩:=e
 cases c with
 | own t d=>exact k
 | blk T cells=>exact ⟨k.1,k.2.1,fun x hx=>LV.ok_loc (fun i hi=>h i (be _ (qD hx hi))) (k.2.2 x hx)⟩
 | hole over t d u y f i kk off lv=>exact ⟨k.1,k.2.1,LV.ok_loc (fun i hi=>h i (be _ hi)) k.2.2.1,k.2.2.2⟩
 | box T t d=>exact k
 | map K E kk e m=>exact k
 | clo f first capt =>
  obtain ⟨h1,h2,h3,h4,h5⟩:=k
  have hf: ∀y∈first,∀i∈PC y.2,θ' i=θ i:=fun y hy i hi=>h i (be _ (aZ _ (zX hy hi)))
  have hc: ∀i∈PC capt,θ' i=θ i:=fun i hi=>h i (be _ (bc _ hi))
  refine ⟨h1,h2,fun y hy x hx=>LV.ok_loc (fun i hi=>hf y hy i (qD hx hi)) (h3 y hy x hx),fun x hx=>LV.ok_loc (fun i hi=>hc i (qD hx hi)) (h4 x hx),?_⟩
  show hv θ' g=_
  rw[fh (h _ (by simp[Dj])),EI hc,List.map_congr_left fun y hy=>GY (hf y hy)]
  exact h5
def AV.elos:AV->List (Hdr×Nat)
 | .elo h ver _ _ _ _ _ _=>[(h,ver)]
 | .sub h ver _ _ _ _=>[(h,ver)]
 | .pre h ver _ _ _ _=>[(h,ver)]
 | _=>[]
def Chk.elos (ver:Nat):Chk->List (Hdr×Nat)
 | .hole _ _ _ _ _ _ _ _ _ (.own l)=>[(l,ver)]
 | _=>[]
theorem LV.ok_le {x:LV} (hm:n<=m) (h:x.ok P w0 J θ n):x.ok P w0 J θ m:=LV.ok_same Same.rfl' hm h Hp.le.rfl
where Same.rfl' {n:Nat} {θ:Th} :Same n θ θ:=fun i hi=>Eq.refl _
theorem AV.ok_move {x:AV} (hn:n<=m) (hm: ∀h ver c,(h,ver)∈x.elos->Mem chs n h ver c-> ∀e∈chs',∀c',Says e h ver c'->c'=c) (k:x.ok P w0 J θ n chs):x.ok P w0 J θ m chs':=by
 cases x with
 | one x=>exact LV.ok_le hn k
 | agg xs=>exact fun x hx=>LV.ok_le hn (k x hx)
 | tup ys=>exact fun y hy x hx=>LV.ok_le hn (k y hy x hx)
 | elr g E t xs x i off=>exact ⟨ay k.1 hn,k.2⟩
 | elo g ver E t xs x i off=>exact ⟨ay k.1 hn,k.2.1,ay k.2.2.1 hn,hm _ _ _ (by simp[AV.elos]) k.2.2⟩
 | sub g ver E t xs l=>exact ⟨ay k.1 hn,k.2.1,ay k.2.2.1 hn,hm _ _ _ (by simp[AV.elos]) k.2.2⟩
 | pre g ver E t xs l=>exact ⟨ay k.1 hn,k.2.1,ay k.2.2.1 hn,hm _ _ _ (by simp[AV.elos]) k.2.2⟩
 | vw u g kk N l m=>exact ⟨ay k.1 hn,ay k.2.1 hn,k.2.2⟩
 | xv top u g kk N l m=>exact ⟨ay k.1 hn,ay k.2.1 hn,k.2.2⟩
 | capv g c=>exact ⟨ay k.1 hn,k.2⟩
 | any g=>exact ay k hn
 | und=>trivial
theorem KX {e:Ent} (hn:n<=m) (hm: ∀h ver c,(h,ver)∈e.2.2.elos e.2.1->Mem chs n h ver c-> ∀e∈chs',∀c',Says e h ver c'->c'=c) (k:okE P w0 J θ n chs e):okE P w0 J θ m chs' e:=by
 obtain ⟨g,ver,c⟩:=e
 cases c with
 | own t d=>exact ⟨ay k.1 hn,ay k.2.1 hn,trivial⟩
 | blk T cells=>exact ⟨ay k.1 hn,ay k.2.1 hn,fun x hx=>LV.ok_le hn (k.2.2 x hx)⟩
 | hole over t d u y f i kk off lv =>
  refine ⟨ay k.1 hn,ay k.2.1 hn,LV.ok_le hn k.2.2.1,k.2.2.2.1,k.2.2.2.2.1,fun l hl=>?_⟩
  have:=k.2.2.2.2.2 l hl
  exact ⟨ay this.1 hn,hm _ _ _ (by subst hl;simp[Chk.elos]) this⟩
 | box T t d=>exact ⟨ay k.1 hn,ay k.2.1 hn,trivial⟩
 | map K E kk e m=>exact ⟨ay k.1 hn,ay k.2.1 hn,trivial⟩
 | clo f first capt=>exact ⟨ay k.1 hn,ay k.2.1 hn,fun y hy x hx=>LV.ok_le hn (k.2.2.1 y hy x hx),fun x hx=>LV.ok_le hn (k.2.2.2.1 x hx),k.2.2.2.2⟩
end
structure TR where
 i:Nat
 o:Oper
 b:List Nat
 s:Sg
 r:Res
 run:Bool
def kC (n0:Nat) (x:TR):List Ent:=x.r.gives.map fun g=>(g.1,n0+x.i,g.2)
def AT (n0:Nat) (env:List (Nat×Nat×AV)):List TR->List (Nat×Nat×AV)
 | [] =>env
 | x::l=>NV x.o.dst (n0+x.i) x.r.av (AT n0 env l)
def gV (n0:Nat) (chs:List Ent):List TR->List Ent
 | [] =>chs
 | x::l=>kC n0 x++gV n0 chs l
def sameKey (a b:Ent):Bool:=Nat.beq a.2.1 b.2.1&&Hdr.beq a.1 b.1
def ZD (e:Ent) (l:List TR):Bool:=l.any fun x=>x.r.ns.any fun e'=>sameKey e' e
def inB (n0:Nat) (b:List Nat) (v:Nat):Bool:=Nat.blt v n0 || vF (v - n0) b
def subS (s0:Sg) (l:List TR) (i:Nat) (b:List Nat):Sg:=
 ⟨(AT s0.nxt s0.env l).filter fun e=>inB s0.nxt b e.2.1,(gV s0.nxt s0.chs l).filter fun e=>inB s0.nxt b e.2.1 && !ZD e l,s0.nxt+i⟩
def Tj (s0:Sg) (l:List TR):Sg:=subS s0 l l.length (List.range l.length)
def recAt (i:Nat):List TR->Option TR
 | [] =>none
 | x::l=>if Nat.beq x.i i then some x else recAt i l
def aaT (t:Nat) (l:List Nat):List Nat:=if vF t l then l else t::l
def GZ:List Nat->List Nat->List Nat
 | [],acc=>acc
 | t::l,acc=>GZ l (aaT t acc)
def bOf (l:List TR):List Nat->List Nat->List Nat
 | [],acc=>acc
 | j::js,acc=>bOf l js (GZ (match recAt j l with | some y=>y.b | none=>[]) (aaT j acc))
def splitB {Y:Type} (g:Bool) (av:AV) (k:AV->Option Y):Option Y:=match g with
 | false=>k av
 | true=>match av with
  | .one (.val (.bool b))=>if b then k (.one (.val (.bool true))) else k (.one (.val (.bool false)))
  | .one (.nb b)=>if b then k (.one (.val (.bool false))) else k (.one (.val (.bool true)))
  | _=>none
def PD (ops:List Oper) (i:Nat):Bool:=match ops with
 | [] =>false
 | o::ops=>(match o.guard with | some (g,_)=>Nat.beq g i | none=>false) || PD ops i
section
variable {Y:Type} (V:Env) (ops:List Oper) (s0:Sg) (k:List TR->Option Y)
def abC (o:Oper) (i:Nat) (l:List TR) (b:List Nat) (s:Sg):Option Y:=
 bL (okO V.n s o) (step V s (fun r=>splitB (PD ops i) r.av fun av=>k (⟨i,o,b,s,⟨r.rs,r.ns,r.rest,r.gives,av⟩,true⟩::l)) o)
def XL (o:Oper) (i:Nat) (l:List TR) (b:List Nat) (s:Sg):Option Y:=
 k (⟨i,o,b,s,⟨[],[],s.chs,[],.und⟩,false⟩::l)
def opD (o:Oper) (i:Nat) (l:List TR) (b:List Nat) (s:Sg):Option Y:=match o.guard with
 | none=>abC V ops k o i l b s
 | some (g,want)=>match recAt g l with
  | some y=>match y.r.av with
   | .one (.val (.bool c))=>match c==want with
    | true=>abC V ops k o i l b s
    | false=>XL k o i l b s
   | .und=>XL k o i l b s
   | _=>none
  | none=>none
def goD:List Oper->Nat->List TR->Option Y
 | [],_,l=>k l
 | o::os,i,l=>(fun b=>opD V ops (goD os (i+1)) o i l b (subS s0 l i b)) (bOf l (edgesOf o) [])
end
def GdOk (l:List TR) (x:TR):Prop:=match x.o.guard with
 | none=>x.run=true
 | some (g,want)=> ∃y∈l,y.i=g/\((∃c:Bool,y.r.av= .one (.val (.bool c))/\x.run=(c==want))\/(y.r.av= .und/\x.run=false))
structure RecOk (P:Program) (w0:World) (n:Nat) (s0:Sg) (ops:List Oper) (l:List TR) (x:TR):Prop where
 hi:x.i=l.length
 ho:ops[x.i]? =some x.o
 hb:x.b=bOf l (edgesOf x.o) []
 hs:x.s=subS s0 l x.i x.b
 good:x.run=true->Good P w0 x.s x.o x.r/\okO n x.s x.o=true
 skip:x.run=false->x.r=⟨[],[],x.s.chs,[],.und⟩
 gd:GdOk l x
def AllOk (P:Program) (w0:World) (n:Nat) (s0:Sg) (ops:List Oper):List TR->Prop
 | [] =>True
 | x::l=>RecOk P w0 n s0 ops l x/\AllOk P w0 n s0 ops l
section
variable {Y:Type} {V:Env} {P:Program} {w0:World} {ops:List Oper} {s0:Sg} {k:List TR->Option Y} {res:Y}
theorem zY {i:Nat} {y:TR} : ∀ {l:List TR},recAt i l=some y->y∈l/\y.i=i
 | x::l,h=>by
  unfold recAt at h
  split at h
  ·rename_i hx
   obtain rfl:=ad h
   exact ⟨by simp,al hx⟩
  ·obtain ⟨h1,h2⟩:=zY h
   exact ⟨by simp[h1],h2⟩
theorem tC {s:Sg} {o:Oper} {r:Res} {av:AV} (h:Good P w0 s o r) (hv: ∀θ,av.v θ=r.av.v θ) (hok: ∀(J:Hp) (θ:Th) n chs,av.ok P w0 J θ n chs):Good P w0 s o ⟨r.rs,r.ns,r.rest,r.gives,av⟩:=
 ⟨h.perm,h.says,fun J θ hf=>OpT.weak (h.op J θ hf) (fun v hv'=>⟨hok _ _ _ _,(hv _).trans hv'.2.1,hv'.2.2⟩) (fun v _=>rfl)⟩
theorem PE {g:Bool} {s:Sg} {o:Oper} {r:Res} {f:AV->Option Y} (h:splitB g r.av f=some res) (hG:Good P w0 s o r): ∃av,f av=some res/\Good P w0 s o ⟨r.rs,r.ns,r.rest,r.gives,av⟩:=by
 unfold splitB at h
 split at h
 ·exact ⟨r.av,h,hG⟩
 ·split at h
  ·rename_i b hb
   cases b with
   | true=>exact ⟨_,h,tC hG (fun θ=>by rw[hb]) fun _ _ _ _=>Eq.refl true⟩
   | false=>exact ⟨_,h,tC hG (fun θ=>by rw[hb]) fun _ _ _ _=>Eq.refl true⟩
  ·rename_i b hb
   cases b with
   | true=>exact ⟨_,h,tC hG (fun θ=>by rw[hb];rfl) fun _ _ _ _=>Eq.refl true⟩
   | false=>exact ⟨_,h,tC hG (fun θ=>by rw[hb];rfl) fun _ _ _ _=>Eq.refl true⟩
  ·cases h
theorem PF (hT:TTok P V.tt) (hF:FTok P V.ft): ∀ {os:List Oper} {i:Nat} {l:List TR},goD V ops s0 k os i l=some res->i=l.length->ops.drop i=os->AllOk P w0 V.n s0 ops l-> ∃l',k l'=some res/\AllOk P w0 V.n s0 ops l'/\l'.length=ops.length
 | [],i,l,h,hi,hd,ha=>⟨l,h,ha,by
  have h1:=List.drop_eq_nil_iff.1 hd
  have: ∀ {l:List TR},AllOk P w0 V.n s0 ops l->l.length<=ops.length:=by
   intro l
   induction l with
   | nil=>intro _;exact Nat.zero_le _
   | cons x l ih =>
    rintro ⟨hx,hl⟩
    have:=(List.getElem?_eq_some_iff.1 hx.ho).1
    rw[hx.hi] at this
    exact this
  have:=this ha
  omega⟩
 | o::os,i,l,h,hi,hd,ha=>by
  have ho:ops[i]? =some o:=by
   have:=congrArg (·[0]?) hd
   simpa using this
  have hd':ops.drop (i+1)=os:=by
   rw[<-List.drop_drop,hd];rfl
  have h:opD V ops (goD V ops s0 k os (i+1)) o i l (bOf l (edgesOf o) []) (subS s0 l i (bOf l (edgesOf o) []))=some res:=h
  have run:(GdOk l ⟨i,o,bOf l (edgesOf o) [],subS s0 l i (bOf l (edgesOf o) []),⟨[],[],[],[],.und⟩,true⟩)->abC V ops (goD V ops s0 k os (i+1)) o i l (bOf l (edgesOf o) []) (subS s0 l i (bOf l (edgesOf o) []))=some res-> ∃l',k l'=some res/\AllOk P w0 V.n s0 ops l'/\l'.length=ops.length:=by
   intro hg h
   obtain ⟨hk,h⟩:=aj h
   obtain ⟨r,hr,hG⟩:=Pu (w0:=w0) hT hF h
   obtain ⟨av,h,hG⟩:=PE hr hG
   exact PF hT hF h (by rw[hi];rfl) hd' ⟨⟨hi,ho,rfl,rfl,fun _=>⟨hG,hk⟩,fun e=>(by cases e),hg⟩,ha⟩
  have skp:(GdOk l ⟨i,o,bOf l (edgesOf o) [],subS s0 l i (bOf l (edgesOf o) []),⟨[],[],[],[],.und⟩,false⟩)->XL (goD V ops s0 k os (i+1)) o i l (bOf l (edgesOf o) []) (subS s0 l i (bOf l (edgesOf o) []))=some res-> ∃l',k l'=some res/\AllOk P w0 V.n s0 ops l'/\l'.length=ops.length:=by
   intro hg h
   exact PF hT hF h (by rw[hi];rfl) hd' ⟨⟨hi,ho,rfl,rfl,fun e=>(by cases e),fun _=>rfl,hg⟩,ha⟩
  unfold opD at h
  split at h
  ·rename_i hg
   exact run (by unfold GdOk;simp only[hg]) h
  ·rename_i g want hg
   split at h
   ·rename_i y hy
    obtain ⟨hy1,hy2⟩:=zY hy
    split at h
    ·rename_i c hc
     split at h
     ·rename_i hcw
      exact run (by unfold GdOk;simp only[hg];exact ⟨y,hy1,hy2,.inl ⟨c,hc,hcw.symm⟩⟩) h
     ·rename_i hcw
      exact skp (by unfold GdOk;simp only[hg];exact ⟨y,hy1,hy2,.inl ⟨c,hc,hcw.symm⟩⟩) h
    ·rename_i hc
     exact skp (by unfold GdOk;simp only[hg];exact ⟨y,hy1,hy2,.inr ⟨hc,trivial⟩⟩) h
    ·cases h
   ·cases h
end
end R
namespace R
open Go.RowKit
open D
def AU (l:List (Nat×Nat×AV)) (t:Nat):Option Nat:=match l with
 | [] =>none
 | (u,k,_)::l=>if Nat.beq u t then some k else AU l t
def numOf (e:Ent):List Ent->Nat
 | [] =>0
 | x::l=>if sameKey x e then 0 else numOf e l+1
def Vs (n0 v:Nat):Option Nat:=if Nat.blt v n0 then none else some (v - n0)
def G0 (n0:Nat) (env:List (Nat×Nat×AV)):List Nat->List (Nat×Option Nat)
 | [] =>[]
 | t::l=>match AU env t with
  | some v=>(t,Vs n0 v)::G0 n0 env l
  | none=>G0 n0 env l
def opK (n0:Nat) (T:List Ent) (ops:Array Oper) (x:TR):OpK:=⟨x.r.rs.map (numOf · T),x.r.ns.map (numOf · T),(kC n0 x).map (numOf · T),G0 n0 x.s.env (slotsOf ops x.o)⟩
def PG (n0:Nat):List (Nat×Nat×AV)->List Nat->List (Nat×Option Nat)
 | [],_=>[]
 | e::l,seen=>match vF e.1 seen with
  | true=>PG n0 l seen
  | false=>(e.1,Vs n0 e.2.1)::PG n0 l (e.1::seen)
def oP (s0:Sg) (ops:List Oper) (l:List TR) (T:List Ent):Skel:=
 ⟨(l.map (opK s0.nxt T ops.toArray)).reverse,T.length,s0.chs.map (numOf · T),(l.map (·.b)).reverse,PG s0.nxt (Tj s0 l).env [],(Tj s0 l).chs.map (numOf · T)⟩
def hY:List Ent->Bool
 | [] =>true
 | e::l=> !(l.any fun x=>sameKey x e)&&hY l
def mz:List Ent->Bool
 | [] =>true
 | e::l=>Co e.1 l&&mz l
def XM (h:Hdr) (ver:Nat) (e:Ent):Bool:=Hdr.beq e.1 h&&(Nat.beq e.2.1 ver || match e.2.2 with
 | .hole over _ _ _ _ _ _ _ _ _=>Nat.beq over ver
 | _=>false)
def allowed (n0:Nat) (x:TR) (v:Nat):Bool:=Nat.blt v n0 || (Nat.beq (v - n0) x.i || vF (v - n0) x.b)
def Vt (n0:Nat) (x:TR):List (Hdr×Nat):=x.r.av.elos++x.r.gives.flatMap fun g=>g.2.elos (n0+x.i)
def Tk (x:TR):List Nat:=x.r.av.ids++x.r.gives.flatMap fun g=>Dj g.1 g.2
def AW (n0:Nat) (x:TR):Bool:=Cj (Tk x) (allowed n0 x)&&(Vt n0 x).all fun q=>(x.r.chs (n0+x.i)).any (XM q.1 q.2) || (Nat.beq q.2 (n0+x.i) && !(x.r.gives.any fun g=>Hdr.beq g.1 q.1))
def knS (s0:Sg) (t:Nat):Bool:=(look s0.env t).isSome
def Vu (n:Nat) (s0:Sg) (ops:List Oper) (l:List TR) (T:List Ent):Bool:=mz s0.chs&&(hY T&&(l.all (AW s0.nxt)&&((oP s0 ops l T).ok n (knS s0) ops&&(oP s0 ops l T).okB (knS s0) ops)))
section
variable {Y:Type} (V:Env)
def AX (s0:Sg):List Oper->List Hdr
 | [] =>[]
 | o::os=>Dh s0 o.op.operands.toList++AX s0 os
def KY (ops:List Oper) (k:Sg->Option Y) (s0:Sg):Option Y:=goD V ops s0 (fun l=>bL (Vu V.n s0 ops l (gV s0.nxt s0.chs l)) (k (Tj s0 l))) ops 0 []
def Vv (tr:Trs) (s0:Sg):List Oper->List (Bool×Hdr)
 | [] =>[]
 | o::os=>ldF tr s0 o++(acD tr s0 o++Vv tr s0 os)
def ZE (o:Oper):Bool:=match o.op with
 | .indexAddr _ _ _=>true
 | _=>false
def ZF (tr:Trs) (ops:List Oper):Trs:=match ops.any ZE with
 | true=>tr
 | false=>Px tr
def KZ (tr:Trs) (ops:List Oper) (s:Sg):Sg:=match tr with
 | [] =>s
 | _=>Sy (ZF tr ops) (Vv (ZF tr ops) s ops) s
def isApp (o:Oper):Bool:=match o.op with
 | .buildSlice _ _ _=>true
 | _=>false
def aaU (s:Sg):List Oper->List Hdr
 | [] =>[]
 | o::os=>match o.op with
  | .move x=>match opd s x with
   | some (.one (.own h))=>h::aaU s os
   | _=>aaU s os
  | _=>aaU s os
def EJ:List Hdr->Sg->Sg
 | [],s=>s
 | h::hs,s=>EJ hs (xr h s)
def wc (ops:List Oper) (s:Sg):Sg:=match ops.any ZE && !ops.any isApp with
 | true=>EJ (aaU s ops) s
 | false=>s
def Tl (tr:Trs) (ops:List Oper) (s0:Sg):Sg:=match wc ops (qC s0) with
 | s=>KZ tr ops (vY (AX s ops) s)
def abD (t:Nat) (o:Oper):Bool:=match o.op with
 | .load _ (.tmp u)=>Nat.beq u t
 | _=>false
def ZG:Operand->Operand->Bool
 | .tmp a,.tmp b=>Nat.beq a b
 | _,_=>false
def abE (t:Nat):List Oper->Option Operand
 | [] =>none
 | o::os=>match o.op,o.dst with
  | .move y,some u=>(match Nat.beq u t with
   | true=>some y
   | false=>abE t os)
  | _,_=>abE t os
def ZH (ops:List Oper) (x:Operand):Operand:=match x with
 | .tmp t=>(match abE t ops with
  | some y=>y
  | none=>x)
 | _=>x
def Tm (ops:List Oper):List Oper->List (Operand×Operand)
 | [] =>[]
 | o::os=>match o.op,o.dst with
  | .indexAddr _ x i,some t=>(match ops.any (abD t) with
   | true=>(ZH ops x,ZH ops i)::Tm ops os
   | false=>Tm ops os)
  | _,_=>Tm ops os
def G5 (s:Sg):List (Operand×Operand)->Option (Hdr×Int)
 | [] =>none
 | (x,i)::l=>match l.any fun q=>ZG q.1 x&&ZG q.2 i with
  | true=>(match opd s x,opd s i with
   | some (.one (.own h)),some (.one (.val (.int .i64 j)))=>(match rowOf h s.chs with
    | some r=>(match r.t.sh || !Nat.beq r.t.size 1 with
     | false=>some (h,j)
     | true=>G5 s l)
    | none=>G5 s l)
   | _,_=>G5 s l)
  | false=>G5 s l
def PH (ops:List Oper) (k:Sg->Option Y) (s:Sg):Option Y:=match G5 s (Tm ops ops) with
 | some q=>Zv q.1 q.2 s (KY V ops k)
 | none=>KY V ops k s
def ZI (ops:List Oper) (k:Sg->Option Y) (s:Sg):Option Y:=PH V ops k (Tl V.tr ops s)
end
theorem xu {a b:Ent} :sameKey a b=true↔a.2.1=b.2.1/\a.1=b.1:=by
 unfold sameKey
 rw[ai,YS]
 grind[Hdr.beq_eq,En]
theorem yD {l:List Ent} :hY l=true-> ∀a∈l,∀b∈l,a.2.1=b.2.1->a.1=b.1->a=b:=by
 induction l with
 | nil=>grind
 | cons e l ih =>
  intro h a ha b hb
  unfold hY at h
  rw[ai,Bool.not_eq_true'] at h
  have ⟨h1,h2⟩:=h
  have key: ∀x∈l,¬(x.2.1=e.2.1/\x.1=e.1):=fun x hx hk=>by
   have:(l.any fun x=>sameKey x e)=true:=List.any_eq_true.2 ⟨x,hx,xu.2 hk⟩
   rw[h1] at this;cases this
  intro k1 k2
  rcases ax ha with ha' | ha'
  ·rcases ax hb with hb' | hb'
   ·rw[ha',hb']
   ·rw[ha'] at k1 k2;exact absurd ⟨k1.symm,k2.symm⟩ (key b hb')
  ·rcases ax hb with hb' | hb'
   ·rw[hb'] at k1 k2;exact absurd ⟨k1,k2⟩ (key a ha')
   ·exact ih h2 a ha' b hb' k1 k2
theorem G6 {l:List Ent} :mz l=true-> ∀a∈l,∀b∈l,a.1=b.1->a=b:=by
 induction l with
 | nil=>grind
 | cons e l ih =>
  intro h a ha b hb
  unfold mz at h
  rw[ai] at h
  have ⟨h1,h2⟩:=h
  intro k
  rcases ax ha with ha' | ha'
  ·rcases ax hb with hb' | hb'
   ·rw[ha',hb']
   ·rw[ha'] at k;exact absurd k.symm (oO h1 hb')
  ·rcases ax hb with hb' | hb'
   ·rw[hb'] at k;exact absurd k (oO h1 ha')
   ·exact ih h2 a ha' b hb' k
theorem tD {e:Ent} : ∀ {T:List Ent},hY T=true->e∈T->T[numOf e T]? =some e
 | x::T,hd,he=>by
  unfold numOf
  split
  ·rename_i hk
   have ⟨k1,k2⟩:=xu.1 hk
   exact congrArg some (yD hd x (by simp) e he k1 k2)
  ·have hd':=hd
   unfold hY at hd'
   rw[ai] at hd'
   rcases ax he with rfl | he
   ·grind[absurd,xu]
   ·exact tD hd'.2 he
theorem Tn {h:Hdr} {ver:Nat} {e:Ent} (k:XM h ver e=true): ∃c,Says e h ver c:=by
 unfold XM at k
 rw[ai,Bool.or_eq_true] at k
 have ⟨h1,h2⟩:=k
 have h1:=Hdr.beq_eq h1
 have ⟨g,v,c⟩:=e
 rcases h2 with h2 | h2
 ·exact ⟨c,h1,.inl ⟨al h2,rfl⟩⟩
 ·cases c with
  | hole over t d u y f i kk off lv=>exact ⟨.own t d,h1,.inr ⟨al h2,rfl⟩⟩
  | _=>cases h2
section
variable {P:Program} {w0:World} {n:Nat} {s0:Sg} {ops:List Oper} {l:List TR}
theorem AllOk.lt:AllOk P w0 n s0 ops l-> ∀y∈l,y.i<l.length:=by
 induction l with
 | nil=>grind
 | cons w l ih =>
  rintro ⟨e1,e2⟩ y hy
  rcases ax hy with rfl | hy
  ·rw[e1.hi,aK];omega
  grind
theorem AllOk.uniq:AllOk P w0 n s0 ops l-> ∀x∈l,∀y∈l,x.i=y.i->x=y:=by
 induction l with
 | nil=>grind
 | cons w l ih =>
  rintro ⟨e1,e2⟩ x hx y hy h
  have hw:=e1.hi
  rcases ax hx with hx | hx
  ·rcases ax hy with hy | hy
   ·grind
   ·have:=e2.lt y hy
    grind
  ·rcases ax hy with hy | hy
   ·have:=e2.lt x hx
    grind
   grind
theorem AllOk.get {x:TR} :AllOk P w0 n s0 ops l->x∈l-> ∃l1,RecOk P w0 n s0 ops l1 x/\AllOk P w0 n s0 ops l1/\(∀y∈l1,y∈l)/\ ∀y∈l,y.i<x.i->y∈l1:=by
 induction l with
 | nil=>grind
 | cons z l ih =>
  rintro ⟨h1,h2⟩ hx
  rcases ax hx with hx | hx
  ·grind
  ·have ⟨l1,k1,k2,k3,k4⟩:=ih h2 hx
   refine ⟨l1,k1,k2,fun y hy=>by grind,fun y hy hlt=>?_⟩
   rcases ax hy with hy | hy
   ·have h3:=h2.lt x hx
    have h4:=h1.hi
    grind
   grind
theorem AllOk.at {α:Type} (f:TR->α):AllOk P w0 n s0 ops l-> ∀i,i<l.length-> ∃x∈l,x.i=i/\(l.map f).reverse[i]? =some (f x):=by
 induction l with
 | nil=>grind
 | cons w l ih =>
  rintro ⟨e1,e2⟩ i hi
  by_cases h:i<l.length
  ·grind
  ·have h3:i=l.length:=by rw[aK] at hi;omega
   subst h3
   refine ⟨w,by simp,e1.hi,?_⟩
   grind
theorem AllOk.opAt (ha:AllOk P w0 n s0 ops l) {x:TR} (hx:x∈l) (T:List Ent):(oP s0 ops l T).op x.i=opK s0.nxt T ops.toArray x/\(oP s0 ops l T).before x.i=x.b:=by
 have hlt:=ha.lt x hx
 have ⟨y,hy,h1,h2⟩:=ha.at (opK s0.nxt T ops.toArray) x.i hlt
 have ⟨z,hz,h3,h4⟩:=ha.at (·.b) x.i hlt
 obtain rfl:=ha.uniq y hy x hx h1
 obtain rfl:=ha.uniq z hz y hx h3
 constructor
 ·show (l.map (opK s0.nxt T ops.toArray)).reverse.getD z.i _=_
  grind
 ·show (l.map (·.b)).reverse.getD z.i [] =_
  grind
theorem kD {n0:Nat} {chs:List Ent} {e:Ent} : ∀ {l:List TR},e∈gV n0 chs l↔e∈chs\/ ∃x∈l,e∈kC n0 x
 | [] =>by simp[gV]
 | y::l=>by
  unfold gV
  rw[List.mem_append,kD (l:=l)]
  grind
theorem jm {n0:Nat} {x:TR} {e:Ent} (h:e∈kC n0 x):e.2.1=n0+x.i/\(e.1,e.2.2)∈x.r.gives:=by
 obtain ⟨g,hg,rfl⟩:=List.mem_map.1 h
 grind
theorem uZ {n0:Nat} {env:List (Nat×Nat×AV)} {e:Nat×Nat×AV} : ∀ {l:List TR},e∈AT n0 env l->e∈env\/ ∃x∈l,x.o.dst=some e.1/\e.2.1=n0+x.i/\e.2.2=x.r.av
 | [],h=>.inl h
 | y::l,h=>by
  unfold AT NV at h
  split at h
  ·rcases ax h with rfl | h
   ·grind
   ·exact (uZ h).imp id fun ⟨x,hx,k⟩=>⟨x,by grind,k⟩
  ·exact (uZ h).imp id fun ⟨x,hx,k⟩=>⟨x,by grind,k⟩
theorem PI {n0:Nat} {b:List Nat} {v:Nat} :inB n0 b v=true↔v<n0\/v - n0∈b:=by unfold inB;rw[Bool.or_eq_true,YT,nV]
theorem xw {i:Nat} {b:List Nat} {e:Ent} (h:e∈(subS s0 l i b).chs):e∈gV s0.nxt s0.chs l/\(e.2.1<s0.nxt\/e.2.1 - s0.nxt∈b):=by
 have ⟨h1,h2⟩:=List.mem_filter.1 h
 simp_all[ai,PI]
theorem EK {i:Nat} {b:List Nat} {e:Nat×Nat×AV} (h:e∈(subS s0 l i b).env):e∈AT s0.nxt s0.env l/\(e.2.1<s0.nxt\/e.2.1 - s0.nxt∈b):=by
 have ⟨h1,h2⟩:=List.mem_filter.1 h
 grind[PI]
def rQ (θ:Th) (n0:Nat) (vs:Nat->Value):Th:=fun id=>if id<n0 then θ id else vs (id - n0)
theorem nW {θ:Th} {n0:Nat} {vs:Nat->Value} :Same n0 θ (rQ θ n0 vs):=fun i hi=>if_pos hi
theorem To {θ:Th} {n0 i:Nat} {vs:Nat->Value} {v:Value} :rQ θ n0 (upd vs i v)=upd (rQ θ n0 vs) (n0+i) v:=by
 funext id
 show (if id<n0 then θ id else if id - n0=i then v else vs (id - n0))=if id=n0+i then v else if id<n0 then θ id else vs (id - n0)
 grind
def YU (P:Program) (w0:World) (J:Hp) (θ:Th) (n0:Nat) (x:TR) (v:Value):Prop:=
 x.r.av.ok P w0 J θ (n0+x.i+1) (x.r.chs (n0+x.i))/\x.r.av.v θ=v/\ ∀g∈x.r.gives,okE P w0 J θ (n0+x.i+1) (x.r.chs (n0+x.i)) (g.1,n0+x.i,g.2)
end
section
variable {P:Program} {w0:World} {n:Nat} {s0:Sg} {ops:List Oper} {l:List TR} {J:Hp} {θ:Th} {vs:Nat->Value}
def Nx (s0:Sg) (l:List TR) (h:Hdr) (ver:Nat) (c:Chk):Prop:=(∃e0∈s0.chs,Says e0 h ver c)\/ ∃x∈l,(h,ver,c)∈kC s0.nxt x
theorem I6 {e:Ent} {h:Hdr} {ver:Nat} {c:Chk} {chs:List Ent} {m:Nat} (k:okE P w0 J θ m chs e) (hs:Says e h ver c):ver<m:=by
 have ⟨g,v,x⟩:=e
 obtain ⟨-,hs⟩:=hs
 rcases hs with ⟨h1,-⟩ | hs
 ·rw[<-h1];exact k.2.1
 ·cases x with
  | hole over t d u y f i kk off lv =>
   rw[<-hs.1]
   exact Nat.lt_trans k.2.2.2.1 k.2.1
  | _=>exact hs.elim
theorem XN (hB:mz s0.chs=true) (hK:hY (gV s0.nxt s0.chs l)=true) (hf:Fine P w0 J θ s0) {h:Hdr} {ver:Nat} {c c':Chk} (h1:Nx s0 l h ver c) (h2:Nx s0 l h ver c'):c=c':=by
 have base: ∀e1∈s0.chs,∀e2∈s0.chs,∀c c',Says e1 h ver c->Says e2 h ver c'->c=c':=by
  intro e1 he1 e2 he2 c c' k1 k2
  cases G6 hB e1 he1 e2 he2 (k1.1.trans k2.1.symm)
  have hok:=hf.chs e1 he1
  have ⟨g,v,x⟩:=e1
  rcases k1.2 with ⟨a1,a2⟩ | a
  ·rcases k2.2 with ⟨b1,b2⟩ | b
   ·grind
   ·cases x with
    | hole over t d u y f i kk off lv =>
     have:=hok.2.2.2.1
     have e2:=b.1
     omega
    | _=>exact b.elim
  ·rcases k2.2 with ⟨b1,b2⟩ | b
   ·cases x with
    | hole over t d u y f i kk off lv =>
     have:=hok.2.2.2.1
     have e2:=a.1
     omega
    | _=>exact a.elim
   ·cases x with
    | hole over t d u y f i kk off lv=>rw[a.2,b.2]
    | _=>exact a.elim
 rcases h1 with ⟨e1,he1,k1⟩ | ⟨x,hx,k1⟩
 ·rcases h2 with ⟨e2,he2,k2⟩ | ⟨y,hy,k2⟩
  ·grind
  ·have:=I6 (hf.chs e1 he1) k1
   have:=(jm k2).1
   grind
 ·rcases h2 with ⟨e2,he2,k2⟩ | ⟨y,hy,k2⟩
  ·have:=I6 (hf.chs e2 he2) k2
   have:=(jm k1).1
   grind
  ·have:=yD hK _ (kD.2 (.inr ⟨x,hx,k1⟩)) _ (kD.2 (.inr ⟨y,hy,k2⟩)) rfl rfl
   grind
theorem K0 (hB:mz s0.chs=true) (hK:hY (gV s0.nxt s0.chs l)=true) (hf:Fine P w0 J θ s0) (ha:AllOk P w0 n s0 ops l) (hc: ∀x∈l,AW s0.nxt x=true)
  (L1:List TR) (hL: ∀y∈L1,y∈l) (b:List Nat) (i:Nat) (hbi: ∀j∈b,j<i)
  (hfact: ∀y∈l,y.i∈b->YU P w0 J (rQ θ s0.nxt vs) s0.nxt y (vs y.i))
  (horig: ∀y∈l,y.i∈b-> ∀e∈kC s0.nxt y,∀h ver c,Says e h ver c->Nx s0 l h ver c)
  (hback: ∀y∈l,y.i∈b-> ∀e∈y.r.chs (s0.nxt+y.i),∀h ver c,Says e h ver c->Nx s0 l h ver c)
  (hnd:(AT s0.nxt s0.env L1).Pairwise fun a b=>a.2.1≠b.2.1):Fine P w0 J (rQ θ s0.nxt vs) (subS s0 L1 i b):=by
 have own: ∀e∈(subS s0 L1 i b).chs,∀h ver c,Says e h ver c->Nx s0 l h ver c:=by
  intro e he h ver c hs
  have ⟨h1,h2⟩:=xw he
  rcases kD.1 h1 with h1 | ⟨y,hy,h1⟩
  ·exact .inl ⟨e,h1,hs⟩
  ·grind[hv,jm,Nat.add_sub_cancel_left]
 have mem0: ∀h ver c,Mem s0.chs s0.nxt h ver c-> ∀e∈(subS s0 L1 i b).chs,∀c',Says e h ver c'->c'=c:=by
  intro h ver c hm e he c' hs
  rcases own e he h ver c' hs with ⟨e0,he0,k⟩ | ⟨y,hy,k⟩
  ·exact hm.2 e0 he0 c' k
  ·have:=(jm k).1
   have:=hm.1
   grind
 have memj: ∀y∈l,y.i∈b-> ∀h ver,(h,ver)∈Vt s0.nxt y-> ∀c,Mem (y.r.chs (s0.nxt+y.i)) (s0.nxt+y.i+1) h ver c-> ∀e∈(subS s0 L1 i b).chs,∀c',Says e h ver c'->c'=c:=by
  intro y hy hyb h ver hel c hm e he c' hs
  have hch:=hc y hy
  unfold AW at hch
  rw[ai] at hch
  have:=(List.all_eq_true.1 hch.2) (h,ver) hel
  rcases Bool.or_eq_true_iff.1 this with this | this
  rotate_left
  ·rw[ai,Bool.not_eq_true'] at this
   have hver:=al this.1
   rcases own e he h ver c' hs with ⟨e0,he0,k⟩ | ⟨z,hz,k⟩
   ·have:=I6 (hf.chs e0 he0) k
    omega
   ·have ⟨k1,k2⟩:=jm k
    grind[AllOk.uniq,Hdr.beq,List.any_eq_true,En]
  have ⟨e1,he1,hk⟩:=List.any_eq_true.1 this
  have ⟨c1,hs1⟩:=Tn hk
  have hc1:=hm.2 e1 he1 c1 hs1
  subst hc1
  exact XN hB hK hf (own e he h ver c' hs) (hback y hy hyb e1 he1 h ver c1 hs1)
 refine ⟨fun e he=>?_,fun e he=>?_,List.Pairwise.filter _ hnd,fun e he=>?_,hf.lay⟩
 ·have ⟨h1,h2⟩:=EK he
  rcases uZ h1 with h1 | ⟨y,hy,k1,k2,k3⟩
  ·have:=hf.env e h1
   refine AV.ok_move (n:=s0.nxt) (Nat.le_add_right _ _) (fun h ver c _ hm=>mem0 h ver c hm) ?_
   exact AV.ok_same nW (aF _) Newer.rfl this Hp.le.rfl
  ·rcases h2 with h2 | h2
   ·omega
   ·have hyb:y.i∈b:=by rw[k2,Nat.add_sub_cancel_left] at h2;exact h2
    have hr:=hfact y (hL y hy) hyb
    have:=hbi _ hyb
    rw[k3]
    refine AV.ok_move (n:=s0.nxt+y.i+1) (by show s0.nxt+y.i+1<=s0.nxt+i;omega) (fun h ver c hel hm=>memj y (hL y hy) hyb h ver (aZ _ hel) c hm) hr.1
 ·have ⟨h1,h2⟩:=EK he
  rcases uZ h1 with h1 | ⟨y,hy,k1,k2,k3⟩
  ·exact ay (hf.ver e h1) (Nat.le_add_right _ _)
  ·rcases h2 with h2 | h2
   ·omega
   ·have:=hbi _ h2
    show e.2.1<s0.nxt+i
    omega
 ·have ⟨h1,h2⟩:=xw he
  rcases kD.1 h1 with h1 | ⟨y,hy,h1⟩
  ·refine KX (n:=s0.nxt) (Nat.le_add_right _ _) (fun h ver c _ hm=>mem0 h ver c hm) ?_
   exact eL nW (aF _) Newer.rfl (hf.chs e h1) Hp.le.rfl
  ·have ⟨hv,hg⟩:=jm h1
   rcases h2 with h2 | h2
   ·omega
   ·have hyb:y.i∈b:=by rw[hv,Nat.add_sub_cancel_left] at h2;exact h2
    have hr:=hfact y (hL y hy) hyb
    have:=hbi _ hyb
    have hk:=hr.2.2 _ hg
    have he2:e=(e.1,s0.nxt+y.i,e.2.2):=by grind
    rw[he2]
    refine KX (n:=s0.nxt+y.i+1) (by show s0.nxt+y.i+1<=s0.nxt+i;omega) (fun h ver c hel hm=>?_) hk
    exact memj y (hL y hy) hyb h ver (bc _ (List.mem_flatMap.2 ⟨_,hg,hel⟩)) c hm
end
end R
namespace R
open Go.RowKit
open D
theorem PJ {t j:Nat} {l:List Nat} :j∈aaT t l↔j=t\/j∈l:=by
 unfold aaT
 split
 ·rename_i h
  have:=nV.1 h
  constructor
  ·exact fun h=>.inr h
  ·rintro (rfl | h)
   ·exact this
   ·exact h
 ·exact List.mem_cons
theorem G7 {j:Nat} : ∀ {l acc:List Nat},j∈GZ l acc↔j∈l\/j∈acc
 | [],acc=>by simp[GZ]
 | t::l,acc=>by
  unfold GZ
  rw[G7 (l:=l),PJ,List.mem_cons]
  constructor
  ·rintro (h | h | h) <;> simp[h]
  ·rintro ((h | h) | h) <;> simp[h]
def bAt (l:List TR) (k:Nat):List Nat:=match recAt k l with
 | some y=>y.b
 | none=>[]
theorem Vx {l:List TR} {j:Nat} : ∀ {js acc:List Nat},j∈bOf l js acc↔j∈acc\/ ∃k∈js,j=k\/j∈bAt l k
 | [],acc=>by simp[bOf]
 | k::js,acc=>by
  unfold bOf
  rw[Vx (js:=js),G7,PJ]
  show (j∈bAt l k\/j=k\/j∈acc)\/_↔_
  constructor
  ·rintro ((h | h | h) | ⟨k',hk,h⟩)
   ·exact .inr ⟨k,by simp,.inr h⟩
   ·exact .inr ⟨k,by simp,.inl h⟩
   ·exact .inl h
   ·exact .inr ⟨k',by simp[hk],h⟩
  ·rintro (h | ⟨k',hk,h⟩)
   ·exact .inl (.inr (.inr h))
   ·rcases ax hk with hk | hk
    ·subst hk
     rcases h with h | h
     ·exact .inl (.inr (.inl h))
     ·exact .inl (.inl h)
    ·exact .inr ⟨k',hk,h⟩
theorem Dk {y:TR} : ∀ {l:List TR},y∈l-> ∃z,recAt y.i l=some z
 | x::l,h=>by
  unfold recAt
  split
  ·exact ⟨_,rfl⟩
  ·rename_i hx
   rcases ax h with h | h
   ·rw[h] at hx;exact absurd (Nat.beq_refl _) hx
   ·exact Dk h
section
variable {P:Program} {w0:World} {n:Nat} {s0:Sg} {ops:List Oper} {l:List TR} {J:Hp} {θ:Th} {vs:Nat->Value}
theorem AllOk.closed (ha:AllOk P w0 n s0 ops l) (hlt: ∀x∈l,∀j∈x.b,j<x.i): ∀x∈l,∀y∈l,y.i∈x.b-> ∀k∈y.b,k∈x.b:=by
 have main: ∀m,∀x∈l,x.i=m-> ∀y∈l,y.i∈x.b-> ∀k∈y.b,k∈x.b:=by
  intro m
  induction m using Nat.strongRecOn with
  | _ m ih =>
   intro x hx hxm y hy hyb k hk
   obtain ⟨l1,h1,h2,h3,h4⟩:=ha.get hx
   have hyl:=hlt x hx _ hyb
   have hy1:=h4 y hy hyl
   rw[h1.hb,Vx] at hyb⊢
   rcases hyb with hyb | ⟨q,hq,hyb | hyb⟩
   ·cases hyb
   ·refine .inr ⟨q,hq,.inr ?_⟩
    subst hyb
    obtain ⟨z,hz⟩:=Dk hy1
    unfold bAt
    rw[hz]
    obtain ⟨hz1,hz2⟩:=zY hz
    obtain rfl:=ha.uniq z (h3 z hz1) y hy hz2
    exact hk
   ·refine .inr ⟨q,hq,.inr ?_⟩
    unfold bAt at hyb⊢
    split at hyb
    ·rename_i z hz
     obtain ⟨hz1,hz2⟩:=zY hz
     have hzl:=h2.lt z hz1
     rw[<-h1.hi] at hzl
     exact ih z.i (by omega) z (h3 z hz1) rfl y hy hyb k hk
    ·cases hyb
 exact fun x hx=>main x.i x hx rfl
theorem Vy (hf:Fine P w0 J θ s0):AllOk P w0 n s0 ops l->(AT s0.nxt s0.env l).Pairwise fun a b=>a.2.1≠b.2.1:=by
 induction l with
 | nil=>intro _;exact hf.nd
 | cons x l ih =>
  rintro ⟨h1,h2⟩
  refine nd_go x.o.dst (ih h2) fun e he=>?_
  rcases uZ he with h | ⟨y,hy,k1,k2,k3⟩
  ·have:=hf.ver e h;omega
  ·have:=h2.lt y hy
   have:=h1.hi
   omega
where nd_go {env:List (Nat×Nat×AV)} {k:Nat} {av:AV} (d:Option Nat) (h:env.Pairwise fun a b=>a.2.1≠b.2.1) (hv: ∀e∈env,e.2.1<k):(NV d k av env).Pairwise fun a b=>a.2.1≠b.2.1:=Gl h hv
theorem words (hB:mz s0.chs=true) (hK:hY (gV s0.nxt s0.chs l)=true) (hf:Fine P w0 J θ s0) (ha:AllOk P w0 n s0 ops l) (hc: ∀x∈l,AW s0.nxt x=true) (hlt: ∀x∈l,∀j∈x.b,j<x.i)
  (B:List Nat) (hcl: ∀y∈l,y.i∈B-> ∀k∈y.b,k∈B) (hfact: ∀y∈l,y.i∈B->YU P w0 J (rQ θ s0.nxt vs) s0.nxt y (vs y.i)) :
  ∀x∈l,(∀k∈x.b,k∈B)->Fine P w0 J (rQ θ s0.nxt vs) x.s/\(∀e∈kC s0.nxt x,∀h ver c,Says e h ver c->Nx s0 l h ver c)/\ ∀e∈x.r.chs (s0.nxt+x.i),∀h ver c,Says e h ver c->Nx s0 l h ver c:=by
 have main: ∀m,∀x∈l,x.i=m->(∀k∈x.b,k∈B)->Fine P w0 J (rQ θ s0.nxt vs) x.s/\(∀e∈kC s0.nxt x,∀h ver c,Says e h ver c->Nx s0 l h ver c)/\ ∀e∈x.r.chs (s0.nxt+x.i),∀h ver c,Says e h ver c->Nx s0 l h ver c:=by
  intro m
  induction m using Nat.strongRecOn with
  | _ m ih =>
   intro x hx hxm hxB
   obtain ⟨l1,h1,h2,h3,h4⟩:=ha.get hx
   have IH: ∀y∈l,y.i∈x.b->_:=fun y hy hyb=>ih y.i (by have:=hlt x hx _ hyb;omega) y hy rfl (hcl y hy (hxB _ hyb))
   have hF:Fine P w0 J (rQ θ s0.nxt vs) x.s:=by
    rw[h1.hs]
    exact K0 hB hK hf ha hc l1 h3 x.b x.i (hlt x hx) (fun y hy hyb=>hfact y hy (hxB _ hyb)) (fun y hy hyb=>(IH y hy hyb).2.1) (fun y hy hyb=>(IH y hy hyb).2.2) (Vy hf h2)
   have hsub: ∀e∈x.s.chs,∀h ver c,Says e h ver c->Nx s0 l h ver c:=by
    intro e he h ver c hs
    rw[h1.hs] at he
    obtain ⟨k1,k2⟩:=xw he
    rcases kD.1 k1 with k1 | ⟨y,hy,k1⟩
    ·exact .inl ⟨e,k1,hs⟩
    ·have hv:=(jm k1).1
     rcases k2 with k2 | k2
     ·omega
     ·rw[hv,Nat.add_sub_cancel_left] at k2
      exact (IH y (h3 y hy) k2).2.1 e k1 h ver c hs
   have hgv: ∀e∈kC s0.nxt x,∀h ver c,Says e h ver c->Nx s0 l h ver c:=by
    intro e he h ver c hs
    cases hr:x.run with
    | true =>
     obtain ⟨g1,g2⟩:=h1.good hr
     obtain ⟨hv,hg⟩:=jm he
     obtain ⟨k1,k2⟩:=hs
     rcases k2 with ⟨k2,k3⟩ | k2
     ·refine .inr ⟨x,hx,?_⟩
      have:e=(h,ver,c):=by rw[k3,<-k1,<-k2]
      rw[<-this];exact he
     ·obtain ⟨e0,he0,k⟩:=g1.says J _ hF _ hg ver c k2
      simp only at k
      rw[k1] at k
      exact hsub e0 he0 h ver c k
    | false =>
     have:=h1.skip hr
     unfold kC at he
     rw[this] at he
     cases he
   refine ⟨hF,hgv,fun e he h ver c hs=>?_⟩
   unfold Res.chs at he
   rcases aH he with he | he
   ·exact hgv e he h ver c hs
   ·refine hsub e ?_ h ver c hs
    cases hr:x.run with
    | true =>
     obtain ⟨g1,g2⟩:=h1.good hr
     exact g1.perm.mem_iff.2 (by rcases aH he with he | he <;> simp[he])
    | false =>
     rw[h1.skip hr] at he
     simpa using he
 exact fun x hx hxB=>main x.i x hx rfl hxB
theorem tE {t:Nat} {av:AV} : ∀ {env:List (Nat×Nat×AV)},look env t=some av-> ∃v,AU env t=some v/\(t,v,av)∈env
 | (u,k,x)::l,h=>by
  unfold look at h
  unfold AU
  split at h
  ·rename_i hu
   obtain rfl:=ad h
   rw[if_pos hu,al hu]
   exact ⟨k,rfl,by simp⟩
  ·rename_i hu
   rw[if_neg hu]
   obtain ⟨v,h1,h2⟩:=tE h
   exact ⟨v,h1,by simp[h2]⟩
theorem PK {t v:Nat} {av:AV} {f:Nat×Nat×AV->Bool} (hf: ∀e∈s0.env,f e=true):look ((AT s0.nxt s0.env l).filter f) t=some av->AU ((AT s0.nxt s0.env l).filter f) t=some v->v<s0.nxt->look s0.env t=some av:=by
 induction l with
 | nil =>
  intro h1 h2 h3
  rw[show (AT s0.nxt s0.env []).filter f=s0.env from List.filter_eq_self.2 hf] at h1
  exact h1
 | cons x l ih =>
  intro h1 h2 h3
  unfold AT NV at h1 h2
  split at h1
  ·rename_i d hd
   rw[hd] at h2
   simp only at h2
   rw[List.filter_cons] at h1 h2
   split at h1
   ·rename_i hk
    rw[if_pos hk] at h2
    unfold look at h1
    unfold AU at h2
    split at h1
    ·rename_i hu
     rw[if_pos hu] at h2
     have:=ad h2
     omega
    ·rename_i hu
     rw[if_neg hu] at h2
     exact ih h1 h2 h3
   ·rename_i hk
    rw[if_neg hk] at h2
    exact ih h1 h2 h3
  ·rename_i hd
   rw[hd] at h2
   exact ih h1 h2 h3
theorem ZJ (hf:Fine P w0 J θ s0) {b:List Nat} {i:Nat} {L1:List TR} (hL: ∀y∈L1,y∈l) (hfact: ∀y∈l,y.i∈b->YU P w0 J (rQ θ s0.nxt vs) s0.nxt y (vs y.i)) {t v:Nat} {av:AV}
  (h1:look (subS s0 L1 i b).env t=some av) (h2:AU (subS s0 L1 i b).env t=some v):(match Vs s0.nxt v with | some j=>vs j | none=>((envL θ s0).lookup t).getD undef)=av.v (rQ θ s0.nxt vs):=by
 obtain ⟨v',h3,h4⟩:=tE h1
 obtain rfl:=ad (h2.symm.trans h3)
 unfold Vs
 by_cases hv:v<s0.nxt
 ·rw[if_pos (YT.2 hv)]
  have hb:=PK (fun e he=>PI.2 (.inl (hf.ver e he))) h1 h2 hv
  obtain ⟨e,he,rfl⟩:=tv hb
  rw[AV.v_same (nW (vs:=vs)) (hf.env e he)]
  simp only
  rw[show (envL θ s0).lookup t=_ from gz hb];rfl
 ·rw[if_neg (fun h=>hv (YT.1 h))]
  obtain ⟨h5,h6⟩:=EK h4
  rcases uZ h5 with h5 | ⟨y,hy,k1,k2,k3⟩
  ·exact absurd (hf.ver _ h5) hv
  ·rcases h6 with h6 | h6
   ·exact absurd h6 hv
   ·have k2:v=s0.nxt+y.i:=k2
    have k3:av=y.r.av:=k3
    have h6:v - s0.nxt∈b:=h6
    rw[k2,Nat.add_sub_cancel_left] at h6
    rw[k2,Nat.add_sub_cancel_left,k3]
    exact (hfact y (hL y hy) h6).2.1.symm
end
end R
namespace R
open Go.RowKit
open D
def Tp (P:Program) (w0:World) (J:Hp) (θ:Th) (n0:Nat) (l:List TR) (T:List Ent):Sm where
 fact i vs:= ∀x∈l,x.i=i->YU P w0 J (rQ θ n0 vs) n0 x (vs i)
 chunk k vs:=match T[k]? with
  | some e=>toCh P (rQ θ n0 vs) e
  | none=>Ch.fr (fun _=>none) []
theorem I7 {n0 t v:Nat} {env:List (Nat×Nat×AV)} : ∀ {ts:List Nat},t∈ts->AU env t=some v->Skel.srcOf t (G0 n0 env ts)=some (Vs n0 v)
 | u::ts,h,hv=>by
  unfold G0
  by_cases hu:u=t
  ·subst hu
   rw[hv]
   simp only
   unfold Skel.srcOf
   rw[if_pos (Nat.beq_refl u)]
  ·have ht:t∈ts:=(ax h).resolve_left fun e=>hu e.symm
   cases hw:AU env u with
   | none=>exact I7 ht hv
   | some w =>
    simp only
    unfold Skel.srcOf
    rw[if_neg fun e=>hu (al e)]
    exact I7 ht hv
theorem fin_ok {n0 t v:Nat} {f:Option Nat->Value} : ∀ {env:List (Nat×Nat×AV)} {seen:List Nat},t∉seen->AU env t=some v->((PG n0 env seen).map fun q=>(q.1,f q.2)).lookup t=some (f (Vs n0 v))
 | (u,k,x)::l,seen,hs,hv=>by
  unfold PG
  unfold AU at hv
  split
  ·rename_i hin
   have hin:=nV.1 hin
   have hne:u≠t:=fun e=>hs (e ▸ hin)
   rw[if_neg fun e=>hne (al e)] at hv
   exact fin_ok hs hv
  ·rename_i hin
   rw[List.map_cons,List.lookup_cons]
   by_cases hu:u=t
   ·subst hu
    rw[if_pos (Nat.beq_refl u)] at hv
    obtain rfl:=ad hv
    simp
   ·rw[if_neg fun e=>hu (al e)] at hv
    have:(t==u)=false:=by simpa using fun e=>hu e.symm
    rw[this]
    refine fin_ok (fun h=>?_) hv
    rcases ax h with h | h
    ·exact hu h.symm
    ·exact hs h
section
variable {V:Env} {P:Program} {I:Hp} {w0 w:World} {F:Ch} {J:Hp} {θ:Th} {s0:Sg} {ops:List Oper} {l:List TR} {a:Act}
theorem K4 {x:TR} {i:Nat} (h:i∈x.r.av.ids):i∈Tk x:=aZ _ h
theorem K5 {x:TR} {g:Hdr×Chk} {i:Nat} (hg:g∈x.r.gives) (h:i∈Dj g.1 g.2):i∈Tk x:=bc _ (List.mem_flatMap.2 ⟨g,hg,h⟩)
theorem ZK (hf:Fine P w0 J θ s0) {n:Nat} (ha:AllOk P w0 n s0 ops l) (hlen:l.length=ops.length) (hK:hY (gV s0.nxt s0.chs l)=true) (hc: ∀x∈l,AW s0.nxt x=true) :
  Loc (oP s0 ops l (gV s0.nxt s0.chs l)) (Tp P w0 J θ s0.nxt l (gV s0.nxt s0.chs l)) ops.length:=by
 have agree: ∀x∈l,∀vs vs':Nat->Value,(∀j,j=x.i\/j∈x.b->vs' j=vs j)-> ∀i∈Tk x,rQ θ s0.nxt vs' i=rQ θ s0.nxt vs i:=by
  intro x hx vs vs' hv i hi
  have:=hc x hx
  unfold AW at this
  rw[ai,sk] at this
  have h1:=this.1 i hi
  unfold allowed at h1
  rw[Bool.or_eq_true,Bool.or_eq_true,YT,YS,nV] at h1
  unfold rQ
  by_cases hlt:i<s0.nxt
  ·rw[if_pos hlt,if_pos hlt]
  ·rw[if_neg hlt,if_neg hlt]
   exact hv _ (h1.resolve_left hlt)
 refine ⟨fun i hi vs vs' hv h x hx hxi=>?_,fun k hk vs vs'=>?_,fun i hi k hk vs vs' hv=>?_⟩
 ·subst hxi
  rw[(ha.opAt hx _).2] at hv
  have ag:=agree x hx vs vs' hv
  obtain ⟨h1,h2,h3⟩:=h x hx rfl
  refine ⟨AV.ok_loc (fun i hi=>ag i (K4 hi)) h1,?_,fun g hg=>XK (fun i hi=>ag i (K5 hg hi)) (h3 g hg)⟩
  rw[AV.v_loc fun i hi=>ag i (K4 hi),h2,hv _ (.inl rfl)]
 ·obtain ⟨e,he,rfl⟩:=List.mem_map.1 hk
  have hT:=tD hK (kD.2 (.inl he))
  show (match _ with | some e=>toCh P (rQ θ s0.nxt vs') e | none=>_)=match _ with | some e=>toCh P (rQ θ s0.nxt vs) e | none=>_
  rw[hT]
  simp only
  rw[nT nW (hf.chs e he),nT nW (hf.chs e he)]
 ·obtain ⟨x,hx,hxi,-⟩:=ha.at (fun x=>x) i (by rw[hlen];exact hi)
  subst hxi
  rw[(ha.opAt hx _).2] at hv
  rw[(ha.opAt hx _).1] at hk
  obtain ⟨e,he,rfl⟩:=List.mem_map.1 hk
  have hT:=tD hK (kD.2 (.inr ⟨x,hx,he⟩))
  show (match _ with | some e=>toCh P (rQ θ s0.nxt vs') e | none=>_)=match _ with | some e=>toCh P (rQ θ s0.nxt vs) e | none=>_
  rw[hT]
  simp only
  exact Ti fun i hi=>agree x hx vs vs' hv i (K5 (jm he).2 hi)
theorem XO (hf:Fine P w0 J θ s0) {n:Nat} (ha:AllOk P w0 n s0 ops l) (hlen:l.length=ops.length) (hB:mz s0.chs=true) (hK:hY (gV s0.nxt s0.chs l)=true) (hc: ∀x∈l,AW s0.nxt x=true)
  (hok:(oP s0 ops l (gV s0.nxt s0.chs l)).ok n (knS s0) ops=true) (hkn: ∀t,knS s0 t=true->((envL θ s0).lookup t).isSome=true) (hlt: ∀x∈l,∀j∈x.b,j<x.i) :
  ∀i o,ops[i]? =some o->(oP s0 ops l (gV s0.nxt s0.chs l)).goal (Tp P w0 J θ s0.nxt l (gV s0.nxt s0.chs l)) P J w0 (envL θ s0) i o:=by
 intro i o ho vs hfacts
 obtain ⟨x,hx,hxi,-⟩:=ha.at (fun x=>x) i (by rw[hlen];exact (List.getElem?_eq_some_iff.1 ho).1)
 subst hxi
 obtain ⟨l1,h1,h2,h3,h4⟩:=ha.get hx
 obtain rfl:x.o=o:=ad (h1.ho.symm.trans ho)
 obtain ⟨e1,e2⟩:=ha.opAt hx (gV s0.nxt s0.chs l)
 have hG:=Skel.good_of_ok hkn hok ho
 rw[e2] at hfacts
 have hfact: ∀y∈l,y.i∈x.b->YU P w0 J (rQ θ s0.nxt vs) s0.nxt y (vs y.i):=fun y hy hyb=>hfacts y.i hyb y hy rfl
 have hFine:=(words hB hK hf ha hc hlt x.b (fun y hy hyb k hk=>ha.closed hlt x hx y hy hyb k hk) hfact x hx fun k hk=>hk).1
 have hnx:x.s.nxt=s0.nxt+x.i:=by rw[h1.hs];rfl
 have hw:LR x.o vs=some x.run:=by
  have hgd:=h1.gd
  unfold GdOk at hgd
  unfold LR
  cases hgo:x.o.guard with
  | none=>rw[hgo] at hgd;simp only at hgd⊢;rw[hgd]
  | some gw =>
   obtain ⟨g,want⟩:=gw
   rw[hgo] at hgd
   simp only at hgd⊢
   obtain ⟨y,hy,hyg,hc'⟩:=hgd
   obtain ⟨t,k1,k2⟩:=hG.guard g want hgo
   have hgb:g∈x.b:=by
    have ht:t∈slotsOf ops.toArray x.o:=by
     unfold slotsOf Oper.looksAt
     refine bc _ ?_
     rw[hgo]
     simp only
     rw[k1];simp
    rcases hG.slots t ht with ⟨q1,-,-⟩ | ⟨j,q1,-,q3,-⟩
    ·rw[k2] at q1;cases q1
    ·rw[k2] at q1
     obtain rfl:g=j:=by simpa using q1
     rwa [e2] at q3
   subst hyg
   have hv:=(hfact y (h3 y hy) hgb).2.1
   rcases hc' with ⟨c,hc',hr⟩ | ⟨hc',hr⟩
   ·rw[hc'] at hv
    rw[<-hv,hr];rfl
   ·rw[hc'] at hv
    rw[<-hv,hr];rfl
 rw[hw]
 have hthe: ∀v,rQ θ s0.nxt (upd vs x.i v)=upd (rQ θ s0.nxt vs) (s0.nxt+x.i) v:=fun v=>To
 have hch: ∀vs':Nat->Value,∀e∈gV s0.nxt s0.chs l,(Tp P w0 J θ s0.nxt l (gV s0.nxt s0.chs l)).chunk (numOf e (gV s0.nxt s0.chs l)) vs'=toCh P (rQ θ s0.nxt vs') e:=by
  intro vs' e he
  show (match _ with | some e=>toCh P (rQ θ s0.nxt vs') e | none=>_)=_
  rw[tD hK he]
 cases hr:x.run with
 | false =>
  have hs:=h1.skip hr
  refine ⟨fun y hy hyi=>?_,by rw[e1];show (x.r.ns.map _)= [];rw[hs];rfl,by rw[e1];show (kC _ x).map _= [];unfold kC;rw[hs];rfl⟩
  obtain rfl:=ha.uniq y hy x hx hyi
  refine ⟨?_,?_,fun g hg=>?_⟩
  ·rw[hs];trivial
  ·rw[hs,iN];rfl
  ·rw[hs] at hg;cases hg
 | true =>
  obtain ⟨hGd,hk⟩:=h1.good hr
  have base:=hGd.op J _ hFine
  have hin: ∀e,e∈x.r.rs++x.r.ns->e∈gV s0.nxt s0.chs l/\e∈x.s.chs:=by
   intro e he
   have he2:e∈x.s.chs:=hGd.perm.mem_iff.2 (aZ _ he)
   refine ⟨?_,he2⟩
   rw[h1.hs] at he2
   rcases kD.1 (xw he2).1 with h | ⟨y,hy,h⟩
   ·exact kD.2 (.inl h)
   ·exact kD.2 (.inr ⟨y,h3 y hy,h⟩)
  have hev: ∀u∈x.o.op.operands,(oP s0 ops l (gV s0.nxt s0.chs l)).ev (envL θ s0) x.i vs u=evL (envL (rQ θ s0.nxt vs) x.s) u:=by
   intro u hu
   cases u with
   | tmp t =>
    unfold okO at hk
    rw[ai,ai] at hk
    have hx1:=List.all_eq_true.1 hk.1.1 (.tmp t) (by simpa using hu)
    simp only[Bool.or_false] at hx1
    obtain ⟨av,hav⟩:=Option.isSome_iff_exists.1 hx1
    have hav:look x.s.env t=some av:=hav
    rw[aB (x:=.tmp t) hav]
    obtain ⟨v,hv,hm⟩:=tE hav
    have ht:t∈slotsOf ops.toArray x.o:=by
     unfold slotsOf Oper.looksAt
     exact aZ _ (List.mem_filterMap.2 ⟨.tmp t,by simpa using hu,rfl⟩)
    have hsrc:Skel.srcOf t ((oP s0 ops l (gV s0.nxt s0.chs l)).op x.i).src=some (Vs s0.nxt v):=by
     rw[e1];exact I7 ht hv
    have hval:=ZJ (L1:=l1) (b:=x.b) (i:=x.i) hf h3 hfact (t:=t) (v:=v) (av:=av) (by rw[<-h1.hs];exact hav) (by rw[<-h1.hs];exact hv)
    rw[<-hval]
    show (match Skel.srcOf t _ with | some (some j)=>vs j | _=>_)=_
    rw[hsrc]
    cases Vs s0.nxt v <;> rfl
   | _=>rfl
  have hpre:((((oP s0 ops l (gV s0.nxt s0.chs l)).op x.i).reads++((oP s0 ops l (gV s0.nxt s0.chs l)).op x.i).needs).map ((Tp P w0 J θ s0.nxt l (gV s0.nxt s0.chs l)).chunk · vs))=(x.r.rs++x.r.ns).map (toCh P (rQ θ s0.nxt vs)):=by
   rw[e1]
   show ((x.r.rs.map _)++(x.r.ns.map _)).map _=_
   rw[<-aS,List.map_map]
   exact List.map_congr_left fun e he=>hch vs e (hin e he).1
  intro wd C hs
  have hs':=hs
  rw[hpre] at hs'
  have hb:=base wd C hs'
  have hsel:noSelect x.o=true:=hG.sel
  rw[<-qx hsel hev] at hb
  refine hb.imp fun v w' hv=>⟨fun y hy hyi=>?_,?_⟩
  ·obtain rfl:=ha.uniq y hy x hx hyi
   rw[hthe,iN]
   obtain ⟨q1,q2,q3⟩:=hv.1
   rw[hnx] at q1 q2 q3
   exact ⟨q1,q2,q3⟩
  ·have hst:=hv.2
   rw[hnx] at hst
   have hgv:((((oP s0 ops l (gV s0.nxt s0.chs l)).op x.i).reads++((oP s0 ops l (gV s0.nxt s0.chs l)).op x.i).gives).map ((Tp P w0 J θ s0.nxt l (gV s0.nxt s0.chs l)).chunk · (upd vs x.i v)))=x.r.rs.map (toCh P (rQ θ s0.nxt vs))++x.r.gives.map fun g=>toCh P (upd (rQ θ s0.nxt vs) (s0.nxt+x.i) v) (g.1,s0.nxt+x.i,g.2):=by
    rw[e1]
    show ((x.r.rs.map _)++((kC s0.nxt x).map _)).map _=_
    rw[aS,List.map_map,List.map_map]
    congr 1
    ·refine List.map_congr_left fun e he=>?_
     show (Tp P w0 J θ s0.nxt l (gV s0.nxt s0.chs l)).chunk (numOf e _) (upd vs x.i v)=_
     obtain ⟨m1,m2⟩:=hin e (aZ _ he)
     rw[hch _ e m1,hthe]
     have:=hFine.chs e m2
     rw[hnx] at this
     exact nT Same.upd this
    ·unfold kC
     rw[List.map_map]
     refine List.map_congr_left fun g hg=>?_
     show (Tp P w0 J θ s0.nxt l (gV s0.nxt s0.chs l)).chunk (numOf (g.1,s0.nxt+x.i,g.2) _) (upd vs x.i v)=_
     rw[hch _ _ (kD.2 (.inr ⟨x,hx,List.mem_map.2 ⟨g,hg,rfl⟩⟩)),hthe]
   exact Eq.mp (congrArg (fun cs=>St J w0 w' (cs++C)) hgv.symm) hst
theorem G8 {Y:Type} {id:Nat} {k:Sg->Option Y} {res:Y} {Q:Exit->Act->World->Prop} (hT:TTok P V.tt) (hF:FTok P V.ft) (hm:P.follows .mixedOrders=true) (h:KY V ops k s0=some res) (hS0:Sim P I w0 F V.n J θ s0 a w)
  (K: ∀s' θ' a' w',k s'=some res->Sim P I w0 F V.n J θ' s' a' w'->Fr s0 θ s' θ'->Q .normal a' w'):(Code.region id ops.toArray true).wp P Q a w:=by
 unfold KY at h
 obtain ⟨l,h,ha,hlen⟩:=PF (w0:=w0) hT hF h rfl rfl trivial
 obtain ⟨hpl,h⟩:=aj h
 unfold Vu at hpl
 simp only[ai,List.all_eq_true] at hpl
 obtain ⟨hB,hK,hc,hok,hokB⟩:=hpl
 have hf:=hS0.fine
 have hkn: ∀t,knS s0 t=true->((envL θ s0).lookup t).isSome=true:=by
  intro t ht
  obtain ⟨av,hav⟩:=Option.isSome_iff_exists.1 ht
  rw[show (envL θ s0).lookup t=_ from gz hav];rfl
 have hlt: ∀x∈l,∀j∈x.b,j<x.i:=by
  intro x hx j hj
  obtain ⟨l1,h1,-⟩:=ha.get hx
  have hG:=Skel.good_of_ok hkn hok h1.ho
  have:=hG.bef j (by rw[(ha.opAt hx _).2];exact hj)
  exact this.1
 refine Tg (C:=[F]) (oP s0 ops l (gV s0.nxt s0.chs l)) (Tp P w0 J θ s0.nxt l (gV s0.nxt s0.chs l)) hkn (ZK hf ha hlen hK hc) hm hS0.agr hS0.st ?_ hok hokB (XO hf ha hlen hB hK hc hok hkn hlt) ?_
 ·refine (List.Perm.of_eq ?_)
  congr 1
  show _=(s0.chs.map _).map _
  rw[List.map_map]
  refine List.map_congr_left fun e he=>?_
  show _=match _ with | some e=>toCh P (rQ θ s0.nxt fun _=>undef) e | none=>_
  rw[tD hK (kD.2 (.inl he))]
  exact (nT nW (hf.chs e he)).symm
 ·intro vs a' w' hfacts hA hst
  have hfact: ∀y∈l,YU P w0 J (rQ θ s0.nxt vs) s0.nxt y (vs y.i):=fun y hy=>hfacts y.i (by rw[<-hlen];exact ha.lt y hy) y hy rfl
  have hall:=words hB hK hf ha hc hlt (List.range l.length) (fun y hy _ k hk=>List.mem_range.2 (Nat.lt_trans (hlt y hy k hk) (ha.lt y hy))) (fun y hy _=>hfact y hy)
  have hall': ∀x∈l,_:=fun x hx=>hall x hx fun k hk=>List.mem_range.2 (Nat.lt_trans (hlt x hx k hk) (ha.lt x hx))
  have hFine:Fine P w0 J (rQ θ s0.nxt vs) (Tj s0 l):=K0 hB hK hf ha hc l (fun y hy=>hy) (List.range l.length) l.length (fun j hj=>List.mem_range.1 hj) (fun y hy _=>hfact y hy) (fun y hy _=>(hall' y hy).2.1) (fun y hy _=>(hall' y hy).2.2) (Vy hf ha)
  refine K (Tj s0 l) (rQ θ s0.nxt vs) a' w' h ⟨hS0.le,hA.sub fun t v hv=>?_,?_,hFine⟩ (Fr.rfl.trans ⟨Nat.le_add_right _ _,nW,fun e he hv=>?_,fun e he h' ver c hs=>?_⟩)
  ·
   cases hl:look (Tj s0 l).env t with
   | none =>
    exfalso
    have: ∀ {env:List (Nat×Nat×AV)} {θ:Th},look env t=none->(env.map fun e=>(e.1,e.2.2.v θ)).lookup t=none:=by
     intro env θ
     induction env with
     | nil=>intro _;rfl
     | cons e env ih =>
      intro hh
      unfold look at hh
      split at hh
      ·cases hh
      ·rename_i hu
       rw[List.map_cons,List.lookup_cons]
       have hne:(t==e.1)=false:=by
        simp only[beq_eq_false_iff_ne];intro e';subst e';exact hu (Nat.beq_refl _)
       rw[show (t==(e.1,AV.v θ e.2.2).1)=false from hne]
       exact ih hh
    rw[show (envL (rQ θ s0.nxt vs) (Tj s0 l)).lookup t=none from this hl] at hv
    cases hv
   | some av =>
    have hv2:=gz (θ:=rQ θ s0.nxt vs) hl
    obtain rfl:=ad (hv2.symm.trans hv)
    obtain ⟨ver,hver,-⟩:=tE hl
    have hval:=ZJ (L1:=l) (b:=List.range l.length) (i:=l.length) hf (fun y hy=>hy) (fun y hy _=>hfact y hy) (t:=t) (v:=ver) (av:=av) hl hver
    have:=fin_ok (n0:=s0.nxt) (seen:=[]) (f:=fun s=>match s with | some j=>vs j | none=>((envL θ s0).lookup t).getD undef) (by simp) hver
    have key: ∀M:List (Nat×Option Nat),(M.map fun q=>(q.1,match q.2 with | some j=>vs j | none=>((envL θ s0).lookup q.1).getD undef)).lookup t=(M.map fun q=>(q.1,(fun s=>match s with | some j=>vs j | none=>((envL θ s0).lookup t).getD undef) q.2)).lookup t:=by
     intro M
     induction M with
     | nil=>rfl
     | cons q M ih =>
      rw[List.map_cons,List.map_cons,List.lookup_cons,List.lookup_cons]
      by_cases e:t=q.1
      ·subst e;simp
      ·rw[show (t==q.1)=false from by simpa using e];exact ih
    exact (key _).trans (this.trans (congrArg some hval))
  ·have e:((Tj s0 l).chs.map (numOf · (gV s0.nxt s0.chs l))).map ((Tp P w0 J θ s0.nxt l (gV s0.nxt s0.chs l)).chunk · vs)=(Tj s0 l).chs.map (toCh P (rQ θ s0.nxt vs)):=by
    rw[List.map_map]
    refine List.map_congr_left fun e he=>?_
    show (match _ with | some e=>toCh P (rQ θ s0.nxt vs) e | none=>_)=_
    rw[tD hK (xw he).1]
   rw[<-e];exact hst
  ·obtain ⟨h5,h6⟩:=EK he
   rcases uZ h5 with h5 | ⟨y,hy,k1,k2,k3⟩
   ·exact h5
   ·omega
  ·obtain ⟨h5,h6⟩:=xw he
   have horig:Nx s0 l h' ver c:=by
    rcases kD.1 h5 with h5 | ⟨y,hy,h5⟩
    ·exact .inl ⟨e,h5,hs⟩
    ·exact (hall' y hy).2.1 e h5 h' ver c hs
   rcases horig with ⟨e0,he0,hk⟩ | ⟨y,hy,hk⟩
   ·exact .inr ⟨e0,he0,hk⟩
   ·have:=(jm hk).1
    exact .inl (by simp only at this;omega)
theorem MF {hs:List Hdr} : ∀ {s:Sg} {J:Hp},Sim P I w0 F V.n J θ s a w-> ∃J',J.le J'/\Sim P I w0 F V.n J' θ (EJ hs s) a w/\Fr s θ (EJ hs s) θ:=by
 induction hs with
 | nil=>exact fun hS=>⟨_,Hp.le.rfl,hS,Fr.rfl⟩
 | cons h hs ih =>
  intro s J hS
  have h1: ∃J',J.le J'/\Sim P I w0 F V.n J' θ (xr h s) a w/\Fr s θ (xr h s) θ:=by
   unfold xr
   split
   ·exact GO ‹_› hS
   ·exact ⟨J,Hp.le.rfl,hS,Fr.rfl⟩
  obtain ⟨J1,hJ1,S1,F1⟩:=h1
  obtain ⟨J2,hJ2,S2,F2⟩:=ih S1
  exact ⟨J2,hJ1.trans hJ2,S2,F1.trans F2⟩
theorem PL {s:Sg} (hS:Sim P I w0 F V.n J θ s a w): ∃J',J.le J'/\Sim P I w0 F V.n J' θ (wc ops s) a w/\Fr s θ (wc ops s) θ:=by
 unfold wc
 split
 ·exact MF hS
 ·exact ⟨J,Hp.le.rfl,hS,Fr.rfl⟩
theorem Tq {tr:Trs} {s:Sg} (hS:Sim P I w0 F V.n J θ s a w): ∃J' θ',J.le J'/\Sim P I w0 F V.n J' θ' (Tl tr ops s) a w/\Fr s θ (Tl tr ops s) θ':=by
 obtain ⟨θ1,S0,F0⟩:=zS hS
 obtain ⟨J1,hJ1,S1,F1⟩:=PL (ops:=ops) S0
 obtain ⟨S2,F2⟩:=tx (hs:=AX (wc ops (qC s)) ops) S1
 have F2:=(F0.trans F1).trans F2
 show∃J' θ',J.le J'/\Sim P I w0 F V.n J' θ' (KZ tr ops (vY (AX (wc ops (qC s)) ops) (wc ops (qC s)))) a w/\Fr s θ (KZ tr ops (vY (AX (wc ops (qC s)) ops) (wc ops (qC s)))) θ'
 unfold KZ
 split
 ·exact ⟨J1,θ1,hJ1,S2,F2⟩
 ·obtain ⟨J',θ',h1,h2,h3⟩:=uX S2
  exact ⟨J',θ',hJ1.trans h1,h2,F2.trans h3⟩
theorem Ts {Y:Type} {id:Nat} {k:Sg->Option Y} {res:Y} {Q:Exit->Act->World->Prop} (hT:TTok P V.tt) (hF:FTok P V.ft) (hm:P.follows .mixedOrders=true) {s:Sg} (h:ZI V ops k s=some res) (hS:Sim P I w0 F V.n J θ s a w)
  (K: ∀s' J' θ' a' w',k s'=some res->Sim P I w0 F V.n J' θ' s' a' w'->J.le J'->Fr s θ s' θ'->Q .normal a' w'):(Code.region id ops.toArray true).wp P Q a w:=by
 obtain ⟨J1,θ1,hJ,S1,F1⟩:=Tq (tr:=V.tr) (ops:=ops) hS
 have h:PH V ops k (Tl V.tr ops s)=some res:=h
 unfold PH at h
 split at h
 ·obtain ⟨s2,h2,h⟩:=Mz h
  obtain ⟨θ2,S2,F2⟩:=SV h2 S1
  exact G8 hT hF hm h S2 fun s' θ' a' w' hk hS' hFr=>K s' J1 θ' a' w' hk hS' hJ ((F1.trans F2).trans hFr)
 ·exact G8 hT hF hm h S1 fun s' θ' a' w' hk hS' hFr=>K s' J1 θ' a' w' hk hS' hJ (F1.trans hFr)
end
end R
namespace R
open Go.RowKit
open D
inductive Ann
 | no
 | two (a b:Ann)
 | loop (sh:List It) (a:Ann)
 | join (sh:List It) (a b:Ann)
 | joinX (sh:List It) (a b:Ann)
 | at (sh:List It) (a:Ann)
 | atX (sh:List It) (a:Ann)
def Ann.t (a:Ann):Ann:=.two .no a
def Ann.l:Ann->Ann
 | .two a _=>a
 | _=>.no
def Ann.r:Ann->Ann
 | .two _ b=>b
 | _=>.no
def G9:Code->List Nat
 | .region _ ops _=>ops.toList.filterMap (·.dst)
 | .seq a b=>G9 a++G9 b
 | .cond _ a b=>G9 a++G9 b
 | .block _ a=>G9 a
 | .loop a=>G9 a
 | .scope a=>G9 a
 | _=>[]
def PN:List It->List Nat
 | [] =>[]
 | .slot t _::is=>t::PN is
 | _::is=>PN is
def Cr (c:Code) (is:List It):List Nat:=G9 c++PN is
def ZL {Y:Type} (i:Nat) (kb:Sg->Option Y) (kx:Nat->Sg->Option Y):Nat->Sg->Option Y:=fun j s=>if Nat.beq j i then kb s else kx j s
def ZM (V:Env) {R Y:Type} (c:Code) (n:Ann) (kr:R->Option Y) (kx:Nat->Sg->Option Y) (kn:Sg->Option Y) (s:Sg) (run:(Z:Type)->Ann->(R->Option Z)->(Nat->Sg->Option Z)->(Sg->Option Z)->Sg->Option Z):Option Y:=match n with
 | .at sh n=>(AP (Cr c sh) sh s).bind fun q=>Option.bind (run (Vo (rP q.its)) n (fun _=>none) (fun _ _=>none) (fun s'=>(q.of s').bind fun d=>some (ofN _ d)) s) fun d=>kn (q.at (toN _ d))
 | .atX sh n=>(AP (Cr c sh) sh s).bind fun q=>Is (run (Y ⊕ Vo (rP q.its)) n (fun r=>(kr r).bind fun t=>some (.inl t)) (fun i s'=>(kx i s').bind fun t=>some (.inl t)) (fun s'=>(q.of s').bind fun d=>some (.inr (ofN _ d))) s) fun d=>kn (q.at (toN _ d))
 | n=>run Y n kr kx kn s
noncomputable def lz (V:Env) {R:Type} (rt:Sg->Option R):(c:Code)-> {Y:Type} ->Ann->(R->Option Y)->(Nat->Sg->Option Y)->(Sg->Option Y)->Sg->Option Y
 | .skip,_,_,kr,kx,kn,s=>kn s
 | .ret,_,_,kr,kx,kn,s=>(rt s).bind kr
 | .region id ops dr,_,n,kr,kx,kn,s=>ZM V (.region id ops dr) n kr kx kn s fun Z n kr kx kn s=>match dr with
  | false=>KR V ops.toList (fun s=>kn (YO s)) ops.toList s
  | true=>ZI V ops.toList (fun s=>kn (YO s)) s
 | .seq a b,Y,n,kr,kx,kn,s=>match n with
  | .join sh n1 n2=>(AP (Cr a sh) sh s).bind fun q=>Option.bind (lz V rt a n1 (Y:=Vo (rP q.its)) (fun _=>none) (fun _ _=>none) (fun s'=>(q.of s').bind fun d=>some (ofN _ d)) s) fun d=>lz V rt b n2 kr kx kn (q.at (toN _ d))
  | .joinX sh n1 n2=>(AP (Cr a sh) sh s).bind fun q=>Is (lz V rt a n1 (Y:=Y ⊕ Vo (rP q.its)) (fun r=>(kr r).bind fun t=>some (.inl t)) (fun i s'=>(kx i s').bind fun t=>some (.inl t)) (fun s'=>(q.of s').bind fun d=>some (.inr (ofN _ d))) s) fun d=>lz V rt b n2 kr kx kn (q.at (toN _ d))
  | n=>lz V rt a n.l kr kx (fun s'=>lz V rt b n.r kr kx kn s') s
 | .cond c a b,_,n,kr,kx,kn,s=>ZM V (.cond c a b) n kr kx kn s fun Z n kr kx kn s=>(opd s c).bind fun v=>onB v (lz V rt a n.l kr kx kn s) (lz V rt b n.r kr kx kn s)
 | .block i (.loop c),_,n,kr,kx,kn,s=>ZM V (.block i (.loop c)) n kr kx kn s fun Z n kr kx kn s=>match n with
  | .loop sh n=>(AP (Cr c sh) sh s).bind fun q=>(q.of s).bind fun d0 =>
    aJ (ak (fun d=>lz V rt c n (Y:=Out R (Vo (rP q.its))) (fun r=>some (.ret r)) (ZL i (fun s'=>(q.of s').bind fun d=>some (.brk (ofN _ d))) fun _ _=>none) (fun s'=>(q.of s').bind fun d=>some (.nxt (ofN _ d))) (q.at (toN _ d))) aP (ofN _ d0)) kr (fun d=>kn (q.at (toN _ d)))
  | _=>none
 | .block i c,_,n,kr,kx,kn,s=>ZM V (.block i c) n kr kx kn s fun Z n kr kx kn s=>lz V rt c n kr (ZL i kn kx) kn s
 | .exit i,_,_,kr,kx,kn,s=>kx i s
 | _,_,_,_,_,_,_=>none
section
variable {V:Env} {P:Program} {I:Hp} {w0:World} {F:Ch} {R:Type} {rt:Sg->Option R}
def IOk (V : Env) (P : Program) (I : Hp) (w0 : World) (F : Ch) {R : Type} (rt : Sg -> Option R) (c : Code) : Prop := ∀ {Y : Type} (n : Ann) {kr : R -> Option Y} {kx : Nat -> Sg -> Option Y} {kn : Sg -> Option Y} {s : Sg} {y : Y} {Q : Exit -> Act -> World -> Prop} {J : Hp} {θ : Th} {a : Act} {w : World},
    lz V rt c n kr kx kn s = some y -> Sim P I w0 F V.n J θ s a w ->
    (∀ J' θ' s' a' w', kn s' = some y -> Sim P I w0 F V.n J' θ' s' a' w' -> J.le J' -> Fr s θ s' θ' -> Q .normal a' w') ->
    (∀ i J' θ' s' a' w', kx i s' = some y -> Sim P I w0 F V.n J' θ' s' a' w' -> J.le J' -> Fr s θ s' θ' -> Q (.exit i) a' w') ->
    (∀ r J' θ' s' a' w', rt s' = some r -> kr r = some y -> Sim P I w0 F V.n J' θ' s' a' w' -> J.le J' -> Fr s θ s' θ' -> Q .ret a' w') -> c.wp P Q a w
def ROk (V : Env) (P : Program) (I : Hp) (w0 : World) (F : Ch) {R : Type} (rt : Sg -> Option R) (c : Code) (run : (Z : Type) -> Ann -> (R -> Option Z) -> (Nat -> Sg -> Option Z) -> (Sg -> Option Z) -> Sg -> Option Z) : Prop := ∀ {Y : Type} (n : Ann) {kr : R -> Option Y} {kx : Nat -> Sg -> Option Y} {kn : Sg -> Option Y} {s : Sg} {y : Y} {Q : Exit -> Act -> World -> Prop} {J : Hp} {θ : Th} {a : Act} {w : World},
    run Y n kr kx kn s = some y -> Sim P I w0 F V.n J θ s a w ->
    (∀ J' θ' s' a' w', kn s' = some y -> Sim P I w0 F V.n J' θ' s' a' w' -> J.le J' -> Fr s θ s' θ' -> Q .normal a' w') ->
    (∀ i J' θ' s' a' w', kx i s' = some y -> Sim P I w0 F V.n J' θ' s' a' w' -> J.le J' -> Fr s θ s' θ' -> Q (.exit i) a' w') ->
    (∀ r J' θ' s' a' w', rt s' = some r -> kr r = some y -> Sim P I w0 F V.n J' θ' s' a' w' -> J.le J' -> Fr s θ s' θ' -> Q .ret a' w') -> c.wp P Q a w
theorem EL {c:Code} {run:(Z:Type)->Ann->(R->Option Z)->(Nat->Sg->Option Z)->(Sg->Option Z)->Sg->Option Z} (hr:ROk V P I w0 F rt c run) {Y:Type} (n:Ann) {kr:R->Option Y} {kx:Nat->Sg->Option Y} {kn:Sg->Option Y} {s:Sg} {y:Y} {Q:Exit->Act->World->Prop} {J:Hp} {θ:Th} {a:Act} {w:World}
  (h:ZM V c n kr kx kn s run=some y) (hS:Sim P I w0 F V.n J θ s a w)
  (HN: ∀J' θ' s' a' w',kn s'=some y->Sim P I w0 F V.n J' θ' s' a' w'->J.le J'->Fr s θ s' θ'->Q .normal a' w')
  (HX: ∀i J' θ' s' a' w',kx i s'=some y->Sim P I w0 F V.n J' θ' s' a' w'->J.le J'->Fr s θ s' θ'->Q (.exit i) a' w')
  (HR: ∀r J' θ' s' a' w',rt s'=some r->kr r=some y->Sim P I w0 F V.n J' θ' s' a' w'->J.le J'->Fr s θ s' θ'->Q .ret a' w'):c.wp P Q a w:=by
 have plain:=fun n h=>hr n h hS HN HX HR
 cases n with
 | «at» sh n =>
  have ⟨q,hq,h⟩:=bind_some (show (AP (Cr c sh) sh s).bind _=some y from h)
  have ⟨d,h1,h2⟩:=bind_some h
  have hC:=v7 hq hS.fine
  refine hr n h1 hS (fun J' θ' s' a' w' hk hS' hJ hFr=>?_) (fun i J' θ' s' a' w' hk hS' hJ hFr=>by cases hk) (fun r J' θ' s' a' w' q1 q2 hS' hJ hFr=>by cases q2)
  have ⟨d',hd,hk⟩:=bind_some hk
  grind[ad,AR,px]
 | atX sh n =>
  have ⟨q,hq,h⟩:=bind_some (show (AP (Cr c sh) sh s).bind _=some y from h)
  have ⟨o,h1,h2⟩:=C2 h
  have hC:=v7 hq hS.fine
  refine hr n h1 hS (fun J' θ' s' a' w' hk hS' hJ hFr=>?_) (fun i J' θ' s' a' w' hk hS' hJ hFr=>?_) (fun r J' θ' s' a' w' q1 q2 hS' hJ hFr=>?_)
  ·have ⟨d',hd,hk⟩:=bind_some hk
   grind[ad,AR,Sum.inr.inj,px]
  ·have ⟨t,ht,hk⟩:=bind_some hk
   grind
  ·have ⟨t,ht,hk⟩:=bind_some q2
   grind
 | no=>exact plain _ h
 | two _ _=>exact plain _ h
 | loop _ _=>exact plain _ h
 | join _ _ _=>exact plain _ h
 | joinX _ _ _=>exact plain _ h
theorem AY (hT:TTok P V.tt) (hF:FTok P V.ft) (hm:P.follows .mixedOrders=true): ∀c:Code,IOk V P I w0 F rt c/\ ∀c',c= .loop c'->IOk V P I w0 F rt c':=by
 intro c
 induction c with
 | skip =>
  refine ⟨?_,fun c' e=>(by cases e)⟩
  intro Y n kr kx kn s y Q J θ a w h hS HN HX HR
  exact wp_skip (HN J θ s a w h hS Hp.le.rfl Fr.rfl)
 | ret =>
  refine ⟨?_,fun c' e=>(by cases e)⟩
  intro Y n kr kx kn s y Q J θ a w h hS HN HX HR
  have ⟨r,h1,h2⟩:=bind_some (show (rt s).bind kr=some y from h)
  grind[wp_ret,Hp.le.rfl,Fr.rfl]
 | exit i =>
  refine ⟨?_,fun c' e=>(by cases e)⟩
  intro Y n kr kx kn s y Q J θ a w h hS HN HX HR
  exact wp_exit (HX i J θ s a w h hS Hp.le.rfl Fr.rfl)
 | region id ops dr =>
  refine ⟨?_,fun c' e=>(by cases e)⟩
  intro Y n kr kx kn s y Q J θ a w h hS HN HX HR
  refine EL (fun {Y} n {kr kx kn s y Q J θ a w} h hS HN HX HR=>?_) n h hS HN HX HR
  cases dr with
  | true =>
   have h:=h
   have:=Ts (id:=id) hT hF hm h hS fun s' J' θ' a' w' hk hS' hJ hFr=>by
    have ⟨θ2,S2,F2⟩:=Pn hS'
    exact HN J' θ2 (YO s') a' w' hk S2 hJ (hFr.trans F2)
   omega
  | false =>
   have h:=h
   exact wp_region_lit (l:=ops.toList) (GR hT hF h hS fun s' J' θ' a' w' hk hS' hJ hFr=>by
    have ⟨θ2,S2,F2⟩:=Pn hS'
    exact HN J' θ2 (YO s') a' w' hk S2 hJ (hFr.trans F2))
 | cond c x y ihx ihy =>
  refine ⟨?_,fun c' e=>(by cases e)⟩
  intro Y n kr kx kn s r Q J θ a w h hS HN HX HR
  refine EL (fun {Y} n {kr kx kn s r Q J θ a w} h hS HN HX HR=>?_) n h hS HN HX HR
  have ⟨v,hv',h⟩:=bind_some (show (opd s c).bind _=some r from h)
  have ⟨b,hb,h⟩:=U0 h
  have hk:NA (envL θ s) c=true:=by
   cases c with
   | tmp t =>
    have:=gz (θ:=θ) (show look s.env t=some v from hv')
    show ((envL θ s).lookup t).isSome=true
    grind[envL]
   | _=>rfl
  have hev:=(aB hv').trans (hb θ)
  cases b with
  | true=>exact RL hS.agr hk hev rfl (ihx.1 n.l h hS HN HX HR)
  | false=>exact NH hS.agr hk hev rfl (ihy.1 n.r h hS HN HX HR)
 | seq x z ihx ihz =>
  refine ⟨?_,fun c' e=>(by cases e)⟩
  intro Y n kr kx kn s y Q J θ a w h hS HN HX HR
  have plain:=fun h =>
   wp_seq (ihx.1 n.l h hS (fun J' θ' s' a' w' hk hS' hJ hFr=>ihz.1 n.r hk hS' (fun J2 θ2 s2 a2 w2 k2 S2 L2 F2=>HN J2 θ2 s2 a2 w2 k2 S2 (hJ.trans L2) (hFr.trans F2)) (fun i J2 θ2 s2 a2 w2 k2 S2 L2 F2=>HX i J2 θ2 s2 a2 w2 k2 S2 (hJ.trans L2) (hFr.trans F2)) (fun r J2 θ2 s2 a2 w2 q1 q2 S2 L2 F2=>HR r J2 θ2 s2 a2 w2 q1 q2 S2 (hJ.trans L2) (hFr.trans F2)))
    (fun i J' θ' s' a' w' hk hS' hJ hFr=>Wr (HX i J' θ' s' a' w' hk hS' hJ hFr)) (fun r J' θ' s' a' w' q1 q2 hS' hJ hFr=>Ws (HR r J' θ' s' a' w' q1 q2 hS' hJ hFr)))
  cases n with
  | join sh n1 n2 =>
   have ⟨q,hq,h⟩:=bind_some (show (AP (Cr x sh) sh s).bind _=some y from h)
   have ⟨d,h1,h2⟩:=bind_some h
   have hC:=v7 hq hS.fine
   refine wp_seq (ihx.1 n1 h1 hS (fun J' θ' s' a' w' hk hS' hJ hFr=>?_) (fun i J' θ' s' a' w' hk hS' hJ hFr=>by cases hk) (fun r J' θ' s' a' w' q1 q2 hS' hJ hFr=>by cases q2))
   have ⟨d',hd,hk⟩:=bind_some hk
   cases ad hk
   have ⟨θ2,S2,F2⟩:=AR hC hS' hFr hJ hd
   rw[px] at h2
   exact ihz.1 n2 h2 S2 (fun J3 θ3 s3 a3 w3 k3 S3 L3 F3=>HN J3 θ3 s3 a3 w3 k3 S3 (hJ.trans L3) (F2.trans F3)) (fun i J3 θ3 s3 a3 w3 k3 S3 L3 F3=>HX i J3 θ3 s3 a3 w3 k3 S3 (hJ.trans L3) (F2.trans F3)) (fun r J3 θ3 s3 a3 w3 q1 q2 S3 L3 F3=>HR r J3 θ3 s3 a3 w3 q1 q2 S3 (hJ.trans L3) (F2.trans F3))
  | joinX sh n1 n2 =>
   have ⟨q,hq,h⟩:=bind_some (show (AP (Cr x sh) sh s).bind _=some y from h)
   have ⟨o,h1,h2⟩:=C2 h
   have hC:=v7 hq hS.fine
   refine wp_seq (ihx.1 n1 h1 hS (fun J' θ' s' a' w' hk hS' hJ hFr=>?_) (fun i J' θ' s' a' w' hk hS' hJ hFr=>?_) (fun r J' θ' s' a' w' q1 q2 hS' hJ hFr=>?_))
   ·have ⟨d',hd,hk⟩:=bind_some hk
    cases ad hk
    have ⟨θ2,S2,F2⟩:=AR hC hS' hFr hJ hd
    rcases h2 with ⟨d,e,h2⟩ | h2
    ·cases Sum.inr.inj e
     rw[px] at h2
     exact ihz.1 n2 h2 S2 (fun J3 θ3 s3 a3 w3 k3 S3 L3 F3=>HN J3 θ3 s3 a3 w3 k3 S3 (hJ.trans L3) (F2.trans F3)) (fun i J3 θ3 s3 a3 w3 k3 S3 L3 F3=>HX i J3 θ3 s3 a3 w3 k3 S3 (hJ.trans L3) (F2.trans F3)) (fun r J3 θ3 s3 a3 w3 q1 q2 S3 L3 F3=>HR r J3 θ3 s3 a3 w3 q1 q2 S3 (hJ.trans L3) (F2.trans F3))
    grind
   ·have ⟨t,ht,hk⟩:=bind_some hk
    grind[ad,Sum.inl.inj,Wr]
   ·have ⟨t,ht,hk⟩:=bind_some q2
    cases ad hk
    rcases h2 with ⟨d,e,h2⟩ | h2
    ·cases e
    grind[Sum.inl.inj,Ws]
  | no=>exact plain h
  | two _ _=>exact plain h
  | loop _ _=>exact plain h
  | «at» _ _=>exact plain h
  | atX _ _=>exact plain h
 | block i x ih =>
  refine ⟨?_,fun c' e=>(by cases e)⟩
  intro Y n kr kx kn s y Q J θ a w h hS HN HX HR
  have plain:ROk V P I w0 F rt (.block i x) (fun Z n kr kx kn s=>lz V rt x n kr (ZL i kn kx) kn s):=fun {Y} n {kr kx kn s y Q J θ a w} h hS HN HX HR =>
   wp_block (ih.1 n h hS (fun J' θ' s' a' w' hk hS' hJ hFr=>acY (HN J' θ' s' a' w' hk hS' hJ hFr))
    (fun j J' θ' s' a' w' hk hS' hJ hFr=>by
     unfold ZL at hk
     split at hk
     ·rename_i hj
      have:=al hj
      subst this
      exact Y3 (HN J' θ' s' a' w' hk hS' hJ hFr)
     ·rename_i hj
      exact Y4 (fun e=>hj (by rw[e];exact Nat.beq_refl i)) (HX j J' θ' s' a' w' hk hS' hJ hFr))
    (fun r J' θ' s' a' w' q1 q2 hS' hJ hFr=>acm (HR r J' θ' s' a' w' q1 q2 hS' hJ hFr)))
  cases x with
  | loop x =>
   refine EL (fun {Y} n {kr kx kn s y Q J θ a w} h hS HN HX HR=>?_) n h hS HN HX HR
   cases n with
   | loop sh n =>
    have ⟨q,hq,h⟩:=bind_some (show (AP (Cr x sh) sh s).bind _=some y from h)
    have ⟨d0,hd0,h⟩:=bind_some h
    have ⟨o,ho,hc⟩:=LW h
    have hC:=v7 hq hS.fine
    have hx:IOk V P I w0 F rt x:=ih.2 x rfl
    refine wp_block (RM (fun d a w=> ∃J' θ',J.le J'/\Sim P I w0 F V.n J' θ' (q.at (toN _ d)) a w/\Fr s θ (q.at (toN _ d)) θ') ho ?_ ?_)
    ·have ⟨θ1,S1,F1⟩:=AR hC hS Fr.rfl Hp.le.rfl hd0
     exact ⟨J,θ1,Hp.le.rfl,by rw[px];exact S1,by rw[px];exact F1⟩
    ·rintro d o' hf hlast a w ⟨J1,θ1,L1,S1,F1⟩
     refine hx n hf S1 (fun J' θ' s' a' w' hk hS' hJ hFr=>?_) (fun j J' θ' s' a' w' hk hS' hJ hFr=>?_) (fun r J' θ' s' a' w' q1 q2 hS' hJ hFr=>?_)
     ·have ⟨d',hd,hk⟩:=bind_some hk
      cases ad hk
      have ⟨θ2,S2,F2⟩:=AR hC hS' (F1.trans hFr) (L1.trans hJ) hd
      exact nrm ⟨_,rfl,J',θ2,L1.trans hJ,by rw[px];exact S2,by rw[px];exact F2⟩
     ·unfold ZL at hk
      split at hk
      ·rename_i hj
       have:=al hj
       subst this
       have ⟨d',hd,hk⟩:=bind_some hk
       cases ad hk
       have ho2:=hlast (by simp)
       have ⟨θ2,S2,F2⟩:=AR hC hS' (F1.trans hFr) (L1.trans hJ) hd
       rcases hc with ⟨d2,e,hc⟩ | ⟨r,e,hc⟩
       ·cases Out.brk.inj (ho2.trans e)
        rw[px] at hc
        exact Wr (Y3 (HN J' θ2 _ a' w' hc S2 (L1.trans hJ) F2))
       ·cases ho2.trans e
      ·cases hk
     ·cases ad q2
      have ho2:=hlast (by simp)
      rcases hc with ⟨d2,e,hc⟩ | ⟨r',e,hc⟩
      ·cases ho2.trans e
      ·cases Out.ret.inj (ho2.trans e)
       exact Ws (acm (HR r J' θ' s' a' w' q1 hc hS' (L1.trans hJ) (F1.trans hFr)))
   | _=>cases h
  | _=>exact EL plain n h hS HN HX HR
 | loop x ih =>
  refine ⟨?_,fun c' e=>?_⟩
  ·intro Y n kr kx kn s y Q J θ a w h hS HN HX HR
   cases h
  ·cases e
   exact ih.1
 | _ =>
  refine ⟨?_,fun c' e=>(by cases e)⟩
  intro Y n kr kx kn s y Q J θ a w h hS HN HX HR
  cases h
end
end R
namespace R
open Go.RowKit
open D
def PO (i:Nat):(p:PM)->p.den->AV
 | .rd t,d=>NX i t d
 | .ow t,d=>Oh (kB i [] t d)
 | .fn a b,d=>.one (.fn ⟨i,[]⟩ a b d)
 | .cap T t,d=>.one (.fz ⟨i,[]⟩ T t d 0)
 | .capf T a b,d=>.one (.fzf ⟨i,[]⟩ T a b d)
 | .ptr _ _,_=>.one (.ptr ⟨i,[]⟩ 0)
 | .eat t,d=>Oh (kB i [] t d)
 | .fk g,_=>.one (.val (.func (.func g) #[] #[]))
 | .crs _ _,_=>.one (.ptr ⟨i,[]⟩ 0)
def K6 (q i:Nat):(p:PM)->p.den->List (Hdr×Chk)
 | .ow t,d=>lE i [] t d
 | .ptr T t,d=>[(⟨i,[]⟩,.box T t d)]
 | .eat t,d=>lE i [] t d
 | .crs T E,d=>[(⟨i,[]⟩,.blk T [.rd ⟨q,[]⟩ (.sl E (.int .u8)) d.1,.val (.int .i64 d.2.1),.val (.int .i64 d.2.2)])]
 | _,_=>[]
def K7:(i:Nat)->(ps:List PM)->denP ps->List (Nat×Nat×AV)
 | _,[],_=>[]
 | i,p::ps,d=>(i,i,PO i p d.1)::K7 (i+1) ps d.2
def Ha (q:Nat):(i:Nat)->(ps:List PM)->denP ps->List Ent
 | _,[],_=>[]
 | i,p::ps,d=>(K6 q i p d.1).map (fun g=>(g.1,i,g.2))++Ha q (i+1) ps d.2
def yE (ps:List PM) (d:denP ps):Sg:=⟨K7 0 ps d,Ha ps.length 0 ps d,ps.length+1⟩
def acF (P:Program) (w0:World) (J:Hp) (θ:Th) (n i:Nat):(p:PM)->Value->p.den->Prop
 | .ow t,v,d=>(kB i [] t d).2.map (·.v θ)=ka t.isProd v/\ ∀x∈(kB i [] t d).2,x.ok P w0 J θ n
 | .ptr _ _,v,_=>hv θ ⟨i,[]⟩=v/\i<n
 | .crs _ _,v,_=>hv θ ⟨i,[]⟩=v/\i<n
 | _,_,_=>True
def StF (P:Program) (w0:World) (J:Hp) (θ:Th) (n:Nat):(i:Nat)->(ps:List PM)->List Value->denP ps->Prop
 | i,p::ps,v::vs,d=>acF P w0 J θ n i p v d.1/\StF P w0 J θ n (i+1) ps vs d.2
 | _,_,_,_=>True
section
variable {P:Program} {w0 w:World} {J:Hp} {θ:Th} {n:Nat} {C:List Ch}
theorem yF {id:Nat} {pre:List Nat} {t:Ty} {d:t.den} : ∀g∈lE id pre t d,Sd g.2:=gZ t d 0
theorem PP {p:PM} {i:Nat} {v:Value} {d:p.den} {ps:List PM} {vs:List Value} {e:denP ps} {γ:Value} {q:Nat} (hi:i<n) (hq:q<n) (hγ:θ q=γ) (hθ:θ i=v) (h:abl P w0 J γ p v d) (hS:St J w0 w (owCh γ (p::ps) (v::vs) (d,e)++C)) :
  (∀chs,(PO i p d).ok P w0 J θ n chs)/\(PO i p d).v θ=v/\St J w0 w ((K6 q i p d).map (fun g=>toCh P θ (g.1,i,g.2))++(owCh γ ps vs e++C))/\(∀g∈K6 q i p d,∀chs,okE P w0 J θ n chs (g.1,i,g.2))/\acF P w0 J θ n i p v d:=by
 cases p with
 | rd t =>
  have ⟨cs,h1,h2⟩:=h
  have hav:=fun chs=>pM (P:=P) (w0:=w0) (J:=J) (chs:=chs) hi hθ t d cs h2 h1
  exact ⟨fun chs=>(hav chs).1,(hav []).2,hS,fun g hg=>(by cases hg),trivial⟩
 | fn a b =>
  have hh:hv θ ⟨i,[]⟩=v:=hθ
  exact ⟨fun chs=>⟨hi,by rw[hh];exact h⟩,hh,hS,fun g hg=>(by cases hg),trivial⟩
 | cap T t =>
  obtain ⟨b,rfl,cells,h1,h2⟩:=h
  have hh:hv θ ⟨i,[]⟩= .pointer (some ⟨b,0,none⟩):=hθ
  refine ⟨fun chs=>⟨hi,cells,by rw[hh];exact h1,h2⟩,?_,hS,fun g hg=>(by cases hg),trivial⟩
  show Value.pointer (some ⟨bk (hv θ ⟨i,[]⟩),0,none⟩)=_
  rw[hh];rfl
 | capf T x y =>
  obtain ⟨b,rfl,u,h1,h2⟩:=h
  have hh:hv θ ⟨i,[]⟩= .pointer (some ⟨b,0,none⟩):=hθ
  refine ⟨fun chs=>⟨hi,u,by rw[hh];exact h1,h2⟩,?_,hS,fun g hg=>(by cases hg),trivial⟩
  show Value.pointer (some ⟨bk (hv θ ⟨i,[]⟩),0,none⟩)=_
  rw[hh];rfl
 | ptr T t =>
  obtain ⟨b,rfl⟩:=h
  have hh:hv θ ⟨i,[]⟩= .pointer (some ⟨b,0,none⟩):=hθ
  refine ⟨fun chs=>hi,?_,?_,fun g hg chs=>by cases au hg;exact uV trivial hi hi,hh,hi⟩
  ·show Value.pointer (some ⟨bk (hv θ ⟨i,[]⟩),0,none⟩)=_
   rw[hh];rfl
  ·show St J w0 w (Ch.box (bk (hv θ ⟨i,[]⟩)) T t.rep d::_)
   rw[hh];exact hS
 | ow t =>
  have ⟨k1,k2,k3,k4,k5⟩:=vU (P:=P) (m:=i) (pre:=[]) (id:=i) (n:=n) hi (show hv θ ⟨i,[]⟩=v from hθ) h hS
  have q:=fun chs=>Eo (P:=P) (w0:=w0) (J:=J) (θ:=θ) (n:=n) (chs:=chs) (kB i [] t d) (fun e=>sd e) k1
  exact ⟨fun chs=>(q chs).1,(q []).2.trans k3,k5,fun g hg chs=>uV (yF g hg) (by rw[k4 g hg];exact hi) hi,k2,k1⟩
 | eat t =>
  have ⟨k1,k2,k3,k4,k5⟩:=vU (P:=P) (m:=i) (pre:=[]) (id:=i) (n:=n) hi (show hv θ ⟨i,[]⟩=v from hθ) h hS
  have q:=fun chs=>Eo (P:=P) (w0:=w0) (J:=J) (θ:=θ) (n:=n) (chs:=chs) (kB i [] t d) (fun e=>sd e) k1
  exact ⟨fun chs=>(q chs).1,(q []).2.trans k3,k5,fun g hg chs=>uV (yF g hg) (by rw[k4 g hg];exact hi) hi,trivial⟩
 | fk g =>
  cases h
  exact ⟨fun chs=>rfl,rfl,hS,fun g hg=>(by cases hg),trivial⟩
 | crs T E =>
  obtain ⟨⟨b,rfl⟩,hrd⟩:=h
  have hh:hv θ ⟨i,[]⟩= .pointer (some ⟨b,0,none⟩):=hθ
  have hg0:hv θ ⟨q,[]⟩=γ:=hγ
  refine ⟨fun chs=>hi,?_,?_,fun g hg chs=>?_,hh,hi⟩
  ·show Value.pointer (some ⟨bk (hv θ ⟨i,[]⟩),0,none⟩)=_
   rw[hh];rfl
  ·show St J w0 w (Ch.blk (bk (hv θ ⟨i,[]⟩)) [hv θ ⟨q,[]⟩,.int .i64 d.2.1,.int .i64 d.2.2] T::_)
   rw[hh,hg0];exact hS
  ·cases au hg
   refine ⟨hi,hi,fun z hz=>?_⟩
   rcases ax hz with rfl | hz
   ·exact ⟨hq,by grind⟩
   ·rcases ax hz with rfl | hz
    ·rfl
    ·cases au hz
     rfl
theorem K8 {γ:Value} {q:Nat} (hq:q<n) (hγ:θ q=γ): ∀ {ps:List PM} {i:Nat} {vs:List Value} {d:denP ps} {C:List Ch},PArgs P w0 J γ ps vs d->(∀j v,vs[j]? =some v->θ (i+j)=v)->i+ps.length<=n->St J w0 w (owCh γ ps vs d++C)->
  (∀e∈K7 i ps d,(∀chs,e.2.2.ok P w0 J θ n chs)/\i<=e.1/\e.2.1=e.1/\e.1<i+ps.length/\vs[e.1 - i]? =some (e.2.2.v θ))/\((K7 i ps d).Pairwise fun a b=>a.2.1≠b.2.1)/\St J w0 w ((Ha q i ps d).map (toCh P θ)++C)/\(∀e∈Ha q i ps d,∀chs,okE P w0 J θ n chs e)/\StF P w0 J θ n i ps vs d
 | [],i,vs,d,C,h,_,_,hS=>by
  exact ⟨fun e he=>(by cases he),List.Pairwise.nil,hS,fun e he=>(by cases he),trivial⟩
 | p::ps,i,vs,d,C,h,hθ,hn,hS=>by
  obtain ⟨v,r,rfl,h1,h3⟩:=h
  rw[aK] at hn
  have ⟨a1,a2,a3,a4,a5⟩:=PP (n:=n) (i:=i) (θ:=θ) (e:=d.2) (show i<n by omega) hq hγ (hθ 0 v rfl) h1 hS
  have ⟨k1,k2,k3,k4,k5⟩:=K8 hq hγ (i:=i+1) h3 (fun j u hj=>by
   have:=hθ (j+1) u hj
   grind) (by omega) (a3.perm (List.perm_append_comm_assoc _ _ _))
  refine ⟨fun e he=>?_,List.pairwise_cons.2 ⟨fun e he hh=>?_,k2⟩,?_,fun e he chs=>?_,a5,k5⟩
  ·rcases ax he with rfl | he
   ·grind
   grind
  ·grind
  ·show St J w0 w (((K6 q i p d.1).map _++Ha q (i+1) ps d.2).map (toCh P θ)++C)
   rw[aS,List.map_map]
   refine k3.perm ?_
   rw[aA]
   exact List.perm_append_comm_assoc _ _ _
  ·rcases aH he with he | he
   ·obtain ⟨g,hg,rfl⟩:=List.mem_map.1 he
    grind
   grind
theorem Hb {γ:Value} : ∀ {ps:List PM} {vs:List Value} {d:denP ps},PArgs P w0 J γ ps vs d->vs.length=ps.length
 | [],vs,d,h=>by
  have h:vs= []:=h
  grind
 | p::ps,vs,d,h=>by
  obtain ⟨v,r,rfl,h1,h3⟩:=h
  simpa using Hb h3
end
def XP (tt:TT) (s:Sg):ResultVar->Option AV
 | .tmp t=>look s.env t
 | .cell p T=>(RE (look s.env p)).bind fun h=>(td tt T).bind fun d=>(rO h s.chs).bind fun b=>bL (Nat.beq b.cells.length d.n) (abj d.agg b.cells)
theorem XQ {v:Option AV} {h:Hdr} (k:RE v=some h):v=some (.one (.ptr h 0)):=by
 unfold RE at k
 grind[al,ad]
section
variable {P:Program} {I:Hp} {w0 w:World} {F:Ch} {J:Hp} {θ:Th} {n:Nat} {s:Sg} {a:Act} {tt:TT}
theorem XR (ha:Agr n a (envL θ s)) {t g:Nat} {T E:TypeId} {v:Value} {cs:List Ch} (h:(envL θ s).lookup t=some (.pointer (some ⟨g,0,none⟩))) (hs:St J w0 w cs) (i:Nat) (hi:cs[i]? =some (Ch.blk g [v] E)) (hT:TI P T false 1):Iq P a w (.cell t T) v:=by
 refine ⟨_,ha.2.2 t _ h,?_⟩
 have hg:=hs.heap i hi
 have hc:w.cell? ⟨g,0,none⟩=some v:=by simp[World.cell?,hg]
 simp[loadVar,Sem.run_bind,hT.run_agg,load,Sem.run,hc,Result.andThen]
theorem Tt (hT:TTok P tt) (hS:Sim P I w0 F n J θ s a w) {r:ResultVar} {v:AV} (h:XP tt s r=some v):Iq P a w r (v.v θ)/\v.ok P w0 J θ s.nxt s.chs:=by
 cases r with
 | tmp t=>exact ⟨Wq hS.agr (gz h),bA (x:=.tmp t) hS.fine h⟩
 | cell p T =>
  have ⟨hh,h1,h⟩:=bind_some (show (RE (look s.env p)).bind _=some v from h)
  have ⟨d,hd,h⟩:=bind_some h
  have ⟨b,hb,h⟩:=bind_some h
  have ⟨hl,h⟩:=aj h
  have hl:=al hl
  have hp:=kA hb
  have hok:=hS.fine.chs _ (hp.mem_iff.2 (List.mem_cons_self ..))
  have ⟨k1,k2⟩:=Ob (chs:=s.chs) h hok.2.2
  refine ⟨?_,k1⟩
  have hlk:(envL θ s).lookup p=some (.pointer (some ⟨bk (hv θ hh),0,none⟩)):=gz (XQ h1)
  have hst:=hS.st.perm ((hp.map (toCh P θ)).append_right [F])
  have hti:=(hT.get hd).ti
  cases hagg:d.agg with
  | true =>
   rw[hagg] at k2 hti
   rw[<-k2]
   exact RK hS.agr hlk hst 0 rfl hti (by grind)
  | false =>
   rw[hagg] at k2 hti h
   have h1':d.n=1:=by
    have:=(hT.get hd).one
    rw[hagg] at this
    simpa using this
   have ⟨x,hx⟩:=List.length_eq_one_iff.1 (hl.trans h1')
   rw[h1'] at hti
   rw[hx] at k2
   rw[<-k2]
   have hst2:St J w0 w (Ch.blk (bk (hv θ hh)) [x.v θ] b.T::(b.rest.map (toCh P θ)++ [F])):=by
    have:(toCh P θ (b.ent hh))=Ch.blk (bk (hv θ hh)) (b.cells.map (·.v θ)) b.T:=rfl
    rw[hx] at this
    rw[<-show toCh P θ (b.ent hh)=Ch.blk (bk (hv θ hh)) [x.v θ] b.T from this]
    exact hst
   exact XR hS.agr hlk hst2 0 rfl hti
end
def I8:(ts:List Ty)->List AV->List Ent->Option (jj ts×List Ent×List Ent)
 | [],[],chs=>some ((),[],chs)
 | t::ts,v::vs,chs=>bL (nU v==t.isProd) ((lD v).bind fun cs=>(cQ t cs chs).bind fun q=>bL q.cells.isEmpty ((I8 ts vs q.rest).bind fun r=>some ((q.d,r.1),q.used++r.2.1,r.2.2)))
 | _,_,_=>none
def xx:(ts:List Ty)->List Value->jj ts->List Ch
 | t::ts,v::vs,d=>Ch.own t.rep (ka t.isProd v) d.1::xx ts vs d.2
 | _,_,_=>[]
theorem Dl {P:Program} {w0:World} {J:Hp} {θ:Th} {n:Nat} {chs0:List Ent} : ∀ {ts:List Ty} {vs:List AV} {chs:List Ent} {r:jj ts×List Ent×List Ent},I8 ts vs chs=some r->(∀v∈vs,v.ok P w0 J θ n chs0)->
  chs.Perm (r.2.1++r.2.2)/\vs.length=ts.length/\rX J (r.2.1.map (toCh P θ)) (xx ts (vs.map (·.v θ)) r.1)/\ ∀(i:Nat) t v,ts[i]? =some t->vs[i]? =some v->oN (v.v θ)=t.isProd
 | [],[],chs,r,h,_=>by
  cases ad (show some _=some r from h)
  exact ⟨List.Perm.refl _,rfl,vK,fun i t v ht=>by grind⟩
 | t::ts,v::vs,chs,r,h,hv'=>by
  have ⟨ha,h⟩:=aj (show bL (nU v==t.isProd) _=some r from h)
  have ha:nU v=t.isProd:=by simpa using ha
  have ⟨cs,hcs,h⟩:=bind_some h
  have ⟨q,hq,h⟩:=bind_some h
  have ⟨he,h⟩:=aj h
  have ⟨r',hr,h⟩:=bind_some h
  cases ad h
  have ⟨c1,c2⟩:=iO hcs (hv' v (by simp))
  have ⟨p,cc,e1,e2⟩:=gX (J:=J) (θ:=θ) hq c1
  rw[List.isEmpty_iff.1 he,List.append_nil] at e1
  subst e1
  have ⟨k1,k2,k3,k4⟩:=Dl hr fun x hx=>hv' x (by grind)
  have hcell:ka t.isProd (v.v θ)=cs.map (·.v θ)/\oN (v.v θ)=t.isProd:=by
   rw[<-ha]
   cases v with
   | agg xs =>
    cases ad (show some xs=some cs from hcs)
    exact ⟨rfl,rfl⟩
   | one x =>
    cases ad (show some [x] =some cs from hcs)
    refine ⟨rfl,?_⟩
    have h1:=LV.one (show LV.ok P w0 J θ n x from hv' (.one x) (by simp))
    show oN (x.v θ)=false
    generalize x.v θ=u at h1
    cases u <;> first | rfl | cases h1
   | _=>cases hcs
  refine ⟨by rw[aA];exact p.trans (k1.append_left _),by grind,?_,fun i t' v' ht hv0=>?_⟩
  ·show rX J ((q.used++r'.2.1).map _) (Ch.own t.rep (ka t.isProd (v.v θ)) q.d::xx ts (vs.map _) r'.1)
   rw[aS,hcell.1]
   exact rY e2 k3
  grind
 | [],_::_,chs,r,h,_=>by cases h
 | _::_,[],chs,r,h,_=>by cases h
def aaV:List Value->Value
 | [v] =>v
 | vs=>.tuple vs.toArray
def K9 (P:Program) (a:Act) (w:World):List ResultVar->List Value->Prop
 | [],vs=>vs= []
 | r::rs,vs=> ∃v us,vs=v::us/\Iq P a w r v/\K9 P a w rs us
theorem yG {P:Program} {a:Act} {w:World} {f:ResultVar->Sem Value} (hf: ∀r v,Iq P a w r v->(f r).run P w= .ok v w): ∀ {l:List ResultVar} {vs:List Value},K9 P a w l vs->(l.mapM f).run P w= .ok vs w
 | [],vs,h=>by
  have h:vs= []:=h
  simp_all
 | r::l,vs,h=>by
  obtain ⟨v,us,rfl,h1,h2⟩:=h
  rw[List.mapM_cons,Sem.run_bind,hf r v h1]
  simp only[Result.andThen_ok,Sem.run_bind,yG hf h2]
  rfl
def aaW (a:Act) (r:ResultVar):Sem Value:=match r with
 | .tmp t=>pure (a.tmps.getD t undef)
 | .cell p t=>do loadVar t (<-asAddr (a.tmps.getD p undef))
theorem XS {P:Program} {a:Act} {w:World} {r:ResultVar} {v:Value} (h:Iq P a w r v):(aaW a r).run P w= .ok v w:=by
 cases r with
 | tmp t =>
  have h:a.tmps.getD t undef=v:=h
  show (pure (a.tmps.getD t undef):Sem Value).run P w=_
  simp_all
 | cell p T =>
  have ⟨A,h1,h2⟩:=h
  show ((asAddr (a.tmps.getD p undef)) >>=fun x=>loadVar T x).run P w=_
  rw[h1,Sem.run_bind]
  show Result.andThen (.ok A w) _=_
  simp_all
theorem abF {P:Program} {n:Nat} {a:Act} {w:World} {L:List (Nat×Value)} {fn:Func} {R:Ending->World->Prop} {vs:List Value} (ha:Agr n a L) (h:K9 P a w fn.results.toList vs) (hR:R (.returned (aaV vs)) w):bodyPost P fn R .ret a w:=by
 refine ⟨ha.1,aaV vs,?_,hR⟩
 have hr:((fn.results.mapM (aaW a)):Sem (Array Value)).run P w= .ok vs.toArray w:=by
  rw[Array.mapM_eq_mapM_toList]
  have:=yG (f:=aaW a) (fun r v=>XS) h
  simp[this,Sem.run_map]
 show ((fn.results.mapM (aaW a)) >>=fun vs=>pure (if h:vs.size=1 then vs[0] else .tuple vs):Sem Value).run P w=_
 rw[Sem.run_bind,hr,Result.andThen_ok]
 match vs with
 | [] =>rfl
 | [v] =>rfl
 | _::_::_=>rfl
def eN (g0:Nat):(i:Nat)->(ps:List PM)->denP ps->List Ent->Option (jj (outs ps)×List Ent×List Ent)
 | _,[],_,chs=>some ((),[],chs)
 | i,.ow t::ps,d,chs=>(cQ t (kB i [] t d.1).2 chs).bind fun q=>bL q.cells.isEmpty ((eN g0 (i+1) ps d.2 q.rest).bind fun r=>some ((q.d,r.1),q.used++r.2.1,r.2.2))
 | i,.ptr T t::ps,d,chs=>(AD ⟨i,[]⟩ T t chs).bind fun q=>(eN g0 (i+1) ps d.2 q.2.2).bind fun r=>some ((q.1,r.1),q.2.1++r.2.1,r.2.2)
 | i,.rd _::ps,d,chs=>eN g0 (i+1) ps d.2 chs
 | i,.fn _ _::ps,d,chs=>eN g0 (i+1) ps d.2 chs
 | i,.eat _::ps,d,chs=>eN g0 (i+1) ps d.2 chs
 | i,.cap _ _::ps,d,chs=>eN g0 (i+1) ps d.2 chs
 | i,.capf _ _ _::ps,d,chs=>eN g0 (i+1) ps d.2 chs
 | i,.fk _::ps,d,chs=>eN g0 (i+1) ps d.2 chs
 | i,.crs T E::ps,d,chs=>(uU ⟨i,[]⟩ T E chs).bind fun q=>bL (Hdr.beq q.g ⟨g0,[]⟩) ((eN g0 (i+1) ps d.2 q.rest).bind fun r=>some ((q.d.2,r.1),q.ent::r.2.1,r.2.2))
theorem fb {P:Program} {w0:World} {J J':Hp} {θ θ':Th} {n n':Nat} {chs0:List Ent} (hJ:J.le J') (hs:Same n θ θ') {γ:Value} {g0:Nat} (hg0:g0<n) (hγ:θ g0=γ): ∀ {ps:List PM} {i:Nat} {d:denP ps} {chs:List Ent} {vs:List Value} {r:jj (outs ps)×List Ent×List Ent},eN g0 i ps d chs=some r->vs.length=ps.length->StF P w0 J θ n i ps vs d->(∀e∈chs,okE P w0 J' θ' n' chs0 e)->
  chs.Perm (r.2.1++r.2.2)/\rX J' (r.2.1.map (toCh P θ')) (outCh γ ps vs r.1)
 | [],i,d,chs,vs,r,h,_,_,_=>by
  cases ad (show some _=some r from h)
  exact ⟨List.Perm.refl _,vK⟩
 | p::ps,i,d,chs,[],r,h,hl,_,_=>by cases hl
 | .ow t::ps,i,d,chs,v::vs,r,h,hl,hF,hc=>by
  have ⟨q,hq,h⟩:=bind_some (show (cQ t (kB i [] t d.1).2 chs).bind _=some r from h)
  have ⟨he,h⟩:=aj h
  have ⟨r',hr,h⟩:=bind_some h
  cases ad h
  have ⟨⟨k1,k2⟩,k3⟩:=hF
  have ⟨p,cc,e1,e2⟩:=gX (P:=P) (w0:=w0) (J:=J') (θ:=θ') (n:=n) hq fun x hx=>LV.ok_same hs (aF _) (k2 x hx) hJ
  rw[List.isEmpty_iff.1 he,List.append_nil] at e1
  subst e1
  rw[kc hs k2,k1] at e2
  have ⟨q1,q2⟩:=fb hJ hs hg0 hγ hr (by grind) k3 fun e he=>hc e (p.mem_iff.2 (by grind))
  refine ⟨by rw[aA];exact p.trans (q1.append_left _),?_⟩
  show rX J' ((q.used++r'.2.1).map _) (Ch.own t.rep (ka t.isProd v) q.d::outCh γ ps vs r'.1)
  rw[aS]
  exact rY e2 q2
 | .ptr T t::ps,i,d,chs,v::vs,r,h,hl,hF,hc=>by
  have ⟨q,hq,h⟩:=bind_some (show (AD ⟨i,[]⟩ T t chs).bind _=some r from h)
  have ⟨r',hr,h⟩:=bind_some h
  cases ad h
  have ⟨⟨k1,k2⟩,k3⟩:=hF
  have ⟨p,hb⟩:=Da (P:=P) (w0:=w0) (J:=J') (J':=J') (θ:=θ') hq Hp.le.rfl hc
  have ⟨q1,q2⟩:=fb hJ hs hg0 hγ hr (by grind) k3 fun e he=>hc e (p.mem_iff.2 (by grind))
  refine ⟨by rw[aA];exact p.trans (q1.append_left _),?_⟩
  rw[aS]
  have hh:=(aX hs (show (⟨i,[]⟩:Hdr).id<n from k2)).trans k1
  rw[hh] at hb
  intro w F hsp
  obtain ⟨G,K,rfl,h1,h2⟩:=hsp.split
  exact ⟨G,K,rfl,hb w G h1,q2 w K h2⟩
 | .rd t::ps,i,d,chs,v::vs,r,h,hl,hF,hc=>fb (ps:=ps) hJ hs hg0 hγ (show eN g0 (i+1) ps d.2 chs=some r from h) (by grind) hF.2 hc
 | .fn _ _::ps,i,d,chs,v::vs,r,h,hl,hF,hc=>fb (ps:=ps) hJ hs hg0 hγ (show eN g0 (i+1) ps d.2 chs=some r from h) (by grind) hF.2 hc
 | .eat _::ps,i,d,chs,v::vs,r,h,hl,hF,hc=>fb (ps:=ps) hJ hs hg0 hγ (show eN g0 (i+1) ps d.2 chs=some r from h) (by grind) hF.2 hc
 | .cap _ _::ps,i,d,chs,v::vs,r,h,hl,hF,hc=>fb (ps:=ps) hJ hs hg0 hγ (show eN g0 (i+1) ps d.2 chs=some r from h) (by grind) hF.2 hc
 | .capf _ _ _::ps,i,d,chs,v::vs,r,h,hl,hF,hc=>fb (ps:=ps) hJ hs hg0 hγ (show eN g0 (i+1) ps d.2 chs=some r from h) (by grind) hF.2 hc
 | .fk _::ps,i,d,chs,v::vs,r,h,hl,hF,hc=>fb (ps:=ps) hJ hs hg0 hγ (show eN g0 (i+1) ps d.2 chs=some r from h) (by grind) hF.2 hc
 | .crs T E::ps,i,d,chs,v::vs,r,h,hl,hF,hc=>by
  have ⟨q,hq,h⟩:=bind_some (show (uU ⟨i,[]⟩ T E chs).bind _=some r from h)
  have ⟨hb,h⟩:=aj h
  have ⟨r',hr,h⟩:=bind_some h
  cases ad h
  have ⟨⟨k1,k2⟩,k3⟩:=hF
  have ⟨p,ver,he⟩:=nR hq
  have ⟨q1,q2⟩:=fb hJ hs hg0 hγ hr (by grind) k3 fun e he=>hc e (p.mem_iff.2 (by grind))
  refine ⟨p.trans (q1.cons _),?_⟩
  have hh:=(aX hs (show (⟨i,[]⟩:Hdr).id<n from k2)).trans k1
  have hg:hv θ' q.g=γ:=by
   rw[Hdr.beq_eq hb]
   show vg (θ' g0) [] =γ
   rw[hs g0 hg0,hγ];rfl
  rw[he]
  intro w F hsp
  obtain ⟨G,K,rfl,h1,h2⟩:=hsp
  have h1:(Ch.blk (bk (hv θ' ⟨i,[]⟩)) [hv θ' q.g,.int .i64 q.d.2.1,.int .i64 q.d.2.2] T).holds J' w G:=h1
  rw[hh,hg] at h1
  exact ⟨G,K,rfl,h1,q2 w K h2⟩
def ofH:(ts:List Ty)->jj ts->dens ts
 | [],_=>()
 | [_],d=>d.1
 | _::u::ts,d=>(d.1,ofH (u::ts) d.2)
theorem I9: ∀(ts:List Ty) (d:jj ts),toH ts (ofH ts d)=d
 | [],_=>rfl
 | [_],_=>rfl
 | _::u::ts,d=>congrArg (Prod.mk d.1) (I9 (u::ts) d.2)
def tF:(ts us:List Ty)->jj ts->jj us->jj (ts++us)
 | [],_,_,e=>e
 | _::ts,us,d,e=>(d.1,tF ts us d.2 e)
theorem EM: ∀(ts us:List Ty) (d:jj ts) (e:jj us),hFst ts us (tF ts us d e)=d
 | [],_,_,_=>rfl
 | _::ts,us,d,e=>congrArg (Prod.mk d.1) (EM ts us d.2 e)
theorem La: ∀(ts us:List Ty) (d:jj ts) (e:jj us),hSnd ts us (tF ts us d e)=e
 | [],_,_,_=>rfl
 | _::ts,us,d,e=>La ts us d.2 e
def Dm (tt:TT) (s:Sg):List ResultVar->Option (List AV)
 | [] =>some []
 | r::rs=>(XP tt s r).bind fun v=>(Dm tt s rs).bind fun vs=>some (v::vs)
def Ja (s:Sg):List AV->List Hdr
 | [] =>[]
 | v::vs=>AN v++Ja s vs
def zZ:List Ent->List Hdr
 | [] =>[]
 | e::l=>match e.2.2 with
  | .hole _ _ _ _ _ _ _ _ _ _=>e.1::zZ l
  | _=>zZ l
def ZN:List AV->List (Bool×Hdr)
 | [] =>[]
 | v::vs=>acC true v++ZN vs
def Hc (tr:Trs) (vs:List AV) (s:Sg):Sg:=match tr with
 | [] =>s
 | _=>Sy (Pw tr) (ZN vs) s
def Tu (tr:Trs) (vs:List AV) (s0:Sg):Sg:=match Hc tr vs s0 with
 | s=>vY (Ja s0 vs++zZ s.chs) s
def nlN:List AV->(ts:List Ty)->jj ts->Int
 | [.one (.own _)],[.sl _ t],d=>((List.length (α:=t.den) d.1:Nat):Int)
 | [.one (.val v)],[.sl _ _],_=>match isNil v with
  | true=>1
  | false=>0
 | _,_,_=>0
def ZO (an:List (Nat×Ty)) (vs:List AV) (ts:List Ty) (d:jj ts):Option Unit:=match AM 1000000 an with
 | true=>chk (0<nlN vs ts d)
 | false=>some ()
theorem ZP {vs:List AV} {ts:List Ty} {d:jj ts} {θ:Th} (h:0<nlN vs ts d) {v:Value} (hv:vs.map (·.v θ)= [v]):yt ts d v:=by
 unfold nlN at h
 split at h
 ·intro h0
  omega
 ·split at h
  ·intro _
   grind[nw,AV.v,LV.v]
  ·omega
 ·omega
def MG (V:Env) (rvs:List ResultVar) (rs:List Ty) (ps:List PM) (d:denP ps) (s00:Sg):Option (dens (rs++outs ps)):=(Dm V.tt s00 rvs).bind fun vs00=>SH vs00 s00 fun s0=>(Dm V.tt s0 rvs).bind fun vs0=>match Tu V.tr vs0 s0 with
 | s=>(Dm V.tt s rvs).bind fun vs=>(I8 rs vs s.chs).bind fun r=>(eN ps.length 0 ps d r.2.2).bind fun o=>(ZO V.an vs rs r.1).bind fun _=>some (ofH _ (tF rs (outs ps) r.1 o.1))
end R
namespace R
open Go.RowKit
open D
theorem Dn {vs:List Value} : ∀ {ts:List Ty} {i:Nat} {us:List Value} {d:jj ts},us.length=ts.length->(∀j v,us[j]? =some v->vs[i+j]? =some v)->xh i ts d (.tuple vs.toArray)=xx ts us d
 | [],i,us,d,h,_=>by
  rfl
 | t::ts,i,[],d,h,_=>by cases h
 | t::ts,i,u::us,d,h,k=>by
  have h0:vg (.tuple vs.toArray) [i] =u:=by
   show vs.toArray.getD i undef=u
   have:=k 0 u rfl
   rw[Nat.add_zero] at this
   simp[Array.getD_eq_getD_getElem?,this]
  show Ch.own t.rep (ka t.isProd (vg (.tuple vs.toArray) [i])) d.1::xh (i+1) ts d.2 _=Ch.own t.rep (ka t.isProd u) d.1::xx ts us d.2
  rw[h0,Dn (us:=us) (by grind) fun j v hj=>by
   have:=k (j+1) v (by grind)
   grind]
theorem MH {ts:List Ty} {vs:List Value} {d:jj ts} (h:vs.length=ts.length):resGv ts d (aaV vs)=xx ts vs d:=by
 match ts,vs,d,h with
 | [],[],d,_=>rfl
 | [t],[v],d,_=>rfl
 | t::u::ts,v::w::vs,d,h =>
  show xh 0 _ d (.tuple (v::w::vs).toArray)=_
  grind[Dn]
theorem Tv {ts:List Ty} {vs:List Value} (h:vs.length=ts.length) (k: ∀(i:Nat) t v,ts[i]? =some t->vs[i]? =some v->oN v=t.isProd):resFa ts (aaV vs):=by
 match ts,vs,h with
 | [],[],_=>exact ⟨#[],rfl,rfl,fun i t ht=>by grind⟩
 | [t],[v],_=>exact k 0 t v rfl rfl
 | t::u::ts,v::w::vs,h =>
  refine ⟨(v::w::vs).toArray,rfl,by omega,fun i t' ht=>?_⟩
  have hlt:i<(v::w::vs).length:=by rw[h];exact (List.getElem?_eq_some_iff.1 ht).1
  have:=k i t' ((v::w::vs)[i]) ht (List.getElem?_eq_getElem hlt)
  rw[<-this,Array.getD_eq_getD_getElem?,List.getElem?_toArray,List.getElem?_eq_getElem hlt];rfl
theorem AZ {P:Program} {I:Hp} {w0 w:World} {F:Ch} {J:Hp} {θ:Th} {n:Nat} {s:Sg} {a:Act} {tt:TT} (hT:TTok P tt) (hS:Sim P I w0 F n J θ s a w): ∀ {rs:List ResultVar} {vs:List AV},Dm tt s rs=some vs->K9 P a w rs (vs.map (·.v θ))/\ ∀v∈vs,v.ok P w0 J θ s.nxt s.chs
 | [],vs,h=>by
  cases ad (show some [] =some vs from h)
  exact ⟨rfl,fun v hv=>by cases hv⟩
 | r::rs,vs,h=>by
  have ⟨v,hv',h⟩:=bind_some (show (XP tt s r).bind _=some vs from h)
  have ⟨us,hus,h⟩:=bind_some h
  cases ad h
  have ⟨k1,k2⟩:=Tt hT hS hv'
  have ⟨q1,q2⟩:=AZ hT hS hus
  refine ⟨⟨_,_,rfl,k1,q1⟩,fun x hx=>?_⟩
  grind
theorem PQ {J:Hp} {a b c d:List Ch} (h:rX J a b) (k:rX J c d):rX J (a++c) (b++d):=fun w F hs=>by
 obtain ⟨G,K,rfl,e1,e2⟩:=hs.split
 exact (h w G e1).append (k w K e2)
theorem St.sepTo {J:Hp} {w0 w:World} {a b C:List Ch} (h:St J w0 w (a++C)) (k:rX J a b):St J w0 w (b++C):=by
 have ⟨h1,h2,F,h3,h4,h5⟩:=h
 obtain ⟨G,K,rfl,e1,e2⟩:=h3.split
 exact ⟨h1,h2,G++K,(k w G e1).append e2,h4,h5⟩
theorem Do {P:Program} {n:Nat} {I:Hp} {w0:World} {k:FuncId} {fn:Func} {c:Code} {args:Array Value} {rn:List Ch} {fact:Value->Prop} {gv:Value->List Ch} (L:List (Nat×Value)) (hf:P.funcs[k]? =some fn) (hb:fn.body=some c) (hn:fn.ntmps=n) (hm:args.size<=n) (hL: ∀p∈L,args[p.1]? =some p.2)
  (h: ∀F w a,Agr n a L->St I w0 w (rn++ [F])->c.wp P (bodyPost P fn fun e w'=> ∃v,e= .returned v/\fact v/\ ∃J,I.le J/\St J w0 w' (gv v++ [F])) a w) (hd: ∀v,Ch.back (gv v)):Con P k args I w0 rn fact gv:=by
 intro w C hs
 have hs':St I w0 w (rn++ [Ch.fr I C]):=by
  have ⟨hb,hi,F,h1,h2,h3⟩:=hs
  obtain ⟨G,K,rfl,e1,e2⟩:=h1.split
  exact ⟨hb,hi,G++K,e1.append ⟨K,[],by simp,e2,rfl⟩,h2,h3⟩
 have:=h (Ch.fr I C) w { tmps:=args++Array.replicate (fn.ntmps - args.size) undef,defers:=[] } (Agr.start L (by omega) hL) hs'
 refine (calls_of_wp hf hb this).mono ?_
 rintro e w' ⟨v,rfl,hv,J,hJ,hs⟩
 exact ⟨v,rfl,hv,hs.back hJ (hd v)⟩
theorem Tw {P:Program} {I:Hp} {w0 w:World} {F:Ch} {n:Nat} {J:Hp} {θ:Th} {s:Sg} {a:Act} {tr:Trs} {vs:List AV} (hS:Sim P I w0 F n J θ s a w): ∃J' θ',J.le J'/\Sim P I w0 F n J' θ' (Tu tr vs s) a w/\Fr s θ (Tu tr vs s) θ':=by
 have key: ∃J' θ',J.le J'/\Sim P I w0 F n J' θ' (Hc tr vs s) a w/\Fr s θ (Hc tr vs s) θ':=by
  unfold Hc
  split
  ·grind[Hp.le.rfl,Fr.rfl]
  ·exact uX hS
 have ⟨J',θ',h1,h2,h3⟩:=key
 have ⟨S2,F2⟩:=tx (V:=⟨[],[],[],n,[]⟩) (hs:=Ja s vs++zZ (Hc tr vs s).chs) h2
 exact ⟨J',θ',h1,S2,h3.trans F2⟩
theorem Vz {V:Env} {P:Program} {w0:World} {F:Ch} {J:Hp} {θ:Th} (hT:TTok P V.tt) {fn:Func} {rs:List Ty} {ps:List PM} {d:denP ps} {vs:List Value} {s0:Sg} (k0:vs.length=ps.length) (k5:StF P w0 J θ (ps.length+1) 0 ps vs d) (hn0:ps.length+1<=s0.nxt) {γ:Value} (hγ:θ ps.length=γ): ∀r J' θ' s' a' w',MG V fn.results.toList rs ps d s'=some r->Sim P J w0 F V.n J' θ' s' a' w'->J.le J'->Fr s0 θ s' θ'->
  bodyPost P fn (fun e w'=> ∃v,e= .returned v/\(resFa rs v/\(AM 1000000 V.an=true->yt rs (hFst rs (outs ps) (toH _ r)) v))/\ ∃J2,J.le J2/\St J2 w0 w' ((resGv rs (hFst rs (outs ps) (toH _ r)) v++outCh γ ps vs (hSnd rs (outs ps) (toH _ r)))++ [F])) .ret a' w':=by
 intro r J' θ' s' a' w' hrt hS' hJ hFr
 have ⟨vs00,hv00,hrt⟩:=bind_some (show (Dm V.tt s' fn.results.toList).bind _=some r from hrt)
 have ⟨s0',hrt,S0,N0⟩:=KO hrt (AZ hT hS' hv00).2 hS'
 have ⟨vs0,hv0,hrt⟩:=bind_some hrt
 have ⟨J1,θ1,hJ1,S1,F1⟩:=Tw (tr:=V.tr) (vs:=vs0) S0
 generalize Tu V.tr vs0 s0'=s1 at hrt S1 F1
 have hle:=hFr.1
 have hsame:Same (ps.length+1) θ θ1:=fun i hi=>(F1.same i (by omega)).trans (hFr.same i (by omega))
 replace hJ:=hJ.trans hJ1
 clear hJ1 F1 hS' S0 hFr
 revert J1 θ1
 intro J' θ' S1 hsame hJ
 have ⟨us,hus,hrt⟩:=bind_some hrt
 have ⟨q,hq,hrt⟩:=bind_some hrt
 have ⟨o,ho,hrt⟩:=bind_some hrt
 have ⟨u0,hnl,hrt⟩:=bind_some hrt
 cases ad hrt
 have ⟨r1,r2⟩:=AZ hT S1 hus
 have ⟨t1,t2,t3,t4⟩:=Dl (J:=J') (θ:=θ') hq r2
 have ⟨o1,o2⟩:=fb (P:=P) (J:=J) (J':=J') (θ:=θ) (θ':=θ') (vs:=vs) (n:=ps.length+1) (n':=s1.nxt) (chs0:=s1.chs) hJ hsame (aw _) hγ ho k0 k5 fun e he=>S1.fine.chs e (t1.mem_iff.2 (by grind))
 have hl:(us.map (·.v θ')).length=rs.length:=by rw[List.length_map];exact t2
 refine abF S1.agr r1 ⟨_,rfl,⟨Tv hl fun i t v ht hv1=>?_,fun han=>?_⟩,J',hJ,?_⟩
 ·grind
 ·rw[I9,EM]
  unfold ZO at hnl
  rw[han] at hnl
  have hnl:=bQ hnl
  rcases us with _ | ⟨x,us⟩
  ·cases hnl
  ·cases us with
   | nil=>exact ZP (θ:=θ') hnl rfl
   | cons y us=>grind[nlN]
 ·rw[I9,EM,La,MH hl]
  have hp:=t1.trans (o1.append_left _)
  have h1:=S1.st.perm ((hp.map (toCh P θ')).append_right [F])
  have h2:St J' w0 w' ((q.2.1.map (toCh P θ')++o.2.1.map (toCh P θ'))++(o.2.2.map (toCh P θ')++ [F])):=by
   simpa [aS,aA] using h1
  have h3:=St.sepTo h2 (PQ t3 o2)
  refine St.left (ds:=o.2.2.map (toCh P θ')) (h3.perm ?_)
  grind[aA,List.Perm.append_left,List.perm_append_comm]
theorem Jb {V:Env} {P:Program} (hT:TTok P V.tt) (hF:FTok P V.ft) (hmx:P.follows .mixedOrders=true) {k:FuncId} {fn:Func} {c:Code} {f:FS} (hf:P.funcs[k]? =some fn) (hb:fn.body=some c) (hn:fn.ntmps=V.n) (hen:Enters P k) (hm:f.ps.length<=V.n) (hdp:(Et f.rs&&zn f.ps)=true) (ann:Ann)
  (hmod: ∀d,appP f.ps f.m d=lz V (MG V fn.results.toList f.rs f.ps d) c ann (fun r=>some r) (fun _ _=>none) (MG V fn.results.toList f.rs f.ps d) (qC (yE f.ps d))): ∀w0 J γ vs (d:denP f.ps) r,Lay P J->PArgs P w0 J γ f.ps vs d->appP f.ps f.m d=some r->Con P k vs.toArray J w0 (owCh γ f.ps vs d) (fun v=>resFa f.rs v/\(AM 1000000 V.an=true->yt f.rs (hFst f.rs (outs f.ps) (toH _ r)) v)) (fun v=>resGv f.rs (hFst f.rs (outs f.ps) (toH _ r)) v++outCh γ f.ps vs (hSnd f.rs (outs f.ps) (toH _ r))):=by
 rw[ai] at hdp
 intro w0 J γ vs d r hlay ha hr
 rw[hmod] at hr
 have k0:=Hb ha
 let θ:=fun i=>if i=vs.length then γ else vs.getD i undef
 have hθ: ∀j v,vs[j]? =some v->θ (0+j)=v:=fun j v hj=>by
  grind
 have hθg:θ f.ps.length=γ:=by
  grind
 have hzip: ∀p∈(vs.zipIdx.map fun q=>(q.2,q.1)),vs.toArray[p.1]? =some p.2:=fun p hp=>by
  grind
 refine Do (n:=V.n) (vs.zipIdx.map fun q=>(q.2,q.1)) hf hb hn (by grind) hzip (fun F w a hA hst=>?_) (fun v=>xo (eF _ _ _ hdp.2) _ _ hdp.1)
 ·have ⟨k1,k2,k3,k4,k5⟩:=K8 (n:=f.ps.length+1) (q:=f.ps.length) (C:=[F]) (aw _) hθg ha hθ (by omega) hst
  have hfine:Fine P w0 J θ (yE f.ps d):=⟨fun e he=>(k1 e he).1 _,fun e he=>by have:=k1 e he;show e.2.1<f.ps.length+1;omega,k2,fun e he=>k4 e he _,hlay⟩
  have hA':Agr V.n a (envL θ (yE f.ps d)):=hA.pick _ fun p hp=>by
   obtain ⟨e,he,rfl⟩:=List.mem_map.1 hp
   have h5:=(k1 e he).2.2.2.2
   have key: ∀(l:List Value) (k:Nat) (i:Nat) (v:Value),k<=i->l[i - k]? =some v->((l.zipIdx k).map fun q=>(q.2,q.1)).lookup i=some v:=by
    intro l
    induction l with
    | nil=>grind
    | cons x l ih =>
     intro k i v hk h
     simp[List.zipIdx_cons,List.map_cons,List.lookup_cons]
     by_cases e:i=k
     ·simp_all
     ·rw[show i - k=(i - (k+1))+1 from by omega] at h
      grind
   grind
  have hS:Sim P J w0 F V.n J θ (yE f.ps d) a w:=⟨Hp.le.rfl,hA',k3,hfine⟩
  have fin:=Vz (rs:=f.rs) (fn:=fn) (F:=F) hT k0 k5 (aF (yE f.ps d).nxt) hθg
  have ⟨θ0,hS0,hFr0⟩:=zS hS
  exact (AY (I:=J) (w0:=w0) (F:=F) hT hF hmx c).1 ann hr hS0 (fun J' θ' s' a' w' hk S' hJ hFr=>fin r J' θ' s' a' w' hk S' hJ (hFr0.trans hFr)) (fun i J' θ' s' a' w' hk=>by cases hk) (fun r' J' θ' s' a' w' hrt hrr hS' hJ hFr=>by
   cases ad hrr
   exact fin _ J' θ' s' a' w' hrt hS' hJ (hFr0.trans hFr))
theorem fok {V:Env} {P:Program} (hT:TTok P V.tt) (hF:FTok P V.ft) (hmx:P.follows .mixedOrders=true) {k:FuncId} {fn:Func} {c:Code} {f:FS} (hf:P.funcs[k]? =some fn) (hb:fn.body=some c) (hn:fn.ntmps=V.n) (hen:Enters P k) (hcl:f.cl=none) (hm:f.ps.length<=V.n) (hdp:(Et f.rs&&zn f.ps)=true) (ann:Ann)
  (hmod: ∀d,appP f.ps f.m d=lz V (MG V fn.results.toList f.rs f.ps d) c ann (fun r=>some r) (fun _ _=>none) (MG V fn.results.toList f.rs f.ps d) (qC (yE f.ps d))):FOk P k f:=
 ⟨fun q hq=>by grind,fun _=>hen,fun _ w0 J γ vs d r hlay ha hr w C hs=>(Jb hT hF hmx hf hb hn hen hm hdp ann hmod w0 J γ vs d r hlay ha hr w C hs).mono fun e w' ⟨v,h1,h2,h3⟩=>⟨v,h1,h2.1,h3⟩⟩
theorem ac9 {V:Env} {P:Program} (hT:TTok P V.tt) (hF:FTok P V.ft) (hmx:P.follows .mixedOrders=true) {k:FuncId} {fn:Func} {c:Code} {f:FS} (hf:P.funcs[k]? =some fn) (hb:fn.body=some c) (hn:fn.ntmps=V.n) (hen:Enters P k) (hcl:f.cl=some (0,7)/\AM 1000000 V.an=true) (hm:f.ps.length<=V.n) (hdp:(Et f.rs&&zn f.ps)=true) (ann:Ann)
  (hmod: ∀d,appP f.ps f.m d=lz V (MG V fn.results.toList f.rs f.ps d) c ann (fun r=>some r) (fun _ _=>none) (MG V fn.results.toList f.rs f.ps d) (qC (yE f.ps d))):FOk P k f:=
 ⟨fun q hq=>by
  rw[hcl.1] at hq
  cases ad hq
  exact ⟨⟨fun e=>(by cases e),fun _ e=>(by cases e),fun e=>(by cases e)⟩,(fun _ w0 J γ vs d r hlay ha hr w C hs=>(Jb hT hF hmx hf hb hn hen hm hdp ann hmod w0 J γ vs d r hlay ha hr w C hs).mono fun e w' ⟨v,h1,h2,h3⟩=>⟨v,h1,⟨h2.1,h2.2 hcl.2⟩,h3⟩),fun e=>(by cases e)⟩,fun _=>hen,fun _ w0 J γ vs d r hlay ha hr w C hs=>(Jb hT hF hmx hf hb hn hen hm hdp ann hmod w0 J γ vs d r hlay ha hr w C hs).mono fun e w' ⟨v,h1,h2,h3⟩=>⟨v,h1,h2.1,h3⟩⟩
theorem Lb {V:Env} {P:Program} (hT:TTok P V.tt) (hF:FTok P V.ft) (hmx:P.follows .mixedOrders=true) {k:FuncId} {fn:Func} {c:Code} {E b:Nat} (hf:P.funcs[k]? =some fn) (hb:fn.body=some c) (hn:fn.ntmps=V.n) (hen:Enters P k) (hm:1<=V.n) (ann:Ann)
  (hmod: ∀(E':TypeId) (bn:Bool) (xs:List Raw),(match bn with | true=>some ([] :List Raw) | false=>(cM b [] xs).bind fun zs=>some zs)=lz V (MG V fn.results.toList [.sl E .raw] [] ()) c ann (fun r=>some r) (fun _ _=>none) (MG V fn.results.toList [.sl E .raw] [] ()) ⟨[(0,0,.one (.rdn ⟨0,[]⟩ bn (.sl E' .raw) xs))],[],1⟩):xl P k E b:=by
 refine ⟨hen,fun E' J w0 v xs zs hlay hrd tF=>?_⟩
 have ⟨bn,hbn⟩: ∃bn,Gk v=bn:=⟨_,rfl⟩
 have hr:lz V (MG V fn.results.toList [.sl E .raw] [] ()) c ann (fun r=>some r) (fun _ _=>none) (MG V fn.results.toList [.sl E .raw] [] ()) ⟨[(0,0,.one (.rdn ⟨0,[]⟩ bn (.sl E' .raw) xs))],[],1⟩=some zs:=by
  rw[<-hmod E' bn xs]
  cases bn with
  | false =>
   rw[tF];rfl
  | true =>
   obtain ⟨h1,-⟩:=Ex tF
   obtain ⟨ao,cap,e,-,hx⟩:=hrd
   obtain rfl:v= .slice ao xs.length cap:=by grind
   rcases hx with rfl | ⟨b,off,ccs,t,fr,rfl,-⟩
   ·rw[h1];rfl
   ·cases hbn
 let θ:Th:=fun _=>v
 have key:Con P k #[v] J w0 [] (fun v=>resFa [.sl E .raw] v/\(AM 1000000 V.an=true->yt [.sl E .raw] (zs,()) v)) (fun v=>resGv [.sl E .raw] (zs,()) v++ []):=by
  refine Do (n:=V.n) [(0,v)] hf hb hn hm (fun p hp=>by grind) (fun F w a hA hst=>?_) (fun u=>xo (D:=[]) trivial [.sl E .raw] (zs,()) rfl)
  have hfine:Fine P w0 J θ ⟨[(0,0,.one (.rdn ⟨0,[]⟩ bn (.sl E' .raw) xs))],[],1⟩:=⟨fun e he=>by cases au he;exact ⟨Nat.one_pos,hrd,hbn⟩,fun e he=>by grind,List.pairwise_singleton _ _,fun e he=>(by cases he),hlay⟩
  have hS:Sim P J w0 F V.n J θ ⟨[(0,0,.one (.rdn ⟨0,[]⟩ bn (.sl E' .raw) xs))],[],1⟩ a w:=⟨Hp.le.rfl,hA,hst,hfine⟩
  have fin:=Vz (V:=V) (θ:=θ) (J:=J) (w0:=w0) (rs:=[.sl E .raw]) (ps:=[]) (d:=()) (vs:=[]) (s0:=⟨[(0,0,.one (.rdn ⟨0,[]⟩ bn (.sl E' .raw) xs))],[],1⟩) (fn:=fn) (F:=F) hT rfl trivial (aF _) (γ:=θ 0) rfl
  exact (AY (I:=J) (w0:=w0) (F:=F) hT hF hmx c).1 ann hr hS (fun J' θ' s' a' w' hk S' hJ hFr=>fin _ J' θ' s' a' w' hk S' hJ hFr) (fun i J' θ' s' a' w' hk=>by cases hk) (fun r' J' θ' s' a' w' hrt hrr hS' hJ hFr=>by
   cases ad hrr
   exact fin _ J' θ' s' a' w' hrt hS' hJ hFr)
 exact fun w C hs=>(key w C hs).mono fun e w' ⟨v,h1,h2,h3⟩=>⟨v,h1,trivial,h3⟩
def zo:Nat->Ty
 | 0=>.raw
 | n+1=>.prod .raw (zo n)
def pO:(n:Nat)->(zo n).den->List Value
 | 0,p=>[p.1]
 | n+1,p=>p.1.1::pO n p.2
theorem He: ∀n,(zo n).rep.size=n+1
 | 0=>rfl
 | n+1=>by
  show 1+(zo n).rep.size=_
  rw[He n];omega
theorem Jc {I:Hp} : ∀(n:Nat) {cs:List Value} {p:(zo n).den},(zo n).rep.rd I cs p↔cs=pO n p
 | 0,cs,p=>Iff.rfl
 | n+1,cs,p=>by
  constructor
  ·rintro ⟨c,d,rfl,h1,h2⟩
   obtain rfl:c= [p.1.1]:=h1
   rw[(Jc n).1 h2];rfl
  ·rintro rfl
   exact ⟨[p.1.1],pO n p.2,rfl,rfl,(Jc n).2 rfl⟩
theorem Lc {I:Hp} {w:World} : ∀(n:Nat) {cs:List Value} {p:(zo n).den} {F:List Nat},(zo n).rep.own I w cs p F->F= [] /\cs=pO n p
 | 0,cs,p,F,h=>by
  have ⟨h1,h2⟩:=h
  exact ⟨h1,h2⟩
 | n+1,cs,p,F,⟨c,d,G,K,h1,h2,h3,h4⟩=>by
  obtain ⟨rfl,h5⟩:=h3
  obtain ⟨rfl,h6⟩:=Lc n h4
  subst h1;subst h2;subst h5
  exact ⟨rfl,by rw[h6];rfl⟩
theorem PR: ∀(n:Nat) (cs:List Value),cs.length=n+1->(∀u∈cs,u.oneCell'=true)-> ∃p:(zo n).den,pO n p=cs
 | 0,cs,hl,h1=>by
  obtain ⟨u,rfl⟩:=List.length_eq_one_iff.1 hl
  exact ⟨⟨u,h1 u (by simp)⟩,rfl⟩
 | n+1,u::cs,hl,h1=>by
  have ⟨p,hp⟩:=PR n cs (by grind) (fun v hv=>h1 v (by grind))
  exact ⟨(⟨u,h1 u (by simp)⟩,p),by grind[pO]⟩
theorem XT {n:Nat} {E:TypeId} {α:Type} {R:Rep α} (h1:R.size=n+1) {I:Hp} {v:Value} {xs:List α} (h:(af E R).rd I [v] xs): ∃ps:List (zo n).den,All2 (fun p x=>R.rd I (pO n p) x) ps xs/\(af E (zo n).rep).rd I [v] ps:=by
 obtain ⟨ao,cap,e,hl,h⟩:=h
 obtain rfl:v= .slice ao xs.length cap:=by grind
 rcases h with rfl | ⟨b,off,ccs,t,fr,rfl,h2,h3⟩
 ·exact ⟨[],.nil,ao,cap,rfl,hl,.inl rfl⟩
 ·have key: ∀(xs:List α) (k0:Nat),(∀i x,xs[i]? =some x-> ∃c:List Value,c.length=R.size/\(∀j,j<R.size->ccs.toList[off+(k0+i)*R.size+j]? =c[j]?)/\R.rd I c x)-> ∃ps:List (zo n).den,All2 (fun p x=>R.rd I (pO n p) x) ps xs/\ ∀i p,ps[i]? =some p->(pO n p).length=R.size/\ ∀j,j<R.size->ccs.toList[off+(k0+i)*R.size+j]? =(pO n p)[j]? :=by
   intro xs
   induction xs with
   | nil=>intro k0 _;exact ⟨[],.nil,fun i p hp=>by grind⟩
   | cons x xs ih =>
    intro k0 h
    have ⟨c,e1,e2,e3⟩:=h 0 x rfl
    obtain ⟨p,rfl⟩:=PR n c (e1.trans h1) (R.rd_one e3)
    have ⟨ps,q1,q2⟩:=ih (k0+1) fun i y hy=>by
     have:=h (i+1) y (by grind)
     grind
    refine ⟨p::ps,.cons e3 q1,fun i u hu=>?_⟩
    grind
  have ⟨ps,q1,q2⟩:=key xs 0 (fun i x hx=>by grind)
  have hlen:=q1.length_eq
  refine ⟨ps,q1,_,cap,by grind,by omega,.inr ⟨b,off,ccs,t,fr,rfl,h2,fun i p hp=>?_⟩⟩
  grind[pO,He,Jc]
theorem kE {P:Program} {k:FuncId} {f:FS} (h:Enters P k) (hc:f.cl=none) (hm: ∀d,appP f.ps f.m d=none):FOk P k f:=
 ⟨fun q hq=>by grind,fun _=>h,fun _ _ _ _ _ d r _ _ hr=>by grind⟩
theorem Hf {P:Program} {k:FuncId} {f:FS} {E b:Nat} (h:FOk P k ⟨f.ps,f.rs,f.m,none⟩) (hc:xl P k E b) (hb:Nat.beq b 0=false:=by rfl) (h7:Nat.beq b 7=false:=by rfl) (h8:Nat.ble 1000 b=false:=by rfl) (h9:Nat.beq b 9=false:=by rfl):FOk P k ⟨f.ps,f.rs,f.m,some (E,b)⟩:=
 ⟨fun q hq=>by cases ad hq;exact ⟨⟨fun e=>(by grind),fun _ _ _ _=>hc,fun e=>(by grind)⟩,fun e=>(by grind),fun e=>(by grind)⟩,fun _=>h.en rfl,fun _=>h.con rfl⟩
theorem Ld {α β:Type} {R:α->β->Prop} : ∀ {ps:List α} {xs:List β} {k:Nat} {x:β},All2 R ps xs->xs[k]? =some x-> ∃p,ps[k]? =some p/\R p x
 | _,_,k,x,.nil,h=>by simp at h
 | _,_,0,x,.cons h1 _,h=>by
  obtain rfl:=ad h
  exact ⟨_,rfl,h1⟩
 | _,_,k+1,x,.cons _ h2,h=>Ld (k:=k) h2 h
theorem Tx {P:Program} {k:FuncId} {E:TypeId} {a b R:Ty} (h1:a.size=1) (h2:b.size=1) (h:FOk P k ⟨[.rd (.prod (.prod (.int .i64) (.sl E (.prod .raw .raw))) R)],[.prod .raw .raw],fun e=>(aG e.1.2 (i64.wrap ((e.1.2.length:Int) - 1))).bind fun x=>some (x.1,x.2),none⟩):FOk P k ⟨[.rd (.prod (.prod (.int .i64) (.sl E (.prod a b))) R)],[.fro (.prod a b)],fun e=>(aG e.1.2 (i64.wrap ((e.1.2.length:Int) - 1))).bind fun x=>some (x.1,x.2),none⟩:=by
 refine ⟨fun q hq=>(by cases hq),fun _=>h.en rfl,fun _ w0 J γ vs d r hlay ha tF=>?_⟩
 obtain ⟨v,vs',rfl,hd,hnil⟩:=ha
 obtain rfl:vs'= []:=hnil
 obtain ⟨cs,hcs,hrd⟩:=hd
 obtain ⟨c,c2,e1,⟨c3,c4,e2,r1,r2⟩,r3⟩:=hrd
 obtain ⟨u,rfl⟩:=List.length_eq_one_iff.1 (Rep.rd_len _ r2)
 have hsz:(Ty.prod a b).rep.size=1+1:=by
  rw[Ty.rep_size];show a.size+b.size=_;omega
 obtain ⟨ps,hp,hps⟩:=XT (n:=1) hsz r2
 have tF:(aG d.1.1.2 (i64.wrap ((d.1.1.2.length:Int) - 1))).bind (fun x=>some (x.1,x.2))=some r:=tF
 obtain ⟨x,hx,hr⟩:=bind_some tF
 have hl:=hp.length_eq
 have hx': ∃p,aG ps (i64.wrap ((ps.length:Int) - 1))=some p/\(Ty.prod a b).rep.rd J (pO 1 p) x:=by
  rw[hl]
  unfold aG at hx⊢
  split at hx
  ·rename_i c
   rw[if_pos c]
   exact Ld hp hx
  ·cases hx
 obtain ⟨p,g1,g2⟩:=hx'
 have key:=h.con rfl w0 J undef [v] (((d.1.1.1,ps),d.1.2),()) (show dens ([Ty.prod .raw .raw] ++ []) from (p.1,p.2)) hlay ⟨v,[],rfl,⟨cs,hcs,⟨c,c2,e1,⟨c3,[u],e2,r1,hps⟩,r3⟩⟩,rfl⟩ (by
  show (aG ps (i64.wrap ((ps.length:Int) - 1))).bind (fun x=>some (x.1,x.2))=_
  rw[g1];rfl)
 refine fun w C hs=>(key w C hs).mono fun e w' ⟨v',a1,a2,a3⟩=>⟨v',a1,a2,?_⟩
 obtain ⟨s1,s2,F,⟨G,K,rfl,q,q2⟩,s4,s5⟩:=a3
 obtain ⟨rfl,hc⟩:=Lc 1 q
 refine ⟨s1,s2,[] ++K,⟨[],K,rfl,⟨rfl,?_⟩,q2⟩,s4,s5⟩
 obtain rfl:(x.1,x.2)=r:=ad hr
 have hc:ka true v'=pO 1 p:=hc
 show (Ty.prod a b).rep.rd J (ka true v') (x.1,x.2)
 rw[hc];exact g2
end R
namespace R
open Go.RowKit
open D
end R
namespace R
open Go.RowKit Go.Shelf Go.Sort
open D
abbrev IT:Ty:=.int .i64
def Tz (xs:List Int):Option (List Int):=(chk (xs.length<4611686018427387904)).bind fun _=>some (xs.mergeSort fun x y=>decide (x<=y))
theorem St.grownI {I:Hp} {w0 w:World} {cs:List Ch} (h:St I w0 w cs) (os:Array Obj):St I w0 (grow w os) cs:=by
 refine St.step (w:=w) (c:=[]) (c':=[]) h rfl rfl rfl (by simp[grow]) ?_
 rintro F rfl - -
 exact ⟨fun b hb _=>heap_grow_old w os hb,[],rfl,List.nodup_nil,by simp⟩
theorem PS {P:Program} {ρ:Ren} (L:Lays.n189 P ρ) (en:Enters P (ρ.f 189)) (E:TypeId) :
  FOk P (ρ.f 189) ⟨[.ow (.sl E IT)],[],fun xs=>Tz xs,none⟩:=by
 refine ⟨fun q hq=>(by cases hq),fun _=>en,fun _ w0 J γ vs d r hlay ha tF=>?_⟩
 obtain ⟨v,vs1,rfl,hd,hnil⟩:=ha
 obtain rfl:vs1= []:=hnil
 obtain ⟨xs0,un⟩:=d
 let xs:List Int:=xs0
 let zs:List Int:=r
 have tF:Tz xs=some zs:=tF
 obtain ⟨u1,hc,hz⟩:=Option.bind_eq_some_iff.1 tF
 have hc:=bQ hc
 have hz:=ad hz
 intro w C hst
 have hst:St J w0 w (Ch.own (af E IT.rep) [v] xs::C):=hst
 clear tF
 rename_i happ0
 clear happ0 hd
 clear_value xs
 have hfin: ∀ {e:Ending} {w':World},(∃W,e= .returned (.tuple #[])/\w'=W/\St J w0 W (Ch.own (af E IT.rep) [v] zs::C))-> ∃v':Value,e= .returned v'/\(∃vs:Array Value,v'= .tuple vs/\vs.size=0/\ ∀(i:Nat) (t:Ty),([] :List Ty)[i]? =some t->oN (vs.getD i undef)=t.isProd)/\St J w0 w' (Ch.own (af E IT.rep) [v] zs::C):=by
  rintro e w' ⟨W,rfl,rfl,h⟩
  exact ⟨_,rfl,⟨#[],rfl,rfl,fun i t h=>(by simp at h)⟩,h⟩
 have hcase:(v= .slice none 0 0/\xs= [])\/ ∃g' ofs n cap,v= .slice (some ⟨g',ofs,none⟩) n cap:=by
  obtain ⟨hb,hi,F,⟨G,K,rfl,⟨hl,e2⟩,e3⟩,h4,h5⟩:=hst
  rcases e2 with ⟨hv,h1,_⟩ | ⟨g',ofs',cap',cur,K1,hv,_⟩
  ·exact .inl ⟨List.cons.inj hv |>.1,h1⟩
  ·exact .inr ⟨_,_,_,_,List.cons.inj hv |>.1⟩
 rcases hcase with ⟨rfl,hx⟩ | ⟨g',ofs,n,cap,rfl⟩
 ·refine (Any.slices_Sort_int_none L none 0 w).mono fun e w' ⟨he,hw⟩=>hfin ⟨_,he,hw,?_⟩
  rw[<-hz,hx,List.mergeSort_nil]
  rw[hx] at hst
  exact hst
 ·obtain ⟨hn,h1,h2,cur,hg,hroom,hat⟩:=Pa (R:=IT.rep) (k:=1) (Ty.sh_ok (t:=IT) rfl) rfl hst
  obtain rfl:=hn
  have hH:Holds (Value.int .i64) w g' ofs xs.toArray:=by
   intro j hj
   have hj:j<xs.length:=by simpa using hj
   obtain ⟨c,e1,e2,e3⟩:=hat j _ (List.getElem?_eq_getElem hj)
   have hcj:=e2 0 Nat.one_pos
   obtain rfl:c= [.int .i64 xs[j]]:=e3
   rw[Nat.mul_one,Nat.add_zero,List.getElem?_drop] at hcj
   refine ⟨?_,?_⟩
   ·unfold World.cell?
    simp only[hg]
    rw[<-Array.getElem?_toList,hcj,getElem!_pos xs.toArray _ (by simpa using hj)]
    simp
   ·unfold World.frozen?
    simp only[hg]
    simp
  have hblk:g'<w.heap.size:=by
   rcases Nat.lt_or_ge g' w.heap.size with c | c
   ·exact c
   ·rw[Array.getElem?_eq_none c] at hg;cases hg
  refine (Any.slices_Sort_int L g' ofs cap xs w hH hblk hc).mono ?_
  rintro e w' ⟨he,m,os,rfl⟩
  refine hfin ⟨_,he,rfl,?_⟩
  have hlen:zs.length=xs.length:=by rw[<-hz];exact List.length_mergeSort _
  rw[hz,Go.Lib.sorted_world (Value.int .i64) w g' ofs m xs.toArray zs os hH (by simpa using hlen)]
  refine St.grownI ?_ os
  have hst2:St J w0 (w.drewN m) (Ch.own (af E IT.rep) [.slice (some ⟨g',ofs,none⟩) xs.length cap] xs::C):=hst.drawn rfl rfl rfl rfl
  have hcapz:zs.length<=cap:=by rw[hlen];exact h1
  have hlimz:zs.length<=lim:=by
   have:lim=2 ^ 63 - 1:=rfl
   have:maxLen=2 ^ 63 - 1:=rfl
   omega
  have h3:=IS (p:=0) (cnt:=xs.length) (zs:=zs) (news:=zs.map (Value.int .i64)) (Ty.sh_ok (t:=IT) rfl) (Ty.cpy (t:=IT) rfl) (k:=1) rfl (by simp[hlen]) (by omega) hcapz hlimz (fun i z hi=>.inl ⟨Nat.zero_le _,(by
   have:=(List.getElem?_eq_some_iff.1 hi).1
   have:i<zs.length:=this
   omega),[.int .i64 z],rfl,fun j hj=>by
    obtain rfl:j=0:=by omega
    rw[Nat.sub_zero,Nat.mul_one,Nat.add_zero,List.getElem?_map]
    have hi:zs[i]? =some z:=hi
    rw[hi];rfl,rfl⟩) hst2
  rw[Nat.zero_mul,Nat.add_zero,show @List.length IT.den zs=xs.length from hlen] at h3
  exact h3
end R
namespace R
open Go.Shelf
def A0:Go.Shelf.Ren:=⟨fun | 189=>172 | 125=>216 | 257=>215 | 128=>266 | 129=>267 | 294=>257 | 295=>258 | 296=>259 | 297=>260 | 298=>261 | 299=>262 | 216=>263 | 300=>264 | 301=>265 | 328=>293 | 329=>294 | 330=>295 | 331=>296 | 332=>297 | 215=>298 | 343=>314 | n=>n,fun | 28=>57 | 3=>3 | 46=>263 | 0=>0 | 51=>307 | 53=>309 | 4=>4 | 183=>300 | 182=>299 | 131=>173 | 5=>5 | 9=>9 | 218=>334 | 222=>338 | 228=>360 | 229=>361 | n=>n,fun | n=>n⟩
theorem Jd:Go.Proofs.Lays.n189 Tryz.prog A0:= {
 mixed:=by kernel_rfl
 f125:=Tryz.func216.trans (congrArg some (by kernel_rfl))
 f128:=Tryz.func266.trans (congrArg some (by kernel_rfl))
 f129:=Tryz.func267.trans (congrArg some (by kernel_rfl))
 f189:=Tryz.func172.trans (congrArg some (by kernel_rfl))
 f215:=Tryz.func298.trans (congrArg some (by kernel_rfl))
 f216:=Tryz.func263.trans (congrArg some (by kernel_rfl))
 f257:=Tryz.func215.trans (congrArg some (by kernel_rfl))
 f294:=Tryz.func257.trans (congrArg some (by kernel_rfl))
 f295:=Tryz.func258.trans (congrArg some (by kernel_rfl))
 f296:=Tryz.func259.trans (congrArg some (by kernel_rfl))
 f297:=Tryz.func260.trans (congrArg some (by kernel_rfl))
 f298:=Tryz.func261.trans (congrArg some (by kernel_rfl))
 f299:=Tryz.func262.trans (congrArg some (by kernel_rfl))
 f300:=Tryz.func264.trans (congrArg some (by kernel_rfl))
 f301:=Tryz.func265.trans (congrArg some (by kernel_rfl))
 f328:=Tryz.func293.trans (congrArg some (by kernel_rfl))
 f329:=Tryz.func294.trans (congrArg some (by kernel_rfl))
 f330:=Tryz.func295.trans (congrArg some (by kernel_rfl))
 f331:=Tryz.func296.trans (congrArg some (by kernel_rfl))
 f332:=Tryz.func297.trans (congrArg some (by kernel_rfl))
 f343:=Tryz.func314.trans (congrArg some (by kernel_rfl))
 t0:=Tryz.underlying0
 a0:=Tryz.isAgg0
 z0:=Tryz.sizeOf0
 v0:=Tryz.zeroValue0
 t3:=Tryz.underlying3
 a3:=Tryz.isAgg3
 z3:=Tryz.sizeOf3
 v3:=Tryz.zeroValue3
 t4:=Tryz.underlying4
 a4:=Tryz.isAgg4
 z4:=Tryz.sizeOf4
 v4:=Tryz.zeroValue4
 t5:=Tryz.underlying5
 a5:=Tryz.isAgg5
 z5:=Tryz.sizeOf5
 v5:=Tryz.zeroValue5
 t9:=Tryz.underlying9
 a9:=Tryz.isAgg9
 z9:=Tryz.sizeOf9
 v9:=Tryz.zeroValue9
 t28:=Tryz.underlying57
 a28:=Tryz.isAgg57
 z28:=Tryz.sizeOf57
 v28:=Tryz.zeroValue57
 t46:=Tryz.underlying263
 a46:=Tryz.isAgg263
 z46:=Tryz.sizeOf263
 v46:=Tryz.zeroValue263
 t51:=Tryz.underlying307
 a51:=Tryz.isAgg307
 z51:=Tryz.sizeOf307
 v51:=Tryz.zeroValue307
 t53:=Tryz.underlying309
 a53:=Tryz.isAgg309
 z53:=Tryz.sizeOf309
 v53:=Tryz.zeroValue309
 t131:=Tryz.underlying173
 a131:=Tryz.isAgg173
 z131:=Tryz.sizeOf173
 v131:=Tryz.zeroValue173
 t182:=Tryz.underlying299
 a182:=Tryz.isAgg299
 z182:=Tryz.sizeOf299
 v182:=Tryz.zeroValue299
 t183:=Tryz.underlying300
 a183:=Tryz.isAgg300
 z183:=Tryz.sizeOf300
 v183:=Tryz.zeroValue300
 t218:=Tryz.underlying334
 a218:=Tryz.isAgg334
 z218:=Tryz.sizeOf334
 v218:=Tryz.zeroValue334
 t222:=Tryz.underlying338
 a222:=Tryz.isAgg338
 z222:=Tryz.sizeOf338
 v222:=Tryz.zeroValue338
 t228:=Tryz.underlying360
 a228:=Tryz.isAgg360
 z228:=Tryz.sizeOf360
 v228:=Tryz.zeroValue360
 t229:=Tryz.underlying361
 a229:=Tryz.isAgg361
 z229:=Tryz.sizeOf361
 v229:=Tryz.zeroValue361 }
end R
namespace R
open Go.RowKit Go.Shelf Go.Sort
open D
def TA (xs:List ByteArray) (sep:ByteArray):Option ByteArray:=(chk (xs.length<=140737488355328/\(Lib.join (xs.map (·.data.toList)) sep.data.toList).length<=140737488355328)).bind fun _=>some ⟨(Lib.join (xs.map (·.data.toList)) sep.data.toList).toArray⟩
def TC (n:Int):Option ByteArray:=(chk (-9223372036854775808<=n/\n<=9223372036854775807)).bind fun _=>some ⟨(Lib.itoa n).toArray⟩
section
variable {P:Program} {ρ:Ren}
theorem St.grownS {I:Hp} {w0 w:World} {cs:List Ch} (h:St I w0 w cs) (os:Array Obj):St I w0 (grow w os) cs:=by
 refine St.step (w:=w) (c:=[]) (c':=[]) h rfl rfl rfl (by simp[grow]) ?_
 rintro F rfl - -
 exact ⟨fun b hb _=>heap_grow_old w os hb,[],rfl,List.nodup_nil,by simp⟩
theorem St.belowS {I:Hp} {w0 w w':World} {cs:List Ch} (h:St I w0 w cs) (hb:Below w.heap.size w w'):St I w0 w' cs:=by
 refine St.step (w:=w) (c:=[]) (c':=[]) h hb.os hb.tape hb.output hb.size ?_
 rintro F rfl - -
 exact ⟨fun b hb' _=>hb.block b hb',[],rfl,List.nodup_nil,by simp⟩
theorem TE (L:LaysM.n171 P ρ) (en:Enters P (ρ.f 171)):FOk P (ρ.f 171) ⟨[.rd (.int .i64)],[.str],fun n=>TC n,none⟩:=by
 refine ⟨fun q hq=>(by cases hq),fun _=>en,fun _ w0 J γ vs d r hlay ha tF=>?_⟩
 obtain ⟨v,vs1,rfl,⟨c1,l1,r1⟩,hnil⟩:=ha
 obtain rfl:vs1= []:=hnil
 obtain ⟨n0,un⟩:=d
 let n:Int:=n0
 obtain rfl:c1= [v]:=l1
 obtain rfl:v= .int .i64 n:=(List.cons.inj r1).1
 obtain ⟨u1,hc,hz⟩:=Option.bind_eq_some_iff.1 (show TC n=some r from tF)
 have hc:=bQ hc
 obtain rfl:=ad hz
 intro w C hst
 have hst:St J w0 w C:=hst
 refine (Any.strconv_Itoa L n hc.1 hc.2 w (hlay w hst.2.1).tab).mono ?_
 rintro e w' ⟨rfl,k,os,rfl⟩
 have hw:St J w0 (w.drewN k) C:=hst.drawn rfl rfl rfl rfl
 exact ⟨_,rfl,rfl,D.St.free (R:=D0) (c:=[.string _]) (St.grownS hw os) ⟨rfl,rfl⟩⟩
theorem TG (L:Lays.n156 P ρ) (X:Builder.Extra P ρ) (E:TypeId) (en:Enters P (ρ.f 156)):FOk P (ρ.f 156) ⟨[.rd (.sl E .str),.rd .str],[.str],fun xs s=>TA xs s,none⟩:=by
 refine ⟨fun q hq=>(by cases hq),fun _=>en,fun _ w0 J γ vs d r hlay ha tF=>?_⟩
 obtain ⟨v,vs1,rfl,⟨c1,l1,r1⟩,v2,vs2,rfl,⟨c2,l2,r2⟩,hnil⟩:=ha
 obtain rfl:vs2= []:=hnil
 obtain ⟨xs0,sep,un⟩:=d
 let xs:List ByteArray:=xs0
 obtain rfl:c1= [v]:=l1
 obtain rfl:c2= [v2]:=l2
 obtain rfl:v2= .string sep:=(List.cons.inj r2).1
 obtain ⟨u1,hc,hz⟩:=Option.bind_eq_some_iff.1 (show TA xs sep=some r from tF)
 have hc:=bQ hc
 obtain rfl:=ad hz
 obtain ⟨ao,cap,hv,⟨hl,hcap⟩,hx⟩:((af E D0).rd J [v] xs):=r1
 obtain rfl:=(List.cons.inj hv).1
 intro w C hst
 have hst:St J w0 w C:=hst
 rcases hx with hx | ⟨b,off,ccs,t,fr,rfl,h2,h4⟩
 ·have hx:xs= []:=hx
  rw[hx] at hc⊢
  refine (Any.strings_Join_none L X ao cap sep w).mono ?_
  rintro e w' ⟨rfl,rfl⟩
  refine ⟨_,rfl,rfl,?_⟩
  exact D.St.free (R:=D0) (c:=[.string _]) hst ⟨rfl,rfl⟩
 ·have hg:=hst.2.1 _ _ h2
  have hblk:b<w.heap.size:=(Array.getElem?_eq_some_iff.1 hg).1
  refine (Any.strings_Join L X b off cap xs sep w (fun j x hj=>?_) hblk hc.1 hcap hc.2).mono ?_
  ·obtain ⟨c,e1,e2,e3⟩:=h4 j x hj
   obtain rfl:c= [.string x]:=e3
   have:=e2 0 Nat.one_pos
   have e:off+j*D0.size+0=off+j:=by show off+j*1+0=_;omega
   rw[e] at this
   unfold World.cell?
   have hg:w.heap[b]? =some (.cells ccs t fr):=hg
   simp only[hg]
   rw[<-Array.getElem?_toList,this]
   rfl
  ·rintro e w' ⟨rfl,hb⟩
   exact ⟨_,rfl,rfl,D.St.free (R:=D0) (c:=[.string _]) (St.belowS hst hb) ⟨rfl,rfl⟩⟩
end
end R
namespace D
open Go.RowKit Go.Shelf
theorem XU {I:Hp} {w0 w:World} {cs:List Ch} {α:Type} {E:TypeId} {enc:α->Value} {h1: ∀a,(enc a).oneCell'=true} {b:Nat} {xs:List α} (hl:xs.length<=lim) (h:St I w0 w (Ch.blk b (xs.map enc) E::cs)):St I w0 w (Ch.own (af E (lr α enc h1)) [.slice (some ⟨b,0,none⟩) xs.length xs.length] xs::cs):=by
 obtain ⟨hb,hi,F,⟨G,K,rfl,⟨rfl,hg⟩,e⟩,h4,h5⟩:=h
 refine ⟨hb,hi,[b] ++K,⟨[b],K,rfl,⟨hl,.inr ⟨b,0,xs.length,_,[],rfl,hg,aF _,hl,?_,rfl,?_⟩⟩,e⟩,h4,h5⟩
 ·show 0+xs.length*1<=_
  simp
 ·refine jZ.2 ⟨rfl,[],?_⟩
  simp
end D
namespace R
open Go.RowKit Go.Shelf Go.Sort
open D
def Le (s sep:ByteArray):Option (List ByteArray):=(chk (s.size<4294967281/\1<=sep.size)).bind fun _=>some (Lib.splitB sep 0 (Lib.countB s sep) s)
def ZQ (s sep:ByteArray):Option (ByteArray×ByteArray×Bool):=(chk (s.size<4294967281)).bind fun _=>some (⟨(Lib.cut s.data.toList sep.data.toList).1.toArray⟩,⟨(Lib.cut s.data.toList sep.data.toList).2.1.toArray⟩,(Lib.cut s.data.toList sep.data.toList).2.2)
def xy (s:ByteArray) (c:Int):Option Int:=some (Lib.indexByte s.data.toList c.toNat.toUInt8)
def sn (s:ByteArray):Option (Int×Bool):=
 if 10<s.size then some (0,false) else
 match Lib.atoi s.data.toList with
 | none=>some (0,false)
 | some n=>if (⟨(Lib.itoa n).toArray⟩:ByteArray)=s/\ -999999999<=n/\n<=999999999 then some (n,true) else some (0,false)
section
variable {P:Program} {ρ:Ren}
theorem PT (L:Lays.n146 P ρ) (hi9:(P.info? (ρ.t 9)).map (fun i=>(i.zero,i.size,i.bytes))=some (some (.string ByteArray.empty),1,16)) (m1:P.globalNamed "internal/bytealg.MaxLen" =some (ρ.g 1)) (en:Enters P (ρ.f 146)):FOk P (ρ.f 146) ⟨[.rd .str,.rd .str],[.sl (ρ.t 9) .str],fun s sep=>Le s sep,none⟩:=by
 refine ⟨fun q hq=>(by cases hq),fun _=>en,fun _ w0 J γ vs d r hlay ha tF=>?_⟩
 obtain ⟨v,vs1,rfl,⟨c1,l1,r1⟩,v2,vs2,rfl,⟨c2,l2,r2⟩,hnil⟩:=ha
 obtain rfl:vs2= []:=hnil
 obtain ⟨s0,sep0,un⟩:=d
 let s:ByteArray:=s0
 let sep:ByteArray:=sep0
 obtain rfl:c1= [v]:=l1
 obtain rfl:c2= [v2]:=l2
 obtain rfl:v= .string s:=(List.cons.inj r1).1
 obtain rfl:v2= .string sep:=(List.cons.inj r2).1
 obtain ⟨u1,hc,hz⟩:=Option.bind_eq_some_iff.1 (show Le s sep=some r from tF)
 have hc:=bQ hc
 obtain rfl:=ad hz
 intro w C hst
 have hst:St J w0 w C:=hst
 obtain ⟨g,m,hg,hm⟩:=(hlay w hst.2.1).len
 obtain rfl:=ad (m1.symm.trans hg)
 refine (Any.strings_Split L hi9 s sep m w hc.1 hm hc.2).mono ?_
 rintro e w' ⟨rfl,rfl⟩
 refine ⟨_,rfl,rfl,?_⟩
 have hlen:(Lib.splitB sep 0 (Lib.countB s sep) s).length=Lib.countB s sep+1:=Lib.splitB_all sep hc.2 0 _ s rfl
 have hle:=Lib.countB_le sep hc.2 s.size s (aF _)
 have h3:=D.XU (E:=ρ.t 9) (enc:=Value.string) (h1:=fun _=>rfl) (b:=w.heap.size) (xs:=Lib.splitB sep 0 (Lib.countB s sep) s) (by rw[hlen];have:lim=9223372036854775807:=rfl;omega) (hst.alloc _ _)
 rw[hlen] at h3
 exact h3
theorem XV (L:Lays.n145 P ρ) (m1:P.globalNamed "internal/bytealg.MaxLen" =some (ρ.g 1)) (en:Enters P (ρ.f 145)):FOk P (ρ.f 145) ⟨[.rd .str,.rd .str],[.str,.str,.bool],fun s sep=>ZQ s sep,none⟩:=by
 refine ⟨fun q hq=>(by cases hq),fun _=>en,fun _ w0 J γ vs d r hlay ha tF=>?_⟩
 obtain ⟨v,vs1,rfl,⟨c1,l1,r1⟩,v2,vs2,rfl,⟨c2,l2,r2⟩,hnil⟩:=ha
 obtain rfl:vs2= []:=hnil
 obtain ⟨s0,sep0,un⟩:=d
 let s:ByteArray:=s0
 let sep:ByteArray:=sep0
 obtain rfl:c1= [v]:=l1
 obtain rfl:c2= [v2]:=l2
 obtain rfl:v= .string s:=(List.cons.inj r1).1
 obtain rfl:v2= .string sep:=(List.cons.inj r2).1
 obtain ⟨u1,hc,hz⟩:=Option.bind_eq_some_iff.1 (show ZQ s sep=some r from tF)
 have hc:=bQ hc
 obtain rfl:=ad hz
 intro w C hst
 have hst:St J w0 w C:=hst
 obtain ⟨g,m,hg,hm⟩:=(hlay w hst.2.1).len
 obtain rfl:=ad (m1.symm.trans hg)
 refine (Any.strings_Cut L s sep m w hc hm).mono ?_
 rintro e w' ⟨rfl,n,rfl⟩
 refine ⟨_,rfl,⟨_,rfl,rfl,fun i t ht=>?_⟩,?_⟩
 ·rcases i with _ | _ | _ | i
  all_goals first | (obtain rfl:=ad ht;rfl) | cases ht
 ·have hw:St J w0 (w.drewN n) C:=hst.drawn rfl rfl rfl rfl
  exact D.St.free (R:=D0) (c:=[.string _]) (D.St.free (R:=D0) (c:=[.string _]) (D.St.free (R:=oJ) (c:=[.bool _]) hw ⟨rfl,rfl⟩) ⟨rfl,rfl⟩) ⟨rfl,rfl⟩
theorem EN (L:Lays.n137 P ρ) (en:Enters P (ρ.f 137)):FOk P (ρ.f 137) ⟨[.rd .str,.rd (.int .u8)],[.int .i64],fun s c=>xy s c,none⟩:=by
 refine ⟨fun q hq=>(by cases hq),fun _=>en,fun _ w0 J γ vs d r hlay ha tF=>?_⟩
 obtain ⟨v,vs1,rfl,⟨c1,l1,r1⟩,v2,vs2,rfl,⟨c2,l2,r2⟩,hnil⟩:=ha
 obtain rfl:vs2= []:=hnil
 obtain ⟨s0,c0,un⟩:=d
 let s:ByteArray:=s0
 let c:Int:=c0
 obtain rfl:c1= [v]:=l1
 obtain rfl:c2= [v2]:=l2
 obtain rfl:v= .string s:=(List.cons.inj r1).1
 obtain rfl:v2= .int .u8 c:=(List.cons.inj r2).1
 obtain rfl:=ad (show xy s c=some r from tF)
 intro w C hst
 have hst:St J w0 w C:=hst
 refine (Any.strings_IndexByte L s c w).mono ?_
 rintro e w' ⟨rfl,rfl⟩
 exact ⟨_,rfl,rfl,D.St.free (R:=a7) (c:=[.int .i64 _]) hst ⟨rfl,rfl⟩⟩
theorem XW {α:Type} {E:TypeId} {R:Rep α} {I:Hp} {w0 w:World} {v:List Value} {xs:List α} {C:List Ch} (h:St I w0 w (Ch.own (af E R) v xs::C)):St I w0 w (Ch.own (af E (D9 R)) v xs::C):=by
 obtain ⟨hb,hi,F,⟨G,K,rfl,⟨hl,e2⟩,e3⟩,h4,h5⟩:=h
 rcases e2 with ⟨rfl,rfl,rfl⟩ | ⟨g,ofs,cap,cur,K1,hv,k1,k2,k3,k4,k6,k5⟩
 ·exact ⟨hb,hi,_,⟨_,K,rfl,⟨hl,.inl ⟨rfl,rfl,rfl⟩⟩,e3⟩,h4,h5⟩
 ·exact ⟨hb,hi,_,⟨_,K,rfl,⟨hl,.inr ⟨g,ofs,cap,cur,K1,hv,k1,k2,k3,k4,k6,OwnEls.turn (R:=R) (S:=D9 R) rfl (fun c x G hx=>NN hx) k5⟩⟩,e3⟩,h4,h5⟩
theorem Lf {P:Program} {k:FuncId} {ps:List PM} {A B t:Ty} {E:TypeId} {m:curP ps (Option (dens ([A,.sl E t,B] ++outs ps)))} (h:FOk P k ⟨ps,[A,.sl E t,B],m,none⟩):FOk P k ⟨ps,[A,.sl E (.bag t),B],m,none⟩:=by
 refine ⟨fun q hq=>(by cases hq),fun hq=>h.en hq,fun _ w0 J γ vs d r hlay ha tF=>?_⟩
 refine (h.con rfl w0 J γ vs d r hlay ha tF).imp (fun v hv=>?_) (fun v _ w C hs=>?_)
 ·obtain ⟨us,rfl,h1,h2⟩:=hv
  refine ⟨us,rfl,h1,fun i u hu=>?_⟩
  rcases i with _ | _ | _ | i
  ·obtain rfl:=ad hu;exact h2 0 _ rfl
  ·obtain rfl:=ad hu;exact h2 1 (.sl E t) rfl
  ·obtain rfl:=ad hu;exact h2 2 _ rfl
  ·cases hu
 ·exact ((XW (hs.perm (List.Perm.swap ..))).perm (List.Perm.swap ..))
theorem PU {k:FuncId} {m:ByteArray->Option (Int×Bool)} (en:Enters P k) (h: ∀s r w,m s=some r->LayW P w->Calls P k #[.string s] w fun e w'=>e= .returned (.tuple #[.int .i64 r.1,.bool r.2])/\Below w.heap.size w w'):FOk P k ⟨[.rd .str],[.int .i64,.bool],fun s=>m s,none⟩:=by
 refine ⟨fun q hq=>(by cases hq),fun _=>en,fun _ w0 J γ vs d r hlay ha tF=>?_⟩
 obtain ⟨v,vs1,rfl,⟨c1,l1,r1⟩,hnil⟩:=ha
 obtain rfl:vs1= []:=hnil
 obtain ⟨s0,un⟩:=d
 let s:ByteArray:=s0
 obtain rfl:c1= [v]:=l1
 obtain rfl:v= .string s:=(List.cons.inj r1).1
 intro w C hst
 have hst:St J w0 w C:=hst
 refine (h s r w tF (hlay w hst.2.1)).mono ?_
 rintro e w' ⟨rfl,hb⟩
 refine ⟨_,rfl,⟨_,rfl,rfl,fun i t ht=>?_⟩,?_⟩
 ·rcases i with _ | _ | i
  all_goals first | (obtain rfl:=ad ht;rfl) | cases ht
 ·exact D.St.free (R:=a7) (c:=[.int .i64 _]) (D.St.free (R:=oJ) (c:=[.bool _]) (St.belowS hst hb) ⟨rfl,rfl⟩) ⟨rfl,rfl⟩
end
end R
end Go.Proofs.YtfkokkokjgjkgaaGreatDoor
