/- FnMessages: for every input the law returns true and changes nothing that was there. Part 5 of 9. -/
import Derived.Test.YtncnbjfngmhfaaaGreatDoorAC3
set_option synthInstance.maxSize 20000
set_option synthInstance.maxHeartbeats 2000000
set_option linter.unusedVariables false
set_option linter.unusedSimpArgs false
set_option linter.unnecessarySimpa false
set_option linter.unusedSectionVars false
set_option maxRecDepth 1000000
namespace Go.Proofs.YtncnbjfngmhfaaaGreatDoor
open Go.IntKind (i64)
namespace R
open Go.RowKit
open D
inductive Knd
 | num (k:IntKind) | boo | str
 | rd (E:TypeId) (t:Ty)
 | own (E:TypeId) (t:Ty)
 | map (d:MD)
 | tre (T E:TypeId) (t:Ty)
 | bx (T:TypeId) (k:IntKind)
def Knd.den:Knd->Type
 | .num _=>Int
 | .boo=>Bool
 | .str=>ByteArray
 | .rd _ t=>List t.den
 | .own _ t=>List t.den
 | .map d=>List (d.k.den×d.e.den)
 | .tre _ _ t=>Tr t.den
 | .bx _ _=>Int
def YL {a b:MD} (h:a=b) (m:List (a.k.den×a.e.den)):List (b.k.den×b.e.den):=h ▸ m
def GB (d:MD) (x:LV) (chs:List Ent):Option (List (d.k.den×d.e.den)×List Ent):=match x with
 | .own h=>(aaf h chs).bind fun r=>if h:MD.beq r.md d=true then some (YL (MD.beq_eq h) r.m,r.rest) else none
 | _=>none
theorem GC {d:MD} {x:LV} {chs:List Ent} {q:List (d.k.den×d.e.den)×List Ent} (h:GB d x chs=some q): ∃b a,x= .own b/\chs.Perm ((b,a,d.ck q.1)::q.2):=by
 unfold GB at h;split at h
 ·rename_i b;have ⟨r,c,h⟩:=bind_some h;have hp:=Is c;have ⟨a,f,m,rest⟩:=r;split at h
  ·rename_i e;cases MD.beq_eq e;cases ae h;exact ⟨b,a,rfl,hp⟩
  grind
 grind
def J9 (T:TypeId) (k:IntKind) (x:LV) (chs:List Ent):Option (Int×List Ent):=match x with
 | .ptr h off=>bO (Nat.beq off 0) ((rf h chs).bind fun b=>bO (Nat.beq b.T T) (match b.cells with
  | [c] =>(Ed k c).bind fun d=>some (d,b.rest)
  | _=>none))
 | _=>none
theorem GD {T:TypeId} {k:IntKind} {x:LV} {chs:List Ent} {q:Int×List Ent} (h:J9 T k x chs=some q): ∃e a c,x= .ptr e 0/\Ed k c=some q.1/\chs.Perm ((e,a,.blk T [c])::q.2):=by
 cases x with
 | ptr e off =>
  have ⟨g,h⟩:=ai (show bO (Nat.beq off 0) _=some q from h);cases al g;have ⟨b,f,n⟩:=bind_some h;have ⟨l,m⟩:=ai n;have hp:=kA f;have ⟨a,i,cells,rest⟩:=b;obtain rfl:i=T:=al l
  match cells,m,hp with
  | [c],h,hp =>
   have ⟨d,o,j⟩:=bind_some (show (Ed k c).bind _=some q from h);cases ae j;exact ⟨e,a,c,rfl,o,hp⟩
  | [],h,_=>cases h
  | _::_::_,h,_=>cases h
 | _=>cases h
def Uq:List Knd->Type
 | [] =>Unit
 | [k] =>k.den
 | k::l::ks=>k.den×Uq (l::ks)
def rO:List Knd->Type
 | [] =>Unit
 | k::ks=>k.den×rO ks
def toN:(ks:List Knd)->Uq ks->rO ks
 | [],_=>()
 | [_],d=>(d,())
 | _::l::ks,d=>(d.1,toN (l::ks) d.2)
def ofN:(ks:List Knd)->rO ks->Uq ks
 | [],_=>()
 | [_],d=>d.1
 | _::l::ks,d=>(d.1,ofN (l::ks) d.2)
theorem qb: ∀(a:List Knd) (d:rO a),toN a (ofN a d)=d
 | [],_=>rfl
 | [_],_=>rfl
 | _::l::a,d=>congrArg (Prod.mk d.1) (qb (l::a) d.2)
def Ur (k:Knd) (x:LV) (chs:List Ent):Option (k.den×List Ent):=match k with
 | .num k=>(Ed k x).bind fun d=>some (d,chs)
 | .boo=>(C8 x).bind fun d=>some (d,chs)
 | .str=>(Lo x).bind fun d=>some (d,chs)
 | .rd E t=>(Rg E t x).bind fun d=>some (d,chs)
 | .own E t=>(wk E t x chs).bind fun q=>some (q.1,q.2.2)
 | .map d=>GB d x chs
 | .tre T E t=>(XQ T E t x).bind fun d=>some (d,chs)
 | .bx T k=>J9 T k x chs
def aah (id:Nat):(k:Knd)->k.den->LV
 | .num k,d=>.val (.int k d)
 | .boo,d=>.val (.bool d)
 | .str,d=>.val (.string d)
 | .rd E t,d=>.rd ⟨id,[]⟩ (.sl E t) d
 | .own _ _,_=>.own ⟨id,[]⟩
 | .map _,_=>.own ⟨id,[]⟩
 | .tre T E t,d=>.rd ⟨id,[]⟩ (.tree T E t) d
 | .bx _ _,_=>.ptr ⟨id,[]⟩ 0
def XT (id ver:Nat):(k:Knd)->k.den->List Ent
 | .own E t,d=>[(⟨id,[]⟩,ver,.own (.sl E t) d)]
 | .map md,d=>[(⟨id,[]⟩,ver,md.ck d)]
 | .bx T k,d=>[(⟨id,[]⟩,ver,.blk T [.val (.int k d)])]
 | _,_=>[]
def Cy:(ks:List Knd)->List LV->List Ent->Option (rO ks×List Ent)
 | [],[],chs=>some ((),chs)
 | k::ks,x::xs,chs=>(Ur k x chs).bind fun q=>(Cy ks xs q.2).bind fun r=>some ((q.1,r.1),r.2)
 | _,_,_=>none
def EH (id:Nat):(ks:List Knd)->rO ks->List LV
 | [],_=>[]
 | k::ks,d=>aah id k d.1::EH (id+1) ks d.2
def EI (id ver:Nat):(ks:List Knd)->rO ks->List Ent
 | [],_=>[]
 | k::ks,d=>XT id ver k d.1++EI (id+1) ver ks d.2
section
variable {P:Program} {w0 w:World} {J:Hp} {θ:Th} {n:Nat} {C:List Ch}
theorem St.bun {ls:List Ch} {α:Type} {R:Rep α} {cs:List Value} {x:α} (h:St J w0 w (ls++C)) (b:Bun J ls R cs x):St J w0 w (Ch.own R cs x::C):=by
 have ⟨f,e,F,g,c,i⟩:=h;obtain ⟨G,K,rfl,a,d⟩:=g.split;exact ⟨f,e,G++K,⟨G,K,rfl,b w G a,d⟩,c,i⟩
theorem Se {α:Type} {R:Rep α} {u:Value} {x:α} (h:St J w0 w (Ch.own R [u] x::C)):u.oneCell'=true:=by
 obtain ⟨c,b,F,⟨G,K,rfl,k,e⟩,a,d⟩:=h;exact R.own_one k u (by simp)
theorem WA {k:Knd} {x:LV} {chs:List Ent} {q:k.den×List Ent} (h:Ur k x chs=some q) (A:x.ok P w0 J θ n) (f:St J w0 w (chs.map (toCh P θ)++C)) {θ':Th} {id ver m:Nat} (u:θ' id=x.v θ) (l:id<m) :
  (aah id k q.1).ok P w0 J θ' m/\(aah id k q.1).v θ'=x.v θ/\St J w0 w ((XT id ver k q.1).map (toCh P θ')++(q.2.map (toCh P θ)++C))/\ ∀e∈q.2,e∈chs:=by
 have j:hv θ' ⟨id,[]⟩=x.v θ:=u;cases k with
 | num k =>
  have ⟨d,g,h⟩:=bind_some (show (Ed k x).bind _=some q from h);cases ae h;exact ⟨Eq.refl true,(Ee g θ).symm,f,fun e a=>a⟩
 | boo =>
  have ⟨d,g,h⟩:=bind_some (show (C8 x).bind _=some q from h);cases ae h;exact ⟨Eq.refl true,(FV g θ).symm,f,fun e a=>a⟩
 | str =>
  have ⟨d,g,h⟩:=bind_some (show (Lo x).bind _=some q from h);cases ae h;exact ⟨Eq.refl true,(JD g θ).symm,f,fun e a=>a⟩
 | rd E t =>
  have ⟨d,g,h⟩:=bind_some (show (Rg E t x).bind _=some q from h);cases ae h;refine ⟨⟨l,?_⟩,j,f,fun e a=>a⟩;grind[Au]
 | tre T E t =>
  have ⟨d,g,h⟩:=bind_some (show (XQ T E t x).bind _=some q from h);cases ae h;refine ⟨⟨l,?_⟩,j,f,fun e a=>a⟩;grind[H4]
 | own E t =>
  have ⟨r,y,h⟩:=bind_some (show (wk E t x chs).bind _=some q from h);cases ae h;have ⟨p,v⟩:=Ax y P J θ;have o:St J w0 w (Ch.own (Ty.sl E t).rep [x.v θ] r.1::(r.2.2.map (toCh P θ)++C)):=by
   refine St.bun ?_ v
   have:=f.perm ((p.map (toCh P θ)).append_right C)
   grind
  refine ⟨⟨l,by grind[Se]⟩,j,?_,fun e a=>p.mem_iff.2 (by grind)⟩;show St J w0 w (Ch.own _ [hv θ' ⟨id,[]⟩] _::_);simp_all
 | map d =>
  obtain ⟨i,b,rfl,p⟩:=GC (show GB d x chs=some q from h);have o:St J w0 w (toCh P θ (i,b,d.ck q.1)::(q.2.map (toCh P θ)++C)):=by
   have:=f.perm ((p.map (toCh P θ)).append_right C)
   exact this
  have s:hv θ i=LV.v θ (.own i):=rfl;have B:St J w0 w (@Ch.mp P d.K d.E d.k.den d.e.den d.k.dec d.k.lit d.k.ok d.e.lit d.e.z (hv θ i) (show List (d.k.den×d.e.den) from q.1)::(q.2.map (toCh P θ)++C)):=o;refine ⟨⟨l,by rw[j];exact A.2⟩,j,?_,fun e a=>p.mem_iff.2 (by grind)⟩;show St J w0 w (@Ch.mp P d.K d.E d.k.den d.e.den d.k.dec d.k.lit d.k.ok d.e.lit d.e.z (hv θ' ⟨id,[]⟩) (show List (d.k.den×d.e.den) from q.1)::_);simp_all
 | bx T k =>
  obtain ⟨i,b,c,rfl,z,p⟩:=GD (show J9 T k x chs=some q from h);have o:=f.perm ((p.map (toCh P θ)).append_right C);have s:bk (hv θ' ⟨id,[]⟩)=bk (hv θ i):=by rw[j];rfl
  refine ⟨l,?_,?_,fun e a=>p.mem_iff.2 (by grind)⟩
  ·show Value.pointer (some ⟨bk (hv θ' ⟨id,[]⟩),0,none⟩)=_;rw[s];rfl
  ·show St J w0 w (Ch.blk (bk (hv θ' ⟨id,[]⟩)) [.int k _] T::_);rw[s,<-Ee z θ];exact o
theorem zV: ∀ {c:List Knd} {xs:List LV} {chs:List Ent} {q:rO c×List Ent} {id ver:Nat} {C:List Ch},Cy c xs chs=some q->(∀x∈xs,x.ok P w0 J θ n)->St J w0 w (chs.map (toCh P θ)++C)-> ∀ {θ':Th} {m:Nat},(∀i x,xs[i]? =some x->θ' (id+i)=x.v θ)->id+c.length<=m->
  (∀x∈EH id c q.1,x.ok P w0 J θ' m)/\(EH id c q.1).map (·.v θ')=xs.map (·.v θ)/\St J w0 w ((EI id ver c q.1).map (toCh P θ')++(q.2.map (toCh P θ)++C))/\ ∀e∈q.2,e∈chs
 | [],[],chs,q,id,ver,C,h,_,hS,θ',m,_,_=>by
  cases ae (show some _=some q from h);exact ⟨fun x f=>(by cases f),rfl,hS,fun e g=>g⟩
 | k::c,x::xs,chs,q,id,ver,C,h,f,hS,θ',m,hid,hm=>by
  have ⟨a,r,h⟩:=bind_some (show (Ur k x chs).bind _=some q from h);have ⟨b,l,h⟩:=bind_some h;cases ae h;have j:id<m:=by rw[aH] at hm;omega
  have ⟨t,v,u,o⟩:=WA (ver:=ver) r (f x (by simp)) hS (θ':=θ') (id:=id) (m:=m) (hid 0 x rfl) j;have ⟨A,z,p,s⟩:=zV (id:=id+1) (ver:=ver) (C:=(XT id ver k a.1).map (toCh P θ')++C) l (fun y d=>f y (by grind)) (u.perm (List.perm_append_comm_assoc _ _ _)) (θ':=θ') (m:=m) (fun i y d=>by
   have:=hid (i+1) y d
   grind) (by grind)
  refine ⟨fun y d=>?_,?_,?_,fun e g=>o e (s e g)⟩
  ·rcases aA d with rfl | d
   ·exact t
   grind
  ·grind[LV.v,EH]
  ·refine p.perm ?_;grind[List.perm_append_comm_assoc,EI,toCh,XT,aC]
 | [],_::_,chs,q,id,ver,C,h,_,_,_,_,_,_=>by cases h
 | _::_,[],chs,q,id,ver,C,h,_,_,_,_,_,_=>by cases h
end
inductive It
 | slot (t:Nat) (k:Knd)
 | box (t:Nat) (ks:List Knd)
 | row (t:Nat) (E:TypeId) (u:Ty)
 | agg (t:Nat) (ks:List Knd)
 | par (i:Nat) (p:List Nat) (E:TypeId) (u:Ty)
 | gone (t:Nat)
 | cur (t:Nat)
 | pbx (i:Nat) (ks:List Knd)
def It.s (t:Nat):It:=.slot t (.num .i64)
inductive RIt
 | slot (t:Nat) (k:Knd)
 | box (h:Hdr) (T:TypeId) (ks:List Knd)
 | row (h:Hdr) (E:TypeId) (u:Ty)
 | agg (t:Nat) (k:Knd) (ks:List Knd)
 | cur (h:Hdr) (T:TypeId) (g:Hdr) (E:TypeId) (xs:List Int)
def RIt.ks:RIt->List Knd
 | .slot _ k=>[k]
 | .box _ _ ks=>ks
 | .row _ E u=>[.own E u]
 | .agg _ k ks=>k::ks
 | .cur _ _ _ _ _=>[.num .i64,.num .i64]
def sj:List RIt->List Knd
 | [] =>[]
 | r::rs=>r.ks++sj rs
def QQ:Option AV->Option Hdr
 | some (.one (.ptr h off))=>if Nat.beq off 0 then some h else none
 | _=>none
def YM:Option AV->Option Hdr
 | some (.one (.own h))=>some h
 | _=>none
theorem WB {v:Option AV} {h:Hdr} (k:YM v=some h):v=some (.one (.own h)):=by
 unfold YM at k;grind
def YN (h:Hdr) (chs:List Ent):Option (Hdr×TypeId×TypeId×List Int):=(pull h chs).bind fun r=>match r.1.2.2 with
 | .blk T [.rd g (.sl E (.int .u8)) xs,_,_] =>some (g,T,E,xs)
 | _=>none
theorem Ka {h g:Hdr} {T E:TypeId} {xs:List Int} {chs:List Ent} (k:YN h chs=some (g,T,E,xs)): ∃ver a b,(h,ver,Chk.blk T [.rd g (.sl E (.int .u8)) xs,a,b])∈chs:=by
 have ⟨r,c,d⟩:=bind_some k;have ⟨p,e⟩:=gi c;grind
def resolve (s:Sg):It->Option RIt
 | .slot t k=>some (.slot t k)
 | .box t ks=>(QQ (look s.env t)).bind fun h=>(rf h s.chs).bind fun b=>some (.box h b.T ks)
 | .row t E u=>(YM (look s.env t)).bind fun h=>some (.row h E u)
 | .agg t ks=>match ks with
  | k::ks=>some (.agg t k ks)
  | [] =>none
 | .par i p E u=>bO (Nat.blt i s.nxt) (some (.row ⟨i,p⟩ E u))
 | .gone _=>none
 | .pbx i ks=>(rf ⟨i,[]⟩ s.chs).bind fun b=>some (.box ⟨i,[]⟩ b.T ks)
 | .cur t=>(QQ (look s.env t)).bind fun h=>(YN h s.chs).bind fun q=>some (.cur h q.2.1 q.1 q.2.2.1 q.2.2.2)
def zW (s:Sg):List It->Option (List RIt)
 | [] =>some []
 | i::is=>(resolve s i).bind fun r=>(zW s is).bind fun rs=>some (r::rs)
def oneOf:Option AV->Option LV
 | some (.one x)=>some x
 | _=>none
theorem Sf {v:Option AV} {x:LV} (h:oneOf v=some x):v=some (.one x):=by
 unfold oneOf at h;grind
def OO:Option AV->Option (List LV)
 | some (.agg xs)=>some xs
 | _=>none
theorem Si {v:Option AV} {x:List LV} (h:OO v=some x):v=some (.agg x):=by
 unfold OO at h;grind
def Sj (env:List (Nat×Nat×AV)) (chs:List Ent):(r:RIt)->Option (rO r.ks×List Ent)
 | .slot t k=>(oneOf (look env t)).bind fun x=>Cy [k] [x] chs
 | .box h T ks=>(rf h chs).bind fun b=>bO (Nat.beq b.T T) (Cy ks b.cells b.rest)
 | .row h E u=>Cy [.own E u] [.own h] chs
 | .agg t k ks=>(OO (look env t)).bind fun xs=>Cy (k::ks) xs chs
 | .cur h T g E _=>(vk h T E chs).bind fun q=>bO (Hdr.beq q.g g) (some ((q.d.2.1,q.d.2.2,()),q.rest))
def Sk:(ks ls:List Knd)->rO ks->rO ls->rO (ks++ls)
 | [],_,_,e=>e
 | _::ks,ls,d,e=>(d.1,Sk ks ls d.2 e)
def Us:(ks ls:List Knd)->rO (ks++ls)->rO ks
 | [],_,_=>()
 | _::ks,ls,d=>(d.1,Us ks ls d.2)
def WC:(ks ls:List Knd)->rO (ks++ls)->rO ls
 | [],_,d=>d
 | _::ks,ls,d=>WC ks ls d.2
theorem Iv: ∀(a ls:List Knd) (d:rO a) (e:rO ls),Us a ls (Sk a ls d e)=d
 | [],_,_,_=>rfl
 | _::a,ls,d,e=>congrArg (Prod.mk d.1) (Iv a ls d.2 e)
theorem Iw: ∀(a ls:List Knd) (d:rO a) (e:rO ls),WC a ls (Sk a ls d e)=e
 | [],_,_,_=>rfl
 | _::a,ls,d,e=>Iw a ls d.2 e
def WD (env:List (Nat×Nat×AV)):(rs:List RIt)->List Ent->Option (rO (sj rs)×List Ent)
 | [],chs=>some ((),chs)
 | r::rs,chs=>(Sj env chs r).bind fun q=>(WD env rs q.2).bind fun p=>some (Sk r.ks (sj rs) q.1 p.1,p.2)
def XU (id:Nat):(r:RIt)->rO r.ks->List (Nat×Nat×AV)
 | .slot t k,d=>[(t,id,.one (aah id k d.1))]
 | .agg t k ks,d=>[(t,id,.agg (EH id (k::ks) d))]
 | _,_=>[]
def XV (id ver:Nat):(r:RIt)->rO r.ks->List Ent
 | .slot _ k,d=>EI id ver [k] d
 | .agg _ k ks,d=>EI id ver (k::ks) d
 | .box h T ks,d=>(h,ver,.blk T (EH id ks d))::EI id ver ks d
 | .row h E u,d=>[(h,ver,.own (.sl E u) d.1)]
 | .cur h T g E xs,d=>[(h,ver,.blk T [.rd g (.sl E (.int .u8)) xs,.val (.int .i64 d.1),.val (.int .i64 d.2.1)])]
def Cz:(id:Nat)->(rs:List RIt)->rO (sj rs)->List (Nat×Nat×AV)
 | _,[],_=>[]
 | id,r::rs,d=>XU id r (Us r.ks (sj rs) d)++Cz (id+r.ks.length) rs (WC r.ks (sj rs) d)
def xU (ver:Nat):(id:Nat)->(rs:List RIt)->rO (sj rs)->List Ent
 | _,[],_=>[]
 | id,r::rs,d=>XV id ver r (Us r.ks (sj rs) d)++xU ver (id+r.ks.length) rs (WC r.ks (sj rs) d)
structure Cut where
 nxt:Nat
 its:List RIt
 env:List (Nat×Nat×AV)
 chs:List Ent
def Cut.top (c:Cut):Nat:=c.nxt+(sj c.its).length
def Cut.at (c:Cut) (d:rO (sj c.its)):Sg:=⟨Cz c.nxt c.its d++c.env,xU c.top c.nxt c.its d++c.chs,c.top+1⟩
def aaU (t:Nat):List Nat->Bool
 | [] =>false
 | u::l=>Nat.beq u t || aaU t l
def LX (l:List (Nat×Nat×AV)) (t:Nat):Option Nat:=match l with
 | [] =>none
 | (u,k,_)::l=>if Nat.beq u t then some k else LX l t
def zX (env:List (Nat×Nat×AV)):List (Nat×Nat×AV)->Bool
 | [] =>true
 | e::l=>(match LX env e.1 with | some v=>Nat.beq v e.2.1 | none=>false)&&zX env l
def Ix:List Ent->List Ent->Option (List Ent)
 | [],chs=>some chs
 | e::l,chs=>(pull e.1 chs).bind fun r=>bO (Nat.beq r.1.2.1 e.2.1) (Ix l r.2)
def distinctH:List Ent->Bool
 | [] =>true
 | e::l=>Cw e.1 l&&distinctH l
def YO:Option AV->List Hdr
 | some (.one (.ptr h _))=>[h]
 | _=>[]
def qc (s:Sg):List RIt->List Hdr
 | [] =>[]
 | .slot t (.bx _ _)::rs=>YO (look s.env t)++qc s rs
 | .slot t _::rs=>(match look s.env t with | some v=>AW v | none=>[])++qc s rs
 | .box h _ _::rs=>(match rf h s.chs with | some b=>AW (.agg b.cells) | none=>[])++qc s rs
 | .row h _ _::rs=>h::qc s rs
 | .cur _ _ _ _ _::rs=>qc s rs
 | .agg t _ _::rs=>(match look s.env t with | some v=>AW v | none=>[])++qc s rs
def AX:List Ent->List Hdr
 | [] =>[]
 | (h,_,.own _ _)::l=>h::AX l
 | _::l=>AX l
def Cut.of (c:Cut) (s0:Sg):Option (rO (sj c.its)):=match wD (AX c.chs) (wD (qc s0 c.its) s0) with
 | s=>(WD s.env c.its s.chs).bind fun q=>(Ix c.chs q.2).bind fun _=>bO (zX s.env c.env) (some q.1)
def RIt.hdrs:RIt->List Hdr
 | .slot _ _=>[]
 | .box h _ _=>[h]
 | .row h _ _=>[h]
 | .agg _ _ _=>[]
 | .cur h _ g _ _=>[h,g]
def hdrsR:List RIt->List Hdr
 | [] =>[]
 | r::rs=>r.hdrs++hdrsR rs
def GE:List (Nat×Nat×AV)->List Nat->List (Nat×Nat×AV)
 | [],_=>[]
 | e::l,seen=>match aaU e.1 seen with
  | true=>GE l seen
  | false=>e::GE l (e.1::seen)
theorem tP: ∀ {l:List (Nat×Nat×AV)} {seen:List Nat},(GE l seen).Sublist l
 | [],_=>List.Sublist.refl _
 | e::l,seen=>by
  unfold GE;split
  ·exact tP.cons _
  ·exact tP.cons_cons _
def WE:List It->List It
 | [] =>[]
 | .gone _::is=>WE is
 | i::is=>i::WE is
def WG (s:Sg):List It->List Hdr
 | [] =>[]
 | .gone t::is=>(match look s.env t with
  | some (.one (.ptr h _))=>match rf h s.chs with | some b=>AW (.agg b.cells) | none=>[]
  | some v=>AW v
  | none=>[])++WG s is
 | _::is=>WG s is
def AY (ks:List Nat) (is:List It) (s:Sg):Option Cut:=(zW s (WE is)).bind fun rs=>bO (distinctH s.chs) (some ⟨s.nxt,rs,GE (s.env.filter fun e=> !aaU e.1 ks) [],s.chs.filter fun e=> !abI e.1 (WG s is++(qc s rs++hdrsR rs))⟩)
theorem WH {P:Program} {w0:World} {J:Hp} {θ:Th} {m id ver:Nat} {chs:List Ent} {k:Knd} {d:k.den} (h1:id<m) (b:ver<m): ∀e∈XT id ver k d,okE P w0 J θ m chs e:=by
 cases k with
 | own E t=>intro e a;cases ak a;exact ⟨h1,b,trivial⟩
 | map md=>intro e a;cases ak a;exact ⟨h1,b,trivial⟩
 | bx T k=>intro e a;cases ak a;exact ⟨h1,b,fun x c=>by cases ak c;rfl⟩
 | _=>intro e a;cases a
theorem zY {P:Program} {w0:World} {J:Hp} {θ:Th} {m ver:Nat} {chs:List Ent} (c:ver<m): ∀ {b:List Knd} {id:Nat} {d:rO b},id+b.length<=m-> ∀e∈EI id ver b d,okE P w0 J θ m chs e
 | [],_,_,_=>fun e a=>by cases a
 | k::b,id,d,h1=>fun e a=>by
  rw[aH] at h1;rcases aG a with a | a
  ·exact WH (by omega) c e a
  ·exact zY c (by omega) e a
section
variable {P:Program} {w0 w:World} {J:Hp} {θ:Th} {n:Nat} {C:List Ch}
def RitOk (P:Program) (w0:World) (J:Hp) (θ:Th) (n:Nat):RIt->Prop
 | .cur _ _ g E xs=>LV.ok P w0 J θ n (.rd g (.sl E (.int .u8)) xs)
 | _=>True
def abO (P:Program) (w0 w:World) (J:Hp) (θ:Th) (env:List (Nat×Nat×AV)) (chs:List Ent) (hs:List Hdr) (len:Nat) (rest:List Ent) (E:Nat->List (Nat×Nat×AV)) (N:Nat->Nat->List Ent):Prop:=
 ∃vals:List Value,vals.length=len/\ ∀(θ':Th) (id ver m:Nat),(∀i v,vals[i]? =some v->θ' (id+i)=v)->id+len<=m->ver<m->(∀h∈hs,hv θ' h=hv θ h/\h.id<m)-> ∀C,St J w0 w (chs.map (toCh P θ)++C)->
  (∀e∈E id,(∀chs',e.2.2.ok P w0 J θ' m chs')/\ ∃x,look env e.1=some x/\e.2.2.v θ'=x.v θ)/\(∀chs',∀e∈N id ver,okE P w0 J θ' m chs' e)/\St J w0 w ((N id ver).map (toCh P θ')++(rest.map (toCh P θ)++C))
theorem Sl {env:List (Nat×Nat×AV)} {chs chs0:List Ent} {r:RIt} {q:rO r.ks×List Ent} (h:Sj env chs r=some q) (I: ∀e∈env,e.2.2.ok P w0 J θ n chs0) (L: ∀e∈chs,okE P w0 J θ n chs0 e) {n1:Nat} (V:RitOk P w0 J θ n1 r) :
  abO P w0 w J θ env chs r.hdrs r.ks.length q.2 (fun id=>XU id r q.1) (fun id ver=>XV id ver r q.1):=by
 cases r with
 | slot t k =>
  have ⟨x,G,h⟩:=bind_some (show (oneOf (look env t)).bind _=some q from h);have G:=Sf G
  ·have S:x.ok P w0 J θ n:=by
    have ⟨e,d,K⟩:=tK G
    have:=I e d
    rw[K] at this;exact this
   refine ⟨[x.v θ],rfl,fun θ' id ver m s F f A C H=>?_⟩;have ⟨O,X,N,k4⟩:=zV (ver:=ver) (C:=C) (id:=id) (θ':=θ') (m:=m) h (fun y W=>by cases ak W;omega) H (fun i y W=>by
    cases i with
    | zero=>simp at W;rw[<-W];exact s 0 _ rfl
    | succ i=>grind) F
   refine ⟨fun e d=>?_,fun l=>zY f F,N⟩;cases ak d;exact ⟨fun l=>O _ (by simp[EH]),_,G,(List.cons.inj (show _::_=_::_ from X)).1⟩
 | box A T o =>
  have ⟨b,M,h⟩:=bind_some (show (rf A chs).bind _=some q from h);have ⟨hT,h⟩:=ai h;have hT:=al hT;have hp:=kA M;have hbk:=L (b.ent A) (hp.mem_iff.2 (by simp));have D: ∀ {o:List Knd} {j:List LV} {chs:List Ent} {q:rO o×List Ent},Cy o j chs=some q->j.length=o.length:=by
   intro o;induction o with
   | nil=>intro j chs q h;cases j with
    | nil=>rfl
    | cons _ _=>cases h
   | cons k o ih=>intro j chs q h;cases j with
    | nil=>cases h
    | cons x j =>
     have ⟨a,Q,h⟩:=bind_some (show (Ur k x chs).bind _=some q from h);have ⟨c,hc,h⟩:=bind_some h;grind
  have hl:=D h;have hvl:(b.cells.map (·.v θ)).length=o.length:=by rw[List.length_map];exact hl
  have U: ∀ {θ':Th} {id:Nat},(∀i v,(b.cells.map (·.v θ))[i]? =some v->θ' (id+i)=v)-> ∀i x,b.cells[i]? =some x->θ' (id+i)=x.v θ:=fun s i x G=>s i _ (by grind);refine ⟨b.cells.map (·.v θ),hvl,fun θ' id ver m s F f B C H=>?_⟩
  ·have Y:St J w0 w (b.rest.map (toCh P θ)++(Ch.blk (bk (hv θ A)) (b.cells.map (·.v θ)) b.T::C)):=by
    refine (H.perm ((hp.map (toCh P θ)).append_right C)).perm ?_;exact (List.perm_middle (l₁:=b.rest.map (toCh P θ)) (l₂:=C)).symm
   have ⟨O,X,N,k4⟩:=zV (ver:=ver) (id:=id) (θ':=θ') (m:=m) h hbk.2.2 Y (U s) F;have ⟨g1,g2⟩:=B A (by simp[RIt.hdrs]);refine ⟨fun e d=>(by cases d),fun l e d=>?_,?_⟩
   ·rcases aA d with rfl | d
    ·exact ⟨g2,f,O⟩
    ·exact zY f F e d
   ·show St J w0 w (Ch.blk (bk (hv θ' A)) ((EH id o q.1).map (·.v θ')) T::((EI id ver o q.1).map (toCh P θ')++(q.2.map (toCh P θ)++C)));refine N.perm ?_;grind[aC,List.perm_middle]
 | agg t k o =>
  have ⟨j,G,h⟩:=bind_some (show (OO (look env t)).bind _=some q from h);have G:=Si G;have S: ∀x∈j,x.ok P w0 J θ n:=by
   have ⟨e,d,K⟩:=tK G
   have:=I e d
   rw[K] at this;exact this
  have D: ∀ {o:List Knd} {j:List LV} {chs:List Ent} {q:rO o×List Ent},Cy o j chs=some q->j.length=o.length:=by
   intro o;induction o with
   | nil=>intro j chs q h;cases j with
    | nil=>rfl
    | cons _ _=>cases h
   | cons k o ih=>intro j chs q h;cases j with
    | nil=>cases h
    | cons x j =>
     have ⟨a,Q,h⟩:=bind_some (show (Ur k x chs).bind _=some q from h);have ⟨c,hc,h⟩:=bind_some h;grind
  refine ⟨j.map (·.v θ),by rw[List.length_map];exact D h,fun θ' id ver m s F f A C H=>?_⟩;have ⟨O,X,N,k4⟩:=zV (ver:=ver) (C:=C) (id:=id) (θ':=θ') (m:=m) h S H (fun i y W=>s i _ (by grind)) F;refine ⟨fun e d=>?_,fun l=>zY f F,N⟩;cases ak d;refine ⟨fun l=>O,_,G,?_⟩;show Value.agg ((EH id (k::o) q.1).map (·.v θ')).toArray=Value.agg (j.map (·.v θ)).toArray;rw[X]
 | row A E u =>
  have ⟨a,Q,h⟩:=bind_some (show (Ur (.own E u) (.own A) chs).bind _=some q from h);have ⟨c,hc,h⟩:=bind_some h;cases ae (show some ((),a.2)=some c from hc);cases ae h;have ⟨r,hr,Q⟩:=bind_some (show (wk E u (.own A) chs).bind _=some a from Q);cases ae Q;have ⟨p,M⟩:=Ax hr P J θ;refine ⟨[hv θ A],rfl,fun θ' id ver m s F f B C H=>?_⟩;have K:St J w0 w (Ch.own (Ty.sl E u).rep [hv θ A] r.1::(r.2.2.map (toCh P θ)++C)):=by
   refine St.bun ?_ M
   have:=H.perm ((p.map (toCh P θ)).append_right C)
   grind
  refine ⟨fun e d=>(by cases d),fun l e d=>?_,?_⟩
  ·cases ak d;exact ⟨(B A (by simp[RIt.hdrs])).2,f,trivial⟩
  ·show St J w0 w (Ch.own _ [hv θ' A] _::_);simp_all[RIt.hdrs]
 | cur A T g E j =>
  have ⟨b,M,h⟩:=bind_some (show (vk A T E chs).bind _=some q from h);have ⟨Z,h⟩:=ai h;cases ae h;have Z:=Hdr.beq_eq Z;have ⟨p,ver0,d⟩:=oB M;refine ⟨[.int .i64 b.d.2.1,.int .i64 b.d.2.2],rfl,fun θ' id ver m s F f B C H=>?_⟩;have ⟨g1,g2⟩:=B A (by simp[RIt.hdrs]);have ⟨g3,g4⟩:=B g (by simp[RIt.hdrs]);refine ⟨fun e d=>(by cases d),fun l e d=>?_,?_⟩
  ·cases ak d;refine ⟨g2,f,fun z R=>?_⟩;rcases aA R with rfl | R
   ·exact ⟨g4,by rw[g3];exact V.2⟩
   ·rcases aA R with rfl | R
    ·rfl
    ·cases ak R
     rfl
  ·show St J w0 w (Ch.blk (bk (hv θ' A)) [hv θ' g,.int .i64 b.d.2.1,.int .i64 b.d.2.2] T::(b.rest.map (toCh P θ)++C));have K:=H.perm ((p.map (toCh P θ)).append_right C);rw[List.map_cons,d] at K;rw[g1,g3,<-Z];exact K
theorem Sn {k:Knd} {x:LV} {chs:List Ent} {q:k.den×List Ent} (h:Ur k x chs=some q): ∀e∈q.2,e∈chs:=by
 cases k with
 | num k=>have ⟨d,b,h⟩:=bind_some (show (Ed k x).bind _=some q from h);grind
 | boo=>have ⟨d,b,h⟩:=bind_some (show (C8 x).bind _=some q from h);grind
 | str=>have ⟨d,b,h⟩:=bind_some (show (Lo x).bind _=some q from h);grind
 | rd E t=>have ⟨d,b,h⟩:=bind_some (show (Rg E t x).bind _=some q from h);grind
 | own E t =>
  have ⟨r,f,h⟩:=bind_some (show (wk E t x chs).bind _=some q from h);exact fun e i=>(Ay f).mem_iff.2 (by grind)
 | tre T E t=>have ⟨d,b,h⟩:=bind_some (show (XQ T E t x).bind _=some q from h);grind
 | map d =>
  obtain ⟨g,a,-,p⟩:=GC (show GB d x chs=some q from h);grind
 | bx T k =>
  obtain ⟨g,a,c,-,-,p⟩:=GD (show J9 T k x chs=some q from h);grind
theorem sJ: ∀ {c:List Knd} {xs:List LV} {chs:List Ent} {q:rO c×List Ent},Cy c xs chs=some q-> ∀e∈q.2,e∈chs
 | [],[],chs,q,h=>by cases ae (show some _=some q from h);grind
 | k::c,x::xs,chs,q,h=>by
  have ⟨a,f,h⟩:=bind_some (show (Ur k x chs).bind _=some q from h);have ⟨b,d,h⟩:=bind_some h;cases ae h;exact fun e g=>Sn f e (sJ d e g)
 | [],_::_,chs,q,h=>by cases h
 | _::_,[],chs,q,h=>by cases h
theorem OP {env:List (Nat×Nat×AV)} {chs:List Ent} {r:RIt} {q:rO r.ks×List Ent} (h:Sj env chs r=some q): ∀e∈q.2,e∈chs:=by
 cases r with
 | slot t k =>
  have ⟨x,d,h⟩:=bind_some (show (oneOf (look env t)).bind _=some q from h);exact sJ h
 | box hh T ks =>
  have ⟨b,a,h⟩:=bind_some (show (rf hh chs).bind _=some q from h);have ⟨i,h⟩:=ai h;exact fun e c=>(kA a).mem_iff.2 (bY _ (sJ h e c))
 | row hh E u=>exact sJ (show Cy [.own E u] [.own hh] chs=some q from h)
 | cur hh T g E xs =>
  have ⟨b,a,h⟩:=bind_some (show (vk hh T E chs).bind _=some q from h);have ⟨f,h⟩:=ai h;cases ae h;exact fun e c=>(oB a).1.mem_iff.2 (bY _ c)
 | agg t k ks =>
  have ⟨x,d,h⟩:=bind_some (show (OO (look env t)).bind _=some q from h);exact sJ h
theorem Kb {env:List (Nat×Nat×AV)} {chs0:List Ent} {n1:Nat} (g: ∀e∈env,e.2.2.ok P w0 J θ n chs0): ∀ {rs:List RIt} {chs:List Ent} {q:rO (sj rs)×List Ent},WD env rs chs=some q->(∀e∈chs,okE P w0 J θ n chs0 e)->(∀r∈rs,RitOk P w0 J θ n1 r)->
  (∀e∈q.2,e∈chs)/\abO P w0 w J θ env chs (hdrsR rs) (sj rs).length q.2 (fun id=>Cz id rs q.1) (fun id c=>xU c id rs q.1)
 | [],chs,q,h,_,_=>by
  cases ae (show some _=some q from h);exact ⟨fun e d=>d,[],rfl,fun θ' id c m _ _ _ _ C p=>⟨fun e d=>(by cases d),fun j e d=>(by cases d),p⟩⟩
 | r::rs,chs,q,h,hchs,hrit=>by
  have ⟨a,t,h⟩:=bind_some (show (Sj env chs r).bind _=some q from h);have ⟨b,z,h⟩:=bind_some h;cases ae h;have f:=OP t;have ⟨E,G,D⟩:=Sl (w:=w) t g hchs (hrit r (by simp));have ⟨A,I,y,H⟩:=Kb g z (fun e d=>hchs e (f e d)) fun x o=>hrit x (by grind);refine ⟨fun e d=>f e (A e d),E++I,by rw[az,G,y];exact (az ..).symm,fun θ' id c m l s k u C p=>?_⟩;have s:id+(r.ks.length+(sj rs).length)<=m:=by
   have:(sj (r::rs)).length=r.ks.length+(sj rs).length:=az ..
   rw[this] at s;exact s
  have ⟨Q,L,K⟩:=D θ' id c m (fun i v F=>l i v (by grind)) (by omega) k (fun x o=>u x (bm _ o)) C p;have ⟨O,M,B⟩:=H θ' (id+r.ks.length) c m (fun i v F=>by
   have:=l (r.ks.length+i) v (by grind)
   grind) (by omega) k (fun x o=>u x (bq _ o)) ((XV id c r a.1).map (toCh P θ')++C) (K.perm (List.perm_append_comm_assoc _ _ _))
  have R:Cz id (r::rs) (Sk r.ks (sj rs) a.1 b.1)=XU id r a.1++Cz (id+r.ks.length) rs b.1:=by
   show XU id r (Us _ _ _)++Cz _ rs (WC _ _ _)=_;rw[Iv,Iw]
  have N:xU c id (r::rs) (Sk r.ks (sj rs) a.1 b.1)=XV id c r a.1++xU c (id+r.ks.length) rs b.1:=by
   show XV id c r (Us _ _ _)++xU c _ rs (WC _ _ _)=_;rw[Iv,Iw]
  show (∀e∈Cz id (r::rs) (Sk r.ks (sj rs) a.1 b.1),_)/\(∀j,∀e∈xU c id (r::rs) (Sk r.ks (sj rs) a.1 b.1),_)/\St J w0 w ((xU c id (r::rs) (Sk r.ks (sj rs) a.1 b.1)).map _++_);refine ⟨fun e d=>?_,fun j e d=>?_,?_⟩
  ·grind
  ·grind
  ·refine B.perm ?_;grind[List.perm_append_comm_assoc,xU,toCh,XV,aC]
end
def Iy:Chk->Prop
 | .hole _ _ _ _ _ _ _ _ _ _=>False
 | _=>True
theorem So {id ver:Nat} {k:Knd} {d:k.den} : ∀e∈XT id ver k d,e.2.1=ver/\Iy e.2.2:=by
 cases k with
 | own E t=>intro e a;cases ak a;exact ⟨rfl,trivial⟩
 | map md=>intro e a;cases ak a;exact ⟨rfl,trivial⟩
 | bx T k=>intro e a;cases ak a;exact ⟨rfl,trivial⟩
 | _=>intro e a;cases a
theorem wE {ver:Nat} : ∀ {b:List Knd} {id:Nat} {d:rO b},∀e∈EI id ver b d,e.2.1=ver/\Iy e.2.2
 | [],_,_=>fun e a=>by cases a
 | k::b,id,d=>fun e a=>by
  rcases aG a with a | a
  ·exact So e a
  ·exact wE e a
theorem GF {ver:Nat} : ∀ {rs:List RIt} {id:Nat} {d:rO (sj rs)},∀e∈xU ver id rs d,e.2.1=ver/\Iy e.2.2
 | [],_,_=>fun e a=>by cases a
 | r::rs,id,d=>fun e a=>by
  rcases aG a with a | a
  ·cases r with
   | slot t k=>exact wE e a
   | box h T ks =>
    rcases aA a with rfl | a
    ·exact ⟨rfl,trivial⟩
    ·exact wE e a
   | row h E u=>cases ak a;exact ⟨rfl,trivial⟩
   | agg t k ks=>exact wE e a
   | cur h T g E xs=>cases ak a;exact ⟨rfl,trivial⟩
  ·exact GF e a
theorem GG: ∀ {rs:List RIt} {id:Nat} {d:rO (sj rs)},(∀e∈Cz id rs d,id<=e.2.1/\e.2.1<id+(sj rs).length)/\(Cz id rs d).Pairwise fun a b=>a.2.1≠b.2.1
 | [],_,_=>⟨fun e c=>(by cases c),List.Pairwise.nil⟩
 | r::rs,id,d=>by
  have i:(sj (r::rs)).length=r.ks.length+(sj rs).length:=az ..;have ⟨l,f⟩:=GG (rs:=rs) (id:=id+r.ks.length) (d:=WC r.ks (sj rs) d);have j: ∀e∈XU id r (Us r.ks (sj rs) d),e.2.1=id/\0<r.ks.length:=fun e c=>by
   cases r with
   | slot t k=>cases ak c;exact ⟨rfl,Nat.one_pos⟩
   | agg t k ks=>cases ak c;exact ⟨rfl,Nat.succ_pos _⟩
   | box _ _ _=>cases c
   | row _ _ _=>cases c
   | cur _ _ _ _ _=>cases c
  have g:(XU id r (Us r.ks (sj rs) d)).Pairwise fun a b=>a.2.1≠b.2.1:=by
   cases r with
   | slot t k=>exact List.pairwise_singleton _ _
   | agg t k ks=>exact List.pairwise_singleton _ _
   | box _ _ _=>exact List.Pairwise.nil
   | row _ _ _=>exact List.Pairwise.nil
   | cur _ _ _ _ _=>exact List.Pairwise.nil
  refine ⟨fun e c=>?_,List.pairwise_append.2 ⟨g,f,fun a m b h=>?_⟩⟩
  ·rcases aG c with c | c
   ·grind
   grind
  grind
theorem Kc {t v:Nat} : ∀ {l:List (Nat×Nat×AV)},LX l t=some v-> ∃x,look l t=some x/\(t,v,x)∈l
 | (u,k,x)::l,h=>by
  unfold LX at h;split at h
  ·simp_all[look,if_pos,Nat.beq_refl]
  ·have ⟨y,b,a⟩:=Kc h;simp_all[look,if_neg]
theorem AZ {env:List (Nat×Nat×AV)} : ∀ {l:List (Nat×Nat×AV)},zX env l=true-> ∀e∈l,LX env e.1=some e.2.1
 | e::l,h,x,a=>by
  have h:((match LX env e.1 with | some v=>Nat.beq v e.2.1 | none=>false)&&zX env l)=true:=h;rw[aj] at h;rcases aA a with rfl | a
  ·grind[hv,al]
  ·exact AZ h.2 x a
theorem Dk: ∀ {l chs rest:List Ent},Ix l chs=some rest->(∀e∈l,∀e'∈chs,e'.1=e.1->e'.2.1=e.2.1->e'=e)->chs.Perm (l++rest)
 | [],chs,rest,h,_=>by cases ae (show some _=some rest from h);rfl
 | e::l,chs,rest,h,k=>by
  have ⟨r,b,h⟩:=bind_some (show (pull e.1 chs).bind _=some rest from h);have ⟨hv,h⟩:=ai h;have ⟨p,c⟩:=gi b;have a:=k e (by simp) r.1 (p.mem_iff.2 (by simp)) c (al hv);rw[a] at p;exact p.trans ((Dk h fun x g d f=>k x (by grind) d (p.mem_iff.2 (by grind))).cons e)
theorem yW: ∀ {l:List Ent},distinctH l=true-> ∀a∈l,∀b∈l,a.1=b.1->a=b
 | e::l,h,a,ha,b,hb,hab=>by
  have h:(Cw e.1 l&&distinctH l)=true:=h;rw[aj] at h;rcases aA ha with d | d
  ·rcases aA hb with c | c
   ·rw[d,c]
   ·rw[d] at hab;exact absurd hab.symm (pG h.1 c)
  ·rcases aA hb with c | c
   ·grind[absurd,pG]
   ·exact yW h.2 a d b c hab
theorem OQ {l:List (Nat×Nat×AV)} (h:l.Pairwise fun a b=>a.2.1≠b.2.1): ∀a∈l,∀b∈l,a.2.1=b.2.1->a=b:=by
 induction l with
 | nil=>grind
 | cons e l ih =>
  intro a j b g c;have ⟨i,k⟩:=List.pairwise_cons.1 h;rcases aA j with f | f
  ·rcases aA g with d | d
   ·rw[f,d]
   ·rw[f] at c;exact absurd c (i b d)
  ·rcases aA g with d | d
   ·rw[d] at c;exact absurd c.symm (i a f)
   ·exact ih k a f b d c
structure CutOk (P:Program) (w0:World) (c:Cut) (s:Sg) (J0:Hp) (θ0:Th):Prop where
 nxt:c.nxt=s.nxt
 env: ∀e∈c.env,e∈s.env
 nd:c.env.Pairwise fun a b=>a.2.1≠b.2.1
 chs: ∀e∈c.chs,e∈s.chs
 dist:distinctH s.chs=true
 hdr: ∀h∈hdrsR c.its,h.id<s.nxt
 fine:Fine P w0 J0 θ0 s
 rit: ∀r∈c.its,RitOk P w0 J0 θ0 s.nxt r
section
variable {V:Env} {P:Program} {I:Hp} {w0 w:World} {F:Ch} {J J0:Hp} {θ θ0:Th} {s s':Sg} {a:Act} {c:Cut}
theorem wF {m:List Nat} {l:List It} (h:AY m l s=some c) (o:Fine P w0 J θ s):CutOk P w0 c s J θ:=by
 have ⟨j,B,h⟩:=bind_some h;have ⟨O,h⟩:=ai h;cases ae h;have A: ∀ {l:List It} {j:List RIt},zW s l=some j-> ∀h∈hdrsR j,h.id<s.nxt:=by
  intro l;induction l with
  | nil=>intro j h x f;cases ae (show some _=some j from h);cases f
  | cons i l ih =>
   intro j h x f;have ⟨r,d,h⟩:=bind_some (show (resolve s i).bind _=some j from h);have ⟨H,v,h⟩:=bind_some h;cases ae h;rcases aG f with f | f
   ·cases i with
    | slot t k=>cases ae (show some _=some r from d);cases f
    | gone t=>cases d
    | cur t =>
     have ⟨y,q,d⟩:=bind_some (show (QQ (look s.env t)).bind _=some r from d);have ⟨⟨g,T,E,K⟩,n,d⟩:=bind_some d;cases ae d;have ⟨G,a,b,L⟩:=Ka n;have D:=o.chs _ L;rcases aA f with rfl | f
     ·exact D.1
     ·cases ak f;exact (show LV.ok P w0 J θ s.nxt (.rd _ (.sl E (.int .u8)) K) from D.2.2 _ (by simp)).1
    | agg t m =>
     cases m with
     | nil=>cases d
     | cons k m=>cases ae (show some _=some r from d);cases f
    | par i p E u =>
     have ⟨M,d⟩:=ai (show bO (Nat.blt i s.nxt) _=some r from d);cases ae d;cases ak f;simp_all
    | box t m =>
     have ⟨y,q,d⟩:=bind_some (show (QQ (look s.env t)).bind _=some r from d);have ⟨b,n,d⟩:=bind_some d;cases ae d;cases ak f;exact (o.chs _ ((kA n).mem_iff.2 (List.mem_cons_self ..))).1
    | pbx i m =>
     have ⟨b,n,d⟩:=bind_some (show (rf ⟨i,[]⟩ s.chs).bind _=some r from d);cases ae d;cases ak f;exact (o.chs _ ((kA n).mem_iff.2 (List.mem_cons_self ..))).1
    | row t E u =>
     have ⟨y,q,d⟩:=bind_some (show (YM (look s.env t)).bind _=some r from d);cases ae d;cases ak f;have ⟨e,z,N⟩:=tK (WB q)
     have:=o.env e z
     rw[N] at this;exact this.1
   grind
 have C: ∀ {l:List It} {j:List RIt},zW s l=some j-> ∀r∈j,RitOk P w0 J θ s.nxt r:=by
  intro l;induction l with
  | nil=>intro j h x f;cases ae (show some _=some j from h);cases f
  | cons i l ih =>
   intro j h x f;have ⟨r,d,h⟩:=bind_some (show (resolve s i).bind _=some j from h);have ⟨H,v,h⟩:=bind_some h;cases ae h;rcases aA f with rfl | f
   ·cases i with
    | slot t k=>cases ae (show some _=some x from d);trivial
    | gone t=>cases d
    | agg t m =>
     cases m with
     | nil=>cases d
     | cons k m=>cases ae (show some _=some x from d);trivial
    | par i p E u =>
     have ⟨M,d⟩:=ai (show bO (Nat.blt i s.nxt) _=some x from d);cases ae d
     trivial
    | box t m =>
     have ⟨y,q,d⟩:=bind_some (show (QQ (look s.env t)).bind _=some x from d);have ⟨b,n,d⟩:=bind_some d;cases ae d
     trivial
    | pbx i m =>
     have ⟨b,n,d⟩:=bind_some (show (rf ⟨i,[]⟩ s.chs).bind _=some x from d);cases ae d
     trivial
    | row t E u =>
     have ⟨y,q,d⟩:=bind_some (show (YM (look s.env t)).bind _=some x from d);cases ae d
     trivial
    | cur t =>
     have ⟨y,q,d⟩:=bind_some (show (QQ (look s.env t)).bind _=some x from d);have ⟨⟨g,T,E,K⟩,n,d⟩:=bind_some d;cases ae d;have ⟨G,a,b,L⟩:=Ka n;exact (show LV.ok P w0 J θ s.nxt (.rd g (.sl E (.int .u8)) K) from (o.chs _ L).2.2 _ (List.mem_cons_self ..))
   grind
 exact ⟨rfl,fun e z=>(List.mem_filter.1 (tP.mem z)).1,(o.nd.filter _).sublist tP,fun e z=>(List.mem_filter.1 z).1,O,A B,o,C B⟩
theorem A0 (j:CutOk P w0 c s J0 θ0) (hS:Sim P I w0 F V.n J θ s' a w) (hFr:Fr s θ0 s' θ) (hJ:J0.le J) {d:rO (sj c.its)} (h:c.of s'=some d): ∃θ',Sim P I w0 F V.n J θ' (c.at d) a w/\Fr s θ0 (c.at d) θ':=by
 unfold Cut.of at h;have ⟨S1,F1⟩:=tO (hs:=qc s' c.its) hS;have ⟨H,F2⟩:=tO (hs:=AX c.chs) S1;generalize hs1:wD (AX c.chs) (wD (qc s' c.its) s')=s1 at h H F2;simp only at h;have ⟨q,hq,h⟩:=bind_some h;have ⟨G,D,h⟩:=bind_some h;have ⟨Q,h⟩:=ai h;cases ae h;have M:=(hFr.trans F1).trans F2;have l:=M.same;have ⟨O,X,hvl,N⟩:=Kb (w:=w) (n1:=s.nxt) H.fine.env hq H.fine.chs fun r hr=>by
  have n:=j.rit r hr;cases r with
  | cur h T g E xs=>exact LV.ok_same l (aL _) (show LV.ok P w0 J0 θ0 s.nxt (.rd g (.sl E (.int .u8)) xs) from n) hJ
  | _=>trivial
 let θ':=fun i=>if i<s.nxt then θ i else X.getD (i - s.nxt) undef;have W:Same s.nxt θ θ':=fun i hi=>if_pos hi;have m:=l.trans W (aL _);have Y:c.top=s.nxt+(sj c.its).length:=by unfold Cut.top;rw[j.nxt]
 have ⟨e1,e2,e3⟩:=N θ' s.nxt c.top (c.top+1) (fun i v hi=>by
  grind) (by omega) (ax _) (fun x Z=>⟨ba W (j.hdr x Z),by have:=j.hdr x Z;omega⟩) [F] H.st
 have K: ∀e∈c.chs,∀B∈q.2,B.1=e.1->B.2.1=e.2.1->B=e:=fun e b B he' n U=>by
  have o:=j.chs e b;have S:=j.fine.chs e o;rcases M.chs B (O B he') B.1 B.2.1 B.2.2 ⟨rfl,.inl ⟨rfl,rfl⟩⟩ with h3 | ⟨e0,he0,h3⟩
  ·have:=S.2.1;omega
  ·have:=yW j.dist e0 he0 e o (h3.1.trans n)
   subst this;rcases h3.2 with ⟨h4,h5⟩ | h4
   ·grind
   ·have ⟨y1,y2,y3⟩:=e0;cases y3 with
    | hole over t dd u y f i k off lv =>
     have h5:=h4.1;have h6:=S.2.2.2.1;omega
    | _=>exact h4.elim
 have L:=Dk D K;have A:Newer s.nxt s.chs (xU c.top s.nxt c.its q.1++c.chs):=fun e b h' ver x hs=>by
  rcases aG b with b | b
  ·have ⟨k1,k2⟩:=GF e b;rcases hs.2 with ⟨n,U⟩ | n
   ·omega
   ·have ⟨y1,y2,y3⟩:=e;cases y3 with
    | hole _ _ _ _ _ _ _ _ _ _=>exact k2.elim
    | _=>exact n.elim
  ·exact .inr ⟨e,j.chs e b,hs⟩
 have C: ∀e∈c.env,look s1.env e.1=some e.2.2:=fun e b=>by
  have ⟨x,n,U⟩:=Kc (AZ Q e b);have o:=j.env e b
  have:=OQ j.fine.nd _ (M.env _ U (j.fine.ver e o)) e o rfl
  grind
 have R:c.at q.1=⟨Cz s.nxt c.its q.1++c.env,xU c.top s.nxt c.its q.1++c.chs,c.top+1⟩:=by unfold Cut.at;rw[j.nxt]
 have ⟨v1,v2⟩:=GG (rs:=c.its) (id:=s.nxt) (d:=q.1);refine ⟨θ',?_,by
  rw[R];refine ⟨show s.nxt<=c.top+1 by rw[Y];omega,m,fun e b hv0=>?_,A⟩;rcases aG b with b | b
  ·have:=v1 e b;omega
  ·exact j.env e b⟩
 rw[R];refine ⟨H.le,H.agr.pick _ fun p hp=>?_,?_,fun e b=>?_,fun e b=>?_,List.pairwise_append.2 ⟨v2,j.nd,fun x Z y hy hxy=>?_⟩,fun e b=>?_,H.fine.lay⟩
 ·obtain ⟨e,b,rfl⟩:=List.mem_map.1 hp;rcases aG b with b | b
  ·obtain ⟨-,x,n,U⟩:=e1 e b;show (envL θ s1).lookup e.1=some (e.2.2.v θ');rw[U];exact iB n
  ·have z:=j.fine.env e (j.env e b);show (envL θ s1).lookup e.1=some (e.2.2.v θ');rw[AV.v_same m z,<-AV.v_same l z];exact iB (C e b)
 ·have hch:c.chs.map (toCh P θ')=c.chs.map (toCh P θ):=List.map_congr_left fun e b=>by
   have z:=j.fine.chs e (j.chs e b);rw[oM m z,oM l z]
  show St J w0 w ((xU c.top s.nxt c.its q.1++c.chs).map (toCh P θ')++ [F]);rw[aW,hch];have n:=e3.perm (List.Perm.append_left _ ((L.map (toCh P θ)).append_right [F]));rw[aW] at n;refine St.left (ds:=G.map (toCh P θ)) (n.perm ?_);rw[aC,aC,aC];exact (List.Perm.append_left _ (List.Perm.append_left _ List.perm_append_comm))
 ·rcases aG b with b | b
  ·exact (e1 e b).1 _
  ·exact AV.ok_same m (show s.nxt<=c.top+1 by omega) A (j.fine.env e (j.env e b)) hJ
 ·rcases aG b with b | b
  ·have:=v1 e b
   show e.2.1<c.top+1;omega
  ·have:=j.fine.ver e (j.env e b)
   show e.2.1<c.top+1;omega
 ·have:=v1 x Z
  have:=j.fine.ver y (j.env y hy)
  omega
 ·rcases aG b with b | b
  ·exact e2 _ e b
  ·exact gy m (show s.nxt<=c.top+1 by omega) A (j.fine.chs e (j.chs e b)) hJ
end
def vX (t:Nat):List Nat->Bool
 | [] =>false
 | u::l=>Nat.beq u t || vX t l
theorem oQ {t:Nat} : ∀ {l:List Nat},vX t l=true↔t∈l
 | [] =>by simp[vX]
 | u::l=>by
  unfold vX;rw[Bool.or_eq_true,oQ (l:=l),List.mem_cons];grind[al,Nat.beq_refl]
theorem Iz {t:Nat} {l:List Nat} :vX t l=false↔t∉l:=by
 grind[oQ]
def A1:List Nat->Bool
 | [] =>true
 | u::l=> !vX u l&&A1 l
theorem sK: ∀ {l:List Nat},A1 l=true->l.Nodup
 | [],_=>List.nodup_nil
 | u::l,h=>by
  unfold A1 at h;rw[aj,Bool.not_eq_true',Iz] at h;exact List.nodup_cons.2 ⟨h.1,sK h.2⟩
structure OpK where
 reads:List Nat
 needs:List Nat
 gives:List Nat
 src:List (Nat×Option Nat)
structure Skel where
 ops:List OpK
 nres:Nat
 base:List Nat
 pre:List (List Nat)
 fin:List (Nat×Option Nat)
 left:List Nat
structure Sm where
 fact:Nat->(Nat->Value)->Prop
 chunk:Nat->(Nat->Value)->Ch
namespace Skel
def op (p:Skel) (i:Nat):OpK:=p.ops.getD i ⟨[],[],[],[]⟩
def before (p:Skel) (i:Nat):List Nat:=p.pre.getD i []
def srcOf (t:Nat):List (Nat×Option Nat)->Option (Option Nat)
 | [] =>none
 | (u,x)::l=>if Nat.beq u t then some x else srcOf t l
def ev (p:Skel) (L:List (Nat×Value)) (i:Nat) (vs:Nat->Value):Operand->Value
 | .tmp t=>match srcOf t (p.op i).src with
  | some (some j)=>vs j
  | _=>(L.lookup t).getD undef
 | x=>evL L x
end Skel
structure Loc (p:Skel) (q:Sm) (m:Nat):Prop where
 fact: ∀i,i<m-> ∀vs vs',(∀j,j=i\/j∈p.before i->vs' j=vs j)->q.fact i vs->q.fact i vs'
 chB: ∀x,x∈p.base-> ∀vs vs',q.chunk x vs'=q.chunk x vs
 chG: ∀i,i<m-> ∀x,x∈(p.op i).gives-> ∀vs vs',(∀j,j=i\/j∈p.before i->vs' j=vs j)->q.chunk x vs'=q.chunk x vs
def Skel.goal (p:Skel) (q:Sm) (P:Program) (I:Hp) (w0:World) (L:List (Nat×Value)) (i:Nat) (o:Oper):Prop:=
 ∀vs,(∀j,j∈p.before i->q.fact j vs)->
  match Le o vs with
  | some true=>OpT P I w0 o (p.ev L i vs) (((p.op i).reads++(p.op i).needs).map (q.chunk · vs)) (fun v=>q.fact i (upd vs i v)) (fun v=>((p.op i).reads++(p.op i).gives).map (q.chunk · (upd vs i v)))
  | some false=>q.fact i (upd vs i undef)/\(p.op i).needs= [] /\(p.op i).gives= []
  | none=>False
def isDst (ops:List Oper) (j t:Nat):Bool:=match ops[j]? with
 | some o=>match o.dst with
  | some u=>Nat.beq u t
  | none=>false
 | none=>false
theorem wG {ops:List Oper} {j t:Nat} :isDst ops j t=true↔(ops.toArray[j]?).bind (·.dst)=some t:=by
 unfold isDst;rw[List.getElem?_toArray];cases ops[j]? with
 | none=>simp
 | some o =>
  simp[aa];cases o.dst with
  | none=>simp
  | some u=>simp
def Ut (l:List Nat) (f:Nat->Bool):Bool:=match l with
 | [] =>false
 | x::l=>f x || Ut l f
def Cp (l:List Nat) (f:Nat->Bool):Bool:=match l with
 | [] =>true
 | x::l=>f x&&Cp l f
theorem IA {f:Nat->Bool} : ∀ {l:List Nat},Ut l f=true↔ ∃x,x∈l/\f x=true
 | [] =>by simp[Ut]
 | x::l=>by unfold Ut;rw[Bool.or_eq_true,IA (l:=l)];simp
theorem sL {f:Nat->Bool} : ∀ {l:List Nat},Cp l f=true↔ ∀x,x∈l->f x=true
 | [] =>by simp[Cp]
 | x::l=>by unfold Cp;rw[aj,sL (l:=l)];simp
def aai (l:List Oper) (k:Nat) (f:Nat->Oper->Bool):Bool:=match l with
 | [] =>true
 | o::l=>f k o&&aai l (k+1) f
theorem OR {f:Nat->Oper->Bool} : ∀ {l:List Oper} {k:Nat},aai l k f=true-> ∀i o,l[i]? =some o->f (k+i) o=true
 | [],_,_,i,o,h=>by grind
 | x::l,k,h,i,o,hi=>by
  unfold aai at h;rw[aj] at h;cases i with
  | zero=>grind
  | succ i =>
   have:=OR h.2 i o (by grind)
   grind
def Skel.okOp (p:Skel) (n:Nat) (kn:Nat->Bool) (ops:List Oper) (all:List Nat) (i:Nat) (o:Oper) (b:List Nat) (r:OpK):Bool:=
 noSelect o&&(dstOk n o.dst&&(Cp (edgesOf o) (fun j=>Nat.blt j i) &&
 (Cp b (fun j=>Nat.blt j i&&(vX j (edgesOf o) || Ut (edgesOf o) fun k=>vX j (p.before k))) &&
 (Cp (slotsOf ops.toArray o) (fun t=>match srcOf t r.src with
  | none=>false
  | some none=>kn t&&Cp all fun j=> !isDst ops j t || (Nat.beq j i || vX i (p.before j))
  | some (some j)=>isDst ops j t&&(vX j b&&Cp all fun k=> !isDst ops k t || (Nat.beq k j || (Nat.beq k i || (vX k (p.before j) || vX i (p.before k)))))) &&
 ((match o.guard with
  | none=>true
  | some (g,_)=>match ops[g]? with
   | none=>false
   | some og=>match og.dst with
    | none=>false
    | some t=>match srcOf t r.src with
     | some (some j)=>Nat.beq j g
     | _=>false) &&
 (Cp (r.reads++r.needs) (fun x=>Nat.blt x p.nres&&(vX x p.base || Ut b fun j=>vX x (p.op j).gives)) &&
 (Cp r.reads (fun x=>Cp all fun k=>Nat.beq k i || (!vX x (p.op k).needs || vX i (p.before k))) &&
 (Cp r.needs (fun x=>Cp all fun k=>Nat.beq k i || !vX x (p.op k).needs) &&
 (Cp r.gives (fun x=>Nat.blt x p.nres&&(!vX x p.base&&(!vX x (r.reads++r.needs)&&Cp all (fun k=>Nat.beq k i || !vX x (p.op k).gives)))) &&
 (A1 (r.reads++r.needs)&&A1 (r.reads++r.gives)))))))))))
def Skel.ok (p:Skel) (n:Nat) (kn:Nat->Bool) (ops:List Oper):Bool:=
 aai ops 0 fun i o=>p.okOp n kn ops (List.range ops.length) i o (p.before i) (p.op i)
def Skel.okB (p:Skel) (kn:Nat->Bool) (ops:List Oper):Bool:=
 let all:=List.range ops.length
 A1 p.base&&(A1 p.left&&(Cp p.left (fun x=>(vX x p.base || Ut all fun j=>vX x (p.op j).gives)&&Cp all fun j=> !vX x (p.op j).needs) &&
 (Cp (p.base++all.flatMap fun j=>(p.op j).gives) (fun x=>vX x p.left || Ut all fun j=>vX x (p.op j).needs) &&
 p.fin.all fun (t,s)=>match s with
  | none=>kn t&&Cp all fun j=> !isDst ops j t
  | some j=>Nat.blt j ops.length&&(isDst ops j t&&Cp all fun k=> !isDst ops k t || (Nat.beq k j || vX k (p.before j))))))
def Skel.out (p:Skel) (L:List (Nat×Value)) (vs:Nat->Value):List (Nat×Value):=
 p.fin.map fun (t,s)=>(t,match s with | some j=>vs j | none=>(L.lookup t).getD undef)
structure Inv (p:Skel) (q:Sm) (C:List Ch) (I:Hp) (w0:World) (n:Nat) (L:List (Nat×Value)) (ops:Array Oper) (S:Nat->Bool) (vs:Nat->Value) (a:Act) (w:World):Prop where
 closed: ∀i,S i=true-> ∀j,j∈p.before i->S j=true
 lt: ∀i,S i=true->i<ops.size
 defers:a.defers= []
 size:a.tmps.size=n
 old: ∀t v,L.lookup t=some v->(∀j,S j=true->(ops[j]?).bind (·.dst)≠some t)->a.tmps.getD t undef=v
 new: ∀j t,S j=true->(ops[j]?).bind (·.dst)=some t->(∀k,S k=true->(ops[k]?).bind (·.dst)=some t->k=j\/k∈p.before j)->a.tmps.getD t undef=vs j
 facts: ∀i,S i=true->q.fact i vs
 st: ∃l:List Nat,l.Nodup/\(∀x,x∈l↔(x∈p.base\/ ∃j,S j=true/\x∈(p.op j).gives)/\ ¬ ∃j,S j=true/\x∈(p.op j).needs)/\St I w0 w (l.map (q.chunk · vs)++C)
structure Skel.Good (p:Skel) (n:Nat) (L:List (Nat×Value)) (ops:Array Oper) (i:Nat) (o:Oper):Prop where
 sel:noSelect o=true
 dst:dstOk n o.dst=true
 edges: ∀j,j∈edgesOf o->j<i
 bef: ∀j,j∈p.before i->j<i/\(j∈edgesOf o\/ ∃k,k∈edgesOf o/\j∈p.before k)
 slots: ∀t,t∈slotsOf ops o->(Skel.srcOf t (p.op i).src=some none/\(L.lookup t).isSome=true/\ ∀j,j<ops.size->(ops[j]?).bind (·.dst)=some t->j=i\/i∈p.before j) \/
  ∃j,Skel.srcOf t (p.op i).src=some (some j)/\(ops[j]?).bind (·.dst)=some t/\j∈p.before i/\ ∀k,k<ops.size->(ops[k]?).bind (·.dst)=some t->k=j\/k=i\/k∈p.before j\/i∈p.before k
 guard: ∀g want,o.guard=some (g,want)-> ∃t,(ops[g]?).bind (·.dst)=some t/\Skel.srcOf t (p.op i).src=some (some g)
 have_: ∀x,x∈(p.op i).reads++(p.op i).needs->x<p.nres/\(x∈p.base\/ ∃j,j∈p.before i/\x∈(p.op j).gives)
 keep: ∀x,x∈(p.op i).reads-> ∀k,k<ops.size->x∈(p.op k).needs->k=i\/i∈p.before k
 once: ∀x,x∈(p.op i).needs-> ∀k,k<ops.size->x∈(p.op k).needs->k=i
 give: ∀x,x∈(p.op i).gives->x<p.nres/\x∉p.base/\x∉(p.op i).reads++(p.op i).needs/\ ∀k,k<ops.size->x∈(p.op k).gives->k=i
 nd1:((p.op i).reads++(p.op i).needs).Nodup
 nd2:((p.op i).reads++(p.op i).gives).Nodup
theorem XW {a b:Nat} :Nat.beq a b=true↔a=b:=⟨al,fun h=>by simp_all⟩
theorem XX {a b:Nat} :Nat.blt a b=true↔a<b:=by rw[Nat.blt_eq]
theorem Skel.good_of_ok {p:Skel} {n:Nat} {m:Nat->Bool} {L:List (Nat×Value)} {ops:List Oper} (B: ∀t,m t=true->(L.lookup t).isSome=true) (h:p.ok n m ops=true) {i:Nat} {o:Oper} (hi:ops[i]? =some o):p.Good n L ops.toArray i o:=by
 have h:=OR h i o hi;rw[Nat.zero_add] at h;unfold Skel.okOp at h;simp only[aj,sL,IA,oQ,XX,XW,Bool.or_eq_true,Bool.not_eq_true',Iz] at h;have ⟨y,A,f,D,v,a,w,F,G,u,d,c⟩:=h;refine ⟨y,A,f,fun j q=>?_,fun t l=>?_,fun g want s=>?_,fun x b=>w x b,fun x b k z r=>?_,fun x b k z r=>?_,fun x b=>?_,sK d,sK c⟩
 ·grind
 ·have:=v t l
  split at this
  ·grind
  ·simp[aj,sL,Bool.or_eq_true,Bool.not_eq_true',XW,oQ] at this;grind[wG]
  ·rename_i j C;simp[aj,sL,Bool.or_eq_true,Bool.not_eq_true',XW,oQ] at this;grind[wG]
 ·rw[s] at a;simp only at a;split at a
  ·cases a
  ·rename_i E e;split at a
   ·cases a
   ·rename_i t l;split at a
    ·rename_i j q;refine ⟨t,by rw[List.getElem?_toArray,e];exact l,?_⟩;rw[<-al a];exact q
    ·cases a
 ·grind
 ·grind
 grind
section
variable {p:Skel} {q:Sm} {kn:Nat->Bool} {C:List Ch} {P:Program} {I:Hp} {w0:World} {n:Nat} {L:List (Nat×Value)} {ops:List Oper} {S:Nat->Bool} {vs:Nat->Value} {a:Act} {w:World} {i:Nat} {o:Oper}
theorem Inv.step (hkn: ∀t,kn t=true->(L.lookup t).isSome=true) (hl:Loc p q ops.length) (Y:p.ok n kn ops=true) (hg:p.goal q P I w0 L i o) (hi:ops[i]? =some o) (h:Inv p q C I w0 n L ops.toArray S vs a w) (hn:S i=false) (A: ∀j,j∈p.before i->S j=true) {K:Act->World->Prop} {Q:Exit->Act->World->Prop}
  (hK: ∀vs a w,Inv p q C I w0 n L ops.toArray (fun j=>S j || j==i) vs a w->K a w):wpOp P ops.toArray Q i K a w:=by
 have G:=Skel.good_of_ok hkn Y hi;have him:i<ops.toArray.size:=by have:=(List.getElem?_eq_some_iff.1 hi).1;simpa using this
 have hcl: ∀j,S j=true->i∉p.before j:=fun j c hb=>by rw[h.closed j c i hb] at hn;cases hn
 have slot: ∀t,t∈slotsOf ops.toArray o->a.tmps.getD t undef=p.ev L i vs (.tmp t):=by
  intro t Z;rcases G.slots t Z with ⟨s,z,e3⟩ | ⟨j,s,z,e3,e4⟩
  ·have ⟨v,hv⟩:=Option.isSome_iff_exists.1 z;simp only[Skel.ev,s,hv,Option.getD_some];refine h.old t v hv fun j c F=>?_;grind
  ·simp only[Skel.ev,s];refine h.new j t (A j e3) z fun k m F=>?_;grind
 have hev: ∀x,x∈o.op.operands->a.eval x=p.ev L i vs x:=by
  intro x f;cases x with
  | tmp t =>
   refine slot t ?_;refine bm _ (List.mem_filterMap.2 ⟨.tmp t,by grind,rfl⟩)
  | _=>rfl
 have E:=fun j c=>h.facts j (A j c);have goal:=hg vs E;have main: ∀v w',q.fact i (upd vs i v)->(∃l:List Nat,l.Nodup/\(∀x,x∈l↔(x∈p.base\/ ∃j,(S j || j==i)=true/\x∈(p.op j).gives)/\ ¬ ∃j,(S j || j==i)=true/\x∈(p.op j).needs)/\St I w0 w' (l.map (q.chunk · (upd vs i v))++C))->K (a.put o.dst v) w':=by
  intro v w' hf hst;refine hK (upd vs i v) _ _ ⟨?_,?_,?_,?_,?_,?_,?_,hst⟩
  ·intro j c k m;simp[Bool.or_eq_true,beq_iff_eq] at c⊢;rcases c with c | rfl
   ·exact .inl (h.closed j c k m)
   grind
  ·intro j c;simp[Bool.or_eq_true,beq_iff_eq] at c;rcases c with c | rfl
   ·exact h.lt j c
   omega
  ·cases F:o.dst <;> simp[Act.put,h.defers]
  ·cases F:o.dst <;> simp[Act.put,h.size]
  ·intro t u hu c;have hne:o.dst≠some t:=by
    grind
   have h0:=h.old t u hu fun j hS=>c j (by grind);cases F:o.dst with
   | none=>exact h0
   | some d =>
    show (a.tmps.setIfInBounds d v).getD t undef=u;simp_all
  ·intro j t c F m;simp[Bool.or_eq_true,beq_iff_eq] at c;by_cases N:o.dst=some t
   ·have H:j=i:=by
     rcases c with c | rfl
     ·grind
     ·rfl
    subst H;have T:=G.dst;rw[N] at T;have T:t<n:=by simpa [dstOk] using T
    rw[N,ig];exact D.vY (by rw[h.size];omega)
   ·have H:j≠i:=by
     rintro rfl;rw[show (ops.toArray[j]?)=some o from by grind] at F;exact N F
    have B:S j=true:=by rcases c with c | e;exact c;exact absurd e H
    rw[Jp H];have h0:=h.new j t B F fun k hk'=>m k (by grind);cases F:o.dst with
    | none=>exact h0
    | some d =>
     show (a.tmps.setIfInBounds d v).getD t undef=_;simp_all
  ·intro j c;simp[Bool.or_eq_true,beq_iff_eq] at c;by_cases e:j=i
   ·grind
   ·have B:S j=true:=by rcases c with c | J;exact c;exact absurd J e
    refine hl.fact j (by simpa using h.lt j B) vs _ (fun k m=>Jp fun J=>?_) (h.facts j B);grind
 have ⟨l,l1,V,l3⟩:=h.st;have O: ∀v x,x∈l->q.chunk x (upd vs i v)=q.chunk x vs:=by
  intro v x f;rcases ((V x).1 f).1 with hb | ⟨j,c,hxj⟩
  ·exact hl.chB x hb vs _
  ·refine hl.chG j (by simpa using h.lt j c) x hxj vs _ fun k m=>Jp fun J=>?_;grind
 unfold wpOp;rw[show (ops.toArray[i]?)=some o from by grind];simp only;have hwant:Region.wanted o (yielded ops.toArray a.tmps)=true↔Le o vs=some true:=by
  unfold Region.wanted Le;cases X:o.guard with
  | none=>simp
  | some q =>
   have ⟨g,want⟩:=q;have ⟨t,s,z⟩:=G.guard g want X;have Z:t∈slotsOf ops.toArray o:=by
    unfold slotsOf Oper.looksAt;rw[X];simp only;rw[s];simp
   have hv:=slot t Z;simp only[Skel.ev,z] at hv;have hy:yielded ops.toArray a.tmps g=match vs g with | .bool b=>some b | _=>none:=by
    unfold yielded;rw[s];simp[aa];rw[Array.getD_eq_getD_getElem?] at hv;cases Z:a.tmps[t]? with
    | none =>
     rw[Z] at hv;rw[<-hv];rfl
    | some u =>
     grind
   grind
 cases hw:Le o vs with
 | none=>grind
 | some b =>
  cases b with
  | false =>
   rw[hw] at goal;rw[if_neg (by grind)];refine main undef w goal.1 ⟨l,l1,fun x=>?_,?_⟩
   ·grind
   grind[List.map_congr_left,undef]
  | true =>
   rw[hw] at goal;rw[if_pos (by grind)];refine .inl ?_;have hin: ∀x,x∈(p.op i).reads++(p.op i).needs->x∈l:=by
    intro x f;rw[V];refine ⟨(G.have_ x f).2.imp id fun ⟨j,c,e⟩=>⟨j,A j c,e⟩,fun ⟨k,m,e⟩=>?_⟩;rcases aG f with f | f
    ·rcases G.keep x f k (h.lt k m) e with rfl | J
     ·grind
     grind
    ·have:=G.once x f k (h.lt k m) e
     grind
   let r:=l.filter fun x=> !((p.op i).reads++(p.op i).needs).contains x;have U: ∀x,x∈r↔x∈l/\x∉(p.op i).reads++(p.op i).needs:=by
    simp[r,List.mem_filter]
   have W:r.Nodup:=l1.filter _;have R:l.Perm (((p.op i).reads++(p.op i).needs)++r):=by
    refine (List.perm_ext_iff_of_nodup l1 (List.nodup_append.2 ⟨G.nd1,W,fun x f y hy e=>?_⟩)).2 fun x=>?_
    ·subst e;exact ((U x).1 hy).2 f
    ·rw[List.mem_append,U];constructor
     ·intro f;by_cases e:x∈(p.op i).reads++(p.op i).needs
      ·exact .inl e
      ·exact .inr ⟨f,e⟩
     ·rintro (e | e)
      ·exact hin x e
      ·exact e.1
   have hs:=l3.perm ((R.map (q.chunk · vs)).append_right C);rw[aW,aC] at hs;have M:=rb G.sel hev;have hu:=goal w _ hs;rw[<-M] at hu;refine hu.wp fun v w' hv=>main v w' hv.1 ⟨((p.op i).reads++(p.op i).gives)++r,?_,fun x=>?_,?_⟩
   ·refine List.nodup_append.2 ⟨G.nd2,W,fun x f y hy e=>?_⟩;subst e;rcases aG f with f | f
    ·exact ((U x).1 hy).2 (bm _ f)
    ·obtain ⟨-,g1,g2,g3⟩:=G.give x f;rcases ((V x).1 ((U x).1 hy).1).1 with e | ⟨j,c,e⟩
     ·exact g1 e
     ·have:=g3 j (h.lt j c) e
      subst this;rw[hn] at c;cases c
   ·have hgx:x∈(p.op i).gives->x∉p.base/\(∀k,S k=true->x∉(p.op k).needs)/\x∉(p.op i).needs:=by
     intro f;obtain ⟨-,g1,g2,g3⟩:=G.give x f;refine ⟨g1,fun k m e=>?_,fun e=>g2 (bq _ e)⟩;have hkm:k<ops.length:=by simpa using h.lt k m
     rcases ((Skel.good_of_ok (L:=L) hkn Y (List.getElem?_eq_getElem hkm)).have_ x (bq _ e)).2 with J | ⟨j,c,J⟩
     ·exact g1 J
     ·have:=g3 j (h.lt j (h.closed k m j c)) J
      subst this;exact hcl k m c
    rw[List.mem_append,U];constructor
    ·rintro (f | ⟨f,hx2⟩)
     ·rcases aG f with f | f
      ·have ⟨s,z⟩:=(V x).1 (hin x (bm _ f));refine ⟨s.imp id fun ⟨j,c,e⟩=>⟨j,by simp[c],e⟩,fun ⟨j,c,e⟩=>?_⟩;simp[Bool.or_eq_true,beq_iff_eq] at c;rcases c with c | rfl
       ·exact z ⟨j,c,e⟩
       ·exact (List.nodup_append.1 G.nd1).2.2 x f x e rfl
      ·have ⟨g1,g2,g3⟩:=hgx f;refine ⟨.inr ⟨i,by simp,f⟩,fun ⟨j,c,e⟩=>?_⟩;simp[Bool.or_eq_true,beq_iff_eq] at c;rcases c with c | rfl
       ·exact g2 j c e
       ·exact g3 e
     ·have ⟨s,z⟩:=(V x).1 f;refine ⟨s.imp id fun ⟨j,c,e⟩=>⟨j,by simp[c],e⟩,fun ⟨j,c,e⟩=>?_⟩;simp[Bool.or_eq_true,beq_iff_eq] at c;rcases c with c | rfl
      ·exact z ⟨j,c,e⟩
      ·exact hx2 (bq _ e)
    ·rintro ⟨s,z⟩;have e2': ¬ ∃j,S j=true/\x∈(p.op j).needs:=fun ⟨j,c,e⟩=>z ⟨j,by simp[c],e⟩;have e2i:=fun e=>z ⟨i,by simp,e⟩;by_cases hxg:x∈(p.op i).gives
     ·exact .inl (bq _ hxg)
     ·have hxl:x∈l:=by
       rw[V];refine ⟨s.imp id fun ⟨j,c,e⟩=>?_,e2'⟩;simp[Bool.or_eq_true,beq_iff_eq] at c;rcases c with c | rfl
       ·exact ⟨j,c,e⟩
       ·exact absurd e hxg
      by_cases e:x∈(p.op i).reads++(p.op i).needs
      ·rcases aG e with e | e
       ·exact .inl (bm _ e)
       ·exact absurd e e2i
      ·exact .inr ⟨hxl,e⟩
   ·rw[aW,aC]
    have:=List.map_congr_left fun x f=>O v x ((U x).1 f).1
    rw[this];exact hv.2
theorem WI (g: ∀t,kn t=true->(L.lookup t).isSome=true) (u:Loc p q ops.length) (f:p.ok n kn ops=true) (F: ∀i o,ops[i]? =some o->p.goal q P I w0 L i o) {Q:Exit->Act->World->Prop}
  (G: ∀vs a w,Inv p q C I w0 n L ops.toArray (fun j=>decide (j<ops.length)) vs a w->Q .normal a w): ∀(fuel:Nat) (listed:Array Bool) (vs:Nat->Value) (a:Act) (w:World),listed.size=ops.length->D.leftOf ops.length listed<=fuel->
   Inv p q C I w0 n L ops.toArray (fun j=>listed.getD j false) vs a w->wpAny P .any ops.toArray Q fuel listed a w:=by
 have done: ∀(listed:Array Bool) (vs:Nat->Value) (a:Act) (w:World),(∀i,i<ops.length->listed.getD i false=true)->Inv p q C I w0 n L ops.toArray (fun j=>listed.getD j false) vs a w->Q .normal a w:=by
  intro listed vs a w b h;refine G vs a w ?_;have e:(fun j=>listed.getD j false)=fun j=>decide (j<ops.length):=by
   funext j;by_cases m:j<ops.length
   ·grind
   ·cases u:listed.getD j false with
    | false=>grind
    | true=>exact absurd (by simpa using h.lt j u) m
  rw[<-e];exact h
 have nil: ∀(listed:Array Bool) (vs:Nat->Value) (a:Act) (w:World),listed.size=ops.length->Inv p q C I w0 n L ops.toArray (fun j=>listed.getD j false) vs a w->Region.ready .any ops.toArray listed= [] ->Q .normal a w:=by
  intro listed vs a w d h y;refine done listed vs a w (fun i=>?_) h;induction i using Nat.strongRecOn with
  | _ i z =>
   intro v;cases u:listed.getD i false with
   | true=>rfl
   | false =>
    have:i∈Region.ready .any ops.toArray listed:=by
     refine D.mem_ready.2 ⟨by omega,?_,fun o O j m=>?_⟩
     ·grind
     ·have M:=(Skel.good_of_ok (L:=L) g f (show ops[i]? =some o by grind)).edges j m;grind
    grind
 intro fuel;induction fuel with
 | zero =>
  intro listed vs a w d B h;have b: ∀i,i<ops.length->listed.getD i false=true:=by
   intro i v;cases u:listed.getD i false with
   | true=>rfl
   | false =>
    have T:=List.eq_nil_of_length_eq_zero (Nat.le_zero.1 B);simp_all
  refine ⟨?_,done listed vs a w b h⟩;cases y:Region.ready .any ops.toArray listed with
  | nil=>rfl
  | cons i l =>
   have:i∈Region.ready .any ops.toArray listed:=by rw[y];simp
   grind[D.mem_ready,Array.getD_eq_getD_getElem?,Array.getElem?_eq_getElem]
 | succ fuel z =>
  intro listed vs a w d B h;refine ⟨nil listed vs a w d h,fun i v=>?_⟩;have ⟨H,A,K⟩:=D.mem_ready.1 v;have r:i<ops.length:=by simpa using H
  have c:=List.getElem?_eq_getElem r;have E:listed.getD i false=false:=by
   rw[Array.getD_eq_getD_getElem?,Array.getElem?_eq_getElem (by omega)] at A⊢;simpa using A
  have x:=F i _ c;refine h.step g u f x c E (fun j m=>?_) fun vs a w R=>?_
  ·rcases ((Skel.good_of_ok (L:=L) g f c).bef j m).2 with e | ⟨k,J,e⟩
   ·grind
   ·exact h.closed k (K _ (by grind) k J) j e
  ·refine z _ vs a w (by grind) ?_ ?_
   ·have N:D.leftOf ops.length (listed.setIfInBounds i true)<D.leftOf ops.length listed:=by
     unfold D.leftOf;have s:(List.range ops.length).filter (fun j=> !(listed.setIfInBounds i true).getD j false)=((List.range ops.length).filter (fun j=> !listed.getD j false)).filter (fun j=>j !=i):=by
      rw[List.filter_filter];refine List.filter_congr fun j m=>?_;by_cases e:i=j
      ·simp_all
      ·rw[Array.getD_eq_getD_getElem?,Array.getElem?_setIfInBounds_ne e,<-Array.getD_eq_getD_getElem?];grind
     rw[s];refine List.length_filter_lt_length_iff_exists.2 ⟨i,List.mem_filter.2 ⟨List.mem_range.2 r,by grind⟩,by simp⟩
    omega
   ·have e:(fun j=>(listed.setIfInBounds i true).getD j false)=fun j=>(listed.getD j false || j==i):=by
     funext j;by_cases e:i=j
     ·simp_all
     ·rw[Array.getD_eq_getD_getElem?,Array.getElem?_setIfInBounds_ne e,<-Array.getD_eq_getD_getElem?];grind
    grind
theorem Sp {id:Nat} {H:List Ch} {Q:Exit->Act->World->Prop} (p:Skel) (q:Sm) (m: ∀t,kn t=true->(L.lookup t).isSome=true) (X:Loc p q ops.length) (Y:P.follows .mixedOrders=true) (y:Agr n a L) (hs:St I w0 w H) (hp:H.Perm (p.base.map (q.chunk · fun _=>undef)++C))
  (B:p.ok n kn ops=true) (r:p.okB kn ops=true) (O: ∀i o,ops[i]? =some o->p.goal q P I w0 L i o)
  (k: ∀vs a w,(∀i,i<ops.length->q.fact i vs)->Agr n a (p.out L vs)->St I w0 w (p.left.map (q.chunk · vs)++C)->Q .normal a w):(Code.region id ops.toArray true).wp P Q a w:=by
 unfold Skel.okB at r;simp only[aj,sL,IA,oQ,Bool.or_eq_true,Bool.not_eq_true',Iz,List.all_eq_true] at r;have ⟨g,f,U,N,E⟩:=r;have z:=sK g;have F:=sK f;refine wp_region_any Y (WI (C:=C) m X B O (fun vs a w h=>k vs a w (fun i d=>h.facts i (by grind)) ?_ ?_) _ _ (fun _=>undef) a _ (by simp) ?_ ?_)
 ·refine ⟨h.defers,h.size,fun t v hv=>?_⟩;have key: ∀(M:List (Nat×Option Nat)),(∀q∈M,q∈p.fin)->(M.map fun (t,s)=>(t,match s with | some j=>vs j | none=>(L.lookup t).getD undef)).lookup t=some v->a.tmps.getD t undef=v:=by
   intro M;induction M with
   | nil=>grind
   | cons q M ih =>
    intro T hv;have ⟨t',G⟩:=q;by_cases e:t=t'
    ·subst e;simp[BEq.rfl,Option.some.injEq] at hv;have b:=E (t,G) (T _ (by simp));cases G with
     | none =>
      simp only[aj,sL,Bool.not_eq_true'] at b hv;have ⟨u,K⟩:=Option.isSome_iff_exists.1 (m _ b.1);rw[K] at hv;subst hv;refine h.old t u K fun j c J=>?_;have c:j<ops.length:=by simpa using c
      have:=b.2 j (List.mem_range.2 c)
      grind[wG]
     | some j =>
      simp only[aj,sL,XX,XW,Bool.or_eq_true,Bool.not_eq_true',oQ] at b hv;rw[<-hv];refine h.new j t (by grind) (wG.1 b.2.1) fun k A J=>?_;have A:k<ops.length:=by simpa using A
      rcases b.2.2 k (List.mem_range.2 A) with e | e
      ·rw[wG.2 J] at e;cases e
      ·exact e
    grind
  exact key _ (fun _ h=>h) hv
 ·have ⟨l,V,l2,W⟩:=h.st;refine W.perm (List.Perm.append_right C (List.Perm.map _ ((List.perm_ext_iff_of_nodup V F).2 fun x=>?_)));grind
 ·grind[D.leftOf,Nat.le_trans,List.length_filter_le]
 ·have b: ∀j,(Array.replicate ops.toArray.size false).getD j false=false:=by
   intro j;rw[Array.getD_eq_getD_getElem?,Array.getElem?_replicate];split <;> rfl
  refine ⟨fun i d=>?_,fun i d=>?_,y.1,y.2.1,fun t v hv _=>y.2.2 t v hv,fun j t c=>?_,fun i d=>?_,p.base,z,fun x=>?_,?_⟩
  ·rw[b] at d;cases d
  ·rw[b] at d;cases d
  ·rw[b] at c;cases c
  ·rw[b] at d;cases d
  ·constructor
   ·intro Z;refine ⟨.inl Z,fun ⟨j,c,_⟩=>?_⟩;rw[b] at c;cases c
   ·rintro ⟨R | ⟨j,c,_⟩,_⟩
    ·exact R
    ·rw[b] at c;cases c
  ·exact (hs.drawn (w':= { w with drawn:=w.drawn+1 }) rfl rfl rfl rfl).perm hp
end
end R
namespace R
open Go.RowKit
open D
def LV.ids:LV->List Nat
 | .val _=>[]
 | .nb _=>[]
 | .rd h _ _=>[h.id]
 | .own h=>[h.id]
 | .ptr h _=>[h.id]
 | .fn h _ _ _=>[h.id]
 | .fz h _ _ _ _=>[h.id]
 | .fzf h _ _ _ _=>[h.id]
 | .rdn h _ _ _=>[h.id]
def OS:List LV->List Nat
 | [] =>[]
 | x::l=>x.ids++OS l
def aaj:List (Bool×List LV)->List Nat
 | [] =>[]
 | y::l=>OS y.2++aaj l
def AV.ids:AV->List Nat
 | .one x=>x.ids
 | .agg xs=>OS xs
 | .tup ys=>aaj ys
 | .elr h _ _ _ _ _ _=>[h.id]
 | .elo h _ _ _ _ _ _ _=>[h.id]
 | .sub h _ _ _ _ _=>[h.id]
 | .pre h _ _ _ _ _=>[h.id]
 | .vw u h _ _ _ _=>[u.id,h.id]
 | .xv _ u h _ _ _ _=>[u.id,h.id]
 | .capv h _=>[h.id]
 | .any h=>[h.id]
 | .und=>[]
def Chk.ids:Chk->List Nat
 | .own _ _=>[]
 | .blk _ cs=>OS cs
 | .hole _ _ _ _ _ _ _ _ _ lv=>lv.ids
 | .box _ _ _=>[]
 | .map _ _ _ _ _=>[]
 | .clo _ first capt=>aaj first++OS capt
def Dl (h:Hdr) (c:Chk):List Nat:=h.id::c.ids
theorem rq {x:LV} {i:Nat} : ∀ {l:List LV},x∈l->i∈x.ids->i∈OS l
 | y::l,h,hi=>by
  rcases aA h with rfl | h
  ·exact bm _ hi
  ·exact bq _ (rq h hi)
theorem zZ {y:Bool×List LV} {i:Nat} : ∀ {l:List (Bool×List LV)},y∈l->i∈OS y.2->i∈aaj l
 | z::l,h,hi=>by
  rcases aA h with rfl | h
  ·exact bm _ hi
  ·exact bq _ (zZ h hi)
section
variable {P:Program} {w0:World} {J:Hp} {θ θ':Th} {n m:Nat} {chs chs':List Ent}
theorem gr {h:Hdr} (k:θ' h.id=θ h.id):hv θ' h=hv θ h:=by unfold hv;rw[k]
theorem LV.v_loc {x:LV} (h: ∀i∈x.ids,θ' i=θ i):x.v θ'=x.v θ:=by
 cases x with
 | val _=>rfl
 | nb _=>rfl
 | rd k t d=>exact gr (h _ (by simp[LV.ids]))
 | own k=>exact gr (h _ (by simp[LV.ids]))
 | ptr k off=>show Value.pointer (some ⟨bk (hv θ' k),off,none⟩)=_;rw[gr (h _ (by simp[LV.ids]))];rfl
 | fn k ps rs e=>exact gr (h _ (by simp[LV.ids]))
 | fz k T t d off=>show Value.pointer (some ⟨bk (hv θ' k),off,none⟩)=_;rw[gr (h _ (by simp[LV.ids]))];rfl
 | fzf k T ps rs e=>show Value.pointer (some ⟨bk (hv θ' k),0,none⟩)=_;rw[gr (h _ (by simp[LV.ids]))];rfl
 | rdn k b t d=>exact gr (h _ (by simp[LV.ids]))
theorem LV.ok_loc {x:LV} (h: ∀i∈x.ids,θ' i=θ i) (k:x.ok P w0 J θ n):x.ok P w0 J θ' n:=by
 cases x with
 | val _=>exact k
 | nb _=>trivial
 | rd g t d=>exact ⟨k.1,by rw[gr (h _ (by simp[LV.ids]))];exact k.2⟩
 | own g=>exact ⟨k.1,by rw[gr (h _ (by simp[LV.ids]))];exact k.2⟩
 | ptr g off=>exact k
 | fn g ps rs e=>exact ⟨k.1,by rw[gr (h _ (by simp[LV.ids]))];exact k.2⟩
 | fz g T t d off=>exact ⟨k.1,by rw[gr (h _ (by simp[LV.ids]))];exact k.2⟩
 | fzf g T ps rs e=>exact ⟨k.1,by rw[gr (h _ (by simp[LV.ids]))];exact k.2⟩
 | rdn g b t d=>exact ⟨k.1,by rw[gr (h _ (by simp[LV.ids]))];exact k.2⟩
theorem EJ {xs:List LV} (h: ∀i∈OS xs,θ' i=θ i):xs.map (·.v θ')=xs.map (·.v θ):=List.map_congr_left fun x b=>LV.v_loc fun i a=>h i (rq b a)
theorem GH {y:Bool×List LV} (a: ∀i∈OS y.2,θ' i=θ i):lx θ' y=lx θ y:=by
 unfold lx;rw[EJ a];split
 ·rfl
 ·cases c:y.2 with
  | nil=>rfl
  | cons x l=>exact LV.v_loc fun i b=>a i (by rw[c];exact bm _ b)
theorem AV.v_loc {x:AV} (h: ∀i∈x.ids,θ' i=θ i):x.v θ'=x.v θ:=by
 cases x with
 | one x=>exact LV.v_loc h
 | agg xs=>show Value.agg _=Value.agg _;rw[EJ h]
 | tup ys =>
  show Value.tuple _=Value.tuple _;congr 2;refine List.map_congr_left fun y b=>?_;exact GH fun i a=>h i (zZ b a)
 | elr k E t xs x i off=>show pt (hv θ' k) _=_;rw[gr (h _ (by simp[AV.ids]))];rfl
 | elo k ver E t xs x i off=>show pt (hv θ' k) _=_;rw[gr (h _ (by simp[AV.ids]))];rfl
 | sub k ver E t xs l=>show rL (hv θ' k) _ _ _=_;rw[gr (h _ (by simp[AV.ids]))];rfl
 | pre k ver E t xs l=>show rL (hv θ' k) _ _ _=_;rw[gr (h _ (by simp[AV.ids]))];rfl
 | vw u k kk N l m=>exact gr (h _ (by simp[AV.ids]))
 | xv top u k kk N l m=>exact gr (h _ (by simp[AV.ids]))
 | capv k c=>rfl
 | any k=>exact gr (h _ (by simp[AV.ids]))
 | und=>rfl
theorem AV.ok_loc {x:AV} (h: ∀i∈x.ids,θ' i=θ i) (k:x.ok P w0 J θ n chs):x.ok P w0 J θ' n chs:=by
 cases x with
 | one x=>exact LV.ok_loc h k
 | agg xs=>exact fun x a=>LV.ok_loc (fun i b=>h i (rq a b)) (k x a)
 | tup ys=>exact fun y d x a=>LV.ok_loc (fun i b=>h i (zZ d (rq a b))) (k y d x a)
 | elr g E t xs x i off=>exact ⟨k.1,k.2.1,by rw[gr (h _ (by simp[AV.ids]))];exact k.2.2⟩
 | elo g ver E t xs x i off=>exact k
 | sub g ver E t xs l=>exact k
 | pre g ver E t xs l=>exact k
 | vw u g kk N l m=>exact ⟨k.1,k.2.1,by rw[gr (h _ (by simp[AV.ids])),gr (h _ (by simp[AV.ids]))];exact k.2.2⟩
 | xv top u g kk N l m=>exact ⟨k.1,k.2.1,by rw[gr (h _ (by simp[AV.ids])),gr (h _ (by simp[AV.ids]))];exact k.2.2⟩
 | capv g c=>exact ⟨k.1,by rw[gr (h _ (by simp[AV.ids]))];exact k.2⟩
 | any g=>exact k
 | und=>trivial
theorem Sq {e:Ent} (h: ∀i∈Dl e.1 e.2.2,θ' i=θ i):toCh P θ' e=toCh P θ e:=by
 obtain ⟨k,g,c⟩:=e;have a:hv θ' k=hv θ k:=gr (h _ (by simp[Dl]));cases c with
 | own t d=>show Ch.own _ [hv θ' k] d=_;rw[a];rfl
 | blk T cells=>show Ch.blk (bk (hv θ' k)) (cells.map (·.v θ')) T=_;rw[a,EJ fun i b=>h i (bY _ b)];rfl
 | hole over t d u y f i kk off lv=>show Ch.gap _ [hv θ' k] _ f (ptB (hv θ' k)) (ptO (hv θ' k)+(i.toNat*kk+off)) (lv.v θ')=_;rw[a,LV.v_loc fun i b=>h i (bY _ b)];rfl
 | box T t d=>show Ch.box (bk (hv θ' k)) T _ d=_;rw[a];rfl
 | map K E kk e m=>show @Ch.mp P K E kk.den e.den kk.dec kk.lit kk.ok e.lit e.z (hv θ' k) m=_;rw[a];rfl
 | clo _ _ _=>rfl
theorem WJ {e:Ent} (h: ∀i∈Dl e.1 e.2.2,θ' i=θ i) (k:okE P w0 J θ n chs e):okE P w0 J θ' n chs e:=by
 obtain ⟨g,p,c⟩:=e;cases c with
 | own t d=>exact k
 | blk T cells=>exact ⟨k.1,k.2.1,fun x b=>LV.ok_loc (fun i a=>h i (bY _ (rq b a))) (k.2.2 x b)⟩
 | hole over t d u y f i kk off lv=>exact ⟨k.1,k.2.1,LV.ok_loc (fun i a=>h i (bY _ a)) k.2.2.1,k.2.2.2⟩
 | box T t d=>exact k
 | map K E kk e m=>exact k
 | clo f first capt =>
  obtain ⟨r,w,s,q,v⟩:=k;have o: ∀y∈first,∀i∈OS y.2,θ' i=θ i:=fun y j i a=>h i (bY _ (bm _ (zZ j a)))
  have l: ∀i∈OS capt,θ' i=θ i:=fun i a=>h i (bY _ (bq _ a));refine ⟨r,w,fun y j x b=>LV.ok_loc (fun i a=>o y j i (rq b a)) (s y j x b),fun x b=>LV.ok_loc (fun i a=>l i (rq b a)) (q x b),?_⟩;show hv θ' g=_;rw[gr (h _ (by simp[Dl])),EJ l,List.map_congr_left fun y j=>GH (o y j)];exact v
def AV.elos:AV->List (Hdr×Nat)
 | .elo h ver _ _ _ _ _ _=>[(h,ver)]
 | .sub h ver _ _ _ _=>[(h,ver)]
 | .pre h ver _ _ _ _=>[(h,ver)]
 | _=>[]
def Chk.elos (ver:Nat):Chk->List (Hdr×Nat)
 | .hole _ _ _ _ _ _ _ _ _ (.own l)=>[(l,ver)]
 | _=>[]
theorem LV.ok_le {x:LV} (a:n<=m) (h:x.ok P w0 J θ n):x.ok P w0 J θ m:=LV.ok_same Same.rfl' a h Hp.le.rfl
where Same.rfl' {n:Nat} {θ:Th} :Same n θ θ:=fun i hi=>Eq.refl _
theorem AV.ok_move {x:AV} (a:n<=m) (b: ∀h ver c,(h,ver)∈x.elos->Mem chs n h ver c-> ∀e∈chs',∀c',Says e h ver c'->c'=c) (k:x.ok P w0 J θ n chs):x.ok P w0 J θ m chs':=by
 cases x with
 | one x=>exact LV.ok_le a k
 | agg xs=>exact fun x d=>LV.ok_le a (k x d)
 | tup ys=>exact fun y f x d=>LV.ok_le a (k y f x d)
 | elr g E t xs x i off=>exact ⟨aD k.1 a,k.2⟩
 | elo g ver E t xs x i off=>exact ⟨aD k.1 a,k.2.1,aD k.2.2.1 a,b _ _ _ (by simp[AV.elos]) k.2.2⟩
 | sub g ver E t xs l=>exact ⟨aD k.1 a,k.2.1,aD k.2.2.1 a,b _ _ _ (by simp[AV.elos]) k.2.2⟩
 | pre g ver E t xs l=>exact ⟨aD k.1 a,k.2.1,aD k.2.2.1 a,b _ _ _ (by simp[AV.elos]) k.2.2⟩
 | vw u g kk N l m=>exact ⟨aD k.1 a,aD k.2.1 a,k.2.2⟩
 | xv top u g kk N l m=>exact ⟨aD k.1 a,aD k.2.1 a,k.2.2⟩
 | capv g c=>exact ⟨aD k.1 a,k.2⟩
 | any g=>exact aD k a
 | und=>trivial
theorem Ke {e:Ent} (a:n<=m) (q: ∀h b c,(h,b)∈e.2.2.elos e.2.1->Mem chs n h b c-> ∀e∈chs',∀c',Says e h b c'->c'=c) (k:okE P w0 J θ n chs e):okE P w0 J θ m chs' e:=by
 obtain ⟨g,b,c⟩:=e;cases c with
 | own t d=>exact ⟨aD k.1 a,aD k.2.1 a,trivial⟩
 | blk T cells=>exact ⟨aD k.1 a,aD k.2.1 a,fun x j=>LV.ok_le a (k.2.2 x j)⟩
 | hole over t d u y f i kk off lv =>
  refine ⟨aD k.1 a,aD k.2.1 a,LV.ok_le a k.2.2.1,k.2.2.2.1,k.2.2.2.2.1,fun l o=>?_⟩
  have:=k.2.2.2.2.2 l o
  exact ⟨aD this.1 a,q _ _ _ (by subst o;simp[Chk.elos]) this⟩
 | box T t d=>exact ⟨aD k.1 a,aD k.2.1 a,trivial⟩
 | map K E kk e m=>exact ⟨aD k.1 a,aD k.2.1 a,trivial⟩
 | clo f first capt=>exact ⟨aD k.1 a,aD k.2.1 a,fun y p x j=>LV.ok_le a (k.2.2.1 y p x j),fun x j=>LV.ok_le a (k.2.2.2.1 x j),k.2.2.2.2⟩
end
structure TR where
 i:Nat
 o:Oper
 b:List Nat
 s:Sg
 r:Res
 run:Bool
def lF (n0:Nat) (x:TR):List Ent:=x.r.gives.map fun g=>(g.1,n0+x.i,g.2)
def A2 (n0:Nat) (env:List (Nat×Nat×AV)):List TR->List (Nat×Nat×AV)
 | [] =>env
 | x::l=>Nd x.o.dst (n0+x.i) x.r.av (A2 n0 env l)
def iY (n0:Nat) (chs:List Ent):List TR->List Ent
 | [] =>chs
 | x::l=>lF n0 x++iY n0 chs l
def sameKey (a b:Ent):Bool:=Nat.beq a.2.1 b.2.1&&Hdr.beq a.1 b.1
def YP (e:Ent) (l:List TR):Bool:=l.any fun x=>x.r.ns.any fun e'=>sameKey e' e
def inB (n0:Nat) (b:List Nat) (v:Nat):Bool:=Nat.blt v n0 || vX (v - n0) b
def subS (s0:Sg) (l:List TR) (i:Nat) (b:List Nat):Sg:=
 ⟨(A2 s0.nxt s0.env l).filter fun e=>inB s0.nxt b e.2.1,(iY s0.nxt s0.chs l).filter fun e=>inB s0.nxt b e.2.1 && !YP e l,s0.nxt+i⟩
def Sr (s0:Sg) (l:List TR):Sg:=subS s0 l l.length (List.range l.length)
def recAt (i:Nat):List TR->Option TR
 | [] =>none
 | x::l=>if Nat.beq x.i i then some x else recAt i l
def aak (t:Nat) (l:List Nat):List Nat:=if vX t l then l else t::l
def GI:List Nat->List Nat->List Nat
 | [],acc=>acc
 | t::l,acc=>GI l (aak t acc)
def bOf (l:List TR):List Nat->List Nat->List Nat
 | [],acc=>acc
 | j::js,acc=>bOf l js (GI (match recAt j l with | some y=>y.b | none=>[]) (aak j acc))
def OT {Y:Type} (g:Bool) (av:AV) (k:AV->Option Y):Option Y:=match g with
 | false=>k av
 | true=>match av with
  | .one (.val (.bool b))=>if b then k (.one (.val (.bool true))) else k (.one (.val (.bool false)))
  | .one (.nb b)=>if b then k (.one (.val (.bool false))) else k (.one (.val (.bool true)))
  | _=>none
def OU (ops:List Oper) (i:Nat):Bool:=match ops with
 | [] =>false
 | o::ops=>(match o.guard with | some (g,_)=>Nat.beq g i | none=>false) || OU ops i
section
variable {Y:Type} (V:Env) (ops:List Oper) (s0:Sg) (k:List TR->Option Y)
def aaV (o:Oper) (i:Nat) (l:List TR) (b:List Nat) (s:Sg):Option Y:=
 bO (okO V.n s o) (step V s (fun r=>OT (OU ops i) r.av fun av=>k (⟨i,o,b,s,⟨r.rs,r.ns,r.rest,r.gives,av⟩,true⟩::l)) o)
def WK (o:Oper) (i:Nat) (l:List TR) (b:List Nat) (s:Sg):Option Y:=
 k (⟨i,o,b,s,⟨[],[],s.chs,[],.und⟩,false⟩::l)
def opD (o:Oper) (i:Nat) (l:List TR) (b:List Nat) (s:Sg):Option Y:=match o.guard with
 | none=>aaV V ops k o i l b s
 | some (g,want)=>match recAt g l with
  | some y=>match y.r.av with
   | .one (.val (.bool c))=>match c==want with
    | true=>aaV V ops k o i l b s
    | false=>WK k o i l b s
   | .und=>WK k o i l b s
   | _=>none
  | none=>none
def goD:List Oper->Nat->List TR->Option Y
 | [],_,l=>k l
 | o::os,i,l=>(fun b=>opD V ops (goD os (i+1)) o i l b (subS s0 l i b)) (bOf l (edgesOf o) [])
end
def GdOk (l:List TR) (x:TR):Prop:=match x.o.guard with
 | none=>x.run=true
 | some (g,want)=> ∃y∈l,y.i=g/\((∃c:Bool,y.r.av= .one (.val (.bool c))/\x.run=(c==want))\/(y.r.av= .und/\x.run=false))
structure RecOk (P:Program) (w0:World) (n:Nat) (s0:Sg) (ops:List Oper) (l:List TR) (x:TR):Prop where
 hi:x.i=l.length
 ho:ops[x.i]? =some x.o
 hb:x.b=bOf l (edgesOf x.o) []
 hs:x.s=subS s0 l x.i x.b
 good:x.run=true->Good P w0 x.s x.o x.r/\okO n x.s x.o=true
 skip:x.run=false->x.r=⟨[],[],x.s.chs,[],.und⟩
 gd:GdOk l x
def AllOk (P:Program) (w0:World) (n:Nat) (s0:Sg) (ops:List Oper):List TR->Prop
 | [] =>True
 | x::l=>RecOk P w0 n s0 ops l x/\AllOk P w0 n s0 ops l
section
variable {Y:Type} {V:Env} {P:Program} {w0:World} {ops:List Oper} {s0:Sg} {k:List TR->Option Y} {res:Y}
theorem Aa {i:Nat} {y:TR} : ∀ {l:List TR},recAt i l=some y->y∈l/\y.i=i
 | x::l,h=>by
  unfold recAt at h;split at h
  ·rename_i c;obtain rfl:=ae h;exact ⟨by simp,al c⟩
  ·obtain ⟨b,a⟩:=Aa h;exact ⟨by simp[b],a⟩
theorem tQ {s:Sg} {o:Oper} {r:Res} {av:AV} (h:Good P w0 s o r) (hv: ∀θ,av.v θ=r.av.v θ) (b: ∀(J:Hp) (θ:Th) n chs,av.ok P w0 J θ n chs):Good P w0 s o ⟨r.rs,r.ns,r.rest,r.gives,av⟩:=
 ⟨h.perm,h.says,fun J θ c=>OpT.weak (h.op J θ c) (fun v a=>⟨b _ _ _ _,(hv _).trans a.2.1,a.2.2⟩) (fun v _=>rfl)⟩
theorem OV {g:Bool} {s:Sg} {o:Oper} {r:Res} {f:AV->Option Y} (h:OT g r.av f=some res) (c:Good P w0 s o r): ∃av,f av=some res/\Good P w0 s o ⟨r.rs,r.ns,r.rest,r.gives,av⟩:=by
 unfold OT at h;split at h
 ·exact ⟨r.av,h,c⟩
 ·split at h
  ·rename_i b a;cases b with
   | true=>exact ⟨_,h,tQ c (fun θ=>by rw[a]) fun _ _ _ _=>Eq.refl true⟩
   | false=>exact ⟨_,h,tQ c (fun θ=>by rw[a]) fun _ _ _ _=>Eq.refl true⟩
  ·rename_i b a;cases b with
   | true=>exact ⟨_,h,tQ c (fun θ=>by rw[a];rfl) fun _ _ _ _=>Eq.refl true⟩
   | false=>exact ⟨_,h,tQ c (fun θ=>by rw[a];rfl) fun _ _ _ _=>Eq.refl true⟩
  ·cases h
theorem OW (s:TTok P V.tt) (p:FTok P V.ft): ∀ {os:List Oper} {i:Nat} {l:List TR},goD V ops s0 k os i l=some res->i=l.length->ops.drop i=os->AllOk P w0 V.n s0 ops l-> ∃l',k l'=some res/\AllOk P w0 V.n s0 ops l'/\l'.length=ops.length
 | [],i,l,h,hi,hd,ha=>⟨l,h,ha,by
  have A:=List.drop_eq_nil_iff.1 hd
  have: ∀ {l:List TR},AllOk P w0 V.n s0 ops l->l.length<=ops.length:=by
   intro l;induction l with
   | nil=>intro _;exact Nat.zero_le _
   | cons x l ih =>
    rintro ⟨u,C⟩
    have:=(List.getElem?_eq_some_iff.1 u.ho).1
    rw[u.hi] at this;exact this
  have:=this ha
  omega⟩
 | o::os,i,l,h,hi,hd,ha=>by
  have t:ops[i]? =some o:=by
   have:=congrArg (·[0]?) hd
   simpa using this
  have j:ops.drop (i+1)=os:=by
   rw[<-List.drop_drop,hd];rfl
  have h:opD V ops (goD V ops s0 k os (i+1)) o i l (bOf l (edgesOf o) []) (subS s0 l i (bOf l (edgesOf o) []))=some res:=h;have run:(GdOk l ⟨i,o,bOf l (edgesOf o) [],subS s0 l i (bOf l (edgesOf o) []),⟨[],[],[],[],.und⟩,true⟩)->aaV V ops (goD V ops s0 k os (i+1)) o i l (bOf l (edgesOf o) []) (subS s0 l i (bOf l (edgesOf o) []))=some res-> ∃l',k l'=some res/\AllOk P w0 V.n s0 ops l'/\l'.length=ops.length:=by
   intro a h;obtain ⟨w,h⟩:=ai h;obtain ⟨r,v,q⟩:=OK (w0:=w0) s p h;obtain ⟨B,h,q⟩:=OV v q;exact OW s p h (by rw[hi];rfl) j ⟨⟨hi,t,rfl,rfl,fun _=>⟨q,w⟩,fun e=>(by cases e),a⟩,ha⟩
  have m:(GdOk l ⟨i,o,bOf l (edgesOf o) [],subS s0 l i (bOf l (edgesOf o) []),⟨[],[],[],[],.und⟩,false⟩)->WK (goD V ops s0 k os (i+1)) o i l (bOf l (edgesOf o) []) (subS s0 l i (bOf l (edgesOf o) []))=some res-> ∃l',k l'=some res/\AllOk P w0 V.n s0 ops l'/\l'.length=ops.length:=by
   intro a h;exact OW s p h (by rw[hi];rfl) j ⟨⟨hi,t,rfl,rfl,fun e=>(by cases e),fun _=>rfl,a⟩,ha⟩
  unfold opD at h;split at h
  ·rename_i a;exact run (by unfold GdOk;simp only[a]) h
  ·rename_i g want a;split at h
   ·rename_i y z;obtain ⟨f,b⟩:=Aa z;split at h
    ·rename_i c n;split at h
     ·rename_i d;exact run (by unfold GdOk;simp only[a];exact ⟨y,f,b,.inl ⟨c,n,d.symm⟩⟩) h
     ·rename_i d;exact m (by unfold GdOk;simp only[a];exact ⟨y,f,b,.inl ⟨c,n,d.symm⟩⟩) h
    ·rename_i n;exact m (by unfold GdOk;simp only[a];exact ⟨y,f,b,.inr ⟨n,trivial⟩⟩) h
    ·cases h
   ·cases h
end
def A3 (l:List (Nat×Nat×AV)) (t:Nat):Option Nat:=match l with
 | [] =>none
 | (u,k,_)::l=>if Nat.beq u t then some k else A3 l t
def numOf (e:Ent):List Ent->Nat
 | [] =>0
 | x::l=>if sameKey x e then 0 else numOf e l+1
def Uu (n0 v:Nat):Option Nat:=if Nat.blt v n0 then none else some (v - n0)
def GJ (n0:Nat) (env:List (Nat×Nat×AV)):List Nat->List (Nat×Option Nat)
 | [] =>[]
 | t::l=>match A3 env t with
  | some v=>(t,Uu n0 v)::GJ n0 env l
  | none=>GJ n0 env l
def opK (n0:Nat) (T:List Ent) (ops:Array Oper) (x:TR):OpK:=⟨x.r.rs.map (numOf · T),x.r.ns.map (numOf · T),(lF n0 x).map (numOf · T),GJ n0 x.s.env (slotsOf ops x.o)⟩
def OX (n0:Nat):List (Nat×Nat×AV)->List Nat->List (Nat×Option Nat)
 | [],_=>[]
 | e::l,seen=>match vX e.1 seen with
  | true=>OX n0 l seen
  | false=>(e.1,Uu n0 e.2.1)::OX n0 l (e.1::seen)
def pI (s0:Sg) (ops:List Oper) (l:List TR) (T:List Ent):Skel:=
 ⟨(l.map (opK s0.nxt T ops.toArray)).reverse,T.length,s0.chs.map (numOf · T),(l.map (·.b)).reverse,OX s0.nxt (Sr s0 l).env [],(Sr s0 l).chs.map (numOf · T)⟩
def jd:List Ent->Bool
 | [] =>true
 | e::l=> !(l.any fun x=>sameKey x e)&&jd l
def nj:List Ent->Bool
 | [] =>true
 | e::l=>Cw e.1 l&&nj l
def WL (h:Hdr) (ver:Nat) (e:Ent):Bool:=Hdr.beq e.1 h&&(Nat.beq e.2.1 ver || match e.2.2 with
 | .hole over _ _ _ _ _ _ _ _ _=>Nat.beq over ver
 | _=>false)
def allowed (n0:Nat) (x:TR) (v:Nat):Bool:=Nat.blt v n0 || (Nat.beq (v - n0) x.i || vX (v - n0) x.b)
def Uv (n0:Nat) (x:TR):List (Hdr×Nat):=x.r.av.elos++x.r.gives.flatMap fun g=>g.2.elos (n0+x.i)
def Ss (x:TR):List Nat:=x.r.av.ids++x.r.gives.flatMap fun g=>Dl g.1 g.2
def A4 (n0:Nat) (x:TR):Bool:=Cp (Ss x) (allowed n0 x)&&(Uv n0 x).all fun q=>(x.r.chs (n0+x.i)).any (WL q.1 q.2) || (Nat.beq q.2 (n0+x.i) && !(x.r.gives.any fun g=>Hdr.beq g.1 q.1))
def knS (s0:Sg) (t:Nat):Bool:=(look s0.env t).isSome
def Uw (n:Nat) (s0:Sg) (ops:List Oper) (l:List TR) (T:List Ent):Bool:=nj s0.chs&&(jd T&&(l.all (A4 s0.nxt)&&((pI s0 ops l T).ok n (knS s0) ops&&(pI s0 ops l T).okB (knS s0) ops)))
section
variable {Y:Type} (V:Env)
def A5 (s0:Sg):List Oper->List Hdr
 | [] =>[]
 | o::os=>Dj s0 o.op.operands.toList++A5 s0 os
def Kf (ops:List Oper) (k:Sg->Option Y) (s0:Sg):Option Y:=goD V ops s0 (fun l=>bO (Uw V.n s0 ops l (iY s0.nxt s0.chs l)) (k (Sr s0 l))) ops 0 []
def Ux (tr:Trs) (s0:Sg):List Oper->List (Bool×Hdr)
 | [] =>[]
 | o::os=>ldF tr s0 o++(abN tr s0 o++Ux tr s0 os)
def YQ (o:Oper):Bool:=match o.op with
 | .indexAddr _ _ _=>true
 | _=>false
def YR (tr:Trs) (ops:List Oper):Trs:=match ops.any YQ with
 | true=>tr
 | false=>ON tr
def Kg (tr:Trs) (ops:List Oper) (s:Sg):Sg:=match tr with
 | [] =>s
 | _=>RF (YR tr ops) (Ux (YR tr ops) s ops) s
def isApp (o:Oper):Bool:=match o.op with
 | .buildSlice _ _ _=>true
 | _=>false
def aal (s:Sg):List Oper->List Hdr
 | [] =>[]
 | o::os=>match o.op with
  | .move x=>match opd s x with
   | some (.one (.own h))=>h::aal s os
   | _=>aal s os
  | _=>aal s os
def EK:List Hdr->Sg->Sg
 | [],s=>s
 | h::hs,s=>EK hs (xT h s)
def wH (ops:List Oper) (s:Sg):Sg:=match ops.any YQ && !ops.any isApp with
 | true=>EK (aal s ops) s
 | false=>s
def Su (tr:Trs) (ops:List Oper) (s0:Sg):Sg:=match wH ops (rj s0) with
 | s=>Kg tr ops (wD (A5 s ops) s)
def YS (ops:List Oper) (k:Sg->Option Y) (s:Sg):Option Y:=Kf V ops k (Su V.tr ops s)
end
theorem xV {a b:Ent} :sameKey a b=true↔a.2.1=b.2.1/\a.1=b.1:=by
 unfold sameKey;rw[aj,XW];grind[Hdr.beq_eq,Ei]
theorem yX {l:List Ent} :jd l=true-> ∀a∈l,∀b∈l,a.2.1=b.2.1->a.1=b.1->a=b:=by
 induction l with
 | nil=>grind
 | cons e l ih =>
  intro h a j b i;unfold jd at h;rw[aj,Bool.not_eq_true'] at h;have ⟨k,m⟩:=h;have key: ∀x∈l,¬(x.2.1=e.2.1/\x.1=e.1):=fun x o n=>by
   have:(l.any fun x=>sameKey x e)=true:=List.any_eq_true.2 ⟨x,o,xV.2 n⟩
   rw[k] at this;cases this
  intro f g;rcases aA j with d | d
  ·rcases aA i with c | c
   ·rw[d,c]
   ·rw[d] at f g;exact absurd ⟨f.symm,g.symm⟩ (key b c)
  ·rcases aA i with c | c
   ·rw[c] at f g;exact absurd ⟨f,g⟩ (key a d)
   ·exact ih m a d b c f g
theorem GK {l:List Ent} :nj l=true-> ∀a∈l,∀b∈l,a.1=b.1->a=b:=by
 induction l with
 | nil=>grind
 | cons e l ih =>
  intro h a i b f;unfold nj at h;rw[aj] at h;have ⟨g,j⟩:=h;intro k;rcases aA i with d | d
  ·rcases aA f with c | c
   ·rw[d,c]
   ·rw[d] at k;exact absurd k.symm (pG g c)
  ·rcases aA f with c | c
   ·rw[c] at k;exact absurd k (pG g d)
   ·exact ih j a d b c k
theorem tR {e:Ent} : ∀ {T:List Ent},jd T=true->e∈T->T[numOf e T]? =some e
 | x::T,hd,b=>by
  unfold numOf;split
  ·rename_i f;have ⟨c,d⟩:=xV.1 f;exact congrArg some (yX hd x (by simp) e b c d)
  ·have a:=hd;unfold jd at a;rw[aj] at a;rcases aA b with rfl | b
   ·grind[absurd,xV]
   ·exact tR a.2 b
theorem Sv {h:Hdr} {ver:Nat} {e:Ent} (k:WL h ver e=true): ∃c,Says e h ver c:=by
 unfold WL at k;rw[aj,Bool.or_eq_true] at k;have ⟨b,a⟩:=k;have b:=Hdr.beq_eq b;have ⟨g,v,c⟩:=e;rcases a with a | a
 ·exact ⟨c,b,.inl ⟨al a,rfl⟩⟩
 ·cases c with
  | hole over t d u y f i l off j=>exact ⟨.own t d,b,.inr ⟨al a,rfl⟩⟩
  | _=>cases a
section
variable {P:Program} {w0:World} {n:Nat} {s0:Sg} {ops:List Oper} {l:List TR}
theorem AllOk.lt:AllOk P w0 n s0 ops l-> ∀y∈l,y.i<l.length:=by
 induction l with
 | nil=>grind
 | cons w l ih =>
  rintro ⟨b,c⟩ y a;rcases aA a with rfl | a
  ·rw[b.hi,aH];omega
  grind
theorem AllOk.uniq:AllOk P w0 n s0 ops l-> ∀x∈l,∀y∈l,x.i=y.i->x=y:=by
 induction l with
 | nil=>grind
 | cons w l ih =>
  rintro ⟨d,c⟩ x b y a h;have e:=d.hi;rcases aA b with b | b
  ·rcases aA a with a | a
   ·grind
   ·have:=c.lt y a
    grind
  ·rcases aA a with a | a
   ·have:=c.lt x b
    grind
   grind
theorem AllOk.get {x:TR} :AllOk P w0 n s0 ops l->x∈l-> ∃a,RecOk P w0 n s0 ops a x/\AllOk P w0 n s0 ops a/\(∀y∈a,y∈l)/\ ∀y∈l,y.i<x.i->y∈a:=by
 induction l with
 | nil=>grind
 | cons z l ih =>
  rintro ⟨g,d⟩ b;rcases aA b with b | b
  ·grind
  ·have ⟨a,e,f,i,k⟩:=ih d b;refine ⟨a,e,f,fun y c=>by grind,fun y c h=>?_⟩;rcases aA c with c | c
   ·have m:=d.lt x b;have j:=g.hi;grind
   grind
theorem AllOk.at {α:Type} (f:TR->α):AllOk P w0 n s0 ops l-> ∀i,i<l.length-> ∃x∈l,x.i=i/\(l.map f).reverse[i]? =some (f x):=by
 induction l with
 | nil=>grind
 | cons w l ih =>
  rintro ⟨a,d⟩ i b;by_cases h:i<l.length
  ·grind
  ·have c:i=l.length:=by rw[aH] at b;omega
   subst c;refine ⟨w,by simp,a.hi,?_⟩;grind
theorem AllOk.opAt (a:AllOk P w0 n s0 ops l) {x:TR} (c:x∈l) (T:List Ent):(pI s0 ops l T).op x.i=opK s0.nxt T ops.toArray x/\(pI s0 ops l T).before x.i=x.b:=by
 have b:=a.lt x c;have ⟨y,d,e,i⟩:=a.at (opK s0.nxt T ops.toArray) x.i b;have ⟨z,g,f,h⟩:=a.at (·.b) x.i b;obtain rfl:=a.uniq y d x c e;obtain rfl:=a.uniq z g y c f;constructor
 ·show (l.map (opK s0.nxt T ops.toArray)).reverse.getD z.i _=_;grind
 ·show (l.map (·.b)).reverse.getD z.i [] =_;grind
theorem lG {n0:Nat} {chs:List Ent} {e:Ent} : ∀ {l:List TR},e∈iY n0 chs l↔e∈chs\/ ∃x∈l,e∈lF n0 x
 | [] =>by simp[iY]
 | y::l=>by
  unfold iY;rw[List.mem_append,lG (l:=l)];grind
theorem j5 {n0:Nat} {x:TR} {e:Ent} (h:e∈lF n0 x):e.2.1=n0+x.i/\(e.1,e.2.2)∈x.r.gives:=by
 obtain ⟨g,a,rfl⟩:=List.mem_map.1 h;grind
theorem vo {n0:Nat} {env:List (Nat×Nat×AV)} {e:Nat×Nat×AV} : ∀ {l:List TR},e∈A2 n0 env l->e∈env\/ ∃x∈l,x.o.dst=some e.1/\e.2.1=n0+x.i/\e.2.2=x.r.av
 | [],h=>.inl h
 | y::l,h=>by
  unfold A2 Nd at h;split at h
  ·rcases aA h with rfl | h
   ·grind
   ·exact (vo h).imp id fun ⟨x,a,k⟩=>⟨x,by grind,k⟩
  ·exact (vo h).imp id fun ⟨x,a,k⟩=>⟨x,by grind,k⟩
theorem OY {n0:Nat} {b:List Nat} {v:Nat} :inB n0 b v=true↔v<n0\/v - n0∈b:=by unfold inB;rw[Bool.or_eq_true,XX,oQ]
theorem xW {i:Nat} {b:List Nat} {e:Ent} (h:e∈(subS s0 l i b).chs):e∈iY s0.nxt s0.chs l/\(e.2.1<s0.nxt\/e.2.1 - s0.nxt∈b):=by
 have ⟨c,a⟩:=List.mem_filter.1 h;simp_all[aj,OY]
theorem EL {i:Nat} {b:List Nat} {e:Nat×Nat×AV} (h:e∈(subS s0 l i b).env):e∈A2 s0.nxt s0.env l/\(e.2.1<s0.nxt\/e.2.1 - s0.nxt∈b):=by
 have ⟨c,a⟩:=List.mem_filter.1 h;grind[OY]
def sk (θ:Th) (n0:Nat) (vs:Nat->Value):Th:=fun id=>if id<n0 then θ id else vs (id - n0)
theorem oR {θ:Th} {n0:Nat} {vs:Nat->Value} :Same n0 θ (sk θ n0 vs):=fun i a=>if_pos a
theorem Sw {θ:Th} {n0 i:Nat} {vs:Nat->Value} {v:Value} :sk θ n0 (upd vs i v)=upd (sk θ n0 vs) (n0+i) v:=by
 funext id;show (if id<n0 then θ id else if id - n0=i then v else vs (id - n0))=if id=n0+i then v else if id<n0 then θ id else vs (id - n0);grind
def XY (P:Program) (w0:World) (J:Hp) (θ:Th) (n0:Nat) (x:TR) (v:Value):Prop:=
 x.r.av.ok P w0 J θ (n0+x.i+1) (x.r.chs (n0+x.i))/\x.r.av.v θ=v/\ ∀g∈x.r.gives,okE P w0 J θ (n0+x.i+1) (x.r.chs (n0+x.i)) (g.1,n0+x.i,g.2)
end
section
variable {P:Program} {w0:World} {n:Nat} {s0:Sg} {ops:List Oper} {l:List TR} {J:Hp} {θ:Th} {vs:Nat->Value}
def MM (s0:Sg) (l:List TR) (h:Hdr) (ver:Nat) (c:Chk):Prop:=(∃e0∈s0.chs,Says e0 h ver c)\/ ∃x∈l,(h,ver,c)∈lF s0.nxt x
theorem IB {e:Ent} {h:Hdr} {ver:Nat} {c:Chk} {chs:List Ent} {m:Nat} (k:okE P w0 J θ m chs e) (hs:Says e h ver c):ver<m:=by
 have ⟨g,v,x⟩:=e;obtain ⟨-,hs⟩:=hs;rcases hs with ⟨a,-⟩ | hs
 ·rw[<-a];exact k.2.1
 ·cases x with
  | hole over t d u y f i j off b =>
   rw[<-hs.1];exact Nat.lt_trans k.2.2.2.1 k.2.1
  | _=>exact hs.elim
theorem WM (B:nj s0.chs=true) (E:jd (iY s0.nxt s0.chs l)=true) (r:Fine P w0 J θ s0) {h:Hdr} {ver:Nat} {c c':Chk} (h1:MM s0 l h ver c) (z:MM s0 l h ver c'):c=c':=by
 have base: ∀p∈s0.chs,∀m∈s0.chs,∀c c',Says p h ver c->Says m h ver c'->c=c':=by
  intro p k m j c c' o e;cases GK B p k m j (o.1.trans e.1.symm);have q:=r.chs p k;have ⟨g,v,x⟩:=p;rcases o.2 with ⟨H,G⟩ | a
  ·rcases e.2 with ⟨D,C⟩ | b
   ·grind
   ·cases x with
    | hole over t d u y f i w off s =>
     have:=q.2.2.2.1
     have m:=b.1;omega
    | _=>exact b.elim
  ·rcases e.2 with ⟨D,C⟩ | b
   ·cases x with
    | hole over t d u y f i w off s =>
     have:=q.2.2.2.1
     have m:=a.1;omega
    | _=>exact a.elim
   ·cases x with
    | hole over t d u y f i w off s=>rw[a.2,b.2]
    | _=>exact a.elim
 rcases h1 with ⟨p,k,o⟩ | ⟨x,F,o⟩
 ·rcases z with ⟨m,j,e⟩ | ⟨y,A,e⟩
  ·grind
  ·have:=IB (r.chs p k) o
   have:=(j5 e).1
   grind
 ·rcases z with ⟨m,j,e⟩ | ⟨y,A,e⟩
  ·have:=IB (r.chs m j) e
   have:=(j5 o).1
   grind
  ·have:=yX E _ (lG.2 (.inr ⟨x,F,o⟩)) _ (lG.2 (.inr ⟨y,A,e⟩)) rfl rfl
   grind
theorem Kh (Y:nj s0.chs=true) (hK:jd (iY s0.nxt s0.chs l)=true) (E:Fine P w0 J θ s0) (ha:AllOk P w0 n s0 ops l) (Z: ∀x∈l,A4 s0.nxt x=true)
  (L1:List TR) (H: ∀y∈L1,y∈l) (b:List Nat) (i:Nat) (w: ∀j∈b,j<i)
  (q: ∀y∈l,y.i∈b->XY P w0 J (sk θ s0.nxt vs) s0.nxt y (vs y.i))
  (L: ∀y∈l,y.i∈b-> ∀e∈lF s0.nxt y,∀h d c,Says e h d c->MM s0 l h d c)
  (A: ∀y∈l,y.i∈b-> ∀e∈y.r.chs (s0.nxt+y.i),∀h d c,Says e h d c->MM s0 l h d c)
  (Q:(A2 s0.nxt s0.env L1).Pairwise fun a b=>a.2.1≠b.2.1):Fine P w0 J (sk θ s0.nxt vs) (subS s0 L1 i b):=by
 have own: ∀e∈(subS s0 L1 i b).chs,∀h d c,Says e h d c->MM s0 l h d c:=by
  intro e o h d c D;have ⟨g,m⟩:=xW o;rcases lG.1 g with g | ⟨y,s,g⟩
  ·exact .inl ⟨e,g,D⟩
  ·grind[hv,j5,Nat.add_sub_cancel_left]
 have u: ∀h d c,Mem s0.chs s0.nxt h d c-> ∀e∈(subS s0 L1 i b).chs,∀t,Says e h d t->t=c:=by
  intro h d c p e o t D;rcases own e o h d t D with ⟨O,C,k⟩ | ⟨y,s,k⟩
  ·exact p.2 O C t k
  ·have:=(j5 k).1
   have:=p.1
   grind
 have v: ∀y∈l,y.i∈b-> ∀h d,(h,d)∈Uv s0.nxt y-> ∀c,Mem (y.r.chs (s0.nxt+y.i)) (s0.nxt+y.i+1) h d c-> ∀e∈(subS s0 L1 i b).chs,∀t,Says e h d t->t=c:=by
  intro y s f h d r c p e o t D;have B:=Z y s;unfold A4 at B;rw[aj] at B
  have:=(List.all_eq_true.1 B.2) (h,d) r
  rcases Bool.or_eq_true_iff.1 this with this | this
  rotate_left
  ·rw[aj,Bool.not_eq_true'] at this;have V:=al this.1;rcases own e o h d t D with ⟨O,C,k⟩ | ⟨z,hz,k⟩
   ·have:=IB (E.chs O C) k
    omega
   ·have ⟨W,R⟩:=j5 k;grind[AllOk.uniq,Hdr.beq,List.any_eq_true,Ei]
  have ⟨X,G,M⟩:=List.any_eq_true.1 this;have ⟨T,F⟩:=Sv M;have N:=p.2 X G T F;subst N;exact WM Y hK E (own e o h d t D) (A y s f X G h d T F)
 refine ⟨fun e o=>?_,fun e o=>?_,List.Pairwise.filter _ Q,fun e o=>?_,E.lay⟩
 ·have ⟨g,m⟩:=EL o;rcases vo g with g | ⟨y,s,W,R,S⟩
  ·have:=E.env e g
   refine AV.ok_move (n:=s0.nxt) (Nat.le_add_right _ _) (fun h d c _ p=>u h d c p) ?_;exact AV.ok_same oR (aL _) Newer.rfl this Hp.le.rfl
  ·rcases m with m | m
   ·omega
   ·have f:y.i∈b:=by rw[R,Nat.add_sub_cancel_left] at m;exact m
    have I:=q y (H y s) f
    have:=w _ f
    rw[S];refine AV.ok_move (n:=s0.nxt+y.i+1) (by show s0.nxt+y.i+1<=s0.nxt+i;omega) (fun h d c r p=>v y (H y s) f h d (bm _ r) c p) I.1
 ·have ⟨g,m⟩:=EL o;rcases vo g with g | ⟨y,s,W,R,S⟩
  ·exact aD (E.ver e g) (Nat.le_add_right _ _)
  ·rcases m with m | m
   ·omega
   ·have:=w _ m
    show e.2.1<s0.nxt+i;omega
 ·have ⟨g,m⟩:=xW o;rcases lG.1 g with g | ⟨y,s,g⟩
  ·refine Ke (n:=s0.nxt) (Nat.le_add_right _ _) (fun h d c _ p=>u h d c p) ?_;exact gy oR (aL _) Newer.rfl (E.chs e g) Hp.le.rfl
  ·have ⟨hv,U⟩:=j5 g;rcases m with m | m
   ·omega
   ·have f:y.i∈b:=by rw[hv,Nat.add_sub_cancel_left] at m;exact m
    have I:=q y (H y s) f
    have:=w _ f
    have M:=I.2.2 _ U;have K:e=(e.1,s0.nxt+y.i,e.2.2):=by grind
    rw[K];refine Ke (n:=s0.nxt+y.i+1) (by show s0.nxt+y.i+1<=s0.nxt+i;omega) (fun h d c r p=>?_) M;exact v y (H y s) f h d (bq _ (List.mem_flatMap.2 ⟨_,U,r⟩)) c p
end
theorem OZ {t j:Nat} {l:List Nat} :j∈aak t l↔j=t\/j∈l:=by
 unfold aak;split
 ·rename_i h
  have:=oQ.1 h
  constructor
  ·exact fun h=>.inr h
  ·rintro (rfl | h)
   ·exact this
   ·exact h
 ·exact List.mem_cons
theorem GL {j:Nat} : ∀ {l acc:List Nat},j∈GI l acc↔j∈l\/j∈acc
 | [],acc=>by simp[GI]
 | t::l,acc=>by
  unfold GI;rw[GL (l:=l),OZ,List.mem_cons];constructor
  ·rintro (h | h | h) <;> simp[h]
  ·rintro ((h | h) | h) <;> simp[h]
def bAt (l:List TR) (k:Nat):List Nat:=match recAt k l with
 | some y=>y.b
 | none=>[]
theorem Uy {l:List TR} {j:Nat} : ∀ {js acc:List Nat},j∈bOf l js acc↔j∈acc\/ ∃k∈js,j=k\/j∈bAt l k
 | [],acc=>by simp[bOf]
 | k::js,acc=>by
  unfold bOf;rw[Uy (js:=js),GL,OZ];show (j∈bAt l k\/j=k\/j∈acc)\/_↔_;constructor
  ·rintro ((h | h | h) | ⟨b,a,h⟩)
   ·exact .inr ⟨k,by simp,.inr h⟩
   ·exact .inr ⟨k,by simp,.inl h⟩
   ·exact .inl h
   ·exact .inr ⟨b,by simp[a],h⟩
  ·rintro (h | ⟨b,a,h⟩)
   ·exact .inl (.inr (.inr h))
   ·rcases aA a with a | a
    ·subst a;rcases h with h | h
     ·exact .inl (.inr (.inl h))
     ·exact .inl (.inl h)
    ·exact .inr ⟨b,a,h⟩
theorem Dm {y:TR} : ∀ {l:List TR},y∈l-> ∃z,recAt y.i l=some z
 | x::l,h=>by
  unfold recAt;split
  ·exact ⟨_,rfl⟩
  ·rename_i a;rcases aA h with h | h
   ·rw[h] at a;exact absurd (Nat.beq_refl _) a
   ·exact Dm h
section
variable {P:Program} {w0:World} {n:Nat} {s0:Sg} {ops:List Oper} {l:List TR} {J:Hp} {θ:Th} {vs:Nat->Value}
theorem AllOk.closed (r:AllOk P w0 n s0 ops l) (i: ∀x∈l,∀j∈x.b,j<x.i): ∀x∈l,∀y∈l,y.i∈x.b-> ∀k∈y.b,k∈x.b:=by
 have main: ∀m,∀x∈l,x.i=m-> ∀y∈l,y.i∈x.b-> ∀k∈y.b,k∈x.b:=by
  intro m;induction m using Nat.strongRecOn with
  | _ m w =>
   intro x e A y h a k t;obtain ⟨C,s,B,u,v⟩:=r.get e;have g:=i x e _ a;have o:=v y h g;rw[s.hb,Uy] at a⊢;rcases a with a | ⟨q,p,a | a⟩
   ·cases a
   ·refine .inr ⟨q,p,.inr ?_⟩;subst a;obtain ⟨z,d⟩:=Dm o;unfold bAt;rw[d];obtain ⟨b,c⟩:=Aa d;obtain rfl:=r.uniq z (u z b) y h c;exact t
   ·refine .inr ⟨q,p,.inr ?_⟩;unfold bAt at a⊢;split at a
    ·rename_i z d;obtain ⟨b,c⟩:=Aa d;have f:=B.lt z b;rw[<-s.hi] at f;exact w z.i (by omega) z (u z b) rfl y h a k t
    ·cases a
 exact fun x e=>main x.i x e rfl
theorem Uz (d:Fine P w0 J θ s0):AllOk P w0 n s0 ops l->(A2 s0.nxt s0.env l).Pairwise fun a b=>a.2.1≠b.2.1:=by
 induction l with
 | nil=>intro _;exact d.nd
 | cons x l ih =>
  rintro ⟨g,c⟩;refine nd_go x.o.dst (ih c) fun e i=>?_;rcases vo i with h | ⟨y,f,k,m,j⟩
  ·have:=d.ver e h;omega
  ·have:=c.lt y f
   have:=g.hi
   omega
where nd_go {env:List (Nat×Nat×AV)} {k:Nat} {av:AV} (d:Option Nat) (h:env.Pairwise fun a b=>a.2.1≠b.2.1) (hv: ∀e∈env,e.2.1<k):(Nd d k av env).Pairwise fun a b=>a.2.1≠b.2.1:=FQ h hv
theorem words (L:nj s0.chs=true) (U:jd (iY s0.nxt s0.chs l)=true) (H:Fine P w0 J θ s0) (F:AllOk P w0 n s0 ops l) (O: ∀x∈l,A4 s0.nxt x=true) (w: ∀x∈l,∀j∈x.b,j<x.i)
  (B:List Nat) (A: ∀y∈l,y.i∈B-> ∀k∈y.b,k∈B) (r: ∀y∈l,y.i∈B->XY P w0 J (sk θ s0.nxt vs) s0.nxt y (vs y.i)) :
  ∀x∈l,(∀k∈x.b,k∈B)->Fine P w0 J (sk θ s0.nxt vs) x.s/\(∀e∈lF s0.nxt x,∀h a c,Says e h a c->MM s0 l h a c)/\ ∀e∈x.r.chs (s0.nxt+x.i),∀h a c,Says e h a c->MM s0 l h a c:=by
 have main: ∀m,∀x∈l,x.i=m->(∀k∈x.b,k∈B)->Fine P w0 J (sk θ s0.nxt vs) x.s/\(∀e∈lF s0.nxt x,∀h a c,Says e h a c->MM s0 l h a c)/\ ∀e∈x.r.chs (s0.nxt+x.i),∀h a c,Says e h a c->MM s0 l h a c:=by
  intro m;induction m using Nat.strongRecOn with
  | _ m N =>
   intro x t S i;obtain ⟨R,s,T,G,V⟩:=F.get t;have z: ∀y∈l,y.i∈x.b->_:=fun y g d=>N y.i (by have:=w x t _ d;omega) y g rfl (A y g (i _ d));have E:Fine P w0 J (sk θ s0.nxt vs) x.s:=by
    rw[s.hs];exact Kh L U H F O R G x.b x.i (w x t) (fun y g d=>r y g (i _ d)) (fun y g d=>(z y g d).2.1) (fun y g d=>(z y g d).2.2) (Uz H T)
   have p: ∀e∈x.s.chs,∀h a c,Says e h a c->MM s0 l h a c:=by
    intro e b h a c q;rw[s.hs] at b;obtain ⟨o,f⟩:=xW b;rcases lG.1 o with o | ⟨y,g,o⟩
    ·exact .inl ⟨e,o,q⟩
    ·have hv:=(j5 o).1;rcases f with f | f
     ·omega
     ·rw[hv,Nat.add_sub_cancel_left] at f;exact (z y (G y g) f).2.1 e o h a c q
   have v: ∀e∈lF s0.nxt x,∀h a c,Says e h a c->MM s0 l h a c:=by
    intro e b h a c q;cases u:x.run with
    | true =>
     obtain ⟨D,M⟩:=s.good u;obtain ⟨hv,K⟩:=j5 b;obtain ⟨o,f⟩:=q;rcases f with ⟨f,I⟩ | f
     ·refine .inr ⟨x,t,?_⟩
      have:e=(h,a,c):=by rw[I,<-o,<-f]
      rw[<-this];exact b
     ·obtain ⟨Q,C,k⟩:=D.says J _ E _ K a c f;simp only at k;rw[o] at k;exact p Q C h a c k
    | false =>
     have:=s.skip u
     unfold lF at b;rw[this] at b;cases b
   refine ⟨E,v,fun e b h a c q=>?_⟩;unfold Res.chs at b;rcases aG b with b | b
   ·exact v e b h a c q
   ·refine p e ?_ h a c q;cases u:x.run with
    | true =>
     obtain ⟨D,M⟩:=s.good u;exact D.perm.mem_iff.2 (by rcases aG b with b | b <;> simp[b])
    | false =>
     rw[s.skip u] at b;simpa using b
 exact fun x t i=>main x.i x t rfl i
theorem tS {t:Nat} {av:AV} : ∀ {env:List (Nat×Nat×AV)},look env t=some av-> ∃v,A3 env t=some v/\(t,v,av)∈env
 | (u,k,x)::l,h=>by
  unfold look at h;unfold A3;split at h
  ·rename_i a;obtain rfl:=ae h;rw[if_pos a,al a];exact ⟨k,rfl,by simp⟩
  ·rename_i a;rw[if_neg a];obtain ⟨v,b,c⟩:=tS h;exact ⟨v,b,by simp[c]⟩
theorem O0 {t v:Nat} {av:AV} {f:Nat×Nat×AV->Bool} (j: ∀e∈s0.env,f e=true):look ((A2 s0.nxt s0.env l).filter f) t=some av->A3 ((A2 s0.nxt s0.env l).filter f) t=some v->v<s0.nxt->look s0.env t=some av:=by
 induction l with
 | nil =>
  intro b a c;rw[show (A2 s0.nxt s0.env []).filter f=s0.env from List.filter_eq_self.2 j] at b;exact b
 | cons x l ih =>
  intro b a c;unfold A2 Nd at b a;split at b
  ·rename_i d h;rw[h] at a;simp only at a;rw[List.filter_cons] at b a;split at b
   ·rename_i g;rw[if_pos g] at a;unfold look at b;unfold A3 at a;split at b
    ·rename_i i;rw[if_pos i] at a
     have:=ae a
     omega
    ·rename_i i;rw[if_neg i] at a;exact ih b a c
   ·rename_i g;rw[if_neg g] at a;exact ih b a c
  ·rename_i h;rw[h] at a;exact ih b a c
theorem YT (m:Fine P w0 J θ s0) {b:List Nat} {i:Nat} {L1:List TR} (s: ∀y∈L1,y∈l) (c: ∀y∈l,y.i∈b->XY P w0 J (sk θ s0.nxt vs) s0.nxt y (vs y.i)) {t v:Nat} {av:AV}
  (h1:look (subS s0 L1 i b).env t=some av) (p:A3 (subS s0 L1 i b).env t=some v):(match Uu s0.nxt v with | some j=>vs j | none=>((envL θ s0).lookup t).getD undef)=av.v (sk θ s0.nxt vs):=by
 obtain ⟨w,r,q⟩:=tS h1;obtain rfl:=ae (p.symm.trans r);unfold Uu;by_cases hv:v<s0.nxt
 ·rw[if_pos (XX.2 hv)];have o:=O0 (fun e g=>OY.2 (.inl (m.ver e g))) h1 p hv;obtain ⟨e,g,rfl⟩:=tK o;rw[AV.v_same (oR (vs:=vs)) (m.env e g)];simp only;rw[show (envL θ s0).lookup t=_ from iB o];rfl
 ·rw[if_neg (fun h=>hv (XX.1 h))];obtain ⟨k,a⟩:=EL q;rcases vo k with k | ⟨y,u,x,d,f⟩
  ·exact absurd (m.ver _ k) hv
  ·rcases a with a | a
   ·exact absurd a hv
   ·have d:v=s0.nxt+y.i:=d;have f:av=y.r.av:=f;have a:v - s0.nxt∈b:=a;rw[d,Nat.add_sub_cancel_left] at a;rw[d,Nat.add_sub_cancel_left,f];exact (c y (s y u) a).2.1.symm
end
def Sx (P:Program) (w0:World) (J:Hp) (θ:Th) (n0:Nat) (l:List TR) (T:List Ent):Sm where
 fact i vs:= ∀x∈l,x.i=i->XY P w0 J (sk θ n0 vs) n0 x (vs i)
 chunk k vs:=match T[k]? with
  | some e=>toCh P (sk θ n0 vs) e
  | none=>Ch.fr (fun _=>none) []
theorem IC {n0 t v:Nat} {env:List (Nat×Nat×AV)} : ∀ {a:List Nat},t∈a->A3 env t=some v->Skel.srcOf t (GJ n0 env a)=some (Uu n0 v)
 | u::a,h,hv=>by
  unfold GJ;by_cases b:u=t
  ·subst b;rw[hv];simp only;unfold Skel.srcOf;rw[if_pos (Nat.beq_refl u)]
  ·have c:t∈a:=(aA h).resolve_left fun e=>b e.symm;cases d:A3 env u with
   | none=>exact IC c hv
   | some w =>
    simp only;unfold Skel.srcOf;rw[if_neg fun e=>b (al e)];exact IC c hv
theorem fin_ok {n0 t v:Nat} {f:Option Nat->Value} : ∀ {env:List (Nat×Nat×AV)} {seen:List Nat},t∉seen->A3 env t=some v->((OX n0 env seen).map fun q=>(q.1,f q.2)).lookup t=some (f (Uu n0 v))
 | (u,k,x)::l,seen,hs,hv=>by
  unfold OX;unfold A3 at hv;split
  ·rename_i a;have a:=oQ.1 a;have c:u≠t:=fun e=>hs (e ▸ a);rw[if_neg fun e=>c (al e)] at hv;exact fin_ok hs hv
  ·rename_i a;rw[List.map_cons,List.lookup_cons];by_cases b:u=t
   ·subst b;rw[if_pos (Nat.beq_refl u)] at hv;obtain rfl:=ae hv;simp
   ·rw[if_neg fun e=>b (al e)] at hv
    have:(t==u)=false:=by simpa using fun e=>b e.symm
    rw[this];refine fin_ok (fun h=>?_) hv;rcases aA h with h | h
    ·exact b h.symm
    ·exact hs h
section
variable {V:Env} {P:Program} {I:Hp} {w0 w:World} {F:Ch} {J:Hp} {θ:Th} {s0:Sg} {ops:List Oper} {l:List TR} {a:Act}
theorem Ki {x:TR} {i:Nat} (h:i∈x.r.av.ids):i∈Ss x:=bm _ h
theorem Kj {x:TR} {g:Hdr×Chk} {i:Nat} (b:g∈x.r.gives) (h:i∈Dl g.1 g.2):i∈Ss x:=bq _ (List.mem_flatMap.2 ⟨g,b,h⟩)
theorem YU (z:Fine P w0 J θ s0) {n:Nat} (s:AllOk P w0 n s0 ops l) (r:l.length=ops.length) (A:jd (iY s0.nxt s0.chs l)=true) (C: ∀x∈l,A4 s0.nxt x=true) :
  Loc (pI s0 ops l (iY s0.nxt s0.chs l)) (Sx P w0 J θ s0.nxt l (iY s0.nxt s0.chs l)) ops.length:=by
 have agree: ∀x∈l,∀f b:Nat->Value,(∀j,j=x.i\/j∈x.b->b j=f j)-> ∀i∈Ss x,sk θ s0.nxt b i=sk θ s0.nxt f i:=by
  intro x m f b hv i c
  have:=C x m
  unfold A4 at this;rw[aj,sL] at this;have q:=this.1 i c;unfold allowed at q;rw[Bool.or_eq_true,Bool.or_eq_true,XX,XW,oQ] at q;unfold sk;by_cases d:i<s0.nxt
  ·rw[if_pos d,if_pos d]
  ·rw[if_neg d,if_neg d];exact hv _ (q.resolve_left d)
 refine ⟨fun i c f b hv h x m o=>?_,fun k t f b=>?_,fun i c k t f b hv=>?_⟩
 ·subst o;rw[(s.opAt m _).2] at hv;have v:=agree x m f b hv;obtain ⟨q,D,B⟩:=h x m rfl;refine ⟨AV.ok_loc (fun i c=>v i (Ki c)) q,?_,fun g y=>WJ (fun i c=>v i (Kj y c)) (B g y)⟩;rw[AV.v_loc fun i c=>v i (Ki c),D,hv _ (.inl rfl)]
 ·obtain ⟨e,p,rfl⟩:=List.mem_map.1 t;have u:=tR A (lG.2 (.inl p));show (match _ with | some e=>toCh P (sk θ s0.nxt b) e | none=>_)=match _ with | some e=>toCh P (sk θ s0.nxt f) e | none=>_
  rw[u];simp only;rw[oM oR (z.chs e p),oM oR (z.chs e p)]
 ·obtain ⟨x,m,o,-⟩:=s.at (fun x=>x) i (by rw[r];exact c);subst o;rw[(s.opAt m _).2] at hv;rw[(s.opAt m _).1] at t;obtain ⟨e,p,rfl⟩:=List.mem_map.1 t;have u:=tR A (lG.2 (.inr ⟨x,m,p⟩));show (match _ with | some e=>toCh P (sk θ s0.nxt b) e | none=>_)=match _ with | some e=>toCh P (sk θ s0.nxt f) e | none=>_
  rw[u];simp only;exact Sq fun i c=>agree x m f b hv i (Kj (j5 p).2 c)
theorem WN (hf:Fine P w0 J θ s0) {n:Nat} (Q:AllOk P w0 n s0 ops l) (hlen:l.length=ops.length) (hB:nj s0.chs=true) (hK:jd (iY s0.nxt s0.chs l)=true) (hc: ∀x∈l,A4 s0.nxt x=true)
  (hok:(pI s0 ops l (iY s0.nxt s0.chs l)).ok n (knS s0) ops=true) (hkn: ∀t,knS s0 t=true->((envL θ s0).lookup t).isSome=true) (hlt: ∀x∈l,∀j∈x.b,j<x.i) :
  ∀i o,ops[i]? =some o->(pI s0 ops l (iY s0.nxt s0.chs l)).goal (Sx P w0 J θ s0.nxt l (iY s0.nxt s0.chs l)) P J w0 (envL θ s0) i o:=by
 intro i o ho d p;obtain ⟨x,T,hxi,-⟩:=Q.at (fun x=>x) i (by rw[hlen];exact (List.getElem?_eq_some_iff.1 ho).1);subst hxi;obtain ⟨l1,G,h2,h3,h4⟩:=Q.get T;obtain rfl:x.o=o:=ae (G.ho.symm.trans ho);obtain ⟨Z,e2⟩:=Q.opAt T (iY s0.nxt s0.chs l);have hG:=Skel.good_of_ok hkn hok ho;rw[e2] at p;have f: ∀y∈l,y.i∈x.b->XY P w0 J (sk θ s0.nxt d) s0.nxt y (d y.i):=fun y s N=>p y.i N y s rfl;have z:=(words hB hK hf Q hc hlt x.b (fun y s N k K=>Q.closed hlt x T y s N k K) f x T fun k K=>K).1;have L:x.s.nxt=s0.nxt+x.i:=by rw[G.hs];rfl
 have hw:Le x.o d=some x.run:=by
  have m:=G.gd;unfold GdOk at m;unfold Le;cases B:x.o.guard with
  | none=>rw[B] at m;simp only at m⊢;rw[m]
  | some gw =>
   obtain ⟨g,want⟩:=gw;rw[B] at m;simp only at m⊢;obtain ⟨y,s,hyg,A⟩:=m;obtain ⟨t,k1,k2⟩:=hG.guard g want B;have hgb:g∈x.b:=by
    have ht:t∈slotsOf ops.toArray x.o:=by
     unfold slotsOf Oper.looksAt;refine bq _ ?_;rw[B];simp only;rw[k1];simp
    rcases hG.slots t ht with ⟨E,-,-⟩ | ⟨j,E,-,q3,-⟩
    ·rw[k2] at E;cases E
    ·rw[k2] at E;obtain rfl:g=j:=by simpa using E
     rwa [e2] at q3
   subst hyg;have hv:=(f y (h3 y s) hgb).2.1;rcases A with ⟨c,A,U⟩ | ⟨A,U⟩
   ·rw[A] at hv;rw[<-hv,U];rfl
   ·rw[A] at hv;rw[<-hv,U];rfl
 rw[hw];have r: ∀v,sk θ s0.nxt (upd d x.i v)=upd (sk θ s0.nxt d) (s0.nxt+x.i) v:=fun v=>Sw;have O: ∀D:Nat->Value,∀e∈iY s0.nxt s0.chs l,(Sx P w0 J θ s0.nxt l (iY s0.nxt s0.chs l)).chunk (numOf e (iY s0.nxt s0.chs l)) D=toCh P (sk θ s0.nxt D) e:=by
  intro D e R;show (match _ with | some e=>toCh P (sk θ s0.nxt D) e | none=>_)=_;rw[tR hK R]
 cases U:x.run with
 | false =>
  have M:=G.skip U;refine ⟨fun y s S=>?_,by rw[Z];show (x.r.ns.map _)= [];rw[M];rfl,by rw[Z];show (lF _ x).map _= [];unfold lF;rw[M];rfl⟩;obtain rfl:=Q.uniq y s x T S;refine ⟨?_,?_,fun g hg=>?_⟩
  ·rw[M];trivial
  ·rw[M,ig];rfl
  ·rw[M] at hg;cases hg
 | true =>
  obtain ⟨hGd,K⟩:=G.good U;have base:=hGd.op J _ z;have hin: ∀e,e∈x.r.rs++x.r.ns->e∈iY s0.nxt s0.chs l/\e∈x.s.chs:=by
   intro e R;have H:e∈x.s.chs:=hGd.perm.mem_iff.2 (bm _ R);refine ⟨?_,H⟩;rw[G.hs] at H;rcases lG.1 (xW H).1 with h | ⟨y,s,h⟩
   ·exact lG.2 (.inl h)
   ·exact lG.2 (.inr ⟨y,h3 y s,h⟩)
  have hev: ∀u∈x.o.op.operands,(pI s0 ops l (iY s0.nxt s0.chs l)).ev (envL θ s0) x.i d u=evL (envL (sk θ s0.nxt d) x.s) u:=by
   intro u hu;cases u with
   | tmp t =>
    unfold okO at K;rw[aj,aj] at K;have hx1:=List.all_eq_true.1 K.1.1 (.tmp t) (by simpa using hu);simp only[Bool.or_false] at hx1;obtain ⟨av,q⟩:=Option.isSome_iff_exists.1 hx1;have q:look x.s.env t=some av:=q;rw[aF (x:=.tmp t) q];obtain ⟨v,hv,hm⟩:=tS q;have ht:t∈slotsOf ops.toArray x.o:=by
     unfold slotsOf Oper.looksAt;exact bm _ (List.mem_filterMap.2 ⟨.tmp t,by simpa using hu,rfl⟩)
    have X:Skel.srcOf t ((pI s0 ops l (iY s0.nxt s0.chs l)).op x.i).src=some (Uu s0.nxt v):=by
     rw[Z];exact IC ht hv
    have hval:=YT (L1:=l1) (b:=x.b) (i:=x.i) hf h3 f (t:=t) (v:=v) (av:=av) (by rw[<-G.hs];exact q) (by rw[<-G.hs];exact hv);rw[<-hval];show (match Skel.srcOf t _ with | some (some j)=>d j | _=>_)=_;rw[X];cases Uu s0.nxt v <;> rfl
   | _=>rfl
  have Y:((((pI s0 ops l (iY s0.nxt s0.chs l)).op x.i).reads++((pI s0 ops l (iY s0.nxt s0.chs l)).op x.i).needs).map ((Sx P w0 J θ s0.nxt l (iY s0.nxt s0.chs l)).chunk · d))=(x.r.rs++x.r.ns).map (toCh P (sk θ s0.nxt d)):=by
   rw[Z];show ((x.r.rs.map _)++(x.r.ns.map _)).map _=_;rw[<-aW,List.map_map];exact List.map_congr_left fun e R=>O d e (hin e R).1
  intro wd C M;have hs':=M;rw[Y] at hs';have hb:=base wd C hs';have hsel:noSelect x.o=true:=hG.sel;rw[<-rb hsel hev] at hb;refine hb.imp fun v w' hv=>⟨fun y s S=>?_,?_⟩
  ·obtain rfl:=Q.uniq y s x T S;rw[r,ig];obtain ⟨E,q2,q3⟩:=hv.1;rw[L] at E q2 q3;exact ⟨E,q2,q3⟩
  ·have W:=hv.2;rw[L] at W;have hgv:((((pI s0 ops l (iY s0.nxt s0.chs l)).op x.i).reads++((pI s0 ops l (iY s0.nxt s0.chs l)).op x.i).gives).map ((Sx P w0 J θ s0.nxt l (iY s0.nxt s0.chs l)).chunk · (upd d x.i v)))=x.r.rs.map (toCh P (sk θ s0.nxt d))++x.r.gives.map fun g=>toCh P (upd (sk θ s0.nxt d) (s0.nxt+x.i) v) (g.1,s0.nxt+x.i,g.2):=by
    rw[Z];show ((x.r.rs.map _)++((lF s0.nxt x).map _)).map _=_;rw[aW,List.map_map,List.map_map];congr 1
    ·refine List.map_congr_left fun e R=>?_;show (Sx P w0 J θ s0.nxt l (iY s0.nxt s0.chs l)).chunk (numOf e _) (upd d x.i v)=_;obtain ⟨m1,m2⟩:=hin e (bm _ R);rw[O _ e m1,r]
     have:=z.chs e m2
     rw[L] at this;exact oM Same.upd this
    ·unfold lF;rw[List.map_map];refine List.map_congr_left fun g hg=>?_;show (Sx P w0 J θ s0.nxt l (iY s0.nxt s0.chs l)).chunk (numOf (g.1,s0.nxt+x.i,g.2) _) (upd d x.i v)=_;rw[O _ _ (lG.2 (.inr ⟨x,T,List.mem_map.2 ⟨g,hg,rfl⟩⟩)),r]
   exact Eq.mp (congrArg (fun cs=>St J w0 w' (cs++C)) hgv.symm) W
theorem O1 {Y:Type} {id:Nat} {k:Sg->Option Y} {res:Y} {Q:Exit->Act->World->Prop} (hT:TTok P V.tt) (hF:FTok P V.ft) (hm:P.follows .mixedOrders=true) (h:Kf V ops k s0=some res) (u:Sim P I w0 F V.n J θ s0 a w)
  (K: ∀s' θ' a' w',k s'=some res->Sim P I w0 F V.n J θ' s' a' w'->Fr s0 θ s' θ'->Q .normal a' w'):(Code.region id ops.toArray true).wp P Q a w:=by
 unfold Kf at h;obtain ⟨l,h,p,o⟩:=OW (w0:=w0) hT hF h rfl rfl trivial;obtain ⟨O,h⟩:=ai h;unfold Uw at O;simp only[aj,List.all_eq_true] at O;obtain ⟨hB,T,hc,L,W⟩:=O;have G:=u.fine;have N: ∀t,knS s0 t=true->((envL θ s0).lookup t).isSome=true:=by
  intro t ht;obtain ⟨av,hav⟩:=Option.isSome_iff_exists.1 ht;rw[show (envL θ s0).lookup t=_ from iB hav];rfl
 have B: ∀x∈l,∀j∈x.b,j<x.i:=by
  intro x U j hj;obtain ⟨l1,h1,-⟩:=p.get U;have hG:=Skel.good_of_ok N L h1.ho
  have:=hG.bef j (by rw[(p.opAt U _).2];exact hj)
  exact this.1
 refine Sp (C:=[F]) (pI s0 ops l (iY s0.nxt s0.chs l)) (Sx P w0 J θ s0.nxt l (iY s0.nxt s0.chs l)) N (YU G p o T hc) hm u.agr u.st ?_ L W (WN G p o hB T hc L N B) ?_
 ·refine (List.Perm.of_eq ?_);congr 1;show _=(s0.chs.map _).map _;rw[List.map_map];refine List.map_congr_left fun e E=>?_;show _=match _ with | some e=>toCh P (sk θ s0.nxt fun _=>undef) e | none=>_
  rw[tR T (lG.2 (.inl E))];exact (oM oR (G.chs e E)).symm
 ·intro n a' w' z hA hst;have g: ∀y∈l,XY P w0 J (sk θ s0.nxt n) s0.nxt y (n y.i):=fun y d=>z y.i (by rw[<-o];exact p.lt y d) y d rfl;have X:=words hB T G p hc B (List.range l.length) (fun y d _ k H=>List.mem_range.2 (Nat.lt_trans (B y d k H) (p.lt y d))) (fun y d _=>g y d);have m: ∀x∈l,_:=fun x U=>X x U fun k H=>List.mem_range.2 (Nat.lt_trans (B x U k H) (p.lt x U));have R:Fine P w0 J (sk θ s0.nxt n) (Sr s0 l):=Kh hB T G p hc l (fun y d=>d) (List.range l.length) l.length (fun j hj=>List.mem_range.1 hj) (fun y d _=>g y d) (fun y d _=>(m y d).2.1) (fun y d _=>(m y d).2.2) (Uz G p);refine K (Sr s0 l) (sk θ s0.nxt n) a' w' h ⟨u.le,hA.sub fun t v hv=>?_,?_,R⟩ (Fr.rfl.trans ⟨Nat.le_add_right _ _,oR,fun e E hv=>?_,fun e E h' r c hs=>?_⟩)
  ·
   cases hl:look (Sr s0 l).env t with
   | none =>
    exfalso
    have: ∀ {env:List (Nat×Nat×AV)} {θ:Th},look env t=none->(env.map fun e=>(e.1,e.2.2.v θ)).lookup t=none:=by
     intro env θ;induction env with
     | nil=>intro _;rfl
     | cons e env ih =>
      intro hh;unfold look at hh;split at hh
      ·cases hh
      ·rename_i hu;rw[List.map_cons,List.lookup_cons];have hne:(t==e.1)=false:=by
        simp only[beq_eq_false_iff_ne];intro e';subst e';exact hu (Nat.beq_refl _)
       rw[show (t==(e.1,AV.v θ e.2.2).1)=false from hne];exact ih hh
    rw[show (envL (sk θ s0.nxt n) (Sr s0 l)).lookup t=none from this hl] at hv;cases hv
   | some av =>
    have hv2:=iB (θ:=sk θ s0.nxt n) hl;obtain rfl:=ae (hv2.symm.trans hv);obtain ⟨r,D,-⟩:=tS hl;have Z:=YT (L1:=l) (b:=List.range l.length) (i:=l.length) G (fun y d=>d) (fun y d _=>g y d) (t:=t) (v:=r) (av:=av) hl D
    have:=fin_ok (n0:=s0.nxt) (seen:=[]) (f:=fun s=>match s with | some j=>n j | none=>((envL θ s0).lookup t).getD undef) (by simp) D
    have key: ∀M:List (Nat×Option Nat),(M.map fun q=>(q.1,match q.2 with | some j=>n j | none=>((envL θ s0).lookup q.1).getD undef)).lookup t=(M.map fun q=>(q.1,(fun s=>match s with | some j=>n j | none=>((envL θ s0).lookup t).getD undef) q.2)).lookup t:=by
     intro M;induction M with
     | nil=>rfl
     | cons q M ih =>
      rw[List.map_cons,List.map_cons,List.lookup_cons,List.lookup_cons];by_cases e:t=q.1
      ·subst e;simp
      ·rw[show (t==q.1)=false from by simpa using e];exact ih
    exact (key _).trans (this.trans (congrArg some Z))
  ·have e:((Sr s0 l).chs.map (numOf · (iY s0.nxt s0.chs l))).map ((Sx P w0 J θ s0.nxt l (iY s0.nxt s0.chs l)).chunk · n)=(Sr s0 l).chs.map (toCh P (sk θ s0.nxt n)):=by
    rw[List.map_map];refine List.map_congr_left fun e E=>?_;show (match _ with | some e=>toCh P (sk θ s0.nxt n) e | none=>_)=_;rw[tR T (xW E).1]
   rw[<-e];exact hst
  ·obtain ⟨A,h6⟩:=EL E;rcases vo A with A | ⟨y,d,k1,k2,k3⟩
   ·exact A
   ·omega
  ·obtain ⟨A,h6⟩:=xW E;have S:MM s0 l h' r c:=by
    rcases lG.1 A with A | ⟨y,d,A⟩
    ·exact .inl ⟨e,A,hs⟩
    ·exact (m y d).2.1 e A h' r c hs
   rcases S with ⟨e0,he0,H⟩ | ⟨y,d,H⟩
   ·exact .inr ⟨e0,he0,H⟩
   ·have:=(j5 H).1
    exact .inl (by simp only at this;omega)
theorem LY {hs:List Hdr} : ∀ {s:Sg} {J:Hp},Sim P I w0 F V.n J θ s a w-> ∃J',J.le J'/\Sim P I w0 F V.n J' θ (EK hs s) a w/\Fr s θ (EK hs s) θ:=by
 induction hs with
 | nil=>exact fun b=>⟨_,Hp.le.rfl,b,Fr.rfl⟩
 | cons h hs ih =>
  intro s J b;have g: ∃J',J.le J'/\Sim P I w0 F V.n J' θ (xT h s) a w/\Fr s θ (xT h s) θ:=by
   unfold xT;split
   ·exact Gx ‹_› b
   ·exact ⟨J,Hp.le.rfl,b,Fr.rfl⟩
  obtain ⟨m,d,k,e⟩:=g;obtain ⟨j,c,f,i⟩:=ih k;exact ⟨j,d.trans c,f,e.trans i⟩
theorem O2 {s:Sg} (b:Sim P I w0 F V.n J θ s a w): ∃J',J.le J'/\Sim P I w0 F V.n J' θ (wH ops s) a w/\Fr s θ (wH ops s) θ:=by
 unfold wH;split
 ·exact LY b
 ·exact ⟨J,Hp.le.rfl,b,Fr.rfl⟩
theorem Sy {tr:Trs} {s:Sg} (m:Sim P I w0 F V.n J θ s a w): ∃b θ',J.le b/\Sim P I w0 F V.n b θ' (Su tr ops s) a w/\Fr s θ (Su tr ops s) θ':=by
 obtain ⟨θ1,n,h⟩:=zU m;obtain ⟨g,c,o,f⟩:=O2 (ops:=ops) n;obtain ⟨e,d⟩:=tO (hs:=A5 (wH ops (rj s)) ops) o;have d:=(h.trans f).trans d
 show∃b θ',J.le b/\Sim P I w0 F V.n b θ' (Kg tr ops (wD (A5 (wH ops (rj s)) ops) (wH ops (rj s)))) a w/\Fr s θ (Kg tr ops (wD (A5 (wH ops (rj s)) ops) (wH ops (rj s)))) θ'
 unfold Kg;split
 ·exact ⟨g,θ1,c,e,d⟩
 ·obtain ⟨b,θ',i,j,k⟩:=vm e;exact ⟨b,θ',c.trans i,j,d.trans k⟩
theorem Sz {Y:Type} {id:Nat} {k:Sg->Option Y} {res:Y} {Q:Exit->Act->World->Prop} (n:TTok P V.tt) (i:FTok P V.ft) (q:P.follows .mixedOrders=true) {s:Sg} (h:YS V ops k s=some res) (r:Sim P I w0 F V.n J θ s a w)
  (K: ∀b J' θ' c d,k b=some res->Sim P I w0 F V.n J' θ' b c d->J.le J'->Fr s θ b θ'->Q .normal c d):(Code.region id ops.toArray true).wp P Q a w:=by
 obtain ⟨j,θ1,p,o,g⟩:=Sy (tr:=V.tr) (ops:=ops) r;exact O1 n i q (show Kf V ops k (Su V.tr ops s)=some res from h) o fun b θ' c d m e f=>K b j θ' c d m e p (g.trans f)
end
inductive Ann
 | no
 | two (a b:Ann)
 | loop (sh:List It) (a:Ann)
 | join (sh:List It) (a b:Ann)
 | joinX (sh:List It) (a b:Ann)
 | at (sh:List It) (a:Ann)
 | atX (sh:List It) (a:Ann)
def Ann.t (a:Ann):Ann:=.two .no a
def Ann.l:Ann->Ann
 | .two a _=>a
 | _=>.no
def Ann.r:Ann->Ann
 | .two _ b=>b
 | _=>.no
def GM:Code->List Nat
 | .region _ ops _=>ops.toList.filterMap (·.dst)
 | .seq a b=>GM a++GM b
 | .cond _ a b=>GM a++GM b
 | .block _ a=>GM a
 | .loop a=>GM a
 | .scope a=>GM a
 | _=>[]
def O3:List It->List Nat
 | [] =>[]
 | .slot t _::is=>t::O3 is
 | _::is=>O3 is
def CA (c:Code) (is:List It):List Nat:=GM c++O3 is
def YV {Y:Type} (i:Nat) (kb:Sg->Option Y) (kx:Nat->Sg->Option Y):Nat->Sg->Option Y:=fun j s=>if Nat.beq j i then kb s else kx j s
def YW (V:Env) {R Y:Type} (c:Code) (n:Ann) (kr:R->Option Y) (kx:Nat->Sg->Option Y) (kn:Sg->Option Y) (s:Sg) (run:(Z:Type)->Ann->(R->Option Z)->(Nat->Sg->Option Z)->(Sg->Option Z)->Sg->Option Z):Option Y:=match n with
 | .at sh n=>(AY (CA c sh) sh s).bind fun q=>Option.bind (run (Uq (sj q.its)) n (fun _=>none) (fun _ _=>none) (fun s'=>(q.of s').bind fun d=>some (ofN _ d)) s) fun d=>kn (q.at (toN _ d))
 | .atX sh n=>(AY (CA c sh) sh s).bind fun q=>Cv (run (Y ⊕ Uq (sj q.its)) n (fun r=>(kr r).bind fun t=>some (.inl t)) (fun i s'=>(kx i s').bind fun t=>some (.inl t)) (fun s'=>(q.of s').bind fun d=>some (.inr (ofN _ d))) s) fun d=>kn (q.at (toN _ d))
 | n=>run Y n kr kx kn s
noncomputable def lH (V:Env) {R:Type} (rt:Sg->Option R):(c:Code)-> {Y:Type} ->Ann->(R->Option Y)->(Nat->Sg->Option Y)->(Sg->Option Y)->Sg->Option Y
 | .skip,_,_,kr,kx,kn,s=>kn s
 | .ret,_,_,kr,kx,kn,s=>(rt s).bind kr
 | .region id ops dr,_,n,kr,kx,kn,s=>YW V (.region id ops dr) n kr kx kn s fun Z n kr kx kn s=>match dr with
  | false=>J8 V ops.toList (fun s=>kn (XS s)) ops.toList s
  | true=>YS V ops.toList (fun s=>kn (XS s)) s
 | .seq a b,Y,n,kr,kx,kn,s=>match n with
  | .join sh n1 n2=>(AY (CA a sh) sh s).bind fun q=>Option.bind (lH V rt a n1 (Y:=Uq (sj q.its)) (fun _=>none) (fun _ _=>none) (fun s'=>(q.of s').bind fun d=>some (ofN _ d)) s) fun d=>lH V rt b n2 kr kx kn (q.at (toN _ d))
  | .joinX sh n1 n2=>(AY (CA a sh) sh s).bind fun q=>Cv (lH V rt a n1 (Y:=Y ⊕ Uq (sj q.its)) (fun r=>(kr r).bind fun t=>some (.inl t)) (fun i s'=>(kx i s').bind fun t=>some (.inl t)) (fun s'=>(q.of s').bind fun d=>some (.inr (ofN _ d))) s) fun d=>lH V rt b n2 kr kx kn (q.at (toN _ d))
  | n=>lH V rt a n.l kr kx (fun s'=>lH V rt b n.r kr kx kn s') s
 | .cond c a b,_,n,kr,kx,kn,s=>YW V (.cond c a b) n kr kx kn s fun Z n kr kx kn s=>(opd s c).bind fun v=>onB v (lH V rt a n.l kr kx kn s) (lH V rt b n.r kr kx kn s)
 | .block i (.loop c),_,n,kr,kx,kn,s=>YW V (.block i (.loop c)) n kr kx kn s fun Z n kr kx kn s=>match n with
  | .loop sh n=>(AY (CA c sh) sh s).bind fun q=>(q.of s).bind fun d0 =>
    aN (aq (fun d=>lH V rt c n (Y:=Out R (Uq (sj q.its))) (fun r=>some (.ret r)) (YV i (fun s'=>(q.of s').bind fun d=>some (.brk (ofN _ d))) fun _ _=>none) (fun s'=>(q.of s').bind fun d=>some (.nxt (ofN _ d))) (q.at (toN _ d))) aT (ofN _ d0)) kr (fun d=>kn (q.at (toN _ d)))
  | _=>none
 | .block i c,_,n,kr,kx,kn,s=>YW V (.block i c) n kr kx kn s fun Z n kr kx kn s=>lH V rt c n kr (YV i kn kx) kn s
 | .exit i,_,_,kr,kx,kn,s=>kx i s
 | _,_,_,_,_,_,_=>none
section
variable {V:Env} {P:Program} {I:Hp} {w0:World} {F:Ch} {R:Type} {rt:Sg->Option R}
def IOk (V : Env) (P : Program) (I : Hp) (w0 : World) (F : Ch) {R : Type} (rt : Sg -> Option R) (c : Code) : Prop := ∀ {Y : Type} (n : Ann) {kr : R -> Option Y} {kx : Nat -> Sg -> Option Y} {kn : Sg -> Option Y} {s : Sg} {y : Y} {Q : Exit -> Act -> World -> Prop} {J : Hp} {θ : Th} {a : Act} {w : World},
    lH V rt c n kr kx kn s = some y -> Sim P I w0 F V.n J θ s a w ->
    (∀ J' θ' s' a' w', kn s' = some y -> Sim P I w0 F V.n J' θ' s' a' w' -> J.le J' -> Fr s θ s' θ' -> Q .normal a' w') ->
    (∀ i J' θ' s' a' w', kx i s' = some y -> Sim P I w0 F V.n J' θ' s' a' w' -> J.le J' -> Fr s θ s' θ' -> Q (.exit i) a' w') ->
    (∀ r J' θ' s' a' w', rt s' = some r -> kr r = some y -> Sim P I w0 F V.n J' θ' s' a' w' -> J.le J' -> Fr s θ s' θ' -> Q .ret a' w') -> c.wp P Q a w
def ROk (V : Env) (P : Program) (I : Hp) (w0 : World) (F : Ch) {R : Type} (rt : Sg -> Option R) (c : Code) (run : (Z : Type) -> Ann -> (R -> Option Z) -> (Nat -> Sg -> Option Z) -> (Sg -> Option Z) -> Sg -> Option Z) : Prop := ∀ {Y : Type} (n : Ann) {kr : R -> Option Y} {kx : Nat -> Sg -> Option Y} {kn : Sg -> Option Y} {s : Sg} {y : Y} {Q : Exit -> Act -> World -> Prop} {J : Hp} {θ : Th} {a : Act} {w : World},
    run Y n kr kx kn s = some y -> Sim P I w0 F V.n J θ s a w ->
    (∀ J' θ' s' a' w', kn s' = some y -> Sim P I w0 F V.n J' θ' s' a' w' -> J.le J' -> Fr s θ s' θ' -> Q .normal a' w') ->
    (∀ i J' θ' s' a' w', kx i s' = some y -> Sim P I w0 F V.n J' θ' s' a' w' -> J.le J' -> Fr s θ s' θ' -> Q (.exit i) a' w') ->
    (∀ r J' θ' s' a' w', rt s' = some r -> kr r = some y -> Sim P I w0 F V.n J' θ' s' a' w' -> J.le J' -> Fr s θ s' θ' -> Q .ret a' w') -> c.wp P Q a w
theorem EM {c:Code} {run:(Z:Type)->Ann->(R->Option Z)->(Nat->Sg->Option Z)->(Sg->Option Z)->Sg->Option Z} (x:ROk V P I w0 F rt c run) {Y:Type} (n:Ann) {B:R->Option Y} {D:Nat->Sg->Option Y} {C:Sg->Option Y} {s:Sg} {y:Y} {Q:Exit->Act->World->Prop} {J:Hp} {θ:Th} {a:Act} {w:World}
  (h:YW V c n B D C s run=some y) (u:Sim P I w0 F V.n J θ s a w)
  (E: ∀e θ' b f g,C b=some y->Sim P I w0 F V.n e θ' b f g->J.le e->Fr s θ b θ'->Q .normal f g)
  (G: ∀i e θ' b f g,D i b=some y->Sim P I w0 F V.n e θ' b f g->J.le e->Fr s θ b θ'->Q (.exit i) f g)
  (O: ∀r e θ' b f g,rt b=some r->B r=some y->Sim P I w0 F V.n e θ' b f g->J.le e->Fr s θ b θ'->Q .ret f g):c.wp P Q a w:=by
 have plain:=fun n h=>x n h u E G O;cases n with
 | «at» p n =>
  have ⟨q,z,h⟩:=bind_some (show (AY (CA c p) p s).bind _=some y from h);have ⟨d,A,K⟩:=bind_some h;have M:=wF z u.fine;refine x n A u (fun e θ' b f g k j m l=>?_) (fun i e θ' b f g k j m l=>by cases k) (fun r e θ' b f g L v j m l=>by cases v);have ⟨H,N,k⟩:=bind_some k;grind[ae,A0,qb]
 | atX p n =>
  have ⟨q,z,h⟩:=bind_some (show (AY (CA c p) p s).bind _=some y from h);have ⟨o,A,K⟩:=C5 h;have M:=wF z u.fine;refine x n A u (fun e θ' b f g k j m l=>?_) (fun i e θ' b f g k j m l=>?_) (fun r e θ' b f g L v j m l=>?_)
  ·have ⟨H,N,k⟩:=bind_some k;grind[ae,A0,Sum.inr.inj,qb]
  ·have ⟨t,S,k⟩:=bind_some k;grind
  ·have ⟨t,S,k⟩:=bind_some v;grind
 | no=>exact plain _ h
 | two _ _=>exact plain _ h
 | loop _ _=>exact plain _ h
 | join _ _ _=>exact plain _ h
 | joinX _ _ _=>exact plain _ h
theorem vp (hT:TTok P V.tt) (hF:FTok P V.ft) (hm:P.follows .mixedOrders=true): ∀c:Code,IOk V P I w0 F rt c/\ ∀c',c= .loop c'->IOk V P I w0 F rt c':=by
 intro c;induction c with
 | skip =>
  refine ⟨?_,fun c' e=>(by cases e)⟩;intro Y n L O N s y Q J θ a w h p A G E;exact wp_skip (A J θ s a w h p Hp.le.rfl Fr.rfl)
 | ret =>
  refine ⟨?_,fun c' e=>(by cases e)⟩;intro Y n L O N s y Q J θ a w h p A G E;have ⟨r,h1,T⟩:=bind_some (show (rt s).bind L=some y from h);grind[wp_ret,Hp.le.rfl,Fr.rfl]
 | exit i =>
  refine ⟨?_,fun c' e=>(by cases e)⟩;intro Y n L O N s y Q J θ a w h p A G E;exact wp_exit (G i J θ s a w h p Hp.le.rfl Fr.rfl)
 | region id ops dr =>
  refine ⟨?_,fun c' e=>(by cases e)⟩;intro Y n L O N s y Q J θ a w h p A G E;refine EM (fun {Y} n {L O N s y Q J θ a w} h p A G E=>?_) n h p A G E;cases dr with
  | true =>
   have h:=h
   have:=Sz (id:=id) hT hF hm h p fun D u θ' C B k g m f=>by
    have ⟨θ2,K,H⟩:=OG g;exact A u θ2 (XS D) C B k K m (f.trans H)
   omega
  | false =>
   have h:=h;exact wp_region_lit (l:=ops.toList) (Gz hT hF h p fun D u θ' C B k g m f=>by
    have ⟨θ2,K,H⟩:=OG g;exact A u θ2 (XS D) C B k K m (f.trans H))
 | cond c x y ihx ihy =>
  refine ⟨?_,fun c' e=>(by cases e)⟩;intro Y n L O N s r Q J θ a w h p A G E;refine EM (fun {Y} n {L O N s r Q J θ a w} h p A G E=>?_) n h p A G E;have ⟨v,hv',h⟩:=bind_some (show (opd s c).bind _=some r from h);have ⟨b,hb,h⟩:=T1 h;have k:MT (envL θ s) c=true:=by
   cases c with
   | tmp t =>
    have:=iB (θ:=θ) (show look s.env t=some v from hv')
    show ((envL θ s).lookup t).isSome=true;grind[envL]
   | _=>rfl
  have hev:=(aF hv').trans (hb θ);cases b with
  | true=>exact QY p.agr k hev rfl (ihx.1 n.l h p A G E)
  | false=>exact M0 p.agr k hev rfl (ihy.1 n.r h p A G E)
 | seq x z ihx ihz =>
  refine ⟨?_,fun c' e=>(by cases e)⟩;intro Y n L O N s y Q J θ a w h p A G E;have plain:=fun h =>
   wp_seq (ihx.1 n.l h p (fun u θ' D C B k g m f=>ihz.1 n.r k g (fun J2 θ2 s2 a2 w2 k2 K L2 H=>A J2 θ2 s2 a2 w2 k2 K (m.trans L2) (f.trans H)) (fun i J2 θ2 s2 a2 w2 k2 K L2 H=>G i J2 θ2 s2 a2 w2 k2 K (m.trans L2) (f.trans H)) (fun r J2 θ2 s2 a2 w2 S M K L2 H=>E r J2 θ2 s2 a2 w2 S M K (m.trans L2) (f.trans H)))
    (fun i u θ' D C B k g m f=>Vp (G i u θ' D C B k g m f)) (fun r u θ' D C B S M g m f=>Vq (E r u θ' D C B S M g m f)))
  cases n with
  | join sh n1 n2 =>
   have ⟨q,hq,h⟩:=bind_some (show (AY (CA x sh) sh s).bind _=some y from h);have ⟨d,h1,T⟩:=bind_some h;have hC:=wF hq p.fine;refine wp_seq (ihx.1 n1 h1 p (fun u θ' D C B k g m f=>?_) (fun i u θ' D C B k g m f=>by cases k) (fun r u θ' D C B S M g m f=>by cases M));have ⟨d',hd,k⟩:=bind_some k;cases ae k;have ⟨θ2,K,H⟩:=A0 hC g f m hd;rw[qb] at T;exact ihz.1 n2 T K (fun J3 θ3 s3 a3 U k3 X L3 F3=>A J3 θ3 s3 a3 U k3 X (m.trans L3) (H.trans F3)) (fun i J3 θ3 s3 a3 U k3 X L3 F3=>G i J3 θ3 s3 a3 U k3 X (m.trans L3) (H.trans F3)) (fun r J3 θ3 s3 a3 U S M X L3 F3=>E r J3 θ3 s3 a3 U S M X (m.trans L3) (H.trans F3))
  | joinX sh n1 n2 =>
   have ⟨q,hq,h⟩:=bind_some (show (AY (CA x sh) sh s).bind _=some y from h);have ⟨o,h1,T⟩:=C5 h;have hC:=wF hq p.fine;refine wp_seq (ihx.1 n1 h1 p (fun u θ' D C B k g m f=>?_) (fun i u θ' D C B k g m f=>?_) (fun r u θ' D C B S M g m f=>?_))
   ·have ⟨d',hd,k⟩:=bind_some k;cases ae k;have ⟨θ2,K,H⟩:=A0 hC g f m hd;rcases T with ⟨d,e,T⟩ | T
    ·cases Sum.inr.inj e;rw[qb] at T;exact ihz.1 n2 T K (fun J3 θ3 s3 a3 U k3 X L3 F3=>A J3 θ3 s3 a3 U k3 X (m.trans L3) (H.trans F3)) (fun i J3 θ3 s3 a3 U k3 X L3 F3=>G i J3 θ3 s3 a3 U k3 X (m.trans L3) (H.trans F3)) (fun r J3 θ3 s3 a3 U S M X L3 F3=>E r J3 θ3 s3 a3 U S M X (m.trans L3) (H.trans F3))
    grind
   ·have ⟨t,ht,k⟩:=bind_some k;grind[ae,Sum.inl.inj,Vp]
   ·have ⟨t,ht,k⟩:=bind_some M;cases ae k;rcases T with ⟨d,e,T⟩ | T
    ·cases e
    grind[Sum.inl.inj,Vq]
  | no=>exact plain h
  | two _ _=>exact plain h
  | loop _ _=>exact plain h
  | «at» _ _=>exact plain h
  | atX _ _=>exact plain h
 | block i x ih =>
  refine ⟨?_,fun c' e=>(by cases e)⟩;intro Y n L O N s y Q J θ a w h p A G E;have plain:ROk V P I w0 F rt (.block i x) (fun Z n L O N s=>lH V rt x n L (YV i N O) N s):=fun {Y} n {L O N s y Q J θ a w} h p A G E =>
   wp_block (ih.1 n h p (fun u θ' D C B k g m f=>ab4 (A u θ' D C B k g m f))
    (fun j u θ' D C B k g m f=>by
     unfold YV at k;split at k
     ·rename_i hj
      have:=al hj
      subst this;exact Yb (A u θ' D C B k g m f)
     ·rename_i hj;exact Yc (fun e=>hj (by rw[e];exact Nat.beq_refl i)) (G j u θ' D C B k g m f))
    (fun r u θ' D C B S M g m f=>abz (E r u θ' D C B S M g m f)))
  cases x with
  | loop x =>
   refine EM (fun {Y} n {L O N s y Q J θ a w} h p A G E=>?_) n h p A G E;cases n with
   | loop sh n =>
    have ⟨q,hq,h⟩:=bind_some (show (AY (CA x sh) sh s).bind _=some y from h);have ⟨d0,hd0,h⟩:=bind_some h;have ⟨o,ho,hc⟩:=Lh h;have hC:=wF hq p.fine;have hx:IOk V P I w0 F rt x:=ih.2 x rfl;refine wp_block (QZ (fun d a w=> ∃u θ',J.le u/\Sim P I w0 F V.n u θ' (q.at (toN _ d)) a w/\Fr s θ (q.at (toN _ d)) θ') ho ?_ ?_)
    ·have ⟨θ1,S1,F1⟩:=A0 hC p Fr.rfl Hp.le.rfl hd0;exact ⟨J,θ1,Hp.le.rfl,by rw[qb];exact S1,by rw[qb];exact F1⟩
    ·rintro d o' hf hlast a w ⟨J1,θ1,L1,S1,F1⟩;refine hx n hf S1 (fun u θ' D C B k g m f=>?_) (fun j u θ' D C B k g m f=>?_) (fun r u θ' D C B S M g m f=>?_)
     ·have ⟨d',hd,k⟩:=bind_some k;cases ae k;have ⟨θ2,K,H⟩:=A0 hC g (F1.trans f) (L1.trans m) hd;exact nrm ⟨_,rfl,u,θ2,L1.trans m,by rw[qb];exact K,by rw[qb];exact H⟩
     ·unfold YV at k;split at k
      ·rename_i hj
       have:=al hj
       subst this;have ⟨d',hd,k⟩:=bind_some k;cases ae k;have W:=hlast (by simp);have ⟨θ2,K,H⟩:=A0 hC g (F1.trans f) (L1.trans m) hd;rcases hc with ⟨d2,e,hc⟩ | ⟨r,e,hc⟩
       ·cases Out.brk.inj (W.trans e);rw[qb] at hc;exact Vp (Yb (A u θ2 _ C B hc K (L1.trans m) H))
       ·cases W.trans e
      ·cases k
     ·cases ae M;have W:=hlast (by simp);rcases hc with ⟨d2,e,hc⟩ | ⟨r',e,hc⟩
      ·cases W.trans e
      ·cases Out.ret.inj (W.trans e);exact Vq (abz (E r u θ' D C B S hc g (L1.trans m) (F1.trans f)))
   | _=>cases h
  | _=>exact EM plain n h p A G E
 | loop x ih =>
  refine ⟨?_,fun c' e=>?_⟩
  ·intro Y n L O N s y Q J θ a w h p A G E;cases h
  ·cases e;exact ih.1
 | _ =>
  refine ⟨?_,fun c' e=>(by cases e)⟩;intro Y n L O N s y Q J θ a w h p A G E;cases h
end
def O4 (i:Nat):(p:PM)->p.den->AV
 | .rd t,d=>Ng i t d
 | .ow t,d=>Nz (lC i [] t d)
 | .fn a b,d=>.one (.fn ⟨i,[]⟩ a b d)
 | .cap T t,d=>.one (.fz ⟨i,[]⟩ T t d 0)
 | .capf T a b,d=>.one (.fzf ⟨i,[]⟩ T a b d)
 | .ptr _ _,_=>.one (.ptr ⟨i,[]⟩ 0)
 | .eat t,d=>Nz (lC i [] t d)
 | .fk g,_=>.one (.val (.func (.func g) #[] #[]))
 | .crs _ _,_=>.one (.ptr ⟨i,[]⟩ 0)
 | .kb _ _ _,_=>.one (.own ⟨i,[]⟩)
 | .kc _,_=>.one (.own ⟨i,[]⟩)
def Kk (q i:Nat):(p:PM)->p.den->List (Hdr×Chk)
 | .ow t,d=>mA i [] t d
 | .ptr T t,d=>[(⟨i,[]⟩,.box T t d)]
 | .eat t,d=>mA i [] t d
 | .crs T E,d=>[(⟨i,[]⟩,.blk T [.rd ⟨q,[]⟩ (.sl E (.int .u8)) d.1,.val (.int .i64 d.2.1),.val (.int .i64 d.2.2)])]
 | .kb g T t,d=>[(⟨i,[]⟩,.clo g [] [.ptr ⟨q,[]⟩ 0]),(⟨q,[]⟩,.box T t d)]
 | .kc g,_=>[(⟨i,[]⟩,.clo g [] [.ptr ⟨q,[]⟩ 0])]
 | _,_=>[]
def Kl:(i:Nat)->(ps:List PM)->denP ps->List (Nat×Nat×AV)
 | _,[],_=>[]
 | i,p::ps,d=>(i,i,O4 i p d.1)::Kl (i+1) ps d.2
def GN (q:Nat):(i:Nat)->(ps:List PM)->denP ps->List Ent
 | _,[],_=>[]
 | i,p::ps,d=>(Kk q i p d.1).map (fun g=>(g.1,i,g.2))++GN q (i+1) ps d.2
def yY (ps:List PM) (d:denP ps):Sg:=⟨Kl 0 ps d,GN ps.length 0 ps d,ps.length+1⟩
def abP (P:Program) (w0:World) (J:Hp) (θ:Th) (n i:Nat):(p:PM)->Value->p.den->Prop
 | .ow t,v,d=>(lC i [] t d).2.map (·.v θ)=mo t.isProd v/\ ∀x∈(lC i [] t d).2,x.ok P w0 J θ n
 | .ptr _ _,v,_=>hv θ ⟨i,[]⟩=v/\i<n
 | .crs _ _,v,_=>hv θ ⟨i,[]⟩=v/\i<n
 | _,_,_=>True
def StF (P:Program) (w0:World) (J:Hp) (θ:Th) (n:Nat):(i:Nat)->(ps:List PM)->List Value->denP ps->Prop
 | i,p::ps,v::vs,d=>abP P w0 J θ n i p v d.1/\StF P w0 J θ n (i+1) ps vs d.2
 | _,_,_,_=>True
section
variable {P:Program} {w0 w:World} {J:Hp} {θ:Th} {n:Nat} {C:List Ch}
theorem yZ {id:Nat} {pre:List Nat} {t:Ty} {d:t.den} : ∀g∈mA id pre t d,Ro g.2:=jc t d 0
theorem O5 {p:PM} {i:Nat} {v:Value} {d:p.den} {ps:List PM} {vs:List Value} {e:denP ps} {γ:Value} {q:Nat} (hi:i<n) (D:q<n) (o:θ q=γ) (j:θ i=v) (h:aaE P w0 J γ p v d) (l:St J w0 w (owCh γ (p::ps) (v::vs) (d,e)++C)) :
  (∀chs,(O4 i p d).ok P w0 J θ n chs)/\(O4 i p d).v θ=v/\St J w0 w ((Kk q i p d).map (fun g=>toCh P θ (g.1,i,g.2))++(owCh γ ps vs e++C))/\(∀g∈Kk q i p d,∀chs,okE P w0 J θ n chs (g.1,i,g.2))/\abP P w0 J θ n i p v d:=by
 cases p with
 | rd t =>
  have ⟨R,r,s⟩:=h;have A:=fun chs=>qu (P:=P) (w0:=w0) (J:=J) (chs:=chs) hi j t d R s r;exact ⟨fun chs=>(A chs).1,(A []).2,l,fun g c=>(by cases c),trivial⟩
 | fn a b =>
  have f:hv θ ⟨i,[]⟩=v:=j;exact ⟨fun chs=>⟨hi,by rw[f];exact h⟩,f,l,fun g c=>(by cases c),trivial⟩
 | cap T t =>
  obtain ⟨b,rfl,cells,r,s⟩:=h;have f:hv θ ⟨i,[]⟩= .pointer (some ⟨b,0,none⟩):=j;refine ⟨fun chs=>⟨hi,cells,by rw[f];exact r,s⟩,?_,l,fun g c=>(by cases c),trivial⟩;show Value.pointer (some ⟨bk (hv θ ⟨i,[]⟩),0,none⟩)=_;rw[f];rfl
 | capf T x y =>
  obtain ⟨b,rfl,u,r,s⟩:=h;have f:hv θ ⟨i,[]⟩= .pointer (some ⟨b,0,none⟩):=j;refine ⟨fun chs=>⟨hi,u,by rw[f];exact r,s⟩,?_,l,fun g c=>(by cases c),trivial⟩;show Value.pointer (some ⟨bk (hv θ ⟨i,[]⟩),0,none⟩)=_;rw[f];rfl
 | ptr T t =>
  obtain ⟨b,rfl⟩:=h;have f:hv θ ⟨i,[]⟩= .pointer (some ⟨b,0,none⟩):=j;refine ⟨fun chs=>hi,?_,?_,fun g c chs=>by cases ak c;exact sF trivial hi hi,f,hi⟩
  ·show Value.pointer (some ⟨bk (hv θ ⟨i,[]⟩),0,none⟩)=_;rw[f];rfl
  ·show St J w0 w (Ch.box (bk (hv θ ⟨i,[]⟩)) T t.rep d::_);rw[f];exact l
 | ow t =>
  have ⟨F,N,H,L,I⟩:=wt (P:=P) (m:=i) (pre:=[]) (id:=i) (n:=n) hi (show hv θ ⟨i,[]⟩=v from j) h l;have q:=fun chs=>Ej (P:=P) (w0:=w0) (J:=J) (θ:=θ) (n:=n) (chs:=chs) (lC i [] t d) (fun e=>sD e) F;exact ⟨fun chs=>(q chs).1,(q []).2.trans H,I,fun g c chs=>sF (yZ g c) (by rw[L g c];exact hi) hi,N,F⟩
 | eat t =>
  have ⟨F,N,H,L,I⟩:=wt (P:=P) (m:=i) (pre:=[]) (id:=i) (n:=n) hi (show hv θ ⟨i,[]⟩=v from j) h l;have q:=fun chs=>Ej (P:=P) (w0:=w0) (J:=J) (θ:=θ) (n:=n) (chs:=chs) (lC i [] t d) (fun e=>sD e) F;exact ⟨fun chs=>(q chs).1,(q []).2.trans H,I,fun g c chs=>sF (yZ g c) (by rw[L g c];exact hi) hi,trivial⟩
 | fk g =>
  cases h;exact ⟨fun chs=>rfl,rfl,l,fun g c=>(by cases c),trivial⟩
 | crs T E =>
  obtain ⟨⟨b,rfl⟩,Q⟩:=h;have f:hv θ ⟨i,[]⟩= .pointer (some ⟨b,0,none⟩):=j;have k:hv θ ⟨q,[]⟩=γ:=o;refine ⟨fun chs=>hi,?_,?_,fun g c chs=>?_,f,hi⟩
  ·show Value.pointer (some ⟨bk (hv θ ⟨i,[]⟩),0,none⟩)=_;rw[f];rfl
  ·show St J w0 w (Ch.blk (bk (hv θ ⟨i,[]⟩)) [hv θ ⟨q,[]⟩,.int .i64 d.2.1,.int .i64 d.2.2] T::_);rw[f,k];exact l
  ·cases ak c;refine ⟨hi,hi,fun z B=>?_⟩;rcases aA B with rfl | B
   ·exact ⟨D,by grind⟩
   ·rcases aA B with rfl | B
    ·rfl
    ·cases ak B
     rfl
 | kb g T t =>
  obtain ⟨rfl,b,G⟩:=h;have f:hv θ ⟨i,[]⟩= .func (.func g) #[] #[γ]:=j;have k:hv θ ⟨q,[]⟩=γ:=o;have hp:Value.pointer (some ⟨bk (hv θ ⟨q,[]⟩),0,none⟩)=γ:=by rw[k,G];rfl
  refine ⟨fun chs=>⟨hi,by rw[f];rfl⟩,f,?_,fun O c chs=>?_,trivial⟩
  ·show St J w0 w (Ch.emp::Ch.box (bk (hv θ ⟨q,[]⟩)) T t.rep d::_);rw[k];exact St.emp.2 l
  ·rcases aA c with rfl | c
   ·refine ⟨hi,hi,fun y M=>(by cases M),fun x K=>?_,?_⟩
    ·cases ak K;exact D
    ·show hv θ ⟨i,[]⟩= .func (.func g) #[] #[Value.pointer (some ⟨bk (hv θ ⟨q,[]⟩),0,none⟩)];grind
   ·cases ak c;exact sF trivial D hi
 | kc g =>
  obtain ⟨rfl,b,G⟩:=h;have f:hv θ ⟨i,[]⟩= .func (.func g) #[] #[γ]:=j;have k:hv θ ⟨q,[]⟩=γ:=o;have hp:Value.pointer (some ⟨bk (hv θ ⟨q,[]⟩),0,none⟩)=γ:=by rw[k,G];rfl
  refine ⟨fun chs=>⟨hi,by rw[f];rfl⟩,f,?_,fun O c chs=>?_,trivial⟩
  ·exact St.emp.2 l
  ·cases ak c;refine ⟨hi,hi,fun y M=>(by cases M),fun x K=>?_,?_⟩
   ·cases ak K;exact D
   ·show hv θ ⟨i,[]⟩= .func (.func g) #[] #[Value.pointer (some ⟨bk (hv θ ⟨q,[]⟩),0,none⟩)];grind
theorem Km {γ:Value} {q:Nat} (l:q<n) (k:θ q=γ): ∀ {ps:List PM} {i:Nat} {vs:List Value} {d:denP ps} {C:List Ch},PArgs P w0 J γ ps vs d->(∀j v,vs[j]? =some v->θ (i+j)=v)->i+ps.length<=n->St J w0 w (owCh γ ps vs d++C)->
  (∀e∈Kl i ps d,(∀f,e.2.2.ok P w0 J θ n f)/\i<=e.1/\e.2.1=e.1/\e.1<i+ps.length/\vs[e.1 - i]? =some (e.2.2.v θ))/\((Kl i ps d).Pairwise fun a b=>a.2.1≠b.2.1)/\St J w0 w ((GN q i ps d).map (toCh P θ)++C)/\(∀e∈GN q i ps d,∀f,okE P w0 J θ n f e)/\StF P w0 J θ n i ps vs d
 | [],i,vs,d,C,h,_,_,hS=>by
  exact ⟨fun e c=>(by cases c),List.Pairwise.nil,hS,fun e c=>(by cases c),trivial⟩
 | p::ps,i,vs,d,C,h,hθ,hn,hS=>by
  obtain ⟨v,r,rfl,s,t⟩:=h;rw[aH] at hn;have ⟨I,E,A,D,y⟩:=O5 (n:=n) (i:=i) (θ:=θ) (e:=d.2) (show i<n by omega) l k (hθ 0 v rfl) s hS;have ⟨F,z,m,H,o⟩:=Km l k (i:=i+1) t (fun j u x=>by
   have:=hθ (j+1) u x
   grind) (by omega) (A.perm (List.perm_append_comm_assoc _ _ _))
  refine ⟨fun e c=>?_,List.pairwise_cons.2 ⟨fun e c G=>?_,z⟩,?_,fun e c f=>?_,y,o⟩
  ·rcases aA c with rfl | c
   ·grind
   grind
  ·grind
  ·show St J w0 w (((Kk q i p d.1).map _++GN q (i+1) ps d.2).map (toCh P θ)++C);rw[aW,List.map_map];refine m.perm ?_;rw[aC];exact List.perm_append_comm_assoc _ _ _
  ·rcases aG c with c | c
   ·obtain ⟨g,B,rfl⟩:=List.mem_map.1 c;grind
   grind
theorem GO {γ:Value} : ∀ {ps:List PM} {vs:List Value} {d:denP ps},PArgs P w0 J γ ps vs d->vs.length=ps.length
 | [],vs,d,h=>by
  have h:vs= []:=h;grind
 | p::ps,vs,d,h=>by
  obtain ⟨v,r,rfl,b,a⟩:=h;simpa using GO a
end
def WO (tt:TT) (s:Sg):ResultVar->Option AV
 | .tmp t=>look s.env t
 | .cell p T=>(QQ (look s.env p)).bind fun h=>(td tt T).bind fun d=>(rf h s.chs).bind fun b=>bO (Nat.beq b.cells.length d.n) (aaC d.agg b.cells)
theorem WQ {v:Option AV} {h:Hdr} (k:QQ v=some h):v=some (.one (.ptr h 0)):=by
 unfold QQ at k;grind[al,ae]
section
variable {P:Program} {I:Hp} {w0 w:World} {F:Ch} {J:Hp} {θ:Th} {n:Nat} {s:Sg} {a:Act} {tt:TT}
theorem WR (d:Agr n a (envL θ s)) {t g:Nat} {T E:TypeId} {v:Value} {cs:List Ch} (h:(envL θ s).lookup t=some (.pointer (some ⟨g,0,none⟩))) (hs:St J w0 w cs) (i:Nat) (hi:cs[i]? =some (Ch.blk g [v] E)) (c:TI P T false 1):HT P a w (.cell t T) v:=by
 refine ⟨_,d.2.2 t _ h,?_⟩;have b:=hs.heap i hi;have e:w.cell? ⟨g,0,none⟩=some v:=by simp[World.cell?,b]
 simp[loadVar,Sem.run_bind,c.run_agg,load,Sem.run,e,Result.andThen]
theorem SA (u:TTok P tt) (g:Sim P I w0 F n J θ s a w) {r:ResultVar} {v:AV} (h:WO tt s r=some v):HT P a w r (v.v θ)/\v.ok P w0 J θ s.nxt s.chs:=by
 cases r with
 | tmp t=>exact ⟨Vo g.agr (iB h),bN (x:=.tmp t) g.fine h⟩
 | cell p T =>
  have ⟨f,C,h⟩:=bind_some (show (QQ (look s.env p)).bind _=some v from h);have ⟨d,y,h⟩:=bind_some h;have ⟨b,A,h⟩:=bind_some h;have ⟨q,h⟩:=ai h;have q:=al q;have hp:=kA A;have o:=g.fine.chs _ (hp.mem_iff.2 (List.mem_cons_self ..));have ⟨B,m⟩:=Nt (chs:=s.chs) h o.2.2;refine ⟨?_,B⟩;have j:(envL θ s).lookup p=some (.pointer (some ⟨bk (hv θ f),0,none⟩)):=iB (WQ C);have k:=g.st.perm ((hp.map (toCh P θ)).append_right [F]);have e:=(u.get y).ti;cases c:d.agg with
  | true =>
   rw[c] at m e;rw[<-m];exact QX g.agr j k 0 rfl e (by grind)
  | false =>
   rw[c] at m e h;have i:d.n=1:=by
    have:=(u.get y).one
    rw[c] at this;simpa using this
   have ⟨x,z⟩:=List.length_eq_one_iff.1 (q.trans i);rw[i] at e;rw[z] at m;rw[<-m];have l:St J w0 w (Ch.blk (bk (hv θ f)) [x.v θ] b.T::(b.rest.map (toCh P θ)++ [F])):=by
    have:(toCh P θ (b.ent f))=Ch.blk (bk (hv θ f)) (b.cells.map (·.v θ)) b.T:=rfl
    rw[z] at this;rw[<-show toCh P θ (b.ent f)=Ch.blk (bk (hv θ f)) [x.v θ] b.T from this];exact k
   exact WR g.agr j l 0 rfl e
end
def ID:(ts:List Ty)->List AV->List Ent->Option (j4 ts×List Ent×List Ent)
 | [],[],chs=>some ((),[],chs)
 | t::ts,v::vs,chs=>bO (oO v==t.isProd) ((mz v).bind fun cs=>(eG t cs chs).bind fun q=>bO q.cells.isEmpty ((ID ts vs q.rest).bind fun r=>some ((q.d,r.1),q.used++r.2.1,r.2.2)))
 | _,_,_=>none
def xX:(ts:List Ty)->List Value->j4 ts->List Ch
 | t::ts,v::vs,d=>Ch.own t.rep (mo t.isProd v) d.1::xX ts vs d.2
 | _,_,_=>[]
theorem Dn {P:Program} {w0:World} {J:Hp} {θ:Th} {n:Nat} {chs0:List Ent} : ∀ {c:List Ty} {vs:List AV} {chs:List Ent} {r:j4 c×List Ent×List Ent},ID c vs chs=some r->(∀v∈vs,v.ok P w0 J θ n chs0)->
  chs.Perm (r.2.1++r.2.2)/\vs.length=c.length/\sA J (r.2.1.map (toCh P θ)) (xX c (vs.map (·.v θ)) r.1)/\ ∀(i:Nat) t v,c[i]? =some t->vs[i]? =some v->oL (v.v θ)=t.isProd
 | [],[],chs,r,h,_=>by
  cases ae (show some _=some r from h);exact ⟨List.Perm.refl _,rfl,wg,fun i t v B=>by grind⟩
 | t::c,v::vs,chs,r,h,hv'=>by
  have ⟨d,h⟩:=ai (show bO (oO v==t.isProd) _=some r from h);have d:oO v=t.isProd:=by simpa using d
  have ⟨e,a,h⟩:=bind_some h;have ⟨q,s,h⟩:=bind_some h;have ⟨y,h⟩:=ai h;have ⟨g,m,h⟩:=bind_some h;cases ae h;have ⟨o,C⟩:=jI a (hv' v (by simp));have ⟨p,F,j,z⟩:=kN (J:=J) (θ:=θ) s o;rw[List.isEmpty_iff.1 y,List.append_nil] at j;subst j;have ⟨w,G,l,E⟩:=Dn m fun x H=>hv' x (by grind);have b:mo t.isProd (v.v θ)=e.map (·.v θ)/\oL (v.v θ)=t.isProd:=by
   rw[<-d];cases v with
   | agg A =>
    cases ae (show some A=some e from a);exact ⟨rfl,rfl⟩
   | one x =>
    cases ae (show some [x] =some e from a);refine ⟨rfl,?_⟩;have f:=LV.one (show LV.ok P w0 J θ n x from hv' (.one x) (by simp));show oL (x.v θ)=false;generalize x.v θ=u at f;cases u <;> first | rfl | cases f
   | _=>cases a
  refine ⟨by rw[aC];exact p.trans (w.append_left _),by grind,?_,fun i I D B k=>?_⟩
  ·show sA J ((q.used++g.2.1).map _) (Ch.own t.rep (mo t.isProd (v.v θ)) q.d::xX c (vs.map _) g.1);rw[aW,b.1];exact sB z l
  grind
 | [],_::_,chs,r,h,_=>by cases h
 | _::_,[],chs,r,h,_=>by cases h
def aam:List Value->Value
 | [v] =>v
 | vs=>.tuple vs.toArray
def Kn (P:Program) (a:Act) (w:World):List ResultVar->List Value->Prop
 | [],vs=>vs= []
 | r::rs,vs=> ∃v us,vs=v::us/\HT P a w r v/\Kn P a w rs us
theorem y6 {P:Program} {a:Act} {w:World} {f:ResultVar->Sem Value} (b: ∀r v,HT P a w r v->(f r).run P w= .ok v w): ∀ {l:List ResultVar} {vs:List Value},Kn P a w l vs->(l.mapM f).run P w= .ok vs w
 | [],vs,h=>by
  have h:vs= []:=h;simp_all
 | r::l,vs,h=>by
  obtain ⟨v,e,rfl,c,d⟩:=h;rw[List.mapM_cons,Sem.run_bind,b r v c];simp only[Result.andThen_ok,Sem.run_bind,y6 b d]
  rfl
def aan (a:Act) (r:ResultVar):Sem Value:=match r with
 | .tmp t=>pure (a.tmps.getD t undef)
 | .cell p t=>do loadVar t (<-asAddr (a.tmps.getD p undef))
theorem WS {P:Program} {a:Act} {w:World} {r:ResultVar} {v:Value} (h:HT P a w r v):(aan a r).run P w= .ok v w:=by
 cases r with
 | tmp t =>
  have h:a.tmps.getD t undef=v:=h;show (pure (a.tmps.getD t undef):Sem Value).run P w=_;simp_all
 | cell p T =>
  have ⟨A,b,c⟩:=h;show ((asAddr (a.tmps.getD p undef)) >>=fun x=>loadVar T x).run P w=_;rw[b,Sem.run_bind];show Result.andThen (.ok A w) _=_;simp_all
theorem YX {P:Program} {n:Nat} {a:Act} {w:World} {L:List (Nat×Value)} {fn:Func} {R:Ending->World->Prop} {vs:List Value} (c:Agr n a L) (h:Kn P a w fn.results.toList vs) (b:R (.returned (aam vs)) w):bodyPost P fn R .ret a w:=by
 refine ⟨c.1,aam vs,?_,b⟩;have d:((fn.results.mapM (aan a)):Sem (Array Value)).run P w= .ok vs.toArray w:=by
  rw[Array.mapM_eq_mapM_toList]
  have:=y6 (f:=aan a) (fun r v=>WS) h
  simp[this,Sem.run_map]
 show ((fn.results.mapM (aan a)) >>=fun vs=>pure (if h:vs.size=1 then vs[0] else .tuple vs):Sem Value).run P w=_;rw[Sem.run_bind,d,Result.andThen_ok]
 match vs with
 | [] =>rfl
 | [v] =>rfl
 | _::_::_=>rfl
def eI (g0:Nat):(i:Nat)->(ps:List PM)->denP ps->List Ent->Option (j4 (outs ps)×List Ent×List Ent)
 | _,[],_,chs=>some ((),[],chs)
 | i,.ow t::ps,d,chs=>(eG t (lC i [] t d.1).2 chs).bind fun q=>bO q.cells.isEmpty ((eI g0 (i+1) ps d.2 q.rest).bind fun r=>some ((q.d,r.1),q.used++r.2.1,r.2.2))
 | i,.ptr T t::ps,d,chs=>(sE ⟨i,[]⟩ T t chs).bind fun q=>(eI g0 (i+1) ps d.2 q.2.2).bind fun r=>some ((q.1,r.1),q.2.1++r.2.1,r.2.2)
 | i,.rd _::ps,d,chs=>eI g0 (i+1) ps d.2 chs
 | i,.fn _ _::ps,d,chs=>eI g0 (i+1) ps d.2 chs
 | i,.eat _::ps,d,chs=>eI g0 (i+1) ps d.2 chs
 | i,.cap _ _::ps,d,chs=>eI g0 (i+1) ps d.2 chs
 | i,.capf _ _ _::ps,d,chs=>eI g0 (i+1) ps d.2 chs
 | i,.fk _::ps,d,chs=>eI g0 (i+1) ps d.2 chs
 | i,.kc _::ps,d,chs=>eI g0 (i+1) ps d.2 chs
 | i,.kb _ T t::ps,d,chs=>(sE ⟨g0,[]⟩ T t chs).bind fun q=>(eI g0 (i+1) ps d.2 q.2.2).bind fun r=>some ((q.1,r.1),q.2.1++r.2.1,r.2.2)
 | i,.crs T E::ps,d,chs=>(vk ⟨i,[]⟩ T E chs).bind fun q=>bO (Hdr.beq q.g ⟨g0,[]⟩) ((eI g0 (i+1) ps d.2 q.rest).bind fun r=>some ((q.d.2,r.1),q.ent::r.2.1,r.2.2))
theorem eM {P:Program} {w0:World} {J J':Hp} {θ θ':Th} {n n':Nat} {chs0:List Ent} (f:J.le J') (hs:Same n θ θ') {γ:Value} {c:Nat} (a:c<n) (b:θ c=γ): ∀ {ps:List PM} {i:Nat} {d:denP ps} {chs:List Ent} {vs:List Value} {r:j4 (outs ps)×List Ent×List Ent},eI c i ps d chs=some r->vs.length=ps.length->StF P w0 J θ n i ps vs d->(∀e∈chs,okE P w0 J' θ' n' chs0 e)->
  chs.Perm (r.2.1++r.2.2)/\sA J' (r.2.1.map (toCh P θ')) (outCh γ ps vs r.1)
 | [],i,d,chs,vs,r,h,_,_,_=>by
  cases ae (show some _=some r from h);exact ⟨List.Perm.refl _,wg⟩
 | p::ps,i,d,chs,[],r,h,hl,_,_=>by cases hl
 | .ow t::ps,i,d,chs,v::vs,r,h,hl,hF,hc=>by
  have ⟨q,s,h⟩:=bind_some (show (eG t (lC i [] t d.1).2 chs).bind _=some r from h);have ⟨u,h⟩:=ai h;have ⟨C,o,h⟩:=bind_some h;cases ae h;have ⟨⟨A,z⟩,m⟩:=hF;have ⟨p,O,I,H⟩:=kN (P:=P) (w0:=w0) (J:=J') (θ:=θ') (n:=n) s fun x N=>LV.ok_same hs (aL _) (z x N) f;rw[List.isEmpty_iff.1 u,List.append_nil] at I;subst I;rw[iH hs z,A] at H;have ⟨y,k⟩:=eM f hs a b o (by grind) m fun e u=>hc e (p.mem_iff.2 (by grind));refine ⟨by rw[aC];exact p.trans (y.append_left _),?_⟩;show sA J' ((q.used++C.2.1).map _) (Ch.own t.rep (mo t.isProd v) q.d::outCh γ ps vs C.1);rw[aW];exact sB H k
 | .ptr T t::ps,i,d,chs,v::vs,r,h,hl,hF,hc=>by
  have ⟨q,s,h⟩:=bind_some (show (sE ⟨i,[]⟩ T t chs).bind _=some r from h);have ⟨C,o,h⟩:=bind_some h;cases ae h;have ⟨⟨A,z⟩,m⟩:=hF;have ⟨p,l⟩:=tL (P:=P) (w0:=w0) (J:=J') (J':=J') (θ:=θ') s Hp.le.rfl hc;have ⟨y,k⟩:=eM f hs a b o (by grind) m fun e u=>hc e (p.mem_iff.2 (by grind));refine ⟨by rw[aC];exact p.trans (y.append_left _),?_⟩;rw[aW];have B:=(ba hs (show (⟨i,[]⟩:Hdr).id<n from z)).trans A;rw[B] at l;intro w F g;obtain ⟨G,K,rfl,j,D⟩:=g.split;exact ⟨G,K,rfl,l w G j,k w K D⟩
 | .rd t::ps,i,d,chs,v::vs,r,h,hl,hF,hc=>eM (ps:=ps) f hs a b (show eI c (i+1) ps d.2 chs=some r from h) (by grind) hF.2 hc
 | .fn _ _::ps,i,d,chs,v::vs,r,h,hl,hF,hc=>eM (ps:=ps) f hs a b (show eI c (i+1) ps d.2 chs=some r from h) (by grind) hF.2 hc
 | .eat _::ps,i,d,chs,v::vs,r,h,hl,hF,hc=>eM (ps:=ps) f hs a b (show eI c (i+1) ps d.2 chs=some r from h) (by grind) hF.2 hc
 | .cap _ _::ps,i,d,chs,v::vs,r,h,hl,hF,hc=>eM (ps:=ps) f hs a b (show eI c (i+1) ps d.2 chs=some r from h) (by grind) hF.2 hc
 | .capf _ _ _::ps,i,d,chs,v::vs,r,h,hl,hF,hc=>eM (ps:=ps) f hs a b (show eI c (i+1) ps d.2 chs=some r from h) (by grind) hF.2 hc
 | .kc _::ps,i,d,chs,v::vs,r,h,hl,hF,hc=>eM (ps:=ps) f hs a b (show eI c (i+1) ps d.2 chs=some r from h) (by grind) hF.2 hc
 | .kb _ T t::ps,i,d,chs,v::vs,r,h,hl,hF,hc=>by
  have ⟨q,s,h⟩:=bind_some (show (sE ⟨c,[]⟩ T t chs).bind _=some r from h);have ⟨C,o,h⟩:=bind_some h;cases ae h;obtain ⟨-,m⟩:=hF;have ⟨p,l⟩:=tL (P:=P) (w0:=w0) (J:=J') (J':=J') (θ:=θ') s Hp.le.rfl hc;have ⟨y,k⟩:=eM f hs a b o (by grind) m fun e u=>hc e (p.mem_iff.2 (by grind));refine ⟨by rw[aC];exact p.trans (y.append_left _),?_⟩;rw[aW];have B:hv θ' ⟨c,[]⟩=γ:=by
   show vg (θ' c) [] =γ;rw[hs c a,b];rfl
  rw[B] at l;intro w F g;obtain ⟨G,K,rfl,j,D⟩:=g.split;exact ⟨G,K,rfl,l w G j,k w K D⟩
 | .fk _::ps,i,d,chs,v::vs,r,h,hl,hF,hc=>eM (ps:=ps) f hs a b (show eI c (i+1) ps d.2 chs=some r from h) (by grind) hF.2 hc
 | .crs T E::ps,i,d,chs,v::vs,r,h,hl,hF,hc=>by
  have ⟨q,s,h⟩:=bind_some (show (vk ⟨i,[]⟩ T E chs).bind _=some r from h);have ⟨l,h⟩:=ai h;have ⟨C,o,h⟩:=bind_some h;cases ae h;have ⟨⟨A,z⟩,m⟩:=hF;have ⟨p,L,u⟩:=oB s;have ⟨y,k⟩:=eM f hs a b o (by grind) m fun e u=>hc e (p.mem_iff.2 (by grind));refine ⟨p.trans (y.cons _),?_⟩;have B:=(ba hs (show (⟨i,[]⟩:Hdr).id<n from z)).trans A;have M:hv θ' q.g=γ:=by
   rw[Hdr.beq_eq l];show vg (θ' c) [] =γ;rw[hs c a,b];rfl
  rw[u];intro w F g;obtain ⟨G,K,rfl,j,D⟩:=g;have j:(Ch.blk (bk (hv θ' ⟨i,[]⟩)) [hv θ' q.g,.int .i64 q.d.2.1,.int .i64 q.d.2.2] T).holds J' w G:=j;rw[B,M] at j;exact ⟨G,K,rfl,j,k w K D⟩
def ofH:(ts:List Ty)->j4 ts->dens ts
 | [],_=>()
 | [_],d=>d.1
 | _::u::ts,d=>(d.1,ofH (u::ts) d.2)
theorem IE: ∀(a:List Ty) (d:j4 a),toH a (ofH a d)=d
 | [],_=>rfl
 | [_],_=>rfl
 | _::u::a,d=>congrArg (Prod.mk d.1) (IE (u::a) d.2)
def xY:(ts us:List Ty)->j4 ts->j4 us->j4 (ts++us)
 | [],_,_,e=>e
 | _::ts,us,d,e=>(d.1,xY ts us d.2 e)
theorem EN: ∀(a us:List Ty) (d:j4 a) (e:j4 us),hFst a us (xY a us d e)=d
 | [],_,_,_=>rfl
 | _::a,us,d,e=>congrArg (Prod.mk d.1) (EN a us d.2 e)
theorem Ko: ∀(a us:List Ty) (d:j4 a) (e:j4 us),hSnd a us (xY a us d e)=e
 | [],_,_,_=>rfl
 | _::a,us,d,e=>Ko a us d.2 e
def A6 (tt:TT) (s:Sg):List ResultVar->Option (List AV)
 | [] =>some []
 | r::rs=>(WO tt s r).bind fun v=>(A6 tt s rs).bind fun vs=>some (v::vs)
def IF (s:Sg):List AV->List Hdr
 | [] =>[]
 | v::vs=>AW v++IF s vs
def Ab:List Ent->List Hdr
 | [] =>[]
 | e::l=>match e.2.2 with
  | .hole _ _ _ _ _ _ _ _ _ _=>e.1::Ab l
  | _=>Ab l
def YY:List AV->List (Bool×Hdr)
 | [] =>[]
 | v::vs=>abM true v++YY vs
def GP (tr:Trs) (vs:List AV) (s:Sg):Sg:=match tr with
 | [] =>s
 | _=>RF (OM tr) (YY vs) s
def SB (tr:Trs) (vs:List AV) (s0:Sg):Sg:=match GP tr vs s0 with
 | s=>wD (IF s0 vs++Ab s.chs) s
def nlN:List AV->(ts:List Ty)->j4 ts->Int
 | [.one (.own _)],[.sl _ t],d=>((List.length (α:=t.den) d.1:Nat):Int)
 | [.one (.val v)],[.sl _ _],_=>match isNil v with
  | true=>1
  | false=>0
 | _,_,_=>0
def YZ (an:List (Nat×Ty)) (vs:List AV) (ts:List Ty) (d:j4 ts):Option Unit:=match AU 1000000 an with
 | true=>chk (0<nlN vs ts d)
 | false=>some ()
theorem Y0 {vs:List AV} {a:List Ty} {d:j4 a} {θ:Th} (h:0<nlN vs a d) {v:Value} (hv:vs.map (·.v θ)= [v]):yO a d v:=by
 unfold nlN at h;split at h
 ·intro b;omega
 ·split at h
  ·intro _;grind[oc,AV.v,LV.v]
  ·omega
 ·omega
def LZ (V:Env) (rvs:List ResultVar) (rs:List Ty) (ps:List PM) (d:denP ps) (s00:Sg):Option (dens (rs++outs ps)):=(A6 V.tt s00 rvs).bind fun vs00=>RO vs00 s00 fun s0=>(A6 V.tt s0 rvs).bind fun vs0=>match SB V.tr vs0 s0 with
 | s=>(A6 V.tt s rvs).bind fun vs=>(ID rs vs s.chs).bind fun r=>(eI ps.length 0 ps d r.2.2).bind fun o=>(YZ V.an vs rs r.1).bind fun _=>some (ofH _ (xY rs (outs ps) r.1 o.1))
theorem Do {vs:List Value} : ∀ {a:List Ty} {i:Nat} {us:List Value} {d:j4 a},us.length=a.length->(∀j v,us[j]? =some v->vs[i+j]? =some v)->xH i a d (.tuple vs.toArray)=xX a us d
 | [],i,us,d,h,_=>by
  rfl
 | t::a,i,[],d,h,_=>by cases h
 | t::a,i,u::us,d,h,k=>by
  have b:vg (.tuple vs.toArray) [i] =u:=by
   show vs.toArray.getD i undef=u
   have:=k 0 u rfl
   rw[Nat.add_zero] at this;simp[Array.getD_eq_getD_getElem?,this]
  show Ch.own t.rep (mo t.isProd (vg (.tuple vs.toArray) [i])) d.1::xH (i+1) a d.2 _=Ch.own t.rep (mo t.isProd u) d.1::xX a us d.2;rw[b,Do (us:=us) (by grind) fun j v c=>by
   have:=k (j+1) v (by grind)
   grind]
theorem L4 {a:List Ty} {vs:List Value} {d:j4 a} (h:vs.length=a.length):resGv a d (aam vs)=xX a vs d:=by
 match a,vs,d,h with
 | [],[],d,_=>rfl
 | [t],[v],d,_=>rfl
 | t::u::a,v::w::vs,d,h =>
  show xH 0 _ d (.tuple (v::w::vs).toArray)=_;grind[Do]
theorem SC {a:List Ty} {vs:List Value} (h:vs.length=a.length) (k: ∀(i:Nat) t v,a[i]? =some t->vs[i]? =some v->oL v=t.isProd):resFa a (aam vs):=by
 match a,vs,h with
 | [],[],_=>exact ⟨#[],rfl,rfl,fun i t c=>by grind⟩
 | [t],[v],_=>exact k 0 t v rfl rfl
 | t::u::a,v::w::vs,h =>
  refine ⟨(v::w::vs).toArray,rfl,by omega,fun i d c=>?_⟩;have b:i<(v::w::vs).length:=by rw[h];exact (List.getElem?_eq_some_iff.1 c).1
  have:=k i d ((v::w::vs)[i]) c (List.getElem?_eq_getElem b)
  rw[<-this,Array.getD_eq_getD_getElem?,List.getElem?_toArray,List.getElem?_eq_getElem b];rfl
theorem wI {P:Program} {I:Hp} {w0 w:World} {F:Ch} {J:Hp} {θ:Th} {n:Nat} {s:Sg} {a:Act} {tt:TT} (d:TTok P tt) (e:Sim P I w0 F n J θ s a w): ∀ {rs:List ResultVar} {vs:List AV},A6 tt s rs=some vs->Kn P a w rs (vs.map (·.v θ))/\ ∀v∈vs,v.ok P w0 J θ s.nxt s.chs
 | [],vs,h=>by
  cases ae (show some [] =some vs from h);exact ⟨rfl,fun v hv=>by cases hv⟩
 | r::rs,vs,h=>by
  have ⟨v,b,h⟩:=bind_some (show (WO tt s r).bind _=some vs from h);have ⟨j,c,h⟩:=bind_some h;cases ae h;have ⟨f,k⟩:=SA d e b;have ⟨g,i⟩:=wI d e c;refine ⟨⟨_,_,rfl,f,g⟩,fun x l=>?_⟩;grind
theorem O6 {J:Hp} {a b c d:List Ch} (h:sA J a b) (k:sA J c d):sA J (a++c) (b++d):=fun w F g=>by
 obtain ⟨G,K,rfl,e,f⟩:=g.split;exact (h w G e).append (k w K f)
theorem St.sepTo {J:Hp} {w0 w:World} {a b C:List Ch} (h:St J w0 w (a++C)) (k:sA J a b):St J w0 w (b++C):=by
 have ⟨d,i,F,e,c,f⟩:=h;obtain ⟨G,K,rfl,j,g⟩:=e.split;exact ⟨d,i,G++K,(k w G j).append g,c,f⟩
theorem xZ {P:Program} {n:Nat} {I:Hp} {w0:World} {k:FuncId} {fn:Func} {c:Code} {args:Array Value} {rn:List Ch} {fact:Value->Prop} {gv:Value->List Ch} (L:List (Nat×Value)) (q:P.funcs[k]? =some fn) (b:fn.body=some c) (x:fn.ntmps=n) (y:args.size<=n) (u: ∀p∈L,args[p.1]? =some p.2)
  (h: ∀F w a,Agr n a L->St I w0 w (rn++ [F])->c.wp P (bodyPost P fn fun e g=> ∃v,e= .returned v/\fact v/\ ∃J,I.le J/\St J w0 g (gv v++ [F])) a w) (r: ∀v,Ch.back (gv v)):Con P k args I w0 rn fact gv:=by
 intro w C d;have f:St I w0 w (rn++ [Ch.fr I C]):=by
  have ⟨b,l,F,i,o,j⟩:=d;obtain ⟨G,K,rfl,t,m⟩:=i.split;exact ⟨b,l,G++K,t.append ⟨K,[],by simp,m,rfl⟩,o,j⟩
 have:=h (Ch.fr I C) w { tmps:=args++Array.replicate (fn.ntmps - args.size) undef,defers:=[] } (Agr.start L (by omega) u) f
 refine (calls_of_wp q b this).mono ?_;rintro e g ⟨v,rfl,hv,J,s,d⟩;exact ⟨v,rfl,hv,d.back s (r v)⟩
theorem SD {P:Program} {I:Hp} {w0 w:World} {F:Ch} {n:Nat} {J:Hp} {θ:Th} {s:Sg} {a:Act} {tr:Trs} {vs:List AV} (h:Sim P I w0 F n J θ s a w): ∃b θ',J.le b/\Sim P I w0 F n b θ' (SB tr vs s) a w/\Fr s θ (SB tr vs s) θ':=by
 have key: ∃b θ',J.le b/\Sim P I w0 F n b θ' (GP tr vs s) a w/\Fr s θ (GP tr vs s) θ':=by
  unfold GP;split
  ·grind[Hp.le.rfl,Fr.rfl]
  ·exact vm h
 have ⟨b,θ',c,g,e⟩:=key;have ⟨f,d⟩:=tO (V:=⟨[],[],[],n,[]⟩) (hs:=IF s vs++Ab (GP tr vs s).chs) g;exact ⟨b,θ',c,f,e.trans d⟩
theorem UA {V:Env} {P:Program} {w0:World} {F:Ch} {J:Hp} {θ:Th} (H:TTok P V.tt) {fn:Func} {rs:List Ty} {ps:List PM} {d:denP ps} {vs:List Value} {s0:Sg} (k0:vs.length=ps.length) (R:StF P w0 J θ (ps.length+1) 0 ps vs d) (U:ps.length+1<=s0.nxt) {γ:Value} (A:θ ps.length=γ): ∀r J' θ' k C j,LZ V fn.results.toList rs ps d k=some r->Sim P J w0 F V.n J' θ' k C j->J.le J'->Fr s0 θ k θ'->
  bodyPost P fn (fun e j=> ∃v,e= .returned v/\(resFa rs v/\(AU 1000000 V.an=true->yO rs (hFst rs (outs ps) (toH _ r)) v))/\ ∃J2,J.le J2/\St J2 w0 j ((resGv rs (hFst rs (outs ps) (toH _ r)) v++outCh γ ps vs (hSnd rs (outs ps) (toH _ r)))++ [F])) .ret C j:=by
 intro r J' θ' k C j a f s g;have ⟨E,p,a⟩:=bind_some (show (A6 V.tt k fn.results.toList).bind _=some r from a);have ⟨D,a,G,N0⟩:=JZ a (wI H f p).2 f;have ⟨u,M,a⟩:=bind_some a;have ⟨O,θ1,l,h,w⟩:=SD (tr:=V.tr) (vs:=u) G;generalize SB V.tr u D=I at a h w;have Z:=g.1;have c:Same (ps.length+1) θ θ1:=fun i hi=>(w.same i (by omega)).trans (g.same i (by omega));replace s:=s.trans l;clear l w f G g;revert O θ1;intro J' θ' h c s;have ⟨m,z,a⟩:=bind_some a;have ⟨q,T,a⟩:=bind_some a;have ⟨o,ho,a⟩:=bind_some a;have ⟨u0,b,a⟩:=bind_some a;cases ae a;have ⟨r1,Q⟩:=wI H h z;have ⟨L,t2,X,t4⟩:=Dn (J:=J') (θ:=θ') T Q;have ⟨S,o2⟩:=eM (P:=P) (J:=J) (J':=J') (θ:=θ) (θ':=θ') (vs:=vs) (n:=ps.length+1) (n':=I.nxt) (chs0:=I.chs) s c (ax _) A ho k0 R fun e he=>h.fine.chs e (L.mem_iff.2 (by grind));have K:(m.map (·.v θ')).length=rs.length:=by rw[List.length_map];exact t2
 refine YX h.agr r1 ⟨_,rfl,⟨SC K fun i t v ht N=>?_,fun B=>?_⟩,J',s,?_⟩
 ·grind
 ·rw[IE,EN];unfold YZ at b;rw[B] at b;have b:=bE b;rcases m with _ | ⟨x,m⟩
  ·cases b
  ·cases m with
   | nil=>exact Y0 (θ:=θ') b rfl
   | cons y m=>grind[nlN]
 ·rw[IE,EN,Ko,L4 K];have hp:=L.trans (S.append_left _);have W:=h.st.perm ((hp.map (toCh P θ')).append_right [F]);have h2:St J' w0 j ((q.2.1.map (toCh P θ')++o.2.1.map (toCh P θ'))++(o.2.2.map (toCh P θ')++ [F])):=by
   simpa [aW,aC] using W
  have Y:=St.sepTo h2 (O6 X o2);refine St.left (ds:=o.2.2.map (toCh P θ')) (Y.perm ?_);grind[aC,List.Perm.append_left,List.perm_append_comm]
theorem IG {V:Env} {P:Program} (Z:TTok P V.tt) (hF:FTok P V.ft) (L:P.follows .mixedOrders=true) {k:FuncId} {fn:Func} {c:Code} {f:FS} (hf:P.funcs[k]? =some fn) (hb:fn.body=some c) (hn:fn.ntmps=V.n) (hen:Enters P k) (hm:f.ps.length<=V.n) (s:(Ep f.rs&&wx f.ps)=true) (A:Ann)
  (z: ∀d,appP f.ps f.m d=lH V (LZ V fn.results.toList f.rs f.ps d) c A (fun r=>some r) (fun _ _=>none) (LZ V fn.results.toList f.rs f.ps d) (rj (yY f.ps d))): ∀w0 J γ b (d:denP f.ps) r,Lay P J->PArgs P w0 J γ f.ps b d->appP f.ps f.m d=some r->Con P k b.toArray J w0 (owCh γ f.ps b d) (fun v=>resFa f.rs v/\(AU 1000000 V.an=true->yO f.rs (hFst f.rs (outs f.ps) (toH _ r)) v)) (fun v=>resGv f.rs (hFst f.rs (outs f.ps) (toH _ r)) v++outCh γ f.ps b (hSnd f.rs (outs f.ps) (toH _ r))):=by
 rw[aj] at s;intro w0 J γ b d r B Y X;rw[z] at X;have k0:=GO Y;let θ:=fun i=>if i=b.length then γ else b.getD i undef;have W: ∀j v,b[j]? =some v->θ (0+j)=v:=fun j v hj=>by
  grind
 have g:θ f.ps.length=γ:=by
  grind
 have y: ∀p∈(b.zipIdx.map fun q=>(q.2,q.1)),b.toArray[p.1]? =some p.2:=fun p hp=>by
  grind
 refine xZ (n:=V.n) (b.zipIdx.map fun q=>(q.2,q.1)) hf hb hn (by grind) y (fun F w a hA S=>?_) (fun v=>xO (eH _ _ _ s.2) _ _ s.1)
 ·have ⟨R,k2,k3,k4,k5⟩:=Km (n:=f.ps.length+1) (q:=f.ps.length) (C:=[F]) (ax _) g Y W (by omega) S;have t:Fine P w0 J θ (yY f.ps d):=⟨fun e o=>(R e o).1 _,fun e o=>by have:=R e o;show e.2.1<f.ps.length+1;omega,k2,fun e o=>k4 e o _,B⟩;have Q:Agr V.n a (envL θ (yY f.ps d)):=hA.pick _ fun p hp=>by
   obtain ⟨e,o,rfl⟩:=List.mem_map.1 hp;have h5:=(R e o).2.2.2.2;have key: ∀(l:List Value) (k:Nat) (i:Nat) (v:Value),k<=i->l[i - k]? =some v->((l.zipIdx k).map fun q=>(q.2,q.1)).lookup i=some v:=by
    intro l;induction l with
    | nil=>grind
    | cons x l ih =>
     intro k i v G h;simp[List.zipIdx_cons,List.map_cons,List.lookup_cons];by_cases e:i=k
     ·simp_all
     ·rw[show i - k=(i - (k+1))+1 from by omega] at h;grind
   grind
  have hS:Sim P J w0 F V.n J θ (yY f.ps d) a w:=⟨Hp.le.rfl,Q,k3,t⟩;have fin:=UA (rs:=f.rs) (fn:=fn) (F:=F) Z k0 k5 (aL (yY f.ps d).nxt) g;have ⟨θ0,M,m⟩:=zU hS;exact (vp (I:=J) (w0:=w0) (F:=F) Z hF L c).1 A X M (fun E θ' D H K G S' U u=>fin r E θ' D H K G S' U (m.trans u)) (fun i E θ' D H K G=>by cases G) (fun r' E θ' D H K T O N U u=>by
   cases ae O;exact fin _ E θ' D H K T N U (m.trans u))
theorem fok {V:Env} {P:Program} (x:TTok P V.tt) (l:FTok P V.ft) (i:P.follows .mixedOrders=true) {k:FuncId} {fn:Func} {c:Code} {f:FS} (A:P.funcs[k]? =some fn) (m:fn.body=some c) (n:fn.ntmps=V.n) (b:Enters P k) (z:f.cl=none) (E:f.ps.length<=V.n) (j:(Ep f.rs&&wx f.ps)=true) (g:Ann)
  (a: ∀d,appP f.ps f.m d=lH V (LZ V fn.results.toList f.rs f.ps d) c g (fun r=>some r) (fun _ _=>none) (LZ V fn.results.toList f.rs f.ps d) (rj (yY f.ps d))):FOk P k f:=
 ⟨fun q F=>by grind,fun _=>b,fun _ D J γ B d r h s p w C o=>(IG x l i A m n b E j g a D J γ B d r h s p w C o).mono fun e G ⟨v,t,y,u⟩=>⟨v,t,y.1,u⟩⟩
theorem acb {V:Env} {P:Program} (D:TTok P V.tt) (y:FTok P V.ft) (i:P.follows .mixedOrders=true) {k:FuncId} {fn:Func} {c:Code} {f:FS} (E:P.funcs[k]? =some fn) (z:fn.body=some c) (A:fn.ntmps=V.n) (g:Enters P k) (l:f.cl=some (0,7)/\AU 1000000 V.an=true) (F:f.ps.length<=V.n) (j:(Ep f.rs&&wx f.ps)=true) (h:Ann)
  (b: ∀d,appP f.ps f.m d=lH V (LZ V fn.results.toList f.rs f.ps d) c h (fun r=>some r) (fun _ _=>none) (LZ V fn.results.toList f.rs f.ps d) (rj (yY f.ps d))):FOk P k f:=
 ⟨fun q B=>by
  rw[l.1] at B;cases ae B;exact ⟨⟨fun e=>(by cases e),fun _ e=>(by cases e),fun e=>(by cases e)⟩,(fun _ x J γ u d r a p o w C n=>(IG D y i E z A g F j h b x J γ u d r a p o w C n).mono fun e G ⟨v,s,m,t⟩=>⟨v,s,⟨m.1,m.2 l.2⟩,t⟩),fun e=>(by cases e)⟩,fun _=>g,fun _ x J γ u d r a p o w C n=>(IG D y i E z A g F j h b x J γ u d r a p o w C n).mono fun e G ⟨v,s,m,t⟩=>⟨v,s,m.1,t⟩⟩
theorem Kp {V:Env} {P:Program} (S:TTok P V.tt) (T:FTok P V.ft) (G:P.follows .mixedOrders=true) {k:FuncId} {fn:Func} {c:Code} {E b:Nat} (Z:P.funcs[k]? =some fn) (U:fn.body=some c) (W:fn.ntmps=V.n) (R:Enters P k) (hm:1<=V.n) (h:Ann)
  (q: ∀(E':TypeId) (f:Bool) (xs:List Raw),(match f with | true=>some ([] :List Raw) | false=>(bM b [] xs).bind fun l=>some l)=lH V (LZ V fn.results.toList [.sl E .raw] [] ()) c h (fun r=>some r) (fun _ _=>none) (LZ V fn.results.toList [.sl E .raw] [] ()) ⟨[(0,0,.one (.rdn ⟨0,[]⟩ f (.sl E' .raw) xs))],[],1⟩):xL P k E b:=by
 refine ⟨R,fun E' J w0 v xs l s o xY=>?_⟩;have ⟨f,m⟩: ∃f,FO v=f:=⟨_,rfl⟩;have Y:lH V (LZ V fn.results.toList [.sl E .raw] [] ()) c h (fun r=>some r) (fun _ _=>none) (LZ V fn.results.toList [.sl E .raw] [] ()) ⟨[(0,0,.one (.rdn ⟨0,[]⟩ f (.sl E' .raw) xs))],[],1⟩=some l:=by
  rw[<-q E' f xs];cases f with
  | false =>
   rw[xY];rfl
  | true =>
   obtain ⟨L,-⟩:=Ev xY;obtain ⟨ao,cap,e,-,hx⟩:=o;obtain rfl:v= .slice ao xs.length cap:=by grind
   rcases hx with rfl | ⟨b,off,ccs,t,fr,rfl,-⟩
   ·rw[L];rfl
   ·cases m
 let θ:Th:=fun _=>v;have key:Con P k #[v] J w0 [] (fun v=>resFa [.sl E .raw] v/\(AU 1000000 V.an=true->yO [.sl E .raw] (l,()) v)) (fun v=>resGv [.sl E .raw] (l,()) v++ []):=by
  refine xZ (n:=V.n) [(0,v)] Z U W hm (fun p hp=>by grind) (fun F w a hA N=>?_) (fun u=>xO (D:=[]) trivial [.sl E .raw] (l,()) rfl);have g:Fine P w0 J θ ⟨[(0,0,.one (.rdn ⟨0,[]⟩ f (.sl E' .raw) xs))],[],1⟩:=⟨fun e A=>by cases ak A;exact ⟨Nat.one_pos,o,m⟩,fun e A=>by grind,List.pairwise_singleton _ _,fun e A=>(by cases A),s⟩;have hS:Sim P J w0 F V.n J θ ⟨[(0,0,.one (.rdn ⟨0,[]⟩ f (.sl E' .raw) xs))],[],1⟩ a w:=⟨Hp.le.rfl,hA,N,g⟩;have fin:=UA (V:=V) (θ:=θ) (J:=J) (w0:=w0) (rs:=[.sl E .raw]) (ps:=[]) (d:=()) (vs:=[]) (s0:=⟨[(0,0,.one (.rdn ⟨0,[]⟩ f (.sl E' .raw) xs))],[],1⟩) (fn:=fn) (F:=F) S rfl trivial (aL _) (γ:=θ 0) rfl;exact (vp (I:=J) (w0:=w0) (F:=F) S T G c).1 h Y hS (fun z θ' y B x M S' Q j=>fin _ z θ' y B x M S' Q j) (fun i z θ' y B x M=>by cases M) (fun r' z θ' y B x O K H Q j=>by
   cases ae K;exact fin _ z θ' y B x O H Q j)
 exact fun w C X=>(key w C X).mono fun e x ⟨v,L,h2,h3⟩=>⟨v,L,trivial,h3⟩
theorem kC {P:Program} {k:FuncId} {f:FS} (h:Enters P k) (a:f.cl=none) (e: ∀d,appP f.ps f.m d=none):FOk P k f:=
 ⟨fun q c=>by grind,fun _=>h,fun _ _ _ _ _ d r _ _ b=>by grind⟩
theorem GQ {P:Program} {k:FuncId} {f:FS} {E b:Nat} (h:FOk P k ⟨f.ps,f.rs,f.m,none⟩) (c:xL P k E b) (d:Nat.beq b 0=false:=by rfl) (g:Nat.beq b 7=false:=by rfl) (i:Nat.ble 1000 b=false:=by rfl) (j:Nat.beq b 9=false:=by rfl):FOk P k ⟨f.ps,f.rs,f.m,some (E,b)⟩:=
 ⟨fun q a=>by cases ae a;exact ⟨⟨fun e=>(by grind),fun _ _ _ _=>c,fun e=>(by grind)⟩,fun e=>(by grind),fun e=>(by grind)⟩,fun _=>h.en rfl,fun _=>h.con rfl⟩
def rtN (V:Env) (rvs:List ResultVar) (T:TypeId) (s:Sg):Option (Int×Int):=(A6 V.tt s rvs).bind fun vs=>match vs with
 | [.one (.ptr h off)] =>bO (Nat.beq off 0) ((rf h s.chs).bind fun b=>bO (Nat.beq b.T T) (match b.cells with
  | [.rd g _ _,.val (.int .i64 x),.val (.int .i64 y)] =>bO (Hdr.beq g ⟨0,[]⟩) (some (x,y))
  | _=>none))
 | _=>none
theorem Y1 {V:Env} {P:Program} (hT:TTok P V.tt) (hF:FTok P V.ft) (Y:P.follows .mixedOrders=true) {k:FuncId} {fn:Func} {c:Code} {E T:Nat} {t:Ty} {m:List t.den->Option (Int×Int)} (hf:P.funcs[k]? =some fn) (hb:fn.body=some c) (hn:fn.ntmps=V.n) (S:Enters P k) (hm:1<=V.n) (H:Ann)
  (N: ∀A:List t.den,m A=lH V (rtN V fn.results.toList T) c H (fun r=>some r) (fun _ _=>none) (rtN V fn.results.toList T) ⟨[(0,0,.one (.rd ⟨0,[]⟩ (.sl E t) A))],[],1⟩):NewOk P k T ⟨[.rd (.sl E t)],[.int .i64,.int .i64],m,some (T,9)⟩:=by
 refine ⟨S,fun w0 J γ vs d r ns O ha xY X=>?_⟩;obtain ⟨v,vs',rfl,hd,L⟩:=ha;obtain rfl:vs'= []:=L;obtain ⟨A,u⟩:=d;obtain ⟨cs,hcs,hrd⟩:=hd;obtain rfl:cs= [v]:=hcs;obtain ⟨x,y⟩:=r;have hr:=N A;rw[show m A=some (x,y) from xY] at hr;obtain rfl: [x,y] =ns:=ae X;let θ:Th:=fun _=>v;refine xZ (n:=V.n) [(0,v)] hf hb hn hm (fun p hp=>by obtain rfl:=ak hp;rfl) (fun F w a hA Q=>?_) (fun u=>Ch.back_deeps ⟨TQ,trivial⟩);have D:Fine P w0 J θ ⟨[(0,0,.one (.rd ⟨0,[]⟩ (.sl E t) A))],[],1⟩:=⟨fun e K=>by obtain rfl:=ak K;exact ⟨Nat.one_pos,hrd⟩,fun e K=>by obtain rfl:=ak K;exact Nat.one_pos,List.pairwise_singleton _ _,fun e K=>(by cases K),O⟩;have hS:Sim P J w0 F V.n J θ ⟨[(0,0,.one (.rd ⟨0,[]⟩ (.sl E t) A))],[],1⟩ a w:=⟨Hp.le.rfl,hA,Q,D⟩;have fin: ∀r o θ' s B j,rtN V fn.results.toList T s=some r->Sim P J w0 F V.n o θ' s B j->J.le o->Fr ⟨[(0,0,.one (.rd ⟨0,[]⟩ (.sl E t) A))],[],1⟩ θ s θ'->
   bodyPost P fn (fun e j=> ∃u,e= .returned u/\(∃b,u= .pointer (some ⟨b,0,none⟩))/\ ∃J2,J.le J2/\St J2 w0 j ([Ch.blk (bk u) ([v] ++ [r.1,r.2].map (Value.int .i64)) T] ++ [F])) .ret B j:=by
  intro r o θ' s B j f M G l;obtain ⟨us,hus,f⟩:=bind_some f;obtain ⟨r1,r2⟩:=wI hT M hus;split at f
  ·rename_i h off;obtain ⟨ho,f⟩:=ai f;obtain rfl:off=0:=al ho;obtain ⟨b,R,f⟩:=bind_some f;obtain ⟨C,f⟩:=ai f;have C:b.T=T:=al C;split at f
   ·rename_i g ty d p q z;obtain ⟨hg,f⟩:=ai f;obtain rfl:=Hdr.beq_eq hg;obtain rfl:=ae f;refine YX M.agr r1 ⟨_,rfl,⟨bk (hv θ' h),rfl⟩,o,G,?_⟩;have h1:=M.st.perm (((kA R).map (toCh P θ')).append_right [F]);have e0:hv θ' ⟨0,[]⟩=v:=by
     show vg (θ' 0) [] =v;rw[l.same 0 Nat.one_pos];rfl
    have h2:St o w0 j (Ch.blk (bk (hv θ' h)) (b.cells.map (·.v θ')) b.T::(b.rest.map (toCh P θ')++ [F])):=h1;rw[z,C] at h2;have h3:St o w0 j ([Ch.blk (bk (hv θ' h)) [hv θ' ⟨0,[]⟩,.int .i64 p,.int .i64 q] T] ++ [F] ++b.rest.map (toCh P θ')):=h2.perm ((List.perm_append_comm).cons _);rw[e0] at h3;exact h3.left
   ·cases f
  ·cases f
 exact (vp (I:=J) (w0:=w0) (F:=F) hT hF Y c).1 H hr.symm hS (fun o θ' s B j U M G l=>fin _ o θ' s B j U M G l) (fun i o θ' s B j U=>by cases U) (fun r' o θ' s B j f Z W G l=>by
  obtain rfl:=ae Z;exact fin _ o θ' s B j f W G l)
theorem WU {P:Program} {k:FuncId} {f:FS} {T:Nat} (d:NewOk P k T f) (a:f.cl=some (T,9)):FOk P k f:=by
 have c:f.ov=true:=by unfold FS.ov;rw[a];rfl
 refine ⟨fun q b=>?_,fun e=>(by rw[c] at e;cases e),fun e=>(by rw[c] at e;cases e)⟩;rw[a] at b;obtain rfl:=ae b;exact ⟨⟨fun e=>(by cases e),fun _ _ _ e=>(by cases e),fun e=>(by cases e)⟩,fun e=>(by cases e),fun _=>d⟩
end R
namespace R
open Go.RowKit Go.Shelf Go.Sort
open D
abbrev PT:Ty:=.prod (.int .i64) (.int .i64)
def zA (x:Int×Int):List Value:=[.int .i64 x.1,.int .i64 x.2]
theorem Kq (x:Int×Int):(zA x).length=2:=rfl
theorem SE (x:Int×Int): ∀v∈zA x,v.oneCell'=true:=by
 intro v hv;simp only[zA,List.mem_cons,List.not_mem_nil,or_false] at hv;rcases hv with rfl | rfl <;> rfl
def L5 (cf:Int×Int->Int×Int->Int) (xs:List (Int×Int)):List (Int×Int):=xs.mergeSort fun x y=> !(ltOf cf) y x
def SF (cf:Int×Int->Int×Int->Int) (xs:List (Int×Int)):Option (List (Int×Int)):=(chk (xs.length<4611686018427387904)).bind fun _=>some (L5 cf xs)
theorem GR (a:Int×Int->Int×Int->Int) (xs:List (Int×Int)):(L5 a xs).length=xs.length:=List.length_mergeSort _
theorem St.grown {I:Hp} {w0 w:World} {cs:List Ch} (h:St I w0 w cs) (os:Array Obj):St I w0 (grow w os) cs:=by
 refine St.step (w:=w) (c:=[]) (c':=[]) h rfl rfl rfl (by simp[grow]) ?_;rintro F rfl - -;exact ⟨fun b a _=>heap_grow_old w os a,[],rfl,List.nodup_nil,by simp⟩
theorem O7 (d:Array (Int×Int)) {i j:Nat} {z:Int×Int} (h:d.toList[i]? =some z) (g:j<2):(flatK zA 2 d)[i*2+j]? =(zA z)[j]? :=by
 have b:i<d.size:=by
  rcases Nat.lt_or_ge i d.size with c | c
  ·exact c
  ·rw[List.getElem?_eq_none (by simpa using c)] at h;cases h
 have a:i*2+j<d.size*2:=by omega
 have e:=get_flatK zA 2 d (i*2+j) a;have f:i*2+j<(flatK zA 2 d).size:=by rw[size_flatK];exact a
 rw[getElem!_pos (flatK zA 2 d) _ f] at e;rw[Array.getElem?_eq_getElem f,e,show (i*2+j) / 2=i from by omega,show (i*2+j) % 2=j from by omega];have k:d[i]! =z:=by
  rw[getElem!_pos d _ b];rw[List.getElem?_eq_getElem (by simpa using b)] at h;simpa using ae h
 rw[k,getElem!_pos (zA z) _ (by rw[Kq];exact g),List.getElem?_eq_getElem]
theorem WV {I:Hp} {c:List Value} {x:Int×Int} (h:PT.rep.rd I c x):c=zA x:=by
 obtain ⟨e,a,rfl,d,b⟩:=h;obtain rfl:e= [_]:=d;obtain rfl:a= [_]:=b
 rfl
theorem WW {I:Hp} (x:Int×Int):PT.rep.rd I (zA x) x:=⟨[_],[_],rfl,rfl,rfl⟩
theorem O8 {P:Program} {ρ:Ren} (L:SlLaysF0.n6 P ρ) (aE: ∀w,(isAgg (ρ.t 24)).run P w= .ok true w) (zE: ∀w,(Go.sizeOf (ρ.t 24)).run P w= .ok 2 w) {u:Int×Int->Int×Int->Int} (hO:SWO (ltOf u)) (hT: ∀x y,(ltOf u) x y=false->(ltOf u) y x=false->x=y) {g:FuncId} (eg:Enters P g) (O: ∀blk off size w,CmpLays P g #[] zA 2 u blk off size w) (en:Enters P (ρ.f 6)) (E:TypeId) :
  FOk P (ρ.f 6) ⟨[.ow (.sl E PT),.fk g],[],fun a _=>SF u a,none⟩:=by
 refine ⟨fun q hq=>(by cases hq),fun _=>en,fun _ Q J γ vs d r hlay ha xY=>?_⟩;obtain ⟨v,vs1,rfl,hd,v2,vs2,rfl,rfl,X⟩:=ha;obtain rfl:vs2= []:=X;obtain ⟨xs0,u1,un⟩:=d;let a:List (Int×Int):=xs0;let zs:List (Int×Int):=r;have xY:SF u a=some zs:=xY;obtain ⟨u1,hc,U⟩:=Option.bind_eq_some_iff.1 xY;have hc:=bE hc;have U:=ae U;intro w C b;have b:St J Q w (Ch.own (aw E PT.rep) [v] a::C):=b;clear xY;rename_i M;clear M hd
 clear_value a
 have A: ∀ {e:Ending} {Y:World},(∃W,e= .returned (.tuple #[])/\Y=W/\St J Q W (Ch.own (aw E PT.rep) [v] zs::C))-> ∃v':Value,e= .returned v'/\(∃vs:Array Value,v'= .tuple vs/\vs.size=0/\ ∀(i:Nat) (t:Ty),([] :List Ty)[i]? =some t->oL (vs.getD i undef)=t.isProd)/\St J Q Y (Ch.own (aw E PT.rep) [v] zs::C):=by
  rintro e Y ⟨W,rfl,rfl,h⟩;exact ⟨_,rfl,⟨#[],rfl,rfl,fun i t h=>(by simp at h)⟩,h⟩
 have I:(v= .slice none 0 0/\a= [])\/ ∃s f n cap,v= .slice (some ⟨s,f,none⟩) n cap:=by
  obtain ⟨hb,l,F,⟨G,K,rfl,⟨hl,e2⟩,e3⟩,h4,h5⟩:=b;rcases e2 with ⟨hv,h1,_⟩ | ⟨s,ofs',cap',cur,K1,hv,_⟩
  ·exact .inl ⟨List.cons.inj hv |>.1,h1⟩
  ·exact .inr ⟨_,_,_,_,List.cons.inj hv |>.1⟩
 rcases I with ⟨rfl,hx⟩ | ⟨s,f,n,cap,rfl⟩
 ·refine (AnyF.slices_SortFunc_none L none 0 (.func (.func g) #[] #[]) w).mono fun e Y ⟨he,hw⟩=>A ⟨_,he,hw,?_⟩;rw[<-U,hx,show L5 u [] = [] from List.mergeSort_nil ..];rw[hx] at b;exact b
 ·obtain ⟨hn,h1,h2,cur,Z,hroom,hat⟩:=yS (R:=PT.rep) (k:=2) (Ty.sh_ok (t:=PT) rfl) rfl b;obtain rfl:=hn;have hH:HoldsK zA 2 w s f a.toArray:=by
   intro j N;rw[size_flatK] at N;have N:j<a.length*2:=by simpa using N
   have l:j / 2<a.length:=by omega
   obtain ⟨c,e1,e2,e3⟩:=hat (j / 2) _ (List.getElem?_eq_getElem l);have D:=e2 (j % 2) (Nat.mod_lt _ (by omega));rw[show j / 2*2+j % 2=j from by omega,WV e3] at D;have hf:=O7 a.toArray (i:=j / 2) (j:=j % 2) (z:=a[j / 2]) (by simpa using List.getElem?_eq_getElem l) (Nat.mod_lt _ (by omega));rw[show j / 2*2+j % 2=j from by omega] at hf;have hs:j<(flatK zA 2 a.toArray).size:=by rw[size_flatK];simpa using N
   refine ⟨?_,?_⟩
   ·unfold World.cell?;simp only[Z];rw[List.getElem?_drop] at D;rw[getElem!_pos (flatK zA 2 a.toArray) _ hs,<-Array.getElem?_toList,D,<-hf,Array.getElem?_eq_getElem hs]
    rfl
   ·unfold World.frozen?;simp only[Z];simp
  have S:s<w.heap.size:=by
   rcases Nat.lt_or_ge s w.heap.size with c | c
   ·exact c
   ·rw[Array.getElem?_eq_none c] at Z;cases Z
  have key:=AnyQ.slices_SortFunc_total L 2 aE zE zA Kq SE u hO g #[] s f cap a.toArray w eg (O _ _ _ _) hH S (by simpa using hc) hT;rw[show a.toArray.size=a.length from List.size_toArray] at key;refine key.mono ?_;rintro e Y ⟨he,m,os,rfl⟩;refine A ⟨_,he,rfl,?_⟩;show St J Q (grow (putRow id (Sort.ahead w m) s f (flatK zA 2 (L5 u a).toArray)) os) _;rw[U];have o:zs.length=a.length:=by rw[<-U];exact GR _ _
  have T:(flatK zA 2 zs.toArray).toList.length=(flatK zA 2 a.toArray).size:=by rw[Array.length_toList,size_flatK,size_flatK];simp[o]
  have hq:=Go.Lib.putRow_eq_setCells id w s f (flatK zA 2 a.toArray) (flatK zA 2 zs.toArray).toList m hH T;rw[Array.toArray_toList] at hq;rw[hq,List.map_id];refine St.grown ?_ os;have V:St J Q (w.drewN m) (Ch.own (aw E PT.rep) [.slice (some ⟨s,f,none⟩) a.length cap] a::C):=b.drawn rfl rfl rfl rfl;have H:zs.length<=cap:=by rw[o];exact h1
  have B:zs.length<=lim:=by
   have:lim=2 ^ 63 - 1:=rfl
   have:maxLen=2 ^ 63 - 1:=rfl
   omega
  have hlt: ∀(i:Nat) (z:Int×Int),zs[i]? =some z->i<a.length:=fun i z l=>by
   rcases Nat.lt_or_ge i zs.length with c | c
   ·omega
   ·rw[List.getElem?_eq_none c] at l;cases l
  have hnw: ∀(i:Nat) (z:Int×Int),zs[i]? =some z-> ∀j,j<2->(flatK zA 2 zs.toArray).toList[(i - 0)*2+j]? =(zA z)[j]? :=fun i z l j N=>by
   rw[Nat.sub_zero,Array.getElem?_toList];exact O7 zs.toArray (by simpa using l) N
  have h3:=AN (p:=0) (cnt:=a.length) (zs:=zs) (news:=(flatK zA 2 zs.toArray).toList) (Ty.sh_ok (t:=PT) rfl) (Ty.cpy (t:=PT) rfl) (k:=2) rfl (by rw[T,size_flatK];simp) (by omega) H B (fun i z l=>.inl ⟨Nat.zero_le _,(by have:=hlt i z l;omega),zA z,rfl,hnw i z l,WW z⟩) V;rw[Nat.zero_mul,Nat.add_zero,show @List.length PT.den zs=a.length from o] at h3;exact h3
def cmpI (a b:Int):Int:=if a<b then -1 else if b<a then 1 else 0
def L6 (x y:Int×Int):Int:=if x.1=y.1 then cmpI x.2 y.2 else cmpI x.1 y.1
theorem O9 {a b:Int} :cmpI a b<0↔a<b:=by
 unfold cmpI;split
 ·simp_all
 ·split <;> simp_all
theorem Pa {x y:Int×Int} :ltOf L6 x y=true↔x.1<y.1\/x.1=y.1/\x.2<y.2:=by
 unfold ltOf L6;rw[decide_eq_true_iff];split
 ·rw[O9];omega
 ·rw[O9];omega
theorem Ac {x y:Int×Int} :ltOf L6 x y=false↔ ¬(x.1<y.1\/x.1=y.1/\x.2<y.2):=by
 rw[<-Pa,Bool.not_eq_true]
theorem SG:SWO (ltOf L6) where
 irrefl x:=by rw[Ac];omega
 trans x y z h k:=by rw[Pa] at *;omega
 ntrans x y z h k:=by rw[Ac] at *;omega
theorem SH (x y:Int×Int) (h:ltOf L6 x y=false) (k:ltOf L6 y x=false):x=y:=by
 rw[Ac] at h k;exact Prod.ext (by omega) (by omega)
end R
namespace R
open Go.Shelf
def wJ:Go.Shelf.Ren:=⟨fun | 6=>135 | 15=>173 | 14=>172 | 28=>213 | 29=>201 | 20=>205 | 21=>206 | 22=>207 | 23=>208 | 24=>209 | 25=>210 | 26=>211 | 27=>212 | 46=>234 | 47=>235 | 48=>236 | 49=>237 | 50=>238 | 57=>260 | n=>n,fun | 22=>44 | 24=>81 | 25=>110 | 3=>3 | 39=>148 | 0=>0 | 53=>237 | 55=>209 | 4=>4 | 46=>242 | 45=>241 | 50=>222 | 5=>5 | 9=>9 | 66=>261 | 70=>265 | 76=>283 | 77=>284 | n=>n,fun | n=>n⟩
theorem CB:Go.Proofs.SlLaysF0.n6 Tryz.prog wJ:= {
 mixed:=by kernel_rfl
 f6:=⟨Tryz.f135.name,by decide,Tryz.func135.trans (congrArg some (by kernel_rfl))⟩
 f14:=⟨Tryz.f172.name,by decide,Tryz.func172.trans (congrArg some (by kernel_rfl))⟩
 f15:=Tryz.func173.trans (congrArg some (by kernel_rfl))
 f20:=⟨Tryz.f205.name,by decide,Tryz.func205.trans (congrArg some (by kernel_rfl))⟩
 f21:=⟨Tryz.f206.name,by decide,Tryz.func206.trans (congrArg some (by kernel_rfl))⟩
 f22:=⟨Tryz.f207.name,by decide,Tryz.func207.trans (congrArg some (by kernel_rfl))⟩
 f23:=⟨Tryz.f208.name,by decide,Tryz.func208.trans (congrArg some (by kernel_rfl))⟩
 f24:=⟨Tryz.f209.name,by decide,Tryz.func209.trans (congrArg some (by kernel_rfl))⟩
 f25:=⟨Tryz.f210.name,by decide,Tryz.func210.trans (congrArg some (by kernel_rfl))⟩
 f26:=⟨Tryz.f211.name,by decide,Tryz.func211.trans (congrArg some (by kernel_rfl))⟩
 f27:=⟨Tryz.f212.name,by decide,Tryz.func212.trans (congrArg some (by kernel_rfl))⟩
 f28:=Tryz.func213.trans (congrArg some (by kernel_rfl))
 f29:=Tryz.func201.trans (congrArg some (by kernel_rfl))
 f46:=⟨Tryz.f234.name,by decide,Tryz.func234.trans (congrArg some (by kernel_rfl))⟩
 f47:=Tryz.func235.trans (congrArg some (by kernel_rfl))
 f48:=Tryz.func236.trans (congrArg some (by kernel_rfl))
 f49:=⟨Tryz.f237.name,by decide,Tryz.func237.trans (congrArg some (by kernel_rfl))⟩
 f50:=⟨Tryz.f238.name,by decide,Tryz.func238.trans (congrArg some (by kernel_rfl))⟩
 f57:=⟨Tryz.f260.name,by decide,Tryz.func260.trans (congrArg some (by kernel_rfl))⟩
 t0:=Tryz.underlying0
 a0:=Tryz.isAgg0
 z0:=Tryz.sizeOf0
 v0:=Tryz.zeroValue0
 t3:=Tryz.underlying3
 a3:=Tryz.isAgg3
 z3:=Tryz.sizeOf3
 v3:=Tryz.zeroValue3
 t4:=Tryz.underlying4
 a4:=Tryz.isAgg4
 z4:=Tryz.sizeOf4
 v4:=Tryz.zeroValue4
 t5:=Tryz.underlying5
 a5:=Tryz.isAgg5
 z5:=Tryz.sizeOf5
 v5:=Tryz.zeroValue5
 t9:=Tryz.underlying9
 a9:=Tryz.isAgg9
 z9:=Tryz.sizeOf9
 v9:=Tryz.zeroValue9
 t22:=Tryz.underlying44
 a22:=Tryz.isAgg44
 z22:=Tryz.sizeOf44
 v22:=Tryz.zeroValue44
 t25:=Tryz.underlying110
 a25:=Tryz.isAgg110
 z25:=Tryz.sizeOf110
 v25:=Tryz.zeroValue110
 t39:=Tryz.underlying148
 a39:=Tryz.isAgg148
 z39:=Tryz.sizeOf148
 v39:=Tryz.zeroValue148
 t45:=Tryz.underlying241
 a45:=Tryz.isAgg241
 z45:=Tryz.sizeOf241
 v45:=Tryz.zeroValue241
 t46:=Tryz.underlying242
 a46:=Tryz.isAgg242
 z46:=Tryz.sizeOf242
 v46:=Tryz.zeroValue242
 t50:=Tryz.underlying222
 a50:=Tryz.isAgg222
 z50:=Tryz.sizeOf222
 v50:=Tryz.zeroValue222
 t53:=Tryz.underlying237
 a53:=Tryz.isAgg237
 z53:=Tryz.sizeOf237
 v53:=Tryz.zeroValue237
 t55:=Tryz.underlying209
 a55:=Tryz.isAgg209
 z55:=Tryz.sizeOf209
 v55:=Tryz.zeroValue209
 t66:=Tryz.underlying261
 a66:=Tryz.isAgg261
 z66:=Tryz.sizeOf261
 v66:=Tryz.zeroValue261
 t70:=Tryz.underlying265
 a70:=Tryz.isAgg265
 z70:=Tryz.sizeOf265
 v70:=Tryz.zeroValue265
 t76:=Tryz.underlying283
 a76:=Tryz.isAgg283
 z76:=Tryz.sizeOf283
 v76:=Tryz.zeroValue283
 t77:=Tryz.underlying284
 a77:=Tryz.isAgg284
 z77:=Tryz.sizeOf284
 v77:=Tryz.zeroValue284 }
end R
namespace R
open Go.RowKit Go.Shelf Go.Sort
open D
abbrev IT:Ty:=.int .i64
def SI (xs:List Int):Option (List Int):=(chk (xs.length<4611686018427387904)).bind fun _=>some (xs.mergeSort fun x y=>decide (x<=y))
theorem St.grownI {I:Hp} {w0 w:World} {cs:List Ch} (h:St I w0 w cs) (os:Array Obj):St I w0 (grow w os) cs:=by
 refine St.step (w:=w) (c:=[]) (c':=[]) h rfl rfl rfl (by simp[grow]) ?_;rintro F rfl - -;exact ⟨fun b a _=>heap_grow_old w os a,[],rfl,List.nodup_nil,by simp⟩
theorem Pb {P:Program} {ρ:Ren} (L:Lays.n189 P ρ) (en:Enters P (ρ.f 189)) (E:TypeId) :
  FOk P (ρ.f 189) ⟨[.ow (.sl E IT)],[],fun a=>SI a,none⟩:=by
 refine ⟨fun q hq=>(by cases hq),fun _=>en,fun _ S J γ T d r hlay ha xY=>?_⟩;obtain ⟨v,X,rfl,hd,N⟩:=ha;obtain rfl:X= []:=N;obtain ⟨Y,un⟩:=d;let a:List Int:=Y;let zs:List Int:=r;have xY:SI a=some zs:=xY;obtain ⟨u1,hc,I⟩:=Option.bind_eq_some_iff.1 xY;have hc:=bE hc;have I:=ae I;intro w C b;have b:St J S w (Ch.own (aw E IT.rep) [v] a::C):=b;clear xY;rename_i y;clear y hd
 clear_value a
 have o: ∀ {e:Ending} {O:World},(∃W,e= .returned (.tuple #[])/\O=W/\St J S W (Ch.own (aw E IT.rep) [v] zs::C))-> ∃v':Value,e= .returned v'/\(∃T:Array Value,v'= .tuple T/\T.size=0/\ ∀(i:Nat) (t:Ty),([] :List Ty)[i]? =some t->oL (T.getD i undef)=t.isProd)/\St J S O (Ch.own (aw E IT.rep) [v] zs::C):=by
  rintro e O ⟨W,rfl,rfl,h⟩;exact ⟨_,rfl,⟨#[],rfl,rfl,fun i t h=>(by simp at h)⟩,h⟩
 have x:(v= .slice none 0 0/\a= [])\/ ∃l g n cap,v= .slice (some ⟨l,g,none⟩) n cap:=by
  obtain ⟨hb,D,F,⟨G,K,rfl,⟨hl,e2⟩,e3⟩,h4,h5⟩:=b;rcases e2 with ⟨hv,Z,_⟩ | ⟨l,ofs',cap',cur,K1,hv,_⟩
  ·exact .inl ⟨List.cons.inj hv |>.1,Z⟩
  ·exact .inr ⟨_,_,_,_,List.cons.inj hv |>.1⟩
 rcases x with ⟨rfl,hx⟩ | ⟨l,g,n,cap,rfl⟩
 ·refine (Any.slices_Sort_int_none L none 0 w).mono fun e O ⟨he,hw⟩=>o ⟨_,he,hw,?_⟩;rw[<-I,hx,List.mergeSort_nil];rw[hx] at b;exact b
 ·obtain ⟨hn,Z,h2,cur,Q,V,U⟩:=yS (R:=IT.rep) (k:=1) (Ty.sh_ok (t:=IT) rfl) rfl b;obtain rfl:=hn;have hH:Holds (Value.int .i64) w l g a.toArray:=by
   intro j H;have H:j<a.length:=by simpa using H
   obtain ⟨c,e1,e2,e3⟩:=U j _ (List.getElem?_eq_getElem H);have A:=e2 0 Nat.one_pos;obtain rfl:c= [.int .i64 a[j]]:=e3;rw[Nat.mul_one,Nat.add_zero,List.getElem?_drop] at A;refine ⟨?_,?_⟩
   ·unfold World.cell?;simp only[Q];rw[<-Array.getElem?_toList,A,getElem!_pos a.toArray _ (by simpa using H)];simp
   ·unfold World.frozen?;simp only[Q];simp
  have B:l<w.heap.size:=by
   rcases Nat.lt_or_ge l w.heap.size with c | c
   ·exact c
   ·rw[Array.getElem?_eq_none c] at Q;cases Q
  refine (Any.slices_Sort_int L l g cap a w hH B hc).mono ?_;rintro e O ⟨he,m,os,rfl⟩;refine o ⟨_,he,rfl,?_⟩;have f:zs.length=a.length:=by rw[<-I];exact List.length_mergeSort _
  rw[I,Go.Lib.sorted_world (Value.int .i64) w l g m a.toArray zs os hH (by simpa using f)];refine St.grownI ?_ os;have M:St J S (w.drewN m) (Ch.own (aw E IT.rep) [.slice (some ⟨l,g,none⟩) a.length cap] a::C):=b.drawn rfl rfl rfl rfl;have u:zs.length<=cap:=by rw[f];exact Z
  have s:zs.length<=lim:=by
   have:lim=2 ^ 63 - 1:=rfl
   have:maxLen=2 ^ 63 - 1:=rfl
   omega
  have h3:=AN (p:=0) (cnt:=a.length) (zs:=zs) (news:=zs.map (Value.int .i64)) (Ty.sh_ok (t:=IT) rfl) (Ty.cpy (t:=IT) rfl) (k:=1) rfl (by simp[f]) (by omega) u s (fun i z D=>.inl ⟨Nat.zero_le _,(by
   have:=(List.getElem?_eq_some_iff.1 D).1
   have:i<zs.length:=this
   omega),[.int .i64 z],rfl,fun j H=>by
    obtain rfl:j=0:=by omega
    rw[Nat.sub_zero,Nat.mul_one,Nat.add_zero,List.getElem?_map];have D:zs[i]? =some z:=D;rw[D];rfl,rfl⟩) M
  rw[Nat.zero_mul,Nat.add_zero,show @List.length IT.den zs=a.length from f] at h3;exact h3
end R
namespace R
open Go.Shelf
def A7:Go.Shelf.Ren:=⟨fun | 189=>257 | 125=>173 | 257=>270 | 128=>213 | 129=>201 | 294=>277 | 295=>278 | 296=>279 | 297=>280 | 298=>281 | 299=>282 | 216=>283 | 300=>284 | 301=>285 | 328=>288 | 329=>235 | 330=>236 | 331=>289 | 332=>290 | 215=>291 | 343=>292 | n=>n,fun | 28=>38 | 3=>3 | 46=>148 | 0=>0 | 51=>237 | 53=>209 | 4=>4 | 183=>242 | 182=>241 | 131=>222 | 5=>5 | 9=>9 | 218=>261 | 222=>265 | 228=>283 | 229=>284 | n=>n,fun | n=>n⟩
theorem II:Go.Proofs.Lays.n189 Tryz.prog A7:= {
 mixed:=by kernel_rfl
 f125:=Tryz.func173.trans (congrArg some (by kernel_rfl))
 f128:=Tryz.func213.trans (congrArg some (by kernel_rfl))
 f129:=Tryz.func201.trans (congrArg some (by kernel_rfl))
 f189:=Tryz.func257.trans (congrArg some (by kernel_rfl))
 f215:=Tryz.func291.trans (congrArg some (by kernel_rfl))
 f216:=Tryz.func283.trans (congrArg some (by kernel_rfl))
 f257:=Tryz.func270.trans (congrArg some (by kernel_rfl))
 f294:=Tryz.func277.trans (congrArg some (by kernel_rfl))
 f295:=Tryz.func278.trans (congrArg some (by kernel_rfl))
 f296:=Tryz.func279.trans (congrArg some (by kernel_rfl))
 f297:=Tryz.func280.trans (congrArg some (by kernel_rfl))
 f298:=Tryz.func281.trans (congrArg some (by kernel_rfl))
 f299:=Tryz.func282.trans (congrArg some (by kernel_rfl))
 f300:=Tryz.func284.trans (congrArg some (by kernel_rfl))
 f301:=Tryz.func285.trans (congrArg some (by kernel_rfl))
 f328:=Tryz.func288.trans (congrArg some (by kernel_rfl))
 f329:=Tryz.func235.trans (congrArg some (by kernel_rfl))
 f330:=Tryz.func236.trans (congrArg some (by kernel_rfl))
 f331:=Tryz.func289.trans (congrArg some (by kernel_rfl))
 f332:=Tryz.func290.trans (congrArg some (by kernel_rfl))
 f343:=Tryz.func292.trans (congrArg some (by kernel_rfl))
 t0:=Tryz.underlying0
 a0:=Tryz.isAgg0
 z0:=Tryz.sizeOf0
 v0:=Tryz.zeroValue0
 t3:=Tryz.underlying3
 a3:=Tryz.isAgg3
 z3:=Tryz.sizeOf3
 v3:=Tryz.zeroValue3
 t4:=Tryz.underlying4
 a4:=Tryz.isAgg4
 z4:=Tryz.sizeOf4
 v4:=Tryz.zeroValue4
 t5:=Tryz.underlying5
 a5:=Tryz.isAgg5
 z5:=Tryz.sizeOf5
 v5:=Tryz.zeroValue5
 t9:=Tryz.underlying9
 a9:=Tryz.isAgg9
 z9:=Tryz.sizeOf9
 v9:=Tryz.zeroValue9
 t28:=Tryz.underlying38
 a28:=Tryz.isAgg38
 z28:=Tryz.sizeOf38
 v28:=Tryz.zeroValue38
 t46:=Tryz.underlying148
 a46:=Tryz.isAgg148
 z46:=Tryz.sizeOf148
 v46:=Tryz.zeroValue148
 t51:=Tryz.underlying237
 a51:=Tryz.isAgg237
 z51:=Tryz.sizeOf237
 v51:=Tryz.zeroValue237
 t53:=Tryz.underlying209
 a53:=Tryz.isAgg209
 z53:=Tryz.sizeOf209
 v53:=Tryz.zeroValue209
 t131:=Tryz.underlying222
 a131:=Tryz.isAgg222
 z131:=Tryz.sizeOf222
 v131:=Tryz.zeroValue222
 t182:=Tryz.underlying241
 a182:=Tryz.isAgg241
 z182:=Tryz.sizeOf241
 v182:=Tryz.zeroValue241
 t183:=Tryz.underlying242
 a183:=Tryz.isAgg242
 z183:=Tryz.sizeOf242
 v183:=Tryz.zeroValue242
 t218:=Tryz.underlying261
 a218:=Tryz.isAgg261
 z218:=Tryz.sizeOf261
 v218:=Tryz.zeroValue261
 t222:=Tryz.underlying265
 a222:=Tryz.isAgg265
 z222:=Tryz.sizeOf265
 v222:=Tryz.zeroValue265
 t228:=Tryz.underlying283
 a228:=Tryz.isAgg283
 z228:=Tryz.sizeOf283
 v228:=Tryz.zeroValue283
 t229:=Tryz.underlying284
 a229:=Tryz.isAgg284
 z229:=Tryz.sizeOf284
 v229:=Tryz.zeroValue284 }
end R
namespace R
open Go.RowKit Go.Shelf Go.Sort
open D
def SJ (xs:List ByteArray) (sep:ByteArray):Option ByteArray:=(chk (xs.length<=140737488355328/\(Lib.join (xs.map (·.data.toList)) sep.data.toList).length<=140737488355328)).bind fun _=>some ⟨(Lib.join (xs.map (·.data.toList)) sep.data.toList).toArray⟩
def SK (n:Int):Option ByteArray:=(chk (-9223372036854775808<=n/\n<=9223372036854775807)).bind fun _=>some ⟨(Lib.itoa n).toArray⟩
section
variable {P:Program} {ρ:Ren}
theorem St.grownS {I:Hp} {w0 w:World} {cs:List Ch} (h:St I w0 w cs) (os:Array Obj):St I w0 (grow w os) cs:=by
 refine St.step (w:=w) (c:=[]) (c':=[]) h rfl rfl rfl (by simp[grow]) ?_;rintro F rfl - -;exact ⟨fun b a _=>heap_grow_old w os a,[],rfl,List.nodup_nil,by simp⟩
theorem St.belowS {I:Hp} {w0 w w':World} {cs:List Ch} (h:St I w0 w cs) (a:Below w.heap.size w w'):St I w0 w' cs:=by
 refine St.step (w:=w) (c:=[]) (c':=[]) h a.os a.tape a.output a.size ?_;rintro F rfl - -;exact ⟨fun b d _=>a.block b d,[],rfl,List.nodup_nil,by simp⟩
theorem SL (L:LaysM.n171 P ρ) (p:Enters P (ρ.f 171)):FOk P (ρ.f 171) ⟨[.rd (.int .i64)],[.str],fun n=>SK n,none⟩:=by
 refine ⟨fun q l=>(by cases l),fun _=>p,fun _ i J γ A d r f m xY=>?_⟩;obtain ⟨v,h,rfl,⟨j,t,u⟩,b⟩:=m;obtain rfl:h= []:=b;obtain ⟨s,B⟩:=d;let n:Int:=s;obtain rfl:j= [v]:=t;obtain rfl:v= .int .i64 n:=(List.cons.inj u).1;obtain ⟨z,g,y⟩:=Option.bind_eq_some_iff.1 (show SK n=some r from xY);have g:=bE g;obtain rfl:=ae y;intro w C a;have a:St J i w C:=a;refine (Any.strconv_Itoa L n g.1 g.2 w (f w a.2.1).tab).mono ?_;rintro e E ⟨rfl,k,o,rfl⟩;have x:St J i (w.drewN k) C:=a.drawn rfl rfl rfl rfl;exact ⟨_,rfl,rfl,D.St.free (R:=QI) (c:=[.string _]) (St.grownS x o) ⟨rfl,rfl⟩⟩
theorem SM (L:Lays.n156 P ρ) (X:Builder.Extra P ρ) (E:TypeId) (N:Enters P (ρ.f 156)):FOk P (ρ.f 156) ⟨[.rd (.sl E .str),.rd .str],[.str],fun f s=>SJ f s,none⟩:=by
 refine ⟨fun q H=>(by cases H),fun _=>N,fun _ Z J γ vs d r u M xY=>?_⟩;obtain ⟨v,W,rfl,⟨G,Q,U⟩,y,p,rfl,⟨B,z,F⟩,i⟩:=M;obtain rfl:p= []:=i;obtain ⟨o,sep,un⟩:=d;let f:List ByteArray:=o;obtain rfl:G= [v]:=Q;obtain rfl:B= [y]:=z;obtain rfl:y= .string sep:=(List.cons.inj F).1;obtain ⟨u1,h,hz⟩:=Option.bind_eq_some_iff.1 (show SJ f sep=some r from xY);have h:=bE h;obtain rfl:=ae hz;obtain ⟨I,cap,hv,⟨hl,k⟩,g⟩:((aw E QI).rd J [v] f):=U;obtain rfl:=(List.cons.inj hv).1;intro w C a;have a:St J Z w C:=a;rcases g with g | ⟨b,off,n,t,V,rfl,T,K⟩
 ·have g:f= []:=g;rw[g] at h⊢;refine (Any.strings_Join_none L X I cap sep w).mono ?_;rintro e w' ⟨rfl,rfl⟩;refine ⟨_,rfl,rfl,?_⟩;exact D.St.free (R:=QI) (c:=[.string _]) a ⟨rfl,rfl⟩
 ·have m:=a.2.1 _ _ T;have l:b<w.heap.size:=(Array.getElem?_eq_some_iff.1 m).1;refine (Any.strings_Join L X b off cap f sep w (fun j x O=>?_) l h.1 k h.2).mono ?_
  ·obtain ⟨c,e1,S,Y⟩:=K j x O;obtain rfl:c= [.string x]:=Y
   have:=S 0 Nat.one_pos
   have e:off+j*QI.size+0=off+j:=by show off+j*1+0=_;omega
   rw[e] at this;unfold World.cell?;have m:w.heap[b]? =some (.cells n t V):=m;simp only[m];rw[<-Array.getElem?_toList,this]
   rfl
  ·rintro e w' ⟨rfl,A⟩;exact ⟨_,rfl,rfl,D.St.free (R:=QI) (c:=[.string _]) (St.belowS a A) ⟨rfl,rfl⟩⟩
end
end R
namespace R
open Go.Shelf
def y7:Go.Shelf.Ren:=⟨fun | 156=>90 | 165=>128 | 166=>129 | 169=>130 | 240=>166 | 241=>167 | 276=>198 | 277=>199 | n=>n,fun | 31=>130 | 9=>9 | 3=>3 | 4=>4 | 0=>0 | 20=>20 | 72=>168 | 76=>172 | 70=>166 | 37=>22 | 75=>171 | 127=>207 | 164=>231 | 5=>5 | 80=>174 | n=>n,fun | n=>n⟩
theorem SN:Go.Proofs.Lays.n156 Tryz.prog y7:= {
 mixed:=by kernel_rfl
 f156:=Tryz.func90.trans (congrArg some (by kernel_rfl))
 f165:=Tryz.func128.trans (congrArg some (by kernel_rfl))
 f166:=Tryz.func129.trans (congrArg some (by kernel_rfl))
 f169:=Tryz.func130.trans (congrArg some (by kernel_rfl))
 f240:=Tryz.func166.trans (congrArg some (by kernel_rfl))
 f241:=Tryz.func167.trans (congrArg some (by kernel_rfl))
 f276:=Tryz.func198.trans (congrArg some (by kernel_rfl))
 f277:=Tryz.func199.trans (congrArg some (by kernel_rfl))
 t0:=Tryz.underlying0
 a0:=Tryz.isAgg0
 z0:=Tryz.sizeOf0
 v0:=Tryz.zeroValue0
 t3:=Tryz.underlying3
 a3:=Tryz.isAgg3
 z3:=Tryz.sizeOf3
 v3:=Tryz.zeroValue3
 t4:=Tryz.underlying4
 a4:=Tryz.isAgg4
 z4:=Tryz.sizeOf4
 v4:=Tryz.zeroValue4
 t9:=Tryz.underlying9
 a9:=Tryz.isAgg9
 z9:=Tryz.sizeOf9
 v9:=Tryz.zeroValue9
 t20:=Tryz.underlying20
 a20:=Tryz.isAgg20
 z20:=Tryz.sizeOf20
 v20:=Tryz.zeroValue20
 t31:=Tryz.underlying130
 a31:=Tryz.isAgg130
 z31:=Tryz.sizeOf130
 v31:=Tryz.zeroValue130
 t37:=Tryz.underlying22
 a37:=Tryz.isAgg22
 z37:=Tryz.sizeOf22
 v37:=Tryz.zeroValue22
 t70:=Tryz.underlying166
 a70:=Tryz.isAgg166
 z70:=Tryz.sizeOf166
 v70:=Tryz.zeroValue166
 t72:=Tryz.underlying168
 a72:=Tryz.isAgg168
 z72:=Tryz.sizeOf168
 v72:=Tryz.zeroValue168
 t75:=Tryz.underlying171
 a75:=Tryz.isAgg171
 z75:=Tryz.sizeOf171
 v75:=Tryz.zeroValue171
 t76:=Tryz.underlying172
 a76:=Tryz.isAgg172
 z76:=Tryz.sizeOf172
 v76:=Tryz.zeroValue172
 t127:=Tryz.underlying207
 a127:=Tryz.isAgg207
 z127:=Tryz.sizeOf207
 v127:=Tryz.zeroValue207
 t164:=Tryz.underlying231
 a164:=Tryz.isAgg231
 z164:=Tryz.sizeOf231
 v164:=Tryz.zeroValue231 }
def GS:Go.Shelf.Ren:=⟨fun | 171=>59 | 243=>91 | 246=>131 | 283=>168 | 284=>169 | 285=>170 | 286=>171 | 129=>201 | 317=>200 | 318=>202 | 319=>203 | 320=>204 | 337=>232 | 338=>233 | n=>n,fun | 3=>3 | 9=>9 | 2=>2 | 4=>4 | 171=>208 | 0=>0 | 53=>209 | 37=>22 | 5=>5 | 173=>212 | 212=>236 | 51=>237 | 20=>20 | 213=>238 | 46=>148 | 232=>281 | 233=>282 | n=>n,fun | 17=>0 | 18=>2 | 19=>3 | n=>n⟩
theorem SO:Go.Proofs.LaysM.n171 Tryz.prog GS:= {
 mixed:=by kernel_rfl
 f129:=Tryz.func201.trans (congrArg some (by kernel_rfl))
 f171:=Tryz.func59.trans (congrArg some (by kernel_rfl))
 f243:=Tryz.func91.trans (congrArg some (by kernel_rfl))
 f246:=Tryz.func131.trans (congrArg some (by kernel_rfl))
 f283:=Tryz.func168.trans (congrArg some (by kernel_rfl))
 f284:=Tryz.func169.trans (congrArg some (by kernel_rfl))
 f285:=Tryz.func170.trans (congrArg some (by kernel_rfl))
 f286:=Tryz.func171.trans (congrArg some (by kernel_rfl))
 f317:=Tryz.func200.trans (congrArg some (by kernel_rfl))
 f318:=Tryz.func202.trans (congrArg some (by kernel_rfl))
 f319:=Tryz.func203.trans (congrArg some (by kernel_rfl))
 f320:=Tryz.func204.trans (congrArg some (by kernel_rfl))
 f337:=Tryz.func232.trans (congrArg some (by kernel_rfl))
 f338:=Tryz.func233.trans (congrArg some (by kernel_rfl))
 t0:=Tryz.underlying0
 a0:=Tryz.isAgg0
 z0:=Tryz.sizeOf0
 v0:=Tryz.zeroValue0
 t2:=Tryz.underlying2
 a2:=Tryz.isAgg2
 z2:=Tryz.sizeOf2
 v2:=Tryz.zeroValue2
 t3:=Tryz.underlying3
 a3:=Tryz.isAgg3
 z3:=Tryz.sizeOf3
 v3:=Tryz.zeroValue3
 t4:=Tryz.underlying4
 a4:=Tryz.isAgg4
 z4:=Tryz.sizeOf4
 v4:=Tryz.zeroValue4
 t5:=Tryz.underlying5
 a5:=Tryz.isAgg5
 z5:=Tryz.sizeOf5
 v5:=Tryz.zeroValue5
 t9:=Tryz.underlying9
 a9:=Tryz.isAgg9
 z9:=Tryz.sizeOf9
 v9:=Tryz.zeroValue9
 t20:=Tryz.underlying20
 a20:=Tryz.isAgg20
 z20:=Tryz.sizeOf20
 v20:=Tryz.zeroValue20
 t37:=Tryz.underlying22
 a37:=Tryz.isAgg22
 z37:=Tryz.sizeOf22
 v37:=Tryz.zeroValue22
 t46:=Tryz.underlying148
 a46:=Tryz.isAgg148
 z46:=Tryz.sizeOf148
 v46:=Tryz.zeroValue148
 t51:=Tryz.underlying237
 a51:=Tryz.isAgg237
 z51:=Tryz.sizeOf237
 v51:=Tryz.zeroValue237
 t53:=Tryz.underlying209
 a53:=Tryz.isAgg209
 z53:=Tryz.sizeOf209
 v53:=Tryz.zeroValue209
 t171:=Tryz.underlying208
 a171:=Tryz.isAgg208
 z171:=Tryz.sizeOf208
 v171:=Tryz.zeroValue208
 t173:=Tryz.underlying212
 a173:=Tryz.isAgg212
 z173:=Tryz.sizeOf212
 v173:=Tryz.zeroValue212
 t212:=Tryz.underlying236
 a212:=Tryz.isAgg236
 z212:=Tryz.sizeOf236
 v212:=Tryz.zeroValue236
 t213:=Tryz.underlying238
 a213:=Tryz.isAgg238
 z213:=Tryz.sizeOf238
 t232:=Tryz.underlying281
 a232:=Tryz.isAgg281
 z232:=Tryz.sizeOf281
 v232:=Tryz.zeroValue281
 t233:=Tryz.underlying282
 a233:=Tryz.isAgg282
 z233:=Tryz.sizeOf282
 v233:=Tryz.zeroValue282
 g17:=by kernel_rfl
 g18:=by kernel_rfl
 g19:=by kernel_rfl
 i0:=by kernel_rfl
 i2:=by kernel_rfl
 i3:=by kernel_rfl
 i4:=by kernel_rfl
 i5:=by kernel_rfl
 i9:=by kernel_rfl
 i20:=by kernel_rfl
 i37:=by kernel_rfl
 i46:=by kernel_rfl
 i51:=by kernel_rfl
 i53:=by kernel_rfl
 i171:=by kernel_rfl
 i173:=by kernel_rfl
 i212:=by kernel_rfl
 i232:=by kernel_rfl
 i233:=by kernel_rfl
 m17:=by kernel_rfl
 m18:=by kernel_rfl
 m19:=by kernel_rfl }
theorem Pc:Go.Proofs.Builder.Extra Tryz.prog y7 where
 sizeBuilder:=by kernel_rfl
 liesBuilder:=by kernel_rfl
 t5:=Tryz.underlying5
 a5:=Tryz.isAgg5
 z5:=Tryz.sizeOf5
 v5:=Tryz.zeroValue5
 infoByte:=by kernel_rfl
 cellsByte:=by kernel_rfl
 sizeByte:=by kernel_rfl
 neB5:=by decide
end R
namespace R
open Go.RowKit
open D
def FldAll (P:Program) (T:TypeId):Nat->List (Nat×Nat)->Prop
 | _,[] =>True
 | i,q::l=>TF P T i q.1 q.2/\FldAll P T (i+1) l
theorem FldAll.get {P:Program} {T:TypeId} : ∀ {l:List (Nat×Nat)} {i:Nat},FldAll P T i l-> ∀f q,l[f]? =some q->TF P T (i+f) q.1 q.2
 | [],_,_,f,q,h=>by simp at h
 | x::l,i,⟨h1,h2⟩,f,q,h=>by
  cases f with
  | zero=>simp at h;subst h;exact h1
  | succ f =>
   have:=FldAll.get h2 f q (by simpa using h)
   rwa [show i+1+f=i+(f+1) from by omega] at this
section
variable {P:Program} {T:TypeId}
theorem vq {n b:Nat} {ty:Ty} {z:Value} {a:Bool} {c:Option (Option IntKind)} (h1:TI P T false 1) (o:ty.size=1) (j:TZ P T z 1 b) (g:z.cells=(zeroCells ty).toArray) (l:1<=b) (d:a=true->P.underlying T=some .bool) (i: ∀k,c=some k->P.underlying T=some (ikD k)):TDok P T ⟨false,1,none,ty,[],some b,none,a,none,none,c,false,none⟩:=
 ⟨h1,rfl,o,fun E h=>by simp at h,fun f q h=>by simp at h,fun p h=>by obtain rfl:=ae h;exact ⟨z,j,g,l⟩,fun r h=>by simp at h,d,(fun s h=>by cases h),(fun m h=>by cases h),i,(fun h=>by cases h),fun e h=>by cases h⟩
theorem sn {E:TypeId} {t:Ty} (h1:TI P T false 1) (a:P.underlying T=some (.slice E)) (b:TZ P T (.slice none 0 0) 1 24):TDok P T ⟨false,1,some E,.sl E t,[],some 24,none,false,none,none,none,false,none⟩:=
 ⟨h1,rfl,rfl,fun d h=>by obtain rfl:=ae h;exact a,fun f q h=>by simp at h,fun c h=>by obtain rfl:=ae h;exact ⟨_,b,rfl,by decide⟩,fun i h=>by simp at h,(fun h=>by cases h),(fun g h=>by cases h),(fun m h=>by cases h),(fun k h=>by cases h),(fun h=>by cases h),fun e h=>by cases h⟩
theorem pD {n b:Nat} {ty:Ty} {fs c:List (Nat×Nat)} {z:Value} {a:Option (List (Option IntKind))} (h1:TI P T true n) (s:ty.size=n) (j:FldAll P T 0 fs) (g:TZ P T z n b) (l:z.cells=(zeroCells ty).toArray) (d:1<=b) (i:TB P T c) (o: ∀ks,a=some ks-> ∀w,Curq ks fun t p r=>EqT P T (.agg t.toArray) (.agg p.toArray) r w):TDok P T ⟨true,n,none,ty,fs,some b,some c,false,a,none,none,false,none⟩:=
 ⟨h1,rfl,s,fun E h=>by simp at h,fun f q h=>by have:=j.get f q h;rwa [Nat.zero_add] at this,fun v h=>by obtain rfl:=ae h;exact ⟨z,g,l,d⟩,fun u h=>by obtain rfl:=ae h;exact i,(fun h=>by cases h),o,(fun m h=>by cases h),(fun k h=>by cases h),(fun h=>by cases h),fun e h=>by cases h⟩
theorem A8 {ty:Ty} {b:Nat} (h1:TI P T false 1) (a:ty.size=1) (c:TZ P T .nilFunc 1 b):TDok P T ⟨false,1,none,ty,[],none,none,false,none,none,none,true,none⟩:=
 ⟨h1,rfl,a,fun E h=>by simp at h,fun f q h=>by simp at h,(fun g h=>by cases h),(fun j h=>by cases h),(fun h=>by cases h),(fun i h=>by cases h),(fun d h=>by cases h),(fun k h=>by cases h),(fun _=>⟨b,c⟩),fun e h=>by cases h⟩
theorem aaW {m:MD} {ty:Ty} (h1:TI P T false 1) (a:ty.size=1) (b:MDok P T m):TDok P T ⟨false,1,none,ty,[],none,none,false,none,some m,none,false,none⟩:=
 ⟨h1,rfl,a,fun E h=>by simp at h,fun f q h=>by simp at h,(fun d h=>by cases h),(fun i h=>by cases h),(fun h=>by cases h),(fun g h=>by cases h),(fun c h=>by obtain rfl:=ae h;exact b),(fun k h=>by cases h),(fun h=>by cases h),fun e h=>by cases h⟩
theorem aaX {e E:TypeId} {u:Ty} (h1:TI P T false 1) (a:P.underlying T=some (.pointer e)) (b:TZ P T (.pointer none) 1 8):TDok P T ⟨false,1,none,.fro (.tree e E u),[],some 8,none,false,none,none,none,false,some e⟩:=
 ⟨h1,rfl,rfl,fun d h=>by simp at h,fun f q h=>by simp at h,fun c h=>by obtain rfl:=ae h;exact ⟨_,b,rfl,by decide⟩,fun i h=>by simp at h,(fun h=>by cases h),(fun g h=>by cases h),(fun m h=>by cases h),(fun k h=>by cases h),(fun h=>by cases h),fun j h=>by obtain rfl:=ae h;exact a⟩
end
end R
end Go.Proofs.YtncnbjfngmhfaaaGreatDoor
