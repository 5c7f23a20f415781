/- FnRecovery: for every input the law returns true and changes nothing that was there. Part 5 of 9. -/
import Derived.Test.YtodbpnpbhpeepaaGreatDoorFC3
set_option synthInstance.maxSize 20000
set_option synthInstance.maxHeartbeats 2000000
set_option linter.unusedVariables false
set_option linter.unusedSimpArgs false
set_option linter.unnecessarySimpa false
set_option linter.unusedSectionVars false
set_option maxRecDepth 1000000
namespace Go.Proofs.YtodbpnpbhpeepaaGreatDoor
open Go.IntKind (i64)
namespace R
open Go.RowKit
open D
inductive Knd
 | num (k:IntKind) | boo | str
 | rd (E:TypeId) (t:Ty)
 | own (E:TypeId) (t:Ty)
 | map (d:MD)
 | tre (T E:TypeId) (t:Ty)
 | bx (T:TypeId) (k:IntKind)
def Knd.den:Knd->Type
 | .num _=>Int
 | .boo=>Bool
 | .str=>ByteArray
 | .rd _ t=>List t.den
 | .own _ t=>List t.den
 | .map d=>List (d.k.den×d.e.den)
 | .tre _ _ t=>Tr t.den
 | .bx _ _=>Int
def ZV {a b:MD} (h:a=b) (m:List (a.k.den×a.e.den)):List (b.k.den×b.e.den):=h ▸ m
def HI (d:MD) (x:LV) (chs:List Ent):Option (List (d.k.den×d.e.den)×List Ent):=match x with
 | .own h=>(abx h chs).bind fun r=>if h:MD.beq r.md d=true then some (ZV (MD.beq_eq h) r.m,r.rest) else none
 | _=>none
theorem HJ {d:MD} {x:LV} {chs:List Ent} {q:List (d.k.den×d.e.den)×List Ent} (h:HI d x chs=some q): ∃b a,x= .own b/\chs.Perm ((b,a,d.ck q.1)::q.2):=by
 unfold HI at h;split at h
 ·rename_i b;have ⟨r,c,h⟩:=bind_some h;have hp:=Jk c;have ⟨a,f,m,rest⟩:=r;split at h
  ·rename_i e;cases MD.beq_eq e;cases ae h;exact ⟨b,a,rfl,hp⟩
  grind
 grind
def K6 (T:TypeId) (k:IntKind) (x:LV) (chs:List Ent):Option (Int×List Ent):=match x with
 | .ptr h off=>b8 (Nat.beq off 0) ((rW h chs).bind fun b=>b8 (Nat.beq b.T T) (match b.cells with
  | [c] =>(E4 k c).bind fun d=>some (d,b.rest)
  | _=>none))
 | _=>none
theorem HK {T:TypeId} {k:IntKind} {x:LV} {chs:List Ent} {q:Int×List Ent} (h:K6 T k x chs=some q): ∃e a c,x= .ptr e 0/\E4 k c=some q.1/\chs.Perm ((e,a,.blk T [c])::q.2):=by
 cases x with
 | ptr e off =>
  have ⟨f,h⟩:=ai (show b8 (Nat.beq off 0) _=some q from h);cases au f;have ⟨b,l,i⟩:=bind_some h;have ⟨j,m⟩:=ai i;have hp:=ld l;have ⟨a,g,cells,rest⟩:=b;obtain rfl:g=T:=au j
  match cells,m,hp with
  | [c],h,hp =>
   have ⟨d,n,o⟩:=bind_some (show (E4 k c).bind _=some q from h);cases ae o;exact ⟨e,a,c,rfl,n,hp⟩
  | [],h,_=>cases h
  | _::_::_,h,_=>cases h
 | _=>cases h
def Vg:List Knd->Type
 | [] =>Unit
 | [k] =>k.den
 | k::l::ks=>k.den×Vg (l::ks)
def sV:List Knd->Type
 | [] =>Unit
 | k::ks=>k.den×sV ks
def toN:(ks:List Knd)->Vg ks->sV ks
 | [],_=>()
 | [_],d=>(d,())
 | _::l::ks,d=>(d.1,toN (l::ks) d.2)
def ofN:(ks:List Knd)->sV ks->Vg ks
 | [],_=>()
 | [_],d=>d.1
 | _::l::ks,d=>(d.1,ofN (l::ks) d.2)
theorem qP: ∀(a:List Knd) (d:sV a),toN a (ofN a d)=d
 | [],_=>rfl
 | [_],_=>rfl
 | _::l::a,d=>congrArg (Prod.mk d.1) (qP (l::a) d.2)
def Vh (k:Knd) (x:LV) (chs:List Ent):Option (k.den×List Ent):=match k with
 | .num k=>(E4 k x).bind fun d=>some (d,chs)
 | .boo=>(DP x).bind fun d=>some (d,chs)
 | .str=>(Mm x).bind fun d=>some (d,chs)
 | .rd E t=>(R7 E t x).bind fun d=>some (d,chs)
 | .own E t=>(xA E t x chs).bind fun q=>some (q.1,q.2.2)
 | .map d=>HI d x chs
 | .tre T E t=>(Y3 T E t x).bind fun d=>some (d,chs)
 | .bx T k=>K6 T k x chs
def abz (id:Nat):(k:Knd)->k.den->LV
 | .num k,d=>.val (.int k d)
 | .boo,d=>.val (.bool d)
 | .str,d=>.val (.string d)
 | .rd E t,d=>.rd ⟨id,[]⟩ (.sl E t) d
 | .own _ _,_=>.own ⟨id,[]⟩
 | .map _,_=>.own ⟨id,[]⟩
 | .tre T E t,d=>.rd ⟨id,[]⟩ (.tree T E t) d
 | .bx _ _,_=>.ptr ⟨id,[]⟩ 0
def Y5 (id ver:Nat):(k:Knd)->k.den->List Ent
 | .own E t,d=>[(⟨id,[]⟩,ver,.own (.sl E t) d)]
 | .map md,d=>[(⟨id,[]⟩,ver,md.ck d)]
 | .bx T k,d=>[(⟨id,[]⟩,ver,.blk T [.val (.int k d)])]
 | _,_=>[]
def Dh:(ks:List Knd)->List LV->List Ent->Option (sV ks×List Ent)
 | [],[],chs=>some ((),chs)
 | k::ks,x::xs,chs=>(Vh k x chs).bind fun q=>(Dh ks xs q.2).bind fun r=>some ((q.1,r.1),r.2)
 | _,_,_=>none
def Fy (id:Nat):(ks:List Knd)->sV ks->List LV
 | [],_=>[]
 | k::ks,d=>abz id k d.1::Fy (id+1) ks d.2
def Fz (id ver:Nat):(ks:List Knd)->sV ks->List Ent
 | [],_=>[]
 | k::ks,d=>Y5 id ver k d.1++Fz (id+1) ver ks d.2
section
variable {P:Program} {w0 w:World} {J:Hp} {θ:Th} {n:Nat} {C:List Ch}
theorem St.bun {ls:List Ch} {α:Type} {R:Rep α} {cs:List Value} {x:α} (h:St J w0 w (ls++C)) (d:Bun J ls R cs x):St J w0 w (Ch.own R cs x::C):=by
 have ⟨b,a,F,g,i,f⟩:=h;obtain ⟨G,K,rfl,e,c⟩:=g.split;exact ⟨b,a,G++K,⟨G,K,rfl,d w G e,c⟩,i,f⟩
theorem Tc {α:Type} {R:Rep α} {u:Value} {x:α} (h:St J w0 w (Ch.own R [u] x::C)):u.oneCell'=true:=by
 obtain ⟨b,a,F,⟨G,K,rfl,k,e⟩,d,c⟩:=h;exact R.own_one k u (by simp)
theorem Xw {k:Knd} {x:LV} {chs:List Ent} {q:k.den×List Ent} (h:Vh k x chs=some q) (z:x.ok P w0 J θ n) (f:St J w0 w (chs.map (toCh P θ)++C)) {θ':Th} {id ver m:Nat} (s:θ' id=x.v θ) (l:id<m) :
  (abz id k q.1).ok P w0 J θ' m/\(abz id k q.1).v θ'=x.v θ/\St J w0 w ((Y5 id ver k q.1).map (toCh P θ')++(q.2.map (toCh P θ)++C))/\ ∀e∈q.2,e∈chs:=by
 have j:hv θ' ⟨id,[]⟩=x.v θ:=s;cases k with
 | num k =>
  have ⟨d,g,h⟩:=bind_some (show (E4 k x).bind _=some q from h);cases ae h;exact ⟨Eq.refl true,(E5 g θ).symm,f,fun e a=>a⟩
 | boo =>
  have ⟨d,g,h⟩:=bind_some (show (DP x).bind _=some q from h);cases ae h;exact ⟨Eq.refl true,(G7 g θ).symm,f,fun e a=>a⟩
 | str =>
  have ⟨d,g,h⟩:=bind_some (show (Mm x).bind _=some q from h);cases ae h;exact ⟨Eq.refl true,(Kx g θ).symm,f,fun e a=>a⟩
 | rd E t =>
  have ⟨d,g,h⟩:=bind_some (show (R7 E t x).bind _=some q from h);cases ae h;refine ⟨⟨l,?_⟩,j,f,fun e a=>a⟩;grind[Bq]
 | tre T E t =>
  have ⟨d,g,h⟩:=bind_some (show (Y3 T E t x).bind _=some q from h);cases ae h;refine ⟨⟨l,?_⟩,j,f,fun e a=>a⟩;grind[IX]
 | own E t =>
  have ⟨r,y,h⟩:=bind_some (show (xA E t x chs).bind _=some q from h);cases ae h;have ⟨p,v⟩:=Bt y P J θ;have o:St J w0 w (Ch.own (Ty.sl E t).rep [x.v θ] r.1::(r.2.2.map (toCh P θ)++C)):=by
   refine St.bun ?_ v
   have:=f.perm ((p.map (toCh P θ)).append_right C)
   grind
  refine ⟨⟨l,by grind[Tc]⟩,j,?_,fun e a=>p.mem_iff.2 (by grind)⟩;show St J w0 w (Ch.own _ [hv θ' ⟨id,[]⟩] _::_);simp_all
 | map d =>
  obtain ⟨i,b,rfl,p⟩:=HJ (show HI d x chs=some q from h);have o:St J w0 w (toCh P θ (i,b,d.ck q.1)::(q.2.map (toCh P θ)++C)):=by
   have:=f.perm ((p.map (toCh P θ)).append_right C)
   exact this
  have u:hv θ i=LV.v θ (.own i):=rfl;have B:St J w0 w (@Ch.mp P d.K d.E d.k.den d.e.den d.k.dec d.k.lit d.k.ok d.e.lit d.e.z (hv θ i) (show List (d.k.den×d.e.den) from q.1)::(q.2.map (toCh P θ)++C)):=o;refine ⟨⟨l,by rw[j];exact z.2⟩,j,?_,fun e a=>p.mem_iff.2 (by grind)⟩;show St J w0 w (@Ch.mp P d.K d.E d.k.den d.e.den d.k.dec d.k.lit d.k.ok d.e.lit d.e.z (hv θ' ⟨id,[]⟩) (show List (d.k.den×d.e.den) from q.1)::_);simp_all
 | bx T k =>
  obtain ⟨i,b,c,rfl,A,p⟩:=HK (show K6 T k x chs=some q from h);have o:=f.perm ((p.map (toCh P θ)).append_right C);have u:bk (hv θ' ⟨id,[]⟩)=bk (hv θ i):=by rw[j];rfl
  refine ⟨l,?_,?_,fun e a=>p.mem_iff.2 (by grind)⟩
  ·show Value.pointer (some ⟨bk (hv θ' ⟨id,[]⟩),0,none⟩)=_;rw[u];rfl
  ·show St J w0 w (Ch.blk (bk (hv θ' ⟨id,[]⟩)) [.int k _] T::_);rw[u,<-E5 A θ];exact o
theorem A0: ∀ {c:List Knd} {xs:List LV} {chs:List Ent} {q:sV c×List Ent} {id ver:Nat} {C:List Ch},Dh c xs chs=some q->(∀x∈xs,x.ok P w0 J θ n)->St J w0 w (chs.map (toCh P θ)++C)-> ∀ {θ':Th} {m:Nat},(∀i x,xs[i]? =some x->θ' (id+i)=x.v θ)->id+c.length<=m->
  (∀x∈Fy id c q.1,x.ok P w0 J θ' m)/\(Fy id c q.1).map (·.v θ')=xs.map (·.v θ)/\St J w0 w ((Fz id ver c q.1).map (toCh P θ')++(q.2.map (toCh P θ)++C))/\ ∀e∈q.2,e∈chs
 | [],[],chs,q,id,ver,C,h,_,hS,θ',m,_,_=>by
  cases ae (show some _=some q from h);exact ⟨fun x f=>(by cases f),rfl,hS,fun e g=>g⟩
 | k::c,x::xs,chs,q,id,ver,C,h,f,hS,θ',m,hid,hm=>by
  have ⟨a,r,h⟩:=bind_some (show (Vh k x chs).bind _=some q from h);have ⟨b,p,h⟩:=bind_some h;cases ae h;have j:id<m:=by rw[aq] at hm;omega
  have ⟨o,z,u,l⟩:=Xw (ver:=ver) r (f x (by simp)) hS (θ':=θ') (id:=id) (m:=m) (hid 0 x rfl) j;have ⟨A,v,t,s⟩:=A0 (id:=id+1) (ver:=ver) (C:=(Y5 id ver k a.1).map (toCh P θ')++C) p (fun y d=>f y (by grind)) (u.perm (List.perm_append_comm_assoc _ _ _)) (θ':=θ') (m:=m) (fun i y d=>by
   have:=hid (i+1) y d
   grind) (by grind)
  refine ⟨fun y d=>?_,?_,?_,fun e g=>l e (s e g)⟩
  ·rcases aG d with rfl | d
   ·exact o
   grind
  ·grind[LV.v,Fy]
  ·refine t.perm ?_;grind[List.perm_append_comm_assoc,Fz,toCh,Y5,aC]
 | [],_::_,chs,q,id,ver,C,h,_,_,_,_,_,_=>by cases h
 | _::_,[],chs,q,id,ver,C,h,_,_,_,_,_,_=>by cases h
end
inductive It
 | slot (t:Nat) (k:Knd)
 | box (t:Nat) (ks:List Knd)
 | row (t:Nat) (E:TypeId) (u:Ty)
 | agg (t:Nat) (ks:List Knd)
 | par (i:Nat) (p:List Nat) (E:TypeId) (u:Ty)
 | gone (t:Nat)
 | cur (t:Nat)
 | pbx (i:Nat) (ks:List Knd)
def It.s (t:Nat):It:=.slot t (.num .i64)
inductive RIt
 | slot (t:Nat) (k:Knd)
 | box (h:Hdr) (T:TypeId) (ks:List Knd)
 | row (h:Hdr) (E:TypeId) (u:Ty)
 | agg (t:Nat) (k:Knd) (ks:List Knd)
 | cur (h:Hdr) (T:TypeId) (g:Hdr) (E:TypeId) (xs:List Int)
def RIt.ks:RIt->List Knd
 | .slot _ k=>[k]
 | .box _ _ ks=>ks
 | .row _ E u=>[.own E u]
 | .agg _ k ks=>k::ks
 | .cur _ _ _ _ _=>[.num .i64,.num .i64]
def tx:List RIt->List Knd
 | [] =>[]
 | r::rs=>r.ks++tx rs
def RG:Option AV->Option Hdr
 | some (.one (.ptr h off))=>if Nat.beq off 0 then some h else none
 | _=>none
def ZW:Option AV->Option Hdr
 | some (.one (.own h))=>some h
 | _=>none
theorem Xx {v:Option AV} {h:Hdr} (k:ZW v=some h):v=some (.one (.own h)):=by
 unfold ZW at k;grind
def ZX (h:Hdr) (chs:List Ent):Option (Hdr×TypeId×TypeId×List Int):=(pull h chs).bind fun r=>match r.1.2.2 with
 | .blk T [.rd g (.sl E (.int .u8)) xs,_,_] =>some (g,T,E,xs)
 | _=>none
theorem K7 {h g:Hdr} {T E:TypeId} {xs:List Int} {chs:List Ent} (k:ZX h chs=some (g,T,E,xs)): ∃ver a b,(h,ver,Chk.blk T [.rd g (.sl E (.int .u8)) xs,a,b])∈chs:=by
 have ⟨r,c,d⟩:=bind_some k;have ⟨p,e⟩:=gB c;grind
def resolve (s:Sg):It->Option RIt
 | .slot t k=>some (.slot t k)
 | .box t ks=>(RG (look s.env t)).bind fun h=>(rW h s.chs).bind fun b=>some (.box h b.T ks)
 | .row t E u=>(ZW (look s.env t)).bind fun h=>some (.row h E u)
 | .agg t ks=>match ks with
  | k::ks=>some (.agg t k ks)
  | [] =>none
 | .par i p E u=>b8 (Nat.blt i s.nxt) (some (.row ⟨i,p⟩ E u))
 | .gone _=>none
 | .pbx i ks=>(rW ⟨i,[]⟩ s.chs).bind fun b=>some (.box ⟨i,[]⟩ b.T ks)
 | .cur t=>(RG (look s.env t)).bind fun h=>(ZX h s.chs).bind fun q=>some (.cur h q.2.1 q.1 q.2.2.1 q.2.2.2)
def A1 (s:Sg):List It->Option (List RIt)
 | [] =>some []
 | i::is=>(resolve s i).bind fun r=>(A1 s is).bind fun rs=>some (r::rs)
def oneOf:Option AV->Option LV
 | some (.one x)=>some x
 | _=>none
theorem Td {v:Option AV} {x:LV} (h:oneOf v=some x):v=some (.one x):=by
 unfold oneOf at h;grind
def Py:Option AV->Option (List LV)
 | some (.agg xs)=>some xs
 | _=>none
theorem Te {v:Option AV} {x:List LV} (h:Py v=some x):v=some (.agg x):=by
 unfold Py at h;grind
def Tf (env:List (Nat×Nat×AV)) (chs:List Ent):(r:RIt)->Option (sV r.ks×List Ent)
 | .slot t k=>(oneOf (look env t)).bind fun x=>Dh [k] [x] chs
 | .box h T ks=>(rW h chs).bind fun b=>b8 (Nat.beq b.T T) (Dh ks b.cells b.rest)
 | .row h E u=>Dh [.own E u] [.own h] chs
 | .agg t k ks=>(Py (look env t)).bind fun xs=>Dh (k::ks) xs chs
 | .cur h T g E _=>(wG h T E chs).bind fun q=>b8 (Hdr.beq q.g g) (some ((q.d.2.1,q.d.2.2,()),q.rest))
def Tg:(ks ls:List Knd)->sV ks->sV ls->sV (ks++ls)
 | [],_,_,e=>e
 | _::ks,ls,d,e=>(d.1,Tg ks ls d.2 e)
def Vi:(ks ls:List Knd)->sV (ks++ls)->sV ks
 | [],_,_=>()
 | _::ks,ls,d=>(d.1,Vi ks ls d.2)
def Xy:(ks ls:List Knd)->sV (ks++ls)->sV ls
 | [],_,d=>d
 | _::ks,ls,d=>Xy ks ls d.2
theorem Jm: ∀(a ls:List Knd) (d:sV a) (e:sV ls),Vi a ls (Tg a ls d e)=d
 | [],_,_,_=>rfl
 | _::a,ls,d,e=>congrArg (Prod.mk d.1) (Jm a ls d.2 e)
theorem Jn: ∀(a ls:List Knd) (d:sV a) (e:sV ls),Xy a ls (Tg a ls d e)=e
 | [],_,_,_=>rfl
 | _::a,ls,d,e=>Jn a ls d.2 e
def Xz (env:List (Nat×Nat×AV)):(rs:List RIt)->List Ent->Option (sV (tx rs)×List Ent)
 | [],chs=>some ((),chs)
 | r::rs,chs=>(Tf env chs r).bind fun q=>(Xz env rs q.2).bind fun p=>some (Tg r.ks (tx rs) q.1 p.1,p.2)
def Y6 (id:Nat):(r:RIt)->sV r.ks->List (Nat×Nat×AV)
 | .slot t k,d=>[(t,id,.one (abz id k d.1))]
 | .agg t k ks,d=>[(t,id,.agg (Fy id (k::ks) d))]
 | _,_=>[]
def Y7 (id ver:Nat):(r:RIt)->sV r.ks->List Ent
 | .slot _ k,d=>Fz id ver [k] d
 | .agg _ k ks,d=>Fz id ver (k::ks) d
 | .box h T ks,d=>(h,ver,.blk T (Fy id ks d))::Fz id ver ks d
 | .row h E u,d=>[(h,ver,.own (.sl E u) d.1)]
 | .cur h T g E xs,d=>[(h,ver,.blk T [.rd g (.sl E (.int .u8)) xs,.val (.int .i64 d.1),.val (.int .i64 d.2.1)])]
def Di:(id:Nat)->(rs:List RIt)->sV (tx rs)->List (Nat×Nat×AV)
 | _,[],_=>[]
 | id,r::rs,d=>Y6 id r (Vi r.ks (tx rs) d)++Di (id+r.ks.length) rs (Xy r.ks (tx rs) d)
def zn (ver:Nat):(id:Nat)->(rs:List RIt)->sV (tx rs)->List Ent
 | _,[],_=>[]
 | id,r::rs,d=>Y7 id ver r (Vi r.ks (tx rs) d)++zn ver (id+r.ks.length) rs (Xy r.ks (tx rs) d)
structure Cut where
 nxt:Nat
 its:List RIt
 env:List (Nat×Nat×AV)
 chs:List Ent
def Cut.top (c:Cut):Nat:=c.nxt+(tx c.its).length
def Cut.at (c:Cut) (d:sV (tx c.its)):Sg:=⟨Di c.nxt c.its d++c.env,zn c.top c.nxt c.its d++c.chs,c.top+1⟩
def acj (t:Nat):List Nat->Bool
 | [] =>false
 | u::l=>Nat.beq u t || acj t l
def MV (l:List (Nat×Nat×AV)) (t:Nat):Option Nat:=match l with
 | [] =>none
 | (u,k,_)::l=>if Nat.beq u t then some k else MV l t
def A2 (env:List (Nat×Nat×AV)):List (Nat×Nat×AV)->Bool
 | [] =>true
 | e::l=>(match MV env e.1 with | some v=>Nat.beq v e.2.1 | none=>false)&&A2 env l
def Jo:List Ent->List Ent->Option (List Ent)
 | [],chs=>some chs
 | e::l,chs=>(pull e.1 chs).bind fun r=>b8 (Nat.beq r.1.2.1 e.2.1) (Jo l r.2)
def distinctH:List Ent->Bool
 | [] =>true
 | e::l=>Df e.1 l&&distinctH l
def ZY:Option AV->List Hdr
 | some (.one (.ptr h _))=>[h]
 | _=>[]
def qQ (s:Sg):List RIt->List Hdr
 | [] =>[]
 | .slot t (.bx _ _)::rs=>ZY (look s.env t)++qQ s rs
 | .slot t _::rs=>(match look s.env t with | some v=>BP v | none=>[])++qQ s rs
 | .box h _ _::rs=>(match rW h s.chs with | some b=>BP (.agg b.cells) | none=>[])++qQ s rs
 | .row h _ _::rs=>h::qQ s rs
 | .cur _ _ _ _ _::rs=>qQ s rs
 | .agg t _ _::rs=>(match look s.env t with | some v=>BP v | none=>[])++qQ s rs
def BQ:List Ent->List Hdr
 | [] =>[]
 | (h,_,.own _ _)::l=>h::BQ l
 | _::l=>BQ l
def Cut.of (c:Cut) (s0:Sg):Option (sV (tx c.its)):=match xM (BQ c.chs) (xM (qQ s0 c.its) s0) with
 | s=>(Xz s.env c.its s.chs).bind fun q=>(Jo c.chs q.2).bind fun _=>b8 (A2 s.env c.env) (some q.1)
def RIt.hdrs:RIt->List Hdr
 | .slot _ _=>[]
 | .box h _ _=>[h]
 | .row h _ _=>[h]
 | .agg _ _ _=>[]
 | .cur h _ g _ _=>[h,g]
def hdrsR:List RIt->List Hdr
 | [] =>[]
 | r::rs=>r.hdrs++hdrsR rs
def HL:List (Nat×Nat×AV)->List Nat->List (Nat×Nat×AV)
 | [],_=>[]
 | e::l,seen=>match acj e.1 seen with
  | true=>HL l seen
  | false=>e::HL l (e.1::seen)
theorem uX: ∀ {l:List (Nat×Nat×AV)} {seen:List Nat},(HL l seen).Sublist l
 | [],_=>List.Sublist.refl _
 | e::l,seen=>by
  unfold HL;split
  ·exact uX.cons _
  ·exact uX.cons_cons _
def XA:List It->List It
 | [] =>[]
 | .gone _::is=>XA is
 | i::is=>i::XA is
def XB (s:Sg):List It->List Hdr
 | [] =>[]
 | .gone t::is=>(match look s.env t with
  | some (.one (.ptr h _))=>match rW h s.chs with | some b=>BP (.agg b.cells) | none=>[]
  | some v=>BP v
  | none=>[])++XB s is
 | _::is=>XB s is
def BR (ks:List Nat) (is:List It) (s:Sg):Option Cut:=(A1 s (XA is)).bind fun rs=>b8 (distinctH s.chs) (some ⟨s.nxt,rs,HL (s.env.filter fun e=> !acj e.1 ks) [],s.chs.filter fun e=> !ade e.1 (XB s is++(qQ s rs++hdrsR rs))⟩)
theorem XC {P:Program} {w0:World} {J:Hp} {θ:Th} {m id ver:Nat} {chs:List Ent} {k:Knd} {d:k.den} (h1:id<m) (b:ver<m): ∀e∈Y5 id ver k d,okE P w0 J θ m chs e:=by
 cases k with
 | own E t=>intro e a;cases al a;exact ⟨h1,b,trivial⟩
 | map md=>intro e a;cases al a;exact ⟨h1,b,trivial⟩
 | bx T k=>intro e a;cases al a;exact ⟨h1,b,fun x c=>by cases al c;rfl⟩
 | _=>intro e a;cases a
theorem A3 {P:Program} {w0:World} {J:Hp} {θ:Th} {m ver:Nat} {chs:List Ent} (c:ver<m): ∀ {b:List Knd} {id:Nat} {d:sV b},id+b.length<=m-> ∀e∈Fz id ver b d,okE P w0 J θ m chs e
 | [],_,_,_=>fun e a=>by cases a
 | k::b,id,d,h1=>fun e a=>by
  rw[aq] at h1;rcases aE a with a | a
  ·exact XC (by omega) c e a
  ·exact A3 c (by omega) e a
section
variable {P:Program} {w0 w:World} {J:Hp} {θ:Th} {n:Nat} {C:List Ch}
def RitOk (P:Program) (w0:World) (J:Hp) (θ:Th) (n:Nat):RIt->Prop
 | .cur _ _ g E xs=>LV.ok P w0 J θ n (.rd g (.sl E (.int .u8)) xs)
 | _=>True
def adl (P:Program) (w0 w:World) (J:Hp) (θ:Th) (env:List (Nat×Nat×AV)) (chs:List Ent) (hs:List Hdr) (len:Nat) (rest:List Ent) (E:Nat->List (Nat×Nat×AV)) (N:Nat->Nat->List Ent):Prop:=
 ∃vals:List Value,vals.length=len/\ ∀(θ':Th) (id ver m:Nat),(∀i v,vals[i]? =some v->θ' (id+i)=v)->id+len<=m->ver<m->(∀h∈hs,hv θ' h=hv θ h/\h.id<m)-> ∀C,St J w0 w (chs.map (toCh P θ)++C)->
  (∀e∈E id,(∀chs',e.2.2.ok P w0 J θ' m chs')/\ ∃x,look env e.1=some x/\e.2.2.v θ'=x.v θ)/\(∀chs',∀e∈N id ver,okE P w0 J θ' m chs' e)/\St J w0 w ((N id ver).map (toCh P θ')++(rest.map (toCh P θ)++C))
theorem Ti {env:List (Nat×Nat×AV)} {chs chs0:List Ent} {r:RIt} {q:sV r.ks×List Ent} (h:Tf env chs r=some q) (I: ∀e∈env,e.2.2.ok P w0 J θ n chs0) (V: ∀e∈chs,okE P w0 J θ n chs0 e) {n1:Nat} (O:RitOk P w0 J θ n1 r) :
  adl P w0 w J θ env chs r.hdrs r.ks.length q.2 (fun id=>Y6 id r q.1) (fun id ver=>Y7 id ver r q.1):=by
 cases r with
 | slot t k =>
  have ⟨x,F,h⟩:=bind_some (show (oneOf (look env t)).bind _=some q from h);have F:=Td F
  ·have W:x.ok P w0 J θ n:=by
    have ⟨e,d,K⟩:=uS F
    have:=I e d
    rw[K] at this;exact this
   refine ⟨[x.v θ],rfl,fun θ' id ver m o G f A C H=>?_⟩;have ⟨M,X,Q,k4⟩:=A0 (ver:=ver) (C:=C) (id:=id) (θ':=θ') (m:=m) h (fun y N=>by cases al N;omega) H (fun i y N=>by
    cases i with
    | zero=>simp at N;rw[<-N];exact o 0 _ rfl
    | succ i=>grind) G
   refine ⟨fun e d=>?_,fun l=>A3 f G,Q⟩;cases al d;exact ⟨fun l=>M _ (by simp[Fy]),_,F,(List.cons.inj (show _::_=_::_ from X)).1⟩
 | box A T s =>
  have ⟨b,S,h⟩:=bind_some (show (rW A chs).bind _=some q from h);have ⟨hT,h⟩:=ai h;have hT:=au hT;have hp:=ld S;have hbk:=V (b.ent A) (hp.mem_iff.2 (by simp));have D: ∀ {s:List Knd} {j:List LV} {chs:List Ent} {q:sV s×List Ent},Dh s j chs=some q->j.length=s.length:=by
   intro s;induction s with
   | nil=>intro j chs q h;cases j with
    | nil=>rfl
    | cons _ _=>cases h
   | cons k s ih=>intro j chs q h;cases j with
    | nil=>cases h
    | cons x j =>
     have ⟨a,U,h⟩:=bind_some (show (Vh k x chs).bind _=some q from h);have ⟨c,hc,h⟩:=bind_some h;grind
  have hl:=D h;have Z:(b.cells.map (·.v θ)).length=s.length:=by rw[List.length_map];exact hl
  have L: ∀ {θ':Th} {id:Nat},(∀i v,(b.cells.map (·.v θ))[i]? =some v->θ' (id+i)=v)-> ∀i x,b.cells[i]? =some x->θ' (id+i)=x.v θ:=fun o i x F=>o i _ (by grind);refine ⟨b.cells.map (·.v θ),Z,fun θ' id ver m o G f B C H=>?_⟩
  ·have Y:St J w0 w (b.rest.map (toCh P θ)++(Ch.blk (bk (hv θ A)) (b.cells.map (·.v θ)) b.T::C)):=by
    refine (H.perm ((hp.map (toCh P θ)).append_right C)).perm ?_;exact (List.perm_middle (l₁:=b.rest.map (toCh P θ)) (l₂:=C)).symm
   have ⟨M,X,Q,k4⟩:=A0 (ver:=ver) (id:=id) (θ':=θ') (m:=m) h hbk.2.2 Y (L o) G;have ⟨g1,g2⟩:=B A (by simp[RIt.hdrs]);refine ⟨fun e d=>(by cases d),fun l e d=>?_,?_⟩
   ·rcases aG d with rfl | d
    ·exact ⟨g2,f,M⟩
    ·exact A3 f G e d
   ·show St J w0 w (Ch.blk (bk (hv θ' A)) ((Fy id s q.1).map (·.v θ')) T::((Fz id ver s q.1).map (toCh P θ')++(q.2.map (toCh P θ)++C)));refine Q.perm ?_;grind[aC,List.perm_middle]
 | agg t k s =>
  have ⟨j,F,h⟩:=bind_some (show (Py (look env t)).bind _=some q from h);have F:=Te F;have W: ∀x∈j,x.ok P w0 J θ n:=by
   have ⟨e,d,K⟩:=uS F
   have:=I e d
   rw[K] at this;exact this
  have D: ∀ {s:List Knd} {j:List LV} {chs:List Ent} {q:sV s×List Ent},Dh s j chs=some q->j.length=s.length:=by
   intro s;induction s with
   | nil=>intro j chs q h;cases j with
    | nil=>rfl
    | cons _ _=>cases h
   | cons k s ih=>intro j chs q h;cases j with
    | nil=>cases h
    | cons x j =>
     have ⟨a,U,h⟩:=bind_some (show (Vh k x chs).bind _=some q from h);have ⟨c,hc,h⟩:=bind_some h;grind
  refine ⟨j.map (·.v θ),by rw[List.length_map];exact D h,fun θ' id ver m o G f A C H=>?_⟩;have ⟨M,X,Q,k4⟩:=A0 (ver:=ver) (C:=C) (id:=id) (θ':=θ') (m:=m) h W H (fun i y N=>o i _ (by grind)) G;refine ⟨fun e d=>?_,fun l=>A3 f G,Q⟩;cases al d;refine ⟨fun l=>M,_,F,?_⟩;show Value.agg ((Fy id (k::s) q.1).map (·.v θ')).toArray=Value.agg (j.map (·.v θ)).toArray;rw[X]
 | row A E u =>
  have ⟨a,U,h⟩:=bind_some (show (Vh (.own E u) (.own A) chs).bind _=some q from h);have ⟨c,hc,h⟩:=bind_some h;cases ae (show some ((),a.2)=some c from hc);cases ae h;have ⟨r,hr,U⟩:=bind_some (show (xA E u (.own A) chs).bind _=some a from U);cases ae U;have ⟨p,S⟩:=Bt hr P J θ;refine ⟨[hv θ A],rfl,fun θ' id ver m o G f B C H=>?_⟩;have K:St J w0 w (Ch.own (Ty.sl E u).rep [hv θ A] r.1::(r.2.2.map (toCh P θ)++C)):=by
   refine St.bun ?_ S
   have:=H.perm ((p.map (toCh P θ)).append_right C)
   grind
  refine ⟨fun e d=>(by cases d),fun l e d=>?_,?_⟩
  ·cases al d;exact ⟨(B A (by simp[RIt.hdrs])).2,f,trivial⟩
  ·show St J w0 w (Ch.own _ [hv θ' A] _::_);simp_all[RIt.hdrs]
 | cur A T g E j =>
  have ⟨b,S,h⟩:=bind_some (show (wG A T E chs).bind _=some q from h);have ⟨hg,h⟩:=ai h;cases ae h;have hg:=Hdr.beq_eq hg;have ⟨p,ver0,d⟩:=o8 S;refine ⟨[.int .i64 b.d.2.1,.int .i64 b.d.2.2],rfl,fun θ' id ver m o G f B C H=>?_⟩;have ⟨g1,g2⟩:=B A (by simp[RIt.hdrs]);have ⟨g3,g4⟩:=B g (by simp[RIt.hdrs]);refine ⟨fun e d=>(by cases d),fun l e d=>?_,?_⟩
  ·cases al d;refine ⟨g2,f,fun z R=>?_⟩;rcases aG R with rfl | R
   ·exact ⟨g4,by rw[g3];exact O.2⟩
   ·rcases aG R with rfl | R
    ·rfl
    ·cases al R
     rfl
  ·show St J w0 w (Ch.blk (bk (hv θ' A)) [hv θ' g,.int .i64 b.d.2.1,.int .i64 b.d.2.2] T::(b.rest.map (toCh P θ)++C));have K:=H.perm ((p.map (toCh P θ)).append_right C);rw[List.map_cons,d] at K;rw[g1,g3,<-hg];exact K
theorem Tj {k:Knd} {x:LV} {chs:List Ent} {q:k.den×List Ent} (h:Vh k x chs=some q): ∀e∈q.2,e∈chs:=by
 cases k with
 | num k=>have ⟨d,b,h⟩:=bind_some (show (E4 k x).bind _=some q from h);grind
 | boo=>have ⟨d,b,h⟩:=bind_some (show (DP x).bind _=some q from h);grind
 | str=>have ⟨d,b,h⟩:=bind_some (show (Mm x).bind _=some q from h);grind
 | rd E t=>have ⟨d,b,h⟩:=bind_some (show (R7 E t x).bind _=some q from h);grind
 | own E t =>
  have ⟨r,f,h⟩:=bind_some (show (xA E t x chs).bind _=some q from h);exact fun e i=>(Bu f).mem_iff.2 (by grind)
 | tre T E t=>have ⟨d,b,h⟩:=bind_some (show (Y3 T E t x).bind _=some q from h);grind
 | map d =>
  obtain ⟨g,a,-,p⟩:=HJ (show HI d x chs=some q from h);grind
 | bx T k =>
  obtain ⟨g,a,c,-,-,p⟩:=HK (show K6 T k x chs=some q from h);grind
theorem tQ: ∀ {c:List Knd} {xs:List LV} {chs:List Ent} {q:sV c×List Ent},Dh c xs chs=some q-> ∀e∈q.2,e∈chs
 | [],[],chs,q,h=>by cases ae (show some _=some q from h);grind
 | k::c,x::xs,chs,q,h=>by
  have ⟨a,g,h⟩:=bind_some (show (Vh k x chs).bind _=some q from h);have ⟨b,f,h⟩:=bind_some h;cases ae h;exact fun e d=>Tj g e (tQ f e d)
 | [],_::_,chs,q,h=>by cases h
 | _::_,[],chs,q,h=>by cases h
theorem Pz {env:List (Nat×Nat×AV)} {chs:List Ent} {r:RIt} {q:sV r.ks×List Ent} (h:Tf env chs r=some q): ∀e∈q.2,e∈chs:=by
 cases r with
 | slot t k =>
  have ⟨x,d,h⟩:=bind_some (show (oneOf (look env t)).bind _=some q from h);exact tQ h
 | box hh T ks =>
  have ⟨b,c,h⟩:=bind_some (show (rW hh chs).bind _=some q from h);have ⟨f,h⟩:=ai h;exact fun e a=>(ld c).mem_iff.2 (bq _ (tQ h e a))
 | row hh E u=>exact tQ (show Dh [.own E u] [.own hh] chs=some q from h)
 | cur hh T g E xs =>
  have ⟨b,c,h⟩:=bind_some (show (wG hh T E chs).bind _=some q from h);have ⟨i,h⟩:=ai h;cases ae h;exact fun e a=>(o8 c).1.mem_iff.2 (bq _ a)
 | agg t k ks =>
  have ⟨x,d,h⟩:=bind_some (show (Py (look env t)).bind _=some q from h);exact tQ h
theorem K8 {env:List (Nat×Nat×AV)} {chs0:List Ent} {n1:Nat} (j: ∀e∈env,e.2.2.ok P w0 J θ n chs0): ∀ {rs:List RIt} {chs:List Ent} {q:sV (tx rs)×List Ent},Xz env rs chs=some q->(∀e∈chs,okE P w0 J θ n chs0 e)->(∀r∈rs,RitOk P w0 J θ n1 r)->
  (∀e∈q.2,e∈chs)/\adl P w0 w J θ env chs (hdrsR rs) (tx rs).length q.2 (fun id=>Di id rs q.1) (fun id c=>zn c id rs q.1)
 | [],chs,q,h,_,_=>by
  cases ae (show some _=some q from h);exact ⟨fun e d=>d,[],rfl,fun θ' id c m _ _ _ _ C p=>⟨fun e d=>(by cases d),fun g e d=>(by cases d),p⟩⟩
 | r::rs,chs,q,h,hchs,hrit=>by
  have ⟨a,t,h⟩:=bind_some (show (Tf env chs r).bind _=some q from h);have ⟨b,F,h⟩:=bind_some h;cases ae h;have f:=Pz t;have ⟨H,z,D⟩:=Ti (w:=w) t j hchs (hrit r (by simp));have ⟨I,G,E,B⟩:=K8 j F (fun e d=>hchs e (f e d)) fun x o=>hrit x (by grind);refine ⟨fun e d=>f e (I e d),H++G,by rw[az,z,E];exact (az ..).symm,fun θ' id c m l s k u C p=>?_⟩;have s:id+(r.ks.length+(tx rs).length)<=m:=by
   have:(tx (r::rs)).length=r.ks.length+(tx rs).length:=az ..
   rw[this] at s;exact s
  have ⟨M,N,K⟩:=D θ' id c m (fun i v A=>l i v (by grind)) (by omega) k (fun x o=>u x (bg _ o)) C p;have ⟨Q,L,y⟩:=B θ' (id+r.ks.length) c m (fun i v A=>by
   have:=l (r.ks.length+i) v (by grind)
   grind) (by omega) k (fun x o=>u x (bj _ o)) ((Y7 id c r a.1).map (toCh P θ')++C) (K.perm (List.perm_append_comm_assoc _ _ _))
  have O:Di id (r::rs) (Tg r.ks (tx rs) a.1 b.1)=Y6 id r a.1++Di (id+r.ks.length) rs b.1:=by
   show Y6 id r (Vi _ _ _)++Di _ rs (Xy _ _ _)=_;rw[Jm,Jn]
  have R:zn c id (r::rs) (Tg r.ks (tx rs) a.1 b.1)=Y7 id c r a.1++zn c (id+r.ks.length) rs b.1:=by
   show Y7 id c r (Vi _ _ _)++zn c _ rs (Xy _ _ _)=_;rw[Jm,Jn]
  show (∀e∈Di id (r::rs) (Tg r.ks (tx rs) a.1 b.1),_)/\(∀g,∀e∈zn c id (r::rs) (Tg r.ks (tx rs) a.1 b.1),_)/\St J w0 w ((zn c id (r::rs) (Tg r.ks (tx rs) a.1 b.1)).map _++_);refine ⟨fun e d=>?_,fun g e d=>?_,?_⟩
  ·grind
  ·grind
  ·refine y.perm ?_;grind[List.perm_append_comm_assoc,zn,toCh,Y7,aC]
end
def Jp:Chk->Prop
 | .hole _ _ _ _ _ _ _ _ _ _=>False
 | _=>True
theorem Tk {id ver:Nat} {k:Knd} {d:k.den} : ∀e∈Y5 id ver k d,e.2.1=ver/\Jp e.2.2:=by
 cases k with
 | own E t=>intro e a;obtain rfl:=al a;exact ⟨rfl,trivial⟩
 | map md=>intro e a;obtain rfl:=al a;exact ⟨rfl,trivial⟩
 | bx T k=>intro e a;obtain rfl:=al a;exact ⟨rfl,trivial⟩
 | _=>intro e a;cases a
theorem xN {ver:Nat} : ∀ {b:List Knd} {id:Nat} {d:sV b},∀e∈Fz id ver b d,e.2.1=ver/\Jp e.2.2
 | [],_,_=>fun e a=>by cases a
 | k::b,id,d=>fun e a=>by
  rcases aE a with a | a
  ·exact Tk e a
  ·exact xN e a
theorem HM {ver:Nat} : ∀ {rs:List RIt} {id:Nat} {d:sV (tx rs)},∀e∈zn ver id rs d,e.2.1=ver/\Jp e.2.2
 | [],_,_=>fun e a=>by cases a
 | r::rs,id,d=>fun e a=>by
  rcases aE a with a | a
  ·cases r with
   | slot t k=>exact xN e a
   | box h T ks =>
    rcases aG a with rfl | a
    ·exact ⟨rfl,trivial⟩
    ·exact xN e a
   | row h E u=>obtain rfl:=al a;exact ⟨rfl,trivial⟩
   | agg t k ks=>exact xN e a
   | cur h T g E xs=>obtain rfl:=al a;exact ⟨rfl,trivial⟩
  ·exact HM e a
theorem HO: ∀ {rs:List RIt} {id:Nat} {d:sV (tx rs)},(∀e∈Di id rs d,id<=e.2.1/\e.2.1<id+(tx rs).length)/\(Di id rs d).Pairwise fun a b=>a.2.1≠b.2.1
 | [],_,_=>⟨fun e c=>(by cases c),List.Pairwise.nil⟩
 | r::rs,id,d=>by
  have i:(tx (r::rs)).length=r.ks.length+(tx rs).length:=az ..;obtain ⟨f,h⟩:=HO (rs:=rs) (id:=id+r.ks.length) (d:=Xy r.ks (tx rs) d);have g: ∀e∈Y6 id r (Vi r.ks (tx rs) d),e.2.1=id/\0<r.ks.length:=fun e c=>by
   cases r with
   | slot t k=>obtain rfl:=al c;exact ⟨rfl,Nat.one_pos⟩
   | agg t k ks=>obtain rfl:=al c;exact ⟨rfl,Nat.succ_pos _⟩
   | box _ _ _=>cases c
   | row _ _ _=>cases c
   | cur _ _ _ _ _=>cases c
  have m:(Y6 id r (Vi r.ks (tx rs) d)).Pairwise fun a b=>a.2.1≠b.2.1:=by
   cases r with
   | slot t k=>exact List.pairwise_singleton _ _
   | agg t k ks=>exact List.pairwise_singleton _ _
   | box _ _ _=>exact List.Pairwise.nil
   | row _ _ _=>exact List.Pairwise.nil
   | cur _ _ _ _ _=>exact List.Pairwise.nil
  refine ⟨fun e c=>?_,List.pairwise_append.2 ⟨m,h,fun a l b j=>?_⟩⟩
  ·rw[i];rcases aE c with c | c
   ·have:=g e c;omega
   ·have:=f e c;omega
  ·have:=g a l;have:=f b j;omega
theorem K9 {t v:Nat} : ∀ {l:List (Nat×Nat×AV)},MV l t=some v-> ∃x,look l t=some x/\(t,v,x)∈l
 | (u,k,x)::l,h=>by
  unfold MV at h;split at h
  ·rename_i a
   have:u=t:=au a
   subst this;obtain rfl:=ae h;refine ⟨x,?_,by simp⟩;unfold look;rw[if_pos (Nat.beq_refl u)]
  ·rename_i a;obtain ⟨y,c,b⟩:=K9 h;refine ⟨y,?_,by simp[b]⟩;unfold look;rw[if_neg a];exact c
theorem BS {env:List (Nat×Nat×AV)} : ∀ {l:List (Nat×Nat×AV)},A2 env l=true-> ∀e∈l,MV env e.1=some e.2.1
 | e::l,h,x,b=>by
  have h:((match MV env e.1 with | some v=>Nat.beq v e.2.1 | none=>false)&&A2 env l)=true:=h;rw[ak] at h;rcases aG b with rfl | b
  ·have a:=h.1;split at a
   ·rename_i v hv;rw[hv,au a]
   ·cases a
  ·exact BS h.2 x b
theorem D4: ∀ {l chs rest:List Ent},Jo l chs=some rest->(∀e∈l,∀e'∈chs,e'.1=e.1->e'.2.1=e.2.1->e'=e)->chs.Perm (l++rest)
 | [],chs,rest,h,_=>by obtain rfl:=ae (show some _=some rest from h);exact List.Perm.refl _
 | e::l,chs,rest,h,k=>by
  obtain ⟨r,c,h⟩:=bind_some (show (pull e.1 chs).bind _=some rest from h);obtain ⟨hv,h⟩:=ai h;obtain ⟨p,d⟩:=gB c;have a:r.1=e:=k e (by simp) r.1 (p.mem_iff.2 (by simp)) d (au hv);rw[a] at p;exact p.trans ((D4 h fun x g f b=>k x (by simp[g]) f (p.mem_iff.2 (by simp[b]))).cons e)
theorem Ab: ∀ {l:List Ent},distinctH l=true-> ∀a∈l,∀b∈l,a.1=b.1->a=b
 | e::l,h,a,ha,b,hb,hab=>by
  have h:(Df e.1 l&&distinctH l)=true:=h;rw[ak] at h;rcases aG ha with d | d
  ·rcases aG hb with c | c
   ·rw[d,c]
   ·rw[d] at hab;exact absurd hab.symm (qg h.1 c)
  ·rcases aG hb with c | c
   ·rw[c] at hab;exact absurd hab (qg h.1 d)
   ·exact Ab h.2 a d b c hab
theorem PA {l:List (Nat×Nat×AV)} (h:l.Pairwise fun a b=>a.2.1≠b.2.1): ∀a∈l,∀b∈l,a.2.1=b.2.1->a=b:=by
 induction l with
 | nil=>intro a g;cases g
 | cons e l ih =>
  intro a g b j c;obtain ⟨i,k⟩:=List.pairwise_cons.1 h;rcases aG g with f | f
  ·rcases aG j with d | d
   ·rw[f,d]
   ·rw[f] at c;exact absurd c (i b d)
  ·rcases aG j with d | d
   ·rw[d] at c;exact absurd c.symm (i a f)
   ·exact ih k a f b d c
structure CutOk (P:Program) (w0:World) (c:Cut) (s:Sg) (J0:Hp) (θ0:Th):Prop where
 nxt:c.nxt=s.nxt
 env: ∀e∈c.env,e∈s.env
 nd:c.env.Pairwise fun a b=>a.2.1≠b.2.1
 chs: ∀e∈c.chs,e∈s.chs
 dist:distinctH s.chs=true
 hdr: ∀h∈hdrsR c.its,h.id<s.nxt
 fine:Fine P w0 J0 θ0 s
 rit: ∀r∈c.its,RitOk P w0 J0 θ0 s.nxt r
section
variable {V:Env} {P:Program} {I:Hp} {w0 w:World} {F:Ch} {J J0:Hp} {θ θ0:Th} {s s':Sg} {a:Act} {c:Cut}
theorem xO {n:List Nat} {m:List It} (h:BR n m s=some c) (q:Fine P w0 J θ s):CutOk P w0 c s J θ:=by
 obtain ⟨j,D,h⟩:=bind_some h;obtain ⟨O,h⟩:=ai h;obtain rfl:=ae h;have A: ∀ {m:List It} {j:List RIt},A1 s m=some j-> ∀h∈hdrsR j,h.id<s.nxt:=by
  intro m;induction m with
  | nil=>intro j h x f;obtain rfl:=ae (show some _=some j from h);cases f
  | cons i m ih =>
   intro j h x f;obtain ⟨r,d,h⟩:=bind_some (show (resolve s i).bind _=some j from h);obtain ⟨G,l,h⟩:=bind_some h;obtain rfl:=ae h;rcases aE f with f | f
   ·cases i with
    | slot t k=>obtain rfl:=ae (show some _=some r from d);cases f
    | gone t=>cases d
    | cur t =>
     obtain ⟨z,v,d⟩:=bind_some (show (RG (look s.env t)).bind _=some r from d);obtain ⟨⟨g,T,E,K⟩,o,d⟩:=bind_some d;obtain rfl:=ae d;obtain ⟨L,a,b,M⟩:=K7 o;have y:=q.chs _ M;rcases aG f with rfl | f
     ·exact y.1
     ·obtain rfl:=al f;exact (show LV.ok P w0 J θ s.nxt (.rd _ (.sl E (.int .u8)) K) from y.2.2 _ (by simp)).1
    | agg t n =>
     cases n with
     | nil=>cases d
     | cons k n=>obtain rfl:=ae (show some _=some r from d);cases f
    | par i p E u =>
     obtain ⟨H,d⟩:=ai (show b8 (Nat.blt i s.nxt) _=some r from d);obtain rfl:=ae d;obtain rfl:=al f;rw[Nat.blt_eq] at H;exact H
    | box t n =>
     obtain ⟨z,v,d⟩:=bind_some (show (RG (look s.env t)).bind _=some r from d);obtain ⟨b,o,d⟩:=bind_some d;obtain rfl:=ae d;obtain rfl:=al f;exact (q.chs _ ((ld o).mem_iff.2 (List.mem_cons_self ..))).1
    | pbx i n =>
     obtain ⟨b,o,d⟩:=bind_some (show (rW ⟨i,[]⟩ s.chs).bind _=some r from d);obtain rfl:=ae d;obtain rfl:=al f;exact (q.chs _ ((ld o).mem_iff.2 (List.mem_cons_self ..))).1
    | row t E u =>
     obtain ⟨z,v,d⟩:=bind_some (show (ZW (look s.env t)).bind _=some r from d);obtain rfl:=ae d;obtain rfl:=al f;obtain ⟨e,C,N⟩:=uS (Xx v)
     have:=q.env e C
     rw[N] at this;exact this.1
   ·exact ih l x f
 have B: ∀ {m:List It} {j:List RIt},A1 s m=some j-> ∀r∈j,RitOk P w0 J θ s.nxt r:=by
  intro m;induction m with
  | nil=>intro j h x f;obtain rfl:=ae (show some _=some j from h);cases f
  | cons i m ih =>
   intro j h x f;obtain ⟨r,d,h⟩:=bind_some (show (resolve s i).bind _=some j from h);obtain ⟨G,l,h⟩:=bind_some h;obtain rfl:=ae h;rcases aG f with rfl | f
   ·cases i with
    | slot t k=>obtain rfl:=ae (show some _=some x from d);trivial
    | gone t=>cases d
    | agg t n =>
     cases n with
     | nil=>cases d
     | cons k n=>obtain rfl:=ae (show some _=some x from d);trivial
    | par i p E u =>
     obtain ⟨H,d⟩:=ai (show b8 (Nat.blt i s.nxt) _=some x from d);obtain rfl:=ae d
     trivial
    | box t n =>
     obtain ⟨z,v,d⟩:=bind_some (show (RG (look s.env t)).bind _=some x from d);obtain ⟨b,o,d⟩:=bind_some d;obtain rfl:=ae d
     trivial
    | pbx i n =>
     obtain ⟨b,o,d⟩:=bind_some (show (rW ⟨i,[]⟩ s.chs).bind _=some x from d);obtain rfl:=ae d
     trivial
    | row t E u =>
     obtain ⟨z,v,d⟩:=bind_some (show (ZW (look s.env t)).bind _=some x from d);obtain rfl:=ae d
     trivial
    | cur t =>
     obtain ⟨z,v,d⟩:=bind_some (show (RG (look s.env t)).bind _=some x from d);obtain ⟨⟨g,T,E,K⟩,o,d⟩:=bind_some d;obtain rfl:=ae d;obtain ⟨L,a,b,M⟩:=K7 o;exact (show LV.ok P w0 J θ s.nxt (.rd g (.sl E (.int .u8)) K) from (q.chs _ M).2.2 _ (List.mem_cons_self ..))
   ·exact ih l x f
 exact ⟨rfl,fun e C=>(List.mem_filter.1 (uX.mem C)).1,(q.nd.filter _).sublist uX,fun e C=>(List.mem_filter.1 C).1,O,A D,q,B D⟩
theorem cut_ok (l:CutOk P w0 c s J0 θ0) (hS:Sim P I w0 F V.n J θ s' a w) (hFr:Fr s θ0 s' θ) (hJ:J0.le J) {d:sV (tx c.its)} (h:c.of s'=some d): ∃θ',Sim P I w0 F V.n J θ' (c.at d) a w/\Fr s θ0 (c.at d) θ':=by
 unfold Cut.of at h;obtain ⟨S1,F1⟩:=uW (hs:=qQ s' c.its) hS;obtain ⟨K,F2⟩:=uW (hs:=BQ c.chs) S1;generalize hs1:xM (BQ c.chs) (xM (qQ s' c.its) s')=s1 at h K F2;simp only at h;obtain ⟨q,hq,h⟩:=bind_some h;obtain ⟨N,M,h⟩:=bind_some h;obtain ⟨Y,h⟩:=ai h;obtain rfl:=ae h;have L:Fr s θ0 s1 θ:=(hFr.trans F1).trans F2;have m:Same s.nxt θ0 θ:=L.same;obtain ⟨U,G,hvl,S⟩:=K8 (w:=w) (n1:=s.nxt) K.fine.env hq K.fine.chs fun r hr=>by
  have o:=l.rit r hr;cases r with
  | cur h T g E xs=>exact LV.ok_same m (aH _) (show LV.ok P w0 J0 θ0 s.nxt (.rd g (.sl E (.int .u8)) xs) from o) hJ
  | _=>trivial
 let θ':Th:=fun i=>if i<s.nxt then θ i else G.getD (i - s.nxt) undef;have X:Same s.nxt θ θ':=fun i hi=>if_pos hi;have n:Same s.nxt θ0 θ':=m.trans X (aH _);have j:c.top=s.nxt+(tx c.its).length:=by unfold Cut.top;rw[l.nxt]
 obtain ⟨e1,e2,e3⟩:=S θ' s.nxt c.top (c.top+1) (fun i v hi=>by
  show (if s.nxt+i<s.nxt then _ else G.getD (s.nxt+i - s.nxt) undef)=v;rw[if_neg (by omega),Nat.add_sub_cancel_left,List.getD_eq_getElem?_getD,hi];rfl) (by rw[j];exact Nat.le_succ _) (aA _) (fun x hx=>⟨bc X (l.hdr x hx),by have:=l.hdr x hx;rw[j];omega⟩) [F] K.st
 have O: ∀e∈c.chs,∀z∈q.2,z.1=e.1->z.2.1=e.2.1->z=e:=fun e b z he' o D=>by
  have B:=l.chs e b;have R:=l.fine.chs e B;rcases L.chs z (U z he') z.1 z.2.1 z.2.2 ⟨rfl,.inl ⟨rfl,rfl⟩⟩ with h3 | ⟨e0,he0,h3⟩
  ·have:=R.2.1;omega
  ·have:=Ab l.dist e0 he0 e B (h3.1.trans o)
   subst this;rcases h3.2 with ⟨h4,Z⟩ | h4
   ·obtain ⟨x1,x2,x3⟩:=z;obtain ⟨y1,y2,y3⟩:=e0;simp only at o D Z;rw[o,D,Z]
   ·obtain ⟨y1,y2,y3⟩:=e0;cases y3 with
    | hole over t dd u y f i k off lv =>
     have Z:=h4.1;have h6:=R.2.2.2.1;have h7:over=z.2.1:=Z;have h8:over<y2:=h6;have h9:z.2.1=y2:=D;omega
    | _=>exact h4.elim
 have H:=D4 M O;have A:Newer s.nxt s.chs (zn c.top s.nxt c.its q.1++c.chs):=fun e b h' ver x hs=>by
  rcases aE b with b | b
  ·obtain ⟨k1,k2⟩:=HM e b;rcases hs.2 with ⟨o,D⟩ | o
   ·left;rw[<-o,k1,j];omega
   ·obtain ⟨y1,y2,y3⟩:=e;cases y3 with
    | hole _ _ _ _ _ _ _ _ _ _=>exact k2.elim
    | _=>exact o.elim
  ·exact .inr ⟨e,l.chs e b,hs⟩
 have Q: ∀e∈c.env,look s1.env e.1=some e.2.2:=fun e b=>by
  obtain ⟨x,o,D⟩:=K9 (BS Y e b);have B:=l.env e b
  have:=PA l.fine.nd _ (L.env _ D (l.fine.ver e B)) e B rfl
  rw[o,<-this]
 have W:c.at q.1=⟨Di s.nxt c.its q.1++c.env,zn c.top s.nxt c.its q.1++c.chs,c.top+1⟩:=by unfold Cut.at;rw[l.nxt]
 obtain ⟨v1,v2⟩:=HO (rs:=c.its) (id:=s.nxt) (d:=q.1);refine ⟨θ',?_,by
  rw[W];refine ⟨show s.nxt<=c.top+1 by rw[j];omega,n,fun e b hv0=>?_,A⟩;rcases aE b with b | b
  ·have:=v1 e b;omega
  ·exact l.env e b⟩
 rw[W];refine ⟨K.le,K.agr.pick _ fun p hp=>?_,?_,fun e b=>?_,fun e b=>?_,List.pairwise_append.2 ⟨v2,l.nd,fun x hx y hy hxy=>?_⟩,fun e b=>?_,K.fine.lay⟩
 ·obtain ⟨e,b,rfl⟩:=List.mem_map.1 hp;rcases aE b with b | b
  ·obtain ⟨-,x,o,D⟩:=e1 e b;show (envL θ s1).lookup e.1=some (e.2.2.v θ');rw[D];exact iT o
  ·have C:=l.fine.env e (l.env e b);show (envL θ s1).lookup e.1=some (e.2.2.v θ');rw[AV.v_same n C,<-AV.v_same m C];exact iT (Q e b)
 ·have hch:c.chs.map (toCh P θ')=c.chs.map (toCh P θ):=List.map_congr_left fun e b=>by
   have C:=l.fine.chs e (l.chs e b);rw[pf n C,pf m C]
  show St J w0 w ((zn c.top s.nxt c.its q.1++c.chs).map (toCh P θ')++ [F]);rw[aX,hch];have o:=e3.perm (List.Perm.append_left _ ((H.map (toCh P θ)).append_right [F]));rw[aX] at o;refine St.left (ds:=N.map (toCh P θ)) (o.perm ?_);rw[aC,aC,aC];exact (List.Perm.append_left _ (List.Perm.append_left _ List.perm_append_comm))
 ·rcases aE b with b | b
  ·exact (e1 e b).1 _
  ·exact AV.ok_same n (show s.nxt<=c.top+1 by rw[j];omega) A (l.fine.env e (l.env e b)) hJ
 ·rcases aE b with b | b
  ·have:=v1 e b
   show e.2.1<c.top+1;rw[j];omega
  ·have:=l.fine.ver e (l.env e b)
   show e.2.1<c.top+1;rw[j];omega
 ·have:=v1 x hx
  have:=l.fine.ver y (l.env y hy)
  omega
 ·rcases aE b with b | b
  ·exact e2 _ e b
  ·exact gM n (show s.nxt<=c.top+1 by rw[j];omega) A (l.fine.chs e (l.chs e b)) hJ
end
def xm (t:Nat):List Nat->Bool
 | [] =>false
 | u::l=>Nat.beq u t || xm t l
theorem po {t:Nat} : ∀ {l:List Nat},xm t l=true↔t∈l
 | [] =>by simp[xm]
 | u::l=>by
  unfold xm;rw[Bool.or_eq_true,po (l:=l),List.mem_cons];grind[au,Nat.beq_refl]
theorem Jq {t:Nat} {l:List Nat} :xm t l=false↔t∉l:=by
 grind[po]
def BT:List Nat->Bool
 | [] =>true
 | u::l=> !xm u l&&BT l
theorem tT: ∀ {l:List Nat},BT l=true->l.Nodup
 | [],_=>List.nodup_nil
 | u::l,h=>by
  unfold BT at h;rw[ak,Bool.not_eq_true',Jq] at h;exact List.nodup_cons.2 ⟨h.1,tT h.2⟩
structure OpK where
 reads:List Nat
 needs:List Nat
 gives:List Nat
 src:List (Nat×Option Nat)
structure Skel where
 ops:List OpK
 nres:Nat
 base:List Nat
 pre:List (List Nat)
 fin:List (Nat×Option Nat)
 left:List Nat
structure Sm where
 fact:Nat->(Nat->Value)->Prop
 chunk:Nat->(Nat->Value)->Ch
namespace Skel
def op (p:Skel) (i:Nat):OpK:=p.ops.getD i ⟨[],[],[],[]⟩
def before (p:Skel) (i:Nat):List Nat:=p.pre.getD i []
def srcOf (t:Nat):List (Nat×Option Nat)->Option (Option Nat)
 | [] =>none
 | (u,x)::l=>if Nat.beq u t then some x else srcOf t l
def ev (p:Skel) (L:List (Nat×Value)) (i:Nat) (vs:Nat->Value):Operand->Value
 | .tmp t=>match srcOf t (p.op i).src with
  | some (some j)=>vs j
  | _=>(L.lookup t).getD undef
 | x=>evL L x
end Skel
structure Loc (p:Skel) (q:Sm) (m:Nat):Prop where
 fact: ∀i,i<m-> ∀vs vs',(∀j,j=i\/j∈p.before i->vs' j=vs j)->q.fact i vs->q.fact i vs'
 chB: ∀x,x∈p.base-> ∀vs vs',q.chunk x vs'=q.chunk x vs
 chG: ∀i,i<m-> ∀x,x∈(p.op i).gives-> ∀vs vs',(∀j,j=i\/j∈p.before i->vs' j=vs j)->q.chunk x vs'=q.chunk x vs
def Skel.goal (p:Skel) (q:Sm) (P:Program) (I:Hp) (w0:World) (L:List (Nat×Value)) (i:Nat) (o:Oper):Prop:=
 ∀vs,(∀j,j∈p.before i->q.fact j vs)->
  match Mc o vs with
  | some true=>OpT P I w0 o (p.ev L i vs) (((p.op i).reads++(p.op i).needs).map (q.chunk · vs)) (fun v=>q.fact i (upd vs i v)) (fun v=>((p.op i).reads++(p.op i).gives).map (q.chunk · (upd vs i v)))
  | some false=>q.fact i (upd vs i undef)/\(p.op i).needs= [] /\(p.op i).gives= []
  | none=>False
def isDst (ops:List Oper) (j t:Nat):Bool:=match ops[j]? with
 | some o=>match o.dst with
  | some u=>Nat.beq u t
  | none=>false
 | none=>false
theorem xP {ops:List Oper} {j t:Nat} :isDst ops j t=true↔(ops.toArray[j]?).bind (·.dst)=some t:=by
 unfold isDst;rw[List.getElem?_toArray];cases ops[j]? with
 | none=>simp
 | some o =>
  simp[aa];cases o.dst with
  | none=>simp
  | some u=>simp
def Vj (l:List Nat) (f:Nat->Bool):Bool:=match l with
 | [] =>false
 | x::l=>f x || Vj l f
def C8 (l:List Nat) (f:Nat->Bool):Bool:=match l with
 | [] =>true
 | x::l=>f x&&C8 l f
theorem Jr {f:Nat->Bool} : ∀ {l:List Nat},Vj l f=true↔ ∃x,x∈l/\f x=true
 | [] =>by simp[Vj]
 | x::l=>by unfold Vj;rw[Bool.or_eq_true,Jr (l:=l)];simp
theorem tU {f:Nat->Bool} : ∀ {l:List Nat},C8 l f=true↔ ∀x,x∈l->f x=true
 | [] =>by simp[C8]
 | x::l=>by unfold C8;rw[ak,tU (l:=l)];simp
def abA (l:List Oper) (k:Nat) (f:Nat->Oper->Bool):Bool:=match l with
 | [] =>true
 | o::l=>f k o&&abA l (k+1) f
theorem PB {f:Nat->Oper->Bool} : ∀ {l:List Oper} {k:Nat},abA l k f=true-> ∀i o,l[i]? =some o->f (k+i) o=true
 | [],_,_,i,o,h=>by grind
 | x::l,k,h,i,o,hi=>by
  unfold abA at h;rw[ak] at h;cases i with
  | zero=>grind
  | succ i =>
   have:=PB h.2 i o (by grind)
   grind
def Skel.okOp (p:Skel) (n:Nat) (kn:Nat->Bool) (ops:List Oper) (all:List Nat) (i:Nat) (o:Oper) (b:List Nat) (r:OpK):Bool:=
 noSelect o&&(dstOk n o.dst&&(C8 (edgesOf o) (fun j=>Nat.blt j i) &&
 (C8 b (fun j=>Nat.blt j i&&(xm j (edgesOf o) || Vj (edgesOf o) fun k=>xm j (p.before k))) &&
 (C8 (slotsOf ops.toArray o) (fun t=>match srcOf t r.src with
  | none=>false
  | some none=>kn t&&C8 all fun j=> !isDst ops j t || (Nat.beq j i || xm i (p.before j))
  | some (some j)=>isDst ops j t&&(xm j b&&C8 all fun k=> !isDst ops k t || (Nat.beq k j || (Nat.beq k i || (xm k (p.before j) || xm i (p.before k)))))) &&
 ((match o.guard with
  | none=>true
  | some (g,_)=>match ops[g]? with
   | none=>false
   | some og=>match og.dst with
    | none=>false
    | some t=>match srcOf t r.src with
     | some (some j)=>Nat.beq j g
     | _=>false) &&
 (C8 (r.reads++r.needs) (fun x=>Nat.blt x p.nres&&(xm x p.base || Vj b fun j=>xm x (p.op j).gives)) &&
 (C8 r.reads (fun x=>C8 all fun k=>Nat.beq k i || (!xm x (p.op k).needs || xm i (p.before k))) &&
 (C8 r.needs (fun x=>C8 all fun k=>Nat.beq k i || !xm x (p.op k).needs) &&
 (C8 r.gives (fun x=>Nat.blt x p.nres&&(!xm x p.base&&(!xm x (r.reads++r.needs)&&C8 all (fun k=>Nat.beq k i || !xm x (p.op k).gives)))) &&
 (BT (r.reads++r.needs)&&BT (r.reads++r.gives)))))))))))
def Skel.ok (p:Skel) (n:Nat) (kn:Nat->Bool) (ops:List Oper):Bool:=
 abA ops 0 fun i o=>p.okOp n kn ops (List.range ops.length) i o (p.before i) (p.op i)
def Skel.okB (p:Skel) (kn:Nat->Bool) (ops:List Oper):Bool:=
 let all:=List.range ops.length
 BT p.base&&(BT p.left&&(C8 p.left (fun x=>(xm x p.base || Vj all fun j=>xm x (p.op j).gives)&&C8 all fun j=> !xm x (p.op j).needs) &&
 (C8 (p.base++all.flatMap fun j=>(p.op j).gives) (fun x=>xm x p.left || Vj all fun j=>xm x (p.op j).needs) &&
 p.fin.all fun (t,s)=>match s with
  | none=>kn t&&C8 all fun j=> !isDst ops j t
  | some j=>Nat.blt j ops.length&&(isDst ops j t&&C8 all fun k=> !isDst ops k t || (Nat.beq k j || xm k (p.before j))))))
def Skel.out (p:Skel) (L:List (Nat×Value)) (vs:Nat->Value):List (Nat×Value):=
 p.fin.map fun (t,s)=>(t,match s with | some j=>vs j | none=>(L.lookup t).getD undef)
structure Inv (p:Skel) (q:Sm) (C:List Ch) (I:Hp) (w0:World) (n:Nat) (L:List (Nat×Value)) (ops:Array Oper) (S:Nat->Bool) (vs:Nat->Value) (a:Act) (w:World):Prop where
 closed: ∀i,S i=true-> ∀j,j∈p.before i->S j=true
 lt: ∀i,S i=true->i<ops.size
 defers:a.defers= []
 size:a.tmps.size=n
 old: ∀t v,L.lookup t=some v->(∀j,S j=true->(ops[j]?).bind (·.dst)≠some t)->a.tmps.getD t undef=v
 new: ∀j t,S j=true->(ops[j]?).bind (·.dst)=some t->(∀k,S k=true->(ops[k]?).bind (·.dst)=some t->k=j\/k∈p.before j)->a.tmps.getD t undef=vs j
 facts: ∀i,S i=true->q.fact i vs
 st: ∃l:List Nat,l.Nodup/\(∀x,x∈l↔(x∈p.base\/ ∃j,S j=true/\x∈(p.op j).gives)/\ ¬ ∃j,S j=true/\x∈(p.op j).needs)/\St I w0 w (l.map (q.chunk · vs)++C)
structure Skel.Good (p:Skel) (n:Nat) (L:List (Nat×Value)) (ops:Array Oper) (i:Nat) (o:Oper):Prop where
 sel:noSelect o=true
 dst:dstOk n o.dst=true
 edges: ∀j,j∈edgesOf o->j<i
 bef: ∀j,j∈p.before i->j<i/\(j∈edgesOf o\/ ∃k,k∈edgesOf o/\j∈p.before k)
 slots: ∀t,t∈slotsOf ops o->(Skel.srcOf t (p.op i).src=some none/\(L.lookup t).isSome=true/\ ∀j,j<ops.size->(ops[j]?).bind (·.dst)=some t->j=i\/i∈p.before j) \/
  ∃j,Skel.srcOf t (p.op i).src=some (some j)/\(ops[j]?).bind (·.dst)=some t/\j∈p.before i/\ ∀k,k<ops.size->(ops[k]?).bind (·.dst)=some t->k=j\/k=i\/k∈p.before j\/i∈p.before k
 guard: ∀g want,o.guard=some (g,want)-> ∃t,(ops[g]?).bind (·.dst)=some t/\Skel.srcOf t (p.op i).src=some (some g)
 have_: ∀x,x∈(p.op i).reads++(p.op i).needs->x<p.nres/\(x∈p.base\/ ∃j,j∈p.before i/\x∈(p.op j).gives)
 keep: ∀x,x∈(p.op i).reads-> ∀k,k<ops.size->x∈(p.op k).needs->k=i\/i∈p.before k
 once: ∀x,x∈(p.op i).needs-> ∀k,k<ops.size->x∈(p.op k).needs->k=i
 give: ∀x,x∈(p.op i).gives->x<p.nres/\x∉p.base/\x∉(p.op i).reads++(p.op i).needs/\ ∀k,k<ops.size->x∈(p.op k).gives->k=i
 nd1:((p.op i).reads++(p.op i).needs).Nodup
 nd2:((p.op i).reads++(p.op i).gives).Nodup
theorem Y8 {a b:Nat} :Nat.beq a b=true↔a=b:=⟨au,fun h=>by simp_all⟩
theorem Y9 {a b:Nat} :Nat.blt a b=true↔a<b:=by rw[Nat.blt_eq]
theorem Skel.good_of_ok {p:Skel} {n:Nat} {m:Nat->Bool} {L:List (Nat×Value)} {ops:List Oper} (A: ∀t,m t=true->(L.lookup t).isSome=true) (h:p.ok n m ops=true) {i:Nat} {o:Oper} (hi:ops[i]? =some o):p.Good n L ops.toArray i o:=by
 have h:=PB h i o hi;rw[Nat.zero_add] at h;unfold Skel.okOp at h;simp only[ak,tU,Jr,po,Y9,Y8,Bool.or_eq_true,Bool.not_eq_true',Jq] at h;have ⟨w,v,f,F,B,a,y,G,C,u,l,e⟩:=h;refine ⟨w,v,f,fun j q=>?_,fun t d=>?_,fun g want s=>?_,fun x b=>y x b,fun x b k z r=>?_,fun x b k z r=>?_,fun x b=>?_,tT l,tT e⟩
 ·grind
 ·have:=B t d
  split at this
  ·grind
  ·simp[ak,tU,Bool.or_eq_true,Bool.not_eq_true',Y8,po] at this;grind[xP]
  ·rename_i j D;simp[ak,tU,Bool.or_eq_true,Bool.not_eq_true',Y8,po] at this;grind[xP]
 ·rw[s] at a;simp only at a;split at a
  ·cases a
  ·rename_i E c;split at a
   ·cases a
   ·rename_i t d;split at a
    ·rename_i j q;refine ⟨t,by rw[List.getElem?_toArray,c];exact d,?_⟩;rw[<-au a];exact q
    ·cases a
 ·grind
 ·grind
 grind
section
variable {p:Skel} {q:Sm} {kn:Nat->Bool} {C:List Ch} {P:Program} {I:Hp} {w0:World} {n:Nat} {L:List (Nat×Value)} {ops:List Oper} {S:Nat->Bool} {vs:Nat->Value} {a:Act} {w:World} {i:Nat} {o:Oper}
theorem Inv.step (hkn: ∀t,kn t=true->(L.lookup t).isSome=true) (hl:Loc p q ops.length) (hok:p.ok n kn ops=true) (hg:p.goal q P I w0 L i o) (hi:ops[i]? =some o) (h:Inv p q C I w0 n L ops.toArray S vs a w) (hn:S i=false) (A: ∀j,j∈p.before i->S j=true) {K:Act->World->Prop} {Q:Exit->Act->World->Prop}
  (hK: ∀vs a w,Inv p q C I w0 n L ops.toArray (fun j=>S j || j==i) vs a w->K a w):wpOp P ops.toArray Q i K a w:=by
 have G:=Skel.good_of_ok hkn hok hi;have him:i<ops.toArray.size:=by have:=(List.getElem?_eq_some_iff.1 hi).1;simpa using this
 have hcl: ∀j,S j=true->i∉p.before j:=fun j c hb=>by rw[h.closed j c i hb] at hn;cases hn
 have slot: ∀t,t∈slotsOf ops.toArray o->a.tmps.getD t undef=p.ev L i vs (.tmp t):=by
  intro t Y;rcases G.slots t Y with ⟨s,z,e3⟩ | ⟨j,s,z,e3,e4⟩
  ·have ⟨v,hv⟩:=Option.isSome_iff_exists.1 z;simp only[Skel.ev,s,hv,Option.getD_some];refine h.old t v hv fun j c E=>?_;grind
  ·simp only[Skel.ev,s];refine h.new j t (A j e3) z fun k m E=>?_;grind
 have hev: ∀x,x∈o.op.operands->a.eval x=p.ev L i vs x:=by
  intro x f;cases x with
  | tmp t =>
   refine slot t ?_;refine bg _ (List.mem_filterMap.2 ⟨.tmp t,by grind,rfl⟩)
  | _=>rfl
 have H:=fun j c=>h.facts j (A j c);have goal:=hg vs H;have main: ∀v w',q.fact i (upd vs i v)->(∃l:List Nat,l.Nodup/\(∀x,x∈l↔(x∈p.base\/ ∃j,(S j || j==i)=true/\x∈(p.op j).gives)/\ ¬ ∃j,(S j || j==i)=true/\x∈(p.op j).needs)/\St I w0 w' (l.map (q.chunk · (upd vs i v))++C))->K (a.put o.dst v) w':=by
  intro v w' hf hst;refine hK (upd vs i v) _ _ ⟨?_,?_,?_,?_,?_,?_,?_,hst⟩
  ·intro j c k m;simp[Bool.or_eq_true,beq_iff_eq] at c⊢;rcases c with c | rfl
   ·exact .inl (h.closed j c k m)
   grind
  ·intro j c;simp[Bool.or_eq_true,beq_iff_eq] at c;rcases c with c | rfl
   ·exact h.lt j c
   omega
  ·cases E:o.dst <;> simp[Act.put,h.defers]
  ·cases E:o.dst <;> simp[Act.put,h.size]
  ·intro t u hu c;have hne:o.dst≠some t:=by
    grind
   have h0:=h.old t u hu fun j hS=>c j (by grind);cases E:o.dst with
   | none=>exact h0
   | some d =>
    show (a.tmps.setIfInBounds d v).getD t undef=u;simp_all
  ·intro j t c E m;simp[Bool.or_eq_true,beq_iff_eq] at c;by_cases T:o.dst=some t
   ·have F:j=i:=by
     rcases c with c | rfl
     ·grind
     ·rfl
    subst F;have N:=G.dst;rw[T] at N;have N:t<n:=by simpa [dstOk] using N
    rw[T,iG];exact D.xp (by rw[h.size];omega)
   ·have F:j≠i:=by
     rintro rfl;rw[show (ops.toArray[j]?)=some o from by grind] at E;exact T E
    have B:S j=true:=by rcases c with c | e;exact c;exact absurd e F
    rw[Kj F];have h0:=h.new j t B E fun k hk'=>m k (by grind);cases E:o.dst with
    | none=>exact h0
    | some d =>
     show (a.tmps.setIfInBounds d v).getD t undef=_;simp_all
  ·intro j c;simp[Bool.or_eq_true,beq_iff_eq] at c;by_cases e:j=i
   ·grind
   ·have B:S j=true:=by rcases c with c | J;exact c;exact absurd J e
    refine hl.fact j (by simpa using h.lt j B) vs _ (fun k m=>Kj fun J=>?_) (h.facts j B);grind
 have ⟨l,l1,V,l3⟩:=h.st;have R: ∀v x,x∈l->q.chunk x (upd vs i v)=q.chunk x vs:=by
  intro v x f;rcases ((V x).1 f).1 with hb | ⟨j,c,hxj⟩
  ·exact hl.chB x hb vs _
  ·refine hl.chG j (by simpa using h.lt j c) x hxj vs _ fun k m=>Kj fun J=>?_;grind
 unfold wpOp;rw[show (ops.toArray[i]?)=some o from by grind];simp only;have hwant:Region.wanted o (yielded ops.toArray a.tmps)=true↔Mc o vs=some true:=by
  unfold Region.wanted Mc;cases hgd:o.guard with
  | none=>simp
  | some q =>
   have ⟨g,want⟩:=q;have ⟨t,s,z⟩:=G.guard g want hgd;have Y:t∈slotsOf ops.toArray o:=by
    unfold slotsOf Oper.looksAt;rw[hgd];simp only;rw[s];simp
   have hv:=slot t Y;simp only[Skel.ev,z] at hv;have hy:yielded ops.toArray a.tmps g=match vs g with | .bool b=>some b | _=>none:=by
    unfold yielded;rw[s];simp[aa];rw[Array.getD_eq_getD_getElem?] at hv;cases Y:a.tmps[t]? with
    | none =>
     rw[Y] at hv;rw[<-hv];rfl
    | some u =>
     grind
   grind
 cases hw:Mc o vs with
 | none=>grind
 | some b =>
  cases b with
  | false =>
   rw[hw] at goal;rw[if_neg (by grind)];refine main undef w goal.1 ⟨l,l1,fun x=>?_,?_⟩
   ·grind
   grind[List.map_congr_left,undef]
  | true =>
   rw[hw] at goal;rw[if_pos (by grind)];refine .inl ?_;have hin: ∀x,x∈(p.op i).reads++(p.op i).needs->x∈l:=by
    intro x f;rw[V];refine ⟨(G.have_ x f).2.imp id fun ⟨j,c,e⟩=>⟨j,A j c,e⟩,fun ⟨k,m,e⟩=>?_⟩;rcases aE f with f | f
    ·rcases G.keep x f k (h.lt k m) e with rfl | J
     ·grind
     grind
    ·have:=G.once x f k (h.lt k m) e
     grind
   let r:=l.filter fun x=> !((p.op i).reads++(p.op i).needs).contains x;have U: ∀x,x∈r↔x∈l/\x∉(p.op i).reads++(p.op i).needs:=by
    simp[r,List.mem_filter]
   have Z:r.Nodup:=l1.filter _;have M:l.Perm (((p.op i).reads++(p.op i).needs)++r):=by
    refine (List.perm_ext_iff_of_nodup l1 (List.nodup_append.2 ⟨G.nd1,Z,fun x f y hy e=>?_⟩)).2 fun x=>?_
    ·subst e;exact ((U x).1 hy).2 f
    ·rw[List.mem_append,U];constructor
     ·intro f;by_cases e:x∈(p.op i).reads++(p.op i).needs
      ·exact .inl e
      ·exact .inr ⟨f,e⟩
     ·rintro (e | e)
      ·exact hin x e
      ·exact e.1
   have hs:=l3.perm ((M.map (q.chunk · vs)).append_right C);rw[aX,aC] at hs;have O:=rT G.sel hev;have hu:=goal w _ hs;rw[<-O] at hu;refine hu.wp fun v w' hv=>main v w' hv.1 ⟨((p.op i).reads++(p.op i).gives)++r,?_,fun x=>?_,?_⟩
   ·refine List.nodup_append.2 ⟨G.nd2,Z,fun x f y hy e=>?_⟩;subst e;rcases aE f with f | f
    ·exact ((U x).1 hy).2 (bg _ f)
    ·obtain ⟨-,g1,g2,X⟩:=G.give x f;rcases ((V x).1 ((U x).1 hy).1).1 with e | ⟨j,c,e⟩
     ·exact g1 e
     ·have:=X j (h.lt j c) e
      subst this;rw[hn] at c;cases c
   ·have hgx:x∈(p.op i).gives->x∉p.base/\(∀k,S k=true->x∉(p.op k).needs)/\x∉(p.op i).needs:=by
     intro f;obtain ⟨-,g1,g2,X⟩:=G.give x f;refine ⟨g1,fun k m e=>?_,fun e=>g2 (bj _ e)⟩;have hkm:k<ops.length:=by simpa using h.lt k m
     rcases ((Skel.good_of_ok (L:=L) hkn hok (List.getElem?_eq_getElem hkm)).have_ x (bj _ e)).2 with J | ⟨j,c,J⟩
     ·exact g1 J
     ·have:=X j (h.lt j (h.closed k m j c)) J
      subst this;exact hcl k m c
    rw[List.mem_append,U];constructor
    ·rintro (f | ⟨f,hx2⟩)
     ·rcases aE f with f | f
      ·have ⟨s,z⟩:=(V x).1 (hin x (bg _ f));refine ⟨s.imp id fun ⟨j,c,e⟩=>⟨j,by simp[c],e⟩,fun ⟨j,c,e⟩=>?_⟩;simp[Bool.or_eq_true,beq_iff_eq] at c;rcases c with c | rfl
       ·exact z ⟨j,c,e⟩
       ·exact (List.nodup_append.1 G.nd1).2.2 x f x e rfl
      ·have ⟨g1,g2,X⟩:=hgx f;refine ⟨.inr ⟨i,by simp,f⟩,fun ⟨j,c,e⟩=>?_⟩;simp[Bool.or_eq_true,beq_iff_eq] at c;rcases c with c | rfl
       ·exact g2 j c e
       ·exact X e
     ·have ⟨s,z⟩:=(V x).1 f;refine ⟨s.imp id fun ⟨j,c,e⟩=>⟨j,by simp[c],e⟩,fun ⟨j,c,e⟩=>?_⟩;simp[Bool.or_eq_true,beq_iff_eq] at c;rcases c with c | rfl
      ·exact z ⟨j,c,e⟩
      ·exact hx2 (bj _ e)
    ·rintro ⟨s,z⟩;have e2': ¬ ∃j,S j=true/\x∈(p.op j).needs:=fun ⟨j,c,e⟩=>z ⟨j,by simp[c],e⟩;have e2i:=fun e=>z ⟨i,by simp,e⟩;by_cases W:x∈(p.op i).gives
     ·exact .inl (bj _ W)
     ·have hxl:x∈l:=by
       rw[V];refine ⟨s.imp id fun ⟨j,c,e⟩=>?_,e2'⟩;simp[Bool.or_eq_true,beq_iff_eq] at c;rcases c with c | rfl
       ·exact ⟨j,c,e⟩
       ·exact absurd e W
      by_cases e:x∈(p.op i).reads++(p.op i).needs
      ·rcases aE e with e | e
       ·exact .inl (bg _ e)
       ·exact absurd e e2i
      ·exact .inr ⟨hxl,e⟩
   ·rw[aX,aC]
    have:=List.map_congr_left fun x f=>R v x ((U x).1 f).1
    rw[this];exact hv.2
theorem XD (g: ∀t,kn t=true->(L.lookup t).isSome=true) (s:Loc p q ops.length) (c:p.ok n kn ops=true) (F: ∀i o,ops[i]? =some o->p.goal q P I w0 L i o) {Q:Exit->Act->World->Prop}
  (H: ∀vs a w,Inv p q C I w0 n L ops.toArray (fun j=>decide (j<ops.length)) vs a w->Q .normal a w): ∀(fuel:Nat) (listed:Array Bool) (vs:Nat->Value) (a:Act) (w:World),listed.size=ops.length->D.leftOf ops.length listed<=fuel->
   Inv p q C I w0 n L ops.toArray (fun j=>listed.getD j false) vs a w->wpAny P .any ops.toArray Q fuel listed a w:=by
 have done: ∀(listed:Array Bool) (vs:Nat->Value) (a:Act) (w:World),(∀i,i<ops.length->listed.getD i false=true)->Inv p q C I w0 n L ops.toArray (fun j=>listed.getD j false) vs a w->Q .normal a w:=by
  intro listed vs a w b h;refine H vs a w ?_;have e:(fun j=>listed.getD j false)=fun j=>decide (j<ops.length):=by
   funext j;by_cases m:j<ops.length
   ·grind
   ·cases s:listed.getD j false with
    | false=>grind
    | true=>exact absurd (by simpa using h.lt j s) m
  rw[<-e];exact h
 have nil: ∀(listed:Array Bool) (vs:Nat->Value) (a:Act) (w:World),listed.size=ops.length->Inv p q C I w0 n L ops.toArray (fun j=>listed.getD j false) vs a w->Region.ready .any ops.toArray listed= [] ->Q .normal a w:=by
  intro listed vs a w f h B;refine done listed vs a w (fun i=>?_) h;induction i using Nat.strongRecOn with
  | _ i y =>
   intro v;cases s:listed.getD i false with
   | true=>rfl
   | false =>
    have:i∈Region.ready .any ops.toArray listed:=by
     refine D.mem_ready.2 ⟨by omega,?_,fun o R j m=>?_⟩
     ·grind
     ·have M:=(Skel.good_of_ok (L:=L) g c (show ops[i]? =some o by grind)).edges j m;grind
    grind
 intro fuel;induction fuel with
 | zero =>
  intro listed vs a w f z h;have b: ∀i,i<ops.length->listed.getD i false=true:=by
   intro i v;cases s:listed.getD i false with
   | true=>rfl
   | false =>
    have T:=List.eq_nil_of_length_eq_zero (Nat.le_zero.1 z);simp_all
  refine ⟨?_,done listed vs a w b h⟩;cases B:Region.ready .any ops.toArray listed with
  | nil=>rfl
  | cons i l =>
   have:i∈Region.ready .any ops.toArray listed:=by rw[B];simp
   grind[D.mem_ready,Array.getD_eq_getD_getElem?,Array.getElem?_eq_getElem]
 | succ fuel y =>
  intro listed vs a w f z h;refine ⟨nil listed vs a w f h,fun i v=>?_⟩;have ⟨J,A,K⟩:=D.mem_ready.1 v;have u:i<ops.length:=by simpa using J
  have d:=List.getElem?_eq_getElem u;have E:listed.getD i false=false:=by
   rw[Array.getD_eq_getD_getElem?,Array.getElem?_eq_getElem (by omega)] at A⊢;simpa using A
  have x:=F i _ d;refine h.step g s c x d E (fun j m=>?_) fun vs a w O=>?_
  ·rcases ((Skel.good_of_ok (L:=L) g c d).bef j m).2 with e | ⟨k,N,e⟩
   ·grind
   ·exact h.closed k (K _ (by grind) k N) j e
  ·refine y _ vs a w (by grind) ?_ ?_
   ·have G:D.leftOf ops.length (listed.setIfInBounds i true)<D.leftOf ops.length listed:=by
     unfold D.leftOf;have r:(List.range ops.length).filter (fun j=> !(listed.setIfInBounds i true).getD j false)=((List.range ops.length).filter (fun j=> !listed.getD j false)).filter (fun j=>j !=i):=by
      rw[List.filter_filter];refine List.filter_congr fun j m=>?_;by_cases e:i=j
      ·simp_all
      ·rw[Array.getD_eq_getD_getElem?,Array.getElem?_setIfInBounds_ne e,<-Array.getD_eq_getD_getElem?];grind
     rw[r];refine List.length_filter_lt_length_iff_exists.2 ⟨i,List.mem_filter.2 ⟨List.mem_range.2 u,by grind⟩,by simp⟩
    omega
   ·have e:(fun j=>(listed.setIfInBounds i true).getD j false)=fun j=>(listed.getD j false || j==i):=by
     funext j;by_cases e:i=j
     ·simp_all
     ·rw[Array.getD_eq_getD_getElem?,Array.getElem?_setIfInBounds_ne e,<-Array.getD_eq_getD_getElem?];grind
    grind
theorem Tl {id:Nat} {J:List Ch} {Q:Exit->Act->World->Prop} (p:Skel) (q:Sm) (m: ∀t,kn t=true->(L.lookup t).isSome=true) (W:Loc p q ops.length) (hm:P.follows .mixedOrders=true) (A:Agr n a L) (hs:St I w0 w J) (hp:J.Perm (p.base.map (q.chunk · fun _=>undef)++C))
  (r:p.ok n kn ops=true) (E:p.okB kn ops=true) (T: ∀i o,ops[i]? =some o->p.goal q P I w0 L i o)
  (k: ∀vs a w,(∀i,i<ops.length->q.fact i vs)->Agr n a (p.out L vs)->St I w0 w (p.left.map (q.chunk · vs)++C)->Q .normal a w):(Code.region id ops.toArray true).wp P Q a w:=by
 unfold Skel.okB at E;simp only[ak,tU,Jr,po,Bool.or_eq_true,Bool.not_eq_true',Jq,List.all_eq_true] at E;have ⟨f,g,O,V,z⟩:=E;have B:=tT f;have y:=tT g;refine wp_region_any hm (XD (C:=C) m W r T (fun vs a w h=>k vs a w (fun i d=>h.facts i (by grind)) ?_ ?_) _ _ (fun _=>undef) a _ (by simp) ?_ ?_)
 ·refine ⟨h.defers,h.size,fun t v hv=>?_⟩;have key: ∀(M:List (Nat×Option Nat)),(∀q∈M,q∈p.fin)->(M.map fun (t,s)=>(t,match s with | some j=>vs j | none=>(L.lookup t).getD undef)).lookup t=some v->a.tmps.getD t undef=v:=by
   intro M;induction M with
   | nil=>grind
   | cons q M ih =>
    intro U hv;have ⟨X,H⟩:=q;by_cases e:t=X
    ·subst e;simp[BEq.rfl,Option.some.injEq] at hv;have b:=z (t,H) (U _ (by simp));cases H with
     | none =>
      simp only[ak,tU,Bool.not_eq_true'] at b hv;have ⟨u,G⟩:=Option.isSome_iff_exists.1 (m _ b.1);rw[G] at hv;subst hv;refine h.old t u G fun j c K=>?_;have c:j<ops.length:=by simpa using c
      have:=b.2 j (List.mem_range.2 c)
      grind[xP]
     | some j =>
      simp only[ak,tU,Y9,Y8,Bool.or_eq_true,Bool.not_eq_true',po] at b hv;rw[<-hv];refine h.new j t (by grind) (xP.1 b.2.1) fun k F K=>?_;have F:k<ops.length:=by simpa using F
      rcases b.2.2 k (List.mem_range.2 F) with e | e
      ·rw[xP.2 K] at e;cases e
      ·exact e
    grind
  exact key _ (fun _ h=>h) hv
 ·have ⟨l,R,l2,N⟩:=h.st;refine N.perm (List.Perm.append_right C (List.Perm.map _ ((List.perm_ext_iff_of_nodup R y).2 fun x=>?_)));grind
 ·grind[D.leftOf,Nat.le_trans,List.length_filter_le]
 ·have b: ∀j,(Array.replicate ops.toArray.size false).getD j false=false:=by
   intro j;rw[Array.getD_eq_getD_getElem?,Array.getElem?_replicate];split <;> rfl
  refine ⟨fun i d=>?_,fun i d=>?_,A.1,A.2.1,fun t v hv _=>A.2.2 t v hv,fun j t c=>?_,fun i d=>?_,p.base,B,fun x=>?_,?_⟩
  ·rw[b] at d;cases d
  ·rw[b] at d;cases d
  ·rw[b] at c;cases c
  ·rw[b] at d;cases d
  ·constructor
   ·intro Z;refine ⟨.inl Z,fun ⟨j,c,_⟩=>?_⟩;rw[b] at c;cases c
   ·rintro ⟨Y | ⟨j,c,_⟩,_⟩
    ·exact Y
    ·rw[b] at c;cases c
  ·exact (hs.drawn (w':= { w with drawn:=w.drawn+1 }) rfl rfl rfl rfl).perm hp
end
end R
namespace R
open Go.RowKit
open D
def LV.ids:LV->List Nat
 | .val _=>[]
 | .nb _=>[]
 | .rd h _ _=>[h.id]
 | .own h=>[h.id]
 | .ptr h _=>[h.id]
 | .fn h _ _ _=>[h.id]
 | .fz h _ _ _ _=>[h.id]
 | .fzf h _ _ _ _=>[h.id]
 | .rdn h _ _ _=>[h.id]
def PC:List LV->List Nat
 | [] =>[]
 | x::l=>x.ids++PC l
def abB:List (Bool×List LV)->List Nat
 | [] =>[]
 | y::l=>PC y.2++abB l
def AV.ids:AV->List Nat
 | .one x=>x.ids
 | .agg xs=>PC xs
 | .tup ys=>abB ys
 | .elr h _ _ _ _ _ _=>[h.id]
 | .elo h _ _ _ _ _ _ _=>[h.id]
 | .sub h _ _ _ _ _=>[h.id]
 | .pre h _ _ _ _ _=>[h.id]
 | .vw u h _ _ _ _=>[u.id,h.id]
 | .xv _ u h _ _ _ _=>[u.id,h.id]
 | .capv h _=>[h.id]
 | .any h=>[h.id]
 | .und=>[]
def Chk.ids:Chk->List Nat
 | .own _ _=>[]
 | .blk _ cs=>PC cs
 | .hole _ _ _ _ _ _ _ _ _ lv=>lv.ids
 | .box _ _ _=>[]
 | .map _ _ _ _ _=>[]
 | .clo _ first capt=>abB first++PC capt
def D5 (h:Hdr) (c:Chk):List Nat:=h.id::c.ids
theorem sd {x:LV} {i:Nat} : ∀ {l:List LV},x∈l->i∈x.ids->i∈PC l
 | y::l,h,hi=>by
  rcases aG h with rfl | h
  ·exact bg _ hi
  ·exact bj _ (sd h hi)
theorem A4 {y:Bool×List LV} {i:Nat} : ∀ {l:List (Bool×List LV)},y∈l->i∈PC y.2->i∈abB l
 | z::l,h,hi=>by
  rcases aG h with rfl | h
  ·exact bg _ hi
  ·exact bj _ (A4 h hi)
section
variable {P:Program} {w0:World} {J:Hp} {θ θ':Th} {n m:Nat} {chs chs':List Ent}
theorem gK {h:Hdr} (k:θ' h.id=θ h.id):hv θ' h=hv θ h:=by unfold hv;rw[k]
theorem LV.v_loc {x:LV} (h: ∀i∈x.ids,θ' i=θ i):x.v θ'=x.v θ:=by
 cases x with
 | val _=>rfl
 | nb _=>rfl
 | rd k t d=>exact gK (h _ (by simp[LV.ids]))
 | own k=>exact gK (h _ (by simp[LV.ids]))
 | ptr k off=>show Value.pointer (some ⟨bk (hv θ' k),off,none⟩)=_;rw[gK (h _ (by simp[LV.ids]))];rfl
 | fn k ps rs e=>exact gK (h _ (by simp[LV.ids]))
 | fz k T t d off=>show Value.pointer (some ⟨bk (hv θ' k),off,none⟩)=_;rw[gK (h _ (by simp[LV.ids]))];rfl
 | fzf k T ps rs e=>show Value.pointer (some ⟨bk (hv θ' k),0,none⟩)=_;rw[gK (h _ (by simp[LV.ids]))];rfl
 | rdn k b t d=>exact gK (h _ (by simp[LV.ids]))
theorem LV.ok_loc {x:LV} (h: ∀i∈x.ids,θ' i=θ i) (k:x.ok P w0 J θ n):x.ok P w0 J θ' n:=by
 cases x with
 | val _=>exact k
 | nb _=>trivial
 | rd g t d=>exact ⟨k.1,by rw[gK (h _ (by simp[LV.ids]))];exact k.2⟩
 | own g=>exact ⟨k.1,by rw[gK (h _ (by simp[LV.ids]))];exact k.2⟩
 | ptr g off=>exact k
 | fn g ps rs e=>exact ⟨k.1,by rw[gK (h _ (by simp[LV.ids]))];exact k.2⟩
 | fz g T t d off=>exact ⟨k.1,by rw[gK (h _ (by simp[LV.ids]))];exact k.2⟩
 | fzf g T ps rs e=>exact ⟨k.1,by rw[gK (h _ (by simp[LV.ids]))];exact k.2⟩
 | rdn g b t d=>exact ⟨k.1,by rw[gK (h _ (by simp[LV.ids]))];exact k.2⟩
theorem FA {xs:List LV} (h: ∀i∈PC xs,θ' i=θ i):xs.map (·.v θ')=xs.map (·.v θ):=List.map_congr_left fun x b=>LV.v_loc fun i a=>h i (sd b a)
theorem HP {y:Bool×List LV} (a: ∀i∈PC y.2,θ' i=θ i):l7 θ' y=l7 θ y:=by
 unfold l7;rw[FA a];split
 ·rfl
 ·cases c:y.2 with
  | nil=>rfl
  | cons x l=>exact LV.v_loc fun i b=>a i (by rw[c];exact bg _ b)
theorem AV.v_loc {x:AV} (h: ∀i∈x.ids,θ' i=θ i):x.v θ'=x.v θ:=by
 cases x with
 | one x=>exact LV.v_loc h
 | agg xs=>show Value.agg _=Value.agg _;rw[FA h]
 | tup ys =>
  show Value.tuple _=Value.tuple _;congr 2;refine List.map_congr_left fun y a=>?_;exact HP fun i b=>h i (A4 a b)
 | elr k E t xs x i off=>show pt (hv θ' k) _=_;rw[gK (h _ (by simp[AV.ids]))];rfl
 | elo k ver E t xs x i off=>show pt (hv θ' k) _=_;rw[gK (h _ (by simp[AV.ids]))];rfl
 | sub k ver E t xs l=>show sQ (hv θ' k) _ _ _=_;rw[gK (h _ (by simp[AV.ids]))];rfl
 | pre k ver E t xs l=>show sQ (hv θ' k) _ _ _=_;rw[gK (h _ (by simp[AV.ids]))];rfl
 | vw u k kk N l m=>exact gK (h _ (by simp[AV.ids]))
 | xv top u k kk N l m=>exact gK (h _ (by simp[AV.ids]))
 | capv k c=>rfl
 | any k=>exact gK (h _ (by simp[AV.ids]))
 | und=>rfl
theorem AV.ok_loc {x:AV} (h: ∀i∈x.ids,θ' i=θ i) (k:x.ok P w0 J θ n chs):x.ok P w0 J θ' n chs:=by
 cases x with
 | one x=>exact LV.ok_loc h k
 | agg xs=>exact fun x a=>LV.ok_loc (fun i b=>h i (sd a b)) (k x a)
 | tup ys=>exact fun y d x a=>LV.ok_loc (fun i b=>h i (A4 d (sd a b))) (k y d x a)
 | elr g E t xs x i off=>exact ⟨k.1,k.2.1,by rw[gK (h _ (by simp[AV.ids]))];exact k.2.2⟩
 | elo g ver E t xs x i off=>exact k
 | sub g ver E t xs l=>exact k
 | pre g ver E t xs l=>exact k
 | vw u g kk N l m=>exact ⟨k.1,k.2.1,by rw[gK (h _ (by simp[AV.ids])),gK (h _ (by simp[AV.ids]))];exact k.2.2⟩
 | xv top u g kk N l m=>exact ⟨k.1,k.2.1,by rw[gK (h _ (by simp[AV.ids])),gK (h _ (by simp[AV.ids]))];exact k.2.2⟩
 | capv g c=>exact ⟨k.1,by rw[gK (h _ (by simp[AV.ids]))];exact k.2⟩
 | any g=>exact k
 | und=>trivial
theorem Tm {e:Ent} (h: ∀i∈D5 e.1 e.2.2,θ' i=θ i):toCh P θ' e=toCh P θ e:=by
 obtain ⟨k,g,c⟩:=e;have a:hv θ' k=hv θ k:=gK (h _ (by simp[D5]));cases c with
 | own t d=>show Ch.own _ [hv θ' k] d=_;rw[a];rfl
 | blk T cells=>show Ch.blk (bk (hv θ' k)) (cells.map (·.v θ')) T=_;rw[a,FA fun i b=>h i (bq _ b)];rfl
 | hole over t d u y f i kk off lv=>show Ch.gap _ [hv θ' k] _ f (ptB (hv θ' k)) (ptO (hv θ' k)+(i.toNat*kk+off)) (lv.v θ')=_;rw[a,LV.v_loc fun i b=>h i (bq _ b)];rfl
 | box T t d=>show Ch.box (bk (hv θ' k)) T _ d=_;rw[a];rfl
 | map K E kk e m=>show @Ch.mp P K E kk.den e.den kk.dec kk.lit kk.ok e.lit e.z (hv θ' k) m=_;rw[a];rfl
 | clo _ _ _=>rfl
theorem XE {e:Ent} (h: ∀i∈D5 e.1 e.2.2,θ' i=θ i) (k:okE P w0 J θ n chs e):okE P w0 J θ' n chs e:=by
 obtain ⟨g,v,c⟩:=e;cases c with
 | own t d=>exact k
 | blk T cells=>exact ⟨k.1,k.2.1,fun x b=>LV.ok_loc (fun i a=>h i (bq _ (sd b a))) (k.2.2 x b)⟩
 | hole over t d u y f i kk off lv=>exact ⟨k.1,k.2.1,LV.ok_loc (fun i a=>h i (bq _ a)) k.2.2.1,k.2.2.2⟩
 | box T t d=>exact k
 | map K E kk e m=>exact k
 | clo f first capt =>
  obtain ⟨r,q,s,w,p⟩:=k;have l: ∀y∈first,∀i∈PC y.2,θ' i=θ i:=fun y j i a=>h i (bq _ (bg _ (A4 j a)))
  have o: ∀i∈PC capt,θ' i=θ i:=fun i a=>h i (bq _ (bj _ a));refine ⟨r,q,fun y j x b=>LV.ok_loc (fun i a=>l y j i (sd b a)) (s y j x b),fun x b=>LV.ok_loc (fun i a=>o i (sd b a)) (w x b),?_⟩;show hv θ' g=_;rw[gK (h _ (by simp[D5])),FA o,List.map_congr_left fun y j=>HP (l y j)];exact p
def AV.elos:AV->List (Hdr×Nat)
 | .elo h ver _ _ _ _ _ _=>[(h,ver)]
 | .sub h ver _ _ _ _=>[(h,ver)]
 | .pre h ver _ _ _ _=>[(h,ver)]
 | _=>[]
def Chk.elos (ver:Nat):Chk->List (Hdr×Nat)
 | .hole _ _ _ _ _ _ _ _ _ (.own l)=>[(l,ver)]
 | _=>[]
theorem LV.ok_le {x:LV} (a:n<=m) (h:x.ok P w0 J θ n):x.ok P w0 J θ m:=LV.ok_same Same.rfl' a h Hp.le.rfl
where Same.rfl' {n:Nat} {θ:Th} :Same n θ θ:=fun i hi=>Eq.refl _
theorem AV.ok_move {x:AV} (a:n<=m) (d: ∀h ver c,(h,ver)∈x.elos->Mem chs n h ver c-> ∀e∈chs',∀c',Says e h ver c'->c'=c) (k:x.ok P w0 J θ n chs):x.ok P w0 J θ m chs':=by
 cases x with
 | one x=>exact LV.ok_le a k
 | agg xs=>exact fun x b=>LV.ok_le a (k x b)
 | tup ys=>exact fun y f x b=>LV.ok_le a (k y f x b)
 | elr g E t xs x i off=>exact ⟨aL k.1 a,k.2⟩
 | elo g ver E t xs x i off=>exact ⟨aL k.1 a,k.2.1,aL k.2.2.1 a,d _ _ _ (by simp[AV.elos]) k.2.2⟩
 | sub g ver E t xs l=>exact ⟨aL k.1 a,k.2.1,aL k.2.2.1 a,d _ _ _ (by simp[AV.elos]) k.2.2⟩
 | pre g ver E t xs l=>exact ⟨aL k.1 a,k.2.1,aL k.2.2.1 a,d _ _ _ (by simp[AV.elos]) k.2.2⟩
 | vw u g kk N l m=>exact ⟨aL k.1 a,aL k.2.1 a,k.2.2⟩
 | xv top u g kk N l m=>exact ⟨aL k.1 a,aL k.2.1 a,k.2.2⟩
 | capv g c=>exact ⟨aL k.1 a,k.2⟩
 | any g=>exact aL k a
 | und=>trivial
theorem La {e:Ent} (a:n<=m) (q: ∀h b c,(h,b)∈e.2.2.elos e.2.1->Mem chs n h b c-> ∀e∈chs',∀c',Says e h b c'->c'=c) (k:okE P w0 J θ n chs e):okE P w0 J θ m chs' e:=by
 obtain ⟨g,b,c⟩:=e;cases c with
 | own t d=>exact ⟨aL k.1 a,aL k.2.1 a,trivial⟩
 | blk T cells=>exact ⟨aL k.1 a,aL k.2.1 a,fun x j=>LV.ok_le a (k.2.2 x j)⟩
 | hole over t d u y f i kk off lv =>
  refine ⟨aL k.1 a,aL k.2.1 a,LV.ok_le a k.2.2.1,k.2.2.2.1,k.2.2.2.2.1,fun l o=>?_⟩
  have:=k.2.2.2.2.2 l o
  exact ⟨aL this.1 a,q _ _ _ (by subst o;simp[Chk.elos]) this⟩
 | box T t d=>exact ⟨aL k.1 a,aL k.2.1 a,trivial⟩
 | map K E kk e m=>exact ⟨aL k.1 a,aL k.2.1 a,trivial⟩
 | clo f first capt=>exact ⟨aL k.1 a,aL k.2.1 a,fun y p x j=>LV.ok_le a (k.2.2.1 y p x j),fun x j=>LV.ok_le a (k.2.2.2.1 x j),k.2.2.2.2⟩
end
structure TR where
 i:Nat
 o:Oper
 b:List Nat
 s:Sg
 r:Res
 run:Bool
def mg (n0:Nat) (x:TR):List Ent:=x.r.gives.map fun g=>(g.1,n0+x.i,g.2)
def BU (n0:Nat) (env:List (Nat×Nat×AV)):List TR->List (Nat×Nat×AV)
 | [] =>env
 | x::l=>N1 x.o.dst (n0+x.i) x.r.av (BU n0 env l)
def jC (n0:Nat) (chs:List Ent):List TR->List Ent
 | [] =>chs
 | x::l=>mg n0 x++jC n0 chs l
def sameKey (a b:Ent):Bool:=Nat.beq a.2.1 b.2.1&&Hdr.beq a.1 b.1
def ZZ (e:Ent) (l:List TR):Bool:=l.any fun x=>x.r.ns.any fun e'=>sameKey e' e
def inB (n0:Nat) (b:List Nat) (v:Nat):Bool:=Nat.blt v n0 || xm (v - n0) b
def subS (s0:Sg) (l:List TR) (i:Nat) (b:List Nat):Sg:=
 ⟨(BU s0.nxt s0.env l).filter fun e=>inB s0.nxt b e.2.1,(jC s0.nxt s0.chs l).filter fun e=>inB s0.nxt b e.2.1 && !ZZ e l,s0.nxt+i⟩
def Tn (s0:Sg) (l:List TR):Sg:=subS s0 l l.length (List.range l.length)
def recAt (i:Nat):List TR->Option TR
 | [] =>none
 | x::l=>if Nat.beq x.i i then some x else recAt i l
def abC (t:Nat) (l:List Nat):List Nat:=if xm t l then l else t::l
def HQ:List Nat->List Nat->List Nat
 | [],acc=>acc
 | t::l,acc=>HQ l (abC t acc)
def bOf (l:List TR):List Nat->List Nat->List Nat
 | [],acc=>acc
 | j::js,acc=>bOf l js (HQ (match recAt j l with | some y=>y.b | none=>[]) (abC j acc))
def splitB {Y:Type} (g:Bool) (av:AV) (k:AV->Option Y):Option Y:=match g with
 | false=>k av
 | true=>match av with
  | .one (.val (.bool b))=>if b then k (.one (.val (.bool true))) else k (.one (.val (.bool false)))
  | .one (.nb b)=>if b then k (.one (.val (.bool false))) else k (.one (.val (.bool true)))
  | _=>none
def PD (ops:List Oper) (i:Nat):Bool:=match ops with
 | [] =>false
 | o::ops=>(match o.guard with | some (g,_)=>Nat.beq g i | none=>false) || PD ops i
section
variable {Y:Type} (V:Env) (ops:List Oper) (s0:Sg) (k:List TR->Option Y)
def ack (o:Oper) (i:Nat) (l:List TR) (b:List Nat) (s:Sg):Option Y:=
 b8 (okO V.n s o) (step V s (fun r=>splitB (PD ops i) r.av fun av=>k (⟨i,o,b,s,⟨r.rs,r.ns,r.rest,r.gives,av⟩,true⟩::l)) o)
def XF (o:Oper) (i:Nat) (l:List TR) (b:List Nat) (s:Sg):Option Y:=
 k (⟨i,o,b,s,⟨[],[],s.chs,[],.und⟩,false⟩::l)
def opD (o:Oper) (i:Nat) (l:List TR) (b:List Nat) (s:Sg):Option Y:=match o.guard with
 | none=>ack V ops k o i l b s
 | some (g,want)=>match recAt g l with
  | some y=>match y.r.av with
   | .one (.val (.bool c))=>match c==want with
    | true=>ack V ops k o i l b s
    | false=>XF k o i l b s
   | .und=>XF k o i l b s
   | _=>none
  | none=>none
def goD:List Oper->Nat->List TR->Option Y
 | [],_,l=>k l
 | o::os,i,l=>(fun b=>opD V ops (goD os (i+1)) o i l b (subS s0 l i b)) (bOf l (edgesOf o) [])
end
def GdOk (l:List TR) (x:TR):Prop:=match x.o.guard with
 | none=>x.run=true
 | some (g,want)=> ∃y∈l,y.i=g/\((∃c:Bool,y.r.av= .one (.val (.bool c))/\x.run=(c==want))\/(y.r.av= .und/\x.run=false))
structure RecOk (P:Program) (w0:World) (n:Nat) (s0:Sg) (ops:List Oper) (l:List TR) (x:TR):Prop where
 hi:x.i=l.length
 ho:ops[x.i]? =some x.o
 hb:x.b=bOf l (edgesOf x.o) []
 hs:x.s=subS s0 l x.i x.b
 good:x.run=true->Good P w0 x.s x.o x.r/\okO n x.s x.o=true
 skip:x.run=false->x.r=⟨[],[],x.s.chs,[],.und⟩
 gd:GdOk l x
def AllOk (P:Program) (w0:World) (n:Nat) (s0:Sg) (ops:List Oper):List TR->Prop
 | [] =>True
 | x::l=>RecOk P w0 n s0 ops l x/\AllOk P w0 n s0 ops l
section
variable {Y:Type} {V:Env} {P:Program} {w0:World} {ops:List Oper} {s0:Sg} {k:List TR->Option Y} {res:Y}
theorem A5 {i:Nat} {y:TR} : ∀ {l:List TR},recAt i l=some y->y∈l/\y.i=i
 | x::l,h=>by
  unfold recAt at h;split at h
  ·rename_i c;obtain rfl:=ae h;exact ⟨by simp,au c⟩
  ·obtain ⟨b,a⟩:=A5 h;exact ⟨by simp[b],a⟩
theorem uY {s:Sg} {o:Oper} {r:Res} {av:AV} (h:Good P w0 s o r) (hv: ∀θ,av.v θ=r.av.v θ) (b: ∀(J:Hp) (θ:Th) n chs,av.ok P w0 J θ n chs):Good P w0 s o ⟨r.rs,r.ns,r.rest,r.gives,av⟩:=
 ⟨h.perm,h.says,fun J θ c=>OpT.weak (h.op J θ c) (fun v a=>⟨b _ _ _ _,(hv _).trans a.2.1,a.2.2⟩) (fun v _=>rfl)⟩
theorem PE {g:Bool} {s:Sg} {o:Oper} {r:Res} {f:AV->Option Y} (h:splitB g r.av f=some res) (a:Good P w0 s o r): ∃av,f av=some res/\Good P w0 s o ⟨r.rs,r.ns,r.rest,r.gives,av⟩:=by
 unfold splitB at h;split at h
 ·exact ⟨r.av,h,a⟩
 ·split at h
  ·rename_i b c;cases b with
   | true=>exact ⟨_,h,uY a (fun θ=>by rw[c]) fun _ _ _ _=>Eq.refl true⟩
   | false=>exact ⟨_,h,uY a (fun θ=>by rw[c]) fun _ _ _ _=>Eq.refl true⟩
  ·rename_i b c;cases b with
   | true=>exact ⟨_,h,uY a (fun θ=>by rw[c];rfl) fun _ _ _ _=>Eq.refl true⟩
   | false=>exact ⟨_,h,uY a (fun θ=>by rw[c];rfl) fun _ _ _ _=>Eq.refl true⟩
  ·cases h
theorem PF (p:TTok P V.tt) (s:FTok P V.ft): ∀ {os:List Oper} {i:Nat} {l:List TR},goD V ops s0 k os i l=some res->i=l.length->ops.drop i=os->AllOk P w0 V.n s0 ops l-> ∃l',k l'=some res/\AllOk P w0 V.n s0 ops l'/\l'.length=ops.length
 | [],i,l,h,hi,hd,ha=>⟨l,h,ha,by
  have B:=List.drop_eq_nil_iff.1 hd
  have: ∀ {l:List TR},AllOk P w0 V.n s0 ops l->l.length<=ops.length:=by
   intro l;induction l with
   | nil=>intro _;exact Nat.zero_le _
   | cons x l ih =>
    rintro ⟨u,A⟩
    have:=(List.getElem?_eq_some_iff.1 u.ho).1
    rw[u.hi] at this;exact this
  have:=this ha
  omega⟩
 | o::os,i,l,h,hi,hd,ha=>by
  have t:ops[i]? =some o:=by
   have:=congrArg (·[0]?) hd
   simpa using this
  have j:ops.drop (i+1)=os:=by
   rw[<-List.drop_drop,hd];rfl
  have h:opD V ops (goD V ops s0 k os (i+1)) o i l (bOf l (edgesOf o) []) (subS s0 l i (bOf l (edgesOf o) []))=some res:=h;have run:(GdOk l ⟨i,o,bOf l (edgesOf o) [],subS s0 l i (bOf l (edgesOf o) []),⟨[],[],[],[],.und⟩,true⟩)->ack V ops (goD V ops s0 k os (i+1)) o i l (bOf l (edgesOf o) []) (subS s0 l i (bOf l (edgesOf o) []))=some res-> ∃l',k l'=some res/\AllOk P w0 V.n s0 ops l'/\l'.length=ops.length:=by
   intro a h;obtain ⟨z,h⟩:=ai h;obtain ⟨r,w,q⟩:=Pu (w0:=w0) p s h;obtain ⟨C,h,q⟩:=PE w q;exact PF p s h (by rw[hi];rfl) j ⟨⟨hi,t,rfl,rfl,fun _=>⟨q,z⟩,fun e=>(by cases e),a⟩,ha⟩
  have m:(GdOk l ⟨i,o,bOf l (edgesOf o) [],subS s0 l i (bOf l (edgesOf o) []),⟨[],[],[],[],.und⟩,false⟩)->XF (goD V ops s0 k os (i+1)) o i l (bOf l (edgesOf o) []) (subS s0 l i (bOf l (edgesOf o) []))=some res-> ∃l',k l'=some res/\AllOk P w0 V.n s0 ops l'/\l'.length=ops.length:=by
   intro a h;exact PF p s h (by rw[hi];rfl) j ⟨⟨hi,t,rfl,rfl,fun e=>(by cases e),fun _=>rfl,a⟩,ha⟩
  unfold opD at h;split at h
  ·rename_i a;exact run (by unfold GdOk;simp only[a]) h
  ·rename_i g want a;split at h
   ·rename_i y v;obtain ⟨d,f⟩:=A5 v;split at h
    ·rename_i c n;split at h
     ·rename_i b;exact run (by unfold GdOk;simp only[a];exact ⟨y,d,f,.inl ⟨c,n,b.symm⟩⟩) h
     ·rename_i b;exact m (by unfold GdOk;simp only[a];exact ⟨y,d,f,.inl ⟨c,n,b.symm⟩⟩) h
    ·rename_i n;exact m (by unfold GdOk;simp only[a];exact ⟨y,d,f,.inr ⟨n,trivial⟩⟩) h
    ·cases h
   ·cases h
end
def BV (l:List (Nat×Nat×AV)) (t:Nat):Option Nat:=match l with
 | [] =>none
 | (u,k,_)::l=>if Nat.beq u t then some k else BV l t
def numOf (e:Ent):List Ent->Nat
 | [] =>0
 | x::l=>if sameKey x e then 0 else numOf e l+1
def Vk (n0 v:Nat):Option Nat:=if Nat.blt v n0 then none else some (v - n0)
def HS (n0:Nat) (env:List (Nat×Nat×AV)):List Nat->List (Nat×Option Nat)
 | [] =>[]
 | t::l=>match BV env t with
  | some v=>(t,Vk n0 v)::HS n0 env l
  | none=>HS n0 env l
def opK (n0:Nat) (T:List Ent) (ops:Array Oper) (x:TR):OpK:=⟨x.r.rs.map (numOf · T),x.r.ns.map (numOf · T),(mg n0 x).map (numOf · T),HS n0 x.s.env (slotsOf ops x.o)⟩
def PG (n0:Nat):List (Nat×Nat×AV)->List Nat->List (Nat×Option Nat)
 | [],_=>[]
 | e::l,seen=>match xm e.1 seen with
  | true=>PG n0 l seen
  | false=>(e.1,Vk n0 e.2.1)::PG n0 l (e.1::seen)
def qk (s0:Sg) (ops:List Oper) (l:List TR) (T:List Ent):Skel:=
 ⟨(l.map (opK s0.nxt T ops.toArray)).reverse,T.length,s0.chs.map (numOf · T),(l.map (·.b)).reverse,PG s0.nxt (Tn s0 l).env [],(Tn s0 l).chs.map (numOf · T)⟩
def jJ:List Ent->Bool
 | [] =>true
 | e::l=> !(l.any fun x=>sameKey x e)&&jJ l
def nS:List Ent->Bool
 | [] =>true
 | e::l=>Df e.1 l&&nS l
def XG (h:Hdr) (ver:Nat) (e:Ent):Bool:=Hdr.beq e.1 h&&(Nat.beq e.2.1 ver || match e.2.2 with
 | .hole over _ _ _ _ _ _ _ _ _=>Nat.beq over ver
 | _=>false)
def allowed (n0:Nat) (x:TR) (v:Nat):Bool:=Nat.blt v n0 || (Nat.beq (v - n0) x.i || xm (v - n0) x.b)
def Vl (n0:Nat) (x:TR):List (Hdr×Nat):=x.r.av.elos++x.r.gives.flatMap fun g=>g.2.elos (n0+x.i)
def To (x:TR):List Nat:=x.r.av.ids++x.r.gives.flatMap fun g=>D5 g.1 g.2
def BW (n0:Nat) (x:TR):Bool:=C8 (To x) (allowed n0 x)&&(Vl n0 x).all fun q=>(x.r.chs (n0+x.i)).any (XG q.1 q.2) || (Nat.beq q.2 (n0+x.i) && !(x.r.gives.any fun g=>Hdr.beq g.1 q.1))
def knS (s0:Sg) (t:Nat):Bool:=(look s0.env t).isSome
def Vm (n:Nat) (s0:Sg) (ops:List Oper) (l:List TR) (T:List Ent):Bool:=nS s0.chs&&(jJ T&&(l.all (BW s0.nxt)&&((qk s0 ops l T).ok n (knS s0) ops&&(qk s0 ops l T).okB (knS s0) ops)))
section
variable {Y:Type} (V:Env)
def BX (s0:Sg):List Oper->List Hdr
 | [] =>[]
 | o::os=>D3 s0 o.op.operands.toList++BX s0 os
def Lb (ops:List Oper) (k:Sg->Option Y) (s0:Sg):Option Y:=goD V ops s0 (fun l=>b8 (Vm V.n s0 ops l (jC s0.nxt s0.chs l)) (k (Tn s0 l))) ops 0 []
def Vn (tr:Trs) (s0:Sg):List Oper->List (Bool×Hdr)
 | [] =>[]
 | o::os=>ldF tr s0 o++(adk tr s0 o++Vn tr s0 os)
def Z0 (o:Oper):Bool:=match o.op with
 | .indexAddr _ _ _=>true
 | _=>false
def Z1 (tr:Trs) (ops:List Oper):Trs:=match ops.any Z0 with
 | true=>tr
 | false=>Px tr
def Lc (tr:Trs) (ops:List Oper) (s:Sg):Sg:=match tr with
 | [] =>s
 | _=>SA (Z1 tr ops) (Vn (Z1 tr ops) s ops) s
def isApp (o:Oper):Bool:=match o.op with
 | .buildSlice _ _ _=>true
 | _=>false
def abD (s:Sg):List Oper->List Hdr
 | [] =>[]
 | o::os=>match o.op with
  | .move x=>match opd s x with
   | some (.one (.own h))=>h::abD s os
   | _=>abD s os
  | _=>abD s os
def FC:List Hdr->Sg->Sg
 | [],s=>s
 | h::hs,s=>FC hs (zm h s)
def xQ (ops:List Oper) (s:Sg):Sg:=match ops.any Z0 && !ops.any isApp with
 | true=>FC (abD s ops) s
 | false=>s
def Tp (tr:Trs) (ops:List Oper) (s0:Sg):Sg:=match xQ ops (tw s0) with
 | s=>Lc tr ops (xM (BX s ops) s)
def XH (ops:List Oper) (k:Sg->Option Y) (s:Sg):Option Y:=Lb V ops k (Tp V.tr ops s)
end
theorem zo {a b:Ent} :sameKey a b=true↔a.2.1=b.2.1/\a.1=b.1:=by
 unfold sameKey;rw[ak,Y8];constructor
 ·rintro ⟨d,c⟩;exact ⟨d,Hdr.beq_eq c⟩
 ·rintro ⟨d,c⟩;exact ⟨d,by rw[c];exact E9 _⟩
theorem Ac {l:List Ent} :jJ l=true-> ∀a∈l,∀b∈l,a.2.1=b.2.1->a.1=b.1->a=b:=by
 induction l with
 | nil=>intro _ a i;cases i
 | cons e l ih =>
  intro h a i b j;unfold jJ at h;rw[ak,Bool.not_eq_true'] at h;obtain ⟨m,k⟩:=h;have key: ∀x∈l,¬(x.2.1=e.2.1/\x.1=e.1):=fun x n o=>by
   have:(l.any fun x=>sameKey x e)=true:=List.any_eq_true.2 ⟨x,n,zo.2 o⟩
   rw[m] at this;cases this
  intro g f;rcases aG i with d | d
  ·rcases aG j with c | c
   ·rw[d,c]
   ·rw[d] at g f;exact absurd ⟨g.symm,f.symm⟩ (key b c)
  ·rcases aG j with c | c
   ·rw[c] at g f;exact absurd ⟨g,f⟩ (key a d)
   ·exact ih k a d b c g f
theorem HT {l:List Ent} :nS l=true-> ∀a∈l,∀b∈l,a.1=b.1->a=b:=by
 induction l with
 | nil=>intro _ a f;cases f
 | cons e l ih =>
  intro h a f b i;unfold nS at h;rw[ak] at h;obtain ⟨g,j⟩:=h;intro k;rcases aG f with d | d
  ·rcases aG i with c | c
   ·rw[d,c]
   ·rw[d] at k;exact absurd k.symm (qg g c)
  ·rcases aG i with c | c
   ·rw[c] at k;exact absurd k (qg g d)
   ·exact ih j a d b c k
theorem uZ {e:Ent} : ∀ {T:List Ent},jJ T=true->e∈T->T[numOf e T]? =some e
 | x::T,hd,b=>by
  unfold numOf;split
  ·rename_i c;obtain ⟨f,d⟩:=zo.1 c;exact congrArg some (Ac hd x (by simp) e b f d)
  ·rename_i c;have a:=hd;unfold jJ at a;rw[ak] at a;rcases aG b with rfl | b
   ·exact absurd (zo.2 ⟨rfl,rfl⟩) c
   ·exact uZ a.2 b
theorem Tq {h:Hdr} {ver:Nat} {e:Ent} (k:XG h ver e=true): ∃c,Says e h ver c:=by
 unfold XG at k;rw[ak,Bool.or_eq_true] at k;obtain ⟨b,a⟩:=k;have b:=Hdr.beq_eq b;obtain ⟨g,v,c⟩:=e;rcases a with a | a
 ·exact ⟨c,b,.inl ⟨au a,rfl⟩⟩
 ·cases c with
  | hole over t d u y f i l off j=>exact ⟨.own t d,b,.inr ⟨au a,rfl⟩⟩
  | _=>cases a
section
variable {P:Program} {w0:World} {n:Nat} {s0:Sg} {ops:List Oper} {l:List TR}
theorem AllOk.lt:AllOk P w0 n s0 ops l-> ∀y∈l,y.i<l.length:=by
 induction l with
 | nil=>intro _ y a;cases a
 | cons w l ih =>
  rintro ⟨c,b⟩ y a;rcases aG a with rfl | a
  ·rw[c.hi,aq];omega
  ·have:=ih b y a
   rw[aq];omega
theorem AllOk.uniq:AllOk P w0 n s0 ops l-> ∀x∈l,∀y∈l,x.i=y.i->x=y:=by
 induction l with
 | nil=>intro _ y a;cases a
 | cons w l ih =>
  rintro ⟨d,c⟩ x b y a h;have e:=d.hi;rcases aG b with b | b
  ·rcases aG a with a | a
   ·rw[b,a]
   ·have:=c.lt y a
    rw[b] at h;omega
  ·rcases aG a with a | a
   ·have:=c.lt x b
    rw[a] at h;omega
   ·exact ih c x b y a h
theorem AllOk.get {x:TR} :AllOk P w0 n s0 ops l->x∈l-> ∃d,RecOk P w0 n s0 ops d x/\AllOk P w0 n s0 ops d/\(∀y∈d,y∈l)/\ ∀y∈l,y.i<x.i->y∈d:=by
 induction l with
 | nil=>intro _ c;cases c
 | cons z l ih =>
  rintro ⟨f,e⟩ c;rcases aG c with c | c
  ·subst c;exact ⟨l,f,e,fun y a=>by simp[a],fun y a b=>by
    rcases aG a with a | a
    ·rw[a] at b;exact absurd b (Nat.lt_irrefl _)
    ·exact a⟩
  ·obtain ⟨d,i,j,h,g⟩:=ih e c;refine ⟨d,i,j,fun y a=>by simp[h y a],fun y a b=>?_⟩;rcases aG a with a | a
   ·exfalso
    have k:=e.lt x c;have m:=f.hi;rw[a] at b;omega
   ·exact g y a b
theorem AllOk.at {α:Type} (f:TR->α):AllOk P w0 n s0 ops l-> ∀i,i<l.length-> ∃x∈l,x.i=i/\(l.map f).reverse[i]? =some (f x):=by
 induction l with
 | nil=>intro _ i a;cases a
 | cons w l ih =>
  rintro ⟨g,e⟩ i a;rw[List.map_cons,List.reverse_cons];by_cases h:i<l.length
  ·obtain ⟨x,j,d,c⟩:=ih e i h;exact ⟨x,by simp[j],d,by rw[List.getElem?_append_left (by simpa using h)];exact c⟩
  ·have b:i=l.length:=by rw[aq] at a;omega
   subst b;refine ⟨w,by simp,g.hi,?_⟩;rw[List.getElem?_append_right (by simp)];simp
theorem AllOk.opAt (a:AllOk P w0 n s0 ops l) {x:TR} (c:x∈l) (T:List Ent):(qk s0 ops l T).op x.i=opK s0.nxt T ops.toArray x/\(qk s0 ops l T).before x.i=x.b:=by
 have b:=a.lt x c;obtain ⟨y,g,e,d⟩:=a.at (opK s0.nxt T ops.toArray) x.i b;obtain ⟨z,f,h,i⟩:=a.at (·.b) x.i b;obtain rfl:=a.uniq y g x c e;obtain rfl:=a.uniq z f y c h;constructor
 ·show (l.map (opK s0.nxt T ops.toArray)).reverse.getD z.i _=_;rw[List.getD_eq_getElem?_getD,d];rfl
 ·show (l.map (·.b)).reverse.getD z.i [] =_;rw[List.getD_eq_getElem?_getD,i];rfl
theorem mi {n0:Nat} {chs:List Ent} {e:Ent} : ∀ {l:List TR},e∈jC n0 chs l↔e∈chs\/ ∃x∈l,e∈mg n0 x
 | [] =>by simp[jC]
 | y::l=>by
  unfold jC;rw[List.mem_append,mi (l:=l)];constructor
  ·rintro (h | h | ⟨x,a,h⟩)
   ·exact .inr ⟨y,by simp,h⟩
   ·exact .inl h
   ·exact .inr ⟨x,by simp[a],h⟩
  ·rintro (h | ⟨x,a,h⟩)
   ·exact .inr (.inl h)
   ·rcases aG a with rfl | a
    ·exact .inl h
    ·exact .inr (.inr ⟨x,a,h⟩)
theorem kL {n0:Nat} {x:TR} {e:Ent} (h:e∈mg n0 x):e.2.1=n0+x.i/\(e.1,e.2.2)∈x.r.gives:=by
 obtain ⟨g,a,rfl⟩:=List.mem_map.1 h;exact ⟨rfl,a⟩
theorem wJ {n0:Nat} {env:List (Nat×Nat×AV)} {e:Nat×Nat×AV} : ∀ {l:List TR},e∈BU n0 env l->e∈env\/ ∃x∈l,x.o.dst=some e.1/\e.2.1=n0+x.i/\e.2.2=x.r.av
 | [],h=>.inl h
 | y::l,h=>by
  unfold BU N1 at h;split at h
  ·rename_i d b;rcases aG h with rfl | h
   ·exact .inr ⟨y,by simp,b,rfl,rfl⟩
   ·exact (wJ h).imp id fun ⟨x,a,k⟩=>⟨x,by simp[a],k⟩
  ·exact (wJ h).imp id fun ⟨x,a,k⟩=>⟨x,by simp[a],k⟩
theorem PH {n0:Nat} {b:List Nat} {v:Nat} :inB n0 b v=true↔v<n0\/v - n0∈b:=by unfold inB;rw[Bool.or_eq_true,Y9,po]
theorem zp {i:Nat} {b:List Nat} {e:Ent} (h:e∈(subS s0 l i b).chs):e∈jC s0.nxt s0.chs l/\(e.2.1<s0.nxt\/e.2.1 - s0.nxt∈b):=by
 obtain ⟨c,a⟩:=List.mem_filter.1 h;rw[ak] at a;exact ⟨c,PH.1 a.1⟩
theorem FD {i:Nat} {b:List Nat} {e:Nat×Nat×AV} (h:e∈(subS s0 l i b).env):e∈BU s0.nxt s0.env l/\(e.2.1<s0.nxt\/e.2.1 - s0.nxt∈b):=by
 obtain ⟨c,a⟩:=List.mem_filter.1 h;exact ⟨c,PH.1 a⟩
def tz (θ:Th) (n0:Nat) (vs:Nat->Value):Th:=fun id=>if id<n0 then θ id else vs (id - n0)
theorem pq {θ:Th} {n0:Nat} {vs:Nat->Value} :Same n0 θ (tz θ n0 vs):=fun i a=>if_pos a
theorem Ts {θ:Th} {n0 i:Nat} {vs:Nat->Value} {v:Value} :tz θ n0 (upd vs i v)=upd (tz θ n0 vs) (n0+i) v:=by
 funext id;show (if id<n0 then θ id else if id - n0=i then v else vs (id - n0))=if id=n0+i then v else if id<n0 then θ id else vs (id - n0);by_cases h:id<n0
 ·rw[if_pos h,if_neg (show¬id=n0+i by omega),if_pos h]
 ·rw[if_neg h];by_cases a:id=n0+i
  ·rw[if_pos a,if_pos (show id - n0=i by omega)]
  ·rw[if_neg a,if_neg h,if_neg (show¬id - n0=i by omega)]
def Za (P:Program) (w0:World) (J:Hp) (θ:Th) (n0:Nat) (x:TR) (v:Value):Prop:=
 x.r.av.ok P w0 J θ (n0+x.i+1) (x.r.chs (n0+x.i))/\x.r.av.v θ=v/\ ∀g∈x.r.gives,okE P w0 J θ (n0+x.i+1) (x.r.chs (n0+x.i)) (g.1,n0+x.i,g.2)
end
section
variable {P:Program} {w0:World} {n:Nat} {s0:Sg} {ops:List Oper} {l:List TR} {J:Hp} {θ:Th} {vs:Nat->Value}
def NB (s0:Sg) (l:List TR) (h:Hdr) (ver:Nat) (c:Chk):Prop:=(∃e0∈s0.chs,Says e0 h ver c)\/ ∃x∈l,(h,ver,c)∈mg s0.nxt x
theorem Js {e:Ent} {h:Hdr} {ver:Nat} {c:Chk} {chs:List Ent} {m:Nat} (k:okE P w0 J θ m chs e) (hs:Says e h ver c):ver<m:=by
 obtain ⟨g,v,x⟩:=e;obtain ⟨-,hs⟩:=hs;rcases hs with ⟨a,-⟩ | hs
 ·rw[<-a];exact k.2.1
 ·cases x with
  | hole over t d u y f i j off b =>
   rw[<-hs.1];exact Nat.lt_trans k.2.2.2.1 k.2.1
  | _=>exact hs.elim
theorem XI (I:nS s0.chs=true) (G:jJ (jC s0.nxt s0.chs l)=true) (s:Fine P w0 J θ s0) {h:Hdr} {ver:Nat} {c c':Chk} (h1:NB s0 l h ver c) (B:NB s0 l h ver c'):c=c':=by
 have base: ∀o∈s0.chs,∀p∈s0.chs,∀c c',Says o h ver c->Says p h ver c'->c=c':=by
  intro o m p k c c' q j;obtain rfl:=HT I o m p k (q.1.trans j.1.symm);have r:=s.chs o m;obtain ⟨g,v,x⟩:=o;rcases q.2 with ⟨E,F⟩ | a
  ·rcases j.2 with ⟨C,w⟩ | b
   ·rw[F,w]
   ·cases x with
    | hole over t d u y f i D off z =>
     have:=r.2.2.2.1
     have o:v=ver:=E;have p:over=ver:=b.1
     exfalso
     have:over<v:=this
     omega
    | _=>exact b.elim
  ·rcases j.2 with ⟨C,w⟩ | b
   ·cases x with
    | hole over t d u y f i D off z =>
     have:=r.2.2.2.1
     have o:v=ver:=C;have p:over=ver:=a.1
     exfalso
     have:over<v:=this
     omega
    | _=>exact a.elim
   ·cases x with
    | hole over t d u y f i D off z=>rw[a.2,b.2]
    | _=>exact a.elim
 rcases h1 with ⟨o,m,q⟩ | ⟨x,H,q⟩
 ·rcases B with ⟨p,k,j⟩ | ⟨y,A,j⟩
  ·exact base o m p k c c' q j
  ·have:=Js (s.chs o m) q
   have:=(kL j).1
   exfalso;simp only at this;omega
 ·rcases B with ⟨p,k,j⟩ | ⟨y,A,j⟩
  ·have:=Js (s.chs p k) j
   have:=(kL q).1
   exfalso;simp only at this;omega
  ·have:=Ac G _ (mi.2 (.inr ⟨x,H,q⟩)) _ (mi.2 (.inr ⟨y,A,j⟩)) rfl rfl
   exact congrArg (fun e=>e.2.2) this
theorem Ld (hB:nS s0.chs=true) (hK:jJ (jC s0.nxt s0.chs l)=true) (G:Fine P w0 J θ s0) (ha:AllOk P w0 n s0 ops l) (hc: ∀x∈l,BW s0.nxt x=true)
  (L1:List TR) (K: ∀y∈L1,y∈l) (b:List Nat) (i:Nat) (C: ∀j∈b,j<i)
  (t: ∀y∈l,y.i∈b->Za P w0 J (tz θ s0.nxt vs) s0.nxt y (vs y.i))
  (A: ∀y∈l,y.i∈b-> ∀e∈mg s0.nxt y,∀h d c,Says e h d c->NB s0 l h d c)
  (F: ∀y∈l,y.i∈b-> ∀e∈y.r.chs (s0.nxt+y.i),∀h d c,Says e h d c->NB s0 l h d c)
  (O:(BU s0.nxt s0.env L1).Pairwise fun a b=>a.2.1≠b.2.1):Fine P w0 J (tz θ s0.nxt vs) (subS s0 L1 i b):=by
 have own: ∀e∈(subS s0 L1 i b).chs,∀h d c,Says e h d c->NB s0 l h d c:=by
  intro e q h d c D;obtain ⟨m,f⟩:=zp q;rcases mi.1 m with m | ⟨y,p,m⟩
  ·exact .inl ⟨e,m,D⟩
  ·have hv:=(kL m).1;rcases f with f | f
   ·omega
   ·exact A y (K y p) (by rw[hv,Nat.add_sub_cancel_left] at f;exact f) e m h d c D
 have w: ∀h d c,Mem s0.chs s0.nxt h d c-> ∀e∈(subS s0 L1 i b).chs,∀s,Says e h d s->s=c:=by
  intro h d c r e q s D;rcases own e q h d s D with ⟨Q,B,k⟩ | ⟨y,p,k⟩
  ·exact r.2 Q B s k
  ·have:=(kL k).1
   have:=r.1
   exfalso;simp only at *;omega
 have v: ∀y∈l,y.i∈b-> ∀h d,(h,d)∈Vl s0.nxt y-> ∀c,Mem (y.r.chs (s0.nxt+y.i)) (s0.nxt+y.i+1) h d c-> ∀e∈(subS s0 L1 i b).chs,∀s,Says e h d s->s=c:=by
  intro y p o h d u c r e q s D;have E:=hc y p;unfold BW at E;rw[ak] at E
  have:=(List.all_eq_true.1 E.2) (h,d) u
  rcases Bool.or_eq_true_iff.1 this with this | this
  rotate_left
  ·rw[ak,Bool.not_eq_true'] at this;have U:d=s0.nxt+y.i:=au this.1;rcases own e q h d s D with ⟨Q,B,k⟩ | ⟨z,Z,k⟩
   ·have:=Js (G.chs Q B) k
    omega
   ·obtain ⟨M,L⟩:=kL k;have M:d=s0.nxt+z.i:=M;obtain rfl:=AllOk.uniq ha z Z y p (by omega)
    have:(z.r.gives.any fun g=>Hdr.beq g.1 h)=true:=List.any_eq_true.2 ⟨_,L,E9 h⟩
    simp_all
  obtain ⟨X,I,T⟩:=List.any_eq_true.1 this;obtain ⟨W,H⟩:=Tq T;have S:=r.2 X I W H;subst S;exact XI hB hK G (own e q h d s D) (F y p o X I h d W H)
 refine ⟨fun e q=>?_,fun e q=>?_,List.Pairwise.filter _ O,fun e q=>?_,G.lay⟩
 ·obtain ⟨m,f⟩:=FD q;rcases wJ m with m | ⟨y,p,M,L,Y⟩
  ·have:=G.env e m
   refine AV.ok_move (n:=s0.nxt) (Nat.le_add_right _ _) (fun h d c _ r=>w h d c r) ?_;exact AV.ok_same pq (aH _) Newer.rfl this Hp.le.rfl
  ·rcases f with f | f
   ·omega
   ·have o:y.i∈b:=by rw[L,Nat.add_sub_cancel_left] at f;exact f
    have R:=t y (K y p) o
    have:=C _ o
    rw[Y];refine AV.ok_move (n:=s0.nxt+y.i+1) (by show s0.nxt+y.i+1<=s0.nxt+i;omega) (fun h d c u r=>v y (K y p) o h d (bg _ u) c r) R.1
 ·obtain ⟨m,f⟩:=FD q;rcases wJ m with m | ⟨y,p,M,L,Y⟩
  ·exact aL (G.ver e m) (Nat.le_add_right _ _)
  ·rcases f with f | f
   ·omega
   ·have:=C _ f
    show e.2.1<s0.nxt+i;omega
 ·obtain ⟨m,f⟩:=zp q;rcases mi.1 m with m | ⟨y,p,m⟩
  ·refine La (n:=s0.nxt) (Nat.le_add_right _ _) (fun h d c _ r=>w h d c r) ?_;exact gM pq (aH _) Newer.rfl (G.chs e m) Hp.le.rfl
  ·obtain ⟨hv,V⟩:=kL m;rcases f with f | f
   ·omega
   ·have o:y.i∈b:=by rw[hv,Nat.add_sub_cancel_left] at f;exact f
    have R:=t y (K y p) o
    have:=C _ o
    have T:=R.2.2 _ V;have N:e=(e.1,s0.nxt+y.i,e.2.2):=by rw[<-hv]
    rw[N];refine La (n:=s0.nxt+y.i+1) (by show s0.nxt+y.i+1<=s0.nxt+i;omega) (fun h d c u r=>?_) T;exact v y (K y p) o h d (bj _ (List.mem_flatMap.2 ⟨_,V,u⟩)) c r
end
theorem PI {t j:Nat} {l:List Nat} :j∈abC t l↔j=t\/j∈l:=by
 unfold abC;split
 ·rename_i h
  have:=po.1 h
  constructor
  ·exact fun h=>.inr h
  ·rintro (rfl | h)
   ·exact this
   ·exact h
 ·exact List.mem_cons
theorem HU {j:Nat} : ∀ {l acc:List Nat},j∈HQ l acc↔j∈l\/j∈acc
 | [],acc=>by simp[HQ]
 | t::l,acc=>by
  unfold HQ;rw[HU (l:=l),PI,List.mem_cons];constructor
  ·rintro (h | h | h) <;> simp[h]
  ·rintro ((h | h) | h) <;> simp[h]
def bAt (l:List TR) (k:Nat):List Nat:=match recAt k l with
 | some y=>y.b
 | none=>[]
theorem Vo {l:List TR} {j:Nat} : ∀ {js acc:List Nat},j∈bOf l js acc↔j∈acc\/ ∃k∈js,j=k\/j∈bAt l k
 | [],acc=>by simp[bOf]
 | k::js,acc=>by
  unfold bOf;rw[Vo (js:=js),HU,PI];show (j∈bAt l k\/j=k\/j∈acc)\/_↔_;constructor
  ·rintro ((h | h | h) | ⟨b,a,h⟩)
   ·exact .inr ⟨k,by simp,.inr h⟩
   ·exact .inr ⟨k,by simp,.inl h⟩
   ·exact .inl h
   ·exact .inr ⟨b,by simp[a],h⟩
  ·rintro (h | ⟨b,a,h⟩)
   ·exact .inl (.inr (.inr h))
   ·rcases aG a with a | a
    ·subst a;rcases h with h | h
     ·exact .inl (.inr (.inl h))
     ·exact .inl (.inl h)
    ·exact .inr ⟨b,a,h⟩
theorem D6 {y:TR} : ∀ {l:List TR},y∈l-> ∃z,recAt y.i l=some z
 | x::l,h=>by
  unfold recAt;split
  ·exact ⟨_,rfl⟩
  ·rename_i a;rcases aG h with h | h
   ·rw[h] at a;exact absurd (Nat.beq_refl _) a
   ·exact D6 h
section
variable {P:Program} {w0:World} {n:Nat} {s0:Sg} {ops:List Oper} {l:List TR} {J:Hp} {θ:Th} {vs:Nat->Value}
theorem AllOk.closed (r:AllOk P w0 n s0 ops l) (i: ∀x∈l,∀j∈x.b,j<x.i): ∀x∈l,∀y∈l,y.i∈x.b-> ∀k∈y.b,k∈x.b:=by
 have main: ∀m,∀x∈l,x.i=m-> ∀y∈l,y.i∈x.b-> ∀k∈y.b,k∈x.b:=by
  intro m;induction m using Nat.strongRecOn with
  | _ m w =>
   intro x e v y h a k u;obtain ⟨C,p,A,s,B⟩:=r.get e;have f:=i x e _ a;have o:=B y h f;rw[p.hb,Vo] at a⊢;rcases a with a | ⟨q,t,a | a⟩
   ·cases a
   ·refine .inr ⟨q,t,.inr ?_⟩;subst a;obtain ⟨z,d⟩:=D6 o;unfold bAt;rw[d];obtain ⟨b,c⟩:=A5 d;obtain rfl:=r.uniq z (s z b) y h c;exact u
   ·refine .inr ⟨q,t,.inr ?_⟩;unfold bAt at a⊢;split at a
    ·rename_i z d;obtain ⟨b,c⟩:=A5 d;have g:=A.lt z b;rw[<-p.hi] at g;exact w z.i (by omega) z (s z b) rfl y h a k u
    ·cases a
 exact fun x e=>main x.i x e rfl
theorem Vp (d:Fine P w0 J θ s0):AllOk P w0 n s0 ops l->(BU s0.nxt s0.env l).Pairwise fun a b=>a.2.1≠b.2.1:=by
 induction l with
 | nil=>intro _;exact d.nd
 | cons x l ih =>
  rintro ⟨g,c⟩;refine nd_go x.o.dst (ih c) fun e f=>?_;rcases wJ f with h | ⟨y,i,m,k,j⟩
  ·have:=d.ver e h;omega
  ·have:=c.lt y i
   have:=g.hi
   omega
where nd_go {env:List (Nat×Nat×AV)} {k:Nat} {av:AV} (d:Option Nat) (h:env.Pairwise fun a b=>a.2.1≠b.2.1) (hv: ∀e∈env,e.2.1<k):(N1 d k av env).Pairwise fun a b=>a.2.1≠b.2.1:=GZ h hv
theorem words (T:nS s0.chs=true) (S:jJ (jC s0.nxt s0.chs l)=true) (E:Fine P w0 J θ s0) (F:AllOk P w0 n s0 ops l) (U: ∀x∈l,BW s0.nxt x=true) (v: ∀x∈l,∀j∈x.b,j<x.i)
  (B:List Nat) (z: ∀y∈l,y.i∈B-> ∀k∈y.b,k∈B) (q: ∀y∈l,y.i∈B->Za P w0 J (tz θ s0.nxt vs) s0.nxt y (vs y.i)) :
  ∀x∈l,(∀k∈x.b,k∈B)->Fine P w0 J (tz θ s0.nxt vs) x.s/\(∀e∈mg s0.nxt x,∀h a c,Says e h a c->NB s0 l h a c)/\ ∀e∈x.r.chs (s0.nxt+x.i),∀h a c,Says e h a c->NB s0 l h a c:=by
 have main: ∀m,∀x∈l,x.i=m->(∀k∈x.b,k∈B)->Fine P w0 J (tz θ s0.nxt vs) x.s/\(∀e∈mg s0.nxt x,∀h a c,Says e h a c->NB s0 l h a c)/\ ∀e∈x.r.chs (s0.nxt+x.i),∀h a c,Says e h a c->NB s0 l h a c:=by
  intro m;induction m using Nat.strongRecOn with
  | _ m L =>
   intro x t K o;obtain ⟨I,s,O,G,V⟩:=F.get t;have C: ∀y∈l,y.i∈x.b->_:=fun y g d=>L y.i (by have:=v x t _ d;omega) y g rfl (z y g (o _ d));have H:Fine P w0 J (tz θ s0.nxt vs) x.s:=by
    rw[s.hs];exact Ld T S E F U I G x.b x.i (v x t) (fun y g d=>q y g (o _ d)) (fun y g d=>(C y g d).2.1) (fun y g d=>(C y g d).2.2) (Vp E O)
   have p: ∀e∈x.s.chs,∀h a c,Says e h a c->NB s0 l h a c:=by
    intro e b h a c r;rw[s.hs] at b;obtain ⟨i,f⟩:=zp b;rcases mi.1 i with i | ⟨y,g,i⟩
    ·exact .inl ⟨e,i,r⟩
    ·have hv:=(kL i).1;rcases f with f | f
     ·omega
     ·rw[hv,Nat.add_sub_cancel_left] at f;exact (C y (G y g) f).2.1 e i h a c r
   have u: ∀e∈mg s0.nxt x,∀h a c,Says e h a c->NB s0 l h a c:=by
    intro e b h a c r;cases w:x.run with
    | true =>
     obtain ⟨D,Q⟩:=s.good w;obtain ⟨hv,M⟩:=kL b;obtain ⟨i,f⟩:=r;rcases f with ⟨f,N⟩ | f
     ·refine .inr ⟨x,t,?_⟩
      have:e=(h,a,c):=by rw[N,<-i,<-f]
      rw[<-this];exact b
     ·obtain ⟨R,A,k⟩:=D.says J _ H _ M a c f;simp only at k;rw[i] at k;exact p R A h a c k
    | false =>
     have:=s.skip w
     unfold mg at b;rw[this] at b;cases b
   refine ⟨H,u,fun e b h a c r=>?_⟩;unfold Res.chs at b;rcases aE b with b | b
   ·exact u e b h a c r
   ·refine p e ?_ h a c r;cases w:x.run with
    | true =>
     obtain ⟨D,Q⟩:=s.good w;exact D.perm.mem_iff.2 (by rcases aE b with b | b <;> simp[b])
    | false =>
     rw[s.skip w] at b;simpa using b
 exact fun x t o=>main x.i x t rfl o
theorem u7 {t:Nat} {av:AV} : ∀ {env:List (Nat×Nat×AV)},look env t=some av-> ∃v,BV env t=some v/\(t,v,av)∈env
 | (u,k,x)::l,h=>by
  unfold look at h;unfold BV;split at h
  ·rename_i a;obtain rfl:=ae h;rw[if_pos a,au a];exact ⟨k,rfl,by simp⟩
  ·rename_i a;rw[if_neg a];obtain ⟨v,c,b⟩:=u7 h;exact ⟨v,c,by simp[b]⟩
theorem PJ {t v:Nat} {av:AV} {f:Nat×Nat×AV->Bool} (j: ∀e∈s0.env,f e=true):look ((BU s0.nxt s0.env l).filter f) t=some av->BV ((BU s0.nxt s0.env l).filter f) t=some v->v<s0.nxt->look s0.env t=some av:=by
 induction l with
 | nil =>
  intro b a c;rw[show (BU s0.nxt s0.env []).filter f=s0.env from List.filter_eq_self.2 j] at b;exact b
 | cons x l ih =>
  intro b a c;unfold BU N1 at b a;split at b
  ·rename_i d h;rw[h] at a;simp only at a;rw[List.filter_cons] at b a;split at b
   ·rename_i i;rw[if_pos i] at a;unfold look at b;unfold BV at a;split at b
    ·rename_i g;rw[if_pos g] at a
     have:=ae a
     omega
    ·rename_i g;rw[if_neg g] at a;exact ih b a c
   ·rename_i i;rw[if_neg i] at a;exact ih b a c
  ·rename_i h;rw[h] at a;exact ih b a c
theorem Z2 (g:Fine P w0 J θ s0) {b:List Nat} {i:Nat} {L1:List TR} (s: ∀y∈L1,y∈l) (c: ∀y∈l,y.i∈b->Za P w0 J (tz θ s0.nxt vs) s0.nxt y (vs y.i)) {t v:Nat} {av:AV}
  (h1:look (subS s0 L1 i b).env t=some av) (o:BV (subS s0 L1 i b).env t=some v):(match Vk s0.nxt v with | some j=>vs j | none=>((envL θ s0).lookup t).getD undef)=av.v (tz θ s0.nxt vs):=by
 obtain ⟨x,r,u⟩:=u7 h1;obtain rfl:=ae (o.symm.trans r);unfold Vk;by_cases hv:v<s0.nxt
 ·rw[if_pos (Y9.2 hv)];have p:=PJ (fun e k=>PH.2 (.inl (g.ver e k))) h1 o hv;obtain ⟨e,k,rfl⟩:=uS p;rw[AV.v_same (pq (vs:=vs)) (g.env e k)];simp only;rw[show (envL θ s0).lookup t=_ from iT p];rfl
 ·rw[if_neg (fun h=>hv (Y9.1 h))];obtain ⟨f,a⟩:=FD u;rcases wJ f with f | ⟨y,q,w,d,m⟩
  ·exact absurd (g.ver _ f) hv
  ·rcases a with a | a
   ·exact absurd a hv
   ·have d:v=s0.nxt+y.i:=d;have m:av=y.r.av:=m;have a:v - s0.nxt∈b:=a;rw[d,Nat.add_sub_cancel_left] at a;rw[d,Nat.add_sub_cancel_left,m];exact (c y (s y q) a).2.1.symm
end
def Tt (P:Program) (w0:World) (J:Hp) (θ:Th) (n0:Nat) (l:List TR) (T:List Ent):Sm where
 fact i vs:= ∀x∈l,x.i=i->Za P w0 J (tz θ n0 vs) n0 x (vs i)
 chunk k vs:=match T[k]? with
  | some e=>toCh P (tz θ n0 vs) e
  | none=>Ch.fr (fun _=>none) []
theorem Jt {n0 t v:Nat} {env:List (Nat×Nat×AV)} : ∀ {ts:List Nat},t∈ts->BV env t=some v->Skel.srcOf t (HS n0 env ts)=some (Vk n0 v)
 | u::ts,h,hv=>by
  unfold HS;by_cases a:u=t
  ·subst a;rw[hv];simp only;unfold Skel.srcOf;rw[if_pos (Nat.beq_refl u)]
  ·have b:t∈ts:=(aG h).resolve_left fun e=>a e.symm;cases c:BV env u with
   | none=>exact Jt b hv
   | some w =>
    simp only;unfold Skel.srcOf;rw[if_neg fun e=>a (au e)];exact Jt b hv
theorem fin_ok {n0 t v:Nat} {f:Option Nat->Value} : ∀ {env:List (Nat×Nat×AV)} {seen:List Nat},t∉seen->BV env t=some v->((PG n0 env seen).map fun q=>(q.1,f q.2)).lookup t=some (f (Vk n0 v))
 | (u,k,x)::l,seen,hs,hv=>by
  unfold PG;unfold BV at hv;split
  ·rename_i a;have a:=po.1 a;have c:u≠t:=fun e=>hs (e ▸ a);rw[if_neg fun e=>c (au e)] at hv;exact fin_ok hs hv
  ·rename_i a;rw[List.map_cons,List.lookup_cons];by_cases b:u=t
   ·subst b;rw[if_pos (Nat.beq_refl u)] at hv;obtain rfl:=ae hv;simp
   ·rw[if_neg fun e=>b (au e)] at hv
    have:(t==u)=false:=by simpa using fun e=>b e.symm
    rw[this];refine fin_ok (fun h=>?_) hv;rcases aG h with h | h
    ·exact b h.symm
    ·exact hs h
section
variable {V:Env} {P:Program} {I:Hp} {w0 w:World} {F:Ch} {J:Hp} {θ:Th} {s0:Sg} {ops:List Oper} {l:List TR} {a:Act}
theorem Le {x:TR} {i:Nat} (h:i∈x.r.av.ids):i∈To x:=bg _ h
theorem Lf {x:TR} {g:Hdr×Chk} {i:Nat} (b:g∈x.r.gives) (h:i∈D5 g.1 g.2):i∈To x:=bj _ (List.mem_flatMap.2 ⟨g,b,h⟩)
theorem Z3 (y:Fine P w0 J θ s0) {n:Nat} (s:AllOk P w0 n s0 ops l) (q:l.length=ops.length) (A:jJ (jC s0.nxt s0.chs l)=true) (D: ∀x∈l,BW s0.nxt x=true) :
  Loc (qk s0 ops l (jC s0.nxt s0.chs l)) (Tt P w0 J θ s0.nxt l (jC s0.nxt s0.chs l)) ops.length:=by
 have agree: ∀x∈l,∀f b:Nat->Value,(∀j,j=x.i\/j∈x.b->b j=f j)-> ∀i∈To x,tz θ s0.nxt b i=tz θ s0.nxt f i:=by
  intro x m f b hv i c
  have:=D x m
  unfold BW at this;rw[ak,tU] at this;have r:=this.1 i c;unfold allowed at r;rw[Bool.or_eq_true,Bool.or_eq_true,Y9,Y8,po] at r;unfold tz;by_cases d:i<s0.nxt
  ·rw[if_pos d,if_pos d]
  ·rw[if_neg d,if_neg d];exact hv _ (r.resolve_left d)
 refine ⟨fun i c f b hv h x m o=>?_,fun k t f b=>?_,fun i c k t f b hv=>?_⟩
 ·subst o;rw[(s.opAt m _).2] at hv;have v:=agree x m f b hv;obtain ⟨r,B,C⟩:=h x m rfl;refine ⟨AV.ok_loc (fun i c=>v i (Le c)) r,?_,fun g z=>XE (fun i c=>v i (Lf z c)) (C g z)⟩;rw[AV.v_loc fun i c=>v i (Le c),B,hv _ (.inl rfl)]
 ·obtain ⟨e,p,rfl⟩:=List.mem_map.1 t;have u:=uZ A (mi.2 (.inl p));show (match _ with | some e=>toCh P (tz θ s0.nxt b) e | none=>_)=match _ with | some e=>toCh P (tz θ s0.nxt f) e | none=>_
  rw[u];simp only;rw[pf pq (y.chs e p),pf pq (y.chs e p)]
 ·obtain ⟨x,m,o,-⟩:=s.at (fun x=>x) i (by rw[q];exact c);subst o;rw[(s.opAt m _).2] at hv;rw[(s.opAt m _).1] at t;obtain ⟨e,p,rfl⟩:=List.mem_map.1 t;have u:=uZ A (mi.2 (.inr ⟨x,m,p⟩));show (match _ with | some e=>toCh P (tz θ s0.nxt b) e | none=>_)=match _ with | some e=>toCh P (tz θ s0.nxt f) e | none=>_
  rw[u];simp only;exact Tm fun i c=>agree x m f b hv i (Lf (kL p).2 c)
theorem XJ (hf:Fine P w0 J θ s0) {n:Nat} (K:AllOk P w0 n s0 ops l) (hlen:l.length=ops.length) (hB:nS s0.chs=true) (hK:jJ (jC s0.nxt s0.chs l)=true) (hc: ∀x∈l,BW s0.nxt x=true)
  (hok:(qk s0 ops l (jC s0.nxt s0.chs l)).ok n (knS s0) ops=true) (hkn: ∀t,knS s0 t=true->((envL θ s0).lookup t).isSome=true) (hlt: ∀x∈l,∀j∈x.b,j<x.i) :
  ∀i o,ops[i]? =some o->(qk s0 ops l (jC s0.nxt s0.chs l)).goal (Tt P w0 J θ s0.nxt l (jC s0.nxt s0.chs l)) P J w0 (envL θ s0) i o:=by
 intro i o ho d p;obtain ⟨x,L,hxi,-⟩:=K.at (fun x=>x) i (by rw[hlen];exact (List.getElem?_eq_some_iff.1 ho).1);subst hxi;obtain ⟨l1,G,h2,h3,h4⟩:=K.get L;obtain rfl:x.o=o:=ae (G.ho.symm.trans ho);obtain ⟨e1,e2⟩:=K.opAt L (jC s0.nxt s0.chs l);have hG:=Skel.good_of_ok hkn hok ho;rw[e2] at p;have f: ∀y∈l,y.i∈x.b->Za P w0 J (tz θ s0.nxt d) s0.nxt y (d y.i):=fun y z R=>p y.i R y z rfl;have q:=(words hB hK hf K hc hlt x.b (fun y z R k T=>K.closed hlt x L y z R k T) f x L fun k T=>T).1;have Q:x.s.nxt=s0.nxt+x.i:=by rw[G.hs];rfl
 have hw:Mc x.o d=some x.run:=by
  have m:=G.gd;unfold GdOk at m;unfold Mc;cases B:x.o.guard with
  | none=>rw[B] at m;simp only at m⊢;rw[m]
  | some gw =>
   obtain ⟨g,want⟩:=gw;rw[B] at m;simp only at m⊢;obtain ⟨y,z,hyg,r⟩:=m;obtain ⟨t,k1,k2⟩:=hG.guard g want B;have hgb:g∈x.b:=by
    have ht:t∈slotsOf ops.toArray x.o:=by
     unfold slotsOf Oper.looksAt;refine bj _ ?_;rw[B];simp only;rw[k1];simp
    rcases hG.slots t ht with ⟨E,-,-⟩ | ⟨j,E,-,q3,-⟩
    ·rw[k2] at E;cases E
    ·rw[k2] at E;obtain rfl:g=j:=by simpa using E
     rwa [e2] at q3
   subst hyg;have hv:=(f y (h3 y z) hgb).2.1;rcases r with ⟨c,r,U⟩ | ⟨r,U⟩
   ·rw[r] at hv;rw[<-hv,U];rfl
   ·rw[r] at hv;rw[<-hv,U];rfl
 rw[hw];have A: ∀v,tz θ s0.nxt (upd d x.i v)=upd (tz θ s0.nxt d) (s0.nxt+x.i) v:=fun v=>Ts;have O: ∀D:Nat->Value,∀e∈jC s0.nxt s0.chs l,(Tt P w0 J θ s0.nxt l (jC s0.nxt s0.chs l)).chunk (numOf e (jC s0.nxt s0.chs l)) D=toCh P (tz θ s0.nxt D) e:=by
  intro D e H;show (match _ with | some e=>toCh P (tz θ s0.nxt D) e | none=>_)=_;rw[uZ hK H]
 cases U:x.run with
 | false =>
  have N:=G.skip U;refine ⟨fun y z S=>?_,by rw[e1];show (x.r.ns.map _)= [];rw[N];rfl,by rw[e1];show (mg _ x).map _= [];unfold mg;rw[N];rfl⟩;obtain rfl:=K.uniq y z x L S;refine ⟨?_,?_,fun g hg=>?_⟩
  ·rw[N];trivial
  ·rw[N,iG];rfl
  ·rw[N] at hg;cases hg
 | true =>
  obtain ⟨W,T⟩:=G.good U;have base:=W.op J _ q;have hin: ∀e,e∈x.r.rs++x.r.ns->e∈jC s0.nxt s0.chs l/\e∈x.s.chs:=by
   intro e H;have M:e∈x.s.chs:=W.perm.mem_iff.2 (bg _ H);refine ⟨?_,M⟩;rw[G.hs] at M;rcases mi.1 (zp M).1 with h | ⟨y,z,h⟩
   ·exact mi.2 (.inl h)
   ·exact mi.2 (.inr ⟨y,h3 y z,h⟩)
  have hev: ∀u∈x.o.op.operands,(qk s0 ops l (jC s0.nxt s0.chs l)).ev (envL θ s0) x.i d u=evL (envL (tz θ s0.nxt d) x.s) u:=by
   intro u hu;cases u with
   | tmp t =>
    unfold okO at T;rw[ak,ak] at T;have hx1:=List.all_eq_true.1 T.1.1 (.tmp t) (by simpa using hu);simp only[Bool.or_false] at hx1;obtain ⟨av,s⟩:=Option.isSome_iff_exists.1 hx1;have s:look x.s.env t=some av:=s;rw[aI (x:=.tmp t) s];obtain ⟨v,hv,hm⟩:=u7 s;have ht:t∈slotsOf ops.toArray x.o:=by
     unfold slotsOf Oper.looksAt;exact bg _ (List.mem_filterMap.2 ⟨.tmp t,by simpa using hu,rfl⟩)
    have X:Skel.srcOf t ((qk s0 ops l (jC s0.nxt s0.chs l)).op x.i).src=some (Vk s0.nxt v):=by
     rw[e1];exact Jt ht hv
    have hval:=Z2 (L1:=l1) (b:=x.b) (i:=x.i) hf h3 f (t:=t) (v:=v) (av:=av) (by rw[<-G.hs];exact s) (by rw[<-G.hs];exact hv);rw[<-hval];show (match Skel.srcOf t _ with | some (some j)=>d j | _=>_)=_;rw[X];cases Vk s0.nxt v <;> rfl
   | _=>rfl
  have Z:((((qk s0 ops l (jC s0.nxt s0.chs l)).op x.i).reads++((qk s0 ops l (jC s0.nxt s0.chs l)).op x.i).needs).map ((Tt P w0 J θ s0.nxt l (jC s0.nxt s0.chs l)).chunk · d))=(x.r.rs++x.r.ns).map (toCh P (tz θ s0.nxt d)):=by
   rw[e1];show ((x.r.rs.map _)++(x.r.ns.map _)).map _=_;rw[<-aX,List.map_map];exact List.map_congr_left fun e H=>O d e (hin e H).1
  intro wd C N;have Y:=N;rw[Z] at Y;have hb:=base wd C Y;have hsel:noSelect x.o=true:=hG.sel;rw[<-rT hsel hev] at hb;refine hb.imp fun v w' hv=>⟨fun y z S=>?_,?_⟩
  ·obtain rfl:=K.uniq y z x L S;rw[A,iG];obtain ⟨E,q2,q3⟩:=hv.1;rw[Q] at E q2 q3;exact ⟨E,q2,q3⟩
  ·have hst:=hv.2;rw[Q] at hst;have hgv:((((qk s0 ops l (jC s0.nxt s0.chs l)).op x.i).reads++((qk s0 ops l (jC s0.nxt s0.chs l)).op x.i).gives).map ((Tt P w0 J θ s0.nxt l (jC s0.nxt s0.chs l)).chunk · (upd d x.i v)))=x.r.rs.map (toCh P (tz θ s0.nxt d))++x.r.gives.map fun g=>toCh P (upd (tz θ s0.nxt d) (s0.nxt+x.i) v) (g.1,s0.nxt+x.i,g.2):=by
    rw[e1];show ((x.r.rs.map _)++((mg s0.nxt x).map _)).map _=_;rw[aX,List.map_map,List.map_map];congr 1
    ·refine List.map_congr_left fun e H=>?_;show (Tt P w0 J θ s0.nxt l (jC s0.nxt s0.chs l)).chunk (numOf e _) (upd d x.i v)=_;obtain ⟨m1,m2⟩:=hin e (bg _ H);rw[O _ e m1,A]
     have:=q.chs e m2
     rw[Q] at this;exact pf Same.upd this
    ·unfold mg;rw[List.map_map];refine List.map_congr_left fun g hg=>?_;show (Tt P w0 J θ s0.nxt l (jC s0.nxt s0.chs l)).chunk (numOf (g.1,s0.nxt+x.i,g.2) _) (upd d x.i v)=_;rw[O _ _ (mi.2 (.inr ⟨x,L,List.mem_map.2 ⟨g,hg,rfl⟩⟩)),A]
   exact Eq.mp (congrArg (fun cs=>St J w0 w' (cs++C)) hgv.symm) hst
theorem PK {Y:Type} {id:Nat} {k:Sg->Option Y} {res:Y} {Q:Exit->Act->World->Prop} (hT:TTok P V.tt) (hF:FTok P V.ft) (hm:P.follows .mixedOrders=true) (h:Lb V ops k s0=some res) (B:Sim P I w0 F V.n J θ s0 a w)
  (K: ∀s' θ' a' w',k s'=some res->Sim P I w0 F V.n J θ' s' a' w'->Fr s0 θ s' θ'->Q .normal a' w'):(Code.region id ops.toArray true).wp P Q a w:=by
 unfold Lb at h;obtain ⟨l,h,p,o⟩:=PF (w0:=w0) hT hF h rfl rfl trivial;obtain ⟨R,h⟩:=ai h;unfold Vm at R;simp only[ak,List.all_eq_true] at R;obtain ⟨hB,T,hc,O,X⟩:=R;have L:=B.fine;have N: ∀t,knS s0 t=true->((envL θ s0).lookup t).isSome=true:=by
  intro t ht;obtain ⟨av,hav⟩:=Option.isSome_iff_exists.1 ht;rw[show (envL θ s0).lookup t=_ from iT hav];rfl
 have z: ∀x∈l,∀j∈x.b,j<x.i:=by
  intro x U j hj;obtain ⟨l1,h1,-⟩:=p.get U;have hG:=Skel.good_of_ok N O h1.ho
  have:=hG.bef j (by rw[(p.opAt U _).2];exact hj)
  exact this.1
 refine Tl (C:=[F]) (qk s0 ops l (jC s0.nxt s0.chs l)) (Tt P w0 J θ s0.nxt l (jC s0.nxt s0.chs l)) N (Z3 L p o T hc) hm B.agr B.st ?_ O X (XJ L p o hB T hc O N z) ?_
 ·refine (List.Perm.of_eq ?_);congr 1;show _=(s0.chs.map _).map _;rw[List.map_map];refine List.map_congr_left fun e E=>?_;show _=match _ with | some e=>toCh P (tz θ s0.nxt fun _=>undef) e | none=>_
  rw[uZ T (mi.2 (.inl E))];exact (pf pq (L.chs e E)).symm
 ·intro n a' w' A hA hst;have m: ∀y∈l,Za P w0 J (tz θ s0.nxt n) s0.nxt y (n y.i):=fun y d=>A y.i (by rw[<-o];exact p.lt y d) y d rfl;have W:=words hB T L p hc z (List.range l.length) (fun y d _ k S=>List.mem_range.2 (Nat.lt_trans (z y d k S) (p.lt y d))) (fun y d _=>m y d);have g: ∀x∈l,_:=fun x U=>W x U fun k S=>List.mem_range.2 (Nat.lt_trans (z x U k S) (p.lt x U));have G:Fine P w0 J (tz θ s0.nxt n) (Tn s0 l):=Ld hB T L p hc l (fun y d=>d) (List.range l.length) l.length (fun j hj=>List.mem_range.1 hj) (fun y d _=>m y d) (fun y d _=>(g y d).2.1) (fun y d _=>(g y d).2.2) (Vp L p);refine K (Tn s0 l) (tz θ s0.nxt n) a' w' h ⟨B.le,hA.sub fun t v hv=>?_,?_,G⟩ (Fr.rfl.trans ⟨Nat.le_add_right _ _,pq,fun e E hv=>?_,fun e E h' u c hs=>?_⟩)
  ·
   cases hl:look (Tn s0 l).env t with
   | none =>
    exfalso
    have: ∀ {env:List (Nat×Nat×AV)} {θ:Th},look env t=none->(env.map fun e=>(e.1,e.2.2.v θ)).lookup t=none:=by
     intro env θ;induction env with
     | nil=>intro _;rfl
     | cons e env ih =>
      intro hh;unfold look at hh;split at hh
      ·cases hh
      ·rename_i hu;rw[List.map_cons,List.lookup_cons];have hne:(t==e.1)=false:=by
        simp only[beq_eq_false_iff_ne];intro e';subst e';exact hu (Nat.beq_refl _)
       rw[show (t==(e.1,AV.v θ e.2.2).1)=false from hne];exact ih hh
    rw[show (envL (tz θ s0.nxt n) (Tn s0 l)).lookup t=none from this hl] at hv;cases hv
   | some av =>
    have hv2:=iT (θ:=tz θ s0.nxt n) hl;obtain rfl:=ae (hv2.symm.trans hv);obtain ⟨u,D,-⟩:=u7 hl;have Z:=Z2 (L1:=l) (b:=List.range l.length) (i:=l.length) L (fun y d=>d) (fun y d _=>m y d) (t:=t) (v:=u) (av:=av) hl D
    have:=fin_ok (n0:=s0.nxt) (seen:=[]) (f:=fun s=>match s with | some j=>n j | none=>((envL θ s0).lookup t).getD undef) (by simp) D
    have key: ∀M:List (Nat×Option Nat),(M.map fun q=>(q.1,match q.2 with | some j=>n j | none=>((envL θ s0).lookup q.1).getD undef)).lookup t=(M.map fun q=>(q.1,(fun s=>match s with | some j=>n j | none=>((envL θ s0).lookup t).getD undef) q.2)).lookup t:=by
     intro M;induction M with
     | nil=>rfl
     | cons q M ih =>
      rw[List.map_cons,List.map_cons,List.lookup_cons,List.lookup_cons];by_cases e:t=q.1
      ·subst e;simp
      ·rw[show (t==q.1)=false from by simpa using e];exact ih
    exact (key _).trans (this.trans (congrArg some Z))
  ·have e:((Tn s0 l).chs.map (numOf · (jC s0.nxt s0.chs l))).map ((Tt P w0 J θ s0.nxt l (jC s0.nxt s0.chs l)).chunk · n)=(Tn s0 l).chs.map (toCh P (tz θ s0.nxt n)):=by
    rw[List.map_map];refine List.map_congr_left fun e E=>?_;show (match _ with | some e=>toCh P (tz θ s0.nxt n) e | none=>_)=_;rw[uZ T (zp E).1]
   rw[<-e];exact hst
  ·obtain ⟨r,h6⟩:=FD E;rcases wJ r with r | ⟨y,d,k1,k2,k3⟩
   ·exact r
   ·omega
  ·obtain ⟨r,h6⟩:=zp E;have H:NB s0 l h' u c:=by
    rcases mi.1 r with r | ⟨y,d,r⟩
    ·exact .inl ⟨e,r,hs⟩
    ·exact (g y d).2.1 e r h' u c hs
   rcases H with ⟨e0,he0,S⟩ | ⟨y,d,S⟩
   ·exact .inr ⟨e0,he0,S⟩
   ·have:=(kL S).1
    exact .inl (by simp only at this;omega)
theorem MW {hs:List Hdr} : ∀ {s:Sg} {J:Hp},Sim P I w0 F V.n J θ s a w-> ∃J',J.le J'/\Sim P I w0 F V.n J' θ (FC hs s) a w/\Fr s θ (FC hs s) θ:=by
 induction hs with
 | nil=>exact fun b=>⟨_,Hp.le.rfl,b,Fr.rfl⟩
 | cons h hs ih =>
  intro s J b;have i: ∃J',J.le J'/\Sim P I w0 F V.n J' θ (zm h s) a w/\Fr s θ (zm h s) θ:=by
   unfold zm;split
   ·exact HE ‹_› b
   ·exact ⟨J,Hp.le.rfl,b,Fr.rfl⟩
  obtain ⟨m,c,k,e⟩:=i;obtain ⟨g,d,j,f⟩:=ih k;exact ⟨g,c.trans d,j,e.trans f⟩
theorem PL {s:Sg} (b:Sim P I w0 F V.n J θ s a w): ∃J',J.le J'/\Sim P I w0 F V.n J' θ (xQ ops s) a w/\Fr s θ (xQ ops s) θ:=by
 unfold xQ;split
 ·exact MW b
 ·exact ⟨J,Hp.le.rfl,b,Fr.rfl⟩
theorem Tu {tr:Trs} {s:Sg} (k:Sim P I w0 F V.n J θ s a w): ∃b θ',J.le b/\Sim P I w0 F V.n b θ' (Tp tr ops s) a w/\Fr s θ (Tp tr ops s) θ':=by
 obtain ⟨θ1,i,g⟩:=AY k;obtain ⟨o,c,m,f⟩:=PL (ops:=ops) i;obtain ⟨e,d⟩:=uW (hs:=BX (xQ ops (tw s)) ops) m;have d:=(g.trans f).trans d
 show∃b θ',J.le b/\Sim P I w0 F V.n b θ' (Lc tr ops (xM (BX (xQ ops (tw s)) ops) (xQ ops (tw s)))) a w/\Fr s θ (Lc tr ops (xM (BX (xQ ops (tw s)) ops) (xQ ops (tw s)))) θ'
 unfold Lc;split
 ·exact ⟨o,θ1,c,e,d⟩
 ·obtain ⟨b,θ',j,h,n⟩:=wI e;exact ⟨b,θ',c.trans j,h,d.trans n⟩
theorem Tv {Y:Type} {id:Nat} {k:Sg->Option Y} {res:Y} {Q:Exit->Act->World->Prop} (i:TTok P V.tt) (r:FTok P V.ft) (p:P.follows .mixedOrders=true) {s:Sg} (h:XH V ops k s=some res) (o:Sim P I w0 F V.n J θ s a w)
  (K: ∀b J' θ' c d,k b=some res->Sim P I w0 F V.n J' θ' b c d->J.le J'->Fr s θ b θ'->Q .normal c d):(Code.region id ops.toArray true).wp P Q a w:=by
 obtain ⟨n,θ1,j,m,g⟩:=Tu (tr:=V.tr) (ops:=ops) o;exact PK i r p (show Lb V ops k (Tp V.tr ops s)=some res from h) m fun b θ' c d q e f=>K b n θ' c d q e j (g.trans f)
end
inductive Ann
 | no
 | two (a b:Ann)
 | loop (sh:List It) (a:Ann)
 | join (sh:List It) (a b:Ann)
 | joinX (sh:List It) (a b:Ann)
 | at (sh:List It) (a:Ann)
 | atX (sh:List It) (a:Ann)
def Ann.t (a:Ann):Ann:=.two .no a
def Ann.l:Ann->Ann
 | .two a _=>a
 | _=>.no
def Ann.r:Ann->Ann
 | .two _ b=>b
 | _=>.no
def HV:Code->List Nat
 | .region _ ops _=>ops.toList.filterMap (·.dst)
 | .seq a b=>HV a++HV b
 | .cond _ a b=>HV a++HV b
 | .block _ a=>HV a
 | .loop a=>HV a
 | .scope a=>HV a
 | _=>[]
def PN:List It->List Nat
 | [] =>[]
 | .slot t _::is=>t::PN is
 | _::is=>PN is
def Dj (c:Code) (is:List It):List Nat:=HV c++PN is
def Z4 {Y:Type} (i:Nat) (kb:Sg->Option Y) (kx:Nat->Sg->Option Y):Nat->Sg->Option Y:=fun j s=>if Nat.beq j i then kb s else kx j s
def Z5 (V:Env) {R Y:Type} (c:Code) (n:Ann) (kr:R->Option Y) (kx:Nat->Sg->Option Y) (kn:Sg->Option Y) (s:Sg) (run:(Z:Type)->Ann->(R->Option Z)->(Nat->Sg->Option Z)->(Sg->Option Z)->Sg->Option Z):Option Y:=match n with
 | .at sh n=>(BR (Dj c sh) sh s).bind fun q=>Option.bind (run (Vg (tx q.its)) n (fun _=>none) (fun _ _=>none) (fun s'=>(q.of s').bind fun d=>some (ofN _ d)) s) fun d=>kn (q.at (toN _ d))
 | .atX sh n=>(BR (Dj c sh) sh s).bind fun q=>fO (run (Y ⊕ Vg (tx q.its)) n (fun r=>(kr r).bind fun t=>some (.inl t)) (fun i s'=>(kx i s').bind fun t=>some (.inl t)) (fun s'=>(q.of s').bind fun d=>some (.inr (ofN _ d))) s) fun d=>kn (q.at (toN _ d))
 | n=>run Y n kr kx kn s
noncomputable def lQ (V:Env) {R:Type} (rt:Sg->Option R):(c:Code)-> {Y:Type} ->Ann->(R->Option Y)->(Nat->Sg->Option Y)->(Sg->Option Y)->Sg->Option Y
 | .skip,_,_,kr,kx,kn,s=>kn s
 | .ret,_,_,kr,kx,kn,s=>(rt s).bind kr
 | .region id ops dr,_,n,kr,kx,kn,s=>Z5 V (.region id ops dr) n kr kx kn s fun Z n kr kx kn s=>match dr with
  | false=>HF V ops.toList (fun s=>kn (Ve s)) ops.toList s
  | true=>XH V ops.toList (fun s=>kn (Ve s)) s
 | .seq a b,Y,n,kr,kx,kn,s=>match n with
  | .join sh n1 n2=>(BR (Dj a sh) sh s).bind fun q=>Option.bind (lQ V rt a n1 (Y:=Vg (tx q.its)) (fun _=>none) (fun _ _=>none) (fun s'=>(q.of s').bind fun d=>some (ofN _ d)) s) fun d=>lQ V rt b n2 kr kx kn (q.at (toN _ d))
  | .joinX sh n1 n2=>(BR (Dj a sh) sh s).bind fun q=>fO (lQ V rt a n1 (Y:=Y ⊕ Vg (tx q.its)) (fun r=>(kr r).bind fun t=>some (.inl t)) (fun i s'=>(kx i s').bind fun t=>some (.inl t)) (fun s'=>(q.of s').bind fun d=>some (.inr (ofN _ d))) s) fun d=>lQ V rt b n2 kr kx kn (q.at (toN _ d))
  | n=>lQ V rt a n.l kr kx (fun s'=>lQ V rt b n.r kr kx kn s') s
 | .cond c a b,_,n,kr,kx,kn,s=>Z5 V (.cond c a b) n kr kx kn s fun Z n kr kx kn s=>(opd s c).bind fun v=>onB v (lQ V rt a n.l kr kx kn s) (lQ V rt b n.r kr kx kn s)
 | .block i (.loop c),_,n,kr,kx,kn,s=>Z5 V (.block i (.loop c)) n kr kx kn s fun Z n kr kx kn s=>match n with
  | .loop sh n=>(BR (Dj c sh) sh s).bind fun q=>(q.of s).bind fun d0 =>
    aO (ah (fun d=>lQ V rt c n (Y:=Out R (Vg (tx q.its))) (fun r=>some (.ret r)) (Z4 i (fun s'=>(q.of s').bind fun d=>some (.brk (ofN _ d))) fun _ _=>none) (fun s'=>(q.of s').bind fun d=>some (.nxt (ofN _ d))) (q.at (toN _ d))) aU (ofN _ d0)) kr (fun d=>kn (q.at (toN _ d)))
  | _=>none
 | .block i c,_,n,kr,kx,kn,s=>Z5 V (.block i c) n kr kx kn s fun Z n kr kx kn s=>lQ V rt c n kr (Z4 i kn kx) kn s
 | .exit i,_,_,kr,kx,kn,s=>kx i s
 | _,_,_,_,_,_,_=>none
section
variable {V:Env} {P:Program} {I:Hp} {w0:World} {F:Ch} {R:Type} {rt:Sg->Option R}
def IOk (V : Env) (P : Program) (I : Hp) (w0 : World) (F : Ch) {R : Type} (rt : Sg -> Option R) (c : Code) : Prop := ∀ {Y : Type} (n : Ann) {kr : R -> Option Y} {kx : Nat -> Sg -> Option Y} {kn : Sg -> Option Y} {s : Sg} {y : Y} {Q : Exit -> Act -> World -> Prop} {J : Hp} {θ : Th} {a : Act} {w : World},
    lQ V rt c n kr kx kn s = some y -> Sim P I w0 F V.n J θ s a w ->
    (∀ J' θ' s' a' w', kn s' = some y -> Sim P I w0 F V.n J' θ' s' a' w' -> J.le J' -> Fr s θ s' θ' -> Q .normal a' w') ->
    (∀ i J' θ' s' a' w', kx i s' = some y -> Sim P I w0 F V.n J' θ' s' a' w' -> J.le J' -> Fr s θ s' θ' -> Q (.exit i) a' w') ->
    (∀ r J' θ' s' a' w', rt s' = some r -> kr r = some y -> Sim P I w0 F V.n J' θ' s' a' w' -> J.le J' -> Fr s θ s' θ' -> Q .ret a' w') -> c.wp P Q a w
def ROk (V : Env) (P : Program) (I : Hp) (w0 : World) (F : Ch) {R : Type} (rt : Sg -> Option R) (c : Code) (run : (Z : Type) -> Ann -> (R -> Option Z) -> (Nat -> Sg -> Option Z) -> (Sg -> Option Z) -> Sg -> Option Z) : Prop := ∀ {Y : Type} (n : Ann) {kr : R -> Option Y} {kx : Nat -> Sg -> Option Y} {kn : Sg -> Option Y} {s : Sg} {y : Y} {Q : Exit -> Act -> World -> Prop} {J : Hp} {θ : Th} {a : Act} {w : World},
    run Y n kr kx kn s = some y -> Sim P I w0 F V.n J θ s a w ->
    (∀ J' θ' s' a' w', kn s' = some y -> Sim P I w0 F V.n J' θ' s' a' w' -> J.le J' -> Fr s θ s' θ' -> Q .normal a' w') ->
    (∀ i J' θ' s' a' w', kx i s' = some y -> Sim P I w0 F V.n J' θ' s' a' w' -> J.le J' -> Fr s θ s' θ' -> Q (.exit i) a' w') ->
    (∀ r J' θ' s' a' w', rt s' = some r -> kr r = some y -> Sim P I w0 F V.n J' θ' s' a' w' -> J.le J' -> Fr s θ s' θ' -> Q .ret a' w') -> c.wp P Q a w
theorem FE {c:Code} {run:(Z:Type)->Ann->(R->Option Z)->(Nat->Sg->Option Z)->(Sg->Option Z)->Sg->Option Z} (M:ROk V P I w0 F rt c run) {Y:Type} (n:Ann) {N:R->Option Y} {K:Nat->Sg->Option Y} {C:Sg->Option Y} {s:Sg} {y:Y} {Q:Exit->Act->World->Prop} {J:Hp} {θ:Th} {a:Act} {w:World}
  (h:Z5 V c n N K C s run=some y) (x:Sim P I w0 F V.n J θ s a w)
  (A: ∀k θ' f j l,C f=some y->Sim P I w0 F V.n k θ' f j l->J.le k->Fr s θ f θ'->Q .normal j l)
  (U: ∀i k θ' f j l,K i f=some y->Sim P I w0 F V.n k θ' f j l->J.le k->Fr s θ f θ'->Q (.exit i) j l)
  (S: ∀r k θ' f j l,rt f=some r->N r=some y->Sim P I w0 F V.n k θ' f j l->J.le k->Fr s θ f θ'->Q .ret j l):c.wp P Q a w:=by
 have plain: ∀n,run Y n N K C s=some y->c.wp P Q a w:=fun n h=>M n h x A U S;cases n with
 | «at» v n =>
  obtain ⟨q,H,h⟩:=bind_some (show (BR (Dj c v) v s).bind _=some y from h);obtain ⟨d,E,m⟩:=bind_some h;have G:=xO H x.fine;refine M n E x (fun k θ' f j l p b u g=>?_) (fun i k θ' f j l p b u g=>by cases p) (fun r k θ' f j l T D b u g=>by cases D);obtain ⟨W,O,p⟩:=bind_some p;obtain rfl:=ae p;obtain ⟨θ2,z,L⟩:=cut_ok G b g u O;rw[qP] at m;exact A k θ2 _ j l m z u L
 | atX v n =>
  obtain ⟨q,H,h⟩:=bind_some (show (BR (Dj c v) v s).bind _=some y from h);obtain ⟨o,E,m⟩:=DM h;have G:=xO H x.fine;refine M n E x (fun k θ' f j l p b u g=>?_) (fun i k θ' f j l p b u g=>?_) (fun r k θ' f j l T D b u g=>?_)
  ·obtain ⟨W,O,p⟩:=bind_some p;obtain rfl:=ae p;obtain ⟨θ2,z,L⟩:=cut_ok G b g u O;rcases m with ⟨d,e,m⟩ | m
   ·obtain rfl:=Sum.inr.inj e;rw[qP] at m;exact A k θ2 _ j l m z u L
   ·cases m
  ·obtain ⟨t,B,p⟩:=bind_some p;obtain rfl:=ae p;rcases m with ⟨d,e,m⟩ | m
   ·cases e
   ·obtain rfl:=Sum.inl.inj m;exact U i k θ' f j l B b u g
  ·obtain ⟨t,B,p⟩:=bind_some D;obtain rfl:=ae p;rcases m with ⟨d,e,m⟩ | m
   ·cases e
   ·obtain rfl:=Sum.inl.inj m;exact S r k θ' f j l T B b u g
 | no=>exact plain _ h
 | two _ _=>exact plain _ h
 | loop _ _=>exact plain _ h
 | join _ _ _=>exact plain _ h
 | joinX _ _ _=>exact plain _ h
theorem wK (hT:TTok P V.tt) (hF:FTok P V.ft) (hm:P.follows .mixedOrders=true): ∀c:Code,IOk V P I w0 F rt c/\ ∀c',c= .loop c'->IOk V P I w0 F rt c':=by
 intro c;induction c with
 | skip =>
  refine ⟨?_,fun c' e=>(by cases e)⟩;intro Y n M O L s y Q J θ a w h p D G E;exact wp_skip (D J θ s a w h p Hp.le.rfl Fr.rfl)
 | ret =>
  refine ⟨?_,fun c' e=>(by cases e)⟩;intro Y n M O L s y Q J θ a w h p D G E;obtain ⟨r,h1,K⟩:=bind_some (show (rt s).bind M=some y from h);exact wp_ret (E r J θ s a w h1 K p Hp.le.rfl Fr.rfl)
 | exit i =>
  refine ⟨?_,fun c' e=>(by cases e)⟩;intro Y n M O L s y Q J θ a w h p D G E;exact wp_exit (G i J θ s a w h p Hp.le.rfl Fr.rfl)
 | region id ops dr =>
  refine ⟨?_,fun c' e=>(by cases e)⟩;intro Y n M O L s y Q J θ a w h p D G E;refine FE (fun {Y} n {M O L s y Q J θ a w} h p D G E=>?_) n h p D G E;cases dr with
  | true =>
   have h:XH V ops.toList (fun s=>L (Ve s)) s=some y:=h
   have:=Tv (id:=id) hT hF hm h p fun A u θ' B C k g m f=>by
    obtain ⟨θ2,N,H⟩:=Pp g;exact D u θ2 (Ve A) B C k N m (f.trans H)
   rwa [Array.toArray_toList] at this
  | false =>
   have h:HF V ops.toList (fun s=>L (Ve s)) ops.toList s=some y:=h;exact wp_region_lit (l:=ops.toList) (HH hT hF h p fun A u θ' B C k g m f=>by
    obtain ⟨θ2,N,H⟩:=Pp g;exact D u θ2 (Ve A) B C k N m (f.trans H))
 | cond c x y ihx ihy =>
  refine ⟨?_,fun c' e=>(by cases e)⟩;intro Y n M O L s r Q J θ a w h p D G E;refine FE (fun {Y} n {M O L s r Q J θ a w} h p D G E=>?_) n h p D G E;obtain ⟨v,hv',h⟩:=bind_some (show (opd s c).bind _=some r from h);obtain ⟨b,hb,h⟩:=UQ h;have k:NF (envL θ s) c=true:=by
   cases c with
   | tmp t =>
    have:=iT (θ:=θ) (show look s.env t=some v from hv')
    show ((envL θ s).lookup t).isSome=true;rw[show (envL θ s).lookup t=_ from this];rfl
   | _=>rfl
  have hev:evL (envL θ s) c= .bool b:=(aI hv').trans (hb θ);cases b with
  | true=>exact RQ p.agr k hev rfl (ihx.1 n.l h p D G E)
  | false=>exact NM p.agr k hev rfl (ihy.1 n.r h p D G E)
 | seq x z ihx ihz =>
  refine ⟨?_,fun c' e=>(by cases e)⟩;intro Y n M O L s y Q J θ a w h p D G E;have plain:lQ V rt x n.l M O (fun A=>lQ V rt z n.r M O L A) s=some y->(Code.seq x z).wp P Q a w:=fun h =>
   wp_seq (ihx.1 n.l h p (fun u θ' A B C k g m f=>ihz.1 n.r k g (fun J2 θ2 s2 a2 w2 k2 N L2 H=>D J2 θ2 s2 a2 w2 k2 N (m.trans L2) (f.trans H)) (fun i J2 θ2 s2 a2 w2 k2 N L2 H=>G i J2 θ2 s2 a2 w2 k2 N (m.trans L2) (f.trans H)) (fun r J2 θ2 s2 a2 w2 T S N L2 H=>E r J2 θ2 s2 a2 w2 T S N (m.trans L2) (f.trans H)))
    (fun i u θ' A B C k g m f=>Wk (G i u θ' A B C k g m f)) (fun r u θ' A B C T S g m f=>Wl (E r u θ' A B C T S g m f)))
  cases n with
  | join sh n1 n2 =>
   obtain ⟨q,hq,h⟩:=bind_some (show (BR (Dj x sh) sh s).bind _=some y from h);obtain ⟨d,h1,K⟩:=bind_some h;have hC:=xO hq p.fine;refine wp_seq (ihx.1 n1 h1 p (fun u θ' A B C k g m f=>?_) (fun i u θ' A B C k g m f=>by cases k) (fun r u θ' A B C T S g m f=>by cases S));obtain ⟨d',hd,k⟩:=bind_some k;obtain rfl:=ae k;obtain ⟨θ2,N,H⟩:=cut_ok hC g f m hd;rw[qP] at K;exact ihz.1 n2 K N (fun J3 θ3 s3 a3 w3 k3 X L3 W=>D J3 θ3 s3 a3 w3 k3 X (m.trans L3) (H.trans W)) (fun i J3 θ3 s3 a3 w3 k3 X L3 W=>G i J3 θ3 s3 a3 w3 k3 X (m.trans L3) (H.trans W)) (fun r J3 θ3 s3 a3 w3 T S X L3 W=>E r J3 θ3 s3 a3 w3 T S X (m.trans L3) (H.trans W))
  | joinX sh n1 n2 =>
   obtain ⟨q,hq,h⟩:=bind_some (show (BR (Dj x sh) sh s).bind _=some y from h);obtain ⟨o,h1,K⟩:=DM h;have hC:=xO hq p.fine;refine wp_seq (ihx.1 n1 h1 p (fun u θ' A B C k g m f=>?_) (fun i u θ' A B C k g m f=>?_) (fun r u θ' A B C T S g m f=>?_))
   ·obtain ⟨d',hd,k⟩:=bind_some k;obtain rfl:=ae k;obtain ⟨θ2,N,H⟩:=cut_ok hC g f m hd;rcases K with ⟨d,e,K⟩ | K
    ·obtain rfl:=Sum.inr.inj e;rw[qP] at K;exact ihz.1 n2 K N (fun J3 θ3 s3 a3 w3 k3 X L3 W=>D J3 θ3 s3 a3 w3 k3 X (m.trans L3) (H.trans W)) (fun i J3 θ3 s3 a3 w3 k3 X L3 W=>G i J3 θ3 s3 a3 w3 k3 X (m.trans L3) (H.trans W)) (fun r J3 θ3 s3 a3 w3 T S X L3 W=>E r J3 θ3 s3 a3 w3 T S X (m.trans L3) (H.trans W))
    ·cases K
   ·obtain ⟨t,ht,k⟩:=bind_some k;obtain rfl:=ae k;rcases K with ⟨d,e,K⟩ | K
    ·cases e
    ·obtain rfl:=Sum.inl.inj K;exact Wk (G i u θ' A B C ht g m f)
   ·obtain ⟨t,ht,k⟩:=bind_some S;obtain rfl:=ae k;rcases K with ⟨d,e,K⟩ | K
    ·cases e
    ·obtain rfl:=Sum.inl.inj K;exact Wl (E r u θ' A B C T ht g m f)
  | no=>exact plain h
  | two _ _=>exact plain h
  | loop _ _=>exact plain h
  | «at» _ _=>exact plain h
  | atX _ _=>exact plain h
 | block i x ih =>
  refine ⟨?_,fun c' e=>(by cases e)⟩;intro Y n M O L s y Q J θ a w h p D G E;have plain:ROk V P I w0 F rt (.block i x) (fun Z n M O L s=>lQ V rt x n M (Z4 i L O) L s):=fun {Y} n {M O L s y Q J θ a w} h p D G E =>
   wp_block (ih.1 n h p (fun u θ' A B C k g m f=>adH (D u θ' A B C k g m f))
    (fun j u θ' A B C k g m f=>by
     unfold Z4 at k;split at k
     ·rename_i hj
      have:j=i:=au hj
      subst this;exact Zm (D u θ' A B C k g m f)
     ·rename_i hj;exact Zn (fun e=>hj (by rw[e];exact Nat.beq_refl i)) (G j u θ' A B C k g m f))
    (fun r u θ' A B C T S g m f=>ac4 (E r u θ' A B C T S g m f)))
  cases x with
  | loop x =>
   clear plain;refine FE (fun {Y} n {M O L s y Q J θ a w} h p D G E=>?_) n h p D G E;cases n with
   | loop sh n =>
    obtain ⟨q,hq,h⟩:=bind_some (show (BR (Dj x sh) sh s).bind _=some y from h);obtain ⟨d0,hd0,h⟩:=bind_some h;obtain ⟨o,ho,hc⟩:=Mf h;have hC:=xO hq p.fine;have hx:IOk V P I w0 F rt x:=ih.2 x rfl;refine wp_block (RR (fun d a w=> ∃u θ',J.le u/\Sim P I w0 F V.n u θ' (q.at (toN _ d)) a w/\Fr s θ (q.at (toN _ d)) θ') ho ?_ ?_)
    ·obtain ⟨θ1,S1,F1⟩:=cut_ok hC p Fr.rfl Hp.le.rfl hd0;exact ⟨J,θ1,Hp.le.rfl,by rw[qP];exact S1,by rw[qP];exact F1⟩
    ·rintro d o' hf hlast a w ⟨J1,θ1,L1,S1,F1⟩;refine hx n hf S1 (fun u θ' A B C k g m f=>?_) (fun j u θ' A B C k g m f=>?_) (fun r u θ' A B C T S g m f=>?_)
     ·obtain ⟨d',hd,k⟩:=bind_some k;obtain rfl:=ae k;obtain ⟨θ2,N,H⟩:=cut_ok hC g (F1.trans f) (L1.trans m) hd;exact nrm ⟨_,rfl,u,θ2,L1.trans m,by rw[qP];exact N,by rw[qP];exact H⟩
     ·unfold Z4 at k;split at k
      ·rename_i hj
       have:j=i:=au hj
       subst this;obtain ⟨d',hd,k⟩:=bind_some k;obtain rfl:=ae k;have U:=hlast (by simp);obtain ⟨θ2,N,H⟩:=cut_ok hC g (F1.trans f) (L1.trans m) hd;rcases hc with ⟨d2,e,hc⟩ | ⟨r,e,hc⟩
       ·obtain rfl:=Out.brk.inj (U.trans e);rw[qP] at hc;exact Wk (Zm (D u θ2 _ B C hc N (L1.trans m) H))
       ·cases U.trans e
      ·cases k
     ·obtain rfl:=ae S;have U:=hlast (by simp);rcases hc with ⟨d2,e,hc⟩ | ⟨r',e,hc⟩
      ·cases U.trans e
      ·obtain rfl:=Out.ret.inj (U.trans e);exact Wl (ac4 (E r u θ' A B C T hc g (L1.trans m) (F1.trans f)))
   | _=>cases h
  | _=>exact FE plain n h p D G E
 | loop x ih =>
  refine ⟨?_,fun c' e=>?_⟩
  ·intro Y n M O L s y Q J θ a w h p D G E;cases h
  ·cases e;exact ih.1
 | _ =>
  refine ⟨?_,fun c' e=>(by cases e)⟩;intro Y n M O L s y Q J θ a w h p D G E;cases h
end
def PO (i:Nat):(p:PM)->p.den->AV
 | .rd t,d=>N3 i t d
 | .ow t,d=>Om (me i [] t d)
 | .fn a b,d=>.one (.fn ⟨i,[]⟩ a b d)
 | .cap T t,d=>.one (.fz ⟨i,[]⟩ T t d 0)
 | .capf T a b,d=>.one (.fzf ⟨i,[]⟩ T a b d)
 | .ptr _ _,_=>.one (.ptr ⟨i,[]⟩ 0)
 | .eat t,d=>Om (me i [] t d)
 | .fk g,_=>.one (.val (.func (.func g) #[] #[]))
 | .crs _ _,_=>.one (.ptr ⟨i,[]⟩ 0)
 | .kb _ _ _,_=>.one (.own ⟨i,[]⟩)
 | .kc _,_=>.one (.own ⟨i,[]⟩)
def Lg (q i:Nat):(p:PM)->p.den->List (Hdr×Chk)
 | .ow t,d=>mX i [] t d
 | .ptr T t,d=>[(⟨i,[]⟩,.box T t d)]
 | .eat t,d=>mX i [] t d
 | .crs T E,d=>[(⟨i,[]⟩,.blk T [.rd ⟨q,[]⟩ (.sl E (.int .u8)) d.1,.val (.int .i64 d.2.1),.val (.int .i64 d.2.2)])]
 | .kb g T t,d=>[(⟨i,[]⟩,.clo g [] [.ptr ⟨q,[]⟩ 0]),(⟨q,[]⟩,.box T t d)]
 | .kc g,_=>[(⟨i,[]⟩,.clo g [] [.ptr ⟨q,[]⟩ 0])]
 | _,_=>[]
def Lh:(i:Nat)->(ps:List PM)->denP ps->List (Nat×Nat×AV)
 | _,[],_=>[]
 | i,p::ps,d=>(i,i,PO i p d.1)::Lh (i+1) ps d.2
def HW (q:Nat):(i:Nat)->(ps:List PM)->denP ps->List Ent
 | _,[],_=>[]
 | i,p::ps,d=>(Lg q i p d.1).map (fun g=>(g.1,i,g.2))++HW q (i+1) ps d.2
def BY (ps:List PM) (d:denP ps):Sg:=⟨Lh 0 ps d,HW ps.length 0 ps d,ps.length+1⟩
def adm (P:Program) (w0:World) (J:Hp) (θ:Th) (n i:Nat):(p:PM)->Value->p.den->Prop
 | .ow t,v,d=>(me i [] t d).2.map (·.v θ)=lO t.isProd v/\ ∀x∈(me i [] t d).2,x.ok P w0 J θ n
 | .ptr _ _,v,_=>hv θ ⟨i,[]⟩=v/\i<n
 | .crs _ _,v,_=>hv θ ⟨i,[]⟩=v/\i<n
 | _,_,_=>True
def StF (P:Program) (w0:World) (J:Hp) (θ:Th) (n:Nat):(i:Nat)->(ps:List PM)->List Value->denP ps->Prop
 | i,p::ps,v::vs,d=>adm P w0 J θ n i p v d.1/\StF P w0 J θ n (i+1) ps vs d.2
 | _,_,_,_=>True
section
variable {P:Program} {w0 w:World} {J:Hp} {θ:Th} {n:Nat} {C:List Ch}
theorem Ad {id:Nat} {pre:List Nat} {t:Ty} {d:t.den} : ∀g∈mX id pre t d,Sf g.2:=jI t d 0
theorem PP {p:PM} {i:Nat} {v:Value} {d:p.den} {ps:List PM} {vs:List Value} {e:denP ps} {γ:Value} {q:Nat} (hi:i<n) (F:q<n) (o:θ q=γ) (j:θ i=v) (h:ab3 P w0 J γ p v d) (l:St J w0 w (owCh γ (p::ps) (v::vs) (d,e)++C)) :
  (∀chs,(PO i p d).ok P w0 J θ n chs)/\(PO i p d).v θ=v/\St J w0 w ((Lg q i p d).map (fun g=>toCh P θ (g.1,i,g.2))++(owCh γ ps vs e++C))/\(∀g∈Lg q i p d,∀chs,okE P w0 J θ n chs (g.1,i,g.2))/\adm P w0 J θ n i p v d:=by
 cases p with
 | rd t =>
  obtain ⟨Q,A,s⟩:=h;have r:=fun chs=>rf (P:=P) (w0:=w0) (J:=J) (chs:=chs) hi j t d Q s A;exact ⟨fun chs=>(r chs).1,(r []).2,l,fun g c=>(by cases c),trivial⟩
 | fn a b =>
  have f:hv θ ⟨i,[]⟩=v:=j;exact ⟨fun chs=>⟨hi,by rw[f];exact h⟩,f,l,fun g c=>(by cases c),trivial⟩
 | cap T t =>
  obtain ⟨b,rfl,cells,A,s⟩:=h;have f:hv θ ⟨i,[]⟩= .pointer (some ⟨b,0,none⟩):=j;refine ⟨fun chs=>⟨hi,cells,by rw[f];exact A,s⟩,?_,l,fun g c=>(by cases c),trivial⟩;show Value.pointer (some ⟨bk (hv θ ⟨i,[]⟩),0,none⟩)=_;rw[f];rfl
 | capf T x y =>
  obtain ⟨b,rfl,u,A,s⟩:=h;have f:hv θ ⟨i,[]⟩= .pointer (some ⟨b,0,none⟩):=j;refine ⟨fun chs=>⟨hi,u,by rw[f];exact A,s⟩,?_,l,fun g c=>(by cases c),trivial⟩;show Value.pointer (some ⟨bk (hv θ ⟨i,[]⟩),0,none⟩)=_;rw[f];rfl
 | ptr T t =>
  obtain ⟨b,rfl⟩:=h;have f:hv θ ⟨i,[]⟩= .pointer (some ⟨b,0,none⟩):=j;refine ⟨fun chs=>hi,?_,?_,fun g c chs=>by obtain rfl:=al c;exact tM trivial hi hi,f,hi⟩
  ·show Value.pointer (some ⟨bk (hv θ ⟨i,[]⟩),0,none⟩)=_;rw[f];rfl
  ·show St J w0 w (Ch.box (bk (hv θ ⟨i,[]⟩)) T t.rep d::_);rw[f];exact l
 | ow t =>
  have l:St J w0 w (Ch.own t.rep (lO t.isProd v) d::(owCh γ ps vs e++C)):=l;obtain ⟨D,O,K,G,M⟩:=xD (P:=P) (m:=i) (pre:=[]) (id:=i) (n:=n) hi (show hv θ ⟨i,[]⟩=v from j) h l;have q:=fun chs=>Fa (P:=P) (w0:=w0) (J:=J) (θ:=θ) (n:=n) (chs:=chs) (me i [] t d) (fun e=>tK e) D;exact ⟨fun chs=>(q chs).1,(q []).2.trans K,M,fun g c chs=>tM (Ad g c) (by rw[G g c];exact hi) hi,O,D⟩
 | eat t =>
  have l:St J w0 w (Ch.own t.rep (lO t.isProd v) d::(owCh γ ps vs e++C)):=l;obtain ⟨D,O,K,G,M⟩:=xD (P:=P) (m:=i) (pre:=[]) (id:=i) (n:=n) hi (show hv θ ⟨i,[]⟩=v from j) h l;have q:=fun chs=>Fa (P:=P) (w0:=w0) (J:=J) (θ:=θ) (n:=n) (chs:=chs) (me i [] t d) (fun e=>tK e) D;exact ⟨fun chs=>(q chs).1,(q []).2.trans K,M,fun g c chs=>tM (Ad g c) (by rw[G g c];exact hi) hi,trivial⟩
 | fk g =>
  obtain rfl:=h;exact ⟨fun chs=>rfl,rfl,l,fun g c=>(by cases c),trivial⟩
 | crs T E =>
  obtain ⟨⟨b,rfl⟩,H⟩:=h;have f:hv θ ⟨i,[]⟩= .pointer (some ⟨b,0,none⟩):=j;have k:hv θ ⟨q,[]⟩=γ:=o;refine ⟨fun chs=>hi,?_,?_,fun g c chs=>?_,f,hi⟩
  ·show Value.pointer (some ⟨bk (hv θ ⟨i,[]⟩),0,none⟩)=_;rw[f];rfl
  ·show St J w0 w (Ch.blk (bk (hv θ ⟨i,[]⟩)) [hv θ ⟨q,[]⟩,.int .i64 d.2.1,.int .i64 d.2.2] T::_);rw[f,k];exact l
  ·obtain rfl:=al c;refine ⟨hi,hi,fun z B=>?_⟩;rcases aG B with rfl | B
   ·exact ⟨F,by rw[k];exact H⟩
   ·rcases aG B with rfl | B
    ·exact Eq.refl true
    ·obtain rfl:=al B;exact Eq.refl true
 | kb g T t =>
  obtain ⟨rfl,b,L⟩:=h;have f:hv θ ⟨i,[]⟩= .func (.func g) #[] #[γ]:=j;have k:hv θ ⟨q,[]⟩=γ:=o;have hp:Value.pointer (some ⟨bk (hv θ ⟨q,[]⟩),0,none⟩)=γ:=by rw[k,L];rfl
  refine ⟨fun chs=>⟨hi,by rw[f];rfl⟩,f,?_,fun R c chs=>?_,trivial⟩
  ·show St J w0 w (Ch.emp::Ch.box (bk (hv θ ⟨q,[]⟩)) T t.rep d::_);rw[k];exact St.emp.2 l
  ·rcases aG c with rfl | c
   ·refine ⟨hi,hi,fun y I=>(by cases I),fun x N=>?_,?_⟩
    ·obtain rfl:=al N;exact F
    ·show hv θ ⟨i,[]⟩= .func (.func g) #[] #[Value.pointer (some ⟨bk (hv θ ⟨q,[]⟩),0,none⟩)];rw[f,hp]
   ·obtain rfl:=al c;exact tM trivial F hi
 | kc g =>
  obtain ⟨rfl,b,L⟩:=h;have f:hv θ ⟨i,[]⟩= .func (.func g) #[] #[γ]:=j;have k:hv θ ⟨q,[]⟩=γ:=o;have hp:Value.pointer (some ⟨bk (hv θ ⟨q,[]⟩),0,none⟩)=γ:=by rw[k,L];rfl
  refine ⟨fun chs=>⟨hi,by rw[f];rfl⟩,f,?_,fun R c chs=>?_,trivial⟩
  ·show St J w0 w (Ch.emp::_);exact St.emp.2 l
  ·obtain rfl:=al c;refine ⟨hi,hi,fun y I=>(by cases I),fun x N=>?_,?_⟩
   ·obtain rfl:=al N;exact F
   ·show hv θ ⟨i,[]⟩= .func (.func g) #[] #[Value.pointer (some ⟨bk (hv θ ⟨q,[]⟩),0,none⟩)];rw[f,hp]
theorem Li {γ:Value} {q:Nat} (o:q<n) (k:θ q=γ): ∀ {ps:List PM} {i:Nat} {vs:List Value} {d:denP ps} {C:List Ch},PArgs P w0 J γ ps vs d->(∀j v,vs[j]? =some v->θ (i+j)=v)->i+ps.length<=n->St J w0 w (owCh γ ps vs d++C)->
  (∀e∈Lh i ps d,(∀f,e.2.2.ok P w0 J θ n f)/\i<=e.1/\e.2.1=e.1/\e.1<i+ps.length/\vs[e.1 - i]? =some (e.2.2.v θ))/\((Lh i ps d).Pairwise fun a b=>a.2.1≠b.2.1)/\St J w0 w ((HW q i ps d).map (toCh P θ)++C)/\(∀e∈HW q i ps d,∀f,okE P w0 J θ n f e)/\StF P w0 J θ n i ps vs d
 | [],i,vs,d,C,h,_,_,hS=>by
  have h:vs= []:=h;subst h;exact ⟨fun e c=>(by cases c),List.Pairwise.nil,hS,fun e c=>(by cases c),trivial⟩
 | p::ps,i,vs,d,C,h,hθ,hn,hS=>by
  obtain ⟨v,r,rfl,F,H⟩:=h;rw[aq] at hn;obtain ⟨x,y,L,s,t⟩:=PP (n:=n) (i:=i) (θ:=θ) (e:=d.2) (show i<n by omega) o k (hθ 0 v rfl) F hS;obtain ⟨l,A,E,D,K⟩:=Li o k (i:=i+1) H (fun j u G=>by
   have:=hθ (j+1) u G
   rwa [show i+(j+1)=i+1+j from by omega] at this) (by omega) (L.perm (List.perm_append_comm_assoc _ _ _))
  refine ⟨fun e c=>?_,List.pairwise_cons.2 ⟨fun e c m=>?_,A⟩,?_,fun e c f=>?_,t,K⟩
  ·rcases aG c with rfl | c
   ·exact ⟨x,aH _,rfl,by rw[aq];show i<_;omega,by show (v::r)[i - i]? =_;rw[Nat.sub_self,y];rfl⟩
   ·obtain ⟨z,N,I,O,M⟩:=l e c;refine ⟨z,by omega,I,by rw[aq];omega,?_⟩;rw[show e.1 - i=(e.1 - (i+1))+1 from by omega];exact M
  ·have:=l e c
   have m:i=e.2.1:=m;omega
  ·show St J w0 w (((Lg q i p d.1).map _++HW q (i+1) ps d.2).map (toCh P θ)++C);rw[aX,List.map_map];refine E.perm ?_;rw[aC];exact List.perm_append_comm_assoc _ _ _
  ·rcases aE c with c | c
   ·obtain ⟨g,B,rfl⟩:=List.mem_map.1 c;exact s g B f
   ·exact D e c f
theorem HY {γ:Value} : ∀ {ps:List PM} {vs:List Value} {d:denP ps},PArgs P w0 J γ ps vs d->vs.length=ps.length
 | [],vs,d,h=>by
  have h:vs= []:=h;subst h;rfl
 | p::ps,vs,d,h=>by
  obtain ⟨v,r,rfl,b,a⟩:=h;simpa using HY a
end
def XK (tt:TT) (s:Sg):ResultVar->Option AV
 | .tmp t=>look s.env t
 | .cell p T=>(RG (look s.env p)).bind fun h=>(td tt T).bind fun d=>(rW h s.chs).bind fun b=>b8 (Nat.beq b.cells.length d.n) (ab1 d.agg b.cells)
theorem XL {v:Option AV} {h:Hdr} (k:RG v=some h):v=some (.one (.ptr h 0)):=by
 unfold RG at k;split at k
 ·rename_i b off;split at k
  ·rename_i a;rw[au a,ae k]
  ·cases k
 ·cases k
section
variable {P:Program} {I:Hp} {w0 w:World} {F:Ch} {J:Hp} {θ:Th} {n:Nat} {s:Sg} {a:Act} {tt:TT}
theorem XM (c:Agr n a (envL θ s)) {t g:Nat} {T E:TypeId} {v:Value} {cs:List Ch} (h:(envL θ s).lookup t=some (.pointer (some ⟨g,0,none⟩))) (hs:St J w0 w cs) (i:Nat) (hi:cs[i]? =some (Ch.blk g [v] E)) (b:TI P T false 1):IM P a w (.cell t T) v:=by
 refine ⟨_,c.2.2 t _ h,?_⟩;have e:=hs.heap i hi;have d:w.cell? ⟨g,0,none⟩=some v:=by simp[World.cell?,e]
 simp[loadVar,Sem.run_bind,b.run_agg,load,Sem.run,d,Result.andThen]
theorem Tw (u:TTok P tt) (g:Sim P I w0 F n J θ s a w) {r:ResultVar} {v:AV} (h:XK tt s r=some v):IM P a w r (v.v θ)/\v.ok P w0 J θ s.nxt s.chs:=by
 cases r with
 | tmp t=>exact ⟨Wj g.agr (iT h),b7 (x:=.tmp t) g.fine h⟩
 | cell p T =>
  obtain ⟨f,B,h⟩:=bind_some (show (RG (look s.env p)).bind _=some v from h);obtain ⟨d,y,h⟩:=bind_some h;obtain ⟨b,C,h⟩:=bind_some h;obtain ⟨o,h⟩:=ai h;have o:=au o;have hp:=ld C;have q:=g.fine.chs _ (hp.mem_iff.2 (List.mem_cons_self ..));obtain ⟨A,i⟩:=Og (chs:=s.chs) h q.2.2;refine ⟨?_,A⟩;have l:(envL θ s).lookup p=some (.pointer (some ⟨bk (hv θ f),0,none⟩)):=iT (XL B);have j:=g.st.perm ((hp.map (toCh P θ)).append_right [F]);have c:=(u.get y).ti;cases e:d.agg with
  | true =>
   rw[e] at i c;rw[<-i];exact RP g.agr l j 0 rfl c (by rw[List.length_map];exact o)
  | false =>
   rw[e] at i c h;have m:d.n=1:=by
    have:=(u.get y).one
    rw[e] at this;simpa using this
   obtain ⟨x,z⟩:=List.length_eq_one_iff.1 (o.trans m);rw[m] at c;rw[z] at i;rw[<-i];have k:St J w0 w (Ch.blk (bk (hv θ f)) [x.v θ] b.T::(b.rest.map (toCh P θ)++ [F])):=by
    have:(toCh P θ (b.ent f))=Ch.blk (bk (hv θ f)) (b.cells.map (·.v θ)) b.T:=rfl
    rw[z] at this;rw[<-show toCh P θ (b.ent f)=Ch.blk (bk (hv θ f)) [x.v θ] b.T from this];exact j
   exact XM g.agr l k 0 rfl c
end
def Ju:(ts:List Ty)->List AV->List Ent->Option (kK ts×List Ent×List Ent)
 | [],[],chs=>some ((),[],chs)
 | t::ts,v::vs,chs=>b8 (ph v==t.isProd) ((mc v).bind fun cs=>(eO t cs chs).bind fun q=>b8 q.cells.isEmpty ((Ju ts vs q.rest).bind fun r=>some ((q.d,r.1),q.used++r.2.1,r.2.2)))
 | _,_,_=>none
def zq:(ts:List Ty)->List Value->kK ts->List Ch
 | t::ts,v::vs,d=>Ch.own t.rep (lO t.isProd v) d.1::zq ts vs d.2
 | _,_,_=>[]
theorem D7 {P:Program} {w0:World} {J:Hp} {θ:Th} {n:Nat} {chs0:List Ent} : ∀ {ts:List Ty} {vs:List AV} {chs:List Ent} {r:kK ts×List Ent×List Ent},Ju ts vs chs=some r->(∀v∈vs,v.ok P w0 J θ n chs0)->
  chs.Perm (r.2.1++r.2.2)/\vs.length=ts.length/\rb J (r.2.1.map (toCh P θ)) (zq ts (vs.map (·.v θ)) r.1)/\ ∀(i:Nat) t v,ts[i]? =some t->vs[i]? =some v->re (v.v θ)=t.isProd
 | [],[],chs,r,h,_=>by
  obtain rfl:=ae (show some _=some r from h);exact ⟨List.Perm.refl _,rfl,xw,fun i t v d=>by simp at d⟩
 | t::ts,v::vs,chs,r,h,hv'=>by
  obtain ⟨e,h⟩:=ai (show b8 (ph v==t.isProd) _=some r from h);have e:ph v=t.isProd:=by simpa using e
  obtain ⟨f,b,h⟩:=bind_some h;obtain ⟨q,C,h⟩:=bind_some h;obtain ⟨A,h⟩:=ai h;obtain ⟨m,D,h⟩:=bind_some h;obtain rfl:=ae h;obtain ⟨s,G⟩:=ko b (hv' v (by simp));obtain ⟨p,H,g,E⟩:=lF (J:=J) (θ:=θ) C s;rw[List.isEmpty_iff.1 A,List.append_nil] at g;subst g;obtain ⟨y,o,B,w⟩:=D7 D fun x F=>hv' x (by simp[F]);have a:lO t.isProd (v.v θ)=f.map (·.v θ)/\re (v.v θ)=t.isProd:=by
   rw[<-e];cases v with
   | agg z =>
    obtain rfl:=ae (show some z=some f from b);exact ⟨rfl,rfl⟩
   | one x =>
    obtain rfl:=ae (show some [x] =some f from b);refine ⟨rfl,?_⟩;have l:(x.v θ).oneCell'=true:=LV.one (show LV.ok P w0 J θ n x from hv' (.one x) (by simp));show re (x.v θ)=false;generalize x.v θ=u at l;cases u <;> first | rfl | cases l
   | _=>cases b
  refine ⟨by rw[aC];exact p.trans (y.append_left _),by rw[aq,aq,o],?_,fun i j k d c=>?_⟩
  ·show rb J ((q.used++m.2.1).map _) (Ch.own t.rep (lO t.isProd (v.v θ)) q.d::zq ts (vs.map _) m.1);rw[aX,a.1];exact tI E B
  ·cases i with
   | zero =>
    obtain rfl:t=j:=by simpa using d
    obtain rfl:v=k:=by simpa using c
    exact a.2
   | succ i=>exact w i j k (by simpa using d) (by simpa using c)
 | [],_::_,chs,r,h,_=>by cases h
 | _::_,[],chs,r,h,_=>by cases h
def abE:List Value->Value
 | [v] =>v
 | vs=>.tuple vs.toArray
def Lj (P:Program) (a:Act) (w:World):List ResultVar->List Value->Prop
 | [],vs=>vs= []
 | r::rs,vs=> ∃v us,vs=v::us/\IM P a w r v/\Lj P a w rs us
theorem Ae {P:Program} {a:Act} {w:World} {f:ResultVar->Sem Value} (b: ∀r v,IM P a w r v->(f r).run P w= .ok v w): ∀ {l:List ResultVar} {vs:List Value},Lj P a w l vs->(l.mapM f).run P w= .ok vs w
 | [],vs,h=>by
  have h:vs= []:=h;subst h;rw[List.mapM_nil];rfl
 | r::l,vs,h=>by
  obtain ⟨v,e,rfl,d,c⟩:=h;rw[List.mapM_cons,Sem.run_bind,b r v d];simp only[Result.andThen_ok,Sem.run_bind,Ae b c]
  rfl
def abF (a:Act) (r:ResultVar):Sem Value:=match r with
 | .tmp t=>pure (a.tmps.getD t undef)
 | .cell p t=>do loadVar t (<-asAddr (a.tmps.getD p undef))
theorem XN {P:Program} {a:Act} {w:World} {r:ResultVar} {v:Value} (h:IM P a w r v):(abF a r).run P w= .ok v w:=by
 cases r with
 | tmp t =>
  have h:a.tmps.getD t undef=v:=h;show (pure (a.tmps.getD t undef):Sem Value).run P w=_;rw[h];rfl
 | cell p T =>
  obtain ⟨A,c,b⟩:=h;show ((asAddr (a.tmps.getD p undef)) >>=fun x=>loadVar T x).run P w=_;rw[c,Sem.run_bind];show Result.andThen (.ok A w) _=_;rw[Result.andThen_ok];exact b
theorem Z6 {P:Program} {n:Nat} {a:Act} {w:World} {L:List (Nat×Value)} {fn:Func} {R:Ending->World->Prop} {vs:List Value} (d:Agr n a L) (h:Lj P a w fn.results.toList vs) (c:R (.returned (abE vs)) w):bodyPost P fn R .ret a w:=by
 refine ⟨d.1,abE vs,?_,c⟩;have b:((fn.results.mapM (abF a)):Sem (Array Value)).run P w= .ok vs.toArray w:=by
  rw[Array.mapM_eq_mapM_toList]
  have:=Ae (f:=abF a) (fun r v=>XN) h
  simp[this,Sem.run_map]
 show ((fn.results.mapM (abF a)) >>=fun vs=>pure (if h:vs.size=1 then vs[0] else .tuple vs):Sem Value).run P w=_;rw[Sem.run_bind,b,Result.andThen_ok]
 match vs with
 | [] =>rfl
 | [v] =>rfl
 | _::_::_=>rfl
def eQ (g0:Nat):(i:Nat)->(ps:List PM)->denP ps->List Ent->Option (kK (outs ps)×List Ent×List Ent)
 | _,[],_,chs=>some ((),[],chs)
 | i,.ow t::ps,d,chs=>(eO t (me i [] t d.1).2 chs).bind fun q=>b8 q.cells.isEmpty ((eQ g0 (i+1) ps d.2 q.rest).bind fun r=>some ((q.d,r.1),q.used++r.2.1,r.2.2))
 | i,.ptr T t::ps,d,chs=>(tL ⟨i,[]⟩ T t chs).bind fun q=>(eQ g0 (i+1) ps d.2 q.2.2).bind fun r=>some ((q.1,r.1),q.2.1++r.2.1,r.2.2)
 | i,.rd _::ps,d,chs=>eQ g0 (i+1) ps d.2 chs
 | i,.fn _ _::ps,d,chs=>eQ g0 (i+1) ps d.2 chs
 | i,.eat _::ps,d,chs=>eQ g0 (i+1) ps d.2 chs
 | i,.cap _ _::ps,d,chs=>eQ g0 (i+1) ps d.2 chs
 | i,.capf _ _ _::ps,d,chs=>eQ g0 (i+1) ps d.2 chs
 | i,.fk _::ps,d,chs=>eQ g0 (i+1) ps d.2 chs
 | i,.kc _::ps,d,chs=>eQ g0 (i+1) ps d.2 chs
 | i,.kb _ T t::ps,d,chs=>(tL ⟨g0,[]⟩ T t chs).bind fun q=>(eQ g0 (i+1) ps d.2 q.2.2).bind fun r=>some ((q.1,r.1),q.2.1++r.2.1,r.2.2)
 | i,.crs T E::ps,d,chs=>(wG ⟨i,[]⟩ T E chs).bind fun q=>b8 (Hdr.beq q.g ⟨g0,[]⟩) ((eQ g0 (i+1) ps d.2 q.rest).bind fun r=>some ((q.d.2,r.1),q.ent::r.2.1,r.2.2))
theorem eT {P:Program} {w0:World} {J J':Hp} {θ θ':Th} {n n':Nat} {chs0:List Ent} (f:J.le J') (hs:Same n θ θ') {γ:Value} {c:Nat} (a:c<n) (b:θ c=γ): ∀ {ps:List PM} {i:Nat} {d:denP ps} {chs:List Ent} {vs:List Value} {r:kK (outs ps)×List Ent×List Ent},eQ c i ps d chs=some r->vs.length=ps.length->StF P w0 J θ n i ps vs d->(∀e∈chs,okE P w0 J' θ' n' chs0 e)->
  chs.Perm (r.2.1++r.2.2)/\rb J' (r.2.1.map (toCh P θ')) (outCh γ ps vs r.1)
 | [],i,d,chs,vs,r,h,_,_,_=>by
  obtain rfl:=ae (show some _=some r from h);exact ⟨List.Perm.refl _,xw⟩
 | p::ps,i,d,chs,[],r,h,hl,_,_=>by cases hl
 | .ow t::ps,i,d,chs,v::vs,r,h,hl,hF,hc=>by
  obtain ⟨q,y,h⟩:=bind_some (show (eO t (me i [] t d.1).2 chs).bind _=some r from h);obtain ⟨g,h⟩:=ai h;obtain ⟨j,z,h⟩:=bind_some h;obtain rfl:=ae h;obtain ⟨⟨B,A⟩,o⟩:=hF;obtain ⟨p,O,H,I⟩:=lF (P:=P) (w0:=w0) (J:=J') (θ:=θ') (n:=n) y fun x N=>LV.ok_same hs (aH _) (A x N) f;rw[List.isEmpty_iff.1 g,List.append_nil] at H;subst H;rw[jb hs A,B] at I;obtain ⟨m,s⟩:=eT f hs a b z (by simpa using hl) o fun e g=>hc e (p.mem_iff.2 (by simp[g]));refine ⟨by rw[aC];exact p.trans (m.append_left _),?_⟩;show rb J' ((q.used++j.2.1).map _) (Ch.own t.rep (lO t.isProd v) q.d::outCh γ ps vs j.1);rw[aX];exact tI I s
 | .ptr T t::ps,i,d,chs,v::vs,r,h,hl,hF,hc=>by
  obtain ⟨q,y,h⟩:=bind_some (show (tL ⟨i,[]⟩ T t chs).bind _=some r from h);obtain ⟨j,z,h⟩:=bind_some h;obtain rfl:=ae h;obtain ⟨⟨B,A⟩,o⟩:=hF;obtain ⟨p,u⟩:=uT (P:=P) (w0:=w0) (J:=J') (J':=J') (θ:=θ') y Hp.le.rfl hc;obtain ⟨m,s⟩:=eT f hs a b z (by simpa using hl) o fun e g=>hc e (p.mem_iff.2 (by simp[g]));refine ⟨by rw[aC];exact p.trans (m.append_left _),?_⟩;show rb J' ((q.2.1++j.2.1).map _) (Ch.box (bk v) T t.rep q.1::outCh γ ps vs j.1);rw[aX];have D:hv θ' ⟨i,[]⟩=v:=(bc hs (show (⟨i,[]⟩:Hdr).id<n from A)).trans B;rw[D] at u;intro w F k;obtain ⟨G,K,rfl,l,C⟩:=k.split;exact ⟨G,K,rfl,u w G l,s w K C⟩
 | .rd t::ps,i,d,chs,v::vs,r,h,hl,hF,hc=>eT (ps:=ps) f hs a b (show eQ c (i+1) ps d.2 chs=some r from h) (by simpa using hl) hF.2 hc
 | .fn _ _::ps,i,d,chs,v::vs,r,h,hl,hF,hc=>eT (ps:=ps) f hs a b (show eQ c (i+1) ps d.2 chs=some r from h) (by simpa using hl) hF.2 hc
 | .eat _::ps,i,d,chs,v::vs,r,h,hl,hF,hc=>eT (ps:=ps) f hs a b (show eQ c (i+1) ps d.2 chs=some r from h) (by simpa using hl) hF.2 hc
 | .cap _ _::ps,i,d,chs,v::vs,r,h,hl,hF,hc=>eT (ps:=ps) f hs a b (show eQ c (i+1) ps d.2 chs=some r from h) (by simpa using hl) hF.2 hc
 | .capf _ _ _::ps,i,d,chs,v::vs,r,h,hl,hF,hc=>eT (ps:=ps) f hs a b (show eQ c (i+1) ps d.2 chs=some r from h) (by simpa using hl) hF.2 hc
 | .kc _::ps,i,d,chs,v::vs,r,h,hl,hF,hc=>eT (ps:=ps) f hs a b (show eQ c (i+1) ps d.2 chs=some r from h) (by simpa using hl) hF.2 hc
 | .kb _ T t::ps,i,d,chs,v::vs,r,h,hl,hF,hc=>by
  obtain ⟨q,y,h⟩:=bind_some (show (tL ⟨c,[]⟩ T t chs).bind _=some r from h);obtain ⟨j,z,h⟩:=bind_some h;obtain rfl:=ae h;obtain ⟨-,o⟩:=hF;obtain ⟨p,u⟩:=uT (P:=P) (w0:=w0) (J:=J') (J':=J') (θ:=θ') y Hp.le.rfl hc;obtain ⟨m,s⟩:=eT f hs a b z (by simpa using hl) o fun e g=>hc e (p.mem_iff.2 (by simp[g]));refine ⟨by rw[aC];exact p.trans (m.append_left _),?_⟩;show rb J' ((q.2.1++j.2.1).map _) (Ch.box (bk γ) T t.rep q.1::outCh γ ps vs j.1);rw[aX];have D:hv θ' ⟨c,[]⟩=γ:=by
   show vg (θ' c) [] =γ;rw[hs c a,b];rfl
  rw[D] at u;intro w F k;obtain ⟨G,K,rfl,l,C⟩:=k.split;exact ⟨G,K,rfl,u w G l,s w K C⟩
 | .fk _::ps,i,d,chs,v::vs,r,h,hl,hF,hc=>eT (ps:=ps) f hs a b (show eQ c (i+1) ps d.2 chs=some r from h) (by simpa using hl) hF.2 hc
 | .crs T E::ps,i,d,chs,v::vs,r,h,hl,hF,hc=>by
  obtain ⟨q,y,h⟩:=bind_some (show (wG ⟨i,[]⟩ T E chs).bind _=some r from h);obtain ⟨u,h⟩:=ai h;obtain ⟨j,z,h⟩:=bind_some h;obtain rfl:=ae h;obtain ⟨⟨B,A⟩,o⟩:=hF;obtain ⟨p,M,g⟩:=o8 y;obtain ⟨m,s⟩:=eT f hs a b z (by simpa using hl) o fun e g=>hc e (p.mem_iff.2 (by simp[g]));refine ⟨p.trans (m.cons _),?_⟩;have D:hv θ' ⟨i,[]⟩=v:=(bc hs (show (⟨i,[]⟩:Hdr).id<n from A)).trans B;have L:hv θ' q.g=γ:=by
   rw[Hdr.beq_eq u];show vg (θ' c) [] =γ;rw[hs c a,b];rfl
  show rb J' (toCh P θ' q.ent::j.2.1.map _) (Ch.blk (bk v) [γ,.int .i64 q.d.2.1,.int .i64 q.d.2.2] T::outCh γ ps vs j.1);rw[g];intro w F k;obtain ⟨G,K,rfl,l,C⟩:=k;have l:(Ch.blk (bk (hv θ' ⟨i,[]⟩)) [hv θ' q.g,.int .i64 q.d.2.1,.int .i64 q.d.2.2] T).holds J' w G:=l;rw[D,L] at l;exact ⟨G,K,rfl,l,s w K C⟩
def ofH:(ts:List Ty)->kK ts->dens ts
 | [],_=>()
 | [_],d=>d.1
 | _::u::ts,d=>(d.1,ofH (u::ts) d.2)
theorem Jv: ∀(ts:List Ty) (d:kK ts),toH ts (ofH ts d)=d
 | [],_=>rfl
 | [_],_=>rfl
 | _::u::ts,d=>congrArg (Prod.mk d.1) (Jv (u::ts) d.2)
def tV:(ts us:List Ty)->kK ts->kK us->kK (ts++us)
 | [],_,_,e=>e
 | _::ts,us,d,e=>(d.1,tV ts us d.2 e)
theorem FF: ∀(ts us:List Ty) (d:kK ts) (e:kK us),hFst ts us (tV ts us d e)=d
 | [],_,_,_=>rfl
 | _::ts,us,d,e=>congrArg (Prod.mk d.1) (FF ts us d.2 e)
theorem Lk: ∀(ts us:List Ty) (d:kK ts) (e:kK us),hSnd ts us (tV ts us d e)=e
 | [],_,_,_=>rfl
 | _::ts,us,d,e=>Lk ts us d.2 e
def BZ (tt:TT) (s:Sg):List ResultVar->Option (List AV)
 | [] =>some []
 | r::rs=>(XK tt s r).bind fun v=>(BZ tt s rs).bind fun vs=>some (v::vs)
def Jw (s:Sg):List AV->List Hdr
 | [] =>[]
 | v::vs=>BP v++Jw s vs
def A6:List Ent->List Hdr
 | [] =>[]
 | e::l=>match e.2.2 with
  | .hole _ _ _ _ _ _ _ _ _ _=>e.1::A6 l
  | _=>A6 l
def Z7:List AV->List (Bool×Hdr)
 | [] =>[]
 | v::vs=>adi true v++Z7 vs
def HZ (tr:Trs) (vs:List AV) (s:Sg):Sg:=match tr with
 | [] =>s
 | _=>SA (Pw tr) (Z7 vs) s
def Tx (tr:Trs) (vs:List AV) (s0:Sg):Sg:=match HZ tr vs s0 with
 | s=>xM (Jw s0 vs++A6 s.chs) s
def nlN:List AV->(ts:List Ty)->kK ts->Int
 | [.one (.own _)],[.sl _ t],d=>((List.length (α:=t.den) d.1:Nat):Int)
 | [.one (.val v)],[.sl _ _],_=>match isNil v with
  | true=>1
  | false=>0
 | _,_,_=>0
def Z8 (an:List (Nat×Ty)) (vs:List AV) (ts:List Ty) (d:kK ts):Option Unit:=match D2 1000000 an with
 | true=>chk (0<nlN vs ts d)
 | false=>some ()
theorem Z9 {vs:List AV} {ts:List Ty} {d:kK ts} {θ:Th} (h:0<nlN vs ts d) {v:Value} (hv:vs.map (·.v θ)= [v]):zX ts d v:=by
 unfold nlN at h;split at h
 ·intro b;omega
 ·split at h
  ·rename_i a;intro _
   have:=oM a
   subst this;simpa [AV.v,LV.v] using hv.symm
  ·omega
 ·omega
def PQ (V:Env) (rvs:List ResultVar) (rs:List Ty) (ps:List PM) (d:denP ps) (s00:Sg):Option (dens (rs++outs ps)):=(BZ V.tt s00 rvs).bind fun vs00=>SI vs00 s00 fun s0=>(BZ V.tt s0 rvs).bind fun vs0=>match Tx V.tr vs0 s0 with
 | s=>(BZ V.tt s rvs).bind fun vs=>(Ju rs vs s.chs).bind fun r=>(eQ ps.length 0 ps d r.2.2).bind fun o=>(Z8 V.an vs rs r.1).bind fun _=>some (ofH _ (tV rs (outs ps) r.1 o.1))
theorem D8 {vs:List Value} : ∀ {ts:List Ty} {i:Nat} {us:List Value} {d:kK ts},us.length=ts.length->(∀j v,us[j]? =some v->vs[i+j]? =some v)->yY i ts d (.tuple vs.toArray)=zq ts us d
 | [],i,us,d,h,_=>by
  rfl
 | t::ts,i,[],d,h,_=>by cases h
 | t::ts,i,u::us,d,h,k=>by
  have a:vg (.tuple vs.toArray) [i] =u:=by
   show vs.toArray.getD i undef=u
   have:=k 0 u rfl
   rw[Nat.add_zero] at this;simp[Array.getD_eq_getD_getElem?,this]
  show Ch.own t.rep (lO t.isProd (vg (.tuple vs.toArray) [i])) d.1::yY (i+1) ts d.2 _=Ch.own t.rep (lO t.isProd u) d.1::zq ts us d.2;rw[a,D8 (us:=us) (by grind) fun j v b=>by
   have:=k (j+1) v (by grind)
   grind]
theorem MX {ts:List Ty} {vs:List Value} {d:kK ts} (h:vs.length=ts.length):resGv ts d (abE vs)=zq ts vs d:=by
 match ts,vs,d,h with
 | [],[],d,_=>rfl
 | [t],[v],d,_=>rfl
 | t::u::ts,v::w::vs,d,h =>
  show yY 0 _ d (.tuple (v::w::vs).toArray)=_;grind[D8]
theorem Tz {ts:List Ty} {vs:List Value} (h:vs.length=ts.length) (k: ∀(i:Nat) t v,ts[i]? =some t->vs[i]? =some v->re v=t.isProd):resFa ts (abE vs):=by
 match ts,vs,h with
 | [],[],_=>exact ⟨#[],rfl,rfl,fun i t b=>by grind⟩
 | [t],[v],_=>exact k 0 t v rfl rfl
 | t::u::ts,v::w::vs,h =>
  refine ⟨(v::w::vs).toArray,rfl,by omega,fun i c b=>?_⟩;have a:i<(v::w::vs).length:=by rw[h];exact (List.getElem?_eq_some_iff.1 b).1
  have:=k i c ((v::w::vs)[i]) b (List.getElem?_eq_getElem a)
  rw[<-this,Array.getD_eq_getD_getElem?,List.getElem?_toArray,List.getElem?_eq_getElem a];rfl
theorem xR {P:Program} {I:Hp} {w0 w:World} {F:Ch} {J:Hp} {θ:Th} {n:Nat} {s:Sg} {a:Act} {tt:TT} (d:TTok P tt) (e:Sim P I w0 F n J θ s a w): ∀ {rs:List ResultVar} {vs:List AV},BZ tt s rs=some vs->Lj P a w rs (vs.map (·.v θ))/\ ∀v∈vs,v.ok P w0 J θ s.nxt s.chs
 | [],vs,h=>by
  cases ae (show some [] =some vs from h);exact ⟨rfl,fun v hv=>by cases hv⟩
 | r::rs,vs,h=>by
  have ⟨v,c,h⟩:=bind_some (show (XK tt s r).bind _=some vs from h);have ⟨i,b,h⟩:=bind_some h;cases ae h;have ⟨g,j⟩:=Tw d e c;have ⟨f,k⟩:=xR d e b;refine ⟨⟨_,_,rfl,g,f⟩,fun x l=>?_⟩;grind
theorem PR {J:Hp} {a b c d:List Ch} (h:rb J a b) (k:rb J c d):rb J (a++c) (b++d):=fun w F g=>by
 obtain ⟨G,K,rfl,f,e⟩:=g.split;exact (h w G f).append (k w K e)
theorem St.sepTo {J:Hp} {w0 w:World} {a b C:List Ch} (h:St J w0 w (a++C)) (k:rb J a b):St J w0 w (b++C):=by
 have ⟨f,e,F,g,j,c⟩:=h;obtain ⟨G,K,rfl,d,i⟩:=g.split;exact ⟨f,e,G++K,(k w G d).append i,j,c⟩
theorem zr {P:Program} {n:Nat} {I:Hp} {w0:World} {k:FuncId} {fn:Func} {c:Code} {args:Array Value} {rn:List Ch} {fact:Value->Prop} {gv:Value->List Ch} (L:List (Nat×Value)) (j:P.funcs[k]? =some fn) (d:fn.body=some c) (x:fn.ntmps=n) (y:args.size<=n) (u: ∀p∈L,args[p.1]? =some p.2)
  (h: ∀F w a,Agr n a L->St I w0 w (rn++ [F])->c.wp P (bodyPost P fn fun e g=> ∃v,e= .returned v/\fact v/\ ∃J,I.le J/\St J w0 g (gv v++ [F])) a w) (s: ∀v,Ch.back (gv v)):Con P k args I w0 rn fact gv:=by
 intro w C b;have f:St I w0 w (rn++ [Ch.fr I C]):=by
  have ⟨d,i,F,q,o,r⟩:=b;obtain ⟨G,K,rfl,l,t⟩:=q.split;exact ⟨d,i,G++K,l.append ⟨K,[],by simp,t,rfl⟩,o,r⟩
 have:=h (Ch.fr I C) w { tmps:=args++Array.replicate (fn.ntmps - args.size) undef,defers:=[] } (Agr.start L (by omega) u) f
 refine (calls_of_wp j d this).mono ?_;rintro e g ⟨v,rfl,hv,J,m,b⟩;exact ⟨v,rfl,hv,b.back m (s v)⟩
theorem TA {P:Program} {I:Hp} {w0 w:World} {F:Ch} {n:Nat} {J:Hp} {θ:Th} {s:Sg} {a:Act} {tr:Trs} {vs:List AV} (h:Sim P I w0 F n J θ s a w): ∃b θ',J.le b/\Sim P I w0 F n b θ' (Tx tr vs s) a w/\Fr s θ (Tx tr vs s) θ':=by
 have key: ∃b θ',J.le b/\Sim P I w0 F n b θ' (HZ tr vs s) a w/\Fr s θ (HZ tr vs s) θ':=by
  unfold HZ;split
  ·grind[Hp.le.rfl,Fr.rfl]
  ·exact wI h
 have ⟨b,θ',e,d,f⟩:=key;have ⟨c,g⟩:=uW (V:=⟨[],[],[],n,[]⟩) (hs:=Jw s vs++A6 (HZ tr vs s).chs) d;exact ⟨b,θ',e,c,f.trans g⟩
theorem Vq {V:Env} {P:Program} {w0:World} {F:Ch} {J:Hp} {θ:Th} (G:TTok P V.tt) {fn:Func} {rs:List Ty} {ps:List PM} {d:denP ps} {vs:List Value} {s0:Sg} (N:vs.length=ps.length) (k5:StF P w0 J θ (ps.length+1) 0 ps vs d) (R:ps.length+1<=s0.nxt) {γ:Value} (C:θ ps.length=γ): ∀r J' θ' p z j,PQ V fn.results.toList rs ps d p=some r->Sim P J w0 F V.n J' θ' p z j->J.le J'->Fr s0 θ p θ'->
  bodyPost P fn (fun e j=> ∃v,e= .returned v/\(resFa rs v/\(D2 1000000 V.an=true->zX rs (hFst rs (outs ps) (toH _ r)) v))/\ ∃J2,J.le J2/\St J2 w0 j ((resGv rs (hFst rs (outs ps) (toH _ r)) v++outCh γ ps vs (hSnd rs (outs ps) (toH _ r)))++ [F])) .ret z j:=by
 intro r J' θ' p z j a f m g;have ⟨L,u,a⟩:=bind_some (show (BZ V.tt p fn.results.toList).bind _=some r from a);have ⟨D,a,H,N0⟩:=KX a (xR G f u).2 f;have ⟨l,T,a⟩:=bind_some a;have ⟨W,θ1,s,h,A⟩:=TA (tr:=V.tr) (vs:=l) H;generalize Tx V.tr l D=K at a h A;have hle:=g.1;have c:Same (ps.length+1) θ θ1:=fun i hi=>(A.same i (by omega)).trans (g.same i (by omega));replace m:=m.trans s;clear s A f H g;revert W θ1;intro J' θ' h c m;have ⟨k,B,a⟩:=bind_some a;have ⟨q,hq,a⟩:=bind_some a;have ⟨o,S,a⟩:=bind_some a;have ⟨u0,b,a⟩:=bind_some a;cases ae a;have ⟨Q,r2⟩:=xR G h B;have ⟨E,O,t3,t4⟩:=D7 (J:=J') (θ:=θ') hq r2;have ⟨U,o2⟩:=eT (P:=P) (J:=J) (J':=J') (θ:=θ) (θ':=θ') (vs:=vs) (n:=ps.length+1) (n':=K.nxt) (chs0:=K.chs) m c (aA _) C S N k5 fun e he=>h.fine.chs e (E.mem_iff.2 (by grind));have I:(k.map (·.v θ')).length=rs.length:=by rw[List.length_map];exact O
 refine Z6 h.agr Q ⟨_,rfl,⟨Tz I fun i t v ht M=>?_,fun w=>?_⟩,J',m,?_⟩
 ·grind
 ·rw[Jv,FF];unfold Z8 at b;rw[w] at b;have b:=bO b;rcases k with _ | ⟨x,k⟩
  ·cases b
  ·cases k with
   | nil=>exact Z9 (θ:=θ') b rfl
   | cons y k=>grind[nlN]
 ·rw[Jv,FF,Lk,MX I];have hp:=E.trans (U.append_left _);have Y:=h.st.perm ((hp.map (toCh P θ')).append_right [F]);have X:St J' w0 j ((q.2.1.map (toCh P θ')++o.2.1.map (toCh P θ'))++(o.2.2.map (toCh P θ')++ [F])):=by
   simpa [aX,aC] using Y
  have Z:=St.sepTo X (PR t3 o2);refine St.left (ds:=o.2.2.map (toCh P θ')) (Z.perm ?_);grind[aC,List.Perm.append_left,List.perm_append_comm]
theorem XO {V:Env} {P:Program} (X:TTok P V.tt) (hF:FTok P V.ft) (U:P.follows .mixedOrders=true) {k:FuncId} {fn:Func} {c:Code} {f:FS} (hf:P.funcs[k]? =some fn) (hb:fn.body=some c) (hn:fn.ntmps=V.n) (hen:Enters P k) (hm:f.ps.length<=V.n) (u:(Hn f.rs&&zb f.ps)=true) (A:Ann)
  (z: ∀d,appP f.ps f.m d=lQ V (PQ V fn.results.toList f.rs f.ps d) c A (fun r=>some r) (fun _ _=>none) (PQ V fn.results.toList f.rs f.ps d) (tw (BY f.ps d))): ∀w0 J γ b (d:denP f.ps) r,Lay P J->PArgs P w0 J γ f.ps b d->appP f.ps f.m d=some r->Con P k b.toArray J w0 (owCh γ f.ps b d) (fun v=>resFa f.rs v/\(D2 1000000 V.an=true->zX f.rs (hFst f.rs (outs f.ps) (toH _ r)) v)) (fun v=>resGv f.rs (hFst f.rs (outs f.ps) (toH _ r)) v++outCh γ f.ps b (hSnd f.rs (outs f.ps) (toH _ r))):=by
 rw[ak] at u;intro w0 J γ b d r y Y Z;rw[z] at Z;have k0:=HY Y;let θ:=fun i=>if i=b.length then γ else b.getD i undef;have S: ∀j v,b[j]? =some v->θ (0+j)=v:=fun j v hj=>by
  grind
 have m:θ f.ps.length=γ:=by
  grind
 have B: ∀p∈(b.zipIdx.map fun q=>(q.2,q.1)),b.toArray[p.1]? =some p.2:=fun p hp=>by
  grind
 refine zr (n:=V.n) (b.zipIdx.map fun q=>(q.2,q.1)) hf hb hn (by grind) B (fun F w a hA R=>?_) (fun v=>zf (eP _ _ _ u.2) _ _ u.1)
 ·have ⟨N,k2,k3,k4,k5⟩:=Li (n:=f.ps.length+1) (q:=f.ps.length) (C:=[F]) (aA _) m Y S (by omega) R;have o:Fine P w0 J θ (BY f.ps d):=⟨fun e s=>(N e s).1 _,fun e s=>by have:=N e s;show e.2.1<f.ps.length+1;omega,k2,fun e s=>k4 e s _,y⟩;have Q:Agr V.n a (envL θ (BY f.ps d)):=hA.pick _ fun p hp=>by
   obtain ⟨e,s,rfl⟩:=List.mem_map.1 hp;have h5:=(N e s).2.2.2.2;have key: ∀(l:List Value) (k:Nat) (i:Nat) (v:Value),k<=i->l[i - k]? =some v->((l.zipIdx k).map fun q=>(q.2,q.1)).lookup i=some v:=by
    intro l;induction l with
    | nil=>grind
    | cons x l ih =>
     intro k i v K h;simp[List.zipIdx_cons,List.map_cons,List.lookup_cons];by_cases e:i=k
     ·simp_all
     ·rw[show i - k=(i - (k+1))+1 from by omega] at h;grind
   grind
  have hS:Sim P J w0 F V.n J θ (BY f.ps d) a w:=⟨Hp.le.rfl,Q,k3,o⟩;have fin:=Vq (rs:=f.rs) (fn:=fn) (F:=F) X k0 k5 (aH (BY f.ps d).nxt) m;have ⟨θ0,W,g⟩:=AY hS;exact (wK (I:=J) (w0:=w0) (F:=F) X hF U c).1 A Z W (fun E θ' G D H K S' O t=>fin r E θ' G D H K S' O (g.trans t)) (fun i E θ' G D H K=>by cases K) (fun r' E θ' G D H T M L O t=>by
   cases ae M;exact fin _ E θ' G D H T L O (g.trans t))
theorem fok {V:Env} {P:Program} (o:TTok P V.tt) (E:FTok P V.ft) (j:P.follows .mixedOrders=true) {k:FuncId} {fn:Func} {c:Code} {f:FS} (n:P.funcs[k]? =some fn) (u:fn.body=some c) (l:fn.ntmps=V.n) (h:Enters P k) (m:f.cl=none) (D:f.ps.length<=V.n) (i:(Hn f.rs&&zb f.ps)=true) (g:Ann)
  (b: ∀d,appP f.ps f.m d=lQ V (PQ V fn.results.toList f.rs f.ps d) c g (fun r=>some r) (fun _ _=>none) (PQ V fn.results.toList f.rs f.ps d) (tw (BY f.ps d))):FOk P k f:=
 ⟨fun q F=>by grind,fun _=>h,fun _ B J γ y d r a x A w C p=>(XO o E j n u l h D i g b B J γ y d r a x A w C p).mono fun e G ⟨v,t,s,z⟩=>⟨v,t,s.1,z⟩⟩
theorem Ll {V:Env} {P:Program} (S:TTok P V.tt) (hF:FTok P V.ft) (N:P.follows .mixedOrders=true) {k:FuncId} {fn:Func} {c:Code} {E b:Nat} (U:P.funcs[k]? =some fn) (Z:fn.body=some c) (T:fn.ntmps=V.n) (Q:Enters P k) (hm:1<=V.n) (j:Ann)
  (s: ∀(E':TypeId) (f:Bool) (xs:List Raw),(match f with | true=>some ([] :List Raw) | false=>(bw b [] xs).bind fun l=>some l)=lQ V (PQ V fn.results.toList [.sl E .raw] [] ()) c j (fun r=>some r) (fun _ _=>none) (PQ V fn.results.toList [.sl E .raw] [] ()) ⟨[(0,0,.one (.rdn ⟨0,[]⟩ f (.sl E' .raw) xs))],[],1⟩):y8 P k E b:=by
 refine ⟨Q,fun E' J w0 v xs l o q tV=>?_⟩;have ⟨f,m⟩: ∃f,GX v=f:=⟨_,rfl⟩;have hr:lQ V (PQ V fn.results.toList [.sl E .raw] [] ()) c j (fun r=>some r) (fun _ _=>none) (PQ V fn.results.toList [.sl E .raw] [] ()) ⟨[(0,0,.one (.rdn ⟨0,[]⟩ f (.sl E' .raw) xs))],[],1⟩=some l:=by
  rw[<-s E' f xs];cases f with
  | false =>
   rw[tV];rfl
  | true =>
   obtain ⟨L,-⟩:=Fl tV;obtain ⟨Y,cap,e,-,hx⟩:=q;obtain rfl:v= .slice Y xs.length cap:=by grind
   rcases hx with rfl | ⟨b,off,ccs,t,fr,rfl,-⟩
   ·rw[L];rfl
   ·cases m
 let θ:Th:=fun _=>v;have key:Con P k #[v] J w0 [] (fun v=>resFa [.sl E .raw] v/\(D2 1000000 V.an=true->zX [.sl E .raw] (l,()) v)) (fun v=>resGv [.sl E .raw] (l,()) v++ []):=by
  refine zr (n:=V.n) [(0,v)] U Z T hm (fun p hp=>by grind) (fun F w a W M=>?_) (fun u=>zf (D:=[]) trivial [.sl E .raw] (l,()) rfl);have g:Fine P w0 J θ ⟨[(0,0,.one (.rdn ⟨0,[]⟩ f (.sl E' .raw) xs))],[],1⟩:=⟨fun e B=>by cases al B;exact ⟨Nat.one_pos,q,m⟩,fun e B=>by grind,List.pairwise_singleton _ _,fun e B=>(by cases B),o⟩;have hS:Sim P J w0 F V.n J θ ⟨[(0,0,.one (.rdn ⟨0,[]⟩ f (.sl E' .raw) xs))],[],1⟩ a w:=⟨Hp.le.rfl,W,M,g⟩;have fin:=Vq (V:=V) (θ:=θ) (J:=J) (w0:=w0) (rs:=[.sl E .raw]) (ps:=[]) (d:=()) (vs:=[]) (s0:=⟨[(0,0,.one (.rdn ⟨0,[]⟩ f (.sl E' .raw) xs))],[],1⟩) (fn:=fn) (F:=F) S rfl trivial (aH _) (γ:=θ 0) rfl;exact (wK (I:=J) (w0:=w0) (F:=F) S hF N c).1 j hr hS (fun z θ' A y x R S' K h=>fin _ z θ' A y x R S' K h) (fun i z θ' A y x R=>by cases R) (fun r' z θ' A y x O H G K h=>by
   cases ae H;exact fin _ z θ' A y x O G K h)
 exact fun w C X=>(key w C X).mono fun e x ⟨v,L,h2,h3⟩=>⟨v,L,trivial,h3⟩
def mZ:Nat->Ty
 | 0=>.raw
 | n+1=>.prod .raw (mZ n)
def sW:(n:Nat)->(mZ n).den->List Value
 | 0,p=>[p.1]
 | n+1,p=>p.1.1::sW n p.2
theorem tW: ∀n,(mZ n).rep.size=n+1
 | 0=>rfl
 | n+1=>by
  show 1+(mZ n).rep.size=_;rw[tW n];omega
theorem Lm {I:Hp} {w:World} : ∀(n:Nat) {cs:List Value} {p:(mZ n).den} {F:List Nat},(mZ n).rep.own I w cs p F->F= [] /\cs=sW n p
 | 0,cs,p,F,h=>by
  have ⟨b,a⟩:=h;exact ⟨b,a⟩
 | n+1,cs,p,F,⟨c,d,G,K,b,a,h3,h4⟩=>by
  obtain ⟨rfl,f⟩:=h3;obtain ⟨rfl,e⟩:=Lm n h4;subst b;subst a;subst f;exact ⟨rfl,by rw[e];rfl⟩
theorem PS: ∀(n:Nat) (cs:List Value),cs.length=n+1->(∀u∈cs,u.oneCell'=true)-> ∃p:(mZ n).den,sW n p=cs
 | 0,cs,hl,h1=>by
  obtain ⟨u,rfl⟩:=List.length_eq_one_iff.1 hl;exact ⟨⟨u,h1 u (by simp)⟩,rfl⟩
 | n+1,u::cs,hl,h1=>by
  have ⟨p,hp⟩:=PS n cs (by grind) (fun v hv=>h1 v (by grind));exact ⟨(⟨u,h1 u (by simp)⟩,p),by grind[sW]⟩
theorem lf {P:Program} {k:FuncId} {f:FS} (h:Enters P k) (b:f.cl=none) (c: ∀d,appP f.ps f.m d=none):FOk P k f:=
 ⟨fun q e=>by grind,fun _=>h,fun _ _ _ _ _ d r _ _ a=>by grind⟩
theorem H0 {P:Program} {k:FuncId} {f:FS} {E b:Nat} (h:FOk P k ⟨f.ps,f.rs,f.m,none⟩) (a:y8 P k E b) (i:Nat.beq b 0=false:=by rfl) (g:Nat.beq b 7=false:=by rfl) (d:Nat.ble 1000 b=false:=by rfl) (j:Nat.beq b 9=false:=by rfl):FOk P k ⟨f.ps,f.rs,f.m,some (E,b)⟩:=
 ⟨fun q c=>by cases ae c;exact ⟨⟨fun e=>(by grind),fun _ _ _ _=>a,fun e=>(by grind)⟩,fun e=>(by grind),fun e=>(by grind)⟩,fun _=>h.en rfl,fun _=>h.con rfl⟩
theorem Ln {n:Nat} {α:Type} {R:Rep α} (e:R.Sh) (h1:R.size=n+1) {I:Hp} {w:World} : ∀ {xs:List α} {cur:List Value} {K:List Nat},OwnEls R I w cur xs K-> ∃d:List (mZ n).den,K= [] /\OwnEls (mZ n).rep I w cur d [] /\All2 (fun p x=>R.rd I (sW n p) x) d xs
 | [],cur,K,h=>⟨[],h,rfl,.nil⟩
 | x::xs,cur,K,⟨c,rest,G,K1,e1,e2,e3,e4,e5⟩=>by
  obtain ⟨rfl,a⟩:=e e4;obtain ⟨p,rfl⟩:=PS n c (e2.trans h1) (R.rd_one a);obtain ⟨d,rfl,g,i⟩:=Ln e h1 e5;have b: ∀(m:Nat) (q:(mZ m).den),(mZ m).rep.own I w (sW m q) q []:=by
   intro m;induction m with
   | zero=>intro q;exact ⟨rfl,rfl⟩
   | succ m f=>intro q;exact ⟨[q.1.1],sW m q.2,[],[],rfl,rfl,⟨rfl,rfl⟩,f q.2⟩
  exact ⟨p::d,e3,⟨sW n p,rest,[],[],e1,by rw[e2,h1,tW],rfl,b n p,g⟩,.cons a i⟩
theorem FG {n:Nat} {α:Type} {E:TypeId} {R:Rep α} (t:R.Sh) (h1:R.size=n+1) {I:Hp} {w0 w:World} {C:List Ch} {v:Value} {xs:List α} (h:St I w0 w (Ch.own (ay E R) [v] xs::C)): ∃b:List (mZ n).den,All2 (fun p x=>R.rd I (sW n p) x) b xs/\St I w0 w (Ch.own (ay E (mZ n).rep) [v] b::C):=by
 obtain ⟨i,l,F,⟨G,K,rfl,⟨A,k⟩,e⟩,d,f⟩:=h;rcases k with ⟨a,rfl,rfl⟩ | ⟨g,c,cap,cur,u,a,q,y,r,z,rfl,s⟩
 ·exact ⟨[],.nil,i,l,[] ++K,⟨[],K,rfl,⟨Nat.zero_le _,.inl ⟨a,rfl,rfl⟩⟩,e⟩,d,f⟩
 ·obtain ⟨b,rfl,o,m⟩:=Ln t h1 s;have j:=m.length_eq;exact ⟨b,m,i,l,[g] ++K,⟨[g],K,rfl,⟨by omega,.inr ⟨g,c,cap,cur,[],by grind,q,by omega,r,by grind[tW],rfl,o⟩⟩,e⟩,d,f⟩
theorem H1 {n:Nat} {α:Type} {R:Rep α} (b:Cpy R R) (h1:R.size=n+1) {I:Hp} {w:World} : ∀ {ps:List (mZ n).den} {xs:List α} {cur:List Value} {F:List Nat},OwnEls (mZ n).rep I w cur ps F->All2 (fun p x=>R.rd I (sW n p) x) ps xs->OwnEls R I w cur xs F
 | [],[],_,_,h,_=>h
 | p::ps,x::xs,cur,F,⟨c,rest,G,K,e1,e2,e3,e4,e5⟩,hh=>by
  cases hh with
  | cons hp a =>
   obtain ⟨rfl,rfl⟩:=Lm n e4;exact ⟨sW n p,rest,[],K,e1,by grind[tW],e3,b hp,H1 b h1 e5 a⟩
 | [],_::_,_,_,_,hh=>by cases hh
 | _::_,[],_,_,_,hh=>by cases hh
theorem B0 {n:Nat} {α:Type} {E:TypeId} {R:Rep α} (q:Cpy R R) (h1:R.size=n+1) {I:Hp} {w0 w:World} {C:List Ch} {v:Value} {xs:List α} {ps:List (mZ n).den} (hp:All2 (fun p x=>R.rd I (sW n p) x) ps xs) (h:St I w0 w (Ch.own (ay E (mZ n).rep) [v] ps::C)):St I w0 w (Ch.own (ay E R) [v] xs::C):=by
 obtain ⟨i,l,F,⟨G,K,rfl,⟨u,k⟩,e⟩,d,f⟩:=h;have j:=hp.length_eq;rcases k with ⟨a,rfl,rfl⟩ | ⟨g,c,cap,cur,b,a,m,s,o,t,rfl,r⟩
 ·cases hp;exact ⟨i,l,[] ++K,⟨[],K,rfl,⟨Nat.zero_le _,.inl ⟨a,rfl,rfl⟩⟩,e⟩,d,f⟩
 ·exact ⟨i,l,(g::b)++K,⟨g::b,K,rfl,⟨by omega,.inr ⟨g,c,cap,cur,b,by grind,m,by omega,o,by grind[tW],rfl,H1 q h1 r hp⟩⟩,e⟩,d,f⟩
theorem B1 {α β:Type} {p:α->β->Prop} : ∀ {xs:List α} {ys:List β} (n:Nat),All2 p xs ys->All2 p (xs.take n) (ys.take n)
 | _,_,0,_=>.nil
 | _,_,n+1,.nil=>.nil
 | _,_,n+1,.cons h k=>.cons h (B1 n k)
theorem A7 {α β:Type} {p:α->β->Prop} : ∀ {xs:List α} {ys:List β} {a:List α} {b:List β},All2 p xs ys->All2 p a b->All2 p (xs++a) (ys++b)
 | _,_,_,_,.nil,h=>h
 | _,_,_,_,.cons h k,h'=>.cons h (A7 k h')
def abG {α:Type} (xs:List α) (i j:Int):Option (List α):=(chk (0<=i/\i<=j/\j<=(xs.length:Int))).bind fun _=>some (xs.take i.toNat++xs.drop j.toNat)
def abH {α:Type} (z:α) (p0s:List α) (p1i p2j:Int):Option (List α):=
 (chk (And (0<=p1i) (And (p1i<=p2j) (And (p2j<=(p0s.length:Int)) ((0+(p0s.length:Int))<=(p0s.length:Int)))))).bind fun _=>if p1i==p2j then (some p0s) else ((chk (And ((0:Int)<=0) (And (0<=p1i) ((0+p1i)<=(p0s.length:Int))))).bind fun _=>(chk (And (0<=p2j) (And (p2j<=((p0s.length:Int) - 0)) ((0+((p0s.length:Int) - 0))<=(p0s.length:Int))))).bind fun _=>(chk (And ((0+0:Int)=0) (And ((0+p1i)<=(0+p2j)) (And ((0+p2j)<=(0+((p0s.length:Int) - 0))) ((0+((p0s.length:Int) - 0))<=(p0s.length:Int)))))).bind fun _=>(chk (And (0<=(((0+p1i)+((0+((p0s.length:Int) - 0)) - (0+p2j))) - 0)) (And ((((0+p1i)+((0+((p0s.length:Int) - 0)) - (0+p2j))) - 0)<=(p0s.length:Int)) ((0+(p0s.length:Int))<=((ri p0s ((0+p1i).toNat) ((0+p2j).toNat) ((0+((p0s.length:Int) - 0)).toNat)).length:Int))))).bind fun _=>(chk (And ((0+(((0+p1i)+((0+((p0s.length:Int) - 0)) - (0+p2j))) - 0))<=(0+(p0s.length:Int))) ((0+(p0s.length:Int))<=((ri p0s ((0+p1i).toNat) ((0+p2j).toNat) ((0+((p0s.length:Int) - 0)).toNat)).length:Int)))).bind fun _=>some (((AE (ri p0s ((0+p1i).toNat) ((0+p2j).toNat) ((0+((p0s.length:Int) - 0)).toNat)) ((0+(((0+p1i)+((0+((p0s.length:Int) - 0)) - (0+p2j))) - 0)).toNat) ((0+(p0s.length:Int)).toNat) z).take (((0+p1i)+((0+((p0s.length:Int) - 0)) - (0+p2j))).toNat)).drop ((0:Int).toNat)))
theorem chk_of {α:Type} {p:Prop} [Decidable p] {k:Unit->Option α} (h:p):(chk p).bind k=k ():=by
 simp_all[chk,if_pos]
theorem XP {α:Type} {z:α} {xs:List α} {i j:Int} (h1:0<=i) (e:i<=j) (f:j<=(xs.length:Int)):abH z xs i j=some (xs.take i.toNat++xs.drop j.toNat):=by
 have a:(ri xs ((0+i).toNat) ((0+j).toNat) ((0+((xs.length:Int) - 0)).toNat)).length=xs.length:=xI (by omega) (by omega) (by omega);unfold abH;rw[chk_of (by omega)];by_cases b:i=j
 ·simp_all
 ·rw[if_neg (by grind),chk_of (by omega),chk_of (by omega),chk_of (by omega),chk_of (by omega),chk_of (by omega)];have d:(AE (ri xs ((0+i).toNat) ((0+j).toNat) ((0+((xs.length:Int) - 0)).toNat)) ((0+(((0+i)+((0+((xs.length:Int) - 0)) - (0+j))) - 0)).toNat) ((0+(xs.length:Int)).toNat) z).length=xs.length:=by
   grind[Aa]
  congr 1;rw[show ((0:Int).toNat)=0 from rfl,List.drop_zero];apply List.ext_getElem?;intro q;rw[List.getElem?_take];by_cases c:q<((0+i)+((0+((xs.length:Int) - 0)) - (0+j))).toNat
  ·rw[if_pos c,Hu (by omega) (by omega),if_neg (by omega),DY (by omega) (by omega) (by omega)];grind
  grind
theorem XQ {P:Program} {k:FuncId} {E n:Nat} {u:Ty} {z:(mZ n).den} (y:u.sh=true) (hs:u.size=n+1) (h:FOk P k ⟨[.eat (.sl E (mZ n)),.rd (.int .i64),.rd (.int .i64)],[.sl E (mZ n)],abH z,none⟩):FOk P k ⟨[.eat (.sl E u),.rd (.int .i64),.rd (.int .i64)],[.sl E u],abG,none⟩:=by
 refine ⟨fun q Q=>(by cases Q),fun _=>h.en rfl,fun _ x J γ Z d r c O tV=>?_⟩;obtain ⟨v,T,rfl,S,F,M,rfl,o,G,m,rfl,p,f⟩:=O;obtain rfl:m= []:=f;have ⟨t,R,N,un⟩:=d;let D:=t;let i:Int:=R;let j:Int:=N;let B:=r;have tV:abG D i j=some B:=tV;have ⟨u1,V,s⟩:=Option.bind_eq_some_iff.1 tV;have ⟨L,H,Y⟩:=bO V;have s:=ae s;have g:=(Ty.rep_size u).trans hs;intro w C a;have a:St J x w (Ch.own (ay E u.rep) [v] D::C):=a;have ⟨b,hp,l⟩:=FG (Ty.sh_ok y) g a;have A:=hp.length_eq;have X:abH z b i j=some (b.take i.toNat++b.drop j.toNat):=XP L H (by omega);have key:=h.con rfl x J undef [v,F,G] (b,i,j,()) (show dens ([Ty.sl E (mZ n)] ++ []) from b.take i.toNat++b.drop j.toNat) c ⟨v,_,rfl,S,F,_,rfl,o,G,_,rfl,p,rfl⟩ X;refine (key w C l).mono fun e U ⟨r,I,K,W⟩=>⟨r,I,K,?_⟩
 show St J x U (Ch.own (ay E u.rep) [r] B::C);rw[<-s];exact B0 (Ty.cpy y) g (A7 (B1 _ hp) (qj _ hp)) W
def adn {α:Type} (b:Nat) (z:α) (xs:List α) (i:Int) (v:List α) (c:Nat):Option (List α×List α):=
 (chk ((0:Int)<=0/\0<=i/\0+i<=(xs.length:Int))).bind fun _ =>
 (chk ((0+0:Int)=0/\0+i<=(xs.length:Int)/\0<i64.wrap (i64.wrap ((xs.length:Int)+(v.length:Int)) - i)/\(c:Int)<(0+i)+i64.wrap (i64.wrap ((xs.length:Int)+(v.length:Int)) - i)/\((0+i)+i64.wrap (i64.wrap ((xs.length:Int)+(v.length:Int)) - i))*(b:Int)<=140737488355328)).bind fun _ =>
 (fun s2:List α=>(chk (0<=i/\i<=(s2.length:Int) - 0/\0+((s2.length:Int) - 0)<=(s2.length:Int))).bind fun _ =>
  (chk ((0:Int)<=0/\0<=min ((v.length:Int) - 0) ((0+((s2.length:Int) - 0)) - (0+i))/\0+min ((v.length:Int) - 0) ((0+((s2.length:Int) - 0)) - (0+i))<=(v.length:Int)/\0<=0+i/\0+i<=(s2.length:Int)/\0+((s2.length:Int) - 0)<=(s2.length:Int))).bind fun _ =>
  (fun s3:List α=>(chk (0<=i64.wrap (i+(v.length:Int))/\i64.wrap (i+(v.length:Int))<=(s3.length:Int) - 0/\0+((s3.length:Int) - 0)<=(s3.length:Int))).bind fun _ =>
   (chk (0<=i/\i<=(xs.length:Int) - 0/\0+((xs.length:Int) - 0)<=(xs.length:Int))).bind fun _ =>
   (chk (0<=0+i/\0<=min ((0+((xs.length:Int) - 0)) - (0+i)) ((0+((s3.length:Int) - 0)) - (0+i64.wrap (i+(v.length:Int))))/\(0+i)+min ((0+((xs.length:Int) - 0)) - (0+i)) ((0+((s3.length:Int) - 0)) - (0+i64.wrap (i+(v.length:Int))))<=(xs.length:Int)/\0<=0+i64.wrap (i+(v.length:Int))/\0+i64.wrap (i+(v.length:Int))<=(s3.length:Int)/\0+((s3.length:Int) - 0)<=(s3.length:Int))).bind fun _ =>
   some (zi s3 (0+i64.wrap (i+(v.length:Int))).toNat (AZ xs (0+i) (min ((0+((xs.length:Int) - 0)) - (0+i)) ((0+((s3.length:Int) - 0)) - (0+i64.wrap (i+(v.length:Int)))))),v))
  (zi s2 (0+i).toNat (AZ v 0 (min ((v.length:Int) - 0) ((0+((s2.length:Int) - 0)) - (0+i))))))
 (xs.take (0+i).toNat++List.replicate (i64.wrap (i64.wrap ((xs.length:Int)+(v.length:Int)) - i)).toNat z)
def insS {α:Type} (xs:List α) (i:Int) (v:List α) (c:Nat):Option (List α×List α):=
 (fun w0 w:Int=>(chk ((xs.length:Int)<=w0/\w0<=(c:Int))).bind fun _ =>
  (chk (0<=w/\w<=w0 - 0/\w0 - 0<=w0 - 0)).bind fun _ =>
  (chk (0<v.length/\0+w<0+(w0 - 0))).bind fun _ =>
  (chk (0<=w/\w<=w0 - 0/\w0 - 0<=w0 - 0)).bind fun _ =>
  (chk (0<=i/\i<=w0 - 0/\w0 - 0<=w0 - 0)).bind fun _ =>
  (chk (0<=0+i/\0<=min ((0+(w0 - 0)) - (0+i)) ((0+(w0 - 0)) - (0+w))/\(0+i)+min ((0+(w0 - 0)) - (0+i)) ((0+(w0 - 0)) - (0+w))<=(xs.length:Int)/\0<=0+w/\0+w<=(xs.length:Int))).bind fun _ =>
  (chk ((0+w)+min ((0+(w0 - 0)) - (0+i)) ((0+(w0 - 0)) - (0+w))=w0/\(xs.length:Int)<=w0)).bind fun _ =>
  (fun s2:List α=>(chk (0<=i/\i<=(s2.length:Int) - 0/\0+((s2.length:Int) - 0)<=(s2.length:Int))).bind fun _ =>
   (chk ((0:Int)<=0/\0<=min ((v.length:Int) - 0) ((0+((s2.length:Int) - 0)) - (0+i))/\0+min ((v.length:Int) - 0) ((0+((s2.length:Int) - 0)) - (0+i))<=(v.length:Int)/\0<=0+i/\0+i<=(s2.length:Int)/\0+((s2.length:Int) - 0)<=(s2.length:Int))).bind fun _ =>
   some (zi s2 (0+i).toNat (AZ v 0 (min ((v.length:Int) - 0) ((0+((s2.length:Int) - 0)) - (0+i)))),v))
  (zi xs (0+w).toNat (AZ xs (0+i) (min ((0+(w0 - 0)) - (0+i)) ((0+(w0 - 0)) - (0+w))))))
 (i64.wrap ((xs.length:Int)+(v.length:Int))) (i64.wrap (i+(v.length:Int)))
noncomputable def acm {α:Type} (b:Nat) (z:α) (xs:List α) (i:Int) (v:List α):Option (List α×List α):=
 (chk (0<=i/\i<=(xs.length:Int) - 0/\0+((xs.length:Int) - 0)<=(xs.length:Int))).bind fun _ =>
 if (v.length:Int)==0 then some (xs,v) else if i==(xs.length:Int) then (bw b xs v).bind fun zs=>some (zs,v) else
 KY xs.length fun c=>if abm .gtr (i64.wrap ((xs.length:Int)+(v.length:Int))) (c:Int) then adn b z xs i v c else insS xs i v c
def XR {α:Type} (b:Nat) (xs:List α) (i:Int) (v:List α):Option (List α×List α):=
 (chk (0<=i/\i<=(xs.length:Int)/\v.length=1/\1<=b/\(xs.length+1)*b<=140737488355328)).bind fun _=>some (xs.take i.toNat++(v++xs.drop i.toNat),v)
theorem PT {α:Type} {xs v:List α} {i q:Nat} (hi:i<=xs.length) (hv:v.length=1):(xs.take i++(v++xs.drop i))[q]? =if q<i then xs[q]? else if q=i then v[0]? else xs[q - 1]? :=by
 grind
set_option maxHeartbeats 1000000 in
theorem XS {α:Type} {b:Nat} {z:α} {xs v:List α} {i:Int} {r:List α×List α} (h:XR b xs i v=some r):acm b z xs i v=some r:=by
 obtain ⟨u,J,h⟩:=Option.bind_eq_some_iff.1 h;obtain ⟨P,O,hv,G,m⟩:=bO J;obtain rfl:=ae h;have L:xs.length+1<=140737488355328:=by
  have:(xs.length+1)*1<=(xs.length+1)*b:=Nat.mul_le_mul_left _ G
  omega
 obtain ⟨k,rfl⟩: ∃k:Nat,i=(k:Int):=⟨i.toNat,by omega⟩;have C:k<=xs.length:=by omega
 have p:i64.wrap ((xs.length:Int)+(v.length:Int))=((xs.length+1:Nat):Int):=by rw[hv,IntKind.wrap_i64];omega
 have B:i64.wrap ((k:Int)+(v.length:Int))=((k+1:Nat):Int):=by rw[hv,IntKind.wrap_i64];omega
 have E:i64.wrap (((xs.length+1:Nat):Int) - (k:Int))=((xs.length+1 - k:Nat):Int):=by rw[IntKind.wrap_i64];omega
 unfold acm;rw[chk_of (by omega)];rw[if_neg (by rw[hv];decide)];by_cases t:k=xs.length
 ·subst t;rw[if_pos (by simp)]
  have:bw b xs v=some (xs++v):=by unfold bw;rw[if_pos (by rw[hv];exact m)]
  rw[this];simp
 ·rw[if_neg (by simp;omega)];have A:((k:Int)).toNat=k:=rfl;have l:(0+(k:Int)).toNat=k:=by omega
  have x:(0+((k+1:Nat):Int)).toNat=k+1:=by omega
  have sv:AZ v 0 1=v:=by
   unfold AZ;rw[show ((0:Int)+1).toNat=1 from rfl,show ((0:Int)).toNat=0 from rfl,List.drop_zero,List.take_of_length_le (by omega)]
  have y:AZ xs (0+(k:Int)) ((xs.length:Int) - (k:Int))=xs.drop k:=by
   unfold AZ;rw[l,show (0+(k:Int)+((xs.length:Int) - (k:Int))).toNat=xs.length from by omega,List.take_length]
  have d:(xs.drop k).length=xs.length - k:=aZ;refine Pc (by unfold maxLen;omega) fun c N K=>?_;have j:abm .gtr (i64.wrap ((xs.length:Int)+(v.length:Int))) (c:Int)=decide (((xs.length+1:Nat):Int)>(c:Int)):=by rw[p];rfl
  rw[j];by_cases M:xs.length+1>c
  ·rw[if_pos (by simp;omega)];unfold adn;rw[p,B,E];generalize g:xs.take (0+(k:Int)).toNat++List.replicate (((xs.length+1 - k:Nat):Int)).toNat z=o;have n:o.length=xs.length+1:=by rw[<-g,l,az,aB,List.length_replicate];omega
   have D:min ((v.length:Int) - 0) ((0+((o.length:Int) - 0)) - (0+(k:Int)))=1:=by rw[hv,n];omega
   simp only[D,sv,l];have a:(zi o k v).length=xs.length+1:=by rw[pn (by omega),n,hv];omega
   have I:min ((0+((xs.length:Int) - 0)) - (0+(k:Int))) ((0+(((zi o k v).length:Int) - 0)) - (0+((k+1:Nat):Int)))=(xs.length:Int) - (k:Int):=by rw[a];omega
   simp only[I,y,x];have s:((xs.length+1:Nat):Int)*(b:Int)<=140737488355328:=by rw[<-Int.natCast_mul];omega
   rw[chk_of (by omega),chk_of (by
    refine ⟨by omega,by omega,by omega,by omega,?_⟩;rw[show (0+(k:Int))+((xs.length+1 - k:Nat):Int)=((xs.length+1:Nat):Int) from by omega];exact s),chk_of (by rw[n];omega),chk_of (by rw[n,hv];omega),chk_of (by rw[a];omega),chk_of (by omega),chk_of (by rw[a];omega)]
   congr 2;apply List.ext_getElem?;intro q;rw[xL (by rw[a];omega),d,A,PT C hv];by_cases w:k+1<=q/\q<k+1+(xs.length - k)
   ·rw[if_pos w,if_neg (by omega),if_neg (by omega),List.getElem?_drop];congr 1;omega
   ·rw[if_neg w,xL (by omega),hv];by_cases e:q<k
    ·rw[if_neg (by omega),if_pos e,<-g,l,List.getElem?_append_left (by rw[aB];omega),List.getElem?_take,if_pos e]
    ·by_cases f:q=k
     ·rw[if_pos (by omega),if_neg e,if_pos f,f,Nat.sub_self]
     ·rw[if_neg (by omega),if_neg e,if_neg f,List.getElem?_eq_none (by omega),List.getElem?_eq_none (by omega)]
  ·rw[if_neg (by simp;omega)];unfold insS;simp only;rw[p,B];have F:min ((0+((((xs.length+1:Nat):Int)) - 0)) - (0+(k:Int))) ((0+((((xs.length+1:Nat):Int)) - 0)) - (0+((k+1:Nat):Int)))=(xs.length:Int) - (k:Int):=by omega
   simp only[F,y,l,x];have a:(zi xs (k+1) (xs.drop k)).length=xs.length+1:=by rw[pn (by omega),d];omega
   have H:min ((v.length:Int) - 0) ((0+(((zi xs (k+1) (xs.drop k)).length:Int) - 0)) - (0+(k:Int)))=1:=by rw[a,hv];omega
   simp only[H,sv];rw[chk_of (by omega),chk_of (by omega),chk_of (by rw[hv];omega),chk_of (by omega),chk_of (by omega),chk_of (by omega),chk_of (by omega),chk_of (by rw[a];omega),chk_of (by rw[a,hv];omega)];congr 2;apply List.ext_getElem?;intro q;rw[xL (by rw[a];omega),hv,A,PT C hv];by_cases f:q=k
   ·rw[if_pos (by omega),if_neg (by omega),if_pos f,f,Nat.sub_self]
   ·rw[if_neg (by omega),xL (by omega),d];by_cases e:q<k
    ·rw[if_neg (by omega),if_pos e]
    ·rw[if_neg e,if_neg f];by_cases Q:q<k+1+(xs.length - k)
     ·rw[if_pos (by omega),List.getElem?_drop];congr 1;omega
     ·rw[if_neg (by omega),List.getElem?_eq_none (by omega),List.getElem?_eq_none (by omega)]
theorem aaa {P:Program} {k:FuncId} {E:TypeId} (h:abq P k):FOk P k ⟨[],[],none,some (E,0)⟩:=
 ⟨fun q a=>(by cases ae a;exact ⟨⟨fun _=>h,fun e=>(by cases e),fun e=>(by cases e)⟩,fun e=>(by cases e),fun e=>(by cases e)⟩),fun e=>(by cases e),fun e=>(by cases e)⟩
theorem XT {P:Program} {k:FuncId} {E n b:Nat} {u:Ty} {z:(mZ n).den} (s:u.sh=true) (hs:u.size=n+1) (h:FOk P k ⟨[.eat (.sl E (mZ n)),.rd (.int .i64),.ow (.sl E (mZ n))],[.sl E (mZ n)],acm b z,none⟩):FOk P k ⟨[.eat (.sl E u),.rd (.int .i64),.ow (.sl E u)],[.sl E u],XR b,none⟩:=by
 refine ⟨fun q o=>(by cases o),fun _=>h.en rfl,fun _ L J γ vs d r j V tV=>?_⟩;obtain ⟨v,Z,rfl,Y,K,S,rfl,A,H,x,rfl,B,l⟩:=V;obtain rfl:x= []:=l;have ⟨G,W,R,un⟩:=d;let T:=G;let i:Int:=W;let U:=R;let t:=r;have tV:XR b T i U=some t:=tV;have ⟨u1,hc,D⟩:=Option.bind_eq_some_iff.1 tV;have D:=ae D;have a:=(Ty.rep_size u).trans hs;intro w C F;have ⟨c,hp,p⟩:=FG (Ty.sh_ok s) a F;have ⟨f,o,g⟩:=FG (Ty.sh_ok s) a (p.perm (List.Perm.swap _ _ _));have m:=g.perm (List.Perm.swap _ _ _);have I:=hp.length_eq;have y:=o.length_eq;have O:XR b c i f=some (c.take i.toNat++(f++c.drop i.toNat),f):=by
  unfold XR;grind
 have hm:=XS (z:=z) O;have key:=h.con rfl L J undef [v,K,H] (c,i,f,()) (show dens ([Ty.sl E (mZ n)] ++ [Ty.sl E (mZ n)]) from (c.take i.toNat++(f++c.drop i.toNat),f)) j ⟨v,_,rfl,Y,K,_,rfl,A,H,_,rfl,B,rfl⟩ hm;refine (key w C m).mono fun e w' ⟨r,N,Q,a3⟩=>⟨r,N,Q,?_⟩
 have X:=B0 (Ty.cpy s) a (A7 (B1 _ hp) (A7 o (qj _ hp))) a3;have M:=B0 (Ty.cpy s) a o (X.perm (List.Perm.swap _ _ _));show St J L w' (Ch.own (ay E u.rep) [r] t.1::Ch.own (ay E u.rep) [H] t.2::C);rw[<-D];exact M.perm (List.Perm.swap _ _ _)
def rtN (V:Env) (rvs:List ResultVar) (T:TypeId) (s:Sg):Option (Int×Int):=(BZ V.tt s rvs).bind fun vs=>match vs with
 | [.one (.ptr h off)] =>b8 (Nat.beq off 0) ((rW h s.chs).bind fun b=>b8 (Nat.beq b.T T) (match b.cells with
  | [.rd g _ _,.val (.int .i64 x),.val (.int .i64 y)] =>b8 (Hdr.beq g ⟨0,[]⟩) (some (x,y))
  | _=>none))
 | _=>none
theorem aab {V:Env} {P:Program} (hT:TTok P V.tt) (hF:FTok P V.ft) (hmx:P.follows .mixedOrders=true) {k:FuncId} {fn:Func} {c:Code} {E T:Nat} {t:Ty} {m:List t.den->Option (Int×Int)} (hf:P.funcs[k]? =some fn) (hb:fn.body=some c) (hn:fn.ntmps=V.n) (Y:Enters P k) (hm:1<=V.n) (K:Ann)
  (L: ∀A:List t.den,m A=lQ V (rtN V fn.results.toList T) c K (fun r=>some r) (fun _ _=>none) (rtN V fn.results.toList T) ⟨[(0,0,.one (.rd ⟨0,[]⟩ (.sl E t) A))],[],1⟩):NewOk P k T ⟨[.rd (.sl E t)],[.int .i64,.int .i64],m,some (T,9)⟩:=by
 refine ⟨Y,fun w0 J γ vs d r ns G ha tV R=>?_⟩;obtain ⟨v,S,rfl,hd,N⟩:=ha;obtain rfl:S= []:=N;obtain ⟨A,u⟩:=d;obtain ⟨cs,Z,U⟩:=hd;obtain rfl:cs= [v]:=Z;obtain ⟨x,y⟩:=r;have hr:=L A;rw[show m A=some (x,y) from tV] at hr;obtain rfl: [x,y] =ns:=ae R;let θ:Th:=fun _=>v;refine zr (n:=V.n) [(0,v)] hf hb hn hm (fun p hp=>by obtain rfl:=al hp;rfl) (fun F w a hA X=>?_) (fun u=>Ch.back_deeps ⟨UI,trivial⟩);have D:Fine P w0 J θ ⟨[(0,0,.one (.rd ⟨0,[]⟩ (.sl E t) A))],[],1⟩:=⟨fun e H=>by obtain rfl:=al H;exact ⟨Nat.one_pos,U⟩,fun e H=>by obtain rfl:=al H;exact Nat.one_pos,List.pairwise_singleton _ _,fun e H=>(by cases H),G⟩;have hS:Sim P J w0 F V.n J θ ⟨[(0,0,.one (.rd ⟨0,[]⟩ (.sl E t) A))],[],1⟩ a w:=⟨Hp.le.rfl,hA,X,D⟩;have fin: ∀r l θ' s B j,rtN V fn.results.toList T s=some r->Sim P J w0 F V.n l θ' s B j->J.le l->Fr ⟨[(0,0,.one (.rd ⟨0,[]⟩ (.sl E t) A))],[],1⟩ θ s θ'->
   bodyPost P fn (fun e j=> ∃u,e= .returned u/\(∃b,u= .pointer (some ⟨b,0,none⟩))/\ ∃J2,J.le J2/\St J2 w0 j ([Ch.blk (bk u) ([v] ++ [r.1,r.2].map (Value.int .i64)) T] ++ [F])) .ret B j:=by
  intro r l θ' s B j f O M o;obtain ⟨us,W,f⟩:=bind_some f;obtain ⟨r1,r2⟩:=xR hT O W;split at f
  ·rename_i h off;obtain ⟨ho,f⟩:=ai f;obtain rfl:off=0:=au ho;obtain ⟨b,hb',f⟩:=bind_some f;obtain ⟨C,f⟩:=ai f;have C:b.T=T:=au C;split at f
   ·rename_i g ty d p q z;obtain ⟨hg,f⟩:=ai f;obtain rfl:=Hdr.beq_eq hg;obtain rfl:=ae f;refine Z6 O.agr r1 ⟨_,rfl,⟨bk (hv θ' h),rfl⟩,l,M,?_⟩;have h1:=O.st.perm (((ld hb').map (toCh P θ')).append_right [F]);have e0:hv θ' ⟨0,[]⟩=v:=by
     show vg (θ' 0) [] =v;rw[o.same 0 Nat.one_pos];rfl
    have h2:St l w0 j (Ch.blk (bk (hv θ' h)) (b.cells.map (·.v θ')) b.T::(b.rest.map (toCh P θ')++ [F])):=h1;rw[z,C] at h2;have h3:St l w0 j ([Ch.blk (bk (hv θ' h)) [hv θ' ⟨0,[]⟩,.int .i64 p,.int .i64 q] T] ++ [F] ++b.rest.map (toCh P θ')):=h2.perm ((List.perm_append_comm).cons _);rw[e0] at h3;exact h3.left
   ·cases f
  ·cases f
 exact (wK (I:=J) (w0:=w0) (F:=F) hT hF hmx c).1 K hr.symm hS (fun l θ' s B j hk O M o=>fin _ l θ' s B j hk O M o) (fun i l θ' s B j hk=>by cases hk) (fun r' l θ' s B j f hrr Q M o=>by
  obtain rfl:=ae hrr;exact fin _ l θ' s B j f Q M o)
theorem XU {P:Program} {k:FuncId} {f:FS} {T:Nat} (d:NewOk P k T f) (a:f.cl=some (T,9)):FOk P k f:=by
 have b:f.ov=true:=by unfold FS.ov;rw[a];rfl
 refine ⟨fun q c=>?_,fun e=>(by rw[b] at e;cases e),fun e=>(by rw[b] at e;cases e)⟩;rw[a] at c;obtain rfl:=ae c;exact ⟨⟨fun e=>(by cases e),fun _ _ _ e=>(by cases e),fun e=>(by cases e)⟩,fun e=>(by cases e),fun _=>d⟩
end R
namespace R
open Go.RowKit Go.Shelf Go.Sort
open D
def TC (xs:List ByteArray) (sep:ByteArray):Option ByteArray:=(chk (xs.length<=140737488355328/\(Lib.join (xs.map (·.data.toList)) sep.data.toList).length<=140737488355328)).bind fun _=>some ⟨(Lib.join (xs.map (·.data.toList)) sep.data.toList).toArray⟩
def TE (n:Int):Option ByteArray:=(chk (-9223372036854775808<=n/\n<=9223372036854775807)).bind fun _=>some ⟨(Lib.itoa n).toArray⟩
section
variable {P:Program} {ρ:Ren}
theorem St.grownS {I:Hp} {w0 w:World} {cs:List Ch} (h:St I w0 w cs) (os:Array Obj):St I w0 (grow w os) cs:=by
 refine St.step (w:=w) (c:=[]) (c':=[]) h rfl rfl rfl (by simp[grow]) ?_;rintro F rfl - -;exact ⟨fun b a _=>heap_grow_old w os a,[],rfl,List.nodup_nil,by simp⟩
theorem St.belowS {I:Hp} {w0 w w':World} {cs:List Ch} (h:St I w0 w cs) (a:Below w.heap.size w w'):St I w0 w' cs:=by
 refine St.step (w:=w) (c:=[]) (c':=[]) h a.os a.tape a.output a.size ?_;rintro F rfl - -;exact ⟨fun b d _=>a.block b d,[],rfl,List.nodup_nil,by simp⟩
theorem TG (L:LaysM.n171 P ρ) (p:Enters P (ρ.f 171)):FOk P (ρ.f 171) ⟨[.rd (.int .i64)],[.str],fun n=>TE n,none⟩:=by
 refine ⟨fun q x=>(by cases x),fun _=>p,fun _ i J γ z d r b u tV=>?_⟩;obtain ⟨v,h,rfl,⟨m,l,j⟩,f⟩:=u;obtain rfl:h= []:=f;obtain ⟨o,A⟩:=d;let n:Int:=o;obtain rfl:m= [v]:=l;obtain rfl:v= .int .i64 n:=(List.cons.inj j).1;obtain ⟨B,g,t⟩:=Option.bind_eq_some_iff.1 (show TE n=some r from tV);have g:=bO g;obtain rfl:=ae t;intro w C a;have a:St J i w C:=a;refine (Any.strconv_Itoa L n g.1 g.2 w (b w a.2.1).tab).mono ?_;rintro e E ⟨rfl,k,y,rfl⟩;have s:St J i (w.drewN k) C:=a.drawn rfl rfl rfl rfl;exact ⟨_,rfl,rfl,D.St.free (R:=Ny) (c:=[.string _]) (St.grownS s y) ⟨rfl,rfl⟩⟩
theorem TH (L:Lays.n156 P ρ) (X:Builder.Extra P ρ) (E:TypeId) (H:Enters P (ρ.f 156)):FOk P (ρ.f 156) ⟨[.rd (.sl E .str),.rd .str],[.str],fun f s=>TC f s,none⟩:=by
 refine ⟨fun q U=>(by cases U),fun _=>H,fun _ Z J γ vs d r u S tV=>?_⟩;obtain ⟨v,W,rfl,⟨F,B,A⟩,y,n,rfl,⟨z,M,V⟩,i⟩:=S;obtain rfl:n= []:=i;obtain ⟨o,sep,un⟩:=d;let f:List ByteArray:=o;obtain rfl:F= [v]:=B;obtain rfl:z= [y]:=M;obtain rfl:y= .string sep:=(List.cons.inj V).1;obtain ⟨u1,l,N⟩:=Option.bind_eq_some_iff.1 (show TC f sep=some r from tV);have l:=bO l;obtain rfl:=ae N;obtain ⟨K,cap,hv,⟨hl,g⟩,k⟩:((ay E Ny).rd J [v] f):=A;obtain rfl:=(List.cons.inj hv).1;intro w C a;have a:St J Z w C:=a;rcases k with k | ⟨b,off,p,t,G,rfl,I,h4⟩
 ·have k:f= []:=k;rw[k] at l⊢;refine (Any.strings_Join_none L X K cap sep w).mono ?_;rintro e w' ⟨rfl,rfl⟩;refine ⟨_,rfl,rfl,?_⟩;exact D.St.free (R:=Ny) (c:=[.string _]) a ⟨rfl,rfl⟩
 ·have m:=a.2.1 _ _ I;have h:b<w.heap.size:=(Array.getElem?_eq_some_iff.1 m).1;refine (Any.strings_Join L X b off cap f sep w (fun j x O=>?_) h l.1 g l.2).mono ?_
  ·obtain ⟨c,e1,Y,T⟩:=h4 j x O;obtain rfl:c= [.string x]:=T
   have:=Y 0 Nat.one_pos
   have e:off+j*Ny.size+0=off+j:=by show off+j*1+0=_;omega
   rw[e] at this;unfold World.cell?;have m:w.heap[b]? =some (.cells p t G):=m;simp only[m];rw[<-Array.getElem?_toList,this]
   rfl
  ·rintro e w' ⟨rfl,Q⟩;exact ⟨_,rfl,rfl,D.St.free (R:=Ny) (c:=[.string _]) (St.belowS a Q) ⟨rfl,rfl⟩⟩
end
end R
namespace D
open Go.RowKit Go.Shelf
theorem XV {I:Hp} {w0 w:World} {cs:List Ch} {α:Type} {E:TypeId} {enc:α->Value} {h1: ∀a,(enc a).oneCell'=true} {b:Nat} {xs:List α} (c:xs.length<=lim) (h:St I w0 w (Ch.blk b (xs.map enc) E::cs)):St I w0 w (Ch.own (ay E (mb α enc h1)) [.slice (some ⟨b,0,none⟩) xs.length xs.length] xs::cs):=by
 obtain ⟨i,d,F,⟨G,K,rfl,⟨rfl,g⟩,e⟩,j,f⟩:=h;refine ⟨i,d,[b] ++K,⟨[b],K,rfl,⟨c,.inr ⟨b,0,xs.length,_,[],rfl,g,aH _,c,?_,rfl,?_⟩⟩,e⟩,j,f⟩
 ·show 0+xs.length*1<=_;simp
 ·refine lE.2 ⟨rfl,[],?_⟩;simp
end D
namespace R
open Go.RowKit Go.Shelf Go.Sort
open D
def Lo (s sep:ByteArray):Option (List ByteArray):=(chk (s.size<4294967281/\1<=sep.size)).bind fun _=>some (Lib.splitB sep 0 (Lib.countB s sep) s)
def aac (s sep:ByteArray):Option (ByteArray×ByteArray×Bool):=(chk (s.size<4294967281)).bind fun _=>some (⟨(Lib.cut s.data.toList sep.data.toList).1.toArray⟩,⟨(Lib.cut s.data.toList sep.data.toList).2.1.toArray⟩,(Lib.cut s.data.toList sep.data.toList).2.2)
def zt (s:ByteArray) (c:Int):Option Int:=some (Lib.indexByte s.data.toList c.toNat.toUInt8)
def tX (s:ByteArray):Option (Int×Bool):=
 if 10<s.size then some (0,false) else
 match Lib.atoi s.data.toList with
 | none=>some (0,false)
 | some n=>if (⟨(Lib.itoa n).toArray⟩:ByteArray)=s/\ -999999999<=n/\n<=999999999 then some (n,true) else some (0,false)
section
variable {P:Program} {ρ:Ren}
theorem PU (L:Lays.n146 P ρ) (n:(P.info? (ρ.t 9)).map (fun i=>(i.zero,i.size,i.bytes))=some (some (.string ByteArray.empty),1,16)) (u:P.globalNamed "internal/bytealg.MaxLen" =some (ρ.g 1)) (B:Enters P (ρ.f 146)):FOk P (ρ.f 146) ⟨[.rd .str,.rd .str],[.sl (ρ.t 9) .str],fun s sep=>Lo s sep,none⟩:=by
 refine ⟨fun q K=>(by cases K),fun _=>B,fun _ Q J γ S d r j H tV=>?_⟩;obtain ⟨v,N,rfl,⟨A,y,x⟩,o,l,rfl,⟨t,F,M⟩,k⟩:=H;obtain rfl:l= []:=k;obtain ⟨I,h,T⟩:=d;let s:ByteArray:=I;let sep:ByteArray:=h;obtain rfl:A= [v]:=y;obtain rfl:t= [o]:=F;obtain rfl:v= .string s:=(List.cons.inj x).1;obtain rfl:o= .string sep:=(List.cons.inj M).1;obtain ⟨U,f,G⟩:=Option.bind_eq_some_iff.1 (show Lo s sep=some r from tV);have f:=bO f;obtain rfl:=ae G;intro w C a;have a:St J Q w C:=a;obtain ⟨g,m,z,R⟩:=(j w a.2.1).len;obtain rfl:=ae (u.symm.trans z);refine (Any.strings_Split L n s sep m w f.1 R f.2).mono ?_;rintro e V ⟨rfl,rfl⟩;refine ⟨_,rfl,rfl,?_⟩;have c:(Lib.splitB sep 0 (Lib.countB s sep) s).length=Lib.countB s sep+1:=Lib.splitB_all sep f.2 0 _ s rfl;have O:=Lib.countB_le sep f.2 s.size s (aH _);have p:=D.XV (E:=ρ.t 9) (enc:=Value.string) (h1:=fun _=>rfl) (b:=w.heap.size) (xs:=Lib.splitB sep 0 (Lib.countB s sep) s) (by rw[c];have:lim=9223372036854775807:=rfl;omega) (a.alloc _ _);rw[c] at p;exact p
theorem XW (L:Lays.n145 P ρ) (x:P.globalNamed "internal/bytealg.MaxLen" =some (ρ.g 1)) (E:Enters P (ρ.f 145)):FOk P (ρ.f 145) ⟨[.rd .str,.rd .str],[.str,.str,.bool],fun s sep=>aac s sep,none⟩:=by
 refine ⟨fun q M=>(by cases M),fun _=>E,fun _ p J γ S d r f I tV=>?_⟩;obtain ⟨v,O,rfl,⟨B,z,y⟩,o,j,rfl,⟨u,G,N⟩,h⟩:=I;obtain rfl:j= []:=h;obtain ⟨K,b,T⟩:=d;let s:ByteArray:=K;let sep:ByteArray:=b;obtain rfl:B= [v]:=z;obtain rfl:u= [o]:=G;obtain rfl:v= .string s:=(List.cons.inj y).1;obtain rfl:o= .string sep:=(List.cons.inj N).1;obtain ⟨U,k,H⟩:=Option.bind_eq_some_iff.1 (show aac s sep=some r from tV);have k:=bO k;obtain rfl:=ae H;intro w C a;have a:St J p w C:=a;obtain ⟨g,m,A,Q⟩:=(f w a.2.1).len;obtain rfl:=ae (x.symm.trans A);refine (Any.strings_Cut L s sep m w k Q).mono ?_;rintro e V ⟨rfl,n,rfl⟩;refine ⟨_,rfl,⟨_,rfl,rfl,fun i t l=>?_⟩,?_⟩
 ·rcases i with _ | _ | _ | i
  all_goals first | (obtain rfl:=ae l;rfl) | cases l
 ·have F:St J p (w.drewN n) C:=a.drawn rfl rfl rfl rfl;exact D.St.free (R:=Ny) (c:=[.string _]) (D.St.free (R:=Ny) (c:=[.string _]) (D.St.free (R:=II) (c:=[.bool _]) F ⟨rfl,rfl⟩) ⟨rfl,rfl⟩) ⟨rfl,rfl⟩
theorem FH (L:Lays.n137 P ρ) (m:Enters P (ρ.f 137)):FOk P (ρ.f 137) ⟨[.rd .str,.rd (.int .u8)],[.int .i64],fun s c=>zt s c,none⟩:=by
 refine ⟨fun q t=>(by cases t),fun _=>m,fun _ z J γ A d r g o tV=>?_⟩;obtain ⟨v,x,rfl,⟨l,k,j⟩,h,f,rfl,⟨i,n,u⟩,b⟩:=o;obtain rfl:f= []:=b;obtain ⟨p,y,B⟩:=d;let s:ByteArray:=p;let c:Int:=y;obtain rfl:l= [v]:=k;obtain rfl:i= [h]:=n;obtain rfl:v= .string s:=(List.cons.inj j).1;obtain rfl:h= .int .u8 c:=(List.cons.inj u).1;obtain rfl:=ae (show zt s c=some r from tV);intro w C a;have a:St J z w C:=a;refine (Any.strings_IndexByte L s c w).mono ?_;rintro e E ⟨rfl,rfl⟩;exact ⟨_,rfl,rfl,D.St.free (R:=ac3) (c:=[.int .i64 _]) a ⟨rfl,rfl⟩⟩
theorem XX {α:Type} {E:TypeId} {R:Rep α} {I:Hp} {w0 w:World} {v:List Value} {xs:List α} {C:List Ch} (h:St I w0 w (Ch.own (ay E R) v xs::C)):St I w0 w (Ch.own (ay E (NA R)) v xs::C):=by
 obtain ⟨f,b,F,⟨G,K,rfl,⟨e,r⟩,i⟩,j,d⟩:=h;rcases r with ⟨rfl,rfl,rfl⟩ | ⟨g,a,cap,cur,k,hv,n,l,o,m,p,q⟩
 ·exact ⟨f,b,_,⟨_,K,rfl,⟨e,.inl ⟨rfl,rfl,rfl⟩⟩,i⟩,j,d⟩
 ·exact ⟨f,b,_,⟨_,K,rfl,⟨e,.inr ⟨g,a,cap,cur,k,hv,n,l,o,m,p,OwnEls.turn (R:=R) (S:=NA R) rfl (fun c x G s=>NS s) q⟩⟩,i⟩,j,d⟩
theorem Lp {P:Program} {k:FuncId} {ps:List PM} {A B t:Ty} {E:TypeId} {m:curP ps (Option (dens ([A,.sl E t,B] ++outs ps)))} (h:FOk P k ⟨ps,[A,.sl E t,B],m,none⟩):FOk P k ⟨ps,[A,.sl E (.bag t),B],m,none⟩:=by
 refine ⟨fun q e=>(by cases e),fun e=>h.en e,fun _ o J γ n d r a l tV=>?_⟩;refine (h.con rfl o J γ n d r a l tV).imp (fun v hv=>?_) (fun v _ w C g=>?_)
 ·obtain ⟨f,rfl,j,c⟩:=hv;refine ⟨f,rfl,j,fun i u b=>?_⟩;rcases i with _ | _ | _ | i
  ·obtain rfl:=ae b;exact c 0 _ rfl
  ·obtain rfl:=ae b;exact c 1 (.sl E t) rfl
  ·obtain rfl:=ae b;exact c 2 _ rfl
  ·cases b
 ·exact ((XX (g.perm (List.Perm.swap ..))).perm (List.Perm.swap ..))
theorem PV {k:FuncId} {m:ByteArray->Option (Int×Bool)} (u:Enters P k) (h: ∀s r w,m s=some r->LayW P w->Calls P k #[.string s] w fun e l=>e= .returned (.tuple #[.int .i64 r.1,.bool r.2])/\Below w.heap.size w l):FOk P k ⟨[.rd .str],[.int .i64,.bool],fun s=>m s,none⟩:=by
 refine ⟨fun q A=>(by cases A),fun _=>u,fun _ B J γ E d r b y tV=>?_⟩;obtain ⟨v,g,rfl,⟨p,o,n⟩,f⟩:=y;obtain rfl:g= []:=f;obtain ⟨z,F⟩:=d;let s:ByteArray:=z;obtain rfl:p= [v]:=o;obtain rfl:v= .string s:=(List.cons.inj n).1;intro w C a;have a:St J B w C:=a;refine (h s r w tV (b w a.2.1)).mono ?_;rintro e l ⟨rfl,x⟩;refine ⟨_,rfl,⟨_,rfl,rfl,fun i t j=>?_⟩,?_⟩
 ·rcases i with _ | _ | i
  all_goals first | (obtain rfl:=ae j;rfl) | cases j
 ·exact D.St.free (R:=ac3) (c:=[.int .i64 _]) (D.St.free (R:=II) (c:=[.bool _]) (St.belowS a x) ⟨rfl,rfl⟩) ⟨rfl,rfl⟩
end
end R
end Go.Proofs.YtodbpnpbhpeepaaGreatDoor
