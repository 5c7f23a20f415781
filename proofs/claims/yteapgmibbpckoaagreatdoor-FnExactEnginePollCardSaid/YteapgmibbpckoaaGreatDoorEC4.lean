/- FnExactEnginePoll: for every input the law returns true and changes nothing that was there. Part 5 of 9. -/
import Derived.Test.YteapgmibbpckoaaGreatDoorEC3
set_option synthInstance.maxSize 20000
set_option synthInstance.maxHeartbeats 2000000
set_option linter.unusedVariables false
set_option linter.unusedSimpArgs false
set_option linter.unnecessarySimpa false
set_option linter.unusedSectionVars false
set_option maxRecDepth 1000000
namespace Go.Proofs.YteapgmibbpckoaaGreatDoor
open Go.IntKind (i64)
namespace R
open Go.RowKit
open D
inductive Knd
 | num (k:IntKind) | boo | str
 | rd (E:TypeId) (t:Ty)
 | own (E:TypeId) (t:Ty)
 | map (d:MD)
 | tre (T E:TypeId) (t:Ty)
 | bx (T:TypeId) (k:IntKind)
def Knd.den:Knd->Type
 | .num _=>Int
 | .boo=>Bool
 | .str=>ByteArray
 | .rd _ t=>List t.den
 | .own _ t=>List t.den
 | .map d=>List (d.k.den×d.e.den)
 | .tre _ _ t=>Tr t.den
 | .bx _ _=>Int
def afm {a b:MD} (h:a=b) (m:List (a.k.den×a.e.den)):List (b.k.den×b.e.den):=h ▸ m
def LD (d:MD) (x:LV) (chs:List Ent):Option (List (d.k.den×d.e.den)×List Ent):=match x with
 | .own h=>(agG h chs).bind fun r=>if h:MD.beq r.md d=true then some (afm (MD.beq_eq h) r.m,r.rest) else none
 | _=>none
theorem LF {d:MD} {x:LV} {chs:List Ent} {q:List (d.k.den×d.e.den)×List Ent} (h:LD d x chs=some q): ∃b a,x= .own b/\chs.Perm ((b,a,d.ck q.1)::q.2):=by
 unfold LD at h;split at h
 ·rename_i b;have ⟨r,e,h⟩:=bind_some h;have hp:=NN e;have ⟨a,f,m,rest⟩:=r;split at h
  ·rename_i c;cases MD.beq_eq c;cases ae h;exact ⟨b,a,rfl,hp⟩
  grind
 grind
def P0 (T:TypeId) (k:IntKind) (x:LV) (chs:List Ent):Option (Int×List Ent):=match x with
 | .ptr h off=>bW (Nat.beq off 0) ((uS h chs).bind fun b=>bW (Nat.beq b.T T) (match b.cells with
  | [c] =>(IP k c).bind fun d=>some (d,b.rest)
  | _=>none))
 | _=>none
theorem LG {T:TypeId} {k:IntKind} {x:LV} {chs:List Ent} {q:Int×List Ent} (h:P0 T k x chs=some q): ∃e a c,x= .ptr e 0/\IP k c=some q.1/\chs.Perm ((e,a,.blk T [c])::q.2):=by
 cases x with
 | ptr e off =>
  have ⟨l,h⟩:=ak (show bW (Nat.beq off 0) _=some q from h);cases aw l;have ⟨b,n,o⟩:=bind_some h;have ⟨g,j⟩:=ak o;have hp:=mz n;have ⟨a,m,cells,rest⟩:=b;obtain rfl:m=T:=aw g
  match cells,j,hp with
  | [c],h,hp =>
   have ⟨d,i,f⟩:=bind_some (show (IP k c).bind _=some q from h);cases ae f;exact ⟨e,a,c,rfl,i,hp⟩
  | [],h,_=>cases h
  | _::_::_,h,_=>cases h
 | _=>cases h
def aaU:List Knd->Type
 | [] =>Unit
 | [k] =>k.den
 | k::l::ks=>k.den×aaU (l::ks)
def ui:List Knd->Type
 | [] =>Unit
 | k::ks=>k.den×ui ks
def toN:(ks:List Knd)->aaU ks->ui ks
 | [],_=>()
 | [_],d=>(d,())
 | _::l::ks,d=>(d.1,toN (l::ks) d.2)
def ofN:(ks:List Knd)->ui ks->aaU ks
 | [],_=>()
 | [_],d=>d.1
 | _::l::ks,d=>(d.1,ofN (l::ks) d.2)
theorem sb: ∀(a:List Knd) (d:ui a),toN a (ofN a d)=d
 | [],_=>rfl
 | [_],_=>rfl
 | _::l::a,d=>congrArg (Prod.mk d.1) (sb (l::a) d.2)
def aaV (k:Knd) (x:LV) (chs:List Ent):Option (k.den×List Ent):=match k with
 | .num k=>(IP k x).bind fun d=>some (d,chs)
 | .boo=>(Hw x).bind fun d=>some (d,chs)
 | .str=>(Rb x).bind fun d=>some (d,chs)
 | .rd E t=>(XF E t x).bind fun d=>some (d,chs)
 | .own E t=>(zj E t x chs).bind fun q=>some (q.1,q.2.2)
 | .map d=>LD d x chs
 | .tre T E t=>(aeu T E t x).bind fun d=>some (d,chs)
 | .bx T k=>P0 T k x chs
def agI (id:Nat):(k:Knd)->k.den->LV
 | .num k,d=>.val (.int k d)
 | .boo,d=>.val (.bool d)
 | .str,d=>.val (.string d)
 | .rd E t,d=>.rd ⟨id,[]⟩ (.sl E t) d
 | .own _ _,_=>.own ⟨id,[]⟩
 | .map _,_=>.own ⟨id,[]⟩
 | .tre T E t,d=>.rd ⟨id,[]⟩ (.tree T E t) d
 | .bx _ _,_=>.ptr ⟨id,[]⟩ 0
def aex (id ver:Nat):(k:Knd)->k.den->List Ent
 | .own E t,d=>[(⟨id,[]⟩,ver,.own (.sl E t) d)]
 | .map md,d=>[(⟨id,[]⟩,ver,md.ck d)]
 | .bx T k,d=>[(⟨id,[]⟩,ver,.blk T [.val (.int k d)])]
 | _,_=>[]
def Gv:(ks:List Knd)->List LV->List Ent->Option (ui ks×List Ent)
 | [],[],chs=>some ((),chs)
 | k::ks,x::xs,chs=>(aaV k x chs).bind fun q=>(Gv ks xs q.2).bind fun r=>some ((q.1,r.1),r.2)
 | _,_,_=>none
def Jj (id:Nat):(ks:List Knd)->ui ks->List LV
 | [],_=>[]
 | k::ks,d=>agI id k d.1::Jj (id+1) ks d.2
def Jk (id ver:Nat):(ks:List Knd)->ui ks->List Ent
 | [],_=>[]
 | k::ks,d=>aex id ver k d.1++Jk (id+1) ver ks d.2
section
variable {P:Program} {w0 w:World} {J:Hp} {θ:Th} {n:Nat} {C:List Ch}
theorem St.bun {ls:List Ch} {α:Type} {R:Rep α} {cs:List Value} {x:α} (h:St J w0 w (ls++C)) (d:Bun J ls R cs x):St J w0 w (Ch.own R cs x::C):=by
 have ⟨c,i,F,g,b,f⟩:=h;obtain ⟨G,K,rfl,e,a⟩:=g.split;exact ⟨c,i,G++K,⟨G,K,rfl,d w G e,a⟩,b,f⟩
theorem YD {α:Type} {R:Rep α} {u:Value} {x:α} (h:St J w0 w (Ch.own R [u] x::C)):u.oneCell'=true:=by
 obtain ⟨b,d,F,⟨G,K,rfl,k,e⟩,a,c⟩:=h;exact R.own_one k u (by simp)
theorem adb {k:Knd} {x:LV} {chs:List Ent} {q:k.den×List Ent} (h:aaV k x chs=some q) (z:x.ok P w0 J θ n) (f:St J w0 w (chs.map (toCh P θ)++C)) {θ':Th} {id ver m:Nat} (s:θ' id=x.v θ) (l:id<m) :
  (agI id k q.1).ok P w0 J θ' m/\(agI id k q.1).v θ'=x.v θ/\St J w0 w ((aex id ver k q.1).map (toCh P θ')++(q.2.map (toCh P θ)++C))/\ ∀e∈q.2,e∈chs:=by
 have j:hv θ' ⟨id,[]⟩=x.v θ:=s;cases k with
 | num k =>
  have ⟨d,g,h⟩:=bind_some (show (IP k x).bind _=some q from h);cases ae h;exact ⟨Eq.refl true,(IQ g θ).symm,f,fun e a=>a⟩
 | boo =>
  have ⟨d,g,h⟩:=bind_some (show (Hw x).bind _=some q from h);cases ae h;exact ⟨Eq.refl true,(K8 g θ).symm,f,fun e a=>a⟩
 | str =>
  have ⟨d,g,h⟩:=bind_some (show (Rb x).bind _=some q from h);cases ae h;exact ⟨Eq.refl true,(Pw g θ).symm,f,fun e a=>a⟩
 | rd E t =>
  have ⟨d,g,h⟩:=bind_some (show (XF E t x).bind _=some q from h);cases ae h;refine ⟨⟨l,?_⟩,j,f,fun e a=>a⟩;grind[DI]
 | tre T E t =>
  have ⟨d,g,h⟩:=bind_some (show (aeu T E t x).bind _=some q from h);cases ae h;refine ⟨⟨l,?_⟩,j,f,fun e a=>a⟩;grind[Nr]
 | own E t =>
  have ⟨r,A,h⟩:=bind_some (show (zj E t x chs).bind _=some q from h);cases ae h;have ⟨p,v⟩:=DL A P J θ;have o:St J w0 w (Ch.own (Ty.sl E t).rep [x.v θ] r.1::(r.2.2.map (toCh P θ)++C)):=by
   refine St.bun ?_ v
   have:=f.perm ((p.map (toCh P θ)).append_right C)
   grind
  refine ⟨⟨l,by grind[YD]⟩,j,?_,fun e a=>p.mem_iff.2 (by grind)⟩;show St J w0 w (Ch.own _ [hv θ' ⟨id,[]⟩] _::_);simp_all
 | map d =>
  obtain ⟨i,b,rfl,p⟩:=LF (show LD d x chs=some q from h);have o:St J w0 w (toCh P θ (i,b,d.ck q.1)::(q.2.map (toCh P θ)++C)):=by
   have:=f.perm ((p.map (toCh P θ)).append_right C)
   exact this
  have u:hv θ i=LV.v θ (.own i):=rfl;have B:St J w0 w (@Ch.mp P d.K d.E d.k.den d.e.den d.k.dec d.k.lit d.k.ok d.e.lit d.e.z (hv θ i) (show List (d.k.den×d.e.den) from q.1)::(q.2.map (toCh P θ)++C)):=o;refine ⟨⟨l,by rw[j];exact z.2⟩,j,?_,fun e a=>p.mem_iff.2 (by grind)⟩;show St J w0 w (@Ch.mp P d.K d.E d.k.den d.e.den d.k.dec d.k.lit d.k.ok d.e.lit d.e.z (hv θ' ⟨id,[]⟩) (show List (d.k.den×d.e.den) from q.1)::_);simp_all
 | bx T k =>
  obtain ⟨i,b,c,rfl,y,p⟩:=LG (show P0 T k x chs=some q from h);have o:=f.perm ((p.map (toCh P θ)).append_right C);have u:bk (hv θ' ⟨id,[]⟩)=bk (hv θ i):=by rw[j];rfl
  refine ⟨l,?_,?_,fun e a=>p.mem_iff.2 (by grind)⟩
  ·show Value.pointer (some ⟨bk (hv θ' ⟨id,[]⟩),0,none⟩)=_;rw[u];rfl
  ·show St J w0 w (Ch.blk (bk (hv θ' ⟨id,[]⟩)) [.int k _] T::_);rw[u,<-IQ y θ];exact o
theorem Dh: ∀ {c:List Knd} {xs:List LV} {chs:List Ent} {q:ui c×List Ent} {id ver:Nat} {C:List Ch},Gv c xs chs=some q->(∀x∈xs,x.ok P w0 J θ n)->St J w0 w (chs.map (toCh P θ)++C)-> ∀ {θ':Th} {m:Nat},(∀i x,xs[i]? =some x->θ' (id+i)=x.v θ)->id+c.length<=m->
  (∀x∈Jj id c q.1,x.ok P w0 J θ' m)/\(Jj id c q.1).map (·.v θ')=xs.map (·.v θ)/\St J w0 w ((Jk id ver c q.1).map (toCh P θ')++(q.2.map (toCh P θ)++C))/\ ∀e∈q.2,e∈chs
 | [],[],chs,q,id,ver,C,h,_,hS,θ',m,_,_=>by
  cases ae (show some _=some q from h);exact ⟨fun x f=>(by cases f),rfl,hS,fun e g=>g⟩
 | k::c,x::xs,chs,q,id,ver,C,h,f,hS,θ',m,hid,hm=>by
  have ⟨a,p,h⟩:=bind_some (show (aaV k x chs).bind _=some q from h);have ⟨b,o,h⟩:=bind_some h;cases ae h;have j:id<m:=by rw[aM] at hm;omega
  have ⟨s,v,r,l⟩:=adb (ver:=ver) p (f x (by simp)) hS (θ':=θ') (id:=id) (m:=m) (hid 0 x rfl) j;have ⟨z,A,t,u⟩:=Dh (id:=id+1) (ver:=ver) (C:=(aex id ver k a.1).map (toCh P θ')++C) o (fun y d=>f y (by grind)) (r.perm (List.perm_append_comm_assoc _ _ _)) (θ':=θ') (m:=m) (fun i y d=>by
   have:=hid (i+1) y d
   grind) (by grind)
  refine ⟨fun y d=>?_,?_,?_,fun e g=>l e (u e g)⟩
  ·rcases az d with rfl | d
   ·exact s
   grind
  ·grind[LV.v,Jj]
  ·refine t.perm ?_;grind[List.perm_append_comm_assoc,Jk,toCh,aex,aD]
 | [],_::_,chs,q,id,ver,C,h,_,_,_,_,_,_=>by cases h
 | _::_,[],chs,q,id,ver,C,h,_,_,_,_,_,_=>by cases h
end
inductive It
 | slot (t:Nat) (k:Knd)
 | box (t:Nat) (ks:List Knd)
 | row (t:Nat) (E:TypeId) (u:Ty)
 | agg (t:Nat) (ks:List Knd)
 | par (i:Nat) (p:List Nat) (E:TypeId) (u:Ty)
 | gone (t:Nat)
 | cur (t:Nat)
 | pbx (i:Nat) (ks:List Knd)
def It.s (t:Nat):It:=.slot t (.num .i64)
inductive RIt
 | slot (t:Nat) (k:Knd)
 | box (h:Hdr) (T:TypeId) (ks:List Knd)
 | row (h:Hdr) (E:TypeId) (u:Ty)
 | agg (t:Nat) (k:Knd) (ks:List Knd)
 | cur (h:Hdr) (T:TypeId) (g:Hdr) (E:TypeId) (xs:List Int)
def RIt.ks:RIt->List Knd
 | .slot _ k=>[k]
 | .box _ _ ks=>ks
 | .row _ E u=>[.own E u]
 | .agg _ k ks=>k::ks
 | .cur _ _ _ _ _=>[.num .i64,.num .i64]
def uT:List RIt->List Knd
 | [] =>[]
 | r::rs=>r.ks++uT rs
def Xg:Option AV->Option Hdr
 | some (.one (.ptr h off))=>if Nat.beq off 0 then some h else none
 | _=>none
def afn:Option AV->Option Hdr
 | some (.one (.own h))=>some h
 | _=>none
theorem ade {v:Option AV} {h:Hdr} (k:afn v=some h):v=some (.one (.own h)):=by
 unfold afn at k;grind
def afo (h:Hdr) (chs:List Ent):Option (Hdr×TypeId×TypeId×List Int):=(pull h chs).bind fun r=>match r.1.2.2 with
 | .blk T [.rd g (.sl E (.int .u8)) xs,_,_] =>some (g,T,E,xs)
 | _=>none
theorem P1 {h g:Hdr} {T E:TypeId} {xs:List Int} {chs:List Ent} (k:afo h chs=some (g,T,E,xs)): ∃ver a b,(h,ver,Chk.blk T [.rd g (.sl E (.int .u8)) xs,a,b])∈chs:=by
 have ⟨r,c,d⟩:=bind_some k;have ⟨p,e⟩:=gf c;grind
def resolve (s:Sg):It->Option RIt
 | .slot t k=>some (.slot t k)
 | .box t ks=>(Xg (look s.env t)).bind fun h=>(uS h s.chs).bind fun b=>some (.box h b.T ks)
 | .row t E u=>(afn (look s.env t)).bind fun h=>some (.row h E u)
 | .agg t ks=>match ks with
  | k::ks=>some (.agg t k ks)
  | [] =>none
 | .par i p E u=>bW (Nat.blt i s.nxt) (some (.row ⟨i,p⟩ E u))
 | .gone _=>none
 | .pbx i ks=>(uS ⟨i,[]⟩ s.chs).bind fun b=>some (.box ⟨i,[]⟩ b.T ks)
 | .cur t=>(Xg (look s.env t)).bind fun h=>(afo h s.chs).bind fun q=>some (.cur h q.2.1 q.1 q.2.2.1 q.2.2.2)
def Di (s:Sg):List It->Option (List RIt)
 | [] =>some []
 | i::is=>(resolve s i).bind fun r=>(Di s is).bind fun rs=>some (r::rs)
def oneOf:Option AV->Option LV
 | some (.one x)=>some x
 | _=>none
theorem YE {v:Option AV} {x:LV} (h:oneOf v=some x):v=some (.one x):=by
 unfold oneOf at h;grind
def UU:Option AV->Option (List LV)
 | some (.agg xs)=>some xs
 | _=>none
theorem YF {v:Option AV} {x:List LV} (h:UU v=some x):v=some (.agg x):=by
 unfold UU at h;grind
def YG (env:List (Nat×Nat×AV)) (chs:List Ent):(r:RIt)->Option (ui r.ks×List Ent)
 | .slot t k=>(oneOf (look env t)).bind fun x=>Gv [k] [x] chs
 | .box h T ks=>(uS h chs).bind fun b=>bW (Nat.beq b.T T) (Gv ks b.cells b.rest)
 | .row h E u=>Gv [.own E u] [.own h] chs
 | .agg t k ks=>(UU (look env t)).bind fun xs=>Gv (k::ks) xs chs
 | .cur h T g E _=>(yn h T E chs).bind fun q=>bW (Hdr.beq q.g g) (some ((q.d.2.1,q.d.2.2,()),q.rest))
def YH:(ks ls:List Knd)->ui ks->ui ls->ui (ks++ls)
 | [],_,_,e=>e
 | _::ks,ls,d,e=>(d.1,YH ks ls d.2 e)
def aaW:(ks ls:List Knd)->ui (ks++ls)->ui ks
 | [],_,_=>()
 | _::ks,ls,d=>(d.1,aaW ks ls d.2)
def adf:(ks ls:List Knd)->ui (ks++ls)->ui ls
 | [],_,d=>d
 | _::ks,ls,d=>adf ks ls d.2
theorem NP: ∀(a ls:List Knd) (d:ui a) (e:ui ls),aaW a ls (YH a ls d e)=d
 | [],_,_,_=>rfl
 | _::a,ls,d,e=>congrArg (Prod.mk d.1) (NP a ls d.2 e)
theorem NQ: ∀(a ls:List Knd) (d:ui a) (e:ui ls),adf a ls (YH a ls d e)=e
 | [],_,_,_=>rfl
 | _::a,ls,d,e=>NQ a ls d.2 e
def adg (env:List (Nat×Nat×AV)):(rs:List RIt)->List Ent->Option (ui (uT rs)×List Ent)
 | [],chs=>some ((),chs)
 | r::rs,chs=>(YG env chs r).bind fun q=>(adg env rs q.2).bind fun p=>some (YH r.ks (uT rs) q.1 p.1,p.2)
def aey (id:Nat):(r:RIt)->ui r.ks->List (Nat×Nat×AV)
 | .slot t k,d=>[(t,id,.one (agI id k d.1))]
 | .agg t k ks,d=>[(t,id,.agg (Jj id (k::ks) d))]
 | _,_=>[]
def aez (id ver:Nat):(r:RIt)->ui r.ks->List Ent
 | .slot _ k,d=>Jk id ver [k] d
 | .agg _ k ks,d=>Jk id ver (k::ks) d
 | .box h T ks,d=>(h,ver,.blk T (Jj id ks d))::Jk id ver ks d
 | .row h E u,d=>[(h,ver,.own (.sl E u) d.1)]
 | .cur h T g E xs,d=>[(h,ver,.blk T [.rd g (.sl E (.int .u8)) xs,.val (.int .i64 d.1),.val (.int .i64 d.2.1)])]
def Gw:(id:Nat)->(rs:List RIt)->ui (uT rs)->List (Nat×Nat×AV)
 | _,[],_=>[]
 | id,r::rs,d=>aey id r (aaW r.ks (uT rs) d)++Gw (id+r.ks.length) rs (adf r.ks (uT rs) d)
def A6 (ver:Nat):(id:Nat)->(rs:List RIt)->ui (uT rs)->List Ent
 | _,[],_=>[]
 | id,r::rs,d=>aez id ver r (aaW r.ks (uT rs) d)++A6 ver (id+r.ks.length) rs (adf r.ks (uT rs) d)
structure Cut where
 nxt:Nat
 its:List RIt
 env:List (Nat×Nat×AV)
 chs:List Ent
def Cut.top (c:Cut):Nat:=c.nxt+(uT c.its).length
def Cut.at (c:Cut) (d:ui (uT c.its)):Sg:=⟨Gw c.nxt c.its d++c.env,A6 c.top c.nxt c.its d++c.chs,c.top+1⟩
def ahs (t:Nat):List Nat->Bool
 | [] =>false
 | u::l=>Nat.beq u t || ahs t l
def RI (l:List (Nat×Nat×AV)) (t:Nat):Option Nat:=match l with
 | [] =>none
 | (u,k,_)::l=>if Nat.beq u t then some k else RI l t
def Dj (env:List (Nat×Nat×AV)):List (Nat×Nat×AV)->Bool
 | [] =>true
 | e::l=>(match RI env e.1 with | some v=>Nat.beq v e.2.1 | none=>false)&&Dj env l
def NR:List Ent->List Ent->Option (List Ent)
 | [],chs=>some chs
 | e::l,chs=>(pull e.1 chs).bind fun r=>bW (Nat.beq r.1.2.1 e.2.1) (NR l r.2)
def distinctH:List Ent->Bool
 | [] =>true
 | e::l=>Gt e.1 l&&distinctH l
def afp:Option AV->List Hdr
 | some (.one (.ptr h _))=>[h]
 | _=>[]
def sd (s:Sg):List RIt->List Hdr
 | [] =>[]
 | .slot t (.bx _ _)::rs=>afp (look s.env t)++sd s rs
 | .slot t _::rs=>(match look s.env t with | some v=>D9 v | none=>[])++sd s rs
 | .box h _ _::rs=>(match uS h s.chs with | some b=>D9 (.agg b.cells) | none=>[])++sd s rs
 | .row h _ _::rs=>h::sd s rs
 | .cur _ _ _ _ _::rs=>sd s rs
 | .agg t _ _::rs=>(match look s.env t with | some v=>D9 v | none=>[])++sd s rs
def Ea:List Ent->List Hdr
 | [] =>[]
 | (h,_,.own _ _)::l=>h::Ea l
 | _::l=>Ea l
def Cut.of (c:Cut) (s0:Sg):Option (ui (uT c.its)):=match zy (Ea c.chs) (zy (sd s0 c.its) s0) with
 | s=>(adg s.env c.its s.chs).bind fun q=>(NR c.chs q.2).bind fun _=>bW (Dj s.env c.env) (some q.1)
def RIt.hdrs:RIt->List Hdr
 | .slot _ _=>[]
 | .box h _ _=>[h]
 | .row h _ _=>[h]
 | .agg _ _ _=>[]
 | .cur h _ g _ _=>[h,g]
def hdrsR:List RIt->List Hdr
 | [] =>[]
 | r::rs=>r.hdrs++hdrsR rs
def LH:List (Nat×Nat×AV)->List Nat->List (Nat×Nat×AV)
 | [],_=>[]
 | e::l,seen=>match ahs e.1 seen with
  | true=>LH l seen
  | false=>e::LH l (e.1::seen)
theorem wL: ∀ {l:List (Nat×Nat×AV)} {seen:List Nat},(LH l seen).Sublist l
 | [],_=>List.Sublist.refl _
 | e::l,seen=>by
  unfold LH;split
  ·exact wL.cons _
  ·exact wL.cons_cons _
def adh:List It->List It
 | [] =>[]
 | .gone _::is=>adh is
 | i::is=>i::adh is
def adi (s:Sg):List It->List Hdr
 | [] =>[]
 | .gone t::is=>(match look s.env t with
  | some (.one (.ptr h _))=>match uS h s.chs with | some b=>D9 (.agg b.cells) | none=>[]
  | some v=>D9 v
  | none=>[])++adi s is
 | _::is=>adi s is
def Eb (ks:List Nat) (is:List It) (s:Sg):Option Cut:=(Di s (adh is)).bind fun rs=>bW (distinctH s.chs) (some ⟨s.nxt,rs,LH (s.env.filter fun e=> !ahs e.1 ks) [],s.chs.filter fun e=> !ais e.1 (adi s is++(sd s rs++hdrsR rs))⟩)
theorem adj {P:Program} {w0:World} {J:Hp} {θ:Th} {m id ver:Nat} {chs:List Ent} {k:Knd} {d:k.den} (h1:id<m) (b:ver<m): ∀e∈aex id ver k d,okE P w0 J θ m chs e:=by
 cases k with
 | own E t=>intro e a;cases ax a;exact ⟨h1,b,trivial⟩
 | map md=>intro e a;cases ax a;exact ⟨h1,b,trivial⟩
 | bx T k=>intro e a;cases ax a;exact ⟨h1,b,fun x c=>by cases ax c;rfl⟩
 | _=>intro e a;cases a
theorem Dk {P:Program} {w0:World} {J:Hp} {θ:Th} {m ver:Nat} {chs:List Ent} (c:ver<m): ∀ {b:List Knd} {id:Nat} {d:ui b},id+b.length<=m-> ∀e∈Jk id ver b d,okE P w0 J θ m chs e
 | [],_,_,_=>fun e a=>by cases a
 | k::b,id,d,h1=>fun e a=>by
  rw[aM] at h1;rcases aN a with a | a
  ·exact adj (by omega) c e a
  ·exact Dk c (by omega) e a
section
variable {P:Program} {w0 w:World} {J:Hp} {θ:Th} {n:Nat} {C:List Ch}
def RitOk (P:Program) (w0:World) (J:Hp) (θ:Th) (n:Nat):RIt->Prop
 | .cur _ _ g E xs=>LV.ok P w0 J θ n (.rd g (.sl E (.int .u8)) xs)
 | _=>True
def aiz (P:Program) (w0 w:World) (J:Hp) (θ:Th) (env:List (Nat×Nat×AV)) (chs:List Ent) (hs:List Hdr) (len:Nat) (rest:List Ent) (E:Nat->List (Nat×Nat×AV)) (N:Nat->Nat->List Ent):Prop:=
 ∃vals:List Value,vals.length=len/\ ∀(θ':Th) (id ver m:Nat),(∀i v,vals[i]? =some v->θ' (id+i)=v)->id+len<=m->ver<m->(∀h∈hs,hv θ' h=hv θ h/\h.id<m)-> ∀C,St J w0 w (chs.map (toCh P θ)++C)->
  (∀e∈E id,(∀chs',e.2.2.ok P w0 J θ' m chs')/\ ∃x,look env e.1=some x/\e.2.2.v θ'=x.v θ)/\(∀chs',∀e∈N id ver,okE P w0 J θ' m chs' e)/\St J w0 w ((N id ver).map (toCh P θ')++(rest.map (toCh P θ)++C))
theorem YI {env:List (Nat×Nat×AV)} {chs chs0:List Ent} {r:RIt} {q:ui r.ks×List Ent} (h:YG env chs r=some q) (I: ∀e∈env,e.2.2.ok P w0 J θ n chs0) (S: ∀e∈chs,okE P w0 J θ n chs0 e) {n1:Nat} (Q:RitOk P w0 J θ n1 r) :
  aiz P w0 w J θ env chs r.hdrs r.ks.length q.2 (fun id=>aey id r q.1) (fun id ver=>aez id ver r q.1):=by
 cases r with
 | slot t k =>
  have ⟨x,F,h⟩:=bind_some (show (oneOf (look env t)).bind _=some q from h);have F:=YE F
  ·have M:x.ok P w0 J θ n:=by
    have ⟨e,d,K⟩:=wG F
    have:=I e d
    rw[K] at this;exact this
   refine ⟨[x.v θ],rfl,fun θ' id ver m o G f A C H=>?_⟩;have ⟨W,X,V,k4⟩:=Dh (ver:=ver) (C:=C) (id:=id) (θ':=θ') (m:=m) h (fun y N=>by cases ax N;omega) H (fun i y N=>by
    cases i with
    | zero=>simp at N;rw[<-N];exact o 0 _ rfl
    | succ i=>grind) G
   refine ⟨fun e d=>?_,fun l=>Dk f G,V⟩;cases ax d;exact ⟨fun l=>W _ (by simp[Jj]),_,F,(List.cons.inj (show _::_=_::_ from X)).1⟩
 | box A T s =>
  have ⟨b,O,h⟩:=bind_some (show (uS A chs).bind _=some q from h);have ⟨hT,h⟩:=ak h;have hT:=aw hT;have hp:=mz O;have hbk:=S (b.ent A) (hp.mem_iff.2 (by simp));have D: ∀ {s:List Knd} {j:List LV} {chs:List Ent} {q:ui s×List Ent},Gv s j chs=some q->j.length=s.length:=by
   intro s;induction s with
   | nil=>intro j chs q h;cases j with
    | nil=>rfl
    | cons _ _=>cases h
   | cons k s ih=>intro j chs q h;cases j with
    | nil=>cases h
    | cons x j =>
     have ⟨a,R,h⟩:=bind_some (show (aaV k x chs).bind _=some q from h);have ⟨c,Z,h⟩:=bind_some h;grind
  have hl:=D h;have hvl:(b.cells.map (·.v θ)).length=s.length:=by rw[List.length_map];exact hl
  have L: ∀ {θ':Th} {id:Nat},(∀i v,(b.cells.map (·.v θ))[i]? =some v->θ' (id+i)=v)-> ∀i x,b.cells[i]? =some x->θ' (id+i)=x.v θ:=fun o i x F=>o i _ (by grind);refine ⟨b.cells.map (·.v θ),hvl,fun θ' id ver m o G f B C H=>?_⟩
  ·have hS':St J w0 w (b.rest.map (toCh P θ)++(Ch.blk (bk (hv θ A)) (b.cells.map (·.v θ)) b.T::C)):=by
    refine (H.perm ((hp.map (toCh P θ)).append_right C)).perm ?_;exact (List.perm_middle (l₁:=b.rest.map (toCh P θ)) (l₂:=C)).symm
   have ⟨W,X,V,k4⟩:=Dh (ver:=ver) (id:=id) (θ':=θ') (m:=m) h hbk.2.2 hS' (L o) G;have ⟨g1,Y⟩:=B A (by simp[RIt.hdrs]);refine ⟨fun e d=>(by cases d),fun l e d=>?_,?_⟩
   ·rcases az d with rfl | d
    ·exact ⟨Y,f,W⟩
    ·exact Dk f G e d
   ·show St J w0 w (Ch.blk (bk (hv θ' A)) ((Jj id s q.1).map (·.v θ')) T::((Jk id ver s q.1).map (toCh P θ')++(q.2.map (toCh P θ)++C)));refine V.perm ?_;grind[aD,List.perm_middle]
 | agg t k s =>
  have ⟨j,F,h⟩:=bind_some (show (UU (look env t)).bind _=some q from h);have F:=YF F;have M: ∀x∈j,x.ok P w0 J θ n:=by
   have ⟨e,d,K⟩:=wG F
   have:=I e d
   rw[K] at this;exact this
  have D: ∀ {s:List Knd} {j:List LV} {chs:List Ent} {q:ui s×List Ent},Gv s j chs=some q->j.length=s.length:=by
   intro s;induction s with
   | nil=>intro j chs q h;cases j with
    | nil=>rfl
    | cons _ _=>cases h
   | cons k s ih=>intro j chs q h;cases j with
    | nil=>cases h
    | cons x j =>
     have ⟨a,R,h⟩:=bind_some (show (aaV k x chs).bind _=some q from h);have ⟨c,Z,h⟩:=bind_some h;grind
  refine ⟨j.map (·.v θ),by rw[List.length_map];exact D h,fun θ' id ver m o G f A C H=>?_⟩;have ⟨W,X,V,k4⟩:=Dh (ver:=ver) (C:=C) (id:=id) (θ':=θ') (m:=m) h M H (fun i y N=>o i _ (by grind)) G;refine ⟨fun e d=>?_,fun l=>Dk f G,V⟩;cases ax d;refine ⟨fun l=>W,_,F,?_⟩;show Value.agg ((Jj id (k::s) q.1).map (·.v θ')).toArray=Value.agg (j.map (·.v θ)).toArray;rw[X]
 | row A E u =>
  have ⟨a,R,h⟩:=bind_some (show (aaV (.own E u) (.own A) chs).bind _=some q from h);have ⟨c,Z,h⟩:=bind_some h;cases ae (show some ((),a.2)=some c from Z);cases ae h;have ⟨r,hr,R⟩:=bind_some (show (zj E u (.own A) chs).bind _=some a from R);cases ae R;have ⟨p,O⟩:=DL hr P J θ;refine ⟨[hv θ A],rfl,fun θ' id ver m o G f B C H=>?_⟩;have K:St J w0 w (Ch.own (Ty.sl E u).rep [hv θ A] r.1::(r.2.2.map (toCh P θ)++C)):=by
   refine St.bun ?_ O
   have:=H.perm ((p.map (toCh P θ)).append_right C)
   grind
  refine ⟨fun e d=>(by cases d),fun l e d=>?_,?_⟩
  ·cases ax d;exact ⟨(B A (by simp[RIt.hdrs])).2,f,trivial⟩
  ·show St J w0 w (Ch.own _ [hv θ' A] _::_);simp_all[RIt.hdrs]
 | cur A T g E j =>
  have ⟨b,O,h⟩:=bind_some (show (yn A T E chs).bind _=some q from h);have ⟨hg,h⟩:=ak h;cases ae h;have hg:=Hdr.beq_eq hg;have ⟨p,ver0,d⟩:=qn O;refine ⟨[.int .i64 b.d.2.1,.int .i64 b.d.2.2],rfl,fun θ' id ver m o G f B C H=>?_⟩;have ⟨g1,Y⟩:=B A (by simp[RIt.hdrs]);have ⟨g3,g4⟩:=B g (by simp[RIt.hdrs]);refine ⟨fun e d=>(by cases d),fun l e d=>?_,?_⟩
  ·cases ax d;refine ⟨Y,f,fun z U=>?_⟩;rcases az U with rfl | U
   ·exact ⟨g4,by rw[g3];exact Q.2⟩
   ·rcases az U with rfl | U
    ·rfl
    ·cases ax U
     rfl
  ·show St J w0 w (Ch.blk (bk (hv θ' A)) [hv θ' g,.int .i64 b.d.2.1,.int .i64 b.d.2.2] T::(b.rest.map (toCh P θ)++C));have K:=H.perm ((p.map (toCh P θ)).append_right C);rw[List.map_cons,d] at K;rw[g1,g3,<-hg];exact K
theorem YJ {k:Knd} {x:LV} {chs:List Ent} {q:k.den×List Ent} (h:aaV k x chs=some q): ∀e∈q.2,e∈chs:=by
 cases k with
 | num k=>have ⟨d,b,h⟩:=bind_some (show (IP k x).bind _=some q from h);grind
 | boo=>have ⟨d,b,h⟩:=bind_some (show (Hw x).bind _=some q from h);grind
 | str=>have ⟨d,b,h⟩:=bind_some (show (Rb x).bind _=some q from h);grind
 | rd E t=>have ⟨d,b,h⟩:=bind_some (show (XF E t x).bind _=some q from h);grind
 | own E t =>
  have ⟨r,f,h⟩:=bind_some (show (zj E t x chs).bind _=some q from h);exact fun e i=>(DM f).mem_iff.2 (by grind)
 | tre T E t=>have ⟨d,b,h⟩:=bind_some (show (aeu T E t x).bind _=some q from h);grind
 | map d =>
  obtain ⟨g,a,-,p⟩:=LF (show LD d x chs=some q from h);grind
 | bx T k =>
  obtain ⟨g,a,c,-,-,p⟩:=LG (show P0 T k x chs=some q from h);grind
theorem vo: ∀ {c:List Knd} {xs:List LV} {chs:List Ent} {q:ui c×List Ent},Gv c xs chs=some q-> ∀e∈q.2,e∈chs
 | [],[],chs,q,h=>by cases ae (show some _=some q from h);grind
 | k::c,x::xs,chs,q,h=>by
  have ⟨a,g,h⟩:=bind_some (show (aaV k x chs).bind _=some q from h);have ⟨b,d,h⟩:=bind_some h;cases ae h;exact fun e f=>YJ g e (vo d e f)
 | [],_::_,chs,q,h=>by cases h
 | _::_,[],chs,q,h=>by cases h
theorem UV {env:List (Nat×Nat×AV)} {chs:List Ent} {r:RIt} {q:ui r.ks×List Ent} (h:YG env chs r=some q): ∀e∈q.2,e∈chs:=by
 cases r with
 | slot t k =>
  have ⟨x,d,h⟩:=bind_some (show (oneOf (look env t)).bind _=some q from h);exact vo h
 | box hh T ks =>
  have ⟨b,a,h⟩:=bind_some (show (uS hh chs).bind _=some q from h);have ⟨i,h⟩:=ak h;exact fun e c=>(mz a).mem_iff.2 (bp _ (vo h e c))
 | row hh E u=>exact vo (show Gv [.own E u] [.own hh] chs=some q from h)
 | cur hh T g E xs =>
  have ⟨b,a,h⟩:=bind_some (show (yn hh T E chs).bind _=some q from h);have ⟨f,h⟩:=ak h;cases ae h;exact fun e c=>(qn a).1.mem_iff.2 (bp _ c)
 | agg t k ks =>
  have ⟨x,d,h⟩:=bind_some (show (UU (look env t)).bind _=some q from h);exact vo h
theorem P2 {env:List (Nat×Nat×AV)} {chs0:List Ent} {n1:Nat} (j: ∀e∈env,e.2.2.ok P w0 J θ n chs0): ∀ {rs:List RIt} {chs:List Ent} {q:ui (uT rs)×List Ent},adg env rs chs=some q->(∀e∈chs,okE P w0 J θ n chs0 e)->(∀r∈rs,RitOk P w0 J θ n1 r)->
  (∀e∈q.2,e∈chs)/\aiz P w0 w J θ env chs (hdrsR rs) (uT rs).length q.2 (fun id=>Gw id rs q.1) (fun id c=>A6 c id rs q.1)
 | [],chs,q,h,_,_=>by
  cases ae (show some _=some q from h);exact ⟨fun e d=>d,[],rfl,fun θ' id c m _ _ _ _ C s=>⟨fun e d=>(by cases d),fun f e d=>(by cases d),s⟩⟩
 | r::rs,chs,q,h,hchs,hrit=>by
  have ⟨a,t,h⟩:=bind_some (show (YG env chs r).bind _=some q from h);have ⟨b,z,h⟩:=bind_some h;cases ae h;have g:=UV t;have ⟨y,F,I⟩:=YI (w:=w) t j hchs (hrit r (by simp));have ⟨D,H,E,B⟩:=P2 j z (fun e d=>hchs e (g e d)) fun x o=>hrit x (by grind);refine ⟨fun e d=>g e (D e d),y++H,by rw[aF,F,E];exact (aF ..).symm,fun θ' id c m k p l u C s=>?_⟩;have p:id+(r.ks.length+(uT rs).length)<=m:=by
   have:(uT (r::rs)).length=r.ks.length+(uT rs).length:=aF ..
   rw[this] at p;exact p
  have ⟨Q,L,A⟩:=I θ' id c m (fun i v K=>k i v (by grind)) (by omega) l (fun x o=>u x (bq _ o)) C s;have ⟨M,N,G⟩:=B θ' (id+r.ks.length) c m (fun i v K=>by
   have:=k (r.ks.length+i) v (by grind)
   grind) (by omega) l (fun x o=>u x (bw _ o)) ((aez id c r a.1).map (toCh P θ')++C) (A.perm (List.perm_append_comm_assoc _ _ _))
  have O:Gw id (r::rs) (YH r.ks (uT rs) a.1 b.1)=aey id r a.1++Gw (id+r.ks.length) rs b.1:=by
   show aey id r (aaW _ _ _)++Gw _ rs (adf _ _ _)=_;rw[NP,NQ]
  have R:A6 c id (r::rs) (YH r.ks (uT rs) a.1 b.1)=aez id c r a.1++A6 c (id+r.ks.length) rs b.1:=by
   show aez id c r (aaW _ _ _)++A6 c _ rs (adf _ _ _)=_;rw[NP,NQ]
  show (∀e∈Gw id (r::rs) (YH r.ks (uT rs) a.1 b.1),_)/\(∀f,∀e∈A6 c id (r::rs) (YH r.ks (uT rs) a.1 b.1),_)/\St J w0 w ((A6 c id (r::rs) (YH r.ks (uT rs) a.1 b.1)).map _++_);refine ⟨fun e d=>?_,fun f e d=>?_,?_⟩
  ·grind
  ·grind
  ·refine G.perm ?_;grind[List.perm_append_comm_assoc,A6,toCh,aez,aD]
end
def NS:Chk->Prop
 | .hole _ _ _ _ _ _ _ _ _ _=>False
 | _=>True
theorem YK {id ver:Nat} {k:Knd} {d:k.den} : ∀e∈aex id ver k d,e.2.1=ver/\NS e.2.2:=by
 cases k with
 | own E t=>intro e a;cases ax a;exact ⟨rfl,trivial⟩
 | map md=>intro e a;cases ax a;exact ⟨rfl,trivial⟩
 | bx T k=>intro e a;cases ax a;exact ⟨rfl,trivial⟩
 | _=>intro e a;cases a
theorem zz {ver:Nat} : ∀ {b:List Knd} {id:Nat} {d:ui b},∀e∈Jk id ver b d,e.2.1=ver/\NS e.2.2
 | [],_,_=>fun e a=>by cases a
 | k::b,id,d=>fun e a=>by
  rcases aN a with a | a
  ·exact YK e a
  ·exact zz e a
theorem LI {ver:Nat} : ∀ {rs:List RIt} {id:Nat} {d:ui (uT rs)},∀e∈A6 ver id rs d,e.2.1=ver/\NS e.2.2
 | [],_,_=>fun e a=>by cases a
 | r::rs,id,d=>fun e a=>by
  rcases aN a with a | a
  ·cases r with
   | slot t k=>exact zz e a
   | box h T ks =>
    rcases az a with rfl | a
    ·exact ⟨rfl,trivial⟩
    ·exact zz e a
   | row h E u=>cases ax a;exact ⟨rfl,trivial⟩
   | agg t k ks=>exact zz e a
   | cur h T g E xs=>cases ax a;exact ⟨rfl,trivial⟩
  ·exact LI e a
theorem LJ: ∀ {rs:List RIt} {id:Nat} {d:ui (uT rs)},(∀e∈Gw id rs d,id<=e.2.1/\e.2.1<id+(uT rs).length)/\(Gw id rs d).Pairwise fun a b=>a.2.1≠b.2.1
 | [],_,_=>⟨fun e c=>(by cases c),List.Pairwise.nil⟩
 | r::rs,id,d=>by
  have h:(uT (r::rs)).length=r.ks.length+(uT rs).length:=aF ..;have ⟨j,g⟩:=LJ (rs:=rs) (id:=id+r.ks.length) (d:=adf r.ks (uT rs) d);have i: ∀e∈aey id r (aaW r.ks (uT rs) d),e.2.1=id/\0<r.ks.length:=fun e c=>by
   cases r with
   | slot t k=>cases ax c;exact ⟨rfl,Nat.one_pos⟩
   | agg t k ks=>cases ax c;exact ⟨rfl,Nat.succ_pos _⟩
   | box _ _ _=>cases c
   | row _ _ _=>cases c
   | cur _ _ _ _ _=>cases c
  have f:(aey id r (aaW r.ks (uT rs) d)).Pairwise fun a b=>a.2.1≠b.2.1:=by
   cases r with
   | slot t k=>exact List.pairwise_singleton _ _
   | agg t k ks=>exact List.pairwise_singleton _ _
   | box _ _ _=>exact List.Pairwise.nil
   | row _ _ _=>exact List.Pairwise.nil
   | cur _ _ _ _ _=>exact List.Pairwise.nil
  refine ⟨fun e c=>?_,List.pairwise_append.2 ⟨f,g,fun a l b m=>?_⟩⟩
  ·rcases aN c with c | c
   ·grind
   grind
  grind
theorem P3 {t v:Nat} : ∀ {l:List (Nat×Nat×AV)},RI l t=some v-> ∃x,look l t=some x/\(t,v,x)∈l
 | (u,k,x)::l,h=>by
  unfold RI at h;split at h
  ·simp_all[look,if_pos,Nat.beq_refl]
  ·have ⟨y,a,b⟩:=P3 h;simp_all[look,if_neg]
theorem Ec {env:List (Nat×Nat×AV)} : ∀ {l:List (Nat×Nat×AV)},Dj env l=true-> ∀e∈l,RI env e.1=some e.2.1
 | e::l,h,x,a=>by
  have h:((match RI env e.1 with | some v=>Nat.beq v e.2.1 | none=>false)&&Dj env l)=true:=h;rw[al] at h;rcases az a with rfl | a
  ·grind[hv,aw]
  ·exact Ec h.2 x a
theorem HI: ∀ {l chs rest:List Ent},NR l chs=some rest->(∀e∈l,∀e'∈chs,e'.1=e.1->e'.2.1=e.2.1->e'=e)->chs.Perm (l++rest)
 | [],chs,rest,h,_=>by cases ae (show some _=some rest from h);rfl
 | e::l,chs,rest,h,k=>by
  have ⟨r,f,h⟩:=bind_some (show (pull e.1 chs).bind _=some rest from h);have ⟨hv,h⟩:=ak h;have ⟨p,d⟩:=gf f;have a:=k e (by simp) r.1 (p.mem_iff.2 (by simp)) d (aw hv);rw[a] at p;exact p.trans ((HI h fun x g b c=>k x (by grind) b (p.mem_iff.2 (by grind))).cons e)
theorem B3: ∀ {l:List Ent},distinctH l=true-> ∀a∈l,∀b∈l,a.1=b.1->a=b
 | e::l,h,a,ha,b,hb,hab=>by
  have h:(Gt e.1 l&&distinctH l)=true:=h;rw[al] at h;rcases az ha with d | d
  ·rcases az hb with c | c
   ·rw[d,c]
   ·rw[d] at hab;exact absurd hab.symm (rv h.1 c)
  ·rcases az hb with c | c
   ·grind[absurd,rv]
   ·exact B3 h.2 a d b c hab
theorem UW {l:List (Nat×Nat×AV)} (h:l.Pairwise fun a b=>a.2.1≠b.2.1): ∀a∈l,∀b∈l,a.2.1=b.2.1->a=b:=by
 induction l with
 | nil=>grind
 | cons e l ih =>
  intro a j b i c;have ⟨g,k⟩:=List.pairwise_cons.1 h;rcases az j with f | f
  ·rcases az i with d | d
   ·rw[f,d]
   ·rw[f] at c;exact absurd c (g b d)
  ·rcases az i with d | d
   ·rw[d] at c;exact absurd c.symm (g a f)
   ·exact ih k a f b d c
structure CutOk (P:Program) (w0:World) (c:Cut) (s:Sg) (J0:Hp) (θ0:Th):Prop where
 nxt:c.nxt=s.nxt
 env: ∀e∈c.env,e∈s.env
 nd:c.env.Pairwise fun a b=>a.2.1≠b.2.1
 chs: ∀e∈c.chs,e∈s.chs
 dist:distinctH s.chs=true
 hdr: ∀h∈hdrsR c.its,h.id<s.nxt
 fine:Fine P w0 J0 θ0 s
 rit: ∀r∈c.its,RitOk P w0 J0 θ0 s.nxt r
section
variable {V:Env} {P:Program} {I:Hp} {w0 w:World} {F:Ch} {J J0:Hp} {θ θ0:Th} {s s':Sg} {a:Act} {c:Cut}
theorem zA {l:List Nat} {m:List It} (h:Eb l m s=some c) (o:Fine P w0 J θ s):CutOk P w0 c s J θ:=by
 have ⟨j,D,h⟩:=bind_some h;have ⟨M,h⟩:=ak h;cases ae h;have v: ∀ {m:List It} {j:List RIt},Di s m=some j-> ∀h∈hdrsR j,h.id<s.nxt:=by
  intro m;induction m with
  | nil=>intro j h x f;cases ae (show some _=some j from h);cases f
  | cons i m ih =>
   intro j h x f;have ⟨r,d,h⟩:=bind_some (show (resolve s i).bind _=some j from h);have ⟨K,B,h⟩:=bind_some h;cases ae h;rcases aN f with f | f
   ·cases i with
    | slot t k=>cases ae (show some _=some r from d);cases f
    | gone t=>cases d
    | cur t =>
     have ⟨y,q,d⟩:=bind_some (show (Xg (look s.env t)).bind _=some r from d);have ⟨⟨g,T,E,G⟩,n,d⟩:=bind_some d;cases ae d;have ⟨H,a,b,L⟩:=P1 n;have C:=o.chs _ L;rcases az f with rfl | f
     ·exact C.1
     ·cases ax f;exact (show LV.ok P w0 J θ s.nxt (.rd _ (.sl E (.int .u8)) G) from C.2.2 _ (by simp)).1
    | agg t l =>
     cases l with
     | nil=>cases d
     | cons k l=>cases ae (show some _=some r from d);cases f
    | par i p E u =>
     have ⟨N,d⟩:=ak (show bW (Nat.blt i s.nxt) _=some r from d);cases ae d;cases ax f;simp_all
    | box t l =>
     have ⟨y,q,d⟩:=bind_some (show (Xg (look s.env t)).bind _=some r from d);have ⟨b,n,d⟩:=bind_some d;cases ae d;cases ax f;exact (o.chs _ ((mz n).mem_iff.2 (List.mem_cons_self ..))).1
    | pbx i l =>
     have ⟨b,n,d⟩:=bind_some (show (uS ⟨i,[]⟩ s.chs).bind _=some r from d);cases ae d;cases ax f;exact (o.chs _ ((mz n).mem_iff.2 (List.mem_cons_self ..))).1
    | row t E u =>
     have ⟨y,q,d⟩:=bind_some (show (afn (look s.env t)).bind _=some r from d);cases ae d;cases ax f;have ⟨e,z,O⟩:=wG (ade q)
     have:=o.env e z
     rw[O] at this;exact this.1
   grind
 have A: ∀ {m:List It} {j:List RIt},Di s m=some j-> ∀r∈j,RitOk P w0 J θ s.nxt r:=by
  intro m;induction m with
  | nil=>intro j h x f;cases ae (show some _=some j from h);cases f
  | cons i m ih =>
   intro j h x f;have ⟨r,d,h⟩:=bind_some (show (resolve s i).bind _=some j from h);have ⟨K,B,h⟩:=bind_some h;cases ae h;rcases az f with rfl | f
   ·cases i with
    | slot t k=>cases ae (show some _=some x from d);trivial
    | gone t=>cases d
    | agg t l =>
     cases l with
     | nil=>cases d
     | cons k l=>cases ae (show some _=some x from d);trivial
    | par i p E u =>
     have ⟨N,d⟩:=ak (show bW (Nat.blt i s.nxt) _=some x from d);cases ae d
     trivial
    | box t l =>
     have ⟨y,q,d⟩:=bind_some (show (Xg (look s.env t)).bind _=some x from d);have ⟨b,n,d⟩:=bind_some d;cases ae d
     trivial
    | pbx i l =>
     have ⟨b,n,d⟩:=bind_some (show (uS ⟨i,[]⟩ s.chs).bind _=some x from d);cases ae d
     trivial
    | row t E u =>
     have ⟨y,q,d⟩:=bind_some (show (afn (look s.env t)).bind _=some x from d);cases ae d
     trivial
    | cur t =>
     have ⟨y,q,d⟩:=bind_some (show (Xg (look s.env t)).bind _=some x from d);have ⟨⟨g,T,E,G⟩,n,d⟩:=bind_some d;cases ae d;have ⟨H,a,b,L⟩:=P1 n;exact (show LV.ok P w0 J θ s.nxt (.rd g (.sl E (.int .u8)) G) from (o.chs _ L).2.2 _ (List.mem_cons_self ..))
   grind
 exact ⟨rfl,fun e z=>(List.mem_filter.1 (wL.mem z)).1,(o.nd.filter _).sublist wL,fun e z=>(List.mem_filter.1 z).1,M,v D,o,A D⟩
theorem Ed (j:CutOk P w0 c s J0 θ0) (hS:Sim P I w0 F V.n J θ s' a w) (hFr:Fr s θ0 s' θ) (hJ:J0.le J) {d:ui (uT c.its)} (h:c.of s'=some d): ∃θ',Sim P I w0 F V.n J θ' (c.at d) a w/\Fr s θ0 (c.at d) θ':=by
 unfold Cut.of at h;have ⟨S1,F1⟩:=wK (hs:=sd s' c.its) hS;have ⟨L,F2⟩:=wK (hs:=Ea c.chs) S1;generalize hs1:zy (Ea c.chs) (zy (sd s' c.its) s')=s1 at h L F2;simp only at h;have ⟨q,hq,h⟩:=bind_some h;have ⟨K,C,h⟩:=bind_some h;have ⟨U,h⟩:=ak h;cases ae h;have M:=(hFr.trans F1).trans F2;have l:=M.same;have ⟨N,S,hvl,Q⟩:=P2 (w:=w) (n1:=s.nxt) L.fine.env hq L.fine.chs fun r hr=>by
  have n:=j.rit r hr;cases r with
  | cur h T g E xs=>exact LV.ok_same l (aH _) (show LV.ok P w0 J0 θ0 s.nxt (.rd g (.sl E (.int .u8)) xs) from n) hJ
  | _=>trivial
 let θ':=fun i=>if i<s.nxt then θ i else S.getD (i - s.nxt) undef;have R:Same s.nxt θ θ':=fun i hi=>if_pos hi;have m:=l.trans R (aH _);have Y:c.top=s.nxt+(uT c.its).length:=by unfold Cut.top;rw[j.nxt]
 have ⟨e1,e2,e3⟩:=Q θ' s.nxt c.top (c.top+1) (fun i v hi=>by
  grind) (by omega) (ay _) (fun x Z=>⟨a7 R (j.hdr x Z),by have:=j.hdr x Z;omega⟩) [F] L.st
 have G: ∀e∈c.chs,∀B∈q.2,B.1=e.1->B.2.1=e.2.1->B=e:=fun e b B he' n W=>by
  have z:=j.chs e b;have X:=j.fine.chs e z;rcases M.chs B (N B he') B.1 B.2.1 B.2.2 ⟨rfl,.inl ⟨rfl,rfl⟩⟩ with h3 | ⟨e0,he0,h3⟩
  ·have:=X.2.1;omega
  ·have:=B3 j.dist e0 he0 e z (h3.1.trans n)
   subst this;rcases h3.2 with ⟨h4,h5⟩ | h4
   ·grind
   ·have ⟨y1,y2,y3⟩:=e0;cases y3 with
    | hole over t dd u y f i k off lv =>
     have h5:=h4.1;have h6:=X.2.2.2.1;omega
    | _=>exact h4.elim
 have H:=HI C G;have o:Newer s.nxt s.chs (A6 c.top s.nxt c.its q.1++c.chs):=fun e b h' ver x hs=>by
  rcases aN b with b | b
  ·have ⟨k1,k2⟩:=LI e b;rcases hs.2 with ⟨n,W⟩ | n
   ·omega
   ·have ⟨y1,y2,y3⟩:=e;cases y3 with
    | hole _ _ _ _ _ _ _ _ _ _=>exact k2.elim
    | _=>exact n.elim
  ·exact .inr ⟨e,j.chs e b,hs⟩
 have D: ∀e∈c.env,look s1.env e.1=some e.2.2:=fun e b=>by
  have ⟨x,n,W⟩:=P3 (Ec U e b);have z:=j.env e b
  have:=UW j.fine.nd _ (M.env _ W (j.fine.ver e z)) e z rfl
  grind
 have O:c.at q.1=⟨Gw s.nxt c.its q.1++c.env,A6 c.top s.nxt c.its q.1++c.chs,c.top+1⟩:=by unfold Cut.at;rw[j.nxt]
 have ⟨v1,v2⟩:=LJ (rs:=c.its) (id:=s.nxt) (d:=q.1);refine ⟨θ',?_,by
  rw[O];refine ⟨show s.nxt<=c.top+1 by rw[Y];omega,m,fun e b hv0=>?_,o⟩;rcases aN b with b | b
  ·have:=v1 e b;omega
  ·exact j.env e b⟩
 rw[O];refine ⟨L.le,L.agr.pick _ fun p hp=>?_,?_,fun e b=>?_,fun e b=>?_,List.pairwise_append.2 ⟨v2,j.nd,fun x Z y hy hxy=>?_⟩,fun e b=>?_,L.fine.lay⟩
 ·obtain ⟨e,b,rfl⟩:=List.mem_map.1 hp;rcases aN b with b | b
  ·obtain ⟨-,x,n,W⟩:=e1 e b;show (envL θ s1).lookup e.1=some (e.2.2.v θ');rw[W];exact iV n
  ·have A:=j.fine.env e (j.env e b);show (envL θ s1).lookup e.1=some (e.2.2.v θ');rw[AV.v_same m A,<-AV.v_same l A];exact iV (D e b)
 ·have hch:c.chs.map (toCh P θ')=c.chs.map (toCh P θ):=List.map_congr_left fun e b=>by
   have A:=j.fine.chs e (j.chs e b);rw[qx m A,qx l A]
  show St J w0 w ((A6 c.top s.nxt c.its q.1++c.chs).map (toCh P θ')++ [F]);rw[aU,hch];have n:=e3.perm (List.Perm.append_left _ ((H.map (toCh P θ)).append_right [F]));rw[aU] at n;refine St.left (ds:=K.map (toCh P θ)) (n.perm ?_);rw[aD,aD,aD];exact (List.Perm.append_left _ (List.Perm.append_left _ List.perm_append_comm))
 ·rcases aN b with b | b
  ·exact (e1 e b).1 _
  ·exact AV.ok_same m (show s.nxt<=c.top+1 by omega) o (j.fine.env e (j.env e b)) hJ
 ·rcases aN b with b | b
  ·have:=v1 e b
   show e.2.1<c.top+1;omega
  ·have:=j.fine.ver e (j.env e b)
   show e.2.1<c.top+1;omega
 ·have:=v1 x Z
  have:=j.fine.ver y (j.env y hy)
  omega
 ·rcases aN b with b | b
  ·exact e2 _ e b
  ·exact gx m (show s.nxt<=c.top+1 by omega) o (j.fine.chs e (j.chs e b)) hJ
end
def y6 (t:Nat):List Nat->Bool
 | [] =>false
 | u::l=>Nat.beq u t || y6 t l
theorem qB {t:Nat} : ∀ {l:List Nat},y6 t l=true↔t∈l
 | [] =>by simp[y6]
 | u::l=>by
  unfold y6;rw[Bool.or_eq_true,qB (l:=l),List.mem_cons];grind[aw,Nat.beq_refl]
theorem NT {t:Nat} {l:List Nat} :y6 t l=false↔t∉l:=by
 grind[qB]
def Ee:List Nat->Bool
 | [] =>true
 | u::l=> !y6 u l&&Ee l
theorem vp: ∀ {l:List Nat},Ee l=true->l.Nodup
 | [],_=>List.nodup_nil
 | u::l,h=>by
  unfold Ee at h;rw[al,Bool.not_eq_true',NT] at h;exact List.nodup_cons.2 ⟨h.1,vp h.2⟩
structure OpK where
 reads:List Nat
 needs:List Nat
 gives:List Nat
 src:List (Nat×Option Nat)
structure Skel where
 ops:List OpK
 nres:Nat
 base:List Nat
 pre:List (List Nat)
 fin:List (Nat×Option Nat)
 left:List Nat
structure Sm where
 fact:Nat->(Nat->Value)->Prop
 chunk:Nat->(Nat->Value)->Ch
namespace Skel
def op (p:Skel) (i:Nat):OpK:=p.ops.getD i ⟨[],[],[],[]⟩
def before (p:Skel) (i:Nat):List Nat:=p.pre.getD i []
def srcOf (t:Nat):List (Nat×Option Nat)->Option (Option Nat)
 | [] =>none
 | (u,x)::l=>if Nat.beq u t then some x else srcOf t l
def ev (p:Skel) (L:List (Nat×Value)) (i:Nat) (vs:Nat->Value):Operand->Value
 | .tmp t=>match srcOf t (p.op i).src with
  | some (some j)=>vs j
  | _=>(L.lookup t).getD undef
 | x=>evL L x
end Skel
structure Loc (p:Skel) (q:Sm) (m:Nat):Prop where
 fact: ∀i,i<m-> ∀vs vs',(∀j,j=i\/j∈p.before i->vs' j=vs j)->q.fact i vs->q.fact i vs'
 chB: ∀x,x∈p.base-> ∀vs vs',q.chunk x vs'=q.chunk x vs
 chG: ∀i,i<m-> ∀x,x∈(p.op i).gives-> ∀vs vs',(∀j,j=i\/j∈p.before i->vs' j=vs j)->q.chunk x vs'=q.chunk x vs
def Skel.goal (p:Skel) (q:Sm) (P:Program) (I:Hp) (w0:World) (L:List (Nat×Value)) (i:Nat) (o:Oper):Prop:=
 ∀vs,(∀j,j∈p.before i->q.fact j vs)->
  match Q1 o vs with
  | some true=>OpT P I w0 o (p.ev L i vs) (((p.op i).reads++(p.op i).needs).map (q.chunk · vs)) (fun v=>q.fact i (upd vs i v)) (fun v=>((p.op i).reads++(p.op i).gives).map (q.chunk · (upd vs i v)))
  | some false=>q.fact i (upd vs i undef)/\(p.op i).needs= [] /\(p.op i).gives= []
  | none=>False
def isDst (ops:List Oper) (j t:Nat):Bool:=match ops[j]? with
 | some o=>match o.dst with
  | some u=>Nat.beq u t
  | none=>false
 | none=>false
theorem zB {ops:List Oper} {j t:Nat} :isDst ops j t=true↔(ops.toArray[j]?).bind (·.dst)=some t:=by
 unfold isDst;rw[List.getElem?_toArray];cases ops[j]? with
 | none=>simp
 | some o =>
  simp[aa];cases o.dst with
  | none=>simp
  | some u=>simp
def aaX (l:List Nat) (f:Nat->Bool):Bool:=match l with
 | [] =>false
 | x::l=>f x || aaX l f
def Gn (l:List Nat) (f:Nat->Bool):Bool:=match l with
 | [] =>true
 | x::l=>f x&&Gn l f
theorem NU {f:Nat->Bool} : ∀ {l:List Nat},aaX l f=true↔ ∃x,x∈l/\f x=true
 | [] =>by simp[aaX]
 | x::l=>by unfold aaX;rw[Bool.or_eq_true,NU (l:=l)];simp
theorem vq {f:Nat->Bool} : ∀ {l:List Nat},Gn l f=true↔ ∀x,x∈l->f x=true
 | [] =>by simp[Gn]
 | x::l=>by unfold Gn;rw[al,vq (l:=l)];simp
def agJ (l:List Oper) (k:Nat) (f:Nat->Oper->Bool):Bool:=match l with
 | [] =>true
 | o::l=>f k o&&agJ l (k+1) f
theorem UX {f:Nat->Oper->Bool} : ∀ {l:List Oper} {k:Nat},agJ l k f=true-> ∀i o,l[i]? =some o->f (k+i) o=true
 | [],_,_,i,o,h=>by grind
 | x::l,k,h,i,o,hi=>by
  unfold agJ at h;rw[al] at h;cases i with
  | zero=>grind
  | succ i =>
   have:=UX h.2 i o (by grind)
   grind
def Skel.okOp (p:Skel) (n:Nat) (kn:Nat->Bool) (ops:List Oper) (all:List Nat) (i:Nat) (o:Oper) (b:List Nat) (r:OpK):Bool:=
 noSelect o&&(dstOk n o.dst&&(Gn (edgesOf o) (fun j=>Nat.blt j i) &&
 (Gn b (fun j=>Nat.blt j i&&(y6 j (edgesOf o) || aaX (edgesOf o) fun k=>y6 j (p.before k))) &&
 (Gn (slotsOf ops.toArray o) (fun t=>match srcOf t r.src with
  | none=>false
  | some none=>kn t&&Gn all fun j=> !isDst ops j t || (Nat.beq j i || y6 i (p.before j))
  | some (some j)=>isDst ops j t&&(y6 j b&&Gn all fun k=> !isDst ops k t || (Nat.beq k j || (Nat.beq k i || (y6 k (p.before j) || y6 i (p.before k)))))) &&
 ((match o.guard with
  | none=>true
  | some (g,_)=>match ops[g]? with
   | none=>false
   | some og=>match og.dst with
    | none=>false
    | some t=>match srcOf t r.src with
     | some (some j)=>Nat.beq j g
     | _=>false) &&
 (Gn (r.reads++r.needs) (fun x=>Nat.blt x p.nres&&(y6 x p.base || aaX b fun j=>y6 x (p.op j).gives)) &&
 (Gn r.reads (fun x=>Gn all fun k=>Nat.beq k i || (!y6 x (p.op k).needs || y6 i (p.before k))) &&
 (Gn r.needs (fun x=>Gn all fun k=>Nat.beq k i || !y6 x (p.op k).needs) &&
 (Gn r.gives (fun x=>Nat.blt x p.nres&&(!y6 x p.base&&(!y6 x (r.reads++r.needs)&&Gn all (fun k=>Nat.beq k i || !y6 x (p.op k).gives)))) &&
 (Ee (r.reads++r.needs)&&Ee (r.reads++r.gives)))))))))))
def Skel.ok (p:Skel) (n:Nat) (kn:Nat->Bool) (ops:List Oper):Bool:=
 agJ ops 0 fun i o=>p.okOp n kn ops (List.range ops.length) i o (p.before i) (p.op i)
def Skel.okB (p:Skel) (kn:Nat->Bool) (ops:List Oper):Bool:=
 let all:=List.range ops.length
 Ee p.base&&(Ee p.left&&(Gn p.left (fun x=>(y6 x p.base || aaX all fun j=>y6 x (p.op j).gives)&&Gn all fun j=> !y6 x (p.op j).needs) &&
 (Gn (p.base++all.flatMap fun j=>(p.op j).gives) (fun x=>y6 x p.left || aaX all fun j=>y6 x (p.op j).needs) &&
 p.fin.all fun (t,s)=>match s with
  | none=>kn t&&Gn all fun j=> !isDst ops j t
  | some j=>Nat.blt j ops.length&&(isDst ops j t&&Gn all fun k=> !isDst ops k t || (Nat.beq k j || y6 k (p.before j))))))
def Skel.out (p:Skel) (L:List (Nat×Value)) (vs:Nat->Value):List (Nat×Value):=
 p.fin.map fun (t,s)=>(t,match s with | some j=>vs j | none=>(L.lookup t).getD undef)
structure Inv (p:Skel) (q:Sm) (C:List Ch) (I:Hp) (w0:World) (n:Nat) (L:List (Nat×Value)) (ops:Array Oper) (S:Nat->Bool) (vs:Nat->Value) (a:Act) (w:World):Prop where
 closed: ∀i,S i=true-> ∀j,j∈p.before i->S j=true
 lt: ∀i,S i=true->i<ops.size
 defers:a.defers= []
 size:a.tmps.size=n
 old: ∀t v,L.lookup t=some v->(∀j,S j=true->(ops[j]?).bind (·.dst)≠some t)->a.tmps.getD t undef=v
 new: ∀j t,S j=true->(ops[j]?).bind (·.dst)=some t->(∀k,S k=true->(ops[k]?).bind (·.dst)=some t->k=j\/k∈p.before j)->a.tmps.getD t undef=vs j
 facts: ∀i,S i=true->q.fact i vs
 st: ∃l:List Nat,l.Nodup/\(∀x,x∈l↔(x∈p.base\/ ∃j,S j=true/\x∈(p.op j).gives)/\ ¬ ∃j,S j=true/\x∈(p.op j).needs)/\St I w0 w (l.map (q.chunk · vs)++C)
structure Skel.Good (p:Skel) (n:Nat) (L:List (Nat×Value)) (ops:Array Oper) (i:Nat) (o:Oper):Prop where
 sel:noSelect o=true
 dst:dstOk n o.dst=true
 edges: ∀j,j∈edgesOf o->j<i
 bef: ∀j,j∈p.before i->j<i/\(j∈edgesOf o\/ ∃k,k∈edgesOf o/\j∈p.before k)
 slots: ∀t,t∈slotsOf ops o->(Skel.srcOf t (p.op i).src=some none/\(L.lookup t).isSome=true/\ ∀j,j<ops.size->(ops[j]?).bind (·.dst)=some t->j=i\/i∈p.before j) \/
  ∃j,Skel.srcOf t (p.op i).src=some (some j)/\(ops[j]?).bind (·.dst)=some t/\j∈p.before i/\ ∀k,k<ops.size->(ops[k]?).bind (·.dst)=some t->k=j\/k=i\/k∈p.before j\/i∈p.before k
 guard: ∀g want,o.guard=some (g,want)-> ∃t,(ops[g]?).bind (·.dst)=some t/\Skel.srcOf t (p.op i).src=some (some g)
 have_: ∀x,x∈(p.op i).reads++(p.op i).needs->x<p.nres/\(x∈p.base\/ ∃j,j∈p.before i/\x∈(p.op j).gives)
 keep: ∀x,x∈(p.op i).reads-> ∀k,k<ops.size->x∈(p.op k).needs->k=i\/i∈p.before k
 once: ∀x,x∈(p.op i).needs-> ∀k,k<ops.size->x∈(p.op k).needs->k=i
 give: ∀x,x∈(p.op i).gives->x<p.nres/\x∉p.base/\x∉(p.op i).reads++(p.op i).needs/\ ∀k,k<ops.size->x∈(p.op k).gives->k=i
 nd1:((p.op i).reads++(p.op i).needs).Nodup
 nd2:((p.op i).reads++(p.op i).gives).Nodup
theorem aeA {a b:Nat} :Nat.beq a b=true↔a=b:=⟨aw,fun h=>by simp_all⟩
theorem aeB {a b:Nat} :Nat.blt a b=true↔a<b:=by rw[Nat.blt_eq]
theorem Skel.good_of_ok {p:Skel} {n:Nat} {q:Nat->Bool} {L:List (Nat×Value)} {ops:List Oper} (u: ∀t,q t=true->(L.lookup t).isSome=true) (h:p.ok n q ops=true) {i:Nat} {o:Oper} (hi:ops[i]? =some o):p.Good n L ops.toArray i o:=by
 have h:=UX h i o hi;rw[Nat.zero_add] at h;unfold Skel.okOp at h;simp only[al,vq,NU,qB,aeB,aeA,Bool.or_eq_true,Bool.not_eq_true',NT] at h;have ⟨s,B,f,D,r,a,v,E,G,z,c,l⟩:=h;refine ⟨s,B,f,fun j m=>?_,fun t e=>?_,fun g want y=>?_,fun x b=>v x b,fun x b k A w=>?_,fun x b k A w=>?_,fun x b=>?_,vp c,vp l⟩
 ·grind
 ·have:=r t e
  split at this
  ·grind
  ·simp[al,vq,Bool.or_eq_true,Bool.not_eq_true',aeA,qB] at this;grind[zB]
  ·rename_i j F;simp[al,vq,Bool.or_eq_true,Bool.not_eq_true',aeA,qB] at this;grind[zB]
 ·rw[y] at a;simp only at a;split at a
  ·cases a
  ·rename_i C d;split at a
   ·cases a
   ·rename_i t e;split at a
    ·rename_i j m;refine ⟨t,by rw[List.getElem?_toArray,d];exact e,?_⟩;rw[<-aw a];exact m
    ·cases a
 ·grind
 ·grind
 grind
section
variable {p:Skel} {q:Sm} {kn:Nat->Bool} {C:List Ch} {P:Program} {I:Hp} {w0:World} {n:Nat} {L:List (Nat×Value)} {ops:List Oper} {S:Nat->Bool} {vs:Nat->Value} {a:Act} {w:World} {i:Nat} {o:Oper}
theorem Inv.step (X: ∀t,kn t=true->(L.lookup t).isSome=true) (hl:Loc p q ops.length) (hok:p.ok n kn ops=true) (hg:p.goal q P I w0 L i o) (hi:ops[i]? =some o) (h:Inv p q C I w0 n L ops.toArray S vs a w) (hn:S i=false) (A: ∀j,j∈p.before i->S j=true) {K:Act->World->Prop} {Q:Exit->Act->World->Prop}
  (hK: ∀vs a w,Inv p q C I w0 n L ops.toArray (fun j=>S j || j==i) vs a w->K a w):wpOp P ops.toArray Q i K a w:=by
 have G:=Skel.good_of_ok X hok hi;have him:i<ops.toArray.size:=by have:=(List.getElem?_eq_some_iff.1 hi).1;simpa using this
 have hcl: ∀j,S j=true->i∉p.before j:=fun j c hb=>by rw[h.closed j c i hb] at hn;cases hn
 have slot: ∀t,t∈slotsOf ops.toArray o->a.tmps.getD t undef=p.ev L i vs (.tmp t):=by
  intro t ht;rcases G.slots t ht with ⟨s,z,e3⟩ | ⟨j,s,z,e3,e4⟩
  ·have ⟨v,hv⟩:=Option.isSome_iff_exists.1 z;simp only[Skel.ev,s,hv,Option.getD_some];refine h.old t v hv fun j c H=>?_;grind
  ·simp only[Skel.ev,s];refine h.new j t (A j e3) z fun k m H=>?_;grind
 have hev: ∀x,x∈o.op.operands->a.eval x=p.ev L i vs x:=by
  intro x f;cases x with
  | tmp t =>
   refine slot t ?_;refine bq _ (List.mem_filterMap.2 ⟨.tmp t,by grind,rfl⟩)
  | _=>rfl
 have B:=fun j c=>h.facts j (A j c);have goal:=hg vs B;have main: ∀v w',q.fact i (upd vs i v)->(∃l:List Nat,l.Nodup/\(∀x,x∈l↔(x∈p.base\/ ∃j,(S j || j==i)=true/\x∈(p.op j).gives)/\ ¬ ∃j,(S j || j==i)=true/\x∈(p.op j).needs)/\St I w0 w' (l.map (q.chunk · (upd vs i v))++C))->K (a.put o.dst v) w':=by
  intro v w' hf hst;refine hK (upd vs i v) _ _ ⟨?_,?_,?_,?_,?_,?_,?_,hst⟩
  ·intro j c k m;simp[Bool.or_eq_true,beq_iff_eq] at c⊢;rcases c with c | rfl
   ·exact .inl (h.closed j c k m)
   grind
  ·intro j c;simp[Bool.or_eq_true,beq_iff_eq] at c;rcases c with c | rfl
   ·exact h.lt j c
   omega
  ·cases H:o.dst <;> simp[Act.put,h.defers]
  ·cases H:o.dst <;> simp[Act.put,h.size]
  ·intro t u hu c;have hne:o.dst≠some t:=by
    grind
   have h0:=h.old t u hu fun j hS=>c j (by grind);cases H:o.dst with
   | none=>exact h0
   | some d =>
    show (a.tmps.setIfInBounds d v).getD t undef=u;simp_all
  ·intro j t c H m;simp[Bool.or_eq_true,beq_iff_eq] at c;by_cases R:o.dst=some t
   ·have E:j=i:=by
     rcases c with c | rfl
     ·grind
     ·rfl
    subst E;have T:=G.dst;rw[R] at T;have T:t<n:=by simpa [dstOk] using T
    rw[R,ix];exact D.y7 (by rw[h.size];omega)
   ·have E:j≠i:=by
     rintro rfl;rw[show (ops.toArray[j]?)=some o from by grind] at H;exact R H
    have F:S j=true:=by rcases c with c | e;exact c;exact absurd e E
    rw[Pg E];have h0:=h.new j t F H fun k hk'=>m k (by grind);cases H:o.dst with
    | none=>exact h0
    | some d =>
     show (a.tmps.setIfInBounds d v).getD t undef=_;simp_all
  ·intro j c;simp[Bool.or_eq_true,beq_iff_eq] at c;by_cases e:j=i
   ·grind
   ·have F:S j=true:=by rcases c with c | J;exact c;exact absurd J e
    refine hl.fact j (by simpa using h.lt j F) vs _ (fun k m=>Pg fun J=>?_) (h.facts j F);grind
 have ⟨l,l1,U,l3⟩:=h.st;have M: ∀v x,x∈l->q.chunk x (upd vs i v)=q.chunk x vs:=by
  intro v x f;rcases ((U x).1 f).1 with hb | ⟨j,c,hxj⟩
  ·exact hl.chB x hb vs _
  ·refine hl.chG j (by simpa using h.lt j c) x hxj vs _ fun k m=>Pg fun J=>?_;grind
 unfold wpOp;rw[show (ops.toArray[i]?)=some o from by grind];simp only;have hwant:Region.wanted o (yielded ops.toArray a.tmps)=true↔Q1 o vs=some true:=by
  unfold Region.wanted Q1;cases hgd:o.guard with
  | none=>simp
  | some q =>
   have ⟨g,want⟩:=q;have ⟨t,s,z⟩:=G.guard g want hgd;have ht:t∈slotsOf ops.toArray o:=by
    unfold slotsOf Oper.looksAt;rw[hgd];simp only;rw[s];simp
   have hv:=slot t ht;simp only[Skel.ev,z] at hv;have hy:yielded ops.toArray a.tmps g=match vs g with | .bool b=>some b | _=>none:=by
    unfold yielded;rw[s];simp[aa];rw[Array.getD_eq_getD_getElem?] at hv;cases ht:a.tmps[t]? with
    | none =>
     rw[ht] at hv;rw[<-hv];rfl
    | some u =>
     grind
   grind
 cases hw:Q1 o vs with
 | none=>grind
 | some b =>
  cases b with
  | false =>
   rw[hw] at goal;rw[if_neg (by grind)];refine main undef w goal.1 ⟨l,l1,fun x=>?_,?_⟩
   ·grind
   grind[List.map_congr_left,undef]
  | true =>
   rw[hw] at goal;rw[if_pos (by grind)];refine .inl ?_;have hin: ∀x,x∈(p.op i).reads++(p.op i).needs->x∈l:=by
    intro x f;rw[U];refine ⟨(G.have_ x f).2.imp id fun ⟨j,c,e⟩=>⟨j,A j c,e⟩,fun ⟨k,m,e⟩=>?_⟩;rcases aN f with f | f
    ·rcases G.keep x f k (h.lt k m) e with rfl | J
     ·grind
     grind
    ·have:=G.once x f k (h.lt k m) e
     grind
   let r:=l.filter fun x=> !((p.op i).reads++(p.op i).needs).contains x;have V: ∀x,x∈r↔x∈l/\x∉(p.op i).reads++(p.op i).needs:=by
    simp[r,List.mem_filter]
   have hrn:r.Nodup:=l1.filter _;have N:l.Perm (((p.op i).reads++(p.op i).needs)++r):=by
    refine (List.perm_ext_iff_of_nodup l1 (List.nodup_append.2 ⟨G.nd1,hrn,fun x f y hy e=>?_⟩)).2 fun x=>?_
    ·subst e;exact ((V x).1 hy).2 f
    ·rw[List.mem_append,V];constructor
     ·intro f;by_cases e:x∈(p.op i).reads++(p.op i).needs
      ·exact .inl e
      ·exact .inr ⟨f,e⟩
     ·rintro (e | e)
      ·exact hin x e
      ·exact e.1
   have hs:=l3.perm ((N.map (q.chunk · vs)).append_right C);rw[aU,aD] at hs;have O:=tj G.sel hev;have hu:=goal w _ hs;rw[<-O] at hu;refine hu.wp fun v w' hv=>main v w' hv.1 ⟨((p.op i).reads++(p.op i).gives)++r,?_,fun x=>?_,?_⟩
   ·refine List.nodup_append.2 ⟨G.nd2,hrn,fun x f y hy e=>?_⟩;subst e;rcases aN f with f | f
    ·exact ((V x).1 hy).2 (bq _ f)
    ·obtain ⟨-,W,g2,Y⟩:=G.give x f;rcases ((U x).1 ((V x).1 hy).1).1 with e | ⟨j,c,e⟩
     ·exact W e
     ·have:=Y j (h.lt j c) e
      subst this;rw[hn] at c;cases c
   ·have hgx:x∈(p.op i).gives->x∉p.base/\(∀k,S k=true->x∉(p.op k).needs)/\x∉(p.op i).needs:=by
     intro f;obtain ⟨-,W,g2,Y⟩:=G.give x f;refine ⟨W,fun k m e=>?_,fun e=>g2 (bw _ e)⟩;have hkm:k<ops.length:=by simpa using h.lt k m
     rcases ((Skel.good_of_ok (L:=L) X hok (List.getElem?_eq_getElem hkm)).have_ x (bw _ e)).2 with J | ⟨j,c,J⟩
     ·exact W J
     ·have:=Y j (h.lt j (h.closed k m j c)) J
      subst this;exact hcl k m c
    rw[List.mem_append,V];constructor
    ·rintro (f | ⟨f,hx2⟩)
     ·rcases aN f with f | f
      ·have ⟨s,z⟩:=(U x).1 (hin x (bq _ f));refine ⟨s.imp id fun ⟨j,c,e⟩=>⟨j,by simp[c],e⟩,fun ⟨j,c,e⟩=>?_⟩;simp[Bool.or_eq_true,beq_iff_eq] at c;rcases c with c | rfl
       ·exact z ⟨j,c,e⟩
       ·exact (List.nodup_append.1 G.nd1).2.2 x f x e rfl
      ·have ⟨W,g2,Y⟩:=hgx f;refine ⟨.inr ⟨i,by simp,f⟩,fun ⟨j,c,e⟩=>?_⟩;simp[Bool.or_eq_true,beq_iff_eq] at c;rcases c with c | rfl
       ·exact g2 j c e
       ·exact Y e
     ·have ⟨s,z⟩:=(U x).1 f;refine ⟨s.imp id fun ⟨j,c,e⟩=>⟨j,by simp[c],e⟩,fun ⟨j,c,e⟩=>?_⟩;simp[Bool.or_eq_true,beq_iff_eq] at c;rcases c with c | rfl
      ·exact z ⟨j,c,e⟩
      ·exact hx2 (bw _ e)
    ·rintro ⟨s,z⟩;have e2': ¬ ∃j,S j=true/\x∈(p.op j).needs:=fun ⟨j,c,e⟩=>z ⟨j,by simp[c],e⟩;have e2i:=fun e=>z ⟨i,by simp,e⟩;by_cases Z:x∈(p.op i).gives
     ·exact .inl (bw _ Z)
     ·have hxl:x∈l:=by
       rw[U];refine ⟨s.imp id fun ⟨j,c,e⟩=>?_,e2'⟩;simp[Bool.or_eq_true,beq_iff_eq] at c;rcases c with c | rfl
       ·exact ⟨j,c,e⟩
       ·exact absurd e Z
      by_cases e:x∈(p.op i).reads++(p.op i).needs
      ·rcases aN e with e | e
       ·exact .inl (bq _ e)
       ·exact absurd e e2i
      ·exact .inr ⟨hxl,e⟩
   ·rw[aU,aD]
    have:=List.map_congr_left fun x f=>M v x ((V x).1 f).1
    rw[this];exact hv.2
theorem adk (d: ∀t,kn t=true->(L.lookup t).isSome=true) (r:Loc p q ops.length) (g:p.ok n kn ops=true) (K: ∀i o,ops[i]? =some o->p.goal q P I w0 L i o) {Q:Exit->Act->World->Prop}
  (H: ∀vs a w,Inv p q C I w0 n L ops.toArray (fun j=>decide (j<ops.length)) vs a w->Q .normal a w): ∀(fuel:Nat) (listed:Array Bool) (vs:Nat->Value) (a:Act) (w:World),listed.size=ops.length->D.leftOf ops.length listed<=fuel->
   Inv p q C I w0 n L ops.toArray (fun j=>listed.getD j false) vs a w->wpAny P .any ops.toArray Q fuel listed a w:=by
 have done: ∀(listed:Array Bool) (vs:Nat->Value) (a:Act) (w:World),(∀i,i<ops.length->listed.getD i false=true)->Inv p q C I w0 n L ops.toArray (fun j=>listed.getD j false) vs a w->Q .normal a w:=by
  intro listed vs a w b h;refine H vs a w ?_;have e:(fun j=>listed.getD j false)=fun j=>decide (j<ops.length):=by
   funext j;by_cases m:j<ops.length
   ·grind
   ·cases r:listed.getD j false with
    | false=>grind
    | true=>exact absurd (by simpa using h.lt j r) m
  rw[<-e];exact h
 have nil: ∀(listed:Array Bool) (vs:Nat->Value) (a:Act) (w:World),listed.size=ops.length->Inv p q C I w0 n L ops.toArray (fun j=>listed.getD j false) vs a w->Region.ready .any ops.toArray listed= [] ->Q .normal a w:=by
  intro listed vs a w c h A;refine done listed vs a w (fun i=>?_) h;induction i using Nat.strongRecOn with
  | _ i z =>
   intro x;cases r:listed.getD i false with
   | true=>rfl
   | false =>
    have:i∈Region.ready .any ops.toArray listed:=by
     refine D.mem_ready.2 ⟨by omega,?_,fun o O j m=>?_⟩
     ·grind
     ·have G:=(Skel.good_of_ok (L:=L) d g (show ops[i]? =some o by grind)).edges j m;grind
    grind
 intro fuel;induction fuel with
 | zero =>
  intro listed vs a w c y h;have b: ∀i,i<ops.length->listed.getD i false=true:=by
   intro i x;cases r:listed.getD i false with
   | true=>rfl
   | false =>
    have R:=List.eq_nil_of_length_eq_zero (Nat.le_zero.1 y);simp_all
  refine ⟨?_,done listed vs a w b h⟩;cases A:Region.ready .any ops.toArray listed with
  | nil=>rfl
  | cons i l =>
   have:i∈Region.ready .any ops.toArray listed:=by rw[A];simp
   grind[D.mem_ready,Array.getD_eq_getD_getElem?,Array.getElem?_eq_getElem]
 | succ fuel z =>
  intro listed vs a w c y h;refine ⟨nil listed vs a w c h,fun i x=>?_⟩;have ⟨E,B,F⟩:=D.mem_ready.1 x;have u:i<ops.length:=by simpa using E
  have f:=List.getElem?_eq_getElem u;have J:listed.getD i false=false:=by
   rw[Array.getD_eq_getD_getElem?,Array.getElem?_eq_getElem (by omega)] at B⊢;simpa using B
  have v:=K i _ f;refine h.step d r g v f J (fun j m=>?_) fun vs a w T=>?_
  ·rcases ((Skel.good_of_ok (L:=L) d g f).bef j m).2 with e | ⟨k,M,e⟩
   ·grind
   ·exact h.closed k (F _ (by grind) k M) j e
  ·refine z _ vs a w (by grind) ?_ ?_
   ·have N:D.leftOf ops.length (listed.setIfInBounds i true)<D.leftOf ops.length listed:=by
     unfold D.leftOf;have s:(List.range ops.length).filter (fun j=> !(listed.setIfInBounds i true).getD j false)=((List.range ops.length).filter (fun j=> !listed.getD j false)).filter (fun j=>j !=i):=by
      rw[List.filter_filter];refine List.filter_congr fun j m=>?_;by_cases e:i=j
      ·simp_all
      ·rw[Array.getD_eq_getD_getElem?,Array.getElem?_setIfInBounds_ne e,<-Array.getD_eq_getD_getElem?];grind
     rw[s];refine List.length_filter_lt_length_iff_exists.2 ⟨i,List.mem_filter.2 ⟨List.mem_range.2 u,by grind⟩,by simp⟩
    omega
   ·have e:(fun j=>(listed.setIfInBounds i true).getD j false)=fun j=>(listed.getD j false || j==i):=by
     funext j;by_cases e:i=j
     ·simp_all
     ·rw[Array.getD_eq_getD_getElem?,Array.getElem?_setIfInBounds_ne e,<-Array.getD_eq_getD_getElem?];grind
    grind
theorem YL {id:Nat} {G:List Ch} {Q:Exit->Act->World->Prop} (p:Skel) (q:Sm) (m: ∀t,kn t=true->(L.lookup t).isSome=true) (U:Loc p q ops.length) (Z:P.follows .mixedOrders=true) (z:Agr n a L) (hs:St I w0 w G) (hp:G.Perm (p.base.map (q.chunk · fun _=>undef)++C))
  (F:p.ok n kn ops=true) (y:p.okB kn ops=true) (Y: ∀i o,ops[i]? =some o->p.goal q P I w0 L i o)
  (k: ∀vs a w,(∀i,i<ops.length->q.fact i vs)->Agr n a (p.out L vs)->St I w0 w (p.left.map (q.chunk · vs)++C)->Q .normal a w):(Code.region id ops.toArray true).wp P Q a w:=by
 unfold Skel.okB at y;simp only[al,vq,NU,qB,Bool.or_eq_true,Bool.not_eq_true',NT,List.all_eq_true] at y;have ⟨f,g,V,hb5,B⟩:=y;have r:=vp f;have A:=vp g;refine wp_region_any Z (adk (C:=C) m U F Y (fun vs a w h=>k vs a w (fun i d=>h.facts i (by grind)) ?_ ?_) _ _ (fun _=>undef) a _ (by simp) ?_ ?_)
 ·refine ⟨h.defers,h.size,fun t v hv=>?_⟩;have key: ∀(M:List (Nat×Option Nat)),(∀q∈M,q∈p.fin)->(M.map fun (t,s)=>(t,match s with | some j=>vs j | none=>(L.lookup t).getD undef)).lookup t=some v->a.tmps.getD t undef=v:=by
   intro M;induction M with
   | nil=>grind
   | cons q M ih =>
    intro R hv;have ⟨N,K⟩:=q;by_cases e:t=N
    ·subst e;simp[BEq.rfl,Option.some.injEq] at hv;have b:=B (t,K) (R _ (by simp));cases K with
     | none =>
      simp only[al,vq,Bool.not_eq_true'] at b hv;have ⟨u,J⟩:=Option.isSome_iff_exists.1 (m _ b.1);rw[J] at hv;subst hv;refine h.old t u J fun j c H=>?_;have c:j<ops.length:=by simpa using c
      have:=b.2 j (List.mem_range.2 c)
      grind[zB]
     | some j =>
      simp only[al,vq,aeB,aeA,Bool.or_eq_true,Bool.not_eq_true',qB] at b hv;rw[<-hv];refine h.new j t (by grind) (zB.1 b.2.1) fun k E H=>?_;have E:k<ops.length:=by simpa using E
      rcases b.2.2 k (List.mem_range.2 E) with e | e
      ·rw[zB.2 H] at e;cases e
      ·exact e
    grind
  exact key _ (fun _ h=>h) hv
 ·have ⟨l,X,l2,T⟩:=h.st;refine T.perm (List.Perm.append_right C (List.Perm.map _ ((List.perm_ext_iff_of_nodup X A).2 fun x=>?_)));grind
 ·grind[D.leftOf,Nat.le_trans,List.length_filter_le]
 ·have b: ∀j,(Array.replicate ops.toArray.size false).getD j false=false:=by
   intro j;rw[Array.getD_eq_getD_getElem?,Array.getElem?_replicate];split <;> rfl
  refine ⟨fun i d=>?_,fun i d=>?_,z.1,z.2.1,fun t v hv _=>z.2.2 t v hv,fun j t c=>?_,fun i d=>?_,p.base,r,fun x=>?_,?_⟩
  ·rw[b] at d;cases d
  ·rw[b] at d;cases d
  ·rw[b] at c;cases c
  ·rw[b] at d;cases d
  ·constructor
   ·intro W;refine ⟨.inl W,fun ⟨j,c,_⟩=>?_⟩;rw[b] at c;cases c
   ·rintro ⟨O | ⟨j,c,_⟩,_⟩
    ·exact O
    ·rw[b] at c;cases c
  ·exact (hs.drawn (w':= { w with drawn:=w.drawn+1 }) rfl rfl rfl rfl).perm hp
end
end R
namespace R
open Go.RowKit
open D
def LV.ids:LV->List Nat
 | .val _=>[]
 | .nb _=>[]
 | .rd h _ _=>[h.id]
 | .own h=>[h.id]
 | .ptr h _=>[h.id]
 | .fn h _ _ _=>[h.id]
 | .fz h _ _ _ _=>[h.id]
 | .fzf h _ _ _ _=>[h.id]
 | .rdn h _ _ _=>[h.id]
def UY:List LV->List Nat
 | [] =>[]
 | x::l=>x.ids++UY l
def agK:List (Bool×List LV)->List Nat
 | [] =>[]
 | y::l=>UY y.2++agK l
def AV.ids:AV->List Nat
 | .one x=>x.ids
 | .agg xs=>UY xs
 | .tup ys=>agK ys
 | .elr h _ _ _ _ _ _=>[h.id]
 | .elo h _ _ _ _ _ _ _=>[h.id]
 | .sub h _ _ _ _ _=>[h.id]
 | .pre h _ _ _ _ _=>[h.id]
 | .vw u h _ _ _ _=>[u.id,h.id]
 | .xv _ u h _ _ _ _=>[u.id,h.id]
 | .capv h _=>[h.id]
 | .any h=>[h.id]
 | .und=>[]
def Chk.ids:Chk->List Nat
 | .own _ _=>[]
 | .blk _ cs=>UY cs
 | .hole _ _ _ _ _ _ _ _ _ lv=>lv.ids
 | .box _ _ _=>[]
 | .map _ _ _ _ _=>[]
 | .clo _ first capt=>agK first++UY capt
def HJ (h:Hdr) (c:Chk):List Nat:=h.id::c.ids
theorem tw {x:LV} {i:Nat} : ∀ {l:List LV},x∈l->i∈x.ids->i∈UY l
 | y::l,h,hi=>by
  rcases az h with rfl | h
  ·exact bq _ hi
  ·exact bw _ (tw h hi)
theorem Dl {y:Bool×List LV} {i:Nat} : ∀ {l:List (Bool×List LV)},y∈l->i∈UY y.2->i∈agK l
 | z::l,h,hi=>by
  rcases az h with rfl | h
  ·exact bq _ hi
  ·exact bw _ (Dl h hi)
section
variable {P:Program} {w0:World} {J:Hp} {θ θ':Th} {n m:Nat} {chs chs':List Ent}
theorem gr {h:Hdr} (k:θ' h.id=θ h.id):hv θ' h=hv θ h:=by unfold hv;rw[k]
theorem LV.v_loc {x:LV} (h: ∀i∈x.ids,θ' i=θ i):x.v θ'=x.v θ:=by
 cases x with
 | val _=>rfl
 | nb _=>rfl
 | rd k t d=>exact gr (h _ (by simp[LV.ids]))
 | own k=>exact gr (h _ (by simp[LV.ids]))
 | ptr k off=>show Value.pointer (some ⟨bk (hv θ' k),off,none⟩)=_;rw[gr (h _ (by simp[LV.ids]))];rfl
 | fn k ps rs e=>exact gr (h _ (by simp[LV.ids]))
 | fz k T t d off=>show Value.pointer (some ⟨bk (hv θ' k),off,none⟩)=_;rw[gr (h _ (by simp[LV.ids]))];rfl
 | fzf k T ps rs e=>show Value.pointer (some ⟨bk (hv θ' k),0,none⟩)=_;rw[gr (h _ (by simp[LV.ids]))];rfl
 | rdn k b t d=>exact gr (h _ (by simp[LV.ids]))
theorem LV.ok_loc {x:LV} (h: ∀i∈x.ids,θ' i=θ i) (k:x.ok P w0 J θ n):x.ok P w0 J θ' n:=by
 cases x with
 | val _=>exact k
 | nb _=>trivial
 | rd g t d=>exact ⟨k.1,by rw[gr (h _ (by simp[LV.ids]))];exact k.2⟩
 | own g=>exact ⟨k.1,by rw[gr (h _ (by simp[LV.ids]))];exact k.2⟩
 | ptr g off=>exact k
 | fn g ps rs e=>exact ⟨k.1,by rw[gr (h _ (by simp[LV.ids]))];exact k.2⟩
 | fz g T t d off=>exact ⟨k.1,by rw[gr (h _ (by simp[LV.ids]))];exact k.2⟩
 | fzf g T ps rs e=>exact ⟨k.1,by rw[gr (h _ (by simp[LV.ids]))];exact k.2⟩
 | rdn g b t d=>exact ⟨k.1,by rw[gr (h _ (by simp[LV.ids]))];exact k.2⟩
theorem Jl {xs:List LV} (h: ∀i∈UY xs,θ' i=θ i):xs.map (·.v θ')=xs.map (·.v θ):=List.map_congr_left fun x a=>LV.v_loc fun i b=>h i (tw a b)
theorem LK {y:Bool×List LV} (a: ∀i∈UY y.2,θ' i=θ i):mu θ' y=mu θ y:=by
 unfold mu;rw[Jl a];split
 ·rfl
 ·cases b:y.2 with
  | nil=>rfl
  | cons x l=>exact LV.v_loc fun i c=>a i (by rw[b];exact bq _ c)
theorem AV.v_loc {x:AV} (h: ∀i∈x.ids,θ' i=θ i):x.v θ'=x.v θ:=by
 cases x with
 | one x=>exact LV.v_loc h
 | agg xs=>show Value.agg _=Value.agg _;rw[Jl h]
 | tup ys =>
  show Value.tuple _=Value.tuple _;congr 2;refine List.map_congr_left fun y a=>?_;exact LK fun i b=>h i (Dl a b)
 | elr k E t xs x i off=>show pt (hv θ' k) _=_;rw[gr (h _ (by simp[AV.ids]))];rfl
 | elo k ver E t xs x i off=>show pt (hv θ' k) _=_;rw[gr (h _ (by simp[AV.ids]))];rfl
 | sub k ver E t xs l=>show uf (hv θ' k) _ _ _=_;rw[gr (h _ (by simp[AV.ids]))];rfl
 | pre k ver E t xs l=>show uf (hv θ' k) _ _ _=_;rw[gr (h _ (by simp[AV.ids]))];rfl
 | vw u k kk N l m=>exact gr (h _ (by simp[AV.ids]))
 | xv top u k kk N l m=>exact gr (h _ (by simp[AV.ids]))
 | capv k c=>rfl
 | any k=>exact gr (h _ (by simp[AV.ids]))
 | und=>rfl
theorem AV.ok_loc {x:AV} (h: ∀i∈x.ids,θ' i=θ i) (k:x.ok P w0 J θ n chs):x.ok P w0 J θ' n chs:=by
 cases x with
 | one x=>exact LV.ok_loc h k
 | agg xs=>exact fun x a=>LV.ok_loc (fun i b=>h i (tw a b)) (k x a)
 | tup ys=>exact fun y d x a=>LV.ok_loc (fun i b=>h i (Dl d (tw a b))) (k y d x a)
 | elr g E t xs x i off=>exact ⟨k.1,k.2.1,by rw[gr (h _ (by simp[AV.ids]))];exact k.2.2⟩
 | elo g ver E t xs x i off=>exact k
 | sub g ver E t xs l=>exact k
 | pre g ver E t xs l=>exact k
 | vw u g kk N l m=>exact ⟨k.1,k.2.1,by rw[gr (h _ (by simp[AV.ids])),gr (h _ (by simp[AV.ids]))];exact k.2.2⟩
 | xv top u g kk N l m=>exact ⟨k.1,k.2.1,by rw[gr (h _ (by simp[AV.ids])),gr (h _ (by simp[AV.ids]))];exact k.2.2⟩
 | capv g c=>exact ⟨k.1,by rw[gr (h _ (by simp[AV.ids]))];exact k.2⟩
 | any g=>exact k
 | und=>trivial
theorem YM {e:Ent} (h: ∀i∈HJ e.1 e.2.2,θ' i=θ i):toCh P θ' e=toCh P θ e:=by
 obtain ⟨k,g,c⟩:=e;have a:hv θ' k=hv θ k:=gr (h _ (by simp[HJ]));cases c with
 | own t d=>show Ch.own _ [hv θ' k] d=_;rw[a];rfl
 | blk T cells=>show Ch.blk (bk (hv θ' k)) (cells.map (·.v θ')) T=_;rw[a,Jl fun i b=>h i (bp _ b)];rfl
 | hole over t d u y f i kk off lv=>show Ch.gap _ [hv θ' k] _ f (ptB (hv θ' k)) (ptO (hv θ' k)+(i.toNat*kk+off)) (lv.v θ')=_;rw[a,LV.v_loc fun i b=>h i (bp _ b)];rfl
 | box T t d=>show Ch.box (bk (hv θ' k)) T _ d=_;rw[a];rfl
 | map K E kk e m=>show @Ch.mp P K E kk.den e.den kk.dec kk.lit kk.ok e.lit e.z (hv θ' k) m=_;rw[a];rfl
 | clo _ _ _=>rfl
theorem adl {e:Ent} (h: ∀i∈HJ e.1 e.2.2,θ' i=θ i) (k:okE P w0 J θ n chs e):okE P w0 J θ' n chs e:=by
 obtain ⟨g,s,c⟩:=e;cases c with
 | own t d=>exact k
 | blk T cells=>exact ⟨k.1,k.2.1,fun x b=>LV.ok_loc (fun i a=>h i (bp _ (tw b a))) (k.2.2 x b)⟩
 | hole over t d u y f i kk off lv=>exact ⟨k.1,k.2.1,LV.ok_loc (fun i a=>h i (bp _ a)) k.2.2.1,k.2.2.2⟩
 | box T t d=>exact k
 | map K E kk e m=>exact k
 | clo f first capt =>
  obtain ⟨q,w,r,p,v⟩:=k;have l: ∀y∈first,∀i∈UY y.2,θ' i=θ i:=fun y j i a=>h i (bp _ (bq _ (Dl j a)))
  have o: ∀i∈UY capt,θ' i=θ i:=fun i a=>h i (bp _ (bw _ a));refine ⟨q,w,fun y j x b=>LV.ok_loc (fun i a=>l y j i (tw b a)) (r y j x b),fun x b=>LV.ok_loc (fun i a=>o i (tw b a)) (p x b),?_⟩;show hv θ' g=_;rw[gr (h _ (by simp[HJ])),Jl o,List.map_congr_left fun y j=>LK (l y j)];exact v
def AV.elos:AV->List (Hdr×Nat)
 | .elo h ver _ _ _ _ _ _=>[(h,ver)]
 | .sub h ver _ _ _ _=>[(h,ver)]
 | .pre h ver _ _ _ _=>[(h,ver)]
 | _=>[]
def Chk.elos (ver:Nat):Chk->List (Hdr×Nat)
 | .hole _ _ _ _ _ _ _ _ _ (.own l)=>[(l,ver)]
 | _=>[]
theorem LV.ok_le {x:LV} (a:n<=m) (h:x.ok P w0 J θ n):x.ok P w0 J θ m:=LV.ok_same Same.rfl' a h Hp.le.rfl
where Same.rfl' {n:Nat} {θ:Th} :Same n θ θ:=fun i hi=>Eq.refl _
theorem AV.ok_move {x:AV} (a:n<=m) (b: ∀h ver c,(h,ver)∈x.elos->Mem chs n h ver c-> ∀e∈chs',∀c',Says e h ver c'->c'=c) (k:x.ok P w0 J θ n chs):x.ok P w0 J θ m chs':=by
 cases x with
 | one x=>exact LV.ok_le a k
 | agg xs=>exact fun x d=>LV.ok_le a (k x d)
 | tup ys=>exact fun y f x d=>LV.ok_le a (k y f x d)
 | elr g E t xs x i off=>exact ⟨aC k.1 a,k.2⟩
 | elo g ver E t xs x i off=>exact ⟨aC k.1 a,k.2.1,aC k.2.2.1 a,b _ _ _ (by simp[AV.elos]) k.2.2⟩
 | sub g ver E t xs l=>exact ⟨aC k.1 a,k.2.1,aC k.2.2.1 a,b _ _ _ (by simp[AV.elos]) k.2.2⟩
 | pre g ver E t xs l=>exact ⟨aC k.1 a,k.2.1,aC k.2.2.1 a,b _ _ _ (by simp[AV.elos]) k.2.2⟩
 | vw u g kk N l m=>exact ⟨aC k.1 a,aC k.2.1 a,k.2.2⟩
 | xv top u g kk N l m=>exact ⟨aC k.1 a,aC k.2.1 a,k.2.2⟩
 | capv g c=>exact ⟨aC k.1 a,k.2⟩
 | any g=>exact aC k a
 | und=>trivial
theorem P4 {e:Ent} (a:n<=m) (p: ∀h b c,(h,b)∈e.2.2.elos e.2.1->Mem chs n h b c-> ∀e∈chs',∀c',Says e h b c'->c'=c) (k:okE P w0 J θ n chs e):okE P w0 J θ m chs' e:=by
 obtain ⟨g,b,c⟩:=e;cases c with
 | own t d=>exact ⟨aC k.1 a,aC k.2.1 a,trivial⟩
 | blk T cells=>exact ⟨aC k.1 a,aC k.2.1 a,fun x j=>LV.ok_le a (k.2.2 x j)⟩
 | hole over t d u y f i kk off lv =>
  refine ⟨aC k.1 a,aC k.2.1 a,LV.ok_le a k.2.2.1,k.2.2.2.1,k.2.2.2.2.1,fun l o=>?_⟩
  have:=k.2.2.2.2.2 l o
  exact ⟨aC this.1 a,p _ _ _ (by subst o;simp[Chk.elos]) this⟩
 | box T t d=>exact ⟨aC k.1 a,aC k.2.1 a,trivial⟩
 | map K E kk e m=>exact ⟨aC k.1 a,aC k.2.1 a,trivial⟩
 | clo f first capt=>exact ⟨aC k.1 a,aC k.2.1 a,fun y q x j=>LV.ok_le a (k.2.2.1 y q x j),fun x j=>LV.ok_le a (k.2.2.2.1 x j),k.2.2.2.2⟩
end
structure TR where
 i:Nat
 o:Oper
 b:List Nat
 s:Sg
 r:Res
 run:Bool
def mD (n0:Nat) (x:TR):List Ent:=x.r.gives.map fun g=>(g.1,n0+x.i,g.2)
def Ef (n0:Nat) (env:List (Nat×Nat×AV)):List TR->List (Nat×Nat×AV)
 | [] =>env
 | x::l=>Tg x.o.dst (n0+x.i) x.r.av (Ef n0 env l)
def jA (n0:Nat) (chs:List Ent):List TR->List Ent
 | [] =>chs
 | x::l=>mD n0 x++jA n0 chs l
def sameKey (a b:Ent):Bool:=Nat.beq a.2.1 b.2.1&&Hdr.beq a.1 b.1
def afq (e:Ent) (l:List TR):Bool:=l.any fun x=>x.r.ns.any fun e'=>sameKey e' e
def inB (n0:Nat) (b:List Nat) (v:Nat):Bool:=Nat.blt v n0 || y6 (v - n0) b
def subS (s0:Sg) (l:List TR) (i:Nat) (b:List Nat):Sg:=
 ⟨(Ef s0.nxt s0.env l).filter fun e=>inB s0.nxt b e.2.1,(jA s0.nxt s0.chs l).filter fun e=>inB s0.nxt b e.2.1 && !afq e l,s0.nxt+i⟩
def YN (s0:Sg) (l:List TR):Sg:=subS s0 l l.length (List.range l.length)
def recAt (i:Nat):List TR->Option TR
 | [] =>none
 | x::l=>if Nat.beq x.i i then some x else recAt i l
def agL (t:Nat) (l:List Nat):List Nat:=if y6 t l then l else t::l
def LL:List Nat->List Nat->List Nat
 | [],acc=>acc
 | t::l,acc=>LL l (agL t acc)
def bOf (l:List TR):List Nat->List Nat->List Nat
 | [],acc=>acc
 | j::js,acc=>bOf l js (LL (match recAt j l with | some y=>y.b | none=>[]) (agL j acc))
def splitB {Y:Type} (g:Bool) (av:AV) (k:AV->Option Y):Option Y:=match g with
 | false=>k av
 | true=>match av with
  | .one (.val (.bool b))=>if b then k (.one (.val (.bool true))) else k (.one (.val (.bool false)))
  | .one (.nb b)=>if b then k (.one (.val (.bool false))) else k (.one (.val (.bool true)))
  | _=>none
def UZ (ops:List Oper) (i:Nat):Bool:=match ops with
 | [] =>false
 | o::ops=>(match o.guard with | some (g,_)=>Nat.beq g i | none=>false) || UZ ops i
section
variable {Y:Type} (V:Env) (ops:List Oper) (s0:Sg) (k:List TR->Option Y)
def aht (o:Oper) (i:Nat) (l:List TR) (b:List Nat) (s:Sg):Option Y:=
 bW (okO V.n s o) (step V s (fun r=>splitB (UZ ops i) r.av fun av=>k (⟨i,o,b,s,⟨r.rs,r.ns,r.rest,r.gives,av⟩,true⟩::l)) o)
def adm (o:Oper) (i:Nat) (l:List TR) (b:List Nat) (s:Sg):Option Y:=
 k (⟨i,o,b,s,⟨[],[],s.chs,[],.und⟩,false⟩::l)
def opD (o:Oper) (i:Nat) (l:List TR) (b:List Nat) (s:Sg):Option Y:=match o.guard with
 | none=>aht V ops k o i l b s
 | some (g,want)=>match recAt g l with
  | some y=>match y.r.av with
   | .one (.val (.bool c))=>match c==want with
    | true=>aht V ops k o i l b s
    | false=>adm k o i l b s
   | .und=>adm k o i l b s
   | _=>none
  | none=>none
def goD:List Oper->Nat->List TR->Option Y
 | [],_,l=>k l
 | o::os,i,l=>(fun b=>opD V ops (goD os (i+1)) o i l b (subS s0 l i b)) (bOf l (edgesOf o) [])
end
def GdOk (l:List TR) (x:TR):Prop:=match x.o.guard with
 | none=>x.run=true
 | some (g,want)=> ∃y∈l,y.i=g/\((∃c:Bool,y.r.av= .one (.val (.bool c))/\x.run=(c==want))\/(y.r.av= .und/\x.run=false))
structure RecOk (P:Program) (w0:World) (n:Nat) (s0:Sg) (ops:List Oper) (l:List TR) (x:TR):Prop where
 hi:x.i=l.length
 ho:ops[x.i]? =some x.o
 hb:x.b=bOf l (edgesOf x.o) []
 hs:x.s=subS s0 l x.i x.b
 good:x.run=true->Good P w0 x.s x.o x.r/\okO n x.s x.o=true
 skip:x.run=false->x.r=⟨[],[],x.s.chs,[],.und⟩
 gd:GdOk l x
def AllOk (P:Program) (w0:World) (n:Nat) (s0:Sg) (ops:List Oper):List TR->Prop
 | [] =>True
 | x::l=>RecOk P w0 n s0 ops l x/\AllOk P w0 n s0 ops l
section
variable {Y:Type} {V:Env} {P:Program} {w0:World} {ops:List Oper} {s0:Sg} {k:List TR->Option Y} {res:Y}
theorem Dm {i:Nat} {y:TR} : ∀ {l:List TR},recAt i l=some y->y∈l/\y.i=i
 | x::l,h=>by
  unfold recAt at h;split at h
  ·rename_i b;obtain rfl:=ae h;exact ⟨by simp,aw b⟩
  ·obtain ⟨a,c⟩:=Dm h;exact ⟨by simp[a],c⟩
theorem wM {s:Sg} {o:Oper} {r:Res} {av:AV} (h:Good P w0 s o r) (hv: ∀θ,av.v θ=r.av.v θ) (b: ∀(J:Hp) (θ:Th) n chs,av.ok P w0 J θ n chs):Good P w0 s o ⟨r.rs,r.ns,r.rest,r.gives,av⟩:=
 ⟨h.perm,h.says,fun J θ c=>OpT.weak (h.op J θ c) (fun v a=>⟨b _ _ _ _,(hv _).trans a.2.1,a.2.2⟩) (fun v _=>rfl)⟩
theorem U0 {g:Bool} {s:Sg} {o:Oper} {r:Res} {f:AV->Option Y} (h:splitB g r.av f=some res) (c:Good P w0 s o r): ∃av,f av=some res/\Good P w0 s o ⟨r.rs,r.ns,r.rest,r.gives,av⟩:=by
 unfold splitB at h;split at h
 ·exact ⟨r.av,h,c⟩
 ·split at h
  ·rename_i b a;cases b with
   | true=>exact ⟨_,h,wM c (fun θ=>by rw[a]) fun _ _ _ _=>Eq.refl true⟩
   | false=>exact ⟨_,h,wM c (fun θ=>by rw[a]) fun _ _ _ _=>Eq.refl true⟩
  ·rename_i b a;cases b with
   | true=>exact ⟨_,h,wM c (fun θ=>by rw[a];rfl) fun _ _ _ _=>Eq.refl true⟩
   | false=>exact ⟨_,h,wM c (fun θ=>by rw[a];rfl) fun _ _ _ _=>Eq.refl true⟩
  ·cases h
theorem U1 (s:TTok P V.tt) (p:FTok P V.ft): ∀ {os:List Oper} {i:Nat} {l:List TR},goD V ops s0 k os i l=some res->i=l.length->ops.drop i=os->AllOk P w0 V.n s0 ops l-> ∃l',k l'=some res/\AllOk P w0 V.n s0 ops l'/\l'.length=ops.length
 | [],i,l,h,hi,hd,ha=>⟨l,h,ha,by
  have A:=List.drop_eq_nil_iff.1 hd
  have: ∀ {l:List TR},AllOk P w0 V.n s0 ops l->l.length<=ops.length:=by
   intro l;induction l with
   | nil=>intro _;exact Nat.zero_le _
   | cons x l ih =>
    rintro ⟨u,B⟩
    have:=(List.getElem?_eq_some_iff.1 u.ho).1
    rw[u.hi] at this;exact this
  have:=this ha
  omega⟩
 | o::os,i,l,h,hi,hd,ha=>by
  have t:ops[i]? =some o:=by
   have:=congrArg (·[0]?) hd
   simpa using this
  have j:ops.drop (i+1)=os:=by
   rw[<-List.drop_drop,hd];rfl
  have h:opD V ops (goD V ops s0 k os (i+1)) o i l (bOf l (edgesOf o) []) (subS s0 l i (bOf l (edgesOf o) []))=some res:=h;have run:(GdOk l ⟨i,o,bOf l (edgesOf o) [],subS s0 l i (bOf l (edgesOf o) []),⟨[],[],[],[],.und⟩,true⟩)->aht V ops (goD V ops s0 k os (i+1)) o i l (bOf l (edgesOf o) []) (subS s0 l i (bOf l (edgesOf o) []))=some res-> ∃l',k l'=some res/\AllOk P w0 V.n s0 ops l'/\l'.length=ops.length:=by
   intro a h;obtain ⟨w,h⟩:=ak h;obtain ⟨r,z,q⟩:=UQ (w0:=w0) s p h;obtain ⟨C,h,q⟩:=U0 z q;exact U1 s p h (by rw[hi];rfl) j ⟨⟨hi,t,rfl,rfl,fun _=>⟨q,w⟩,fun e=>(by cases e),a⟩,ha⟩
  have m:(GdOk l ⟨i,o,bOf l (edgesOf o) [],subS s0 l i (bOf l (edgesOf o) []),⟨[],[],[],[],.und⟩,false⟩)->adm (goD V ops s0 k os (i+1)) o i l (bOf l (edgesOf o) []) (subS s0 l i (bOf l (edgesOf o) []))=some res-> ∃l',k l'=some res/\AllOk P w0 V.n s0 ops l'/\l'.length=ops.length:=by
   intro a h;exact U1 s p h (by rw[hi];rfl) j ⟨⟨hi,t,rfl,rfl,fun e=>(by cases e),fun _=>rfl,a⟩,ha⟩
  unfold opD at h;split at h
  ·rename_i a;exact run (by unfold GdOk;simp only[a]) h
  ·rename_i g want a;split at h
   ·rename_i y v;obtain ⟨d,f⟩:=Dm v;split at h
    ·rename_i c n;split at h
     ·rename_i b;exact run (by unfold GdOk;simp only[a];exact ⟨y,d,f,.inl ⟨c,n,b.symm⟩⟩) h
     ·rename_i b;exact m (by unfold GdOk;simp only[a];exact ⟨y,d,f,.inl ⟨c,n,b.symm⟩⟩) h
    ·rename_i n;exact m (by unfold GdOk;simp only[a];exact ⟨y,d,f,.inr ⟨n,trivial⟩⟩) h
    ·cases h
   ·cases h
end
def Eg (l:List (Nat×Nat×AV)) (t:Nat):Option Nat:=match l with
 | [] =>none
 | (u,k,_)::l=>if Nat.beq u t then some k else Eg l t
def numOf (e:Ent):List Ent->Nat
 | [] =>0
 | x::l=>if sameKey x e then 0 else numOf e l+1
def aaY (n0 v:Nat):Option Nat:=if Nat.blt v n0 then none else some (v - n0)
def LM (n0:Nat) (env:List (Nat×Nat×AV)):List Nat->List (Nat×Option Nat)
 | [] =>[]
 | t::l=>match Eg env t with
  | some v=>(t,aaY n0 v)::LM n0 env l
  | none=>LM n0 env l
def opK (n0:Nat) (T:List Ent) (ops:Array Oper) (x:TR):OpK:=⟨x.r.rs.map (numOf · T),x.r.ns.map (numOf · T),(mD n0 x).map (numOf · T),LM n0 x.s.env (slotsOf ops x.o)⟩
def U2 (n0:Nat):List (Nat×Nat×AV)->List Nat->List (Nat×Option Nat)
 | [],_=>[]
 | e::l,seen=>match y6 e.1 seen with
  | true=>U2 n0 l seen
  | false=>(e.1,aaY n0 e.2.1)::U2 n0 l (e.1::seen)
def rz (s0:Sg) (ops:List Oper) (l:List TR) (T:List Ent):Skel:=
 ⟨(l.map (opK s0.nxt T ops.toArray)).reverse,T.length,s0.chs.map (numOf · T),(l.map (·.b)).reverse,U2 s0.nxt (YN s0 l).env [],(YN s0 l).chs.map (numOf · T)⟩
def jF:List Ent->Bool
 | [] =>true
 | e::l=> !(l.any fun x=>sameKey x e)&&jF l
def oX:List Ent->Bool
 | [] =>true
 | e::l=>Gt e.1 l&&oX l
def adn (h:Hdr) (ver:Nat) (e:Ent):Bool:=Hdr.beq e.1 h&&(Nat.beq e.2.1 ver || match e.2.2 with
 | .hole over _ _ _ _ _ _ _ _ _=>Nat.beq over ver
 | _=>false)
def allowed (n0:Nat) (x:TR) (v:Nat):Bool:=Nat.blt v n0 || (Nat.beq (v - n0) x.i || y6 (v - n0) x.b)
def aaZ (n0:Nat) (x:TR):List (Hdr×Nat):=x.r.av.elos++x.r.gives.flatMap fun g=>g.2.elos (n0+x.i)
def YO (x:TR):List Nat:=x.r.av.ids++x.r.gives.flatMap fun g=>HJ g.1 g.2
def Eh (n0:Nat) (x:TR):Bool:=Gn (YO x) (allowed n0 x)&&(aaZ n0 x).all fun q=>(x.r.chs (n0+x.i)).any (adn q.1 q.2) || (Nat.beq q.2 (n0+x.i) && !(x.r.gives.any fun g=>Hdr.beq g.1 q.1))
def knS (s0:Sg) (t:Nat):Bool:=(look s0.env t).isSome
def aa0 (n:Nat) (s0:Sg) (ops:List Oper) (l:List TR) (T:List Ent):Bool:=oX s0.chs&&(jF T&&(l.all (Eh s0.nxt)&&((rz s0 ops l T).ok n (knS s0) ops&&(rz s0 ops l T).okB (knS s0) ops)))
section
variable {Y:Type} (V:Env)
def Ei (s0:Sg):List Oper->List Hdr
 | [] =>[]
 | o::os=>HH s0 o.op.operands.toList++Ei s0 os
def P5 (ops:List Oper) (k:Sg->Option Y) (s0:Sg):Option Y:=goD V ops s0 (fun l=>bW (aa0 V.n s0 ops l (jA s0.nxt s0.chs l)) (k (YN s0 l))) ops 0 []
def aa1 (tr:Trs) (s0:Sg):List Oper->List (Bool×Hdr)
 | [] =>[]
 | o::os=>ldF tr s0 o++(aiy tr s0 o++aa1 tr s0 os)
def afr (o:Oper):Bool:=match o.op with
 | .indexAddr _ _ _=>true
 | _=>false
def afs (tr:Trs) (ops:List Oper):Trs:=match ops.any afr with
 | true=>tr
 | false=>UT tr
def P6 (tr:Trs) (ops:List Oper) (s:Sg):Sg:=match tr with
 | [] =>s
 | _=>X4 (afs tr ops) (aa1 (afs tr ops) s ops) s
def isApp (o:Oper):Bool:=match o.op with
 | .buildSlice _ _ _=>true
 | _=>false
def agM (s:Sg):List Oper->List Hdr
 | [] =>[]
 | o::os=>match o.op with
  | .move x=>match opd s x with
   | some (.one (.own h))=>h::agM s os
   | _=>agM s os
  | _=>agM s os
def Jm:List Hdr->Sg->Sg
 | [],s=>s
 | h::hs,s=>Jm hs (A5 h s)
def zC (ops:List Oper) (s:Sg):Sg:=match ops.any afr && !ops.any isApp with
 | true=>Jm (agM s ops) s
 | false=>s
def YP (tr:Trs) (ops:List Oper) (s0:Sg):Sg:=match zC ops (tn s0) with
 | s=>P6 tr ops (zy (Ei s ops) s)
def afu (ops:List Oper) (k:Sg->Option Y) (s:Sg):Option Y:=P5 V ops k (YP V.tr ops s)
end
theorem A7 {a b:Ent} :sameKey a b=true↔a.2.1=b.2.1/\a.1=b.1:=by
 unfold sameKey;rw[al,aeA];grind[Hdr.beq_eq,IV]
theorem B4 {l:List Ent} :jF l=true-> ∀a∈l,∀b∈l,a.2.1=b.2.1->a.1=b.1->a=b:=by
 induction l with
 | nil=>grind
 | cons e l ih =>
  intro h a n b i;unfold jF at h;rw[al,Bool.not_eq_true'] at h;have ⟨k,o⟩:=h;have key: ∀x∈l,¬(x.2.1=e.2.1/\x.1=e.1):=fun x m j=>by
   have:(l.any fun x=>sameKey x e)=true:=List.any_eq_true.2 ⟨x,m,A7.2 j⟩
   rw[k] at this;cases this
  intro f g;rcases az n with d | d
  ·rcases az i with c | c
   ·rw[d,c]
   ·rw[d] at f g;exact absurd ⟨f.symm,g.symm⟩ (key b c)
  ·rcases az i with c | c
   ·rw[c] at f g;exact absurd ⟨f,g⟩ (key a d)
   ·exact ih o a d b c f g
theorem LN {l:List Ent} :oX l=true-> ∀a∈l,∀b∈l,a.1=b.1->a=b:=by
 induction l with
 | nil=>grind
 | cons e l ih =>
  intro h a i b g;unfold oX at h;rw[al] at h;have ⟨f,j⟩:=h;intro k;rcases az i with d | d
  ·rcases az g with c | c
   ·rw[d,c]
   ·rw[d] at k;exact absurd k.symm (rv f c)
  ·rcases az g with c | c
   ·rw[c] at k;exact absurd k (rv f d)
   ·exact ih j a d b c k
theorem wN {e:Ent} : ∀ {T:List Ent},jF T=true->e∈T->T[numOf e T]? =some e
 | x::T,hd,b=>by
  unfold numOf;split
  ·rename_i c;have ⟨f,d⟩:=A7.1 c;exact congrArg some (B4 hd x (by simp) e b f d)
  ·have a:=hd;unfold jF at a;rw[al] at a;rcases az b with rfl | b
   ·grind[absurd,A7]
   ·exact wN a.2 b
theorem YQ {h:Hdr} {ver:Nat} {e:Ent} (k:adn h ver e=true): ∃c,Says e h ver c:=by
 unfold adn at k;rw[al,Bool.or_eq_true] at k;have ⟨b,a⟩:=k;have b:=Hdr.beq_eq b;have ⟨g,v,c⟩:=e;rcases a with a | a
 ·exact ⟨c,b,.inl ⟨aw a,rfl⟩⟩
 ·cases c with
  | hole over t d u y f i l off j=>exact ⟨.own t d,b,.inr ⟨aw a,rfl⟩⟩
  | _=>cases a
section
variable {P:Program} {w0:World} {n:Nat} {s0:Sg} {ops:List Oper} {l:List TR}
theorem AllOk.lt:AllOk P w0 n s0 ops l-> ∀y∈l,y.i<l.length:=by
 induction l with
 | nil=>grind
 | cons w l ih =>
  rintro ⟨b,c⟩ y a;rcases az a with rfl | a
  ·rw[b.hi,aM];omega
  grind
theorem AllOk.uniq:AllOk P w0 n s0 ops l-> ∀x∈l,∀y∈l,x.i=y.i->x=y:=by
 induction l with
 | nil=>grind
 | cons w l ih =>
  rintro ⟨d,c⟩ x b y a h;have e:=d.hi;rcases az b with b | b
  ·rcases az a with a | a
   ·grind
   ·have:=c.lt y a
    grind
  ·rcases az a with a | a
   ·have:=c.lt x b
    grind
   grind
theorem AllOk.get {x:TR} :AllOk P w0 n s0 ops l->x∈l-> ∃a,RecOk P w0 n s0 ops a x/\AllOk P w0 n s0 ops a/\(∀y∈a,y∈l)/\ ∀y∈l,y.i<x.i->y∈a:=by
 induction l with
 | nil=>grind
 | cons z l ih =>
  rintro ⟨f,d⟩ b;rcases az b with b | b
  ·grind
  ·have ⟨a,g,e,j,m⟩:=ih d b;refine ⟨a,g,e,fun y c=>by grind,fun y c h=>?_⟩;rcases az c with c | c
   ·have k:=d.lt x b;have i:=f.hi;grind
   grind
theorem AllOk.at {α:Type} (f:TR->α):AllOk P w0 n s0 ops l-> ∀i,i<l.length-> ∃x∈l,x.i=i/\(l.map f).reverse[i]? =some (f x):=by
 induction l with
 | nil=>grind
 | cons w l ih =>
  rintro ⟨a,d⟩ i b;by_cases h:i<l.length
  ·grind
  ·have c:i=l.length:=by rw[aM] at b;omega
   subst c;refine ⟨w,by simp,a.hi,?_⟩;grind
theorem AllOk.opAt (b:AllOk P w0 n s0 ops l) {x:TR} (c:x∈l) (T:List Ent):(rz s0 ops l T).op x.i=opK s0.nxt T ops.toArray x/\(rz s0 ops l T).before x.i=x.b:=by
 have a:=b.lt x c;have ⟨y,f,d,i⟩:=b.at (opK s0.nxt T ops.toArray) x.i a;have ⟨z,e,g,h⟩:=b.at (·.b) x.i a;obtain rfl:=b.uniq y f x c d;obtain rfl:=b.uniq z e y c g;constructor
 ·show (l.map (opK s0.nxt T ops.toArray)).reverse.getD z.i _=_;grind
 ·show (l.map (·.b)).reverse.getD z.i [] =_;grind
theorem mE {n0:Nat} {chs:List Ent} {e:Ent} : ∀ {l:List TR},e∈jA n0 chs l↔e∈chs\/ ∃x∈l,e∈mD n0 x
 | [] =>by simp[jA]
 | y::l=>by
  unfold jA;rw[List.mem_append,mE (l:=l)];grind
theorem kO {n0:Nat} {x:TR} {e:Ent} (h:e∈mD n0 x):e.2.1=n0+x.i/\(e.1,e.2.2)∈x.r.gives:=by
 obtain ⟨g,a,rfl⟩:=List.mem_map.1 h;grind
theorem yr {n0:Nat} {env:List (Nat×Nat×AV)} {e:Nat×Nat×AV} : ∀ {l:List TR},e∈Ef n0 env l->e∈env\/ ∃x∈l,x.o.dst=some e.1/\e.2.1=n0+x.i/\e.2.2=x.r.av
 | [],h=>.inl h
 | y::l,h=>by
  unfold Ef Tg at h;split at h
  ·rcases az h with rfl | h
   ·grind
   ·exact (yr h).imp id fun ⟨x,a,k⟩=>⟨x,by grind,k⟩
  ·exact (yr h).imp id fun ⟨x,a,k⟩=>⟨x,by grind,k⟩
theorem U3 {n0:Nat} {b:List Nat} {v:Nat} :inB n0 b v=true↔v<n0\/v - n0∈b:=by unfold inB;rw[Bool.or_eq_true,aeB,qB]
theorem A8 {i:Nat} {b:List Nat} {e:Ent} (h:e∈(subS s0 l i b).chs):e∈jA s0.nxt s0.chs l/\(e.2.1<s0.nxt\/e.2.1 - s0.nxt∈b):=by
 have ⟨a,c⟩:=List.mem_filter.1 h;simp_all[al,U3]
theorem Jn {i:Nat} {b:List Nat} {e:Nat×Nat×AV} (h:e∈(subS s0 l i b).env):e∈Ef s0.nxt s0.env l/\(e.2.1<s0.nxt\/e.2.1 - s0.nxt∈b):=by
 have ⟨a,c⟩:=List.mem_filter.1 h;grind[U3]
def uU (θ:Th) (n0:Nat) (vs:Nat->Value):Th:=fun id=>if id<n0 then θ id else vs (id - n0)
theorem qC {θ:Th} {n0:Nat} {vs:Nat->Value} :Same n0 θ (uU θ n0 vs):=fun i a=>if_pos a
theorem YR {θ:Th} {n0 i:Nat} {vs:Nat->Value} {v:Value} :uU θ n0 (upd vs i v)=upd (uU θ n0 vs) (n0+i) v:=by
 funext id;show (if id<n0 then θ id else if id - n0=i then v else vs (id - n0))=if id=n0+i then v else if id<n0 then θ id else vs (id - n0);grind
def aeC (P:Program) (w0:World) (J:Hp) (θ:Th) (n0:Nat) (x:TR) (v:Value):Prop:=
 x.r.av.ok P w0 J θ (n0+x.i+1) (x.r.chs (n0+x.i))/\x.r.av.v θ=v/\ ∀g∈x.r.gives,okE P w0 J θ (n0+x.i+1) (x.r.chs (n0+x.i)) (g.1,n0+x.i,g.2)
end
section
variable {P:Program} {w0:World} {n:Nat} {s0:Sg} {ops:List Oper} {l:List TR} {J:Hp} {θ:Th} {vs:Nat->Value}
def SL (s0:Sg) (l:List TR) (h:Hdr) (ver:Nat) (c:Chk):Prop:=(∃e0∈s0.chs,Says e0 h ver c)\/ ∃x∈l,(h,ver,c)∈mD s0.nxt x
theorem NV {e:Ent} {h:Hdr} {ver:Nat} {c:Chk} {chs:List Ent} {m:Nat} (k:okE P w0 J θ m chs e) (hs:Says e h ver c):ver<m:=by
 have ⟨g,v,x⟩:=e;obtain ⟨-,hs⟩:=hs;rcases hs with ⟨a,-⟩ | hs
 ·rw[<-a];exact k.2.1
 ·cases x with
  | hole over t d u y f i j off b =>
   rw[<-hs.1];exact Nat.lt_trans k.2.2.2.1 k.2.1
  | _=>exact hs.elim
theorem ado (E:oX s0.chs=true) (B:jF (jA s0.nxt s0.chs l)=true) (r:Fine P w0 J θ s0) {h:Hdr} {ver:Nat} {c c':Chk} (h1:SL s0 l h ver c) (A:SL s0 l h ver c'):c=c':=by
 have base: ∀o∈s0.chs,∀m∈s0.chs,∀c c',Says o h ver c->Says m h ver c'->c=c':=by
  intro o k m j c c' p e;cases LN E o k m j (p.1.trans e.1.symm);have q:=r.chs o k;have ⟨g,v,x⟩:=o;rcases p.2 with ⟨H,G⟩ | a
  ·rcases e.2 with ⟨C,D⟩ | b
   ·grind
   ·cases x with
    | hole over t d u y f i z off s =>
     have:=q.2.2.2.1
     have m:=b.1;omega
    | _=>exact b.elim
  ·rcases e.2 with ⟨C,D⟩ | b
   ·cases x with
    | hole over t d u y f i z off s =>
     have:=q.2.2.2.1
     have m:=a.1;omega
    | _=>exact a.elim
   ·cases x with
    | hole over t d u y f i z off s=>rw[a.2,b.2]
    | _=>exact a.elim
 rcases h1 with ⟨o,k,p⟩ | ⟨x,F,p⟩
 ·rcases A with ⟨m,j,e⟩ | ⟨y,w,e⟩
  ·grind
  ·have:=NV (r.chs o k) p
   have:=(kO e).1
   grind
 ·rcases A with ⟨m,j,e⟩ | ⟨y,w,e⟩
  ·have:=NV (r.chs m j) e
   have:=(kO p).1
   grind
  ·have:=B4 B _ (mE.2 (.inr ⟨x,F,p⟩)) _ (mE.2 (.inr ⟨y,w,e⟩)) rfl rfl
   grind
theorem P7 (hB:oX s0.chs=true) (Y:jF (jA s0.nxt s0.chs l)=true) (D:Fine P w0 J θ s0) (ha:AllOk P w0 n s0 ops l) (Z: ∀x∈l,Eh s0.nxt x=true)
  (L1:List TR) (H: ∀y∈L1,y∈l) (b:List Nat) (i:Nat) (w: ∀j∈b,j<i)
  (t: ∀y∈l,y.i∈b->aeC P w0 J (uU θ s0.nxt vs) s0.nxt y (vs y.i))
  (R: ∀y∈l,y.i∈b-> ∀e∈mD s0.nxt y,∀h d c,Says e h d c->SL s0 l h d c)
  (B: ∀y∈l,y.i∈b-> ∀e∈y.r.chs (s0.nxt+y.i),∀h d c,Says e h d c->SL s0 l h d c)
  (K:(Ef s0.nxt s0.env L1).Pairwise fun a b=>a.2.1≠b.2.1):Fine P w0 J (uU θ s0.nxt vs) (subS s0 L1 i b):=by
 have own: ∀e∈(subS s0 L1 i b).chs,∀h d c,Says e h d c->SL s0 l h d c:=by
  intro e o h d c E;have ⟨g,m⟩:=A8 o;rcases mE.1 g with g | ⟨y,q,g⟩
  ·exact .inl ⟨e,g,E⟩
  ·grind[hv,kO,Nat.add_sub_cancel_left]
 have u: ∀h d c,Mem s0.chs s0.nxt h d c-> ∀e∈(subS s0 L1 i b).chs,∀s,Says e h d s->s=c:=by
  intro h d c p e o s E;rcases own e o h d s E with ⟨L,C,k⟩ | ⟨y,q,k⟩
  ·exact p.2 L C s k
  ·have:=(kO k).1
   have:=p.1
   grind
 have v: ∀y∈l,y.i∈b-> ∀h d,(h,d)∈aaZ s0.nxt y-> ∀c,Mem (y.r.chs (s0.nxt+y.i)) (s0.nxt+y.i+1) h d c-> ∀e∈(subS s0 L1 i b).chs,∀s,Says e h d s->s=c:=by
  intro y q f h d r c p e o s E;have A:=Z y q;unfold Eh at A;rw[al] at A
  have:=(List.all_eq_true.1 A.2) (h,d) r
  rcases Bool.or_eq_true_iff.1 this with this | this
  rotate_left
  ·rw[al,Bool.not_eq_true'] at this;have S:=aw this.1;rcases own e o h d s E with ⟨L,C,k⟩ | ⟨z,hz,k⟩
   ·have:=NV (D.chs L C) k
    omega
   ·have ⟨X,M⟩:=kO k;grind[AllOk.uniq,Hdr.beq,List.any_eq_true,IV]
  have ⟨T,F,O⟩:=List.any_eq_true.1 this;have ⟨U,G⟩:=YQ O;have N:=p.2 T F U G;subst N;exact ado hB Y D (own e o h d s E) (B y q f T F h d U G)
 refine ⟨fun e o=>?_,fun e o=>?_,List.Pairwise.filter _ K,fun e o=>?_,D.lay⟩
 ·have ⟨g,m⟩:=Jn o;rcases yr g with g | ⟨y,q,X,M,V⟩
  ·have:=D.env e g
   refine AV.ok_move (n:=s0.nxt) (Nat.le_add_right _ _) (fun h d c _ p=>u h d c p) ?_;exact AV.ok_same qC (aH _) Newer.rfl this Hp.le.rfl
  ·rcases m with m | m
   ·omega
   ·have f:y.i∈b:=by rw[M,Nat.add_sub_cancel_left] at m;exact m
    have Q:=t y (H y q) f
    have:=w _ f
    rw[V];refine AV.ok_move (n:=s0.nxt+y.i+1) (by show s0.nxt+y.i+1<=s0.nxt+i;omega) (fun h d c r p=>v y (H y q) f h d (bq _ r) c p) Q.1
 ·have ⟨g,m⟩:=Jn o;rcases yr g with g | ⟨y,q,X,M,V⟩
  ·exact aC (D.ver e g) (Nat.le_add_right _ _)
  ·rcases m with m | m
   ·omega
   ·have:=w _ m
    show e.2.1<s0.nxt+i;omega
 ·have ⟨g,m⟩:=A8 o;rcases mE.1 g with g | ⟨y,q,g⟩
  ·refine P4 (n:=s0.nxt) (Nat.le_add_right _ _) (fun h d c _ p=>u h d c p) ?_;exact gx qC (aH _) Newer.rfl (D.chs e g) Hp.le.rfl
  ·have ⟨hv,W⟩:=kO g;rcases m with m | m
   ·omega
   ·have f:y.i∈b:=by rw[hv,Nat.add_sub_cancel_left] at m;exact m
    have Q:=t y (H y q) f
    have:=w _ f
    have O:=Q.2.2 _ W;have I:e=(e.1,s0.nxt+y.i,e.2.2):=by grind
    rw[I];refine P4 (n:=s0.nxt+y.i+1) (by show s0.nxt+y.i+1<=s0.nxt+i;omega) (fun h d c r p=>?_) O;exact v y (H y q) f h d (bw _ (List.mem_flatMap.2 ⟨_,W,r⟩)) c p
end
theorem U4 {t j:Nat} {l:List Nat} :j∈agL t l↔j=t\/j∈l:=by
 unfold agL;split
 ·rename_i h
  have:=qB.1 h
  constructor
  ·exact fun h=>.inr h
  ·rintro (rfl | h)
   ·exact this
   ·exact h
 ·exact List.mem_cons
theorem LO {j:Nat} : ∀ {l acc:List Nat},j∈LL l acc↔j∈l\/j∈acc
 | [],acc=>by simp[LL]
 | t::l,acc=>by
  unfold LL;rw[LO (l:=l),U4,List.mem_cons];constructor
  ·rintro (h | h | h) <;> simp[h]
  ·rintro ((h | h) | h) <;> simp[h]
def bAt (l:List TR) (k:Nat):List Nat:=match recAt k l with
 | some y=>y.b
 | none=>[]
theorem aa2 {l:List TR} {j:Nat} : ∀ {js acc:List Nat},j∈bOf l js acc↔j∈acc\/ ∃k∈js,j=k\/j∈bAt l k
 | [],acc=>by simp[bOf]
 | k::js,acc=>by
  unfold bOf;rw[aa2 (js:=js),LO,U4];show (j∈bAt l k\/j=k\/j∈acc)\/_↔_;constructor
  ·rintro ((h | h | h) | ⟨b,a,h⟩)
   ·exact .inr ⟨k,by simp,.inr h⟩
   ·exact .inr ⟨k,by simp,.inl h⟩
   ·exact .inl h
   ·exact .inr ⟨b,by simp[a],h⟩
  ·rintro (h | ⟨b,a,h⟩)
   ·exact .inl (.inr (.inr h))
   ·rcases az a with a | a
    ·subst a;rcases h with h | h
     ·exact .inl (.inr (.inl h))
     ·exact .inl (.inl h)
    ·exact .inr ⟨b,a,h⟩
theorem HK {y:TR} : ∀ {l:List TR},y∈l-> ∃z,recAt y.i l=some z
 | x::l,h=>by
  unfold recAt;split
  ·exact ⟨_,rfl⟩
  ·rename_i a;rcases az h with h | h
   ·rw[h] at a;exact absurd (Nat.beq_refl _) a
   ·exact HK h
section
variable {P:Program} {w0:World} {n:Nat} {s0:Sg} {ops:List Oper} {l:List TR} {J:Hp} {θ:Th} {vs:Nat->Value}
theorem AllOk.closed (t:AllOk P w0 n s0 ops l) (i: ∀x∈l,∀j∈x.b,j<x.i): ∀x∈l,∀y∈l,y.i∈x.b-> ∀k∈y.b,k∈x.b:=by
 have main: ∀m,∀x∈l,x.i=m-> ∀y∈l,y.i∈x.b-> ∀k∈y.b,k∈x.b:=by
  intro m;induction m using Nat.strongRecOn with
  | _ m A =>
   intro x e w y f a k u;obtain ⟨C,p,B,r,v⟩:=t.get e;have h:=i x e _ a;have o:=v y f h;rw[p.hb,aa2] at a⊢;rcases a with a | ⟨q,s,a | a⟩
   ·cases a
   ·refine .inr ⟨q,s,.inr ?_⟩;subst a;obtain ⟨z,d⟩:=HK o;unfold bAt;rw[d];obtain ⟨b,c⟩:=Dm d;obtain rfl:=t.uniq z (r z b) y f c;exact u
   ·refine .inr ⟨q,s,.inr ?_⟩;unfold bAt at a⊢;split at a
    ·rename_i z d;obtain ⟨b,c⟩:=Dm d;have g:=B.lt z b;rw[<-p.hi] at g;exact A z.i (by omega) z (r z b) rfl y f a k u
    ·cases a
 exact fun x e=>main x.i x e rfl
theorem aa3 (c:Fine P w0 J θ s0):AllOk P w0 n s0 ops l->(Ef s0.nxt s0.env l).Pairwise fun a b=>a.2.1≠b.2.1:=by
 induction l with
 | nil=>intro _;exact c.nd
 | cons x l ih =>
  rintro ⟨f,d⟩;refine nd_go x.o.dst (ih d) fun e g=>?_;rcases yr g with h | ⟨y,i,j,k,m⟩
  ·have:=c.ver e h;omega
  ·have:=d.lt y i
   have:=f.hi
   omega
where nd_go {env:List (Nat×Nat×AV)} {k:Nat} {av:AV} (d:Option Nat) (h:env.Pairwise fun a b=>a.2.1≠b.2.1) (hv: ∀e∈env,e.2.1<k):(Tg d k av env).Pairwise fun a b=>a.2.1≠b.2.1:=K5 h hv
theorem words (N:oX s0.chs=true) (I:jF (jA s0.nxt s0.chs l)=true) (E:Fine P w0 J θ s0) (H:AllOk P w0 n s0 ops l) (M: ∀x∈l,Eh s0.nxt x=true) (v: ∀x∈l,∀j∈x.b,j<x.i)
  (B:List Nat) (A: ∀y∈l,y.i∈B-> ∀k∈y.b,k∈B) (r: ∀y∈l,y.i∈B->aeC P w0 J (uU θ s0.nxt vs) s0.nxt y (vs y.i)) :
  ∀x∈l,(∀k∈x.b,k∈B)->Fine P w0 J (uU θ s0.nxt vs) x.s/\(∀e∈mD s0.nxt x,∀h a c,Says e h a c->SL s0 l h a c)/\ ∀e∈x.r.chs (s0.nxt+x.i),∀h a c,Says e h a c->SL s0 l h a c:=by
 have main: ∀m,∀x∈l,x.i=m->(∀k∈x.b,k∈B)->Fine P w0 J (uU θ s0.nxt vs) x.s/\(∀e∈mD s0.nxt x,∀h a c,Says e h a c->SL s0 l h a c)/\ ∀e∈x.r.chs (s0.nxt+x.i),∀h a c,Says e h a c->SL s0 l h a c:=by
  intro m;induction m using Nat.strongRecOn with
  | _ m O =>
   intro x t L i;obtain ⟨R,s,U,F,V⟩:=H.get t;have D: ∀y∈l,y.i∈x.b->_:=fun y g d=>O y.i (by have:=v x t _ d;omega) y g rfl (A y g (i _ d));have G:Fine P w0 J (uU θ s0.nxt vs) x.s:=by
    rw[s.hs];exact P7 N I E H M R F x.b x.i (v x t) (fun y g d=>r y g (i _ d)) (fun y g d=>(D y g d).2.1) (fun y g d=>(D y g d).2.2) (aa3 E U)
   have p: ∀e∈x.s.chs,∀h a c,Says e h a c->SL s0 l h a c:=by
    intro e b h a c q;rw[s.hs] at b;obtain ⟨o,f⟩:=A8 b;rcases mE.1 o with o | ⟨y,g,o⟩
    ·exact .inl ⟨e,o,q⟩
    ·have hv:=(kO o).1;rcases f with f | f
     ·omega
     ·rw[hv,Nat.add_sub_cancel_left] at f;exact (D y (F y g) f).2.1 e o h a c q
   have u: ∀e∈mD s0.nxt x,∀h a c,Says e h a c->SL s0 l h a c:=by
    intro e b h a c q;cases w:x.run with
    | true =>
     obtain ⟨z,K⟩:=s.good w;obtain ⟨hv,T⟩:=kO b;obtain ⟨o,f⟩:=q;rcases f with ⟨f,S⟩ | f
     ·refine .inr ⟨x,t,?_⟩
      have:e=(h,a,c):=by rw[S,<-o,<-f]
      rw[<-this];exact b
     ·obtain ⟨Q,C,k⟩:=z.says J _ G _ T a c f;simp only at k;rw[o] at k;exact p Q C h a c k
    | false =>
     have:=s.skip w
     unfold mD at b;rw[this] at b;cases b
   refine ⟨G,u,fun e b h a c q=>?_⟩;unfold Res.chs at b;rcases aN b with b | b
   ·exact u e b h a c q
   ·refine p e ?_ h a c q;cases w:x.run with
    | true =>
     obtain ⟨z,K⟩:=s.good w;exact z.perm.mem_iff.2 (by rcases aN b with b | b <;> simp[b])
    | false =>
     rw[s.skip w] at b;simpa using b
 exact fun x t i=>main x.i x t rfl i
theorem wO {t:Nat} {av:AV} : ∀ {env:List (Nat×Nat×AV)},look env t=some av-> ∃v,Eg env t=some v/\(t,v,av)∈env
 | (u,k,x)::l,h=>by
  unfold look at h;unfold Eg;split at h
  ·rename_i a;obtain rfl:=ae h;rw[if_pos a,aw a];exact ⟨k,rfl,by simp⟩
  ·rename_i a;rw[if_neg a];obtain ⟨v,b,c⟩:=wO h;exact ⟨v,b,by simp[c]⟩
theorem U5 {t v:Nat} {av:AV} {f:Nat×Nat×AV->Bool} (j: ∀e∈s0.env,f e=true):look ((Ef s0.nxt s0.env l).filter f) t=some av->Eg ((Ef s0.nxt s0.env l).filter f) t=some v->v<s0.nxt->look s0.env t=some av:=by
 induction l with
 | nil =>
  intro b a c;rw[show (Ef s0.nxt s0.env []).filter f=s0.env from List.filter_eq_self.2 j] at b;exact b
 | cons x l ih =>
  intro b a c;unfold Ef Tg at b a;split at b
  ·rename_i d i;rw[i] at a;simp only at a;rw[List.filter_cons] at b a;split at b
   ·rename_i h;rw[if_pos h] at a;unfold look at b;unfold Eg at a;split at b
    ·rename_i g;rw[if_pos g] at a
     have:=ae a
     omega
    ·rename_i g;rw[if_neg g] at a;exact ih b a c
   ·rename_i h;rw[if_neg h] at a;exact ih b a c
  ·rename_i i;rw[i] at a;exact ih b a c
theorem afv (f:Fine P w0 J θ s0) {b:List Nat} {i:Nat} {L1:List TR} (u: ∀y∈L1,y∈l) (c: ∀y∈l,y.i∈b->aeC P w0 J (uU θ s0.nxt vs) s0.nxt y (vs y.i)) {t v:Nat} {av:AV}
  (h1:look (subS s0 L1 i b).env t=some av) (p:Eg (subS s0 L1 i b).env t=some v):(match aaY s0.nxt v with | some j=>vs j | none=>((envL θ s0).lookup t).getD undef)=av.v (uU θ s0.nxt vs):=by
 obtain ⟨w,s,q⟩:=wO h1;obtain rfl:=ae (p.symm.trans s);unfold aaY;by_cases hv:v<s0.nxt
 ·rw[if_pos (aeB.2 hv)];have o:=U5 (fun e g=>U3.2 (.inl (f.ver e g))) h1 p hv;obtain ⟨e,g,rfl⟩:=wG o;rw[AV.v_same (qC (vs:=vs)) (f.env e g)];simp only;rw[show (envL θ s0).lookup t=_ from iV o];rfl
 ·rw[if_neg (fun h=>hv (aeB.1 h))];obtain ⟨m,a⟩:=Jn q;rcases yr m with m | ⟨y,r,x,d,k⟩
  ·exact absurd (f.ver _ m) hv
  ·rcases a with a | a
   ·exact absurd a hv
   ·have d:v=s0.nxt+y.i:=d;have k:av=y.r.av:=k;have a:v - s0.nxt∈b:=a;rw[d,Nat.add_sub_cancel_left] at a;rw[d,Nat.add_sub_cancel_left,k];exact (c y (u y r) a).2.1.symm
end
def YS (P:Program) (w0:World) (J:Hp) (θ:Th) (n0:Nat) (l:List TR) (T:List Ent):Sm where
 fact i vs:= ∀x∈l,x.i=i->aeC P w0 J (uU θ n0 vs) n0 x (vs i)
 chunk k vs:=match T[k]? with
  | some e=>toCh P (uU θ n0 vs) e
  | none=>Ch.fr (fun _=>none) []
theorem NW {n0 t v:Nat} {env:List (Nat×Nat×AV)} : ∀ {ts:List Nat},t∈ts->Eg env t=some v->Skel.srcOf t (LM n0 env ts)=some (aaY n0 v)
 | u::ts,h,hv=>by
  unfold LM;by_cases a:u=t
  ·subst a;rw[hv];simp only;unfold Skel.srcOf;rw[if_pos (Nat.beq_refl u)]
  ·have b:t∈ts:=(az h).resolve_left fun e=>a e.symm;cases c:Eg env u with
   | none=>exact NW b hv
   | some w =>
    simp only;unfold Skel.srcOf;rw[if_neg fun e=>a (aw e)];exact NW b hv
theorem fin_ok {n0 t v:Nat} {f:Option Nat->Value} : ∀ {env:List (Nat×Nat×AV)} {seen:List Nat},t∉seen->Eg env t=some v->((U2 n0 env seen).map fun q=>(q.1,f q.2)).lookup t=some (f (aaY n0 v))
 | (u,k,x)::l,seen,hs,hv=>by
  unfold U2;unfold Eg at hv;split
  ·rename_i a;have a:=qB.1 a;have c:u≠t:=fun e=>hs (e ▸ a);rw[if_neg fun e=>c (aw e)] at hv;exact fin_ok hs hv
  ·rename_i a;rw[List.map_cons,List.lookup_cons];by_cases b:u=t
   ·subst b;rw[if_pos (Nat.beq_refl u)] at hv;obtain rfl:=ae hv;simp
   ·rw[if_neg fun e=>b (aw e)] at hv
    have:(t==u)=false:=by simpa using fun e=>b e.symm
    rw[this];refine fin_ok (fun h=>?_) hv;rcases az h with h | h
    ·exact b h.symm
    ·exact hs h
section
variable {V:Env} {P:Program} {I:Hp} {w0 w:World} {F:Ch} {J:Hp} {θ:Th} {s0:Sg} {ops:List Oper} {l:List TR} {a:Act}
theorem P8 {x:TR} {i:Nat} (h:i∈x.r.av.ids):i∈YO x:=bq _ h
theorem P9 {x:TR} {g:Hdr×Chk} {i:Nat} (b:g∈x.r.gives) (h:i∈HJ g.1 g.2):i∈YO x:=bw _ (List.mem_flatMap.2 ⟨g,b,h⟩)
theorem afw (y:Fine P w0 J θ s0) {n:Nat} (s:AllOk P w0 n s0 ops l) (r:l.length=ops.length) (z:jF (jA s0.nxt s0.chs l)=true) (C: ∀x∈l,Eh s0.nxt x=true) :
  Loc (rz s0 ops l (jA s0.nxt s0.chs l)) (YS P w0 J θ s0.nxt l (jA s0.nxt s0.chs l)) ops.length:=by
 have agree: ∀x∈l,∀f b:Nat->Value,(∀j,j=x.i\/j∈x.b->b j=f j)-> ∀i∈YO x,uU θ s0.nxt b i=uU θ s0.nxt f i:=by
  intro x m f b hv i c
  have:=C x m
  unfold Eh at this;rw[al,vq] at this;have q:=this.1 i c;unfold allowed at q;rw[Bool.or_eq_true,Bool.or_eq_true,aeB,aeA,qB] at q;unfold uU;by_cases d:i<s0.nxt
  ·rw[if_pos d,if_pos d]
  ·rw[if_neg d,if_neg d];exact hv _ (q.resolve_left d)
 refine ⟨fun i c f b hv h x m o=>?_,fun k t f b=>?_,fun i c k t f b hv=>?_⟩
 ·subst o;rw[(s.opAt m _).2] at hv;have u:=agree x m f b hv;obtain ⟨q,D,B⟩:=h x m rfl;refine ⟨AV.ok_loc (fun i c=>u i (P8 c)) q,?_,fun g A=>adl (fun i c=>u i (P9 A c)) (B g A)⟩;rw[AV.v_loc fun i c=>u i (P8 c),D,hv _ (.inl rfl)]
 ·obtain ⟨e,p,rfl⟩:=List.mem_map.1 t;have v:=wN z (mE.2 (.inl p));show (match _ with | some e=>toCh P (uU θ s0.nxt b) e | none=>_)=match _ with | some e=>toCh P (uU θ s0.nxt f) e | none=>_
  rw[v];simp only;rw[qx qC (y.chs e p),qx qC (y.chs e p)]
 ·obtain ⟨x,m,o,-⟩:=s.at (fun x=>x) i (by rw[r];exact c);subst o;rw[(s.opAt m _).2] at hv;rw[(s.opAt m _).1] at t;obtain ⟨e,p,rfl⟩:=List.mem_map.1 t;have v:=wN z (mE.2 (.inr ⟨x,m,p⟩));show (match _ with | some e=>toCh P (uU θ s0.nxt b) e | none=>_)=match _ with | some e=>toCh P (uU θ s0.nxt f) e | none=>_
  rw[v];simp only;exact YM fun i c=>agree x m f b hv i (P9 (kO p).2 c)
theorem adp (hf:Fine P w0 J θ s0) {n:Nat} (M:AllOk P w0 n s0 ops l) (W:l.length=ops.length) (hB:oX s0.chs=true) (hK:jF (jA s0.nxt s0.chs l)=true) (hc: ∀x∈l,Eh s0.nxt x=true)
  (hok:(rz s0 ops l (jA s0.nxt s0.chs l)).ok n (knS s0) ops=true) (hkn: ∀t,knS s0 t=true->((envL θ s0).lookup t).isSome=true) (hlt: ∀x∈l,∀j∈x.b,j<x.i) :
  ∀i o,ops[i]? =some o->(rz s0 ops l (jA s0.nxt s0.chs l)).goal (YS P w0 J θ s0.nxt l (jA s0.nxt s0.chs l)) P J w0 (envL θ s0) i o:=by
 intro i o ho d p;obtain ⟨x,N,hxi,-⟩:=M.at (fun x=>x) i (by rw[W];exact (List.getElem?_eq_some_iff.1 ho).1);subst hxi;obtain ⟨l1,E,h2,h3,h4⟩:=M.get N;obtain rfl:x.o=o:=ae (E.ho.symm.trans ho);obtain ⟨X,e2⟩:=M.opAt N (jA s0.nxt s0.chs l);have hG:=Skel.good_of_ok hkn hok ho;rw[e2] at p;have m: ∀y∈l,y.i∈x.b->aeC P w0 J (uU θ s0.nxt d) s0.nxt y (d y.i):=fun y A S=>p y.i S y A rfl;have s:=(words hB hK hf M hc hlt x.b (fun y A S k T=>M.closed hlt x N y A S k T) m x N fun k T=>T).1;have H:x.s.nxt=s0.nxt+x.i:=by rw[E.hs];rfl
 have hw:Q1 x.o d=some x.run:=by
  have f:=E.gd;unfold GdOk at f;unfold Q1;cases D:x.o.guard with
  | none=>rw[D] at f;simp only at f⊢;rw[f]
  | some gw =>
   obtain ⟨g,want⟩:=gw;rw[D] at f;simp only at f⊢;obtain ⟨y,A,hyg,r⟩:=f;obtain ⟨t,k1,k2⟩:=hG.guard g want D;have hgb:g∈x.b:=by
    have ht:t∈slotsOf ops.toArray x.o:=by
     unfold slotsOf Oper.looksAt;refine bw _ ?_;rw[D];simp only;rw[k1];simp
    rcases hG.slots t ht with ⟨G,-,-⟩ | ⟨j,G,-,q3,-⟩
    ·rw[k2] at G;cases G
    ·rw[k2] at G;obtain rfl:g=j:=by simpa using G
     rwa [e2] at q3
   subst hyg;have hv:=(m y (h3 y A) hgb).2.1;rcases r with ⟨c,r,U⟩ | ⟨r,U⟩
   ·rw[r] at hv;rw[<-hv,U];rfl
   ·rw[r] at hv;rw[<-hv,U];rfl
 rw[hw];have q: ∀v,uU θ s0.nxt (upd d x.i v)=upd (uU θ s0.nxt d) (s0.nxt+x.i) v:=fun v=>YR;have Q: ∀B:Nat->Value,∀e∈jA s0.nxt s0.chs l,(YS P w0 J θ s0.nxt l (jA s0.nxt s0.chs l)).chunk (numOf e (jA s0.nxt s0.chs l)) B=toCh P (uU θ s0.nxt B) e:=by
  intro B e L;show (match _ with | some e=>toCh P (uU θ s0.nxt B) e | none=>_)=_;rw[wN hK L]
 cases U:x.run with
 | false =>
  have O:=E.skip U;refine ⟨fun y A K=>?_,by rw[X];show (x.r.ns.map _)= [];rw[O];rfl,by rw[X];show (mD _ x).map _= [];unfold mD;rw[O];rfl⟩;obtain rfl:=M.uniq y A x N K;refine ⟨?_,?_,fun g hg=>?_⟩
  ·rw[O];trivial
  ·rw[O,ix];rfl
  ·rw[O] at hg;cases hg
 | true =>
  obtain ⟨hGd,T⟩:=E.good U;have base:=hGd.op J _ s;have hin: ∀e,e∈x.r.rs++x.r.ns->e∈jA s0.nxt s0.chs l/\e∈x.s.chs:=by
   intro e L;have R:e∈x.s.chs:=hGd.perm.mem_iff.2 (bq _ L);refine ⟨?_,R⟩;rw[E.hs] at R;rcases mE.1 (A8 R).1 with h | ⟨y,A,h⟩
   ·exact mE.2 (.inl h)
   ·exact mE.2 (.inr ⟨y,h3 y A,h⟩)
  have hev: ∀u∈x.o.op.operands,(rz s0 ops l (jA s0.nxt s0.chs l)).ev (envL θ s0) x.i d u=evL (envL (uU θ s0.nxt d) x.s) u:=by
   intro u hu;cases u with
   | tmp t =>
    unfold okO at T;rw[al,al] at T;have hx1:=List.all_eq_true.1 T.1.1 (.tmp t) (by simpa using hu);simp only[Bool.or_false] at hx1;obtain ⟨av,z⟩:=Option.isSome_iff_exists.1 hx1;have z:look x.s.env t=some av:=z;rw[aG (x:=.tmp t) z];obtain ⟨v,hv,hm⟩:=wO z;have ht:t∈slotsOf ops.toArray x.o:=by
     unfold slotsOf Oper.looksAt;exact bq _ (List.mem_filterMap.2 ⟨.tmp t,by simpa using hu,rfl⟩)
    have Z:Skel.srcOf t ((rz s0 ops l (jA s0.nxt s0.chs l)).op x.i).src=some (aaY s0.nxt v):=by
     rw[X];exact NW ht hv
    have hval:=afv (L1:=l1) (b:=x.b) (i:=x.i) hf h3 m (t:=t) (v:=v) (av:=av) (by rw[<-E.hs];exact z) (by rw[<-E.hs];exact hv);rw[<-hval];show (match Skel.srcOf t _ with | some (some j)=>d j | _=>_)=_;rw[Z];cases aaY s0.nxt v <;> rfl
   | _=>rfl
  have Y:((((rz s0 ops l (jA s0.nxt s0.chs l)).op x.i).reads++((rz s0 ops l (jA s0.nxt s0.chs l)).op x.i).needs).map ((YS P w0 J θ s0.nxt l (jA s0.nxt s0.chs l)).chunk · d))=(x.r.rs++x.r.ns).map (toCh P (uU θ s0.nxt d)):=by
   rw[X];show ((x.r.rs.map _)++(x.r.ns.map _)).map _=_;rw[<-aU,List.map_map];exact List.map_congr_left fun e L=>Q d e (hin e L).1
  intro wd C O;have hs':=O;rw[Y] at hs';have hb:=base wd C hs';have hsel:noSelect x.o=true:=hG.sel;rw[<-tj hsel hev] at hb;refine hb.imp fun v w' hv=>⟨fun y A K=>?_,?_⟩
  ·obtain rfl:=M.uniq y A x N K;rw[q,ix];obtain ⟨G,q2,q3⟩:=hv.1;rw[H] at G q2 q3;exact ⟨G,q2,q3⟩
  ·have hst:=hv.2;rw[H] at hst;have hgv:((((rz s0 ops l (jA s0.nxt s0.chs l)).op x.i).reads++((rz s0 ops l (jA s0.nxt s0.chs l)).op x.i).gives).map ((YS P w0 J θ s0.nxt l (jA s0.nxt s0.chs l)).chunk · (upd d x.i v)))=x.r.rs.map (toCh P (uU θ s0.nxt d))++x.r.gives.map fun g=>toCh P (upd (uU θ s0.nxt d) (s0.nxt+x.i) v) (g.1,s0.nxt+x.i,g.2):=by
    rw[X];show ((x.r.rs.map _)++((mD s0.nxt x).map _)).map _=_;rw[aU,List.map_map,List.map_map];congr 1
    ·refine List.map_congr_left fun e L=>?_;show (YS P w0 J θ s0.nxt l (jA s0.nxt s0.chs l)).chunk (numOf e _) (upd d x.i v)=_;obtain ⟨m1,m2⟩:=hin e (bq _ L);rw[Q _ e m1,q]
     have:=s.chs e m2
     rw[H] at this;exact qx Same.upd this
    ·unfold mD;rw[List.map_map];refine List.map_congr_left fun g hg=>?_;show (YS P w0 J θ s0.nxt l (jA s0.nxt s0.chs l)).chunk (numOf (g.1,s0.nxt+x.i,g.2) _) (upd d x.i v)=_;rw[Q _ _ (mE.2 (.inr ⟨x,N,List.mem_map.2 ⟨g,hg,rfl⟩⟩)),q]
   exact Eq.mp (congrArg (fun cs=>St J w0 w' (cs++C)) hgv.symm) hst
theorem U6 {Y:Type} {id:Nat} {k:Sg->Option Y} {res:Y} {Q:Exit->Act->World->Prop} (hT:TTok P V.tt) (hF:FTok P V.ft) (hm:P.follows .mixedOrders=true) (h:P5 V ops k s0=some res) (z:Sim P I w0 F V.n J θ s0 a w)
  (K: ∀s' θ' a' w',k s'=some res->Sim P I w0 F V.n J θ' s' a' w'->Fr s0 θ s' θ'->Q .normal a' w'):(Code.region id ops.toArray true).wp P Q a w:=by
 unfold P5 at h;obtain ⟨l,h,p,o⟩:=U1 (w0:=w0) hT hF h rfl rfl trivial;obtain ⟨G,h⟩:=ak h;unfold aa0 at G;simp only[al,List.all_eq_true] at G;obtain ⟨hB,T,hc,L,X⟩:=G;have N:=z.fine;have H: ∀t,knS s0 t=true->((envL θ s0).lookup t).isSome=true:=by
  intro t ht;obtain ⟨av,hav⟩:=Option.isSome_iff_exists.1 ht;rw[show (envL θ s0).lookup t=_ from iV hav];rfl
 have B: ∀x∈l,∀j∈x.b,j<x.i:=by
  intro x U j hj;obtain ⟨l1,h1,-⟩:=p.get U;have hG:=Skel.good_of_ok H L h1.ho
  have:=hG.bef j (by rw[(p.opAt U _).2];exact hj)
  exact this.1
 refine YL (C:=[F]) (rz s0 ops l (jA s0.nxt s0.chs l)) (YS P w0 J θ s0.nxt l (jA s0.nxt s0.chs l)) H (afw N p o T hc) hm z.agr z.st ?_ L X (adp N p o hB T hc L H B) ?_
 ·refine (List.Perm.of_eq ?_);congr 1;show _=(s0.chs.map _).map _;rw[List.map_map];refine List.map_congr_left fun e E=>?_;show _=match _ with | some e=>toCh P (uU θ s0.nxt fun _=>undef) e | none=>_
  rw[wN T (mE.2 (.inl E))];exact (qx qC (N.chs e E)).symm
 ·intro n a' w' r hA hst;have m: ∀y∈l,aeC P w0 J (uU θ s0.nxt n) s0.nxt y (n y.i):=fun y d=>r y.i (by rw[<-o];exact p.lt y d) y d rfl;have Z:=words hB T N p hc B (List.range l.length) (fun y d _ k S=>List.mem_range.2 (Nat.lt_trans (B y d k S) (p.lt y d))) (fun y d _=>m y d);have g: ∀x∈l,_:=fun x U=>Z x U fun k S=>List.mem_range.2 (Nat.lt_trans (B x U k S) (p.lt x U));have R:Fine P w0 J (uU θ s0.nxt n) (YN s0 l):=P7 hB T N p hc l (fun y d=>d) (List.range l.length) l.length (fun j hj=>List.mem_range.1 hj) (fun y d _=>m y d) (fun y d _=>(g y d).2.1) (fun y d _=>(g y d).2.2) (aa3 N p);refine K (YN s0 l) (uU θ s0.nxt n) a' w' h ⟨z.le,hA.sub fun t v hv=>?_,?_,R⟩ (Fr.rfl.trans ⟨Nat.le_add_right _ _,qC,fun e E hv=>?_,fun e E h' A c hs=>?_⟩)
  ·
   cases hl:look (YN s0 l).env t with
   | none =>
    exfalso
    have: ∀ {env:List (Nat×Nat×AV)} {θ:Th},look env t=none->(env.map fun e=>(e.1,e.2.2.v θ)).lookup t=none:=by
     intro env θ;induction env with
     | nil=>intro _;rfl
     | cons e env ih =>
      intro hh;unfold look at hh;split at hh
      ·cases hh
      ·rename_i hu;rw[List.map_cons,List.lookup_cons];have hne:(t==e.1)=false:=by
        simp only[beq_eq_false_iff_ne];intro e';subst e';exact hu (Nat.beq_refl _)
       rw[show (t==(e.1,AV.v θ e.2.2).1)=false from hne];exact ih hh
    rw[show (envL (uU θ s0.nxt n) (YN s0 l)).lookup t=none from this hl] at hv;cases hv
   | some av =>
    have hv2:=iV (θ:=uU θ s0.nxt n) hl;obtain rfl:=ae (hv2.symm.trans hv);obtain ⟨A,D,-⟩:=wO hl;have W:=afv (L1:=l) (b:=List.range l.length) (i:=l.length) N (fun y d=>d) (fun y d _=>m y d) (t:=t) (v:=A) (av:=av) hl D
    have:=fin_ok (n0:=s0.nxt) (seen:=[]) (f:=fun s=>match s with | some j=>n j | none=>((envL θ s0).lookup t).getD undef) (by simp) D
    have key: ∀M:List (Nat×Option Nat),(M.map fun q=>(q.1,match q.2 with | some j=>n j | none=>((envL θ s0).lookup q.1).getD undef)).lookup t=(M.map fun q=>(q.1,(fun s=>match s with | some j=>n j | none=>((envL θ s0).lookup t).getD undef) q.2)).lookup t:=by
     intro M;induction M with
     | nil=>rfl
     | cons q M ih =>
      rw[List.map_cons,List.map_cons,List.lookup_cons,List.lookup_cons];by_cases e:t=q.1
      ·subst e;simp
      ·rw[show (t==q.1)=false from by simpa using e];exact ih
    exact (key _).trans (this.trans (congrArg some W))
  ·have e:((YN s0 l).chs.map (numOf · (jA s0.nxt s0.chs l))).map ((YS P w0 J θ s0.nxt l (jA s0.nxt s0.chs l)).chunk · n)=(YN s0 l).chs.map (toCh P (uU θ s0.nxt n)):=by
    rw[List.map_map];refine List.map_congr_left fun e E=>?_;show (match _ with | some e=>toCh P (uU θ s0.nxt n) e | none=>_)=_;rw[wN T (A8 E).1]
   rw[<-e];exact hst
  ·obtain ⟨u,h6⟩:=Jn E;rcases yr u with u | ⟨y,d,k1,k2,k3⟩
   ·exact u
   ·omega
  ·obtain ⟨u,h6⟩:=A8 E;have O:SL s0 l h' A c:=by
    rcases mE.1 u with u | ⟨y,d,u⟩
    ·exact .inl ⟨e,u,hs⟩
    ·exact (g y d).2.1 e u h' A c hs
   rcases O with ⟨e0,he0,S⟩ | ⟨y,d,S⟩
   ·exact .inr ⟨e0,he0,S⟩
   ·have:=(kO S).1
    exact .inl (by simp only at this;omega)
theorem RJ {hs:List Hdr} : ∀ {s:Sg} {J:Hp},Sim P I w0 F V.n J θ s a w-> ∃J',J.le J'/\Sim P I w0 F V.n J' θ (Jm hs s) a w/\Fr s θ (Jm hs s) θ:=by
 induction hs with
 | nil=>exact fun b=>⟨_,Hp.le.rfl,b,Fr.rfl⟩
 | cons h hs ih =>
  intro s J b;have k: ∃J',J.le J'/\Sim P I w0 F V.n J' θ (A5 h s) a w/\Fr s θ (A5 h s) θ:=by
   unfold A5;split
   ·exact LA ‹_› b
   ·exact ⟨J,Hp.le.rfl,b,Fr.rfl⟩
  obtain ⟨m,d,e,i⟩:=k;obtain ⟨g,c,f,j⟩:=ih e;exact ⟨g,d.trans c,f,i.trans j⟩
theorem U7 {s:Sg} (b:Sim P I w0 F V.n J θ s a w): ∃J',J.le J'/\Sim P I w0 F V.n J' θ (zC ops s) a w/\Fr s θ (zC ops s) θ:=by
 unfold zC;split
 ·exact RJ b
 ·exact ⟨J,Hp.le.rfl,b,Fr.rfl⟩
theorem YT {tr:Trs} {s:Sg} (n:Sim P I w0 F V.n J θ s a w): ∃b θ',J.le b/\Sim P I w0 F V.n b θ' (YP tr ops s) a w/\Fr s θ (YP tr ops s) θ':=by
 obtain ⟨θ1,g,m⟩:=Dg n;obtain ⟨k,c,f,h⟩:=U7 (ops:=ops) g;obtain ⟨e,d⟩:=wK (hs:=Ei (zC ops (tn s)) ops) f;have d:=(m.trans h).trans d
 show∃b θ',J.le b/\Sim P I w0 F V.n b θ' (P6 tr ops (zy (Ei (zC ops (tn s)) ops) (zC ops (tn s)))) a w/\Fr s θ (P6 tr ops (zy (Ei (zC ops (tn s)) ops) (zC ops (tn s)))) θ'
 unfold P6;split
 ·exact ⟨k,θ1,c,e,d⟩
 ·obtain ⟨b,θ',i,j,o⟩:=yp e;exact ⟨b,θ',c.trans i,j,d.trans o⟩
theorem YU {Y:Type} {id:Nat} {k:Sg->Option Y} {res:Y} {Q:Exit->Act->World->Prop} (o:TTok P V.tt) (i:FTok P V.ft) (p:P.follows .mixedOrders=true) {s:Sg} (h:afu V ops k s=some res) (r:Sim P I w0 F V.n J θ s a w)
  (K: ∀b J' θ' c d,k b=some res->Sim P I w0 F V.n J' θ' b c d->J.le J'->Fr s θ b θ'->Q .normal c d):(Code.region id ops.toArray true).wp P Q a w:=by
 obtain ⟨j,θ1,g,m,n⟩:=YT (tr:=V.tr) (ops:=ops) r;exact U6 o i p (show P5 V ops k (YP V.tr ops s)=some res from h) m fun b θ' c d q f e=>K b j θ' c d q f g (n.trans e)
end
inductive Ann
 | no
 | two (a b:Ann)
 | loop (sh:List It) (a:Ann)
 | join (sh:List It) (a b:Ann)
 | joinX (sh:List It) (a b:Ann)
 | at (sh:List It) (a:Ann)
 | atX (sh:List It) (a:Ann)
def Ann.t (a:Ann):Ann:=.two .no a
def Ann.l:Ann->Ann
 | .two a _=>a
 | _=>.no
def Ann.r:Ann->Ann
 | .two _ b=>b
 | _=>.no
def LP:Code->List Nat
 | .region _ ops _=>ops.toList.filterMap (·.dst)
 | .seq a b=>LP a++LP b
 | .cond _ a b=>LP a++LP b
 | .block _ a=>LP a
 | .loop a=>LP a
 | .scope a=>LP a
 | _=>[]
def U8:List It->List Nat
 | [] =>[]
 | .slot t _::is=>t::U8 is
 | _::is=>U8 is
def Gx (c:Code) (is:List It):List Nat:=LP c++U8 is
def afx {Y:Type} (i:Nat) (kb:Sg->Option Y) (kx:Nat->Sg->Option Y):Nat->Sg->Option Y:=fun j s=>if Nat.beq j i then kb s else kx j s
def afy (V:Env) {R Y:Type} (c:Code) (n:Ann) (kr:R->Option Y) (kx:Nat->Sg->Option Y) (kn:Sg->Option Y) (s:Sg) (run:(Z:Type)->Ann->(R->Option Z)->(Nat->Sg->Option Z)->(Sg->Option Z)->Sg->Option Z):Option Y:=match n with
 | .at sh n=>(Eb (Gx c sh) sh s).bind fun q=>Option.bind (run (aaU (uT q.its)) n (fun _=>none) (fun _ _=>none) (fun s'=>(q.of s').bind fun d=>some (ofN _ d)) s) fun d=>kn (q.at (toN _ d))
 | .atX sh n=>(Eb (Gx c sh) sh s).bind fun q=>Ni (run (Y ⊕ aaU (uT q.its)) n (fun r=>(kr r).bind fun t=>some (.inl t)) (fun i s'=>(kx i s').bind fun t=>some (.inl t)) (fun s'=>(q.of s').bind fun d=>some (.inr (ofN _ d))) s) fun d=>kn (q.at (toN _ d))
 | n=>run Y n kr kx kn s
noncomputable def nH (V:Env) {R:Type} (rt:Sg->Option R):(c:Code)-> {Y:Type} ->Ann->(R->Option Y)->(Nat->Sg->Option Y)->(Sg->Option Y)->Sg->Option Y
 | .skip,_,_,kr,kx,kn,s=>kn s
 | .ret,_,_,kr,kx,kn,s=>(rt s).bind kr
 | .region id ops dr,_,n,kr,kx,kn,s=>afy V (.region id ops dr) n kr kx kn s fun Z n kr kx kn s=>match dr with
  | false=>PZ V ops.toList (fun s=>kn (aew s)) ops.toList s
  | true=>afu V ops.toList (fun s=>kn (aew s)) s
 | .seq a b,Y,n,kr,kx,kn,s=>match n with
  | .join sh n1 n2=>(Eb (Gx a sh) sh s).bind fun q=>Option.bind (nH V rt a n1 (Y:=aaU (uT q.its)) (fun _=>none) (fun _ _=>none) (fun s'=>(q.of s').bind fun d=>some (ofN _ d)) s) fun d=>nH V rt b n2 kr kx kn (q.at (toN _ d))
  | .joinX sh n1 n2=>(Eb (Gx a sh) sh s).bind fun q=>Ni (nH V rt a n1 (Y:=Y ⊕ aaU (uT q.its)) (fun r=>(kr r).bind fun t=>some (.inl t)) (fun i s'=>(kx i s').bind fun t=>some (.inl t)) (fun s'=>(q.of s').bind fun d=>some (.inr (ofN _ d))) s) fun d=>nH V rt b n2 kr kx kn (q.at (toN _ d))
  | n=>nH V rt a n.l kr kx (fun s'=>nH V rt b n.r kr kx kn s') s
 | .cond c a b,_,n,kr,kx,kn,s=>afy V (.cond c a b) n kr kx kn s fun Z n kr kx kn s=>(opd s c).bind fun v=>onB v (nH V rt a n.l kr kx kn s) (nH V rt b n.r kr kx kn s)
 | .block i (.loop c),_,n,kr,kx,kn,s=>afy V (.block i (.loop c)) n kr kx kn s fun Z n kr kx kn s=>match n with
  | .loop sh n=>(Eb (Gx c sh) sh s).bind fun q=>(q.of s).bind fun d0 =>
    aJ (aj (fun d=>nH V rt c n (Y:=Out R (aaU (uT q.its))) (fun r=>some (.ret r)) (afx i (fun s'=>(q.of s').bind fun d=>some (.brk (ofN _ d))) fun _ _=>none) (fun s'=>(q.of s').bind fun d=>some (.nxt (ofN _ d))) (q.at (toN _ d))) aP (ofN _ d0)) kr (fun d=>kn (q.at (toN _ d)))
  | _=>none
 | .block i c,_,n,kr,kx,kn,s=>afy V (.block i c) n kr kx kn s fun Z n kr kx kn s=>nH V rt c n kr (afx i kn kx) kn s
 | .exit i,_,_,kr,kx,kn,s=>kx i s
 | _,_,_,_,_,_,_=>none
section
variable {V:Env} {P:Program} {I:Hp} {w0:World} {F:Ch} {R:Type} {rt:Sg->Option R}
def IOk (V : Env) (P : Program) (I : Hp) (w0 : World) (F : Ch) {R : Type} (rt : Sg -> Option R) (c : Code) : Prop := ∀ {Y : Type} (n : Ann) {kr : R -> Option Y} {kx : Nat -> Sg -> Option Y} {kn : Sg -> Option Y} {s : Sg} {y : Y} {Q : Exit -> Act -> World -> Prop} {J : Hp} {θ : Th} {a : Act} {w : World},
    nH V rt c n kr kx kn s = some y -> Sim P I w0 F V.n J θ s a w ->
    (∀ J' θ' s' a' w', kn s' = some y -> Sim P I w0 F V.n J' θ' s' a' w' -> J.le J' -> Fr s θ s' θ' -> Q .normal a' w') ->
    (∀ i J' θ' s' a' w', kx i s' = some y -> Sim P I w0 F V.n J' θ' s' a' w' -> J.le J' -> Fr s θ s' θ' -> Q (.exit i) a' w') ->
    (∀ r J' θ' s' a' w', rt s' = some r -> kr r = some y -> Sim P I w0 F V.n J' θ' s' a' w' -> J.le J' -> Fr s θ s' θ' -> Q .ret a' w') -> c.wp P Q a w
def ROk (V : Env) (P : Program) (I : Hp) (w0 : World) (F : Ch) {R : Type} (rt : Sg -> Option R) (c : Code) (run : (Z : Type) -> Ann -> (R -> Option Z) -> (Nat -> Sg -> Option Z) -> (Sg -> Option Z) -> Sg -> Option Z) : Prop := ∀ {Y : Type} (n : Ann) {kr : R -> Option Y} {kx : Nat -> Sg -> Option Y} {kn : Sg -> Option Y} {s : Sg} {y : Y} {Q : Exit -> Act -> World -> Prop} {J : Hp} {θ : Th} {a : Act} {w : World},
    run Y n kr kx kn s = some y -> Sim P I w0 F V.n J θ s a w ->
    (∀ J' θ' s' a' w', kn s' = some y -> Sim P I w0 F V.n J' θ' s' a' w' -> J.le J' -> Fr s θ s' θ' -> Q .normal a' w') ->
    (∀ i J' θ' s' a' w', kx i s' = some y -> Sim P I w0 F V.n J' θ' s' a' w' -> J.le J' -> Fr s θ s' θ' -> Q (.exit i) a' w') ->
    (∀ r J' θ' s' a' w', rt s' = some r -> kr r = some y -> Sim P I w0 F V.n J' θ' s' a' w' -> J.le J' -> Fr s θ s' θ' -> Q .ret a' w') -> c.wp P Q a w
theorem Jo {c:Code} {run:(Z:Type)->Ann->(R->Option Z)->(Nat->Sg->Option Z)->(Sg->Option Z)->Sg->Option Z} (A:ROk V P I w0 F rt c run) {Y:Type} (n:Ann) {D:R->Option Y} {B:Nat->Sg->Option Y} {C:Sg->Option Y} {s:Sg} {y:Y} {Q:Exit->Act->World->Prop} {J:Hp} {θ:Th} {a:Act} {w:World}
  (h:afy V c n D B C s run=some y) (u:Sim P I w0 F V.n J θ s a w)
  (O: ∀g θ' b e f,C b=some y->Sim P I w0 F V.n g θ' b e f->J.le g->Fr s θ b θ'->Q .normal e f)
  (E: ∀i g θ' b e f,B i b=some y->Sim P I w0 F V.n g θ' b e f->J.le g->Fr s θ b θ'->Q (.exit i) e f)
  (N: ∀r g θ' b e f,rt b=some r->D r=some y->Sim P I w0 F V.n g θ' b e f->J.le g->Fr s θ b θ'->Q .ret e f):c.wp P Q a w:=by
 have plain:=fun n h=>A n h u O E N;cases n with
 | «at» p n =>
  have ⟨q,x,h⟩:=bind_some (show (Eb (Gx c p) p s).bind _=some y from h);have ⟨d,v,S⟩:=bind_some h;have M:=zA x u.fine;refine A n v u (fun g θ' b e f l k m j=>?_) (fun i g θ' b e f l k m j=>by cases l) (fun r g θ' b e f L z k m j=>by cases z);have ⟨K,G,l⟩:=bind_some l;grind[ae,Ed,sb]
 | atX p n =>
  have ⟨q,x,h⟩:=bind_some (show (Eb (Gx c p) p s).bind _=some y from h);have ⟨o,v,S⟩:=Ht h;have M:=zA x u.fine;refine A n v u (fun g θ' b e f l k m j=>?_) (fun i g θ' b e f l k m j=>?_) (fun r g θ' b e f L z k m j=>?_)
  ·have ⟨K,G,l⟩:=bind_some l;grind[ae,Ed,Sum.inr.inj,sb]
  ·have ⟨t,H,l⟩:=bind_some l;grind
  ·have ⟨t,H,l⟩:=bind_some z;grind
 | no=>exact plain _ h
 | two _ _=>exact plain _ h
 | loop _ _=>exact plain _ h
 | join _ _ _=>exact plain _ h
 | joinX _ _ _=>exact plain _ h
theorem Ej (hT:TTok P V.tt) (hF:FTok P V.ft) (hm:P.follows .mixedOrders=true): ∀c:Code,IOk V P I w0 F rt c/\ ∀c',c= .loop c'->IOk V P I w0 F rt c':=by
 intro c;induction c with
 | skip =>
  refine ⟨?_,fun c' e=>(by cases e)⟩;intro Y n L O N s y Q J θ a w h p A E G;exact wp_skip (A J θ s a w h p Hp.le.rfl Fr.rfl)
 | ret =>
  refine ⟨?_,fun c' e=>(by cases e)⟩;intro Y n L O N s y Q J θ a w h p A E G;have ⟨r,h1,T⟩:=bind_some (show (rt s).bind L=some y from h);grind[wp_ret,Hp.le.rfl,Fr.rfl]
 | exit i =>
  refine ⟨?_,fun c' e=>(by cases e)⟩;intro Y n L O N s y Q J θ a w h p A E G;exact wp_exit (E i J θ s a w h p Hp.le.rfl Fr.rfl)
 | region id ops dr =>
  refine ⟨?_,fun c' e=>(by cases e)⟩;intro Y n L O N s y Q J θ a w h p A E G;refine Jo (fun {Y} n {L O N s y Q J θ a w} h p A E G=>?_) n h p A E G;cases dr with
  | true =>
   have h:=h
   have:=YU (id:=id) hT hF hm h p fun D u θ' C B k g m f=>by
    have ⟨θ2,K,H⟩:=UM g;exact A u θ2 (aew D) C B k K m (f.trans H)
   omega
  | false =>
   have h:=h;exact wp_region_lit (l:=ops.toList) (LC hT hF h p fun D u θ' C B k g m f=>by
    have ⟨θ2,K,H⟩:=UM g;exact A u θ2 (aew D) C B k K m (f.trans H))
 | cond c x y ihx ihy =>
  refine ⟨?_,fun c' e=>(by cases e)⟩;intro Y n L O N s r Q J θ a w h p A E G;refine Jo (fun {Y} n {L O N s r Q J θ a w} h p A E G=>?_) n h p A E G;have ⟨v,hv',h⟩:=bind_some (show (opd s c).bind _=some r from h);have ⟨b,hb,h⟩:=aav h;have k:SO (envL θ s) c=true:=by
   cases c with
   | tmp t =>
    have:=iV (θ:=θ) (show look s.env t=some v from hv')
    show ((envL θ s).lookup t).isSome=true;grind[envL]
   | _=>rfl
  have hev:=(aG hv').trans (hb θ);cases b with
  | true=>exact Xo p.agr k hev rfl (ihx.1 n.l h p A E G)
  | false=>exact SX p.agr k hev rfl (ihy.1 n.r h p A E G)
 | seq x z ihx ihz =>
  refine ⟨?_,fun c' e=>(by cases e)⟩;intro Y n L O N s y Q J θ a w h p A E G;have plain:=fun h =>
   wp_seq (ihx.1 n.l h p (fun u θ' D C B k g m f=>ihz.1 n.r k g (fun J2 θ2 s2 a2 w2 k2 K L2 H=>A J2 θ2 s2 a2 w2 k2 K (m.trans L2) (f.trans H)) (fun i J2 θ2 s2 a2 w2 k2 K L2 H=>E i J2 θ2 s2 a2 w2 k2 K (m.trans L2) (f.trans H)) (fun r J2 θ2 s2 a2 w2 S M K L2 H=>G r J2 θ2 s2 a2 w2 S M K (m.trans L2) (f.trans H)))
    (fun i u θ' D C B k g m f=>abZ (E i u θ' D C B k g m f)) (fun r u θ' D C B S M g m f=>ab0 (G r u θ' D C B S M g m f)))
  cases n with
  | join sh n1 n2 =>
   have ⟨q,hq,h⟩:=bind_some (show (Eb (Gx x sh) sh s).bind _=some y from h);have ⟨d,h1,T⟩:=bind_some h;have hC:=zA hq p.fine;refine wp_seq (ihx.1 n1 h1 p (fun u θ' D C B k g m f=>?_) (fun i u θ' D C B k g m f=>by cases k) (fun r u θ' D C B S M g m f=>by cases M));have ⟨d',hd,k⟩:=bind_some k;cases ae k;have ⟨θ2,K,H⟩:=Ed hC g f m hd;rw[sb] at T;exact ihz.1 n2 T K (fun J3 θ3 s3 a3 X k3 W U F3=>A J3 θ3 s3 a3 X k3 W (m.trans U) (H.trans F3)) (fun i J3 θ3 s3 a3 X k3 W U F3=>E i J3 θ3 s3 a3 X k3 W (m.trans U) (H.trans F3)) (fun r J3 θ3 s3 a3 X S M W U F3=>G r J3 θ3 s3 a3 X S M W (m.trans U) (H.trans F3))
  | joinX sh n1 n2 =>
   have ⟨q,hq,h⟩:=bind_some (show (Eb (Gx x sh) sh s).bind _=some y from h);have ⟨o,h1,T⟩:=Ht h;have hC:=zA hq p.fine;refine wp_seq (ihx.1 n1 h1 p (fun u θ' D C B k g m f=>?_) (fun i u θ' D C B k g m f=>?_) (fun r u θ' D C B S M g m f=>?_))
   ·have ⟨d',hd,k⟩:=bind_some k;cases ae k;have ⟨θ2,K,H⟩:=Ed hC g f m hd;rcases T with ⟨d,e,T⟩ | T
    ·cases Sum.inr.inj e;rw[sb] at T;exact ihz.1 n2 T K (fun J3 θ3 s3 a3 X k3 W U F3=>A J3 θ3 s3 a3 X k3 W (m.trans U) (H.trans F3)) (fun i J3 θ3 s3 a3 X k3 W U F3=>E i J3 θ3 s3 a3 X k3 W (m.trans U) (H.trans F3)) (fun r J3 θ3 s3 a3 X S M W U F3=>G r J3 θ3 s3 a3 X S M W (m.trans U) (H.trans F3))
    grind
   ·have ⟨t,ht,k⟩:=bind_some k;grind[ae,Sum.inl.inj,abZ]
   ·have ⟨t,ht,k⟩:=bind_some M;cases ae k;rcases T with ⟨d,e,T⟩ | T
    ·cases e
    grind[Sum.inl.inj,ab0]
  | no=>exact plain h
  | two _ _=>exact plain h
  | loop _ _=>exact plain h
  | «at» _ _=>exact plain h
  | atX _ _=>exact plain h
 | block i x ih =>
  refine ⟨?_,fun c' e=>(by cases e)⟩;intro Y n L O N s y Q J θ a w h p A E G;have plain:ROk V P I w0 F rt (.block i x) (fun Z n L O N s=>nH V rt x n L (afx i N O) N s):=fun {Y} n {L O N s y Q J θ a w} h p A E G =>
   wp_block (ih.1 n h p (fun u θ' D C B k g m f=>aiR (A u θ' D C B k g m f))
    (fun j u θ' D C B k g m f=>by
     unfold afx at k;split at k
     ·rename_i hj
      have:=aw hj
      subst this;exact aeO (A u θ' D C B k g m f)
     ·rename_i hj;exact aeP (fun e=>hj (by rw[e];exact Nat.beq_refl i)) (E j u θ' D C B k g m f))
    (fun r u θ' D C B S M g m f=>aii (G r u θ' D C B S M g m f)))
  cases x with
  | loop x =>
   refine Jo (fun {Y} n {L O N s y Q J θ a w} h p A E G=>?_) n h p A E G;cases n with
   | loop sh n =>
    have ⟨q,hq,h⟩:=bind_some (show (Eb (Gx x sh) sh s).bind _=some y from h);have ⟨d0,hd0,h⟩:=bind_some h;have ⟨o,ho,hc⟩:=Q4 h;have hC:=zA hq p.fine;have hx:IOk V P I w0 F rt x:=ih.2 x rfl;refine wp_block (Xp (fun d a w=> ∃u θ',J.le u/\Sim P I w0 F V.n u θ' (q.at (toN _ d)) a w/\Fr s θ (q.at (toN _ d)) θ') ho ?_ ?_)
    ·have ⟨θ1,S1,F1⟩:=Ed hC p Fr.rfl Hp.le.rfl hd0;exact ⟨J,θ1,Hp.le.rfl,by rw[sb];exact S1,by rw[sb];exact F1⟩
    ·rintro d o' hf hlast a w ⟨J1,θ1,L1,S1,F1⟩;refine hx n hf S1 (fun u θ' D C B k g m f=>?_) (fun j u θ' D C B k g m f=>?_) (fun r u θ' D C B S M g m f=>?_)
     ·have ⟨d',hd,k⟩:=bind_some k;cases ae k;have ⟨θ2,K,H⟩:=Ed hC g (F1.trans f) (L1.trans m) hd;exact nrm ⟨_,rfl,u,θ2,L1.trans m,by rw[sb];exact K,by rw[sb];exact H⟩
     ·unfold afx at k;split at k
      ·rename_i hj
       have:=aw hj
       subst this;have ⟨d',hd,k⟩:=bind_some k;cases ae k;have ho2:=hlast (by simp);have ⟨θ2,K,H⟩:=Ed hC g (F1.trans f) (L1.trans m) hd;rcases hc with ⟨d2,e,hc⟩ | ⟨r,e,hc⟩
       ·cases Out.brk.inj (ho2.trans e);rw[sb] at hc;exact abZ (aeO (A u θ2 _ C B hc K (L1.trans m) H))
       ·cases ho2.trans e
      ·cases k
     ·cases ae M;have ho2:=hlast (by simp);rcases hc with ⟨d2,e,hc⟩ | ⟨r',e,hc⟩
      ·cases ho2.trans e
      ·cases Out.ret.inj (ho2.trans e);exact ab0 (aii (G r u θ' D C B S hc g (L1.trans m) (F1.trans f)))
   | _=>cases h
  | _=>exact Jo plain n h p A E G
 | loop x ih =>
  refine ⟨?_,fun c' e=>?_⟩
  ·intro Y n L O N s y Q J θ a w h p A E G;cases h
  ·cases e;exact ih.1
 | _ =>
  refine ⟨?_,fun c' e=>(by cases e)⟩;intro Y n L O N s y Q J θ a w h p A E G;cases h
end
def U9 (i:Nat):(p:PM)->p.den->AV
 | .rd t,d=>Tj i t d
 | .ow t,d=>TH (mA i [] t d)
 | .fn a b,d=>.one (.fn ⟨i,[]⟩ a b d)
 | .cap T t,d=>.one (.fz ⟨i,[]⟩ T t d 0)
 | .capf T a b,d=>.one (.fzf ⟨i,[]⟩ T a b d)
 | .ptr _ _,_=>.one (.ptr ⟨i,[]⟩ 0)
 | .eat t,d=>TH (mA i [] t d)
 | .fk g,_=>.one (.val (.func (.func g) #[] #[]))
 | .crs _ _,_=>.one (.ptr ⟨i,[]⟩ 0)
 | .kb _ _ _,_=>.one (.own ⟨i,[]⟩)
 | .kc _,_=>.one (.own ⟨i,[]⟩)
def Qa (q i:Nat):(p:PM)->p.den->List (Hdr×Chk)
 | .ow t,d=>nM i [] t d
 | .ptr T t,d=>[(⟨i,[]⟩,.box T t d)]
 | .eat t,d=>nM i [] t d
 | .crs T E,d=>[(⟨i,[]⟩,.blk T [.rd ⟨q,[]⟩ (.sl E (.int .u8)) d.1,.val (.int .i64 d.2.1),.val (.int .i64 d.2.2)])]
 | .kb g T t,d=>[(⟨i,[]⟩,.clo g [] [.ptr ⟨q,[]⟩ 0]),(⟨q,[]⟩,.box T t d)]
 | .kc g,_=>[(⟨i,[]⟩,.clo g [] [.ptr ⟨q,[]⟩ 0])]
 | _,_=>[]
def Qb:(i:Nat)->(ps:List PM)->denP ps->List (Nat×Nat×AV)
 | _,[],_=>[]
 | i,p::ps,d=>(i,i,U9 i p d.1)::Qb (i+1) ps d.2
def LQ (q:Nat):(i:Nat)->(ps:List PM)->denP ps->List Ent
 | _,[],_=>[]
 | i,p::ps,d=>(Qa q i p d.1).map (fun g=>(g.1,i,g.2))++LQ q (i+1) ps d.2
def B5 (ps:List PM) (d:denP ps):Sg:=⟨Qb 0 ps d,LQ ps.length 0 ps d,ps.length+1⟩
def aiA (P:Program) (w0:World) (J:Hp) (θ:Th) (n i:Nat):(p:PM)->Value->p.den->Prop
 | .ow t,v,d=>(mA i [] t d).2.map (·.v θ)=nG t.isProd v/\ ∀x∈(mA i [] t d).2,x.ok P w0 J θ n
 | .ptr _ _,v,_=>hv θ ⟨i,[]⟩=v/\i<n
 | .crs _ _,v,_=>hv θ ⟨i,[]⟩=v/\i<n
 | _,_,_=>True
def StF (P:Program) (w0:World) (J:Hp) (θ:Th) (n:Nat):(i:Nat)->(ps:List PM)->List Value->denP ps->Prop
 | i,p::ps,v::vs,d=>aiA P w0 J θ n i p v d.1/\StF P w0 J θ n (i+1) ps vs d.2
 | _,_,_,_=>True
section
variable {P:Program} {w0 w:World} {J:Hp} {θ:Th} {n:Nat} {C:List Ch}
theorem B6 {id:Nat} {pre:List Nat} {t:Ty} {d:t.den} : ∀g∈nM id pre t d,XN g.2:=jE t d 0
theorem Va {p:PM} {i:Nat} {v:Value} {d:p.den} {ps:List PM} {vs:List Value} {e:denP ps} {γ:Value} {q:Nat} (hi:i<n) (D:q<n) (o:θ q=γ) (j:θ i=v) (h:ahc P w0 J γ p v d) (l:St J w0 w (owCh γ (p::ps) (v::vs) (d,e)++C)) :
  (∀chs,(U9 i p d).ok P w0 J θ n chs)/\(U9 i p d).v θ=v/\St J w0 w ((Qa q i p d).map (fun g=>toCh P θ (g.1,i,g.2))++(owCh γ ps vs e++C))/\(∀g∈Qa q i p d,∀chs,okE P w0 J θ n chs (g.1,i,g.2))/\aiA P w0 J θ n i p v d:=by
 cases p with
 | rd t =>
  have ⟨O,r,B⟩:=h;have s:=fun chs=>sy (P:=P) (w0:=w0) (J:=J) (chs:=chs) hi j t d O B r;exact ⟨fun chs=>(s chs).1,(s []).2,l,fun g c=>(by cases c),trivial⟩
 | fn a b =>
  have f:hv θ ⟨i,[]⟩=v:=j;exact ⟨fun chs=>⟨hi,by rw[f];exact h⟩,f,l,fun g c=>(by cases c),trivial⟩
 | cap T t =>
  obtain ⟨b,rfl,cells,r,B⟩:=h;have f:hv θ ⟨i,[]⟩= .pointer (some ⟨b,0,none⟩):=j;refine ⟨fun chs=>⟨hi,cells,by rw[f];exact r,B⟩,?_,l,fun g c=>(by cases c),trivial⟩;show Value.pointer (some ⟨bk (hv θ ⟨i,[]⟩),0,none⟩)=_;rw[f];rfl
 | capf T x y =>
  obtain ⟨b,rfl,u,r,B⟩:=h;have f:hv θ ⟨i,[]⟩= .pointer (some ⟨b,0,none⟩):=j;refine ⟨fun chs=>⟨hi,u,by rw[f];exact r,B⟩,?_,l,fun g c=>(by cases c),trivial⟩;show Value.pointer (some ⟨bk (hv θ ⟨i,[]⟩),0,none⟩)=_;rw[f];rfl
 | ptr T t =>
  obtain ⟨b,rfl⟩:=h;have f:hv θ ⟨i,[]⟩= .pointer (some ⟨b,0,none⟩):=j;refine ⟨fun chs=>hi,?_,?_,fun g c chs=>by cases ax c;exact vj trivial hi hi,f,hi⟩
  ·show Value.pointer (some ⟨bk (hv θ ⟨i,[]⟩),0,none⟩)=_;rw[f];rfl
  ·show St J w0 w (Ch.box (bk (hv θ ⟨i,[]⟩)) T t.rep d::_);rw[f];exact l
 | ow t =>
  have ⟨F,N,M,I,K⟩:=zo (P:=P) (m:=i) (pre:=[]) (id:=i) (n:=n) hi (show hv θ ⟨i,[]⟩=v from j) h l;have q:=fun chs=>IW (P:=P) (w0:=w0) (J:=J) (θ:=θ) (n:=n) (chs:=chs) (mA i [] t d) (fun e=>vh e) F;exact ⟨fun chs=>(q chs).1,(q []).2.trans M,K,fun g c chs=>vj (B6 g c) (by rw[I g c];exact hi) hi,N,F⟩
 | eat t =>
  have ⟨F,N,M,I,K⟩:=zo (P:=P) (m:=i) (pre:=[]) (id:=i) (n:=n) hi (show hv θ ⟨i,[]⟩=v from j) h l;have q:=fun chs=>IW (P:=P) (w0:=w0) (J:=J) (θ:=θ) (n:=n) (chs:=chs) (mA i [] t d) (fun e=>vh e) F;exact ⟨fun chs=>(q chs).1,(q []).2.trans M,K,fun g c chs=>vj (B6 g c) (by rw[I g c];exact hi) hi,trivial⟩
 | fk g =>
  cases h;exact ⟨fun chs=>rfl,rfl,l,fun g c=>(by cases c),trivial⟩
 | crs T E =>
  obtain ⟨⟨b,rfl⟩,R⟩:=h;have f:hv θ ⟨i,[]⟩= .pointer (some ⟨b,0,none⟩):=j;have k:hv θ ⟨q,[]⟩=γ:=o;refine ⟨fun chs=>hi,?_,?_,fun g c chs=>?_,f,hi⟩
  ·show Value.pointer (some ⟨bk (hv θ ⟨i,[]⟩),0,none⟩)=_;rw[f];rfl
  ·show St J w0 w (Ch.blk (bk (hv θ ⟨i,[]⟩)) [hv θ ⟨q,[]⟩,.int .i64 d.2.1,.int .i64 d.2.2] T::_);rw[f,k];exact l
  ·cases ax c;refine ⟨hi,hi,fun z A=>?_⟩;rcases az A with rfl | A
   ·exact ⟨D,by grind⟩
   ·rcases az A with rfl | A
    ·rfl
    ·cases ax A
     rfl
 | kb g T t =>
  obtain ⟨rfl,b,H⟩:=h;have f:hv θ ⟨i,[]⟩= .func (.func g) #[] #[γ]:=j;have k:hv θ ⟨q,[]⟩=γ:=o;have hp:Value.pointer (some ⟨bk (hv θ ⟨q,[]⟩),0,none⟩)=γ:=by rw[k,H];rfl
  refine ⟨fun chs=>⟨hi,by rw[f];rfl⟩,f,?_,fun Q c chs=>?_,trivial⟩
  ·show St J w0 w (Ch.emp::Ch.box (bk (hv θ ⟨q,[]⟩)) T t.rep d::_);rw[k];exact St.emp.2 l
  ·rcases az c with rfl | c
   ·refine ⟨hi,hi,fun y G=>(by cases G),fun x L=>?_,?_⟩
    ·cases ax L;exact D
    ·show hv θ ⟨i,[]⟩= .func (.func g) #[] #[Value.pointer (some ⟨bk (hv θ ⟨q,[]⟩),0,none⟩)];grind
   ·cases ax c;exact vj trivial D hi
 | kc g =>
  obtain ⟨rfl,b,H⟩:=h;have f:hv θ ⟨i,[]⟩= .func (.func g) #[] #[γ]:=j;have k:hv θ ⟨q,[]⟩=γ:=o;have hp:Value.pointer (some ⟨bk (hv θ ⟨q,[]⟩),0,none⟩)=γ:=by rw[k,H];rfl
  refine ⟨fun chs=>⟨hi,by rw[f];rfl⟩,f,?_,fun Q c chs=>?_,trivial⟩
  ·exact St.emp.2 l
  ·cases ax c;refine ⟨hi,hi,fun y G=>(by cases G),fun x L=>?_,?_⟩
   ·cases ax L;exact D
   ·show hv θ ⟨i,[]⟩= .func (.func g) #[] #[Value.pointer (some ⟨bk (hv θ ⟨q,[]⟩),0,none⟩)];grind
theorem Qc {γ:Value} {q:Nat} (l:q<n) (k:θ q=γ): ∀ {ps:List PM} {i:Nat} {vs:List Value} {d:denP ps} {C:List Ch},PArgs P w0 J γ ps vs d->(∀j v,vs[j]? =some v->θ (i+j)=v)->i+ps.length<=n->St J w0 w (owCh γ ps vs d++C)->
  (∀e∈Qb i ps d,(∀f,e.2.2.ok P w0 J θ n f)/\i<=e.1/\e.2.1=e.1/\e.1<i+ps.length/\vs[e.1 - i]? =some (e.2.2.v θ))/\((Qb i ps d).Pairwise fun a b=>a.2.1≠b.2.1)/\St J w0 w ((LQ q i ps d).map (toCh P θ)++C)/\(∀e∈LQ q i ps d,∀f,okE P w0 J θ n f e)/\StF P w0 J θ n i ps vs d
 | [],i,vs,d,C,h,_,_,hS=>by
  exact ⟨fun e c=>(by cases c),List.Pairwise.nil,hS,fun e c=>(by cases c),trivial⟩
 | p::ps,i,vs,d,C,h,hθ,hn,hS=>by
  obtain ⟨v,r,rfl,m,o⟩:=h;rw[aM] at hn;have ⟨G,B,s,D,y⟩:=Va (n:=n) (i:=i) (θ:=θ) (e:=d.2) (show i<n by omega) l k (hθ 0 v rfl) m hS;have ⟨I,x,z,E,t⟩:=Qc l k (i:=i+1) o (fun j u A=>by
   have:=hθ (j+1) u A
   grind) (by omega) (s.perm (List.perm_append_comm_assoc _ _ _))
  refine ⟨fun e c=>?_,List.pairwise_cons.2 ⟨fun e c F=>?_,x⟩,?_,fun e c f=>?_,y,t⟩
  ·rcases az c with rfl | c
   ·grind
   grind
  ·grind
  ·show St J w0 w (((Qa q i p d.1).map _++LQ q (i+1) ps d.2).map (toCh P θ)++C);rw[aU,List.map_map];refine z.perm ?_;rw[aD];exact List.perm_append_comm_assoc _ _ _
  ·rcases aN c with c | c
   ·obtain ⟨g,H,rfl⟩:=List.mem_map.1 c;grind
   grind
theorem LR {γ:Value} : ∀ {ps:List PM} {vs:List Value} {d:denP ps},PArgs P w0 J γ ps vs d->vs.length=ps.length
 | [],vs,d,h=>by
  have h:vs= []:=h;grind
 | p::ps,vs,d,h=>by
  obtain ⟨v,r,rfl,b,a⟩:=h;simpa using LR a
end
def adq (tt:TT) (s:Sg):ResultVar->Option AV
 | .tmp t=>look s.env t
 | .cell p T=>(Xg (look s.env p)).bind fun h=>(td tt T).bind fun d=>(uS h s.chs).bind fun b=>bW (Nat.beq b.cells.length d.n) (aha d.agg b.cells)
theorem adr {v:Option AV} {h:Hdr} (k:Xg v=some h):v=some (.one (.ptr h 0)):=by
 unfold Xg at k;grind[aw,ae]
section
variable {P:Program} {I:Hp} {w0 w:World} {F:Ch} {J:Hp} {θ:Th} {n:Nat} {s:Sg} {a:Act} {tt:TT}
theorem ads (d:Agr n a (envL θ s)) {t g:Nat} {T E:TypeId} {v:Value} {cs:List Ch} (h:(envL θ s).lookup t=some (.pointer (some ⟨g,0,none⟩))) (hs:St J w0 w cs) (i:Nat) (hi:cs[i]? =some (Ch.blk g [v] E)) (e:TI P T false 1):Ng P a w (.cell t T) v:=by
 refine ⟨_,d.2.2 t _ h,?_⟩;have b:=hs.heap i hi;have c:w.cell? ⟨g,0,none⟩=some v:=by simp[World.cell?,b]
 simp[loadVar,Sem.run_bind,e.run_agg,load,Sem.run,c,Result.andThen]
theorem YV (z:TTok P tt) (g:Sim P I w0 F n J θ s a w) {r:ResultVar} {v:AV} (h:adq tt s r=some v):Ng P a w r (v.v θ)/\v.ok P w0 J θ s.nxt s.chs:=by
 cases r with
 | tmp t=>exact ⟨abY g.agr (iV h),bQ (x:=.tmp t) g.fine h⟩
 | cell p T =>
  have ⟨f,A,h⟩:=bind_some (show (Xg (look s.env p)).bind _=some v from h);have ⟨d,u,h⟩:=bind_some h;have ⟨b,B,h⟩:=bind_some h;have ⟨o,h⟩:=ak h;have o:=aw o;have hp:=mz B;have q:=g.fine.chs _ (hp.mem_iff.2 (List.mem_cons_self ..));have ⟨C,k⟩:=Tx (chs:=s.chs) h q.2.2;refine ⟨?_,C⟩;have m:(envL θ s).lookup p=some (.pointer (some ⟨bk (hv θ f),0,none⟩)):=iV (adr A);have i:=g.st.perm ((hp.map (toCh P θ)).append_right [F]);have c:=(z.get u).ti;cases e:d.agg with
  | true =>
   rw[e] at k c;rw[<-k];exact Xn g.agr m i 0 rfl c (by grind)
  | false =>
   rw[e] at k c h;have j:d.n=1:=by
    have:=(z.get u).one
    rw[e] at this;simpa using this
   have ⟨x,y⟩:=List.length_eq_one_iff.1 (o.trans j);rw[j] at c;rw[y] at k;rw[<-k];have l:St J w0 w (Ch.blk (bk (hv θ f)) [x.v θ] b.T::(b.rest.map (toCh P θ)++ [F])):=by
    have:(toCh P θ (b.ent f))=Ch.blk (bk (hv θ f)) (b.cells.map (·.v θ)) b.T:=rfl
    rw[y] at this;rw[<-show toCh P θ (b.ent f)=Ch.blk (bk (hv θ f)) [x.v θ] b.T from this];exact i
   exact ads g.agr m l 0 rfl c
end
def NX:(ts:List Ty)->List AV->List Ent->Option (kN ts×List Ent×List Ent)
 | [],[],chs=>some ((),[],chs)
 | t::ts,v::vs,chs=>bW (qz v==t.isProd) ((nL v).bind fun cs=>(eC t cs chs).bind fun q=>bW q.cells.isEmpty ((NX ts vs q.rest).bind fun r=>some ((q.d,r.1),q.used++r.2.1,r.2.2)))
 | _,_,_=>none
def A9:(ts:List Ty)->List Value->kN ts->List Ch
 | t::ts,v::vs,d=>Ch.own t.rep (nG t.isProd v) d.1::A9 ts vs d.2
 | _,_,_=>[]
theorem HL {P:Program} {w0:World} {J:Hp} {θ:Th} {n:Nat} {chs0:List Ent} : ∀ {ts:List Ty} {vs:List AV} {chs:List Ent} {r:kN ts×List Ent×List Ent},NX ts vs chs=some r->(∀v∈vs,v.ok P w0 J θ n chs0)->
  chs.Perm (r.2.1++r.2.2)/\vs.length=ts.length/\vd J (r.2.1.map (toCh P θ)) (A9 ts (vs.map (·.v θ)) r.1)/\ ∀(i:Nat) t v,ts[i]? =some t->vs[i]? =some v->qw (v.v θ)=t.isProd
 | [],[],chs,r,h,_=>by
  cases ae (show some _=some r from h);exact ⟨List.Perm.refl _,rfl,zf,fun i t v m=>by grind⟩
 | t::ts,v::vs,chs,r,h,hv'=>by
  have ⟨d,h⟩:=ak (show bW (qz v==t.isProd) _=some r from h);have d:qz v=t.isProd:=by simpa using d
  have ⟨c,a,h⟩:=bind_some h;have ⟨q,l,h⟩:=bind_some h;have ⟨o,h⟩:=ak h;have ⟨f,A,h⟩:=bind_some h;cases ae h;have ⟨s,D⟩:=kj a (hv' v (by simp));have ⟨p,H,g,y⟩:=lX (J:=J) (θ:=θ) l s;rw[List.isEmpty_iff.1 o,List.append_nil] at g;subst g;have ⟨z,E,w,C⟩:=HL A fun x F=>hv' x (by grind);have b:nG t.isProd (v.v θ)=c.map (·.v θ)/\qw (v.v θ)=t.isProd:=by
   rw[<-d];cases v with
   | agg j =>
    cases ae (show some j=some c from a);exact ⟨rfl,rfl⟩
   | one x =>
    cases ae (show some [x] =some c from a);refine ⟨rfl,?_⟩;have e:=LV.one (show LV.ok P w0 J θ n x from hv' (.one x) (by simp));show qw (x.v θ)=false;generalize x.v θ=u at e;cases u <;> first | rfl | cases e
   | _=>cases a
  refine ⟨by rw[aD];exact p.trans (z.append_left _),by grind,?_,fun i B G m k=>?_⟩
  ·show vd J ((q.used++f.2.1).map _) (Ch.own t.rep (nG t.isProd (v.v θ)) q.d::A9 ts (vs.map _) f.1);rw[aU,b.1];exact ve y w
  grind
 | [],_::_,chs,r,h,_=>by cases h
 | _::_,[],chs,r,h,_=>by cases h
def agN:List Value->Value
 | [v] =>v
 | vs=>.tuple vs.toArray
def Qd (P:Program) (a:Act) (w:World):List ResultVar->List Value->Prop
 | [],vs=>vs= []
 | r::rs,vs=> ∃v us,vs=v::us/\Ng P a w r v/\Qd P a w rs us
theorem B7 {P:Program} {a:Act} {w:World} {f:ResultVar->Sem Value} (b: ∀r v,Ng P a w r v->(f r).run P w= .ok v w): ∀ {l:List ResultVar} {vs:List Value},Qd P a w l vs->(l.mapM f).run P w= .ok vs w
 | [],vs,h=>by
  have h:vs= []:=h;simp_all
 | r::l,vs,h=>by
  obtain ⟨v,e,rfl,c,d⟩:=h;rw[List.mapM_cons,Sem.run_bind,b r v c];simp only[Result.andThen_ok,Sem.run_bind,B7 b d]
  rfl
def agO (a:Act) (r:ResultVar):Sem Value:=match r with
 | .tmp t=>pure (a.tmps.getD t undef)
 | .cell p t=>do loadVar t (<-asAddr (a.tmps.getD p undef))
theorem adt {P:Program} {a:Act} {w:World} {r:ResultVar} {v:Value} (h:Ng P a w r v):(agO a r).run P w= .ok v w:=by
 cases r with
 | tmp t =>
  have h:a.tmps.getD t undef=v:=h;show (pure (a.tmps.getD t undef):Sem Value).run P w=_;simp_all
 | cell p T =>
  have ⟨A,b,c⟩:=h;show ((asAddr (a.tmps.getD p undef)) >>=fun x=>loadVar T x).run P w=_;rw[b,Sem.run_bind];show Result.andThen (.ok A w) _=_;simp_all
theorem ahu {P:Program} {n:Nat} {a:Act} {w:World} {L:List (Nat×Value)} {fn:Func} {R:Ending->World->Prop} {vs:List Value} (c:Agr n a L) (h:Qd P a w fn.results.toList vs) (d:R (.returned (agN vs)) w):bodyPost P fn R .ret a w:=by
 refine ⟨c.1,agN vs,?_,d⟩;have b:((fn.results.mapM (agO a)):Sem (Array Value)).run P w= .ok vs.toArray w:=by
  rw[Array.mapM_eq_mapM_toList]
  have:=B7 (f:=agO a) (fun r v=>adt) h
  simp[this,Sem.run_map]
 show ((fn.results.mapM (agO a)) >>=fun vs=>pure (if h:vs.size=1 then vs[0] else .tuple vs):Sem Value).run P w=_;rw[Sem.run_bind,b,Result.andThen_ok]
 match vs with
 | [] =>rfl
 | [v] =>rfl
 | _::_::_=>rfl
def eE (g0:Nat):(i:Nat)->(ps:List PM)->denP ps->List Ent->Option (kN (outs ps)×List Ent×List Ent)
 | _,[],_,chs=>some ((),[],chs)
 | i,.ow t::ps,d,chs=>(eC t (mA i [] t d.1).2 chs).bind fun q=>bW q.cells.isEmpty ((eE g0 (i+1) ps d.2 q.rest).bind fun r=>some ((q.d,r.1),q.used++r.2.1,r.2.2))
 | i,.ptr T t::ps,d,chs=>(vi ⟨i,[]⟩ T t chs).bind fun q=>(eE g0 (i+1) ps d.2 q.2.2).bind fun r=>some ((q.1,r.1),q.2.1++r.2.1,r.2.2)
 | i,.rd _::ps,d,chs=>eE g0 (i+1) ps d.2 chs
 | i,.fn _ _::ps,d,chs=>eE g0 (i+1) ps d.2 chs
 | i,.eat _::ps,d,chs=>eE g0 (i+1) ps d.2 chs
 | i,.cap _ _::ps,d,chs=>eE g0 (i+1) ps d.2 chs
 | i,.capf _ _ _::ps,d,chs=>eE g0 (i+1) ps d.2 chs
 | i,.fk _::ps,d,chs=>eE g0 (i+1) ps d.2 chs
 | i,.kc _::ps,d,chs=>eE g0 (i+1) ps d.2 chs
 | i,.kb _ T t::ps,d,chs=>(vi ⟨g0,[]⟩ T t chs).bind fun q=>(eE g0 (i+1) ps d.2 q.2.2).bind fun r=>some ((q.1,r.1),q.2.1++r.2.1,r.2.2)
 | i,.crs T E::ps,d,chs=>(yn ⟨i,[]⟩ T E chs).bind fun q=>bW (Hdr.beq q.g ⟨g0,[]⟩) ((eE g0 (i+1) ps d.2 q.rest).bind fun r=>some ((q.d.2,r.1),q.ent::r.2.1,r.2.2))
theorem eH {P:Program} {w0:World} {J J':Hp} {θ θ':Th} {n n':Nat} {chs0:List Ent} (f:J.le J') (hs:Same n θ θ') {γ:Value} {c:Nat} (b:c<n) (a:θ c=γ): ∀ {ps:List PM} {i:Nat} {d:denP ps} {chs:List Ent} {vs:List Value} {r:kN (outs ps)×List Ent×List Ent},eE c i ps d chs=some r->vs.length=ps.length->StF P w0 J θ n i ps vs d->(∀e∈chs,okE P w0 J' θ' n' chs0 e)->
  chs.Perm (r.2.1++r.2.2)/\vd J' (r.2.1.map (toCh P θ')) (outCh γ ps vs r.1)
 | [],i,d,chs,vs,r,h,_,_,_=>by
  cases ae (show some _=some r from h);exact ⟨List.Perm.refl _,zf⟩
 | p::ps,i,d,chs,[],r,h,hl,_,_=>by cases hl
 | .ow t::ps,i,d,chs,v::vs,r,h,hl,hF,hc=>by
  have ⟨q,k,h⟩:=bind_some (show (eC t (mA i [] t d.1).2 chs).bind _=some r from h);have ⟨m,h⟩:=ak h;have ⟨A,y,h⟩:=bind_some h;cases ae h;have ⟨⟨C,z⟩,u⟩:=hF;have ⟨p,O,H,I⟩:=lX (P:=P) (w0:=w0) (J:=J') (θ:=θ') (n:=n) k fun x M=>LV.ok_same hs (aH _) (z x M) f;rw[List.isEmpty_iff.1 m,List.append_nil] at H;subst H;rw[jc hs z,C] at I;have ⟨s,o⟩:=eH f hs b a y (by grind) u fun e m=>hc e (p.mem_iff.2 (by grind));refine ⟨by rw[aD];exact p.trans (s.append_left _),?_⟩;show vd J' ((q.used++A.2.1).map _) (Ch.own t.rep (nG t.isProd v) q.d::outCh γ ps vs A.1);rw[aU];exact ve I o
 | .ptr T t::ps,i,d,chs,v::vs,r,h,hl,hF,hc=>by
  have ⟨q,k,h⟩:=bind_some (show (vi ⟨i,[]⟩ T t chs).bind _=some r from h);have ⟨A,y,h⟩:=bind_some h;cases ae h;have ⟨⟨C,z⟩,u⟩:=hF;have ⟨p,l⟩:=wH (P:=P) (w0:=w0) (J:=J') (J':=J') (θ:=θ') k Hp.le.rfl hc;have ⟨s,o⟩:=eH f hs b a y (by grind) u fun e m=>hc e (p.mem_iff.2 (by grind));refine ⟨by rw[aD];exact p.trans (s.append_left _),?_⟩;rw[aU];have B:=(a7 hs (show (⟨i,[]⟩:Hdr).id<n from z)).trans C;rw[B] at l;intro w F g;obtain ⟨G,K,rfl,j,D⟩:=g.split;exact ⟨G,K,rfl,l w G j,o w K D⟩
 | .rd t::ps,i,d,chs,v::vs,r,h,hl,hF,hc=>eH (ps:=ps) f hs b a (show eE c (i+1) ps d.2 chs=some r from h) (by grind) hF.2 hc
 | .fn _ _::ps,i,d,chs,v::vs,r,h,hl,hF,hc=>eH (ps:=ps) f hs b a (show eE c (i+1) ps d.2 chs=some r from h) (by grind) hF.2 hc
 | .eat _::ps,i,d,chs,v::vs,r,h,hl,hF,hc=>eH (ps:=ps) f hs b a (show eE c (i+1) ps d.2 chs=some r from h) (by grind) hF.2 hc
 | .cap _ _::ps,i,d,chs,v::vs,r,h,hl,hF,hc=>eH (ps:=ps) f hs b a (show eE c (i+1) ps d.2 chs=some r from h) (by grind) hF.2 hc
 | .capf _ _ _::ps,i,d,chs,v::vs,r,h,hl,hF,hc=>eH (ps:=ps) f hs b a (show eE c (i+1) ps d.2 chs=some r from h) (by grind) hF.2 hc
 | .kc _::ps,i,d,chs,v::vs,r,h,hl,hF,hc=>eH (ps:=ps) f hs b a (show eE c (i+1) ps d.2 chs=some r from h) (by grind) hF.2 hc
 | .kb _ T t::ps,i,d,chs,v::vs,r,h,hl,hF,hc=>by
  have ⟨q,k,h⟩:=bind_some (show (vi ⟨c,[]⟩ T t chs).bind _=some r from h);have ⟨A,y,h⟩:=bind_some h;cases ae h;obtain ⟨-,u⟩:=hF;have ⟨p,l⟩:=wH (P:=P) (w0:=w0) (J:=J') (J':=J') (θ:=θ') k Hp.le.rfl hc;have ⟨s,o⟩:=eH f hs b a y (by grind) u fun e m=>hc e (p.mem_iff.2 (by grind));refine ⟨by rw[aD];exact p.trans (s.append_left _),?_⟩;rw[aU];have B:hv θ' ⟨c,[]⟩=γ:=by
   show vg (θ' c) [] =γ;rw[hs c b,a];rfl
  rw[B] at l;intro w F g;obtain ⟨G,K,rfl,j,D⟩:=g.split;exact ⟨G,K,rfl,l w G j,o w K D⟩
 | .fk _::ps,i,d,chs,v::vs,r,h,hl,hF,hc=>eH (ps:=ps) f hs b a (show eE c (i+1) ps d.2 chs=some r from h) (by grind) hF.2 hc
 | .crs T E::ps,i,d,chs,v::vs,r,h,hl,hF,hc=>by
  have ⟨q,k,h⟩:=bind_some (show (yn ⟨i,[]⟩ T E chs).bind _=some r from h);have ⟨l,h⟩:=ak h;have ⟨A,y,h⟩:=bind_some h;cases ae h;have ⟨⟨C,z⟩,u⟩:=hF;have ⟨p,L,m⟩:=qn k;have ⟨s,o⟩:=eH f hs b a y (by grind) u fun e m=>hc e (p.mem_iff.2 (by grind));refine ⟨p.trans (s.cons _),?_⟩;have B:=(a7 hs (show (⟨i,[]⟩:Hdr).id<n from z)).trans C;have N:hv θ' q.g=γ:=by
   rw[Hdr.beq_eq l];show vg (θ' c) [] =γ;rw[hs c b,a];rfl
  rw[m];intro w F g;obtain ⟨G,K,rfl,j,D⟩:=g;have j:(Ch.blk (bk (hv θ' ⟨i,[]⟩)) [hv θ' q.g,.int .i64 q.d.2.1,.int .i64 q.d.2.2] T).holds J' w G:=j;rw[B,N] at j;exact ⟨G,K,rfl,j,o w K D⟩
def ofH:(ts:List Ty)->kN ts->dens ts
 | [],_=>()
 | [_],d=>d.1
 | _::u::ts,d=>(d.1,ofH (u::ts) d.2)
theorem NY: ∀(ts:List Ty) (d:kN ts),toH ts (ofH ts d)=d
 | [],_=>rfl
 | [_],_=>rfl
 | _::u::ts,d=>congrArg (Prod.mk d.1) (NY (u::ts) d.2)
def vr:(ts us:List Ty)->kN ts->kN us->kN (ts++us)
 | [],_,_,e=>e
 | _::ts,us,d,e=>(d.1,vr ts us d.2 e)
theorem Jp: ∀(ts us:List Ty) (d:kN ts) (e:kN us),hFst ts us (vr ts us d e)=d
 | [],_,_,_=>rfl
 | _::ts,us,d,e=>congrArg (Prod.mk d.1) (Jp ts us d.2 e)
theorem Qe: ∀(ts us:List Ty) (d:kN ts) (e:kN us),hSnd ts us (vr ts us d e)=e
 | [],_,_,_=>rfl
 | _::ts,us,d,e=>Qe ts us d.2 e
def HM (tt:TT) (s:Sg):List ResultVar->Option (List AV)
 | [] =>some []
 | r::rs=>(adq tt s r).bind fun v=>(HM tt s rs).bind fun vs=>some (v::vs)
def NZ (s:Sg):List AV->List Hdr
 | [] =>[]
 | v::vs=>D9 v++NZ s vs
def Dn:List Ent->List Hdr
 | [] =>[]
 | e::l=>match e.2.2 with
  | .hole _ _ _ _ _ _ _ _ _ _=>e.1::Dn l
  | _=>Dn l
def afz:List AV->List (Bool×Hdr)
 | [] =>[]
 | v::vs=>aiw true v++afz vs
def LS (tr:Trs) (vs:List AV) (s:Sg):Sg:=match tr with
 | [] =>s
 | _=>X4 (US tr) (afz vs) s
def YW (tr:Trs) (vs:List AV) (s0:Sg):Sg:=match LS tr vs s0 with
 | s=>zy (NZ s0 vs++Dn s.chs) s
def nlN:List AV->(ts:List Ty)->kN ts->Int
 | [.one (.own _)],[.sl _ t],d=>((List.length (α:=t.den) d.1:Nat):Int)
 | [.one (.val v)],[.sl _ _],_=>match isNil v with
  | true=>1
  | false=>0
 | _,_,_=>0
def afA (an:List (Nat×Ty)) (vs:List AV) (ts:List Ty) (d:kN ts):Option Unit:=match D8 1000000 an with
 | true=>chk (0<nlN vs ts d)
 | false=>some ()
theorem afB {vs:List AV} {ts:List Ty} {d:kN ts} {θ:Th} (h:0<nlN vs ts d) {v:Value} (hv:vs.map (·.v θ)= [v]):BV ts d v:=by
 unfold nlN at h;split at h
 ·intro a;omega
 ·split at h
  ·intro _;grind[pO,AV.v,LV.v]
  ·omega
 ·omega
def RK (V:Env) (rvs:List ResultVar) (rs:List Ty) (ps:List PM) (d:denP ps) (s00:Sg):Option (dens (rs++outs ps)):=(HM V.tt s00 rvs).bind fun vs00=>Yd vs00 s00 fun s0=>(HM V.tt s0 rvs).bind fun vs0=>match YW V.tr vs0 s0 with
 | s=>(HM V.tt s rvs).bind fun vs=>(NX rs vs s.chs).bind fun r=>(eE ps.length 0 ps d r.2.2).bind fun o=>(afA V.an vs rs r.1).bind fun _=>some (ofH _ (vr rs (outs ps) r.1 o.1))
theorem HO {vs:List Value} : ∀ {ts:List Ty} {i:Nat} {us:List Value} {d:kN ts},us.length=ts.length->(∀j v,us[j]? =some v->vs[i+j]? =some v)->AS i ts d (.tuple vs.toArray)=A9 ts us d
 | [],i,us,d,h,_=>by
  rfl
 | t::ts,i,[],d,h,_=>by cases h
 | t::ts,i,u::us,d,h,k=>by
  have a:vg (.tuple vs.toArray) [i] =u:=by
   show vs.toArray.getD i undef=u
   have:=k 0 u rfl
   rw[Nat.add_zero] at this;simp[Array.getD_eq_getD_getElem?,this]
  show Ch.own t.rep (nG t.isProd (vg (.tuple vs.toArray) [i])) d.1::AS (i+1) ts d.2 _=Ch.own t.rep (nG t.isProd u) d.1::A9 ts us d.2;rw[a,HO (us:=us) (by grind) fun j v b=>by
   have:=k (j+1) v (by grind)
   grind]
theorem RL {ts:List Ty} {vs:List Value} {d:kN ts} (h:vs.length=ts.length):resGv ts d (agN vs)=A9 ts vs d:=by
 match ts,vs,d,h with
 | [],[],d,_=>rfl
 | [t],[v],d,_=>rfl
 | t::u::ts,v::w::vs,d,h =>
  show AS 0 _ d (.tuple (v::w::vs).toArray)=_;grind[HO]
theorem YX {ts:List Ty} {vs:List Value} (h:vs.length=ts.length) (k: ∀(i:Nat) t v,ts[i]? =some t->vs[i]? =some v->qw v=t.isProd):resFa ts (agN vs):=by
 match ts,vs,h with
 | [],[],_=>exact ⟨#[],rfl,rfl,fun i t b=>by grind⟩
 | [t],[v],_=>exact k 0 t v rfl rfl
 | t::u::ts,v::w::vs,h =>
  refine ⟨(v::w::vs).toArray,rfl,by omega,fun i c b=>?_⟩;have a:i<(v::w::vs).length:=by rw[h];exact (List.getElem?_eq_some_iff.1 b).1
  have:=k i c ((v::w::vs)[i]) b (List.getElem?_eq_getElem a)
  rw[<-this,Array.getD_eq_getD_getElem?,List.getElem?_toArray,List.getElem?_eq_getElem a];rfl
theorem Ek {P:Program} {I:Hp} {w0 w:World} {F:Ch} {J:Hp} {θ:Th} {n:Nat} {s:Sg} {a:Act} {tt:TT} (d:TTok P tt) (e:Sim P I w0 F n J θ s a w): ∀ {rs:List ResultVar} {vs:List AV},HM tt s rs=some vs->Qd P a w rs (vs.map (·.v θ))/\ ∀v∈vs,v.ok P w0 J θ s.nxt s.chs
 | [],vs,h=>by
  cases ae (show some [] =some vs from h);exact ⟨rfl,fun v hv=>by cases hv⟩
 | r::rs,vs,h=>by
  have ⟨v,b,h⟩:=bind_some (show (adq tt s r).bind _=some vs from h);have ⟨i,c,h⟩:=bind_some h;cases ae h;have ⟨g,k⟩:=YV d e b;have ⟨f,j⟩:=Ek d e c;refine ⟨⟨_,_,rfl,g,f⟩,fun x l=>?_⟩;grind
theorem Vc {J:Hp} {a b c d:List Ch} (h:vd J a b) (k:vd J c d):vd J (a++c) (b++d):=fun w F e=>by
 obtain ⟨G,K,rfl,g,f⟩:=e.split;exact (h w G g).append (k w K f)
theorem St.sepTo {J:Hp} {w0 w:World} {a b C:List Ch} (h:St J w0 w (a++C)) (k:vd J a b):St J w0 w (b++C):=by
 have ⟨d,j,F,e,c,i⟩:=h;obtain ⟨G,K,rfl,f,g⟩:=e.split;exact ⟨d,j,G++K,(k w G f).append g,c,i⟩
theorem HP {P:Program} {n:Nat} {I:Hp} {w0:World} {k:FuncId} {fn:Func} {c:Code} {args:Array Value} {rn:List Ch} {fact:Value->Prop} {gv:Value->List Ch} (L:List (Nat×Value)) (j:P.funcs[k]? =some fn) (b:fn.body=some c) (x:fn.ntmps=n) (y:args.size<=n) (s: ∀p∈L,args[p.1]? =some p.2)
  (h: ∀F w a,Agr n a L->St I w0 w (rn++ [F])->c.wp P (bodyPost P fn fun e g=> ∃v,e= .returned v/\fact v/\ ∃J,I.le J/\St J w0 g (gv v++ [F])) a w) (l: ∀v,Ch.back (gv v)):Con P k args I w0 rn fact gv:=by
 intro w C f;have d:St I w0 w (rn++ [Ch.fr I C]):=by
  have ⟨b,t,F,i,u,m⟩:=f;obtain ⟨G,K,rfl,q,r⟩:=i.split;exact ⟨b,t,G++K,q.append ⟨K,[],by simp,r,rfl⟩,u,m⟩
 have:=h (Ch.fr I C) w { tmps:=args++Array.replicate (fn.ntmps - args.size) undef,defers:=[] } (Agr.start L (by omega) s) d
 refine (calls_of_wp j b this).mono ?_;rintro e g ⟨v,rfl,hv,J,o,f⟩;exact ⟨v,rfl,hv,f.back o (l v)⟩
theorem YY {P:Program} {I:Hp} {w0 w:World} {F:Ch} {n:Nat} {J:Hp} {θ:Th} {s:Sg} {a:Act} {tr:Trs} {vs:List AV} (g:Sim P I w0 F n J θ s a w): ∃b θ',J.le b/\Sim P I w0 F n b θ' (YW tr vs s) a w/\Fr s θ (YW tr vs s) θ':=by
 have key: ∃b θ',J.le b/\Sim P I w0 F n b θ' (LS tr vs s) a w/\Fr s θ (LS tr vs s) θ':=by
  unfold LS;split
  ·grind[Hp.le.rfl,Fr.rfl]
  ·exact yp g
 have ⟨b,θ',d,h,e⟩:=key;have ⟨f,c⟩:=wK (V:=⟨[],[],[],n,[]⟩) (hs:=NZ s vs++Dn (LS tr vs s).chs) h;exact ⟨b,θ',d,f,e.trans c⟩
theorem aa4 {V:Env} {P:Program} {w0:World} {F:Ch} {J:Hp} {θ:Th} (K:TTok P V.tt) {fn:Func} {rs:List Ty} {ps:List PM} {d:denP ps} {vs:List Value} {s0:Sg} (Q:vs.length=ps.length) (k5:StF P w0 J θ (ps.length+1) 0 ps vs d) (hn0:ps.length+1<=s0.nxt) {γ:Value} (B:θ ps.length=γ): ∀r J' θ' p w j,RK V fn.results.toList rs ps d p=some r->Sim P J w0 F V.n J' θ' p w j->J.le J'->Fr s0 θ p θ'->
  bodyPost P fn (fun e j=> ∃v,e= .returned v/\(resFa rs v/\(D8 1000000 V.an=true->BV rs (hFst rs (outs ps) (toH _ r)) v))/\ ∃J2,J.le J2/\St J2 w0 j ((resGv rs (hFst rs (outs ps) (toH _ r)) v++outCh γ ps vs (hSnd rs (outs ps) (toH _ r)))++ [F])) .ret w j:=by
 intro r J' θ' p w j a g l f;have ⟨I,s,a⟩:=bind_some (show (HM V.tt p fn.results.toList).bind _=some r from a);have ⟨A,a,H,N0⟩:=PU a (Ek K g s).2 g;have ⟨m,S,a⟩:=bind_some a;have ⟨U,θ1,u,h,C⟩:=YY (tr:=V.tr) (vs:=m) H;generalize YW V.tr m A=E at a h C;have M:=f.1;have c:Same (ps.length+1) θ θ1:=fun i hi=>(C.same i (by omega)).trans (f.same i (by omega));replace l:=l.trans u;clear u C g H f;revert U θ1;intro J' θ' h c l;have ⟨k,D,a⟩:=bind_some a;have ⟨q,T,a⟩:=bind_some a;have ⟨o,W,a⟩:=bind_some a;have ⟨u0,b,a⟩:=bind_some a;cases ae a;have ⟨X,r2⟩:=Ek K h D;have ⟨L,N,Z,t4⟩:=HL (J:=J') (θ:=θ') T r2;have ⟨Y,o2⟩:=eH (P:=P) (J:=J) (J':=J') (θ:=θ) (θ':=θ') (vs:=vs) (n:=ps.length+1) (n':=E.nxt) (chs0:=E.chs) l c (ay _) B W Q k5 fun e he=>h.fine.chs e (L.mem_iff.2 (by grind));have G:(k.map (·.v θ')).length=rs.length:=by rw[List.length_map];exact N
 refine ahu h.agr X ⟨_,rfl,⟨YX G fun i t v ht hv1=>?_,fun z=>?_⟩,J',l,?_⟩
 ·grind
 ·rw[NY,Jp];unfold afA at b;rw[z] at b;have b:=bH b;rcases k with _ | ⟨x,k⟩
  ·cases b
  ·cases k with
   | nil=>exact afB (θ:=θ') b rfl
   | cons y k=>grind[nlN]
 ·rw[NY,Jp,Qe,RL G];have hp:=L.trans (Y.append_left _);have O:=h.st.perm ((hp.map (toCh P θ')).append_right [F]);have h2:St J' w0 j ((q.2.1.map (toCh P θ')++o.2.1.map (toCh P θ'))++(o.2.2.map (toCh P θ')++ [F])):=by
   simpa [aU,aD] using O
  have R:=St.sepTo h2 (Vc Z o2);refine St.left (ds:=o.2.2.map (toCh P θ')) (R.perm ?_);grind[aD,List.Perm.append_left,List.perm_append_comm]
theorem N1 {V:Env} {P:Program} (Y:TTok P V.tt) (hF:FTok P V.ft) (O:P.follows .mixedOrders=true) {k:FuncId} {fn:Func} {c:Code} {f:FS} (hf:P.funcs[k]? =some fn) (hb:fn.body=some c) (hn:fn.ntmps=V.n) (hen:Enters P k) (hm:f.ps.length<=V.n) (u:(I2 f.rs&&zr f.ps)=true) (A:Ann)
  (z: ∀d,appP f.ps f.m d=nH V (RK V fn.results.toList f.rs f.ps d) c A (fun r=>some r) (fun _ _=>none) (RK V fn.results.toList f.rs f.ps d) (tn (B5 f.ps d))): ∀w0 J γ b (d:denP f.ps) r,Lay P J->PArgs P w0 J γ f.ps b d->appP f.ps f.m d=some r->Con P k b.toArray J w0 (owCh γ f.ps b d) (fun v=>resFa f.rs v/\(D8 1000000 V.an=true->BV f.rs (hFst f.rs (outs f.ps) (toH _ r)) v)) (fun v=>resGv f.rs (hFst f.rs (outs f.ps) (toH _ r)) v++outCh γ f.ps b (hSnd f.rs (outs f.ps) (toH _ r))):=by
 rw[al] at u;intro w0 J γ b d r B X Z;rw[z] at Z;have k0:=LR X;let θ:=fun i=>if i=b.length then γ else b.getD i undef;have U: ∀j v,b[j]? =some v->θ (0+j)=v:=fun j v hj=>by
  grind
 have g:θ f.ps.length=γ:=by
  grind
 have y: ∀p∈(b.zipIdx.map fun q=>(q.2,q.1)),b.toArray[p.1]? =some p.2:=fun p hp=>by
  grind
 refine HP (n:=V.n) (b.zipIdx.map fun q=>(q.2,q.1)) hf hb hn (by grind) y (fun F w a hA N=>?_) (fun v=>A0 (eD _ _ _ u.2) _ _ u.1)
 ·have ⟨T,k2,k3,k4,k5⟩:=Qc (n:=f.ps.length+1) (q:=f.ps.length) (C:=[F]) (ay _) g X U (by omega) N;have t:Fine P w0 J θ (B5 f.ps d):=⟨fun e s=>(T e s).1 _,fun e s=>by have:=T e s;show e.2.1<f.ps.length+1;omega,k2,fun e s=>k4 e s _,B⟩;have R:Agr V.n a (envL θ (B5 f.ps d)):=hA.pick _ fun p hp=>by
   obtain ⟨e,s,rfl⟩:=List.mem_map.1 hp;have h5:=(T e s).2.2.2.2;have key: ∀(l:List Value) (k:Nat) (i:Nat) (v:Value),k<=i->l[i - k]? =some v->((l.zipIdx k).map fun q=>(q.2,q.1)).lookup i=some v:=by
    intro l;induction l with
    | nil=>grind
    | cons x l ih =>
     intro k i v K h;simp[List.zipIdx_cons,List.map_cons,List.lookup_cons];by_cases e:i=k
     ·simp_all
     ·rw[show i - k=(i - (k+1))+1 from by omega] at h;grind
   grind
  have hS:Sim P J w0 F V.n J θ (B5 f.ps d) a w:=⟨Hp.le.rfl,R,k3,t⟩;have fin:=aa4 (rs:=f.rs) (fn:=fn) (F:=F) Y k0 k5 (aH (B5 f.ps d).nxt) g;have ⟨θ0,L,m⟩:=Dg hS;exact (Ej (I:=J) (w0:=w0) (F:=F) Y hF O c).1 A Z L (fun H θ' G D E K S' M o=>fin r H θ' G D E K S' M (m.trans o)) (fun i H θ' G D E K=>by cases K) (fun r' H θ' G D E Q W S M o=>by
   cases ae W;exact fin _ H θ' G D E Q S M (m.trans o))
theorem fok {V:Env} {P:Program} (z:TTok P V.tt) (t:FTok P V.ft) (i:P.follows .mixedOrders=true) {k:FuncId} {fn:Func} {c:Code} {f:FS} (n:P.funcs[k]? =some fn) (u:fn.body=some c) (y:fn.ntmps=V.n) (a:Enters P k) (o:f.cl=none) (B:f.ps.length<=V.n) (j:(I2 f.rs&&zr f.ps)=true) (g:Ann)
  (b: ∀d,appP f.ps f.m d=nH V (RK V fn.results.toList f.rs f.ps d) c g (fun r=>some r) (fun _ _=>none) (RK V fn.results.toList f.rs f.ps d) (tn (B5 f.ps d))):FOk P k f:=
 ⟨fun q F=>by grind,fun _=>a,fun _ l J γ s d r h x D w C A=>(N1 z t i n u y a B j g b l J γ s d r h x D w C A).mono fun e G ⟨v,m,E,p⟩=>⟨v,m,E.1,p⟩⟩
theorem aiX {V:Env} {P:Program} (E:TTok P V.tt) (A:FTok P V.ft) (j:P.follows .mixedOrders=true) {k:FuncId} {fn:Func} {c:Code} {f:FS} (y:P.funcs[k]? =some fn) (B:fn.body=some c) (D:fn.ntmps=V.n) (g:Enters P k) (i:f.cl=some (0,7)/\D8 1000000 V.an=true) (F:f.ps.length<=V.n) (l:(I2 f.rs&&zr f.ps)=true) (h:Ann)
  (b: ∀d,appP f.ps f.m d=nH V (RK V fn.results.toList f.rs f.ps d) c h (fun r=>some r) (fun _ _=>none) (RK V fn.results.toList f.rs f.ps d) (tn (B5 f.ps d))):FOk P k f:=
 ⟨fun q z=>by
  rw[i.1] at z;cases ae z;exact ⟨⟨fun e=>(by cases e),fun _ e=>(by cases e),fun e=>(by cases e)⟩,(fun _ n J γ s d r a t x w C u=>(N1 E A j y B D g F l h b n J γ s d r a t x w C u).mono fun e G ⟨v,o,m,p⟩=>⟨v,o,⟨m.1,m.2 i.2⟩,p⟩),fun e=>(by cases e)⟩,fun _=>g,fun _ n J γ s d r a t x w C u=>(N1 E A j y B D g F l h b n J γ s d r a t x w C u).mono fun e G ⟨v,o,m,p⟩=>⟨v,o,m.1,p⟩⟩
theorem Qf {V:Env} {P:Program} (S:TTok P V.tt) (X:FTok P V.ft) (L:P.follows .mixedOrders=true) {k:FuncId} {fn:Func} {c:Code} {E b:Nat} (T:P.funcs[k]? =some fn) (Y:fn.body=some c) (Z:fn.ntmps=V.n) (M:Enters P k) (hm:1<=V.n) (h:Ann)
  (o: ∀(E':TypeId) (f:Bool) (xs:List Raw),(match f with | true=>some ([] :List Raw) | false=>(cr b [] xs).bind fun l=>some l)=nH V (RK V fn.results.toList [.sl E .raw] [] ()) c h (fun r=>some r) (fun _ _=>none) (RK V fn.results.toList [.sl E .raw] [] ()) ⟨[(0,0,.one (.rdn ⟨0,[]⟩ f (.sl E' .raw) xs))],[],1⟩):AX P k E b:=by
 refine ⟨M,fun E' J w0 v xs l x q vr=>?_⟩;have ⟨f,m⟩: ∃f,K0 v=f:=⟨_,rfl⟩;have hr:nH V (RK V fn.results.toList [.sl E .raw] [] ()) c h (fun r=>some r) (fun _ _=>none) (RK V fn.results.toList [.sl E .raw] [] ()) ⟨[(0,0,.one (.rdn ⟨0,[]⟩ f (.sl E' .raw) xs))],[],1⟩=some l:=by
  rw[<-o E' f xs];cases f with
  | false =>
   rw[vr];rfl
  | true =>
   obtain ⟨G,-⟩:=I7 vr;obtain ⟨W,cap,e,-,hx⟩:=q;obtain rfl:v= .slice W xs.length cap:=by grind
   rcases hx with rfl | ⟨b,off,ccs,t,fr,rfl,-⟩
   ·rw[G];rfl
   ·cases m
 let θ:Th:=fun _=>v;have key:Con P k #[v] J w0 [] (fun v=>resFa [.sl E .raw] v/\(D8 1000000 V.an=true->BV [.sl E .raw] (l,()) v)) (fun v=>resGv [.sl E .raw] (l,()) v++ []):=by
  refine HP (n:=V.n) [(0,v)] T Y Z hm (fun p hp=>by grind) (fun F w a hA K=>?_) (fun u=>A0 (D:=[]) trivial [.sl E .raw] (l,()) rfl);have j:Fine P w0 J θ ⟨[(0,0,.one (.rdn ⟨0,[]⟩ f (.sl E' .raw) xs))],[],1⟩:=⟨fun e y=>by cases ax y;exact ⟨Nat.one_pos,q,m⟩,fun e y=>by grind,List.pairwise_singleton _ _,fun e y=>(by cases y),x⟩;have hS:Sim P J w0 F V.n J θ ⟨[(0,0,.one (.rdn ⟨0,[]⟩ f (.sl E' .raw) xs))],[],1⟩ a w:=⟨Hp.le.rfl,hA,K,j⟩;have fin:=aa4 (V:=V) (θ:=θ) (J:=J) (w0:=w0) (rs:=[.sl E .raw]) (ps:=[]) (d:=()) (vs:=[]) (s0:=⟨[(0,0,.one (.rdn ⟨0,[]⟩ f (.sl E' .raw) xs))],[],1⟩) (fn:=fn) (F:=F) S rfl trivial (aH _) (γ:=θ 0) rfl;exact (Ej (I:=J) (w0:=w0) (F:=F) S X L c).1 h hr hS (fun B θ' A z s Q S' H g=>fin _ B θ' A z s Q S' H g) (fun i B θ' A z s Q=>by cases Q) (fun r' B θ' A z s N R O H g=>by
   cases ae R;exact fin _ B θ' A z s N O H g)
 exact fun w C hs=>(key w C hs).mono fun e s ⟨v,G,h2,U⟩=>⟨v,G,trivial,U⟩
theorem mF {P:Program} {k:FuncId} {f:FS} (h:Enters P k) (e:f.cl=none) (a: ∀d,appP f.ps f.m d=none):FOk P k f:=
 ⟨fun q b=>by grind,fun _=>h,fun _ _ _ _ _ d r _ _ c=>by grind⟩
theorem LU {P:Program} {k:FuncId} {f:FS} {E b:Nat} (h:FOk P k ⟨f.ps,f.rs,f.m,none⟩) (c:AX P k E b) (i:Nat.beq b 0=false:=by rfl) (d:Nat.beq b 7=false:=by rfl) (g:Nat.ble 1000 b=false:=by rfl) (j:Nat.beq b 9=false:=by rfl):FOk P k ⟨f.ps,f.rs,f.m,some (E,b)⟩:=
 ⟨fun q a=>by cases ae a;exact ⟨⟨fun e=>(by grind),fun _ _ _ _=>c,fun e=>(by grind)⟩,fun e=>(by grind),fun e=>(by grind)⟩,fun _=>h.en rfl,fun _=>h.con rfl⟩
end R
namespace R
open Go.RowKit Go.Shelf Go.Sort
open D
abbrev PT:Ty:=.prod (.int .i64) (.int .i64)
def CG (x:Int×Int):List Value:=[.int .i64 x.1,.int .i64 x.2]
theorem Qg (x:Int×Int):(CG x).length=2:=rfl
theorem YZ (x:Int×Int): ∀v∈CG x,v.oneCell'=true:=by
 intro v hv;simp only[CG,List.mem_cons,List.not_mem_nil,or_false] at hv;rcases hv with rfl | rfl <;> rfl
def RM (cf:Int×Int->Int×Int->Int) (xs:List (Int×Int)):List (Int×Int):=xs.mergeSort fun x y=> !(ltOf cf) y x
def Y0 (cf:Int×Int->Int×Int->Int) (xs:List (Int×Int)):Option (List (Int×Int)):=(chk (xs.length<4611686018427387904)).bind fun _=>some (RM cf xs)
theorem LW (a:Int×Int->Int×Int->Int) (xs:List (Int×Int)):(RM a xs).length=xs.length:=List.length_mergeSort _
theorem St.grown {I:Hp} {w0 w:World} {cs:List Ch} (h:St I w0 w cs) (os:Array Obj):St I w0 (grow w os) cs:=by
 refine St.step (w:=w) (c:=[]) (c':=[]) h rfl rfl rfl (by simp[grow]) ?_;rintro F rfl - -;exact ⟨fun b a _=>heap_grow_old w os a,[],rfl,List.nodup_nil,by simp⟩
theorem Vd (d:Array (Int×Int)) {i j:Nat} {z:Int×Int} (h:d.toList[i]? =some z) (g:j<2):(flatK CG 2 d)[i*2+j]? =(CG z)[j]? :=by
 have f:i<d.size:=by
  rcases Nat.lt_or_ge i d.size with c | c
  ·exact c
  ·rw[List.getElem?_eq_none (by simpa using c)] at h;cases h
 have a:i*2+j<d.size*2:=by omega
 have e:=get_flatK CG 2 d (i*2+j) a;have b:i*2+j<(flatK CG 2 d).size:=by rw[size_flatK];exact a
 rw[getElem!_pos (flatK CG 2 d) _ b] at e;rw[Array.getElem?_eq_getElem b,e,show (i*2+j) / 2=i from by omega,show (i*2+j) % 2=j from by omega];have k:d[i]! =z:=by
  rw[getElem!_pos d _ f];rw[List.getElem?_eq_getElem (by simpa using f)] at h;simpa using ae h
 rw[k,getElem!_pos (CG z) _ (by rw[Qg];exact g),List.getElem?_eq_getElem]
theorem adu {I:Hp} {c:List Value} {x:Int×Int} (h:PT.rep.rd I c x):c=CG x:=by
 obtain ⟨b,d,rfl,a,e⟩:=h;obtain rfl:b= [_]:=a;obtain rfl:d= [_]:=e
 rfl
theorem adv {I:Hp} (x:Int×Int):PT.rep.rd I (CG x) x:=⟨[_],[_],rfl,rfl,rfl⟩
theorem Ve {P:Program} {ρ:Ren} (L:SlLaysF0.n6 P ρ) (aE: ∀w,(isAgg (ρ.t 24)).run P w= .ok true w) (zE: ∀w,(Go.sizeOf (ρ.t 24)).run P w= .ok 2 w) {u:Int×Int->Int×Int->Int} (hO:SWO (ltOf u)) (hT: ∀x y,(ltOf u) x y=false->(ltOf u) y x=false->x=y) {g:FuncId} (eg:Enters P g) (S: ∀blk off size w,CmpLays P g #[] CG 2 u blk off size w) (en:Enters P (ρ.f 6)) (E:TypeId) :
  FOk P (ρ.f 6) ⟨[.ow (.sl E PT),.fk g],[],fun a _=>Y0 u a,none⟩:=by
 refine ⟨fun q hq=>(by cases hq),fun _=>en,fun _ X J γ vs d r hlay ha vr=>?_⟩;obtain ⟨v,vs1,rfl,hd,v2,vs2,rfl,rfl,Y⟩:=ha;obtain rfl:vs2= []:=Y;obtain ⟨xs0,u1,un⟩:=d;let a:List (Int×Int):=xs0;let zs:List (Int×Int):=r;have vr:Y0 u a=some zs:=vr;obtain ⟨u1,hc,O⟩:=Option.bind_eq_some_iff.1 vr;have hc:=bH hc;have O:=ae O;intro w C f;have f:St J X w (Ch.own (ah E PT.rep) [v] a::C):=f;clear vr;rename_i D;clear D hd
 clear_value a
 have A: ∀ {e:Ending} {U:World},(∃W,e= .returned (.tuple #[])/\U=W/\St J X W (Ch.own (ah E PT.rep) [v] zs::C))-> ∃v':Value,e= .returned v'/\(∃vs:Array Value,v'= .tuple vs/\vs.size=0/\ ∀(i:Nat) (t:Ty),([] :List Ty)[i]? =some t->qw (vs.getD i undef)=t.isProd)/\St J X U (Ch.own (ah E PT.rep) [v] zs::C):=by
  rintro e U ⟨W,rfl,rfl,h⟩;exact ⟨_,rfl,⟨#[],rfl,rfl,fun i t h=>(by simp at h)⟩,h⟩
 have B:(v= .slice none 0 0/\a= [])\/ ∃s b n cap,v= .slice (some ⟨s,b,none⟩) n cap:=by
  obtain ⟨hb,o,F,⟨G,K,rfl,⟨hl,e2⟩,e3⟩,h4,h5⟩:=f;rcases e2 with ⟨hv,h1,_⟩ | ⟨s,ofs',cap',cur,K1,hv,_⟩
  ·exact .inl ⟨List.cons.inj hv |>.1,h1⟩
  ·exact .inr ⟨_,_,_,_,List.cons.inj hv |>.1⟩
 rcases B with ⟨rfl,hx⟩ | ⟨s,b,n,cap,rfl⟩
 ·refine (AnyF.slices_SortFunc_none L none 0 (.func (.func g) #[] #[]) w).mono fun e U ⟨he,hw⟩=>A ⟨_,he,hw,?_⟩;rw[<-O,hx,show RM u [] = [] from List.mergeSort_nil ..];rw[hx] at f;exact f
 ·obtain ⟨hn,h1,h2,cur,Z,hroom,hat⟩:=BZ (R:=PT.rep) (k:=2) (Ty.sh_ok (t:=PT) rfl) rfl f;obtain rfl:=hn;have hH:HoldsK CG 2 w s b a.toArray:=by
   intro j N;rw[size_flatK] at N;have N:j<a.length*2:=by simpa using N
   have o:j / 2<a.length:=by omega
   obtain ⟨c,e1,e2,e3⟩:=hat (j / 2) _ (List.getElem?_eq_getElem o);have H:=e2 (j % 2) (Nat.mod_lt _ (by omega));rw[show j / 2*2+j % 2=j from by omega,adu e3] at H;have hf:=Vd a.toArray (i:=j / 2) (j:=j % 2) (z:=a[j / 2]) (by simpa using List.getElem?_eq_getElem o) (Nat.mod_lt _ (by omega));rw[show j / 2*2+j % 2=j from by omega] at hf;have hs:j<(flatK CG 2 a.toArray).size:=by rw[size_flatK];simpa using N
   refine ⟨?_,?_⟩
   ·unfold World.cell?;simp only[Z];rw[List.getElem?_drop] at H;rw[getElem!_pos (flatK CG 2 a.toArray) _ hs,<-Array.getElem?_toList,H,<-hf,Array.getElem?_eq_getElem hs]
    rfl
   ·unfold World.frozen?;simp only[Z];simp
  have T:s<w.heap.size:=by
   rcases Nat.lt_or_ge s w.heap.size with c | c
   ·exact c
   ·rw[Array.getElem?_eq_none c] at Z;cases Z
  have key:=AnyQ.slices_SortFunc_total L 2 aE zE CG Qg YZ u hO g #[] s b cap a.toArray w eg (S _ _ _ _) hH T (by simpa using hc) hT;rw[show a.toArray.size=a.length from List.size_toArray] at key;refine key.mono ?_;rintro e U ⟨he,m,os,rfl⟩;refine A ⟨_,he,rfl,?_⟩;show St J X (grow (putRow id (Sort.ahead w m) s b (flatK CG 2 (RM u a).toArray)) os) _;rw[O];have l:zs.length=a.length:=by rw[<-O];exact LW _ _
  have Q:(flatK CG 2 zs.toArray).toList.length=(flatK CG 2 a.toArray).size:=by rw[Array.length_toList,size_flatK,size_flatK];simp[l]
  have hq:=Go.Lib.putRow_eq_setCells id w s b (flatK CG 2 a.toArray) (flatK CG 2 zs.toArray).toList m hH Q;rw[Array.toArray_toList] at hq;rw[hq,List.map_id];refine St.grown ?_ os;have V:St J X (w.drewN m) (Ch.own (ah E PT.rep) [.slice (some ⟨s,b,none⟩) a.length cap] a::C):=f.drawn rfl rfl rfl rfl;have M:zs.length<=cap:=by rw[l];exact h1
  have I:zs.length<=lim:=by
   have:lim=2 ^ 63 - 1:=rfl
   have:maxLen=2 ^ 63 - 1:=rfl
   omega
  have hlt: ∀(i:Nat) (z:Int×Int),zs[i]? =some z->i<a.length:=fun i z o=>by
   rcases Nat.lt_or_ge i zs.length with c | c
   ·omega
   ·rw[List.getElem?_eq_none c] at o;cases o
  have hnw: ∀(i:Nat) (z:Int×Int),zs[i]? =some z-> ∀j,j<2->(flatK CG 2 zs.toArray).toList[(i - 0)*2+j]? =(CG z)[j]? :=fun i z o j N=>by
   rw[Nat.sub_zero,Array.getElem?_toList];exact Vd zs.toArray (by simpa using o) N
  have h3:=D1 (p:=0) (cnt:=a.length) (zs:=zs) (news:=(flatK CG 2 zs.toArray).toList) (Ty.sh_ok (t:=PT) rfl) (Ty.cpy (t:=PT) rfl) (k:=2) rfl (by rw[Q,size_flatK];simp) (by omega) M I (fun i z o=>.inl ⟨Nat.zero_le _,(by have:=hlt i z o;omega),CG z,rfl,hnw i z o,adv z⟩) V;rw[Nat.zero_mul,Nat.add_zero,show @List.length PT.den zs=a.length from l] at h3;exact h3
def cmpI (a b:Int):Int:=if a<b then -1 else if b<a then 1 else 0
def RN (x y:Int×Int):Int:=if x.1=y.1 then cmpI x.2 y.2 else cmpI x.1 y.1
theorem Vf {a b:Int} :cmpI a b<0↔a<b:=by
 unfold cmpI;split
 ·simp_all
 ·split <;> simp_all
theorem Vg {x y:Int×Int} :ltOf RN x y=true↔x.1<y.1\/x.1=y.1/\x.2<y.2:=by
 unfold ltOf RN;rw[decide_eq_true_iff];split
 ·rw[Vf];omega
 ·rw[Vf];omega
theorem Do {x y:Int×Int} :ltOf RN x y=false↔ ¬(x.1<y.1\/x.1=y.1/\x.2<y.2):=by
 rw[<-Vg,Bool.not_eq_true]
theorem Y1:SWO (ltOf RN) where
 irrefl x:=by rw[Do];omega
 trans x y z h k:=by rw[Vg] at *;omega
 ntrans x y z h k:=by rw[Do] at *;omega
theorem Y2 (x y:Int×Int) (h:ltOf RN x y=false) (k:ltOf RN y x=false):x=y:=by
 rw[Do] at h k;exact Prod.ext (by omega) (by omega)
end R
namespace R
open Go.Shelf
def zD:Go.Shelf.Ren:=⟨fun | 6=>272 | 15=>268 | 14=>326 | 28=>324 | 29=>325 | 20=>359 | 21=>360 | 22=>361 | 23=>362 | 24=>363 | 25=>364 | 26=>365 | 27=>366 | 46=>383 | 47=>354 | 48=>355 | 49=>384 | 50=>385 | 57=>388 | n=>n,fun | 22=>33 | 24=>75 | 25=>298 | 3=>3 | 39=>294 | 0=>0 | 53=>342 | 55=>344 | 4=>4 | 46=>335 | 45=>334 | 50=>198 | 5=>5 | 9=>9 | 66=>370 | 70=>374 | 76=>401 | 77=>402 | n=>n,fun | n=>n⟩
theorem Gy:Go.Proofs.SlLaysF0.n6 Tryz.prog zD:= {
 mixed:=by kernel_rfl
 f6:=⟨Tryz.f272.name,by decide,Tryz.func272.trans (congrArg some (by kernel_rfl))⟩
 f14:=⟨Tryz.f326.name,by decide,Tryz.func326.trans (congrArg some (by kernel_rfl))⟩
 f15:=Tryz.func268.trans (congrArg some (by kernel_rfl))
 f20:=⟨Tryz.f359.name,by decide,Tryz.func359.trans (congrArg some (by kernel_rfl))⟩
 f21:=⟨Tryz.f360.name,by decide,Tryz.func360.trans (congrArg some (by kernel_rfl))⟩
 f22:=⟨Tryz.f361.name,by decide,Tryz.func361.trans (congrArg some (by kernel_rfl))⟩
 f23:=⟨Tryz.f362.name,by decide,Tryz.func362.trans (congrArg some (by kernel_rfl))⟩
 f24:=⟨Tryz.f363.name,by decide,Tryz.func363.trans (congrArg some (by kernel_rfl))⟩
 f25:=⟨Tryz.f364.name,by decide,Tryz.func364.trans (congrArg some (by kernel_rfl))⟩
 f26:=⟨Tryz.f365.name,by decide,Tryz.func365.trans (congrArg some (by kernel_rfl))⟩
 f27:=⟨Tryz.f366.name,by decide,Tryz.func366.trans (congrArg some (by kernel_rfl))⟩
 f28:=Tryz.func324.trans (congrArg some (by kernel_rfl))
 f29:=Tryz.func325.trans (congrArg some (by kernel_rfl))
 f46:=⟨Tryz.f383.name,by decide,Tryz.func383.trans (congrArg some (by kernel_rfl))⟩
 f47:=Tryz.func354.trans (congrArg some (by kernel_rfl))
 f48:=Tryz.func355.trans (congrArg some (by kernel_rfl))
 f49:=⟨Tryz.f384.name,by decide,Tryz.func384.trans (congrArg some (by kernel_rfl))⟩
 f50:=⟨Tryz.f385.name,by decide,Tryz.func385.trans (congrArg some (by kernel_rfl))⟩
 f57:=⟨Tryz.f388.name,by decide,Tryz.func388.trans (congrArg some (by kernel_rfl))⟩
 t0:=Tryz.underlying0
 a0:=Tryz.isAgg0
 z0:=Tryz.sizeOf0
 v0:=Tryz.zeroValue0
 t3:=Tryz.underlying3
 a3:=Tryz.isAgg3
 z3:=Tryz.sizeOf3
 v3:=Tryz.zeroValue3
 t4:=Tryz.underlying4
 a4:=Tryz.isAgg4
 z4:=Tryz.sizeOf4
 v4:=Tryz.zeroValue4
 t5:=Tryz.underlying5
 a5:=Tryz.isAgg5
 z5:=Tryz.sizeOf5
 v5:=Tryz.zeroValue5
 t9:=Tryz.underlying9
 a9:=Tryz.isAgg9
 z9:=Tryz.sizeOf9
 v9:=Tryz.zeroValue9
 t22:=Tryz.underlying33
 a22:=Tryz.isAgg33
 z22:=Tryz.sizeOf33
 v22:=Tryz.zeroValue33
 t25:=Tryz.underlying298
 a25:=Tryz.isAgg298
 z25:=Tryz.sizeOf298
 v25:=Tryz.zeroValue298
 t39:=Tryz.underlying294
 a39:=Tryz.isAgg294
 z39:=Tryz.sizeOf294
 v39:=Tryz.zeroValue294
 t45:=Tryz.underlying334
 a45:=Tryz.isAgg334
 z45:=Tryz.sizeOf334
 v45:=Tryz.zeroValue334
 t46:=Tryz.underlying335
 a46:=Tryz.isAgg335
 z46:=Tryz.sizeOf335
 v46:=Tryz.zeroValue335
 t50:=Tryz.underlying198
 a50:=Tryz.isAgg198
 z50:=Tryz.sizeOf198
 v50:=Tryz.zeroValue198
 t53:=Tryz.underlying342
 a53:=Tryz.isAgg342
 z53:=Tryz.sizeOf342
 v53:=Tryz.zeroValue342
 t55:=Tryz.underlying344
 a55:=Tryz.isAgg344
 z55:=Tryz.sizeOf344
 v55:=Tryz.zeroValue344
 t66:=Tryz.underlying370
 a66:=Tryz.isAgg370
 z66:=Tryz.sizeOf370
 v66:=Tryz.zeroValue370
 t70:=Tryz.underlying374
 a70:=Tryz.isAgg374
 z70:=Tryz.sizeOf374
 v70:=Tryz.zeroValue374
 t76:=Tryz.underlying401
 a76:=Tryz.isAgg401
 z76:=Tryz.sizeOf401
 v76:=Tryz.zeroValue401
 t77:=Tryz.underlying402
 a77:=Tryz.isAgg402
 z77:=Tryz.sizeOf402
 v77:=Tryz.zeroValue402 }
end R
namespace R
open Go.RowKit Go.Shelf Go.Sort
open D
abbrev IT:Ty:=.int .i64
def Y3 (xs:List Int):Option (List Int):=(chk (xs.length<4611686018427387904)).bind fun _=>some (xs.mergeSort fun x y=>decide (x<=y))
theorem St.grownI {I:Hp} {w0 w:World} {cs:List Ch} (h:St I w0 w cs) (os:Array Obj):St I w0 (grow w os) cs:=by
 refine St.step (w:=w) (c:=[]) (c':=[]) h rfl rfl rfl (by simp[grow]) ?_;rintro F rfl - -;exact ⟨fun b a _=>heap_grow_old w os a,[],rfl,List.nodup_nil,by simp⟩
theorem Vh {P:Program} {ρ:Ren} (L:Lays.n189 P ρ) (en:Enters P (ρ.f 189)) (E:TypeId) :
  FOk P (ρ.f 189) ⟨[.ow (.sl E IT)],[],fun a=>Y3 a,none⟩:=by
 refine ⟨fun q hq=>(by cases hq),fun _=>en,fun _ S J γ T d r hlay ha vr=>?_⟩;obtain ⟨v,X,rfl,hd,N⟩:=ha;obtain rfl:X= []:=N;obtain ⟨V,un⟩:=d;let a:List Int:=V;let zs:List Int:=r;have vr:Y3 a=some zs:=vr;obtain ⟨u1,hc,B⟩:=Option.bind_eq_some_iff.1 vr;have hc:=bH hc;have B:=ae B;intro w C b;have b:St J S w (Ch.own (ah E IT.rep) [v] a::C):=b;clear vr;rename_i u;clear u hd
 clear_value a
 have o: ∀ {e:Ending} {I:World},(∃W,e= .returned (.tuple #[])/\I=W/\St J S W (Ch.own (ah E IT.rep) [v] zs::C))-> ∃v':Value,e= .returned v'/\(∃T:Array Value,v'= .tuple T/\T.size=0/\ ∀(i:Nat) (t:Ty),([] :List Ty)[i]? =some t->qw (T.getD i undef)=t.isProd)/\St J S I (Ch.own (ah E IT.rep) [v] zs::C):=by
  rintro e I ⟨W,rfl,rfl,h⟩;exact ⟨_,rfl,⟨#[],rfl,rfl,fun i t h=>(by simp at h)⟩,h⟩
 have s:(v= .slice none 0 0/\a= [])\/ ∃l g n cap,v= .slice (some ⟨l,g,none⟩) n cap:=by
  obtain ⟨hb,O,F,⟨G,K,rfl,⟨hl,e2⟩,e3⟩,h4,h5⟩:=b;rcases e2 with ⟨hv,U,_⟩ | ⟨l,ofs',cap',cur,K1,hv,_⟩
  ·exact .inl ⟨List.cons.inj hv |>.1,U⟩
  ·exact .inr ⟨_,_,_,_,List.cons.inj hv |>.1⟩
 rcases s with ⟨rfl,hx⟩ | ⟨l,g,n,cap,rfl⟩
 ·refine (Any.slices_Sort_int_none L none 0 w).mono fun e I ⟨he,hw⟩=>o ⟨_,he,hw,?_⟩;rw[<-B,hx,List.mergeSort_nil];rw[hx] at b;exact b
 ·obtain ⟨hn,U,h2,cur,Q,Y,Z⟩:=BZ (R:=IT.rep) (k:=1) (Ty.sh_ok (t:=IT) rfl) rfl b;obtain rfl:=hn;have hH:Holds (Value.int .i64) w l g a.toArray:=by
   intro j A;have A:j<a.length:=by simpa using A
   obtain ⟨c,e1,e2,e3⟩:=Z j _ (List.getElem?_eq_getElem A);have D:=e2 0 Nat.one_pos;obtain rfl:c= [.int .i64 a[j]]:=e3;rw[Nat.mul_one,Nat.add_zero,List.getElem?_drop] at D;refine ⟨?_,?_⟩
   ·unfold World.cell?;simp only[Q];rw[<-Array.getElem?_toList,D,getElem!_pos a.toArray _ (by simpa using A)];simp
   ·unfold World.frozen?;simp only[Q];simp
  have H:l<w.heap.size:=by
   rcases Nat.lt_or_ge l w.heap.size with c | c
   ·exact c
   ·rw[Array.getElem?_eq_none c] at Q;cases Q
  refine (Any.slices_Sort_int L l g cap a w hH H hc).mono ?_;rintro e I ⟨he,m,os,rfl⟩;refine o ⟨_,he,rfl,?_⟩;have f:zs.length=a.length:=by rw[<-B];exact List.length_mergeSort _
  rw[B,Go.Lib.sorted_world (Value.int .i64) w l g m a.toArray zs os hH (by simpa using f)];refine St.grownI ?_ os;have M:St J S (w.drewN m) (Ch.own (ah E IT.rep) [.slice (some ⟨l,g,none⟩) a.length cap] a::C):=b.drawn rfl rfl rfl rfl;have y:zs.length<=cap:=by rw[f];exact U
  have x:zs.length<=lim:=by
   have:lim=2 ^ 63 - 1:=rfl
   have:maxLen=2 ^ 63 - 1:=rfl
   omega
  have h3:=D1 (p:=0) (cnt:=a.length) (zs:=zs) (news:=zs.map (Value.int .i64)) (Ty.sh_ok (t:=IT) rfl) (Ty.cpy (t:=IT) rfl) (k:=1) rfl (by simp[f]) (by omega) y x (fun i z O=>.inl ⟨Nat.zero_le _,(by
   have:=(List.getElem?_eq_some_iff.1 O).1
   have:i<zs.length:=this
   omega),[.int .i64 z],rfl,fun j A=>by
    obtain rfl:j=0:=by omega
    rw[Nat.sub_zero,Nat.mul_one,Nat.add_zero,List.getElem?_map];have O:zs[i]? =some z:=O;rw[O];rfl,rfl⟩) M
  rw[Nat.zero_mul,Nat.add_zero,show @List.length IT.den zs=a.length from f] at h3;exact h3
end R
namespace R
open Go.Shelf
def El:Go.Shelf.Ren:=⟨fun | 189=>218 | 125=>268 | 257=>267 | 128=>324 | 129=>325 | 294=>315 | 295=>316 | 296=>317 | 297=>318 | 298=>319 | 299=>320 | 216=>321 | 300=>322 | 301=>323 | 328=>353 | 329=>354 | 330=>355 | 331=>356 | 332=>357 | 215=>358 | 343=>382 | n=>n,fun | 28=>65 | 3=>3 | 46=>294 | 0=>0 | 51=>342 | 53=>344 | 4=>4 | 183=>335 | 182=>334 | 131=>198 | 5=>5 | 9=>9 | 218=>370 | 222=>374 | 228=>401 | 229=>402 | n=>n,fun | n=>n⟩
theorem N2:Go.Proofs.Lays.n189 Tryz.prog El:= {
 mixed:=by kernel_rfl
 f125:=Tryz.func268.trans (congrArg some (by kernel_rfl))
 f128:=Tryz.func324.trans (congrArg some (by kernel_rfl))
 f129:=Tryz.func325.trans (congrArg some (by kernel_rfl))
 f189:=Tryz.func218.trans (congrArg some (by kernel_rfl))
 f215:=Tryz.func358.trans (congrArg some (by kernel_rfl))
 f216:=Tryz.func321.trans (congrArg some (by kernel_rfl))
 f257:=Tryz.func267.trans (congrArg some (by kernel_rfl))
 f294:=Tryz.func315.trans (congrArg some (by kernel_rfl))
 f295:=Tryz.func316.trans (congrArg some (by kernel_rfl))
 f296:=Tryz.func317.trans (congrArg some (by kernel_rfl))
 f297:=Tryz.func318.trans (congrArg some (by kernel_rfl))
 f298:=Tryz.func319.trans (congrArg some (by kernel_rfl))
 f299:=Tryz.func320.trans (congrArg some (by kernel_rfl))
 f300:=Tryz.func322.trans (congrArg some (by kernel_rfl))
 f301:=Tryz.func323.trans (congrArg some (by kernel_rfl))
 f328:=Tryz.func353.trans (congrArg some (by kernel_rfl))
 f329:=Tryz.func354.trans (congrArg some (by kernel_rfl))
 f330:=Tryz.func355.trans (congrArg some (by kernel_rfl))
 f331:=Tryz.func356.trans (congrArg some (by kernel_rfl))
 f332:=Tryz.func357.trans (congrArg some (by kernel_rfl))
 f343:=Tryz.func382.trans (congrArg some (by kernel_rfl))
 t0:=Tryz.underlying0
 a0:=Tryz.isAgg0
 z0:=Tryz.sizeOf0
 v0:=Tryz.zeroValue0
 t3:=Tryz.underlying3
 a3:=Tryz.isAgg3
 z3:=Tryz.sizeOf3
 v3:=Tryz.zeroValue3
 t4:=Tryz.underlying4
 a4:=Tryz.isAgg4
 z4:=Tryz.sizeOf4
 v4:=Tryz.zeroValue4
 t5:=Tryz.underlying5
 a5:=Tryz.isAgg5
 z5:=Tryz.sizeOf5
 v5:=Tryz.zeroValue5
 t9:=Tryz.underlying9
 a9:=Tryz.isAgg9
 z9:=Tryz.sizeOf9
 v9:=Tryz.zeroValue9
 t28:=Tryz.underlying65
 a28:=Tryz.isAgg65
 z28:=Tryz.sizeOf65
 v28:=Tryz.zeroValue65
 t46:=Tryz.underlying294
 a46:=Tryz.isAgg294
 z46:=Tryz.sizeOf294
 v46:=Tryz.zeroValue294
 t51:=Tryz.underlying342
 a51:=Tryz.isAgg342
 z51:=Tryz.sizeOf342
 v51:=Tryz.zeroValue342
 t53:=Tryz.underlying344
 a53:=Tryz.isAgg344
 z53:=Tryz.sizeOf344
 v53:=Tryz.zeroValue344
 t131:=Tryz.underlying198
 a131:=Tryz.isAgg198
 z131:=Tryz.sizeOf198
 v131:=Tryz.zeroValue198
 t182:=Tryz.underlying334
 a182:=Tryz.isAgg334
 z182:=Tryz.sizeOf334
 v182:=Tryz.zeroValue334
 t183:=Tryz.underlying335
 a183:=Tryz.isAgg335
 z183:=Tryz.sizeOf335
 v183:=Tryz.zeroValue335
 t218:=Tryz.underlying370
 a218:=Tryz.isAgg370
 z218:=Tryz.sizeOf370
 v218:=Tryz.zeroValue370
 t222:=Tryz.underlying374
 a222:=Tryz.isAgg374
 z222:=Tryz.sizeOf374
 v222:=Tryz.zeroValue374
 t228:=Tryz.underlying401
 a228:=Tryz.isAgg401
 z228:=Tryz.sizeOf401
 v228:=Tryz.zeroValue401
 t229:=Tryz.underlying402
 a229:=Tryz.isAgg402
 z229:=Tryz.sizeOf402
 v229:=Tryz.zeroValue402 }
end R
namespace R
open Go.RowKit Go.Shelf Go.Sort
open D
def Y4 (xs:List ByteArray) (sep:ByteArray):Option ByteArray:=(chk (xs.length<=140737488355328/\(Lib.join (xs.map (·.data.toList)) sep.data.toList).length<=140737488355328)).bind fun _=>some ⟨(Lib.join (xs.map (·.data.toList)) sep.data.toList).toArray⟩
def Y5 (n:Int):Option ByteArray:=(chk (-9223372036854775808<=n/\n<=9223372036854775807)).bind fun _=>some ⟨(Lib.itoa n).toArray⟩
section
variable {P:Program} {ρ:Ren}
theorem St.grownS {I:Hp} {w0 w:World} {cs:List Ch} (h:St I w0 w cs) (os:Array Obj):St I w0 (grow w os) cs:=by
 refine St.step (w:=w) (c:=[]) (c':=[]) h rfl rfl rfl (by simp[grow]) ?_;rintro F rfl - -;exact ⟨fun b a _=>heap_grow_old w os a,[],rfl,List.nodup_nil,by simp⟩
theorem St.belowS {I:Hp} {w0 w w':World} {cs:List Ch} (h:St I w0 w cs) (a:Below w.heap.size w w'):St I w0 w' cs:=by
 refine St.step (w:=w) (c:=[]) (c':=[]) h a.os a.tape a.output a.size ?_;rintro F rfl - -;exact ⟨fun b d _=>a.block b d,[],rfl,List.nodup_nil,by simp⟩
theorem Y6 (L:LaysM.n171 P ρ) (u:Enters P (ρ.f 171)):FOk P (ρ.f 171) ⟨[.rd (.int .i64)],[.str],fun n=>Y5 n,none⟩:=by
 refine ⟨fun q j=>(by cases j),fun _=>u,fun _ i J γ A d r f m vr=>?_⟩;obtain ⟨v,h,rfl,⟨s,x,l⟩,b⟩:=m;obtain rfl:h= []:=b;obtain ⟨o,B⟩:=d;let n:Int:=o;obtain rfl:s= [v]:=x;obtain rfl:v= .int .i64 n:=(List.cons.inj l).1;obtain ⟨z,g,p⟩:=Option.bind_eq_some_iff.1 (show Y5 n=some r from vr);have g:=bH g;obtain rfl:=ae p;intro w C a;have a:St J i w C:=a;refine (Any.strconv_Itoa L n g.1 g.2 w (f w a.2.1).tab).mono ?_;rintro e E ⟨rfl,k,t,rfl⟩;have y:St J i (w.drewN k) C:=a.drawn rfl rfl rfl rfl;exact ⟨_,rfl,rfl,D.St.free (R:=Iy) (c:=[.string _]) (St.grownS y t) ⟨rfl,rfl⟩⟩
theorem Y7 (L:Lays.n156 P ρ) (X:Builder.Extra P ρ) (E:TypeId) (S:Enters P (ρ.f 156)):FOk P (ρ.f 156) ⟨[.rd (.sl E .str),.rd .str],[.str],fun f s=>Y4 f s,none⟩:=by
 refine ⟨fun q G=>(by cases G),fun _=>S,fun _ z J γ vs d r u K vr=>?_⟩;obtain ⟨v,B,rfl,⟨Q,V,I⟩,y,n,rfl,⟨M,U,r2⟩,g⟩:=K;obtain rfl:n= []:=g;obtain ⟨p,sep,un⟩:=d;let f:List ByteArray:=p;obtain rfl:Q= [v]:=V;obtain rfl:M= [y]:=U;obtain rfl:y= .string sep:=(List.cons.inj r2).1;obtain ⟨u1,h,N⟩:=Option.bind_eq_some_iff.1 (show Y4 f sep=some r from vr);have h:=bH h;obtain rfl:=ae N;obtain ⟨F,cap,hv,⟨hl,l⟩,k⟩:((ah E Iy).rd J [v] f):=I;obtain rfl:=(List.cons.inj hv).1;intro w C a;have a:St J z w C:=a;rcases k with k | ⟨b,off,o,t,T,rfl,h2,A⟩
 ·have k:f= []:=k;rw[k] at h⊢;refine (Any.strings_Join_none L X F cap sep w).mono ?_;rintro e O ⟨rfl,rfl⟩;refine ⟨_,rfl,rfl,?_⟩;exact D.St.free (R:=Iy) (c:=[.string _]) a ⟨rfl,rfl⟩
 ·have m:=a.2.1 _ _ h2;have i:b<w.heap.size:=(Array.getElem?_eq_some_iff.1 m).1;refine (Any.strings_Join L X b off cap f sep w (fun j x Y=>?_) i h.1 l h.2).mono ?_
  ·obtain ⟨c,e1,W,Z⟩:=A j x Y;obtain rfl:c= [.string x]:=Z
   have:=W 0 Nat.one_pos
   have e:off+j*Iy.size+0=off+j:=by show off+j*1+0=_;omega
   rw[e] at this;unfold World.cell?;have m:w.heap[b]? =some (.cells o t T):=m;simp only[m];rw[<-Array.getElem?_toList,this]
   rfl
  ·rintro e O ⟨rfl,H⟩;exact ⟨_,rfl,rfl,D.St.free (R:=Iy) (c:=[.string _]) (St.belowS a H) ⟨rfl,rfl⟩⟩
end
end R
namespace D
open Go.RowKit Go.Shelf
theorem adw {I:Hp} {w0 w:World} {cs:List Ch} {α:Type} {E:TypeId} {enc:α->Value} {h1: ∀a,(enc a).oneCell'=true} {b:Nat} {xs:List α} (c:xs.length<=lim) (h:St I w0 w (Ch.blk b (xs.map enc) E::cs)):St I w0 w (Ch.own (ah E (nA α enc h1)) [.slice (some ⟨b,0,none⟩) xs.length xs.length] xs::cs):=by
 obtain ⟨f,j,F,⟨G,K,rfl,⟨rfl,g⟩,e⟩,d,i⟩:=h;refine ⟨f,j,[b] ++K,⟨[b],K,rfl,⟨c,.inr ⟨b,0,xs.length,_,[],rfl,g,aH _,c,?_,rfl,?_⟩⟩,e⟩,d,i⟩
 ·show 0+xs.length*1<=_;simp
 ·refine lW.2 ⟨rfl,[],?_⟩;simp
end D
namespace R
open Go.RowKit Go.Shelf Go.Sort
open D
def Qh (s sep:ByteArray):Option (List ByteArray):=(chk (s.size<4294967281/\1<=sep.size)).bind fun _=>some (Lib.splitB sep 0 (Lib.countB s sep) s)
def afC (s sep:ByteArray):Option (ByteArray×ByteArray×Bool):=(chk (s.size<4294967281)).bind fun _=>some (⟨(Lib.cut s.data.toList sep.data.toList).1.toArray⟩,⟨(Lib.cut s.data.toList sep.data.toList).2.1.toArray⟩,(Lib.cut s.data.toList sep.data.toList).2.2)
def Ba (s:ByteArray) (c:Int):Option Int:=some (Lib.indexByte s.data.toList c.toNat.toUInt8)
def vt (s:ByteArray):Option (Int×Bool):=
 if 10<s.size then some (0,false) else
 match Lib.atoi s.data.toList with
 | none=>some (0,false)
 | some n=>if (⟨(Lib.itoa n).toArray⟩:ByteArray)=s/\ -999999999<=n/\n<=999999999 then some (n,true) else some (0,false)
section
variable {P:Program} {ρ:Ren}
theorem Vi (L:Lays.n146 P ρ) (n:(P.info? (ρ.t 9)).map (fun i=>(i.zero,i.size,i.bytes))=some (some (.string ByteArray.empty),1,16)) (Q:P.globalNamed "internal/bytealg.MaxLen" =some (ρ.g 1)) (I:Enters P (ρ.f 146)):FOk P (ρ.f 146) ⟨[.rd .str,.rd .str],[.sl (ρ.t 9) .str],fun s sep=>Qh s sep,none⟩:=by
 refine ⟨fun q z=>(by cases z),fun _=>I,fun _ u J γ T d r j B vr=>?_⟩;obtain ⟨v,x,rfl,⟨H,M,A⟩,p,l,rfl,⟨F,K,R⟩,h⟩:=B;obtain rfl:l= []:=h;obtain ⟨y,k,U⟩:=d;let s:ByteArray:=y;let sep:ByteArray:=k;obtain rfl:H= [v]:=M;obtain rfl:F= [p]:=K;obtain rfl:v= .string s:=(List.cons.inj A).1;obtain rfl:p= .string sep:=(List.cons.inj R).1;obtain ⟨S,f,G⟩:=Option.bind_eq_some_iff.1 (show Qh s sep=some r from vr);have f:=bH f;obtain rfl:=ae G;intro w C a;have a:St J u w C:=a;obtain ⟨g,m,N,O⟩:=(j w a.2.1).len;obtain rfl:=ae (Q.symm.trans N);refine (Any.strings_Split L n s sep m w f.1 O f.2).mono ?_;rintro e V ⟨rfl,rfl⟩;refine ⟨_,rfl,rfl,?_⟩;have c:(Lib.splitB sep 0 (Lib.countB s sep) s).length=Lib.countB s sep+1:=Lib.splitB_all sep f.2 0 _ s rfl;have t:=Lib.countB_le sep f.2 s.size s (aH _);have o:=D.adw (E:=ρ.t 9) (enc:=Value.string) (h1:=fun _=>rfl) (b:=w.heap.size) (xs:=Lib.splitB sep 0 (Lib.countB s sep) s) (by rw[c];have:lim=9223372036854775807:=rfl;omega) (a.alloc _ _);rw[c] at o;exact o
theorem adx (L:Lays.n145 P ρ) (N:P.globalNamed "internal/bytealg.MaxLen" =some (ρ.g 1)) (G:Enters P (ρ.f 145)):FOk P (ρ.f 145) ⟨[.rd .str,.rd .str],[.str,.str,.bool],fun s sep=>afC s sep,none⟩:=by
 refine ⟨fun q y=>(by cases y),fun _=>G,fun _ l J γ T d r f A vr=>?_⟩;obtain ⟨v,u,rfl,⟨F,I,z⟩,p,j,rfl,⟨B,H,O⟩,b⟩:=A;obtain rfl:j= []:=b;obtain ⟨x,h,U⟩:=d;let s:ByteArray:=x;let sep:ByteArray:=h;obtain rfl:F= [v]:=I;obtain rfl:B= [p]:=H;obtain rfl:v= .string s:=(List.cons.inj z).1;obtain rfl:p= .string sep:=(List.cons.inj O).1;obtain ⟨S,k,E⟩:=Option.bind_eq_some_iff.1 (show afC s sep=some r from vr);have k:=bH k;obtain rfl:=ae E;intro w C a;have a:St J l w C:=a;obtain ⟨g,m,K,M⟩:=(f w a.2.1).len;obtain rfl:=ae (N.symm.trans K);refine (Any.strings_Cut L s sep m w k M).mono ?_;rintro e V ⟨rfl,n,rfl⟩;refine ⟨_,rfl,⟨_,rfl,rfl,fun i t o=>?_⟩,?_⟩
 ·rcases i with _ | _ | _ | i
  all_goals first | (obtain rfl:=ae o;rfl) | cases o
 ·have Q:St J l (w.drewN n) C:=a.drawn rfl rfl rfl rfl;exact D.St.free (R:=Iy) (c:=[.string _]) (D.St.free (R:=Iy) (c:=[.string _]) (D.St.free (R:=rp) (c:=[.bool _]) Q ⟨rfl,rfl⟩) ⟨rfl,rfl⟩) ⟨rfl,rfl⟩
theorem Jq (L:Lays.n137 P ρ) (u:Enters P (ρ.f 137)):FOk P (ρ.f 137) ⟨[.rd .str,.rd (.int .u8)],[.int .i64],fun s c=>Ba s c,none⟩:=by
 refine ⟨fun q l=>(by cases l),fun _=>u,fun _ i J γ A d r g o vr=>?_⟩;obtain ⟨v,j,rfl,⟨t,y,n⟩,h,f,rfl,⟨p,x,z⟩,b⟩:=o;obtain rfl:f= []:=b;obtain ⟨k,m,B⟩:=d;let s:ByteArray:=k;let c:Int:=m;obtain rfl:t= [v]:=y;obtain rfl:p= [h]:=x;obtain rfl:v= .string s:=(List.cons.inj n).1;obtain rfl:h= .int .u8 c:=(List.cons.inj z).1;obtain rfl:=ae (show Ba s c=some r from vr);intro w C a;have a:St J i w C:=a;refine (Any.strings_IndexByte L s c w).mono ?_;rintro e E ⟨rfl,rfl⟩;exact ⟨_,rfl,rfl,D.St.free (R:=be) (c:=[.int .i64 _]) a ⟨rfl,rfl⟩⟩
theorem ady {α:Type} {E:TypeId} {R:Rep α} {I:Hp} {w0 w:World} {v:List Value} {xs:List α} {C:List Ch} (h:St I w0 w (Ch.own (ah E R) v xs::C)):St I w0 w (Ch.own (ah E (SK R)) v xs::C):=by
 obtain ⟨e,i,F,⟨G,K,rfl,⟨d,q⟩,j⟩,b,f⟩:=h;rcases q with ⟨rfl,rfl,rfl⟩ | ⟨g,a,cap,cur,r,hv,s,n,p,k,l,m⟩
 ·exact ⟨e,i,_,⟨_,K,rfl,⟨d,.inl ⟨rfl,rfl,rfl⟩⟩,j⟩,b,f⟩
 ·exact ⟨e,i,_,⟨_,K,rfl,⟨d,.inr ⟨g,a,cap,cur,r,hv,s,n,p,k,l,OwnEls.turn (R:=R) (S:=SK R) rfl (fun c x G o=>S8 o) m⟩⟩,j⟩,b,f⟩
theorem Qi {P:Program} {k:FuncId} {ps:List PM} {A B t:Ty} {E:TypeId} {m:curP ps (Option (dens ([A,.sl E t,B] ++outs ps)))} (h:FOk P k ⟨ps,[A,.sl E t,B],m,none⟩):FOk P k ⟨ps,[A,.sl E (.bag t),B],m,none⟩:=by
 refine ⟨fun q c=>(by cases c),fun c=>h.en c,fun _ f J γ l d r a n vr=>?_⟩;refine (h.con rfl f J γ l d r a n vr).imp (fun v hv=>?_) (fun v _ w C o=>?_)
 ·obtain ⟨g,rfl,j,e⟩:=hv;refine ⟨g,rfl,j,fun i u b=>?_⟩;rcases i with _ | _ | _ | i
  ·obtain rfl:=ae b;exact e 0 _ rfl
  ·obtain rfl:=ae b;exact e 1 (.sl E t) rfl
  ·obtain rfl:=ae b;exact e 2 _ rfl
  ·cases b
 ·exact ((ady (o.perm (List.Perm.swap ..))).perm (List.Perm.swap ..))
theorem Vj {k:FuncId} {m:ByteArray->Option (Int×Bool)} (A:Enters P k) (h: ∀s r w,m s=some r->LayW P w->Calls P k #[.string s] w fun e l=>e= .returned (.tuple #[.int .i64 r.1,.bool r.2])/\Below w.heap.size w l):FOk P k ⟨[.rd .str],[.int .i64,.bool],fun s=>m s,none⟩:=by
 refine ⟨fun q p=>(by cases p),fun _=>A,fun _ n J γ E d r f y vr=>?_⟩;obtain ⟨v,g,rfl,⟨z,B,x⟩,b⟩:=y;obtain rfl:g= []:=b;obtain ⟨o,F⟩:=d;let s:ByteArray:=o;obtain rfl:z= [v]:=B;obtain rfl:v= .string s:=(List.cons.inj x).1;intro w C a;have a:St J n w C:=a;refine (h s r w vr (f w a.2.1)).mono ?_;rintro e l ⟨rfl,u⟩;refine ⟨_,rfl,⟨_,rfl,rfl,fun i t j=>?_⟩,?_⟩
 ·rcases i with _ | _ | i
  all_goals first | (obtain rfl:=ae j;rfl) | cases j
 ·exact D.St.free (R:=be) (c:=[.int .i64 _]) (D.St.free (R:=rp) (c:=[.bool _]) (St.belowS a u) ⟨rfl,rfl⟩) ⟨rfl,rfl⟩
end
end R
end Go.Proofs.YteapgmibbpckoaaGreatDoor
