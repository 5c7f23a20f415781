/- FnEngineSteps: for every input the law returns true and changes nothing that was there. Part 5 of 9. -/
import Derived.Test.YtodbpnpbhpeepaaGreatDoorSC3
set_option synthInstance.maxSize 20000
set_option synthInstance.maxHeartbeats 2000000
set_option linter.unusedVariables false
set_option linter.unusedSimpArgs false
set_option linter.unnecessarySimpa false
set_option linter.unusedSectionVars false
set_option maxRecDepth 1000000
namespace Go.Proofs.YtodbpnpbhpeepaaGreatDoor
open Go.IntKind (i64)
namespace R
open Go.RowKit
open D
inductive Knd
 | num (k:IntKind) | boo | str
 | rd (E:TypeId) (t:Ty)
 | own (E:TypeId) (t:Ty)
 | map (d:MD)
 | tre (T E:TypeId) (t:Ty)
 | bx (T:TypeId) (k:IntKind)
def Knd.den:Knd->Type
 | .num _=>Int
 | .boo=>Bool
 | .str=>ByteArray
 | .rd _ t=>List t.den
 | .own _ t=>List t.den
 | .map d=>List (d.k.den×d.e.den)
 | .tre _ _ t=>Tr t.den
 | .bx _ _=>Int
def ZB {a b:MD} (h:a=b) (m:List (a.k.den×a.e.den)):List (b.k.den×b.e.den):=h ▸ m
def Hm (d:MD) (x:LV) (chs:List Ent):Option (List (d.k.den×d.e.den)×List Ent):=match x with
 | .own h=>(aa8 h chs).bind fun r=>if h:MD.beq r.md d=true then some (ZB (MD.beq_eq h) r.m,r.rest) else none
 | _=>none
theorem Hn {d:MD} {x:LV} {chs:List Ent} {q:List (d.k.den×d.e.den)×List Ent} (h:Hm d x chs=some q): ∃b a,x= .own b/\chs.Perm ((b,a,d.ck q.1)::q.2):=by
 unfold Hm at h;split at h
 ·rename_i b;have ⟨r,c,h⟩:=bind_some h;have hp:=I2 c;have ⟨a,f,m,rest⟩:=r;split at h
  ·rename_i e;cases MD.beq_eq e;cases ae h;exact ⟨b,a,rfl,hp⟩
  grind
 grind
def KJ (T:TypeId) (k:IntKind) (x:LV) (chs:List Ent):Option (Int×List Ent):=match x with
 | .ptr h off=>cg (Nat.beq off 0) ((rO h chs).bind fun b=>cg (Nat.beq b.T T) (match b.cells with
  | [c] =>(EL k c).bind fun d=>some (d,b.rest)
  | _=>none))
 | _=>none
theorem Ho {T:TypeId} {k:IntKind} {x:LV} {chs:List Ent} {q:Int×List Ent} (h:KJ T k x chs=some q): ∃e a c,x= .ptr e 0/\EL k c=some q.1/\chs.Perm ((e,a,.blk T [c])::q.2):=by
 cases x with
 | ptr e off =>
  have ⟨j,h⟩:=ai (show cg (Nat.beq off 0) _=some q from h);cases au j;have ⟨b,l,f⟩:=bind_some h;have ⟨n,m⟩:=ai f;have hp:=lf l;have ⟨a,o,cells,rest⟩:=b;obtain rfl:o=T:=au n
  match cells,m,hp with
  | [c],h,hp =>
   have ⟨d,g,i⟩:=bind_some (show (EL k c).bind _=some q from h);cases ae i;exact ⟨e,a,c,rfl,g,hp⟩
  | [],h,_=>cases h
  | _::_::_,h,_=>cases h
 | _=>cases h
def UX:List Knd->Type
 | [] =>Unit
 | [k] =>k.den
 | k::l::ks=>k.den×UX (l::ks)
def sM:List Knd->Type
 | [] =>Unit
 | k::ks=>k.den×sM ks
def toN:(ks:List Knd)->UX ks->sM ks
 | [],_=>()
 | [_],d=>(d,())
 | _::l::ks,d=>(d.1,toN (l::ks) d.2)
def ofN:(ks:List Knd)->sM ks->UX ks
 | [],_=>()
 | [_],d=>d.1
 | _::l::ks,d=>(d.1,ofN (l::ks) d.2)
theorem qF: ∀(a:List Knd) (d:sM a),toN a (ofN a d)=d
 | [],_=>rfl
 | [_],_=>rfl
 | _::l::a,d=>congrArg (Prod.mk d.1) (qF (l::a) d.2)
def UY (k:Knd) (x:LV) (chs:List Ent):Option (k.den×List Ent):=match k with
 | .num k=>(EL k x).bind fun d=>some (d,chs)
 | .boo=>(DH x).bind fun d=>some (d,chs)
 | .str=>(LZ x).bind fun d=>some (d,chs)
 | .rd E t=>(RL E t x).bind fun d=>some (d,chs)
 | .own E t=>(xu E t x chs).bind fun q=>some (q.1,q.2.2)
 | .map d=>Hm d x chs
 | .tre T E t=>(YH T E t x).bind fun d=>some (d,chs)
 | .bx T k=>KJ T k x chs
def aba (id:Nat):(k:Knd)->k.den->LV
 | .num k,d=>.val (.int k d)
 | .boo,d=>.val (.bool d)
 | .str,d=>.val (.string d)
 | .rd E t,d=>.rd ⟨id,[]⟩ (.sl E t) d
 | .own _ _,_=>.own ⟨id,[]⟩
 | .map _,_=>.own ⟨id,[]⟩
 | .tre T E t,d=>.rd ⟨id,[]⟩ (.tree T E t) d
 | .bx _ _,_=>.ptr ⟨id,[]⟩ 0
def YJ (id ver:Nat):(k:Knd)->k.den->List Ent
 | .own E t,d=>[(⟨id,[]⟩,ver,.own (.sl E t) d)]
 | .map md,d=>[(⟨id,[]⟩,ver,md.ck d)]
 | .bx T k,d=>[(⟨id,[]⟩,ver,.blk T [.val (.int k d)])]
 | _,_=>[]
def Dc:(ks:List Knd)->List LV->List Ent->Option (sM ks×List Ent)
 | [],[],chs=>some ((),chs)
 | k::ks,x::xs,chs=>(UY k x chs).bind fun q=>(Dc ks xs q.2).bind fun r=>some ((q.1,r.1),r.2)
 | _,_,_=>none
def Fi (id:Nat):(ks:List Knd)->sM ks->List LV
 | [],_=>[]
 | k::ks,d=>aba id k d.1::Fi (id+1) ks d.2
def Fj (id ver:Nat):(ks:List Knd)->sM ks->List Ent
 | [],_=>[]
 | k::ks,d=>YJ id ver k d.1++Fj (id+1) ver ks d.2
section
variable {P:Program} {w0 w:World} {J:Hp} {θ:Th} {n:Nat} {C:List Ch}
theorem St.bun {ls:List Ch} {α:Type} {R:Rep α} {cs:List Value} {x:α} (h:St J w0 w (ls++C)) (c:Bun J ls R cs x):St J w0 w (Ch.own R cs x::C):=by
 have ⟨f,b,F,d,a,e⟩:=h;obtain ⟨G,K,rfl,g,i⟩:=d.split;exact ⟨f,b,G++K,⟨G,K,rfl,c w G g,i⟩,a,e⟩
theorem SL {α:Type} {R:Rep α} {u:Value} {x:α} (h:St J w0 w (Ch.own R [u] x::C)):u.oneCell'=true:=by
 obtain ⟨d,b,F,⟨G,K,rfl,k,e⟩,a,c⟩:=h;exact R.own_one k u (by simp)
theorem Xh {k:Knd} {x:LV} {chs:List Ent} {q:k.den×List Ent} (h:UY k x chs=some q) (y:x.ok P w0 J θ n) (b:St J w0 w (chs.map (toCh P θ)++C)) {θ':Th} {id ver m:Nat} (u:θ' id=x.v θ) (l:id<m) :
  (aba id k q.1).ok P w0 J θ' m/\(aba id k q.1).v θ'=x.v θ/\St J w0 w ((YJ id ver k q.1).map (toCh P θ')++(q.2.map (toCh P θ)++C))/\ ∀e∈q.2,e∈chs:=by
 have j:hv θ' ⟨id,[]⟩=x.v θ:=u;cases k with
 | num k =>
  have ⟨d,g,h⟩:=bind_some (show (EL k x).bind _=some q from h);cases ae h;exact ⟨Eq.refl true,(EM g θ).symm,b,fun e a=>a⟩
 | boo =>
  have ⟨d,g,h⟩:=bind_some (show (DH x).bind _=some q from h);cases ae h;exact ⟨Eq.refl true,(GJ g θ).symm,b,fun e a=>a⟩
 | str =>
  have ⟨d,g,h⟩:=bind_some (show (LZ x).bind _=some q from h);cases ae h;exact ⟨Eq.refl true,(Kc g θ).symm,b,fun e a=>a⟩
 | rd E t =>
  have ⟨d,g,h⟩:=bind_some (show (RL E t x).bind _=some q from h);cases ae h;refine ⟨⟨l,?_⟩,j,b,fun e a=>a⟩;grind[Bn]
 | tre T E t =>
  have ⟨d,g,h⟩:=bind_some (show (YH T E t x).bind _=some q from h);cases ae h;refine ⟨⟨l,?_⟩,j,b,fun e a=>a⟩;grind[ID]
 | own E t =>
  have ⟨r,A,h⟩:=bind_some (show (xu E t x chs).bind _=some q from h);cases ae h;have ⟨p,v⟩:=Bq A P J θ;have o:St J w0 w (Ch.own (Ty.sl E t).rep [x.v θ] r.1::(r.2.2.map (toCh P θ)++C)):=by
   refine St.bun ?_ v
   have:=b.perm ((p.map (toCh P θ)).append_right C)
   grind
  refine ⟨⟨l,by grind[SL]⟩,j,?_,fun e a=>p.mem_iff.2 (by grind)⟩;show St J w0 w (Ch.own _ [hv θ' ⟨id,[]⟩] _::_);simp_all
 | map d =>
  obtain ⟨i,f,rfl,p⟩:=Hn (show Hm d x chs=some q from h);have o:St J w0 w (toCh P θ (i,f,d.ck q.1)::(q.2.map (toCh P θ)++C)):=by
   have:=b.perm ((p.map (toCh P θ)).append_right C)
   exact this
  have s:hv θ i=LV.v θ (.own i):=rfl;have B:St J w0 w (@Ch.mp P d.K d.E d.k.den d.e.den d.k.dec d.k.lit d.k.ok d.e.lit d.e.z (hv θ i) (show List (d.k.den×d.e.den) from q.1)::(q.2.map (toCh P θ)++C)):=o;refine ⟨⟨l,by rw[j];exact y.2⟩,j,?_,fun e a=>p.mem_iff.2 (by grind)⟩;show St J w0 w (@Ch.mp P d.K d.E d.k.den d.e.den d.k.dec d.k.lit d.k.ok d.e.lit d.e.z (hv θ' ⟨id,[]⟩) (show List (d.k.den×d.e.den) from q.1)::_);simp_all
 | bx T k =>
  obtain ⟨i,f,c,rfl,z,p⟩:=Ho (show KJ T k x chs=some q from h);have o:=b.perm ((p.map (toCh P θ)).append_right C);have s:bk (hv θ' ⟨id,[]⟩)=bk (hv θ i):=by rw[j];rfl
  refine ⟨l,?_,?_,fun e a=>p.mem_iff.2 (by grind)⟩
  ·show Value.pointer (some ⟨bk (hv θ' ⟨id,[]⟩),0,none⟩)=_;rw[s];rfl
  ·show St J w0 w (Ch.blk (bk (hv θ' ⟨id,[]⟩)) [.int k _] T::_);rw[s,<-EM z θ];exact o
theorem A0: ∀ {c:List Knd} {xs:List LV} {chs:List Ent} {q:sM c×List Ent} {id ver:Nat} {C:List Ch},Dc c xs chs=some q->(∀x∈xs,x.ok P w0 J θ n)->St J w0 w (chs.map (toCh P θ)++C)-> ∀ {θ':Th} {m:Nat},(∀i x,xs[i]? =some x->θ' (id+i)=x.v θ)->id+c.length<=m->
  (∀x∈Fi id c q.1,x.ok P w0 J θ' m)/\(Fi id c q.1).map (·.v θ')=xs.map (·.v θ)/\St J w0 w ((Fj id ver c q.1).map (toCh P θ')++(q.2.map (toCh P θ)++C))/\ ∀e∈q.2,e∈chs
 | [],[],chs,q,id,ver,C,h,_,hS,θ',m,_,_=>by
  cases ae (show some _=some q from h);exact ⟨fun x f=>(by cases f),rfl,hS,fun e j=>j⟩
 | k::c,x::xs,chs,q,id,ver,C,h,f,hS,θ',m,hid,hm=>by
  have ⟨a,u,h⟩:=bind_some (show (UY k x chs).bind _=some q from h);have ⟨b,o,h⟩:=bind_some h;cases ae h;have g:id<m:=by rw[ay] at hm;omega
  have ⟨r,A,l,s⟩:=Xh (ver:=ver) u (f x (by simp)) hS (θ':=θ') (id:=id) (m:=m) (hid 0 x rfl) g;have ⟨v,z,p,t⟩:=A0 (id:=id+1) (ver:=ver) (C:=(YJ id ver k a.1).map (toCh P θ')++C) o (fun y d=>f y (by grind)) (l.perm (List.perm_append_comm_assoc _ _ _)) (θ':=θ') (m:=m) (fun i y d=>by
   have:=hid (i+1) y d
   grind) (by grind)
  refine ⟨fun y d=>?_,?_,?_,fun e j=>s e (t e j)⟩
  ·rcases aE d with rfl | d
   ·exact r
   grind
  ·grind[LV.v,Fi]
  ·refine p.perm ?_;grind[List.perm_append_comm_assoc,Fj,toCh,YJ,aC]
 | [],_::_,chs,q,id,ver,C,h,_,_,_,_,_,_=>by cases h
 | _::_,[],chs,q,id,ver,C,h,_,_,_,_,_,_=>by cases h
end
inductive It
 | slot (t:Nat) (k:Knd)
 | box (t:Nat) (ks:List Knd)
 | row (t:Nat) (E:TypeId) (u:Ty)
 | agg (t:Nat) (ks:List Knd)
 | par (i:Nat) (p:List Nat) (E:TypeId) (u:Ty)
 | gone (t:Nat)
 | cur (t:Nat)
 | pbx (i:Nat) (ks:List Knd)
def It.s (t:Nat):It:=.slot t (.num .i64)
inductive RIt
 | slot (t:Nat) (k:Knd)
 | box (h:Hdr) (T:TypeId) (ks:List Knd)
 | row (h:Hdr) (E:TypeId) (u:Ty)
 | agg (t:Nat) (k:Knd) (ks:List Knd)
 | cur (h:Hdr) (T:TypeId) (g:Hdr) (E:TypeId) (xs:List Int)
def RIt.ks:RIt->List Knd
 | .slot _ k=>[k]
 | .box _ _ ks=>ks
 | .row _ E u=>[.own E u]
 | .agg _ k ks=>k::ks
 | .cur _ _ _ _ _=>[.num .i64,.num .i64]
def th:List RIt->List Knd
 | [] =>[]
 | r::rs=>r.ks++th rs
def Rl:Option AV->Option Hdr
 | some (.one (.ptr h off))=>if Nat.beq off 0 then some h else none
 | _=>none
def ZC:Option AV->Option Hdr
 | some (.one (.own h))=>some h
 | _=>none
theorem Xi {v:Option AV} {h:Hdr} (k:ZC v=some h):v=some (.one (.own h)):=by
 unfold ZC at k;grind
def ZD (h:Hdr) (chs:List Ent):Option (Hdr×TypeId×TypeId×List Int):=(pull h chs).bind fun r=>match r.1.2.2 with
 | .blk T [.rd g (.sl E (.int .u8)) xs,_,_] =>some (g,T,E,xs)
 | _=>none
theorem KK {h g:Hdr} {T E:TypeId} {xs:List Int} {chs:List Ent} (k:ZD h chs=some (g,T,E,xs)): ∃ver a b,(h,ver,Chk.blk T [.rd g (.sl E (.int .u8)) xs,a,b])∈chs:=by
 have ⟨r,c,d⟩:=bind_some k;have ⟨p,e⟩:=gC c;grind
def resolve (s:Sg):It->Option RIt
 | .slot t k=>some (.slot t k)
 | .box t ks=>(Rl (look s.env t)).bind fun h=>(rO h s.chs).bind fun b=>some (.box h b.T ks)
 | .row t E u=>(ZC (look s.env t)).bind fun h=>some (.row h E u)
 | .agg t ks=>match ks with
  | k::ks=>some (.agg t k ks)
  | [] =>none
 | .par i p E u=>cg (Nat.blt i s.nxt) (some (.row ⟨i,p⟩ E u))
 | .gone _=>none
 | .pbx i ks=>(rO ⟨i,[]⟩ s.chs).bind fun b=>some (.box ⟨i,[]⟩ b.T ks)
 | .cur t=>(Rl (look s.env t)).bind fun h=>(ZD h s.chs).bind fun q=>some (.cur h q.2.1 q.1 q.2.2.1 q.2.2.2)
def A1 (s:Sg):List It->Option (List RIt)
 | [] =>some []
 | i::is=>(resolve s i).bind fun r=>(A1 s is).bind fun rs=>some (r::rs)
def oneOf:Option AV->Option LV
 | some (.one x)=>some x
 | _=>none
theorem SM {v:Option AV} {x:LV} (h:oneOf v=some x):v=some (.one x):=by
 unfold oneOf at h;grind
def Pa:Option AV->Option (List LV)
 | some (.agg xs)=>some xs
 | _=>none
theorem SN {v:Option AV} {x:List LV} (h:Pa v=some x):v=some (.agg x):=by
 unfold Pa at h;grind
def SO (env:List (Nat×Nat×AV)) (chs:List Ent):(r:RIt)->Option (sM r.ks×List Ent)
 | .slot t k=>(oneOf (look env t)).bind fun x=>Dc [k] [x] chs
 | .box h T ks=>(rO h chs).bind fun b=>cg (Nat.beq b.T T) (Dc ks b.cells b.rest)
 | .row h E u=>Dc [.own E u] [.own h] chs
 | .agg t k ks=>(Pa (look env t)).bind fun xs=>Dc (k::ks) xs chs
 | .cur h T g E _=>(wE h T E chs).bind fun q=>cg (Hdr.beq q.g g) (some ((q.d.2.1,q.d.2.2,()),q.rest))
def SP:(ks ls:List Knd)->sM ks->sM ls->sM (ks++ls)
 | [],_,_,e=>e
 | _::ks,ls,d,e=>(d.1,SP ks ls d.2 e)
def UZ:(ks ls:List Knd)->sM (ks++ls)->sM ks
 | [],_,_=>()
 | _::ks,ls,d=>(d.1,UZ ks ls d.2)
def Xj:(ks ls:List Knd)->sM (ks++ls)->sM ls
 | [],_,d=>d
 | _::ks,ls,d=>Xj ks ls d.2
theorem I4: ∀(a ls:List Knd) (d:sM a) (e:sM ls),UZ a ls (SP a ls d e)=d
 | [],_,_,_=>rfl
 | _::a,ls,d,e=>congrArg (Prod.mk d.1) (I4 a ls d.2 e)
theorem I5: ∀(a ls:List Knd) (d:sM a) (e:sM ls),Xj a ls (SP a ls d e)=e
 | [],_,_,_=>rfl
 | _::a,ls,d,e=>I5 a ls d.2 e
def Xk (env:List (Nat×Nat×AV)):(rs:List RIt)->List Ent->Option (sM (th rs)×List Ent)
 | [],chs=>some ((),chs)
 | r::rs,chs=>(SO env chs r).bind fun q=>(Xk env rs q.2).bind fun p=>some (SP r.ks (th rs) q.1 p.1,p.2)
def newE (id:Nat):(r:RIt)->sM r.ks->List (Nat×Nat×AV)
 | .slot t k,d=>[(t,id,.one (aba id k d.1))]
 | .agg t k ks,d=>[(t,id,.agg (Fi id (k::ks) d))]
 | _,_=>[]
def YK (id ver:Nat):(r:RIt)->sM r.ks->List Ent
 | .slot _ k,d=>Fj id ver [k] d
 | .agg _ k ks,d=>Fj id ver (k::ks) d
 | .box h T ks,d=>(h,ver,.blk T (Fi id ks d))::Fj id ver ks d
 | .row h E u,d=>[(h,ver,.own (.sl E u) d.1)]
 | .cur h T g E xs,d=>[(h,ver,.blk T [.rd g (.sl E (.int .u8)) xs,.val (.int .i64 d.1),.val (.int .i64 d.2.1)])]
def Dd:(id:Nat)->(rs:List RIt)->sM (th rs)->List (Nat×Nat×AV)
 | _,[],_=>[]
 | id,r::rs,d=>newE id r (UZ r.ks (th rs) d)++Dd (id+r.ks.length) rs (Xj r.ks (th rs) d)
def zh (ver:Nat):(id:Nat)->(rs:List RIt)->sM (th rs)->List Ent
 | _,[],_=>[]
 | id,r::rs,d=>YK id ver r (UZ r.ks (th rs) d)++zh ver (id+r.ks.length) rs (Xj r.ks (th rs) d)
structure Cut where
 nxt:Nat
 its:List RIt
 env:List (Nat×Nat×AV)
 chs:List Ent
def Cut.top (c:Cut):Nat:=c.nxt+(th c.its).length
def Cut.at (c:Cut) (d:sM (th c.its)):Sg:=⟨Dd c.nxt c.its d++c.env,zh c.top c.nxt c.its d++c.chs,c.top+1⟩
def abT (t:Nat):List Nat->Bool
 | [] =>false
 | u::l=>Nat.beq u t || abT t l
def Mz (l:List (Nat×Nat×AV)) (t:Nat):Option Nat:=match l with
 | [] =>none
 | (u,k,_)::l=>if Nat.beq u t then some k else Mz l t
def A2 (env:List (Nat×Nat×AV)):List (Nat×Nat×AV)->Bool
 | [] =>true
 | e::l=>(match Mz env e.1 with | some v=>Nat.beq v e.2.1 | none=>false)&&A2 env l
def I6:List Ent->List Ent->Option (List Ent)
 | [],chs=>some chs
 | e::l,chs=>(pull e.1 chs).bind fun r=>cg (Nat.beq r.1.2.1 e.2.1) (I6 l r.2)
def distinctH:List Ent->Bool
 | [] =>true
 | e::l=>Da e.1 l&&distinctH l
def ZE:Option AV->List Hdr
 | some (.one (.ptr h _))=>[h]
 | _=>[]
def qG (s:Sg):List RIt->List Hdr
 | [] =>[]
 | .slot t (.bx _ _)::rs=>ZE (look s.env t)++qG s rs
 | .slot t _::rs=>(match look s.env t with | some v=>BN v | none=>[])++qG s rs
 | .box h _ _::rs=>(match rO h s.chs with | some b=>BN (.agg b.cells) | none=>[])++qG s rs
 | .row h _ _::rs=>h::qG s rs
 | .cur _ _ _ _ _::rs=>qG s rs
 | .agg t _ _::rs=>(match look s.env t with | some v=>BN v | none=>[])++qG s rs
def BO:List Ent->List Hdr
 | [] =>[]
 | (h,_,.own _ _)::l=>h::BO l
 | _::l=>BO l
def Cut.of (c:Cut) (s0:Sg):Option (sM (th c.its)):=match xJ (BO c.chs) (xJ (qG s0 c.its) s0) with
 | s=>(Xk s.env c.its s.chs).bind fun q=>(I6 c.chs q.2).bind fun _=>cg (A2 s.env c.env) (some q.1)
def RIt.hdrs:RIt->List Hdr
 | .slot _ _=>[]
 | .box h _ _=>[h]
 | .row h _ _=>[h]
 | .agg _ _ _=>[]
 | .cur h _ g _ _=>[h,g]
def hdrsR:List RIt->List Hdr
 | [] =>[]
 | r::rs=>r.hdrs++hdrsR rs
def Hq:List (Nat×Nat×AV)->List Nat->List (Nat×Nat×AV)
 | [],_=>[]
 | e::l,seen=>match abT e.1 seen with
  | true=>Hq l seen
  | false=>e::Hq l (e.1::seen)
theorem uU: ∀ {l:List (Nat×Nat×AV)} {seen:List Nat},(Hq l seen).Sublist l
 | [],_=>List.Sublist.refl _
 | e::l,seen=>by
  unfold Hq;split
  ·exact uU.cons _
  ·exact uU.cons_cons _
def Xl:List It->List It
 | [] =>[]
 | .gone _::is=>Xl is
 | i::is=>i::Xl is
def Xm (s:Sg):List It->List Hdr
 | [] =>[]
 | .gone t::is=>(match look s.env t with
  | some (.one (.ptr h _))=>match rO h s.chs with | some b=>BN (.agg b.cells) | none=>[]
  | some v=>BN v
  | none=>[])++Xm s is
 | _::is=>Xm s is
def BP (ks:List Nat) (is:List It) (s:Sg):Option Cut:=(A1 s (Xl is)).bind fun rs=>cg (distinctH s.chs) (some ⟨s.nxt,rs,Hq (s.env.filter fun e=> !abT e.1 ks) [],s.chs.filter fun e=> !acH e.1 (Xm s is++(qG s rs++hdrsR rs))⟩)
theorem Xn {P:Program} {w0:World} {J:Hp} {θ:Th} {m id ver:Nat} {chs:List Ent} {k:Knd} {d:k.den} (h1:id<m) (b:ver<m): ∀e∈YJ id ver k d,okE P w0 J θ m chs e:=by
 cases k with
 | own E t=>intro e a;cases ak a;exact ⟨h1,b,trivial⟩
 | map md=>intro e a;cases ak a;exact ⟨h1,b,trivial⟩
 | bx T k=>intro e a;cases ak a;exact ⟨h1,b,fun x c=>by cases ak c;rfl⟩
 | _=>intro e a;cases a
theorem A3 {P:Program} {w0:World} {J:Hp} {θ:Th} {m ver:Nat} {chs:List Ent} (c:ver<m): ∀ {b:List Knd} {id:Nat} {d:sM b},id+b.length<=m-> ∀e∈Fj id ver b d,okE P w0 J θ m chs e
 | [],_,_,_=>fun e a=>by cases a
 | k::b,id,d,h1=>fun e a=>by
  rw[ay] at h1;rcases aG a with a | a
  ·exact Xn (by omega) c e a
  ·exact A3 c (by omega) e a
section
variable {P:Program} {w0 w:World} {J:Hp} {θ:Th} {n:Nat} {C:List Ch}
def RitOk (P:Program) (w0:World) (J:Hp) (θ:Th) (n:Nat):RIt->Prop
 | .cur _ _ g E xs=>LV.ok P w0 J θ n (.rd g (.sl E (.int .u8)) xs)
 | _=>True
def acO (P:Program) (w0 w:World) (J:Hp) (θ:Th) (env:List (Nat×Nat×AV)) (chs:List Ent) (hs:List Hdr) (len:Nat) (rest:List Ent) (E:Nat->List (Nat×Nat×AV)) (N:Nat->Nat->List Ent):Prop:=
 ∃vals:List Value,vals.length=len/\ ∀(θ':Th) (id ver m:Nat),(∀i v,vals[i]? =some v->θ' (id+i)=v)->id+len<=m->ver<m->(∀h∈hs,hv θ' h=hv θ h/\h.id<m)-> ∀C,St J w0 w (chs.map (toCh P θ)++C)->
  (∀e∈E id,(∀chs',e.2.2.ok P w0 J θ' m chs')/\ ∃x,look env e.1=some x/\e.2.2.v θ'=x.v θ)/\(∀chs',∀e∈N id ver,okE P w0 J θ' m chs' e)/\St J w0 w ((N id ver).map (toCh P θ')++(rest.map (toCh P θ)++C))
theorem SQ {env:List (Nat×Nat×AV)} {chs chs0:List Ent} {r:RIt} {q:sM r.ks×List Ent} (h:SO env chs r=some q) (I: ∀e∈env,e.2.2.ok P w0 J θ n chs0) (V: ∀e∈chs,okE P w0 J θ n chs0 e) {n1:Nat} (U:RitOk P w0 J θ n1 r) :
  acO P w0 w J θ env chs r.hdrs r.ks.length q.2 (fun id=>newE id r q.1) (fun id ver=>YK id ver r q.1):=by
 cases r with
 | slot t k =>
  have ⟨x,G,h⟩:=bind_some (show (oneOf (look env t)).bind _=some q from h);have G:=SM G
  ·have O:x.ok P w0 J θ n:=by
    have ⟨e,d,K⟩:=uO G
    have:=I e d
    rw[K] at this;exact this
   refine ⟨[x.v θ],rfl,fun θ' id ver m s F f A C H=>?_⟩;have ⟨R,X,M,k4⟩:=A0 (ver:=ver) (C:=C) (id:=id) (θ':=θ') (m:=m) h (fun y L=>by cases ak L;omega) H (fun i y L=>by
    cases i with
    | zero=>simp at L;rw[<-L];exact s 0 _ rfl
    | succ i=>grind) F
   refine ⟨fun e d=>?_,fun l=>A3 f F,M⟩;cases ak d;exact ⟨fun l=>R _ (by simp[Fi]),_,G,(List.cons.inj (show _::_=_::_ from X)).1⟩
 | box A T o =>
  have ⟨b,Q,h⟩:=bind_some (show (rO A chs).bind _=some q from h);have ⟨hT,h⟩:=ai h;have hT:=au hT;have hp:=lf Q;have Y:=V (b.ent A) (hp.mem_iff.2 (by simp));have D: ∀ {o:List Knd} {j:List LV} {chs:List Ent} {q:sM o×List Ent},Dc o j chs=some q->j.length=o.length:=by
   intro o;induction o with
   | nil=>intro j chs q h;cases j with
    | nil=>rfl
    | cons _ _=>cases h
   | cons k o ih=>intro j chs q h;cases j with
    | nil=>cases h
    | cons x j =>
     have ⟨a,W,h⟩:=bind_some (show (UY k x chs).bind _=some q from h);have ⟨c,hc,h⟩:=bind_some h;grind
  have hl:=D h;have hvl:(b.cells.map (·.v θ)).length=o.length:=by rw[List.length_map];exact hl
  have S: ∀ {θ':Th} {id:Nat},(∀i v,(b.cells.map (·.v θ))[i]? =some v->θ' (id+i)=v)-> ∀i x,b.cells[i]? =some x->θ' (id+i)=x.v θ:=fun s i x G=>s i _ (by grind);refine ⟨b.cells.map (·.v θ),hvl,fun θ' id ver m s F f B C H=>?_⟩
  ·have hS':St J w0 w (b.rest.map (toCh P θ)++(Ch.blk (bk (hv θ A)) (b.cells.map (·.v θ)) b.T::C)):=by
    refine (H.perm ((hp.map (toCh P θ)).append_right C)).perm ?_;exact (List.perm_middle (l₁:=b.rest.map (toCh P θ)) (l₂:=C)).symm
   have ⟨R,X,M,k4⟩:=A0 (ver:=ver) (id:=id) (θ':=θ') (m:=m) h Y.2.2 hS' (S s) F;have ⟨g1,Z⟩:=B A (by simp[RIt.hdrs]);refine ⟨fun e d=>(by cases d),fun l e d=>?_,?_⟩
   ·rcases aE d with rfl | d
    ·exact ⟨Z,f,R⟩
    ·exact A3 f F e d
   ·show St J w0 w (Ch.blk (bk (hv θ' A)) ((Fi id o q.1).map (·.v θ')) T::((Fj id ver o q.1).map (toCh P θ')++(q.2.map (toCh P θ)++C)));refine M.perm ?_;grind[aC,List.perm_middle]
 | agg t k o =>
  have ⟨j,G,h⟩:=bind_some (show (Pa (look env t)).bind _=some q from h);have G:=SN G;have O: ∀x∈j,x.ok P w0 J θ n:=by
   have ⟨e,d,K⟩:=uO G
   have:=I e d
   rw[K] at this;exact this
  have D: ∀ {o:List Knd} {j:List LV} {chs:List Ent} {q:sM o×List Ent},Dc o j chs=some q->j.length=o.length:=by
   intro o;induction o with
   | nil=>intro j chs q h;cases j with
    | nil=>rfl
    | cons _ _=>cases h
   | cons k o ih=>intro j chs q h;cases j with
    | nil=>cases h
    | cons x j =>
     have ⟨a,W,h⟩:=bind_some (show (UY k x chs).bind _=some q from h);have ⟨c,hc,h⟩:=bind_some h;grind
  refine ⟨j.map (·.v θ),by rw[List.length_map];exact D h,fun θ' id ver m s F f A C H=>?_⟩;have ⟨R,X,M,k4⟩:=A0 (ver:=ver) (C:=C) (id:=id) (θ':=θ') (m:=m) h O H (fun i y L=>s i _ (by grind)) F;refine ⟨fun e d=>?_,fun l=>A3 f F,M⟩;cases ak d;refine ⟨fun l=>R,_,G,?_⟩;show Value.agg ((Fi id (k::o) q.1).map (·.v θ')).toArray=Value.agg (j.map (·.v θ)).toArray;rw[X]
 | row A E u =>
  have ⟨a,W,h⟩:=bind_some (show (UY (.own E u) (.own A) chs).bind _=some q from h);have ⟨c,hc,h⟩:=bind_some h;cases ae (show some ((),a.2)=some c from hc);cases ae h;have ⟨r,hr,W⟩:=bind_some (show (xu E u (.own A) chs).bind _=some a from W);cases ae W;have ⟨p,Q⟩:=Bq hr P J θ;refine ⟨[hv θ A],rfl,fun θ' id ver m s F f B C H=>?_⟩;have K:St J w0 w (Ch.own (Ty.sl E u).rep [hv θ A] r.1::(r.2.2.map (toCh P θ)++C)):=by
   refine St.bun ?_ Q
   have:=H.perm ((p.map (toCh P θ)).append_right C)
   grind
  refine ⟨fun e d=>(by cases d),fun l e d=>?_,?_⟩
  ·cases ak d;exact ⟨(B A (by simp[RIt.hdrs])).2,f,trivial⟩
  ·show St J w0 w (Ch.own _ [hv θ' A] _::_);simp_all[RIt.hdrs]
 | cur A T g E j =>
  have ⟨b,Q,h⟩:=bind_some (show (wE A T E chs).bind _=some q from h);have ⟨hg,h⟩:=ai h;cases ae h;have hg:=Hdr.beq_eq hg;have ⟨p,ver0,d⟩:=oR Q;refine ⟨[.int .i64 b.d.2.1,.int .i64 b.d.2.2],rfl,fun θ' id ver m s F f B C H=>?_⟩;have ⟨g1,Z⟩:=B A (by simp[RIt.hdrs]);have ⟨g3,g4⟩:=B g (by simp[RIt.hdrs]);refine ⟨fun e d=>(by cases d),fun l e d=>?_,?_⟩
  ·cases ak d;refine ⟨Z,f,fun z N=>?_⟩;rcases aE N with rfl | N
   ·exact ⟨g4,by rw[g3];exact U.2⟩
   ·rcases aE N with rfl | N
    ·rfl
    ·cases ak N
     rfl
  ·show St J w0 w (Ch.blk (bk (hv θ' A)) [hv θ' g,.int .i64 b.d.2.1,.int .i64 b.d.2.2] T::(b.rest.map (toCh P θ)++C));have K:=H.perm ((p.map (toCh P θ)).append_right C);rw[List.map_cons,d] at K;rw[g1,g3,<-hg];exact K
theorem SR {k:Knd} {x:LV} {chs:List Ent} {q:k.den×List Ent} (h:UY k x chs=some q): ∀e∈q.2,e∈chs:=by
 cases k with
 | num k=>have ⟨d,b,h⟩:=bind_some (show (EL k x).bind _=some q from h);grind
 | boo=>have ⟨d,b,h⟩:=bind_some (show (DH x).bind _=some q from h);grind
 | str=>have ⟨d,b,h⟩:=bind_some (show (LZ x).bind _=some q from h);grind
 | rd E t=>have ⟨d,b,h⟩:=bind_some (show (RL E t x).bind _=some q from h);grind
 | own E t =>
  have ⟨r,f,h⟩:=bind_some (show (xu E t x chs).bind _=some q from h);exact fun e i=>(Br f).mem_iff.2 (by grind)
 | tre T E t=>have ⟨d,b,h⟩:=bind_some (show (YH T E t x).bind _=some q from h);grind
 | map d =>
  obtain ⟨g,a,-,p⟩:=Hn (show Hm d x chs=some q from h);grind
 | bx T k =>
  obtain ⟨g,a,c,-,-,p⟩:=Ho (show KJ T k x chs=some q from h);grind
theorem tM: ∀ {c:List Knd} {xs:List LV} {chs:List Ent} {q:sM c×List Ent},Dc c xs chs=some q-> ∀e∈q.2,e∈chs
 | [],[],chs,q,h=>by cases ae (show some _=some q from h);grind
 | k::c,x::xs,chs,q,h=>by
  have ⟨a,f,h⟩:=bind_some (show (UY k x chs).bind _=some q from h);have ⟨b,d,h⟩:=bind_some h;cases ae h;exact fun e g=>SR f e (tM d e g)
 | [],_::_,chs,q,h=>by cases h
 | _::_,[],chs,q,h=>by cases h
theorem Pb {env:List (Nat×Nat×AV)} {chs:List Ent} {r:RIt} {q:sM r.ks×List Ent} (h:SO env chs r=some q): ∀e∈q.2,e∈chs:=by
 cases r with
 | slot t k =>
  have ⟨x,d,h⟩:=bind_some (show (oneOf (look env t)).bind _=some q from h);exact tM h
 | box hh T ks =>
  have ⟨b,a,h⟩:=bind_some (show (rO hh chs).bind _=some q from h);have ⟨f,h⟩:=ai h;exact fun e c=>(lf a).mem_iff.2 (bF _ (tM h e c))
 | row hh E u=>exact tM (show Dc [.own E u] [.own hh] chs=some q from h)
 | cur hh T g E xs =>
  have ⟨b,a,h⟩:=bind_some (show (wE hh T E chs).bind _=some q from h);have ⟨i,h⟩:=ai h;cases ae h;exact fun e c=>(oR a).1.mem_iff.2 (bF _ c)
 | agg t k ks =>
  have ⟨x,d,h⟩:=bind_some (show (Pa (look env t)).bind _=some q from h);exact tM h
theorem KL {env:List (Nat×Nat×AV)} {chs0:List Ent} {n1:Nat} (f: ∀e∈env,e.2.2.ok P w0 J θ n chs0): ∀ {rs:List RIt} {chs:List Ent} {q:sM (th rs)×List Ent},Xk env rs chs=some q->(∀e∈chs,okE P w0 J θ n chs0 e)->(∀r∈rs,RitOk P w0 J θ n1 r)->
  (∀e∈q.2,e∈chs)/\acO P w0 w J θ env chs (hdrsR rs) (th rs).length q.2 (fun id=>Dd id rs q.1) (fun id c=>zh c id rs q.1)
 | [],chs,q,h,_,_=>by
  cases ae (show some _=some q from h);exact ⟨fun e d=>d,[],rfl,fun θ' id c m _ _ _ _ C p=>⟨fun e d=>(by cases d),fun j e d=>(by cases d),p⟩⟩
 | r::rs,chs,q,h,hchs,hrit=>by
  have ⟨a,u,h⟩:=bind_some (show (SO env chs r).bind _=some q from h);have ⟨b,F,h⟩:=bind_some h;cases ae h;have g:=Pb u;have ⟨y,z,H⟩:=SQ (w:=w) u f hchs (hrit r (by simp));have ⟨E,D,B,G⟩:=KL f F (fun e d=>hchs e (g e d)) fun x o=>hrit x (by grind);refine ⟨fun e d=>g e (E e d),y++D,by rw[az,z,B];exact (az ..).symm,fun θ' id c m l s k t C p=>?_⟩;have s:id+(r.ks.length+(th rs).length)<=m:=by
   have:(th (r::rs)).length=r.ks.length+(th rs).length:=az ..
   rw[this] at s;exact s
  have ⟨O,R,A⟩:=H θ' id c m (fun i v K=>l i v (by grind)) (by omega) k (fun x o=>t x (bj _ o)) C p;have ⟨M,N,I⟩:=G θ' (id+r.ks.length) c m (fun i v K=>by
   have:=l (r.ks.length+i) v (by grind)
   grind) (by omega) k (fun x o=>t x (bp _ o)) ((YK id c r a.1).map (toCh P θ')++C) (A.perm (List.perm_append_comm_assoc _ _ _))
  have L:Dd id (r::rs) (SP r.ks (th rs) a.1 b.1)=newE id r a.1++Dd (id+r.ks.length) rs b.1:=by
   show newE id r (UZ _ _ _)++Dd _ rs (Xj _ _ _)=_;rw[I4,I5]
  have Q:zh c id (r::rs) (SP r.ks (th rs) a.1 b.1)=YK id c r a.1++zh c (id+r.ks.length) rs b.1:=by
   show YK id c r (UZ _ _ _)++zh c _ rs (Xj _ _ _)=_;rw[I4,I5]
  show (∀e∈Dd id (r::rs) (SP r.ks (th rs) a.1 b.1),_)/\(∀j,∀e∈zh c id (r::rs) (SP r.ks (th rs) a.1 b.1),_)/\St J w0 w ((zh c id (r::rs) (SP r.ks (th rs) a.1 b.1)).map _++_);refine ⟨fun e d=>?_,fun j e d=>?_,?_⟩
  ·grind
  ·grind
  ·refine I.perm ?_;grind[List.perm_append_comm_assoc,zh,toCh,YK,aC]
end
def I7:Chk->Prop
 | .hole _ _ _ _ _ _ _ _ _ _=>False
 | _=>True
theorem SS {id ver:Nat} {k:Knd} {d:k.den} : ∀e∈YJ id ver k d,e.2.1=ver/\I7 e.2.2:=by
 cases k with
 | own E t=>intro e a;obtain rfl:=ak a;exact ⟨rfl,trivial⟩
 | map md=>intro e a;obtain rfl:=ak a;exact ⟨rfl,trivial⟩
 | bx T k=>intro e a;obtain rfl:=ak a;exact ⟨rfl,trivial⟩
 | _=>intro e a;cases a
theorem xK {ver:Nat} : ∀ {b:List Knd} {id:Nat} {d:sM b},∀e∈Fj id ver b d,e.2.1=ver/\I7 e.2.2
 | [],_,_=>fun e a=>by cases a
 | k::b,id,d=>fun e a=>by
  rcases aG a with a | a
  ·exact SS e a
  ·exact xK e a
theorem Hr {ver:Nat} : ∀ {rs:List RIt} {id:Nat} {d:sM (th rs)},∀e∈zh ver id rs d,e.2.1=ver/\I7 e.2.2
 | [],_,_=>fun e a=>by cases a
 | r::rs,id,d=>fun e a=>by
  rcases aG a with a | a
  ·cases r with
   | slot t k=>exact xK e a
   | box h T ks =>
    rcases aE a with rfl | a
    ·exact ⟨rfl,trivial⟩
    ·exact xK e a
   | row h E u=>obtain rfl:=ak a;exact ⟨rfl,trivial⟩
   | agg t k ks=>exact xK e a
   | cur h T g E xs=>obtain rfl:=ak a;exact ⟨rfl,trivial⟩
  ·exact Hr e a
theorem Hs: ∀ {rs:List RIt} {id:Nat} {d:sM (th rs)},(∀e∈Dd id rs d,id<=e.2.1/\e.2.1<id+(th rs).length)/\(Dd id rs d).Pairwise fun a b=>a.2.1≠b.2.1
 | [],_,_=>⟨fun e c=>(by cases c),List.Pairwise.nil⟩
 | r::rs,id,d=>by
  have h:(th (r::rs)).length=r.ks.length+(th rs).length:=az ..;obtain ⟨f,j⟩:=Hs (rs:=rs) (id:=id+r.ks.length) (d:=Xj r.ks (th rs) d);have g: ∀e∈newE id r (UZ r.ks (th rs) d),e.2.1=id/\0<r.ks.length:=fun e c=>by
   cases r with
   | slot t k=>obtain rfl:=ak c;exact ⟨rfl,Nat.one_pos⟩
   | agg t k ks=>obtain rfl:=ak c;exact ⟨rfl,Nat.succ_pos _⟩
   | box _ _ _=>cases c
   | row _ _ _=>cases c
   | cur _ _ _ _ _=>cases c
  have m:(newE id r (UZ r.ks (th rs) d)).Pairwise fun a b=>a.2.1≠b.2.1:=by
   cases r with
   | slot t k=>exact List.pairwise_singleton _ _
   | agg t k ks=>exact List.pairwise_singleton _ _
   | box _ _ _=>exact List.Pairwise.nil
   | row _ _ _=>exact List.Pairwise.nil
   | cur _ _ _ _ _=>exact List.Pairwise.nil
  refine ⟨fun e c=>?_,List.pairwise_append.2 ⟨m,j,fun a l b i=>?_⟩⟩
  ·rw[h];rcases aG c with c | c
   ·have:=g e c;omega
   ·have:=f e c;omega
  ·have:=g a l;have:=f b i;omega
theorem KM {t v:Nat} : ∀ {l:List (Nat×Nat×AV)},Mz l t=some v-> ∃x,look l t=some x/\(t,v,x)∈l
 | (u,k,x)::l,h=>by
  unfold Mz at h;split at h
  ·rename_i a
   have:u=t:=au a
   subst this;obtain rfl:=ae h;refine ⟨x,?_,by simp⟩;unfold look;rw[if_pos (Nat.beq_refl u)]
  ·rename_i a;obtain ⟨y,c,b⟩:=KM h;refine ⟨y,?_,by simp[b]⟩;unfold look;rw[if_neg a];exact c
theorem BQ {env:List (Nat×Nat×AV)} : ∀ {l:List (Nat×Nat×AV)},A2 env l=true-> ∀e∈l,Mz env e.1=some e.2.1
 | e::l,h,x,a=>by
  have h:((match Mz env e.1 with | some v=>Nat.beq v e.2.1 | none=>false)&&A2 env l)=true:=h;rw[aj] at h;rcases aE a with rfl | a
  ·have b:=h.1;split at b
   ·rename_i v hv;rw[hv,au b]
   ·cases b
  ·exact BQ h.2 x a
theorem DV: ∀ {l chs rest:List Ent},I6 l chs=some rest->(∀e∈l,∀e'∈chs,e'.1=e.1->e'.2.1=e.2.1->e'=e)->chs.Perm (l++rest)
 | [],chs,rest,h,_=>by obtain rfl:=ae (show some _=some rest from h);exact List.Perm.refl _
 | e::l,chs,rest,h,k=>by
  obtain ⟨r,d,h⟩:=bind_some (show (pull e.1 chs).bind _=some rest from h);obtain ⟨hv,h⟩:=ai h;obtain ⟨p,g⟩:=gC d;have a:r.1=e:=k e (by simp) r.1 (p.mem_iff.2 (by simp)) g (au hv);rw[a] at p;exact p.trans ((DV h fun x c f b=>k x (by simp[c]) f (p.mem_iff.2 (by simp[b]))).cons e)
theorem Ac: ∀ {l:List Ent},distinctH l=true-> ∀a∈l,∀b∈l,a.1=b.1->a=b
 | e::l,h,a,ha,b,hb,hab=>by
  have h:(Da e.1 l&&distinctH l)=true:=h;rw[aj] at h;rcases aE ha with d | d
  ·rcases aE hb with c | c
   ·rw[d,c]
   ·rw[d] at hab;exact absurd hab.symm (pY h.1 c)
  ·rcases aE hb with c | c
   ·rw[c] at hab;exact absurd hab (pY h.1 d)
   ·exact Ac h.2 a d b c hab
theorem Pc {l:List (Nat×Nat×AV)} (h:l.Pairwise fun a b=>a.2.1≠b.2.1): ∀a∈l,∀b∈l,a.2.1=b.2.1->a=b:=by
 induction l with
 | nil=>intro a g;cases g
 | cons e l ih =>
  intro a g b i c;obtain ⟨j,k⟩:=List.pairwise_cons.1 h;rcases aE g with f | f
  ·rcases aE i with d | d
   ·rw[f,d]
   ·rw[f] at c;exact absurd c (j b d)
  ·rcases aE i with d | d
   ·rw[d] at c;exact absurd c.symm (j a f)
   ·exact ih k a f b d c
structure CutOk (P:Program) (w0:World) (c:Cut) (s:Sg) (J0:Hp) (θ0:Th):Prop where
 nxt:c.nxt=s.nxt
 env: ∀e∈c.env,e∈s.env
 nd:c.env.Pairwise fun a b=>a.2.1≠b.2.1
 chs: ∀e∈c.chs,e∈s.chs
 dist:distinctH s.chs=true
 hdr: ∀h∈hdrsR c.its,h.id<s.nxt
 fine:Fine P w0 J0 θ0 s
 rit: ∀r∈c.its,RitOk P w0 J0 θ0 s.nxt r
section
variable {V:Env} {P:Program} {I:Hp} {w0 w:World} {F:Ch} {J J0:Hp} {θ θ0:Th} {s s':Sg} {a:Act} {c:Cut}
theorem xL {l:List Nat} {n:List It} (h:BP l n s=some c) (q:Fine P w0 J θ s):CutOk P w0 c s J θ:=by
 obtain ⟨j,C,h⟩:=bind_some h;obtain ⟨O,h⟩:=ai h;obtain rfl:=ae h;have y: ∀ {n:List It} {j:List RIt},A1 s n=some j-> ∀h∈hdrsR j,h.id<s.nxt:=by
  intro n;induction n with
  | nil=>intro j h x f;obtain rfl:=ae (show some _=some j from h);cases f
  | cons i n ih =>
   intro j h x f;obtain ⟨r,d,h⟩:=bind_some (show (resolve s i).bind _=some j from h);obtain ⟨M,m,h⟩:=bind_some h;obtain rfl:=ae h;rcases aG f with f | f
   ·cases i with
    | slot t k=>obtain rfl:=ae (show some _=some r from d);cases f
    | gone t=>cases d
    | cur t =>
     obtain ⟨A,v,d⟩:=bind_some (show (Rl (look s.env t)).bind _=some r from d);obtain ⟨⟨g,T,E,G⟩,o,d⟩:=bind_some d;obtain rfl:=ae d;obtain ⟨K,a,b,H⟩:=KK o;have z:=q.chs _ H;rcases aE f with rfl | f
     ·exact z.1
     ·obtain rfl:=ak f;exact (show LV.ok P w0 J θ s.nxt (.rd _ (.sl E (.int .u8)) G) from z.2.2 _ (by simp)).1
    | agg t l =>
     cases l with
     | nil=>cases d
     | cons k l=>obtain rfl:=ae (show some _=some r from d);cases f
    | par i p E u =>
     obtain ⟨L,d⟩:=ai (show cg (Nat.blt i s.nxt) _=some r from d);obtain rfl:=ae d;obtain rfl:=ak f;rw[Nat.blt_eq] at L;exact L
    | box t l =>
     obtain ⟨A,v,d⟩:=bind_some (show (Rl (look s.env t)).bind _=some r from d);obtain ⟨b,o,d⟩:=bind_some d;obtain rfl:=ae d;obtain rfl:=ak f;exact (q.chs _ ((lf o).mem_iff.2 (List.mem_cons_self ..))).1
    | pbx i l =>
     obtain ⟨b,o,d⟩:=bind_some (show (rO ⟨i,[]⟩ s.chs).bind _=some r from d);obtain rfl:=ae d;obtain rfl:=ak f;exact (q.chs _ ((lf o).mem_iff.2 (List.mem_cons_self ..))).1
    | row t E u =>
     obtain ⟨A,v,d⟩:=bind_some (show (ZC (look s.env t)).bind _=some r from d);obtain rfl:=ae d;obtain rfl:=ak f;obtain ⟨e,B,N⟩:=uO (Xi v)
     have:=q.env e B
     rw[N] at this;exact this.1
   ·exact ih m x f
 have D: ∀ {n:List It} {j:List RIt},A1 s n=some j-> ∀r∈j,RitOk P w0 J θ s.nxt r:=by
  intro n;induction n with
  | nil=>intro j h x f;obtain rfl:=ae (show some _=some j from h);cases f
  | cons i n ih =>
   intro j h x f;obtain ⟨r,d,h⟩:=bind_some (show (resolve s i).bind _=some j from h);obtain ⟨M,m,h⟩:=bind_some h;obtain rfl:=ae h;rcases aE f with rfl | f
   ·cases i with
    | slot t k=>obtain rfl:=ae (show some _=some x from d);trivial
    | gone t=>cases d
    | agg t l =>
     cases l with
     | nil=>cases d
     | cons k l=>obtain rfl:=ae (show some _=some x from d);trivial
    | par i p E u =>
     obtain ⟨L,d⟩:=ai (show cg (Nat.blt i s.nxt) _=some x from d);obtain rfl:=ae d
     trivial
    | box t l =>
     obtain ⟨A,v,d⟩:=bind_some (show (Rl (look s.env t)).bind _=some x from d);obtain ⟨b,o,d⟩:=bind_some d;obtain rfl:=ae d
     trivial
    | pbx i l =>
     obtain ⟨b,o,d⟩:=bind_some (show (rO ⟨i,[]⟩ s.chs).bind _=some x from d);obtain rfl:=ae d
     trivial
    | row t E u =>
     obtain ⟨A,v,d⟩:=bind_some (show (ZC (look s.env t)).bind _=some x from d);obtain rfl:=ae d
     trivial
    | cur t =>
     obtain ⟨A,v,d⟩:=bind_some (show (Rl (look s.env t)).bind _=some x from d);obtain ⟨⟨g,T,E,G⟩,o,d⟩:=bind_some d;obtain rfl:=ae d;obtain ⟨K,a,b,H⟩:=KK o;exact (show LV.ok P w0 J θ s.nxt (.rd g (.sl E (.int .u8)) G) from (q.chs _ H).2.2 _ (List.mem_cons_self ..))
   ·exact ih m x f
 exact ⟨rfl,fun e B=>(List.mem_filter.1 (uU.mem B)).1,(q.nd.filter _).sublist uU,fun e B=>(List.mem_filter.1 B).1,O,y C,q,D C⟩
theorem BR (j:CutOk P w0 c s J0 θ0) (hS:Sim P I w0 F V.n J θ s' a w) (hFr:Fr s θ0 s' θ) (hJ:J0.le J) {d:sM (th c.its)} (h:c.of s'=some d): ∃θ',Sim P I w0 F V.n J θ' (c.at d) a w/\Fr s θ0 (c.at d) θ':=by
 unfold Cut.of at h;obtain ⟨S1,F1⟩:=uT (hs:=qG s' c.its) hS;obtain ⟨O,F2⟩:=uT (hs:=BO c.chs) S1;generalize hs1:xJ (BO c.chs) (xJ (qG s' c.its) s')=s1 at h O F2;simp only at h;obtain ⟨q,hq,h⟩:=bind_some h;obtain ⟨H,N,h⟩:=bind_some h;obtain ⟨W,h⟩:=ai h;obtain rfl:=ae h;have M:Fr s θ0 s1 θ:=(hFr.trans F1).trans F2;have m:Same s.nxt θ0 θ:=M.same;obtain ⟨R,G,hvl,Y⟩:=KL (w:=w) (n1:=s.nxt) O.fine.env hq O.fine.chs fun r hr=>by
  have o:=j.rit r hr;cases r with
  | cur h T g E xs=>exact LV.ok_same m (aF _) (show LV.ok P w0 J0 θ0 s.nxt (.rd g (.sl E (.int .u8)) xs) from o) hJ
  | _=>trivial
 let θ':Th:=fun i=>if i<s.nxt then θ i else G.getD (i - s.nxt) undef;have S:Same s.nxt θ θ':=fun i hi=>if_pos hi;have n:Same s.nxt θ0 θ':=m.trans S (aF _);have l:c.top=s.nxt+(th c.its).length:=by unfold Cut.top;rw[j.nxt]
 obtain ⟨e1,e2,e3⟩:=Y θ' s.nxt c.top (c.top+1) (fun i v hi=>by
  show (if s.nxt+i<s.nxt then _ else G.getD (s.nxt+i - s.nxt) undef)=v;rw[if_neg (by omega),Nat.add_sub_cancel_left,List.getD_eq_getElem?_getD,hi];rfl) (by rw[l];exact Nat.le_succ _) (aB _) (fun x Z=>⟨be S (j.hdr x Z),by have:=j.hdr x Z;rw[l];omega⟩) [F] O.st
 have K: ∀e∈c.chs,∀z∈q.2,z.1=e.1->z.2.1=e.2.1->z=e:=fun e b z he' o D=>by
  have B:=j.chs e b;have U:=j.fine.chs e B;rcases M.chs z (R z he') z.1 z.2.1 z.2.2 ⟨rfl,.inl ⟨rfl,rfl⟩⟩ with h3 | ⟨e0,he0,h3⟩
  ·have:=U.2.1;omega
  ·have:=Ac j.dist e0 he0 e B (h3.1.trans o)
   subst this;rcases h3.2 with ⟨h4,h5⟩ | h4
   ·obtain ⟨x1,x2,x3⟩:=z;obtain ⟨y1,y2,y3⟩:=e0;simp only at o D h5;rw[o,D,h5]
   ·obtain ⟨y1,y2,y3⟩:=e0;cases y3 with
    | hole over t dd u y f i k off lv =>
     have h5:=h4.1;have h6:=U.2.2.2.1;have h7:over=z.2.1:=h5;have h8:over<y2:=h6;have h9:z.2.1=y2:=D;omega
    | _=>exact h4.elim
 have Q:=DV N K;have C:Newer s.nxt s.chs (zh c.top s.nxt c.its q.1++c.chs):=fun e b h' ver x hs=>by
  rcases aG b with b | b
  ·obtain ⟨k1,k2⟩:=Hr e b;rcases hs.2 with ⟨o,D⟩ | o
   ·left;rw[<-o,k1,l];omega
   ·obtain ⟨y1,y2,y3⟩:=e;cases y3 with
    | hole _ _ _ _ _ _ _ _ _ _=>exact k2.elim
    | _=>exact o.elim
  ·exact .inr ⟨e,j.chs e b,hs⟩
 have L: ∀e∈c.env,look s1.env e.1=some e.2.2:=fun e b=>by
  obtain ⟨x,o,D⟩:=KM (BQ W e b);have B:=j.env e b
  have:=Pc j.fine.nd _ (M.env _ D (j.fine.ver e B)) e B rfl
  rw[o,<-this]
 have X:c.at q.1=⟨Dd s.nxt c.its q.1++c.env,zh c.top s.nxt c.its q.1++c.chs,c.top+1⟩:=by unfold Cut.at;rw[j.nxt]
 obtain ⟨v1,v2⟩:=Hs (rs:=c.its) (id:=s.nxt) (d:=q.1);refine ⟨θ',?_,by
  rw[X];refine ⟨show s.nxt<=c.top+1 by rw[l];omega,n,fun e b hv0=>?_,C⟩;rcases aG b with b | b
  ·have:=v1 e b;omega
  ·exact j.env e b⟩
 rw[X];refine ⟨O.le,O.agr.pick _ fun p hp=>?_,?_,fun e b=>?_,fun e b=>?_,List.pairwise_append.2 ⟨v2,j.nd,fun x Z y hy hxy=>?_⟩,fun e b=>?_,O.fine.lay⟩
 ·obtain ⟨e,b,rfl⟩:=List.mem_map.1 hp;rcases aG b with b | b
  ·obtain ⟨-,x,o,D⟩:=e1 e b;show (envL θ s1).lookup e.1=some (e.2.2.v θ');rw[D];exact iV o
  ·have A:=j.fine.env e (j.env e b);show (envL θ s1).lookup e.1=some (e.2.2.v θ');rw[AV.v_same n A,<-AV.v_same m A];exact iV (L e b)
 ·have hch:c.chs.map (toCh P θ')=c.chs.map (toCh P θ):=List.map_congr_left fun e b=>by
   have A:=j.fine.chs e (j.chs e b);rw[o0 n A,o0 m A]
  show St J w0 w ((zh c.top s.nxt c.its q.1++c.chs).map (toCh P θ')++ [F]);rw[aZ,hch];have o:=e3.perm (List.Perm.append_left _ ((Q.map (toCh P θ)).append_right [F]));rw[aZ] at o;refine St.left (ds:=H.map (toCh P θ)) (o.perm ?_);rw[aC,aC,aC];exact (List.Perm.append_left _ (List.Perm.append_left _ List.perm_append_comm))
 ·rcases aG b with b | b
  ·exact (e1 e b).1 _
  ·exact AV.ok_same n (show s.nxt<=c.top+1 by rw[l];omega) C (j.fine.env e (j.env e b)) hJ
 ·rcases aG b with b | b
  ·have:=v1 e b
   show e.2.1<c.top+1;rw[l];omega
  ·have:=j.fine.ver e (j.env e b)
   show e.2.1<c.top+1;rw[l];omega
 ·have:=v1 x Z
  have:=j.fine.ver y (j.env y hy)
  omega
 ·rcases aG b with b | b
  ·exact e2 _ e b
  ·exact gL n (show s.nxt<=c.top+1 by rw[l];omega) C (j.fine.chs e (j.chs e b)) hJ
end
def xi (t:Nat):List Nat->Bool
 | [] =>false
 | u::l=>Nat.beq u t || xi t l
theorem pa {t:Nat} : ∀ {l:List Nat},xi t l=true↔t∈l
 | [] =>by simp[xi]
 | u::l=>by
  unfold xi;rw[Bool.or_eq_true,pa (l:=l),List.mem_cons];grind[au,Nat.beq_refl]
theorem I8 {t:Nat} {l:List Nat} :xi t l=false↔t∉l:=by
 grind[pa]
def BS:List Nat->Bool
 | [] =>true
 | u::l=> !xi u l&&BS l
theorem tN: ∀ {l:List Nat},BS l=true->l.Nodup
 | [],_=>List.nodup_nil
 | u::l,h=>by
  unfold BS at h;rw[aj,Bool.not_eq_true',I8] at h;exact List.nodup_cons.2 ⟨h.1,tN h.2⟩
structure OpK where
 reads:List Nat
 needs:List Nat
 gives:List Nat
 src:List (Nat×Option Nat)
structure Skel where
 ops:List OpK
 nres:Nat
 base:List Nat
 pre:List (List Nat)
 fin:List (Nat×Option Nat)
 left:List Nat
structure Sm where
 fact:Nat->(Nat->Value)->Prop
 chunk:Nat->(Nat->Value)->Ch
namespace Skel
def op (p:Skel) (i:Nat):OpK:=p.ops.getD i ⟨[],[],[],[]⟩
def before (p:Skel) (i:Nat):List Nat:=p.pre.getD i []
def srcOf (t:Nat):List (Nat×Option Nat)->Option (Option Nat)
 | [] =>none
 | (u,x)::l=>if Nat.beq u t then some x else srcOf t l
def ev (p:Skel) (L:List (Nat×Value)) (i:Nat) (vs:Nat->Value):Operand->Value
 | .tmp t=>match srcOf t (p.op i).src with
  | some (some j)=>vs j
  | _=>(L.lookup t).getD undef
 | x=>evL L x
end Skel
structure Loc (p:Skel) (q:Sm) (m:Nat):Prop where
 fact: ∀i,i<m-> ∀vs vs',(∀j,j=i\/j∈p.before i->vs' j=vs j)->q.fact i vs->q.fact i vs'
 chB: ∀x,x∈p.base-> ∀vs vs',q.chunk x vs'=q.chunk x vs
 chG: ∀i,i<m-> ∀x,x∈(p.op i).gives-> ∀vs vs',(∀j,j=i\/j∈p.before i->vs' j=vs j)->q.chunk x vs'=q.chunk x vs
def Skel.goal (p:Skel) (q:Sm) (P:Program) (I:Hp) (w0:World) (L:List (Nat×Value)) (i:Nat) (o:Oper):Prop:=
 ∀vs,(∀j,j∈p.before i->q.fact j vs)->
  match LN o vs with
  | some true=>OpT P I w0 o (p.ev L i vs) (((p.op i).reads++(p.op i).needs).map (q.chunk · vs)) (fun v=>q.fact i (upd vs i v)) (fun v=>((p.op i).reads++(p.op i).gives).map (q.chunk · (upd vs i v)))
  | some false=>q.fact i (upd vs i undef)/\(p.op i).needs= [] /\(p.op i).gives= []
  | none=>False
def isDst (ops:List Oper) (j t:Nat):Bool:=match ops[j]? with
 | some o=>match o.dst with
  | some u=>Nat.beq u t
  | none=>false
 | none=>false
theorem xM {ops:List Oper} {j t:Nat} :isDst ops j t=true↔(ops.toArray[j]?).bind (·.dst)=some t:=by
 unfold isDst;rw[List.getElem?_toArray];cases ops[j]? with
 | none=>simp
 | some o =>
  simp[aa];cases o.dst with
  | none=>simp
  | some u=>simp
def U0 (l:List Nat) (f:Nat->Bool):Bool:=match l with
 | [] =>false
 | x::l=>f x || U0 l f
def C2 (l:List Nat) (f:Nat->Bool):Bool:=match l with
 | [] =>true
 | x::l=>f x&&C2 l f
theorem I9 {f:Nat->Bool} : ∀ {l:List Nat},U0 l f=true↔ ∃x,x∈l/\f x=true
 | [] =>by simp[U0]
 | x::l=>by unfold U0;rw[Bool.or_eq_true,I9 (l:=l)];simp
theorem tO {f:Nat->Bool} : ∀ {l:List Nat},C2 l f=true↔ ∀x,x∈l->f x=true
 | [] =>by simp[C2]
 | x::l=>by unfold C2;rw[aj,tO (l:=l)];simp
def abb (l:List Oper) (k:Nat) (f:Nat->Oper->Bool):Bool:=match l with
 | [] =>true
 | o::l=>f k o&&abb l (k+1) f
theorem Pd {f:Nat->Oper->Bool} : ∀ {l:List Oper} {k:Nat},abb l k f=true-> ∀i o,l[i]? =some o->f (k+i) o=true
 | [],_,_,i,o,h=>by grind
 | x::l,k,h,i,o,hi=>by
  unfold abb at h;rw[aj] at h;cases i with
  | zero=>grind
  | succ i =>
   have:=Pd h.2 i o (by grind)
   grind
def Skel.okOp (p:Skel) (n:Nat) (kn:Nat->Bool) (ops:List Oper) (all:List Nat) (i:Nat) (o:Oper) (b:List Nat) (r:OpK):Bool:=
 noSelect o&&(dstOk n o.dst&&(C2 (edgesOf o) (fun j=>Nat.blt j i) &&
 (C2 b (fun j=>Nat.blt j i&&(xi j (edgesOf o) || U0 (edgesOf o) fun k=>xi j (p.before k))) &&
 (C2 (slotsOf ops.toArray o) (fun t=>match srcOf t r.src with
  | none=>false
  | some none=>kn t&&C2 all fun j=> !isDst ops j t || (Nat.beq j i || xi i (p.before j))
  | some (some j)=>isDst ops j t&&(xi j b&&C2 all fun k=> !isDst ops k t || (Nat.beq k j || (Nat.beq k i || (xi k (p.before j) || xi i (p.before k)))))) &&
 ((match o.guard with
  | none=>true
  | some (g,_)=>match ops[g]? with
   | none=>false
   | some og=>match og.dst with
    | none=>false
    | some t=>match srcOf t r.src with
     | some (some j)=>Nat.beq j g
     | _=>false) &&
 (C2 (r.reads++r.needs) (fun x=>Nat.blt x p.nres&&(xi x p.base || U0 b fun j=>xi x (p.op j).gives)) &&
 (C2 r.reads (fun x=>C2 all fun k=>Nat.beq k i || (!xi x (p.op k).needs || xi i (p.before k))) &&
 (C2 r.needs (fun x=>C2 all fun k=>Nat.beq k i || !xi x (p.op k).needs) &&
 (C2 r.gives (fun x=>Nat.blt x p.nres&&(!xi x p.base&&(!xi x (r.reads++r.needs)&&C2 all (fun k=>Nat.beq k i || !xi x (p.op k).gives)))) &&
 (BS (r.reads++r.needs)&&BS (r.reads++r.gives)))))))))))
def Skel.ok (p:Skel) (n:Nat) (kn:Nat->Bool) (ops:List Oper):Bool:=
 abb ops 0 fun i o=>p.okOp n kn ops (List.range ops.length) i o (p.before i) (p.op i)
def Skel.okB (p:Skel) (kn:Nat->Bool) (ops:List Oper):Bool:=
 let all:=List.range ops.length
 BS p.base&&(BS p.left&&(C2 p.left (fun x=>(xi x p.base || U0 all fun j=>xi x (p.op j).gives)&&C2 all fun j=> !xi x (p.op j).needs) &&
 (C2 (p.base++all.flatMap fun j=>(p.op j).gives) (fun x=>xi x p.left || U0 all fun j=>xi x (p.op j).needs) &&
 p.fin.all fun (t,s)=>match s with
  | none=>kn t&&C2 all fun j=> !isDst ops j t
  | some j=>Nat.blt j ops.length&&(isDst ops j t&&C2 all fun k=> !isDst ops k t || (Nat.beq k j || xi k (p.before j))))))
def Skel.out (p:Skel) (L:List (Nat×Value)) (vs:Nat->Value):List (Nat×Value):=
 p.fin.map fun (t,s)=>(t,match s with | some j=>vs j | none=>(L.lookup t).getD undef)
structure Inv (p:Skel) (q:Sm) (C:List Ch) (I:Hp) (w0:World) (n:Nat) (L:List (Nat×Value)) (ops:Array Oper) (S:Nat->Bool) (vs:Nat->Value) (a:Act) (w:World):Prop where
 closed: ∀i,S i=true-> ∀j,j∈p.before i->S j=true
 lt: ∀i,S i=true->i<ops.size
 defers:a.defers= []
 size:a.tmps.size=n
 old: ∀t v,L.lookup t=some v->(∀j,S j=true->(ops[j]?).bind (·.dst)≠some t)->a.tmps.getD t undef=v
 new: ∀j t,S j=true->(ops[j]?).bind (·.dst)=some t->(∀k,S k=true->(ops[k]?).bind (·.dst)=some t->k=j\/k∈p.before j)->a.tmps.getD t undef=vs j
 facts: ∀i,S i=true->q.fact i vs
 st: ∃l:List Nat,l.Nodup/\(∀x,x∈l↔(x∈p.base\/ ∃j,S j=true/\x∈(p.op j).gives)/\ ¬ ∃j,S j=true/\x∈(p.op j).needs)/\St I w0 w (l.map (q.chunk · vs)++C)
structure Skel.Good (p:Skel) (n:Nat) (L:List (Nat×Value)) (ops:Array Oper) (i:Nat) (o:Oper):Prop where
 sel:noSelect o=true
 dst:dstOk n o.dst=true
 edges: ∀j,j∈edgesOf o->j<i
 bef: ∀j,j∈p.before i->j<i/\(j∈edgesOf o\/ ∃k,k∈edgesOf o/\j∈p.before k)
 slots: ∀t,t∈slotsOf ops o->(Skel.srcOf t (p.op i).src=some none/\(L.lookup t).isSome=true/\ ∀j,j<ops.size->(ops[j]?).bind (·.dst)=some t->j=i\/i∈p.before j) \/
  ∃j,Skel.srcOf t (p.op i).src=some (some j)/\(ops[j]?).bind (·.dst)=some t/\j∈p.before i/\ ∀k,k<ops.size->(ops[k]?).bind (·.dst)=some t->k=j\/k=i\/k∈p.before j\/i∈p.before k
 guard: ∀g want,o.guard=some (g,want)-> ∃t,(ops[g]?).bind (·.dst)=some t/\Skel.srcOf t (p.op i).src=some (some g)
 have_: ∀x,x∈(p.op i).reads++(p.op i).needs->x<p.nres/\(x∈p.base\/ ∃j,j∈p.before i/\x∈(p.op j).gives)
 keep: ∀x,x∈(p.op i).reads-> ∀k,k<ops.size->x∈(p.op k).needs->k=i\/i∈p.before k
 once: ∀x,x∈(p.op i).needs-> ∀k,k<ops.size->x∈(p.op k).needs->k=i
 give: ∀x,x∈(p.op i).gives->x<p.nres/\x∉p.base/\x∉(p.op i).reads++(p.op i).needs/\ ∀k,k<ops.size->x∈(p.op k).gives->k=i
 nd1:((p.op i).reads++(p.op i).needs).Nodup
 nd2:((p.op i).reads++(p.op i).gives).Nodup
theorem YL {a b:Nat} :Nat.beq a b=true↔a=b:=⟨au,fun h=>by simp_all⟩
theorem YM {a b:Nat} :Nat.blt a b=true↔a<b:=by rw[Nat.blt_eq]
theorem Skel.good_of_ok {p:Skel} {n:Nat} {q:Nat->Bool} {L:List (Nat×Value)} {ops:List Oper} (w: ∀t,q t=true->(L.lookup t).isSome=true) (h:p.ok n q ops=true) {i:Nat} {o:Oper} (hi:ops[i]? =some o):p.Good n L ops.toArray i o:=by
 have h:=Pd h i o hi;rw[Nat.zero_add] at h;unfold Skel.okOp at h;simp only[aj,tO,I9,pa,YM,YL,Bool.or_eq_true,Bool.not_eq_true',I8] at h;have ⟨B,s,l,D,u,a,y,G,C,A,c,f⟩:=h;refine ⟨B,s,l,fun j m=>?_,fun t e=>?_,fun g want z=>?_,fun x b=>y x b,fun x b k r v=>?_,fun x b k r v=>?_,fun x b=>?_,tN c,tN f⟩
 ·grind
 ·have:=u t e
  split at this
  ·grind
  ·simp[aj,tO,Bool.or_eq_true,Bool.not_eq_true',YL,pa] at this;grind[xM]
  ·rename_i j F;simp[aj,tO,Bool.or_eq_true,Bool.not_eq_true',YL,pa] at this;grind[xM]
 ·rw[z] at a;simp only at a;split at a
  ·cases a
  ·rename_i E d;split at a
   ·cases a
   ·rename_i t e;split at a
    ·rename_i j m;refine ⟨t,by rw[List.getElem?_toArray,d];exact e,?_⟩;rw[<-au a];exact m
    ·cases a
 ·grind
 ·grind
 grind
section
variable {p:Skel} {q:Sm} {kn:Nat->Bool} {C:List Ch} {P:Program} {I:Hp} {w0:World} {n:Nat} {L:List (Nat×Value)} {ops:List Oper} {S:Nat->Bool} {vs:Nat->Value} {a:Act} {w:World} {i:Nat} {o:Oper}
theorem Inv.step (hkn: ∀t,kn t=true->(L.lookup t).isSome=true) (hl:Loc p q ops.length) (W:p.ok n kn ops=true) (hg:p.goal q P I w0 L i o) (hi:ops[i]? =some o) (h:Inv p q C I w0 n L ops.toArray S vs a w) (hn:S i=false) (A: ∀j,j∈p.before i->S j=true) {K:Act->World->Prop} {Q:Exit->Act->World->Prop}
  (hK: ∀vs a w,Inv p q C I w0 n L ops.toArray (fun j=>S j || j==i) vs a w->K a w):wpOp P ops.toArray Q i K a w:=by
 have G:=Skel.good_of_ok hkn W hi;have him:i<ops.toArray.size:=by have:=(List.getElem?_eq_some_iff.1 hi).1;simpa using this
 have hcl: ∀j,S j=true->i∉p.before j:=fun j c hb=>by rw[h.closed j c i hb] at hn;cases hn
 have slot: ∀t,t∈slotsOf ops.toArray o->a.tmps.getD t undef=p.ev L i vs (.tmp t):=by
  intro t Z;rcases G.slots t Z with ⟨z,s,e3⟩ | ⟨j,z,s,e3,e4⟩
  ·have ⟨v,hv⟩:=Option.isSome_iff_exists.1 s;simp only[Skel.ev,z,hv,Option.getD_some];refine h.old t v hv fun j c B=>?_;grind
  ·simp only[Skel.ev,z];refine h.new j t (A j e3) s fun k m B=>?_;grind
 have hev: ∀x,x∈o.op.operands->a.eval x=p.ev L i vs x:=by
  intro x f;cases x with
  | tmp t =>
   refine slot t ?_;refine bj _ (List.mem_filterMap.2 ⟨.tmp t,by grind,rfl⟩)
  | _=>rfl
 have E:=fun j c=>h.facts j (A j c);have goal:=hg vs E;have main: ∀v X,q.fact i (upd vs i v)->(∃l:List Nat,l.Nodup/\(∀x,x∈l↔(x∈p.base\/ ∃j,(S j || j==i)=true/\x∈(p.op j).gives)/\ ¬ ∃j,(S j || j==i)=true/\x∈(p.op j).needs)/\St I w0 X (l.map (q.chunk · (upd vs i v))++C))->K (a.put o.dst v) X:=by
  intro v X hf hst;refine hK (upd vs i v) _ _ ⟨?_,?_,?_,?_,?_,?_,?_,hst⟩
  ·intro j c k m;simp[Bool.or_eq_true,beq_iff_eq] at c⊢;rcases c with c | rfl
   ·exact .inl (h.closed j c k m)
   grind
  ·intro j c;simp[Bool.or_eq_true,beq_iff_eq] at c;rcases c with c | rfl
   ·exact h.lt j c
   omega
  ·cases B:o.dst <;> simp[Act.put,h.defers]
  ·cases B:o.dst <;> simp[Act.put,h.size]
  ·intro t u hu c;have hne:o.dst≠some t:=by
    grind
   have h0:=h.old t u hu fun j hS=>c j (by grind);cases B:o.dst with
   | none=>exact h0
   | some d =>
    show (a.tmps.setIfInBounds d v).getD t undef=u;simp_all
  ·intro j t c B m;simp[Bool.or_eq_true,beq_iff_eq] at c;by_cases M:o.dst=some t
   ·have H:j=i:=by
     rcases c with c | rfl
     ·grind
     ·rfl
    subst H;have N:=G.dst;rw[M] at N;have N:t<n:=by simpa [dstOk] using N
    rw[M,iF];exact D.xk (by rw[h.size];omega)
   ·have H:j≠i:=by
     rintro rfl;rw[show (ops.toArray[j]?)=some o from by grind] at B;exact M B
    have F:S j=true:=by rcases c with c | e;exact c;exact absurd e H
    rw[JU H];have h0:=h.new j t F B fun k hk'=>m k (by grind);cases B:o.dst with
    | none=>exact h0
    | some d =>
     show (a.tmps.setIfInBounds d v).getD t undef=_;simp_all
  ·intro j c;simp[Bool.or_eq_true,beq_iff_eq] at c;by_cases e:j=i
   ·grind
   ·have F:S j=true:=by rcases c with c | J;exact c;exact absurd J e
    refine hl.fact j (by simpa using h.lt j F) vs _ (fun k m=>JU fun J=>?_) (h.facts j F);grind
 have ⟨l,l1,V,l3⟩:=h.st;have R: ∀v x,x∈l->q.chunk x (upd vs i v)=q.chunk x vs:=by
  intro v x f;rcases ((V x).1 f).1 with hb | ⟨j,c,hxj⟩
  ·exact hl.chB x hb vs _
  ·refine hl.chG j (by simpa using h.lt j c) x hxj vs _ fun k m=>JU fun J=>?_;grind
 unfold wpOp;rw[show (ops.toArray[i]?)=some o from by grind];simp only;have hwant:Region.wanted o (yielded ops.toArray a.tmps)=true↔LN o vs=some true:=by
  unfold Region.wanted LN;cases hgd:o.guard with
  | none=>simp
  | some q =>
   have ⟨g,want⟩:=q;have ⟨t,z,s⟩:=G.guard g want hgd;have Z:t∈slotsOf ops.toArray o:=by
    unfold slotsOf Oper.looksAt;rw[hgd];simp only;rw[z];simp
   have hv:=slot t Z;simp only[Skel.ev,s] at hv;have Y:yielded ops.toArray a.tmps g=match vs g with | .bool b=>some b | _=>none:=by
    unfold yielded;rw[z];simp[aa];rw[Array.getD_eq_getD_getElem?] at hv;cases Z:a.tmps[t]? with
    | none =>
     rw[Z] at hv;rw[<-hv];rfl
    | some u =>
     grind
   grind
 cases hw:LN o vs with
 | none=>grind
 | some b =>
  cases b with
  | false =>
   rw[hw] at goal;rw[if_neg (by grind)];refine main undef w goal.1 ⟨l,l1,fun x=>?_,?_⟩
   ·grind
   grind[List.map_congr_left,undef]
  | true =>
   rw[hw] at goal;rw[if_pos (by grind)];refine .inl ?_;have hin: ∀x,x∈(p.op i).reads++(p.op i).needs->x∈l:=by
    intro x f;rw[V];refine ⟨(G.have_ x f).2.imp id fun ⟨j,c,e⟩=>⟨j,A j c,e⟩,fun ⟨k,m,e⟩=>?_⟩;rcases aG f with f | f
    ·rcases G.keep x f k (h.lt k m) e with rfl | J
     ·grind
     grind
    ·have:=G.once x f k (h.lt k m) e
     grind
   let r:=l.filter fun x=> !((p.op i).reads++(p.op i).needs).contains x;have U: ∀x,x∈r↔x∈l/\x∉(p.op i).reads++(p.op i).needs:=by
    simp[r,List.mem_filter]
   have hrn:r.Nodup:=l1.filter _;have T:l.Perm (((p.op i).reads++(p.op i).needs)++r):=by
    refine (List.perm_ext_iff_of_nodup l1 (List.nodup_append.2 ⟨G.nd1,hrn,fun x f y Y e=>?_⟩)).2 fun x=>?_
    ·subst e;exact ((U x).1 Y).2 f
    ·rw[List.mem_append,U];constructor
     ·intro f;by_cases e:x∈(p.op i).reads++(p.op i).needs
      ·exact .inl e
      ·exact .inr ⟨f,e⟩
     ·rintro (e | e)
      ·exact hin x e
      ·exact e.1
   have hs:=l3.perm ((T.map (q.chunk · vs)).append_right C);rw[aZ,aC] at hs;have O:=rL G.sel hev;have hu:=goal w _ hs;rw[<-O] at hu;refine hu.wp fun v X hv=>main v X hv.1 ⟨((p.op i).reads++(p.op i).gives)++r,?_,fun x=>?_,?_⟩
   ·refine List.nodup_append.2 ⟨G.nd2,hrn,fun x f y Y e=>?_⟩;subst e;rcases aG f with f | f
    ·exact ((U x).1 Y).2 (bj _ f)
    ·obtain ⟨-,g1,g2,g3⟩:=G.give x f;rcases ((V x).1 ((U x).1 Y).1).1 with e | ⟨j,c,e⟩
     ·exact g1 e
     ·have:=g3 j (h.lt j c) e
      subst this;rw[hn] at c;cases c
   ·have hgx:x∈(p.op i).gives->x∉p.base/\(∀k,S k=true->x∉(p.op k).needs)/\x∉(p.op i).needs:=by
     intro f;obtain ⟨-,g1,g2,g3⟩:=G.give x f;refine ⟨g1,fun k m e=>?_,fun e=>g2 (bp _ e)⟩;have hkm:k<ops.length:=by simpa using h.lt k m
     rcases ((Skel.good_of_ok (L:=L) hkn W (List.getElem?_eq_getElem hkm)).have_ x (bp _ e)).2 with J | ⟨j,c,J⟩
     ·exact g1 J
     ·have:=g3 j (h.lt j (h.closed k m j c)) J
      subst this;exact hcl k m c
    rw[List.mem_append,U];constructor
    ·rintro (f | ⟨f,hx2⟩)
     ·rcases aG f with f | f
      ·have ⟨z,s⟩:=(V x).1 (hin x (bj _ f));refine ⟨z.imp id fun ⟨j,c,e⟩=>⟨j,by simp[c],e⟩,fun ⟨j,c,e⟩=>?_⟩;simp[Bool.or_eq_true,beq_iff_eq] at c;rcases c with c | rfl
       ·exact s ⟨j,c,e⟩
       ·exact (List.nodup_append.1 G.nd1).2.2 x f x e rfl
      ·have ⟨g1,g2,g3⟩:=hgx f;refine ⟨.inr ⟨i,by simp,f⟩,fun ⟨j,c,e⟩=>?_⟩;simp[Bool.or_eq_true,beq_iff_eq] at c;rcases c with c | rfl
       ·exact g2 j c e
       ·exact g3 e
     ·have ⟨z,s⟩:=(V x).1 f;refine ⟨z.imp id fun ⟨j,c,e⟩=>⟨j,by simp[c],e⟩,fun ⟨j,c,e⟩=>?_⟩;simp[Bool.or_eq_true,beq_iff_eq] at c;rcases c with c | rfl
      ·exact s ⟨j,c,e⟩
      ·exact hx2 (bp _ e)
    ·rintro ⟨z,s⟩;have e2': ¬ ∃j,S j=true/\x∈(p.op j).needs:=fun ⟨j,c,e⟩=>s ⟨j,by simp[c],e⟩;have e2i:=fun e=>s ⟨i,by simp,e⟩;by_cases hxg:x∈(p.op i).gives
     ·exact .inl (bp _ hxg)
     ·have hxl:x∈l:=by
       rw[V];refine ⟨z.imp id fun ⟨j,c,e⟩=>?_,e2'⟩;simp[Bool.or_eq_true,beq_iff_eq] at c;rcases c with c | rfl
       ·exact ⟨j,c,e⟩
       ·exact absurd e hxg
      by_cases e:x∈(p.op i).reads++(p.op i).needs
      ·rcases aG e with e | e
       ·exact .inl (bj _ e)
       ·exact absurd e e2i
      ·exact .inr ⟨hxl,e⟩
   ·rw[aZ,aC]
    have:=List.map_congr_left fun x f=>R v x ((U x).1 f).1
    rw[this];exact hv.2
theorem Xo (g: ∀t,kn t=true->(L.lookup t).isSome=true) (s:Loc p q ops.length) (d:p.ok n kn ops=true) (K: ∀i o,ops[i]? =some o->p.goal q P I w0 L i o) {Q:Exit->Act->World->Prop}
  (M: ∀vs a w,Inv p q C I w0 n L ops.toArray (fun j=>decide (j<ops.length)) vs a w->Q .normal a w): ∀(fuel:Nat) (listed:Array Bool) (vs:Nat->Value) (a:Act) (w:World),listed.size=ops.length->D.leftOf ops.length listed<=fuel->
   Inv p q C I w0 n L ops.toArray (fun j=>listed.getD j false) vs a w->wpAny P .any ops.toArray Q fuel listed a w:=by
 have done: ∀(listed:Array Bool) (vs:Nat->Value) (a:Act) (w:World),(∀i,i<ops.length->listed.getD i false=true)->Inv p q C I w0 n L ops.toArray (fun j=>listed.getD j false) vs a w->Q .normal a w:=by
  intro listed vs a w b h;refine M vs a w ?_;have e:(fun j=>listed.getD j false)=fun j=>decide (j<ops.length):=by
   funext j;by_cases m:j<ops.length
   ·grind
   ·cases s:listed.getD j false with
    | false=>grind
    | true=>exact absurd (by simpa using h.lt j s) m
  rw[<-e];exact h
 have nil: ∀(listed:Array Bool) (vs:Nat->Value) (a:Act) (w:World),listed.size=ops.length->Inv p q C I w0 n L ops.toArray (fun j=>listed.getD j false) vs a w->Region.ready .any ops.toArray listed= [] ->Q .normal a w:=by
  intro listed vs a w c h z;refine done listed vs a w (fun i=>?_) h;induction i using Nat.strongRecOn with
  | _ i B =>
   intro x;cases s:listed.getD i false with
   | true=>rfl
   | false =>
    have:i∈Region.ready .any ops.toArray listed:=by
     refine D.mem_ready.2 ⟨by omega,?_,fun o O j m=>?_⟩
     ·grind
     ·have F:=(Skel.good_of_ok (L:=L) g d (show ops[i]? =some o by grind)).edges j m;grind
    grind
 intro fuel;induction fuel with
 | zero =>
  intro listed vs a w c A h;have b: ∀i,i<ops.length->listed.getD i false=true:=by
   intro i x;cases s:listed.getD i false with
   | true=>rfl
   | false =>
    have R:=List.eq_nil_of_length_eq_zero (Nat.le_zero.1 A);simp_all
  refine ⟨?_,done listed vs a w b h⟩;cases z:Region.ready .any ops.toArray listed with
  | nil=>rfl
  | cons i l =>
   have:i∈Region.ready .any ops.toArray listed:=by rw[z];simp
   grind[D.mem_ready,Array.getD_eq_getD_getElem?,Array.getElem?_eq_getElem]
 | succ fuel B =>
  intro listed vs a w c A h;refine ⟨nil listed vs a w c h,fun i x=>?_⟩;have ⟨N,y,J⟩:=D.mem_ready.1 x;have r:i<ops.length:=by simpa using N
  have f:=List.getElem?_eq_getElem r;have G:listed.getD i false=false:=by
   rw[Array.getD_eq_getD_getElem?,Array.getElem?_eq_getElem (by omega)] at y⊢;simpa using y
  have v:=K i _ f;refine h.step g s d v f G (fun j m=>?_) fun vs a w T=>?_
  ·rcases ((Skel.good_of_ok (L:=L) g d f).bef j m).2 with e | ⟨k,E,e⟩
   ·grind
   ·exact h.closed k (J _ (by grind) k E) j e
  ·refine B _ vs a w (by grind) ?_ ?_
   ·have H:D.leftOf ops.length (listed.setIfInBounds i true)<D.leftOf ops.length listed:=by
     unfold D.leftOf;have u:(List.range ops.length).filter (fun j=> !(listed.setIfInBounds i true).getD j false)=((List.range ops.length).filter (fun j=> !listed.getD j false)).filter (fun j=>j !=i):=by
      rw[List.filter_filter];refine List.filter_congr fun j m=>?_;by_cases e:i=j
      ·simp_all
      ·rw[Array.getD_eq_getD_getElem?,Array.getElem?_setIfInBounds_ne e,<-Array.getD_eq_getD_getElem?];grind
     rw[u];refine List.length_filter_lt_length_iff_exists.2 ⟨i,List.mem_filter.2 ⟨List.mem_range.2 r,by grind⟩,by simp⟩
    omega
   ·have e:(fun j=>(listed.setIfInBounds i true).getD j false)=fun j=>(listed.getD j false || j==i):=by
     funext j;by_cases e:i=j
     ·simp_all
     ·rw[Array.getD_eq_getD_getElem?,Array.getElem?_setIfInBounds_ne e,<-Array.getD_eq_getD_getElem?];grind
    grind
theorem SU {id:Nat} {G:List Ch} {Q:Exit->Act->World->Prop} (p:Skel) (q:Sm) (g: ∀t,kn t=true->(L.lookup t).isSome=true) (R:Loc p q ops.length) (V:P.follows .mixedOrders=true) (F:Agr n a L) (hs:St I w0 w G) (hp:G.Perm (p.base.map (q.chunk · fun _=>undef)++C))
  (z:p.ok n kn ops=true) (E:p.okB kn ops=true) (X: ∀i o,ops[i]? =some o->p.goal q P I w0 L i o)
  (k: ∀vs a w,(∀i,i<ops.length->q.fact i vs)->Agr n a (p.out L vs)->St I w0 w (p.left.map (q.chunk · vs)++C)->Q .normal a w):(Code.region id ops.toArray true).wp P Q a w:=by
 unfold Skel.okB at E;simp only[aj,tO,I9,pa,Bool.or_eq_true,Bool.not_eq_true',I8,List.all_eq_true] at E;have ⟨m,f,O,U,y⟩:=E;have B:=tN m;have A:=tN f;refine wp_region_any V (Xo (C:=C) g R z X (fun vs a w h=>k vs a w (fun i d=>h.facts i (by grind)) ?_ ?_) _ _ (fun _=>undef) a _ (by simp) ?_ ?_)
 ·refine ⟨h.defers,h.size,fun t v hv=>?_⟩;have key: ∀(M:List (Nat×Option Nat)),(∀q∈M,q∈p.fin)->(M.map fun (t,s)=>(t,match s with | some j=>vs j | none=>(L.lookup t).getD undef)).lookup t=some v->a.tmps.getD t undef=v:=by
   intro M;induction M with
   | nil=>grind
   | cons q M ih =>
    intro W hv;have ⟨Z,K⟩:=q;by_cases e:t=Z
    ·subst e;simp[BEq.rfl,Option.some.injEq] at hv;have b:=y (t,K) (W _ (by simp));cases K with
     | none =>
      simp only[aj,tO,Bool.not_eq_true'] at b hv;have ⟨u,J⟩:=Option.isSome_iff_exists.1 (g _ b.1);rw[J] at hv;subst hv;refine h.old t u J fun j c H=>?_;have c:j<ops.length:=by simpa using c
      have:=b.2 j (List.mem_range.2 c)
      grind[xM]
     | some j =>
      simp only[aj,tO,YM,YL,Bool.or_eq_true,Bool.not_eq_true',pa] at b hv;rw[<-hv];refine h.new j t (by grind) (xM.1 b.2.1) fun k r H=>?_;have r:k<ops.length:=by simpa using r
      rcases b.2.2 k (List.mem_range.2 r) with e | e
      ·rw[xM.2 H] at e;cases e
      ·exact e
    grind
  exact key _ (fun _ h=>h) hv
 ·have ⟨l,N,l2,T⟩:=h.st;refine T.perm (List.Perm.append_right C (List.Perm.map _ ((List.perm_ext_iff_of_nodup N A).2 fun x=>?_)));grind
 ·grind[D.leftOf,Nat.le_trans,List.length_filter_le]
 ·have b: ∀j,(Array.replicate ops.toArray.size false).getD j false=false:=by
   intro j;rw[Array.getD_eq_getD_getElem?,Array.getElem?_replicate];split <;> rfl
  refine ⟨fun i d=>?_,fun i d=>?_,F.1,F.2.1,fun t v hv _=>F.2.2 t v hv,fun j t c=>?_,fun i d=>?_,p.base,B,fun x=>?_,?_⟩
  ·rw[b] at d;cases d
  ·rw[b] at d;cases d
  ·rw[b] at c;cases c
  ·rw[b] at d;cases d
  ·constructor
   ·intro Y;refine ⟨.inl Y,fun ⟨j,c,_⟩=>?_⟩;rw[b] at c;cases c
   ·rintro ⟨h1 | ⟨j,c,_⟩,_⟩
    ·exact h1
    ·rw[b] at c;cases c
  ·exact (hs.drawn (w':= { w with drawn:=w.drawn+1 }) rfl rfl rfl rfl).perm hp
end
end R
namespace R
open Go.RowKit
open D
def LV.ids:LV->List Nat
 | .val _=>[]
 | .nb _=>[]
 | .rd h _ _=>[h.id]
 | .own h=>[h.id]
 | .ptr h _=>[h.id]
 | .fn h _ _ _=>[h.id]
 | .fz h _ _ _ _=>[h.id]
 | .fzf h _ _ _ _=>[h.id]
 | .rdn h _ _ _=>[h.id]
def Pe:List LV->List Nat
 | [] =>[]
 | x::l=>x.ids++Pe l
def abc:List (Bool×List LV)->List Nat
 | [] =>[]
 | y::l=>Pe y.2++abc l
def AV.ids:AV->List Nat
 | .one x=>x.ids
 | .agg xs=>Pe xs
 | .tup ys=>abc ys
 | .elr h _ _ _ _ _ _=>[h.id]
 | .elo h _ _ _ _ _ _ _=>[h.id]
 | .sub h _ _ _ _ _=>[h.id]
 | .pre h _ _ _ _ _=>[h.id]
 | .vw u h _ _ _ _=>[u.id,h.id]
 | .xv _ u h _ _ _ _=>[u.id,h.id]
 | .capv h _=>[h.id]
 | .any h=>[h.id]
 | .und=>[]
def Chk.ids:Chk->List Nat
 | .own _ _=>[]
 | .blk _ cs=>Pe cs
 | .hole _ _ _ _ _ _ _ _ _ lv=>lv.ids
 | .box _ _ _=>[]
 | .map _ _ _ _ _=>[]
 | .clo _ first capt=>abc first++Pe capt
def DW (h:Hdr) (c:Chk):List Nat:=h.id::c.ids
theorem rT {x:LV} {i:Nat} : ∀ {l:List LV},x∈l->i∈x.ids->i∈Pe l
 | y::l,h,hi=>by
  rcases aE h with rfl | h
  ·exact bj _ hi
  ·exact bp _ (rT h hi)
theorem A4 {y:Bool×List LV} {i:Nat} : ∀ {l:List (Bool×List LV)},y∈l->i∈Pe y.2->i∈abc l
 | z::l,h,hi=>by
  rcases aE h with rfl | h
  ·exact bj _ hi
  ·exact bp _ (A4 h hi)
section
variable {P:Program} {w0:World} {J:Hp} {θ θ':Th} {n m:Nat} {chs chs':List Ent}
theorem gK {h:Hdr} (k:θ' h.id=θ h.id):hv θ' h=hv θ h:=by unfold hv;rw[k]
theorem LV.v_loc {x:LV} (h: ∀i∈x.ids,θ' i=θ i):x.v θ'=x.v θ:=by
 cases x with
 | val _=>rfl
 | nb _=>rfl
 | rd k t d=>exact gK (h _ (by simp[LV.ids]))
 | own k=>exact gK (h _ (by simp[LV.ids]))
 | ptr k off=>show Value.pointer (some ⟨bk (hv θ' k),off,none⟩)=_;rw[gK (h _ (by simp[LV.ids]))];rfl
 | fn k ps rs e=>exact gK (h _ (by simp[LV.ids]))
 | fz k T t d off=>show Value.pointer (some ⟨bk (hv θ' k),off,none⟩)=_;rw[gK (h _ (by simp[LV.ids]))];rfl
 | fzf k T ps rs e=>show Value.pointer (some ⟨bk (hv θ' k),0,none⟩)=_;rw[gK (h _ (by simp[LV.ids]))];rfl
 | rdn k b t d=>exact gK (h _ (by simp[LV.ids]))
theorem LV.ok_loc {x:LV} (h: ∀i∈x.ids,θ' i=θ i) (k:x.ok P w0 J θ n):x.ok P w0 J θ' n:=by
 cases x with
 | val _=>exact k
 | nb _=>trivial
 | rd g t d=>exact ⟨k.1,by rw[gK (h _ (by simp[LV.ids]))];exact k.2⟩
 | own g=>exact ⟨k.1,by rw[gK (h _ (by simp[LV.ids]))];exact k.2⟩
 | ptr g off=>exact k
 | fn g ps rs e=>exact ⟨k.1,by rw[gK (h _ (by simp[LV.ids]))];exact k.2⟩
 | fz g T t d off=>exact ⟨k.1,by rw[gK (h _ (by simp[LV.ids]))];exact k.2⟩
 | fzf g T ps rs e=>exact ⟨k.1,by rw[gK (h _ (by simp[LV.ids]))];exact k.2⟩
 | rdn g b t d=>exact ⟨k.1,by rw[gK (h _ (by simp[LV.ids]))];exact k.2⟩
theorem Fk {xs:List LV} (h: ∀i∈Pe xs,θ' i=θ i):xs.map (·.v θ')=xs.map (·.v θ):=List.map_congr_left fun x a=>LV.v_loc fun i b=>h i (rT a b)
theorem Ht {y:Bool×List LV} (a: ∀i∈Pe y.2,θ' i=θ i):l9 θ' y=l9 θ y:=by
 unfold l9;rw[Fk a];split
 ·rfl
 ·cases b:y.2 with
  | nil=>rfl
  | cons x l=>exact LV.v_loc fun i c=>a i (by rw[b];exact bj _ c)
theorem AV.v_loc {x:AV} (h: ∀i∈x.ids,θ' i=θ i):x.v θ'=x.v θ:=by
 cases x with
 | one x=>exact LV.v_loc h
 | agg xs=>show Value.agg _=Value.agg _;rw[Fk h]
 | tup ys =>
  show Value.tuple _=Value.tuple _;congr 2;refine List.map_congr_left fun y b=>?_;exact Ht fun i a=>h i (A4 b a)
 | elr k E t xs x i off=>show pt (hv θ' k) _=_;rw[gK (h _ (by simp[AV.ids]))];rfl
 | elo k ver E t xs x i off=>show pt (hv θ' k) _=_;rw[gK (h _ (by simp[AV.ids]))];rfl
 | sub k ver E t xs l=>show sI (hv θ' k) _ _ _=_;rw[gK (h _ (by simp[AV.ids]))];rfl
 | pre k ver E t xs l=>show sI (hv θ' k) _ _ _=_;rw[gK (h _ (by simp[AV.ids]))];rfl
 | vw u k kk N l m=>exact gK (h _ (by simp[AV.ids]))
 | xv top u k kk N l m=>exact gK (h _ (by simp[AV.ids]))
 | capv k c=>rfl
 | any k=>exact gK (h _ (by simp[AV.ids]))
 | und=>rfl
theorem AV.ok_loc {x:AV} (h: ∀i∈x.ids,θ' i=θ i) (k:x.ok P w0 J θ n chs):x.ok P w0 J θ' n chs:=by
 cases x with
 | one x=>exact LV.ok_loc h k
 | agg xs=>exact fun x a=>LV.ok_loc (fun i b=>h i (rT a b)) (k x a)
 | tup ys=>exact fun y d x a=>LV.ok_loc (fun i b=>h i (A4 d (rT a b))) (k y d x a)
 | elr g E t xs x i off=>exact ⟨k.1,k.2.1,by rw[gK (h _ (by simp[AV.ids]))];exact k.2.2⟩
 | elo g ver E t xs x i off=>exact k
 | sub g ver E t xs l=>exact k
 | pre g ver E t xs l=>exact k
 | vw u g kk N l m=>exact ⟨k.1,k.2.1,by rw[gK (h _ (by simp[AV.ids])),gK (h _ (by simp[AV.ids]))];exact k.2.2⟩
 | xv top u g kk N l m=>exact ⟨k.1,k.2.1,by rw[gK (h _ (by simp[AV.ids])),gK (h _ (by simp[AV.ids]))];exact k.2.2⟩
 | capv g c=>exact ⟨k.1,by rw[gK (h _ (by simp[AV.ids]))];exact k.2⟩
 | any g=>exact k
 | und=>trivial
theorem SV {e:Ent} (h: ∀i∈DW e.1 e.2.2,θ' i=θ i):toCh P θ' e=toCh P θ e:=by
 obtain ⟨k,g,c⟩:=e;have a:hv θ' k=hv θ k:=gK (h _ (by simp[DW]));cases c with
 | own t d=>show Ch.own _ [hv θ' k] d=_;rw[a];rfl
 | blk T cells=>show Ch.blk (bk (hv θ' k)) (cells.map (·.v θ')) T=_;rw[a,Fk fun i b=>h i (bF _ b)];rfl
 | hole over t d u y f i kk off lv=>show Ch.gap _ [hv θ' k] _ f (ptB (hv θ' k)) (ptO (hv θ' k)+(i.toNat*kk+off)) (lv.v θ')=_;rw[a,LV.v_loc fun i b=>h i (bF _ b)];rfl
 | box T t d=>show Ch.box (bk (hv θ' k)) T _ d=_;rw[a];rfl
 | map K E kk e m=>show @Ch.mp P K E kk.den e.den kk.dec kk.lit kk.ok e.lit e.z (hv θ' k) m=_;rw[a];rfl
 | clo _ _ _=>rfl
theorem Xp {e:Ent} (h: ∀i∈DW e.1 e.2.2,θ' i=θ i) (k:okE P w0 J θ n chs e):okE P w0 J θ' n chs e:=by
 obtain ⟨g,r,c⟩:=e;cases c with
 | own t d=>exact k
 | blk T cells=>exact ⟨k.1,k.2.1,fun x b=>LV.ok_loc (fun i a=>h i (bF _ (rT b a))) (k.2.2 x b)⟩
 | hole over t d u y f i kk off lv=>exact ⟨k.1,k.2.1,LV.ok_loc (fun i a=>h i (bF _ a)) k.2.2.1,k.2.2.2⟩
 | box T t d=>exact k
 | map K E kk e m=>exact k
 | clo f first capt =>
  obtain ⟨w,p,s,q,v⟩:=k;have o: ∀y∈first,∀i∈Pe y.2,θ' i=θ i:=fun y j i a=>h i (bF _ (bj _ (A4 j a)))
  have l: ∀i∈Pe capt,θ' i=θ i:=fun i a=>h i (bF _ (bp _ a));refine ⟨w,p,fun y j x b=>LV.ok_loc (fun i a=>o y j i (rT b a)) (s y j x b),fun x b=>LV.ok_loc (fun i a=>l i (rT b a)) (q x b),?_⟩;show hv θ' g=_;rw[gK (h _ (by simp[DW])),Fk l,List.map_congr_left fun y j=>Ht (o y j)];exact v
def AV.elos:AV->List (Hdr×Nat)
 | .elo h ver _ _ _ _ _ _=>[(h,ver)]
 | .sub h ver _ _ _ _=>[(h,ver)]
 | .pre h ver _ _ _ _=>[(h,ver)]
 | _=>[]
def Chk.elos (ver:Nat):Chk->List (Hdr×Nat)
 | .hole _ _ _ _ _ _ _ _ _ (.own l)=>[(l,ver)]
 | _=>[]
theorem LV.ok_le {x:LV} (a:n<=m) (h:x.ok P w0 J θ n):x.ok P w0 J θ m:=LV.ok_same Same.rfl' a h Hp.le.rfl
where Same.rfl' {n:Nat} {θ:Th} :Same n θ θ:=fun i hi=>Eq.refl _
theorem AV.ok_move {x:AV} (a:n<=m) (d: ∀h ver c,(h,ver)∈x.elos->Mem chs n h ver c-> ∀e∈chs',∀c',Says e h ver c'->c'=c) (k:x.ok P w0 J θ n chs):x.ok P w0 J θ m chs':=by
 cases x with
 | one x=>exact LV.ok_le a k
 | agg xs=>exact fun x b=>LV.ok_le a (k x b)
 | tup ys=>exact fun y f x b=>LV.ok_le a (k y f x b)
 | elr g E t xs x i off=>exact ⟨aJ k.1 a,k.2⟩
 | elo g ver E t xs x i off=>exact ⟨aJ k.1 a,k.2.1,aJ k.2.2.1 a,d _ _ _ (by simp[AV.elos]) k.2.2⟩
 | sub g ver E t xs l=>exact ⟨aJ k.1 a,k.2.1,aJ k.2.2.1 a,d _ _ _ (by simp[AV.elos]) k.2.2⟩
 | pre g ver E t xs l=>exact ⟨aJ k.1 a,k.2.1,aJ k.2.2.1 a,d _ _ _ (by simp[AV.elos]) k.2.2⟩
 | vw u g kk N l m=>exact ⟨aJ k.1 a,aJ k.2.1 a,k.2.2⟩
 | xv top u g kk N l m=>exact ⟨aJ k.1 a,aJ k.2.1 a,k.2.2⟩
 | capv g c=>exact ⟨aJ k.1 a,k.2⟩
 | any g=>exact aJ k a
 | und=>trivial
theorem KN {e:Ent} (a:n<=m) (p: ∀h b c,(h,b)∈e.2.2.elos e.2.1->Mem chs n h b c-> ∀e∈chs',∀c',Says e h b c'->c'=c) (k:okE P w0 J θ n chs e):okE P w0 J θ m chs' e:=by
 obtain ⟨g,b,c⟩:=e;cases c with
 | own t d=>exact ⟨aJ k.1 a,aJ k.2.1 a,trivial⟩
 | blk T cells=>exact ⟨aJ k.1 a,aJ k.2.1 a,fun x j=>LV.ok_le a (k.2.2 x j)⟩
 | hole over t d u y f i kk off lv =>
  refine ⟨aJ k.1 a,aJ k.2.1 a,LV.ok_le a k.2.2.1,k.2.2.2.1,k.2.2.2.2.1,fun l o=>?_⟩
  have:=k.2.2.2.2.2 l o
  exact ⟨aJ this.1 a,p _ _ _ (by subst o;simp[Chk.elos]) this⟩
 | box T t d=>exact ⟨aJ k.1 a,aJ k.2.1 a,trivial⟩
 | map K E kk e m=>exact ⟨aJ k.1 a,aJ k.2.1 a,trivial⟩
 | clo f first capt=>exact ⟨aJ k.1 a,aJ k.2.1 a,fun y q x j=>LV.ok_le a (k.2.2.1 y q x j),fun x j=>LV.ok_le a (k.2.2.2.1 x j),k.2.2.2.2⟩
end
structure TR where
 i:Nat
 o:Oper
 b:List Nat
 s:Sg
 r:Res
 run:Bool
def mj (n0:Nat) (x:TR):List Ent:=x.r.gives.map fun g=>(g.1,n0+x.i,g.2)
def BT (n0:Nat) (env:List (Nat×Nat×AV)):List TR->List (Nat×Nat×AV)
 | [] =>env
 | x::l=>NF x.o.dst (n0+x.i) x.r.av (BT n0 env l)
def jC (n0:Nat) (chs:List Ent):List TR->List Ent
 | [] =>chs
 | x::l=>mj n0 x++jC n0 chs l
def sameKey (a b:Ent):Bool:=Nat.beq a.2.1 b.2.1&&Hdr.beq a.1 b.1
def ZF (e:Ent) (l:List TR):Bool:=l.any fun x=>x.r.ns.any fun e'=>sameKey e' e
def inB (n0:Nat) (b:List Nat) (v:Nat):Bool:=Nat.blt v n0 || xi (v - n0) b
def subS (s0:Sg) (l:List TR) (i:Nat) (b:List Nat):Sg:=
 ⟨(BT s0.nxt s0.env l).filter fun e=>inB s0.nxt b e.2.1,(jC s0.nxt s0.chs l).filter fun e=>inB s0.nxt b e.2.1 && !ZF e l,s0.nxt+i⟩
def SW (s0:Sg) (l:List TR):Sg:=subS s0 l l.length (List.range l.length)
def recAt (i:Nat):List TR->Option TR
 | [] =>none
 | x::l=>if Nat.beq x.i i then some x else recAt i l
def abd (t:Nat) (l:List Nat):List Nat:=if xi t l then l else t::l
def Hu:List Nat->List Nat->List Nat
 | [],acc=>acc
 | t::l,acc=>Hu l (abd t acc)
def bOf (l:List TR):List Nat->List Nat->List Nat
 | [],acc=>acc
 | j::js,acc=>bOf l js (Hu (match recAt j l with | some y=>y.b | none=>[]) (abd j acc))
def splitB {Y:Type} (g:Bool) (av:AV) (k:AV->Option Y):Option Y:=match g with
 | false=>k av
 | true=>match av with
  | .one (.val (.bool b))=>if b then k (.one (.val (.bool true))) else k (.one (.val (.bool false)))
  | .one (.nb b)=>if b then k (.one (.val (.bool false))) else k (.one (.val (.bool true)))
  | _=>none
def Pf (ops:List Oper) (i:Nat):Bool:=match ops with
 | [] =>false
 | o::ops=>(match o.guard with | some (g,_)=>Nat.beq g i | none=>false) || Pf ops i
section
variable {Y:Type} (V:Env) (ops:List Oper) (s0:Sg) (k:List TR->Option Y)
def abU (o:Oper) (i:Nat) (l:List TR) (b:List Nat) (s:Sg):Option Y:=
 cg (okO V.n s o) (step V s (fun r=>splitB (Pf ops i) r.av fun av=>k (⟨i,o,b,s,⟨r.rs,r.ns,r.rest,r.gives,av⟩,true⟩::l)) o)
def Xq (o:Oper) (i:Nat) (l:List TR) (b:List Nat) (s:Sg):Option Y:=
 k (⟨i,o,b,s,⟨[],[],s.chs,[],.und⟩,false⟩::l)
def opD (o:Oper) (i:Nat) (l:List TR) (b:List Nat) (s:Sg):Option Y:=match o.guard with
 | none=>abU V ops k o i l b s
 | some (g,want)=>match recAt g l with
  | some y=>match y.r.av with
   | .one (.val (.bool c))=>match c==want with
    | true=>abU V ops k o i l b s
    | false=>Xq k o i l b s
   | .und=>Xq k o i l b s
   | _=>none
  | none=>none
def goD:List Oper->Nat->List TR->Option Y
 | [],_,l=>k l
 | o::os,i,l=>(fun b=>opD V ops (goD os (i+1)) o i l b (subS s0 l i b)) (bOf l (edgesOf o) [])
end
def GdOk (l:List TR) (x:TR):Prop:=match x.o.guard with
 | none=>x.run=true
 | some (g,want)=> ∃y∈l,y.i=g/\((∃c:Bool,y.r.av= .one (.val (.bool c))/\x.run=(c==want))\/(y.r.av= .und/\x.run=false))
structure RecOk (P:Program) (w0:World) (n:Nat) (s0:Sg) (ops:List Oper) (l:List TR) (x:TR):Prop where
 hi:x.i=l.length
 ho:ops[x.i]? =some x.o
 hb:x.b=bOf l (edgesOf x.o) []
 hs:x.s=subS s0 l x.i x.b
 good:x.run=true->Good P w0 x.s x.o x.r/\okO n x.s x.o=true
 skip:x.run=false->x.r=⟨[],[],x.s.chs,[],.und⟩
 gd:GdOk l x
def AllOk (P:Program) (w0:World) (n:Nat) (s0:Sg) (ops:List Oper):List TR->Prop
 | [] =>True
 | x::l=>RecOk P w0 n s0 ops l x/\AllOk P w0 n s0 ops l
section
variable {Y:Type} {V:Env} {P:Program} {w0:World} {ops:List Oper} {s0:Sg} {k:List TR->Option Y} {res:Y}
theorem A5 {i:Nat} {y:TR} : ∀ {l:List TR},recAt i l=some y->y∈l/\y.i=i
 | x::l,h=>by
  unfold recAt at h;split at h
  ·rename_i a;obtain rfl:=ae h;exact ⟨by simp,au a⟩
  ·obtain ⟨c,b⟩:=A5 h;exact ⟨by simp[c],b⟩
theorem uV {s:Sg} {o:Oper} {r:Res} {av:AV} (h:Good P w0 s o r) (hv: ∀θ,av.v θ=r.av.v θ) (b: ∀(J:Hp) (θ:Th) n chs,av.ok P w0 J θ n chs):Good P w0 s o ⟨r.rs,r.ns,r.rest,r.gives,av⟩:=
 ⟨h.perm,h.says,fun J θ c=>OpT.weak (h.op J θ c) (fun v a=>⟨b _ _ _ _,(hv _).trans a.2.1,a.2.2⟩) (fun v _=>rfl)⟩
theorem Pg {g:Bool} {s:Sg} {o:Oper} {r:Res} {f:AV->Option Y} (h:splitB g r.av f=some res) (a:Good P w0 s o r): ∃av,f av=some res/\Good P w0 s o ⟨r.rs,r.ns,r.rest,r.gives,av⟩:=by
 unfold splitB at h;split at h
 ·exact ⟨r.av,h,a⟩
 ·split at h
  ·rename_i b c;cases b with
   | true=>exact ⟨_,h,uV a (fun θ=>by rw[c]) fun _ _ _ _=>Eq.refl true⟩
   | false=>exact ⟨_,h,uV a (fun θ=>by rw[c]) fun _ _ _ _=>Eq.refl true⟩
  ·rename_i b c;cases b with
   | true=>exact ⟨_,h,uV a (fun θ=>by rw[c];rfl) fun _ _ _ _=>Eq.refl true⟩
   | false=>exact ⟨_,h,uV a (fun θ=>by rw[c];rfl) fun _ _ _ _=>Eq.refl true⟩
  ·cases h
theorem Ph (q:TTok P V.tt) (s:FTok P V.ft): ∀ {os:List Oper} {i:Nat} {l:List TR},goD V ops s0 k os i l=some res->i=l.length->ops.drop i=os->AllOk P w0 V.n s0 ops l-> ∃l',k l'=some res/\AllOk P w0 V.n s0 ops l'/\l'.length=ops.length
 | [],i,l,h,hi,hd,ha=>⟨l,h,ha,by
  have C:=List.drop_eq_nil_iff.1 hd
  have: ∀ {l:List TR},AllOk P w0 V.n s0 ops l->l.length<=ops.length:=by
   intro l;induction l with
   | nil=>intro _;exact Nat.zero_le _
   | cons x l ih =>
    rintro ⟨u,A⟩
    have:=(List.getElem?_eq_some_iff.1 u.ho).1
    rw[u.hi] at this;exact this
  have:=this ha
  omega⟩
 | o::os,i,l,h,hi,hd,ha=>by
  have t:ops[i]? =some o:=by
   have:=congrArg (·[0]?) hd
   simpa using this
  have m:ops.drop (i+1)=os:=by
   rw[<-List.drop_drop,hd];rfl
  have h:opD V ops (goD V ops s0 k os (i+1)) o i l (bOf l (edgesOf o) []) (subS s0 l i (bOf l (edgesOf o) []))=some res:=h;have run:(GdOk l ⟨i,o,bOf l (edgesOf o) [],subS s0 l i (bOf l (edgesOf o) []),⟨[],[],[],[],.und⟩,true⟩)->abU V ops (goD V ops s0 k os (i+1)) o i l (bOf l (edgesOf o) []) (subS s0 l i (bOf l (edgesOf o) []))=some res-> ∃l',k l'=some res/\AllOk P w0 V.n s0 ops l'/\l'.length=ops.length:=by
   intro a h;obtain ⟨v,h⟩:=ai h;obtain ⟨r,z,p⟩:=O6 (w0:=w0) q s h;obtain ⟨B,h,p⟩:=Pg z p;exact Ph q s h (by rw[hi];rfl) m ⟨⟨hi,t,rfl,rfl,fun _=>⟨p,v⟩,fun e=>(by cases e),a⟩,ha⟩
  have j:(GdOk l ⟨i,o,bOf l (edgesOf o) [],subS s0 l i (bOf l (edgesOf o) []),⟨[],[],[],[],.und⟩,false⟩)->Xq (goD V ops s0 k os (i+1)) o i l (bOf l (edgesOf o) []) (subS s0 l i (bOf l (edgesOf o) []))=some res-> ∃l',k l'=some res/\AllOk P w0 V.n s0 ops l'/\l'.length=ops.length:=by
   intro a h;exact Ph q s h (by rw[hi];rfl) m ⟨⟨hi,t,rfl,rfl,fun e=>(by cases e),fun _=>rfl,a⟩,ha⟩
  unfold opD at h;split at h
  ·rename_i a;exact run (by unfold GdOk;simp only[a]) h
  ·rename_i g want a;split at h
   ·rename_i y w;obtain ⟨b,f⟩:=A5 w;split at h
    ·rename_i c n;split at h
     ·rename_i d;exact run (by unfold GdOk;simp only[a];exact ⟨y,b,f,.inl ⟨c,n,d.symm⟩⟩) h
     ·rename_i d;exact j (by unfold GdOk;simp only[a];exact ⟨y,b,f,.inl ⟨c,n,d.symm⟩⟩) h
    ·rename_i n;exact j (by unfold GdOk;simp only[a];exact ⟨y,b,f,.inr ⟨n,trivial⟩⟩) h
    ·cases h
   ·cases h
end
def BU (l:List (Nat×Nat×AV)) (t:Nat):Option Nat:=match l with
 | [] =>none
 | (u,k,_)::l=>if Nat.beq u t then some k else BU l t
def numOf (e:Ent):List Ent->Nat
 | [] =>0
 | x::l=>if sameKey x e then 0 else numOf e l+1
def U1 (n0 v:Nat):Option Nat:=if Nat.blt v n0 then none else some (v - n0)
def Hv (n0:Nat) (env:List (Nat×Nat×AV)):List Nat->List (Nat×Option Nat)
 | [] =>[]
 | t::l=>match BU env t with
  | some v=>(t,U1 n0 v)::Hv n0 env l
  | none=>Hv n0 env l
def opK (n0:Nat) (T:List Ent) (ops:Array Oper) (x:TR):OpK:=⟨x.r.rs.map (numOf · T),x.r.ns.map (numOf · T),(mj n0 x).map (numOf · T),Hv n0 x.s.env (slotsOf ops x.o)⟩
def Pi (n0:Nat):List (Nat×Nat×AV)->List Nat->List (Nat×Option Nat)
 | [],_=>[]
 | e::l,seen=>match xi e.1 seen with
  | true=>Pi n0 l seen
  | false=>(e.1,U1 n0 e.2.1)::Pi n0 l (e.1::seen)
def p8 (s0:Sg) (ops:List Oper) (l:List TR) (T:List Ent):Skel:=
 ⟨(l.map (opK s0.nxt T ops.toArray)).reverse,T.length,s0.chs.map (numOf · T),(l.map (·.b)).reverse,Pi s0.nxt (SW s0 l).env [],(SW s0 l).chs.map (numOf · T)⟩
def jI:List Ent->Bool
 | [] =>true
 | e::l=> !(l.any fun x=>sameKey x e)&&jI l
def nK:List Ent->Bool
 | [] =>true
 | e::l=>Da e.1 l&&nK l
def Xr (h:Hdr) (ver:Nat) (e:Ent):Bool:=Hdr.beq e.1 h&&(Nat.beq e.2.1 ver || match e.2.2 with
 | .hole over _ _ _ _ _ _ _ _ _=>Nat.beq over ver
 | _=>false)
def allowed (n0:Nat) (x:TR) (v:Nat):Bool:=Nat.blt v n0 || (Nat.beq (v - n0) x.i || xi (v - n0) x.b)
def U2 (n0:Nat) (x:TR):List (Hdr×Nat):=x.r.av.elos++x.r.gives.flatMap fun g=>g.2.elos (n0+x.i)
def SX (x:TR):List Nat:=x.r.av.ids++x.r.gives.flatMap fun g=>DW g.1 g.2
def BV (n0:Nat) (x:TR):Bool:=C2 (SX x) (allowed n0 x)&&(U2 n0 x).all fun q=>(x.r.chs (n0+x.i)).any (Xr q.1 q.2) || (Nat.beq q.2 (n0+x.i) && !(x.r.gives.any fun g=>Hdr.beq g.1 q.1))
def knS (s0:Sg) (t:Nat):Bool:=(look s0.env t).isSome
def U3 (n:Nat) (s0:Sg) (ops:List Oper) (l:List TR) (T:List Ent):Bool:=nK s0.chs&&(jI T&&(l.all (BV s0.nxt)&&((p8 s0 ops l T).ok n (knS s0) ops&&(p8 s0 ops l T).okB (knS s0) ops)))
section
variable {Y:Type} (V:Env)
def BW (s0:Sg):List Oper->List Hdr
 | [] =>[]
 | o::os=>DU s0 o.op.operands.toList++BW s0 os
def KO (ops:List Oper) (k:Sg->Option Y) (s0:Sg):Option Y:=goD V ops s0 (fun l=>cg (U3 V.n s0 ops l (jC s0.nxt s0.chs l)) (k (SW s0 l))) ops 0 []
def U4 (tr:Trs) (s0:Sg):List Oper->List (Bool×Hdr)
 | [] =>[]
 | o::os=>ldF tr s0 o++(acN tr s0 o++U4 tr s0 os)
def ZG (o:Oper):Bool:=match o.op with
 | .indexAddr _ _ _=>true
 | _=>false
def ZH (tr:Trs) (ops:List Oper):Trs:=match ops.any ZG with
 | true=>tr
 | false=>O9 tr
def KP (tr:Trs) (ops:List Oper) (s:Sg):Sg:=match tr with
 | [] =>s
 | _=>Sa (ZH tr ops) (U4 (ZH tr ops) s ops) s
def isApp (o:Oper):Bool:=match o.op with
 | .buildSlice _ _ _=>true
 | _=>false
def abe (s:Sg):List Oper->List Hdr
 | [] =>[]
 | o::os=>match o.op with
  | .move x=>match opd s x with
   | some (.one (.own h))=>h::abe s os
   | _=>abe s os
  | _=>abe s os
def Fl:List Hdr->Sg->Sg
 | [],s=>s
 | h::hs,s=>Fl hs (zg h s)
def xN (ops:List Oper) (s:Sg):Sg:=match ops.any ZG && !ops.any isApp with
 | true=>Fl (abe s ops) s
 | false=>s
def SY (tr:Trs) (ops:List Oper) (s0:Sg):Sg:=match xN ops (tg s0) with
 | s=>KP tr ops (xJ (BW s ops) s)
def Xs (ops:List Oper) (k:Sg->Option Y) (s:Sg):Option Y:=KO V ops k (SY V.tr ops s)
end
theorem zi {a b:Ent} :sameKey a b=true↔a.2.1=b.2.1/\a.1=b.1:=by
 unfold sameKey;rw[aj,YL];constructor
 ·rintro ⟨d,c⟩;exact ⟨d,Hdr.beq_eq c⟩
 ·rintro ⟨d,c⟩;exact ⟨d,by rw[c];exact ER _⟩
theorem Ad {l:List Ent} :jI l=true-> ∀a∈l,∀b∈l,a.2.1=b.2.1->a.1=b.1->a=b:=by
 induction l with
 | nil=>intro _ a i;cases i
 | cons e l ih =>
  intro h a i b j;unfold jI at h;rw[aj,Bool.not_eq_true'] at h;obtain ⟨o,m⟩:=h;have key: ∀x∈l,¬(x.2.1=e.2.1/\x.1=e.1):=fun x n k=>by
   have:(l.any fun x=>sameKey x e)=true:=List.any_eq_true.2 ⟨x,n,zi.2 k⟩
   rw[o] at this;cases this
  intro g f;rcases aE i with d | d
  ·rcases aE j with c | c
   ·rw[d,c]
   ·rw[d] at g f;exact absurd ⟨g.symm,f.symm⟩ (key b c)
  ·rcases aE j with c | c
   ·rw[c] at g f;exact absurd ⟨g,f⟩ (key a d)
   ·exact ih m a d b c g f
theorem Hw {l:List Ent} :nK l=true-> ∀a∈l,∀b∈l,a.1=b.1->a=b:=by
 induction l with
 | nil=>intro _ a f;cases f
 | cons e l ih =>
  intro h a f b g;unfold nK at h;rw[aj] at h;obtain ⟨i,j⟩:=h;intro k;rcases aE f with d | d
  ·rcases aE g with c | c
   ·rw[d,c]
   ·rw[d] at k;exact absurd k.symm (pY i c)
  ·rcases aE g with c | c
   ·rw[c] at k;exact absurd k (pY i d)
   ·exact ih j a d b c k
theorem uW {e:Ent} : ∀ {T:List Ent},jI T=true->e∈T->T[numOf e T]? =some e
 | x::T,hd,b=>by
  unfold numOf;split
  ·rename_i c;obtain ⟨d,f⟩:=zi.1 c;exact congrArg some (Ad hd x (by simp) e b d f)
  ·rename_i c;have a:=hd;unfold jI at a;rw[aj] at a;rcases aE b with rfl | b
   ·exact absurd (zi.2 ⟨rfl,rfl⟩) c
   ·exact uW a.2 b
theorem SZ {h:Hdr} {ver:Nat} {e:Ent} (k:Xr h ver e=true): ∃c,Says e h ver c:=by
 unfold Xr at k;rw[aj,Bool.or_eq_true] at k;obtain ⟨b,a⟩:=k;have b:=Hdr.beq_eq b;obtain ⟨g,v,c⟩:=e;rcases a with a | a
 ·exact ⟨c,b,.inl ⟨au a,rfl⟩⟩
 ·cases c with
  | hole over t d u y f i j off l=>exact ⟨.own t d,b,.inr ⟨au a,rfl⟩⟩
  | _=>cases a
section
variable {P:Program} {w0:World} {n:Nat} {s0:Sg} {ops:List Oper} {l:List TR}
theorem AllOk.lt:AllOk P w0 n s0 ops l-> ∀y∈l,y.i<l.length:=by
 induction l with
 | nil=>intro _ y a;cases a
 | cons w l ih =>
  rintro ⟨b,c⟩ y a;rcases aE a with rfl | a
  ·rw[b.hi,ay];omega
  ·have:=ih c y a
   rw[ay];omega
theorem AllOk.uniq:AllOk P w0 n s0 ops l-> ∀x∈l,∀y∈l,x.i=y.i->x=y:=by
 induction l with
 | nil=>intro _ y a;cases a
 | cons w l ih =>
  rintro ⟨d,c⟩ x b y a h;have e:=d.hi;rcases aE b with b | b
  ·rcases aE a with a | a
   ·rw[b,a]
   ·have:=c.lt y a
    rw[b] at h;omega
  ·rcases aE a with a | a
   ·have:=c.lt x b
    rw[a] at h;omega
   ·exact ih c x b y a h
theorem AllOk.get {x:TR} :AllOk P w0 n s0 ops l->x∈l-> ∃d,RecOk P w0 n s0 ops d x/\AllOk P w0 n s0 ops d/\(∀y∈d,y∈l)/\ ∀y∈l,y.i<x.i->y∈d:=by
 induction l with
 | nil=>intro _ c;cases c
 | cons z l ih =>
  rintro ⟨f,e⟩ c;rcases aE c with c | c
  ·subst c;exact ⟨l,f,e,fun y a=>by simp[a],fun y a b=>by
    rcases aE a with a | a
    ·rw[a] at b;exact absurd b (Nat.lt_irrefl _)
    ·exact a⟩
  ·obtain ⟨d,g,h,j,i⟩:=ih e c;refine ⟨d,g,h,fun y a=>by simp[j y a],fun y a b=>?_⟩;rcases aE a with a | a
   ·exfalso
    have m:=e.lt x c;have k:=f.hi;rw[a] at b;omega
   ·exact i y a b
theorem AllOk.at {α:Type} (f:TR->α):AllOk P w0 n s0 ops l-> ∀i,i<l.length-> ∃x∈l,x.i=i/\(l.map f).reverse[i]? =some (f x):=by
 induction l with
 | nil=>intro _ i a;cases a
 | cons w l ih =>
  rintro ⟨g,j⟩ i a;rw[List.map_cons,List.reverse_cons];by_cases h:i<l.length
  ·obtain ⟨x,b,e,c⟩:=ih j i h;exact ⟨x,by simp[b],e,by rw[List.getElem?_append_left (by simpa using h)];exact c⟩
  ·have d:i=l.length:=by rw[ay] at a;omega
   subst d;refine ⟨w,by simp,g.hi,?_⟩;rw[List.getElem?_append_right (by simp)];simp
theorem AllOk.opAt (b:AllOk P w0 n s0 ops l) {x:TR} (c:x∈l) (T:List Ent):(p8 s0 ops l T).op x.i=opK s0.nxt T ops.toArray x/\(p8 s0 ops l T).before x.i=x.b:=by
 have a:=b.lt x c;obtain ⟨y,i,h,e⟩:=b.at (opK s0.nxt T ops.toArray) x.i a;obtain ⟨z,g,f,d⟩:=b.at (·.b) x.i a;obtain rfl:=b.uniq y i x c h;obtain rfl:=b.uniq z g y c f;constructor
 ·show (l.map (opK s0.nxt T ops.toArray)).reverse.getD z.i _=_;rw[List.getD_eq_getElem?_getD,e];rfl
 ·show (l.map (·.b)).reverse.getD z.i [] =_;rw[List.getD_eq_getElem?_getD,d];rfl
theorem mn {n0:Nat} {chs:List Ent} {e:Ent} : ∀ {l:List TR},e∈jC n0 chs l↔e∈chs\/ ∃x∈l,e∈mj n0 x
 | [] =>by simp[jC]
 | y::l=>by
  unfold jC;rw[List.mem_append,mn (l:=l)];constructor
  ·rintro (h | h | ⟨x,a,h⟩)
   ·exact .inr ⟨y,by simp,h⟩
   ·exact .inl h
   ·exact .inr ⟨x,by simp[a],h⟩
  ·rintro (h | ⟨x,a,h⟩)
   ·exact .inr (.inl h)
   ·rcases aE a with rfl | a
    ·exact .inl h
    ·exact .inr (.inr ⟨x,a,h⟩)
theorem kO {n0:Nat} {x:TR} {e:Ent} (h:e∈mj n0 x):e.2.1=n0+x.i/\(e.1,e.2.2)∈x.r.gives:=by
 obtain ⟨g,a,rfl⟩:=List.mem_map.1 h;exact ⟨rfl,a⟩
theorem wH {n0:Nat} {env:List (Nat×Nat×AV)} {e:Nat×Nat×AV} : ∀ {l:List TR},e∈BT n0 env l->e∈env\/ ∃x∈l,x.o.dst=some e.1/\e.2.1=n0+x.i/\e.2.2=x.r.av
 | [],h=>.inl h
 | y::l,h=>by
  unfold BT NF at h;split at h
  ·rename_i d b;rcases aE h with rfl | h
   ·exact .inr ⟨y,by simp,b,rfl,rfl⟩
   ·exact (wH h).imp id fun ⟨x,a,k⟩=>⟨x,by simp[a],k⟩
  ·exact (wH h).imp id fun ⟨x,a,k⟩=>⟨x,by simp[a],k⟩
theorem Pj {n0:Nat} {b:List Nat} {v:Nat} :inB n0 b v=true↔v<n0\/v - n0∈b:=by unfold inB;rw[Bool.or_eq_true,YM,pa]
theorem zj {i:Nat} {b:List Nat} {e:Ent} (h:e∈(subS s0 l i b).chs):e∈jC s0.nxt s0.chs l/\(e.2.1<s0.nxt\/e.2.1 - s0.nxt∈b):=by
 obtain ⟨c,a⟩:=List.mem_filter.1 h;rw[aj] at a;exact ⟨c,Pj.1 a.1⟩
theorem Fm {i:Nat} {b:List Nat} {e:Nat×Nat×AV} (h:e∈(subS s0 l i b).env):e∈BT s0.nxt s0.env l/\(e.2.1<s0.nxt\/e.2.1 - s0.nxt∈b):=by
 obtain ⟨c,a⟩:=List.mem_filter.1 h;exact ⟨c,Pj.1 a⟩
def tj (θ:Th) (n0:Nat) (vs:Nat->Value):Th:=fun id=>if id<n0 then θ id else vs (id - n0)
theorem pb {θ:Th} {n0:Nat} {vs:Nat->Value} :Same n0 θ (tj θ n0 vs):=fun i a=>if_pos a
theorem S4 {θ:Th} {n0 i:Nat} {vs:Nat->Value} {v:Value} :tj θ n0 (upd vs i v)=upd (tj θ n0 vs) (n0+i) v:=by
 funext id;show (if id<n0 then θ id else if id - n0=i then v else vs (id - n0))=if id=n0+i then v else if id<n0 then θ id else vs (id - n0);by_cases h:id<n0
 ·rw[if_pos h,if_neg (show¬id=n0+i by omega),if_pos h]
 ·rw[if_neg h];by_cases a:id=n0+i
  ·rw[if_pos a,if_pos (show id - n0=i by omega)]
  ·rw[if_neg a,if_neg h,if_neg (show¬id - n0=i by omega)]
def YN (P:Program) (w0:World) (J:Hp) (θ:Th) (n0:Nat) (x:TR) (v:Value):Prop:=
 x.r.av.ok P w0 J θ (n0+x.i+1) (x.r.chs (n0+x.i))/\x.r.av.v θ=v/\ ∀g∈x.r.gives,okE P w0 J θ (n0+x.i+1) (x.r.chs (n0+x.i)) (g.1,n0+x.i,g.2)
end
section
variable {P:Program} {w0:World} {n:Nat} {s0:Sg} {ops:List Oper} {l:List TR} {J:Hp} {θ:Th} {vs:Nat->Value}
def Nf (s0:Sg) (l:List TR) (h:Hdr) (ver:Nat) (c:Chk):Prop:=(∃e0∈s0.chs,Says e0 h ver c)\/ ∃x∈l,(h,ver,c)∈mj s0.nxt x
theorem Ja {e:Ent} {h:Hdr} {ver:Nat} {c:Chk} {chs:List Ent} {m:Nat} (k:okE P w0 J θ m chs e) (hs:Says e h ver c):ver<m:=by
 obtain ⟨g,v,x⟩:=e;obtain ⟨-,hs⟩:=hs;rcases hs with ⟨a,-⟩ | hs
 ·rw[<-a];exact k.2.1
 ·cases x with
  | hole over t d u y f i b off j =>
   rw[<-hs.1];exact Nat.lt_trans k.2.2.2.1 k.2.1
  | _=>exact hs.elim
theorem Xt (F:nK s0.chs=true) (E:jI (jC s0.nxt s0.chs l)=true) (s:Fine P w0 J θ s0) {h:Hdr} {ver:Nat} {c c':Chk} (h1:Nf s0 l h ver c) (w:Nf s0 l h ver c'):c=c':=by
 have base: ∀o∈s0.chs,∀p∈s0.chs,∀c c',Says o h ver c->Says p h ver c'->c=c':=by
  intro o m p k c c' q j;obtain rfl:=Hw F o m p k (q.1.trans j.1.symm);have r:=s.chs o m;obtain ⟨g,v,x⟩:=o;rcases q.2 with ⟨G,I⟩ | a
  ·rcases j.2 with ⟨C,D⟩ | b
   ·rw[I,D]
   ·cases x with
    | hole over t d u y f i z off A =>
     have:=r.2.2.2.1
     have o:v=ver:=G;have p:over=ver:=b.1
     exfalso
     have:over<v:=this
     omega
    | _=>exact b.elim
  ·rcases j.2 with ⟨C,D⟩ | b
   ·cases x with
    | hole over t d u y f i z off A =>
     have:=r.2.2.2.1
     have o:v=ver:=C;have p:over=ver:=a.1
     exfalso
     have:over<v:=this
     omega
    | _=>exact a.elim
   ·cases x with
    | hole over t d u y f i z off A=>rw[a.2,b.2]
    | _=>exact a.elim
 rcases h1 with ⟨o,m,q⟩ | ⟨x,H,q⟩
 ·rcases w with ⟨p,k,j⟩ | ⟨y,B,j⟩
  ·exact base o m p k c c' q j
  ·have:=Ja (s.chs o m) q
   have:=(kO j).1
   exfalso;simp only at this;omega
 ·rcases w with ⟨p,k,j⟩ | ⟨y,B,j⟩
  ·have:=Ja (s.chs p k) j
   have:=(kO q).1
   exfalso;simp only at this;omega
  ·have:=Ad E _ (mn.2 (.inr ⟨x,H,q⟩)) _ (mn.2 (.inr ⟨y,B,j⟩)) rfl rfl
   exact congrArg (fun e=>e.2.2) this
theorem KQ (hB:nK s0.chs=true) (Z:jI (jC s0.nxt s0.chs l)=true) (G:Fine P w0 J θ s0) (ha:AllOk P w0 n s0 ops l) (hc: ∀x∈l,BV s0.nxt x=true)
  (L1:List TR) (H: ∀y∈L1,y∈l) (b:List Nat) (i:Nat) (C: ∀j∈b,j<i)
  (t: ∀y∈l,y.i∈b->YN P w0 J (tj θ s0.nxt vs) s0.nxt y (vs y.i))
  (E: ∀y∈l,y.i∈b-> ∀e∈mj s0.nxt y,∀h d c,Says e h d c->Nf s0 l h d c)
  (A: ∀y∈l,y.i∈b-> ∀e∈y.r.chs (s0.nxt+y.i),∀h d c,Says e h d c->Nf s0 l h d c)
  (Q:(BT s0.nxt s0.env L1).Pairwise fun a b=>a.2.1≠b.2.1):Fine P w0 J (tj θ s0.nxt vs) (subS s0 L1 i b):=by
 have own: ∀e∈(subS s0 L1 i b).chs,∀h d c,Says e h d c->Nf s0 l h d c:=by
  intro e r h d c F;obtain ⟨m,f⟩:=zj r;rcases mn.1 m with m | ⟨y,p,m⟩
  ·exact .inl ⟨e,m,F⟩
  ·have hv:=(kO m).1;rcases f with f | f
   ·omega
   ·exact E y (H y p) (by rw[hv,Nat.add_sub_cancel_left] at f;exact f) e m h d c F
 have w: ∀h d c,Mem s0.chs s0.nxt h d c-> ∀e∈(subS s0 L1 i b).chs,∀u,Says e h d u->u=c:=by
  intro h d c q e r u F;rcases own e r h d u F with ⟨O,D,k⟩ | ⟨y,p,k⟩
  ·exact q.2 O D u k
  ·have:=(kO k).1
   have:=q.1
   exfalso;simp only at *;omega
 have v: ∀y∈l,y.i∈b-> ∀h d,(h,d)∈U2 s0.nxt y-> ∀c,Mem (y.r.chs (s0.nxt+y.i)) (s0.nxt+y.i+1) h d c-> ∀e∈(subS s0 L1 i b).chs,∀u,Says e h d u->u=c:=by
  intro y p o h d s c q e r u F;have B:=hc y p;unfold BV at B;rw[aj] at B
  have:=(List.all_eq_true.1 B.2) (h,d) s
  rcases Bool.or_eq_true_iff.1 this with this | this
  rotate_left
  ·rw[aj,Bool.not_eq_true'] at this;have W:d=s0.nxt+y.i:=au this.1;rcases own e r h d u F with ⟨O,D,k⟩ | ⟨z,hz,k⟩
   ·have:=Ja (G.chs O D) k
    omega
   ·obtain ⟨M,L⟩:=kO k;have M:d=s0.nxt+z.i:=M;obtain rfl:=AllOk.uniq ha z hz y p (by omega)
    have:(z.r.gives.any fun g=>Hdr.beq g.1 h)=true:=List.any_eq_true.2 ⟨_,L,ER h⟩
    simp_all
  obtain ⟨U,K,N⟩:=List.any_eq_true.1 this;obtain ⟨X,I⟩:=SZ N;have R:=q.2 U K X I;subst R;exact Xt hB Z G (own e r h d u F) (A y p o U K h d X I)
 refine ⟨fun e r=>?_,fun e r=>?_,List.Pairwise.filter _ Q,fun e r=>?_,G.lay⟩
 ·obtain ⟨m,f⟩:=Fm r;rcases wH m with m | ⟨y,p,M,L,V⟩
  ·have:=G.env e m
   refine AV.ok_move (n:=s0.nxt) (Nat.le_add_right _ _) (fun h d c _ q=>w h d c q) ?_;exact AV.ok_same pb (aF _) Newer.rfl this Hp.le.rfl
  ·rcases f with f | f
   ·omega
   ·have o:y.i∈b:=by rw[L,Nat.add_sub_cancel_left] at f;exact f
    have T:=t y (H y p) o
    have:=C _ o
    rw[V];refine AV.ok_move (n:=s0.nxt+y.i+1) (by show s0.nxt+y.i+1<=s0.nxt+i;omega) (fun h d c s q=>v y (H y p) o h d (bj _ s) c q) T.1
 ·obtain ⟨m,f⟩:=Fm r;rcases wH m with m | ⟨y,p,M,L,V⟩
  ·exact aJ (G.ver e m) (Nat.le_add_right _ _)
  ·rcases f with f | f
   ·omega
   ·have:=C _ f
    show e.2.1<s0.nxt+i;omega
 ·obtain ⟨m,f⟩:=zj r;rcases mn.1 m with m | ⟨y,p,m⟩
  ·refine KN (n:=s0.nxt) (Nat.le_add_right _ _) (fun h d c _ q=>w h d c q) ?_;exact gL pb (aF _) Newer.rfl (G.chs e m) Hp.le.rfl
  ·obtain ⟨hv,Y⟩:=kO m;rcases f with f | f
   ·omega
   ·have o:y.i∈b:=by rw[hv,Nat.add_sub_cancel_left] at f;exact f
    have T:=t y (H y p) o
    have:=C _ o
    have N:=T.2.2 _ Y;have S:e=(e.1,s0.nxt+y.i,e.2.2):=by rw[<-hv]
    rw[S];refine KN (n:=s0.nxt+y.i+1) (by show s0.nxt+y.i+1<=s0.nxt+i;omega) (fun h d c s q=>?_) N;exact v y (H y p) o h d (bp _ (List.mem_flatMap.2 ⟨_,Y,s⟩)) c q
end
theorem Pm {t j:Nat} {l:List Nat} :j∈abd t l↔j=t\/j∈l:=by
 unfold abd;split
 ·rename_i h
  have:=pa.1 h
  constructor
  ·exact fun h=>.inr h
  ·rintro (rfl | h)
   ·exact this
   ·exact h
 ·exact List.mem_cons
theorem Hx {j:Nat} : ∀ {l acc:List Nat},j∈Hu l acc↔j∈l\/j∈acc
 | [],acc=>by simp[Hu]
 | t::l,acc=>by
  unfold Hu;rw[Hx (l:=l),Pm,List.mem_cons];constructor
  ·rintro (h | h | h) <;> simp[h]
  ·rintro ((h | h) | h) <;> simp[h]
def bAt (l:List TR) (k:Nat):List Nat:=match recAt k l with
 | some y=>y.b
 | none=>[]
theorem U5 {l:List TR} {j:Nat} : ∀ {js acc:List Nat},j∈bOf l js acc↔j∈acc\/ ∃k∈js,j=k\/j∈bAt l k
 | [],acc=>by simp[bOf]
 | k::js,acc=>by
  unfold bOf;rw[U5 (js:=js),Hx,Pm];show (j∈bAt l k\/j=k\/j∈acc)\/_↔_;constructor
  ·rintro ((h | h | h) | ⟨b,a,h⟩)
   ·exact .inr ⟨k,by simp,.inr h⟩
   ·exact .inr ⟨k,by simp,.inl h⟩
   ·exact .inl h
   ·exact .inr ⟨b,by simp[a],h⟩
  ·rintro (h | ⟨b,a,h⟩)
   ·exact .inl (.inr (.inr h))
   ·rcases aE a with a | a
    ·subst a;rcases h with h | h
     ·exact .inl (.inr (.inl h))
     ·exact .inl (.inl h)
    ·exact .inr ⟨b,a,h⟩
theorem DX {y:TR} : ∀ {l:List TR},y∈l-> ∃z,recAt y.i l=some z
 | x::l,h=>by
  unfold recAt;split
  ·exact ⟨_,rfl⟩
  ·rename_i a;rcases aE h with h | h
   ·rw[h] at a;exact absurd (Nat.beq_refl _) a
   ·exact DX h
section
variable {P:Program} {w0:World} {n:Nat} {s0:Sg} {ops:List Oper} {l:List TR} {J:Hp} {θ:Th} {vs:Nat->Value}
theorem AllOk.closed (u:AllOk P w0 n s0 ops l) (i: ∀x∈l,∀j∈x.b,j<x.i): ∀x∈l,∀y∈l,y.i∈x.b-> ∀k∈y.b,k∈x.b:=by
 have main: ∀m,∀x∈l,x.i=m-> ∀y∈l,y.i∈x.b-> ∀k∈y.b,k∈x.b:=by
  intro m;induction m using Nat.strongRecOn with
  | _ m B =>
   intro x e A y g a k p;obtain ⟨C,t,v,r,w⟩:=u.get e;have o:=i x e _ a;have f:=w y g o;rw[t.hb,U5] at a⊢;rcases a with a | ⟨q,s,a | a⟩
   ·cases a
   ·refine .inr ⟨q,s,.inr ?_⟩;subst a;obtain ⟨z,d⟩:=DX f;unfold bAt;rw[d];obtain ⟨b,c⟩:=A5 d;obtain rfl:=u.uniq z (r z b) y g c;exact p
   ·refine .inr ⟨q,s,.inr ?_⟩;unfold bAt at a⊢;split at a
    ·rename_i z d;obtain ⟨b,c⟩:=A5 d;have h:=v.lt z b;rw[<-t.hi] at h;exact B z.i (by omega) z (r z b) rfl y g a k p
    ·cases a
 exact fun x e=>main x.i x e rfl
theorem U6 (c:Fine P w0 J θ s0):AllOk P w0 n s0 ops l->(BT s0.nxt s0.env l).Pairwise fun a b=>a.2.1≠b.2.1:=by
 induction l with
 | nil=>intro _;exact c.nd
 | cons x l ih =>
  rintro ⟨g,d⟩;refine nd_go x.o.dst (ih d) fun e i=>?_;rcases wH i with h | ⟨y,f,j,k,m⟩
  ·have:=c.ver e h;omega
  ·have:=d.lt y f
   have:=g.hi
   omega
where nd_go {env:List (Nat×Nat×AV)} {k:Nat} {av:AV} (d:Option Nat) (h:env.Pairwise fun a b=>a.2.1≠b.2.1) (hv: ∀e∈env,e.2.1<k):(NF d k av env).Pairwise fun a b=>a.2.1≠b.2.1:=GG h hv
theorem words (Q:nK s0.chs=true) (L:jI (jC s0.nxt s0.chs l)=true) (F:Fine P w0 J θ s0) (H:AllOk P w0 n s0 ops l) (S: ∀x∈l,BV s0.nxt x=true) (v: ∀x∈l,∀j∈x.b,j<x.i)
  (B:List Nat) (C: ∀y∈l,y.i∈B-> ∀k∈y.b,k∈B) (q: ∀y∈l,y.i∈B->YN P w0 J (tj θ s0.nxt vs) s0.nxt y (vs y.i)) :
  ∀x∈l,(∀k∈x.b,k∈B)->Fine P w0 J (tj θ s0.nxt vs) x.s/\(∀e∈mj s0.nxt x,∀h a c,Says e h a c->Nf s0 l h a c)/\ ∀e∈x.r.chs (s0.nxt+x.i),∀h a c,Says e h a c->Nf s0 l h a c:=by
 have main: ∀m,∀x∈l,x.i=m->(∀k∈x.b,k∈B)->Fine P w0 J (tj θ s0.nxt vs) x.s/\(∀e∈mj s0.nxt x,∀h a c,Says e h a c->Nf s0 l h a c)/\ ∀e∈x.r.chs (s0.nxt+x.i),∀h a c,Says e h a c->Nf s0 l h a c:=by
  intro m;induction m using Nat.strongRecOn with
  | _ m U =>
   intro x s T i;obtain ⟨K,t,I,E,V⟩:=H.get s;have D: ∀y∈l,y.i∈x.b->_:=fun y g d=>U y.i (by have:=v x s _ d;omega) y g rfl (C y g (i _ d));have G:Fine P w0 J (tj θ s0.nxt vs) x.s:=by
    rw[t.hs];exact KQ Q L F H S K E x.b x.i (v x s) (fun y g d=>q y g (i _ d)) (fun y g d=>(D y g d).2.1) (fun y g d=>(D y g d).2.2) (U6 F I)
   have p: ∀e∈x.s.chs,∀h a c,Says e h a c->Nf s0 l h a c:=by
    intro e b h a c r;rw[t.hs] at b;obtain ⟨o,f⟩:=zj b;rcases mn.1 o with o | ⟨y,g,o⟩
    ·exact .inl ⟨e,o,r⟩
    ·have hv:=(kO o).1;rcases f with f | f
     ·omega
     ·rw[hv,Nat.add_sub_cancel_left] at f;exact (D y (E y g) f).2.1 e o h a c r
   have u: ∀e∈mj s0.nxt x,∀h a c,Says e h a c->Nf s0 l h a c:=by
    intro e b h a c r;cases w:x.run with
    | true =>
     obtain ⟨z,O⟩:=t.good w;obtain ⟨hv,R⟩:=kO b;obtain ⟨o,f⟩:=r;rcases f with ⟨f,N⟩ | f
     ·refine .inr ⟨x,s,?_⟩
      have:e=(h,a,c):=by rw[N,<-o,<-f]
      rw[<-this];exact b
     ·obtain ⟨M,A,k⟩:=z.says J _ G _ R a c f;simp only at k;rw[o] at k;exact p M A h a c k
    | false =>
     have:=t.skip w
     unfold mj at b;rw[this] at b;cases b
   refine ⟨G,u,fun e b h a c r=>?_⟩;unfold Res.chs at b;rcases aG b with b | b
   ·exact u e b h a c r
   ·refine p e ?_ h a c r;cases w:x.run with
    | true =>
     obtain ⟨z,O⟩:=t.good w;exact z.perm.mem_iff.2 (by rcases aG b with b | b <;> simp[b])
    | false =>
     rw[t.skip w] at b;simpa using b
 exact fun x s i=>main x.i x s rfl i
theorem uX {t:Nat} {av:AV} : ∀ {env:List (Nat×Nat×AV)},look env t=some av-> ∃v,BU env t=some v/\(t,v,av)∈env
 | (u,k,x)::l,h=>by
  unfold look at h;unfold BU;split at h
  ·rename_i a;obtain rfl:=ae h;rw[if_pos a,au a];exact ⟨k,rfl,by simp⟩
  ·rename_i a;rw[if_neg a];obtain ⟨v,c,b⟩:=uX h;exact ⟨v,c,by simp[b]⟩
theorem Pn {t v:Nat} {av:AV} {f:Nat×Nat×AV->Bool} (j: ∀e∈s0.env,f e=true):look ((BT s0.nxt s0.env l).filter f) t=some av->BU ((BT s0.nxt s0.env l).filter f) t=some v->v<s0.nxt->look s0.env t=some av:=by
 induction l with
 | nil =>
  intro b a c;rw[show (BT s0.nxt s0.env []).filter f=s0.env from List.filter_eq_self.2 j] at b;exact b
 | cons x l ih =>
  intro b a c;unfold BT NF at b a;split at b
  ·rename_i d i;rw[i] at a;simp only at a;rw[List.filter_cons] at b a;split at b
   ·rename_i g;rw[if_pos g] at a;unfold look at b;unfold BU at a;split at b
    ·rename_i h;rw[if_pos h] at a
     have:=ae a
     omega
    ·rename_i h;rw[if_neg h] at a;exact ih b a c
   ·rename_i g;rw[if_neg g] at a;exact ih b a c
  ·rename_i i;rw[i] at a;exact ih b a c
theorem ZI (m:Fine P w0 J θ s0) {b:List Nat} {i:Nat} {L1:List TR} (s: ∀y∈L1,y∈l) (c: ∀y∈l,y.i∈b->YN P w0 J (tj θ s0.nxt vs) s0.nxt y (vs y.i)) {t v:Nat} {av:AV}
  (h1:look (subS s0 L1 i b).env t=some av) (o:BU (subS s0 L1 i b).env t=some v):(match U1 s0.nxt v with | some j=>vs j | none=>((envL θ s0).lookup t).getD undef)=av.v (tj θ s0.nxt vs):=by
 obtain ⟨x,u,r⟩:=uX h1;obtain rfl:=ae (o.symm.trans u);unfold U1;by_cases hv:v<s0.nxt
 ·rw[if_pos (YM.2 hv)];have p:=Pn (fun e k=>Pj.2 (.inl (m.ver e k))) h1 o hv;obtain ⟨e,k,rfl⟩:=uO p;rw[AV.v_same (pb (vs:=vs)) (m.env e k)];simp only;rw[show (envL θ s0).lookup t=_ from iV p];rfl
 ·rw[if_neg (fun h=>hv (YM.1 h))];obtain ⟨g,a⟩:=Fm r;rcases wH g with g | ⟨y,q,w,d,f⟩
  ·exact absurd (m.ver _ g) hv
  ·rcases a with a | a
   ·exact absurd a hv
   ·have d:v=s0.nxt+y.i:=d;have f:av=y.r.av:=f;have a:v - s0.nxt∈b:=a;rw[d,Nat.add_sub_cancel_left] at a;rw[d,Nat.add_sub_cancel_left,f];exact (c y (s y q) a).2.1.symm
end
def S5 (P:Program) (w0:World) (J:Hp) (θ:Th) (n0:Nat) (l:List TR) (T:List Ent):Sm where
 fact i vs:= ∀x∈l,x.i=i->YN P w0 J (tj θ n0 vs) n0 x (vs i)
 chunk k vs:=match T[k]? with
  | some e=>toCh P (tj θ n0 vs) e
  | none=>Ch.fr (fun _=>none) []
theorem Jb {n0 t v:Nat} {env:List (Nat×Nat×AV)} : ∀ {ts:List Nat},t∈ts->BU env t=some v->Skel.srcOf t (Hv n0 env ts)=some (U1 n0 v)
 | u::ts,h,hv=>by
  unfold Hv;by_cases a:u=t
  ·subst a;rw[hv];simp only;unfold Skel.srcOf;rw[if_pos (Nat.beq_refl u)]
  ·have b:t∈ts:=(aE h).resolve_left fun e=>a e.symm;cases c:BU env u with
   | none=>exact Jb b hv
   | some w =>
    simp only;unfold Skel.srcOf;rw[if_neg fun e=>a (au e)];exact Jb b hv
theorem fin_ok {n0 t v:Nat} {f:Option Nat->Value} : ∀ {env:List (Nat×Nat×AV)} {seen:List Nat},t∉seen->BU env t=some v->((Pi n0 env seen).map fun q=>(q.1,f q.2)).lookup t=some (f (U1 n0 v))
 | (u,k,x)::l,seen,hs,hv=>by
  unfold Pi;unfold BU at hv;split
  ·rename_i a;have a:=pa.1 a;have c:u≠t:=fun e=>hs (e ▸ a);rw[if_neg fun e=>c (au e)] at hv;exact fin_ok hs hv
  ·rename_i a;rw[List.map_cons,List.lookup_cons];by_cases b:u=t
   ·subst b;rw[if_pos (Nat.beq_refl u)] at hv;obtain rfl:=ae hv;simp
   ·rw[if_neg fun e=>b (au e)] at hv
    have:(t==u)=false:=by simpa using fun e=>b e.symm
    rw[this];refine fin_ok (fun h=>?_) hv;rcases aE h with h | h
    ·exact b h.symm
    ·exact hs h
section
variable {V:Env} {P:Program} {I:Hp} {w0 w:World} {F:Ch} {J:Hp} {θ:Th} {s0:Sg} {ops:List Oper} {l:List TR} {a:Act}
theorem KR {x:TR} {i:Nat} (h:i∈x.r.av.ids):i∈SX x:=bj _ h
theorem KS {x:TR} {g:Hdr×Chk} {i:Nat} (b:g∈x.r.gives) (h:i∈DW g.1 g.2):i∈SX x:=bp _ (List.mem_flatMap.2 ⟨g,b,h⟩)
theorem ZJ (A:Fine P w0 J θ s0) {n:Nat} (t:AllOk P w0 n s0 ops l) (q:l.length=ops.length) (y:jI (jC s0.nxt s0.chs l)=true) (D: ∀x∈l,BV s0.nxt x=true) :
  Loc (p8 s0 ops l (jC s0.nxt s0.chs l)) (S5 P w0 J θ s0.nxt l (jC s0.nxt s0.chs l)) ops.length:=by
 have agree: ∀x∈l,∀f b:Nat->Value,(∀j,j=x.i\/j∈x.b->b j=f j)-> ∀i∈SX x,tj θ s0.nxt b i=tj θ s0.nxt f i:=by
  intro x m f b hv i c
  have:=D x m
  unfold BV at this;rw[aj,tO] at this;have r:=this.1 i c;unfold allowed at r;rw[Bool.or_eq_true,Bool.or_eq_true,YM,YL,pa] at r;unfold tj;by_cases d:i<s0.nxt
  ·rw[if_pos d,if_pos d]
  ·rw[if_neg d,if_neg d];exact hv _ (r.resolve_left d)
 refine ⟨fun i c f b hv h x m o=>?_,fun k s f b=>?_,fun i c k s f b hv=>?_⟩
 ·subst o;rw[(t.opAt m _).2] at hv;have u:=agree x m f b hv;obtain ⟨r,B,C⟩:=h x m rfl;refine ⟨AV.ok_loc (fun i c=>u i (KR c)) r,?_,fun g z=>Xp (fun i c=>u i (KS z c)) (C g z)⟩;rw[AV.v_loc fun i c=>u i (KR c),B,hv _ (.inl rfl)]
 ·obtain ⟨e,p,rfl⟩:=List.mem_map.1 s;have v:=uW y (mn.2 (.inl p));show (match _ with | some e=>toCh P (tj θ s0.nxt b) e | none=>_)=match _ with | some e=>toCh P (tj θ s0.nxt f) e | none=>_
  rw[v];simp only;rw[o0 pb (A.chs e p),o0 pb (A.chs e p)]
 ·obtain ⟨x,m,o,-⟩:=t.at (fun x=>x) i (by rw[q];exact c);subst o;rw[(t.opAt m _).2] at hv;rw[(t.opAt m _).1] at s;obtain ⟨e,p,rfl⟩:=List.mem_map.1 s;have v:=uW y (mn.2 (.inr ⟨x,m,p⟩));show (match _ with | some e=>toCh P (tj θ s0.nxt b) e | none=>_)=match _ with | some e=>toCh P (tj θ s0.nxt f) e | none=>_
  rw[v];simp only;exact SV fun i c=>agree x m f b hv i (KS (kO p).2 c)
theorem Xu (hf:Fine P w0 J θ s0) {n:Nat} (T:AllOk P w0 n s0 ops l) (hlen:l.length=ops.length) (hB:nK s0.chs=true) (hK:jI (jC s0.nxt s0.chs l)=true) (hc: ∀x∈l,BV s0.nxt x=true)
  (hok:(p8 s0 ops l (jC s0.nxt s0.chs l)).ok n (knS s0) ops=true) (hkn: ∀t,knS s0 t=true->((envL θ s0).lookup t).isSome=true) (Y: ∀x∈l,∀j∈x.b,j<x.i) :
  ∀i o,ops[i]? =some o->(p8 s0 ops l (jC s0.nxt s0.chs l)).goal (S5 P w0 J θ s0.nxt l (jC s0.nxt s0.chs l)) P J w0 (envL θ s0) i o:=by
 intro i o ho d p;obtain ⟨x,H,hxi,-⟩:=T.at (fun x=>x) i (by rw[hlen];exact (List.getElem?_eq_some_iff.1 ho).1);subst hxi;obtain ⟨l1,G,h2,h3,h4⟩:=T.get H;obtain rfl:x.o=o:=ae (G.ho.symm.trans ho);obtain ⟨e1,e2⟩:=T.opAt H (jC s0.nxt s0.chs l);have hG:=Skel.good_of_ok hkn hok ho;rw[e2] at p;have f: ∀y∈l,y.i∈x.b->YN P w0 J (tj θ s0.nxt d) s0.nxt y (d y.i):=fun y r K=>p y.i K y r rfl;have q:=(words hB hK hf T hc Y x.b (fun y r K k N=>T.closed Y x H y r K k N) f x H fun k N=>N).1;have M:x.s.nxt=s0.nxt+x.i:=by rw[G.hs];rfl
 have hw:LN x.o d=some x.run:=by
  have m:=G.gd;unfold GdOk at m;unfold LN;cases B:x.o.guard with
  | none=>rw[B] at m;simp only at m⊢;rw[m]
  | some gw =>
   obtain ⟨g,want⟩:=gw;rw[B] at m;simp only at m⊢;obtain ⟨y,r,hyg,z⟩:=m;obtain ⟨t,k1,k2⟩:=hG.guard g want B;have hgb:g∈x.b:=by
    have ht:t∈slotsOf ops.toArray x.o:=by
     unfold slotsOf Oper.looksAt;refine bp _ ?_;rw[B];simp only;rw[k1];simp
    rcases hG.slots t ht with ⟨E,-,-⟩ | ⟨j,E,-,q3,-⟩
    ·rw[k2] at E;cases E
    ·rw[k2] at E;obtain rfl:g=j:=by simpa using E
     rwa [e2] at q3
   subst hyg;have hv:=(f y (h3 y r) hgb).2.1;rcases z with ⟨c,z,U⟩ | ⟨z,U⟩
   ·rw[z] at hv;rw[<-hv,U];rfl
   ·rw[z] at hv;rw[<-hv,U];rfl
 rw[hw];have s: ∀v,tj θ s0.nxt (upd d x.i v)=upd (tj θ s0.nxt d) (s0.nxt+x.i) v:=fun v=>S4;have L: ∀D:Nat->Value,∀e∈jC s0.nxt s0.chs l,(S5 P w0 J θ s0.nxt l (jC s0.nxt s0.chs l)).chunk (numOf e (jC s0.nxt s0.chs l)) D=toCh P (tj θ s0.nxt D) e:=by
  intro D e O;show (match _ with | some e=>toCh P (tj θ s0.nxt D) e | none=>_)=_;rw[uW hK O]
 cases U:x.run with
 | false =>
  have S:=G.skip U;refine ⟨fun y r R=>?_,by rw[e1];show (x.r.ns.map _)= [];rw[S];rfl,by rw[e1];show (mj _ x).map _= [];unfold mj;rw[S];rfl⟩;obtain rfl:=T.uniq y r x H R;refine ⟨?_,?_,fun g hg=>?_⟩
  ·rw[S];trivial
  ·rw[S,iF];rfl
  ·rw[S] at hg;cases hg
 | true =>
  obtain ⟨hGd,N⟩:=G.good U;have base:=hGd.op J _ q;have hin: ∀e,e∈x.r.rs++x.r.ns->e∈jC s0.nxt s0.chs l/\e∈x.s.chs:=by
   intro e O;have Q:e∈x.s.chs:=hGd.perm.mem_iff.2 (bj _ O);refine ⟨?_,Q⟩;rw[G.hs] at Q;rcases mn.1 (zj Q).1 with h | ⟨y,r,h⟩
   ·exact mn.2 (.inl h)
   ·exact mn.2 (.inr ⟨y,h3 y r,h⟩)
  have hev: ∀u∈x.o.op.operands,(p8 s0 ops l (jC s0.nxt s0.chs l)).ev (envL θ s0) x.i d u=evL (envL (tj θ s0.nxt d) x.s) u:=by
   intro u hu;cases u with
   | tmp t =>
    unfold okO at N;rw[aj,aj] at N;have hx1:=List.all_eq_true.1 N.1.1 (.tmp t) (by simpa using hu);simp only[Bool.or_false] at hx1;obtain ⟨av,A⟩:=Option.isSome_iff_exists.1 hx1;have A:look x.s.env t=some av:=A;rw[aH (x:=.tmp t) A];obtain ⟨v,hv,hm⟩:=uX A;have ht:t∈slotsOf ops.toArray x.o:=by
     unfold slotsOf Oper.looksAt;exact bj _ (List.mem_filterMap.2 ⟨.tmp t,by simpa using hu,rfl⟩)
    have Z:Skel.srcOf t ((p8 s0 ops l (jC s0.nxt s0.chs l)).op x.i).src=some (U1 s0.nxt v):=by
     rw[e1];exact Jb ht hv
    have hval:=ZI (L1:=l1) (b:=x.b) (i:=x.i) hf h3 f (t:=t) (v:=v) (av:=av) (by rw[<-G.hs];exact A) (by rw[<-G.hs];exact hv);rw[<-hval];show (match Skel.srcOf t _ with | some (some j)=>d j | _=>_)=_;rw[Z];cases U1 s0.nxt v <;> rfl
   | _=>rfl
  have hpre:((((p8 s0 ops l (jC s0.nxt s0.chs l)).op x.i).reads++((p8 s0 ops l (jC s0.nxt s0.chs l)).op x.i).needs).map ((S5 P w0 J θ s0.nxt l (jC s0.nxt s0.chs l)).chunk · d))=(x.r.rs++x.r.ns).map (toCh P (tj θ s0.nxt d)):=by
   rw[e1];show ((x.r.rs.map _)++(x.r.ns.map _)).map _=_;rw[<-aZ,List.map_map];exact List.map_congr_left fun e O=>L d e (hin e O).1
  intro wd C S;have hs':=S;rw[hpre] at hs';have hb:=base wd C hs';have W:noSelect x.o=true:=hG.sel;rw[<-rL W hev] at hb;refine hb.imp fun v w' hv=>⟨fun y r R=>?_,?_⟩
  ·obtain rfl:=T.uniq y r x H R;rw[s,iF];obtain ⟨E,q2,q3⟩:=hv.1;rw[M] at E q2 q3;exact ⟨E,q2,q3⟩
  ·have X:=hv.2;rw[M] at X;have hgv:((((p8 s0 ops l (jC s0.nxt s0.chs l)).op x.i).reads++((p8 s0 ops l (jC s0.nxt s0.chs l)).op x.i).gives).map ((S5 P w0 J θ s0.nxt l (jC s0.nxt s0.chs l)).chunk · (upd d x.i v)))=x.r.rs.map (toCh P (tj θ s0.nxt d))++x.r.gives.map fun g=>toCh P (upd (tj θ s0.nxt d) (s0.nxt+x.i) v) (g.1,s0.nxt+x.i,g.2):=by
    rw[e1];show ((x.r.rs.map _)++((mj s0.nxt x).map _)).map _=_;rw[aZ,List.map_map,List.map_map];congr 1
    ·refine List.map_congr_left fun e O=>?_;show (S5 P w0 J θ s0.nxt l (jC s0.nxt s0.chs l)).chunk (numOf e _) (upd d x.i v)=_;obtain ⟨m1,m2⟩:=hin e (bj _ O);rw[L _ e m1,s]
     have:=q.chs e m2
     rw[M] at this;exact o0 Same.upd this
    ·unfold mj;rw[List.map_map];refine List.map_congr_left fun g hg=>?_;show (S5 P w0 J θ s0.nxt l (jC s0.nxt s0.chs l)).chunk (numOf (g.1,s0.nxt+x.i,g.2) _) (upd d x.i v)=_;rw[L _ _ (mn.2 (.inr ⟨x,H,List.mem_map.2 ⟨g,hg,rfl⟩⟩)),s]
   exact Eq.mp (congrArg (fun cs=>St J w0 w' (cs++C)) hgv.symm) X
theorem Po {Y:Type} {id:Nat} {k:Sg->Option Y} {res:Y} {Q:Exit->Act->World->Prop} (hT:TTok P V.tt) (hF:FTok P V.ft) (hm:P.follows .mixedOrders=true) (h:KO V ops k s0=some res) (r:Sim P I w0 F V.n J θ s0 a w)
  (K: ∀s' θ' a' w',k s'=some res->Sim P I w0 F V.n J θ' s' a' w'->Fr s0 θ s' θ'->Q .normal a' w'):(Code.region id ops.toArray true).wp P Q a w:=by
 unfold KO at h;obtain ⟨l,h,p,o⟩:=Ph (w0:=w0) hT hF h rfl rfl trivial;obtain ⟨S,h⟩:=ai h;unfold U3 at S;simp only[aj,List.all_eq_true] at S;obtain ⟨hB,T,hc,G,W⟩:=S;have R:=r.fine;have N: ∀t,knS s0 t=true->((envL θ s0).lookup t).isSome=true:=by
  intro t ht;obtain ⟨av,hav⟩:=Option.isSome_iff_exists.1 ht;rw[show (envL θ s0).lookup t=_ from iV hav];rfl
 have u: ∀x∈l,∀j∈x.b,j<x.i:=by
  intro x U j hj;obtain ⟨l1,h1,-⟩:=p.get U;have hG:=Skel.good_of_ok N G h1.ho
  have:=hG.bef j (by rw[(p.opAt U _).2];exact hj)
  exact this.1
 refine SU (C:=[F]) (p8 s0 ops l (jC s0.nxt s0.chs l)) (S5 P w0 J θ s0.nxt l (jC s0.nxt s0.chs l)) N (ZJ R p o T hc) hm r.agr r.st ?_ G W (Xu R p o hB T hc G N u) ?_
 ·refine (List.Perm.of_eq ?_);congr 1;show _=(s0.chs.map _).map _;rw[List.map_map];refine List.map_congr_left fun e E=>?_;show _=match _ with | some e=>toCh P (tj θ s0.nxt fun _=>undef) e | none=>_
  rw[uW T (mn.2 (.inl E))];exact (o0 pb (R.chs e E)).symm
 ·intro n a' w' A hA hst;have m: ∀y∈l,YN P w0 J (tj θ s0.nxt n) s0.nxt y (n y.i):=fun y d=>A y.i (by rw[<-o];exact p.lt y d) y d rfl;have Z:=words hB T R p hc u (List.range l.length) (fun y d _ k O=>List.mem_range.2 (Nat.lt_trans (u y d k O) (p.lt y d))) (fun y d _=>m y d);have g: ∀x∈l,_:=fun x U=>Z x U fun k O=>List.mem_range.2 (Nat.lt_trans (u x U k O) (p.lt x U));have H:Fine P w0 J (tj θ s0.nxt n) (SW s0 l):=KQ hB T R p hc l (fun y d=>d) (List.range l.length) l.length (fun j hj=>List.mem_range.1 hj) (fun y d _=>m y d) (fun y d _=>(g y d).2.1) (fun y d _=>(g y d).2.2) (U6 R p);refine K (SW s0 l) (tj θ s0.nxt n) a' w' h ⟨r.le,hA.sub fun t v hv=>?_,?_,H⟩ (Fr.rfl.trans ⟨Nat.le_add_right _ _,pb,fun e E hv=>?_,fun e E h' z c hs=>?_⟩)
  ·
   cases hl:look (SW s0 l).env t with
   | none =>
    exfalso
    have: ∀ {env:List (Nat×Nat×AV)} {θ:Th},look env t=none->(env.map fun e=>(e.1,e.2.2.v θ)).lookup t=none:=by
     intro env θ;induction env with
     | nil=>intro _;rfl
     | cons e env ih =>
      intro hh;unfold look at hh;split at hh
      ·cases hh
      ·rename_i hu;rw[List.map_cons,List.lookup_cons];have hne:(t==e.1)=false:=by
        simp only[beq_eq_false_iff_ne];intro e';subst e';exact hu (Nat.beq_refl _)
       rw[show (t==(e.1,AV.v θ e.2.2).1)=false from hne];exact ih hh
    rw[show (envL (tj θ s0.nxt n) (SW s0 l)).lookup t=none from this hl] at hv;cases hv
   | some av =>
    have hv2:=iV (θ:=tj θ s0.nxt n) hl;obtain rfl:=ae (hv2.symm.trans hv);obtain ⟨z,D,-⟩:=uX hl;have X:=ZI (L1:=l) (b:=List.range l.length) (i:=l.length) R (fun y d=>d) (fun y d _=>m y d) (t:=t) (v:=z) (av:=av) hl D
    have:=fin_ok (n0:=s0.nxt) (seen:=[]) (f:=fun s=>match s with | some j=>n j | none=>((envL θ s0).lookup t).getD undef) (by simp) D
    have key: ∀M:List (Nat×Option Nat),(M.map fun q=>(q.1,match q.2 with | some j=>n j | none=>((envL θ s0).lookup q.1).getD undef)).lookup t=(M.map fun q=>(q.1,(fun s=>match s with | some j=>n j | none=>((envL θ s0).lookup t).getD undef) q.2)).lookup t:=by
     intro M;induction M with
     | nil=>rfl
     | cons q M ih =>
      rw[List.map_cons,List.map_cons,List.lookup_cons,List.lookup_cons];by_cases e:t=q.1
      ·subst e;simp
      ·rw[show (t==q.1)=false from by simpa using e];exact ih
    exact (key _).trans (this.trans (congrArg some X))
  ·have e:((SW s0 l).chs.map (numOf · (jC s0.nxt s0.chs l))).map ((S5 P w0 J θ s0.nxt l (jC s0.nxt s0.chs l)).chunk · n)=(SW s0 l).chs.map (toCh P (tj θ s0.nxt n)):=by
    rw[List.map_map];refine List.map_congr_left fun e E=>?_;show (match _ with | some e=>toCh P (tj θ s0.nxt n) e | none=>_)=_;rw[uW T (zj E).1]
   rw[<-e];exact hst
  ·obtain ⟨B,h6⟩:=Fm E;rcases wH B with B | ⟨y,d,k1,k2,k3⟩
   ·exact B
   ·omega
  ·obtain ⟨B,h6⟩:=zj E;have L:Nf s0 l h' z c:=by
    rcases mn.1 B with B | ⟨y,d,B⟩
    ·exact .inl ⟨e,B,hs⟩
    ·exact (g y d).2.1 e B h' z c hs
   rcases L with ⟨e0,he0,O⟩ | ⟨y,d,O⟩
   ·exact .inr ⟨e0,he0,O⟩
   ·have:=(kO O).1
    exact .inl (by simp only at this;omega)
theorem MA {hs:List Hdr} : ∀ {s:Sg} {J:Hp},Sim P I w0 F V.n J θ s a w-> ∃J',J.le J'/\Sim P I w0 F V.n J' θ (Fl hs s) a w/\Fr s θ (Fl hs s) θ:=by
 induction hs with
 | nil=>exact fun b=>⟨_,Hp.le.rfl,b,Fr.rfl⟩
 | cons h hs ih =>
  intro s J b;have k: ∃J',J.le J'/\Sim P I w0 F V.n J' θ (zg h s) a w/\Fr s θ (zg h s) θ:=by
   unfold zg;split
   ·exact Hi ‹_› b
   ·exact ⟨J,Hp.le.rfl,b,Fr.rfl⟩
  obtain ⟨m,d,f,i⟩:=k;obtain ⟨j,c,g,e⟩:=ih f;exact ⟨j,d.trans c,g,i.trans e⟩
theorem Pp {s:Sg} (b:Sim P I w0 F V.n J θ s a w): ∃J',J.le J'/\Sim P I w0 F V.n J' θ (xN ops s) a w/\Fr s θ (xN ops s) θ:=by
 unfold xN;split
 ·exact MA b
 ·exact ⟨J,Hp.le.rfl,b,Fr.rfl⟩
theorem S6 {tr:Trs} {s:Sg} (f:Sim P I w0 F V.n J θ s a w): ∃b θ',J.le b/\Sim P I w0 F V.n b θ' (SY tr ops s) a w/\Fr s θ (SY tr ops s) θ':=by
 obtain ⟨θ1,o,j⟩:=AY f;obtain ⟨g,c,n,i⟩:=Pp (ops:=ops) o;obtain ⟨e,d⟩:=uT (hs:=BW (xN ops (tg s)) ops) n;have d:=(j.trans i).trans d
 show∃b θ',J.le b/\Sim P I w0 F V.n b θ' (KP tr ops (xJ (BW (xN ops (tg s)) ops) (xN ops (tg s)))) a w/\Fr s θ (KP tr ops (xJ (BW (xN ops (tg s)) ops) (xN ops (tg s)))) θ'
 unfold KP;split
 ·exact ⟨g,θ1,c,e,d⟩
 ·obtain ⟨b,θ',m,h,k⟩:=wG e;exact ⟨b,θ',c.trans m,h,d.trans k⟩
theorem S7 {Y:Type} {id:Nat} {k:Sg->Option Y} {res:Y} {Q:Exit->Act->World->Prop} (p:TTok P V.tt) (r:FTok P V.ft) (n:P.follows .mixedOrders=true) {s:Sg} (h:Xs V ops k s=some res) (i:Sim P I w0 F V.n J θ s a w)
  (K: ∀b J' θ' c d,k b=some res->Sim P I w0 F V.n J' θ' b c d->J.le J'->Fr s θ b θ'->Q .normal c d):(Code.region id ops.toArray true).wp P Q a w:=by
 obtain ⟨q,θ1,m,o,j⟩:=S6 (tr:=V.tr) (ops:=ops) i;exact Po p r n (show KO V ops k (SY V.tr ops s)=some res from h) o fun b θ' c d g f e=>K b q θ' c d g f m (j.trans e)
end
inductive Ann
 | no
 | two (a b:Ann)
 | loop (sh:List It) (a:Ann)
 | join (sh:List It) (a b:Ann)
 | joinX (sh:List It) (a b:Ann)
 | at (sh:List It) (a:Ann)
 | atX (sh:List It) (a:Ann)
def Ann.t (a:Ann):Ann:=.two .no a
def Ann.l:Ann->Ann
 | .two a _=>a
 | _=>.no
def Ann.r:Ann->Ann
 | .two _ b=>b
 | _=>.no
def Hy:Code->List Nat
 | .region _ ops _=>ops.toList.filterMap (·.dst)
 | .seq a b=>Hy a++Hy b
 | .cond _ a b=>Hy a++Hy b
 | .block _ a=>Hy a
 | .loop a=>Hy a
 | .scope a=>Hy a
 | _=>[]
def Pq:List It->List Nat
 | [] =>[]
 | .slot t _::is=>t::Pq is
 | _::is=>Pq is
def De (c:Code) (is:List It):List Nat:=Hy c++Pq is
def ZK {Y:Type} (i:Nat) (kb:Sg->Option Y) (kx:Nat->Sg->Option Y):Nat->Sg->Option Y:=fun j s=>if Nat.beq j i then kb s else kx j s
def ZL (V:Env) {R Y:Type} (c:Code) (n:Ann) (kr:R->Option Y) (kx:Nat->Sg->Option Y) (kn:Sg->Option Y) (s:Sg) (run:(Z:Type)->Ann->(R->Option Z)->(Nat->Sg->Option Z)->(Sg->Option Z)->Sg->Option Z):Option Y:=match n with
 | .at sh n=>(BP (De c sh) sh s).bind fun q=>Option.bind (run (UX (th q.its)) n (fun _=>none) (fun _ _=>none) (fun s'=>(q.of s').bind fun d=>some (ofN _ d)) s) fun d=>kn (q.at (toN _ d))
 | .atX sh n=>(BP (De c sh) sh s).bind fun q=>yS (run (Y ⊕ UX (th q.its)) n (fun r=>(kr r).bind fun t=>some (.inl t)) (fun i s'=>(kx i s').bind fun t=>some (.inl t)) (fun s'=>(q.of s').bind fun d=>some (.inr (ofN _ d))) s) fun d=>kn (q.at (toN _ d))
 | n=>run Y n kr kx kn s
noncomputable def kH (V:Env) {R:Type} (rt:Sg->Option R):(c:Code)-> {Y:Type} ->Ann->(R->Option Y)->(Nat->Sg->Option Y)->(Sg->Option Y)->Sg->Option Y
 | .skip,_,_,kr,kx,kn,s=>kn s
 | .ret,_,_,kr,kx,kn,s=>(rt s).bind kr
 | .region id ops dr,_,n,kr,kx,kn,s=>ZL V (.region id ops dr) n kr kx kn s fun Z n kr kx kn s=>match dr with
  | false=>Hj V ops.toList (fun s=>kn (UV s)) ops.toList s
  | true=>Xs V ops.toList (fun s=>kn (UV s)) s
 | .seq a b,Y,n,kr,kx,kn,s=>match n with
  | .join sh n1 n2=>(BP (De a sh) sh s).bind fun q=>Option.bind (kH V rt a n1 (Y:=UX (th q.its)) (fun _=>none) (fun _ _=>none) (fun s'=>(q.of s').bind fun d=>some (ofN _ d)) s) fun d=>kH V rt b n2 kr kx kn (q.at (toN _ d))
  | .joinX sh n1 n2=>(BP (De a sh) sh s).bind fun q=>yS (kH V rt a n1 (Y:=Y ⊕ UX (th q.its)) (fun r=>(kr r).bind fun t=>some (.inl t)) (fun i s'=>(kx i s').bind fun t=>some (.inl t)) (fun s'=>(q.of s').bind fun d=>some (.inr (ofN _ d))) s) fun d=>kH V rt b n2 kr kx kn (q.at (toN _ d))
  | n=>kH V rt a n.l kr kx (fun s'=>kH V rt b n.r kr kx kn s') s
 | .cond c a b,_,n,kr,kx,kn,s=>ZL V (.cond c a b) n kr kx kn s fun Z n kr kx kn s=>(opd s c).bind fun v=>onB v (kH V rt a n.l kr kx kn s) (kH V rt b n.r kr kx kn s)
 | .block i (.loop c),_,n,kr,kx,kn,s=>ZL V (.block i (.loop c)) n kr kx kn s fun Z n kr kx kn s=>match n with
  | .loop sh n=>(BP (De c sh) sh s).bind fun q=>(q.of s).bind fun d0 =>
    aO (al (fun d=>kH V rt c n (Y:=Out R (UX (th q.its))) (fun r=>some (.ret r)) (ZK i (fun s'=>(q.of s').bind fun d=>some (.brk (ofN _ d))) fun _ _=>none) (fun s'=>(q.of s').bind fun d=>some (.nxt (ofN _ d))) (q.at (toN _ d))) aW (ofN _ d0)) kr (fun d=>kn (q.at (toN _ d)))
  | _=>none
 | .block i c,_,n,kr,kx,kn,s=>ZL V (.block i c) n kr kx kn s fun Z n kr kx kn s=>kH V rt c n kr (ZK i kn kx) kn s
 | .exit i,_,_,kr,kx,kn,s=>kx i s
 | _,_,_,_,_,_,_=>none
section
variable {V:Env} {P:Program} {I:Hp} {w0:World} {F:Ch} {R:Type} {rt:Sg->Option R}
def IOk (V : Env) (P : Program) (I : Hp) (w0 : World) (F : Ch) {R : Type} (rt : Sg -> Option R) (c : Code) : Prop := ∀ {Y : Type} (n : Ann) {kr : R -> Option Y} {kx : Nat -> Sg -> Option Y} {kn : Sg -> Option Y} {s : Sg} {y : Y} {Q : Exit -> Act -> World -> Prop} {J : Hp} {θ : Th} {a : Act} {w : World},
    kH V rt c n kr kx kn s = some y -> Sim P I w0 F V.n J θ s a w ->
    (∀ J' θ' s' a' w', kn s' = some y -> Sim P I w0 F V.n J' θ' s' a' w' -> J.le J' -> Fr s θ s' θ' -> Q .normal a' w') ->
    (∀ i J' θ' s' a' w', kx i s' = some y -> Sim P I w0 F V.n J' θ' s' a' w' -> J.le J' -> Fr s θ s' θ' -> Q (.exit i) a' w') ->
    (∀ r J' θ' s' a' w', rt s' = some r -> kr r = some y -> Sim P I w0 F V.n J' θ' s' a' w' -> J.le J' -> Fr s θ s' θ' -> Q .ret a' w') -> c.wp P Q a w
def ROk (V : Env) (P : Program) (I : Hp) (w0 : World) (F : Ch) {R : Type} (rt : Sg -> Option R) (c : Code) (run : (Z : Type) -> Ann -> (R -> Option Z) -> (Nat -> Sg -> Option Z) -> (Sg -> Option Z) -> Sg -> Option Z) : Prop := ∀ {Y : Type} (n : Ann) {kr : R -> Option Y} {kx : Nat -> Sg -> Option Y} {kn : Sg -> Option Y} {s : Sg} {y : Y} {Q : Exit -> Act -> World -> Prop} {J : Hp} {θ : Th} {a : Act} {w : World},
    run Y n kr kx kn s = some y -> Sim P I w0 F V.n J θ s a w ->
    (∀ J' θ' s' a' w', kn s' = some y -> Sim P I w0 F V.n J' θ' s' a' w' -> J.le J' -> Fr s θ s' θ' -> Q .normal a' w') ->
    (∀ i J' θ' s' a' w', kx i s' = some y -> Sim P I w0 F V.n J' θ' s' a' w' -> J.le J' -> Fr s θ s' θ' -> Q (.exit i) a' w') ->
    (∀ r J' θ' s' a' w', rt s' = some r -> kr r = some y -> Sim P I w0 F V.n J' θ' s' a' w' -> J.le J' -> Fr s θ s' θ' -> Q .ret a' w') -> c.wp P Q a w
theorem Fo {c:Code} {run:(Z:Type)->Ann->(R->Option Z)->(Nat->Sg->Option Z)->(Sg->Option Z)->Sg->Option Z} (K:ROk V P I w0 F rt c run) {Y:Type} (n:Ann) {E:R->Option Y} {H:Nat->Sg->Option Y} {C:Sg->Option Y} {s:Sg} {y:Y} {Q:Exit->Act->World->Prop} {J:Hp} {θ:Th} {a:Act} {w:World}
  (h:ZL V c n E H C s run=some y) (v:Sim P I w0 F V.n J θ s a w)
  (A: ∀k θ' g j l,C g=some y->Sim P I w0 F V.n k θ' g j l->J.le k->Fr s θ g θ'->Q .normal j l)
  (T: ∀i k θ' g j l,H i g=some y->Sim P I w0 F V.n k θ' g j l->J.le k->Fr s θ g θ'->Q (.exit i) j l)
  (S: ∀r k θ' g j l,rt g=some r->E r=some y->Sim P I w0 F V.n k θ' g j l->J.le k->Fr s θ g θ'->Q .ret j l):c.wp P Q a w:=by
 have plain: ∀n,run Y n E H C s=some y->c.wp P Q a w:=fun n h=>K n h v A T S;cases n with
 | «at» x n =>
  obtain ⟨q,L,h⟩:=bind_some (show (BP (De c x) x s).bind _=some y from h);obtain ⟨d,M,m⟩:=bind_some h;have O:=xL L v.fine;refine K n M v (fun k θ' g j l p f u b=>?_) (fun i k θ' g j l p f u b=>by cases p) (fun r k θ' g j l U D f u b=>by cases D);obtain ⟨W,z,p⟩:=bind_some p;obtain rfl:=ae p;obtain ⟨θ2,G,N⟩:=BR O f b u z;rw[qF] at m;exact A k θ2 _ j l m G u N
 | atX x n =>
  obtain ⟨q,L,h⟩:=bind_some (show (BP (De c x) x s).bind _=some y from h);obtain ⟨o,M,m⟩:=DD h;have O:=xL L v.fine;refine K n M v (fun k θ' g j l p f u b=>?_) (fun i k θ' g j l p f u b=>?_) (fun r k θ' g j l U D f u b=>?_)
  ·obtain ⟨W,z,p⟩:=bind_some p;obtain rfl:=ae p;obtain ⟨θ2,G,N⟩:=BR O f b u z;rcases m with ⟨d,e,m⟩ | m
   ·obtain rfl:=Sum.inr.inj e;rw[qF] at m;exact A k θ2 _ j l m G u N
   ·cases m
  ·obtain ⟨t,B,p⟩:=bind_some p;obtain rfl:=ae p;rcases m with ⟨d,e,m⟩ | m
   ·cases e
   ·obtain rfl:=Sum.inl.inj m;exact T i k θ' g j l B f u b
  ·obtain ⟨t,B,p⟩:=bind_some D;obtain rfl:=ae p;rcases m with ⟨d,e,m⟩ | m
   ·cases e
   ·obtain rfl:=Sum.inl.inj m;exact S r k θ' g j l U B f u b
 | no=>exact plain _ h
 | two _ _=>exact plain _ h
 | loop _ _=>exact plain _ h
 | join _ _ _=>exact plain _ h
 | joinX _ _ _=>exact plain _ h
theorem rU (hT:TTok P V.tt) (hF:FTok P V.ft) (hm:P.follows .mixedOrders=true): ∀c:Code,IOk V P I w0 F rt c/\ ∀c',c= .loop c'->IOk V P I w0 F rt c':=by
 intro c;induction c with
 | skip =>
  refine ⟨?_,fun c' e=>(by cases e)⟩;intro Y n M O L s y Q J θ a w h p D G E;exact wp_skip (D J θ s a w h p Hp.le.rfl Fr.rfl)
 | ret =>
  refine ⟨?_,fun c' e=>(by cases e)⟩;intro Y n M O L s y Q J θ a w h p D G E;obtain ⟨r,h1,K⟩:=bind_some (show (rt s).bind M=some y from h);exact wp_ret (E r J θ s a w h1 K p Hp.le.rfl Fr.rfl)
 | exit i =>
  refine ⟨?_,fun c' e=>(by cases e)⟩;intro Y n M O L s y Q J θ a w h p D G E;exact wp_exit (G i J θ s a w h p Hp.le.rfl Fr.rfl)
 | region id ops dr =>
  refine ⟨?_,fun c' e=>(by cases e)⟩;intro Y n M O L s y Q J θ a w h p D G E;refine Fo (fun {Y} n {M O L s y Q J θ a w} h p D G E=>?_) n h p D G E;cases dr with
  | true =>
   have h:Xs V ops.toList (fun s=>L (UV s)) s=some y:=h
   have:=S7 (id:=id) hT hF hm h p fun A u θ' B C k g m f=>by
    obtain ⟨θ2,N,H⟩:=O2 g;exact D u θ2 (UV A) B C k N m (f.trans H)
   rwa [Array.toArray_toList] at this
  | false =>
   have h:Hj V ops.toList (fun s=>L (UV s)) ops.toList s=some y:=h;exact wp_region_lit (l:=ops.toList) (Hl hT hF h p fun A u θ' B C k g m f=>by
    obtain ⟨θ2,N,H⟩:=O2 g;exact D u θ2 (UV A) B C k N m (f.trans H))
 | cond c x y ihx ihy =>
  refine ⟨?_,fun c' e=>(by cases e)⟩;intro Y n M O L s r Q J θ a w h p D G E;refine Fo (fun {Y} n {M O L s r Q J θ a w} h p D G E=>?_) n h p D G E;obtain ⟨v,hv',h⟩:=bind_some (show (opd s c).bind _=some r from h);obtain ⟨b,hb,h⟩:=Uy h;have k:Nj (envL θ s) c=true:=by
   cases c with
   | tmp t =>
    have:=iV (θ:=θ) (show look s.env t=some v from hv')
    show ((envL θ s).lookup t).isSome=true;rw[show (envL θ s).lookup t=_ from this];rfl
   | _=>rfl
  have hev:evL (envL θ s) c= .bool b:=(aH hv').trans (hb θ);cases b with
  | true=>exact Ru p.agr k hev rfl (ihx.1 n.l h p D G E)
  | false=>exact Nq p.agr k hev rfl (ihy.1 n.r h p D G E)
 | seq x z ihx ihz =>
  refine ⟨?_,fun c' e=>(by cases e)⟩;intro Y n M O L s y Q J θ a w h p D G E;have plain:kH V rt x n.l M O (fun A=>kH V rt z n.r M O L A) s=some y->(Code.seq x z).wp P Q a w:=fun h =>
   wp_seq (ihx.1 n.l h p (fun u θ' A B C k g m f=>ihz.1 n.r k g (fun J2 θ2 s2 a2 w2 k2 N L2 H=>D J2 θ2 s2 a2 w2 k2 N (m.trans L2) (f.trans H)) (fun i J2 θ2 s2 a2 w2 k2 N L2 H=>G i J2 θ2 s2 a2 w2 k2 N (m.trans L2) (f.trans H)) (fun r J2 θ2 s2 a2 w2 T S N L2 H=>E r J2 θ2 s2 a2 w2 T S N (m.trans L2) (f.trans H)))
    (fun i u θ' A B C k g m f=>V5 (G i u θ' A B C k g m f)) (fun r u θ' A B C T S g m f=>V6 (E r u θ' A B C T S g m f)))
  cases n with
  | join sh n1 n2 =>
   obtain ⟨q,hq,h⟩:=bind_some (show (BP (De x sh) sh s).bind _=some y from h);obtain ⟨d,h1,K⟩:=bind_some h;have hC:=xL hq p.fine;refine wp_seq (ihx.1 n1 h1 p (fun u θ' A B C k g m f=>?_) (fun i u θ' A B C k g m f=>by cases k) (fun r u θ' A B C T S g m f=>by cases S));obtain ⟨d',hd,k⟩:=bind_some k;obtain rfl:=ae k;obtain ⟨θ2,N,H⟩:=BR hC g f m hd;rw[qF] at K;exact ihz.1 n2 K N (fun J3 θ3 s3 X w3 k3 S3 U F3=>D J3 θ3 s3 X w3 k3 S3 (m.trans U) (H.trans F3)) (fun i J3 θ3 s3 X w3 k3 S3 U F3=>G i J3 θ3 s3 X w3 k3 S3 (m.trans U) (H.trans F3)) (fun r J3 θ3 s3 X w3 T S S3 U F3=>E r J3 θ3 s3 X w3 T S S3 (m.trans U) (H.trans F3))
  | joinX sh n1 n2 =>
   obtain ⟨q,hq,h⟩:=bind_some (show (BP (De x sh) sh s).bind _=some y from h);obtain ⟨o,h1,K⟩:=DD h;have hC:=xL hq p.fine;refine wp_seq (ihx.1 n1 h1 p (fun u θ' A B C k g m f=>?_) (fun i u θ' A B C k g m f=>?_) (fun r u θ' A B C T S g m f=>?_))
   ·obtain ⟨d',hd,k⟩:=bind_some k;obtain rfl:=ae k;obtain ⟨θ2,N,H⟩:=BR hC g f m hd;rcases K with ⟨d,e,K⟩ | K
    ·obtain rfl:=Sum.inr.inj e;rw[qF] at K;exact ihz.1 n2 K N (fun J3 θ3 s3 X w3 k3 S3 U F3=>D J3 θ3 s3 X w3 k3 S3 (m.trans U) (H.trans F3)) (fun i J3 θ3 s3 X w3 k3 S3 U F3=>G i J3 θ3 s3 X w3 k3 S3 (m.trans U) (H.trans F3)) (fun r J3 θ3 s3 X w3 T S S3 U F3=>E r J3 θ3 s3 X w3 T S S3 (m.trans U) (H.trans F3))
    ·cases K
   ·obtain ⟨t,ht,k⟩:=bind_some k;obtain rfl:=ae k;rcases K with ⟨d,e,K⟩ | K
    ·cases e
    ·obtain rfl:=Sum.inl.inj K;exact V5 (G i u θ' A B C ht g m f)
   ·obtain ⟨t,ht,k⟩:=bind_some S;obtain rfl:=ae k;rcases K with ⟨d,e,K⟩ | K
    ·cases e
    ·obtain rfl:=Sum.inl.inj K;exact V6 (E r u θ' A B C T ht g m f)
  | no=>exact plain h
  | two _ _=>exact plain h
  | loop _ _=>exact plain h
  | «at» _ _=>exact plain h
  | atX _ _=>exact plain h
 | block i x ih =>
  refine ⟨?_,fun c' e=>(by cases e)⟩;intro Y n M O L s y Q J θ a w h p D G E;have plain:ROk V P I w0 F rt (.block i x) (fun Z n M O L s=>kH V rt x n M (ZK i L O) L s):=fun {Y} n {M O L s y Q J θ a w} h p D G E =>
   wp_block (ih.1 n h p (fun u θ' A B C k g m f=>ac9 (D u θ' A B C k g m f))
    (fun j u θ' A B C k g m f=>by
     unfold ZK at k;split at k
     ·rename_i hj
      have:j=i:=au hj
      subst this;exact Y1 (D u θ' A B C k g m f)
     ·rename_i hj;exact Y2 (fun e=>hj (by rw[e];exact Nat.beq_refl i)) (G j u θ' A B C k g m f))
    (fun r u θ' A B C T S g m f=>acz (E r u θ' A B C T S g m f)))
  cases x with
  | loop x =>
   clear plain;refine Fo (fun {Y} n {M O L s y Q J θ a w} h p D G E=>?_) n h p D G E;cases n with
   | loop sh n =>
    obtain ⟨q,hq,h⟩:=bind_some (show (BP (De x sh) sh s).bind _=some y from h);obtain ⟨d0,hd0,h⟩:=bind_some h;obtain ⟨o,ho,hc⟩:=LQ h;have hC:=xL hq p.fine;have hx:IOk V P I w0 F rt x:=ih.2 x rfl;refine wp_block (Rv (fun d a w=> ∃u θ',J.le u/\Sim P I w0 F V.n u θ' (q.at (toN _ d)) a w/\Fr s θ (q.at (toN _ d)) θ') ho ?_ ?_)
    ·obtain ⟨θ1,S1,F1⟩:=BR hC p Fr.rfl Hp.le.rfl hd0;exact ⟨J,θ1,Hp.le.rfl,by rw[qF];exact S1,by rw[qF];exact F1⟩
    ·rintro d o' hf hlast a w ⟨J1,θ1,L1,S1,F1⟩;refine hx n hf S1 (fun u θ' A B C k g m f=>?_) (fun j u θ' A B C k g m f=>?_) (fun r u θ' A B C T S g m f=>?_)
     ·obtain ⟨d',hd,k⟩:=bind_some k;obtain rfl:=ae k;obtain ⟨θ2,N,H⟩:=BR hC g (F1.trans f) (L1.trans m) hd;exact nrm ⟨_,rfl,u,θ2,L1.trans m,by rw[qF];exact N,by rw[qF];exact H⟩
     ·unfold ZK at k;split at k
      ·rename_i hj
       have:j=i:=au hj
       subst this;obtain ⟨d',hd,k⟩:=bind_some k;obtain rfl:=ae k;have W:=hlast (by simp);obtain ⟨θ2,N,H⟩:=BR hC g (F1.trans f) (L1.trans m) hd;rcases hc with ⟨d2,e,hc⟩ | ⟨r,e,hc⟩
       ·obtain rfl:=Out.brk.inj (W.trans e);rw[qF] at hc;exact V5 (Y1 (D u θ2 _ B C hc N (L1.trans m) H))
       ·cases W.trans e
      ·cases k
     ·obtain rfl:=ae S;have W:=hlast (by simp);rcases hc with ⟨d2,e,hc⟩ | ⟨r',e,hc⟩
      ·cases W.trans e
      ·obtain rfl:=Out.ret.inj (W.trans e);exact V6 (acz (E r u θ' A B C T hc g (L1.trans m) (F1.trans f)))
   | _=>cases h
  | _=>exact Fo plain n h p D G E
 | loop x ih =>
  refine ⟨?_,fun c' e=>?_⟩
  ·intro Y n M O L s y Q J θ a w h p D G E;cases h
  ·cases e;exact ih.1
 | _ =>
  refine ⟨?_,fun c' e=>(by cases e)⟩;intro Y n M O L s y Q J θ a w h p D G E;cases h
end
def Ps (i:Nat):(p:PM)->p.den->AV
 | .rd t,d=>NH i t d
 | .ow t,d=>N1 (mg i [] t d)
 | .fn a b,d=>.one (.fn ⟨i,[]⟩ a b d)
 | .cap T t,d=>.one (.fz ⟨i,[]⟩ T t d 0)
 | .capf T a b,d=>.one (.fzf ⟨i,[]⟩ T a b d)
 | .ptr _ _,_=>.one (.ptr ⟨i,[]⟩ 0)
 | .eat t,d=>N1 (mg i [] t d)
 | .fk g,_=>.one (.val (.func (.func g) #[] #[]))
 | .crs _ _,_=>.one (.ptr ⟨i,[]⟩ 0)
 | .kb _ _ _,_=>.one (.own ⟨i,[]⟩)
 | .kc _,_=>.one (.own ⟨i,[]⟩)
def KT (q i:Nat):(p:PM)->p.den->List (Hdr×Chk)
 | .ow t,d=>mW i [] t d
 | .ptr T t,d=>[(⟨i,[]⟩,.box T t d)]
 | .eat t,d=>mW i [] t d
 | .crs T E,d=>[(⟨i,[]⟩,.blk T [.rd ⟨q,[]⟩ (.sl E (.int .u8)) d.1,.val (.int .i64 d.2.1),.val (.int .i64 d.2.2)])]
 | .kb g T t,d=>[(⟨i,[]⟩,.clo g [] [.ptr ⟨q,[]⟩ 0]),(⟨q,[]⟩,.box T t d)]
 | .kc g,_=>[(⟨i,[]⟩,.clo g [] [.ptr ⟨q,[]⟩ 0])]
 | _,_=>[]
def KU:(i:Nat)->(ps:List PM)->denP ps->List (Nat×Nat×AV)
 | _,[],_=>[]
 | i,p::ps,d=>(i,i,Ps i p d.1)::KU (i+1) ps d.2
def Hz (q:Nat):(i:Nat)->(ps:List PM)->denP ps->List Ent
 | _,[],_=>[]
 | i,p::ps,d=>(KT q i p d.1).map (fun g=>(g.1,i,g.2))++Hz q (i+1) ps d.2
def BX (ps:List PM) (d:denP ps):Sg:=⟨KU 0 ps d,Hz ps.length 0 ps d,ps.length+1⟩
def acP (P:Program) (w0:World) (J:Hp) (θ:Th) (n i:Nat):(p:PM)->Value->p.den->Prop
 | .ow t,v,d=>(mg i [] t d).2.map (·.v θ)=lP t.isProd v/\ ∀x∈(mg i [] t d).2,x.ok P w0 J θ n
 | .ptr _ _,v,_=>hv θ ⟨i,[]⟩=v/\i<n
 | .crs _ _,v,_=>hv θ ⟨i,[]⟩=v/\i<n
 | _,_,_=>True
def StF (P:Program) (w0:World) (J:Hp) (θ:Th) (n:Nat):(i:Nat)->(ps:List PM)->List Value->denP ps->Prop
 | i,p::ps,v::vs,d=>acP P w0 J θ n i p v d.1/\StF P w0 J θ n (i+1) ps vs d.2
 | _,_,_,_=>True
section
variable {P:Program} {w0 w:World} {J:Hp} {θ:Th} {n:Nat} {C:List Ch}
theorem Ae {id:Nat} {pre:List Nat} {t:Ty} {d:t.den} : ∀g∈mW id pre t d,RT g.2:=jH t d 0
theorem Pt {p:PM} {i:Nat} {v:Value} {d:p.den} {ps:List PM} {vs:List Value} {e:denP ps} {γ:Value} {q:Nat} (hi:i<n) (F:q<n) (o:θ q=γ) (j:θ i=v) (h:abF P w0 J γ p v d) (k:St J w0 w (owCh γ (p::ps) (v::vs) (d,e)++C)) :
  (∀chs,(Ps i p d).ok P w0 J θ n chs)/\(Ps i p d).v θ=v/\St J w0 w ((KT q i p d).map (fun g=>toCh P θ (g.1,i,g.2))++(owCh γ ps vs e++C))/\(∀g∈KT q i p d,∀chs,okE P w0 J θ n chs (g.1,i,g.2))/\acP P w0 J θ n i p v d:=by
 cases p with
 | rd t =>
  obtain ⟨Q,A,r⟩:=h;have B:=fun chs=>qZ (P:=P) (w0:=w0) (J:=J) (chs:=chs) hi j t d Q r A;exact ⟨fun chs=>(B chs).1,(B []).2,k,fun g c=>(by cases c),trivial⟩
 | fn a b =>
  have f:hv θ ⟨i,[]⟩=v:=j;exact ⟨fun chs=>⟨hi,by rw[f];exact h⟩,f,k,fun g c=>(by cases c),trivial⟩
 | cap T t =>
  obtain ⟨b,rfl,cells,A,r⟩:=h;have f:hv θ ⟨i,[]⟩= .pointer (some ⟨b,0,none⟩):=j;refine ⟨fun chs=>⟨hi,cells,by rw[f];exact A,r⟩,?_,k,fun g c=>(by cases c),trivial⟩;show Value.pointer (some ⟨bk (hv θ ⟨i,[]⟩),0,none⟩)=_;rw[f];rfl
 | capf T x y =>
  obtain ⟨b,rfl,u,A,r⟩:=h;have f:hv θ ⟨i,[]⟩= .pointer (some ⟨b,0,none⟩):=j;refine ⟨fun chs=>⟨hi,u,by rw[f];exact A,r⟩,?_,k,fun g c=>(by cases c),trivial⟩;show Value.pointer (some ⟨bk (hv θ ⟨i,[]⟩),0,none⟩)=_;rw[f];rfl
 | ptr T t =>
  obtain ⟨b,rfl⟩:=h;have f:hv θ ⟨i,[]⟩= .pointer (some ⟨b,0,none⟩):=j;refine ⟨fun chs=>hi,?_,?_,fun g c chs=>by obtain rfl:=ak c;exact tF trivial hi hi,f,hi⟩
  ·show Value.pointer (some ⟨bk (hv θ ⟨i,[]⟩),0,none⟩)=_;rw[f];rfl
  ·show St J w0 w (Ch.box (bk (hv θ ⟨i,[]⟩)) T t.rep d::_);rw[f];exact k
 | ow t =>
  have k:St J w0 w (Ch.own t.rep (lP t.isProd v) d::(owCh γ ps vs e++C)):=k;obtain ⟨D,O,I,G,K⟩:=xz (P:=P) (m:=i) (pre:=[]) (id:=i) (n:=n) hi (show hv θ ⟨i,[]⟩=v from j) h k;have q:=fun chs=>ES (P:=P) (w0:=w0) (J:=J) (θ:=θ) (n:=n) (chs:=chs) (mg i [] t d) (fun e=>tD e) D;exact ⟨fun chs=>(q chs).1,(q []).2.trans I,K,fun g c chs=>tF (Ae g c) (by rw[G g c];exact hi) hi,O,D⟩
 | eat t =>
  have k:St J w0 w (Ch.own t.rep (lP t.isProd v) d::(owCh γ ps vs e++C)):=k;obtain ⟨D,O,I,G,K⟩:=xz (P:=P) (m:=i) (pre:=[]) (id:=i) (n:=n) hi (show hv θ ⟨i,[]⟩=v from j) h k;have q:=fun chs=>ES (P:=P) (w0:=w0) (J:=J) (θ:=θ) (n:=n) (chs:=chs) (mg i [] t d) (fun e=>tD e) D;exact ⟨fun chs=>(q chs).1,(q []).2.trans I,K,fun g c chs=>tF (Ae g c) (by rw[G g c];exact hi) hi,trivial⟩
 | fk g =>
  obtain rfl:=h;exact ⟨fun chs=>rfl,rfl,k,fun g c=>(by cases c),trivial⟩
 | crs T E =>
  obtain ⟨⟨b,rfl⟩,N⟩:=h;have f:hv θ ⟨i,[]⟩= .pointer (some ⟨b,0,none⟩):=j;have l:hv θ ⟨q,[]⟩=γ:=o;refine ⟨fun chs=>hi,?_,?_,fun g c chs=>?_,f,hi⟩
  ·show Value.pointer (some ⟨bk (hv θ ⟨i,[]⟩),0,none⟩)=_;rw[f];rfl
  ·show St J w0 w (Ch.blk (bk (hv θ ⟨i,[]⟩)) [hv θ ⟨q,[]⟩,.int .i64 d.2.1,.int .i64 d.2.2] T::_);rw[f,l];exact k
  ·obtain rfl:=ak c;refine ⟨hi,hi,fun z s=>?_⟩;rcases aE s with rfl | s
   ·exact ⟨F,by rw[l];exact N⟩
   ·rcases aE s with rfl | s
    ·exact Eq.refl true
    ·obtain rfl:=ak s;exact Eq.refl true
 | kb g T t =>
  obtain ⟨rfl,b,L⟩:=h;have f:hv θ ⟨i,[]⟩= .func (.func g) #[] #[γ]:=j;have l:hv θ ⟨q,[]⟩=γ:=o;have hp:Value.pointer (some ⟨bk (hv θ ⟨q,[]⟩),0,none⟩)=γ:=by rw[l,L];rfl
  refine ⟨fun chs=>⟨hi,by rw[f];rfl⟩,f,?_,fun R c chs=>?_,trivial⟩
  ·show St J w0 w (Ch.emp::Ch.box (bk (hv θ ⟨q,[]⟩)) T t.rep d::_);rw[l];exact St.emp.2 k
  ·rcases aE c with rfl | c
   ·refine ⟨hi,hi,fun y H=>(by cases H),fun x M=>?_,?_⟩
    ·obtain rfl:=ak M;exact F
    ·show hv θ ⟨i,[]⟩= .func (.func g) #[] #[Value.pointer (some ⟨bk (hv θ ⟨q,[]⟩),0,none⟩)];rw[f,hp]
   ·obtain rfl:=ak c;exact tF trivial F hi
 | kc g =>
  obtain ⟨rfl,b,L⟩:=h;have f:hv θ ⟨i,[]⟩= .func (.func g) #[] #[γ]:=j;have l:hv θ ⟨q,[]⟩=γ:=o;have hp:Value.pointer (some ⟨bk (hv θ ⟨q,[]⟩),0,none⟩)=γ:=by rw[l,L];rfl
  refine ⟨fun chs=>⟨hi,by rw[f];rfl⟩,f,?_,fun R c chs=>?_,trivial⟩
  ·show St J w0 w (Ch.emp::_);exact St.emp.2 k
  ·obtain rfl:=ak c;refine ⟨hi,hi,fun y H=>(by cases H),fun x M=>?_,?_⟩
   ·obtain rfl:=ak M;exact F
   ·show hv θ ⟨i,[]⟩= .func (.func g) #[] #[Value.pointer (some ⟨bk (hv θ ⟨q,[]⟩),0,none⟩)];rw[f,hp]
theorem KV {γ:Value} {q:Nat} (o:q<n) (k:θ q=γ): ∀ {ps:List PM} {i:Nat} {vs:List Value} {d:denP ps} {C:List Ch},PArgs P w0 J γ ps vs d->(∀j v,vs[j]? =some v->θ (i+j)=v)->i+ps.length<=n->St J w0 w (owCh γ ps vs d++C)->
  (∀e∈KU i ps d,(∀f,e.2.2.ok P w0 J θ n f)/\i<=e.1/\e.2.1=e.1/\e.1<i+ps.length/\vs[e.1 - i]? =some (e.2.2.v θ))/\((KU i ps d).Pairwise fun a b=>a.2.1≠b.2.1)/\St J w0 w ((Hz q i ps d).map (toCh P θ)++C)/\(∀e∈Hz q i ps d,∀f,okE P w0 J θ n f e)/\StF P w0 J θ n i ps vs d
 | [],i,vs,d,C,h,_,_,hS=>by
  have h:vs= []:=h;subst h;exact ⟨fun e c=>(by cases c),List.Pairwise.nil,hS,fun e c=>(by cases c),trivial⟩
 | p::ps,i,vs,d,C,h,hθ,hn,hS=>by
  obtain ⟨v,r,rfl,M,D⟩:=h;rw[ay] at hn;obtain ⟨F,I,x,L,K⟩:=Pt (n:=n) (i:=i) (θ:=θ) (e:=d.2) (show i<n by omega) o k (hθ 0 v rfl) M hS;obtain ⟨m,B,A,t,z⟩:=KV o k (i:=i+1) D (fun j u s=>by
   have:=hθ (j+1) u s
   rwa [show i+(j+1)=i+1+j from by omega] at this) (by omega) (x.perm (List.perm_append_comm_assoc _ _ _))
  refine ⟨fun e c=>?_,List.pairwise_cons.2 ⟨fun e c l=>?_,B⟩,?_,fun e c f=>?_,K,z⟩
  ·rcases aE c with rfl | c
   ·exact ⟨F,aF _,rfl,by rw[ay];show i<_;omega,by show (v::r)[i - i]? =_;rw[Nat.sub_self,I];rfl⟩
   ·obtain ⟨G,N,E,O,y⟩:=m e c;refine ⟨G,by omega,E,by rw[ay];omega,?_⟩;rw[show e.1 - i=(e.1 - (i+1))+1 from by omega];exact y
  ·have:=m e c
   have l:i=e.2.1:=l;omega
  ·show St J w0 w (((KT q i p d.1).map _++Hz q (i+1) ps d.2).map (toCh P θ)++C);rw[aZ,List.map_map];refine A.perm ?_;rw[aC];exact List.perm_append_comm_assoc _ _ _
  ·rcases aG c with c | c
   ·obtain ⟨g,H,rfl⟩:=List.mem_map.1 c;exact L g H f
   ·exact t e c f
theorem HA {γ:Value} : ∀ {ps:List PM} {vs:List Value} {d:denP ps},PArgs P w0 J γ ps vs d->vs.length=ps.length
 | [],vs,d,h=>by
  have h:vs= []:=h;subst h;rfl
 | p::ps,vs,d,h=>by
  obtain ⟨v,r,rfl,b,a⟩:=h;simpa using HA a
end
def Xv (tt:TT) (s:Sg):ResultVar->Option AV
 | .tmp t=>look s.env t
 | .cell p T=>(Rl (look s.env p)).bind fun h=>(td tt T).bind fun d=>(rO h s.chs).bind fun b=>cg (Nat.beq b.cells.length d.n) (abD d.agg b.cells)
theorem Xw {v:Option AV} {h:Hdr} (k:Rl v=some h):v=some (.one (.ptr h 0)):=by
 unfold Rl at k;split at k
 ·rename_i b off;split at k
  ·rename_i a;rw[au a,ae k]
  ·cases k
 ·cases k
section
variable {P:Program} {I:Hp} {w0 w:World} {F:Ch} {J:Hp} {θ:Th} {n:Nat} {s:Sg} {a:Act} {tt:TT}
theorem Xx (d:Agr n a (envL θ s)) {t g:Nat} {T E:TypeId} {v:Value} {cs:List Ch} (h:(envL θ s).lookup t=some (.pointer (some ⟨g,0,none⟩))) (hs:St J w0 w cs) (i:Nat) (hi:cs[i]? =some (Ch.blk g [v] E)) (b:TI P T false 1):Is P a w (.cell t T) v:=by
 refine ⟨_,d.2.2 t _ h,?_⟩;have e:=hs.heap i hi;have c:w.cell? ⟨g,0,none⟩=some v:=by simp[World.cell?,e]
 simp[loadVar,Sem.run_bind,b.run_agg,load,Sem.run,c,Result.andThen]
theorem S8 (y:TTok P tt) (f:Sim P I w0 F n J θ s a w) {r:ResultVar} {v:AV} (h:Xv tt s r=some v):Is P a w r (v.v θ)/\v.ok P w0 J θ s.nxt s.chs:=by
 cases r with
 | tmp t=>exact ⟨V4 f.agr (iV h),cf (x:=.tmp t) f.fine h⟩
 | cell p T =>
  obtain ⟨g,C,h⟩:=bind_some (show (Rl (look s.env p)).bind _=some v from h);obtain ⟨d,u,h⟩:=bind_some h;obtain ⟨b,A,h⟩:=bind_some h;obtain ⟨o,h⟩:=ai h;have o:=au o;have hp:=lf A;have q:=f.fine.chs _ (hp.mem_iff.2 (List.mem_cons_self ..));obtain ⟨B,l⟩:=NU (chs:=s.chs) h q.2.2;refine ⟨?_,B⟩;have j:(envL θ s).lookup p=some (.pointer (some ⟨bk (hv θ g),0,none⟩)):=iV (Xw C);have k:=f.st.perm ((hp.map (toCh P θ)).append_right [F]);have c:=(y.get u).ti;cases e:d.agg with
  | true =>
   rw[e] at l c;rw[<-l];exact Rt f.agr j k 0 rfl c (by rw[List.length_map];exact o)
  | false =>
   rw[e] at l c h;have i:d.n=1:=by
    have:=(y.get u).one
    rw[e] at this;simpa using this
   obtain ⟨x,z⟩:=List.length_eq_one_iff.1 (o.trans i);rw[i] at c;rw[z] at l;rw[<-l];have m:St J w0 w (Ch.blk (bk (hv θ g)) [x.v θ] b.T::(b.rest.map (toCh P θ)++ [F])):=by
    have:(toCh P θ (b.ent g))=Ch.blk (bk (hv θ g)) (b.cells.map (·.v θ)) b.T:=rfl
    rw[z] at this;rw[<-show toCh P θ (b.ent g)=Ch.blk (bk (hv θ g)) [x.v θ] b.T from this];exact k
   exact Xx f.agr j m 0 rfl c
end
def Jc:(ts:List Ty)->List AV->List Ent->Option (kN ts×List Ent×List Ent)
 | [],[],chs=>some ((),[],chs)
 | t::ts,v::vs,chs=>cg (o7 v==t.isProd) ((mf v).bind fun cs=>(eX t cs chs).bind fun q=>cg q.cells.isEmpty ((Jc ts vs q.rest).bind fun r=>some ((q.d,r.1),q.used++r.2.1,r.2.2)))
 | _,_,_=>none
def zk:(ts:List Ty)->List Value->kN ts->List Ch
 | t::ts,v::vs,d=>Ch.own t.rep (lP t.isProd v) d.1::zk ts vs d.2
 | _,_,_=>[]
theorem DY {P:Program} {w0:World} {J:Hp} {θ:Th} {n:Nat} {chs0:List Ent} : ∀ {ts:List Ty} {vs:List AV} {chs:List Ent} {r:kN ts×List Ent×List Ent},Jc ts vs chs=some r->(∀v∈vs,v.ok P w0 J θ n chs0)->
  chs.Perm (r.2.1++r.2.2)/\vs.length=ts.length/\qX J (r.2.1.map (toCh P θ)) (zk ts (vs.map (·.v θ)) r.1)/\ ∀(i:Nat) t v,ts[i]? =some t->vs[i]? =some v->qY (v.v θ)=t.isProd
 | [],[],chs,r,h,_=>by
  obtain rfl:=ae (show some _=some r from h);exact ⟨List.Perm.refl _,rfl,xp,fun i t v d=>by simp at d⟩
 | t::ts,v::vs,chs,r,h,hv'=>by
  obtain ⟨f,h⟩:=ai (show cg (o7 v==t.isProd) _=some r from h);have f:o7 v=t.isProd:=by simpa using f
  obtain ⟨e,b,h⟩:=bind_some h;obtain ⟨q,F,h⟩:=bind_some h;obtain ⟨B,h⟩:=ai h;obtain ⟨l,E,h⟩:=bind_some h;obtain rfl:=ae h;obtain ⟨y,H⟩:=kg b (hv' v (by simp));obtain ⟨p,G,g,C⟩:=lG (J:=J) (θ:=θ) F y;rw[List.isEmpty_iff.1 B,List.append_nil] at g;subst g;obtain ⟨A,z,w,s⟩:=DY E fun x D=>hv' x (by simp[D]);have a:lP t.isProd (v.v θ)=e.map (·.v θ)/\qY (v.v θ)=t.isProd:=by
   rw[<-f];cases v with
   | agg o =>
    obtain rfl:=ae (show some o=some e from b);exact ⟨rfl,rfl⟩
   | one x =>
    obtain rfl:=ae (show some [x] =some e from b);refine ⟨rfl,?_⟩;have m:(x.v θ).oneCell'=true:=LV.one (show LV.ok P w0 J θ n x from hv' (.one x) (by simp));show qY (x.v θ)=false;generalize x.v θ=u at m;cases u <;> first | rfl | cases m
   | _=>cases b
  refine ⟨by rw[aC];exact p.trans (A.append_left _),by rw[ay,ay,z],?_,fun i k j d c=>?_⟩
  ·show qX J ((q.used++l.2.1).map _) (Ch.own t.rep (lP t.isProd (v.v θ)) q.d::zk ts (vs.map _) l.1);rw[aZ,a.1];exact tz C w
  ·cases i with
   | zero =>
    obtain rfl:t=k:=by simpa using d
    obtain rfl:v=j:=by simpa using c
    exact a.2
   | succ i=>exact s i k j (by simpa using d) (by simpa using c)
 | [],_::_,chs,r,h,_=>by cases h
 | _::_,[],chs,r,h,_=>by cases h
def abf:List Value->Value
 | [v] =>v
 | vs=>.tuple vs.toArray
def KW (P:Program) (a:Act) (w:World):List ResultVar->List Value->Prop
 | [],vs=>vs= []
 | r::rs,vs=> ∃v us,vs=v::us/\Is P a w r v/\KW P a w rs us
theorem Af {P:Program} {a:Act} {w:World} {f:ResultVar->Sem Value} (b: ∀r v,Is P a w r v->(f r).run P w= .ok v w): ∀ {l:List ResultVar} {vs:List Value},KW P a w l vs->(l.mapM f).run P w= .ok vs w
 | [],vs,h=>by
  have h:vs= []:=h;subst h;rw[List.mapM_nil];rfl
 | r::l,vs,h=>by
  obtain ⟨v,e,rfl,d,c⟩:=h;rw[List.mapM_cons,Sem.run_bind,b r v d];simp only[Result.andThen_ok,Sem.run_bind,Af b c]
  rfl
def abg (a:Act) (r:ResultVar):Sem Value:=match r with
 | .tmp t=>pure (a.tmps.getD t undef)
 | .cell p t=>do loadVar t (<-asAddr (a.tmps.getD p undef))
theorem Xy {P:Program} {a:Act} {w:World} {r:ResultVar} {v:Value} (h:Is P a w r v):(abg a r).run P w= .ok v w:=by
 cases r with
 | tmp t =>
  have h:a.tmps.getD t undef=v:=h;show (pure (a.tmps.getD t undef):Sem Value).run P w=_;rw[h];rfl
 | cell p T =>
  obtain ⟨A,c,b⟩:=h;show ((asAddr (a.tmps.getD p undef)) >>=fun x=>loadVar T x).run P w=_;rw[c,Sem.run_bind];show Result.andThen (.ok A w) _=_;rw[Result.andThen_ok];exact b
theorem ZM {P:Program} {n:Nat} {a:Act} {w:World} {L:List (Nat×Value)} {fn:Func} {R:Ending->World->Prop} {vs:List Value} (b:Agr n a L) (h:KW P a w fn.results.toList vs) (d:R (.returned (abf vs)) w):bodyPost P fn R .ret a w:=by
 refine ⟨b.1,abf vs,?_,d⟩;have c:((fn.results.mapM (abg a)):Sem (Array Value)).run P w= .ok vs.toArray w:=by
  rw[Array.mapM_eq_mapM_toList]
  have:=Af (f:=abg a) (fun r v=>Xy) h
  simp[this,Sem.run_map]
 show ((fn.results.mapM (abg a)) >>=fun vs=>pure (if h:vs.size=1 then vs[0] else .tuple vs):Sem Value).run P w=_;rw[Sem.run_bind,c,Result.andThen_ok]
 match vs with
 | [] =>rfl
 | [v] =>rfl
 | _::_::_=>rfl
def eZ (g0:Nat):(i:Nat)->(ps:List PM)->denP ps->List Ent->Option (kN (outs ps)×List Ent×List Ent)
 | _,[],_,chs=>some ((),[],chs)
 | i,.ow t::ps,d,chs=>(eX t (mg i [] t d.1).2 chs).bind fun q=>cg q.cells.isEmpty ((eZ g0 (i+1) ps d.2 q.rest).bind fun r=>some ((q.d,r.1),q.used++r.2.1,r.2.2))
 | i,.ptr T t::ps,d,chs=>(tE ⟨i,[]⟩ T t chs).bind fun q=>(eZ g0 (i+1) ps d.2 q.2.2).bind fun r=>some ((q.1,r.1),q.2.1++r.2.1,r.2.2)
 | i,.rd _::ps,d,chs=>eZ g0 (i+1) ps d.2 chs
 | i,.fn _ _::ps,d,chs=>eZ g0 (i+1) ps d.2 chs
 | i,.eat _::ps,d,chs=>eZ g0 (i+1) ps d.2 chs
 | i,.cap _ _::ps,d,chs=>eZ g0 (i+1) ps d.2 chs
 | i,.capf _ _ _::ps,d,chs=>eZ g0 (i+1) ps d.2 chs
 | i,.fk _::ps,d,chs=>eZ g0 (i+1) ps d.2 chs
 | i,.kc _::ps,d,chs=>eZ g0 (i+1) ps d.2 chs
 | i,.kb _ T t::ps,d,chs=>(tE ⟨g0,[]⟩ T t chs).bind fun q=>(eZ g0 (i+1) ps d.2 q.2.2).bind fun r=>some ((q.1,r.1),q.2.1++r.2.1,r.2.2)
 | i,.crs T E::ps,d,chs=>(wE ⟨i,[]⟩ T E chs).bind fun q=>cg (Hdr.beq q.g ⟨g0,[]⟩) ((eZ g0 (i+1) ps d.2 q.rest).bind fun r=>some ((q.d.2,r.1),q.ent::r.2.1,r.2.2))
theorem fe {P:Program} {w0:World} {J J':Hp} {θ θ':Th} {n n':Nat} {chs0:List Ent} (f:J.le J') (hs:Same n θ θ') {γ:Value} {c:Nat} (b:c<n) (a:θ c=γ): ∀ {ps:List PM} {i:Nat} {d:denP ps} {chs:List Ent} {vs:List Value} {r:kN (outs ps)×List Ent×List Ent},eZ c i ps d chs=some r->vs.length=ps.length->StF P w0 J θ n i ps vs d->(∀e∈chs,okE P w0 J' θ' n' chs0 e)->
  chs.Perm (r.2.1++r.2.2)/\qX J' (r.2.1.map (toCh P θ')) (outCh γ ps vs r.1)
 | [],i,d,chs,vs,r,h,_,_,_=>by
  obtain rfl:=ae (show some _=some r from h);exact ⟨List.Perm.refl _,xp⟩
 | p::ps,i,d,chs,[],r,h,hl,_,_=>by cases hl
 | .ow t::ps,i,d,chs,v::vs,r,h,hl,hF,hc=>by
  obtain ⟨q,z,h⟩:=bind_some (show (eX t (mg i [] t d.1).2 chs).bind _=some r from h);obtain ⟨j,h⟩:=ai h;obtain ⟨k,y,h⟩:=bind_some h;obtain rfl:=ae h;obtain ⟨⟨D,A⟩,m⟩:=hF;obtain ⟨p,O,H,I⟩:=lG (P:=P) (w0:=w0) (J:=J') (θ:=θ') (n:=n) z fun x N=>LV.ok_same hs (aF _) (A x N) f;rw[List.isEmpty_iff.1 j,List.append_nil] at H;subst H;rw[jc hs A,D] at I;obtain ⟨u,o⟩:=fe f hs b a y (by simpa using hl) m fun e j=>hc e (p.mem_iff.2 (by simp[j]));refine ⟨by rw[aC];exact p.trans (u.append_left _),?_⟩;show qX J' ((q.used++k.2.1).map _) (Ch.own t.rep (lP t.isProd v) q.d::outCh γ ps vs k.1);rw[aZ];exact tz I o
 | .ptr T t::ps,i,d,chs,v::vs,r,h,hl,hF,hc=>by
  obtain ⟨q,z,h⟩:=bind_some (show (tE ⟨i,[]⟩ T t chs).bind _=some r from h);obtain ⟨k,y,h⟩:=bind_some h;obtain rfl:=ae h;obtain ⟨⟨D,A⟩,m⟩:=hF;obtain ⟨p,s⟩:=uP (P:=P) (w0:=w0) (J:=J') (J':=J') (θ:=θ') z Hp.le.rfl hc;obtain ⟨u,o⟩:=fe f hs b a y (by simpa using hl) m fun e j=>hc e (p.mem_iff.2 (by simp[j]));refine ⟨by rw[aC];exact p.trans (u.append_left _),?_⟩;show qX J' ((q.2.1++k.2.1).map _) (Ch.box (bk v) T t.rep q.1::outCh γ ps vs k.1);rw[aZ];have C:hv θ' ⟨i,[]⟩=v:=(be hs (show (⟨i,[]⟩:Hdr).id<n from A)).trans D;rw[C] at s;intro w F g;obtain ⟨G,K,rfl,l,B⟩:=g.split;exact ⟨G,K,rfl,s w G l,o w K B⟩
 | .rd t::ps,i,d,chs,v::vs,r,h,hl,hF,hc=>fe (ps:=ps) f hs b a (show eZ c (i+1) ps d.2 chs=some r from h) (by simpa using hl) hF.2 hc
 | .fn _ _::ps,i,d,chs,v::vs,r,h,hl,hF,hc=>fe (ps:=ps) f hs b a (show eZ c (i+1) ps d.2 chs=some r from h) (by simpa using hl) hF.2 hc
 | .eat _::ps,i,d,chs,v::vs,r,h,hl,hF,hc=>fe (ps:=ps) f hs b a (show eZ c (i+1) ps d.2 chs=some r from h) (by simpa using hl) hF.2 hc
 | .cap _ _::ps,i,d,chs,v::vs,r,h,hl,hF,hc=>fe (ps:=ps) f hs b a (show eZ c (i+1) ps d.2 chs=some r from h) (by simpa using hl) hF.2 hc
 | .capf _ _ _::ps,i,d,chs,v::vs,r,h,hl,hF,hc=>fe (ps:=ps) f hs b a (show eZ c (i+1) ps d.2 chs=some r from h) (by simpa using hl) hF.2 hc
 | .kc _::ps,i,d,chs,v::vs,r,h,hl,hF,hc=>fe (ps:=ps) f hs b a (show eZ c (i+1) ps d.2 chs=some r from h) (by simpa using hl) hF.2 hc
 | .kb _ T t::ps,i,d,chs,v::vs,r,h,hl,hF,hc=>by
  obtain ⟨q,z,h⟩:=bind_some (show (tE ⟨c,[]⟩ T t chs).bind _=some r from h);obtain ⟨k,y,h⟩:=bind_some h;obtain rfl:=ae h;obtain ⟨-,m⟩:=hF;obtain ⟨p,s⟩:=uP (P:=P) (w0:=w0) (J:=J') (J':=J') (θ:=θ') z Hp.le.rfl hc;obtain ⟨u,o⟩:=fe f hs b a y (by simpa using hl) m fun e j=>hc e (p.mem_iff.2 (by simp[j]));refine ⟨by rw[aC];exact p.trans (u.append_left _),?_⟩;show qX J' ((q.2.1++k.2.1).map _) (Ch.box (bk γ) T t.rep q.1::outCh γ ps vs k.1);rw[aZ];have C:hv θ' ⟨c,[]⟩=γ:=by
   show vg (θ' c) [] =γ;rw[hs c b,a];rfl
  rw[C] at s;intro w F g;obtain ⟨G,K,rfl,l,B⟩:=g.split;exact ⟨G,K,rfl,s w G l,o w K B⟩
 | .fk _::ps,i,d,chs,v::vs,r,h,hl,hF,hc=>fe (ps:=ps) f hs b a (show eZ c (i+1) ps d.2 chs=some r from h) (by simpa using hl) hF.2 hc
 | .crs T E::ps,i,d,chs,v::vs,r,h,hl,hF,hc=>by
  obtain ⟨q,z,h⟩:=bind_some (show (wE ⟨i,[]⟩ T E chs).bind _=some r from h);obtain ⟨s,h⟩:=ai h;obtain ⟨k,y,h⟩:=bind_some h;obtain rfl:=ae h;obtain ⟨⟨D,A⟩,m⟩:=hF;obtain ⟨p,L,j⟩:=oR z;obtain ⟨u,o⟩:=fe f hs b a y (by simpa using hl) m fun e j=>hc e (p.mem_iff.2 (by simp[j]));refine ⟨p.trans (u.cons _),?_⟩;have C:hv θ' ⟨i,[]⟩=v:=(be hs (show (⟨i,[]⟩:Hdr).id<n from A)).trans D;have M:hv θ' q.g=γ:=by
   rw[Hdr.beq_eq s];show vg (θ' c) [] =γ;rw[hs c b,a];rfl
  show qX J' (toCh P θ' q.ent::k.2.1.map _) (Ch.blk (bk v) [γ,.int .i64 q.d.2.1,.int .i64 q.d.2.2] T::outCh γ ps vs k.1);rw[j];intro w F g;obtain ⟨G,K,rfl,l,B⟩:=g;have l:(Ch.blk (bk (hv θ' ⟨i,[]⟩)) [hv θ' q.g,.int .i64 q.d.2.1,.int .i64 q.d.2.2] T).holds J' w G:=l;rw[C,M] at l;exact ⟨G,K,rfl,l,o w K B⟩
def ofH:(ts:List Ty)->kN ts->dens ts
 | [],_=>()
 | [_],d=>d.1
 | _::u::ts,d=>(d.1,ofH (u::ts) d.2)
theorem Jd: ∀(ts:List Ty) (d:kN ts),toH ts (ofH ts d)=d
 | [],_=>rfl
 | [_],_=>rfl
 | _::u::ts,d=>congrArg (Prod.mk d.1) (Jd (u::ts) d.2)
def ra:(ts us:List Ty)->kN ts->kN us->kN (ts++us)
 | [],_,_,e=>e
 | _::ts,us,d,e=>(d.1,ra ts us d.2 e)
theorem Fp: ∀(ts us:List Ty) (d:kN ts) (e:kN us),hFst ts us (ra ts us d e)=d
 | [],_,_,_=>rfl
 | _::ts,us,d,e=>congrArg (Prod.mk d.1) (Fp ts us d.2 e)
theorem KX: ∀(ts us:List Ty) (d:kN ts) (e:kN us),hSnd ts us (ra ts us d e)=e
 | [],_,_,_=>rfl
 | _::ts,us,d,e=>KX ts us d.2 e
def BY (tt:TT) (s:Sg):List ResultVar->Option (List AV)
 | [] =>some []
 | r::rs=>(Xv tt s r).bind fun v=>(BY tt s rs).bind fun vs=>some (v::vs)
def Je (s:Sg):List AV->List Hdr
 | [] =>[]
 | v::vs=>BN v++Je s vs
def A6:List Ent->List Hdr
 | [] =>[]
 | e::l=>match e.2.2 with
  | .hole _ _ _ _ _ _ _ _ _ _=>e.1::A6 l
  | _=>A6 l
def ZN:List AV->List (Bool×Hdr)
 | [] =>[]
 | v::vs=>acL true v++ZN vs
def HB (tr:Trs) (vs:List AV) (s:Sg):Sg:=match tr with
 | [] =>s
 | _=>Sa (O8 tr) (ZN vs) s
def S9 (tr:Trs) (vs:List AV) (s0:Sg):Sg:=match HB tr vs s0 with
 | s=>xJ (Je s0 vs++A6 s.chs) s
def nlN:List AV->(ts:List Ty)->kN ts->Int
 | [.one (.own _)],[.sl _ t],d=>((List.length (α:=t.den) d.1:Nat):Int)
 | [.one (.val v)],[.sl _ _],_=>match isNil v with
  | true=>1
  | false=>0
 | _,_,_=>0
def ZO (an:List (Nat×Ty)) (vs:List AV) (ts:List Ty) (d:kN ts):Option Unit:=match BM 1000000 an with
 | true=>chk (0<nlN vs ts d)
 | false=>some ()
theorem ZP {vs:List AV} {ts:List Ty} {d:kN ts} {θ:Th} (h:0<nlN vs ts d) {v:Value} (hv:vs.map (·.v θ)= [v]):xx ts d v:=by
 unfold nlN at h;split at h
 ·intro b;omega
 ·split at h
  ·rename_i a;intro _
   have:=oA a
   subst this;simpa [AV.v,LV.v] using hv.symm
  ·omega
 ·omega
def Jf (V:Env) (rvs:List ResultVar) (rs:List Ty) (ps:List PM) (d:denP ps) (s00:Sg):Option (dens (rs++outs ps)):=(BY V.tt s00 rvs).bind fun vs00=>Sk vs00 s00 fun s0=>(BY V.tt s0 rvs).bind fun vs0=>match S9 V.tr vs0 s0 with
 | s=>(BY V.tt s rvs).bind fun vs=>(Jc rs vs s.chs).bind fun r=>(eZ ps.length 0 ps d r.2.2).bind fun o=>(ZO V.an vs rs r.1).bind fun _=>some (ofH _ (ra rs (outs ps) r.1 o.1))
theorem DZ {vs:List Value} : ∀ {ts:List Ty} {i:Nat} {us:List Value} {d:kN ts},us.length=ts.length->(∀j v,us[j]? =some v->vs[i+j]? =some v)->yU i ts d (.tuple vs.toArray)=zk ts us d
 | [],i,us,d,h,_=>by
  rfl
 | t::ts,i,[],d,h,_=>by cases h
 | t::ts,i,u::us,d,h,k=>by
  have a:vg (.tuple vs.toArray) [i] =u:=by
   show vs.toArray.getD i undef=u
   have:=k 0 u rfl
   rw[Nat.add_zero] at this;simp[Array.getD_eq_getD_getElem?,this]
  show Ch.own t.rep (lP t.isProd (vg (.tuple vs.toArray) [i])) d.1::yU (i+1) ts d.2 _=Ch.own t.rep (lP t.isProd u) d.1::zk ts us d.2;rw[a,DZ (us:=us) (by grind) fun j v b=>by
   have:=k (j+1) v (by grind)
   grind]
theorem MB {ts:List Ty} {vs:List Value} {d:kN ts} (h:vs.length=ts.length):resGv ts d (abf vs)=zk ts vs d:=by
 match ts,vs,d,h with
 | [],[],d,_=>rfl
 | [t],[v],d,_=>rfl
 | t::u::ts,v::w::vs,d,h =>
  show yU 0 _ d (.tuple (v::w::vs).toArray)=_;grind[DZ]
theorem Ta {ts:List Ty} {vs:List Value} (h:vs.length=ts.length) (k: ∀(i:Nat) t v,ts[i]? =some t->vs[i]? =some v->qY v=t.isProd):resFa ts (abf vs):=by
 match ts,vs,h with
 | [],[],_=>exact ⟨#[],rfl,rfl,fun i t b=>by grind⟩
 | [t],[v],_=>exact k 0 t v rfl rfl
 | t::u::ts,v::w::vs,h =>
  refine ⟨(v::w::vs).toArray,rfl,by omega,fun i c b=>?_⟩;have a:i<(v::w::vs).length:=by rw[h];exact (List.getElem?_eq_some_iff.1 b).1
  have:=k i c ((v::w::vs)[i]) b (List.getElem?_eq_getElem a)
  rw[<-this,Array.getD_eq_getD_getElem?,List.getElem?_toArray,List.getElem?_eq_getElem a];rfl
theorem xO {P:Program} {I:Hp} {w0 w:World} {F:Ch} {J:Hp} {θ:Th} {n:Nat} {s:Sg} {a:Act} {tt:TT} (e:TTok P tt) (d:Sim P I w0 F n J θ s a w): ∀ {rs:List ResultVar} {vs:List AV},BY tt s rs=some vs->KW P a w rs (vs.map (·.v θ))/\ ∀v∈vs,v.ok P w0 J θ s.nxt s.chs
 | [],vs,h=>by
  cases ae (show some [] =some vs from h);exact ⟨rfl,fun v hv=>by cases hv⟩
 | r::rs,vs,h=>by
  have ⟨v,b,h⟩:=bind_some (show (Xv tt s r).bind _=some vs from h);have ⟨k,c,h⟩:=bind_some h;cases ae h;have ⟨f,j⟩:=S8 e d b;have ⟨g,i⟩:=xO e d c;refine ⟨⟨_,_,rfl,f,g⟩,fun x l=>?_⟩;grind
theorem Pu {J:Hp} {a b c d:List Ch} (h:qX J a b) (k:qX J c d):qX J (a++c) (b++d):=fun w F e=>by
 obtain ⟨G,K,rfl,f,g⟩:=e.split;exact (h w G f).append (k w K g)
theorem St.sepTo {J:Hp} {w0 w:World} {a b C:List Ch} (h:St J w0 w (a++C)) (k:qX J a b):St J w0 w (b++C):=by
 have ⟨j,c,F,f,e,g⟩:=h;obtain ⟨G,K,rfl,d,i⟩:=f.split;exact ⟨j,c,G++K,(k w G d).append i,e,g⟩
theorem uY {P:Program} {n:Nat} {I:Hp} {w0:World} {k:FuncId} {fn:Func} {c:Code} {args:Array Value} {rn:List Ch} {fact:Value->Prop} {gv:Value->List Ch} (L:List (Nat×Value)) (t:P.funcs[k]? =some fn) (b:fn.body=some c) (x:fn.ntmps=n) (y:args.size<=n) (o: ∀p∈L,args[p.1]? =some p.2)
  (h: ∀F w a,Agr n a L->St I w0 w (rn++ [F])->c.wp P (bodyPost P fn fun e g=> ∃v,e= .returned v/\fact v/\ ∃J,I.le J/\St J w0 g (gv v++ [F])) a w) (j: ∀v,Ch.back (gv v)):Con P k args I w0 rn fact gv:=by
 intro w C f;have d:St I w0 w (rn++ [Ch.fr I C]):=by
  have ⟨b,r,F,u,i,q⟩:=f;obtain ⟨G,K,rfl,m,s⟩:=u.split;exact ⟨b,r,G++K,m.append ⟨K,[],by simp,s,rfl⟩,i,q⟩
 have:=h (Ch.fr I C) w { tmps:=args++Array.replicate (fn.ntmps - args.size) undef,defers:=[] } (Agr.start L (by omega) o) d
 refine (calls_of_wp t b this).mono ?_;rintro e g ⟨v,rfl,hv,J,l,f⟩;exact ⟨v,rfl,hv,f.back l (j v)⟩
theorem Tb {P:Program} {I:Hp} {w0 w:World} {F:Ch} {n:Nat} {J:Hp} {θ:Th} {s:Sg} {a:Act} {tr:Trs} {vs:List AV} (c:Sim P I w0 F n J θ s a w): ∃b θ',J.le b/\Sim P I w0 F n b θ' (S9 tr vs s) a w/\Fr s θ (S9 tr vs s) θ':=by
 have key: ∃b θ',J.le b/\Sim P I w0 F n b θ' (HB tr vs s) a w/\Fr s θ (HB tr vs s) θ':=by
  unfold HB;split
  ·grind[Hp.le.rfl,Fr.rfl]
  ·exact wG c
 have ⟨b,θ',g,d,f⟩:=key;have ⟨e,h⟩:=uT (V:=⟨[],[],[],n,[]⟩) (hs:=Je s vs++A6 (HB tr vs s).chs) d;exact ⟨b,θ',g,e,f.trans h⟩
theorem Pv {V:Env} {P:Program} {w0:World} {F:Ch} {J:Hp} {θ:Th} (I:TTok P V.tt) {fn:Func} {rs:List Ty} {ps:List PM} {d:denP ps} {vs:List Value} {s0:Sg} (T:vs.length=ps.length) (R:StF P w0 J θ (ps.length+1) 0 ps vs d) (U:ps.length+1<=s0.nxt) {γ:Value} (z:θ ps.length=γ): ∀r J' θ' u A j,Jf V fn.results.toList rs ps d u=some r->Sim P J w0 F V.n J' θ' u A j->J.le J'->Fr s0 θ u θ'->
  bodyPost P fn (fun e j=> ∃v,e= .returned v/\(resFa rs v/\(BM 1000000 V.an=true->xx rs (hFst rs (outs ps) (toH _ r)) v))/\ ∃J2,J.le J2/\St J2 w0 j ((resGv rs (hFst rs (outs ps) (toH _ r)) v++outCh γ ps vs (hSnd rs (outs ps) (toH _ r)))++ [F])) .ret A j:=by
 intro r J' θ' u A j a g k f;have ⟨G,m,a⟩:=bind_some (show (BY V.tt u fn.results.toList).bind _=some r from a);have ⟨D,a,L,N0⟩:=KD a (xO I g m).2 g;have ⟨l,hv0,a⟩:=bind_some a;have ⟨Z,θ1,p,h,w⟩:=Tb (tr:=V.tr) (vs:=l) L;generalize S9 V.tr l D=K at a h w;have Q:=f.1;have c:Same (ps.length+1) θ θ1:=fun i hi=>(w.same i (by omega)).trans (f.same i (by omega));replace k:=k.trans p;clear p w g L f;revert Z θ1;intro J' θ' h c k;have ⟨s,C,a⟩:=bind_some a;have ⟨q,hq,a⟩:=bind_some a;have ⟨o,N,a⟩:=bind_some a;have ⟨u0,b,a⟩:=bind_some a;cases ae a;have ⟨X,r2⟩:=xO I h C;have ⟨E,t2,W,t4⟩:=DY (J:=J') (θ:=θ') hq r2;have ⟨o1,S⟩:=fe (P:=P) (J:=J) (J':=J') (θ:=θ) (θ':=θ') (vs:=vs) (n:=ps.length+1) (n':=K.nxt) (chs0:=K.chs) k c (aB _) z N T R fun e he=>h.fine.chs e (E.mem_iff.2 (by grind));have H:(s.map (·.v θ')).length=rs.length:=by rw[List.length_map];exact t2
 refine ZM h.agr X ⟨_,rfl,⟨Ta H fun i t v ht O=>?_,fun B=>?_⟩,J',k,?_⟩
 ·grind
 ·rw[Jd,Fp];unfold ZO at b;rw[B] at b;have b:=bM b;rcases s with _ | ⟨x,s⟩
  ·cases b
  ·cases s with
   | nil=>exact ZP (θ:=θ') b rfl
   | cons y s=>grind[nlN]
 ·rw[Jd,Fp,KX,MB H];have hp:=E.trans (o1.append_left _);have h1:=h.st.perm ((hp.map (toCh P θ')).append_right [F]);have M:St J' w0 j ((q.2.1.map (toCh P θ')++o.2.1.map (toCh P θ'))++(o.2.2.map (toCh P θ')++ [F])):=by
   simpa [aZ,aC] using h1
  have Y:=St.sepTo M (Pu W S);refine St.left (ds:=o.2.2.map (toCh P θ')) (Y.perm ?_);grind[aC,List.Perm.append_left,List.perm_append_comm]
theorem Xz {V:Env} {P:Program} (X:TTok P V.tt) (hF:FTok P V.ft) (O:P.follows .mixedOrders=true) {k:FuncId} {fn:Func} {c:Code} {f:FS} (hf:P.funcs[k]? =some fn) (hb:fn.body=some c) (hn:fn.ntmps=V.n) (hen:Enters P k) (hm:f.ps.length<=V.n) (t:(EZ f.rs&&y6 f.ps)=true) (y:Ann)
  (z: ∀d,appP f.ps f.m d=kH V (Jf V fn.results.toList f.rs f.ps d) c y (fun r=>some r) (fun _ _=>none) (Jf V fn.results.toList f.rs f.ps d) (tg (BX f.ps d))): ∀w0 J γ b (d:denP f.ps) r,Lay P J->PArgs P w0 J γ f.ps b d->appP f.ps f.m d=some r->Con P k b.toArray J w0 (owCh γ f.ps b d) (fun v=>resFa f.rs v/\(BM 1000000 V.an=true->xx f.rs (hFst f.rs (outs f.ps) (toH _ r)) v)) (fun v=>resGv f.rs (hFst f.rs (outs f.ps) (toH _ r)) v++outCh γ f.ps b (hSnd f.rs (outs f.ps) (toH _ r))):=by
 rw[aj] at t;intro w0 J γ b d r A Z Y;rw[z] at Y;have k0:=HA Z;let θ:=fun i=>if i=b.length then γ else b.getD i undef;have W: ∀j v,b[j]? =some v->θ (0+j)=v:=fun j v hj=>by
  grind
 have g:θ f.ps.length=γ:=by
  grind
 have B: ∀p∈(b.zipIdx.map fun q=>(q.2,q.1)),b.toArray[p.1]? =some p.2:=fun p hp=>by
  grind
 refine uY (n:=V.n) (b.zipIdx.map fun q=>(q.2,q.1)) hf hb hn (by grind) B (fun F w a hA Q=>?_) (fun v=>uR (eY _ _ _ t.2) _ _ t.1)
 ·have ⟨R,k2,k3,k4,k5⟩:=KV (n:=f.ps.length+1) (q:=f.ps.length) (C:=[F]) (aB _) g Z W (by omega) Q;have o:Fine P w0 J θ (BX f.ps d):=⟨fun e u=>(R e u).1 _,fun e u=>by have:=R e u;show e.2.1<f.ps.length+1;omega,k2,fun e u=>k4 e u _,A⟩;have S:Agr V.n a (envL θ (BX f.ps d)):=hA.pick _ fun p hp=>by
   obtain ⟨e,u,rfl⟩:=List.mem_map.1 hp;have h5:=(R e u).2.2.2.2;have key: ∀(l:List Value) (k:Nat) (i:Nat) (v:Value),k<=i->l[i - k]? =some v->((l.zipIdx k).map fun q=>(q.2,q.1)).lookup i=some v:=by
    intro l;induction l with
    | nil=>grind
    | cons x l ih =>
     intro k i v D h;simp[List.zipIdx_cons,List.map_cons,List.lookup_cons];by_cases e:i=k
     ·simp_all
     ·rw[show i - k=(i - (k+1))+1 from by omega] at h;grind
   grind
  have hS:Sim P J w0 F V.n J θ (BX f.ps d) a w:=⟨Hp.le.rfl,S,k3,o⟩;have fin:=Pv (rs:=f.rs) (fn:=fn) (F:=F) X k0 k5 (aF (BX f.ps d).nxt) g;have ⟨θ0,L,m⟩:=AY hS;exact (rU (I:=J) (w0:=w0) (F:=F) X hF O c).1 y Y L (fun G θ' H E K D S' M s=>fin r G θ' H E K D S' M (m.trans s)) (fun i G θ' H E K D=>by cases D) (fun r' G θ' H E K U N T M s=>by
   cases ae N;exact fin _ G θ' H E K U T M (m.trans s))
theorem fok {V:Env} {P:Program} (t:TTok P V.tt) (B:FTok P V.ft) (i:P.follows .mixedOrders=true) {k:FuncId} {fn:Func} {c:Code} {f:FS} (z:P.funcs[k]? =some fn) (s:fn.body=some c) (m:fn.ntmps=V.n) (a:Enters P k) (x:f.cl=none) (n:f.ps.length<=V.n) (j:(EZ f.rs&&y6 f.ps)=true) (b:Ann)
  (g: ∀d,appP f.ps f.m d=kH V (Jf V fn.results.toList f.rs f.ps d) c b (fun r=>some r) (fun _ _=>none) (Jf V fn.results.toList f.rs f.ps d) (tg (BX f.ps d))):FOk P k f:=
 ⟨fun q G=>by grind,fun _=>a,fun _ p J γ o d r h E y w C A=>(Xz t B i z s m a n j b g p J γ o d r h E y w C A).mono fun e F ⟨v,D,l,u⟩=>⟨v,D,l.1,u⟩⟩
theorem KY {V:Env} {P:Program} (S:TTok P V.tt) (hF:FTok P V.ft) (M:P.follows .mixedOrders=true) {k:FuncId} {fn:Func} {c:Code} {E b:Nat} (hf:P.funcs[k]? =some fn) (hb:fn.body=some c) (X:fn.ntmps=V.n) (K:Enters P k) (Y:1<=V.n) (h:Ann)
  (m: ∀(E':TypeId) (f:Bool) (xs:List Raw),(match f with | true=>some ([] :List Raw) | false=>(bA b [] xs).bind fun l=>some l)=kH V (Jf V fn.results.toList [.sl E .raw] [] ()) c h (fun r=>some r) (fun _ _=>none) (Jf V fn.results.toList [.sl E .raw] [] ()) ⟨[(0,0,.one (.rdn ⟨0,[]⟩ f (.sl E' .raw) xs))],[],1⟩):yY P k E b:=by
 refine ⟨K,fun E' J w0 v xs l o s ra=>?_⟩;have ⟨f,q⟩: ∃f,DF v=f:=⟨_,rfl⟩;have hr:kH V (Jf V fn.results.toList [.sl E .raw] [] ()) c h (fun r=>some r) (fun _ _=>none) (Jf V fn.results.toList [.sl E .raw] [] ()) ⟨[(0,0,.one (.rdn ⟨0,[]⟩ f (.sl E' .raw) xs))],[],1⟩=some l:=by
  rw[<-m E' f xs];cases f with
  | false =>
   rw[ra];rfl
  | true =>
   obtain ⟨R,-⟩:=xE ra;obtain ⟨Z,cap,e,-,hx⟩:=s;obtain rfl:v= .slice Z xs.length cap:=by grind
   rcases hx with rfl | ⟨b,off,W,t,fr,rfl,-⟩
   ·rw[R];rfl
   ·cases q
 let θ:Th:=fun _=>v;have key:Con P k #[v] J w0 [] (fun v=>resFa [.sl E .raw] v/\(BM 1000000 V.an=true->xx [.sl E .raw] (l,()) v)) (fun v=>resGv [.sl E .raw] (l,()) v++ []):=by
  refine uY (n:=V.n) [(0,v)] hf hb X Y (fun p hp=>by grind) (fun F w a U N=>?_) (fun u=>uR (D:=[]) trivial [.sl E .raw] (l,()) rfl);have g:Fine P w0 J θ ⟨[(0,0,.one (.rdn ⟨0,[]⟩ f (.sl E' .raw) xs))],[],1⟩:=⟨fun e A=>by cases ak A;exact ⟨Nat.one_pos,s,q⟩,fun e A=>by grind,List.pairwise_singleton _ _,fun e A=>(by cases A),o⟩;have T:Sim P J w0 F V.n J θ ⟨[(0,0,.one (.rdn ⟨0,[]⟩ f (.sl E' .raw) xs))],[],1⟩ a w:=⟨Hp.le.rfl,U,N,g⟩;have fin:=Pv (V:=V) (θ:=θ) (J:=J) (w0:=w0) (rs:=[.sl E .raw]) (ps:=[]) (d:=()) (vs:=[]) (s0:=⟨[(0,0,.one (.rdn ⟨0,[]⟩ f (.sl E' .raw) xs))],[],1⟩) (fn:=fn) (F:=F) S rfl trivial (aF _) (γ:=θ 0) rfl;exact (rU (I:=J) (w0:=w0) (F:=F) S hF M c).1 h hr T (fun z θ' B y x G S' H j=>fin _ z θ' B y x G S' H j) (fun i z θ' B y x G=>by cases G) (fun r' z θ' B y x Q L O H j=>by
   cases ae L;exact fin _ z θ' B y x Q O H j)
 exact fun w C hs=>(key w C hs).mono fun e x ⟨v,R,h2,h3⟩=>⟨v,R,trivial,h3⟩
theorem Pw {V:Env} {P:Program} (Y:TTok P V.tt) (hF:FTok P V.ft) (U:P.follows .mixedOrders=true) {k:FuncId} {fn:Func} {c:Code} {E E' b:Nat} {t:Ty} (hf:P.funcs[k]? =some fn) (hb:fn.body=some c) (hn:fn.ntmps=V.n) (R:Enters P k) (Z:1<=V.n) (l:Ann) (X:EZ [.sl E t] =true)
  (m: ∀(f:Bool) (xs:List t.den),((match f with | true=>some ([] :List t.den) | false=>(bA b [] xs).bind fun g=>some g):Option (List t.den))=kH V (Jf V fn.results.toList [.sl E t] [] ()) c l (fun r=>some r) (fun _ _=>none) (Jf V fn.results.toList [.sl E t] [] ()) ⟨[(0,0,.one (.rdn ⟨0,[]⟩ f (.sl E' t) xs))],[],1⟩):FOk P k ⟨[.rd (.sl E' t)],[.sl E t],fun xs=>bA b [] xs,none⟩:=by
 refine ⟨fun q hq=>(by cases hq),fun _=>R,fun _ w0 J γ vs d r x ha ra=>?_⟩;obtain ⟨v,S,rfl,hd,y⟩:=ha;obtain rfl:S= []:=y;have ⟨xs,u⟩:=d;have ⟨cs,W,s⟩:=hd;obtain rfl:cs= [v]:=W;let g:List t.den:=r;have ra:bA b [] xs=some g:=ra;have ⟨f,z⟩: ∃f,DF v=f:=⟨_,rfl⟩;have hr:kH V (Jf V fn.results.toList [.sl E t] [] ()) c l (fun r=>some r) (fun _ _=>none) (Jf V fn.results.toList [.sl E t] [] ()) ⟨[(0,0,.one (.rdn ⟨0,[]⟩ f (.sl E' t) xs))],[],1⟩=some g:=by
  rw[<-m f xs];cases f with
  | false =>
   grind
  | true =>
   obtain ⟨N,-⟩:=xE ra;obtain ⟨ao,cap,e,-,hx⟩:=s;obtain rfl:v= .slice ao xs.length cap:=by grind
   rcases hx with rfl | ⟨b,off,ccs,t,fr,rfl,-⟩
   ·rw[N]
   ·cases z
 let θ:Th:=fun _=>v;have key:Con P k #[v] J w0 [] (fun v=>resFa [.sl E t] v/\(BM 1000000 V.an=true->xx [.sl E t] (g,()) v)) (fun v=>resGv [.sl E t] (g,()) v++ []):=by
  refine uY (n:=V.n) [(0,v)] hf hb hn Z (fun p hp=>by grind) (fun F w a hA L=>?_) (fun u=>uR (D:=[]) trivial [.sl E t] (g,()) X);have h:Fine P w0 J θ ⟨[(0,0,.one (.rdn ⟨0,[]⟩ f (.sl E' t) xs))],[],1⟩:=⟨fun e G=>by cases ak G;exact ⟨Nat.one_pos,s,z⟩,fun e G=>by grind,List.pairwise_singleton _ _,fun e G=>(by cases G),x⟩;have hS:Sim P J w0 F V.n J θ ⟨[(0,0,.one (.rdn ⟨0,[]⟩ f (.sl E' t) xs))],[],1⟩ a w:=⟨Hp.le.rfl,hA,L,h⟩;have fin:=Pv (V:=V) (θ:=θ) (J:=J) (w0:=w0) (rs:=[.sl E t]) (ps:=[]) (d:=()) (vs:=[]) (s0:=⟨[(0,0,.one (.rdn ⟨0,[]⟩ f (.sl E' t) xs))],[],1⟩) (fn:=fn) (F:=F) Y rfl trivial (aF _) (γ:=θ 0) rfl;exact (rU (I:=J) (w0:=w0) (F:=F) Y hF U c).1 l hr hS (fun H θ' B A o Q S' T j=>fin _ H θ' B A o Q S' T j) (fun i H θ' B A o Q=>by cases Q) (fun r' H θ' B A o M K O T j=>by
   cases ae K;exact fin _ H θ' B A o M O T j)
 exact fun w C hs=>(key w C hs).mono fun e o ⟨v,N,h2,h3⟩=>⟨v,N,h2.1,h3⟩
def gU:Nat->Ty
 | 0=>.raw
 | n+1=>.prod .raw (gU n)
def kI:(n:Nat)->(gU n).den->List Value
 | 0,p=>[p.1]
 | n+1,p=>p.1.1::kI n p.2
theorem nL: ∀n,(gU n).rep.size=n+1
 | 0=>rfl
 | n+1=>by
  show 1+(gU n).rep.size=_;rw[nL n];omega
theorem Jg {I:Hp} : ∀(n:Nat) {cs:List Value} {p:(gU n).den},(gU n).rep.rd I cs p↔cs=kI n p
 | 0,cs,p=>Iff.rfl
 | n+1,cs,p=>by
  constructor
  ·rintro ⟨c,d,rfl,b,a⟩;obtain rfl:c= [p.1.1]:=b;rw[(Jg n).1 a];rfl
  ·rintro rfl;exact ⟨[p.1.1],kI n p.2,rfl,rfl,(Jg n).2 rfl⟩
theorem Fq {I:Hp} {w:World} : ∀(n:Nat) {cs:List Value} {p:(gU n).den} {F:List Nat},(gU n).rep.own I w cs p F->F= [] /\cs=kI n p
 | 0,cs,p,F,h=>by
  have ⟨b,a⟩:=h;exact ⟨b,a⟩
 | n+1,cs,p,F,⟨c,d,G,K,b,a,h3,h4⟩=>by
  obtain ⟨rfl,e⟩:=h3;obtain ⟨rfl,f⟩:=Fq n h4;subst b;subst a;subst e;exact ⟨rfl,by rw[f];rfl⟩
theorem Jh: ∀(n:Nat) (cs:List Value),cs.length=n+1->(∀u∈cs,u.oneCell'=true)-> ∃p:(gU n).den,kI n p=cs
 | 0,cs,hl,h1=>by
  obtain ⟨u,rfl⟩:=List.length_eq_one_iff.1 hl;exact ⟨⟨u,h1 u (by simp)⟩,rfl⟩
 | n+1,u::cs,hl,h1=>by
  have ⟨p,hp⟩:=Jh n cs (by grind) (fun v hv=>h1 v (by grind));exact ⟨(⟨u,h1 u (by simp)⟩,p),by grind[kI]⟩
theorem XA {n:Nat} {E:TypeId} {α:Type} {R:Rep α} (h1:R.size=n+1) {I:Hp} {v:Value} {xs:List α} (h:(ax E R).rd I [v] xs): ∃a:List (gU n).den,All2 (fun p x=>R.rd I (kI n p) x) a xs/\(ax E (gU n).rep).rd I [v] a:=by
 obtain ⟨l,cap,e,s,h⟩:=h;obtain rfl:v= .slice l xs.length cap:=by grind
 rcases h with rfl | ⟨b,off,d,t,q,rfl,o,B⟩
 ·exact ⟨[],.nil,l,cap,rfl,s,.inl rfl⟩
 ·have key: ∀(xs:List α) (f:Nat),(∀i x,xs[i]? =some x-> ∃c:List Value,c.length=R.size/\(∀j,j<R.size->d.toList[off+(f+i)*R.size+j]? =c[j]?)/\R.rd I c x)-> ∃a:List (gU n).den,All2 (fun p x=>R.rd I (kI n p) x) a xs/\ ∀i p,a[i]? =some p->(kI n p).length=R.size/\ ∀j,j<R.size->d.toList[off+(f+i)*R.size+j]? =(kI n p)[j]? :=by
   intro xs;induction xs with
   | nil=>intro f _;exact ⟨[],.nil,fun i p hp=>by grind⟩
   | cons x xs ih =>
    intro f h;have ⟨c,r,C,k⟩:=h 0 x rfl;obtain ⟨p,rfl⟩:=Jh n c (r.trans h1) (R.rd_one k);have ⟨a,g,w⟩:=ih (f+1) fun i y z=>by
     have:=h (i+1) y (by grind)
     grind
    refine ⟨p::a,.cons k g,fun i u A=>?_⟩;grind
  have ⟨a,g,w⟩:=key xs 0 (fun i x D=>by grind);have m:=g.length_eq;refine ⟨a,g,_,cap,by grind,by omega,.inr ⟨b,off,d,t,q,rfl,o,fun i p hp=>?_⟩⟩;grind[kI,nL,Jg]
theorem KZ {n:Nat} {α:Type} {R:Rep α} (h1:R.size=n+1) {I:Hp} {w:World} : ∀ {ps:List (gU n).den} {xs:List α} {cur:List Value} {F:List Nat},OwnEls (gU n).rep I w cur ps F->All2 (fun p x=>R.rd I (kI n p) x) ps xs->OwnEls (yP R) I w cur xs F
 | [],[],_,_,h,_=>h
 | p::ps,x::xs,cur,F,⟨c,rest,G,K,e1,e2,e3,e4,e5⟩,hh=>by
  cases hh with
  | cons hp a =>
   obtain ⟨rfl,rfl⟩:=Fq n e4;exact ⟨kI n p,rest,[],K,e1,by rw[e2,nL];exact h1.symm,e3,⟨rfl,hp⟩,KZ h1 e5 a⟩
 | [],_::_,_,_,_,hh=>by cases hh
 | _::_,[],_,_,_,hh=>by cases hh
theorem Tc {n:Nat} {α:Type} {E:TypeId} {R:Rep α} (h1:R.size=n+1) {I:Hp} {w0 w:World} {C:List Ch} {v:Value} {xs:List α} {ps:List (gU n).den} (hp:All2 (fun p x=>R.rd I (kI n p) x) ps xs) (h:St I w0 w (Ch.own (ax E (gU n).rep) [v] ps::C)):St I w0 w (Ch.own (ax E (yP R)) [v] xs::C):=by
 obtain ⟨f,i,F,⟨G,K,rfl,⟨s,k⟩,e⟩,l,j⟩:=h;have d:=hp.length_eq;rcases k with ⟨a,rfl,rfl⟩ | ⟨g,b,cap,cur,c,a,r,t,q,m,rfl,o⟩
 ·cases hp;exact ⟨f,i,[] ++K,⟨[],K,rfl,⟨Nat.zero_le _,.inl ⟨a,rfl,rfl⟩⟩,e⟩,l,j⟩
 ·exact ⟨f,i,(g::c)++K,⟨g::c,K,rfl,⟨by omega,.inr ⟨g,b,cap,cur,c,by grind,r,by omega,q,by rw[nL] at m;show b+cap*R.size<=_;grind,rfl,KZ h1 o hp⟩⟩,e⟩,l,j⟩
theorem Td {P:Program} {k:FuncId} {E E' b n:Nat} {t:Ty} (hs:t.size=n+1) (h:FOk P k ⟨[.rd (.sl E' (gU n))],[.sl E (gU n)],fun i=>bA b [] i,none⟩):FOk P k ⟨[.rd (.sl E' t)],[.sl E (.fro t)],fun i=>bA b [] i,none⟩:=by
 refine ⟨fun q F=>(by cases F),fun _=>h.en rfl,fun _ o J γ I d r c G ra=>?_⟩;obtain ⟨v,j,rfl,z,f⟩:=G;obtain rfl:j= []:=f;have ⟨x,m,p⟩:=z;obtain rfl:x= [v]:=m;let H:=r;have a:=(Ty.rep_size t).trans hs;have ⟨g,hp,s⟩:=XA a p;have ⟨L,y⟩:=xE ra;have A:=y g hp.length_eq;have key:=h.con rfl o J undef [v] (g,()) (show dens ([Ty.sl E (gU n)] ++ []) from g) c ⟨v,[],rfl,⟨[v],rfl,s⟩,rfl⟩ A;exact fun w C hs=>(key w C hs).mono fun e u ⟨v,B,D,l⟩=>⟨v,B,D,by
  have l:St J o u (Ch.own (ax E (gU n).rep) [v] g::C):=l;have K:=Tc a hp l;show St J o u (Ch.own (ax E (yP t.rep)) [v] H::C);grind⟩
theorem lh {P:Program} {k:FuncId} {f:FS} (h:Enters P k) (a:f.cl=none) (e: ∀d,appP f.ps f.m d=none):FOk P k f:=
 ⟨fun q c=>by grind,fun _=>h,fun _ _ _ _ _ d r _ _ b=>by grind⟩
theorem HC {P:Program} {k:FuncId} {f:FS} {E b:Nat} (h:FOk P k ⟨f.ps,f.rs,f.m,none⟩) (a:yY P k E b) (d:Nat.beq b 0=false:=by rfl) (i:Nat.beq b 7=false:=by rfl) (g:Nat.ble 1000 b=false:=by rfl) (j:Nat.beq b 9=false:=by rfl):FOk P k ⟨f.ps,f.rs,f.m,some (E,b)⟩:=
 ⟨fun q c=>by cases ae c;exact ⟨⟨fun e=>(by grind),fun _ _ _ _=>a,fun e=>(by grind)⟩,fun e=>(by grind),fun e=>(by grind)⟩,fun _=>h.en rfl,fun _=>h.con rfl⟩
theorem K0 {n:Nat} {α:Type} {R:Rep α} (e:R.Sh) (h1:R.size=n+1) {I:Hp} {w:World} : ∀ {xs:List α} {cur:List Value} {K:List Nat},OwnEls R I w cur xs K-> ∃d:List (gU n).den,K= [] /\OwnEls (gU n).rep I w cur d [] /\All2 (fun p x=>R.rd I (kI n p) x) d xs
 | [],cur,K,h=>⟨[],h,rfl,.nil⟩
 | x::xs,cur,K,⟨c,rest,G,K1,e1,e2,e3,e4,e5⟩=>by
  obtain ⟨rfl,b⟩:=e e4;obtain ⟨p,rfl⟩:=Jh n c (e2.trans h1) (R.rd_one b);obtain ⟨d,rfl,g,f⟩:=K0 e h1 e5;have a: ∀(m:Nat) (q:(gU m).den),(gU m).rep.own I w (kI m q) q []:=by
   intro m;induction m with
   | zero=>intro q;exact ⟨rfl,rfl⟩
   | succ m i=>intro q;exact ⟨[q.1.1],kI m q.2,[],[],rfl,rfl,⟨rfl,rfl⟩,i q.2⟩
  exact ⟨p::d,e3,⟨kI n p,rest,[],[],e1,by rw[e2,h1,nL],rfl,a n p,g⟩,.cons b f⟩
theorem Fs {n:Nat} {α:Type} {E:TypeId} {R:Rep α} (t:R.Sh) (h1:R.size=n+1) {I:Hp} {w0 w:World} {C:List Ch} {v:Value} {xs:List α} (h:St I w0 w (Ch.own (ax E R) [v] xs::C)): ∃b:List (gU n).den,All2 (fun p x=>R.rd I (kI n p) x) b xs/\St I w0 w (Ch.own (ax E (gU n).rep) [v] b::C):=by
 obtain ⟨i,j,F,⟨G,K,rfl,⟨z,k⟩,e⟩,m,l⟩:=h;rcases k with ⟨a,rfl,rfl⟩ | ⟨g,c,cap,cur,y,a,r,A,q,u,rfl,o⟩
 ·exact ⟨[],.nil,i,j,[] ++K,⟨[],K,rfl,⟨Nat.zero_le _,.inl ⟨a,rfl,rfl⟩⟩,e⟩,m,l⟩
 ·obtain ⟨b,rfl,s,d⟩:=K0 t h1 o;have f:=d.length_eq;exact ⟨b,d,i,j,[g] ++K,⟨[g],K,rfl,⟨by omega,.inr ⟨g,c,cap,cur,[],by grind,r,by omega,q,by grind[nL],rfl,s⟩⟩,e⟩,m,l⟩
theorem HD {n:Nat} {α:Type} {R:Rep α} (b:Cpy R R) (h1:R.size=n+1) {I:Hp} {w:World} : ∀ {ps:List (gU n).den} {xs:List α} {cur:List Value} {F:List Nat},OwnEls (gU n).rep I w cur ps F->All2 (fun p x=>R.rd I (kI n p) x) ps xs->OwnEls R I w cur xs F
 | [],[],_,_,h,_=>h
 | p::ps,x::xs,cur,F,⟨c,rest,G,K,e1,e2,e3,e4,e5⟩,hh=>by
  cases hh with
  | cons hp a =>
   obtain ⟨rfl,rfl⟩:=Fq n e4;exact ⟨kI n p,rest,[],K,e1,by grind[nL],e3,b hp,HD b h1 e5 a⟩
 | [],_::_,_,_,_,hh=>by cases hh
 | _::_,[],_,_,_,hh=>by cases hh
theorem BZ {n:Nat} {α:Type} {E:TypeId} {R:Rep α} (r:Cpy R R) (h1:R.size=n+1) {I:Hp} {w0 w:World} {C:List Ch} {v:Value} {xs:List α} {ps:List (gU n).den} (hp:All2 (fun p x=>R.rd I (kI n p) x) ps xs) (h:St I w0 w (Ch.own (ax E (gU n).rep) [v] ps::C)):St I w0 w (Ch.own (ax E R) [v] xs::C):=by
 obtain ⟨f,i,F,⟨G,K,rfl,⟨t,k⟩,e⟩,l,j⟩:=h;have d:=hp.length_eq;rcases k with ⟨a,rfl,rfl⟩ | ⟨g,c,cap,cur,b,a,q,u,o,s,rfl,m⟩
 ·cases hp;exact ⟨f,i,[] ++K,⟨[],K,rfl,⟨Nat.zero_le _,.inl ⟨a,rfl,rfl⟩⟩,e⟩,l,j⟩
 ·exact ⟨f,i,(g::b)++K,⟨g::b,K,rfl,⟨by omega,.inr ⟨g,c,cap,cur,b,by grind,q,by omega,o,by grind[nL],rfl,HD r h1 m hp⟩⟩,e⟩,l,j⟩
theorem B0 {α β:Type} {p:α->β->Prop} : ∀ {xs:List α} {ys:List β} (n:Nat),All2 p xs ys->All2 p (xs.take n) (ys.take n)
 | _,_,0,_=>.nil
 | _,_,n+1,.nil=>.nil
 | _,_,n+1,.cons h k=>.cons h (B0 n k)
theorem A7 {α β:Type} {p:α->β->Prop} : ∀ {xs:List α} {ys:List β} {b:List α} {a:List β},All2 p xs ys->All2 p b a->All2 p (xs++b) (ys++a)
 | _,_,_,_,.nil,h=>h
 | _,_,_,_,.cons h k,h'=>.cons h (A7 k h')
def abh {α:Type} (xs:List α) (i j:Int):Option (List α):=(chk (0<=i/\i<=j/\j<=(xs.length:Int))).bind fun _=>some (xs.take i.toNat++xs.drop j.toNat)
def abi {α:Type} (z:α) (p0s:List α) (p1i p2j:Int):Option (List α):=
 (chk (And (0<=p1i) (And (p1i<=p2j) (And (p2j<=(p0s.length:Int)) ((0+(p0s.length:Int))<=(p0s.length:Int)))))).bind fun _=>if p1i==p2j then (some p0s) else ((chk (And ((0:Int)<=0) (And (0<=p1i) ((0+p1i)<=(p0s.length:Int))))).bind fun _=>(chk (And (0<=p2j) (And (p2j<=((p0s.length:Int) - 0)) ((0+((p0s.length:Int) - 0))<=(p0s.length:Int))))).bind fun _=>(chk (And ((0+0:Int)=0) (And ((0+p1i)<=(0+p2j)) (And ((0+p2j)<=(0+((p0s.length:Int) - 0))) ((0+((p0s.length:Int) - 0))<=(p0s.length:Int)))))).bind fun _=>(chk (And (0<=(((0+p1i)+((0+((p0s.length:Int) - 0)) - (0+p2j))) - 0)) (And ((((0+p1i)+((0+((p0s.length:Int) - 0)) - (0+p2j))) - 0)<=(p0s.length:Int)) ((0+(p0s.length:Int))<=((q8 p0s ((0+p1i).toNat) ((0+p2j).toNat) ((0+((p0s.length:Int) - 0)).toNat)).length:Int))))).bind fun _=>(chk (And ((0+(((0+p1i)+((0+((p0s.length:Int) - 0)) - (0+p2j))) - 0))<=(0+(p0s.length:Int))) ((0+(p0s.length:Int))<=((q8 p0s ((0+p1i).toNat) ((0+p2j).toNat) ((0+((p0s.length:Int) - 0)).toNat)).length:Int)))).bind fun _=>some (((tJ (q8 p0s ((0+p1i).toNat) ((0+p2j).toNat) ((0+((p0s.length:Int) - 0)).toNat)) ((0+(((0+p1i)+((0+((p0s.length:Int) - 0)) - (0+p2j))) - 0)).toNat) ((0+(p0s.length:Int)).toNat) z).take (((0+p1i)+((0+((p0s.length:Int) - 0)) - (0+p2j))).toNat)).drop ((0:Int).toNat)))
theorem chk_of {α:Type} {p:Prop} [Decidable p] {k:Unit->Option α} (h:p):(chk p).bind k=k ():=by
 simp_all[chk,if_pos]
theorem XB {α:Type} {z:α} {xs:List α} {i j:Int} (h1:0<=i) (e:i<=j) (f:j<=(xs.length:Int)):abi z xs i j=some (xs.take i.toNat++xs.drop j.toNat):=by
 have b:(q8 xs ((0+i).toNat) ((0+j).toNat) ((0+((xs.length:Int) - 0)).toNat)).length=xs.length:=xF (by omega) (by omega) (by omega);unfold abi;rw[chk_of (by omega)];by_cases d:i=j
 ·simp_all
 ·rw[if_neg (by grind),chk_of (by omega),chk_of (by omega),chk_of (by omega),chk_of (by omega),chk_of (by omega)];have a:(tJ (q8 xs ((0+i).toNat) ((0+j).toNat) ((0+((xs.length:Int) - 0)).toNat)) ((0+(((0+i)+((0+((xs.length:Int) - 0)) - (0+j))) - 0)).toNat) ((0+(xs.length:Int)).toNat) z).length=xs.length:=by
   grind[tK]
  congr 1;rw[show ((0:Int).toNat)=0 from rfl,List.drop_zero];apply List.ext_getElem?;intro q;rw[List.getElem?_take];by_cases c:q<((0+i)+((0+((xs.length:Int) - 0)) - (0+j))).toNat
  ·rw[if_pos c,G7 (by omega) (by omega),if_neg (by omega),DQ (by omega) (by omega) (by omega)];grind
  grind
theorem XC {P:Program} {k:FuncId} {E n:Nat} {u:Ty} {z:(gU n).den} (A:u.sh=true) (hs:u.size=n+1) (h:FOk P k ⟨[.eat (.sl E (gU n)),.rd (.int .i64),.rd (.int .i64)],[.sl E (gU n)],abi z,none⟩):FOk P k ⟨[.eat (.sl E u),.rd (.int .i64),.rd (.int .i64)],[.sl E u],abh,none⟩:=by
 refine ⟨fun q W=>(by cases W),fun _=>h.en rfl,fun _ s J γ Y d r f X ra=>?_⟩;obtain ⟨v,V,rfl,H,B,Q,rfl,p,F,m,rfl,t,g⟩:=X;obtain rfl:m= []:=g;have ⟨x,K,O,un⟩:=d;let y:=x;let i:Int:=K;let j:Int:=O;let G:=r;have ra:abh y i j=some G:=ra;have ⟨Z,S,o⟩:=Option.bind_eq_some_iff.1 ra;have ⟨M,N,c3⟩:=bM S;have o:=ae o;have c:=(Ty.rep_size u).trans hs;intro w C a;have a:St J s w (Ch.own (ax E u.rep) [v] y::C):=a;have ⟨b,hp,l⟩:=Fs (Ty.sh_ok A) c a;have D:=hp.length_eq;have L:abi z b i j=some (b.take i.toNat++b.drop j.toNat):=XB M N (by omega);have key:=h.con rfl s J undef [v,B,F] (b,i,j,()) (show dens ([Ty.sl E (gU n)] ++ []) from b.take i.toNat++b.drop j.toNat) f ⟨v,_,rfl,H,B,_,rfl,p,F,_,rfl,t,rfl⟩ L;refine (key w C l).mono fun e U ⟨r,R,T,I⟩=>⟨r,R,T,?_⟩
 show St J s U (Ch.own (ax E u.rep) [r] G::C);rw[<-o];exact BZ (Ty.cpy A) c (A7 (B0 _ hp) (p7 _ hp)) I
def acQ {α:Type} (b:Nat) (z:α) (xs:List α) (i:Int) (v:List α) (c:Nat):Option (List α×List α):=
 (chk ((0:Int)<=0/\0<=i/\0+i<=(xs.length:Int))).bind fun _ =>
 (chk ((0+0:Int)=0/\0+i<=(xs.length:Int)/\0<i64.wrap (i64.wrap ((xs.length:Int)+(v.length:Int)) - i)/\(c:Int)<(0+i)+i64.wrap (i64.wrap ((xs.length:Int)+(v.length:Int)) - i)/\((0+i)+i64.wrap (i64.wrap ((xs.length:Int)+(v.length:Int)) - i))*(b:Int)<=140737488355328)).bind fun _ =>
 (fun s2:List α=>(chk (0<=i/\i<=(s2.length:Int) - 0/\0+((s2.length:Int) - 0)<=(s2.length:Int))).bind fun _ =>
  (chk ((0:Int)<=0/\0<=min ((v.length:Int) - 0) ((0+((s2.length:Int) - 0)) - (0+i))/\0+min ((v.length:Int) - 0) ((0+((s2.length:Int) - 0)) - (0+i))<=(v.length:Int)/\0<=0+i/\0+i<=(s2.length:Int)/\0+((s2.length:Int) - 0)<=(s2.length:Int))).bind fun _ =>
  (fun s3:List α=>(chk (0<=i64.wrap (i+(v.length:Int))/\i64.wrap (i+(v.length:Int))<=(s3.length:Int) - 0/\0+((s3.length:Int) - 0)<=(s3.length:Int))).bind fun _ =>
   (chk (0<=i/\i<=(xs.length:Int) - 0/\0+((xs.length:Int) - 0)<=(xs.length:Int))).bind fun _ =>
   (chk (0<=0+i/\0<=min ((0+((xs.length:Int) - 0)) - (0+i)) ((0+((s3.length:Int) - 0)) - (0+i64.wrap (i+(v.length:Int))))/\(0+i)+min ((0+((xs.length:Int) - 0)) - (0+i)) ((0+((s3.length:Int) - 0)) - (0+i64.wrap (i+(v.length:Int))))<=(xs.length:Int)/\0<=0+i64.wrap (i+(v.length:Int))/\0+i64.wrap (i+(v.length:Int))<=(s3.length:Int)/\0+((s3.length:Int) - 0)<=(s3.length:Int))).bind fun _ =>
   some (zb s3 (0+i64.wrap (i+(v.length:Int))).toNat (AZ xs (0+i) (min ((0+((xs.length:Int) - 0)) - (0+i)) ((0+((s3.length:Int) - 0)) - (0+i64.wrap (i+(v.length:Int)))))),v))
  (zb s2 (0+i).toNat (AZ v 0 (min ((v.length:Int) - 0) ((0+((s2.length:Int) - 0)) - (0+i))))))
 (xs.take (0+i).toNat++List.replicate (i64.wrap (i64.wrap ((xs.length:Int)+(v.length:Int)) - i)).toNat z)
def insS {α:Type} (xs:List α) (i:Int) (v:List α) (c:Nat):Option (List α×List α):=
 (fun w0 w:Int=>(chk ((xs.length:Int)<=w0/\w0<=(c:Int))).bind fun _ =>
  (chk (0<=w/\w<=w0 - 0/\w0 - 0<=w0 - 0)).bind fun _ =>
  (chk (0<v.length/\0+w<0+(w0 - 0))).bind fun _ =>
  (chk (0<=w/\w<=w0 - 0/\w0 - 0<=w0 - 0)).bind fun _ =>
  (chk (0<=i/\i<=w0 - 0/\w0 - 0<=w0 - 0)).bind fun _ =>
  (chk (0<=0+i/\0<=min ((0+(w0 - 0)) - (0+i)) ((0+(w0 - 0)) - (0+w))/\(0+i)+min ((0+(w0 - 0)) - (0+i)) ((0+(w0 - 0)) - (0+w))<=(xs.length:Int)/\0<=0+w/\0+w<=(xs.length:Int))).bind fun _ =>
  (chk ((0+w)+min ((0+(w0 - 0)) - (0+i)) ((0+(w0 - 0)) - (0+w))=w0/\(xs.length:Int)<=w0)).bind fun _ =>
  (fun s2:List α=>(chk (0<=i/\i<=(s2.length:Int) - 0/\0+((s2.length:Int) - 0)<=(s2.length:Int))).bind fun _ =>
   (chk ((0:Int)<=0/\0<=min ((v.length:Int) - 0) ((0+((s2.length:Int) - 0)) - (0+i))/\0+min ((v.length:Int) - 0) ((0+((s2.length:Int) - 0)) - (0+i))<=(v.length:Int)/\0<=0+i/\0+i<=(s2.length:Int)/\0+((s2.length:Int) - 0)<=(s2.length:Int))).bind fun _ =>
   some (zb s2 (0+i).toNat (AZ v 0 (min ((v.length:Int) - 0) ((0+((s2.length:Int) - 0)) - (0+i)))),v))
  (zb xs (0+w).toNat (AZ xs (0+i) (min ((0+(w0 - 0)) - (0+i)) ((0+(w0 - 0)) - (0+w))))))
 (i64.wrap ((xs.length:Int)+(v.length:Int))) (i64.wrap (i+(v.length:Int)))
noncomputable def abV {α:Type} (b:Nat) (z:α) (xs:List α) (i:Int) (v:List α):Option (List α×List α):=
 (chk (0<=i/\i<=(xs.length:Int) - 0/\0+((xs.length:Int) - 0)<=(xs.length:Int))).bind fun _ =>
 if (v.length:Int)==0 then some (xs,v) else if i==(xs.length:Int) then (bA b xs v).bind fun zs=>some (zs,v) else
 KE xs.length fun c=>if aaX .gtr (i64.wrap ((xs.length:Int)+(v.length:Int))) (c:Int) then acQ b z xs i v c else insS xs i v c
def Rm {α:Type} (b:Nat) (xs:List α) (i:Int) (v:List α):Option (List α×List α):=
 (chk (0<=i/\i<=(xs.length:Int)/\v.length=1/\1<=b/\(xs.length+1)*b<=140737488355328)).bind fun _=>some (xs.take i.toNat++(v++xs.drop i.toNat),v)
theorem Px {α:Type} {xs v:List α} {i q:Nat} (hi:i<=xs.length) (hv:v.length=1):(xs.take i++(v++xs.drop i))[q]? =if q<i then xs[q]? else if q=i then v[0]? else xs[q - 1]? :=by
 grind
set_option maxHeartbeats 1000000 in
theorem XD {α:Type} {b:Nat} {z:α} {xs v:List α} {i:Int} {r:List α×List α} (h:Rm b xs i v=some r):abV b z xs i v=some r:=by
 obtain ⟨u,I,h⟩:=Option.bind_eq_some_iff.1 h;obtain ⟨Q,K,hv,E,j⟩:=bM I;obtain rfl:=ae h;have L:xs.length+1<=140737488355328:=by
  have:(xs.length+1)*1<=(xs.length+1)*b:=Nat.mul_le_mul_left _ E
  omega
 obtain ⟨k,rfl⟩: ∃k:Nat,i=(k:Int):=⟨i.toNat,by omega⟩;have w:k<=xs.length:=by omega
 have p:i64.wrap ((xs.length:Int)+(v.length:Int))=((xs.length+1:Nat):Int):=by rw[hv,IntKind.wrap_i64];omega
 have A:i64.wrap ((k:Int)+(v.length:Int))=((k+1:Nat):Int):=by rw[hv,IntKind.wrap_i64];omega
 have F:i64.wrap (((xs.length+1:Nat):Int) - (k:Int))=((xs.length+1 - k:Nat):Int):=by rw[IntKind.wrap_i64];omega
 unfold abV;rw[chk_of (by omega)];rw[if_neg (by rw[hv];decide)];by_cases t:k=xs.length
 ·subst t;rw[if_pos (by simp)]
  have:bA b xs v=some (xs++v):=by unfold bA;rw[if_pos (by rw[hv];exact j)]
  rw[this];simp
 ·rw[if_neg (by simp;omega)];have C:((k:Int)).toNat=k:=rfl;have m:(0+(k:Int)).toNat=k:=by omega
  have x:(0+((k+1:Nat):Int)).toNat=k+1:=by omega
  have sv:AZ v 0 1=v:=by
   unfold AZ;rw[show ((0:Int)+1).toNat=1 from rfl,show ((0:Int)).toNat=0 from rfl,List.drop_zero,List.take_of_length_le (by omega)]
  have y:AZ xs (0+(k:Int)) ((xs.length:Int) - (k:Int))=xs.drop k:=by
   unfold AZ;rw[m,show (0+(k:Int)+((xs.length:Int) - (k:Int))).toNat=xs.length from by omega,List.take_length]
  have e:(xs.drop k).length=xs.length - k:=a7;refine OR (by unfold maxLen;omega) fun c M N=>?_;have g:aaX .gtr (i64.wrap ((xs.length:Int)+(v.length:Int))) (c:Int)=decide (((xs.length+1:Nat):Int)>(c:Int)):=by rw[p];rfl
  rw[g];by_cases P:xs.length+1>c
  ·rw[if_pos (by simp;omega)];unfold acQ;rw[p,A,F];generalize l:xs.take (0+(k:Int)).toNat++List.replicate (((xs.length+1 - k:Nat):Int)).toNat z=o;have n:o.length=xs.length+1:=by rw[<-l,m,az,aq,List.length_replicate];omega
   have H:min ((v.length:Int) - 0) ((0+((o.length:Int) - 0)) - (0+(k:Int)))=1:=by rw[hv,n];omega
   simp only[H,sv,m];have a:(zb o k v).length=xs.length+1:=by rw[o9 (by omega),n,hv];omega
   have G:min ((0+((xs.length:Int) - 0)) - (0+(k:Int))) ((0+(((zb o k v).length:Int) - 0)) - (0+((k+1:Nat):Int)))=(xs.length:Int) - (k:Int):=by rw[a];omega
   simp only[G,y,x];have s:((xs.length+1:Nat):Int)*(b:Int)<=140737488355328:=by rw[<-Int.natCast_mul];omega
   rw[chk_of (by omega),chk_of (by
    refine ⟨by omega,by omega,by omega,by omega,?_⟩;rw[show (0+(k:Int))+((xs.length+1 - k:Nat):Int)=((xs.length+1:Nat):Int) from by omega];exact s),chk_of (by rw[n];omega),chk_of (by rw[n,hv];omega),chk_of (by rw[a];omega),chk_of (by omega),chk_of (by rw[a];omega)]
   congr 2;apply List.ext_getElem?;intro q;rw[xI (by rw[a];omega),e,C,Px w hv];by_cases B:k+1<=q/\q<k+1+(xs.length - k)
   ·rw[if_pos B,if_neg (by omega),if_neg (by omega),List.getElem?_drop];congr 1;omega
   ·rw[if_neg B,xI (by omega),hv];by_cases d:q<k
    ·rw[if_neg (by omega),if_pos d,<-l,m,List.getElem?_append_left (by rw[aq];omega),List.getElem?_take,if_pos d]
    ·by_cases f:q=k
     ·rw[if_pos (by omega),if_neg d,if_pos f,f,Nat.sub_self]
     ·rw[if_neg (by omega),if_neg d,if_neg f,List.getElem?_eq_none (by omega),List.getElem?_eq_none (by omega)]
  ·rw[if_neg (by simp;omega)];unfold insS;simp only;rw[p,A];have D:min ((0+((((xs.length+1:Nat):Int)) - 0)) - (0+(k:Int))) ((0+((((xs.length+1:Nat):Int)) - 0)) - (0+((k+1:Nat):Int)))=(xs.length:Int) - (k:Int):=by omega
   simp only[D,y,m,x];have a:(zb xs (k+1) (xs.drop k)).length=xs.length+1:=by rw[o9 (by omega),e];omega
   have J:min ((v.length:Int) - 0) ((0+(((zb xs (k+1) (xs.drop k)).length:Int) - 0)) - (0+(k:Int)))=1:=by rw[a,hv];omega
   simp only[J,sv];rw[chk_of (by omega),chk_of (by omega),chk_of (by rw[hv];omega),chk_of (by omega),chk_of (by omega),chk_of (by omega),chk_of (by omega),chk_of (by rw[a];omega),chk_of (by rw[a,hv];omega)];congr 2;apply List.ext_getElem?;intro q;rw[xI (by rw[a];omega),hv,C,Px w hv];by_cases f:q=k
   ·rw[if_pos (by omega),if_neg (by omega),if_pos f,f,Nat.sub_self]
   ·rw[if_neg (by omega),xI (by omega),e];by_cases d:q<k
    ·rw[if_neg (by omega),if_pos d]
    ·rw[if_neg d,if_neg f];by_cases O:q<k+1+(xs.length - k)
     ·rw[if_pos (by omega),List.getElem?_drop];congr 1;omega
     ·rw[if_neg (by omega),List.getElem?_eq_none (by omega),List.getElem?_eq_none (by omega)]
theorem U7 {P:Program} {k:FuncId} {E:TypeId} (h:aa2 P k):FOk P k ⟨[],[],none,some (E,0)⟩:=
 ⟨fun q a=>(by cases ae a;exact ⟨⟨fun _=>h,fun e=>(by cases e),fun e=>(by cases e)⟩,fun e=>(by cases e),fun e=>(by cases e)⟩),fun e=>(by cases e),fun e=>(by cases e)⟩
theorem Py {P:Program} {k:FuncId} {E n b:Nat} {u:Ty} {z:(gU n).den} (s:u.sh=true) (hs:u.size=n+1) (h:FOk P k ⟨[.eat (.sl E (gU n)),.rd (.int .i64),.ow (.sl E (gU n))],[.sl E (gU n)],abV b z,none⟩):FOk P k ⟨[.eat (.sl E u),.rd (.int .i64),.ow (.sl E u)],[.sl E u],Rm b,none⟩:=by
 refine ⟨fun q o=>(by cases o),fun _=>h.en rfl,fun _ K J γ vs d r g ha ra=>?_⟩;obtain ⟨v,vs1,rfl,N,I,W,rfl,A,G,t,rfl,D,l⟩:=ha;obtain rfl:t= []:=l;have ⟨F,Q,R,un⟩:=d;let M:=F;let i:Int:=Q;let U:=R;let H:=r;have ra:Rm b M i U=some H:=ra;have ⟨u1,hc,x⟩:=Option.bind_eq_some_iff.1 ra;have x:=ae x;have a:=(Ty.rep_size u).trans hs;intro w C B;have ⟨c,hp,p⟩:=Fs (Ty.sh_ok s) a B;have ⟨f,o,m⟩:=Fs (Ty.sh_ok s) a (p.perm (List.Perm.swap _ _ _));have j:=m.perm (List.Perm.swap _ _ _);have L:=hp.length_eq;have y:=o.length_eq;have X:Rm b c i f=some (c.take i.toNat++(f++c.drop i.toNat),f):=by
  unfold Rm;grind
 have T:=XD (z:=z) X;have key:=h.con rfl K J undef [v,I,G] (c,i,f,()) (show dens ([Ty.sl E (gU n)] ++ [Ty.sl E (gU n)]) from (c.take i.toNat++(f++c.drop i.toNat),f)) g ⟨v,_,rfl,N,I,_,rfl,A,G,_,rfl,D,rfl⟩ T;refine (key w C j).mono fun e w' ⟨r,Y,Z,O⟩=>⟨r,Y,Z,?_⟩
 have S:=BZ (Ty.cpy s) a (A7 (B0 _ hp) (A7 o (p7 _ hp))) O;have V:=BZ (Ty.cpy s) a o (S.perm (List.Perm.swap _ _ _));show St J K w' (Ch.own (ax E u.rep) [r] H.1::Ch.own (ax E u.rep) [G] H.2::C);rw[<-x];exact V.perm (List.Perm.swap _ _ _)
def rtN (V:Env) (rvs:List ResultVar) (T:TypeId) (s:Sg):Option (Int×Int):=(BY V.tt s rvs).bind fun vs=>match vs with
 | [.one (.ptr h off)] =>cg (Nat.beq off 0) ((rO h s.chs).bind fun b=>cg (Nat.beq b.T T) (match b.cells with
  | [.rd g _ _,.val (.int .i64 x),.val (.int .i64 y)] =>cg (Hdr.beq g ⟨0,[]⟩) (some (x,y))
  | _=>none))
 | _=>none
theorem ZQ {V:Env} {P:Program} (hT:TTok P V.tt) (hF:FTok P V.ft) (Z:P.follows .mixedOrders=true) {k:FuncId} {fn:Func} {c:Code} {E T:Nat} {t:Ty} {m:List t.den->Option (Int×Int)} (hf:P.funcs[k]? =some fn) (hb:fn.body=some c) (hn:fn.ntmps=V.n) (W:Enters P k) (hm:1<=V.n) (M:Ann)
  (G: ∀B:List t.den,m B=kH V (rtN V fn.results.toList T) c M (fun r=>some r) (fun _ _=>none) (rtN V fn.results.toList T) ⟨[(0,0,.one (.rd ⟨0,[]⟩ (.sl E t) B))],[],1⟩):NewOk P k T ⟨[.rd (.sl E t)],[.int .i64,.int .i64],m,some (T,9)⟩:=by
 refine ⟨W,fun w0 J γ vs d r ns N ha ra hns=>?_⟩;obtain ⟨v,X,rfl,hd,O⟩:=ha;obtain rfl:X= []:=O;obtain ⟨B,u⟩:=d;obtain ⟨cs,hcs,hrd⟩:=hd;obtain rfl:cs= [v]:=hcs;obtain ⟨x,y⟩:=r;have hr:=G B;rw[show m B=some (x,y) from ra] at hr;obtain rfl: [x,y] =ns:=ae hns;let θ:Th:=fun _=>v;refine uY (n:=V.n) [(0,v)] hf hb hn hm (fun p hp=>by obtain rfl:=ak hp;rfl) (fun F w a hA R=>?_) (fun u=>Ch.back_deeps ⟨Uq,trivial⟩);have C:Fine P w0 J θ ⟨[(0,0,.one (.rd ⟨0,[]⟩ (.sl E t) B))],[],1⟩:=⟨fun e L=>by obtain rfl:=ak L;exact ⟨Nat.one_pos,hrd⟩,fun e L=>by obtain rfl:=ak L;exact Nat.one_pos,List.pairwise_singleton _ _,fun e L=>(by cases L),N⟩;have hS:Sim P J w0 F V.n J θ ⟨[(0,0,.one (.rd ⟨0,[]⟩ (.sl E t) B))],[],1⟩ a w:=⟨Hp.le.rfl,hA,R,C⟩;have fin: ∀r o θ' s A j,rtN V fn.results.toList T s=some r->Sim P J w0 F V.n o θ' s A j->J.le o->Fr ⟨[(0,0,.one (.rd ⟨0,[]⟩ (.sl E t) B))],[],1⟩ θ s θ'->
   bodyPost P fn (fun e j=> ∃u,e= .returned u/\(∃b,u= .pointer (some ⟨b,0,none⟩))/\ ∃J2,J.le J2/\St J2 w0 j ([Ch.blk (bk u) ([v] ++ [r.1,r.2].map (Value.int .i64)) T] ++ [F])) .ret A j:=by
  intro r o θ' s A j f H K l;obtain ⟨us,hus,f⟩:=bind_some f;obtain ⟨r1,r2⟩:=xO hT H hus;split at f
  ·rename_i h off;obtain ⟨ho,f⟩:=ai f;obtain rfl:off=0:=au ho;obtain ⟨b,Y,f⟩:=bind_some f;obtain ⟨D,f⟩:=ai f;have D:b.T=T:=au D;split at f
   ·rename_i g ty d p q z;obtain ⟨hg,f⟩:=ai f;obtain rfl:=Hdr.beq_eq hg;obtain rfl:=ae f;refine ZM H.agr r1 ⟨_,rfl,⟨bk (hv θ' h),rfl⟩,o,K,?_⟩;have h1:=H.st.perm (((lf Y).map (toCh P θ')).append_right [F]);have e0:hv θ' ⟨0,[]⟩=v:=by
     show vg (θ' 0) [] =v;rw[l.same 0 Nat.one_pos];rfl
    have h2:St o w0 j (Ch.blk (bk (hv θ' h)) (b.cells.map (·.v θ')) b.T::(b.rest.map (toCh P θ')++ [F])):=h1;rw[z,D] at h2;have h3:St o w0 j ([Ch.blk (bk (hv θ' h)) [hv θ' ⟨0,[]⟩,.int .i64 p,.int .i64 q] T] ++ [F] ++b.rest.map (toCh P θ')):=h2.perm ((List.perm_append_comm).cons _);rw[e0] at h3;exact h3.left
   ·cases f
  ·cases f
 exact (rU (I:=J) (w0:=w0) (F:=F) hT hF Z c).1 M hr.symm hS (fun o θ' s A j U H K l=>fin _ o θ' s A j U H K l) (fun i o θ' s A j U=>by cases U) (fun r' o θ' s A j f Q S K l=>by
  obtain rfl:=ae Q;exact fin _ o θ' s A j f S K l)
theorem XE {P:Program} {k:FuncId} {f:FS} {T:Nat} (d:NewOk P k T f) (a:f.cl=some (T,9)):FOk P k f:=by
 have b:f.ov=true:=by unfold FS.ov;rw[a];rfl
 refine ⟨fun q c=>?_,fun e=>(by rw[b] at e;cases e),fun e=>(by rw[b] at e;cases e)⟩;rw[a] at c;obtain rfl:=ae c;exact ⟨⟨fun e=>(by cases e),fun _ _ _ e=>(by cases e),fun e=>(by cases e)⟩,fun e=>(by cases e),fun _=>d⟩
end R
namespace R
open Go.RowKit Go.Shelf Go.Sort
open D
def Te (xs:List ByteArray) (sep:ByteArray):Option ByteArray:=(chk (xs.length<=140737488355328/\(Lib.join (xs.map (·.data.toList)) sep.data.toList).length<=140737488355328)).bind fun _=>some ⟨(Lib.join (xs.map (·.data.toList)) sep.data.toList).toArray⟩
def Tf (n:Int):Option ByteArray:=(chk (-9223372036854775808<=n/\n<=9223372036854775807)).bind fun _=>some ⟨(Lib.itoa n).toArray⟩
section
variable {P:Program} {ρ:Ren}
theorem St.grownS {I:Hp} {w0 w:World} {cs:List Ch} (h:St I w0 w cs) (os:Array Obj):St I w0 (grow w os) cs:=by
 refine St.step (w:=w) (c:=[]) (c':=[]) h rfl rfl rfl (by simp[grow]) ?_;rintro F rfl - -;exact ⟨fun b a _=>heap_grow_old w os a,[],rfl,List.nodup_nil,by simp⟩
theorem St.belowS {I:Hp} {w0 w w':World} {cs:List Ch} (h:St I w0 w cs) (a:Below w.heap.size w w'):St I w0 w' cs:=by
 refine St.step (w:=w) (c:=[]) (c':=[]) h a.os a.tape a.output a.size ?_;rintro F rfl - -;exact ⟨fun b d _=>a.block b d,[],rfl,List.nodup_nil,by simp⟩
theorem Tg (L:LaysM.n171 P ρ) (l:Enters P (ρ.f 171)):FOk P (ρ.f 171) ⟨[.rd (.int .i64)],[.str],fun n=>Tf n,none⟩:=by
 refine ⟨fun q x=>(by cases x),fun _=>l,fun _ i J γ z d r b y ra=>?_⟩;obtain ⟨v,h,rfl,⟨p,j,u⟩,f⟩:=y;obtain rfl:h= []:=f;obtain ⟨t,B⟩:=d;let n:Int:=t;obtain rfl:p= [v]:=j;obtain rfl:v= .int .i64 n:=(List.cons.inj u).1;obtain ⟨A,g,o⟩:=Option.bind_eq_some_iff.1 (show Tf n=some r from ra);have g:=bM g;obtain rfl:=ae o;intro w C a;have a:St J i w C:=a;refine (Any.strconv_Itoa L n g.1 g.2 w (b w a.2.1).tab).mono ?_;rintro e E ⟨rfl,k,s,rfl⟩;have m:St J i (w.drewN k) C:=a.drawn rfl rfl rfl rfl;exact ⟨_,rfl,rfl,D.St.free (R:=Nb) (c:=[.string _]) (St.grownS m s) ⟨rfl,rfl⟩⟩
theorem Ti (L:Lays.n156 P ρ) (X:Builder.Extra P ρ) (E:TypeId) (H:Enters P (ρ.f 156)):FOk P (ρ.f 156) ⟨[.rd (.sl E .str),.rd .str],[.str],fun f s=>Te f s,none⟩:=by
 refine ⟨fun q hq=>(by cases hq),fun _=>H,fun _ O J γ vs d r y ha ra=>?_⟩;obtain ⟨v,Z,rfl,⟨S,G,U⟩,u,o,rfl,⟨T,K,Y⟩,i⟩:=ha;obtain rfl:o= []:=i;obtain ⟨p,sep,un⟩:=d;let f:List ByteArray:=p;obtain rfl:S= [v]:=G;obtain rfl:T= [u]:=K;obtain rfl:u= .string sep:=(List.cons.inj Y).1;obtain ⟨u1,l,M⟩:=Option.bind_eq_some_iff.1 (show Te f sep=some r from ra);have l:=bM l;obtain rfl:=ae M;obtain ⟨N,cap,hv,⟨hl,h⟩,k⟩:((ax E Nb).rd J [v] f):=U;obtain rfl:=(List.cons.inj hv).1;intro w C a;have a:St J O w C:=a;rcases k with k | ⟨b,off,n,t,F,rfl,A,I⟩
 ·have k:f= []:=k;rw[k] at l⊢;refine (Any.strings_Join_none L X N cap sep w).mono ?_;rintro e W ⟨rfl,rfl⟩;refine ⟨_,rfl,rfl,?_⟩;exact D.St.free (R:=Nb) (c:=[.string _]) a ⟨rfl,rfl⟩
 ·have m:=a.2.1 _ _ A;have g:b<w.heap.size:=(Array.getElem?_eq_some_iff.1 m).1;refine (Any.strings_Join L X b off cap f sep w (fun j x z=>?_) g l.1 h l.2).mono ?_
  ·obtain ⟨c,e1,V,B⟩:=I j x z;obtain rfl:c= [.string x]:=B
   have:=V 0 Nat.one_pos
   have e:off+j*Nb.size+0=off+j:=by show off+j*1+0=_;omega
   rw[e] at this;unfold World.cell?;have m:w.heap[b]? =some (.cells n t F):=m;simp only[m];rw[<-Array.getElem?_toList,this]
   rfl
  ·rintro e W ⟨rfl,Q⟩;exact ⟨_,rfl,rfl,D.St.free (R:=Nb) (c:=[.string _]) (St.belowS a Q) ⟨rfl,rfl⟩⟩
end
end R
end Go.Proofs.YtodbpnpbhpeepaaGreatDoor
