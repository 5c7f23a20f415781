/- FnMessages: for every input the law returns true and changes nothing that was there. Part 4 of 9. -/
import Derived.Test.YtncnbjfngmhfaaaGreatDoorAC2
set_option synthInstance.maxSize 20000
set_option synthInstance.maxHeartbeats 2000000
set_option linter.unusedVariables false
set_option linter.unusedSimpArgs false
set_option linter.unnecessarySimpa false
set_option linter.unusedSectionVars false
set_option maxRecDepth 1000000
namespace Go.Proofs.YtncnbjfngmhfaaaGreatDoor
open Go.IntKind (i64)
namespace R
open Go.RowKit
open D
section
variable {P:Program} {I:Hp} {w0:World} {o:Oper} {ev:Operand->Value}
theorem JV {x:Operand} {a:Addr} (c:o.op= .nilCheck x) (b:ev x= .pointer (some a)):OpT P I w0 o ev [] (· = .pointer (some a)) (fun _=>[]):=
 bp fun w=>by simp_all[execOp]
theorem V8 {x y:Operand} {T U:TypeId} {m n:Int} (c:o.op= .call { callee:=.builtin .min,args:= #[x,y],argTypes:= #[T,U] }) (b:ev x= .int .i64 m) (a:ev y= .int .i64 n):OpT P I w0 o ev [] (· = .int .i64 (min m n)) (fun _=>[]):=
 bp fun w=>by
  have e:min m n=if n<m then n else m:=by omega
  simp_all[execOp,resolve,invoke,builtin,Builtin.min_,Builtin.min2]
theorem V9 {x y:Operand} {T U:TypeId} {m n:Int} (c:o.op= .call { callee:=.builtin .max,args:= #[x,y],argTypes:= #[T,U] }) (b:ev x= .int .i64 m) (a:ev y= .int .i64 n):OpT P I w0 o ev [] (· = .int .i64 (max m n)) (fun _=>[]):=
 bp fun w=>by
  have e:max m n=if m<n then n else m:=by omega
  simp_all[execOp,resolve,invoke,builtin,Builtin.max_,Builtin.max2]
theorem De {t e:TypeId} {a:Option Addr} {w:World} (b:P.underlying t=some (.pointer e)):(Op.equal t (.pointer a) (.pointer none)).run P w= .ok a.isNone w:=by
 have key: ∀n,(Op.equalIn (n+1) t (.pointer a) (.pointer none)).run P w= .ok a.isNone w:=fun n=>by
  unfold Op.equalIn;rw[Sem.run_bind,run_underlying b,Result.andThen_ok];cases a <;> rfl
 exact key 9999
theorem NX {t e:TypeId} {a:Option Addr} {l c:Nat} {w:World} (b:P.underlying t=some (.slice e)):(Op.equal t (.slice a l c) (.slice none 0 0)).run P w= .ok (FO (.slice a l c)) w:=by
 have key: ∀n,(Op.equalIn (n+1) t (.slice a l c) (.slice none 0 0)).run P w= .ok (FO (.slice a l c)) w:=fun n=>by
  unfold Op.equalIn;rw[Sem.run_bind,run_underlying b,Result.andThen_ok];cases a <;> rfl
 exact key 9999
theorem If {x y:Operand} {t u e:TypeId} {a:Option Addr} {l c:Nat} (f:P.underlying t=some (.slice e)) (i:o.op= .binOp .eql t x y u) (h:ev x= .slice a l c) (d:ev y= .slice none 0 0):OpT P I w0 o ev [] (· = .bool (FO (.slice a l c))) (fun _=>[]):=
 bp fun w=>by
  have g:eqGuard .eql t x y (.slice a l c) (.slice none 0 0)=pure ():=rfl;have b:binOp .eql t (.slice a l c) (.slice none 0 0)=(do pure (.bool (<-Op.equal t (.slice a l c) (.slice none 0 0)))):=rfl;simp_all[execOp,Sem.run_bind,Sem.run_pure,NX,Result.andThen_ok]
theorem NY {x y:Operand} {t u e:TypeId} {a:Option Addr} (d:P.underlying t=some (.pointer e)) (h:o.op= .binOp .eql t x y u) (g:ev x= .pointer a) (c:ev y= .pointer none):OpT P I w0 o ev [] (· = .bool a.isNone) (fun _=>[]):=
 bp fun w=>by
  have f:eqGuard .eql t x y (.pointer a) (.pointer none)=pure ():=rfl;have b:binOp .eql t (.pointer a) (.pointer none)=(do pure (.bool (<-Op.equal t (.pointer a) (.pointer none)))):=rfl;simp_all[execOp,Sem.run_bind,Sem.run_pure,De,Result.andThen_ok]
theorem NZ {x y:Operand} {t u e:TypeId} {a:Option Addr} (d:P.underlying t=some (.pointer e)) (h:o.op= .binOp .neq t x y u) (g:ev x= .pointer a) (c:ev y= .pointer none):OpT P I w0 o ev [] (· = .bool (!a.isNone)) (fun _=>[]):=
 bp fun w=>by
  have f:eqGuard .neq t x y (.pointer a) (.pointer none)=pure ():=rfl;have b:binOp .neq t (.pointer a) (.pointer none)=(do pure (.bool (!(<-Op.equal t (.pointer a) (.pointer none))))):=rfl;simp_all[execOp,Sem.run_bind,Sem.run_pure,De,Result.andThen_ok]
end
section
variable {Y:Type} (tt:TT) (s:Sg) (k:Res->Option Y)
def Wa (x:Operand):Option Y:=match opd s x with
 | some (.one (.ptr h off))=>k (.pure s (.one (.ptr h off)))
 | some (.one (.rd h (.tree T E t) d))=>(Tr.get d).bind fun _=>k (.pure s (.one (.rd h (.tree T E t) d)))
 | _=>none
def aaG (x y:Operand):Option Y:=match opd s x,opd s y with
 | some (.one (.val (.int .i64 m))),some (.one (.val (.int .i64 n)))=>kv s k (.int .i64 (min m n))
 | _,_=>none
def aaH (x y:Operand):Option Y:=match opd s x,opd s y with
 | some (.one (.val (.int .i64 m))),some (.one (.val (.int .i64 n)))=>kv s k (.int .i64 (max m n))
 | _,_=>none
def aaI (b:BinOp) (T:TypeId) (x y:Operand):Option Y:=(td tt T).bind fun q=>q.pt.bind fun _=>match opd s x,opd s y with
 | some (.one (.rd h (.tree T' E t) d)),some (.one (.val v))=>bO (C9 v) (match b with
  | .eql=>kv s k (.bool d.isNil)
  | .neq=>k (.pure s (.one (.nb d.isNil)))
  | _=>none)
 | some (.one (.ptr h off)),some (.one (.val v))=>bO (C9 v) (match b with
  | .eql=>kv s k (.bool false)
  | .neq=>kv s k (.bool true)
  | _=>none)
 | _,_=>none
def aac (b:BinOp) (T:TypeId) (x y:Operand):Option Y:=(td tt T).bind fun q=>q.el.bind fun _=>match opd s x,opd s y,b with
 | some (.one (.rdn h b (.sl E t) d)),some (.one (.val v)),.eql=>bO (isNil v) (kv s k (.bool b))
 | some (.one (.own h)),some (.one (.val v)),.eql=>bO (isNil v) ((rowOf h s.chs).bind fun r=>(chk (0<(r.xs.length:Int))).bind fun _=>k ⟨[r.ent h],[],r.rest,[],.one (.val (.bool false))⟩)
 | some (.one (.val u)),some (.one (.val v)),.eql=>bO (isNil v&&isNil u) (kv s k (.bool true))
 | _,_,_=>none
def N1 (T:TypeId) (x:Operand) (f:Nat):Option Y:=(td tt T).bind fun d=>(d.fields[f]?).bind fun q=>match opd s x with
 | some (.one (.rd h (.tree T' E t) a))=>(Tr.get a).bind fun p=>k (.pure s (.one (.fz h T' (.prod t (.sl E (.tree T' E t))) p q.1)))
 | _=>none
def aaJ (s:Sg) (x:Operand):Option (Hdr×(E:TypeId)×(t:Ty)×List t.den):=match opd s x with
 | some (.one (.rd h (.sl E t) xs))=>some (h,⟨E,t,xs⟩)
 | _=>none
def asI (s:Sg) (x:Operand):Option Int:=match opd s x with
 | some (.one (.val (.int .i64 m)))=>some m
 | _=>none
def Rw (E:TypeId) (t:Ty) (xs:List t.den):Option Y:=k (.pure s (.one (.rd ⟨s.nxt,[]⟩ (.sl E t) xs)))
def N2 (T:TypeId) (x:Operand) (lo hi:Option Operand):Option Y:=(td tt T).bind fun d=>d.el.bind fun E'=>(td tt E').bind fun e=>(aaJ s x).bind fun r=>bO (Nat.beq e.n r.2.2.1.size) (match lo,hi with
 | some l,none=>(asI s l).bind fun l=>(chk (0<=l/\l<=(r.2.2.2.length:Int))).bind fun _=>Rw s k r.2.1 r.2.2.1 (r.2.2.2.drop l.toNat)
 | none,some h=>(asI s h).bind fun h=>(chk (0<=h/\h<=(r.2.2.2.length:Int))).bind fun _=>Rw s k r.2.1 r.2.2.1 (r.2.2.2.take h.toNat)
 | some l,some h=>(asI s l).bind fun l=>(asI s h).bind fun h=>(chk (0<=l/\l<=h/\h<=(r.2.2.2.length:Int))).bind fun _=>Rw s k r.2.1 r.2.2.1 ((r.2.2.2.take h.toNat).drop l.toNat)
 | none,none=>none)
def N3 (T:TypeId) (x:Operand) (lo hi:Option Operand):Option Y:=(td tt T).bind fun d=>match d.el,opd s x,lo,hi with
 | some E',some (.one (.own h)),none,some hi=>(rowOf h s.chs).bind fun r=>(td tt E').bind fun e=>bO (Nat.beq e.n r.t.size) ((asI s hi).bind fun m=>(chk (0<=m/\m<=(r.xs.length:Int))).bind fun _=>newRow s k r.E r.t [r.ent h] r.rest (r.xs.take m.toNat))
 | _,_,_,_=>none
def N4 (T:TypeId) (x:Operand) (lo hi:Option Operand):Option Y:=(td tt T).bind fun d=>match d.el,opd s x,lo,hi with
 | some E',some (.one (.own h)),some lo,none=>(rowOf h s.chs).bind fun r=>(td tt E').bind fun e=>bO (Nat.beq e.n r.t.size) ((asI s lo).bind fun m=>(chk (0<=m/\m<=(r.xs.length:Int))).bind fun _=>newRow s k r.E r.t [r.ent h] r.rest (r.xs.drop m.toNat))
 | _,_,_,_=>none
def N5 (T:TypeId) (x:Operand) (lo hi:Option Operand):Option Y:=(td tt T).bind fun d=>match d.el,opd s x,lo,hi with
 | some E',some (.one (.own h)),some lo,none=>(rowOf h s.chs).bind fun r=>(td tt E').bind fun e=>bO (Nat.beq e.n r.t.size) ((asI s lo).bind fun m=>(chk (0<=m/\m<=(r.xs.length:Int))).bind fun _=>k ⟨[r.ent h],[],r.rest,[],.sub h r.ver r.E r.t r.xs m⟩)
 | _,_,_,_=>none
def N6 (T:TypeId) (x:Operand) (lo hi:Option Operand):Option Y:=(td tt T).bind fun d=>match d.el,opd s x,lo,hi with
 | some E',some (.one (.own h)),none,some hi=>(rowOf h s.chs).bind fun r=>(td tt E').bind fun e=>bO (Nat.beq e.n r.t.size) ((asI s hi).bind fun m=>(chk (0<=m/\m<=(r.xs.length:Int))).bind fun _=>k ⟨[r.ent h],[],r.rest,[],.pre h r.ver r.E r.t r.xs m⟩)
 | _,_,_,_=>none
structure Src0 where
 h:Hdr
 sub:Bool
 ver:Nat
 lo:Int
def Ug:AV->Option Src0
 | .one (.own h)=>some ⟨h,false,0,0⟩
 | .sub h ver _ _ _ l=>some ⟨h,true,ver,l⟩
 | _=>none
def Uh (h:Hdr) (ver:Nat) (E:TypeId) (k1:IntKind) (xs:List Int) (rest:List Ent) (lo:Int) (y:AV):Option Y:=match y with
 | .one (.rd _ (.sl _ (.int k2)) ys)=>bO (k1==k2) ((chk (0<=lo/\lo<=(xs.length:Int))).bind fun _=>k ⟨[],[(h,ver,.own (.sl E (.int k1)) xs)],rest,[(h,.own (.sl E (.int k1)) (Fz xs lo.toNat ys))],.one (.val (.int .i64 ((min ys.length (xs.length - lo.toNat):Nat):Int)))⟩)
 | .pre h2 v2 _ _ _ hi=>bO (Hdr.beq h2 h&&Nat.beq v2 ver) ((chk (0<=lo/\lo<=(xs.length:Int))).bind fun _=>(chk (0<=hi/\hi<=(xs.length:Int))).bind fun _=>k ⟨[],[(h,ver,.own (.sl E (.int k1)) xs)],rest,[(h,.own (.sl E (.int k1)) (Fz xs lo.toNat (xs.take hi.toNat)))],.one (.val (.int .i64 ((min (xs.take hi.toNat).length (xs.length - lo.toNat):Nat):Int)))⟩)
 | _=>none
def Ig (r:Row):Option ((k:IntKind)×List Int):=match r.t,r.xs with
 | .int k,xs=>some ⟨k,xs⟩
 | _,_=>none
def Yv (T:TypeId) (x y:Operand):Option Y:=(td tt T).bind fun d=>d.el.bind fun E=>(td tt E).bind fun e=>bO (Nat.beq e.n 1) ((opd s x).bind fun xv=>(Ug xv).bind fun c=>(rowOf c.h s.chs).bind fun r=>bO (Nat.beq r.E E&&(!c.sub || Nat.beq c.ver r.ver)) ((Ig r).bind fun q=>(opd s y).bind fun yv=>Uh k c.h r.ver r.E q.1 q.2 r.rest c.lo yv))
def N7 (E b:Nat) (x:Operand):Option Y:=match opd s x with
 | some (.sub h ver E' t xs l)=>(rowOf h s.chs).bind fun r=>bO (Nat.beq r.ver ver&&(t.sh&&Nat.beq t.size 1)) ((bM b [] (xs.drop l.toNat)).bind fun zs=>k ⟨[r.ent h],[],r.rest,[(⟨s.nxt,[]⟩,.own (.sl E t) zs)],.one (.own ⟨s.nxt,[]⟩)⟩)
 | some (.one (.own h))=>(rowOf h s.chs).bind fun r=>bO (r.t.sh&&Nat.beq r.t.size 1) ((bM b [] r.xs).bind fun zs=>k ⟨[r.ent h],[],r.rest,[(⟨s.nxt,[]⟩,.own (.sl E r.t) zs)],.one (.own ⟨s.nxt,[]⟩)⟩)
 | some (.one (.rd h (.sl E' t) xs))=>bO (t.sh&&Nat.beq t.size 1) ((bM b [] xs).bind fun zs=>newRow s k E t [] s.chs zs)
 | _=>none
end
section
variable {Y:Type} {tt:TT} {s:Sg} {k:Res->Option Y} {P:Program} {w0:World} {o:Oper} {res:Y} {x y:Operand}
theorem Rx {av:AV} {fact:Hp->Th->Value->Prop} (a: ∀J θ,Fine P w0 J θ s->OpT P J w0 o (evL (envL θ s)) [] (fact J θ) (fun _=>[])) (c: ∀J θ v,Fine P w0 J θ s->fact J θ v->av.ok P w0 J (upd θ s.nxt v) (s.nxt+1) s.chs/\av.v (upd θ s.nxt v)=v):Good P w0 s o (Res.pure s av):=
 ⟨List.Perm.refl _,fun _ _ _ g b=>(by cases b),fun J θ d=>OpT.weak (a J θ d) (fun v hv=>by
  have ⟨e,f⟩:=c J θ v d hv;exact ⟨e,f,fun g b=>by cases b⟩) (fun v hv=>rfl)⟩
theorem Ry (j:o.op= .nilCheck x) (h:Wa s k x=some res):Oks P w0 s o k res:=by
 unfold Wa at h;split at h
 ·rename_i i off c;exact ⟨_,h,fC (fun J θ a=>JV j (aF c)) fun J θ a=>bN a c⟩
 ·rename_i i T E t d c;have ⟨p,hp,h⟩:=bind_some h;refine ⟨_,h,fC (fun J θ a=>?_) fun J θ a=>bN a c⟩;have f:=bN a c;obtain ⟨b,e,-⟩:=Jz (E:=E) f.2 hp;have g:=(aF c).trans e;grind[JV,aF]
 grind
theorem Wb {T U:TypeId} (c:o.op= .call { callee:=.builtin .min,args:= #[x,y],argTypes:= #[T,U] }) (h:aaG s k x y=some res):Oks P w0 s o k res:=by
 unfold aaG at h;split at h
 ·rename_i m n b a;exact lA h rfl fun J θ d=>V8 c (aF b) (aF a)
 grind
theorem Wc {T U:TypeId} (c:o.op= .call { callee:=.builtin .max,args:= #[x,y],argTypes:= #[T,U] }) (h:aaH s k x y=some res):Oks P w0 s o k res:=by
 unfold aaH at h;split at h
 ·rename_i m n b a;exact lA h rfl fun J θ d=>V9 c (aF b) (aF a)
 grind
theorem N8 (A:TTok P tt) {b:BinOp} {t u:TypeId} (n:o.op= .binOp b t x y u) (h:aaI tt s k b t x y=some res):Oks P w0 s o k res:=by
 have ⟨q,r,h⟩:=bind_some h;have ⟨e,w,h⟩:=bind_some h;have c:=(A.get r).pt e w;split at h
 ·rename_i z B E C d v m l;have ⟨f,h⟩:=ai h;have f:=As f;subst f;have key: ∀J θ,Fine P w0 J θ s-> ∃a:Option Addr,evL (envL θ s) x= .pointer a/\a.isNone=d.isNil:=fun J θ g=>by
   have p:=bN g m;have ⟨a,j,i⟩:=Q9 p.2;exact ⟨a,(aF m).trans j,i⟩
  split at h
  ·refine lA h rfl fun J θ g=>?_;have ⟨a,j,i⟩:=key J θ g;rw[<-i];exact NY c n j (aF l)
  ·refine ⟨_,h,fC (fun J θ g=>?_) fun _ _ _=>trivial⟩;have ⟨a,j,i⟩:=key J θ g;rw[<-i];exact NZ c n j (aF l)
  grind
 ·rename_i z off v m l;have ⟨f,h⟩:=ai h;have f:=As f;subst f;split at h
  ·exact lA h rfl fun J θ g=>NY c n (aF m) (aF l)
  ·exact lA h rfl fun J θ g=>NZ c n (aF m) (aF l)
  grind
 grind
theorem Ih (I:TTok P tt) {b:BinOp} {t u:TypeId} (p:o.op= .binOp b t x y u) (h:aac tt s k b t x y=some res):Oks P w0 s o k res:=by
 have ⟨q,D,h⟩:=bind_some h;have ⟨e,H,h⟩:=bind_some h;have c:=(I.get D).el e H;split at h
 ·rename_i z N E S d v f i _ _;have ⟨a,h⟩:=ai h;have a:=oc a;subst a;refine lA h rfl fun J θ n=>?_;have m:=bN n f;obtain ⟨M,⟨w,cap,j,-⟩,A⟩:=m;have j:hv θ z= .slice w d.length cap:=by simpa using j
  rw[j] at A;rw[<-A];exact If c p ((aF f).trans j) (aF i)
 ·rename_i z v f i _ _;have ⟨a,h⟩:=ai h;have a:=oc a;subst a;have ⟨r,C,h⟩:=bind_some h;have ⟨O,B,h⟩:=bind_some h;have B:=bE B;obtain ⟨hp,-⟩:=bF C;refine ⟨_,h,oN hp,aU rfl,fun J θ n=>OpT.weak (vj (fact:=(· = .bool false)) fun G=>?_) (fun u l=>?_) (fun u l=>rfl)⟩
  ·have ⟨w,cap,L,K,Q⟩:=G;obtain ⟨R,off,rfl⟩:=K (by omega);exact If c p ((aF f).trans L) (aF i)
  ·subst l;exact ⟨Eq.refl true,rfl,fun g F=>by cases F⟩
 ·rename_i u v f i _ _;have ⟨a,h⟩:=ai h;rw[aj] at a;have hv:=oc a.1;have l:=oc a.2;subst hv;subst l;exact lA h rfl fun J θ n=>If c p (aF f) (aF i)
 grind
theorem Lz (z:TTok P tt) {T:TypeId} {f:Nat} (B:o.op= .fieldAddr T x f) (h:N1 tt s k T x f=some res):Oks P w0 s o k res:=by
 have ⟨d,A,h⟩:=bind_some h;have ⟨q,v,h⟩:=bind_some h;split at h
 ·rename_i j r E t a u;have ⟨p,hp,h⟩:=bind_some h;have m:=(z.get A).fld f q v;have key: ∀J θ,Fine P w0 J θ s->j.id<s.nxt/\ ∃b,hv θ j= .pointer (some ⟨b,0,none⟩)/\ ∃cells:List Value,J b=some (.cells cells.toArray r (0,0))/\(Ty.prod t (.sl E (.tree r E t))).rep.rd J cells p:=fun J θ g=>by
   have c:=bN g u;have ⟨b,e,cells,i,n⟩:=Jz (E:=E) c.2 hp;exact ⟨c.1,b,e,cells,i,n⟩
  refine ⟨_,h,fC (fun J θ g=>?_) fun J θ g=>?_⟩
  ·obtain ⟨-,b,e,-⟩:=key J θ g;have l:=(aF u).trans e
   have:=mR (P:=P) (I:=J) (w0:=w0) m B l
   rw[Nat.zero_add] at this;show OpT P J w0 o _ [] (· = .pointer (some ⟨bk (hv θ j),q.1,none⟩)) _;rw[e];exact this
  ·have ⟨w,b,e,cells,i,n⟩:=key J θ g;exact ⟨w,cells,by rw[e];exact i,n⟩
 grind
theorem Wd {r:Hdr×(E:TypeId)×(t:Ty)×List t.den} (h:aaJ s x=some r):opd s x=some (.one (.rd r.1 (.sl r.2.1 r.2.2.1) r.2.2.2)):=by
 grind[aaJ,ae]
theorem oP {m:Int} (h:asI s x=some m) (θ:Th):evL (envL θ s) x= .int .i64 m:=by
 unfold asI at h;split at h
 ·rename_i a;cases ae h;exact aF a
 grind
theorem Eu {E:TypeId} {t:Ty} {xs:List t.den} (h:Rw s k E t xs=some res) (a: ∀J θ,Fine P w0 J θ s->OpT P J w0 o (evL (envL θ s)) [] (fun v=>(Ty.sl E t).rep.rd J [v] xs) (fun _=>[])):Oks P w0 s o k res:=
 ⟨_,h,Rx (fact:=fun J θ v=>(Ty.sl E t).rep.rd J [v] xs) a fun J θ v c b=>⟨⟨ax _,by grind[dV]⟩,dV⟩⟩
theorem LA (r:TTok P tt) {T:TypeId} {lo hi:Option Operand} (q:o.op= .slice T x lo hi none) (h:N2 tt s k T x lo hi=some res):Oks P w0 s o k res:=by
 have ⟨d,D,h⟩:=bind_some h;have ⟨w,C,h⟩:=bind_some h;have ⟨e,A,h⟩:=bind_some h;have ⟨⟨B,E,t,F⟩,z,h⟩:=bind_some h;have l:=Wd z;have ⟨n,h⟩:=ai h;have n:=al n;have g:=(r.get D).el w C;have i:=(r.get A).ti;have key: ∀J θ,Fine P w0 J θ s->(aw E t.rep).rd J [hv θ B] F:=fun J θ c=>(bN c l).2;have f:=t.rep_size.trans n.symm;split at h
 ·have ⟨m,j,h⟩:=bind_some h;have ⟨u,b,h⟩:=bind_some h;have b:=bE b;refine Eu h fun J θ c=>OpT.weak (vh g i (Hd.of_rd (key J θ c)) q (aF l) (oP j θ) b) (fun v a=>?_) (fun v a=>rfl);subst a;exact Jy (key J θ c) (by grind) f
 ·have ⟨m,j,h⟩:=bind_some h;have ⟨u,b,h⟩:=bind_some h;have b:=bE b;refine Eu h fun J θ c=>OpT.weak (vi g i (Hd.of_rd (key J θ c)) q (aF l) (oP j θ) b) (fun v a=>?_) (fun v a=>rfl);subst a;exact Q5 (key J θ c) (by omega) f
 ·have ⟨m,j,h⟩:=bind_some h;have ⟨G,p,h⟩:=bind_some h;have ⟨u,b,h⟩:=bind_some h;have b:=bE b;refine Eu h fun J θ c=>OpT.weak (FM g i (Hd.of_rd (key J θ c)) q (aF l) (oP j θ) (oP p θ) b) (fun v a=>?_) (fun v a=>rfl);subst a;exact Jx (key J θ c) (by omega) (by omega) f
 grind
theorem Rz {α:Type} {E:TypeId} {R:Rep α} {I:Hp} {w:World} {C:List Ch} {v:Value} {xs:List α} {m n:Nat} (h:St I w0 w (Ch.own (aw E R) [v] xs::C)) (V:m<=xs.length) (M:R.size=n):St I w0 w (Ch.own (aw E R) [rL v m xs.length n] (xs.drop m)::C):=by
 obtain ⟨p,r,F,⟨G,K,rfl,k,e⟩,l,q⟩:=h;have ⟨T,k⟩:=k;have B:(xs.drop m).length=xs.length - m:=bP;rcases k with ⟨j,rfl,rfl⟩ | ⟨g,c,cap,cur,S,j,u,U,L,Q,rfl,t⟩
 ·obtain rfl:v= .slice none 0 0:=by grind
  obtain rfl:m=0:=by grind
  refine ⟨p,r,[] ++K,⟨[],K,rfl,⟨by simp,.inl ⟨?_,rfl,rfl⟩⟩,e⟩,l,q⟩
  rfl
 ·rw[<-List.take_append_drop m xs] at t;obtain ⟨N,D,d,a,J,A,rfl,-,z⟩:=t.cut2;have hp:((g::(d++a))++K).Perm (((g::a)++K)++d):=by
   rw[aC]
   have:((d++a)++K).Perm (a++(K++d)):=by
    rw[aC,<-aC a K d];exact List.perm_append_comm
   exact this.cons g
  have H:cur.toList.drop (c+m*R.size)=D:=by
   rw[<-List.drop_drop,J]
   have:(xs.take m).length=m:=by rw[aB];omega
   rw[this] at A;exact List.drop_left' A
  by_cases O:cap=m
  ·have f:xs.drop m= []:=List.eq_nil_of_length_eq_zero (by omega);rw[f] at z;obtain rfl:a= []:=z;refine ⟨p,r,(g:: [])++K,⟨g:: [],K,rfl,⟨by omega,.inr ⟨g,c,0,cur,[],?_,u,by omega,Nat.zero_le _,by omega,rfl,by rw[f];rfl⟩⟩,e⟩,(List.nodup_append.1 (hp.nodup_iff.1 l)).1,fun b i=>q b (hp.mem_iff.2 (bm _ i))⟩;grind[rL,sliced]
  ·refine ⟨p,r,(g::a)++K,⟨g::a,K,rfl,⟨by omega,.inr ⟨g,c+m*R.size,cap - m,cur,a,?_,u,by omega,by omega,?_,rfl,by grind⟩⟩,e⟩,(List.nodup_append.1 (hp.nodup_iff.1 l)).1,fun b i=>q b (hp.mem_iff.2 (bm _ i))⟩
   ·grind[rL,sliced,Addr.add_mid]
   ·have:m*R.size+(cap - m)*R.size=cap*R.size:=by rw[<-Nat.add_mul];congr 1;omega
    omega
theorem RA {α:Type} {E:TypeId} {R:Rep α} {I:Hp} {w:World} {C:List Ch} {v:Value} {xs:List α} {m n:Nat} (h:St I w0 w (Ch.own (aw E R) [v] xs::C)) (M:m<=xs.length) (D:R.size=n):St I w0 w (Ch.own (aw E R) [rL v 0 m n] (xs.take m)::C):=by
 obtain ⟨l,q,F,⟨G,K,rfl,k,e⟩,j,p⟩:=h;have ⟨J,k⟩:=k;have r:(xs.take m).length=m:=by rw[aB];omega
 rcases k with ⟨d,rfl,rfl⟩ | ⟨g,f,cap,cur,H,d,z,L,u,A,rfl,i⟩
 ·obtain rfl:v= .slice none 0 0:=by grind
  obtain rfl:m=0:=by grind
  refine ⟨l,q,[] ++K,⟨[],K,rfl,⟨by simp,.inl ⟨?_,rfl,rfl⟩⟩,e⟩,j,p⟩
  rfl
 ·rw[<-List.take_append_drop m xs] at i;obtain ⟨a,c,rfl,B,-⟩:=i.parts;have hp:((g::(a++c))++K).Perm (((g::a)++K)++c):=by
   rw[aC];show (g::((a++c)++K)).Perm (g::(a++(K++c)));rw[aC];exact (List.perm_append_comm.append_left a).cons g
  refine ⟨l,q,(g::a)++K,⟨g::a,K,rfl,⟨by omega,.inr ⟨g,f,cap,cur,a,?_,z,by omega,u,A,rfl,B⟩⟩,e⟩,(List.nodup_append.1 (hp.nodup_iff.1 j)).1,fun b t=>p b (hp.mem_iff.2 (bm _ t))⟩;grind[rL,sliced,Addr.add]
theorem LB (i:TTok P tt) {T:TypeId} {lo hi:Option Operand} (B:o.op= .slice T x lo hi none) (h:N3 tt s k T x lo hi=some res):Oks P w0 s o k res:=by
 have ⟨d,A,h⟩:=bind_some h;split at h
 ·rename_i F f j t E _;have ⟨r,n,h⟩:=bind_some h;have ⟨e,z,h⟩:=bind_some h;have ⟨b,h⟩:=ai h;have b:=al b;have ⟨m,D,h⟩:=bind_some h;have ⟨u,g,h⟩:=bind_some h;have g:=bE g;obtain ⟨hp,-⟩:=bF n;have c:=r.t.rep_size.trans b.symm;refine ⟨_,h,good_row (rs:=[]) (Cx hp) fun J θ G=>?_⟩;have q:OpT P J w0 o (evL (envL θ s)) [Ch.own (aw r.E r.t.rep) [hv θ f] r.xs] (· =rL (hv θ f) 0 m.toNat e.n) (fun _=>[Ch.own (aw r.E r.t.rep) [hv θ f] r.xs]):=vj fun p=>vi ((i.get A).el _ t) (i.get z).ti p B (aF E) (oP D θ) g;refine OpT.post q fun v w C a l=>⟨trivial,?_⟩
  subst a;exact RA l (by omega) c
 grind
theorem LC (i:TTok P tt) {T:TypeId} {lo hi:Option Operand} (B:o.op= .slice T x lo hi none) (h:N4 tt s k T x lo hi=some res):Oks P w0 s o k res:=by
 have ⟨d,z,h⟩:=bind_some h;split at h
 ·rename_i F f A q E _;have ⟨r,l,h⟩:=bind_some h;have ⟨e,t,h⟩:=bind_some h;have ⟨b,h⟩:=ai h;have b:=al b;have ⟨m,D,h⟩:=bind_some h;have ⟨u,g,h⟩:=bind_some h;have g:=bE g;obtain ⟨hp,-⟩:=bF l;have c:=r.t.rep_size.trans b.symm;refine ⟨_,h,good_row (rs:=[]) (Cx hp) fun J θ G=>?_⟩;have p:OpT P J w0 o (evL (envL θ s)) [Ch.own (aw r.E r.t.rep) [hv θ f] r.xs] (· =rL (hv θ f) m.toNat r.xs.length e.n) (fun _=>[Ch.own (aw r.E r.t.rep) [hv θ f] r.xs]):=vj fun n=>vh ((i.get z).el _ q) (i.get t).ti n B (aF E) (oP D θ) g;refine OpT.post p fun v w C a j=>⟨trivial,?_⟩
  subst a;exact Rz j (by omega) c
 grind
theorem N9 {h:Hdr} {ver:Nat} {E:TypeId} {t:Ty} {xs:List t.den} {l:Int} {J:Hp} {θ:Th} {r:Row} (a:rowOf h s.chs=some r) (hv:r.ver=ver) (b:AV.ok P w0 J θ s.nxt s.chs (.sub h ver E t xs l)):r.ent h=(h,ver,.own (.sl E t) xs):=by
 obtain ⟨hp,-⟩:=bF a
 have:=b.2.2.2 (r.ent h) (hp.mem_iff.2 (by simp)) _ ⟨rfl,.inl ⟨hv,rfl⟩⟩
 show (h,r.ver,Chk.own (.sl r.E r.t) r.xs)=_;rw[hv,show Chk.own (.sl r.E r.t) r.xs=_ from this]
theorem LD (j:TTok P tt) {T:TypeId} {lo hi:Option Operand} (A:o.op= .slice T x lo hi none) (h:N5 tt s k T x lo hi=some res):Oks P w0 s o k res:=by
 have ⟨d,w,h⟩:=bind_some h;split at h
 ·rename_i D b z t C _;have ⟨r,i,h⟩:=bind_some h;have ⟨e,v,h⟩:=bind_some h;have ⟨f,h⟩:=ai h;have f:=al f;have ⟨m,B,h⟩:=bind_some h;have ⟨u,c,h⟩:=bind_some h;have c:=bE c;obtain ⟨hp,-⟩:=bF i;refine ⟨_,h,oN hp,aU rfl,fun J θ l=>OpT.weak (vj (fact:=(· =rL (hv θ b) m.toNat r.xs.length e.n)) fun q=>vh ((j.get w).el _ t) (j.get v).ti q A (aF C) (oP B θ) c) (fun u n=>?_) (fun u n=>rfl)⟩;have a:=kY l hp;refine ⟨⟨aZ a.1,c,(wj i a.2.1).newer (Res.newer (oN hp) (aU rfl J θ l)) (Nat.le_succ _)⟩,?_,fun g p=>by cases p⟩;rw[n,f];show rL (hv (upd θ s.nxt _) b) _ _ _=rL (hv θ b) _ _ _;rw[show hv (upd θ s.nxt _) b=hv θ b from ba Same.upd a.1]
 grind
theorem LF (j:TTok P tt) {T:TypeId} {lo hi:Option Operand} (A:o.op= .slice T x lo hi none) (h:N6 tt s k T x lo hi=some res):Oks P w0 s o k res:=by
 have ⟨d,z,h⟩:=bind_some h;split at h
 ·rename_i D b p v C _;have ⟨r,i,h⟩:=bind_some h;have ⟨e,w,h⟩:=bind_some h;have ⟨f,h⟩:=ai h;have f:=al f;have ⟨m,B,h⟩:=bind_some h;have ⟨u,c,h⟩:=bind_some h;have c:=bE c;obtain ⟨hp,-⟩:=bF i;refine ⟨_,h,oN hp,aU rfl,fun J θ l=>OpT.weak (vj (fact:=(· =rL (hv θ b) 0 m.toNat e.n)) fun t=>vi ((j.get z).el _ v) (j.get w).ti t A (aF C) (oP B θ) c) (fun u n=>?_) (fun u n=>rfl)⟩;have a:=kY l hp;refine ⟨⟨aZ a.1,c,(wj i a.2.1).newer (Res.newer (oN hp) (aU rfl J θ l)) (Nat.le_succ _)⟩,?_,fun g q=>by cases q⟩;rw[n,f];show rL (hv (upd θ s.nxt _) b) _ _ _=rL (hv θ b) _ _ _;rw[show hv (upd θ s.nxt _) b=hv θ b from ba Same.upd a.1]
 grind
theorem JW {e:Ent} {rest:List Ent} {t:Ty} {d:t.den} {v:Value} (hp:s.chs.Perm (e::rest)) (h1:v.oneCell'=true) (b: ∀J θ,Fine P w0 J θ s->OpT P J w0 o (evL (envL θ s)) [toCh P θ e] (· =v) (fun _=>[Ch.own t.rep [hv θ e.1] d])):Good P w0 s o ⟨[],[e],rest,[(e.1,.own t d)],.one (.val v)⟩:=by
 refine ⟨Cx hp,aU rfl,fun J θ c=>OpT.weak (b J θ c) (fun u f=>?_) (fun u f=>?_)⟩
 ·have a:=kY c hp;refine ⟨h1,f.symm,fun g h=>?_⟩;cases ak h;exact ⟨aZ a.1,ax _,trivial⟩
 ·have a:=kY c hp;show [Ch.own t.rep [hv θ e.1] d] = [Ch.own t.rep [hv (upd θ s.nxt u) e.1] d];rw[show hv (upd θ s.nxt u) e.1=hv θ e.1 from ba Same.upd a.1]
theorem Ii {r:Row} {q:(k:IntKind)×List Int} {h:Hdr} (a:Ig r=some q):r.ent h=(h,r.ver,.own (.sl r.E (.int q.1)) q.2):=by
 have ⟨b,E,t,f,rest⟩:=r;unfold Ig at a;split at a
 ·rename_i k c d e;cases ae a;subst d;cases eq_of_heq e
  rfl
 grind
theorem RB (Q:TTok P tt) {T U:TypeId} (S:o.op= .call { callee:=.builtin .copy,args:= #[x,y],argTypes:= #[T,U] }) (h:Yv tt s k T x y=some res):Oks P w0 s o k res:=by
 have ⟨d,hd,h⟩:=bind_some h;have ⟨E,hE,h⟩:=bind_some h;have ⟨e,X,h⟩:=bind_some h;have ⟨F,h⟩:=ai h;have F:=al F;have ⟨xv,L,h⟩:=bind_some h;have ⟨c,v,h⟩:=bind_some h;have ⟨r,N,h⟩:=bind_some h;have ⟨f,h⟩:=ai h;rw[aj] at f;have g:=al f.1;have ⟨q,W,h⟩:=bind_some h;have ⟨yv,B,h⟩:=bind_some h;obtain ⟨hp,-⟩:=bF N;have b:=Ii (h:=c.h) W;rw[b,g] at hp;have n:=(Q.get hd).el E hE;have t:(P.info? E).map (·.size)=some 1:=by have:=(Q.get X).ti;rw[F] at this;exact Yh this
 have p: ∀J θ,Fine P w0 J θ s->(evL (envL θ s) x=hv θ c.h/\c.lo.toNat=0)\/evL (envL θ s) x=rL (hv θ c.h) c.lo.toNat q.2.length 1:=by
  intro J θ j;unfold Ug at v;split at v
  ·cases ae v;exact .inl ⟨aF L,rfl⟩
  ·rename_i Z z M t' K l;cases ae v;have G:z=r.ver:=al (by grind);have A:=N9 N G.symm (bN j L);rw[b] at A;have R:=(Prod.mk.inj (Prod.mk.inj A).2).2
   injection R with H O
   injection H with h5 D
   subst D;cases eq_of_heq O;right;rw[aF (θ:=θ) L]
   rfl
  ·cases v
 unfold Uh at h;split at h
 ·rename_i Z M k2 ys;have ⟨i,h⟩:=ai h;have i:q.1=k2:=by simpa using i
  subst i;have ⟨u,a,h⟩:=bind_some h;have a:=bE a;rw[g] at h;refine ⟨_,h,JW (e:=(c.h,r.ver,.own (.sl E (.int q.1)) q.2)) hp rfl fun J θ j=>?_⟩;have I:c.lo.toNat<=q.2.length:=by omega
  exact HZ (lo:=c.lo.toNat) (bN j B).2 n t S rfl (aF B) I (p J θ j)
 ·rename_i R v2 M t' K hi;have ⟨i,m⟩:=ai h;rw[aj] at i;have e1:=Hdr.beq_eq i.1;subst e1;have e2:=al i.2;subst e2;have ⟨u,a,m⟩:=bind_some m;have a:=bE a;have ⟨u,w,m⟩:=bind_some m;have w:=bE w;have I:c.lo.toNat<=q.2.length:=by omega
  have V:hi.toNat<=q.2.length:=by omega
  rw[g] at m;refine ⟨_,m,JW (e:=(c.h,r.ver,.own (.sl E (.int q.1)) q.2)) hp rfl fun J θ j=>?_⟩;have C:=bN j B;have A:=C.2.2.2 (c.h,r.ver,.own (.sl E (.int q.1)) q.2) (hp.mem_iff.2 (by simp)) _ ⟨rfl,.inl ⟨rfl,rfl⟩⟩
  injection A with H O
  injection H with h5 D
  subst D;exact D7 (lo:=c.lo.toNat) (hi:=hi.toNat) n t S rfl ((aF B).trans rfl) I V (p J θ j)
 grind
inductive All2 {α β:Type} (p:α->β->Prop):List α->List β->Prop
 | nil:All2 p [] []
 | cons {a:α} {b:β} {l:List α} {m:List β} (h:p a b) (k:All2 p l m):All2 p (a::l) (b::m)
theorem All2.length_eq {α β:Type} {p:α->β->Prop} {l:List α} {m:List β} (h:All2 p l m):l.length=m.length:=by
 induction h with
 | nil=>rfl
 | cons _ _ ih=>grind
theorem Oa {α:Type} {R:Rep α} (d:R.Sh) (h1:R.size=1) {I:Hp} {w:World} : ∀ {xs:List α} {cur:List Value} {K:List Nat},OwnEls R I w cur xs K-> ∃b:List Raw,K= [] /\OwnEls HL I w cur b [] /\All2 (fun p x=>R.rd I [p.1] x) b xs
 | [],cur,K,h=>⟨[],h,rfl,.nil⟩
 | x::xs,cur,K,⟨c,rest,G,K1,e1,e2,e3,e4,e5⟩=>by
  obtain ⟨rfl,a⟩:=d e4;obtain ⟨p,rfl⟩:=List.length_eq_one_iff.1 (e2.trans h1);obtain ⟨b,rfl,f,e⟩:=Oa d h1 e5;exact ⟨⟨p,R.rd_one a p (by simp)⟩::b,e3,⟨[p],rest,[],[],e1,rfl,rfl,⟨rfl,rfl⟩,f⟩,.cons a e⟩
theorem Ob {α:Type} {R:Rep α} (d:Cpy R R) (h1:R.size=1) {I:Hp} {w:World} : ∀ {xs:List α} {ps:List Raw} {cur:List Value} {K:List Nat},OwnEls HL I w cur ps K->All2 (fun p x=>R.rd I [p.1] x) ps xs->K= [] /\OwnEls R I w cur xs []
 | [],[],cur,K,h,_=>⟨h,rfl⟩
 | x::xs,p::ps,cur,K,h,hh=>by
  have ⟨c,rest,G,j,f,i,g,a,e⟩:=h;cases hh with
  | cons hp b =>
   obtain ⟨rfl,a⟩:=a;obtain rfl:c= [p.1]:=a;obtain ⟨rfl,k⟩:=Ob d h1 e b;exact ⟨g,[p.1],rest,[],[],f,h1.symm,rfl,d hp,k⟩
 | [],_::_,_,_,_,hh=>by cases hh
 | _::_,[],_,_,_,hh=>by cases hh
theorem We {α:Type} {E:TypeId} {R:Rep α} (u:R.Sh) (h1:R.size=1) {I:Hp} {w:World} {C:List Ch} {v:Value} {xs:List α} (h:St I w0 w (Ch.own (aw E R) [v] xs::C)): ∃b:List Raw,All2 (fun p x=>R.rd I [p.1] x) b xs/\St I w0 w (Ch.own (aw E HL) [v] b::C):=by
 obtain ⟨l,i,F,⟨G,K,rfl,⟨B,k⟩,e⟩,f,n⟩:=h;rcases k with ⟨a,rfl,rfl⟩ | ⟨g,c,cap,cur,A,a,t,D,q,j,rfl,r⟩
 ·exact ⟨[],.nil,l,i,[] ++K,⟨[],K,rfl,⟨Nat.zero_le _,.inl ⟨a,rfl,rfl⟩⟩,e⟩,f,n⟩
 ·obtain ⟨b,rfl,z,d⟩:=Oa u h1 r;have m:=d.length_eq;exact ⟨b,d,l,i,[g] ++K,⟨[g],K,rfl,⟨by omega,.inr ⟨g,c,cap,cur,[],by grind,t,by omega,q,by rw[h1] at j;exact j,rfl,z⟩⟩,e⟩,f,n⟩
theorem Ij {α:Type} {E:TypeId} {R:Rep α} (t:Cpy R R) (h1:R.size=1) {I:Hp} {w:World} {C:List Ch} {v:Value} {xs:List α} {ps:List Raw} (hp:All2 (fun p x=>R.rd I [p.1] x) ps xs) (h:St I w0 w (Ch.own (aw E HL) [v] ps::C)):St I w0 w (Ch.own (aw E R) [v] xs::C):=by
 obtain ⟨f,d,F,⟨G,K,rfl,⟨z,k⟩,e⟩,c,j⟩:=h;have i:=hp.length_eq;rcases k with ⟨a,rfl,rfl⟩ | ⟨g,b,cap,cur,u,a,n,A,l,q,rfl,m⟩
 ·cases hp;exact ⟨f,d,[] ++K,⟨[],K,rfl,⟨Nat.zero_le _,.inl ⟨a,rfl,rfl⟩⟩,e⟩,c,j⟩
 ·obtain ⟨rfl,r⟩:=Ob t h1 m hp;exact ⟨f,d,[g] ++K,⟨[g],K,rfl,⟨by omega,.inr ⟨g,b,cap,cur,[],by grind,n,by omega,l,by rw[h1];exact q,rfl,r⟩⟩,e⟩,c,j⟩
theorem Yw {α:Type} {E:TypeId} {R:Rep α} (h1:R.size=1) {I:Hp} {v:Value} {xs:List α} (h:(aw E R).rd I [v] xs): ∃d:List Raw,All2 (fun p x=>R.rd I [p.1] x) d xs/\(aw E HL).rd I [v] d:=by
 obtain ⟨q,cap,e,B,h⟩:=h;obtain rfl:v= .slice q xs.length cap:=by grind
 rcases h with rfl | ⟨b,off,a,t,z,rfl,w,D⟩
 ·exact ⟨[],.nil,q,cap,rfl,B,.inl rfl⟩
 ·have key: ∀(xs:List α) (f:Nat),(∀i x,xs[i]? =some x-> ∃c:List Value,c.length=R.size/\(∀j,j<R.size->a.toList[off+(f+i)*R.size+j]? =c[j]?)/\R.rd I c x)-> ∃d:List Raw,All2 (fun p x=>R.rd I [p.1] x) d xs/\ ∀i p,d[i]? =some p->a.toList[off+(f+i)]? =some p.1:=by
   intro xs;induction xs with
   | nil=>intro f _;exact ⟨[],.nil,fun i p hp=>by grind⟩
   | cons x xs ih =>
    intro f h;have ⟨c,A,F,m⟩:=h 0 x rfl;obtain ⟨p,rfl⟩:=List.length_eq_one_iff.1 (A.trans h1);have ⟨d,g,r⟩:=ih (f+1) fun i y H=>by
     have:=h (i+1) y (by grind)
     grind
    refine ⟨⟨p,R.rd_one m p (by simp)⟩::d,.cons m g,fun i u G=>?_⟩;cases i with
    | zero =>
     obtain rfl:⟨p,R.rd_one m p (by simp)⟩=u:=by grind
     simp_all
    | succ i =>
     grind
  have ⟨d,g,r⟩:=key xs 0 (fun i x C=>by grind);have n:=g.length_eq;refine ⟨d,g,_,cap,by grind,by omega,.inr ⟨b,off,a,t,z,rfl,w,fun i p hp=>?_⟩⟩;refine ⟨[p.1],rfl,fun j l=>?_,rfl⟩;have l:j=0:=by have:j<1:=l;omega
  subst l;show a.toList[off+i*1+0]? =_;grind
theorem yR {α β:Type} {p:α->β->Prop} : ∀ {xs:List α} {ys:List β} (n:Nat),All2 p xs ys->All2 p (xs.drop n) (ys.drop n)
 | _,_,0,h=>h
 | _,_,n+1,.nil=>.nil
 | _,_,n+1,.cons _ h=>yR n h
theorem Ev {α:Type} {b:Nat} {xs zs:List α} (h:bM b [] xs=some zs):zs=xs/\(∀ {β:Type} (ys:List β),ys.length=xs.length->bM b [] ys=some ys):=by
 have ⟨c,a⟩:=wc h;simp_all[bM,if_pos]
theorem Gk {E':TypeId} {α:Type} {R:Rep α} (D:R.Sh) (n:Cpy R R) (h1:R.size=1) {h:FuncId} {E b:Nat} (d:xL P h E b) {xs zs:List α} {l:Nat} (O:l<=xs.length) (N:bM b [] (xs.drop l)=some zs) {v u:Value} (I:u=rL v l xs.length 1\/(l=0/\u=v)) {F:Array TypeId} {J:Hp} {θ:Th} (e:Lay P J) (L:o.op= .call { callee:=.value (.func h),args:= #[x],argTypes:=F }) {ev:Operand->Value} (B:ev x=u) (c:ev (.func h)= .func (.func h) #[] #[]) :
  OpT P J w0 o ev [Ch.own (aw E' R) [v] xs] (fun _=>True) (fun r=>[Ch.own (aw E' R) [v] xs,Ch.own (aw E R) [r] zs]):=by
 obtain ⟨rfl,xY⟩:=Ev N;intro w C q;have ⟨a,hp,p⟩:=We D h1 q;have f:=hp.length_eq;have G:OpT P J w0 o ev ([Ch.own (aw E' HL) [v] a] ++ []) (fun _=>True) (fun r=>[Ch.own (aw E' HL) [v] a] ++ [Ch.own (aw E HL) [r] (a.drop l)]):=by
  refine wu (fun v=>⟨Ap (D4 Yq),trivial⟩) fun m H i K=>?_;have g:=i (aw E' HL) [v] a (by simp);have j:(aw E' HL).rd m [u] (a.drop l):=by
   rcases I with rfl | ⟨rfl,rfl⟩
   ·rw[<-f];exact Jy g (by omega) rfl
   ·exact g
  exact pF d.1 L c (by grind) (d.2 E' m w0 u (a.drop l) (a.drop l) (e.mono H) j (xY _ (by grind)))
 have:=G w C (by simp_all)
 refine this.imp fun r M g=>⟨trivial,?_⟩
 have z:St J w0 M (Ch.own (aw E' HL) [v] a::Ch.own (aw E HL) [r] (a.drop l)::C):=by simpa using g.2
 have t:=Ij n h1 hp z;have A:=Ij n h1 (yR l hp) (t.perm (List.Perm.swap _ _ _));exact A.perm (List.Perm.swap _ _ _)
theorem RC {E':TypeId} {α:Type} {R:Rep α} (m:Cpy R R) (h1:R.size=1) {e:FuncId} {E b:Nat} (c:xL P e E b) {xs zs:List α} (p:bM b [] xs=some zs) {v:Value} {l:Array TypeId} {J:Hp} (d:Lay P J) (i:(aw E' R).rd J [v] xs) (n:o.op= .call { callee:=.value (.func e),args:= #[x],argTypes:=l }) {ev:Operand->Value} (j:ev x=v) (a:ev (.func e)= .func (.func e) #[] #[]) :
  OpT P J w0 o ev [] (fun _=>True) (fun r=>[Ch.own (aw E R) [r] zs]):=by
 obtain ⟨rfl,xY⟩:=Ev p;have ⟨g,hp,f⟩:=Yw h1 i
 have:=pF (P:=P) (w0:=w0) (o:=o) c.1 n a (by grind) (c.2 E' J w0 v g g d f (xY _ hp.length_eq))
 exact OpT.post this fun r w C _ h=>⟨trivial,Ij m h1 hp h⟩
theorem Gl {e:Ent} {rest:List Ent} {E:TypeId} {t:Ty} {xs:List t.den} (hp:s.chs.Perm (e::rest)) (a: ∀J θ,Fine P w0 J θ s->OpT P J w0 o (evL (envL θ s)) [toCh P θ e] (fun _=>True) (fun v=>[toCh P θ e,Ch.own (Ty.sl E t).rep [v] xs])):Good P w0 s o ⟨[e],[],rest,[(⟨s.nxt,[]⟩,.own (.sl E t) xs)],.one (.own ⟨s.nxt,[]⟩)⟩:=
 good_row (rs:=[e]) (ns:=[]) hp fun J θ c=>fun w C b=>(a J θ c w C b).imp fun v w hv=>⟨hv.1,hv.2.perm ((List.Perm.swap _ _ _).append_right C)⟩
theorem Oc {q:FuncId} {E b:Nat} (e:xL P q E b) {A:Array TypeId} (n:o.op= .call { callee:=.value (.func q),args:= #[x],argTypes:=A }) (h:N7 s k E b x=some res):Oks P w0 s o k res:=by
 unfold N7 at h;split at h
 ·rename_i p v w t B l d;have ⟨r,j,h⟩:=bind_some h;have ⟨a,h⟩:=ai h;rw[aj,aj] at a;have g:=al a.1;have c:=al a.2.2;have ⟨u,m,h⟩:=bind_some h;obtain ⟨hp,-⟩:=bF j;refine ⟨_,h,Gl hp fun J θ f=>?_⟩;have i:=bN f d;have z:=N9 j g i;rw[z];refine Gk (Ty.sh_ok a.2.1) (Ty.cpy a.2.1) (t.rep_size.trans c) e (l:=l.toNat) (by have:=i.2.1;omega) m (.inl ?_) (J:=J) (θ:=θ) f.lay n rfl rfl;rw[<-c];exact aF d
 ·rename_i p d;have ⟨r,j,h⟩:=bind_some h;have ⟨a,h⟩:=ai h;rw[aj] at a;have c:=al a.2;have ⟨u,m,h⟩:=bind_some h;obtain ⟨hp,-⟩:=bF j;refine ⟨_,h,Gl hp fun J θ f=>?_⟩;exact Gk (Ty.sh_ok a.1) (Ty.cpy a.1) (r.t.rep_size.trans c) e (l:=0) (Nat.zero_le _) (by grind) (.inr ⟨rfl,aF d⟩) (J:=J) (θ:=θ) f.lay n rfl rfl
 ·rename_i p w t B d;have ⟨a,h⟩:=ai h;rw[aj] at a;have c:=al a.2;have ⟨u,m,h⟩:=bind_some h;exact ⟨_,h,good_row (rs:=[]) (ns:=[]) (List.Perm.refl _) fun J θ f=>RC (Ty.cpy a.1) (t.rep_size.trans c) e m f.lay (bN f d).2 n (aF d) rfl⟩
 grind
end
structure Fr (s:Sg) (θ:Th) (s':Sg) (θ':Th):Prop where
 le:s.nxt<=s'.nxt
 same:Same s.nxt θ θ'
 env: ∀e∈s'.env,e.2.1<s.nxt->e∈s.env
 chs:Newer s.nxt s.chs s'.chs
section
variable {s s1 s2:Sg} {θ θ1 θ2:Th}
theorem Fr.rfl:Fr s θ s θ:=⟨aL _,Same.rfl,fun e a _=>a,Newer.rfl⟩
theorem Fr.trans (h:Fr s θ s1 θ1) (k:Fr s1 θ1 s2 θ2):Fr s θ s2 θ2:=
 ⟨Nat.le_trans h.le k.le,h.same.trans k.same h.le,fun e f hv=>h.env e (k.env e f (aD hv h.le)) hv,fun e f g a c j=>by
  rcases k.chs e f g a c j with l | ⟨i,b,d⟩
  ·exact .inl (Nat.le_trans h.le l)
  ·exact h.chs i b g a c d⟩
theorem Fr.put {d:Option Nat} {v:AV} {chs:List Ent} (hs:Same s.nxt θ θ1) (a:Newer s.nxt s.chs chs):Fr s θ ⟨Nd d s.nxt v s.env,chs,s.nxt+1⟩ θ1:=
 ⟨Nat.le_succ _,hs,fun e b hv=>by
  grind[re],a⟩
end
def AK (p:AV->Option AV):Nat->List (Nat×Nat×AV)->List (Nat×Nat×AV)
 | _,[] =>[]
 | k,e::l=>(match p e.2.2 with
  | some x=>(e.1,k,x)
  | none=>e)::AK p (k+1) l
section
variable {P:Program} {I J J':Hp} {w0 w:World} {F:Ch} {n:Nat} {θ θ':Th} {s:Sg} {a:Act}
theorem sG {p:AV->Option AV} {e:Nat×Nat×AV} : ∀ {l:List (Nat×Nat×AV)} {k:Nat},e∈AK p k l->(e∈l)\/(k<=e.2.1/\e.2.1<k+l.length/\ ∃e0∈l,e0.1=e.1/\p e0.2.2=some e.2.2)
 | [],k,h=>by cases h
 | e0::l,k,h=>by
  rcases aA h with h | h
  ·grind
  ·rcases sG h with h | ⟨d,f,b,c,g⟩
   ·grind
   grind
theorem JX {p:AV->Option AV} : ∀ {l:List (Nat×Nat×AV)} {k:Nat},l.Pairwise (fun a b=>a.2.1≠b.2.1)->(∀e∈l,e.2.1<k)->(AK p k l).Pairwise fun a b=>a.2.1≠b.2.1
 | [],_,_,_=>List.Pairwise.nil
 | e0::l,k,h,hk=>by
  have ⟨g,d⟩:=List.pairwise_cons.1 h;refine List.pairwise_cons.2 ⟨fun e c=>?_,JX d fun e c=>aZ (hk e (by grind))⟩;rcases sG c with c | ⟨f,-,-⟩
  ·grind
  grind
theorem Df {p:AV->Option AV} : ∀ {l:List (Nat×Nat×AV)} {k:Nat},(∀e∈l,e.2.2.v θ'=e.2.2.v θ)->(∀e∈l,∀x,p e.2.2=some x->x.v θ'=e.2.2.v θ)->(AK p k l).map (fun e=>(e.1,e.2.2.v θ'))=l.map fun e=>(e.1,e.2.2.v θ)
 | [],_,_,_=>rfl
 | e0::l,k,h,hp=>by
  rw[AK,List.map_cons,List.map_cons,Df (fun e b=>h e (by grind)) fun e b=>hp e (by grind)];grind
theorem Sim.repl {p:AV->Option AV} {b:List Ent} (d:Sim P I w0 F n J θ s a w) (hs:Same s.nxt θ θ') (j:J.le J') (g:St J' w0 w (b.map (toCh P θ')++ [F])) (k:Newer s.nxt s.chs b) (i: ∀e∈b,okE P w0 J' θ' (s.nxt+1) b e)
  (hp: ∀e∈s.env,∀x,p e.2.2=some x->x.ok P w0 J' θ' (s.nxt+1) b/\x.v θ'=e.2.2.v θ):Sim P I w0 F n J' θ' ⟨AK p (s.nxt+1) s.env,b,s.nxt+1+s.env.length⟩ a w/\Fr s θ ⟨AK p (s.nxt+1) s.env,b,s.nxt+1+s.env.length⟩ θ':=by
 have f:s.nxt+1<=s.nxt+1+s.env.length:=Nat.le_add_right _ _;refine ⟨⟨d.le.trans j,?_,g,fun e c=>?_,fun e c=>?_,JX d.fine.nd fun e c=>aZ (d.fine.ver e c),fun e c=>gy Same.rfl f Newer.rfl (i e c) Hp.le.rfl,d.fine.lay.mono j⟩,by grind,hs,fun e c hv=>?_,k⟩
 ·have:envL θ' ⟨AK p (s.nxt+1) s.env,b,s.nxt+1+s.env.length⟩=envL θ s:=Df (fun e c=>AV.v_same hs (d.fine.env e c)) fun e c x o=>(hp e c x o).2
  rw[this];exact d.agr
 ·rcases sG c with c | ⟨-,-,m,l,-,h⟩
  ·exact AV.ok_same hs (by grind) k (d.fine.env e c) j
  ·exact AV.ok_same Same.rfl f Newer.rfl (hp m l _ h).1 Hp.le.rfl
 ·rcases sG c with c | ⟨h,q,-⟩
  ·have:=d.fine.ver e c
   grind
  omega
 ·rcases sG c with c | ⟨h,-⟩
  ·exact c
  omega
end
def Yx (h:Hdr) (s:Sg):Option Sg:=(pull h s.chs).bind fun r=>match r.1.2.2 with
 | .box T t d=>some ⟨s.env,(h,s.nxt,.blk T (iO s.nxt (fun j=>[j]) t d 0))::((rM s.nxt (fun j=>[j]) t d 0).map (fun g=>(g.1,s.nxt,g.2))++r.2),s.nxt+1⟩
 | _=>none
section
variable {P:Program} {I J:Hp} {w0 w:World} {F:Ch} {n:Nat} {θ:Th} {s s':Sg} {a:Act} {h:Hdr}
theorem RD (hs:Yx h s=some s') (q:Sim P I w0 F n J θ s a w): ∃θ',Sim P I w0 F n J θ' s' a w/\Fr s θ s' θ':=by
 have ⟨r,E,hs⟩:=bind_some hs;have ⟨p,k⟩:=gi E;have ⟨⟨y,C,c⟩,rest⟩:=r;obtain rfl:y=h:=k;cases c with
 | box T t d =>
  cases ae (show some _=some s' from hs);have z:=q.fine.chs _ (p.mem_iff.2 (List.mem_cons_self ..));have G:=q.st.perm ((p.map (toCh P θ)).append_right [F]);have x:=G;have ⟨cells,x⟩:=St.box.1 x;let θ':=upd θ s.nxt (.agg cells.toArray);have b:Same s.nxt θ θ':=Same.upd;have K:=x.perm (List.Perm.swap _ _ _);have ⟨H,N,O,L⟩:=jK (P:=P) (m:=s.nxt) (θ:=θ') (pth:=fun j=>[j]) (n:=s.nxt+1) (ax _) t d 0 cells _ (fun i v D=>by
   show vg (upd θ s.nxt (.agg cells.toArray) s.nxt) [0+i] =v;simp_all[ig,Nat.zero_add,T9]) K
  have u: ∀e,e∈rest->e∈s.chs:=fun e f=>p.mem_iff.2 (bY _ f);have o:Newer s.nxt s.chs ((y,s.nxt,.blk T (iO s.nxt (fun j=>[j]) t d 0))::((rM s.nxt (fun j=>[j]) t d 0).map (fun g=>(g.1,s.nxt,g.2))++rest)):=fun e f Q B c l=>by
   rcases aA f with rfl | f
   ·obtain ⟨rfl,l⟩:=l;rcases l with ⟨x,-⟩ | l
    ·grind
    ·exact l.elim
   ·rcases aG f with f | f
    ·obtain ⟨g,A,rfl⟩:=List.mem_map.1 f;rcases l.2 with ⟨x,-⟩ | l
     ·grind
     grind[wz,jc]
    grind
  refine ⟨θ',⟨q.le,?_,?_,fun e f=>AV.ok_same b (Nat.le_succ _) o (q.fine.env e f) Hp.le.rfl,fun e f=>aZ (q.fine.ver e f),q.fine.nd,fun e f=>?_,q.fine.lay⟩,Nat.le_succ _,b,fun e f _=>f,o⟩
  ·show Agr n a (envL θ' s);rw[Aq b q.fine.env];exact q.agr
  ·rw[List.map_cons,aW,List.map_map];have M:toCh P θ' (y,s.nxt,Chk.blk T (iO s.nxt (fun j=>[j]) t d 0))=Ch.blk (bk (hv θ y)) cells T:=by
    show Ch.blk (bk (hv θ' y)) ((iO s.nxt (fun j=>[j]) t d 0).map (·.v θ')) T=_;rw[N,ba b z.1]
   rw[M,jH b fun e f=>q.fine.chs e (u e f)]
   have:=L.perm (List.perm_middle (l₁:=(rM s.nxt (fun j=>[j]) t d 0).map fun g=>toCh P θ' (g.1,s.nxt,g.2)))
   rw[List.cons_append,aC];exact this
  ·rcases aA f with rfl | f
   ·exact ⟨aZ z.1,ax _,H⟩
   ·rcases aG f with f | f
    ·obtain ⟨g,A,rfl⟩:=List.mem_map.1 f;exact sF (jc t d 0 g A) (by grind) (ax _)
    ·exact gy b (Nat.le_succ _) o (q.fine.chs e (u e f)) Hp.le.rfl
 | _=>cases hs
end
def Ik:List Ent->List Hdr
 | [] =>[]
 | (h,_,.box _ _ _)::l=>h::Ik l
 | _::l=>Ik l
def Od:List Hdr->Sg->Sg
 | [],s=>s
 | h::hs,s=>Od hs (match Yx h s with
  | some s'=>s'
  | none=>s)
def rj (s:Sg):Sg:=Od (Ik s.chs) s
def AL (h:Hdr):LV->Bool
 | .own h'=>Hdr.beq h' h
 | _=>false
def LV.frz (h:Hdr) (t:Ty) (d:t.den) (x:LV):LV:=match AL h x with
 | true=>.rd h t d
 | false=>x
def AV.frz (h:Hdr) (t:Ty) (d:t.den):AV->Option AV
 | .one x=>match AL h x with
  | true=>some (.one (.rd h t d))
  | false=>none
 | .agg xs=>match xs.any (AL h) with
  | true=>some (.agg (xs.map (LV.frz h t d)))
  | false=>none
 | .tup ys=>match ys.any fun y=>y.2.any (AL h) with
  | true=>some (.tup (ys.map fun y=>(y.1,y.2.map (LV.frz h t d))))
  | false=>none
 | _=>none
def Oe (h:Hdr) (t:Ty) (d:t.den) (k:Nat) (e:Ent):Ent:=match e.2.2 with
 | .blk T cells=>match cells.any (AL h) with
  | true=>(e.1,k,.blk T (cells.map (LV.frz h t d)))
  | false=>e
 | _=>e
def Ui (h:Hdr) (y:AV) (x:AV):Option AV:=match x with
 | .one (.ptr h' off)=>match Hdr.beq h' h&&Nat.beq off 0 with
  | true=>some y
  | false=>none
 | _=>none
section
variable {P:Program} {J J':Hp} {w0:World} {n m k:Nat} {θ:Th} {h:Hdr} {t:Ty} {d:t.den} {chs:List Ent}
theorem Gn {x:LV} (a:AL h x=true):x= .own h:=by
 unfold AL at a;grind[Hdr.beq_eq]
theorem LV.frz_v (x:LV):(x.frz h t d).v θ=x.v θ:=by
 unfold LV.frz;split
 ·rename_i a;rw[Gn a];rfl
 ·rfl
theorem LV.frz_ok {x:LV} (e:x.ok P w0 J θ n) (a:n<=m) (f:J.le J') (c:h.id<m) (b:t.rep.rd J' [hv θ h] d):(x.frz h t d).ok P w0 J' θ m:=by
 unfold LV.frz;split
 ·exact ⟨c,b⟩
 ·exact LV.ok_same Same.rfl a e f
theorem Il (xs:List LV):(xs.map (LV.frz h t d)).map (·.v θ)=xs.map (·.v θ):=by
 grind[List.map_map,List.map_congr_left,LV.frz_v]
theorem RE (y:Bool×List LV):lx θ (y.1,y.2.map (LV.frz h t d))=lx θ y:=by
 grind[lx,Il,LV.frz_v]
theorem AV.frz_ok {x y:AV} (a:x.frz h t d=some y) (p:x.ok P w0 J θ n chs) {c:List Ent} (l:n<=m) (o:J.le J') (i:h.id<m) (e:t.rep.rd J' [hv θ h] d):y.ok P w0 J' θ m c/\y.v θ=x.v θ:=by
 unfold AV.frz at a;split at a
 ·split at a
  ·rename_i q;cases ae a;rw[Gn q];exact ⟨⟨i,e⟩,rfl⟩
  grind
 ·split at a
  ·cases ae a;refine ⟨fun z g=>?_,?_⟩
   ·obtain ⟨f,b,rfl⟩:=List.mem_map.1 g;exact LV.frz_ok (p f b) l o i e
   ·show Value.agg _=Value.agg _;rw[Il]
  grind
 ·split at a
  ·cases ae a;refine ⟨fun z g=>?_,?_⟩
   ·obtain ⟨f,b,rfl⟩:=List.mem_map.1 g;intro u s;obtain ⟨r,j,rfl⟩:=List.mem_map.1 s;exact LV.frz_ok (p f b r j) l o i e
   ·show Value.tuple _=Value.tuple _;simp_all[List.map_map,List.map_congr_left,RE]
  grind
 grind
theorem Of (e:Ent):toCh P θ (Oe h t d k e)=toCh P θ e:=by
 have ⟨b,v,c⟩:=e;unfold Oe;split
 ·rename_i T cells a;split
  ·show Ch.blk _ ((cells.map _).map _) _=_;rw[Il];obtain rfl:c= .blk T cells:=a
   rfl
  ·rfl
 ·rfl
theorem Og {e:Ent} {a:Hdr} {ver:Nat} {c:Chk} (hs:Says (Oe h t d k e) a ver c):ver=k\/Says e a ver c:=by
 unfold Oe at hs;split at hs
 ·split at hs
  ·rcases hs.2 with ⟨b,-⟩ | b
   ·grind
   ·exact b.elim
  grind
 grind
theorem LG {l:List Ent} :Newer k l (l.map (Oe h t d k)):=fun e i o f c g=>by
 obtain ⟨j,b,rfl⟩:=List.mem_map.1 i;rcases Og g with a | a
 ·exact .inl (Nat.le_of_eq a.symm)
 ·exact .inr ⟨j,b,a⟩
theorem Wf {e:Ent} (i:okE P w0 J θ n chs e) {a:List Ent} (q:Newer n chs a) (b:n<m) (j:J.le J') (p:h.id<m) (l:t.rep.rd J' [hv θ h] d):okE P w0 J' θ m a (Oe h t d n e):=by
 have o:=gy Same.rfl (Nat.le_of_lt b) q i j;unfold Oe;split
 ·rename_i T cells g;split
  ·have ⟨u,v,c⟩:=e;obtain rfl:c= .blk T cells:=g;exact ⟨o.1,b,fun x s=>by
    obtain ⟨r,f,rfl⟩:=List.mem_map.1 s;exact LV.frz_ok (i.2.2 r f) (Nat.le_of_lt b) j p l⟩
  omega
 omega
end
abbrev Trs:=List (TypeId×TypeId×Ty)
def aaK (l:Trs) (T:TypeId):Option (TypeId×Ty):=match l with
 | [] =>none
 | (U,x)::l=>if Nat.beq U T then some x else aaK l T
def Yy (tr:Trs):Ty->Bool
 | .tree _ _ _=>true
 | .sl E _=>match aaK tr E with
  | some q=>Nat.beq q.1 0
  | none=>false
 | _=>false
def Oh (tr:Trs) (h:Hdr) (s:Sg):Option Sg:=(pull h s.chs).bind fun r=>match r.1.2.2 with
 | .own t d=>match Yy tr t with
  | true=>some ⟨AK (AV.frz h t d) (s.nxt+1) s.env,r.2.map (Oe h t d s.nxt),s.nxt+1+s.env.length⟩
  | false=>none
 | _=>none
def Uj (T E:TypeId) (t:Ty) (x:LV) (chs:List Ent):Option (List (Tr t.den)×List Ent×List Ent):=match x with
 | .own h=>(rowOf h chs).bind fun r=>(oH (.sl r.E r.t) (.sl E (.tree T E t)) r.xs).bind fun ks=>some (ks,[r.ent h],r.rest)
 | x=>(Rg E (.tree T E t) x).bind fun ks=>some (ks,[],chs)
def Oi (tr:Trs) (h:Hdr) (s:Sg):Option Sg:=(rf h s.chs).bind fun b=>(aaK tr b.T).bind fun q=>(eS q.2 b.cells).bind fun a=>match a.2 with
 | [kid] =>(Uj b.T q.1 q.2 kid b.rest).bind fun ks=>some ⟨AK (Ui h (.one (.rd ⟨s.nxt,[]⟩ (.tree b.T q.1 q.2) (.node a.1 ks.1)))) (s.nxt+1) s.env,ks.2.2,s.nxt+1+s.env.length⟩
 | _=>none
section
variable {P:Program} {I J:Hp} {w0 w:World} {F:Ch} {n:Nat} {θ:Th} {s s':Sg} {a:Act} {h:Hdr}
theorem Oj {m:Nat} {chs b:List Ent} (h: ∀e,e∈b->e∈chs):Newer m chs b:=fun e g i d c f=>.inr ⟨e,h e g,f⟩
theorem Ol {tr:Trs} (hs:Oh tr h s=some s') (m:Sim P I w0 F n J θ s a w): ∃u,J.le u/\Sim P I w0 F n u θ s' a w/\Fr s θ s' θ:=by
 have ⟨r,A,hs⟩:=bind_some hs;have ⟨p,k⟩:=gi A;have ⟨⟨j,g,c⟩,rest⟩:=r;obtain rfl:j=h:=k;cases c with
 | own t d =>
  have hs:(match Yy tr t with
   | true=>some (⟨AK (AV.frz j t d) (s.nxt+1) s.env,rest.map (Oe j t d s.nxt),s.nxt+1+s.env.length⟩:Sg)
   | false=>none)=some s':=hs
  split at hs
  ·cases ae (show some _=some s' from hs);have l:=m.fine.chs _ (p.mem_iff.2 (List.mem_cons_self ..));have y:St J w0 w (Ch.own t.rep [hv θ j] d::(rest.map (toCh P θ)++ [F])):=m.st.perm ((p.map (toCh P θ)).append_right [F]);have ⟨u,v,i,B⟩:=y.freeze;have q: ∀e,e∈rest->e∈s.chs:=fun e f=>p.mem_iff.2 (bY _ f);have b:Newer s.nxt s.chs (rest.map (Oe j t d s.nxt)):=fun e f C g c hs=>by
    rcases LG e f C g c hs with y | ⟨z,o,y⟩
    ·omega
    grind
   refine ⟨u,v,m.repl Same.rfl v ?_ b (fun e f=>?_) fun e f x D=>AV.frz_ok D (m.fine.env e f) (Nat.le_succ _) v (aZ l.1) i⟩
   ·grind[List.map_map,List.map_congr_left,toCh,Oe,Of]
   ·obtain ⟨z,o,rfl⟩:=List.mem_map.1 f;exact Wf (m.fine.chs z (q z o)) b (ax _) v (aZ l.1) i
  grind
 | _=>cases hs
theorem Om {tr:Trs} (hs:Oi tr h s=some s') (A:Sim P I w0 F n J θ s a w): ∃J' θ',J.le J'/\Sim P I w0 F n J' θ' s' a w/\Fr s θ s' θ':=by
 have ⟨b,U,hs⟩:=bind_some hs;have ⟨⟨E,t⟩,hq,hs⟩:=bind_some hs;have ⟨c,hc,hs⟩:=bind_some hs;have p:=kA U;have N:=A.fine.chs _ (p.mem_iff.2 (List.mem_cons_self ..));have g:=N.2.2;have ⟨V,e1,Z⟩:=jb (J:=J) (θ:=θ) hc g;split at hs
 ·rename_i o z;have ⟨D,d,hs⟩:=bind_some hs;cases ae hs;have W:=A.st.perm ((p.map (toCh P θ)).append_right [F]);have R:=W;have M:b.cells.map (·.v θ)=V.map (·.v θ)++ [o.v θ]:=by rw[e1,z,aW];rfl
  let θ':=upd θ s.nxt (.pointer (some ⟨bk (hv θ h),0,none⟩));have f:Same s.nxt θ θ':=Same.upd;have key: ∃q,J.le q/\(Ty.sl E (.tree b.T E t)).rep.rd q [o.v θ] D.1/\St q w0 w (Ch.blk (bk (hv θ h)) (b.cells.map (·.v θ)) b.T::(D.2.2.map (toCh P θ)++ [F]))/\ ∀e,e∈D.2.2->e∈b.rest:=by
   unfold Uj at d;split at d
   ·rename_i hk;have ⟨r,X,d⟩:=bind_some d;have ⟨xs,m,d⟩:=bind_some d;cases ae d;obtain ⟨T,-⟩:=bF X;have h2:St J w0 w (Ch.own (Ty.sl r.E r.t).rep [hv θ hk] r.xs::Ch.blk (bk (hv θ h)) (b.cells.map (·.v θ)) b.T::(r.rest.map (toCh P θ)++ [F])):=by
     refine (R.perm ?_:St J w0 w _)
     have:=((T.map (toCh P θ)).append_right [F]).cons (Ch.blk (bk (hv θ h)) (b.cells.map (·.v θ)) b.T)
     exact this.trans (List.Perm.swap _ _ _)
    have ⟨q,l,K,L⟩:=h2.freeze;exact ⟨q,l,iZ m K,L,fun e j=>T.mem_iff.2 (bY _ j)⟩
   ·have ⟨xs,m,d⟩:=bind_some d;cases ae d;exact ⟨J,Hp.le.rfl,Au m (g o (by grind)),R,fun e j=>j⟩
  have ⟨q,l,O,B,H⟩:=key;have ⟨Y,y,u,S⟩:=B.freeze_blk;have C:=l.trans y;have i:=fun e j=>p.mem_iff.2 (bY _ (H e j));have k:Newer s.nxt s.chs D.2.2:=Oj i;have v:hv θ' ⟨s.nxt,[]⟩= .pointer (some ⟨bk (hv θ h),0,none⟩):=ig;refine ⟨Y,θ',C,A.repl f C ?_ k (fun e j=>gy f (Nat.le_succ _) k (A.fine.chs e (i e j)) C) fun e j x G=>?_⟩
  ·rw[jH f fun e j=>A.fine.chs e (i e j)];omega
  ·unfold Ui at G;split at G
   ·rename_i h' off Q;split at G
    ·rename_i hp;cases ae G;rw[aj] at hp;refine ⟨⟨ax _,?_⟩,?_⟩
     ·rw[v];rw[M] at u;exact M9 u (Rep.rd_mono _ Z C) (Rep.rd_mono _ O y)
     ·rw[Q,Hdr.beq_eq hp.1,al hp.2];exact v
    grind
   grind
 grind
end
def orS (x:Option Sg) (s:Sg):Sg:=match x with
 | some s'=>s'
 | none=>s
def RF (tr:Trs):List (Bool×Hdr)->Sg->Sg
 | [],s=>s
 | (true,h)::hs,s=>RF tr hs (orS (Oi tr h s) s)
 | (false,h)::hs,s=>RF tr hs (orS (Oh tr h s) s)
section
variable {P:Program} {I J:Hp} {w0 w:World} {F:Ch} {n:Nat} {θ:Th} {s s':Sg} {a:Act}
theorem Ew: ∀ {hs:List Hdr} {s:Sg} {θ:Th},Sim P I w0 F n J θ s a w-> ∃θ',Sim P I w0 F n J θ' (Od hs s) a w/\Fr s θ (Od hs s) θ'
 | [],s,θ,hS=>⟨θ,hS,Fr.rfl⟩
 | h::hs,s,θ,hS=>by
  unfold Od;split
  ·rename_i s' e;have ⟨θ1,f,b⟩:=RD e hS;have ⟨θ2,c,d⟩:=Ew (hs:=hs) f;exact ⟨θ2,c,b.trans d⟩
  ·exact Ew hS
theorem zU (b:Sim P I w0 F n J θ s a w): ∃θ',Sim P I w0 F n J θ' (rj s) a w/\Fr s θ (rj s) θ':=Ew b
theorem vm {tr:Trs} : ∀ {hs:List (Bool×Hdr)} {s:Sg} {J:Hp} {θ:Th},Sim P I w0 F n J θ s a w-> ∃J' θ',J.le J'/\Sim P I w0 F n J' θ' (RF tr hs s) a w/\Fr s θ (RF tr hs s) θ'
 | [],s,J,θ,hS=>⟨J,θ,Hp.le.rfl,hS,Fr.rfl⟩
 | (true,h)::hs,s,J,θ,hS=>by
  unfold RF;cases e:Oi tr h s with
  | some s' =>
   have ⟨k,θ1,j,i,b⟩:=Om e hS;obtain ⟨f,θ2,g,c,d⟩:=vm (hs:=hs) i;exact ⟨f,θ2,j.trans g,c,b.trans d⟩
  | none=>exact vm hS
 | (false,h)::hs,s,J,θ,hS=>by
  unfold RF;cases e:Oh tr h s with
  | some s' =>
   have ⟨k,j,i,b⟩:=Ol e hS;obtain ⟨f,θ2,g,c,d⟩:=vm (hs:=hs) i;exact ⟨f,θ2,j.trans g,c,b.trans d⟩
  | none=>exact vm hS
end
end R
namespace D
open Go.RowKit
section
variable {P:Program} {I J:Hp} {w0 w w':World} {cs C:List Ch} {o:Oper} {ev:Operand->Value}
theorem AM {α:Type} {R:Rep α} (a:Cpy R R): ∀ {xs:List α} {cur:List Value},(∀i x,xs[i]? =some x-> ∃c:List Value,c.length=R.size/\(∀j,j<R.size->cur[i*R.size+j]? =c[j]?)/\R.rd I c x)->OwnEls R I w cur xs []
 | [],cur,_=>rfl
 | x::xs,cur,h=>by
  have ⟨c,b,g,e⟩:=h 0 x rfl;refine ⟨c,cur.drop R.size,[],[],?_,b,rfl,a e,AM a fun i y k=>?_⟩
  ·apply List.ext_getElem?;grind
  ·have ⟨d,f,m,l⟩:=h (i+1) y (by grind);grind
end
section
variable {P:Program} {I J:Hp} {w0 w w':World} {cs C:List Ch} {o:Oper} {ev:Operand->Value}
theorem yS {α:Type} {E:TypeId} {R:Rep α} (b:R.Sh) {k:Nat} (q:R.size=k) {g ofs n cap:Nat} {xs:List α} (h:St I w0 w (Ch.own (aw E R) [.slice (some ⟨g,ofs,none⟩) n cap] xs::C)) :
  n=xs.length/\xs.length<=cap/\cap<=maxLen/\ ∃cur,w.heap[g]? =some (.cells cur E (0,0))/\ofs+cap*k<=cur.size/\ ∀(i:Nat) x,xs[i]? =some x-> ∃c:List Value,c.length=k/\(∀j,j<k->(cur.toList.drop ofs)[i*k+j]? =c[j]?)/\R.rd I c x:=by
 obtain ⟨u,A,F,⟨G,K,rfl,⟨D,r⟩,H⟩,y,z⟩:=h;rcases r with ⟨hv,rfl,rfl⟩ | ⟨v,e,l,cur,B,hv,p,s,m,f,rfl,d⟩
 ·simp at hv
 ·simp only[List.cons.injEq,Value.slice.injEq,Option.some.injEq,Addr.mk.injEq,and_true] at hv;obtain ⟨⟨rfl,rfl⟩,rfl,rfl⟩:=hv;obtain rfl:=d.sh b;have a:=fun i x t=>d.at Hp.le.rfl (by simp) i x t;rw[q] at a f;exact ⟨rfl,s,m,cur,p,f,a⟩
theorem AN {α:Type} {E:TypeId} {R:Rep α} (O:R.Sh) (hC:Cpy R R) {k:Nat} (L:R.size=k) {g ofs n cap p cnt:Nat} {xs zs:List α} {news:List Value} (hn:news.length=cnt*k) (l:p+cnt<=cap) (hz:zs.length<=cap) (m:zs.length<=lim)
  (t: ∀i z,zs[i]? =some z->(p<=i/\i<p+cnt/\ ∃c:List Value,c.length=k/\(∀j,j<k->news[(i - p)*k+j]? =c[j]?)/\R.rd I c z)\/((i<p\/p+cnt<=i)/\xs[i]? =some z))
  (h:St I w0 w (Ch.own (aw E R) [.slice (some ⟨g,ofs,none⟩) n cap] xs::C)):St I w0 (w.setCells g (ofs+p*k) news) (Ch.own (aw E R) [.slice (some ⟨g,ofs,none⟩) zs.length cap] zs::C):=by
 obtain ⟨v,hi,F,⟨G,K,rfl,⟨hl,e2⟩,e3⟩,D,V⟩:=h;rcases e2 with ⟨hv,rfl,rfl⟩ | ⟨g',U,W,cur,K1,hv,k1,k2,Y,k4,rfl,T⟩
 ·simp at hv
 ·simp only[List.cons.injEq,Value.slice.injEq,Option.some.injEq,Addr.mk.injEq,and_true] at hv;obtain ⟨⟨rfl,rfl⟩,rfl,rfl⟩:=hv;obtain rfl:=T.sh O;have s:=fun i x Q=>T.at Hp.le.rfl (by simp) i x Q;rw[L] at s k4;have N:cur.toList.length=cur.size:=Array.length_toList;have m0:(p+cnt)*k=p*k+cnt*k:=Nat.add_mul _ _ _;have m1:(p+cnt)*k<=cap*k:=Nat.mul_le_mul_right _ l;have a:ofs+p*k+news.length<=cur.size:=by omega
  obtain ⟨o1,o2,o3,o4,X⟩:=pZ g news (ofs+p*k) w;have d:=sy news (ofs+p*k) w cur a k1;have B:g∉K:=by rw[List.cons_append] at D;simpa using (List.nodup_cons.1 D).1
  have key: ∀q,((cur.toList.take (ofs+p*k)++news++cur.toList.drop (ofs+p*k+news.length)).toArray.toList.drop ofs)[q]? =if p*k<=q/\q<p*k+cnt*k then news[q - p*k]? else (cur.toList.drop ofs)[q]? :=by
   intro q;rw[List.getElem?_drop];show (cur.toList.take (ofs+p*k)++news++cur.toList.drop (ofs+p*k+news.length))[ofs+q]? =_;have r:(cur.toList.take (ofs+p*k)).length=ofs+p*k:=by rw[aB];omega
   by_cases A:q<p*k
   ·rw[if_neg (by omega),aC,List.getElem?_append_left (by omega),List.getElem?_take,if_pos (by omega),List.getElem?_drop]
   ·by_cases y:q<p*k+cnt*k
    ·rw[if_pos (by omega),aC,List.getElem?_append_right (by omega),r,List.getElem?_append_left (by omega)];congr 1;omega
    ·rw[if_neg (by omega),List.getElem?_append_right (by rw[az];omega),az,r,hn,List.getElem?_drop,List.getElem?_drop];congr 1;omega
  refine ⟨⟨o1.trans v.1,o2.trans v.2.1,o3.trans v.2.2.1,by rw[o4];exact v.2.2.2⟩,fun q u f=>?_,[g] ++K,⟨[g],K,rfl,⟨m,.inr ⟨g,ofs,cap,_,[],rfl,d,hz,Y,?_,rfl,AM hC fun i x Q=>?_⟩⟩,e3.stay fun q f=>X q fun e=>B (e ▸ f)⟩,D,V⟩
  ·show (w.setCells g (ofs+p*k) _).heap[q]? =some u;rw[X q fun e=>by rw[e,V g (by simp)] at f;cases f];exact hi q u f
  ·rw[L];simp only[List.size_toArray,az,aB,bP,N];omega
  ·rw[L];rcases t i x Q with ⟨b,H,c,A,y,S⟩ | ⟨b,H⟩
   ·refine ⟨c,A,fun j M=>?_,S⟩;have a1:p*k<=i*k:=Nat.mul_le_mul_right _ b;have a2:i*k+k<=p*k+cnt*k:=by rw[<-Nat.succ_mul,<-Nat.add_mul];exact Nat.mul_le_mul_right _ H
    have Z:(i - p)*k=i*k - p*k:=Nat.sub_mul _ _ _;rw[key,if_pos (by omega),<-y j M,Z];congr 1;omega
   ·obtain ⟨c,A,y,S⟩:=s i x H;refine ⟨c,A,fun j M=>?_,S⟩;have a1:i*k+k<=p*k\/p*k+cnt*k<=i*k:=by
     rcases b with b | b
     ·left;rw[<-Nat.succ_mul];exact Nat.mul_le_mul_right _ b
     ·right;rw[<-Nat.add_mul];exact Nat.mul_le_mul_right _ b
    rw[key,if_neg (by omega)];exact y j M
def sH (cur:Array Value) (ofs k j m:Nat):List Value:=((cur.toList.drop ofs).drop (j*k)).take ((m - j)*k)
theorem tN {cur:Array Value} {ofs k j m cap:Nat} (h:ofs+cap*k<=cur.size) (a:j<=m) (b:m<=cap):(sH cur ofs k j m).length=(m - j)*k:=by
 have e:m*k<=cap*k:=Nat.mul_le_mul_right _ b;have c:(m - j)*k=m*k - j*k:=Nat.sub_mul _ _ _;have d:j*k<=m*k:=Nat.mul_le_mul_right _ a;unfold sH;rw[aB,bP,bP,Array.length_toList];omega
theorem mB {cur:Array Value} {ofs k j m q:Nat} (a:q<(m - j)*k):(sH cur ofs k j m)[q]? =(cur.toList.drop ofs)[j*k+q]? :=by
 unfold sH;rw[List.getElem?_take,if_pos a,List.getElem?_drop]
theorem LH {α:Type} {R:Rep α} {xs:List α} {cur:Array Value} {ofs k j m:Nat} (g:0<k) (n:m<=xs.length) (f: ∀(i:Nat) x,xs[i]? =some x-> ∃c:List Value,c.length=k/\(∀j,j<k->(cur.toList.drop ofs)[i*k+j]? =c[j]?)/\R.rd I c x): ∀u∈sH cur ofs k j m,u.oneCell'=true:=by
 intro u l;obtain ⟨q,b⟩:=List.getElem?_of_mem l;have a:=(List.getElem?_eq_some_iff.1 b).1;have e:q<(m - j)*k:=by
  unfold sH at a;rw[aB] at a;omega
 rw[mB e] at b;have s:(m - j)*k=m*k - j*k:=Nat.sub_mul _ _ _;have t:m*k<=xs.length*k:=Nat.mul_le_mul_right _ n;have d:(j*k+q) / k<xs.length:=by rw[Nat.div_lt_iff_lt_mul g];omega
 obtain ⟨c,r,h,p⟩:=f _ _ (List.getElem?_eq_getElem d)
 have:=h ((j*k+q) % k) (Nat.mod_lt _ g)
 rw[Nat.div_add_mod',b] at this;exact R.rd_one p u (List.mem_of_getElem? this.symm)
theorem xP {g ofs:Nat} {cur:Array Value} {E:TypeId} {a:Nat×Nat} (h:w.heap[g]? =some (.cells cur E a)) (q:Nat):w.cell? ⟨g,ofs+q,none⟩=(cur.toList.drop ofs)[q]? :=by
 simp[World.cell?,h]
def yT {α:Type} (xs:List α) (i j m:Nat):List α:=xs.take i++(((xs.take m).drop j)++xs.drop (i+(m - j)))
theorem Ex {α:Type} {xs:List α} {i j m:Nat} (h1:i<=j) (a:j<=m) (b:m<=xs.length):(yT xs i j m).length=xs.length:=by
 simp only[yT,az,aB,bP];omega
theorem LI {α:Type} {xs:List α} {i j m q:Nat} (h1:i<=j) (e:j<=m) (f:m<=xs.length):(yT xs i j m)[q]? =if i<=q/\q<i+(m - j) then xs[j+(q - i)]? else xs[q]? :=by
 have a:(xs.take i).length=i:=by rw[aB];omega
 have c:((xs.take m).drop j).length=m - j:=by rw[bP,aB];omega
 unfold yT;by_cases b:q<i
 ·rw[if_neg (by omega),List.getElem?_append_left (by omega),List.getElem?_take,if_pos b]
 ·rw[List.getElem?_append_right (by omega),a];by_cases d:q<i+(m - j)
  ·rw[if_pos (by omega),List.getElem?_append_left (by omega),List.getElem?_drop,List.getElem?_take,if_pos (by omega)]
  ·rw[if_neg (by omega),List.getElem?_append_right (by omega),c,List.getElem?_drop];congr 1;omega
theorem Ey {α:Type} {E T:TypeId} {R:Rep α} {z:Value} {n b:Nat} {x y:Operand} {g ofs cap len i j m c:Nat} {a:Addr} {xs:List α} (v:R.Sh) (hC:Cpy R R) (Z:P.underlying T=some (.slice E)) (hE:TZ P E z n b) (U:0<n) (N:R.size=n)
  (ho:o.op= .call { callee:=.builtin .append,args:= #[x,y],argTypes:= #[T,T] }) (X:ev x= .slice (some ⟨g,ofs,none⟩) i cap) (hy:ev y= .slice (some a) (m - j) c) (W:j<m->a=⟨g,ofs+j*n,none⟩) (r:i<=j) (D:j<=m) (A:m<=xs.length) :
  OpT P I w0 o ev [Ch.own (aw E R) [.slice (some ⟨g,ofs,none⟩) len cap] xs] (· = .slice (some ⟨g,ofs,none⟩) (i+(m - j)) cap) (fun _=>[Ch.own (aw E R) [.slice (some ⟨g,ofs,none⟩) len cap] (yT xs i j m)]):=by
 intro w C G;obtain ⟨info,F,hz,d,hby⟩:=info_parts hE;obtain ⟨rfl,O,r2,cur,H,Y,s⟩:=yS v N G;have f:=tN (k:=n) (j:=j) Y D (Nat.le_trans A O);have m1:xs.length*n<=cap*n:=Nat.mul_le_mul_right _ O;have m2:i*n<=j*n:=Nat.mul_le_mul_right _ r;have m3:(m - j)*n=m*n - j*n:=Nat.sub_mul _ _ _;have m4:j*n<=m*n:=Nat.mul_le_mul_right _ D;have m5:m*n<=xs.length*n:=Nat.mul_le_mul_right _ A;have M:(cur.toList.drop ofs).length=cur.size - ofs:=by rw[bP,Array.length_toList]
 have h:=run_append_room_cells (P:=P) w T o.type E info Z F g ofs i cap a (m - j) c (sH cur ofs n j m) (by rw[d];exact f) (fun q u e=>by
  have l:=(List.getElem?_eq_some_iff.1 e).1;rw[f] at l;rw[mB l] at e;by_cases L:j<m
  ·rw[W L];simp only[Addr.add_mid];rw[Nat.add_assoc,xP H];exact e
  ·rw[show m - j=0 from by omega] at l;omega) (LH U A s) (by omega) (fun q e=>by
  rw[f] at e;rw[d,Nat.add_assoc,xP H,List.getElem?_eq_getElem (by rw[M];omega)];rfl) (fun q _=>by simp[World.frozen?,H])
 rw[d] at h;rw[eh ho X hy h];have K:=Ex (xs:=xs) r D A;have Q:=(G.hd 0 rfl).2
 have:=AN (zs:=yT xs i j m) v hC N (p:=i) (cnt:=m - j) f (by omega) (by omega) (by omega) (fun q u e=>by
  rw[LI r D A] at e;by_cases B:i<=q/\q<i+(m - j)
  ·rw[if_pos B] at e;obtain ⟨c,V,d2,S⟩:=s _ _ e;refine .inl ⟨B.1,B.2,c,V,fun t ht=>?_,S⟩;have e1:(q - i)*n+n<=(m - j)*n:=by rw[<-Nat.succ_mul];exact Nat.mul_le_mul_right _ (by omega)
   rw[mB (by omega),<-d2 t ht,Nat.add_mul];congr 1;omega
  ·rw[if_neg B] at e;exact .inr ⟨by omega,e⟩) G
 rw[K] at this;exact ⟨rfl,this⟩
theorem AO (w:World) (t e ty:TypeId) (z:Value) (d:P.underlying t=some (.slice e)) (hv:(zeroValue e).run P w= .ok z w) (b o n c:Nat) (h:0<n)
  (f: ∀j,j<(Builtin.zeroCells z.cells n).toList.length->(w.cell? ⟨b,o+j,none⟩).isSome=true) (g: ∀j,j<(Builtin.zeroCells z.cells n).toList.length->w.frozen? ⟨b,o+j,none⟩=false) (h1: ∀v∈(Builtin.zeroCells z.cells n).toList,v.oneCell'=true) :
  (Builtin.clear_ #[t] ty #[.slice (some ⟨b,o,none⟩) n c]).run P w= .ok (.tuple #[]) (w.setCells b o (Builtin.zeroCells z.cells n).toList):=by
 have a:=run_storeCells_cells (P:=P) b o (Builtin.zeroCells z.cells n).toList 0 w (by simpa using f) (by simpa using g) h1;simp only[Nat.add_zero] at a;obtain ⟨m,rfl⟩: ∃m,n=m+1:=⟨n - 1,by omega⟩;simp[Builtin.clear_,run_underlying d,hv,a]
theorem sI (w:World) (t e ty:TypeId) (b:P.underlying t=some (.slice e)) (a:Option Addr) (c:Nat):(Builtin.clear_ #[t] ty #[.slice a 0 c]).run P w= .ok (.tuple #[]) w:=by
 cases a <;> simp[Builtin.clear_,run_underlying b]
theorem p9 {x:Operand} {T:TypeId} {v r:Value} {w w':World} (c:o.op= .call { callee:=.builtin .clear,args:= #[x],argTypes:= #[T] }) (b:ev x=v) (a:(Builtin.clear_ #[T] o.type #[v]).run P w= .ok r w'):(execOp ev o).run P w= .ok (.value r) w':=by
 simp only[execOp,c,resolve,invoke,builtin,Sem.run_bind,Sem.run_pure,Result.andThen_ok,List.map_toArray,List.map_cons,List.map_nil,b,a]
theorem rk {a:Array Value} {n:Nat} :(Builtin.zeroCells a n).toList.length=n*a.size:=by simp[Builtin.zeroCells]
theorem wB {a:Array Value} {n i j:Nat} (hi:i<n) (b:j<a.size):(Builtin.zeroCells a n).toList[i*a.size+j]? =a.toList[j]? :=by
 have d:i*a.size+j<n*a.size:=by
  have:i*a.size+a.size<=n*a.size:=by rw[<-Nat.succ_mul];exact Nat.mul_le_mul_right _ hi
  omega
 have c:(i*a.size+j) % a.size=j:=by rw[Nat.add_comm,Nat.add_mul_mod_self_right,Nat.mod_eq_of_lt b]
 simp[Builtin.zeroCells,d,c,b]
def rl {α:Type} (xs:List α) (l m:Nat) (z:α):List α:=xs.take l++(List.replicate (m - l) z++xs.drop m)
theorem yU {α:Type} {xs:List α} {l m:Nat} {z:α} (h1:l<=m) (a:m<=xs.length):(rl xs l m z).length=xs.length:=by
 simp only[rl,az,aB,bP,List.length_replicate];omega
theorem On {α:Type} {xs:List α} {l m q:Nat} {z:α} (h1:l<=m) (d:m<=xs.length):(rl xs l m z)[q]? =if l<=q/\q<m then some z else xs[q]? :=by
 have a:(xs.take l).length=l:=by rw[aB];omega
 unfold rl;by_cases b:q<l
 ·rw[if_neg (by omega),List.getElem?_append_left (by omega),List.getElem?_take,if_pos b]
 ·rw[List.getElem?_append_right (by omega),a];by_cases c:q<m
  ·rw[if_pos (by omega),List.getElem?_append_left (by rw[List.length_replicate];omega),List.getElem?_replicate,if_pos (by omega)]
  ·rw[if_neg (by omega),List.getElem?_append_right (by rw[List.length_replicate];omega),List.length_replicate,List.getElem?_drop];congr 1;omega
theorem Gp {α:Type} {E T:TypeId} {R:Rep α} {z:Value} {j:α} {n b:Nat} {x:Operand} {g ofs cap len l m c:Nat} {a:Addr} {xs:List α} (r:R.Sh) (X:Cpy R R) (M:P.underlying T=some (.slice E)) (V:TZ P E z n b) (hn:0<n) (N:R.size=n) (e:z.cells.size=n) (k:R.rd I z.cells.toList j)
  (Q:o.op= .call { callee:=.builtin .clear,args:= #[x],argTypes:= #[T] }) (y:ev x= .slice (some a) (m - l) c) (U:l<m->a=⟨g,ofs+l*n,none⟩) (F:l<=m) (K:m<=xs.length) :
  OpT P I w0 o ev [Ch.own (aw E R) [.slice (some ⟨g,ofs,none⟩) len cap] xs] (fun _=>True) (fun _=>[Ch.own (aw E R) [.slice (some ⟨g,ofs,none⟩) len cap] (rl xs l m j)]):=by
 intro w C s;obtain ⟨rfl,W,Z,cur,L,r4,Y⟩:=yS r N s;by_cases G:l=m
 ·subst G;rw[Nat.sub_self] at y;rw[p9 Q y (sI w T E o.type M _ _)];refine ⟨trivial,?_⟩
  have:rl xs l l j=xs:=by simp[rl]
  rw[this];exact s
 ·have H:l<m:=by omega
  rw[U H] at y;have m1:xs.length*n<=cap*n:=Nat.mul_le_mul_right _ W;have m3:(m - l)*n=m*n - l*n:=Nat.sub_mul _ _ _;have m4:l*n<=m*n:=Nat.mul_le_mul_right _ F;have m5:m*n<=xs.length*n:=Nat.mul_le_mul_right _ K;have D:(cur.toList.drop ofs).length=cur.size - ofs:=by rw[bP,Array.length_toList]
  have O:(Builtin.zeroCells z.cells (m - l)).toList.length=(m - l)*n:=by rw[rk,e]
  have h: ∀v∈(Builtin.zeroCells z.cells (m - l)).toList,v.oneCell'=true:=by
   intro v f;simp only[Builtin.zeroCells,Array.toList_map,List.mem_map] at f;obtain ⟨q,-,rfl⟩:=f;have d:q % z.cells.size<z.cells.size:=Nat.mod_lt _ (by omega);rw[getElem!_pos z.cells _ d];exact R.rd_one k _ (by simp)
  have i:=AO (P:=P) w T E o.type z M (V.run_zero w) g (ofs+l*n) (m - l) c (by omega) (fun q d=>by
   rw[O] at d;rw[Nat.add_assoc,xP L,List.getElem?_eq_getElem (by rw[D];omega)];rfl) (fun q _=>by simp[World.frozen?,L]) h
  rw[p9 Q y i];have B:=yU (xs:=xs) (z:=j) F K;have S:=(s.hd 0 rfl).2
  have:=AN (zs:=rl xs l m j) r X N (p:=l) (cnt:=m - l) O (by omega) (by omega) (by omega) (fun q u d=>by
   rw[On F K] at d;by_cases A:l<=q/\q<m
   ·rw[if_pos A] at d;obtain rfl:=ae d;refine .inl ⟨A.1,by omega,z.cells.toList,by rw[Array.length_toList,e],fun t ht=>?_,k⟩;rw[<-e,wB (by omega) (by omega)]
   ·rw[if_neg A] at d;exact .inr ⟨by omega,d⟩) s
  rw[B] at this;exact ⟨trivial,this⟩
end
end D
namespace R
open Go.RowKit
open D
theorem Vw.hd {u v:Value} {k n:Nat} {l m:Int} (h:Vw u v k n l m): ∃a c,u= .slice a (m.toNat - l.toNat) c/\0<=l/\l<=m:=by
 rcases h with ⟨-,rfl,-,rfl,rfl⟩ | ⟨g,b,cap,x,-,rfl,d,e,-⟩
 ·grind
 grind
theorem Vw.one {u v:Value} {k n:Nat} {l m:Int} (h:Vw u v k n l m):u.oneCell'=true:=by
 obtain ⟨a,c,rfl,_⟩:=h.hd;rfl
theorem AP {I:Hp} {w0 w:World} {C:List Ch} {α:Type} {E:TypeId} {R:Rep α} {v:Value} {xs:List α} {k:Nat} (h:St I w0 w (Ch.own (aw E R) [v] xs::C)):Vw v v k xs.length 0 xs.length:=by
 obtain ⟨d,n,F,⟨G,K,rfl,⟨p,b⟩,q⟩,i,l⟩:=h;rcases b with ⟨hv,rfl,rfl⟩ | ⟨g,a,cap,cur,o,hv,j,c,e,m,rfl,f⟩
 ·obtain rfl:v= .slice none 0 0:=by grind
  exact .inl ⟨rfl,rfl,rfl,rfl,rfl⟩
 ·obtain rfl:v= .slice (some ⟨g,a,none⟩) xs.length cap:=by grind
  exact .inr ⟨g,a,cap,0,rfl,by simp,by omega,by omega,c,by omega,Nat.zero_le _,.inr (by simp)⟩
theorem Oo {I:Hp} {w0 w:World} {C:List Ch} {α:Type} {E:TypeId} {R:Rep α} {u v:Value} {xs:List α} {k n:Nat} {l m:Int} (h:St I w0 w (Ch.own (aw E R) [v] xs::C)) (hv:Vw u v k n l m):n=xs.length:=by
 have c:=AP (k:=k) h;rcases hv with ⟨rfl,-,rfl,-,-⟩ | ⟨g,d,cap,x,rfl,-,-⟩ <;> rcases c with ⟨e,-,q,-,-⟩ | ⟨f,a,b,i,e,-,-⟩
 ·omega
 ·cases e
 ·cases e
 grind
theorem RG {u v w:Value} {k n:Nat} {l m a c:Int} (h:Vw u v k n l m) (h1:0<=a) (A:a<=c) (y:l+c<=(n:Int)\/c<=m - l) {ao:Option Addr} {len cap:Nat} (p:u= .slice ao len cap) (r:w=sliced ao a.toNat c.toNat cap k):Vw w v k n (l+a) (l+c):=by
 rcases h with ⟨rfl,rfl,rfl,rfl,rfl⟩ | ⟨g,b,d,x,rfl,rfl,C,s,o,t,z,B⟩
 ·obtain rfl:a=0:=by omega
  obtain rfl:c=0:=by omega
  injection p with e q f
  subst e;subst f;exact .inl ⟨rfl,by grind[sliced],rfl,rfl,rfl⟩
 ·injection p with e q f
  subst e;subst f;subst r;have D:(l+a).toNat=l.toNat+a.toNat:=by omega
  have j:(l+c).toNat - (l+a).toNat=c.toNat - a.toNat:=by omega
  have E:(l.toNat+a.toNat)*k=l.toNat*k+a.toNat*k:=Nat.add_mul _ _ _;by_cases i:d - l.toNat=a.toNat
  ·refine .inr ⟨g,b,d,x,rfl,?_,by omega,by omega,o,by omega,by grind,.inl (by omega)⟩;simp[sliced,i,if_true,j];grind
  ·refine .inr ⟨g,b,d,x+a.toNat*k,rfl,?_,by omega,by omega,o,by omega,by grind,?_⟩
   ·simp[sliced,i,if_false,j,Option.map_some,Addr.add_mid,Nat.add_assoc];grind
   grind
def oI (ev:Operand->Value):Option Operand->Option Int->Prop
 | none,none=>True
 | some x,some m=>ev x= .int .i64 m
 | _,_=>False
section
variable {P:Program} {I:Hp} {w0:World} {o:Oper} {ev:Operand->Value}
theorem Dg {t e:TypeId} {x:Operand} {lo hi:Option Operand} {ml mh:Option Int} {ao:Option Addr} {len cap n:Nat} {agg:Bool} (c:P.underlying t=some (.slice e)) (d:TI P e agg n) (l:o.op= .slice t x lo hi none) (h:ev x= .slice ao len cap) (b:oI ev lo ml) (a:oI ev hi mh) (f:len<=cap)
  (h1:0<=ml.getD 0) (k:ml.getD 0<=mh.getD len) (j:mh.getD len<=(cap:Int)) :
  OpT P I w0 o ev [] (· =sliced ao (ml.getD 0).toNat (mh.getD len).toNat cap n) (fun _=>[]):=by
 have i:P.elem t=e:=by simp[Program.elem,c]
 refine bp fun w=>?_;have g:=TI.size d w;cases lo with
 | none =>
  cases ml with
  | some _=>exact b.elim
  | none =>
   cases hi with
   | none =>
    cases mh with
    | some _=>exact a.elim
    | none =>
     simp_all[execOp,Option.map_some,Option.map_none,Sem.run_bind,run_sliceAt_slice,run_slice_all,Result.andThen_ok]
   | some hi =>
    cases mh with
    | none=>exact a.elim
    | some mh =>
     have a:ev hi= .int .i64 mh:=a;simp_all[execOp,Option.map_some,Option.map_none,Sem.run_bind,run_sliceAt_slice,run_slice_h,Result.andThen_ok]
 | some lo =>
  cases ml with
  | none=>exact b.elim
  | some ml =>
   have b:ev lo= .int .i64 ml:=b;cases hi with
   | none =>
    cases mh with
    | some _=>exact a.elim
    | none =>
     simp_all[execOp,Option.map_some,Option.map_none,Sem.run_bind,run_sliceAt_slice,run_slice_l,Result.andThen_ok]
   | some hi =>
    cases mh with
    | none=>exact a.elim
    | some mh =>
     have a:ev hi= .int .i64 mh:=a;simp_all[execOp,Option.map_some,Option.map_none,Sem.run_bind,run_sliceAt_slice,run_slice_lh,Result.andThen_ok]
theorem LJ {t e:TypeId} {x y z q:Operand} {ml mh a:Int} {ao:Option Addr} {len cap n:Nat} {agg:Bool} (b:P.underlying t=some (.slice e)) (c:TI P e agg n) (m:o.op= .slice t x (some y) (some z) (some q)) (h:ev x= .slice ao len cap) (p:ev y= .int .i64 ml) (j:ev z= .int .i64 mh) (f:ev q= .int .i64 a)
  (h1:0<=ml) (l:ml<=mh) (k:mh<=a) (g:a<=(cap:Int)) :
  OpT P I w0 o ev [] (fun _=>True) (fun _=>[]):=by
 have i:P.elem t=e:=by simp[Program.elem,b]
 refine OpT.weak (bp (v:=sliced ao ml.toNat mh.toNat a.toNat n) fun w=>?_) (fun _ _=>trivial) (fun _ _=>rfl);have d:=TI.size c w;simp_all[execOp,Option.map_some,Sem.run_bind,run_sliceAt_slice,run_slice_lhm,Result.andThen_ok]
end
def RH:(t:Ty)->List Value->Option t.den
 | .raw,[v] =>if h:v.oneCell'=true then some (⟨v,h⟩:Raw) else none
 | .prod .raw b,v::cs=>if h:v.oneCell'=true then (RH b cs).bind fun d=>some ((⟨v,h⟩:Raw),d) else none
 | _,_=>none
theorem RI {J:Hp} : ∀ {t:Ty} {cs:List Value} {d:t.den},RH t cs=some d->t.rep.rd J cs d:=by
 intro t;induction t with
 | raw =>
  intro cs d h
  match cs,h with
  | [],h=>cases h
  | _::_::_,h=>cases h
  | [v],h =>
   by_cases c:v.oneCell'=true
   ·have h:(if h:v.oneCell'=true then some (⟨v,h⟩:Raw) else none)=some d:=h;rw[dif_pos c] at h;cases ae h;rfl
   ·have h:(if h:v.oneCell'=true then some (⟨v,h⟩:Raw) else none)=some d:=h;grind
 | prod a b iha ihb =>
  intro cs d h;cases a with
  | raw =>
   cases cs with
   | nil=>cases h
   | cons v cs =>
    unfold RH at h;split at h
    ·have ⟨f,e,h⟩:=Option.bind_eq_some_iff.1 h;cases ae h;exact ⟨[v],cs,rfl,rfl,ihb e⟩
    grind
  | _=>cases cs <;> cases h
 | _=>intro cs d h;cases cs <;> cases h
def RJ (e t:Ty):Option t.den:=match oH e t (Ea e) with
 | some z=>some z
 | none=>RH t (zeroCells e)
theorem JY {e t:Ty} {z:t.den} (h:RJ e t=some z) (J:Hp):t.rep.rd J (zeroCells e) z:=by
 grind[RJ,ae,iZ,p7,RI]
structure Vb where
 x:Bool
 h:Hdr
 k:Nat
 l:Int
 m:Int
 r:Row
section
variable {Y:Type} (tt:TT) (s:Sg) (k:Res->Option Y)
def Yz (chs:List Ent) (x:Operand):Option Vb:=match opd s x with
 | some (.one (.own h))=>(rowOf h chs).bind fun r=>some ⟨false,h,r.t.size,0,(r.xs.length:Int),r⟩
 | some (.vw u h k n l m)=>(rowOf h chs).bind fun r=>bO (Nat.beq k r.t.size) (some ⟨false,h,k,l,m,r⟩)
 | some (.xv top u h k n l m)=>match rowOf u chs with
  | some r=>bO (Nat.beq k r.t.size) (some ⟨false,u,k,0,(r.xs.length:Int),r⟩)
  | none=>(rowOf h chs).bind fun r=>bO (Nat.beq k r.t.size) (some ⟨true,h,k,l,m,r⟩)
 | _=>none
def QP (x:Operand):Option Vb:=Yz s s.chs x
def loV (x:Option Operand) (d:Int) (k:Int->Option Y):Option Y:=match x with
 | none=>k d
 | some x=>(asI s x).bind k
def Ez (T:TypeId) (x:Operand) (lo hi:Option Operand):Option Y:=(td tt T).bind fun d=>d.el.bind fun E'=>(td tt E').bind fun e=>(QP s x).bind fun b=>bO (Nat.beq e.n b.k) (loV s lo 0 fun ml=>loV s hi (b.m - b.l) fun mh =>
 match b.x with
 | false=>(chk (0<=ml/\ml<=mh/\b.l+mh<=(b.r.xs.length:Int))).bind fun _=>k ⟨[b.r.ent b.h],[],b.r.rest,[],.vw ⟨s.nxt,[]⟩ b.h b.k b.r.xs.length (b.l+ml) (b.l+mh)⟩
 | true=>(chk (0<=ml/\ml<=mh/\mh<=b.m - b.l)).bind fun _=>k ⟨[b.r.ent b.h],[],b.r.rest,[],.xv false ⟨s.nxt,[]⟩ b.h b.k b.r.xs.length (b.l+ml) (b.l+mh)⟩)
def Oq (T:TypeId) (x y z q:Operand):Option Y:=(td tt T).bind fun d=>d.el.bind fun E'=>(td tt E').bind fun e=>(QP s x).bind fun b=>bO (Nat.beq e.n b.k) ((asI s y).bind fun ml=>(asI s z).bind fun mh=>(asI s q).bind fun mx =>
 (chk (0<=ml/\ml<=mh/\mh<=mx/\b.l+mx<=(b.r.xs.length:Int))).bind fun _=>k ⟨[b.r.ent b.h],[],b.r.rest,[],.any ⟨s.nxt,[]⟩⟩)
def Wg (T:TypeId) (x:Operand):Option Y:=(td tt T).bind fun d=>match d.el,opd s x with
 | some _,some (.vw u h k' n l m)=>k (.pure s (.one (.val (.int .i64 (m - l)))))
 | some _,some (.xv _ u h k' n l m)=>k (.pure s (.one (.val (.int .i64 (m - l)))))
 | _,_=>none
def Im (T:TypeId) (x i:Operand):Option Y:=(td tt T).bind fun d=>d.el.bind fun E=>(td tt E).bind fun e=>(QP s x).bind fun b=>bO (Nat.beq e.n b.k) ((asI s i).bind fun i=>(chk (0<=i/\i<b.m - b.l)).bind fun _=>(aP b.r.xs (b.l+i)).bind fun a=>k ⟨[b.r.ent b.h],[],b.r.rest,[],.elo b.h b.r.ver b.r.E b.r.t b.r.xs a (b.l+i) 0⟩)
def YA (T:TypeId) (x y:Operand):Option Y:=(td tt T).bind fun d=>d.el.bind fun E=>(td tt E).bind fun e=>e.bytes.bind fun _=>(QP s x).bind fun b=>(QP s y).bind fun c =>
 bO (Nat.beq e.n b.k&&Hdr.beq c.h b.h&&Nat.beq b.r.E E&&b.r.t.sh) ((chk (b.l=0/\b.m<=c.l/\c.l<=c.m/\c.m<=(b.r.xs.length:Int))).bind fun _=>k ⟨[],[b.r.ent b.h],b.r.rest,[(b.h,.own (.sl b.r.E b.r.t) (yT b.r.xs b.m.toNat c.l.toNat c.m.toNat))],.vw ⟨s.nxt,[]⟩ b.h b.k b.r.xs.length 0 (b.m+(c.m - c.l))⟩)
def Ot (T:TypeId) (x:Operand):Option Y:=(td tt T).bind fun d=>d.el.bind fun E=>(td tt E).bind fun e=>e.bytes.bind fun _=>(QP s x).bind fun b =>
 bO (Nat.beq e.n b.k&&Nat.beq b.r.E E&&b.r.t.sh) ((RJ e.ty b.r.t).bind fun z=>(chk (b.l<=b.m/\b.m<=(b.r.xs.length:Int))).bind fun _=>k ⟨[],[b.r.ent b.h],b.r.rest,[(b.h,.own (.sl b.r.E b.r.t) (rl b.r.xs b.l.toNat b.m.toNat z))],.any ⟨s.nxt,[]⟩⟩)
end
section
variable {Y:Type} {tt:TT} {s:Sg} {k:Res->Option Y} {P:Program} {w0:World} {o:Oper} {res:Y} {x y:Operand}
theorem Io {chs:List Ent} {b:Vb} (h:Yz s chs x=some b):rowOf b.h chs=some b.r/\b.k=b.r.t.size/\ ∀ {J:Hp} {θ:Th},Fine P w0 J θ s-> ∀ {w:World} {C:List Ch} {xs:List b.r.t.den},xs.length=b.r.xs.length->St J w0 w (Ch.own (aw b.r.E b.r.t.rep) [hv θ b.h] xs::C)->Vw (evL (envL θ s) x) (hv θ b.h) b.k b.r.xs.length b.l b.m:=by
 unfold Yz at h;split at h
 ·rename_i q d;have ⟨r,f,h⟩:=bind_some h;cases ae h;refine ⟨f,rfl,fun {J θ} j {w C xs} i e=>?_⟩;have a:=AP (k:=r.t.size) e;rw[i] at a;rw[aF (θ:=θ) d];exact a
 ·rename_i u q p n l m d;have ⟨r,f,h⟩:=bind_some h;have ⟨c,h⟩:=ai h;have c:=al c;cases ae h;refine ⟨f,c,fun {J θ} j {w C xs} i e=>?_⟩;have g:=bN j d;have a:=g.2.2.1;cases Oo e a;rw[aF (θ:=θ) d,<-i];exact a
 ·rename_i top u q p n l m d;split at h
  ·rename_i r f;have ⟨c,h⟩:=ai h;have c:=al c;cases ae h;refine ⟨f,c,fun {J θ} j {w C xs} i e=>?_⟩;have a:=AP (k:=p) e;rw[i] at a;rw[aF (θ:=θ) d];exact a
  ·have ⟨r,f,h⟩:=bind_some h;have ⟨c,h⟩:=ai h;have c:=al c;cases ae h;refine ⟨f,c,fun {J θ} j {w C xs} i e=>?_⟩;have g:=bN j d;have a:=g.2.2.1;cases Oo e a;rw[aF (θ:=θ) d,<-i];exact a
 grind
theorem rp {b:Vb} (h:QP s x=some b):rowOf b.h s.chs=some b.r/\b.k=b.r.t.size/\ ∀ {J:Hp} {θ:Th},Fine P w0 J θ s-> ∀ {w:World} {C:List Ch} {xs:List b.r.t.den},xs.length=b.r.xs.length->St J w0 w (Ch.own (aw b.r.E b.r.t.rep) [hv θ b.h] xs::C)->Vw (evL (envL θ s) x) (hv θ b.h) b.k b.r.xs.length b.l b.m:=Io h
theorem Uk {Z:Type} {x:Option Operand} {d:Int} {k:Int->Option Z} {z:Z} (h:loV s x d k=some z): ∃m:Option Int,k (m.getD d)=some z/\ ∀θ,oI (evL (envL θ s)) x m:=by
 unfold loV at h;split at h
 ·exact ⟨none,h,fun _=>trivial⟩
 ·have ⟨q,a,h⟩:=bind_some h;exact ⟨some q,h,fun θ=>oP a θ⟩
theorem Wh {h:Hdr} {r:Row} {c:Nat} {l m:Int} (i:rowOf h s.chs=some r) (j:m<=(r.xs.length:Int)) (b: ∀J θ,Fine P w0 J θ s->OpT P J w0 o (evL (envL θ s)) [toCh P θ (r.ent h)] (fun v=>Vw v (hv θ h) c r.xs.length l m) (fun _=>[toCh P θ (r.ent h)])):Good P w0 s o ⟨[r.ent h],[],r.rest,[],.vw ⟨s.nxt,[]⟩ h c r.xs.length l m⟩:=by
 obtain ⟨hp,-⟩:=bF i;refine ⟨oN hp,aU rfl,fun J θ d=>OpT.weak (b J θ d) (fun u e=>?_) (fun u e=>rfl)⟩;have a:=kY d hp;refine ⟨⟨ax _,aZ a.1,?_,j⟩,dV,fun g f=>by cases f⟩;rw[dV,show hv (upd θ s.nxt u) h=hv θ h from ba Same.upd a.1];exact e
theorem Ou {top:Bool} {h:Hdr} {r:Row} {c:Nat} {l m:Int} (f:rowOf h s.chs=some r) (j:top=true->l=0) (b: ∀J θ,Fine P w0 J θ s->OpT P J w0 o (evL (envL θ s)) [toCh P θ (r.ent h)] (fun v=>Vw v (hv θ h) c r.xs.length l m) (fun _=>[toCh P θ (r.ent h)])):Good P w0 s o ⟨[r.ent h],[],r.rest,[],.xv top ⟨s.nxt,[]⟩ h c r.xs.length l m⟩:=by
 obtain ⟨hp,-⟩:=bF f;refine ⟨oN hp,aU rfl,fun J θ d=>OpT.weak (b J θ d) (fun u e=>?_) (fun u e=>rfl)⟩;have a:=kY d hp;refine ⟨⟨ax _,aZ a.1,?_,j⟩,dV,fun g i=>by cases i⟩;rw[dV,show hv (upd θ s.nxt u) h=hv θ h from ba Same.upd a.1];exact e
theorem xQ (F:TTok P tt) {T:TypeId} {lo hi:Option Operand} (Q:o.op= .slice T x lo hi none) (h:Ez tt s k T x lo hi=some res):Oks P w0 s o k res:=by
 have ⟨d,O,h⟩:=bind_some h;have ⟨W,M,h⟩:=bind_some h;have ⟨e,K,h⟩:=bind_some h;have ⟨b,H,h⟩:=bind_some h;have ⟨B,h⟩:=ai h;have B:=al B;have ⟨n,h,l⟩:=Uk h;have ⟨c,h,t⟩:=Uk h;have ⟨E,hk,A⟩:=rp (P:=P) (w0:=w0) H;have key:0<=n.getD 0->n.getD 0<=c.getD (b.m - b.l)->(b.l+c.getD (b.m - b.l)<=(b.r.xs.length:Int)\/c.getD (b.m - b.l)<=b.m - b.l)-> ∀J θ,Fine P w0 J θ s->OpT P J w0 o (evL (envL θ s)) [toCh P θ (b.r.ent b.h)] (fun v=>Vw v (hv θ b.h) b.k b.r.xs.length (b.l+n.getD 0) (b.l+c.getD (b.m - b.l))) (fun _=>[toCh P θ (b.r.ent b.h)]):=by
  intro i a f J θ N w C D;have p:=A N rfl D;have ⟨ao,cap,G,S,R⟩:=p.hd;have j:b.m.toNat - b.l.toNat<=cap/\b.l+cap≥b.r.xs.length:=by
   rcases p with ⟨-,q,z,e2,e3⟩ | ⟨g,L,V,X,-,q,q1,U,q3,Z,q5,q6⟩
   ·omega
   ·grind
  have z:c.getD (b.m - b.l)=c.getD ((b.m.toNat - b.l.toNat:Nat):Int):=by
   cases c with
   | none=>grind
   | some _=>rfl
  rw[z] at a f
  have:=Dg (P:=P) (I:=J) (w0:=w0) (ev:=evL (envL θ s)) ((F.get O).el _ M) (F.get K).ti Q G (l θ) (t θ) j.1 i a (by omega) w (toCh P θ (b.r.ent b.h)::C) D
  refine this.imp fun v w' m=>⟨?_,m.2⟩
  rw[z];exact RG p i a f G (by grind)
 split at h
 ·have ⟨u,r,h⟩:=bind_some h;have ⟨i,a,f⟩:=bE r;exact ⟨_,h,Wh E f (key i a (.inl f))⟩
 ·have ⟨u,r,h⟩:=bind_some h;have ⟨i,a,f⟩:=bE r;exact ⟨_,h,Ou E (fun e=>by cases e) (key i a (.inr f))⟩
theorem LK (n:TTok P tt) {T:TypeId} {y z q:Operand} (L:o.op= .slice T x (some y) (some z) (some q)) (h:Oq tt s k T x y z q=some res):Oks P w0 s o k res:=by
 have ⟨d,K,h⟩:=bind_some h;have ⟨U,G,h⟩:=bind_some h;have ⟨e,D,h⟩:=bind_some h;have ⟨b,r,h⟩:=bind_some h;have ⟨S,h⟩:=ai h;have ⟨V,a,h⟩:=bind_some h;have ⟨mh,f,h⟩:=bind_some h;have ⟨mx,c,h⟩:=bind_some h;have ⟨u,E,h⟩:=bind_some h;have ⟨v,t,O,c4⟩:=bE E;have ⟨A,hk,j⟩:=rp (P:=P) (w0:=w0) r;obtain ⟨hp,-⟩:=bF A;refine ⟨_,h,oN hp,aU rfl,fun J θ H=>OpT.weak (fact:=fun _=>True) (gv:=fun _=>[toCh P θ (b.r.ent b.h)]) (fun w C l=>?_) (fun u i=>⟨ax _,dV,fun g B=>by cases B⟩) (fun u i=>rfl)⟩;have m:=j H rfl l;have ⟨X,cap,i,N,M⟩:=m.hd;have p:b.l+cap≥b.r.xs.length:=by
  rcases m with ⟨-,q,e1,e2,e3⟩ | ⟨g,F,R,W,-,q,q1,Q,q3,Z,q5,q6⟩
  ·omega
  ·grind
 exact LJ (P:=P) (I:=J) (w0:=w0) (ev:=evL (envL θ s)) ((n.get K).el _ G) (n.get D).ti L i (oP a θ) (oP f θ) (oP c θ) v t O (by omega) w (toCh P θ (b.r.ent b.h)::C) l
theorem RK (j:TTok P tt) {T:TypeId} (q:o.op= .call { callee:=.builtin .len,args:= #[x],argTypes:= #[T] }) (h:Wg tt s k T x=some res):Oks P w0 s o k res:=by
 have ⟨d,p,h⟩:=bind_some h;split at h
 ·rename_i E u v r n l m g f;refine lA h rfl fun J θ i=>?_;have b:=bN i f;have ⟨a,c,e,t,w⟩:=b.2.2.1.hd
  have:=v7 (P:=P) (I:=J) (w0:=w0) (o:=o) (ev:=evL (envL θ s)) ((j.get p).el _ g) q ((aF (θ:=θ) f).trans e)
  grind
 ·rename_i E top u v r n l m g f;refine lA h rfl fun J θ i=>?_;have b:=bN i f;have ⟨a,c,e,t,w⟩:=b.2.2.1.hd
  have:=v7 (P:=P) (I:=J) (w0:=w0) (o:=o) (ev:=evL (envL θ s)) ((j.get p).el _ g) q ((aF (θ:=θ) f).trans e)
  grind
 grind
theorem Dh (A:TTok P tt) {T:TypeId} {i:Operand} (S:o.op= .indexAddr T x i) (h:Im tt s k T x i=some res):Oks P w0 s o k res:=by
 have ⟨d,R,h⟩:=bind_some h;have ⟨X,N,h⟩:=bind_some h;have ⟨e,I,h⟩:=bind_some h;have ⟨b,D,h⟩:=bind_some h;have ⟨m,h⟩:=ai h;have m:=al m;have ⟨c,M,h⟩:=bind_some h;have ⟨u,L,h⟩:=bind_some h;have ⟨E,V⟩:=bE L;have ⟨a,G,h⟩:=bind_some h;have ⟨z,K,r⟩:=rp (P:=P) (w0:=w0) D;obtain ⟨hp,-⟩:=bF z;refine ⟨_,h,oN hp,aU rfl,fun J θ p=>OpT.weak (fact:=(· =pt (hv θ b.h) ((b.l+c).toNat*b.r.t.size+0))) (gv:=fun _=>[toCh P θ (b.r.ent b.h)]) (fun w C v=>?_) (fun u B=>?_) (fun u B=>rfl)⟩
 ·have H:=r p rfl v;have t:=(A.get R).el _ N;have n:=(A.get I).ti;rcases H with ⟨-,q,e1,e2,e3⟩ | ⟨g,f,W,Z,Q,q,q1,U,q3,q4,q5,q6⟩
  ·omega
  ·have l:pt (hv θ b.h) ((b.l+c).toNat*b.r.t.size+0)= .pointer (some ⟨g,f+b.l.toNat*b.k+c.toNat*e.n,none⟩):=by
    rw[Q];show Value.pointer (some ⟨g,f+((b.l+c).toNat*b.r.t.size+0),none⟩)=_;rw[show (b.l+c).toNat=b.l.toNat+c.toNat from by omega,<-K,m,Nat.add_mul];congr 3;omega
   rw[l];have O:c<((b.m.toNat - b.l.toNat:Nat):Int):=by omega
   have:OpT P J w0 o (evL (envL θ s)) [] (· = .pointer (some ⟨g,f+b.l.toNat*b.k+c.toNat*e.n,none⟩)) (fun _=>[]):=by
    refine bp fun w=>?_;simp[execOp,S,q,oP M θ,Instr.indexAt,asIntOf,run_underlying t,n.run_size,E,O,Result.andThen,Addr.add_mid]
   exact this w (toCh P θ (b.r.ent b.h)::C) v
 ·have j:=kY p hp;refine ⟨⟨aZ j.1,G,(wj z j.2.1).newer (Res.newer (oN hp) (aU rfl J θ p)) (Nat.le_succ _)⟩,?_,fun g F=>by cases F⟩;rw[B];show pt (hv (upd θ s.nxt _) b.h) _=pt (hv θ b.h) _;rw[show hv (upd θ s.nxt _) b.h=hv θ b.h from ba Same.upd j.1]
theorem EA {h:Hdr} {r:Row} {xs:List r.t.den} {av:AV} {fact:Th->Value->Prop} (i:rowOf h s.chs=some r) (c: ∀J θ,Fine P w0 J θ s->OpT P J w0 o (evL (envL θ s)) [toCh P θ (r.ent h)] (fact θ) (fun _=>[Ch.own (aw r.E r.t.rep) [hv θ h] xs]))
  (d: ∀J θ u,Fine P w0 J θ s->fact θ u->h.id<s.nxt->av.ok P w0 J (upd θ s.nxt u) (s.nxt+1) ((h,s.nxt,.own (.sl r.E r.t) xs)::r.rest)/\av.v (upd θ s.nxt u)=u):Good P w0 s o ⟨[],[r.ent h],r.rest,[(h,.own (.sl r.E r.t) xs)],av⟩:=by
 obtain ⟨hp,-⟩:=bF i;refine ⟨Cx hp,aU rfl,fun J θ b=>OpT.weak (c J θ b) (fun u e=>?_) (fun u e=>?_)⟩
 ·have a:=kY b hp;have ⟨l,f⟩:=d J θ u b e a.1;refine ⟨l,f,fun g j=>?_⟩;cases ak j;exact ⟨aZ a.1,ax _,trivial⟩
 ·have a:=kY b hp;show [Ch.own _ [hv θ h] xs] = [Ch.own _ [hv (upd θ s.nxt u) h] xs];rw[show hv (upd θ s.nxt u) h=hv θ h from ba Same.upd a.1]
  rfl
theorem RL (hT:TTok P tt) {T:TypeId} (ho:o.op= .call { callee:=.builtin .append,args:= #[x,y],argTypes:= #[T,T] }) (h:YA tt s k T x y=some res):Oks P w0 s o k res:=by
 have ⟨d,hd,h⟩:=bind_some h;have ⟨E,hE,h⟩:=bind_some h;have ⟨e,he,h⟩:=bind_some h;have ⟨X,M,h⟩:=bind_some h;have ⟨b,hb,h⟩:=bind_some h;have ⟨c,W,h⟩:=bind_some h;have ⟨hn,h⟩:=ai h;simp only[aj] at hn;have ⟨⟨⟨U,G⟩,t⟩,n4⟩:=hn;have U:=al U;have G:=Hdr.beq_eq G;have t:=al t;have ⟨u,hc,h⟩:=bind_some h;have ⟨c1,c2,c3,c4⟩:=bE hc;have ⟨hr,hk,Q⟩:=rp (P:=P) (w0:=w0) hb;have ⟨A,hk2,n⟩:=rp (P:=P) (w0:=w0) W;have Z:c.r=b.r:=by
  rw[G] at A;exact ae (A.symm.trans hr)
 have hk3:c.k=b.k:=by grind
 have N:=hT.get hd;have R:=hT.get he;have ⟨z,K,hz2,hz3⟩:=R.zero X M;have j:P.underlying T=some (.slice b.r.E):=(N.el E hE).trans (by rw[t]);refine ⟨_,h,EA (fact:=fun θ v=>Vw v (hv θ b.h) b.k b.r.xs.length 0 (b.m+(c.m - c.l))) hr (fun J θ L=>fun w C S=>?_) (fun J θ u L hu D=>⟨⟨ax _,aZ D,?_,by omega⟩,dV⟩)⟩
 ·have h1:=Q L rfl S;have h2:Vw (evL (envL θ s) y) (hv θ b.h) b.k b.r.xs.length c.l c.m:=by
   have:=n L rfl (xs:=c.r.xs) (by rw[Z,G];exact S)
   grind
  have r:St J w0 w (Ch.own (aw b.r.E b.r.t.rep) [hv θ b.h] b.r.xs::C):=S;rcases h1 with ⟨F,q,e1,e2,e3⟩ | ⟨g,V,cp,x',F,q,q1,q2,q3,q4,q5,q6⟩
  ·rcases h2 with ⟨a,p,f1,f2,f3⟩ | ⟨g2,B,O,y',a,p,-⟩
   ·have i:=List.eq_nil_of_length_eq_zero e1;have l:(Builtin.append_ #[T,T] o.type #[.slice none 0 0,.slice none 0 0]).run P w= .ok (.slice none 0 0) w:=by
     obtain ⟨info,m,-,-,-⟩:=info_parts K;rw[<-t] at m;exact fo j m (aL _)
    rw[eh ho q p l];refine ⟨.inl ⟨F,rfl,e1,rfl,by omega⟩,?_⟩;grind[yT]
   grind
  ·rcases h2 with ⟨a,p,f1,f2,f3⟩ | ⟨g2,B,O,y',a,p,p1,p2,p3,p4,p5,p6⟩
   ·grind
   ·rw[F] at a;simp[Value.slice.injEq,Option.some.injEq,Addr.mk.injEq,and_true,true_and] at a;obtain ⟨⟨rfl,rfl⟩,rfl⟩:=a;have f:b.l.toNat=0:=by omega
    have i:x'=0:=by rw[f,Nat.zero_mul] at q5;omega
    subst i;rw[f,Nat.sub_zero,Nat.sub_zero,Nat.add_zero] at q;rw[F] at r⊢
    have:=Ey (P:=P) (I:=J) (w0:=w0) (o:=o) (xs:=b.r.xs) (ev:=evL (envL θ s)) (Ty.sh_ok n4) (Ty.cpy n4) j (by rw[t];omega) (by grind[Ty.size_pos]) (b.r.t.rep_size.trans (hk.symm.trans U.symm)) ho q p (fun D=>?_) (by omega) (by omega) (by omega) w C (by simpa using r)
    ·refine this.imp fun v w' H=>⟨?_,H.2⟩
     refine .inr ⟨g,V,cp,0,rfl,?_,by omega,by omega,q3,by omega,Nat.zero_le _,.inr (by simp)⟩;grind
    grind
 grind[dV,hv,upd,ba,Same.upd]
theorem LL (G:TTok P tt) {T:TypeId} (L:o.op= .call { callee:=.builtin .clear,args:= #[x],argTypes:= #[T] }) (h:Ot tt s k T x=some res):Oks P w0 s o k res:=by
 have ⟨d,hd,h⟩:=bind_some h;have ⟨E,Z,h⟩:=bind_some h;have ⟨e,S,h⟩:=bind_some h;have ⟨p,n,h⟩:=bind_some h;have ⟨b,N,h⟩:=bind_some h;have ⟨B,h⟩:=ai h;simp only[aj] at B;have ⟨⟨A,i⟩,M⟩:=B;have A:=al A;have i:=al i;have ⟨z,hz,h⟩:=bind_some h;have ⟨u,V,h⟩:=bind_some h;have ⟨c3,c4⟩:=bE V;have ⟨Q,U,v⟩:=rp (P:=P) (w0:=w0) N;have j:=G.get hd;have a:=G.get S;have ⟨F,X,m,O⟩:=a.zero p n;have r:F.cells.size=e.n:=by rw[m,List.size_toArray,wi,a.sz]
 have c:P.underlying T=some (.slice b.r.E):=(j.el E Z).trans (by rw[i]);have l: ∀J,b.r.t.rep.rd J F.cells.toList z:=fun J=>by
  grind[JY]
 refine ⟨_,h,EA (fact:=fun _ _=>True) Q (fun J θ K=>fun w C D=>?_) (fun J θ u K hu t=>⟨ax _,dV⟩)⟩;have R:=v K rfl D;have f:St J w0 w (Ch.own (aw b.r.E b.r.t.rep) [hv θ b.h] b.r.xs::C):=D;rcases R with ⟨H,q,e1,e2,e3⟩ | ⟨g,W,cp,x',H,q,q1,q2,q3,q4,q5,q6⟩
 ·rw[p9 L q (sI w T b.r.E o.type c _ _)];refine ⟨trivial,?_⟩;grind[rl]
 ·rw[H] at f⊢;exact Gp (P:=P) (I:=J) (w0:=w0) (o:=o) (ev:=evL (envL θ s)) (Ty.sh_ok M) (Ty.cpy M) c (by rw[i];omega) (by grind[Ty.size_pos]) (b.r.t.rep_size.trans (U.symm.trans A.symm)) r (l J) L q (fun t=>by
   grind) (by omega) (by omega) w C f
end
theorem RM {α:Type} {E:TypeId} {R:Rep α} {I:Hp} {w0 w:World} {C:List Ch} {u v:Value} {xs:List α} {l m:Int} {k:Nat} (h:St I w0 w (Ch.own (aw E R) [v] xs::C)) (J:R.size=k) (hv:Vw u v k xs.length l m) (hm:m<=(xs.length:Int)):St I w0 w (Ch.own (aw E R) [u] ((xs.take m.toNat).drop l.toNat)::C):=by
 obtain ⟨B,L,F,⟨G,K,rfl,n,e⟩,z,H⟩:=h;have ⟨hl,n⟩:=n;rcases hv with ⟨rfl,rfl,T,rfl,rfl⟩ | ⟨g,a,cap,x,rfl,rfl,q1,q2,q3,q4,q5,p⟩
 ·have hx:=List.eq_nil_of_length_eq_zero T;subst hx;exact ⟨B,L,G++K,⟨G,K,rfl,⟨Nat.zero_le _,n⟩,e⟩,z,H⟩
 ·rcases n with ⟨f,rfl,rfl⟩ | ⟨g',A,M,cur,K1,f,W,k2,k3,Y,rfl,y⟩
  ·grind
  ·simp[List.cons.injEq,Value.slice.injEq,Option.some.injEq,Addr.mk.injEq,and_true,true_and] at f;obtain ⟨⟨rfl,rfl⟩,rfl⟩:=f;rw[J] at Y;have hlm:l.toNat<=m.toNat:=by omega
   have O:((xs.take m.toNat).drop l.toNat).length=m.toNat - l.toNat:=by rw[bP,aB];omega
   have Z:xs=(xs.take m.toNat).take l.toNat++((xs.take m.toNat).drop l.toNat++xs.drop m.toNat):=by grind[aC,List.take_append_drop]
   rw[Z] at y;obtain ⟨c1,S,i,G2,f1,N,rfl,-,U⟩:=y.cut2;obtain ⟨d,j,rfl,P,-⟩:=U.parts;have hp:((g::(i++(d++j)))++K).Perm (((g::d)++K)++(i++j)):=by
    show (g::((i++(d++j))++K)).Perm (g::((d++K)++(i++j)));refine List.Perm.cons g ?_;rw[aC,aC,aC];refine (List.perm_append_comm_assoc i d _).trans (List.Perm.append_left d ?_);refine (List.perm_append_comm_assoc i j K).trans ?_;rw[<-aC];refine List.perm_append_comm.trans ?_;exact List.Perm.append_left K List.perm_append_comm
   have q:((xs.take m.toNat).take l.toNat).length=l.toNat:=by rw[aB,aB];omega
   rw[q,J] at N;have V:cur.toList.drop (a+l.toNat*k)=S:=by
    rw[<-List.drop_drop,f1];exact List.drop_left' N
   have s: ∀c,OwnEls R I w c ((xs.take m.toNat).drop l.toNat) d->St I w0 w (Ch.own (aw E R) [.slice (some ⟨g,a+x,none⟩) (m.toNat - l.toNat) (cap - l.toNat)] ((xs.take m.toNat).drop l.toNat)::C)\/c≠cur.toList.drop (a+x):=fun c X=>by
    by_cases t:c=cur.toList.drop (a+x)
    ·subst t;have m1:l.toNat*k+(cap - l.toNat)*k=cap*k:=by rw[<-Nat.add_mul];congr 1;omega
     refine .inl ⟨B,L,(g::d)++K,⟨g::d,K,rfl,⟨by omega,.inr ⟨g,a+x,cap - l.toNat,cur,d,by grind,W,by omega,by omega,by grind,rfl,X⟩⟩,e⟩,(List.nodup_append.1 (hp.nodup_iff.1 z)).1,fun b Q=>H b (hp.mem_iff.2 (bm _ Q))⟩
    grind
   rcases p with p | p
   ·have D:(xs.take m.toNat).drop l.toNat= []:=List.eq_nil_of_length_eq_zero (by omega);have o:d= []:=by rw[D] at P;exact P
    rcases s (cur.toList.drop (a+x)) (by rw[D,o];rfl) with r | r
    ·exact r
    grind
   grind
def qa (u:Hdr):List (Nat×Nat×AV)->List (Nat×Nat×AV)
 | [] =>[]
 | (t,ver,.xv top u' h k n l m)::es=>(match Hdr.beq u' u with | true=>(t,ver,.one (.own u')) | false=>(t,ver,.xv top u' h k n l m))::qa u es
 | (t,ver,.vw u' h k n l m)::es=>(match Hdr.beq u' u with | true=>(t,ver,.one (.own u)) | false=>(t,ver,.vw u' h k n l m))::qa u es
 | e::es=>e::qa u es
def RN {Y:Type} (s:Sg) (v:AV) (kk:Sg->Option Y):Option Y:=match v with
 | .xv _ u _ _ _ _ _=>kk ⟨qa u s.env,s.chs,s.nxt+1⟩
 | .vw u h k n l m=>match rowOf h s.chs with
  | some r=>bO (Nat.beq k r.t.size) (kk ⟨qa u s.env,(u,s.nxt,.own (.sl r.E r.t) ((r.xs.take m.toNat).drop l.toNat))::r.rest,s.nxt+1⟩)
  | none=>kk s
 | _=>kk s
def RO {Y:Type} :List AV->Sg->(Sg->Option Y)->Option Y
 | [],s,kk=>kk s
 | v::vs,s,kk=>RN s v fun s=>RO vs s kk
section
variable {P:Program} {I J:Hp} {w0 w:World} {F:Ch} {n:Nat} {θ:Th} {s:Sg} {a:Act}
theorem EB {u:Hdr} {N:Nat} {chs:List Ent} : ∀ {l:List (Nat×Nat×AV)},(∀e∈l,e.2.2.ok P w0 J θ N chs)->(∀e∈qa u l,e.2.2.ok P w0 J θ N chs/\ ∃g∈l,g.2.1=e.2.1)/\((qa u l).map fun e=>(e.1,e.2.2.v θ))=(l.map fun e=>(e.1,e.2.2.v θ))/\((l.Pairwise fun a b=>a.2.1≠b.2.1)->(qa u l).Pairwise fun a b=>a.2.1≠b.2.1)
 | [],h=>⟨fun e x=>(by cases x),rfl,fun _=>List.Pairwise.nil⟩
 | e::es,h=>by
  have ⟨B,M,E⟩:=EB (u:=u) (l:=es) fun e x=>h e (bY _ x);have k:=h e (List.mem_cons_self ..);have fin: ∀f,f.1=e.1->f.2.1=e.2.1->f.2.2.ok P w0 J θ N chs->f.2.2.v θ=e.2.2.v θ->(∀q∈f::qa u es,q.2.2.ok P w0 J θ N chs/\ ∃g∈e::es,g.2.1=q.2.1)/\((f::qa u es).map fun e=>(e.1,e.2.2.v θ))=((e::es).map fun e=>(e.1,e.2.2.v θ))/\(((e::es).Pairwise fun a b=>a.2.1≠b.2.1)->(f::qa u es).Pairwise fun a b=>a.2.1≠b.2.1):=fun f O D L G=>by
   refine ⟨fun q j=>?_,?_,fun hp=>?_⟩
   ·rcases aA j with rfl | j
    ·exact ⟨L,e,List.mem_cons_self ..,D.symm⟩
    ·have ⟨C,g,o,p⟩:=B q j;exact ⟨C,g,bY _ o,p⟩
   ·rw[List.map_cons,List.map_cons,M,O,G]
   ·have ⟨H,Q⟩:=List.pairwise_cons.1 hp;refine List.pairwise_cons.2 ⟨fun q j=>?_,E Q⟩;have ⟨C,g,o,p⟩:=B q j;rw[D,<-p];exact H g o
  obtain ⟨t,c,K⟩:=e;cases K with
  | vw d y r m v z =>
   cases i:Hdr.beq d u with
   | true =>
    have:=Hdr.beq_eq i
    subst this;have A:qa d ((t,c,.vw d y r m v z)::es)=(t,c,.one (.own d))::qa d es:=by simp[qa,i]
    rw[A];exact fin (t,c,.one (.own d)) rfl rfl ⟨k.1,k.2.2.1.one⟩ rfl
   | false =>
    grind[qa]
  | xv top d y r m v z =>
   cases i:Hdr.beq d u with
   | true =>
    have:=Hdr.beq_eq i
    subst this;have A:qa d ((t,c,.xv top d y r m v z)::es)=(t,c,.one (.own d))::qa d es:=by simp[qa,i]
    rw[A];exact fin (t,c,.one (.own d)) rfl rfl ⟨k.1,k.2.2.1.one⟩ rfl
   | false =>
    grind[qa]
  | _=>exact fin _ rfl rfl k rfl
theorem RP {Y:Type} {D:Sg->Option Y} {y:Y} {v:AV} (h:RN s v D=some y) (t:v.ok P w0 J θ s.nxt s.chs) (b:Sim P I w0 F n J θ s a w): ∃s',D s'=some y/\Sim P I w0 F n J θ s' a w/\Newer s.nxt s.chs s'.chs/\s.nxt<=s'.nxt:=by
 have base:Sim P I w0 F n J θ s a w/\Newer s.nxt s.chs s.chs/\s.nxt<=s.nxt:=⟨b,Newer.rfl,aL _⟩;unfold RN at h;split at h
 ·rename_i top u H k N l m;have ⟨p,q,B⟩:=EB (u:=u) (P:=P) (w0:=w0) (J:=J) (θ:=θ) (N:=s.nxt) (chs:=s.chs) b.fine.env;refine ⟨_,h,⟨b.le,?_,b.st,fun e d=>AV.ok_same Same.rfl (Nat.le_succ _) Newer.rfl (p e d).1 Hp.le.rfl,fun e d=>?_,B b.fine.nd,fun e d=>gy Same.rfl (Nat.le_succ _) Newer.rfl (b.fine.chs e d) Hp.le.rfl,b.fine.lay⟩,Newer.rfl,Nat.le_succ _⟩
  ·show Agr n a ((qa u s.env).map _);rw[q];exact b.agr
  ·obtain ⟨-,A,C,x⟩:=p e d;rw[<-x];exact aZ (b.fine.ver A C)
 ·rename_i u H k N l m;have i:=t;split at h
  ·rename_i r G;have ⟨z,h⟩:=ai h;have z:=al z;obtain ⟨hp,-⟩:=bF G;have ⟨p,q,B⟩:=EB (u:=u) (P:=P) (w0:=w0) (J:=J) (θ:=θ) (N:=s.nxt) (chs:=s.chs) b.fine.env;have j:=b.st.perm ((hp.map (toCh P θ)).append_right [F]);have K:=Oo j i.2.2.1;subst K;have o:=RM j (r.t.rep_size.trans z.symm) i.2.2.1 i.2.2.2;have f:Newer s.nxt s.chs ((u,s.nxt,.own (.sl r.E r.t) ((r.xs.take m.toNat).drop l.toNat))::r.rest):=fun e d L E c g=>by
    rcases aA d with rfl | d
    ·obtain ⟨rfl,g⟩:=g;rcases g with ⟨rfl,rfl⟩ | g
     ·grind
     ·exact g.elim
    grind
   refine ⟨_,h,⟨b.le,?_,o,fun e d=>AV.ok_same Same.rfl (Nat.le_succ _) f (p e d).1 Hp.le.rfl,fun e d=>?_,B b.fine.nd,fun e d=>?_,b.fine.lay⟩,f,Nat.le_succ _⟩
   ·show Agr n a ((qa u s.env).map _);rw[q];exact b.agr
   ·obtain ⟨-,A,C,x⟩:=p e d;rw[<-x];exact aZ (b.fine.ver A C)
   ·rcases aA d with rfl | d
    ·exact ⟨aZ i.1,ax _,trivial⟩
    ·exact gy Same.rfl (Nat.le_succ _) f (b.fine.chs e (hp.mem_iff.2 (bY _ d))) Hp.le.rfl
  grind
 grind
theorem JZ {Y:Type} {c:Sg->Option Y} {y:Y} : ∀ {vs:List AV} {s:Sg},RO vs s c=some y->(∀v∈vs,v.ok P w0 J θ s.nxt s.chs)->Sim P I w0 F n J θ s a w-> ∃b,c b=some y/\Sim P I w0 F n J θ b a w/\s.nxt<=b.nxt
 | [],s,h,_,hS=>⟨s,h,hS,aL _⟩
 | v::vs,s,h,hv',hS=>by
  have ⟨l,e,f,d,g⟩:=RP (show RN s v (fun s=>RO vs s c)=some y from h) (hv' v (List.mem_cons_self ..)) hS;have ⟨b,m,j,k⟩:=JZ (vs:=vs) e (fun x i=>AV.ok_same Same.rfl g d (hv' x (bY _ i)) Hp.le.rfl) f;grind
end
end R
namespace D
open Go.RowKit
section
variable {P:Program} {I J:Hp} {w0 w w':World} {cs C:List Ch} {o:Oper} {ev:Operand->Value}
theorem LM {dT sT ty e:TypeId} {k g o dLen dCap sLen sCap:Nat} {ao:Option Addr} {cs:List Value} (n:P.underlying dT=some (.slice e)) (hs:(sizeOf e).run P w= .ok k w) (f:cs.length=Nat.min sLen dLen*k)
  (c:cs= [] \/ ∃a,ao=some a/\ ∀j v,cs[j]? =some v->w.cell? (a.add j)=some v) (i: ∀j,j<cs.length->(w.cell? ⟨g,o+j,none⟩).isSome=true) (m: ∀j,j<cs.length->w.frozen? ⟨g,o+j,none⟩=false) (h1: ∀v∈cs,v.oneCell'=true) :
  (Builtin.copy_ #[dT,sT] ty #[.slice (some ⟨g,o,none⟩) dLen dCap,.slice ao sLen sCap]).run P w= .ok (goInt (Nat.min sLen dLen)) (w.setCells g o cs):=by
 have b:=run_storeCells_cells (P:=P) g o cs 0 w (by simpa using i) (by simpa using m) h1;simp only[Nat.add_zero] at b;have d:(Builtin.firstCells k (Nat.min sLen dLen) (.slice ao sLen sCap)).run P w= .ok cs.toArray w:=by
  rcases c with rfl | ⟨a,rfl,h⟩
  ·cases ao with
   | none=>rfl
   | some a=>exact run_firstCells_some (P:=P) w k _ a sLen sCap [] f (fun j v l=>by simp at l)
  ·exact run_firstCells_some (P:=P) w k _ a sLen sCap cs f h
 simp[Builtin.copy_,run_underlying n,Builtin.lenOf,hs,d,b]
theorem wC {x y:Operand} {T U:TypeId} {v u r:Value} {w w':World} (d:o.op= .call { callee:=.builtin .copy,args:= #[x,y],argTypes:= #[T,U] }) (c:ev x=v) (a:ev y=u) (b:(Builtin.copy_ #[T,U] o.type #[v,u]).run P w= .ok r w'):(execOp ev o).run P w= .ok (.value r) w':=by
 simp only[execOp,d,resolve,invoke,builtin,Sem.run_bind,Sem.run_pure,Result.andThen_ok,List.map_toArray,List.map_cons,List.map_nil,c,a,b]
theorem rN {x y:Operand} {T U:TypeId} {v u r:Value} {w w':World} (d:o.op= .call { callee:=.builtin .append,args:= #[x,y],argTypes:= #[T,U] }) (c:ev x=v) (a:ev y=u) (b:(Builtin.append_ #[T,U] o.type #[v,u]).run P w= .ok r w'):(execOp ev o).run P w= .ok (.value r) w':=by
 simp only[execOp,d,resolve,invoke,builtin,Sem.run_bind,Sem.run_pure,Result.andThen_ok,List.map_toArray,List.map_cons,List.map_nil,c,a,b]
def EC {α:Type} (xs:List α) (p:Nat) (ys:List α):List α:=xs.take p++(ys++xs.drop (p+ys.length))
theorem vn {α:Type} {xs ys:List α} {p:Nat} (hp:p<=xs.length):(EC xs p ys).length=max xs.length (p+ys.length):=by
 simp only[EC,az,aB,bP];omega
theorem RQ {α:Type} {xs ys:List α} {p q:Nat} (hp:p<=xs.length):(EC xs p ys)[q]? =if p<=q/\q<p+ys.length then ys[q - p]? else xs[q]? :=by
 have a:(xs.take p).length=p:=by rw[aB];omega
 unfold EC;by_cases b:q<p
 ·rw[if_neg (by omega),List.getElem?_append_left (by omega),List.getElem?_take,if_pos b]
 ·rw[List.getElem?_append_right (by omega),a];by_cases c:q<p+ys.length
  ·rw[if_pos (by omega),List.getElem?_append_left (by omega)]
  ·rw[if_neg (by omega),List.getElem?_append_right (by omega),List.getElem?_drop];congr 1;omega
def RdCells {α:Type} (R:Rep α) (I:Hp) (k:Nat) (news:List Value) (ys:List α):Prop:=news.length=ys.length*k/\ ∀(i:Nat) y,ys[i]? =some y-> ∃c:List Value,c.length=k/\(∀j,j<k->news[i*k+j]? =c[j]?)/\R.rd I c y
theorem RdCells.one {α:Type} {R:Rep α} {k:Nat} {news:List Value} {ys:List α} (e:0<k) (h:RdCells R I k news ys): ∀u∈news,u.oneCell'=true:=by
 intro u i;obtain ⟨q,d⟩:=List.getElem?_of_mem i;have a:=(List.getElem?_eq_some_iff.1 d).1;rw[h.1] at a;have b:q / k<ys.length:=by rw[Nat.div_lt_iff_lt_mul e];exact a
 obtain ⟨c,j,f,g⟩:=h.2 _ _ (List.getElem?_eq_getElem b)
 have:=f (q % k) (Nat.mod_lt _ e)
 rw[Nat.div_add_mod',d] at this;exact R.rd_one g u (List.mem_of_getElem? this.symm)
theorem Gq {α:Type} {R:Rep α} {xs:List α} {cur:Array Value} {ofs k j m:Nat} (n:m<=xs.length) (a:ofs+xs.length*k<=cur.size) (l:j<=m) (b: ∀(i:Nat) x,xs[i]? =some x-> ∃c:List Value,c.length=k/\(∀j,j<k->(cur.toList.drop ofs)[i*k+j]? =c[j]?)/\R.rd I c x):RdCells R I k (sH cur ofs k j m) ((xs.take m).drop j):=by
 have e:((xs.take m).drop j).length=m - j:=by rw[bP,aB];omega
 refine ⟨by rw[e];exact tN a l n,fun i y d=>?_⟩;have r:i<m - j:=by rw[<-e];exact (List.getElem?_eq_some_iff.1 d).1
 rw[List.getElem?_drop,List.getElem?_take,if_pos (by omega)] at d;obtain ⟨c,g,f,p⟩:=b _ _ d;refine ⟨c,g,fun q h=>?_,p⟩;have s:i*k+k<=(m - j)*k:=by rw[<-Nat.succ_mul];exact Nat.mul_le_mul_right _ (by omega)
 rw[mB (by omega),<-f q h,Nat.add_mul];congr 1;omega
theorem RR {α:Type} {E:TypeId} {R:Rep α} (d:R.Sh) (v:Cpy R R) {k:Nat} (y:0<k) (i:R.size=k) {g ofs n cap p:Nat} {xs ys:List α} {news:List Value} (f:RdCells R I k news ys) (hp:p<=xs.length) (b:p+ys.length<=cap) (j:p+ys.length<=lim)
  (h:St I w0 w (Ch.own (aw E R) [.slice (some ⟨g,ofs,none⟩) n cap] xs::C)):St I w0 (w.setCells g (ofs+p*k) news) (Ch.own (aw E R) [.slice (some ⟨g,ofs,none⟩) (EC xs p ys).length cap] (EC xs p ys)::C):=by
 obtain ⟨rfl,z,x,-⟩:=yS d i h;have l:=vn (xs:=xs) (ys:=ys) hp;have m:=(h.hd 0 rfl).2;refine AN d v i (p:=p) (cnt:=ys.length) f.1 b (by rw[l];omega) (by rw[l];omega) (fun q u a=>?_) h;rw[RQ hp] at a;by_cases e:p<=q/\q<p+ys.length
 ·rw[if_pos e] at a;obtain ⟨c,s,t,r⟩:=f.2 _ _ a;exact .inl ⟨e.1,e.2,c,s,t,r⟩
 ·rw[if_neg e] at a;exact .inr ⟨by omega,a⟩
theorem LN {α:Type} {E:TypeId} {R:Rep α} (u:Cpy R R) {k:Nat} (f:R.size=k) {g cap:Nat} {cells:List Value} {xs:List α} (b:xs.length<=cap) (d:cap<=maxLen) (v:cap*k<=cells.length) (a:xs.length<=lim) (e: ∀(i:Nat) x,xs[i]? =some x-> ∃c:List Value,c.length=k/\(∀j,j<k->cells[i*k+j]? =c[j]?)/\R.rd I c x)
  (h:St I w0 w (Ch.blk g cells E::C)):St I w0 w (Ch.own (aw E R) [.slice (some ⟨g,0,none⟩) xs.length cap] xs::C):=by
 obtain ⟨l,r,F,⟨G,K,rfl,⟨rfl,t⟩,y⟩,p,q⟩:=h;refine ⟨l,r,[g] ++K,⟨[g],K,rfl,⟨a,.inr ⟨g,0,cap,cells.toArray,[],rfl,t,b,d,?_,rfl,AM u fun i x z=>?_⟩⟩,y⟩,p,q⟩
 ·rw[f];simpa using v
 ·rw[f];obtain ⟨c,n,m,A⟩:=e i x z;exact ⟨c,n,fun j s=>by rw[<-m j s];simp,A⟩
theorem AQ {T U ty E:TypeId} {z:Value} {n b:Nat} {y:IntKind} (A:P.underlying T=some (.slice E)) (K:P.underlying U=some (.int y)) (D:TZ P E z n b) {a:Addr} {i cap q:Nat} {old:List Value} (M:0<n) (O:0<q) (d:cap<i+q) (l:(i+q)*b<=140737488355328) (x:1<=b)
  (G:old.length=i*n) (m: ∀j v,old[j]? =some v->w.cell? (a.add j)=some v) :
  ∃c,i+q<=c/\c<=maxLen/\(Builtin.append_ #[T,U] ty #[.slice (some a) i cap,.int .i64 q]).run P w= .ok (.slice (some ⟨w.heap.size,0,none⟩) (i+q) c) (w.drew.alloc (.cells (old.toArray++Builtin.zeroCells z.cells q++Builtin.zeroCells z.cells (c - (i+q))) E)):=by
 obtain ⟨info,p,L,e,u⟩:=info_parts D;have N:(i+q)*1<=(i+q)*b:=Nat.mul_le_mul_left _ x;have Q:q*b<=(i+q)*b:=Nat.mul_le_mul_right _ (by omega);have H:i64.wrap (q:Int)=q:=by rw[IntKind.wrap_i64];omega
 have f: ¬(9223372036854775807<((i:Int)+(q:Int))):=by omega
 have F:=growslice_fits (bytes:=b) d l;have h: ¬(281474976710656<Builtin.nextslicecap (i+q) cap*b):=by omega
 have k: ¬(281474976710656<(q:Int)*(b:Int)):=by
  rw[<-Int.natCast_mul];omega
 have g: ¬((q:Int)<0):=by omega
 have r: ¬(q*n=0):=Nat.mul_ne_zero (by omega) (by omega);have t: ¬(i+q<=cap):=by omega
 have s:(Builtin.firstCells n i (.slice (some a) i cap)).run P w.drew= .ok old.toArray w.drew:=run_firstCells_some (P:=P) w.drew n i a i cap old G (fun j v B=>m j v B);refine ⟨grownCap w (i+q) cap E,grownCap_ge w _ _ _,grownCap_le_maxLen w _ _ _ (by unfold maxLen;omega),?_⟩;simp[Builtin.append_,run_underlying A,run_underlying K,sizeOf,typeInfo,zeroValue,p,L,e,u,asInt,asIntOf,H,g,r,t,f,h,k,Question.forced,s,newRow,grownCap]
end
end D
namespace R
open Go.RowKit
open D
open Classical in
noncomputable def AR {Y:Type} (n:Nat) (f:Nat->Option Y):Option Y:=if h: ∃y,∀c,n<=c->c<=maxLen->f c=some y then some h.choose else none
theorem Gr {Y:Type} {n:Nat} {f:Nat->Option Y} {y:Y} (h:AR n f=some y): ∀c,n<=c->c<=maxLen->f c=some y:=by
 unfold AR at h;split at h
 ·grind
 grind
theorem LO {Y:Type} {n:Nat} {f:Nat->Option Y} {y:Y} (a:n<=maxLen) (h: ∀c,n<=c->c<=maxLen->f c=some y):AR n f=some y:=by
 unfold AR;have b: ∃y,∀c,n<=c->c<=maxLen->f c=some y:=⟨y,h⟩;grind
theorem J4: ∃F:(Y:Type)->Nat->(Nat->Option Y)->Option Y,(∀Y n f y,F Y n f=some y-> ∀c,n<=c->c<=maxLen->f c=some y)/\ ∀Y n f y,n<=maxLen->(∀c,n<=c->c<=maxLen->f c=some y)->F Y n f=some y:=
 ⟨fun Y n f=>AR n f,fun Y n f y h=>Gr h,fun Y n f y a h=>LO a h⟩
noncomputable def Ul {Y:Type} (n:Nat) (f:Nat->Option Y):Option Y:=Classical.choose J4 Y n f
theorem Ip {Y:Type} {n:Nat} {f:Nat->Option Y} {y:Y} (h:Ul n f=some y): ∀c,n<=c->c<=maxLen->f c=some y:=(Classical.choose_spec J4).1 Y n f y h
def Wi (tt:TT) (s:Sg) (o:Oper):Option (Hdr×Row):=match o.op with
 | .call c=>match c.callee,c.args.toList,c.argTypes.toList with
  | .builtin .cap,[x],[T] =>(td tt T).bind fun d=>d.el.bind fun _=>match opd s x with
   | some (.one (.own h))=>(rowOf h s.chs).bind fun r=>some (h,r)
   | _=>none
  | _,_,_=>none
 | _=>none
def Um (q:Hdr×Row) (c:Nat):Res:=⟨[q.2.ent q.1],[],q.2.rest,[],.capv q.1 c⟩
theorem Gs {P:Program} {o:Oper} {ev:Operand->Value} {x:Operand} {T:TypeId} {v r:Value} {w w':World} (c:o.op= .call { callee:=.builtin .cap,args:= #[x],argTypes:= #[T] }) (b:ev x=v) (a:(Builtin.cap_ #[T] o.type #[v]).run P w= .ok r w'):(execOp ev o).run P w= .ok (.value r) w':=by
 simp[execOp,c,resolve,invoke,builtin,Sem.run_bind,Sem.run_pure,Result.andThen_ok,List.map_toArray,List.map_cons,List.map_nil,b,a]
theorem xR {α:Type} {E:TypeId} {R:Rep α} {I:Hp} {w0 w:World} {C:List Ch} {v:Value} {xs:List α} (h:St I w0 w (Ch.own (aw E R) [v] xs::C)): ∃a,v= .slice a xs.length (QN v)/\xs.length<=QN v/\QN v<=maxLen:=by
 obtain ⟨f,n,F,⟨G,K,rfl,⟨p,d⟩,q⟩,j,l⟩:=h;rcases d with ⟨hv,rfl,rfl⟩ | ⟨g,b,cap,cur,o,hv,k,e,c,m,rfl,i⟩
 ·obtain rfl:v= .slice none 0 0:=by grind
  exact ⟨_,rfl,aL _,Nat.zero_le _⟩
 ·obtain rfl:v= .slice (some ⟨g,b,none⟩) xs.length cap:=by grind
  exact ⟨_,rfl,e,c⟩
section
variable {tt:TT} {s:Sg} {P:Program} {I J:Hp} {w0 w:World} {F:Ch} {n:Nat} {θ:Th} {a:Act} {o:Oper}
theorem RS (H:TTok P tt) {q:Hdr×Row} (h:Wi tt s o=some q) (t:Sim P I w0 F n J θ s a w):q.2.xs.length<=QN (hv θ q.1)/\QN (hv θ q.1)<=maxLen/\GoodA P w0 J θ s o (Um q (QN (hv θ q.1))):=by
 unfold Wi at h;split at h
 ·rename_i c N;split at h
  ·rename_i x T j L G;have ⟨d,M,h⟩:=bind_some h;have ⟨E,K,h⟩:=bind_some h;split at h
   ·rename_i b O;have ⟨r,A,h⟩:=bind_some h;cases ae h;obtain ⟨hp,-⟩:=bF A;have e:=t.st.perm ((hp.map (toCh P θ)).append_right [F]);have e:St J w0 w (Ch.own (aw r.E r.t.rep) [hv θ b] r.xs::(r.rest.map (toCh P θ)++ [F])):=e;have ⟨R,B,y,Q⟩:=xR e;refine ⟨y,Q,oN hp,aU rfl J θ t.fine,?_⟩;have i:=kY t.fine hp;have p:o.op= .call { callee:=.builtin .cap,args:= #[x],argTypes:= #[T] }:=by
     have ⟨l,args,m⟩:=c;have j:l= .builtin .cap:=j;rw[N,j,show args= #[x] from Array.ext' L,show m= #[T] from Array.ext' G]
    have k:=(H.get M).el E K;have S:P.elem T=E:=by simp[Program.elem,k]
    refine OpT.weak (fact:=(· = .int .i64 (QN (hv θ b)))) (gv:=fun _=>[toCh P θ (r.ent b)]) (fun w C z=>?_) (fun u v=>⟨⟨aZ i.1,?_⟩,?_,fun g D=>by cases D⟩) (fun u v=>rfl)
    ·have f:(Builtin.cap_ #[T] o.type #[hv θ b]).run P w= .ok (goInt (QN (hv θ b))) w:=by
      rw[B];exact run_cap_slice (P:=P) w T o.type _ _ _ (by grind)
     rw[Gs p (aF O) f];exact ⟨rfl,z⟩
    ·rw[show hv (upd θ s.nxt u) b=hv θ b from ba Same.upd i.1]
    ·exact v.symm
   grind
  grind
 grind
end
def Di (h:Hdr):List (Nat×Nat×AV)->Option Nat
 | [] =>none
 | (_,_,.capv h' c)::es=>if Hdr.beq h' h then some c else Di h es
 | _::es=>Di h es
theorem AS {P:Program} {w0:World} {J:Hp} {θ:Th} {n:Nat} {chs:List Ent} {h:Hdr} {c:Nat} : ∀ {l:List (Nat×Nat×AV)},Di h l=some c->(∀e∈l,e.2.2.ok P w0 J θ n chs)->QN (hv θ h)=c
 | (t,ver,av)::es,a,hl=>by
  have o:=fun a=>AS (l:=es) (h:=h) (c:=c) a fun e g=>hl e (bY _ g);have i:=hl (t,ver,av) (List.mem_cons_self ..);unfold Di at a;split at a
  ·grind
  ·rename_i r u m b
   injection b with j q
   injection j with s f
   injection f with p k
   subst k;split at a
   ·rename_i d
    have:=Hdr.beq_eq d
    subst this;cases ae a;exact i.2
   grind
  grind
def Ov (h:Hdr):List (Nat×Nat×AV)->Option (Hdr×Int)
 | [] =>none
 | (_,_,.xv true u h' _ _ _ m)::es=>if Hdr.beq h' h then some (u,m) else Ov h es
 | _::es=>Ov h es
theorem J5 {P:Program} {w0:World} {J:Hp} {θ:Th} {n:Nat} {chs:List Ent} {h:Hdr} {q:Hdr×Int} : ∀ {l:List (Nat×Nat×AV)},Ov h l=some q->(∀e∈l,e.2.2.ok P w0 J θ n chs)->q.1.id<n/\ ∃k N,Vw (hv θ q.1) (hv θ h) k N 0 q.2
 | (t,ver,av)::es,a,hl=>by
  have s:=fun a=>J5 (l:=es) (h:=h) (q:=q) a fun e f=>hl e (bY _ f);have g:=hl (t,ver,av) (List.mem_cons_self ..);unfold Ov at a;split at a
  ·grind
  ·rename_i u x p A D C m b
   injection b with i w
   injection i with B d
   injection d with v j
   subst j;split at a
   ·rename_i c
    have:=Hdr.beq_eq c
    have ⟨y,o,z,r⟩:=g;grind
   grind
  grind
section
variable {Y:Type} (tt:TT) (s:Sg) (k:Res->Option Y)
def Wj (b:BinOp) (x y:Operand):Option Y:=match opd s x,opd s y with
 | some (.one (.val (.int .i64 m))),some (.capv _ c)=>bO (X5 b) (kv s k (.bool (cmpI b m (c:Int))))
 | _,_=>none
def Ow (T:TypeId) (x hi:Operand):Option Y:=(td tt T).bind fun d=>d.el.bind fun E'=>(td tt E').bind fun e=>match opd s x with
 | some (.one (.own h))=>(rowOf h s.chs).bind fun r=>bO (Nat.beq e.n r.t.size) ((asI s hi).bind fun m=>(Di h s.env).bind fun c=>(chk ((r.xs.length:Int)<=m/\m<=(c:Int))).bind fun _=>k ⟨[r.ent h],[],r.rest,[],.xv true ⟨s.nxt,[]⟩ h r.t.size r.xs.length 0 m⟩)
 | _=>none
def YB (T U:TypeId) (x y:Operand):Option Y:=(td tt T).bind fun d=>d.el.bind fun E=>(td tt E).bind fun e=>e.bytes.bind fun by_=>(td tt U).bind fun f=>f.ik.bind fun ik=>(QP s x).bind fun b=>(asI s y).bind fun q =>
 bO (Nat.beq e.n b.k&&Nat.beq b.r.E E&&b.r.t.sh&&ik.isSome && !b.x) ((RJ e.ty b.r.t).bind fun z=>(Di b.h s.env).bind fun c =>
 (chk (b.l=0/\b.m<=(b.r.xs.length:Int)/\0<q/\(c:Int)<b.m+q/\(b.m+q)*(by_:Int)<=140737488355328)).bind fun _=>k ⟨[b.r.ent b.h],[],b.r.rest,[(⟨s.nxt,[]⟩,.own (.sl b.r.E b.r.t) (b.r.xs.take b.m.toNat++List.replicate q.toNat z))],.one (.own ⟨s.nxt,[]⟩)⟩)
def xS (b c:Vb):Int:=min (c.m - c.l) (b.m - b.l)
def HM {α:Type} (xs:List α) (l:Int) (cnt:Int):List α:=(xs.take (l+cnt).toNat).drop l.toNat
def YC (b c:Vb):Option Y:=(chk (0<=c.l/\0<=xS b c/\c.l+xS b c<=(b.r.xs.length:Int)/\0<=b.l/\b.l<=(b.r.xs.length:Int))).bind fun _=>match b.x with
 | false=>(chk (b.m<=(b.r.xs.length:Int))).bind fun _=>k ⟨[],[b.r.ent b.h],b.r.rest,[(b.h,.own (.sl b.r.E b.r.t) (EC b.r.xs b.l.toNat (HM b.r.xs c.l (xS b c))))],.one (.val (.int .i64 (xS b c)))⟩
 | true=>(Ov b.h s.env).bind fun q=>(chk (b.l+xS b c=q.2/\(b.r.xs.length:Int)<=q.2)).bind fun _=>k ⟨[],[b.r.ent b.h],b.r.rest,[(q.1,.own (.sl b.r.E b.r.t) (EC b.r.xs b.l.toNat (HM b.r.xs c.l (xS b c))))],.one (.val (.int .i64 (xS b c)))⟩
def YD (b c:Vb):Option Y:=(oJ (.sl c.r.E c.r.t) (.sl b.r.E b.r.t) c.r.xs).bind fun ys=>(chk (0<=c.l/\0<=xS b c/\c.l+xS b c<=(ys.length:Int)/\0<=b.l/\b.l<=(b.r.xs.length:Int)/\b.m<=(b.r.xs.length:Int))).bind fun _ =>
 k ⟨[c.r.ent c.h],[b.r.ent b.h],c.r.rest,[(b.h,.own (.sl b.r.E b.r.t) (EC b.r.xs b.l.toNat (HM ys c.l (xS b c))))],.one (.val (.int .i64 (xS b c)))⟩
def Ox (T:TypeId) (x y:Operand):Option Y:=(td tt T).bind fun d=>d.el.bind fun E=>(td tt E).bind fun e=>(QP s x).bind fun b=>(QP s y).bind fun c=>bO (Nat.beq e.n b.k&&Nat.beq c.k b.k&&Nat.beq b.r.E E&&b.r.t.sh) (match Hdr.beq c.h b.h with
 | true=>YC s k b c
 | false=>(Yz s b.r.rest y).bind fun c=>bO (Nat.beq c.k b.k) (YD k b c))
def Wk (x y:Operand):Option Y:=match opd s x with
 | some (.one (.own h))=>(rowOf h s.chs).bind fun r=>(Yz s r.rest y).bind fun c=>(chk (0<r.xs.length/\c.l<c.m)).bind fun _=>k ⟨[r.ent h,c.r.ent c.h],[],c.r.rest,[],.one (.val (.bool false))⟩
 | _=>none
end
section
variable {Y:Type} {tt:TT} {s:Sg} {k:Res->Option Y} {P:Program} {w0:World} {o:Oper} {res:Y} {x y:Operand}
theorem RT {b:BinOp} {t u:TypeId} (f:o.op= .binOp b t x y u) (h:Wj s k b x y=some res):Oks P w0 s o k res:=by
 unfold Wj at h;split at h
 ·rename_i m g c e d;have ⟨a,h⟩:=ai h;exact lA h rfl fun J θ i=>vd f (aF e) (aF d) a rfl
 grind
theorem LP (q:TTok P tt) {T:TypeId} {hi:Operand} (N:o.op= .slice T x none (some hi) none) (h:Ow tt s k T x hi=some res):Oks P w0 s o k res:=by
 have ⟨d,M,h⟩:=bind_some h;have ⟨S,H,h⟩:=bind_some h;have ⟨e,E,h⟩:=bind_some h;split at h
 ·rename_i p Q;have ⟨r,B,h⟩:=bind_some h;have ⟨R,h⟩:=ai h;have ⟨m,O,h⟩:=bind_some h;have ⟨c,G,h⟩:=bind_some h;have ⟨u,F,h⟩:=bind_some h;have ⟨U,z⟩:=bE F;refine ⟨_,h,Ou B (fun _=>rfl) fun J θ L=>fun w C n=>?_⟩;have b:St J w0 w (Ch.own (aw r.E r.t.rep) [hv θ p] r.xs::C):=n;have a:=AS G L.env;have ⟨X,i,t,e3⟩:=xR b;rw[a] at i t
  have:=Dg (P:=P) (I:=J) (w0:=w0) (ev:=evL (envL θ s)) (lo:=none) (hi:=some hi) (ml:=none) (mh:=some m) ((q.get M).el _ H) (q.get E).ti N ((aF (θ:=θ) Q).trans i) trivial (oP O θ) t (Int.le_refl _) (by grind) z w (toCh P θ (r.ent p)::C) n
  refine this.imp fun v w' j=>⟨?_,j.2⟩
  have D:=AP (k:=r.t.size) b;rcases D with ⟨f,-,K,-,-⟩ | ⟨g,l,A,V,f,-,-⟩
  ·have W:c=0:=by rw[f] at a;exact a.symm
   refine .inl ⟨f,?_,K,rfl,by omega⟩;grind[sliced]
  ·rw[f] at i⊢
   injection i with f1 f2 Z
   refine .inr ⟨g,l,A,0,rfl,?_,Int.le_refl _,by omega,by omega,by omega,Nat.zero_le _,.inr (by simp)⟩;grind[sliced,Addr.add_mid]
 grind
theorem RU (hT:TTok P tt) {T U:TypeId} (ho:o.op= .call { callee:=.builtin .append,args:= #[x,y],argTypes:= #[T,U] }) (h:YB tt s k T U x y=some res):Oks P w0 s o k res:=by
 obtain ⟨d,hd,h⟩:=bind_some h;obtain ⟨E,hE,h⟩:=bind_some h;obtain ⟨e,he,h⟩:=bind_some h;obtain ⟨r,hby,h⟩:=bind_some h;obtain ⟨f,hf',h⟩:=bind_some h;obtain ⟨ik,hik,h⟩:=bind_some h;obtain ⟨b,hb,h⟩:=bind_some h;obtain ⟨q,hq,h⟩:=bind_some h;obtain ⟨hn,h⟩:=ai h;simp only[aj] at hn;obtain ⟨⟨⟨⟨n1,n3⟩,n4⟩,n5⟩,n6⟩:=hn;have n1:e.n=b.k:=al n1;have n3:b.r.E=E:=al n3;obtain ⟨z,hz,h⟩:=bind_some h;obtain ⟨c,hc,h⟩:=bind_some h;obtain ⟨u,hk',h⟩:=bind_some h;obtain ⟨c1,c2,c3,c4,c5⟩:=bE hk';obtain ⟨hr,hk,hvw⟩:=rp (P:=P) (w0:=w0) hb;obtain ⟨hp,-⟩:=bF hr;obtain ⟨kn,hkn⟩:=Option.isSome_iff_exists.1 n5;have W:P.underlying U=some (.int kn):=(hT.get hf').ik (some kn) (by grind);have hdk:=hT.get hd;have R:=hT.get he;obtain ⟨l,hz1,hz2,L⟩:=R.zero r hby;have G:l.cells.size=e.n:=by rw[hz2,List.size_toArray,wi,R.sz]
 have O:P.underlying T=some (.slice b.r.E):=(hdk.el E hE).trans (by rw[n3]);have B:TZ P b.r.E l e.n r:=by rw[n3];exact hz1
 have hzr: ∀J,b.r.t.rep.rd J l.cells.toList z:=fun J=>by grind[JY]
 have hnp:0<e.n:=by rw[n1,hk];exact Ty.size_pos _
 have hR:b.r.t.rep.size=e.n:=b.r.t.rep_size.trans (hk.symm.trans n1.symm);refine ⟨_,h,good_row (rs:=[b.r.ent b.h]) (ns:=[]) (oN hp) fun J θ hf=>fun w C hs=>?_⟩;have p:St J w0 w (Ch.own (aw b.r.E b.r.t.rep) [hv θ b.h] b.r.xs::C):=hs;have h1:=hvw hf rfl p;have X:=AS hc hf.env;obtain ⟨ad,e1,e2,e3⟩:=xR p;have hxl:=(p.hd 0 rfl).2;have I:((q.toNat:Nat):Int)=q:=by omega
 have N:0<q.toNat:=by omega
 have M:(b.m.toNat+q.toNat)*r<=140737488355328:=by
  have:(((b.m.toNat+q.toNat)*r:Nat):Int)=(b.m+q)*r:=by
   rw[Int.natCast_mul,Int.natCast_add,I,show ((b.m.toNat:Nat):Int)=b.m from by obtain ⟨_,_,_,g1,g2⟩:=h1.hd;omega]
  omega
 have hbig1:b.m.toNat+q.toNat<=140737488355328:=by
  have:(b.m.toNat+q.toNat)*1<=(b.m.toNat+q.toNat)*r:=Nat.mul_le_mul_left _ L
  omega
 have hy:evL (envL θ s) y= .int .i64 (q.toNat:Nat):=by rw[I];exact oP hq θ
 have fin: ∀(old:List Value) (n:Nat),old.length=b.m.toNat*e.n->(∀(i:Nat) a,(b.r.xs.take b.m.toNat)[i]? =some a-> ∃c:List Value,c.length=e.n/\(∀j,j<e.n->old[i*e.n+j]? =c[j]?)/\b.r.t.rep.rd J c a)->b.m.toNat<=b.r.xs.length->b.m.toNat+q.toNat<=n->n<=maxLen->
   St J w0 (w.drew.alloc (.cells (old.toArray++Builtin.zeroCells l.cells q.toNat++Builtin.zeroCells l.cells (n - (b.m.toNat+q.toNat))) b.r.E)) ((Ch.own (Ty.sl b.r.E b.r.t).rep [.slice (some ⟨w.heap.size,0,none⟩) (b.m.toNat+q.toNat) n] (b.r.xs.take b.m.toNat++List.replicate q.toNat z):: [toCh P θ (b.r.ent b.h)])++C):=by
  intro old n hl hel H hcc hmx;have hA:=(p.drew).alloc (old++(Builtin.zeroCells l.cells q.toNat).toList++(Builtin.zeroCells l.cells (n - (b.m.toNat+q.toNat))).toList) b.r.E;have ea:(old++(Builtin.zeroCells l.cells q.toNat).toList++(Builtin.zeroCells l.cells (n - (b.m.toNat+q.toNat))).toList).toArray=old.toArray++Builtin.zeroCells l.cells q.toNat++Builtin.zeroCells l.cells (n - (b.m.toNat+q.toNat)):=by
   apply Array.ext';simp
  rw[ea] at hA;have D:(b.r.xs.take b.m.toNat++List.replicate q.toNat z).length=b.m.toNat+q.toNat:=by rw[az,aB,List.length_replicate];omega
  have hzl:(Builtin.zeroCells l.cells q.toNat).toList.length=q.toNat*e.n:=by rw[rk,G]
  have hzl2:(Builtin.zeroCells l.cells (n - (b.m.toNat+q.toNat))).toList.length=(n - (b.m.toNat+q.toNat))*e.n:=by rw[rk,G]
  have m1:b.m.toNat*e.n+q.toNat*e.n+(n - (b.m.toNat+q.toNat))*e.n=n*e.n:=by rw[<-Nat.add_mul,<-Nat.add_mul];congr 1;omega
  have:=LN (xs:=b.r.xs.take b.m.toNat++List.replicate q.toNat z) (Ty.cpy n4) (k:=e.n) hR (by omega) hmx (by grind) (by grind[lim]) (fun i a F=>by
   by_cases hi:i<b.m.toNat
   ·grind
   ·have hi2:i<b.m.toNat+q.toNat:=by rw[<-D];exact (List.getElem?_eq_some_iff.1 F).1
    rw[List.getElem?_append_right (by grind),aB,List.getElem?_replicate,if_pos (by omega)] at F;obtain rfl:=ae F;refine ⟨l.cells.toList,by omega,fun j S=>?_,hzr J⟩;have m2:b.m.toNat*e.n<=i*e.n:=Nat.mul_le_mul_right _ (by omega);have m3:i*e.n+e.n<=(b.m.toNat+q.toNat)*e.n:=by rw[<-Nat.succ_mul];exact Nat.mul_le_mul_right _ hi2
    have m4:(b.m.toNat+q.toNat)*e.n=b.m.toNat*e.n+q.toNat*e.n:=Nat.add_mul _ _ _;have m5:(i - b.m.toNat)*e.n=i*e.n - b.m.toNat*e.n:=Nat.sub_mul _ _ _;rw[List.getElem?_append_left (by grind),List.getElem?_append_right (by omega),hl,show i*e.n+j - b.m.toNat*e.n=(i - b.m.toNat)*e.n+j from by omega,<-G,wB (by omega) (by omega)]) hA
  rw[D] at this;exact this
 rcases h1 with ⟨q0,Z,g1,g2,g3⟩ | ⟨g,ofs,cp,x',q0,Z,q1,q2,q3,q4,q5,q6⟩
 ·have V:b.m.toNat=0:=by omega
  obtain ⟨info,hi',hzz,hsize,hbb⟩:=info_parts B;have t:=Lib.run_append_nil_zeros (P:=P) w T U o.type b.r.E info l .i64 kn O W hi' hzz q.toNat N (by omega) (by omega) (by grind);rw[rN ho Z hy t];refine ⟨trivial,?_⟩
  have:=fin [] (grownCap w q.toNat 0 b.r.E) (by grind) (fun i a F=>by grind) (by omega) (by rw[V,Nat.zero_add];exact grownCap_ge w _ _ _) (grownCap_le_maxLen w _ _ _ (by unfold maxLen;omega))
  rw[V,Nat.zero_add] at this;grind
 ·have K:b.l.toNat=0:=by omega
  have hx0:x'=0:=by rw[K,Nat.zero_mul] at q5;omega
  subst hx0;rw[K,Nat.sub_zero,Nat.sub_zero,Nat.add_zero] at Z;rw[q0] at X p;have hcp:cp=c:=X;obtain ⟨-,r1,r2,cur,r3,r4,hat⟩:=yS (k:=e.n) (Ty.sh_ok n4) hR p;have H:b.m.toNat<=b.r.xs.length:=by omega
  have A:=tN (cur:=cur) (ofs:=ofs) (k:=e.n) (j:=0) (m:=b.m.toNat) (cap:=cp) r4 (Nat.zero_le _) (Nat.le_trans H r1);rw[Nat.sub_zero] at A;obtain ⟨n,g1,g2,t⟩:=AQ (P:=P) (w:=w) (ty:=o.type) (a:=⟨g,ofs,none⟩) (i:=b.m.toNat) (cap:=cp) (q:=q.toNat) (old:=sH cur ofs e.n 0 b.m.toNat) O W B hnp N (by omega) M L A (fun j v S=>by
   have Q:=(List.getElem?_eq_some_iff.1 S).1;rw[A] at Q;rw[mB (by simpa using Q)] at S;grind[Addr.add_mid,xP])
  rw[rN ho Z hy t];refine ⟨trivial,fin _ n A (fun i a F=>?_) H g1 g2⟩;have hi:i<b.m.toNat:=by
   have:=(List.getElem?_eq_some_iff.1 F).1
   rw[aB] at this;omega
  rw[List.getElem?_take,if_pos hi] at F;obtain ⟨c,d1,d2,d3⟩:=hat i a F;refine ⟨c,d1,fun j S=>?_,d3⟩;have m2:i*e.n+e.n<=b.m.toNat*e.n:=by rw[<-Nat.succ_mul];exact Nat.mul_le_mul_right _ hi
  rw[mB (by rw[Nat.sub_zero];omega),<-d2 j S];simp
theorem ED {α:Type} {xs:List α} {l cnt:Int} (b:0<=l) (h1:0<=cnt) (a:l+cnt<=(xs.length:Int)):(HM xs l cnt).length=cnt.toNat:=by
 grind[HM,bP,aB]
theorem Gt {I:Hp} {w:World} {C:List Ch} {α:Type} {E:TypeId} {R:Rep α} (e:R.Sh) {k:Nat} (K:0<k) (p:R.size=k) {v u:Value} {xs:List α} {l m cnt:Int} (c:St I w0 w (Ch.own (aw E R) [v] xs::C)) (hv:Vw u v k xs.length l m) (h1:0<=cnt) (S:l+cnt<=(xs.length:Int)) (L:cnt<=m - l) :
  ∃ao sc news,u= .slice ao (m.toNat - l.toNat) sc/\RdCells R I k news (HM xs l cnt)/\(news= [] \/ ∃a,ao=some a/\ ∀j v,news[j]? =some v->w.cell? (a.add j)=some v):=by
 rcases hv with ⟨f,h,t,H,D⟩ | ⟨g,ofs,n,F,f,h,U,A,V,J,O,T⟩
 ·have z:=List.eq_nil_of_length_eq_zero t;subst z;refine ⟨none,0,[],by grind,⟨by simp[HM],fun i y r=>by simp[HM] at r⟩,.inl rfl⟩
 ·rw[f] at c;obtain ⟨-,q,B,cur,G,N,d⟩:=yS (k:=k) e p c;have W:xs.length*k<=n*k:=Nat.mul_le_mul_right _ q;have b:=Gq (R:=R) (I:=I) (xs:=xs) (cur:=cur) (ofs:=ofs) (k:=k) (j:=l.toNat) (m:=(l+cnt).toNat) (by omega) (by omega) (by omega) d;refine ⟨_,_,sH cur ofs k l.toNat (l+cnt).toNat,h,b,?_⟩;by_cases M:cnt=0
  ·left
   have:=b.1
   simp_all
  ·right;refine ⟨_,rfl,fun j v Q=>?_⟩;grind[sH,tN,mB,Addr.add_mid,Nat.add_assoc,xP]
theorem Gu {I:Hp} {ev:Operand->Value} {w:World} {C:List Ch} {α:Type} {E T U:TypeId} {R:Rep α} (D:R.Sh) (hC:Cpy R R) {k:Nat} {agg:Bool} (K:P.underlying T=some (.slice E)) (Q:TI P E agg k) (W:0<k) (X:R.size=k) {v V:Value} {xs ys:List α} {l m d f:Int} {ao:Option Addr} {H:Nat} {news:List Value}
  (ho:o.op= .call { callee:=.builtin .copy,args:= #[x,y],argTypes:= #[T,U] }) (hx:ev x=V) (hy:ev y= .slice ao (f.toNat - d.toNat) H) (t:St I w0 w (Ch.own (aw E R) [v] xs::C)) (hv:Vw V v k xs.length l m) (M:RdCells R I k news ys) (z:news= [] \/ ∃a,ao=some a/\ ∀j v,news[j]? =some v->w.cell? (a.add j)=some v)
  (S:0<=d) (h02:d<=f) (hys:(ys.length:Int)=min (f - d) (m - l)) (hl:l<=(xs.length:Int)) :
  Upon P (fun r w'=>r= .int .i64 (min (f - d) (m - l))/\ ∃u',(∀a b c,v= .slice a b c->u'= .slice a (EC xs l.toNat ys).length c)/\St I w0 w' (Ch.own (aw E R) [u'] (EC xs l.toNat ys)::C)) ((execOp ev o).run P w):=by
 have F:((Nat.min (f.toNat - d.toNat) (m.toNat - l.toNat):Nat):Int)=min (f - d) (m - l):=by
  have ⟨_,_,_,g1,g2⟩:=hv.hd;show ((min (f.toNat - d.toNat) (m.toNat - l.toNat):Nat):Int)=_;omega
 have A:Nat.min (f.toNat - d.toNat) (m.toNat - l.toNat)=ys.length:=by omega
 rcases hv with ⟨Z,N,g1,g2,g3⟩ | ⟨g,i,G,x',Z,N,q1,q2,q3,q4,q5,L⟩
 ·have hxx:=List.eq_nil_of_length_eq_zero g1;have J:ys= []:=List.eq_nil_of_length_eq_zero (by omega);have h:(Builtin.copy_ #[T,U] o.type #[.slice none 0 0,.slice ao (f.toNat - d.toNat) H]).run P w= .ok (goInt 0) w:=by
   have B:(f.toNat - d.toNat).min 0=0:=Nat.min_zero _;cases ao with
   | none=>simp[Builtin.copy_,run_underlying K,Builtin.lenOf,TI.size Q w,Builtin.firstCells,B]
   | some a =>
    have S:(loadCells a 0).run P w= .ok #[] w:=run_loadCells_list (P:=P) w a [] (by simp);simp[Builtin.copy_,run_underlying K,Builtin.lenOf,TI.size Q w,Builtin.firstCells,B,S]
  rw[wC ho (hx.trans N) hy h];refine ⟨?_,v,fun a b c e=>?_,?_⟩
  ·rw[<-F,A,J];rfl
  ·grind[EC]
  grind[EC]
 ·rw[Z] at t⊢;obtain ⟨-,r1,r2,cur,r3,r4,hat⟩:=yS (k:=k) D X t;have n:l.toNat+ys.length<=G:=by omega
  have m1:(l.toNat+ys.length)*k<=G*k:=Nat.mul_le_mul_right _ n;have hcl:(cur.toList.drop i).length=cur.size - i:=by grind
  have hnl:=M.1;have u:x'=l.toNat*k\/ys= []:=by
   rcases L with L | L
   ·right;exact List.eq_nil_of_length_eq_zero (by omega)
   ·omega
  have h:=LM (P:=P) (w:=w) (dT:=T) (sT:=U) (ty:=o.type) (k:=k) (g:=g) (o:=i+x') (dLen:=m.toNat - l.toNat) (dCap:=G - l.toNat) (sLen:=f.toNat - d.toNat) (sCap:=H) (ao:=ao) (cs:=news) K (TI.size Q w) (by grind) z (fun q hq=>by
   grind[Nat.add_assoc,xP,List.getElem?_eq_getElem]) (fun q _=>by simp[World.frozen?,r3]) (M.one W)
  rw[wC ho (hx.trans N) hy h];refine ⟨?_,.slice (some ⟨g,i,none⟩) (EC xs l.toNat ys).length G,fun a b c e=>?_,?_⟩
  ·simp_all[goInt,Nat.min]
  ·grind
  ·have:=RR D hC W X (p:=l.toNat) M (by omega) n (by grind[lim,maxLen]) t
   rcases u with u | u
   ·grind
   ·have O:news= []:=List.eq_nil_of_length_eq_zero (by grind);rw[O] at this⊢;exact this
theorem qw {b c:Vb} :xS b c<=c.m - c.l/\xS b c<=b.m - b.l:=⟨Int.min_le_left _ _,Int.min_le_right _ _⟩
theorem Oy (hT:TTok P tt) {T U:TypeId} (ho:o.op= .call { callee:=.builtin .copy,args:= #[x,y],argTypes:= #[T,U] }) (h:Ox tt s k T x y=some res):Oks P w0 s o k res:=by
 have ⟨d,hd,h⟩:=bind_some h;have ⟨E,hE,h⟩:=bind_some h;have ⟨e,he,h⟩:=bind_some h;have ⟨b,hb,h⟩:=bind_some h;have ⟨c,hc,h⟩:=bind_some h;have ⟨hn,h⟩:=ai h;simp only[aj] at hn;have ⟨⟨⟨n1,n2⟩,n3⟩,R⟩:=hn;have n1:e.n=b.k:=al n1;have n2:c.k=b.k:=al n2;have n3:b.r.E=E:=al n3;have ⟨hr,hk,hvw⟩:=rp (P:=P) (w0:=w0) hb;obtain ⟨hp,-⟩:=bF hr;have Z:P.underlying T=some (.slice b.r.E):=((hT.get hd).el E hE).trans (by rw[n3]);have X:TI P b.r.E e.agg b.k:=by rw[n3,<-n1];exact (hT.get he).ti
 have D:0<b.k:=by rw[hk];exact Ty.size_pos _
 have hR:b.r.t.rep.size=b.k:=b.r.t.rep_size.trans hk.symm;split at h
 ·rename_i hbeq;have hh:=Hdr.beq_eq hbeq;have ⟨B,hk2,n⟩:=rp (P:=P) (w0:=w0) hc;have hcr:c.r=b.r:=by
   rw[hh] at B;exact ae (B.symm.trans hr)
  have ⟨u,M,h⟩:=bind_some h;have ⟨Q,V,S,c4,c5⟩:=bE M;have key: ∀J θ,Fine P w0 J θ s-> ∀w C,St J w0 w (toCh P θ (b.r.ent b.h)::C)->Upon P (fun r w'=>r= .int .i64 (xS b c)/\ ∃O,(∀a q z,hv θ b.h= .slice a q z->O= .slice a (EC b.r.xs b.l.toNat (HM b.r.xs c.l (xS b c))).length z)/\St J w0 w' (Ch.own (aw b.r.E b.r.t.rep) [O] (EC b.r.xs b.l.toNat (HM b.r.xs c.l (xS b c)))::C)) ((execOp (evL (envL θ s)) o).run P w):=by
   intro J θ l w C j;have i:St J w0 w (Ch.own (aw b.r.E b.r.t.rep) [hv θ b.h] b.r.xs::C):=j;have h1:=hvw l rfl i;have h2:Vw (evL (envL θ s) y) (hv θ b.h) b.k b.r.xs.length c.l c.m:=by
    have:=n l rfl (xs:=c.r.xs) (by rw[hcr,hh];omega)
    grind
   have ⟨ao,sc,news,hy,K,m⟩:=Gt (Ty.sh_ok R) D hR i h2 V S (qw).1;have F:=ED (xs:=b.r.xs) Q V S;exact Gu (P:=P) (w0:=w0) (o:=o) (Ty.sh_ok R) (Ty.cpy R) Z X D hR ho rfl hy i h1 K m Q (by have:=(qw (b:=b) (c:=c)).1;omega) (by grind[xS]) c5
  have hll:=ED (xs:=b.r.xs) Q V S;have H:=vn (xs:=b.r.xs) (ys:=HM b.r.xs c.l (xS b c)) (p:=b.l.toNat) (by omega);have hcf:=(qw (b:=b) (c:=c)).2;split at h
  ·have ⟨u2,I,h⟩:=bind_some h;have d1:=bE I;refine ⟨_,h,EA (fact:=fun _ v=>v= .int .i64 (xS b c)) hr (fun J θ l=>fun w C j=>?_) (fun J θ u l t hlt=>⟨rfl,t.symm⟩)⟩;refine (key J θ l w C j).imp fun r w' f=>⟨f.1,?_⟩
   obtain ⟨-,O,G,N⟩:=f;have i:St J w0 w (Ch.own (aw b.r.E b.r.t.rep) [hv θ b.h] b.r.xs::C):=j;have ⟨ad,f1,f2,f3⟩:=xR i;grind
  ·have ⟨q,hq,h⟩:=bind_some h;have ⟨u2,I,h⟩:=bind_some h;have ⟨d1,d2⟩:=bE I;refine ⟨_,h,Cx hp,aU rfl,fun J θ l=>?_⟩;have ⟨t1,k0,N0,t2⟩:=J5 hq l.env;refine OpT.weak (fact:=fun v=>v= .int .i64 (xS b c)) (gv:=fun _=>[Ch.own (aw b.r.E b.r.t.rep) [hv θ q.1] (EC b.r.xs b.l.toNat (HM b.r.xs c.l (xS b c)))]) (fun w C j=>?_) (fun u t=>⟨rfl,t.symm,fun g hg=>?_⟩) (fun u t=>?_)
   ·refine (key J θ l w C j).imp fun r w' f=>⟨f.1,?_⟩
    obtain ⟨-,O,G,N⟩:=f;have i:St J w0 w (Ch.own (aw b.r.E b.r.t.rep) [hv θ b.h] b.r.xs::C):=j;have ⟨ad,f1,f2,f3⟩:=xR i
    have:=G _ _ _ f1
    have F:(EC b.r.xs b.l.toNat (HM b.r.xs c.l (xS b c))).length=q.2.toNat:=by rw[H];omega
    have hu':O=hv θ q.1:=by
     rw[this,F];rcases t2 with ⟨q0,t,g1,g2,g3⟩ | ⟨g,ofs,cp,x',q0,t,q1,q2,q3,q4,q5,q6⟩
     ·grind
     ·grind
    grind
   ·obtain rfl:=ak hg;exact ⟨aZ t1,ax _,trivial⟩
   ·show [Ch.own _ [hv θ q.1] _] = [Ch.own _ [hv (upd θ s.nxt u) q.1] _];rw[show hv (upd θ s.nxt u) q.1=hv θ q.1 from ba Same.upd t1]
    rfl
 ·have ⟨c,hc',h⟩:=bind_some h;have ⟨hkk,h⟩:=ai h;have n2:c.k=b.k:=al hkk;obtain ⟨B,hk2,n⟩:=Io (P:=P) (w0:=w0) hc';obtain ⟨hp2,-⟩:=bF B;obtain ⟨ys,hys,h⟩:=bind_some h;obtain ⟨u,M,h⟩:=bind_some h;obtain ⟨Q,V,S,c4,c5,c6⟩:=bE M;have W:=xK (h:=c.h) hys;have hyl:c.r.xs.length=ys.length:=by
   obtain ⟨G,N⟩:=oK hys;obtain ⟨x1,x2,x3,x4,x5,ver,E2,t2,xs2,rest2⟩:=c;simp only at G N⊢
   injection G with e3 e4
   subst e3;subst e4;rw[N]
  have hll:=ED (xs:=ys) Q V S;have H:=vn (xs:=b.r.xs) (ys:=HM ys c.l (xS b c)) (p:=b.l.toNat) (by omega);have hcf:=(qw (b:=b) (c:=c)).2;have L:s.chs.Perm ([c.r.ent c.h] ++ [b.r.ent b.h] ++c.r.rest):=by
   refine hp.trans ((hp2.cons _).trans ?_);exact List.Perm.swap _ _ _
  refine ⟨_,h,L,aU rfl,fun J θ l=>?_⟩;have hok:=kY l hp;refine OpT.weak (fact:=fun v=>v= .int .i64 (xS b c)) (gv:=fun _=>[toCh P θ (c.r.ent c.h),Ch.own (aw b.r.E b.r.t.rep) [hv θ b.h] (EC b.r.xs b.l.toNat (HM ys c.l (xS b c)))]) (fun w C j=>?_) (fun u t=>⟨rfl,t.symm,fun g hg=>?_⟩) (fun u t=>?_)
  ·have j:St J w0 w (toCh P θ (c.r.ent c.h)::Ch.own (aw b.r.E b.r.t.rep) [hv θ b.h] b.r.xs::C):=j;have A:=j.perm (List.Perm.swap _ _ _);have h1:=hvw l rfl A;have h2:=n l rfl (show St J w0 w (Ch.own (aw c.r.E c.r.t.rep) [hv θ c.h] c.r.xs::_) from j);rw[hyl,n2] at h2;rw[W] at j A⊢;have hs2:St J w0 w (Ch.own (aw b.r.E b.r.t.rep) [hv θ c.h] ys::Ch.own (aw b.r.E b.r.t.rep) [hv θ b.h] b.r.xs::C):=j;obtain ⟨ao,sc,news,hy,K,m⟩:=Gt (Ty.sh_ok R) D hR hs2 h2 V S (qw).1
   have:=Gu (P:=P) (w0:=w0) (o:=o) (Ty.sh_ok R) (Ty.cpy R) Z X D hR ho rfl hy A h1 K m Q (by have:=(qw (b:=b) (c:=c)).1;omega) (by grind[xS]) c5
   refine this.imp fun r w' f=>⟨f.1,?_⟩
   obtain ⟨-,O,G,N⟩:=f;obtain ⟨ad,f1,f2,f3⟩:=xR A
   have:=G _ _ _ f1
   have hu':O=hv θ b.h:=by
    rw[this,H,show max b.r.xs.length (b.l.toNat+(HM ys c.l (xS b c)).length)=b.r.xs.length from by omega];exact f1.symm
   rw[hu'] at N;exact N.perm (List.Perm.swap _ _ _)
  ·obtain rfl:=ak hg;exact ⟨aZ hok.1,ax _,trivial⟩
  ·show [toCh P θ (c.r.ent c.h),Ch.own _ [hv θ b.h] _] = [toCh P θ (c.r.ent c.h),Ch.own _ [hv (upd θ s.nxt u) b.h] _];rw[show hv (upd θ s.nxt u) b.h=hv θ b.h from ba Same.upd hok.1]
   rfl
theorem Gv {α:Type} {E:TypeId} {R:Rep α} {I:Hp} {w0 w:World} {C:List Ch} {g ofs n cap:Nat} {xs:List α} (h:St I w0 w (Ch.own (aw E R) [.slice (some ⟨g,ofs,none⟩) n cap] xs::C)): ∃cur,w.heap[g]? =some (.cells cur E (0,0))/\ofs+cap*R.size<=cur.size/\n=xs.length/\n<=cap/\ ∃F,Sep I C w F/\g∉F:=by
 obtain ⟨a,d,F,⟨G,K,rfl,⟨f,e⟩,i⟩,b,c⟩:=h;grind
theorem RV {q:FuncId} (B:abH P q) {U:Array TypeId} (ho:o.op= .call { callee:=.value (.func q),args:= #[x,y],argTypes:=U }) (h:Wk s k x y=some res):Oks P w0 s o k res:=by
 unfold Wk at h;split at h
 ·rename_i L hx;have ⟨r,S,h⟩:=bind_some h;have ⟨c,hc,h⟩:=bind_some h;have ⟨u,Z,h⟩:=bind_some h;have ⟨c1,c2⟩:=bE Z;obtain ⟨hp,-⟩:=bF S;have ⟨H,hk2,n⟩:=Io (P:=P) (w0:=w0) hc;obtain ⟨F,-⟩:=bF H;have i:=hp.trans (F.cons _);refine ⟨_,h,i,aU rfl,fun J θ X=>OpT.weak (fact:=(· = .bool false)) (gv:=fun _=>[toCh P θ (r.ent L),toCh P θ (c.r.ent c.h)]) (fun w C N=>?_) (fun u m=>⟨rfl,m.symm,fun g T=>by cases T⟩) (fun u m=>rfl)⟩;have a:St J w0 w (Ch.own (aw r.E r.t.rep) [hv θ L] r.xs::Ch.own (aw c.r.E c.r.t.rep) [hv θ c.h] c.r.xs::C):=N;have d:=a.perm (List.Perm.swap _ _ _);have h2:=n X rfl d;have h1:=AP (k:=1) a;rcases h1 with ⟨t,-,g1,-,-⟩ | ⟨g,G,R,x',t,-,-⟩
  ·omega
  rcases h2 with ⟨Q,m,e1,e2,e3⟩ | ⟨O,p,f,x2,Q,m,p1,p2,p3,p4,p5,p6⟩
  ·omega
  rw[t] at a;rw[t,Q] at d;obtain ⟨j,a1,a2,a3,a4,-⟩:=Gv a;have ⟨b,W,b2,b3,b4,FB,b5,V⟩:=Gv d;have A:g≠O:=by
   intro e;obtain ⟨GA,KA,hFB,v,-⟩:=b5
   have:g∈GA:=by
    obtain ⟨-,v⟩:=v;rcases v with ⟨E,-,-⟩ | ⟨g',K,M,cur,K1,E,-,-,-,-,rfl,-⟩
    ·grind
    ·grind
   exact V (by grind)
  have I:1<=c.r.t.rep.size:=by rw[Ty.rep_size];exact Ty.size_pos _
  have z:0<b.size:=by
   have:f*1<=f*c.r.t.rep.size:=Nat.mul_le_mul_left _ I
   omega
  have l:=B w g O G (p+x2) r.xs.length (c.m.toNat - c.l.toNat) R (f - c.l.toNat) j b _ _ A a1 W z;have D:=(aF (θ:=θ) hx).trans t;have he:(execOp (evL (envL θ s)) o).run P w= .ok (.value (.bool false)) w:=by
   simp[execOp,ho,resolve,show evL (envL θ s) (.func q)= .func (.func q) #[] #[] from rfl,Deferred.ofValue,Sem.run_bind,Sem.run_pure,Result.andThen_ok,invoke,List.map_toArray,List.map_cons,List.map_nil,D,m];exact l
  rw[he];exact ⟨rfl,N⟩
 grind
end
end R
namespace R
open Go.RowKit
open D
structure PartA where
 h:Hdr
 ver:Nat
 E:TypeId
 t:Ty
 xs:List t.den
 lo:Nat
 hi:Nat
def RW:AV->Option PartA
 | .sub h ver E t xs l=>some ⟨h,ver,E,t,xs,l.toNat,xs.length⟩
 | .pre h ver E t xs l=>some ⟨h,ver,E,t,xs,0,l.toNat⟩
 | _=>none
section
variable {Y:Type} (tt:TT) (s:Sg) (k:Res->Option Y)
def aad (E:TypeId) (b:Nat) (t:Ty) (xs:List t.den) (nsx rest:List Ent) (q:PartA):Option Y:=
 (rowOf q.h rest).bind fun r=>bO (Nat.beq r.ver q.ver&&(t.sh&&t.dp)) ((oJ (.sl r.E r.t) (.sl E t) r.xs).bind fun ys=>(bM b xs ((ys.take q.hi).drop q.lo)).bind fun zs=>k ⟨[r.ent q.h],nsx,r.rest,[(⟨s.nxt,[]⟩,.own (.sl E t) zs)],.one (.own ⟨s.nxt,[]⟩)⟩)
def Wl (T:TypeId) (x y:Operand):Option Y:=(td tt T).bind fun d=>d.el.bind fun E=>(td tt E).bind fun e=>e.bytes.bind fun b=>(opd s y).bind fun yv=>(RW yv).bind fun q=>match opd s x with
 | some (.one (.own h))=>(rowOf h s.chs).bind fun r=>bO (Nat.beq r.E E&&Nat.beq r.t.size e.n) (aad s k r.E b r.t r.xs [r.ent h] r.rest q)
 | some (.one (.val v))=>bO (isNil v&&Nat.beq q.t.size e.n) (aad s k E b q.t [] [] s.chs q)
 | _=>none
end
section
variable {Y:Type} {tt:TT} {an:List (Nat×Ty)} {s:Sg} {k:Res->Option Y} {P:Program} {w0:World} {o:Oper} {res:Y} {x y:Operand}
theorem RX {J:Hp} {θ:Th} {n:Nat} {chs:List Ent} {v:AV} {q:PartA} (h:RW v=some q) (a:v.ok P w0 J θ n chs):v.v θ=rL (hv θ q.h) q.lo q.hi q.t.size/\q.lo<=q.hi/\q.hi<=q.xs.length/\q.h.id<n/\Mem chs n q.h q.ver (.own (.sl q.E q.t) q.xs):=by
 unfold RW at h;split at h
 ·rename_i g c E t b l;obtain rfl:=ae h;obtain ⟨d,f,e⟩:=a;exact ⟨rfl,by show l.toNat<=b.length;omega,aL _,d,e⟩
 ·rename_i g c E t b l;obtain rfl:=ae h;obtain ⟨d,f,e⟩:=a;exact ⟨rfl,Nat.zero_le _,by show l.toNat<=b.length;omega,d,e⟩
 ·cases h
theorem Gw {I:Hp} {ev:Operand->Value} {α:Type} {E T:TypeId} {R:Rep α} {z:Value} {n b:Nat} {x y:Operand} {s u:Value} {xs ys zs:List α} {lo hi:Nat} (h:bM b xs ((ys.take hi).drop lo)=some zs) (h1:lo<=hi) (m:hi<=ys.length) (p:R.Dp) (i:Cpy R R) (j:P.underlying T=some (.slice E)) (l:TZ P E z n b) (e:z.cells.size=n) (f:0<n) (d:R.size=n) (c:1<=b) (q:o.op= .call { callee:=.builtin .append,args:= #[x,y],argTypes:= #[T,T] }) (t:ev x=s) (r:ev y=rL u lo hi n) :
  OpT P I w0 o ev [Ch.own (aw E R) [s] xs,Ch.own (aw E R) [u] ys] (fun _=>True) (fun v=>[Ch.own (aw E R) [v] zs,Ch.own (aw E R) [u] ys]):=by
 intro w C g;have key:=wu (P:=P) (I:=I) (w0:=w0) (o:=o) (ev:=ev) (ls:=[Ch.own (aw E R) [u] ys]) (rn:=[Ch.own (aw E R) [s] xs]) (fact:=fun _=>True) (gv:=fun v=>[Ch.own (aw E R) [v] zs]) (fun v=>⟨Ap (D4 p),trivial⟩) (fun A B a _=>vf h i d (Jx (a _ _ _ (List.mem_singleton.2 rfl)) h1 m d) j l e f d c q t r) w C (g.perm ((List.Perm.swap _ _ _).append_right C));exact key.imp fun v w hv=>⟨hv.1,hv.2.perm ((List.Perm.swap _ _ _).append_right C)⟩
theorem RY {q:PartA} {nsx rest:List Ent} {r:Row} {J:Hp} {θ:Th} {n:Nat} (hp:s.chs.Perm (nsx++rest)) (b:rowOf q.h rest=some r) (hv:r.ver=q.ver) (c:Mem s.chs n q.h q.ver (.own (.sl q.E q.t) q.xs)):Chk.own (.sl r.E r.t) r.xs=Chk.own (.sl q.E q.t) q.xs:=by
 obtain ⟨a,-⟩:=bF b;exact c.2 (r.ent q.h) (hp.mem_iff.2 (bq _ (a.mem_iff.2 (by simp)))) _ ⟨rfl,.inl ⟨hv,rfl⟩⟩
theorem Oz {T E:TypeId} {z:Value} {n b:Nat} {t:Ty} {xs:List t.den} {nsx rest:List Ent} {q:PartA} {H:AV} (W:RW H=some q) (hp:s.chs.Perm (nsx++rest)) (X:P.underlying T=some (.slice E)) (hE:TZ P E z n b) (D:z.cells.size=n) (U:0<n) (O:t.size=n) (p:1<=b) (ho:o.op= .call { callee:=.builtin .append,args:= #[x,y],argTypes:= #[T,T] }) (N:opd s y=some H)
  (l: ∀J θ,Fine P w0 J θ s-> ∃v,evL (envL θ s) x=v/\ ∀(rn:List Ch) (fact:Value->Prop) (L:Value->List Ch),OpT P J w0 o (evL (envL θ s)) (Ch.own (aw E t.rep) [v] xs::rn) fact L->OpT P J w0 o (evL (envL θ s)) (nsx.map (toCh P θ)++rn) fact L)
  (h:aad s k E b t xs nsx rest q=some res):Oks P w0 s o k res:=by
 unfold aad at h;obtain ⟨r,F,h⟩:=bind_some h;obtain ⟨K,h⟩:=ai h;rw[aj,aj] at K;obtain ⟨e,m,A⟩:=K;have e:=al e;obtain ⟨B,j,h⟩:=bind_some h;obtain ⟨zs,d,h⟩:=bind_some h;obtain ⟨w,-⟩:=bF F;have u:=xK (h:=q.h) j;refine ⟨_,h,good_row (hp.trans ((w.append_left nsx).trans List.perm_middle)) fun J θ M=>?_⟩;obtain ⟨v,g,l⟩:=l J θ M;obtain ⟨V,p2,Z,-,p5⟩:=RX W (bN M N);have c:=RY (J:=J) (θ:=θ) hp F e p5;have a:r.ent q.h=(q.h,r.ver,.own (.sl q.E q.t) q.xs):=by
  show (q.h,r.ver,Chk.own (.sl r.E r.t) r.xs)=_;rw[c]
 rw[u] at a;have f:Chk.own (.sl E t) B=Chk.own (.sl q.E q.t) q.xs:=(Prod.mk.inj (Prod.mk.inj a).2).2;have i:q.t.size=n/\q.xs.length=B.length:=by
  clear g l h j d a u c;obtain ⟨qh,G,Q,qt,C,S,qhi⟩:=q;simp only at f;have e1:Ty.sl E t=Ty.sl Q qt:=(Chk.own.inj f).1;obtain ⟨rfl,rfl⟩:=Ty.sl.inj e1;have e2:B=C:=eq_of_heq (Chk.own.inj f).2;exact ⟨O,by rw[e2]⟩
 rw[u]
 have:=Gw (P:=P) (I:=J) (w0:=w0) (R:=t.rep) d p2 (by rw[<-i.2];exact Z) (Ty.dp_ok A) (Ty.cpy m) X hE D U (t.rep_size.trans O) p ho g ((aF (θ:=θ) N).trans (by rw[V,i.1]))
 exact OpT.permN (List.perm_append_comm (l₁:=[_])) (l _ _ _ this)
theorem RZ (u:TTok P tt) {T:TypeId} (A:o.op= .call { callee:=.builtin .append,args:= #[x,y],argTypes:= #[T,T] }) (h:Wl tt s k T x y=some res):Oks P w0 s o k res:=by
 obtain ⟨d,K,h⟩:=bind_some h;obtain ⟨E,w,h⟩:=bind_some h;obtain ⟨e,F,h⟩:=bind_some h;obtain ⟨b,C,h⟩:=bind_some h;obtain ⟨L,B,h⟩:=bind_some h;obtain ⟨q,t,h⟩:=bind_some h;have j:=u.get K;have i:=u.get F;obtain ⟨z,l,n,g⟩:=i.zero b C;have m:z.cells.size=e.n:=by rw[n,List.size_toArray,wi,i.sz]
 split at h
 ·rename_i G p;obtain ⟨r,D,h⟩:=bind_some h;obtain ⟨f,h⟩:=ai h;rw[aj] at f;have c:=al f.1;have a:=al f.2;obtain ⟨hp,-⟩:=bF D;exact Oz (nsx:=[r.ent G]) t hp ((j.el E w).trans (by rw[c])) (by rw[c];exact l) m (by rw[<-a];exact Ty.size_pos _) a g A B (fun J θ I=>⟨_,aF p,fun rn fact H h=>h⟩) h
 ·rename_i v p;obtain ⟨f,h⟩:=ai h;rw[aj] at f;have c:=oc f.1;have a:=al f.2;refine Oz (nsx:=[]) t (List.Perm.refl _) (j.el E w) l m (by rw[<-a];exact Ty.size_pos _) a g A B (fun J θ I=>⟨_,aF p,fun rn fact H h=>?_⟩) h;rw[show (AV.one (LV.val v)).v θ= .slice none 0 0 from c] at h;exact OpT.nilrow h
 ·cases h
end
structure HRow where
 E:TypeId
 t:Ty
 xs:List t.den
 n:Nat
def YE:Hol->Option HRow
 | ⟨_,_,.sl E t,d,.sl _ _,_,f,_,_,_,_,_⟩=>some ⟨E,t,d,List.length (α:=t.den) (f ([] :List _))⟩
 | _=>none
section
variable {Y:Type} (tt:TT) (s:Sg) (k:Res->Option Y)
def OA (T:TypeId) (x i:Operand):Option Y:=(td tt T).bind fun d=>match d.el,opd s x,opd s i with
 | some E,some (.one (.own h)),some (.one (.val (.int .i64 i)))=>(H7 h s.chs).bind fun r=>(YE r).bind fun q=>(td tt E).bind fun e=>bO (Nat.beq e.n q.t.size&&Cw h r.rest) ((aP q.xs i).bind fun a=>(chk (i<(q.n:Int))).bind fun _=>k ⟨[r.ent h],[],r.rest,[],.elo h r.over q.E q.t q.xs a i 0⟩)
 | _,_,_=>none
end
section
variable {Y:Type} {tt:TT} {s:Sg} {k:Res->Option Y} {P:Program} {w0:World} {o:Oper} {res:Y} {x:Operand}
theorem YF {I:Hp} {α β:Type} {E E':TypeId} {R:Rep α} {S:Rep β} {v c:Value} {f:List β->List α} {b off:Nat} {w:World} {K:List Nat} (h:(Ch.gap (aw E R) [v] (aw E' S) f b off c).holds I w K):Hd v (f []).length:=by
 obtain ⟨n,⟨cur,m,r,l⟩,p,i⟩:=h;obtain ⟨F,-,g⟩:=i I (w.setCell ⟨b,off,none⟩ (.slice none 0 0)) (.slice none 0 0) [] [] Hp.le.rfl (fun x t a=>by
  simp only[World.setCell];rw[Array.getElem?_modify,if_neg (fun e=>a e.symm)]) (fun d q j=>by
  simp only[World.setCell];rw[Array.getElem?_modify,if_pos rfl,j];rfl) ⟨by simp,.inl ⟨rfl,rfl,rfl⟩⟩
 exact Hd.of_own g
theorem LQ (W:TTok P tt) {T:TypeId} {i:Operand} (ho:o.op= .indexAddr T x i) (h:OA tt s k T x i=some res):Oks P w0 s o k res:=by
 obtain ⟨d,hd,h⟩:=bind_some h;split at h
 ·rename_i E b j he hx hi;obtain ⟨r,hr,h⟩:=bind_some h;obtain ⟨q,B,h⟩:=bind_some h;obtain ⟨e,hE,h⟩:=bind_some h;obtain ⟨l,h⟩:=ai h;obtain ⟨a,L,h⟩:=bind_some h;obtain ⟨u0,z,h⟩:=bind_some h;have z:=bE z;rw[aj] at l;obtain ⟨l,Q⟩:=l;have l:=al l;have hp:=zT hr;obtain ⟨V,f,t0,d1,u1,y1,y,i1,k1,n,O,R⟩:=r;cases t0 with
  | sl X m =>
   cases u1 with
   | sl E2 p =>
    obtain rfl:=ae (show some _=some q from B);refine ⟨_,h,oN hp,aU rfl,fun J θ hf=>OpT.weak (fact:=(· =pt (hv θ b) (j.toNat*m.size+0))) (gv:=fun _=>[toCh P θ (Hol.ent _ b)]) (fun w C S=>?_) (fun u hu=>?_) (fun u hu=>rfl)⟩
    ·have A:St J w0 w (Ch.gap (aw X m.rep) [hv θ b] (aw E2 p.rep) y (ptB (hv θ b)) (ptO (hv θ b)+(i1.toNat*k1+n)) (O.v θ)::C):=S;have hD:Hd (hv θ b) (y ([] :List p.den)).length:=by
      obtain ⟨-,-,F,t,-,-⟩:=A;obtain ⟨G,K,-,D,-⟩:=t;exact YF D
     have H:inI (α:=m.den) (y ([] :List p.den)) j:=⟨(D1 L).1,by
      have:=(D1 L).1
      have z:j<((List.length (α:=m.den) (y ([] :List p.den)):Nat):Int):=z;show j.toNat<List.length (α:=m.den) (y ([] :List p.den));omega⟩
     have:=sw (I:=J) (w0:=w0) (P:=P) (o:=o) hD ((W.get hd).el _ he) (W.get hE).ti ho (aF hx) (aF hi) H
     rw[l] at this;exact this w _ S
    ·have N:=kY hf hp;obtain ⟨Z,q2,q3,U,q5,q6⟩:=N;have hm:Mem s.chs s.nxt b f (.own (.sl X m) d1):=⟨Nat.lt_trans U q2,fun e' c c' v=>by
      rcases aA (hp.mem_iff.1 c) with rfl | c
      ·rcases v.2 with ⟨M,-⟩ | ⟨-,M⟩
       ·exact absurd M (Nat.ne_of_gt U)
       ·exact M
      ·exact absurd v.1 (pG Q c)⟩
     refine ⟨⟨aZ Z,L,hm.newer (Res.newer (oN hp) (aU rfl J θ hf)) (Nat.le_succ _)⟩,?_,fun g D=>by cases D⟩;rw[hu];show pt (hv (upd θ s.nxt _) b) _=pt (hv θ b) _;rw[show hv (upd θ s.nxt _) b=hv θ b from ba Same.upd Z]
   | _=>cases B
  | _=>cases B
 ·cases h
end
end R
namespace D
open Go.RowKit
def sv (a b:ByteArray):Option ByteArray:=(chk (a.size+b.size<=9223372036854775807)).bind fun _=>some (a++b)
def Iq (s:ByteArray) (i:Int):Option Int:=(chk (0<=i/\i<(s.size:Int))).bind fun _=>some ((s.data.toList.getD i.toNat 0).toNat:Int)
def Wm (s:ByteArray) (l h:Int):Option ByteArray:=(chk (0<=l/\l<=h/\h<=(s.size:Int))).bind fun _=>some (s.extract l.toNat h.toNat)
def yV (l:List Int):ByteArray:=l.foldl (fun r n=>r.push (UInt8.ofNat n.toNat)) ByteArray.empty
section
variable {P:Program} {I:Hp} {w0:World} {o:Oper} {ev:Operand->Value} {x y:Operand}
theorem Wn {t u:TypeId} {m n:ByteArray} (h:m.size+n.size<=9223372036854775807) (c:o.op= .binOp .add t x y u) (b:ev x= .string m) (a:ev y= .string n):OpT P I w0 o ev [] (· = .string (m++n)) (fun _=>[]):=
 bp fun w=>by simp[execOp,c,b,a,eqGuard,binOp_string_add,run_string_add_sum w m n h,Result.andThen]
theorem OB {T:TypeId} {m:ByteArray} {k:IntKind} {i:Int} (hT:P.underlying T=some .string) (h:0<=i/\i<(m.size:Int)) (ho:o.op= .index T x y) (hx:ev x= .string m) (hy:ev y= .int k i):OpT P I w0 o ev [] (· = .int .u8 ((m.data.toList.getD i.toNat 0).toNat:Int)) (fun _=>[]):=
 bp fun w=>by
  have h2:i.toNat<m.size:=by omega
  have e:m.data.toList.getD i.toNat 0=m[i.toNat]'h2:=by
   have h3:i.toNat<m.data.toList.length:=by simpa using h2
   rw[List.getD_eq_getElem?_getD,List.getElem?_eq_getElem h3]
   simp[ByteArray.getElem_eq_getElem_data]
  have:=run_index_string (P:=P) (w:=w) T m k i hT
  rw[dif_pos h] at this
  rw[e]
  simp[execOp,ho,hx,hy,this,Result.andThen]
def Wo (ev:Operand->Value) (d:Int):Option Operand->Int->Prop
 | none,n=>n=d
 | some z,n=> ∃k,ev z= .int k n
theorem OC {T:TypeId} {m:ByteArray} {lo hi:Option Operand} {l h:Int} (f:P.underlying T=some .string) (d:0<=l/\l<=h/\h<=(m.size:Int)) (i:o.op= .slice T x lo hi none) (n:ev x= .string m)
  (q:Wo ev 0 lo l) (g:Wo ev (m.size:Int) hi h):OpT P I w0 o ev [] (· = .string (m.extract l.toNat h.toNat)) (fun _=>[]):=
 bp fun w=>by
  have c: ∀a b,(Instr.sliceAt T (.string m) a b none).run P w=(Instr.slice T (.string m) a b none).run P w:=fun a b=>by
   simp[Instr.sliceAt,run_underlying f]
  cases lo with
  | none =>
   obtain rfl:l=0:=q;cases hi with
   | none =>
    obtain rfl:h=(m.size:Int):=g;simp[execOp,i,n,c,run_slice_string_all,f,Result.andThen]
   | some b =>
    obtain ⟨k,e⟩:=g;simp[execOp,i,n,e,c,run_slice_string_h (t:=T) (s:=m) (P:=P) (w:=w) f k h d.2.1 d.2.2,Result.andThen]
  | some a =>
   obtain ⟨j,p⟩:=q;cases hi with
   | none =>
    obtain rfl:h=(m.size:Int):=g;simp[execOp,i,n,p,c,run_slice_string_l (t:=T) (s:=m) (P:=P) (w:=w) f j l d.1 d.2.1,Result.andThen]
   | some b =>
    obtain ⟨k,e⟩:=g
    have:=run_slice_string_if (P:=P) (w:=w) T m j k l h f
    rw[if_pos ⟨by omega,d.2.2⟩,if_pos ⟨d.1,d.2.1⟩] at this;simp[execOp,i,n,p,e,c,this,Result.andThen]
theorem AT {S D E E':TypeId} {h1: ∀a:Int,(Value.int .u8 a).oneCell'=true} {v:Value} {xs:List Int} (m:P.underlying S=some (.slice E)) (k:P.underlying E=some (.int .u8)) (j:P.underlying D=some .string) (i:(aw E' (mu Int (.int .u8) h1)).rd I [v] xs) (l:o.op= .convert S D x) (g:ev x=v):OpT P I w0 o ev [] (· = .string (yV xs)) (fun _=>[]):=by
 intro w C f;obtain ⟨e,cap,rfl,c⟩:=Src.of_rd f i;have b:(execOp ev o).run P w= .ok (.value (.string (yV xs))) w:=by
  have h:(convert S D (.slice e (xs.map (Value.int .u8)).length cap)).run P w= .ok (.string (yV xs)) w:=by
   rw[run_convert_bytes_string w S D E e _ cap m k j];rcases c with c | ⟨a,rfl,c⟩
   ·have d:xs= []:=by simpa using c
    subst d;cases e with
    | none=>rfl
    | some a=>exact run_bytesToString w a _ cap [] (run_loadCells_list (P:=P) w a [] (by simp))
   ·rw[List.length_map];exact run_bytesToString w a _ cap xs (by
     have:=run_loadCells_list (P:=P) w a (xs.map (Value.int .u8)) c
     rwa [List.length_map] at this)
  simp only[List.length_map] at h g;simp[execOp,l,g,h,Result.andThen]
 rw[b];exact ⟨rfl,f⟩
end
end D
namespace R
open Go.RowKit
open D
section
variable {Y:Type} (tt:TT) (s:Sg) (k:Res->Option Y)
def Wp (b:BinOp) (t:TypeId) (x y:Operand):Option Y:=match b,opd s x,opd s y with
 | .add,some (.one (.val (.string m))),some (.one (.val (.string n)))=>(sv m n).bind fun r=>kv s k (.string r)
 | _,_,_=>Z7 tt s k b t x y
def YG (T:TypeId) (x i:Operand):Option Y:=(td tt T).bind fun d=>d.ik.bind fun k1=>match k1,opd s x,opd s i with
 | none,some (.one (.val (.string m))),some (.one (.val (.int j n)))=>(Iq m n).bind fun r=>kv s k (.int .u8 r)
 | _,_,_=>none
def aae (d:Int):Option Operand->Option Int
 | none=>some d
 | some y=>match opd s y with
  | some (.one (.val (.int _ n)))=>some n
  | _=>none
def OD (T:TypeId) (x:Operand) (lo hi:Option Operand):Option Y:=(td tt T).bind fun d=>d.ik.bind fun k1=>match k1,opd s x with
 | none,some (.one (.val (.string m)))=>(aae s 0 lo).bind fun l=>(aae s (m.size:Int) hi).bind fun h=>(Wm m l h).bind fun r=>kv s k (.string r)
 | _,_=>none
def Un (S D:TypeId) (x:Operand):Option Y:=(td tt S).bind fun a=>(td tt D).bind fun b=>a.el.bind fun E=>(td tt E).bind fun e=>e.ik.bind fun k1=>b.ik.bind fun k2=>match k1,k2,opd s x with
 | some .u8,none,some (.one (.own h))=>(rowOf h s.chs).bind fun r=>(oH (.sl r.E r.t) (.sl r.E (.int .u8)) r.xs).bind fun xs=>k ⟨[r.ent h],[],r.rest,[],.one (.val (.string (yV xs)))⟩
 | some .u8,none,some (.one (.rd _ t d))=>(oH t (.sl E (.int .u8)) d).bind fun xs=>kv s k (.string (yV xs))
 | some .u8,none,some (.one (.val (.slice none 0 0)))=>kv s k (.string ByteArray.empty)
 | _,_,_=>none
end
section
variable {Y:Type} {tt:TT} {s:Sg} {k:Res->Option Y} {P:Program} {w0:World} {o:Oper} {res:Y} {x y:Operand}
theorem R0 (f:TTok P tt) {b:BinOp} {t u:TypeId} (c:o.op= .binOp b t x y u) (h:Wp tt s k b t x y=some res):Oks P w0 s o k res:=by
 unfold Wp at h;split at h
 ·rename_i m n g d;obtain ⟨r,a,h⟩:=bind_some h;obtain ⟨i,e,a⟩:=bind_some a;obtain rfl:=ae a;exact lA h rfl fun J θ j=>Wn (bE e) c (aF g) (aF d)
 ·exact Nl f c h
theorem R1 (g:TTok P tt) {T:TypeId} {i:Operand} (q:o.op= .index T x i) (h:YG tt s k T x i=some res):Oks P w0 s o k res:=by
 obtain ⟨d,p,c⟩:=bind_some h;obtain ⟨v,e,b⟩:=bind_some c;clear h c;split at b
 ·rename_i m j n t l;obtain ⟨r,a,h⟩:=bind_some b;obtain ⟨u,f,a⟩:=bind_some a;obtain rfl:=ae a;exact lA h rfl fun J θ w=>OB ((g.get p).ik _ e) (bE f) q (aF t) (aF l)
 ·cases b
theorem OE {d n:Int} {θ:Th} {lo:Option Operand} (h:aae s d lo=some n):Wo (evL (envL θ s)) d lo n:=by
 cases lo with
 | none=>exact (ae h).symm
 | some z =>
  simp only[aae] at h;split at h
  ·rename_i j m a;obtain rfl:=ae h;exact ⟨j,aF a⟩
  ·cases h
theorem LR (n:TTok P tt) {T:TypeId} {lo hi:Option Operand} (q:o.op= .slice T x lo hi none) (h:OD tt s k T x lo hi=some res):Oks P w0 s o k res:=by
 obtain ⟨d,p,c⟩:=bind_some h;obtain ⟨z,g,b⟩:=bind_some c;clear h c;split at b
 ·rename_i m v;obtain ⟨l,t,f⟩:=bind_some b;obtain ⟨e,i,u⟩:=bind_some f;obtain ⟨r,a,h⟩:=bind_some u;obtain ⟨w,j,a⟩:=bind_some a;obtain rfl:=ae a;exact lA h rfl fun J θ A=>OC ((n.get p).ik _ g) (bE j) q (aF v) (OE t) (OE i)
 ·cases b
theorem OF (n:TTok P tt) {S D:TypeId} (q:o.op= .convert S D x) (h:Un tt s k S D x=some res):Oks P w0 s o k res:=by
 obtain ⟨a,N,H⟩:=bind_some h;obtain ⟨b,I,A⟩:=bind_some H;obtain ⟨E,R,z⟩:=bind_some A;obtain ⟨e,O,G⟩:=bind_some z;obtain ⟨W,h1,B⟩:=bind_some G;obtain ⟨Z,T,i⟩:=bind_some B;clear h H A z G B;have w:=(n.get N).el _ R;have l:=(n.get I).ik _ T;have v:=(n.get O).ik _ h1;split at i
 ·rename_i C f;obtain ⟨r,K,j⟩:=bind_some i;obtain ⟨xs,c,M⟩:=bind_some j;obtain ⟨hp,-⟩:=bF K;refine ⟨_,M,oN hp,aU rfl,fun J θ p=>OpT.weak (wu (ls:=[Ch.own (Ty.sl r.E r.t).rep [hv θ C] r.xs]) (rn:=[]) (gv:=fun _=>[]) (fun _=>trivial) fun V X m U=>?_) (fact:=(· = .string (yV xs))) (fun u F=>?_) (fun u F=>rfl)⟩
  ·have Q:=iZ c (m _ _ _ (List.mem_singleton_self _));exact AT w v l Q q (aF f)
  ·subst F;exact ⟨Eq.refl true,rfl,fun g L=>by cases L⟩
 ·rename_i C t d f;obtain ⟨xs,c,j⟩:=bind_some i;exact lA j rfl fun J θ p=>AT w v l (iZ c (bN p f).2) q (aF f)
 ·rename_i f;exact lA i rfl fun J θ p=>AT (E':=0) (xs:=[]) (h1:=fun _=>rfl) w v l ⟨none,0,rfl,⟨by simp,by simp⟩,.inl rfl⟩ q (aF f)
 ·cases i
end
section
variable {Y:Type} (s:Sg) (k:Res->Option Y)
def aaL (T f:Nat) (x y:Operand):Option Y:=match opd s x,opd s y with
 | some (.agg xs),some (.agg ys)=>k ⟨[],[],s.chs,[(⟨s.nxt,[]⟩,.clo f [] [.ptr ⟨s.nxt,[0]⟩ 0,.ptr ⟨s.nxt,[1]⟩ 0]),(⟨s.nxt,[0]⟩,.blk T xs),(⟨s.nxt,[1]⟩,.blk T ys)],.one (.own ⟨s.nxt,[]⟩)⟩
 | _,_=>none
end
section
variable {Y:Type} {s:Sg} {k:Res->Option Y} {P:Program} {w0:World} {o:Oper} {res:Y} {x y:Operand}
theorem R2 {J:Hp} {θ:Th} {n:Nat} {chs:List Ent} {h:Hdr} {ver f:Nat} {a:List LV} (h1:h.id<n) (d:ver<n) (e: ∀x∈a,x.ok P w0 J θ n) (b:hv θ h= .func (.func f) #[] (a.map (·.v θ)).toArray):okE P w0 J θ n chs (h,ver,.clo f [] a):=
 ⟨h1,d,fun y c=>(by cases c),e,b⟩
theorem EE {J:Hp} {θ:Th} {n:Nat} {chs:List Ent} {h:Hdr} {ver T:Nat} {cells:List LV} (h1:h.id<n) (a:ver<n) (b: ∀x∈cells,x.ok P w0 J θ n):okE P w0 J θ n chs (h,ver,.blk T cells):=⟨h1,a,b⟩
set_option maxHeartbeats 2000000 in
theorem Wq {g T f:Nat} (l:Yr P g T f) {q:Array TypeId} (r:o.op= .call { callee:=.value (.func g),args:= #[x,y],argTypes:=q }) (h:aaL s k T f x y=some res):Oks P w0 s o k res:=by
 unfold aaL at h;split at h
 ·rename_i e d j n;refine ⟨_,h,by simp,aU rfl,fun J θ m=>?_⟩;have i: ∀z∈e,z.ok P w0 J θ s.nxt:=bN m j;have p: ∀z∈d,z.ok P w0 J θ s.nxt:=bN m n;have t:(#[] :Array Value).toList++(#[x,y] :Array Operand).toList.map (evL (envL θ s))++(#[] :Array Value).toList=(#[.agg (e.map (·.v θ)).toArray,.agg (d.map (·.v θ)).toArray] :Array Value).toList:=by
   simp only[List.map_cons,List.map_nil,List.nil_append,List.append_nil,aF (θ:=θ) j,aF (θ:=θ) n]
   rfl
  refine OpT.weak (pF l.1 r rfl t (l.2 J w0 (e.map (·.v θ)) (d.map (·.v θ)))) (fun v b=>?_) (fun v b=>?_)
  ·obtain ⟨w,u,rfl⟩:=b;refine ⟨⟨ax _,by rw[dV];rfl⟩,dV,fun g c=>?_⟩;rcases aA c with rfl | c
   ·refine R2 (ax _) (ax _) (fun z a=>?_) ?_
    ·rcases aA a with rfl | a
     ·exact ax _
     ·obtain rfl:=ak a;exact ax _
    ·show hv (upd θ s.nxt _) ⟨s.nxt,[]⟩=_;rw[dV];show Value.func _ _ _=Value.func _ _ #[.pointer (some ⟨bk (vg (upd θ s.nxt _ s.nxt) [0]),0,none⟩),.pointer (some ⟨bk (vg (upd θ s.nxt _ s.nxt) [1]),0,none⟩)];rw[ig]
     rfl
   rcases aA c with rfl | c
   ·exact EE (ax _) (ax _) fun z a=>LV.ok_same Same.upd (Nat.le_succ _) (i z a) Hp.le.rfl
   ·obtain rfl:=ak c;exact EE (ax _) (ax _) fun z a=>LV.ok_same Same.upd (Nat.le_succ _) (p z a) Hp.le.rfl
  ·show [Ch.emp,Ch.blk (bk (vg v [0])) _ T,Ch.blk (bk (vg v [1])) _ T] = [Ch.emp,Ch.blk (bk (vg (upd θ s.nxt v s.nxt) [0])) (e.map _) T,Ch.blk (bk (vg (upd θ s.nxt v s.nxt) [1])) (d.map _) T];rw[ig,iH Same.upd i,iH Same.upd p]
 ·cases h
end
def Uo (h:Hdr) (s:Sg):Option Sg:=(pull h s.chs).bind fun r=>match r.1.2.2 with
 | .own (.sl E (.bag t)) xs=>some ⟨s.env,(h,s.nxt,.own (.sl E (.fro (.fro (.fro t)))) xs)::r.2,s.nxt+1⟩
 | _=>none
def xT (h:Hdr) (s:Sg):Sg:=match Uo h s with
 | some s'=>s'
 | none=>s
def LS (o:Oper) (s:Sg):Sg:=match o.op with
 | .indexAddr _ x _=>match opd s x with
  | some (.one (.own h))=>xT h s
  | _=>s
 | _=>s
def ab9:Chk->Bool
 | .own (.sl _ (.fro (.fro (.fro _)))) _=>true
 | _=>false
def Ir (n:Nat) (e:Ent):Ent:=match e.2.2 with
 | .own (.sl E (.fro (.fro (.fro t)))) xs=>(e.1,n,.own (.sl E (.bag t)) xs)
 | _=>e
def R3 (s:Sg):Sg:=match s.chs.any fun e=>ab9 e.2.2 with
 | true=>⟨s.env,s.chs.map (Ir s.nxt),s.nxt+1⟩
 | false=>s
def XS (s:Sg):Sg:=R3 (rj s)
section
variable {P:Program} {I J:Hp} {w0 w:World} {F:Ch} {n:Nat} {θ:Th} {s s':Sg} {a:Act} {h:Hdr}
theorem Gx (hs:Uo h s=some s') (j:Sim P I w0 F n J θ s a w): ∃m,J.le m/\Sim P I w0 F n m θ s' a w/\Fr s θ s' θ:=by
 obtain ⟨r,O,hs⟩:=bind_some hs;obtain ⟨p,k⟩:=gi O;obtain ⟨⟨q,L,c⟩,rest⟩:=r;obtain rfl:q=h:=k;cases c with
 | own C d =>
  cases C with
  | sl E C =>
   cases C with
   | bag t =>
    obtain rfl:=ae (show some _=some s' from hs);have B:=j.fine.chs _ (p.mem_iff.2 (List.mem_cons_self ..));have v:St J w0 w (Ch.own (aw E (QM t.rep)) [hv θ q] d::(rest.map (toCh P θ)++ [F])):=j.st.perm ((p.map (toCh P θ)).append_right [F]);obtain ⟨m,o,z⟩:=v.freeze_els;have l: ∀e,e∈rest->e∈s.chs:=fun e b=>p.mem_iff.2 (bY _ b);have i:Newer s.nxt s.chs ((q,s.nxt,Chk.own (.sl E (.fro (.fro (.fro t)))) d)::rest):=fun e b h' D c f=>by
     rcases aA b with rfl | b
     ·obtain ⟨rfl,f⟩:=f;rcases f with ⟨v,-⟩ | f
      ·exact .inl (Nat.le_of_eq v)
      ·exact f.elim
     ·exact .inr ⟨e,l e b,f⟩
    refine ⟨m,o,⟨j.le.trans o,j.agr,?_,fun e b=>AV.ok_same Same.rfl (Nat.le_succ _) i (j.fine.env e b) o,fun e b=>aZ (j.fine.ver e b),j.fine.nd,fun e b=>?_,j.fine.lay.mono o⟩,Nat.le_succ _,Same.rfl,fun e b _=>b,i⟩
    ·show St m w0 w (Ch.own (aw E (zz (zz (zz t.rep)))) [hv θ q] d::(rest.map (toCh P θ)++ [F]));obtain ⟨X,Q,F0,⟨G,K,rfl,⟨hl,A⟩,e3⟩,V,W⟩:=z;refine ⟨X,Q,G++K,⟨G,K,rfl,⟨hl,?_⟩,e3⟩,V,W⟩;rcases A with A | ⟨g,y,cap,cur,Y,u,T,k2,M,U,Z,N⟩
     ·exact .inl A
     ·exact .inr ⟨g,y,cap,cur,Y,u,T,k2,M,U,Z,OwnEls.turn (R:=zz t.rep) (S:=zz (zz (zz t.rep))) rfl (fun c x G H=>⟨H.1,H.2⟩) N⟩
    ·rcases aA b with rfl | b
     ·exact ⟨aZ B.1,ax _,trivial⟩
     ·exact gy Same.rfl (Nat.le_succ _) i (j.fine.chs e (l e b)) o
   | _=>cases hs
  | _=>cases hs
 | _=>cases hs
theorem R4 {o:Oper} (b:Sim P I w0 F n J θ s a w): ∃J',J.le J'/\Sim P I w0 F n J' θ (LS o s) a w/\Fr s θ (LS o s) θ:=by
 unfold LS;split
 ·split
  ·unfold xT;split
   ·exact Gx ‹_› b
   ·exact ⟨J,Hp.le.rfl,b,Fr.rfl⟩
  ·exact ⟨J,Hp.le.rfl,b,Fr.rfl⟩
 ·exact ⟨J,Hp.le.rfl,b,Fr.rfl⟩
theorem J6 {f g:Ent->Ch} {C:List Ch} : ∀ {l:List Ent} {K:List Nat},(∀e∈l,∀F,(f e).holds J w F->(g e).holds J w F)->Sep J (l.map f++C) w K->Sep J (l.map g++C) w K
 | [],K,_,h=>h
 | e::l,_,hh,⟨G,K',e1,h1,h2⟩=>⟨G,K',e1,hh e (by simp) G h1,J6 (fun e b=>hh e (by simp[b])) h2⟩
theorem LU {n:Nat} {e:Ent} {h:Hdr} {ver:Nat} {c:Chk} (k:Says (Ir n e) h ver c):ver=n\/Says e h ver c:=by
 unfold Ir at k;split at k
 ·obtain ⟨rfl,k⟩:=k;rcases k with ⟨b,-⟩ | k
  ·exact .inl b.symm
  ·exact k.elim
 ·exact .inr k
theorem R5 (f:Sim P I w0 F n J θ s a w):Sim P I w0 F n J θ (R3 s) a w/\Fr s θ (R3 s) θ:=by
 unfold R3;split
 ·have b:Newer s.nxt s.chs (s.chs.map (Ir s.nxt)):=fun e d h i c l=>by
   obtain ⟨j,m,rfl⟩:=List.mem_map.1 d;rcases LU l with rfl | l
   ·exact .inl (aL _)
   ·exact .inr ⟨j,m,l⟩
  refine ⟨⟨f.le,f.agr,?_,fun e d=>AV.ok_same Same.rfl (Nat.le_succ _) b (f.fine.env e d) Hp.le.rfl,fun e d=>aZ (f.fine.ver e d),f.fine.nd,fun e d=>?_,f.fine.lay⟩,Nat.le_succ _,Same.rfl,fun e d _=>d,b⟩
  ·obtain ⟨D,O,K,H,B,M⟩:=f.st;refine ⟨D,O,K,?_,B,M⟩;rw[List.map_map];refine J6 (fun e d G v=>?_) H;show (toCh P θ (Ir s.nxt e)).holds J w G;obtain ⟨o,i,c⟩:=e;unfold Ir;split
   ·rename_i E t u L;obtain rfl:c= .own (.sl E (.fro (.fro (.fro t)))) u:=L;obtain ⟨U,q⟩:=(show (aw E (zz (zz (zz t.rep)))).own J w [hv θ o] u G from v);refine (show (aw E (QM t.rep)).own J w [hv θ o] u G from ⟨U,?_⟩);rcases q with q | ⟨g,p,cap,cur,Q,k,C,V,z,N,T,A⟩
    ·exact .inl q
    ·exact .inr ⟨g,p,cap,cur,Q,k,C,V,z,N,T,OwnEls.turn (R:=zz (zz (zz t.rep))) (S:=QM t.rep) rfl (fun c x G y=>by rw[y.1];exact TV y.2) A⟩
   ·exact v
  ·obtain ⟨j,m,rfl⟩:=List.mem_map.1 d;have r:=f.fine.chs j m
   have:=gy Same.rfl (Nat.le_succ _) b r (J':=J) Hp.le.rfl
   obtain ⟨o,i,c⟩:=j;unfold Ir;split
   ·exact ⟨this.1,ax _,trivial⟩
   ·exact this
 ·exact ⟨f,Fr.rfl⟩
theorem OG (e:Sim P I w0 F n J θ s a w): ∃θ',Sim P I w0 F n J θ' (XS s) a w/\Fr s θ (XS s) θ':=by
 obtain ⟨θ',f,b⟩:=zU e;obtain ⟨c,d⟩:=R5 f;exact ⟨θ',c,b.trans d⟩
end
section
variable {Y:Type} (ft:FT) (s:Sg) (k:Res->Option Y)
def OH (ns:List Int):List LV:=ns.map fun n=>.val (.int .i64 n)
def abK (T:Nat) (g:FuncId) (x:Operand):Option Y:=(fs ft g).bind fun f=>(opd s x).bind fun v=>(ej ft s s.chs f.ps [v]).bind fun a=>bO (a.lent.isEmpty&&a.own.isEmpty) <|
 (appP f.ps f.m a.d).bind fun r=>(VZ (f.rs++outs f.ps) (toH _ r)).bind fun ns=>match opd s x with
 | some (.one lv)=>k ⟨[],[],s.chs,[(⟨s.nxt,[]⟩,.blk T (lv::OH ns))],.one (.ptr ⟨s.nxt,[]⟩ 0)⟩
 | _=>none
end
section
variable {Y:Type} {ft:FT} {s:Sg} {k:Res->Option Y} {P:Program} {w0:World} {o:Oper} {res:Y} {x:Operand}
theorem R6 {J:Hp} {θ:Th} {n:Nat} {ns:List Int} : ∀z∈OH ns,z.ok P w0 J θ n:=fun z a=>by
 obtain ⟨m,b,rfl⟩:=List.mem_map.1 a;exact Eq.refl true
theorem Wr {θ:Th} {ns:List Int} :(OH ns).map (·.v θ)=ns.map (Value.int .i64):=by
 unfold OH;rw[List.map_map];rfl
theorem Ws {T:Nat} {g:FuncId} (D:FTok P ft) (C: ∀f,fs ft g=some f->NewOk P g T f) {M:Array TypeId} (N:o.op= .call { callee:=.value (.func g),args:= #[x],argTypes:=M }) (h:abK ft s k T g x=some res):Oks P w0 s o k res:=by
 obtain ⟨f,i,h⟩:=bind_some h;obtain ⟨H,j,h⟩:=bind_some h;obtain ⟨a,I,h⟩:=bind_some h;obtain ⟨q,h⟩:=ai h;rw[aj] at q;have A:a.lent= []:=List.isEmpty_iff.1 q.1;have G:a.own= []:=List.isEmpty_iff.1 q.2;obtain ⟨r,E,h⟩:=bind_some h;obtain ⟨l,m,h⟩:=bind_some h;split at h
 ·rename_i c B;refine ⟨_,h,by simp,aU rfl,fun J θ w=>?_⟩;have n:c.ok P w0 J θ s.nxt:=bN w B;obtain rfl:H= .one c:=ae (j.symm.trans B);obtain ⟨u,-,-⟩:=gD (J':=J) D w Hp.le.rfl I (fun y Q=>by obtain rfl:=ak Q;exact n) (fun e K=>K) (by rw[A];exact fun h L=>by cases L) (ghV θ a.gh) Dc;have t:evL (envL θ s) x=c.v θ:=aF (θ:=θ) B;have u:PArgs P w0 J (ghV θ a.gh) f.ps [c.v θ] a.d:=u;have O:(#[] :Array Value).toList++(#[x] :Array Operand).toList.map (evL (envL θ s))++(#[] :Array Value).toList=([c.v θ] :List Value).toArray.toList:=by
   simp only[List.map_cons,List.map_nil,List.nil_append,List.append_nil,t]
  refine OpT.weak (pF (C f i).1 N rfl O ((C f i).2 w0 J (ghV θ a.gh) [c.v θ] a.d r l w.lay u E m)) (fun v d=>?_) (fun v d=>?_)
  ·obtain ⟨b,rfl⟩:=d;refine ⟨ax _,by show Value.pointer (some ⟨bk (hv _ ⟨s.nxt,[]⟩),0,none⟩)=_;rw[dV];rfl,fun g F=>?_⟩;obtain rfl:=ak F;refine EE (ax _) (ax _) fun z p=>?_;rcases aA p with rfl | p
   ·exact LV.ok_same Same.upd (Nat.le_succ _) n Hp.le.rfl
   ·exact R6 z p
  ·show [Ch.blk (bk v) ([c.v θ] ++l.map (Value.int .i64)) T] = [Ch.blk (bk (hv (upd θ s.nxt v) ⟨s.nxt,[]⟩)) ((c::OH l).map (·.v (upd θ s.nxt v))) T];rw[dV,List.map_cons,Wr,LV.v_same Same.upd n];rfl
 ·cases h
end
structure Mp where
 ver:Nat
 md:MD
 m:List (md.k.den×md.e.den)
 rest:List Ent
def MD.ck (d:MD) (m:List (d.k.den×d.e.den)):Chk:=.map d.K d.E d.k d.e m
def aaf (h:Hdr) (chs:List Ent):Option Mp:=(pull h chs).bind fun r=>match r.1.2.2 with
 | .map K E k e m=>some ⟨r.1.2.1,⟨K,E,k,e⟩,m,r.2⟩
 | _=>none
def Mp.ent (r:Mp) (h:Hdr):Ent:=(h,r.ver,r.md.ck r.m)
theorem Is {h:Hdr} {chs:List Ent} {r:Mp} (e:aaf h chs=some r):chs.Perm (r.ent h::r.rest):=by
 obtain ⟨q,d,e⟩:=bind_some e;obtain ⟨p,k⟩:=gi d;obtain ⟨⟨b,a,c⟩,rest⟩:=q;obtain rfl:b=h:=k;cases c with
 | map K E k f m =>
  obtain rfl:=ae (show some _=some r from e);exact p
 | _=>cases e
def MK.beq:MK->MK->Bool
 | .int,.int=>true
 | .ii,.ii=>true
 | _,_=>false
def ME.beq:ME->ME->Bool
 | .int,.int=>true
 | .bool,.bool=>true
 | _,_=>false
def MD.beq (a b:MD):Bool:=Nat.beq a.K b.K&&Nat.beq a.E b.E&&MK.beq a.k b.k&&ME.beq a.e b.e
theorem MD.beq_eq {a b:MD} (h:MD.beq a b=true):a=b:=by
 obtain ⟨K,E,k,e⟩:=a;obtain ⟨l,j,c,d⟩:=b;unfold MD.beq at h;simp only[aj] at h;obtain ⟨⟨⟨g,i⟩,m⟩,f⟩:=h;obtain rfl:K=l:=al g;obtain rfl:E=j:=al i;obtain rfl:k=c:=by cases k <;> cases c <;> first | rfl | cases m
 obtain rfl:e=d:=by cases e <;> cases d <;> first | rfl | cases f
 rfl
def R7:(k:MK)->AV->Option k.den
 | .int,.one (.val (.int .i64 n))=>some n
 | .ii,.agg [.val (.int .i64 a),.val (.int .i64 b)] =>some (a,b)
 | _,_=>none
theorem EF {k:MK} {v:AV} {d:k.den} (h:R7 k v=some d) (θ:Th):v.v θ=k.val d:=by
 unfold R7 at h;split at h
 ·rw[<-ae h];rfl
 ·rw[<-ae h];rfl
 ·cases h
def Wt:(e:ME)->AV->Option e.den
 | .int,.one (.val (.int .i64 n))=>some n
 | .bool,.one (.val (.bool b))=>some b
 | .bool,.one (.nb b)=>some (!b)
 | _,_=>none
theorem R8 {e:ME} {v:AV} {d:e.den} (h:Wt e v=some d) (θ:Th):v.v θ=e.val d:=by
 unfold Wt at h;split at h
 ·rw[<-ae h];rfl
 ·rw[<-ae h];rfl
 ·rw[<-ae h];rfl
 ·cases h
theorem ME.val_one (e:ME) (d:e.den):(e.val d).oneCell'=true:=by cases e <;> rfl
section
variable {Y:Type} (tt:TT) (s:Sg) (k:Res->Option Y)
def abL (T:TypeId):Option Y:=(td tt T).bind fun d=>d.mp.bind fun md=>k ⟨[],[],s.chs,[(⟨s.nxt,[]⟩,md.ck [])],.one (.own ⟨s.nxt,[]⟩)⟩
def Wu (T:TypeId) (m x y:Operand):Option Y:=(td tt T).bind fun d=>d.mp.bind fun md=>match opd s m with
 | some (.one (.own h))=>(aaf h s.chs).bind fun r=>bO (MD.beq md r.md) ((opd s x).bind fun kv=>(R7 r.md.k kv).bind fun q=>(opd s y).bind fun ev=>(Wt r.md.e ev).bind fun i =>
  (@QK r.md.k.den r.md.e.den r.m r.md.k.ok r.md.e.ok q i).bind fun M=>k ⟨[],[r.ent h],r.rest,[(h,r.md.ck M)],.any ⟨s.nxt,[]⟩⟩)
 | _=>none
def Up (T:TypeId) (m x:Operand) (two:Bool):Option Y:=(td tt T).bind fun d=>d.mp.bind fun md=>match opd s m with
 | some (.one (.own h))=>(aaf h s.chs).bind fun r=>bO (MD.beq md r.md) ((opd s x).bind fun kv=>(R7 r.md.k kv).bind fun q =>
  Z6 false (r.md.k.ok q=true) (instDecidableEqBool _ _) (match two with
   | true=>k ⟨[r.ent h],[],r.rest,[],.tup [(false,[.val (r.md.e.val ((@lkM r.md.k.den r.md.e.den r.md.k.dec r.m q).getD r.md.e.z))]),(false,[.val (.bool (@lkM r.md.k.den r.md.e.den r.md.k.dec r.m q).isSome)])]⟩
   | false=>k ⟨[r.ent h],[],r.rest,[],.one (.val (r.md.e.val ((@lkM r.md.k.den r.md.e.den r.md.k.dec r.m q).getD r.md.e.z)))⟩))
 | _=>none
end
section
variable {Y:Type} {tt:TT} {s:Sg} {k:Res->Option Y} {P:Program} {w0:World} {o:Oper} {res:Y} {m x y:Operand}
theorem OI {θ:Th} {h:Hdr} {ver:Nat} {a:MD} {M:List (a.k.den×a.e.den)} :toCh P θ (h,ver,a.ck M)= @Ch.mp P a.K a.E a.k.den a.e.den a.k.dec a.k.lit a.k.ok a.e.lit a.e.z (hv θ h) M:=rfl
theorem YH {I:Hp} {w:World} {C:List Ch} {K E:TypeId} {κ ε:Type} [DecidableEq κ] {lit:κ->Lit} {c:κ->Bool} {a:ε->Lit} {z:ε} {v:Value} {M:List (κ×ε)} (h:St I w0 w (Ch.mp P K E lit c a z v M::C)):v.oneCell'=true:=by
 obtain ⟨f,j,F,⟨G,l,rfl,⟨b,rfl,rfl,g⟩,e⟩,d,i⟩:=h
 rfl
theorem Wv (l:TTok P tt) {T:TypeId} (i:o.op= .makeMap T none) (h:abL tt s k T=some res):Oks P w0 s o k res:=by
 obtain ⟨d,p,h⟩:=bind_some h;obtain ⟨a,q,h⟩:=bind_some h;refine ⟨_,h,by simp,aU rfl,fun J θ n=>?_⟩;have f:= @HW P J w0 o (evL (envL θ s)) a.k.den a.e.den a.k.dec a.k.lit a.k.ok a.e.lit a.e.z T a.K a.E i;intro w C c;refine (f w C c).imp fun v j hv=>?_;have b:=letI:=a.k.dec;YH hv.2;refine ⟨⟨⟨ax _,by rw[dV];exact b⟩,dV,fun g e=>?_⟩,?_⟩
 ·obtain rfl:=ak e;exact ⟨ax _,ax _,trivial⟩
 ·show St J w0 j ([toCh P (upd θ s.nxt v) (⟨s.nxt,[]⟩,s.nxt,a.ck [])] ++C);rw[OI,dV];exact hv.2
theorem J7 (A:TTok P tt) {T:TypeId} (E:o.op= .mapUpdate T m x y\/o.op= .insert T m x y) (h:Wu tt s k T m x y=some res):Oks P w0 s o k res:=by
 obtain ⟨d,D,h⟩:=bind_some h;obtain ⟨I,G,h⟩:=bind_some h;split at h
 ·rename_i b H;obtain ⟨r,l,h⟩:=bind_some h;obtain ⟨v,h⟩:=ai h;obtain ⟨kv,w,h⟩:=bind_some h;obtain ⟨q,n,h⟩:=bind_some h;obtain ⟨ev,c,h⟩:=bind_some h;obtain ⟨i,B,h⟩:=bind_some h;obtain ⟨M,z,h⟩:=bind_some h;have hp:=Is l;obtain ⟨j,e,f⟩:=(A.get D).mp _ G;rw[MD.beq_eq v] at j e f;refine ⟨_,h,Cx hp,aU rfl,fun J θ C=>?_⟩;have a:=kY C hp;have t:= @Lj P J w0 o (evL (envL θ s)) r.md.k.den r.md.e.den r.md.k.dec r.md.k.lit r.md.k.val r.md.k.ok r.md.e.val r.md.e.lit r.md.e.ok r.md.e.z T r.md.K r.md.E m x y (hv θ b) q i r.m M e f j E (aF H) ((aF w).trans (EF n θ)) ((aF c).trans (R8 B θ)) z;refine OpT.weak t (fun u F=>⟨ax _,dV,fun g p=>?_⟩) (fun u F=>?_)
  ·obtain rfl:=ak p;exact ⟨aZ a.1,ax _,trivial⟩
  ·show [_] = [toCh P (upd θ s.nxt u) (b,s.nxt,r.md.ck M)];rw[OI,show hv (upd θ s.nxt u) b=hv θ b from ba Same.upd a.1]
 ·cases h
theorem OJ (D:TTok P tt) {T:TypeId} {two:Bool} (w:o.op= .lookup T m x two) (h:Up tt s k T m x two=some res):Oks P w0 s o k res:=by
 obtain ⟨d,F,h⟩:=bind_some h;obtain ⟨H,G,h⟩:=bind_some h;split at h
 ·rename_i t A;obtain ⟨r,B,h⟩:=bind_some h;obtain ⟨C,h⟩:=ai h;obtain ⟨kv,v,h⟩:=bind_some h;obtain ⟨q,n,h⟩:=bind_some h;obtain ⟨b,h⟩:=H1 h;have hp:=Is B;obtain ⟨l,e,i⟩:=(D.get F).mp _ G;rw[MD.beq_eq C] at l e i;cases two with
  | true =>
   refine ⟨_,h,oN hp,fun _ _ _ g a=>(by cases a),fun J θ E=>?_⟩;have f:= @HY P J w0 o (evL (envL θ s)) r.md.k.den r.md.e.den r.md.k.dec r.md.k.lit r.md.k.val r.md.k.ok r.md.e.val r.md.e.lit r.md.e.ok r.md.e.z T r.md.K r.md.E m x (hv θ t) q r.m e i b l w (aF A) ((aF v).trans (EF n θ));refine OpT.weak f (fun u c=>⟨fun y j z p=>?_,?_,fun g a=>by cases a⟩) (fun u c=>rfl)
   ·rcases aA j with rfl | j
    ·obtain rfl:=ak p;exact ME.val_one _ _
    ·obtain rfl:=ak j;obtain rfl:=ak p;exact Eq.refl true
   ·rw[c];rfl
  | false =>
   refine ⟨_,h,oN hp,fun _ _ _ g a=>(by cases a),fun J θ E=>?_⟩;have f:= @FK P J w0 o (evL (envL θ s)) r.md.k.den r.md.e.den r.md.k.dec r.md.k.lit r.md.k.val r.md.k.ok r.md.e.val r.md.e.lit r.md.e.ok r.md.e.z T r.md.K r.md.E m x (hv θ t) q r.m e i b l w (aF A) ((aF v).trans (EF n θ));refine OpT.weak f (fun u c=>⟨ME.val_one _ _,?_,fun g a=>by cases a⟩) (fun u c=>rfl);rw[c];rfl
 ·cases h
end
structure Env where
 tt:TT
 ft:FT
 an:List (Nat×Ty)
 n:Nat
 tr:Trs
section
variable {Y:Type} (V:Env) (s:Sg) (k:Res->Option Y)
def AU (d:Nat):List (Nat×Ty)->Bool
 | [] =>false
 | (u,_)::l=>Nat.beq u d || AU d l
def aaM (d:Nat):List (Nat×Ty)->Bool
 | [] =>false
 | (u,.raw)::l=>Nat.beq u d || aaM d l
 | _::l=>aaM d l
def aaN (d:Option Nat) (an:List (Nat×Ty)):Bool:=match d with
 | some d=>aaM d an
 | none=>false
def aaO (d:Nat):List (Nat×Ty)->Bool
 | [] =>false
 | (u,.str)::l=>Nat.beq u d || aaO d l
 | _::l=>aaO d l
def aaP (d:Option Nat) (an:List (Nat×Ty)):Bool:=match d with
 | some d=>aaO d an
 | none=>false
def YI (d:Option Nat) (an:List (Nat×Ty)):Bool:=match d with
 | some d=>AU d an
 | none=>false
def Ww (dst:Option Nat) (c:Call):Option Y:=match c.callee,c.args.toList,c.argTypes.toList with
 | .builtin .len,[x],[T] =>match opd s x with
  | some (.one (.own _))=>Yn V.tt s k T x
  | some (.vw _ _ _ _ _ _)=>Wg V.tt s k T x
  | some (.xv _ _ _ _ _ _ _)=>Wg V.tt s k T x
  | _=>sLen V.tt s k T x
 | .builtin .append,[x,y],[T,U] =>match Nat.beq T U with
  | true=>(match opd s x with
   | some (.vw _ _ _ _ _ _)=>YA V.tt s k T x y
   | _=>(match opd s y with
    | some (.sub _ _ _ _ _ _)=>Wl V.tt s k T x y
    | some (.pre _ _ _ _ _ _)=>Wl V.tt s k T x y
    | _=>abG V.tt V.an s k dst T x y))
  | false=>YB V.tt s k T U x y
 | .builtin .clear,[x],[T] =>Ot V.tt s k T x
 | .builtin .copy,[x,y],[T,_] =>match opd s x with
  | some (.vw _ _ _ _ _ _)=>Ox V.tt s k T x y
  | some (.xv _ _ _ _ _ _ _)=>Ox V.tt s k T x y
  | _=>Yv V.tt s k T x y
 | .builtin .min,[x,y],[_,_] =>aaG s k x y
 | .builtin .max,[x,y],[_,_] =>aaH s k x y
 | .value (.func g),xs,_=>match (fs V.ft g).bind (·.cl) with
  | some q=>match Nat.beq q.2 7,xs with
   | true,xs=>Ud V.ft s k g xs
   | false,[x] =>(match Nat.beq q.2 9 with
    | true=>abK V.ft s k q.1 g x
    | false=>bO (!Nat.beq q.2 0 && !Nat.ble 1000 q.2) (N7 s k q.1 q.2 x))
   | false,[x,y] =>(match Nat.ble 1000 q.2 with
    | true=>aaL s k q.1 (q.2 - 1000) x y
    | false=>bO (Nat.beq q.2 0) (Wk s k x y))
   | _,_=>none
  | none=>Uc V.ft s k g xs
 | .value (.tmp t),xs,_=>match JQ V.ft s t xs.length with
  | some c=>Ue V.ft s k c xs
  | none=>NM V.ft s k t xs
 | _,_,_=>none
def step (o:Oper):Option Y:=match o.op with
  | .move x=>VQ s k x
  | .assign x=>VQ s k x
  | .pick c x y=>Yk s k c x y
  | .unOp .not _ x=>aaA s k x
  | .unOp .neg _ x=>aaB s k x
  | .binOp b t x y _=>match opd s y with
   | some (.capv _ _)=>Wj s k b x y
   | _=>match opd s x with
    | some (.one (.rd _ (.tree _ _ _) _))=>aaI V.tt s k b t x y
    | some (.one (.ptr _ _))=>aaI V.tt s k b t x y
    | some (.one (.rdn _ _ _ _))=>aac V.tt s k b t x y
    | some (.one (.own _))=>aac V.tt s k b t x y
    | some (.one (.val (.slice _ _ _)))=>aac V.tt s k b t x y
    | some (.one (.val (.string _)))=>Wp V.tt s k b t x y
    | _=>Z7 V.tt s k b t x y
  | .index T x i=>YG V.tt s k T x i
  | .extract x i=>Ec s k x i
  | .indexAddr T x i=>match opd s x with
    | some (.one (.own h))=>(match H7 h s.chs with
      | some _=>OA V.tt s k T x i
      | none=>Nq V.tt s k T x i)
    | some (.vw _ _ _ _ _ _)=>Im V.tt s k T x i
    | some (.xv _ _ _ _ _ _ _)=>Im V.tt s k T x i
    | _=>Nk V.tt s k T x i
  | .fieldAddr T x f=>match opd s x with
    | some (.one (.fz _ _ _ _ _))=>NV V.tt s k T x f
    | some (.one (.rd _ (.tree _ _ _) _))=>N1 V.tt s k T x f
    | _=>T2 V.tt s k T x f
  | .load T x=>match opd s x with
    | some (.elr _ _ _ _ _ _ _)=>T3 V.tt s k T x
    | some (.elo _ _ _ _ _ _ _ _)=>T6 V.tt s k T x
    | some (.one (.fz _ _ _ _ _))=>NU V.tt s k T x
    | some (.one (.fzf _ _ _ _ _))=>NU V.tt s k T x
    | _=>T5 V.tt s k T x
  | .store T x y=>match opd s x with
    | some (.elo h _ _ _ _ _ _ _)=>match H7 h s.chs with
      | some _=>Ny V.tt s k T x y
      | none=>Nr V.tt s k T x y
    | _=>Np V.tt s k T x y
  | .nilCheck x=>Wa s k x
  | .slice T x (some lo) (some hi) (some mx)=>Oq V.tt s k T x lo hi mx
  | .slice T x lo hi none=>match opd s x with
    | some (.vw _ _ _ _ _ _)=>Ez V.tt s k T x lo hi
    | some (.xv _ _ _ _ _ _ _)=>Ez V.tt s k T x lo hi
    | some (.one (.own _))=>match aaN o.dst V.an with
     | true=>Ez V.tt s k T x lo hi
     | false=>match aaP o.dst V.an with
      | true=>(match lo,hi with
        | none,some hi=>Ow V.tt s k T x hi
        | _,_=>none)
      | false=>match lo with
      | some _=>match YI o.dst V.an with
        | true=>N4 V.tt s k T x lo hi
        | false=>N5 V.tt s k T x lo hi
      | none=>match YI o.dst V.an with
        | true=>N6 V.tt s k T x lo hi
        | false=>N3 V.tt s k T x lo hi
    | some (.one (.val (.string _)))=>OD V.tt s k T x lo hi
    | _=>N2 V.tt s k T x lo hi
  | .box T x=>abD s k T x
  | .alloc T=>T4 V.tt s k T
  | .build T parts=>T8 V.tt s k T parts
  | .buildSlice T m parts=>abF V.tt V.an s k o.dst T m parts
  | .makeSlice T x y=>Yo V.tt V.an s k o.dst T x y
  | .call c=>Ww V s k o.dst c
  | .makeFunc f x y=>Uf s k f x y
  | .makeMap T none=>abL V.tt s k T
  | .convert S D x=>match opd s x with
    | some (.one (.val (.int _ _)))=>Yl V.tt s k S D x
    | _=>Un V.tt s k S D x
  | .mapUpdate T m x y=>Wu V.tt s k T m x y
  | .insert T m x y=>Wu V.tt s k T m x y
  | .lookup T m x two=>Up V.tt s k T m x two
  | _=>none
end
section
variable {Y:Type} {V:Env} {s:Sg} {k:Res->Option Y} {P:Program} {w0:World} {o:Oper} {res:Y}
theorem aaQ {α:Type} {a:Array α} {x:α} (h:a.toList= [x]):a= #[x]:=Array.ext' h
theorem YJ {α:Type} {a:Array α} {x y:α} (h:a.toList= [x,y]):a= #[x,y]:=Array.ext' h
theorem R9 (w:TTok P V.tt) (b:FTok P V.ft) {c:Call} (l:o.op= .call c) (h:Ww V s k o.dst c=some res):Oks P w0 s o k res:=by
 have ⟨n,args,u⟩:=c;unfold Ww at h;split at h
 ·grind[builtin,aaQ,Rh,RK,VT]
 ·grind[builtin,YJ,al,RL,RZ,VY,RU]
 ·grind[builtin,aaQ,LL]
 ·grind[builtin,YJ,Oy,RB]
 ·grind[builtin,min,YJ,Wb]
 ·grind[builtin,max,YJ,Wc]
 ·rename_i g t;obtain rfl:n= .value (.func g):=t;split at h
  ·rename_i q e;have ⟨f,i,e⟩:=bind_some e;split at h
   ·rename_i a;exact NS b (fun m d=>by
     obtain rfl:f=m:=ae (i.symm.trans d);exact ((b.get i).cl q e).2.1 a) l h
   ·rename_i x r p;obtain rfl:args= #[x]:=aaQ p;split at h
    ·rename_i j;exact Ws b (fun m d=>by
      obtain rfl:f=m:=ae (i.symm.trans d);exact ((b.get i).cl q e).2.2 j) l h
    ·rename_i j;have ⟨a,v⟩:=ai h;rw[aj] at a;exact Oc (((b.get i).cl q e).1.2.1 (by grind) r (by grind) j) l v
   ·rename_i x y r p;obtain rfl:args= #[x,y]:=YJ p;split at h
    ·rename_i a;exact Wq (((b.get i).cl q e).1.2.2 a) l h
    ·have ⟨a,j⟩:=ai h;exact RV (((b.get i).cl q e).1.1 a) l j
   grind
  grind[NQ]
 ·grind[NR,NT]
 grind
theorem OK (a:TTok P V.tt) (c:FTok P V.ft) (h:step V s k o=some res):Oks P w0 s o k res:=by
 unfold step at h;split at h
 ·exact JC (.inl ‹_›) h
 ·exact JC (.inr ‹_›) h
 ·exact Re ‹_› h
 ·exact VR ‹_› h
 ·exact VS ‹_› h
 ·have b:= ‹o.op=_›;split at h
  ·exact RT b h
  ·split at h
   ·exact N8 a b h
   ·exact N8 a b h
   ·exact Ih a b h
   ·exact Ih a b h
   ·exact Ih a b h
   ·exact R0 a b h
   ·exact Nl a b h
 ·exact R1 a ‹_› h
 ·exact H2 ‹_› h
 ·have b:= ‹o.op=_›;split at h
  ·split at h
   ·exact LQ a b h
   ·exact Lq a b h
  ·exact Dh a b h
  ·exact Dh a b h
  ·exact Ln a b h
 ·have b:= ‹o.op=_›;split at h
  ·exact Ly a b h
  ·exact Lz a b h
  ·exact Nm a b h
 ·have b:= ‹o.op=_›;split at h
  ·exact Nn a b h
  ·exact Nv a b h
  ·exact Gj a b h
  ·exact Gj a b h
  ·exact Nu a b h
 ·have b:= ‹o.op=_›;split at h
  ·split at h
   ·exact Lu a b h
   ·exact Lr a b h
  ·exact Lp a b h
 ·exact Ry ‹_› h
 ·exact LK a ‹_› h
 ·have b:= ‹o.op=_›;split at h
  ·exact xQ a b h
  ·exact xQ a b h
  ·split at h
   ·exact xQ a b h
   ·split at h
    ·split at h
     ·exact LP a b h
     ·cases h
    ·split at h
     ·split at h
      ·exact LC a b h
      ·exact LD a b h
     ·split at h
      ·exact LF a b h
      ·exact LB a b h
  ·exact LR a b h
  ·exact LA a b h
 ·exact VU ‹_› h
 ·exact Ns a ‹_› h
 ·exact Nw a ‹_› h
 ·exact VX a ‹_› h
 ·exact Rj a ‹_› h
 ·exact R9 a c ‹_› h
 ·exact NW ‹_› h
 ·exact Wv a ‹_› h
 ·have b:= ‹o.op=_›;split at h
  ·exact Rf a b h
  ·exact OF a b h
 ·exact J7 a (.inl ‹_›) h
 ·exact J7 a (.inr ‹_›) h
 ·exact OJ a ‹_› h
 ·cases h
end
inductive Gd
 | no | skip | bad
 | yes (t:Nat) (b neg want:Bool)
def guardOf (ops:List Oper) (s:Sg) (o:Oper):Gd:=match o.guard with
 | none=>.no
 | some (g,want)=>match ops[g]? with
  | some p=>match p.dst with
   | some t=>match look s.env t with
    | some (.one (.val (.bool b)))=>.yes t b false want
    | some (.one (.nb b))=>.yes t b true want
    | some .und=>.skip
    | _=>.bad
   | none=>.bad
  | none=>.bad
def Iu (s:Sg) (t:Nat) (b:Bool):Sg:=⟨(t,s.nxt,.one (.val (.bool b)))::s.env,s.chs,s.nxt+1⟩
def AW:AV->List Hdr
 | .one (.own h)=>[h]
 | .agg xs=>xs.flatMap fun x=>match x with | .own h=>[h] | _=>[]
 | .elo h _ _ _ _ _ _ _=>[h]
 | _=>[]
def wD:List Hdr->Sg->Sg
 | [],s=>s
 | h::hs,s=>wD hs (settle 4 h s)
def Dj (s:Sg):List Operand->List Hdr
 | [] =>[]
 | x::xs=>(match opd s x with | some v=>AW v | none=>[])++Dj s xs
def aaR (o:Oper):List Operand:=match o.op with
 | .store _ _ y=>[y]
 | .build _ parts=>parts.toList.map (·.2)
 | .buildSlice _ _ parts=>parts.toList.map (·.2)
 | .call c=>c.args.toList
 | .box _ x=>[x]
 | .binOp _ _ x _ _=>[x]
 | .nilCheck x=>[x]
 | _=>[]
def abM (o:Bool):AV->List (Bool×Hdr)
 | .one (.own h)=>[(false,h)]
 | .one (.ptr h off)=>if o&&Nat.beq off 0 then [(true,h)] else []
 | .agg xs=>xs.flatMap fun x=>match x with | .own h=>[(false,h)] | .ptr h off=>if o&&Nat.beq off 0 then [(true,h)] else [] | _=>[]
 | _=>[]
def aaS (s:Sg) (o:Bool):List Operand->List (Bool×Hdr)
 | [] =>[]
 | x::xs=>(match opd s x with | some v=>abM o v | none=>[])++aaS s o xs
def keeps (o:Oper):Bool:=match o.op with
 | .binOp _ _ _ _ _=>false
 | .nilCheck _=>false
 | _=>true
def OL:List LV->List (Bool×Hdr)
 | [] =>[]
 | .own h::l=>(false,h)::OL l
 | _::l=>OL l
def ldH (s:Sg) (o:Oper):List (Bool×Hdr):=match o.op with
 | .load _ x=>match opd s x with
  | some (.one (.ptr h _))=>match rf h s.chs with
   | some b=>OL b.cells
   | none=>[]
  | _=>[]
 | _=>[]
def Wx:Trs->Bool
 | [] =>false
 | q::l=>Nat.beq q.2.1 0 || Wx l
def ldF (tr:Trs) (s:Sg) (o:Oper):List (Bool×Hdr):=match Wx tr with
 | true=>ldH s o
 | false=>[]
def OM:Trs->Trs
 | [] =>[]
 | q::l=>match Nat.beq q.2.1 0 with
  | true=>OM l
  | false=>q::OM l
def aaT (s:Sg) (o:Oper):Bool:=match o.op with
 | .store _ x _=>match opd s x with
  | some (.one (.ptr _ _))=>true
  | _=>false
 | .call c=>match c.callee with
  | .value _=>false
  | .builtin .len=>false
  | _=>true
 | _=>false
def abN (tr:Trs) (s:Sg) (o:Oper):List (Bool×Hdr):=match Wx tr&&aaT s o with
 | true=>[]
 | false=>aaS s (keeps o) (aaR o)
def ON:Trs->Trs
 | [] =>[]
 | q::l=>match q.2.2 with
  | .str=>ON l
  | _=>q::ON l
def YK:Trs->Bool
 | [] =>false
 | q::l=>(match q.2.2 with
  | .raw=>true
  | _=>false) || YK l
def aca (tr:Trs) (s:Sg) (o:Oper):List (Bool×Hdr):=match YK tr,o.op with
 | true,.assign x=>aaS s false [x]
 | _,_=>[]
def Sa (tr:Trs) (o:Oper) (s:Sg):Sg:=match tr with
 | [] =>s
 | _=>RF (ON tr) (aca tr s o++abN (ON tr) s o) s
def aag (tr:Trs) (o:Oper) (s0:Sg):Sg:=match rj s0 with
 | s=>Sa tr o (LS o (wD (Dj s o.op.operands.toList) s))
section
variable {Y:Type} (V:Env) (all:List Oper) (k:Sg->Option Y)
noncomputable def Sb (kont:Sg->Option Y) (o:Oper) (s:Sg):Option Y:=match guardOf all s o with
 | .bad=>none
 | .no=>bO (okO V.n s o) (match Wi V.tt s o with
  | some q=>Ul q.2.xs.length fun c=>kont (after s o.dst (Um q c))
  | none=>step V s (fun r=>kont (after s o.dst r)) o)
 | .skip=>bO (dstOk V.n o.dst) (kont (skip s o.dst))
 | .yes t b neg want=>if b then (match (!neg)==want with
   | true=>bO (okO V.n (Iu s t (!neg)) o) (step V (Iu s t (!neg)) (fun r=>kont (after (Iu s t (!neg)) o.dst r)) o)
   | false=>bO (dstOk V.n o.dst) (kont (skip (Iu s t (!neg)) o.dst)))
  else (match neg==want with
   | true=>bO (okO V.n (Iu s t neg) o) (step V (Iu s t neg) (fun r=>kont (after (Iu s t neg) o.dst r)) o)
   | false=>bO (dstOk V.n o.dst) (kont (skip (Iu s t neg) o.dst)))
noncomputable def J8:List Oper->Sg->Option Y
 | [],s=>k s
 | o::os,s=>Sb V all (J8 os) o (aag V.tr o s)
end
section
variable {Y:Type} {V:Env} {P:Program} {I:Hp} {w0 w:World} {F:Ch} {J:Hp} {θ:Th} {s:Sg} {a:Act} {res:Y} {Q:Exit->Act->World->Prop}
theorem LW {h:Hdr} {g:Sg} (hs:H8 h s=some g) (u:Sim P I w0 F V.n J θ s a w):Fr s θ g θ:=by
 have ⟨r,k,hs⟩:=bind_some hs;have ⟨q,m,hs⟩:=bind_some hs;have hp:=zT k;have ⟨l,j,t,n,p⟩:=FZ m;cases i:q.1 with
 | true =>
  rw[i] at hs;cases ae (show some _=some g from hs);refine ⟨Nat.le_succ _,Same.rfl,fun e d _=>d,fun e d o f c b=>?_⟩;rcases aA d with rfl | d
  ·obtain ⟨rfl,b⟩:=b;rcases b with ⟨rfl,rfl⟩ | b
   ·exact .inr ⟨r.ent h,hp.mem_iff.2 (by simp),rfl,.inr ⟨rfl,rfl⟩⟩
   ·exact b.elim
  grind
 | false =>
  rw[i] at hs;cases ae (show some _=some g from hs);refine ⟨Nat.le_succ _,Same.rfl,fun e d _=>d,fun e d o f c b=>?_⟩;rcases aA d with rfl | d
  ·obtain ⟨rfl,b⟩:=b;rcases b with ⟨rfl,rfl⟩ | b
   ·grind
   ·exact b.elim
  grind
theorem Gy: ∀ {m:Nat} {h:Hdr} {s:Sg},Sim P I w0 F V.n J θ s a w->Fr s θ (settle m h s) θ
 | 0,_,_,hS=>Fr.rfl
 | m+1,h,s,hS=>by
  unfold settle;split
  ·split
   ·split
    ·rename_i b;exact (Gy hS).trans (LW b (AC hS))
    ·exact Fr.rfl
   ·exact Fr.rfl
  ·exact Fr.rfl
theorem tO: ∀ {hs:List Hdr} {s:Sg},Sim P I w0 F V.n J θ s a w->Sim P I w0 F V.n J θ (wD hs s) a w/\Fr s θ (wD hs s) θ
 | [],s,hS=>⟨hS,Fr.rfl⟩
 | h::hs,s,hS=>by
  have ⟨b,c⟩:=tO (hs:=hs) (AC (m:=4) (h:=h) hS);exact ⟨b,(Gy hS).trans c⟩
theorem Wy {t:Nat} {b:Bool} (f:Sim P I w0 F V.n J θ s a w) (g:(envL θ s).lookup t=some (.bool b)):Sim P I w0 F V.n J θ (Iu s t b) a w/\Fr s θ (Iu s t b) θ:=by
 refine ⟨⟨f.le,f.agr.sub fun u v h=>?_,f.st,fun e c=>?_,fun e c=>?_,FQ (d:=some t) (av:=.one (.val (.bool b))) f.fine.nd f.fine.ver,fun e c=>gy Same.rfl (Nat.le_succ _) Newer.rfl (f.fine.chs e c) Hp.le.rfl,f.fine.lay⟩,Nat.le_succ _,Same.rfl,fun e c h=>?_,Newer.rfl⟩
 ·have h:List.lookup u ((t,Value.bool b)::envL θ s)=some v:=h;grind
 ·rcases aA c with rfl | c
  ·rfl
  ·exact AV.ok_same Same.rfl (Nat.le_succ _) Newer.rfl (f.fine.env e c) Hp.le.rfl
 ·rcases aA c with rfl | c
  ·exact ax _
  ·exact aZ (f.fine.ver e c)
 ·rcases aA c with rfl | c
  ·grind
  omega
theorem Sc {ops:Array Oper} {o:Oper} :match guardOf ops.toList s o with
  | .no=>o.guard=none
  | .skip=> ∃g want d,o.guard=some (g,want)/\(ops[g]?).bind (·.dst)=some d/\(envL θ s).lookup d=some undef
  | .yes t b neg want=> ∃g,o.guard=some (g,want)/\(ops[g]?).bind (·.dst)=some t/\(envL θ s).lookup t=some (.bool (if neg then !b else b))
  | .bad=>True:=by
 unfold guardOf;cases i:o.guard with
 | none=>rfl
 | some gw =>
  have ⟨g,want⟩:=gw;simp only;cases hp:ops.toList[g]? with
  | none=>trivial
  | some p =>
   simp only;cases h:p.dst with
   | none=>trivial
   | some t =>
    simp only;have e:(ops[g]?).bind (·.dst)=some t:=by
     rw[<-Array.getElem?_toList,hp];exact h
    cases f:look s.env t with
    | none=>trivial
    | some v =>
     have c:=iB (θ:=θ) f;cases v with
     | one x =>
      cases x with
      | val u =>
       cases u with
       | bool b=>exact ⟨g,rfl,e,c⟩
       | _=>trivial
      | nb b=>exact ⟨g,rfl,e,c⟩
      | _=>trivial
     | und=>exact ⟨g,want,t,rfl,e,c⟩
     | _=>trivial
theorem EG {o:Oper} {r:Res} (b:GoodA P w0 J θ s o r) (c:Sim P I w0 F V.n J θ s a w) {θ':Th} (hs:Same s.nxt θ θ'):Fr s θ (after s o.dst r) θ' :=
 Fr.put hs (Res.newer b.perm b.says)
theorem Sd (E:TTok P V.tt) (M:FTok P V.ft) {ops:Array Oper} {rest:List Oper} {o:Oper} {i:Sg->Option Y} (h:Sb V ops.toList i o s=some res) (y:Sim P I w0 F V.n J θ s a w)
  (K: ∀s' θ' m v,i s'=some res->Sim P I w0 F V.n J θ' s' m v->Fr s θ s' θ'->wpList P ops Q rest m v):wpList P ops Q (o::rest) a w:=by
 have D:=Sc (θ:=θ) (s:=s) (ops:=ops) (o:=o);have run: ∀l,Sim P I w0 F V.n J θ l a w->Fr s θ l θ->(∀g want,o.guard=some (g,want)-> ∃d,(ops[g]?).bind (·.dst)=some d/\(envL θ l).lookup d=some (.bool want))->bO (okO V.n l o) (step V l (fun r=>i (after l o.dst r)) o)=some res->wpList P ops Q (o::rest) a w:=by
  intro l f n B h;have ⟨p,h⟩:=ai h;obtain ⟨r,C,x⟩:=OK E M h;cases j:o.guard with
  | none=>exact T0 (x.at f.fine) f j p fun θ' m v z k=>K _ θ' m v C k (n.trans (EG (x.at f.fine) f z))
  | some gw =>
   have ⟨g,want⟩:=gw;have ⟨d,A,u⟩:=B g want j;exact VN (x.at f.fine) f j A u rfl p fun θ' m v z k=>K _ θ' m v C k (n.trans (EG (x.at f.fine) f z))
 have X: ∀l,Sim P I w0 F V.n J θ l a w->Fr s θ l θ-> ∀g want d b,o.guard=some (g,want)->(ops[g]?).bind (·.dst)=some d->(envL θ l).lookup d=some (.bool b)->b=(!want)->bO (dstOk V.n o.dst) (i (skip l o.dst))=some res->wpList P ops Q (o::rest) a w:=by
  intro l f n g want d b j A u L h;have ⟨p,h⟩:=ai h;exact Rb f j A u L p fun m k=>K _ θ m w h k (n.trans (Fr.put Same.rfl Newer.rfl))
 unfold Sb at h;split at h
 ·cases h
 ·have ⟨p,G⟩:=ai h;split at G
  ·rename_i q N;have ⟨W,H,x⟩:=RS E N y;grind[Ip,T0,EG]
  ·refine run s y Fr.rfl (fun g want e=>by grind) ?_;rw[p];exact G
 ·rename_i j;rw[j] at D;have ⟨g,want,d,O,U,R⟩:=D;have ⟨p,h⟩:=ai h;exact Lk y O U R p fun m k=>K _ θ m w h k (Fr.put Same.rfl Newer.rfl)
 ·rename_i t b neg want j;have both: ∀c:Bool,(envL θ s).lookup t=some (.bool c)->(match c==want with
    | true=>bO (okO V.n (Iu s t c) o) (step V (Iu s t c) (fun r=>i (after (Iu s t c) o.dst r)) o)
    | false=>bO (dstOk V.n o.dst) (i (skip (Iu s t c) o.dst)))=some res->wpList P ops Q (o::rest) a w:=by
   intro c S h;have ⟨W,H⟩:=Wy y S;have T:(envL θ (Iu s t c)).lookup t=some (.bool c):=by
    show List.lookup t ((t,Value.bool c)::envL θ s)=_;grind
   split at h
   ·grind
   ·grind
  grind
theorem Wz {tr:Trs} {o:Oper} (l:Sim P I w0 F V.n J θ s a w): ∃b θ',J.le b/\Sim P I w0 F V.n b θ' (aag tr o s) a w/\Fr s θ (aag tr o s) θ':=by
 have ⟨θ1,n,d⟩:=zU l;have ⟨h,e⟩:=tO (hs:=Dj (rj s) o.op.operands.toList) n;have ⟨m,c,f,g⟩:=R4 (o:=o) h
 show∃b θ',J.le b/\Sim P I w0 F V.n b θ' (Sa tr o (LS o (wD (Dj (rj s) o.op.operands.toList) (rj s)))) a w/\Fr s θ (Sa tr o (LS o (wD (Dj (rj s) o.op.operands.toList) (rj s)))) θ'
 unfold Sa;split
 ·exact ⟨m,θ1,c,f,(d.trans e).trans g⟩
 ·obtain ⟨b,θ',i,j,k⟩:=vm f;exact ⟨b,θ',c.trans i,j,((d.trans e).trans g).trans k⟩
theorem Gz (p:TTok P V.tt) (n:FTok P V.ft) {ops:Array Oper} {k:Sg->Option Y} : ∀ {l:List Oper} {s:Sg} {J:Hp} {θ:Th} {a:Act} {w:World},J8 V ops.toList k l s=some res->Sim P I w0 F V.n J θ s a w->
  (∀c J' θ' j i,k c=some res->Sim P I w0 F V.n J' θ' c j i->J.le J'->Fr s θ c θ'->Q .normal j i)->wpList P ops Q l a w
 | [],s,J,θ,a,w,h,hS,K=>wpList_nil (K s J θ a w h hS Hp.le.rfl Fr.rfl)
 | o::os,s,J,θ,a,w,h,hS,K=>by
  have ⟨A,θ1,x,v,q⟩:=Wz (tr:=V.tr) (o:=o) hS;exact Sd p n (show Sb V ops.toList (J8 V ops.toList k os) o (aag V.tr o s)=some res from h) v fun c θ' j i u d g =>
   Gz p n u d fun r z θ2 t y m e f b=>K r z θ2 t y m e (x.trans f) ((q.trans g).trans b)
end
end R
end Go.Proofs.YtncnbjfngmhfaaaGreatDoor
