/- FnExactEnginePoll: for every input the law returns true and changes nothing that was there. Part 4 of 9. -/
import Derived.Test.YteapgmibbpckoaaGreatDoorEC2
set_option synthInstance.maxSize 20000
set_option synthInstance.maxHeartbeats 2000000
set_option linter.unusedVariables false
set_option linter.unusedSimpArgs false
set_option linter.unnecessarySimpa false
set_option linter.unusedSectionVars false
set_option maxRecDepth 1000000
namespace Go.Proofs.YteapgmibbpckoaaGreatDoor
open Go.IntKind (i64)
namespace R
open Go.RowKit
open D
section
variable {P:Program} {I:Hp} {w0:World} {o:Oper} {ev:Operand->Value}
theorem PP {x:Operand} {a:Addr} (b:o.op= .nilCheck x) (c:ev x= .pointer (some a)):OpT P I w0 o ev [] (· = .pointer (some a)) (fun _=>[]):=
 bt fun w=>by simp_all[execOp]
theorem acK {x y:Operand} {T U:TypeId} {m n:Int} (a:o.op= .call { callee:=.builtin .min,args:= #[x,y],argTypes:= #[T,U] }) (b:ev x= .int .i64 m) (c:ev y= .int .i64 n):OpT P I w0 o ev [] (· = .int .i64 (min m n)) (fun _=>[]):=
 bt fun w=>by
  have e:min m n=if n<m then n else m:=by omega
  simp_all[execOp,resolve,invoke,builtin,Builtin.min_,Builtin.min2]
theorem acL {x y:Operand} {T U:TypeId} {m n:Int} (a:o.op= .call { callee:=.builtin .max,args:= #[x,y],argTypes:= #[T,U] }) (b:ev x= .int .i64 m) (c:ev y= .int .i64 n):OpT P I w0 o ev [] (· = .int .i64 (max m n)) (fun _=>[]):=
 bt fun w=>by
  have e:max m n=if m<n then n else m:=by omega
  simp_all[execOp,resolve,invoke,builtin,Builtin.max_,Builtin.max2]
theorem HC {t e:TypeId} {a:Option Addr} {w:World} (b:P.underlying t=some (.pointer e)):(Op.equal t (.pointer a) (.pointer none)).run P w= .ok a.isNone w:=by
 have key: ∀n,(Op.equalIn (n+1) t (.pointer a) (.pointer none)).run P w= .ok a.isNone w:=fun n=>by
  unfold Op.equalIn;rw[Sem.run_bind,run_underlying b,Result.andThen_ok];cases a <;> rfl
 exact key 9999
theorem T8 {t e:TypeId} {a:Option Addr} {l c:Nat} {w:World} (b:P.underlying t=some (.slice e)):(Op.equal t (.slice a l c) (.slice none 0 0)).run P w= .ok (K0 (.slice a l c)) w:=by
 have key: ∀n,(Op.equalIn (n+1) t (.slice a l c) (.slice none 0 0)).run P w= .ok (K0 (.slice a l c)) w:=fun n=>by
  unfold Op.equalIn;rw[Sem.run_bind,run_underlying b,Result.andThen_ok];cases a <;> rfl
 exact key 9999
theorem NB {x y:Operand} {t u e:TypeId} {a:Option Addr} {l c:Nat} (i:P.underlying t=some (.slice e)) (f:o.op= .binOp .eql t x y u) (g:ev x= .slice a l c) (h:ev y= .slice none 0 0):OpT P I w0 o ev [] (· = .bool (K0 (.slice a l c))) (fun _=>[]):=
 bt fun w=>by
  have b:eqGuard .eql t x y (.slice a l c) (.slice none 0 0)=pure ():=rfl;have d:binOp .eql t (.slice a l c) (.slice none 0 0)=(do pure (.bool (<-Op.equal t (.slice a l c) (.slice none 0 0)))):=rfl;simp_all[execOp,Sem.run_bind,Sem.run_pure,T8,Result.andThen_ok]
theorem T9 {x y:Operand} {t u e:TypeId} {a:Option Addr} (h:P.underlying t=some (.pointer e)) (d:o.op= .binOp .eql t x y u) (f:ev x= .pointer a) (g:ev y= .pointer none):OpT P I w0 o ev [] (· = .bool a.isNone) (fun _=>[]):=
 bt fun w=>by
  have b:eqGuard .eql t x y (.pointer a) (.pointer none)=pure ():=rfl;have c:binOp .eql t (.pointer a) (.pointer none)=(do pure (.bool (<-Op.equal t (.pointer a) (.pointer none)))):=rfl;simp_all[execOp,Sem.run_bind,Sem.run_pure,HC,Result.andThen_ok]
theorem Ua {x y:Operand} {t u e:TypeId} {a:Option Addr} (h:P.underlying t=some (.pointer e)) (d:o.op= .binOp .neq t x y u) (f:ev x= .pointer a) (g:ev y= .pointer none):OpT P I w0 o ev [] (· = .bool (!a.isNone)) (fun _=>[]):=
 bt fun w=>by
  have b:eqGuard .neq t x y (.pointer a) (.pointer none)=pure ():=rfl;have c:binOp .neq t (.pointer a) (.pointer none)=(do pure (.bool (!(<-Op.equal t (.pointer a) (.pointer none))))):=rfl;simp_all[execOp,Sem.run_bind,Sem.run_pure,HC,Result.andThen_ok]
end
section
variable {Y:Type} (tt:TT) (s:Sg) (k:Res->Option Y)
def acM (x:Operand):Option Y:=match opd s x with
 | some (.one (.ptr h off))=>k (.pure s (.one (.ptr h off)))
 | some (.one (.rd h (.tree T E t) d))=>(Tr.get d).bind fun _=>k (.pure s (.one (.rd h (.tree T E t) d)))
 | _=>none
def ahf (x y:Operand):Option Y:=match opd s x,opd s y with
 | some (.one (.val (.int .i64 m))),some (.one (.val (.int .i64 n)))=>kv s k (.int .i64 (min m n))
 | _,_=>none
def ahg (x y:Operand):Option Y:=match opd s x,opd s y with
 | some (.one (.val (.int .i64 m))),some (.one (.val (.int .i64 n)))=>kv s k (.int .i64 (max m n))
 | _,_=>none
def ahh (b:BinOp) (T:TypeId) (x y:Operand):Option Y:=(td tt T).bind fun q=>q.pt.bind fun _=>match opd s x,opd s y with
 | some (.one (.rd h (.tree T' E t) d)),some (.one (.val v))=>bW (Hx v) (match b with
  | .eql=>kv s k (.bool d.isNil)
  | .neq=>k (.pure s (.one (.nb d.isNil)))
  | _=>none)
 | some (.one (.ptr h off)),some (.one (.val v))=>bW (Hx v) (match b with
  | .eql=>kv s k (.bool false)
  | .neq=>kv s k (.bool true)
  | _=>none)
 | _,_=>none
def agD (b:BinOp) (T:TypeId) (x y:Operand):Option Y:=(td tt T).bind fun q=>q.el.bind fun _=>match opd s x,opd s y,b with
 | some (.one (.rdn h b (.sl E t) d)),some (.one (.val v)),.eql=>bW (isNil v) (kv s k (.bool b))
 | some (.one (.own h)),some (.one (.val v)),.eql=>bW (isNil v) ((rowOf h s.chs).bind fun r=>(chk (0<(r.xs.length:Int))).bind fun _=>k ⟨[r.ent h],[],r.rest,[],.one (.val (.bool false))⟩)
 | some (.one (.val u)),some (.one (.val v)),.eql=>bW (isNil v&&isNil u) (kv s k (.bool true))
 | _,_,_=>none
def Ub (T:TypeId) (x:Operand) (f:Nat):Option Y:=(td tt T).bind fun d=>(d.fields[f]?).bind fun q=>match opd s x with
 | some (.one (.rd h (.tree T' E t) a))=>(Tr.get a).bind fun p=>k (.pure s (.one (.fz h T' (.prod t (.sl E (.tree T' E t))) p q.1)))
 | _=>none
def ahi (s:Sg) (x:Operand):Option (Hdr×(E:TypeId)×(t:Ty)×List t.den):=match opd s x with
 | some (.one (.rd h (.sl E t) xs))=>some (h,⟨E,t,xs⟩)
 | _=>none
def asI (s:Sg) (x:Operand):Option Int:=match opd s x with
 | some (.one (.val (.int .i64 m)))=>some m
 | _=>none
def XV (E:TypeId) (t:Ty) (xs:List t.den):Option Y:=k (.pure s (.one (.rd ⟨s.nxt,[]⟩ (.sl E t) xs)))
def Uc (T:TypeId) (x:Operand) (lo hi:Option Operand):Option Y:=(td tt T).bind fun d=>d.el.bind fun E'=>(td tt E').bind fun e=>(ahi s x).bind fun r=>bW (Nat.beq e.n r.2.2.1.size) (match lo,hi with
 | some l,none=>(asI s l).bind fun l=>(chk (0<=l/\l<=(r.2.2.2.length:Int))).bind fun _=>XV s k r.2.1 r.2.2.1 (r.2.2.2.drop l.toNat)
 | none,some h=>(asI s h).bind fun h=>(chk (0<=h/\h<=(r.2.2.2.length:Int))).bind fun _=>XV s k r.2.1 r.2.2.1 (r.2.2.2.take h.toNat)
 | some l,some h=>(asI s l).bind fun l=>(asI s h).bind fun h=>(chk (0<=l/\l<=h/\h<=(r.2.2.2.length:Int))).bind fun _=>XV s k r.2.1 r.2.2.1 ((r.2.2.2.take h.toNat).drop l.toNat)
 | none,none=>none)
def Ud (T:TypeId) (x:Operand) (lo hi:Option Operand):Option Y:=(td tt T).bind fun d=>match d.el,opd s x,lo,hi with
 | some E',some (.one (.own h)),none,some hi=>(rowOf h s.chs).bind fun r=>(td tt E').bind fun e=>bW (Nat.beq e.n r.t.size) ((asI s hi).bind fun m=>(chk (0<=m/\m<=(r.xs.length:Int))).bind fun _=>newRow s k r.E r.t [r.ent h] r.rest (r.xs.take m.toNat))
 | _,_,_,_=>none
def Ue (T:TypeId) (x:Operand) (lo hi:Option Operand):Option Y:=(td tt T).bind fun d=>match d.el,opd s x,lo,hi with
 | some E',some (.one (.own h)),some lo,none=>(rowOf h s.chs).bind fun r=>(td tt E').bind fun e=>bW (Nat.beq e.n r.t.size) ((asI s lo).bind fun m=>(chk (0<=m/\m<=(r.xs.length:Int))).bind fun _=>newRow s k r.E r.t [r.ent h] r.rest (r.xs.drop m.toNat))
 | _,_,_,_=>none
def Uf (T:TypeId) (x:Operand) (lo hi:Option Operand):Option Y:=(td tt T).bind fun d=>match d.el,opd s x,lo,hi with
 | some E',some (.one (.own h)),some lo,none=>(rowOf h s.chs).bind fun r=>(td tt E').bind fun e=>bW (Nat.beq e.n r.t.size) ((asI s lo).bind fun m=>(chk (0<=m/\m<=(r.xs.length:Int))).bind fun _=>k ⟨[r.ent h],[],r.rest,[],.sub h r.ver r.E r.t r.xs m⟩)
 | _,_,_,_=>none
def Ug (T:TypeId) (x:Operand) (lo hi:Option Operand):Option Y:=(td tt T).bind fun d=>match d.el,opd s x,lo,hi with
 | some E',some (.one (.own h)),none,some hi=>(rowOf h s.chs).bind fun r=>(td tt E').bind fun e=>bW (Nat.beq e.n r.t.size) ((asI s hi).bind fun m=>(chk (0<=m/\m<=(r.xs.length:Int))).bind fun _=>k ⟨[r.ent h],[],r.rest,[],.pre h r.ver r.E r.t r.xs m⟩)
 | _,_,_,_=>none
structure Src0 where
 h:Hdr
 sub:Bool
 ver:Nat
 lo:Int
def aaK:AV->Option Src0
 | .one (.own h)=>some ⟨h,false,0,0⟩
 | .sub h ver _ _ _ l=>some ⟨h,true,ver,l⟩
 | _=>none
def aaL (h:Hdr) (ver:Nat) (E:TypeId) (k1:IntKind) (xs:List Int) (rest:List Ent) (lo:Int) (y:AV):Option Y:=match y with
 | .one (.rd _ (.sl _ (.int k2)) ys)=>bW (k1==k2) ((chk (0<=lo/\lo<=(xs.length:Int))).bind fun _=>k ⟨[],[(h,ver,.own (.sl E (.int k1)) xs)],rest,[(h,.own (.sl E (.int k1)) (KM xs lo.toNat ys))],.one (.val (.int .i64 ((min ys.length (xs.length - lo.toNat):Nat):Int)))⟩)
 | .pre h2 v2 _ _ _ hi=>bW (Hdr.beq h2 h&&Nat.beq v2 ver) ((chk (0<=lo/\lo<=(xs.length:Int))).bind fun _=>(chk (0<=hi/\hi<=(xs.length:Int))).bind fun _=>k ⟨[],[(h,ver,.own (.sl E (.int k1)) xs)],rest,[(h,.own (.sl E (.int k1)) (KM xs lo.toNat (xs.take hi.toNat)))],.one (.val (.int .i64 ((min (xs.take hi.toNat).length (xs.length - lo.toNat):Nat):Int)))⟩)
 | _=>none
def NC (r:Row):Option ((k:IntKind)×List Int):=match r.t,r.xs with
 | .int k,xs=>some ⟨k,xs⟩
 | _,_=>none
def ae7 (T:TypeId) (x y:Operand):Option Y:=(td tt T).bind fun d=>d.el.bind fun E=>(td tt E).bind fun e=>bW (Nat.beq e.n 1) ((opd s x).bind fun xv=>(aaK xv).bind fun c=>(rowOf c.h s.chs).bind fun r=>bW (Nat.beq r.E E&&(!c.sub || Nat.beq c.ver r.ver)) ((NC r).bind fun q=>(opd s y).bind fun yv=>aaL k c.h r.ver r.E q.1 q.2 r.rest c.lo yv))
def Uh (E b:Nat) (x:Operand):Option Y:=match opd s x with
 | some (.sub h ver E' t xs l)=>(rowOf h s.chs).bind fun r=>bW (Nat.beq r.ver ver&&(t.sh&&Nat.beq t.size 1)) ((cr b [] (xs.drop l.toNat)).bind fun zs=>k ⟨[r.ent h],[],r.rest,[(⟨s.nxt,[]⟩,.own (.sl E t) zs)],.one (.own ⟨s.nxt,[]⟩)⟩)
 | some (.one (.own h))=>(rowOf h s.chs).bind fun r=>bW (r.t.sh&&Nat.beq r.t.size 1) ((cr b [] r.xs).bind fun zs=>k ⟨[r.ent h],[],r.rest,[(⟨s.nxt,[]⟩,.own (.sl E r.t) zs)],.one (.own ⟨s.nxt,[]⟩)⟩)
 | some (.one (.rd h (.sl E' t) xs))=>bW (t.sh&&Nat.beq t.size 1) ((cr b [] xs).bind fun zs=>newRow s k E t [] s.chs zs)
 | _=>none
end
section
variable {Y:Type} {tt:TT} {s:Sg} {k:Res->Option Y} {P:Program} {w0:World} {o:Oper} {res:Y} {x y:Operand}
theorem XW {av:AV} {fact:Hp->Th->Value->Prop} (c: ∀J θ,Fine P w0 J θ s->OpT P J w0 o (evL (envL θ s)) [] (fact J θ) (fun _=>[])) (b: ∀J θ v,Fine P w0 J θ s->fact J θ v->av.ok P w0 J (upd θ s.nxt v) (s.nxt+1) s.chs/\av.v (upd θ s.nxt v)=v):Good P w0 s o (Res.pure s av):=
 ⟨List.Perm.refl _,fun _ _ _ g a=>(by cases a),fun J θ d=>OpT.weak (c J θ d) (fun v hv=>by
  have ⟨e,f⟩:=b J θ v d hv;exact ⟨e,f,fun g a=>by cases a⟩) (fun v hv=>rfl)⟩
theorem XX (j:o.op= .nilCheck x) (h:acM s k x=some res):Oks P w0 s o k res:=by
 unfold acM at h;split at h
 ·rename_i g off c;exact ⟨_,h,fj (fun J θ a=>PP j (aG c)) fun J θ a=>bQ a c⟩
 ·rename_i g T E t d c;have ⟨p,hp,h⟩:=bind_some h;refine ⟨_,h,fj (fun J θ a=>?_) fun J θ a=>bQ a c⟩;have f:=bQ a c;obtain ⟨b,e,-⟩:=Ps (E:=E) f.2 hp;have i:=(aG c).trans e;grind[PP,aG]
 grind
theorem acN {T U:TypeId} (a:o.op= .call { callee:=.builtin .min,args:= #[x,y],argTypes:= #[T,U] }) (h:ahf s k x y=some res):Oks P w0 s o k res:=by
 unfold ahf at h;split at h
 ·rename_i m n b c;exact mw h rfl fun J θ d=>acK a (aG b) (aG c)
 grind
theorem acO {T U:TypeId} (a:o.op= .call { callee:=.builtin .max,args:= #[x,y],argTypes:= #[T,U] }) (h:ahg s k x y=some res):Oks P w0 s o k res:=by
 unfold ahg at h;split at h
 ·rename_i m n b c;exact mw h rfl fun J θ d=>acL a (aG b) (aG c)
 grind
theorem Ui (A:TTok P tt) {b:BinOp} {t u:TypeId} (n:o.op= .binOp b t x y u) (h:ahh tt s k b t x y=some res):Oks P w0 s o k res:=by
 have ⟨q,r,h⟩:=bind_some h;have ⟨e,w,h⟩:=bind_some h;have c:=(A.get r).pt e w;split at h
 ·rename_i z C E B d v l i;have ⟨g,h⟩:=ak h;have g:=DH g;subst g;have key: ∀J θ,Fine P w0 J θ s-> ∃a:Option Addr,evL (envL θ s) x= .pointer a/\a.isNone=d.isNil:=fun J θ f=>by
   have p:=bQ f l;have ⟨a,j,m⟩:=Xz p.2;exact ⟨a,(aG l).trans j,m⟩
  split at h
  ·refine mw h rfl fun J θ f=>?_;have ⟨a,j,m⟩:=key J θ f;rw[<-m];exact T9 c n j (aG i)
  ·refine ⟨_,h,fj (fun J θ f=>?_) fun _ _ _=>trivial⟩;have ⟨a,j,m⟩:=key J θ f;rw[<-m];exact Ua c n j (aG i)
  grind
 ·rename_i z off v l i;have ⟨g,h⟩:=ak h;have g:=DH g;subst g;split at h
  ·exact mw h rfl fun J θ f=>T9 c n (aG l) (aG i)
  ·exact mw h rfl fun J θ f=>Ua c n (aG l) (aG i)
  grind
 grind
theorem ND (H:TTok P tt) {b:BinOp} {t u:TypeId} (p:o.op= .binOp b t x y u) (h:agD tt s k b t x y=some res):Oks P w0 s o k res:=by
 have ⟨q,C,h⟩:=bind_some h;have ⟨e,D,h⟩:=bind_some h;have c:=(H.get C).el e D;split at h
 ·rename_i B Q E N d v f i _ _;have ⟨a,h⟩:=ak h;have a:=pO a;subst a;refine mw h rfl fun J θ m=>?_;have n:=bQ m f;obtain ⟨O,⟨z,cap,l,-⟩,w⟩:=n;have l:hv θ B= .slice z d.length cap:=by simpa using l
  rw[l] at w;rw[<-w];exact NB c p ((aG f).trans l) (aG i)
 ·rename_i B v f i _ _;have ⟨a,h⟩:=ak h;have a:=pO a;subst a;have ⟨r,L,h⟩:=bind_some h;have ⟨R,A,h⟩:=bind_some h;have A:=bH A;obtain ⟨hp,-⟩:=bK L;refine ⟨_,h,qy hp,aS rfl,fun J θ m=>OpT.weak (ym (fact:=(· = .bool false)) fun G=>?_) (fun u j=>?_) (fun u j=>rfl)⟩
  ·have ⟨z,cap,F,I,S⟩:=G;obtain ⟨M,off,rfl⟩:=I (by omega);exact NB c p ((aG f).trans F) (aG i)
  ·subst j;exact ⟨Eq.refl true,rfl,fun g K=>by cases K⟩
 ·rename_i u v f i _ _;have ⟨a,h⟩:=ak h;rw[al] at a;have hv:=pO a.1;have j:=pO a.2;subst hv;subst j;exact mw h rfl fun J θ m=>NB c p (aG f) (aG i)
 grind
theorem Rn (B:TTok P tt) {T:TypeId} {f:Nat} (A:o.op= .fieldAddr T x f) (h:Ub tt s k T x f=some res):Oks P w0 s o k res:=by
 have ⟨d,w,h⟩:=bind_some h;have ⟨q,z,h⟩:=bind_some h;split at h
 ·rename_i l r E t a u;have ⟨p,hp,h⟩:=bind_some h;have i:=(B.get w).fld f q z;have key: ∀J θ,Fine P w0 J θ s->l.id<s.nxt/\ ∃b,hv θ l= .pointer (some ⟨b,0,none⟩)/\ ∃cells:List Value,J b=some (.cells cells.toArray r (0,0))/\(Ty.prod t (.sl E (.tree r E t))).rep.rd J cells p:=fun J θ c=>by
   have g:=bQ c u;have ⟨b,e,cells,n,m⟩:=Ps (E:=E) g.2 hp;exact ⟨g.1,b,e,cells,n,m⟩
  refine ⟨_,h,fj (fun J θ c=>?_) fun J θ c=>?_⟩
  ·obtain ⟨-,b,e,-⟩:=key J θ c;have j:=(aG u).trans e
   have:=oo (P:=P) (I:=J) (w0:=w0) i A j
   rw[Nat.zero_add] at this;show OpT P J w0 o _ [] (· = .pointer (some ⟨bk (hv θ l),q.1,none⟩)) _;rw[e];exact this
  ·have ⟨v,b,e,cells,n,m⟩:=key J θ c;exact ⟨v,cells,by rw[e];exact n,m⟩
 grind
theorem acP {r:Hdr×(E:TypeId)×(t:Ty)×List t.den} (h:ahi s x=some r):opd s x=some (.one (.rd r.1 (.sl r.2.1 r.2.2.1) r.2.2.2)):=by
 grind[ahi,ae]
theorem qA {m:Int} (h:asI s x=some m) (θ:Th):evL (envL θ s) x= .int .i64 m:=by
 unfold asI at h;split at h
 ·rename_i a;cases ae h;exact aG a
 grind
theorem I6 {E:TypeId} {t:Ty} {xs:List t.den} (h:XV s k E t xs=some res) (a: ∀J θ,Fine P w0 J θ s->OpT P J w0 o (evL (envL θ s)) [] (fun v=>(Ty.sl E t).rep.rd J [v] xs) (fun _=>[])):Oks P w0 s o k res:=
 ⟨_,h,XW (fact:=fun J θ v=>(Ty.sl E t).rep.rd J [v] xs) a fun J θ v c b=>⟨⟨ay _,by grind[dQ]⟩,dQ⟩⟩
theorem Ro (r:TTok P tt) {T:TypeId} {lo hi:Option Operand} (n:o.op= .slice T x lo hi none) (h:Uc tt s k T x lo hi=some res):Oks P w0 s o k res:=by
 have ⟨d,w,h⟩:=bind_some h;have ⟨D,A,h⟩:=bind_some h;have ⟨e,B,h⟩:=bind_some h;have ⟨⟨C,E,t,z⟩,F,h⟩:=bind_some h;have l:=acP F;have ⟨q,h⟩:=ak h;have q:=aw q;have i:=(r.get w).el D A;have g:=(r.get B).ti;have key: ∀J θ,Fine P w0 J θ s->(ah E t.rep).rd J [hv θ C] z:=fun J θ c=>(bQ c l).2;have f:=t.rep_size.trans q.symm;split at h
 ·have ⟨m,j,h⟩:=bind_some h;have ⟨u,b,h⟩:=bind_some h;have b:=bH b;refine I6 h fun J θ c=>OpT.weak (yj i g (Hd.of_rd (key J θ c)) n (aG l) (qA j θ) b) (fun v a=>?_) (fun v a=>rfl);subst a;exact Pq (key J θ c) (by grind) f
 ·have ⟨m,j,h⟩:=bind_some h;have ⟨u,b,h⟩:=bind_some h;have b:=bH b;refine I6 h fun J θ c=>OpT.weak (yk i g (Hd.of_rd (key J θ c)) n (aG l) (qA j θ) b) (fun v a=>?_) (fun v a=>rfl);subst a;exact Xv (key J θ c) (by omega) f
 ·have ⟨m,j,h⟩:=bind_some h;have ⟨G,p,h⟩:=bind_some h;have ⟨u,b,h⟩:=bind_some h;have b:=bH b;refine I6 h fun J θ c=>OpT.weak (KY i g (Hd.of_rd (key J θ c)) n (aG l) (qA j θ) (qA p θ) b) (fun v a=>?_) (fun v a=>rfl);subst a;exact Pp (key J θ c) (by omega) (by omega) f
 grind
theorem XY {α:Type} {E:TypeId} {R:Rep α} {I:Hp} {w:World} {C:List Ch} {v:Value} {xs:List α} {m n:Nat} (h:St I w0 w (Ch.own (ah E R) [v] xs::C)) (U:m<=xs.length) (Q:R.size=n):St I w0 w (Ch.own (ah E R) [uf v m xs.length n] (xs.drop m)::C):=by
 obtain ⟨j,r,F,⟨G,K,rfl,k,e⟩,i,q⟩:=h;have ⟨L,k⟩:=k;have t:(xs.drop m).length=xs.length - m:=bF;rcases k with ⟨p,rfl,rfl⟩ | ⟨g,c,cap,cur,V,p,B,O,T,N,rfl,u⟩
 ·obtain rfl:v= .slice none 0 0:=by grind
  obtain rfl:m=0:=by grind
  refine ⟨j,r,[] ++K,⟨[],K,rfl,⟨by simp,.inl ⟨?_,rfl,rfl⟩⟩,e⟩,i,q⟩
  rfl
 ·rw[<-List.take_append_drop m xs] at u;obtain ⟨S,J,f,a,D,A,rfl,-,z⟩:=u.cut2;have hp:((g::(f++a))++K).Perm (((g::a)++K)++f):=by
   rw[aD]
   have:((f++a)++K).Perm (a++(K++f)):=by
    rw[aD,<-aD a K f];exact List.perm_append_comm
   exact this.cons g
  have H:cur.toList.drop (c+m*R.size)=J:=by
   rw[<-List.drop_drop,D]
   have:(xs.take m).length=m:=by rw[aB];omega
   rw[this] at A;exact List.drop_left' A
  by_cases M:cap=m
  ·have d:xs.drop m= []:=List.eq_nil_of_length_eq_zero (by omega);rw[d] at z;obtain rfl:a= []:=z;refine ⟨j,r,(g:: [])++K,⟨g:: [],K,rfl,⟨by omega,.inr ⟨g,c,0,cur,[],?_,B,by omega,Nat.zero_le _,by omega,rfl,by rw[d];rfl⟩⟩,e⟩,(List.nodup_append.1 (hp.nodup_iff.1 i)).1,fun b l=>q b (hp.mem_iff.2 (bq _ l))⟩;grind[uf,sliced]
  ·refine ⟨j,r,(g::a)++K,⟨g::a,K,rfl,⟨by omega,.inr ⟨g,c+m*R.size,cap - m,cur,a,?_,B,by omega,by omega,?_,rfl,by grind⟩⟩,e⟩,(List.nodup_append.1 (hp.nodup_iff.1 i)).1,fun b l=>q b (hp.mem_iff.2 (bq _ l))⟩
   ·grind[uf,sliced,Addr.add_mid]
   ·have:m*R.size+(cap - m)*R.size=cap*R.size:=by rw[<-Nat.add_mul];congr 1;omega
    omega
theorem XZ {α:Type} {E:TypeId} {R:Rep α} {I:Hp} {w:World} {C:List Ch} {v:Value} {xs:List α} {m n:Nat} (h:St I w0 w (Ch.own (ah E R) [v] xs::C)) (L:m<=xs.length) (J:R.size=n):St I w0 w (Ch.own (ah E R) [uf v 0 m n] (xs.take m)::C):=by
 obtain ⟨j,r,F,⟨G,K,rfl,k,e⟩,i,q⟩:=h;have ⟨D,k⟩:=k;have l:(xs.take m).length=m:=by rw[aB];omega
 rcases k with ⟨f,rfl,rfl⟩ | ⟨g,d,cap,cur,M,f,B,H,A,u,rfl,p⟩
 ·obtain rfl:v= .slice none 0 0:=by grind
  obtain rfl:m=0:=by grind
  refine ⟨j,r,[] ++K,⟨[],K,rfl,⟨by simp,.inl ⟨?_,rfl,rfl⟩⟩,e⟩,i,q⟩
  rfl
 ·rw[<-List.take_append_drop m xs] at p;obtain ⟨a,c,rfl,z,-⟩:=p.parts;have hp:((g::(a++c))++K).Perm (((g::a)++K)++c):=by
   rw[aD];show (g::((a++c)++K)).Perm (g::(a++(K++c)));rw[aD];exact (List.perm_append_comm.append_left a).cons g
  refine ⟨j,r,(g::a)++K,⟨g::a,K,rfl,⟨by omega,.inr ⟨g,d,cap,cur,a,?_,B,by omega,A,u,rfl,z⟩⟩,e⟩,(List.nodup_append.1 (hp.nodup_iff.1 i)).1,fun b t=>q b (hp.mem_iff.2 (bq _ t))⟩;grind[uf,sliced,Addr.add]
theorem Rp (i:TTok P tt) {T:TypeId} {lo hi:Option Operand} (t:o.op= .slice T x lo hi none) (h:Ud tt s k T x lo hi=some res):Oks P w0 s o k res:=by
 have ⟨d,n,h⟩:=bind_some h;split at h
 ·rename_i G c j q A _;have ⟨r,E,h⟩:=bind_some h;have ⟨e,p,h⟩:=bind_some h;have ⟨f,h⟩:=ak h;have f:=aw f;have ⟨m,D,h⟩:=bind_some h;have ⟨u,a,h⟩:=bind_some h;have a:=bH a;obtain ⟨hp,-⟩:=bK E;have b:=r.t.rep_size.trans f.symm;refine ⟨_,h,good_row (rs:=[]) (Gu hp) fun J θ F=>?_⟩;have l:OpT P J w0 o (evL (envL θ s)) [Ch.own (ah r.E r.t.rep) [hv θ c] r.xs] (· =uf (hv θ c) 0 m.toNat e.n) (fun _=>[Ch.own (ah r.E r.t.rep) [hv θ c] r.xs]):=ym fun z=>yk ((i.get n).el _ q) (i.get p).ti z t (aG A) (qA D θ) a;refine OpT.post l fun v w C g B=>⟨trivial,?_⟩
  subst g;exact XZ B (by omega) b
 grind
theorem Rq (i:TTok P tt) {T:TypeId} {lo hi:Option Operand} (q:o.op= .slice T x lo hi none) (h:Ue tt s k T x lo hi=some res):Oks P w0 s o k res:=by
 have ⟨d,l,h⟩:=bind_some h;split at h
 ·rename_i G c A p z _;have ⟨r,E,h⟩:=bind_some h;have ⟨e,n,h⟩:=bind_some h;have ⟨f,h⟩:=ak h;have f:=aw f;have ⟨m,D,h⟩:=bind_some h;have ⟨u,a,h⟩:=bind_some h;have a:=bH a;obtain ⟨hp,-⟩:=bK E;have b:=r.t.rep_size.trans f.symm;refine ⟨_,h,good_row (rs:=[]) (Gu hp) fun J θ F=>?_⟩;have j:OpT P J w0 o (evL (envL θ s)) [Ch.own (ah r.E r.t.rep) [hv θ c] r.xs] (· =uf (hv θ c) m.toNat r.xs.length e.n) (fun _=>[Ch.own (ah r.E r.t.rep) [hv θ c] r.xs]):=ym fun t=>yj ((i.get l).el _ p) (i.get n).ti t q (aG z) (qA D θ) a;refine OpT.post j fun v w C g B=>⟨trivial,?_⟩
  subst g;exact XY B (by omega) b
 grind
theorem Uj {h:Hdr} {ver:Nat} {E:TypeId} {t:Ty} {xs:List t.den} {l:Int} {J:Hp} {θ:Th} {r:Row} (b:rowOf h s.chs=some r) (hv:r.ver=ver) (a:AV.ok P w0 J θ s.nxt s.chs (.sub h ver E t xs l)):r.ent h=(h,ver,.own (.sl E t) xs):=by
 obtain ⟨hp,-⟩:=bK b
 have:=a.2.2.2 (r.ent h) (hp.mem_iff.2 (by simp)) _ ⟨rfl,.inl ⟨hv,rfl⟩⟩
 show (h,r.ver,Chk.own (.sl r.E r.t) r.xs)=_;rw[hv,show Chk.own (.sl r.E r.t) r.xs=_ from this]
theorem Rr (l:TTok P tt) {T:TypeId} {lo hi:Option Operand} (v:o.op= .slice T x lo hi none) (h:Uf tt s k T x lo hi=some res):Oks P w0 s o k res:=by
 have ⟨d,p,h⟩:=bind_some h;split at h
 ·rename_i D b A t z _;have ⟨r,n,h⟩:=bind_some h;have ⟨e,q,h⟩:=bind_some h;have ⟨f,h⟩:=ak h;have f:=aw f;have ⟨m,C,h⟩:=bind_some h;have ⟨u,c,h⟩:=bind_some h;have c:=bH c;obtain ⟨hp,-⟩:=bK n;refine ⟨_,h,qy hp,aS rfl,fun J θ i=>OpT.weak (ym (fact:=(· =uf (hv θ b) m.toNat r.xs.length e.n)) fun w=>yj ((l.get p).el _ t) (l.get q).ti w v (aG z) (qA C θ) c) (fun u j=>?_) (fun u j=>rfl)⟩;have a:=ma i hp;refine ⟨⟨aW a.1,c,(zi n a.2.1).newer (Res.newer (qy hp) (aS rfl J θ i)) (Nat.le_succ _)⟩,?_,fun g B=>by cases B⟩;rw[j,f];show uf (hv (upd θ s.nxt _) b) _ _ _=uf (hv θ b) _ _ _;rw[show hv (upd θ s.nxt _) b=hv θ b from a7 Same.upd a.1]
 grind
theorem Rs (l:TTok P tt) {T:TypeId} {lo hi:Option Operand} (w:o.op= .slice T x lo hi none) (h:Ug tt s k T x lo hi=some res):Oks P w0 s o k res:=by
 have ⟨d,q,h⟩:=bind_some h;split at h
 ·rename_i D b p v A _;have ⟨r,n,h⟩:=bind_some h;have ⟨e,t,h⟩:=bind_some h;have ⟨f,h⟩:=ak h;have f:=aw f;have ⟨m,C,h⟩:=bind_some h;have ⟨u,c,h⟩:=bind_some h;have c:=bH c;obtain ⟨hp,-⟩:=bK n;refine ⟨_,h,qy hp,aS rfl,fun J θ i=>OpT.weak (ym (fact:=(· =uf (hv θ b) 0 m.toNat e.n)) fun z=>yk ((l.get q).el _ v) (l.get t).ti z w (aG A) (qA C θ) c) (fun u j=>?_) (fun u j=>rfl)⟩;have a:=ma i hp;refine ⟨⟨aW a.1,c,(zi n a.2.1).newer (Res.newer (qy hp) (aS rfl J θ i)) (Nat.le_succ _)⟩,?_,fun g B=>by cases B⟩;rw[j,f];show uf (hv (upd θ s.nxt _) b) _ _ _=uf (hv θ b) _ _ _;rw[show hv (upd θ s.nxt _) b=hv θ b from a7 Same.upd a.1]
 grind
theorem PQ {e:Ent} {rest:List Ent} {t:Ty} {d:t.den} {v:Value} (hp:s.chs.Perm (e::rest)) (h1:v.oneCell'=true) (c: ∀J θ,Fine P w0 J θ s->OpT P J w0 o (evL (envL θ s)) [toCh P θ e] (· =v) (fun _=>[Ch.own t.rep [hv θ e.1] d])):Good P w0 s o ⟨[],[e],rest,[(e.1,.own t d)],.one (.val v)⟩:=by
 refine ⟨Gu hp,aS rfl,fun J θ b=>OpT.weak (c J θ b) (fun u f=>?_) (fun u f=>?_)⟩
 ·have a:=ma b hp;refine ⟨h1,f.symm,fun g h=>?_⟩;cases ax h;exact ⟨aW a.1,ay _,trivial⟩
 ·have a:=ma b hp;show [Ch.own t.rep [hv θ e.1] d] = [Ch.own t.rep [hv (upd θ s.nxt u) e.1] d];rw[show hv (upd θ s.nxt u) e.1=hv θ e.1 from a7 Same.upd a.1]
theorem NF {r:Row} {q:(k:IntKind)×List Int} {h:Hdr} (a:NC r=some q):r.ent h=(h,r.ver,.own (.sl r.E (.int q.1)) q.2):=by
 have ⟨d,E,t,f,rest⟩:=r;unfold NC at a;split at a
 ·rename_i k b c e;cases ae a;subst c;cases eq_of_heq e
  rfl
 grind
theorem X0 (Q:TTok P tt) {T U:TypeId} (N:o.op= .call { callee:=.builtin .copy,args:= #[x,y],argTypes:= #[T,U] }) (h:ae7 tt s k T x y=some res):Oks P w0 s o k res:=by
 have ⟨d,W,h⟩:=bind_some h;have ⟨E,Z,h⟩:=bind_some h;have ⟨e,he,h⟩:=bind_some h;have ⟨H,h⟩:=ak h;have H:=aw H;have ⟨xv,I,h⟩:=bind_some h;have ⟨c,p,h⟩:=bind_some h;have ⟨r,R,h⟩:=bind_some h;have ⟨b,h⟩:=ak h;rw[al] at b;have i:=aw b.1;have ⟨q,X,h⟩:=bind_some h;have ⟨yv,B,h⟩:=bind_some h;obtain ⟨hp,-⟩:=bK R;have f:=NF (h:=c.h) X;rw[f,i] at hp;have z:=(Q.get W).el E Z;have t:(P.info? E).map (·.size)=some 1:=by have:=(Q.get he).ti;rw[H] at this;exact aeU this
 have w: ∀J θ,Fine P w0 J θ s->(evL (envL θ s) x=hv θ c.h/\c.lo.toNat=0)\/evL (envL θ s) x=uf (hv θ c.h) c.lo.toNat q.2.length 1:=by
  intro J θ g;unfold aaK at p;split at p
  ·cases ae p;exact .inl ⟨aG I,rfl⟩
  ·rename_i hh n O V G l;cases ae p;have D:n=r.ver:=aw (by grind);have A:=Uj R D.symm (bQ g I);rw[f] at A;have S:=(Prod.mk.inj (Prod.mk.inj A).2).2
   injection S with C M
   injection C with h5 F
   subst F;cases eq_of_heq M;right;rw[aG (θ:=θ) I]
   rfl
  ·cases p
 unfold aaL at h;split at h
 ·rename_i hh O k2 ys;have ⟨j,h⟩:=ak h;have j:q.1=k2:=by simpa using j
  subst j;have ⟨u,a,h⟩:=bind_some h;have a:=bH a;rw[i] at h;refine ⟨_,h,PQ (e:=(c.h,r.ver,.own (.sl E (.int q.1)) q.2)) hp rfl fun J θ g=>?_⟩;have K:c.lo.toNat<=q.2.length:=by omega
  exact Nm (lo:=c.lo.toNat) (bQ g B).2 z t N rfl (aG B) K (w J θ g)
 ·rename_i S v2 O V G hi;have ⟨j,m⟩:=ak h;rw[al] at j;have e1:=Hdr.beq_eq j.1;subst e1;have e2:=aw j.2;subst e2;have ⟨u,a,m⟩:=bind_some m;have a:=bH a;have ⟨u,v,m⟩:=bind_some m;have v:=bH v;have K:c.lo.toNat<=q.2.length:=by omega
  have l2:hi.toNat<=q.2.length:=by omega
  rw[i] at m;refine ⟨_,m,PQ (e:=(c.h,r.ver,.own (.sl E (.int q.1)) q.2)) hp rfl fun J θ g=>?_⟩;have L:=bQ g B;have A:=L.2.2.2 (c.h,r.ver,.own (.sl E (.int q.1)) q.2) (hp.mem_iff.2 (by simp)) _ ⟨rfl,.inl ⟨rfl,rfl⟩⟩
  injection A with C M
  injection C with h5 F
  subst F;exact II (lo:=c.lo.toNat) (hi:=hi.toNat) z t N rfl ((aG B).trans rfl) K l2 (w J θ g)
 grind
inductive All2 {α β:Type} (p:α->β->Prop):List α->List β->Prop
 | nil:All2 p [] []
 | cons {a:α} {b:β} {l:List α} {m:List β} (h:p a b) (k:All2 p l m):All2 p (a::l) (b::m)
theorem All2.length_eq {α β:Type} {p:α->β->Prop} {l:List α} {m:List β} (h:All2 p l m):l.length=m.length:=by
 induction h with
 | nil=>rfl
 | cons _ _ ih=>grind
theorem Uk {α:Type} {R:Rep α} (d:R.Sh) (h1:R.size=1) {I:Hp} {w:World} : ∀ {xs:List α} {cur:List Value} {K:List Nat},OwnEls R I w cur xs K-> ∃b:List Raw,K= [] /\OwnEls M6 I w cur b [] /\All2 (fun p x=>R.rd I [p.1] x) b xs
 | [],cur,K,h=>⟨[],h,rfl,.nil⟩
 | x::xs,cur,K,⟨c,rest,G,K1,e1,e2,e3,e4,e5⟩=>by
  obtain ⟨rfl,a⟩:=d e4;obtain ⟨p,rfl⟩:=List.length_eq_one_iff.1 (e2.trans h1);obtain ⟨b,rfl,e,f⟩:=Uk d h1 e5;exact ⟨⟨p,R.rd_one a p (by simp)⟩::b,e3,⟨[p],rest,[],[],e1,rfl,rfl,⟨rfl,rfl⟩,e⟩,.cons a f⟩
theorem Ul {α:Type} {R:Rep α} (d:Cpy R R) (h1:R.size=1) {I:Hp} {w:World} : ∀ {xs:List α} {ps:List Raw} {cur:List Value} {K:List Nat},OwnEls M6 I w cur ps K->All2 (fun p x=>R.rd I [p.1] x) ps xs->K= [] /\OwnEls R I w cur xs []
 | [],[],cur,K,h,_=>⟨h,rfl⟩
 | x::xs,p::ps,cur,K,h,hh=>by
  have ⟨c,rest,G,j,f,i,g,a,e⟩:=h;cases hh with
  | cons hp b =>
   obtain ⟨rfl,a⟩:=a;obtain rfl:c= [p.1]:=a;obtain ⟨rfl,k⟩:=Ul d h1 e b;exact ⟨g,[p.1],rest,[],[],f,h1.symm,rfl,d hp,k⟩
 | [],_::_,_,_,_,hh=>by cases hh
 | _::_,[],_,_,_,hh=>by cases hh
theorem acQ {α:Type} {E:TypeId} {R:Rep α} (t:R.Sh) (h1:R.size=1) {I:Hp} {w:World} {C:List Ch} {v:Value} {xs:List α} (h:St I w0 w (Ch.own (ah E R) [v] xs::C)): ∃b:List Raw,All2 (fun p x=>R.rd I [p.1] x) b xs/\St I w0 w (Ch.own (ah E M6) [v] b::C):=by
 obtain ⟨n,d,F,⟨G,K,rfl,⟨A,k⟩,e⟩,f,m⟩:=h;rcases k with ⟨a,rfl,rfl⟩ | ⟨g,c,cap,cur,D,a,z,B,u,l,rfl,q⟩
 ·exact ⟨[],.nil,n,d,[] ++K,⟨[],K,rfl,⟨Nat.zero_le _,.inl ⟨a,rfl,rfl⟩⟩,e⟩,f,m⟩
 ·obtain ⟨b,rfl,r,j⟩:=Uk t h1 q;have i:=j.length_eq;exact ⟨b,j,n,d,[g] ++K,⟨[g],K,rfl,⟨by omega,.inr ⟨g,c,cap,cur,[],by grind,z,by omega,u,by rw[h1] at l;exact l,rfl,r⟩⟩,e⟩,f,m⟩
theorem NG {α:Type} {E:TypeId} {R:Rep α} (r:Cpy R R) (h1:R.size=1) {I:Hp} {w:World} {C:List Ch} {v:Value} {xs:List α} {ps:List Raw} (hp:All2 (fun p x=>R.rd I [p.1] x) ps xs) (h:St I w0 w (Ch.own (ah E M6) [v] ps::C)):St I w0 w (Ch.own (ah E R) [v] xs::C):=by
 obtain ⟨j,c,F,⟨G,K,rfl,⟨u,k⟩,e⟩,d,i⟩:=h;have f:=hp.length_eq;rcases k with ⟨a,rfl,rfl⟩ | ⟨g,b,cap,cur,A,a,t,z,q,l,rfl,m⟩
 ·cases hp;exact ⟨j,c,[] ++K,⟨[],K,rfl,⟨Nat.zero_le _,.inl ⟨a,rfl,rfl⟩⟩,e⟩,d,i⟩
 ·obtain ⟨rfl,n⟩:=Ul r h1 m hp;exact ⟨j,c,[g] ++K,⟨[g],K,rfl,⟨by omega,.inr ⟨g,b,cap,cur,[],by grind,t,by omega,q,by rw[h1];exact l,rfl,n⟩⟩,e⟩,d,i⟩
theorem ae8 {α:Type} {E:TypeId} {R:Rep α} (h1:R.size=1) {I:Hp} {v:Value} {xs:List α} (h:(ah E R).rd I [v] xs): ∃d:List Raw,All2 (fun p x=>R.rd I [p.1] x) d xs/\(ah E M6).rd I [v] d:=by
 obtain ⟨n,cap,e,r,h⟩:=h;obtain rfl:v= .slice n xs.length cap:=by grind
 rcases h with rfl | ⟨b,off,a,t,A,rfl,B,D⟩
 ·exact ⟨[],.nil,n,cap,rfl,r,.inl rfl⟩
 ·have key: ∀(xs:List α) (f:Nat),(∀i x,xs[i]? =some x-> ∃c:List Value,c.length=R.size/\(∀j,j<R.size->a.toList[off+(f+i)*R.size+j]? =c[j]?)/\R.rd I c x)-> ∃d:List Raw,All2 (fun p x=>R.rd I [p.1] x) d xs/\ ∀i p,d[i]? =some p->a.toList[off+(f+i)]? =some p.1:=by
   intro xs;induction xs with
   | nil=>intro f _;exact ⟨[],.nil,fun i p hp=>by grind⟩
   | cons x xs ih =>
    intro f h;have ⟨c,w,H,m⟩:=h 0 x rfl;obtain ⟨p,rfl⟩:=List.length_eq_one_iff.1 (w.trans h1);have ⟨d,g,z⟩:=ih (f+1) fun i y C=>by
     have:=h (i+1) y (by grind)
     grind
    refine ⟨⟨p,R.rd_one m p (by simp)⟩::d,.cons m g,fun i u F=>?_⟩;cases i with
    | zero =>
     obtain rfl:⟨p,R.rd_one m p (by simp)⟩=u:=by grind
     simp_all
    | succ i =>
     grind
  have ⟨d,g,z⟩:=key xs 0 (fun i x G=>by grind);have q:=g.length_eq;refine ⟨d,g,_,cap,by grind,by omega,.inr ⟨b,off,a,t,A,rfl,B,fun i p hp=>?_⟩⟩;refine ⟨[p.1],rfl,fun j l=>?_,rfl⟩;have l:j=0:=by have:j<1:=l;omega
  subst l;show a.toList[off+i*1+0]? =_;grind
theorem BY {α β:Type} {p:α->β->Prop} : ∀ {xs:List α} {ys:List β} (n:Nat),All2 p xs ys->All2 p (xs.drop n) (ys.drop n)
 | _,_,0,h=>h
 | _,_,n+1,.nil=>.nil
 | _,_,n+1,.cons _ h=>BY n h
theorem I7 {α:Type} {b:Nat} {xs zs:List α} (h:cr b [] xs=some zs):zs=xs/\(∀ {β:Type} (ys:List β),ys.length=xs.length->cr b [] ys=some ys):=by
 have ⟨a,c⟩:=zb h;simp_all[cr,if_pos]
theorem Lp {E':TypeId} {α:Type} {R:Rep α} (I:R.Sh) (n:Cpy R R) (h1:R.size=1) {g:FuncId} {E b:Nat} (d:AX P g E b) {xs zs:List α} {l:Nat} (N:l<=xs.length) (H:cr b [] (xs.drop l)=some zs) {v u:Value} (z:u=uf v l xs.length 1\/(l=0/\u=v)) {ts:Array TypeId} {J:Hp} {θ:Th} (f:Lay P J) (F:o.op= .call { callee:=.value (.func g),args:= #[x],argTypes:=ts }) {ev:Operand->Value} (A:ev x=u) (c:ev (.func g)= .func (.func g) #[] #[]) :
  OpT P J w0 o ev [Ch.own (ah E' R) [v] xs] (fun _=>True) (fun r=>[Ch.own (ah E' R) [v] xs,Ch.own (ah E R) [r] zs]):=by
 obtain ⟨rfl,vr⟩:=I7 H;intro w C K;have ⟨a,hp,D⟩:=acQ I h1 K;have e:=hp.length_eq;have M:OpT P J w0 o ev ([Ch.own (ah E' M6) [v] a] ++ []) (fun _=>True) (fun r=>[Ch.own (ah E' M6) [v] a] ++ [Ch.own (ah E M6) [r] (a.drop l)]):=by
  refine zp (fun v=>⟨DE (IF ae2),trivial⟩) fun m t i B=>?_;have h:=i (ah E' M6) [v] a (by simp);have j:(ah E' M6).rd m [u] (a.drop l):=by
   rcases z with rfl | ⟨rfl,rfl⟩
   ·rw[<-e];exact Pq h (by omega) rfl
   ·exact h
  exact ru d.1 F c (by grind) (d.2 E' m w0 u (a.drop l) (a.drop l) (f.mono t) j (vr _ (by grind)))
 have:=M w C (by simp_all)
 refine this.imp fun r G h=>⟨trivial,?_⟩
 have q:St J w0 G (Ch.own (ah E' M6) [v] a::Ch.own (ah E M6) [r] (a.drop l)::C):=by simpa using h.2
 have p:=NG n h1 hp q;have L:=NG n h1 (BY l hp) (p.perm (List.Perm.swap _ _ _));exact L.perm (List.Perm.swap _ _ _)
theorem X1 {E':TypeId} {α:Type} {R:Rep α} (l:Cpy R R) (h1:R.size=1) {e:FuncId} {E b:Nat} (c:AX P e E b) {xs zs:List α} (j:cr b [] xs=some zs) {v:Value} {ts:Array TypeId} {J:Hp} (d:Lay P J) (n:(ah E' R).rd J [v] xs) (i:o.op= .call { callee:=.value (.func e),args:= #[x],argTypes:=ts }) {ev:Operand->Value} (h:ev x=v) (a:ev (.func e)= .func (.func e) #[] #[]) :
  OpT P J w0 o ev [] (fun _=>True) (fun r=>[Ch.own (ah E R) [r] zs]):=by
 obtain ⟨rfl,vr⟩:=I7 j;have ⟨g,hp,f⟩:=ae8 h1 n
 have:=ru (P:=P) (w0:=w0) (o:=o) c.1 i a (by grind) (c.2 E' J w0 v g g d f (vr _ hp.length_eq))
 exact OpT.post this fun r w C _ m=>⟨trivial,NG l h1 hp m⟩
theorem Lq {e:Ent} {rest:List Ent} {E:TypeId} {t:Ty} {xs:List t.den} (hp:s.chs.Perm (e::rest)) (a: ∀J θ,Fine P w0 J θ s->OpT P J w0 o (evL (envL θ s)) [toCh P θ e] (fun _=>True) (fun v=>[toCh P θ e,Ch.own (Ty.sl E t).rep [v] xs])):Good P w0 s o ⟨[e],[],rest,[(⟨s.nxt,[]⟩,.own (.sl E t) xs)],.one (.own ⟨s.nxt,[]⟩)⟩:=
 good_row (rs:=[e]) (ns:=[]) hp fun J θ c=>fun w C b=>(a J θ c w C b).imp fun v w hv=>⟨hv.1,hv.2.perm ((List.Perm.swap _ _ _).append_right C)⟩
theorem Um {q:FuncId} {E b:Nat} (e:AX P q E b) {ts:Array TypeId} (n:o.op= .call { callee:=.value (.func q),args:= #[x],argTypes:=ts }) (h:Uh s k E b x=some res):Oks P w0 s o k res:=by
 unfold Uh at h;split at h
 ·rename_i u z A t v l f;have ⟨r,m,h⟩:=bind_some h;have ⟨a,h⟩:=ak h;rw[al,al] at a;have i:=aw a.1;have c:=aw a.2.2;have ⟨p,j,h⟩:=bind_some h;obtain ⟨hp,-⟩:=bK m;refine ⟨_,h,Lq hp fun J θ d=>?_⟩;have g:=bQ d f;have w:=Uj m i g;rw[w];refine Lp (Ty.sh_ok a.2.1) (Ty.cpy a.2.1) (t.rep_size.trans c) e (l:=l.toNat) (by have:=g.2.1;omega) j (.inl ?_) (J:=J) (θ:=θ) d.lay n rfl rfl;rw[<-c];exact aG f
 ·rename_i u f;have ⟨r,m,h⟩:=bind_some h;have ⟨a,h⟩:=ak h;rw[al] at a;have c:=aw a.2;have ⟨p,j,h⟩:=bind_some h;obtain ⟨hp,-⟩:=bK m;refine ⟨_,h,Lq hp fun J θ d=>?_⟩;exact Lp (Ty.sh_ok a.1) (Ty.cpy a.1) (r.t.rep_size.trans c) e (l:=0) (Nat.zero_le _) (by grind) (.inr ⟨rfl,aG f⟩) (J:=J) (θ:=θ) d.lay n rfl rfl
 ·rename_i u A t v f;have ⟨a,h⟩:=ak h;rw[al] at a;have c:=aw a.2;have ⟨p,j,h⟩:=bind_some h;exact ⟨_,h,good_row (rs:=[]) (ns:=[]) (List.Perm.refl _) fun J θ d=>X1 (Ty.cpy a.1) (t.rep_size.trans c) e j d.lay (bQ d f).2 n (aG f) rfl⟩
 grind
end
structure Fr (s:Sg) (θ:Th) (s':Sg) (θ':Th):Prop where
 le:s.nxt<=s'.nxt
 same:Same s.nxt θ θ'
 env: ∀e∈s'.env,e.2.1<s.nxt->e∈s.env
 chs:Newer s.nxt s.chs s'.chs
section
variable {s s1 s2:Sg} {θ θ1 θ2:Th}
theorem Fr.rfl:Fr s θ s θ:=⟨aH _,Same.rfl,fun e a _=>a,Newer.rfl⟩
theorem Fr.trans (h:Fr s θ s1 θ1) (k:Fr s1 θ1 s2 θ2):Fr s θ s2 θ2:=
 ⟨Nat.le_trans h.le k.le,h.same.trans k.same h.le,fun e d hv=>h.env e (k.env e d (aC hv h.le)) hv,fun e d g a c i=>by
  rcases k.chs e d g a c i with j | ⟨l,b,f⟩
  ·exact .inl (Nat.le_trans h.le j)
  ·exact h.chs l b g a c f⟩
theorem Fr.put {d:Option Nat} {v:AV} {chs:List Ent} (hs:Same s.nxt θ θ1) (a:Newer s.nxt s.chs chs):Fr s θ ⟨Tg d s.nxt v s.env,chs,s.nxt+1⟩ θ1:=
 ⟨Nat.le_succ _,hs,fun e b hv=>by
  grind[tk],a⟩
end
def DY (p:AV->Option AV):Nat->List (Nat×Nat×AV)->List (Nat×Nat×AV)
 | _,[] =>[]
 | k,e::l=>(match p e.2.2 with
  | some x=>(e.1,k,x)
  | none=>e)::DY p (k+1) l
section
variable {P:Program} {I J J':Hp} {w0 w:World} {F:Ch} {n:Nat} {θ θ':Th} {s:Sg} {a:Act}
theorem vk {p:AV->Option AV} {e:Nat×Nat×AV} : ∀ {l:List (Nat×Nat×AV)} {k:Nat},e∈DY p k l->(e∈l)\/(k<=e.2.1/\e.2.1<k+l.length/\ ∃e0∈l,e0.1=e.1/\p e0.2.2=some e.2.2)
 | [],k,h=>by cases h
 | e0::l,k,h=>by
  rcases az h with h | h
  ·grind
  ·rcases vk h with h | ⟨g,f,c,b,d⟩
   ·grind
   grind
theorem PR {p:AV->Option AV} : ∀ {l:List (Nat×Nat×AV)} {k:Nat},l.Pairwise (fun a b=>a.2.1≠b.2.1)->(∀e∈l,e.2.1<k)->(DY p k l).Pairwise fun a b=>a.2.1≠b.2.1
 | [],_,_,_=>List.Pairwise.nil
 | e0::l,k,h,hk=>by
  have ⟨g,d⟩:=List.pairwise_cons.1 h;refine List.pairwise_cons.2 ⟨fun e c=>?_,PR d fun e c=>aW (hk e (by grind))⟩;rcases vk c with c | ⟨f,-,-⟩
  ·grind
  grind
theorem HD {p:AV->Option AV} : ∀ {l:List (Nat×Nat×AV)} {k:Nat},(∀e∈l,e.2.2.v θ'=e.2.2.v θ)->(∀e∈l,∀x,p e.2.2=some x->x.v θ'=e.2.2.v θ)->(DY p k l).map (fun e=>(e.1,e.2.2.v θ'))=l.map fun e=>(e.1,e.2.2.v θ)
 | [],_,_,_=>rfl
 | e0::l,k,h,hp=>by
  rw[DY,List.map_cons,List.map_cons,HD (fun e b=>h e (by grind)) fun e b=>hp e (by grind)];grind
theorem Sim.repl {p:AV->Option AV} {b:List Ent} (d:Sim P I w0 F n J θ s a w) (hs:Same s.nxt θ θ') (g:J.le J') (h:St J' w0 w (b.map (toCh P θ')++ [F])) (k:Newer s.nxt s.chs b) (i: ∀e∈b,okE P w0 J' θ' (s.nxt+1) b e)
  (hp: ∀e∈s.env,∀x,p e.2.2=some x->x.ok P w0 J' θ' (s.nxt+1) b/\x.v θ'=e.2.2.v θ):Sim P I w0 F n J' θ' ⟨DY p (s.nxt+1) s.env,b,s.nxt+1+s.env.length⟩ a w/\Fr s θ ⟨DY p (s.nxt+1) s.env,b,s.nxt+1+s.env.length⟩ θ':=by
 have f:s.nxt+1<=s.nxt+1+s.env.length:=Nat.le_add_right _ _;refine ⟨⟨d.le.trans g,?_,h,fun e c=>?_,fun e c=>?_,PR d.fine.nd fun e c=>aW (d.fine.ver e c),fun e c=>gx Same.rfl f Newer.rfl (i e c) Hp.le.rfl,d.fine.lay.mono g⟩,by grind,hs,fun e c hv=>?_,k⟩
 ·have:envL θ' ⟨DY p (s.nxt+1) s.env,b,s.nxt+1+s.env.length⟩=envL θ s:=HD (fun e c=>AV.v_same hs (d.fine.env e c)) fun e c x o=>(hp e c x o).2
  rw[this];exact d.agr
 ·rcases vk c with c | ⟨-,-,m,l,-,j⟩
  ·exact AV.ok_same hs (by grind) k (d.fine.env e c) g
  ·exact AV.ok_same Same.rfl f Newer.rfl (hp m l _ j).1 Hp.le.rfl
 ·rcases vk c with c | ⟨j,q,-⟩
  ·have:=d.fine.ver e c
   grind
  omega
 ·rcases vk c with c | ⟨j,-⟩
  ·exact c
  omega
end
def ae9 (h:Hdr) (s:Sg):Option Sg:=(pull h s.chs).bind fun r=>match r.1.2.2 with
 | .box T t d=>some ⟨s.env,(h,s.nxt,.blk T (jl s.nxt (fun j=>[j]) t d 0))::((ug s.nxt (fun j=>[j]) t d 0).map (fun g=>(g.1,s.nxt,g.2))++r.2),s.nxt+1⟩
 | _=>none
section
variable {P:Program} {I J:Hp} {w0 w:World} {F:Ch} {n:Nat} {θ:Th} {s s':Sg} {a:Act} {h:Hdr}
theorem X2 (hs:ae9 h s=some s') (q:Sim P I w0 F n J θ s a w): ∃θ',Sim P I w0 F n J θ' s' a w/\Fr s θ s' θ':=by
 have ⟨r,N,hs⟩:=bind_some hs;have ⟨p,k⟩:=gf N;have ⟨⟨z,H,c⟩,rest⟩:=r;obtain rfl:z=h:=k;cases c with
 | box T t d =>
  cases ae (show some _=some s' from hs);have y:=q.fine.chs _ (p.mem_iff.2 (List.mem_cons_self ..));have D:=q.st.perm ((p.map (toCh P θ)).append_right [F]);have x:=D;have ⟨cells,x⟩:=St.box.1 x;let θ':=upd θ s.nxt (.agg cells.toArray);have b:Same s.nxt θ θ':=Same.upd;have C:=x.perm (List.Perm.swap _ _ _);have ⟨M,K,O,G⟩:=km (P:=P) (m:=s.nxt) (θ:=θ') (pth:=fun j=>[j]) (n:=s.nxt+1) (ay _) t d 0 cells _ (fun i v L=>by
   show vg (upd θ s.nxt (.agg cells.toArray) s.nxt) [0+i] =v;simp_all[ix,Nat.zero_add,aaD]) C
  have u: ∀e,e∈rest->e∈s.chs:=fun e f=>p.mem_iff.2 (bp _ f);have o:Newer s.nxt s.chs ((z,s.nxt,.blk T (jl s.nxt (fun j=>[j]) t d 0))::((ug s.nxt (fun j=>[j]) t d 0).map (fun g=>(g.1,s.nxt,g.2))++rest)):=fun e f Q A c l=>by
   rcases az f with rfl | f
   ·obtain ⟨rfl,l⟩:=l;rcases l with ⟨x,-⟩ | l
    ·grind
    ·exact l.elim
   ·rcases aN f with f | f
    ·obtain ⟨g,B,rfl⟩:=List.mem_map.1 f;rcases l.2 with ⟨x,-⟩ | l
     ·grind
     grind[zt,jE]
    grind
  refine ⟨θ',⟨q.le,?_,?_,fun e f=>AV.ok_same b (Nat.le_succ _) o (q.fine.env e f) Hp.le.rfl,fun e f=>aW (q.fine.ver e f),q.fine.nd,fun e f=>?_,q.fine.lay⟩,Nat.le_succ _,b,fun e f _=>f,o⟩
  ·show Agr n a (envL θ' s);rw[DF b q.fine.env];exact q.agr
  ·rw[List.map_cons,aU,List.map_map];have E:toCh P θ' (z,s.nxt,Chk.blk T (jl s.nxt (fun j=>[j]) t d 0))=Ch.blk (bk (hv θ z)) cells T:=by
    show Ch.blk (bk (hv θ' z)) ((jl s.nxt (fun j=>[j]) t d 0).map (·.v θ')) T=_;rw[K,a7 b y.1]
   rw[E,kh b fun e f=>q.fine.chs e (u e f)]
   have:=G.perm (List.perm_middle (l₁:=(ug s.nxt (fun j=>[j]) t d 0).map fun g=>toCh P θ' (g.1,s.nxt,g.2)))
   rw[List.cons_append,aD];exact this
  ·rcases az f with rfl | f
   ·exact ⟨aW y.1,ay _,M⟩
   ·rcases aN f with f | f
    ·obtain ⟨g,B,rfl⟩:=List.mem_map.1 f;exact vj (jE t d 0 g B) (by grind) (ay _)
    ·exact gx b (Nat.le_succ _) o (q.fine.chs e (u e f)) Hp.le.rfl
 | _=>cases hs
end
def NH:List Ent->List Hdr
 | [] =>[]
 | (h,_,.box _ _ _)::l=>h::NH l
 | _::l=>NH l
def Un:List Hdr->Sg->Sg
 | [],s=>s
 | h::hs,s=>Un hs (match ae9 h s with
  | some s'=>s'
  | none=>s)
def tn (s:Sg):Sg:=Un (NH s.chs) s
def DZ (h:Hdr):LV->Bool
 | .own h'=>Hdr.beq h' h
 | _=>false
def LV.frz (h:Hdr) (t:Ty) (d:t.den) (x:LV):LV:=match DZ h x with
 | true=>.rd h t d
 | false=>x
def AV.frz (h:Hdr) (t:Ty) (d:t.den):AV->Option AV
 | .one x=>match DZ h x with
  | true=>some (.one (.rd h t d))
  | false=>none
 | .agg xs=>match xs.any (DZ h) with
  | true=>some (.agg (xs.map (LV.frz h t d)))
  | false=>none
 | .tup ys=>match ys.any fun y=>y.2.any (DZ h) with
  | true=>some (.tup (ys.map fun y=>(y.1,y.2.map (LV.frz h t d))))
  | false=>none
 | _=>none
def Uo (h:Hdr) (t:Ty) (d:t.den) (k:Nat) (e:Ent):Ent:=match e.2.2 with
 | .blk T cells=>match cells.any (DZ h) with
  | true=>(e.1,k,.blk T (cells.map (LV.frz h t d)))
  | false=>e
 | _=>e
def aaM (h:Hdr) (y:AV) (x:AV):Option AV:=match x with
 | .one (.ptr h' off)=>match Hdr.beq h' h&&Nat.beq off 0 with
  | true=>some y
  | false=>none
 | _=>none
section
variable {P:Program} {J J':Hp} {w0:World} {n m k:Nat} {θ:Th} {h:Hdr} {t:Ty} {d:t.den} {chs:List Ent}
theorem Lr {x:LV} (a:DZ h x=true):x= .own h:=by
 unfold DZ at a;grind[Hdr.beq_eq]
theorem LV.frz_v (x:LV):(x.frz h t d).v θ=x.v θ:=by
 unfold LV.frz;split
 ·rename_i a;rw[Lr a];rfl
 ·rfl
theorem LV.frz_ok {x:LV} (e:x.ok P w0 J θ n) (b:n<=m) (f:J.le J') (a:h.id<m) (c:t.rep.rd J' [hv θ h] d):(x.frz h t d).ok P w0 J' θ m:=by
 unfold LV.frz;split
 ·exact ⟨a,c⟩
 ·exact LV.ok_same Same.rfl b e f
theorem NI (xs:List LV):(xs.map (LV.frz h t d)).map (·.v θ)=xs.map (·.v θ):=by
 grind[List.map_map,List.map_congr_left,LV.frz_v]
theorem X3 (y:Bool×List LV):mu θ (y.1,y.2.map (LV.frz h t d))=mu θ y:=by
 grind[mu,NI,LV.frz_v]
theorem AV.frz_ok {x y:AV} (a:x.frz h t d=some y) (p:x.ok P w0 J θ n chs) {c:List Ent} (o:n<=m) (l:J.le J') (f:h.id<m) (i:t.rep.rd J' [hv θ h] d):y.ok P w0 J' θ m c/\y.v θ=x.v θ:=by
 unfold AV.frz at a;split at a
 ·split at a
  ·rename_i r;cases ae a;rw[Lr r];exact ⟨⟨f,i⟩,rfl⟩
  grind
 ·split at a
  ·cases ae a;refine ⟨fun z g=>?_,?_⟩
   ·obtain ⟨j,b,rfl⟩:=List.mem_map.1 g;exact LV.frz_ok (p j b) o l f i
   ·show Value.agg _=Value.agg _;rw[NI]
  grind
 ·split at a
  ·cases ae a;refine ⟨fun z g=>?_,?_⟩
   ·obtain ⟨j,b,rfl⟩:=List.mem_map.1 g;intro u q;obtain ⟨s,e,rfl⟩:=List.mem_map.1 q;exact LV.frz_ok (p j b s e) o l f i
   ·show Value.tuple _=Value.tuple _;simp_all[List.map_map,List.map_congr_left,X3]
  grind
 grind
theorem Up (e:Ent):toCh P θ (Uo h t d k e)=toCh P θ e:=by
 have ⟨b,v,c⟩:=e;unfold Uo;split
 ·rename_i T cells a;split
  ·show Ch.blk _ ((cells.map _).map _) _=_;rw[NI];obtain rfl:c= .blk T cells:=a
   rfl
  ·rfl
 ·rfl
theorem Uq {e:Ent} {a:Hdr} {ver:Nat} {c:Chk} (hs:Says (Uo h t d k e) a ver c):ver=k\/Says e a ver c:=by
 unfold Uo at hs;split at hs
 ·split at hs
  ·rcases hs.2 with ⟨b,-⟩ | b
   ·grind
   ·exact b.elim
  grind
 grind
theorem Rt {l:List Ent} :Newer k l (l.map (Uo h t d k)):=fun e i o j c f=>by
 obtain ⟨g,b,rfl⟩:=List.mem_map.1 i;rcases Uq f with a | a
 ·exact .inl (Nat.le_of_eq a.symm)
 ·exact .inr ⟨g,b,a⟩
theorem acR {e:Ent} (j:okE P w0 J θ n chs e) {a:List Ent} (o:Newer n chs a) (g:n<m) (i:J.le J') (q:h.id<m) (s:t.rep.rd J' [hv θ h] d):okE P w0 J' θ m a (Uo h t d n e):=by
 have l:=gx Same.rfl (Nat.le_of_lt g) o j i;unfold Uo;split
 ·rename_i T cells b;split
  ·have ⟨u,v,c⟩:=e;obtain rfl:c= .blk T cells:=b;exact ⟨l.1,g,fun x r=>by
    obtain ⟨p,f,rfl⟩:=List.mem_map.1 r;exact LV.frz_ok (j.2.2 p f) (Nat.le_of_lt g) i q s⟩
  omega
 omega
end
abbrev Trs:=List (TypeId×TypeId×Ty)
def ahj (l:Trs) (T:TypeId):Option (TypeId×Ty):=match l with
 | [] =>none
 | (U,x)::l=>if Nat.beq U T then some x else ahj l T
def afa (tr:Trs):Ty->Bool
 | .tree _ _ _=>true
 | .sl E _=>match ahj tr E with
  | some q=>Nat.beq q.1 0
  | none=>false
 | _=>false
def Ur (tr:Trs) (h:Hdr) (s:Sg):Option Sg:=(pull h s.chs).bind fun r=>match r.1.2.2 with
 | .own t d=>match afa tr t with
  | true=>some ⟨DY (AV.frz h t d) (s.nxt+1) s.env,r.2.map (Uo h t d s.nxt),s.nxt+1+s.env.length⟩
  | false=>none
 | _=>none
def aaN (T E:TypeId) (t:Ty) (x:LV) (chs:List Ent):Option (List (Tr t.den)×List Ent×List Ent):=match x with
 | .own h=>(rowOf h chs).bind fun r=>(qq (.sl r.E r.t) (.sl E (.tree T E t)) r.xs).bind fun ks=>some (ks,[r.ent h],r.rest)
 | x=>(XF E (.tree T E t) x).bind fun ks=>some (ks,[],chs)
def Us (tr:Trs) (h:Hdr) (s:Sg):Option Sg:=(uS h s.chs).bind fun b=>(ahj tr b.T).bind fun q=>(eK q.2 b.cells).bind fun a=>match a.2 with
 | [kid] =>(aaN b.T q.1 q.2 kid b.rest).bind fun ks=>some ⟨DY (aaM h (.one (.rd ⟨s.nxt,[]⟩ (.tree b.T q.1 q.2) (.node a.1 ks.1)))) (s.nxt+1) s.env,ks.2.2,s.nxt+1+s.env.length⟩
 | _=>none
section
variable {P:Program} {I J:Hp} {w0 w:World} {F:Ch} {n:Nat} {θ:Th} {s s':Sg} {a:Act} {h:Hdr}
theorem Ut {m:Nat} {chs b:List Ent} (h: ∀e,e∈b->e∈chs):Newer m chs b:=fun e f i g c d=>.inr ⟨e,h e f,d⟩
theorem Uu {tr:Trs} (hs:Ur tr h s=some s') (o:Sim P I w0 F n J θ s a w): ∃v,J.le v/\Sim P I w0 F n v θ s' a w/\Fr s θ s' θ:=by
 have ⟨r,D,hs⟩:=bind_some hs;have ⟨p,k⟩:=gf D;have ⟨⟨q,i,c⟩,rest⟩:=r;obtain rfl:q=h:=k;cases c with
 | own t d =>
  have hs:(match afa tr t with
   | true=>some (⟨DY (AV.frz q t d) (s.nxt+1) s.env,rest.map (Uo q t d s.nxt),s.nxt+1+s.env.length⟩:Sg)
   | false=>none)=some s':=hs
  split at hs
  ·cases ae (show some _=some s' from hs);have m:=o.fine.chs _ (p.mem_iff.2 (List.mem_cons_self ..));have y:St J w0 w (Ch.own t.rep [hv θ q] d::(rest.map (toCh P θ)++ [F])):=o.st.perm ((p.map (toCh P θ)).append_right [F]);have ⟨v,u,j,A⟩:=y.freeze;have g: ∀e,e∈rest->e∈s.chs:=fun e f=>p.mem_iff.2 (bp _ f);have b:Newer s.nxt s.chs (rest.map (Uo q t d s.nxt)):=fun e f C i c hs=>by
    rcases Rt e f C i c hs with y | ⟨z,l,y⟩
    ·omega
    grind
   refine ⟨v,u,o.repl Same.rfl u ?_ b (fun e f=>?_) fun e f x B=>AV.frz_ok B (o.fine.env e f) (Nat.le_succ _) u (aW m.1) j⟩
   ·grind[List.map_map,List.map_congr_left,toCh,Uo,Up]
   ·obtain ⟨z,l,rfl⟩:=List.mem_map.1 f;exact acR (o.fine.chs z (g z l)) b (ay _) u (aW m.1) j
  grind
 | _=>cases hs
theorem Uv {tr:Trs} (hs:Us tr h s=some s') (z:Sim P I w0 F n J θ s a w): ∃J' θ',J.le J'/\Sim P I w0 F n J' θ' s' a w/\Fr s θ s' θ':=by
 have ⟨b,X,hs⟩:=bind_some hs;have ⟨⟨E,t⟩,hq,hs⟩:=bind_some hs;have ⟨c,Z,hs⟩:=bind_some hs;have p:=mz X;have O:=z.fine.chs _ (p.mem_iff.2 (List.mem_cons_self ..));have g:=O.2.2;have ⟨c1,Y,k1⟩:=jD (J:=J) (θ:=θ) Z g;split at hs
 ·rename_i l A;have ⟨D,d,hs⟩:=bind_some hs;cases ae hs;have W:=z.st.perm ((p.map (toCh P θ)).append_right [F]);have R:=W;have K:b.cells.map (·.v θ)=c1.map (·.v θ)++ [l.v θ]:=by rw[Y,A,aU];rfl
  let θ':=upd θ s.nxt (.pointer (some ⟨bk (hv θ h),0,none⟩));have f:Same s.nxt θ θ':=Same.upd;have key: ∃q,J.le q/\(Ty.sl E (.tree b.T E t)).rep.rd q [l.v θ] D.1/\St q w0 w (Ch.blk (bk (hv θ h)) (b.cells.map (·.v θ)) b.T::(D.2.2.map (toCh P θ)++ [F]))/\ ∀e,e∈D.2.2->e∈b.rest:=by
   unfold aaN at d;split at d
   ·rename_i hk;have ⟨r,hr,d⟩:=bind_some d;have ⟨V,o,d⟩:=bind_some d;cases ae d;obtain ⟨S,-⟩:=bK hr;have h2:St J w0 w (Ch.own (Ty.sl r.E r.t).rep [hv θ hk] r.xs::Ch.blk (bk (hv θ h)) (b.cells.map (·.v θ)) b.T::(r.rest.map (toCh P θ)++ [F])):=by
     refine (R.perm ?_:St J w0 w _)
     have:=((S.map (toCh P θ)).append_right [F]).cons (Ch.blk (bk (hv θ h)) (b.cells.map (·.v θ)) b.T)
     exact this.trans (List.Perm.swap _ _ _)
    have ⟨q,m,M,L⟩:=h2.freeze;exact ⟨q,m,jB o M,L,fun e j=>S.mem_iff.2 (bp _ j)⟩
   ·have ⟨V,o,d⟩:=bind_some d;cases ae d;exact ⟨J,Hp.le.rfl,DI o (g l (by grind)),R,fun e j=>j⟩
  have ⟨q,m,Q,u,N⟩:=key;have ⟨U,y,B,T⟩:=u.freeze_blk;have C:=m.trans y;have i:=fun e j=>p.mem_iff.2 (bp _ (N e j));have k:Newer s.nxt s.chs D.2.2:=Ut i;have v:hv θ' ⟨s.nxt,[]⟩= .pointer (some ⟨bk (hv θ h),0,none⟩):=ix;refine ⟨U,θ',C,z.repl f C ?_ k (fun e j=>gx f (Nat.le_succ _) k (z.fine.chs e (i e j)) C) fun e j x G=>?_⟩
  ·rw[kh f fun e j=>z.fine.chs e (i e j)];omega
  ·unfold aaM at G;split at G
   ·rename_i h' off H;split at G
    ·rename_i hp;cases ae G;rw[al] at hp;refine ⟨⟨ay _,?_⟩,?_⟩
     ·rw[v];rw[K] at B;exact Tb B (Rep.rd_mono _ k1 C) (Rep.rd_mono _ Q y)
     ·rw[H,Hdr.beq_eq hp.1,aw hp.2];exact v
    grind
   grind
 grind
end
def orS (x:Option Sg) (s:Sg):Sg:=match x with
 | some s'=>s'
 | none=>s
def X4 (tr:Trs):List (Bool×Hdr)->Sg->Sg
 | [],s=>s
 | (true,h)::hs,s=>X4 tr hs (orS (Us tr h s) s)
 | (false,h)::hs,s=>X4 tr hs (orS (Ur tr h s) s)
section
variable {P:Program} {I J:Hp} {w0 w:World} {F:Ch} {n:Nat} {θ:Th} {s s':Sg} {a:Act}
theorem I8: ∀ {hs:List Hdr} {s:Sg} {θ:Th},Sim P I w0 F n J θ s a w-> ∃θ',Sim P I w0 F n J θ' (Un hs s) a w/\Fr s θ (Un hs s) θ'
 | [],s,θ,hS=>⟨θ,hS,Fr.rfl⟩
 | h::hs,s,θ,hS=>by
  unfold Un;split
  ·rename_i s' f;have ⟨θ1,b,d⟩:=X2 f hS;have ⟨θ2,c,e⟩:=I8 (hs:=hs) b;exact ⟨θ2,c,d.trans e⟩
  ·exact I8 hS
theorem Dg (b:Sim P I w0 F n J θ s a w): ∃θ',Sim P I w0 F n J θ' (tn s) a w/\Fr s θ (tn s) θ':=I8 b
theorem yp {tr:Trs} : ∀ {hs:List (Bool×Hdr)} {s:Sg} {J:Hp} {θ:Th},Sim P I w0 F n J θ s a w-> ∃J' θ',J.le J'/\Sim P I w0 F n J' θ' (X4 tr hs s) a w/\Fr s θ (X4 tr hs s) θ'
 | [],s,J,θ,hS=>⟨J,θ,Hp.le.rfl,hS,Fr.rfl⟩
 | (true,h)::hs,s,J,θ,hS=>by
  unfold X4;cases g:Us tr h s with
  | some s' =>
   have ⟨k,θ1,i,b,e⟩:=Uv g hS;obtain ⟨c,θ2,j,d,f⟩:=yp (hs:=hs) b;exact ⟨c,θ2,i.trans j,d,e.trans f⟩
  | none=>exact yp hS
 | (false,h)::hs,s,J,θ,hS=>by
  unfold X4;cases g:Ur tr h s with
  | some s' =>
   have ⟨k,i,b,e⟩:=Uu g hS;obtain ⟨c,θ2,j,d,f⟩:=yp (hs:=hs) b;exact ⟨c,θ2,i.trans j,d,e.trans f⟩
  | none=>exact yp hS
end
end R
namespace D
open Go.RowKit
section
variable {P:Program} {I J:Hp} {w0 w w':World} {cs C:List Ch} {o:Oper} {ev:Operand->Value}
theorem D0 {α:Type} {R:Rep α} (a:Cpy R R): ∀ {xs:List α} {cur:List Value},(∀i x,xs[i]? =some x-> ∃c:List Value,c.length=R.size/\(∀j,j<R.size->cur[i*R.size+j]? =c[j]?)/\R.rd I c x)->OwnEls R I w cur xs []
 | [],cur,_=>rfl
 | x::xs,cur,h=>by
  have ⟨c,e,l,b⟩:=h 0 x rfl;refine ⟨c,cur.drop R.size,[],[],?_,e,rfl,a b,D0 a fun i y k=>?_⟩
  ·apply List.ext_getElem?;grind
  ·have ⟨d,m,f,g⟩:=h (i+1) y (by grind);grind
end
section
variable {P:Program} {I J:Hp} {w0 w w':World} {cs C:List Ch} {o:Oper} {ev:Operand->Value}
theorem BZ {α:Type} {E:TypeId} {R:Rep α} (b:R.Sh) {k:Nat} (q:R.size=k) {g ofs n cap:Nat} {xs:List α} (h:St I w0 w (Ch.own (ah E R) [.slice (some ⟨g,ofs,none⟩) n cap] xs::C)) :
  n=xs.length/\xs.length<=cap/\cap<=maxLen/\ ∃cur,w.heap[g]? =some (.cells cur E (0,0))/\ofs+cap*k<=cur.size/\ ∀(i:Nat) x,xs[i]? =some x-> ∃c:List Value,c.length=k/\(∀j,j<k->(cur.toList.drop ofs)[i*k+j]? =c[j]?)/\R.rd I c x:=by
 obtain ⟨y,D,F,⟨G,K,rfl,⟨v,s⟩,H⟩,u,B⟩:=h;rcases s with ⟨hv,rfl,rfl⟩ | ⟨z,f,l,cur,A,hv,t,m,r,d,rfl,e⟩
 ·simp at hv
 ·simp only[List.cons.injEq,Value.slice.injEq,Option.some.injEq,Addr.mk.injEq,and_true] at hv;obtain ⟨⟨rfl,rfl⟩,rfl,rfl⟩:=hv;obtain rfl:=e.sh b;have a:=fun i x p=>e.at Hp.le.rfl (by simp) i x p;rw[q] at a d;exact ⟨rfl,m,r,cur,t,d,a⟩
theorem D1 {α:Type} {E:TypeId} {R:Rep α} (L:R.Sh) (hC:Cpy R R) {k:Nat} (Q:R.size=k) {g ofs n cap p cnt:Nat} {xs zs:List α} {news:List Value} (hn:news.length=cnt*k) (t:p+cnt<=cap) (hz:zs.length<=cap) (l:zs.length<=lim)
  (d: ∀i z,zs[i]? =some z->(p<=i/\i<p+cnt/\ ∃c:List Value,c.length=k/\(∀j,j<k->news[(i - p)*k+j]? =c[j]?)/\R.rd I c z)\/((i<p\/p+cnt<=i)/\xs[i]? =some z))
  (h:St I w0 w (Ch.own (ah E R) [.slice (some ⟨g,ofs,none⟩) n cap] xs::C)):St I w0 (w.setCells g (ofs+p*k) news) (Ch.own (ah E R) [.slice (some ⟨g,ofs,none⟩) zs.length cap] zs::C):=by
 obtain ⟨v,hi,F,⟨G,K,rfl,⟨hl,e2⟩,e3⟩,D,V⟩:=h;rcases e2 with ⟨hv,rfl,rfl⟩ | ⟨g',W,X,cur,K1,hv,k1,k2,k3,Z,rfl,T⟩
 ·simp at hv
 ·simp only[List.cons.injEq,Value.slice.injEq,Option.some.injEq,Addr.mk.injEq,and_true] at hv;obtain ⟨⟨rfl,rfl⟩,rfl,rfl⟩:=hv;obtain rfl:=T.sh L;have r:=fun i x N=>T.at Hp.le.rfl (by simp) i x N;rw[Q] at r Z;have H:cur.toList.length=cur.size:=Array.length_toList;have m0:(p+cnt)*k=p*k+cnt*k:=Nat.add_mul _ _ _;have m1:(p+cnt)*k<=cap*k:=Nat.mul_le_mul_right _ t;have a:ofs+p*k+news.length<=cur.size:=by omega
  obtain ⟨o1,o2,Y,o4,U⟩:=rV g news (ofs+p*k) w;have s:=vc news (ofs+p*k) w cur a k1;have M:g∉K:=by rw[List.cons_append] at D;simpa using (List.nodup_cons.1 D).1
  have key: ∀q,((cur.toList.take (ofs+p*k)++news++cur.toList.drop (ofs+p*k+news.length)).toArray.toList.drop ofs)[q]? =if p*k<=q/\q<p*k+cnt*k then news[q - p*k]? else (cur.toList.drop ofs)[q]? :=by
   intro q;rw[List.getElem?_drop];show (cur.toList.take (ofs+p*k)++news++cur.toList.drop (ofs+p*k+news.length))[ofs+q]? =_;have f:(cur.toList.take (ofs+p*k)).length=ofs+p*k:=by rw[aB];omega
   by_cases A:q<p*k
   ·rw[if_neg (by omega),aD,List.getElem?_append_left (by omega),List.getElem?_take,if_pos (by omega),List.getElem?_drop]
   ·by_cases y:q<p*k+cnt*k
    ·rw[if_pos (by omega),aD,List.getElem?_append_right (by omega),f,List.getElem?_append_left (by omega)];congr 1;omega
    ·rw[if_neg (by omega),List.getElem?_append_right (by rw[aF];omega),aF,f,hn,List.getElem?_drop,List.getElem?_drop];congr 1;omega
  refine ⟨⟨o1.trans v.1,o2.trans v.2.1,Y.trans v.2.2.1,by rw[o4];exact v.2.2.2⟩,fun q u m=>?_,[g] ++K,⟨[g],K,rfl,⟨l,.inr ⟨g,ofs,cap,_,[],rfl,s,hz,k3,?_,rfl,D0 hC fun i x N=>?_⟩⟩,e3.stay fun q m=>U q fun e=>M (e ▸ m)⟩,D,V⟩
  ·show (w.setCells g (ofs+p*k) _).heap[q]? =some u;rw[U q fun e=>by rw[e,V g (by simp)] at m;cases m];exact hi q u m
  ·rw[Q];simp only[List.size_toArray,aF,aB,bF,H];omega
  ·rw[Q];rcases d i x N with ⟨b,O,c,A,y,B⟩ | ⟨b,O⟩
   ·refine ⟨c,A,fun j S=>?_,B⟩;have a1:p*k<=i*k:=Nat.mul_le_mul_right _ b;have a2:i*k+k<=p*k+cnt*k:=by rw[<-Nat.succ_mul,<-Nat.add_mul];exact Nat.mul_le_mul_right _ O
    have a3:(i - p)*k=i*k - p*k:=Nat.sub_mul _ _ _;rw[key,if_pos (by omega),<-y j S,a3];congr 1;omega
   ·obtain ⟨c,A,y,B⟩:=r i x O;refine ⟨c,A,fun j S=>?_,B⟩;have a1:i*k+k<=p*k\/p*k+cnt*k<=i*k:=by
     rcases b with b | b
     ·left;rw[<-Nat.succ_mul];exact Nat.mul_le_mul_right _ b
     ·right;rw[<-Nat.add_mul];exact Nat.mul_le_mul_right _ b
    rw[key,if_neg (by omega)];exact y j S
def vl (cur:Array Value) (ofs k j m:Nat):List Value:=((cur.toList.drop ofs).drop (j*k)).take ((m - j)*k)
theorem wJ {cur:Array Value} {ofs k j m cap:Nat} (h:ofs+cap*k<=cur.size) (b:j<=m) (a:m<=cap):(vl cur ofs k j m).length=(m - j)*k:=by
 have c:m*k<=cap*k:=Nat.mul_le_mul_right _ a;have e:(m - j)*k=m*k - j*k:=Nat.sub_mul _ _ _;have d:j*k<=m*k:=Nat.mul_le_mul_right _ b;unfold vl;rw[aB,bF,bF,Array.length_toList];omega
theorem nO {cur:Array Value} {ofs k j m q:Nat} (a:q<(m - j)*k):(vl cur ofs k j m)[q]? =(cur.toList.drop ofs)[j*k+q]? :=by
 unfold vl;rw[List.getElem?_take,if_pos a,List.getElem?_drop]
theorem Ru {α:Type} {R:Rep α} {xs:List α} {cur:Array Value} {ofs k j m:Nat} (g:0<k) (p:m<=xs.length) (d: ∀(i:Nat) x,xs[i]? =some x-> ∃c:List Value,c.length=k/\(∀j,j<k->(cur.toList.drop ofs)[i*k+j]? =c[j]?)/\R.rd I c x): ∀u∈vl cur ofs k j m,u.oneCell'=true:=by
 intro u l;obtain ⟨q,b⟩:=List.getElem?_of_mem l;have a:=(List.getElem?_eq_some_iff.1 b).1;have e:q<(m - j)*k:=by
  unfold vl at a;rw[aB] at a;omega
 rw[nO e] at b;have t:(m - j)*k=m*k - j*k:=Nat.sub_mul _ _ _;have s:m*k<=xs.length*k:=Nat.mul_le_mul_right _ p;have f:(j*k+q) / k<xs.length:=by rw[Nat.div_lt_iff_lt_mul g];omega
 obtain ⟨c,r,n,h⟩:=d _ _ (List.getElem?_eq_getElem f)
 have:=n ((j*k+q) % k) (Nat.mod_lt _ g)
 rw[Nat.div_add_mod',b] at this;exact R.rd_one h u (List.mem_of_getElem? this.symm)
theorem A1 {g ofs:Nat} {cur:Array Value} {E:TypeId} {a:Nat×Nat} (h:w.heap[g]? =some (.cells cur E a)) (q:Nat):w.cell? ⟨g,ofs+q,none⟩=(cur.toList.drop ofs)[q]? :=by
 simp[World.cell?,h]
def B0 {α:Type} (xs:List α) (i j m:Nat):List α:=xs.take i++(((xs.take m).drop j)++xs.drop (i+(m - j)))
theorem I9 {α:Type} {xs:List α} {i j m:Nat} (h1:i<=j) (b:j<=m) (a:m<=xs.length):(B0 xs i j m).length=xs.length:=by
 simp only[B0,aF,aB,bF];omega
theorem Rv {α:Type} {xs:List α} {i j m q:Nat} (h1:i<=j) (f:j<=m) (d:m<=xs.length):(B0 xs i j m)[q]? =if i<=q/\q<i+(m - j) then xs[j+(q - i)]? else xs[q]? :=by
 have c:(xs.take i).length=i:=by rw[aB];omega
 have a:((xs.take m).drop j).length=m - j:=by rw[bF,aB];omega
 unfold B0;by_cases b:q<i
 ·rw[if_neg (by omega),List.getElem?_append_left (by omega),List.getElem?_take,if_pos b]
 ·rw[List.getElem?_append_right (by omega),c];by_cases e:q<i+(m - j)
  ·rw[if_pos (by omega),List.getElem?_append_left (by omega),List.getElem?_drop,List.getElem?_take,if_pos (by omega)]
  ·rw[if_neg (by omega),List.getElem?_append_right (by omega),a,List.getElem?_drop];congr 1;omega
theorem Ja {α:Type} {E T:TypeId} {R:Rep α} {z:Value} {n b:Nat} {x y:Operand} {g ofs cap len i j m c:Nat} {a:Addr} {xs:List α} (v:R.Sh) (hC:Cpy R R) (hT:P.underlying T=some (.slice E)) (V:TZ P E z n b) (hn:0<n) (O:R.size=n)
  (W:o.op= .call { callee:=.builtin .append,args:= #[x,y],argTypes:= #[T,T] }) (hx:ev x= .slice (some ⟨g,ofs,none⟩) i cap) (Q:ev y= .slice (some a) (m - j) c) (Y:j<m->a=⟨g,ofs+j*n,none⟩) (r:i<=j) (D:j<=m) (A:m<=xs.length) :
  OpT P I w0 o ev [Ch.own (ah E R) [.slice (some ⟨g,ofs,none⟩) len cap] xs] (· = .slice (some ⟨g,ofs,none⟩) (i+(m - j)) cap) (fun _=>[Ch.own (ah E R) [.slice (some ⟨g,ofs,none⟩) len cap] (B0 xs i j m)]):=by
 intro w C L;obtain ⟨info,F,hz,d,hby⟩:=info_parts V;obtain ⟨rfl,N,r2,cur,H,r4,s⟩:=BZ v O L;have f:=wJ (k:=n) (j:=j) r4 D (Nat.le_trans A N);have m1:xs.length*n<=cap*n:=Nat.mul_le_mul_right _ N;have m2:i*n<=j*n:=Nat.mul_le_mul_right _ r;have m3:(m - j)*n=m*n - j*n:=Nat.sub_mul _ _ _;have m4:j*n<=m*n:=Nat.mul_le_mul_right _ D;have m5:m*n<=xs.length*n:=Nat.mul_le_mul_right _ A;have G:(cur.toList.drop ofs).length=cur.size - ofs:=by rw[bF,Array.length_toList]
 have h:=run_append_room_cells (P:=P) w T o.type E info hT F g ofs i cap a (m - j) c (vl cur ofs n j m) (by rw[d];exact f) (fun q u e=>by
  have l:=(List.getElem?_eq_some_iff.1 e).1;rw[f] at l;rw[nO l] at e;by_cases K:j<m
  ·rw[Y K];simp only[Addr.add_mid];rw[Nat.add_assoc,A1 H];exact e
  ·rw[show m - j=0 from by omega] at l;omega) (Ru hn A s) (by omega) (fun q e=>by
  rw[f] at e;rw[d,Nat.add_assoc,A1 H,List.getElem?_eq_getElem (by rw[G];omega)];rfl) (fun q _=>by simp[World.frozen?,H])
 rw[d] at h;rw[dU W hx Q h];have M:=I9 (xs:=xs) r D A;have X:=(L.hd 0 rfl).2
 have:=D1 (zs:=B0 xs i j m) v hC O (p:=i) (cnt:=m - j) f (by omega) (by omega) (by omega) (fun q u e=>by
  rw[Rv r D A] at e;by_cases B:i<=q/\q<i+(m - j)
  ·rw[if_pos B] at e;obtain ⟨c,d1,S,Z⟩:=s _ _ e;refine .inl ⟨B.1,B.2,c,d1,fun t U=>?_,Z⟩;have e1:(q - i)*n+n<=(m - j)*n:=by rw[<-Nat.succ_mul];exact Nat.mul_le_mul_right _ (by omega)
   rw[nO (by omega),<-S t U,Nat.add_mul];congr 1;omega
  ·rw[if_neg B] at e;exact .inr ⟨by omega,e⟩) L
 rw[M] at this;exact ⟨rfl,this⟩
theorem D2 (w:World) (t e ty:TypeId) (z:Value) (d:P.underlying t=some (.slice e)) (hv:(zeroValue e).run P w= .ok z w) (b o n c:Nat) (h:0<n)
  (g: ∀j,j<(Builtin.zeroCells z.cells n).toList.length->(w.cell? ⟨b,o+j,none⟩).isSome=true) (f: ∀j,j<(Builtin.zeroCells z.cells n).toList.length->w.frozen? ⟨b,o+j,none⟩=false) (h1: ∀v∈(Builtin.zeroCells z.cells n).toList,v.oneCell'=true) :
  (Builtin.clear_ #[t] ty #[.slice (some ⟨b,o,none⟩) n c]).run P w= .ok (.tuple #[]) (w.setCells b o (Builtin.zeroCells z.cells n).toList):=by
 have a:=run_storeCells_cells (P:=P) b o (Builtin.zeroCells z.cells n).toList 0 w (by simpa using g) (by simpa using f) h1;simp only[Nat.add_zero] at a;obtain ⟨m,rfl⟩: ∃m,n=m+1:=⟨n - 1,by omega⟩;simp[Builtin.clear_,run_underlying d,hv,a]
theorem vm (w:World) (t e ty:TypeId) (b:P.underlying t=some (.slice e)) (a:Option Addr) (c:Nat):(Builtin.clear_ #[t] ty #[.slice a 0 c]).run P w= .ok (.tuple #[]) w:=by
 cases a <;> simp[Builtin.clear_,run_underlying b]
theorem rY {x:Operand} {T:TypeId} {v r:Value} {w w':World} (a:o.op= .call { callee:=.builtin .clear,args:= #[x],argTypes:= #[T] }) (b:ev x=v) (c:(Builtin.clear_ #[T] o.type #[v]).run P w= .ok r w'):(execOp ev o).run P w= .ok (.value r) w':=by
 simp only[execOp,a,resolve,invoke,builtin,Sem.run_bind,Sem.run_pure,Result.andThen_ok,List.map_toArray,List.map_cons,List.map_nil,b,c]
theorem tq {a:Array Value} {n:Nat} :(Builtin.zeroCells a n).toList.length=n*a.size:=by simp[Builtin.zeroCells]
theorem zw {a:Array Value} {n i j:Nat} (hi:i<n) (b:j<a.size):(Builtin.zeroCells a n).toList[i*a.size+j]? =a.toList[j]? :=by
 have c:i*a.size+j<n*a.size:=by
  have:i*a.size+a.size<=n*a.size:=by rw[<-Nat.succ_mul];exact Nat.mul_le_mul_right _ hi
  omega
 have d:(i*a.size+j) % a.size=j:=by rw[Nat.add_comm,Nat.add_mul_mod_self_right,Nat.mod_eq_of_lt b]
 simp[Builtin.zeroCells,c,d,b]
def tu {α:Type} (xs:List α) (l m:Nat) (z:α):List α:=xs.take l++(List.replicate (m - l) z++xs.drop m)
theorem B1 {α:Type} {xs:List α} {l m:Nat} {z:α} (h1:l<=m) (a:m<=xs.length):(tu xs l m z).length=xs.length:=by
 simp only[tu,aF,aB,bF,List.length_replicate];omega
theorem Uw {α:Type} {xs:List α} {l m q:Nat} {z:α} (h1:l<=m) (d:m<=xs.length):(tu xs l m z)[q]? =if l<=q/\q<m then some z else xs[q]? :=by
 have b:(xs.take l).length=l:=by rw[aB];omega
 unfold tu;by_cases a:q<l
 ·rw[if_neg (by omega),List.getElem?_append_left (by omega),List.getElem?_take,if_pos a]
 ·rw[List.getElem?_append_right (by omega),b];by_cases c:q<m
  ·rw[if_pos (by omega),List.getElem?_append_left (by rw[List.length_replicate];omega),List.getElem?_replicate,if_pos (by omega)]
  ·rw[if_neg (by omega),List.getElem?_append_right (by rw[List.length_replicate];omega),List.length_replicate,List.getElem?_drop];congr 1;omega
theorem Ls {α:Type} {E T:TypeId} {R:Rep α} {z:Value} {k:α} {n b:Nat} {x:Operand} {g ofs cap len l m c:Nat} {a:Addr} {xs:List α} (h:R.Sh) (Y:Cpy R R) (N:P.underlying T=some (.slice E)) (U:TZ P E z n b) (hn:0<n) (O:R.size=n) (e:z.cells.size=n) (r:R.rd I z.cells.toList k)
  (M:o.op= .call { callee:=.builtin .clear,args:= #[x],argTypes:= #[T] }) (s:ev x= .slice (some a) (m - l) c) (X:l<m->a=⟨g,ofs+l*n,none⟩) (B:l<=m) (G:m<=xs.length) :
  OpT P I w0 o ev [Ch.own (ah E R) [.slice (some ⟨g,ofs,none⟩) len cap] xs] (fun _=>True) (fun _=>[Ch.own (ah E R) [.slice (some ⟨g,ofs,none⟩) len cap] (tu xs l m k)]):=by
 intro w C y;obtain ⟨rfl,W,r2,cur,L,r4,S⟩:=BZ h O y;by_cases D:l=m
 ·subst D;rw[Nat.sub_self] at s;rw[rY M s (vm w T E o.type N _ _)];refine ⟨trivial,?_⟩
  have:tu xs l l k=xs:=by simp[tu]
  rw[this];exact y
 ·have K:l<m:=by omega
  rw[X K] at s;have m1:xs.length*n<=cap*n:=Nat.mul_le_mul_right _ W;have m3:(m - l)*n=m*n - l*n:=Nat.sub_mul _ _ _;have m4:l*n<=m*n:=Nat.mul_le_mul_right _ B;have m5:m*n<=xs.length*n:=Nat.mul_le_mul_right _ G;have A:(cur.toList.drop ofs).length=cur.size - ofs:=by rw[bF,Array.length_toList]
  have Q:(Builtin.zeroCells z.cells (m - l)).toList.length=(m - l)*n:=by rw[tq,e]
  have f: ∀v∈(Builtin.zeroCells z.cells (m - l)).toList,v.oneCell'=true:=by
   intro v i;simp only[Builtin.zeroCells,Array.toList_map,List.mem_map] at i;obtain ⟨q,-,rfl⟩:=i;have d:q % z.cells.size<z.cells.size:=Nat.mod_lt _ (by omega);rw[getElem!_pos z.cells _ d];exact R.rd_one r _ (by simp)
  have j:=D2 (P:=P) w T E o.type z N (U.run_zero w) g (ofs+l*n) (m - l) c (by omega) (fun q d=>by
   rw[Q] at d;rw[Nat.add_assoc,A1 L,List.getElem?_eq_getElem (by rw[A];omega)];rfl) (fun q _=>by simp[World.frozen?,L]) f
  rw[rY M s j];have H:=B1 (xs:=xs) (z:=k) B G;have V:=(y.hd 0 rfl).2
  have:=D1 (zs:=tu xs l m k) h Y O (p:=l) (cnt:=m - l) Q (by omega) (by omega) (by omega) (fun q u d=>by
   rw[Uw B G] at d;by_cases F:l<=q/\q<m
   ·rw[if_pos F] at d;obtain rfl:=ae d;refine .inl ⟨F.1,by omega,z.cells.toList,by rw[Array.length_toList,e],fun t Z=>?_,r⟩;rw[<-e,zw (by omega) (by omega)]
   ·rw[if_neg F] at d;exact .inr ⟨by omega,d⟩) y
  rw[H] at this;exact ⟨trivial,this⟩
end
end D
namespace R
open Go.RowKit
open D
theorem Vw.hd {u v:Value} {k n:Nat} {l m:Int} (h:Vw u v k n l m): ∃a c,u= .slice a (m.toNat - l.toNat) c/\0<=l/\l<=m:=by
 rcases h with ⟨-,rfl,-,rfl,rfl⟩ | ⟨g,b,cap,x,-,rfl,d,e,-⟩
 ·grind
 grind
theorem Vw.one {u v:Value} {k n:Nat} {l m:Int} (h:Vw u v k n l m):u.oneCell'=true:=by
 obtain ⟨a,c,rfl,_⟩:=h.hd;rfl
theorem D3 {I:Hp} {w0 w:World} {C:List Ch} {α:Type} {E:TypeId} {R:Rep α} {v:Value} {xs:List α} {k:Nat} (h:St I w0 w (Ch.own (ah E R) [v] xs::C)):Vw v v k xs.length 0 xs.length:=by
 obtain ⟨f,p,F,⟨G,K,rfl,⟨e,c⟩,q⟩,d,o⟩:=h;rcases c with ⟨hv,rfl,rfl⟩ | ⟨g,a,cap,cur,m,hv,n,b,l,i,rfl,j⟩
 ·obtain rfl:v= .slice none 0 0:=by grind
  exact .inl ⟨rfl,rfl,rfl,rfl,rfl⟩
 ·obtain rfl:v= .slice (some ⟨g,a,none⟩) xs.length cap:=by grind
  exact .inr ⟨g,a,cap,0,rfl,by simp,by omega,by omega,b,by omega,Nat.zero_le _,.inr (by simp)⟩
theorem Ux {I:Hp} {w0 w:World} {C:List Ch} {α:Type} {E:TypeId} {R:Rep α} {u v:Value} {xs:List α} {k n:Nat} {l m:Int} (h:St I w0 w (Ch.own (ah E R) [v] xs::C)) (hv:Vw u v k n l m):n=xs.length:=by
 have c:=D3 (k:=k) h;rcases hv with ⟨rfl,-,rfl,-,-⟩ | ⟨g,d,cap,x,rfl,-,-⟩ <;> rcases c with ⟨e,-,q,-,-⟩ | ⟨f,b,a,i,e,-,-⟩
 ·omega
 ·cases e
 ·cases e
 grind
theorem X5 {u v w:Value} {k n:Nat} {l m a c:Int} (h:Vw u v k n l m) (h1:0<=a) (D:a<=c) (y:l+c<=(n:Int)\/c<=m - l) {ao:Option Addr} {len cap:Nat} (j:u= .slice ao len cap) (q:w=sliced ao a.toNat c.toNat cap k):Vw w v k n (l+a) (l+c):=by
 rcases h with ⟨rfl,rfl,rfl,rfl,rfl⟩ | ⟨g,b,d,x,rfl,rfl,B,z,p,t,s,C⟩
 ·obtain rfl:a=0:=by omega
  obtain rfl:c=0:=by omega
  injection j with e r f
  subst e;subst f;exact .inl ⟨rfl,by grind[sliced],rfl,rfl,rfl⟩
 ·injection j with e r f
  subst e;subst f;subst q;have E:(l+a).toNat=l.toNat+a.toNat:=by omega
  have i:(l+c).toNat - (l+a).toNat=c.toNat - a.toNat:=by omega
  have A:(l.toNat+a.toNat)*k=l.toNat*k+a.toNat*k:=Nat.add_mul _ _ _;by_cases o:d - l.toNat=a.toNat
  ·refine .inr ⟨g,b,d,x,rfl,?_,by omega,by omega,p,by omega,by grind,.inl (by omega)⟩;simp[sliced,o,if_true,i];grind
  ·refine .inr ⟨g,b,d,x+a.toNat*k,rfl,?_,by omega,by omega,p,by omega,by grind,?_⟩
   ·simp[sliced,o,if_false,i,Option.map_some,Addr.add_mid,Nat.add_assoc];grind
   grind
def oI (ev:Operand->Value):Option Operand->Option Int->Prop
 | none,none=>True
 | some x,some m=>ev x= .int .i64 m
 | _,_=>False
section
variable {P:Program} {I:Hp} {w0:World} {o:Oper} {ev:Operand->Value}
theorem HE {t e:TypeId} {x:Operand} {lo hi:Option Operand} {ml mh:Option Int} {ao:Option Addr} {len cap n:Nat} {agg:Bool} (f:P.underlying t=some (.slice e)) (d:TI P e agg n) (i:o.op= .slice t x lo hi none) (j:ev x= .slice ao len cap) (b:oI ev lo ml) (a:oI ev hi mh) (c:len<=cap)
  (h1:0<=ml.getD 0) (l:ml.getD 0<=mh.getD len) (g:mh.getD len<=(cap:Int)) :
  OpT P I w0 o ev [] (· =sliced ao (ml.getD 0).toNat (mh.getD len).toNat cap n) (fun _=>[]):=by
 have h:P.elem t=e:=by simp[Program.elem,f]
 refine bt fun w=>?_;have k:=TI.size d w;cases lo with
 | none =>
  cases ml with
  | some _=>exact b.elim
  | none =>
   cases hi with
   | none =>
    cases mh with
    | some _=>exact a.elim
    | none =>
     simp_all[execOp,Option.map_some,Option.map_none,Sem.run_bind,run_sliceAt_slice,run_slice_all,Result.andThen_ok]
   | some hi =>
    cases mh with
    | none=>exact a.elim
    | some mh =>
     have a:ev hi= .int .i64 mh:=a;simp_all[execOp,Option.map_some,Option.map_none,Sem.run_bind,run_sliceAt_slice,run_slice_h,Result.andThen_ok]
 | some lo =>
  cases ml with
  | none=>exact b.elim
  | some ml =>
   have b:ev lo= .int .i64 ml:=b;cases hi with
   | none =>
    cases mh with
    | some _=>exact a.elim
    | none =>
     simp_all[execOp,Option.map_some,Option.map_none,Sem.run_bind,run_sliceAt_slice,run_slice_l,Result.andThen_ok]
   | some hi =>
    cases mh with
    | none=>exact a.elim
    | some mh =>
     have a:ev hi= .int .i64 mh:=a;simp_all[execOp,Option.map_some,Option.map_none,Sem.run_bind,run_sliceAt_slice,run_slice_lh,Result.andThen_ok]
theorem Rw {t e:TypeId} {x y z q:Operand} {ml mh a:Int} {ao:Option Addr} {len cap n:Nat} {agg:Bool} (c:P.underlying t=some (.slice e)) (b:TI P e agg n) (j:o.op= .slice t x (some y) (some z) (some q)) (l:ev x= .slice ao len cap) (g:ev y= .int .i64 ml) (k:ev z= .int .i64 mh) (h:ev q= .int .i64 a)
  (h1:0<=ml) (p:ml<=mh) (f:mh<=a) (d:a<=(cap:Int)) :
  OpT P I w0 o ev [] (fun _=>True) (fun _=>[]):=by
 have i:P.elem t=e:=by simp[Program.elem,c]
 refine OpT.weak (bt (v:=sliced ao ml.toNat mh.toNat a.toNat n) fun w=>?_) (fun _ _=>trivial) (fun _ _=>rfl);have m:=TI.size b w;simp_all[execOp,Option.map_some,Sem.run_bind,run_sliceAt_slice,run_slice_lhm,Result.andThen_ok]
end
def X6:(t:Ty)->List Value->Option t.den
 | .raw,[v] =>if h:v.oneCell'=true then some (⟨v,h⟩:Raw) else none
 | .prod .raw b,v::cs=>if h:v.oneCell'=true then (X6 b cs).bind fun d=>some ((⟨v,h⟩:Raw),d) else none
 | _,_=>none
theorem X7 {J:Hp} : ∀ {t:Ty} {cs:List Value} {d:t.den},X6 t cs=some d->t.rep.rd J cs d:=by
 intro t;induction t with
 | raw =>
  intro cs d h
  match cs,h with
  | [],h=>cases h
  | _::_::_,h=>cases h
  | [v],h =>
   by_cases c:v.oneCell'=true
   ·have h:(if h:v.oneCell'=true then some (⟨v,h⟩:Raw) else none)=some d:=h;rw[dif_pos c] at h;cases ae h;rfl
   ·have h:(if h:v.oneCell'=true then some (⟨v,h⟩:Raw) else none)=some d:=h;grind
 | prod a b iha ihb =>
  intro cs d h;cases a with
  | raw =>
   cases cs with
   | nil=>cases h
   | cons v cs =>
    unfold X6 at h;split at h
    ·have ⟨f,e,h⟩:=Option.bind_eq_some_iff.1 h;cases ae h;exact ⟨[v],cs,rfl,rfl,ihb e⟩
    grind
  | _=>cases cs <;> cases h
 | _=>intro cs d h;cases cs <;> cases h
def X8 (e t:Ty):Option t.den:=match qq e t (IL e) with
 | some z=>some z
 | none=>X6 t (zeroCells e)
theorem PS {e t:Ty} {z:t.den} (h:X8 e t=some z) (J:Hp):t.rep.rd J (zeroCells e) z:=by
 grind[X8,ae,jB,rW,X7]
structure Vb where
 x:Bool
 h:Hdr
 k:Nat
 l:Int
 m:Int
 r:Row
section
variable {Y:Type} (tt:TT) (s:Sg) (k:Res->Option Y)
def afb (chs:List Ent) (x:Operand):Option Vb:=match opd s x with
 | some (.one (.own h))=>(rowOf h chs).bind fun r=>some ⟨false,h,r.t.size,0,(r.xs.length:Int),r⟩
 | some (.vw u h k n l m)=>(rowOf h chs).bind fun r=>bW (Nat.beq k r.t.size) (some ⟨false,h,k,l,m,r⟩)
 | some (.xv top u h k n l m)=>match rowOf u chs with
  | some r=>bW (Nat.beq k r.t.size) (some ⟨false,u,k,0,(r.xs.length:Int),r⟩)
  | none=>(rowOf h chs).bind fun r=>bW (Nat.beq k r.t.size) (some ⟨true,h,k,l,m,r⟩)
 | _=>none
def Xf (x:Operand):Option Vb:=afb s s.chs x
def loV (x:Option Operand) (d:Int) (k:Int->Option Y):Option Y:=match x with
 | none=>k d
 | some x=>(asI s x).bind k
def Jb (T:TypeId) (x:Operand) (lo hi:Option Operand):Option Y:=(td tt T).bind fun d=>d.el.bind fun E'=>(td tt E').bind fun e=>(Xf s x).bind fun b=>bW (Nat.beq e.n b.k) (loV s lo 0 fun ml=>loV s hi (b.m - b.l) fun mh =>
 match b.x with
 | false=>(chk (0<=ml/\ml<=mh/\b.l+mh<=(b.r.xs.length:Int))).bind fun _=>k ⟨[b.r.ent b.h],[],b.r.rest,[],.vw ⟨s.nxt,[]⟩ b.h b.k b.r.xs.length (b.l+ml) (b.l+mh)⟩
 | true=>(chk (0<=ml/\ml<=mh/\mh<=b.m - b.l)).bind fun _=>k ⟨[b.r.ent b.h],[],b.r.rest,[],.xv false ⟨s.nxt,[]⟩ b.h b.k b.r.xs.length (b.l+ml) (b.l+mh)⟩)
def Uy (T:TypeId) (x y z q:Operand):Option Y:=(td tt T).bind fun d=>d.el.bind fun E'=>(td tt E').bind fun e=>(Xf s x).bind fun b=>bW (Nat.beq e.n b.k) ((asI s y).bind fun ml=>(asI s z).bind fun mh=>(asI s q).bind fun mx =>
 (chk (0<=ml/\ml<=mh/\mh<=mx/\b.l+mx<=(b.r.xs.length:Int))).bind fun _=>k ⟨[b.r.ent b.h],[],b.r.rest,[],.any ⟨s.nxt,[]⟩⟩)
def acS (T:TypeId) (x:Operand):Option Y:=(td tt T).bind fun d=>match d.el,opd s x with
 | some _,some (.vw u h k' n l m)=>k (.pure s (.one (.val (.int .i64 (m - l)))))
 | some _,some (.xv _ u h k' n l m)=>k (.pure s (.one (.val (.int .i64 (m - l)))))
 | _,_=>none
def NJ (T:TypeId) (x i:Operand):Option Y:=(td tt T).bind fun d=>d.el.bind fun E=>(td tt E).bind fun e=>(Xf s x).bind fun b=>bW (Nat.beq e.n b.k) ((asI s i).bind fun i=>(chk (0<=i/\i<b.m - b.l)).bind fun _=>(aK b.r.xs (b.l+i)).bind fun a=>k ⟨[b.r.ent b.h],[],b.r.rest,[],.elo b.h b.r.ver b.r.E b.r.t b.r.xs a (b.l+i) 0⟩)
def afc (T:TypeId) (x y:Operand):Option Y:=(td tt T).bind fun d=>d.el.bind fun E=>(td tt E).bind fun e=>e.bytes.bind fun _=>(Xf s x).bind fun b=>(Xf s y).bind fun c =>
 bW (Nat.beq e.n b.k&&Hdr.beq c.h b.h&&Nat.beq b.r.E E&&b.r.t.sh) ((chk (b.l=0/\b.m<=c.l/\c.l<=c.m/\c.m<=(b.r.xs.length:Int))).bind fun _=>k ⟨[],[b.r.ent b.h],b.r.rest,[(b.h,.own (.sl b.r.E b.r.t) (B0 b.r.xs b.m.toNat c.l.toNat c.m.toNat))],.vw ⟨s.nxt,[]⟩ b.h b.k b.r.xs.length 0 (b.m+(c.m - c.l))⟩)
def Uz (T:TypeId) (x:Operand):Option Y:=(td tt T).bind fun d=>d.el.bind fun E=>(td tt E).bind fun e=>e.bytes.bind fun _=>(Xf s x).bind fun b =>
 bW (Nat.beq e.n b.k&&Nat.beq b.r.E E&&b.r.t.sh) ((X8 e.ty b.r.t).bind fun z=>(chk (b.l<=b.m/\b.m<=(b.r.xs.length:Int))).bind fun _=>k ⟨[],[b.r.ent b.h],b.r.rest,[(b.h,.own (.sl b.r.E b.r.t) (tu b.r.xs b.l.toNat b.m.toNat z))],.any ⟨s.nxt,[]⟩⟩)
end
section
variable {Y:Type} {tt:TT} {s:Sg} {k:Res->Option Y} {P:Program} {w0:World} {o:Oper} {res:Y} {x y:Operand}
theorem NK {chs:List Ent} {b:Vb} (h:afb s chs x=some b):rowOf b.h chs=some b.r/\b.k=b.r.t.size/\ ∀ {J:Hp} {θ:Th},Fine P w0 J θ s-> ∀ {w:World} {C:List Ch} {xs:List b.r.t.den},xs.length=b.r.xs.length->St J w0 w (Ch.own (ah b.r.E b.r.t.rep) [hv θ b.h] xs::C)->Vw (evL (envL θ s) x) (hv θ b.h) b.k b.r.xs.length b.l b.m:=by
 unfold afb at h;split at h
 ·rename_i p d;have ⟨r,i,h⟩:=bind_some h;cases ae h;refine ⟨i,rfl,fun {J θ} j {w C xs} f g=>?_⟩;have a:=D3 (k:=r.t.size) g;rw[f] at a;rw[aG (θ:=θ) d];exact a
 ·rename_i u p q n l m d;have ⟨r,i,h⟩:=bind_some h;have ⟨c,h⟩:=ak h;have c:=aw c;cases ae h;refine ⟨i,c,fun {J θ} j {w C xs} f g=>?_⟩;have e:=bQ j d;have a:=e.2.2.1;cases Ux g a;rw[aG (θ:=θ) d,<-f];exact a
 ·rename_i top u p q n l m d;split at h
  ·rename_i r i;have ⟨c,h⟩:=ak h;have c:=aw c;cases ae h;refine ⟨i,c,fun {J θ} j {w C xs} f g=>?_⟩;have a:=D3 (k:=q) g;rw[f] at a;rw[aG (θ:=θ) d];exact a
  ·have ⟨r,i,h⟩:=bind_some h;have ⟨c,h⟩:=ak h;have c:=aw c;cases ae h;refine ⟨i,c,fun {J θ} j {w C xs} f g=>?_⟩;have e:=bQ j d;have a:=e.2.2.1;cases Ux g a;rw[aG (θ:=θ) d,<-f];exact a
 grind
theorem tv {b:Vb} (h:Xf s x=some b):rowOf b.h s.chs=some b.r/\b.k=b.r.t.size/\ ∀ {J:Hp} {θ:Th},Fine P w0 J θ s-> ∀ {w:World} {C:List Ch} {xs:List b.r.t.den},xs.length=b.r.xs.length->St J w0 w (Ch.own (ah b.r.E b.r.t.rep) [hv θ b.h] xs::C)->Vw (evL (envL θ s) x) (hv θ b.h) b.k b.r.xs.length b.l b.m:=NK h
theorem aaO {Z:Type} {x:Option Operand} {d:Int} {k:Int->Option Z} {z:Z} (h:loV s x d k=some z): ∃m:Option Int,k (m.getD d)=some z/\ ∀θ,oI (evL (envL θ s)) x m:=by
 unfold loV at h;split at h
 ·exact ⟨none,h,fun _=>trivial⟩
 ·have ⟨q,a,h⟩:=bind_some h;exact ⟨some q,h,fun θ=>qA a θ⟩
theorem acT {h:Hdr} {r:Row} {d:Nat} {l m:Int} (j:rowOf h s.chs=some r) (i:m<=(r.xs.length:Int)) (b: ∀J θ,Fine P w0 J θ s->OpT P J w0 o (evL (envL θ s)) [toCh P θ (r.ent h)] (fun v=>Vw v (hv θ h) d r.xs.length l m) (fun _=>[toCh P θ (r.ent h)])):Good P w0 s o ⟨[r.ent h],[],r.rest,[],.vw ⟨s.nxt,[]⟩ h d r.xs.length l m⟩:=by
 obtain ⟨hp,-⟩:=bK j;refine ⟨qy hp,aS rfl,fun J θ e=>OpT.weak (b J θ e) (fun u c=>?_) (fun u c=>rfl)⟩;have a:=ma e hp;refine ⟨⟨ay _,aW a.1,?_,i⟩,dQ,fun g f=>by cases f⟩;rw[dQ,show hv (upd θ s.nxt u) h=hv θ h from a7 Same.upd a.1];exact c
theorem UA {top:Bool} {h:Hdr} {r:Row} {e:Nat} {l m:Int} (j:rowOf h s.chs=some r) (i:top=true->l=0) (b: ∀J θ,Fine P w0 J θ s->OpT P J w0 o (evL (envL θ s)) [toCh P θ (r.ent h)] (fun v=>Vw v (hv θ h) e r.xs.length l m) (fun _=>[toCh P θ (r.ent h)])):Good P w0 s o ⟨[r.ent h],[],r.rest,[],.xv top ⟨s.nxt,[]⟩ h e r.xs.length l m⟩:=by
 obtain ⟨hp,-⟩:=bK j;refine ⟨qy hp,aS rfl,fun J θ c=>OpT.weak (b J θ c) (fun u d=>?_) (fun u d=>rfl)⟩;have a:=ma c hp;refine ⟨⟨ay _,aW a.1,?_,i⟩,dQ,fun g f=>by cases f⟩;rw[dQ,show hv (upd θ s.nxt u) h=hv θ h from a7 Same.upd a.1];exact d
theorem A2 (E:TTok P tt) {T:TypeId} {lo hi:Option Operand} (Q:o.op= .slice T x lo hi none) (h:Jb tt s k T x lo hi=some res):Oks P w0 s o k res:=by
 have ⟨d,K,h⟩:=bind_some h;have ⟨E',M,h⟩:=bind_some h;have ⟨e,O,h⟩:=bind_some h;have ⟨b,N,h⟩:=bind_some h;have ⟨D,h⟩:=ak h;have D:=aw D;have ⟨A,h,r⟩:=aaO h;have ⟨f,h,z⟩:=aaO h;have ⟨G,hk,m⟩:=tv (P:=P) (w0:=w0) N;have key:0<=A.getD 0->A.getD 0<=f.getD (b.m - b.l)->(b.l+f.getD (b.m - b.l)<=(b.r.xs.length:Int)\/f.getD (b.m - b.l)<=b.m - b.l)-> ∀J θ,Fine P w0 J θ s->OpT P J w0 o (evL (envL θ s)) [toCh P θ (b.r.ent b.h)] (fun v=>Vw v (hv θ b.h) b.k b.r.xs.length (b.l+A.getD 0) (b.l+f.getD (b.m - b.l))) (fun _=>[toCh P θ (b.r.ent b.h)]):=by
  intro i c a J θ H w C F;have l:=m H rfl F;have ⟨X,cap,B,S,L⟩:=l.hd;have j:b.m.toNat - b.l.toNat<=cap/\b.l+cap≥b.r.xs.length:=by
   rcases l with ⟨-,q,n,e2,e3⟩ | ⟨g,R,V,x',-,q,q1,Z,q3,W,U,q6⟩
   ·omega
   ·grind
  have n:f.getD (b.m - b.l)=f.getD ((b.m.toNat - b.l.toNat:Nat):Int):=by
   cases f with
   | none=>grind
   | some _=>rfl
  rw[n] at c a
  have:=HE (P:=P) (I:=J) (w0:=w0) (ev:=evL (envL θ s)) ((E.get K).el _ M) (E.get O).ti Q B (r θ) (z θ) j.1 i c (by omega) w (toCh P θ (b.r.ent b.h)::C) F
  refine this.imp fun v w' t=>⟨?_,t.2⟩
  rw[n];exact X5 l i c a B (by grind)
 split at h
 ·have ⟨u,p,h⟩:=bind_some h;have ⟨i,c,a⟩:=bH p;exact ⟨_,h,acT G a (key i c (.inl a))⟩
 ·have ⟨u,p,h⟩:=bind_some h;have ⟨i,c,a⟩:=bH p;exact ⟨_,h,UA G (fun e=>by cases e) (key i c (.inr a))⟩
theorem Rx (m:TTok P tt) {T:TypeId} {y z q:Operand} (F:o.op= .slice T x (some y) (some z) (some q)) (h:Uy tt s k T x y z q=some res):Oks P w0 s o k res:=by
 have ⟨d,v,h⟩:=bind_some h;have ⟨E',B,h⟩:=bind_some h;have ⟨e,E,h⟩:=bind_some h;have ⟨b,D,h⟩:=bind_some h;have ⟨hn,h⟩:=ak h;have ⟨ml,i,h⟩:=bind_some h;have ⟨mh,j,h⟩:=bind_some h;have ⟨X,f,h⟩:=bind_some h;have ⟨u,G,h⟩:=bind_some h;have ⟨L,H,r,V⟩:=bH G;have ⟨O,hk,a⟩:=tv (P:=P) (w0:=w0) D;obtain ⟨hp,-⟩:=bK O;refine ⟨_,h,qy hp,aS rfl,fun J θ t=>OpT.weak (fact:=fun _=>True) (gv:=fun _=>[toCh P θ (b.r.ent b.h)]) (fun w C n=>?_) (fun u c=>⟨ay _,dQ,fun g N=>by cases N⟩) (fun u c=>rfl)⟩;have l:=a t rfl n;have ⟨U,cap,c,M,A⟩:=l.hd;have p:b.l+cap≥b.r.xs.length:=by
  rcases l with ⟨-,q,W,e2,e3⟩ | ⟨g,K,R,x',-,q,q1,Z,q3,S,Q,q6⟩
  ·omega
  ·grind
 exact Rw (P:=P) (I:=J) (w0:=w0) (ev:=evL (envL θ s)) ((m.get v).el _ B) (m.get E).ti F c (qA i θ) (qA j θ) (qA f θ) L H r (by omega) w (toCh P θ (b.r.ent b.h)::C) n
theorem X9 (q:TTok P tt) {T:TypeId} (p:o.op= .call { callee:=.builtin .len,args:= #[x],argTypes:= #[T] }) (h:acS tt s k T x=some res):Oks P w0 s o k res:=by
 have ⟨d,j,h⟩:=bind_some h;split at h
 ·rename_i E u t v n l m i f;refine mw h rfl fun J θ g=>?_;have b:=bQ g f;have ⟨a,c,e,r,w⟩:=b.2.2.1.hd
  have:=y8 (P:=P) (I:=J) (w0:=w0) (o:=o) (ev:=evL (envL θ s)) ((q.get j).el _ i) p ((aG (θ:=θ) f).trans e)
  grind
 ·rename_i E top u t v n l m i f;refine mw h rfl fun J θ g=>?_;have b:=bQ g f;have ⟨a,c,e,r,w⟩:=b.2.2.1.hd
  have:=y8 (P:=P) (I:=J) (w0:=w0) (o:=o) (ev:=evL (envL θ s)) ((q.get j).el _ i) p ((aG (θ:=θ) f).trans e)
  grind
 grind
theorem HF (z:TTok P tt) {T:TypeId} {i:Operand} (K:o.op= .indexAddr T x i) (h:NJ tt s k T x i=some res):Oks P w0 s o k res:=by
 have ⟨d,E,h⟩:=bind_some h;have ⟨E',G,h⟩:=bind_some h;have ⟨e,I,h⟩:=bind_some h;have ⟨b,H,h⟩:=bind_some h;have ⟨p,h⟩:=ak h;have p:=aw p;have ⟨c,R,h⟩:=bind_some h;have ⟨u,L,h⟩:=bind_some h;have ⟨N,c2⟩:=bH L;have ⟨a,M,h⟩:=bind_some h;have ⟨B,Q,n⟩:=tv (P:=P) (w0:=w0) H;obtain ⟨hp,-⟩:=bK B;refine ⟨_,h,qy hp,aS rfl,fun J θ m=>OpT.weak (fact:=(· =pt (hv θ b.h) ((b.l+c).toNat*b.r.t.size+0))) (gv:=fun _=>[toCh P θ (b.r.ent b.h)]) (fun w C A=>?_) (fun u v=>?_) (fun u v=>rfl)⟩
 ·have D:=n m rfl A;have r:=(z.get E).el _ G;have t:=(z.get I).ti;rcases D with ⟨-,q,X,e2,e3⟩ | ⟨g,f,V,x',F,q,q1,Z,q3,W,U,q6⟩
  ·omega
  ·have l:pt (hv θ b.h) ((b.l+c).toNat*b.r.t.size+0)= .pointer (some ⟨g,f+b.l.toNat*b.k+c.toNat*e.n,none⟩):=by
    rw[F];show Value.pointer (some ⟨g,f+((b.l+c).toNat*b.r.t.size+0),none⟩)=_;rw[show (b.l+c).toNat=b.l.toNat+c.toNat from by omega,<-Q,p,Nat.add_mul];congr 3;omega
   rw[l];have S:c<((b.m.toNat - b.l.toNat:Nat):Int):=by omega
   have:OpT P J w0 o (evL (envL θ s)) [] (· = .pointer (some ⟨g,f+b.l.toNat*b.k+c.toNat*e.n,none⟩)) (fun _=>[]):=by
    refine bt fun w=>?_;simp[execOp,K,q,qA R θ,Instr.indexAt,asIntOf,run_underlying r,t.run_size,N,S,Result.andThen,Addr.add_mid]
   exact this w (toCh P θ (b.r.ent b.h)::C) A
 ·have j:=ma m hp;refine ⟨⟨aW j.1,M,(zi B j.2.1).newer (Res.newer (qy hp) (aS rfl J θ m)) (Nat.le_succ _)⟩,?_,fun g O=>by cases O⟩;rw[v];show pt (hv (upd θ s.nxt _) b.h) _=pt (hv θ b.h) _;rw[show hv (upd θ s.nxt _) b.h=hv θ b.h from a7 Same.upd j.1]
theorem Jc {h:Hdr} {r:Row} {xs:List r.t.den} {av:AV} {fact:Th->Value->Prop} (l:rowOf h s.chs=some r) (d: ∀J θ,Fine P w0 J θ s->OpT P J w0 o (evL (envL θ s)) [toCh P θ (r.ent h)] (fact θ) (fun _=>[Ch.own (ah r.E r.t.rep) [hv θ h] xs]))
  (c: ∀J θ u,Fine P w0 J θ s->fact θ u->h.id<s.nxt->av.ok P w0 J (upd θ s.nxt u) (s.nxt+1) ((h,s.nxt,.own (.sl r.E r.t) xs)::r.rest)/\av.v (upd θ s.nxt u)=u):Good P w0 s o ⟨[],[r.ent h],r.rest,[(h,.own (.sl r.E r.t) xs)],av⟩:=by
 obtain ⟨hp,-⟩:=bK l;refine ⟨Gu hp,aS rfl,fun J θ b=>OpT.weak (d J θ b) (fun u e=>?_) (fun u e=>?_)⟩
 ·have a:=ma b hp;have ⟨i,f⟩:=c J θ u b e a.1;refine ⟨i,f,fun g j=>?_⟩;cases ax j;exact ⟨aW a.1,ay _,trivial⟩
 ·have a:=ma b hp;show [Ch.own _ [hv θ h] xs] = [Ch.own _ [hv (upd θ s.nxt u) h] xs];rw[show hv (upd θ s.nxt u) h=hv θ h from a7 Same.upd a.1]
  rfl
theorem Ya (hT:TTok P tt) {T:TypeId} (ho:o.op= .call { callee:=.builtin .append,args:= #[x,y],argTypes:= #[T,T] }) (h:afc tt s k T x y=some res):Oks P w0 s o k res:=by
 have ⟨d,hd,h⟩:=bind_some h;have ⟨E,hE,h⟩:=bind_some h;have ⟨e,he,h⟩:=bind_some h;have ⟨X,U,h⟩:=bind_some h;have ⟨b,hb,h⟩:=bind_some h;have ⟨c,H,h⟩:=bind_some h;have ⟨hn,h⟩:=ak h;simp only[al] at hn;have ⟨⟨⟨Z,F⟩,n⟩,n4⟩:=hn;have Z:=aw Z;have F:=Hdr.beq_eq F;have n:=aw n;have ⟨u,hc,h⟩:=bind_some h;have ⟨c1,c2,c3,c4⟩:=bH hc;have ⟨hr,hk,V⟩:=tv (P:=P) (w0:=w0) hb;have ⟨i,hk2,l⟩:=tv (P:=P) (w0:=w0) H;have S:c.r=b.r:=by
  rw[F] at i;exact ae (i.symm.trans hr)
 have hk3:c.k=b.k:=by grind
 have O:=hT.get hd;have W:=hT.get he;have ⟨z,K,hz2,hz3⟩:=W.zero X U;have r:P.underlying T=some (.slice b.r.E):=(O.el E hE).trans (by rw[n]);refine ⟨_,h,Jc (fact:=fun θ v=>Vw v (hv θ b.h) b.k b.r.xs.length 0 (b.m+(c.m - c.l))) hr (fun J θ R=>fun w C Q=>?_) (fun J θ u R hu D=>⟨⟨ay _,aW D,?_,by omega⟩,dQ⟩)⟩
 ·have h1:=V R rfl Q;have h2:Vw (evL (envL θ s) y) (hv θ b.h) b.k b.r.xs.length c.l c.m:=by
   have:=l R rfl (xs:=c.r.xs) (by rw[S,F];exact Q)
   grind
  have j:St J w0 w (Ch.own (ah b.r.E b.r.t.rep) [hv θ b.h] b.r.xs::C):=Q;rcases h1 with ⟨G,q,e1,e2,e3⟩ | ⟨g,M,cp,x',G,q,q1,q2,q3,q4,q5,q6⟩
  ·rcases h2 with ⟨a,p,f1,f2,f3⟩ | ⟨g2,B,L,y',a,p,-⟩
   ·have A:=List.eq_nil_of_length_eq_zero e1;have m:(Builtin.append_ #[T,T] o.type #[.slice none 0 0,.slice none 0 0]).run P w= .ok (.slice none 0 0) w:=by
     obtain ⟨info,f,-,-,-⟩:=info_parts K;rw[<-n] at f;exact eW r f (aH _)
    rw[dU ho q p m];refine ⟨.inl ⟨G,rfl,e1,rfl,by omega⟩,?_⟩;grind[B0]
   grind
  ·rcases h2 with ⟨a,p,f1,f2,f3⟩ | ⟨g2,B,L,y',a,p,p1,p2,p3,p4,p5,p6⟩
   ·grind
   ·rw[G] at a;simp[Value.slice.injEq,Option.some.injEq,Addr.mk.injEq,and_true,true_and] at a;obtain ⟨⟨rfl,rfl⟩,rfl⟩:=a;have t:b.l.toNat=0:=by omega
    have A:x'=0:=by rw[t,Nat.zero_mul] at q5;omega
    subst A;rw[t,Nat.sub_zero,Nat.sub_zero,Nat.add_zero] at q;rw[G] at j⊢
    have:=Ja (P:=P) (I:=J) (w0:=w0) (o:=o) (xs:=b.r.xs) (ev:=evL (envL θ s)) (Ty.sh_ok n4) (Ty.cpy n4) r (by rw[n];omega) (by grind[Ty.size_pos]) (b.r.t.rep_size.trans (hk.symm.trans Z.symm)) ho q p (fun D=>?_) (by omega) (by omega) (by omega) w C (by simpa using j)
    ·refine this.imp fun v w' N=>⟨?_,N.2⟩
     refine .inr ⟨g,M,cp,0,rfl,?_,by omega,by omega,q3,by omega,Nat.zero_le _,.inr (by simp)⟩;grind
    grind
 grind[dQ,hv,upd,a7,Same.upd]
theorem Ry (K:TTok P tt) {T:TypeId} (F:o.op= .call { callee:=.builtin .clear,args:= #[x],argTypes:= #[T] }) (h:Uz tt s k T x=some res):Oks P w0 s o k res:=by
 have ⟨d,O,h⟩:=bind_some h;have ⟨E,Q,h⟩:=bind_some h;have ⟨e,S,h⟩:=bind_some h;have ⟨l,t,h⟩:=bind_some h;have ⟨b,R,h⟩:=bind_some h;have ⟨H,h⟩:=ak h;simp only[al] at H;have ⟨⟨r,i⟩,M⟩:=H;have r:=aw r;have i:=aw i;have ⟨z,hz,h⟩:=bind_some h;have ⟨u,U,h⟩:=bind_some h;have ⟨c3,c4⟩:=bH U;have ⟨Z,X,j⟩:=tv (P:=P) (w0:=w0) R;have n:=K.get O;have a:=K.get S;have ⟨G,V,p,hz3⟩:=a.zero l t;have m:G.cells.size=e.n:=by rw[p,List.size_toArray,zh,a.sz]
 have f:P.underlying T=some (.slice b.r.E):=(n.el E Q).trans (by rw[i]);have A: ∀J,b.r.t.rep.rd J G.cells.toList z:=fun J=>by
  grind[PS]
 refine ⟨_,h,Jc (fact:=fun _ _=>True) Z (fun J θ B=>fun w C L=>?_) (fun J θ u B hu v=>⟨ay _,dQ⟩)⟩;have N:=j B rfl L;have c:St J w0 w (Ch.own (ah b.r.E b.r.t.rep) [hv θ b.h] b.r.xs::C):=L;rcases N with ⟨D,q,e1,e2,e3⟩ | ⟨g,W,cp,x',D,q,q1,q2,q3,q4,q5,q6⟩
 ·rw[rY F q (vm w T b.r.E o.type f _ _)];refine ⟨trivial,?_⟩;grind[tu]
 ·rw[D] at c⊢;exact Ls (P:=P) (I:=J) (w0:=w0) (o:=o) (ev:=evL (envL θ s)) (Ty.sh_ok M) (Ty.cpy M) f (by rw[i];omega) (by grind[Ty.size_pos]) (b.r.t.rep_size.trans (X.symm.trans r.symm)) m (A J) F q (fun v=>by
   grind) (by omega) (by omega) w C c
end
theorem Yb {α:Type} {E:TypeId} {R:Rep α} {I:Hp} {w0 w:World} {C:List Ch} {u v:Value} {xs:List α} {l m:Int} {k:Nat} (h:St I w0 w (Ch.own (ah E R) [v] xs::C)) (J:R.size=k) (hv:Vw u v k xs.length l m) (hm:m<=(xs.length:Int)):St I w0 w (Ch.own (ah E R) [u] ((xs.take m.toNat).drop l.toNat)::C):=by
 obtain ⟨z,P,F,⟨G,K,rfl,n,e⟩,y,M⟩:=h;have ⟨hl,n⟩:=n;rcases hv with ⟨rfl,rfl,hn,rfl,rfl⟩ | ⟨g,a,cap,x,rfl,rfl,q1,q2,q3,q4,q5,t⟩
 ·have hx:=List.eq_nil_of_length_eq_zero hn;subst hx;exact ⟨z,P,G++K,⟨G,K,rfl,⟨Nat.zero_le _,n⟩,e⟩,y,M⟩
 ·rcases n with ⟨f,rfl,rfl⟩ | ⟨g',O,N,cur,K1,f,k1,k2,k3,X,rfl,B⟩
  ·grind
  ·simp[List.cons.injEq,Value.slice.injEq,Option.some.injEq,Addr.mk.injEq,and_true,true_and] at f;obtain ⟨⟨rfl,rfl⟩,rfl⟩:=f;rw[J] at X;have S:l.toNat<=m.toNat:=by omega
   have A:((xs.take m.toNat).drop l.toNat).length=m.toNat - l.toNat:=by rw[bF,aB];omega
   have V:xs=(xs.take m.toNat).take l.toNat++((xs.take m.toNat).drop l.toNat++xs.drop m.toNat):=by grind[aD,List.take_append_drop]
   rw[V] at B;obtain ⟨c1,Z,i,G2,Q,L,rfl,-,Y⟩:=B.cut2;obtain ⟨d,j,rfl,D,-⟩:=Y.parts;have hp:((g::(i++(d++j)))++K).Perm (((g::d)++K)++(i++j)):=by
    show (g::((i++(d++j))++K)).Perm (g::((d++K)++(i++j)));refine List.Perm.cons g ?_;rw[aD,aD,aD];refine (List.perm_append_comm_assoc i d _).trans (List.Perm.append_left d ?_);refine (List.perm_append_comm_assoc i j K).trans ?_;rw[<-aD];refine List.perm_append_comm.trans ?_;exact List.Perm.append_left K List.perm_append_comm
   have p:((xs.take m.toNat).take l.toNat).length=l.toNat:=by rw[aB,aB];omega
   rw[p,J] at L;have T:cur.toList.drop (a+l.toNat*k)=Z:=by
    rw[<-List.drop_drop,Q];exact List.drop_left' L
   have s: ∀c,OwnEls R I w c ((xs.take m.toNat).drop l.toNat) d->St I w0 w (Ch.own (ah E R) [.slice (some ⟨g,a+x,none⟩) (m.toNat - l.toNat) (cap - l.toNat)] ((xs.take m.toNat).drop l.toNat)::C)\/c≠cur.toList.drop (a+x):=fun c W=>by
    by_cases o:c=cur.toList.drop (a+x)
    ·subst o;have m1:l.toNat*k+(cap - l.toNat)*k=cap*k:=by rw[<-Nat.add_mul];congr 1;omega
     refine .inl ⟨z,P,(g::d)++K,⟨g::d,K,rfl,⟨by omega,.inr ⟨g,a+x,cap - l.toNat,cur,d,by grind,k1,by omega,by omega,by grind,rfl,W⟩⟩,e⟩,(List.nodup_append.1 (hp.nodup_iff.1 y)).1,fun b U=>M b (hp.mem_iff.2 (bq _ U))⟩
    grind
   rcases t with t | t
   ·have H:(xs.take m.toNat).drop l.toNat= []:=List.eq_nil_of_length_eq_zero (by omega);have q:d= []:=by rw[H] at D;exact D
    rcases s (cur.toList.drop (a+x)) (by rw[H,q];rfl) with r | r
    ·exact r
    grind
   grind
def rZ (u:Hdr):List (Nat×Nat×AV)->List (Nat×Nat×AV)
 | [] =>[]
 | (t,ver,.xv top u' h k n l m)::es=>(match Hdr.beq u' u with | true=>(t,ver,.one (.own u')) | false=>(t,ver,.xv top u' h k n l m))::rZ u es
 | (t,ver,.vw u' h k n l m)::es=>(match Hdr.beq u' u with | true=>(t,ver,.one (.own u)) | false=>(t,ver,.vw u' h k n l m))::rZ u es
 | e::es=>e::rZ u es
def Yc {Y:Type} (s:Sg) (v:AV) (kk:Sg->Option Y):Option Y:=match v with
 | .xv _ u _ _ _ _ _=>kk ⟨rZ u s.env,s.chs,s.nxt+1⟩
 | .vw u h k n l m=>match rowOf h s.chs with
  | some r=>bW (Nat.beq k r.t.size) (kk ⟨rZ u s.env,(u,s.nxt,.own (.sl r.E r.t) ((r.xs.take m.toNat).drop l.toNat))::r.rest,s.nxt+1⟩)
  | none=>kk s
 | _=>kk s
def Yd {Y:Type} :List AV->Sg->(Sg->Option Y)->Option Y
 | [],s,kk=>kk s
 | v::vs,s,kk=>Yc s v fun s=>Yd vs s kk
section
variable {P:Program} {I J:Hp} {w0 w:World} {F:Ch} {n:Nat} {θ:Th} {s:Sg} {a:Act}
theorem Jd {u:Hdr} {N:Nat} {chs:List Ent} : ∀ {l:List (Nat×Nat×AV)},(∀e∈l,e.2.2.ok P w0 J θ N chs)->(∀e∈rZ u l,e.2.2.ok P w0 J θ N chs/\ ∃g∈l,g.2.1=e.2.1)/\((rZ u l).map fun e=>(e.1,e.2.2.v θ))=(l.map fun e=>(e.1,e.2.2.v θ))/\((l.Pairwise fun a b=>a.2.1≠b.2.1)->(rZ u l).Pairwise fun a b=>a.2.1≠b.2.1)
 | [],h=>⟨fun e r=>(by cases r),rfl,fun _=>List.Pairwise.nil⟩
 | e::es,h=>by
  have ⟨D,M,O⟩:=Jd (u:=u) (l:=es) fun e r=>h e (bp _ r);have k:=h e (List.mem_cons_self ..);have fin: ∀f,f.1=e.1->f.2.1=e.2.1->f.2.2.ok P w0 J θ N chs->f.2.2.v θ=e.2.2.v θ->(∀q∈f::rZ u es,q.2.2.ok P w0 J θ N chs/\ ∃g∈e::es,g.2.1=q.2.1)/\((f::rZ u es).map fun e=>(e.1,e.2.2.v θ))=((e::es).map fun e=>(e.1,e.2.2.v θ))/\(((e::es).Pairwise fun a b=>a.2.1≠b.2.1)->(f::rZ u es).Pairwise fun a b=>a.2.1≠b.2.1):=fun f E C H Q=>by
   refine ⟨fun q i=>?_,?_,fun hp=>?_⟩
   ·rcases az i with rfl | i
    ·exact ⟨H,e,List.mem_cons_self ..,C.symm⟩
    ·have ⟨B,g,A,m⟩:=D q i;exact ⟨B,g,bp _ A,m⟩
   ·rw[List.map_cons,List.map_cons,M,E,Q]
   ·have ⟨G,K⟩:=List.pairwise_cons.1 hp;refine List.pairwise_cons.2 ⟨fun q i=>?_,O K⟩;have ⟨B,g,A,m⟩:=D q i;rw[C,<-m];exact G g A
  obtain ⟨t,c,L⟩:=e;cases L with
  | vw d z y p x o =>
   cases j:Hdr.beq d u with
   | true =>
    have:=Hdr.beq_eq j
    subst this;have v:rZ d ((t,c,.vw d z y p x o)::es)=(t,c,.one (.own d))::rZ d es:=by simp[rZ,j]
    rw[v];exact fin (t,c,.one (.own d)) rfl rfl ⟨k.1,k.2.2.1.one⟩ rfl
   | false =>
    grind[rZ]
  | xv top d z y p x o =>
   cases j:Hdr.beq d u with
   | true =>
    have:=Hdr.beq_eq j
    subst this;have v:rZ d ((t,c,.xv top d z y p x o)::es)=(t,c,.one (.own d))::rZ d es:=by simp[rZ,j]
    rw[v];exact fin (t,c,.one (.own d)) rfl rfl ⟨k.1,k.2.2.1.one⟩ rfl
   | false =>
    grind[rZ]
  | _=>exact fin _ rfl rfl k rfl
theorem Ye {Y:Type} {E:Sg->Option Y} {y:Y} {v:AV} (h:Yc s v E=some y) (A:v.ok P w0 J θ s.nxt s.chs) (b:Sim P I w0 F n J θ s a w): ∃s',E s'=some y/\Sim P I w0 F n J θ s' a w/\Newer s.nxt s.chs s'.chs/\s.nxt<=s'.nxt:=by
 have base:Sim P I w0 F n J θ s a w/\Newer s.nxt s.chs s.chs/\s.nxt<=s.nxt:=⟨b,Newer.rfl,aH _⟩;unfold Yc at h;split at h
 ·rename_i top u G k N l m;have ⟨o,q,z⟩:=Jd (u:=u) (P:=P) (w0:=w0) (J:=J) (θ:=θ) (N:=s.nxt) (chs:=s.chs) b.fine.env;refine ⟨_,h,⟨b.le,?_,b.st,fun e d=>AV.ok_same Same.rfl (Nat.le_succ _) Newer.rfl (o e d).1 Hp.le.rfl,fun e d=>?_,z b.fine.nd,fun e d=>gx Same.rfl (Nat.le_succ _) Newer.rfl (b.fine.chs e d) Hp.le.rfl,b.fine.lay⟩,Newer.rfl,Nat.le_succ _⟩
  ·show Agr n a ((rZ u s.env).map _);rw[q];exact b.agr
  ·obtain ⟨-,x,t,C⟩:=o e d;rw[<-C];exact aW (b.fine.ver x t)
 ·rename_i u G k N l m;have i:=A;split at h
  ·rename_i r K;have ⟨B,h⟩:=ak h;have B:=aw B;obtain ⟨hp,-⟩:=bK K;have ⟨o,q,z⟩:=Jd (u:=u) (P:=P) (w0:=w0) (J:=J) (θ:=θ) (N:=s.nxt) (chs:=s.chs) b.fine.env;have j:=b.st.perm ((hp.map (toCh P θ)).append_right [F]);have H:=Ux j i.2.2.1;subst H;have p:=Yb j (r.t.rep_size.trans B.symm) i.2.2.1 i.2.2.2;have f:Newer s.nxt s.chs ((u,s.nxt,.own (.sl r.E r.t) ((r.xs.take m.toNat).drop l.toNat))::r.rest):=fun e d L D c g=>by
    rcases az d with rfl | d
    ·obtain ⟨rfl,g⟩:=g;rcases g with ⟨rfl,rfl⟩ | g
     ·grind
     ·exact g.elim
    grind
   refine ⟨_,h,⟨b.le,?_,p,fun e d=>AV.ok_same Same.rfl (Nat.le_succ _) f (o e d).1 Hp.le.rfl,fun e d=>?_,z b.fine.nd,fun e d=>?_,b.fine.lay⟩,f,Nat.le_succ _⟩
   ·show Agr n a ((rZ u s.env).map _);rw[q];exact b.agr
   ·obtain ⟨-,x,t,C⟩:=o e d;rw[<-C];exact aW (b.fine.ver x t)
   ·rcases az d with rfl | d
    ·exact ⟨aW i.1,ay _,trivial⟩
    ·exact gx Same.rfl (Nat.le_succ _) f (b.fine.chs e (hp.mem_iff.2 (bp _ d))) Hp.le.rfl
  grind
 grind
theorem PU {Y:Type} {c:Sg->Option Y} {y:Y} : ∀ {vs:List AV} {s:Sg},Yd vs s c=some y->(∀v∈vs,v.ok P w0 J θ s.nxt s.chs)->Sim P I w0 F n J θ s a w-> ∃b,c b=some y/\Sim P I w0 F n J θ b a w/\s.nxt<=b.nxt
 | [],s,h,_,hS=>⟨s,h,hS,aH _⟩
 | v::vs,s,h,hv',hS=>by
  have ⟨l,e,d,i,f⟩:=Ye (show Yc s v (fun s=>Yd vs s c)=some y from h) (hv' v (List.mem_cons_self ..)) hS;have ⟨b,m,k,j⟩:=PU (vs:=vs) e (fun x g=>AV.ok_same Same.rfl f i (hv' x (bp _ g)) Hp.le.rfl) d;grind
end
end R
namespace D
open Go.RowKit
section
variable {P:Program} {I J:Hp} {w0 w w':World} {cs C:List Ch} {o:Oper} {ev:Operand->Value}
theorem Rz {dT sT ty e:TypeId} {k g o dLen dCap sLen sCap:Nat} {ao:Option Addr} {cs:List Value} (l:P.underlying dT=some (.slice e)) (hs:(sizeOf e).run P w= .ok k w) (f:cs.length=Nat.min sLen dLen*k)
  (c:cs= [] \/ ∃a,ao=some a/\ ∀j v,cs[j]? =some v->w.cell? (a.add j)=some v) (m: ∀j,j<cs.length->(w.cell? ⟨g,o+j,none⟩).isSome=true) (i: ∀j,j<cs.length->w.frozen? ⟨g,o+j,none⟩=false) (h1: ∀v∈cs,v.oneCell'=true) :
  (Builtin.copy_ #[dT,sT] ty #[.slice (some ⟨g,o,none⟩) dLen dCap,.slice ao sLen sCap]).run P w= .ok (goInt (Nat.min sLen dLen)) (w.setCells g o cs):=by
 have b:=run_storeCells_cells (P:=P) g o cs 0 w (by simpa using m) (by simpa using i) h1;simp only[Nat.add_zero] at b;have d:(Builtin.firstCells k (Nat.min sLen dLen) (.slice ao sLen sCap)).run P w= .ok cs.toArray w:=by
  rcases c with rfl | ⟨a,rfl,h⟩
  ·cases ao with
   | none=>rfl
   | some a=>exact run_firstCells_some (P:=P) w k _ a sLen sCap [] f (fun j v n=>by simp at n)
  ·exact run_firstCells_some (P:=P) w k _ a sLen sCap cs f h
 simp[Builtin.copy_,run_underlying l,Builtin.lenOf,hs,d,b]
theorem zx {x y:Operand} {T U:TypeId} {v u r:Value} {w w':World} (a:o.op= .call { callee:=.builtin .copy,args:= #[x,y],argTypes:= #[T,U] }) (b:ev x=v) (c:ev y=u) (d:(Builtin.copy_ #[T,U] o.type #[v,u]).run P w= .ok r w'):(execOp ev o).run P w= .ok (.value r) w':=by
 simp only[execOp,a,resolve,invoke,builtin,Sem.run_bind,Sem.run_pure,Result.andThen_ok,List.map_toArray,List.map_cons,List.map_nil,b,c,d]
theorem uh {x y:Operand} {T U:TypeId} {v u r:Value} {w w':World} (a:o.op= .call { callee:=.builtin .append,args:= #[x,y],argTypes:= #[T,U] }) (b:ev x=v) (c:ev y=u) (d:(Builtin.append_ #[T,U] o.type #[v,u]).run P w= .ok r w'):(execOp ev o).run P w= .ok (.value r) w':=by
 simp only[execOp,a,resolve,invoke,builtin,Sem.run_bind,Sem.run_pure,Result.andThen_ok,List.map_toArray,List.map_cons,List.map_nil,b,c,d]
def Je {α:Type} (xs:List α) (p:Nat) (ys:List α):List α:=xs.take p++(ys++xs.drop (p+ys.length))
theorem yq {α:Type} {xs ys:List α} {p:Nat} (hp:p<=xs.length):(Je xs p ys).length=max xs.length (p+ys.length):=by
 simp only[Je,aF,aB,bF];omega
theorem Yf {α:Type} {xs ys:List α} {p q:Nat} (hp:p<=xs.length):(Je xs p ys)[q]? =if p<=q/\q<p+ys.length then ys[q - p]? else xs[q]? :=by
 have b:(xs.take p).length=p:=by rw[aB];omega
 unfold Je;by_cases a:q<p
 ·rw[if_neg (by omega),List.getElem?_append_left (by omega),List.getElem?_take,if_pos a]
 ·rw[List.getElem?_append_right (by omega),b];by_cases c:q<p+ys.length
  ·rw[if_pos (by omega),List.getElem?_append_left (by omega)]
  ·rw[if_neg (by omega),List.getElem?_append_right (by omega),List.getElem?_drop];congr 1;omega
def RdCells {α:Type} (R:Rep α) (I:Hp) (k:Nat) (news:List Value) (ys:List α):Prop:=news.length=ys.length*k/\ ∀(i:Nat) y,ys[i]? =some y-> ∃c:List Value,c.length=k/\(∀j,j<k->news[i*k+j]? =c[j]?)/\R.rd I c y
theorem RdCells.one {α:Type} {R:Rep α} {k:Nat} {news:List Value} {ys:List α} (e:0<k) (h:RdCells R I k news ys): ∀u∈news,u.oneCell'=true:=by
 intro u f;obtain ⟨q,d⟩:=List.getElem?_of_mem f;have a:=(List.getElem?_eq_some_iff.1 d).1;rw[h.1] at a;have b:q / k<ys.length:=by rw[Nat.div_lt_iff_lt_mul e];exact a
 obtain ⟨c,j,i,g⟩:=h.2 _ _ (List.getElem?_eq_getElem b)
 have:=i (q % k) (Nat.mod_lt _ e)
 rw[Nat.div_add_mod',d] at this;exact R.rd_one g u (List.mem_of_getElem? this.symm)
theorem Lt {α:Type} {R:Rep α} {xs:List α} {cur:Array Value} {ofs k j m:Nat} (n:m<=xs.length) (a:ofs+xs.length*k<=cur.size) (p:j<=m) (d: ∀(i:Nat) x,xs[i]? =some x-> ∃c:List Value,c.length=k/\(∀j,j<k->(cur.toList.drop ofs)[i*k+j]? =c[j]?)/\R.rd I c x):RdCells R I k (vl cur ofs k j m) ((xs.take m).drop j):=by
 have e:((xs.take m).drop j).length=m - j:=by rw[bF,aB];omega
 refine ⟨by rw[e];exact wJ a p n,fun i y b=>?_⟩;have s:i<m - j:=by rw[<-e];exact (List.getElem?_eq_some_iff.1 b).1
 rw[List.getElem?_drop,List.getElem?_take,if_pos (by omega)] at b;obtain ⟨c,l,h,f⟩:=d _ _ b;refine ⟨c,l,fun q g=>?_,f⟩;have r:i*k+k<=(m - j)*k:=by rw[<-Nat.succ_mul];exact Nat.mul_le_mul_right _ (by omega)
 rw[nO (by omega),<-h q g,Nat.add_mul];congr 1;omega
theorem Yg {α:Type} {E:TypeId} {R:Rep α} (b:R.Sh) (t:Cpy R R) {k:Nat} (y:0<k) (l:R.size=k) {g ofs n cap p:Nat} {xs ys:List α} {news:List Value} (j:RdCells R I k news ys) (hp:p<=xs.length) (d:p+ys.length<=cap) (f:p+ys.length<=lim)
  (h:St I w0 w (Ch.own (ah E R) [.slice (some ⟨g,ofs,none⟩) n cap] xs::C)):St I w0 (w.setCells g (ofs+p*k) news) (Ch.own (ah E R) [.slice (some ⟨g,ofs,none⟩) (Je xs p ys).length cap] (Je xs p ys)::C):=by
 obtain ⟨rfl,x,z,-⟩:=BZ b l h;have i:=yq (xs:=xs) (ys:=ys) hp;have r:=(h.hd 0 rfl).2;refine D1 b t l (p:=p) (cnt:=ys.length) j.1 d (by rw[i];omega) (by rw[i];omega) (fun q u a=>?_) h;rw[Yf hp] at a;by_cases e:p<=q/\q<p+ys.length
 ·rw[if_pos e] at a;obtain ⟨c,v,m,s⟩:=j.2 _ _ a;exact .inl ⟨e.1,e.2,c,v,m,s⟩
 ·rw[if_neg e] at a;exact .inr ⟨by omega,a⟩
theorem RA {α:Type} {E:TypeId} {R:Rep α} (t:Cpy R R) {k:Nat} (f:R.size=k) {g cap:Nat} {cells:List Value} {xs:List α} (b:xs.length<=cap) (d:cap<=maxLen) (n:cap*k<=cells.length) (a:xs.length<=lim) (e: ∀(i:Nat) x,xs[i]? =some x-> ∃c:List Value,c.length=k/\(∀j,j<k->cells[i*k+j]? =c[j]?)/\R.rd I c x)
  (h:St I w0 w (Ch.blk g cells E::C)):St I w0 w (Ch.own (ah E R) [.slice (some ⟨g,0,none⟩) xs.length cap] xs::C):=by
 obtain ⟨p,z,F,⟨G,K,rfl,⟨rfl,u⟩,A⟩,m,y⟩:=h;refine ⟨p,z,[g] ++K,⟨[g],K,rfl,⟨a,.inr ⟨g,0,cap,cells.toArray,[],rfl,u,b,d,?_,rfl,D0 t fun i x s=>?_⟩⟩,A⟩,m,y⟩
 ·rw[f];simpa using n
 ·rw[f];obtain ⟨c,r,q,l⟩:=e i x s;exact ⟨c,r,fun j v=>by rw[<-q j v];simp,l⟩
theorem D4 {T U ty E:TypeId} {z:Value} {n b:Nat} {K:IntKind} (G:P.underlying T=some (.slice E)) (D:P.underlying U=some (.int K)) (y:TZ P E z n b) {a:Addr} {i cap q:Nat} {old:List Value} (Q:0<n) (O:0<q) (e:cap<i+q) (g:(i+q)*b<=140737488355328) (A:1<=b)
  (x:old.length=i*n) (h: ∀j v,old[j]? =some v->w.cell? (a.add j)=some v) :
  ∃c,i+q<=c/\c<=maxLen/\(Builtin.append_ #[T,U] ty #[.slice (some a) i cap,.int .i64 q]).run P w= .ok (.slice (some ⟨w.heap.size,0,none⟩) (i+q) c) (w.drew.alloc (.cells (old.toArray++Builtin.zeroCells z.cells q++Builtin.zeroCells z.cells (c - (i+q))) E)):=by
 obtain ⟨info,p,F,d,t⟩:=info_parts y;have N:(i+q)*1<=(i+q)*b:=Nat.mul_le_mul_left _ A;have M:q*b<=(i+q)*b:=Nat.mul_le_mul_right _ (by omega);have L:i64.wrap (q:Int)=q:=by rw[IntKind.wrap_i64];omega
 have f: ¬(9223372036854775807<((i:Int)+(q:Int))):=by omega
 have B:=growslice_fits (bytes:=b) e g;have l: ¬(281474976710656<Builtin.nextslicecap (i+q) cap*b):=by omega
 have k: ¬(281474976710656<(q:Int)*(b:Int)):=by
  rw[<-Int.natCast_mul];omega
 have m: ¬((q:Int)<0):=by omega
 have r: ¬(q*n=0):=Nat.mul_ne_zero (by omega) (by omega);have u: ¬(i+q<=cap):=by omega
 have s:(Builtin.firstCells n i (.slice (some a) i cap)).run P w.drew= .ok old.toArray w.drew:=run_firstCells_some (P:=P) w.drew n i a i cap old x (fun j v H=>h j v H);refine ⟨grownCap w (i+q) cap E,grownCap_ge w _ _ _,grownCap_le_maxLen w _ _ _ (by unfold maxLen;omega),?_⟩;simp[Builtin.append_,run_underlying G,run_underlying D,sizeOf,typeInfo,zeroValue,p,F,d,t,asInt,asIntOf,L,m,r,u,f,l,k,Question.forced,s,newRow,grownCap]
end
end D
namespace R
open Go.RowKit
open D
open Classical in
noncomputable def D5 {Y:Type} (n:Nat) (f:Nat->Option Y):Option Y:=if h: ∃y,∀c,n<=c->c<=maxLen->f c=some y then some h.choose else none
theorem Lu {Y:Type} {n:Nat} {f:Nat->Option Y} {y:Y} (h:D5 n f=some y): ∀c,n<=c->c<=maxLen->f c=some y:=by
 unfold D5 at h;split at h
 ·grind
 grind
theorem RB {Y:Type} {n:Nat} {f:Nat->Option Y} {y:Y} (b:n<=maxLen) (h: ∀c,n<=c->c<=maxLen->f c=some y):D5 n f=some y:=by
 unfold D5;have a: ∃y,∀c,n<=c->c<=maxLen->f c=some y:=⟨y,h⟩;grind
theorem PV: ∃F:(Y:Type)->Nat->(Nat->Option Y)->Option Y,(∀Y n f y,F Y n f=some y-> ∀c,n<=c->c<=maxLen->f c=some y)/\ ∀Y n f y,n<=maxLen->(∀c,n<=c->c<=maxLen->f c=some y)->F Y n f=some y:=
 ⟨fun Y n f=>D5 n f,fun Y n f y h=>Lu h,fun Y n f y a h=>RB a h⟩
noncomputable def aaP {Y:Type} (n:Nat) (f:Nat->Option Y):Option Y:=Classical.choose PV Y n f
theorem NL {Y:Type} {n:Nat} {f:Nat->Option Y} {y:Y} (h:aaP n f=some y): ∀c,n<=c->c<=maxLen->f c=some y:=(Classical.choose_spec PV).1 Y n f y h
def acU (tt:TT) (s:Sg) (o:Oper):Option (Hdr×Row):=match o.op with
 | .call c=>match c.callee,c.args.toList,c.argTypes.toList with
  | .builtin .cap,[x],[T] =>(td tt T).bind fun d=>d.el.bind fun _=>match opd s x with
   | some (.one (.own h))=>(rowOf h s.chs).bind fun r=>some (h,r)
   | _=>none
  | _,_,_=>none
 | _=>none
def aaQ (q:Hdr×Row) (c:Nat):Res:=⟨[q.2.ent q.1],[],q.2.rest,[],.capv q.1 c⟩
theorem Lv {P:Program} {o:Oper} {ev:Operand->Value} {x:Operand} {T:TypeId} {v r:Value} {w w':World} (a:o.op= .call { callee:=.builtin .cap,args:= #[x],argTypes:= #[T] }) (b:ev x=v) (c:(Builtin.cap_ #[T] o.type #[v]).run P w= .ok r w'):(execOp ev o).run P w= .ok (.value r) w':=by
 simp[execOp,a,resolve,invoke,builtin,Sem.run_bind,Sem.run_pure,Result.andThen_ok,List.map_toArray,List.map_cons,List.map_nil,b,c]
theorem A3 {α:Type} {E:TypeId} {R:Rep α} {I:Hp} {w0 w:World} {C:List Ch} {v:Value} {xs:List α} (h:St I w0 w (Ch.own (ah E R) [v] xs::C)): ∃a,v= .slice a xs.length (Xd v)/\xs.length<=Xd v/\Xd v<=maxLen:=by
 obtain ⟨j,p,F,⟨G,K,rfl,⟨i,e⟩,q⟩,f,o⟩:=h;rcases e with ⟨hv,rfl,rfl⟩ | ⟨g,b,cap,cur,m,hv,n,c,d,k,rfl,l⟩
 ·obtain rfl:v= .slice none 0 0:=by grind
  exact ⟨_,rfl,aH _,Nat.zero_le _⟩
 ·obtain rfl:v= .slice (some ⟨g,b,none⟩) xs.length cap:=by grind
  exact ⟨_,rfl,c,d⟩
section
variable {tt:TT} {s:Sg} {P:Program} {I J:Hp} {w0 w:World} {F:Ch} {n:Nat} {θ:Th} {a:Act} {o:Oper}
theorem Yh (L:TTok P tt) {q:Hdr×Row} (h:acU tt s o=some q) (t:Sim P I w0 F n J θ s a w):q.2.xs.length<=Xd (hv θ q.1)/\Xd (hv θ q.1)<=maxLen/\GoodA P w0 J θ s o (aaQ q (Xd (hv θ q.1))):=by
 unfold acU at h;split at h
 ·rename_i c D;split at h
  ·rename_i x T j Q A;have ⟨d,z,h⟩:=bind_some h;have ⟨E,B,h⟩:=bind_some h;split at h
   ·rename_i e K;have ⟨r,O,h⟩:=bind_some h;cases ae h;obtain ⟨hp,-⟩:=bK O;have b:=t.st.perm ((hp.map (toCh P θ)).append_right [F]);have b:St J w0 w (Ch.own (ah r.E r.t.rep) [hv θ e] r.xs::(r.rest.map (toCh P θ)++ [F])):=b;have ⟨S,H,G,y⟩:=A3 b;refine ⟨G,y,qy hp,aS rfl J θ t.fine,?_⟩;have f:=ma t.fine hp;have p:o.op= .call { callee:=.builtin .cap,args:= #[x],argTypes:= #[T] }:=by
     have ⟨k,args,l⟩:=c;have j:k= .builtin .cap:=j;rw[D,j,show args= #[x] from Array.ext' Q,show l= #[T] from Array.ext' A]
    have m:=(L.get z).el E B;have R:P.elem T=E:=by simp[Program.elem,m]
    refine OpT.weak (fact:=(· = .int .i64 (Xd (hv θ e)))) (gv:=fun _=>[toCh P θ (r.ent e)]) (fun w C M=>?_) (fun u v=>⟨⟨aW f.1,?_⟩,?_,fun g N=>by cases N⟩) (fun u v=>rfl)
    ·have i:(Builtin.cap_ #[T] o.type #[hv θ e]).run P w= .ok (goInt (Xd (hv θ e))) w:=by
      rw[H];exact run_cap_slice (P:=P) w T o.type _ _ _ (by grind)
     rw[Lv p (aG K) i];exact ⟨rfl,M⟩
    ·rw[show hv (upd θ s.nxt u) e=hv θ e from a7 Same.upd f.1]
    ·exact v.symm
   grind
  grind
 grind
end
def HG (h:Hdr):List (Nat×Nat×AV)->Option Nat
 | [] =>none
 | (_,_,.capv h' c)::es=>if Hdr.beq h' h then some c else HG h es
 | _::es=>HG h es
theorem D6 {P:Program} {w0:World} {J:Hp} {θ:Th} {n:Nat} {chs:List Ent} {h:Hdr} {c:Nat} : ∀ {l:List (Nat×Nat×AV)},HG h l=some c->(∀e∈l,e.2.2.ok P w0 J θ n chs)->Xd (hv θ h)=c
 | (t,ver,av)::es,a,hl=>by
  have p:=fun a=>D6 (l:=es) (h:=h) (c:=c) a fun e g=>hl e (bp _ g);have k:=hl (t,ver,av) (List.mem_cons_self ..);unfold HG at a;split at a
  ·grind
  ·rename_i s q d b
   injection b with i r
   injection i with u m
   injection m with o j
   subst j;split at a
   ·rename_i f
    have:=Hdr.beq_eq f
    subst this;cases ae a;exact k.2
   grind
  grind
def UB (h:Hdr):List (Nat×Nat×AV)->Option (Hdr×Int)
 | [] =>none
 | (_,_,.xv true u h' _ _ _ m)::es=>if Hdr.beq h' h then some (u,m) else UB h es
 | _::es=>UB h es
theorem PW {P:Program} {w0:World} {J:Hp} {θ:Th} {n:Nat} {chs:List Ent} {h:Hdr} {q:Hdr×Int} : ∀ {l:List (Nat×Nat×AV)},UB h l=some q->(∀e∈l,e.2.2.ok P w0 J θ n chs)->q.1.id<n/\ ∃k N,Vw (hv θ q.1) (hv θ h) k N 0 q.2
 | (t,ver,av)::es,a,hl=>by
  have x:=fun a=>PW (l:=es) (h:=h) (q:=q) a fun e f=>hl e (bp _ f);have j:=hl (t,ver,av) (List.mem_cons_self ..);unfold UB at a;split at a
  ·grind
  ·rename_i u C s w p y c b
   injection b with g B
   injection g with D m
   injection m with o i
   subst i;split at a
   ·rename_i d
    have:=Hdr.beq_eq d
    have ⟨A,v,z,r⟩:=j;grind
   grind
  grind
section
variable {Y:Type} (tt:TT) (s:Sg) (k:Res->Option Y)
def acV (b:BinOp) (x y:Operand):Option Y:=match opd s x,opd s y with
 | some (.one (.val (.int .i64 m))),some (.capv _ c)=>bW (aeH b) (kv s k (.bool (cmpI b m (c:Int))))
 | _,_=>none
def UC (T:TypeId) (x hi:Operand):Option Y:=(td tt T).bind fun d=>d.el.bind fun E'=>(td tt E').bind fun e=>match opd s x with
 | some (.one (.own h))=>(rowOf h s.chs).bind fun r=>bW (Nat.beq e.n r.t.size) ((asI s hi).bind fun m=>(HG h s.env).bind fun c=>(chk ((r.xs.length:Int)<=m/\m<=(c:Int))).bind fun _=>k ⟨[r.ent h],[],r.rest,[],.xv true ⟨s.nxt,[]⟩ h r.t.size r.xs.length 0 m⟩)
 | _=>none
def afd (T U:TypeId) (x y:Operand):Option Y:=(td tt T).bind fun d=>d.el.bind fun E=>(td tt E).bind fun e=>e.bytes.bind fun by_=>(td tt U).bind fun f=>f.ik.bind fun ik=>(Xf s x).bind fun b=>(asI s y).bind fun q =>
 bW (Nat.beq e.n b.k&&Nat.beq b.r.E E&&b.r.t.sh&&ik.isSome && !b.x) ((X8 e.ty b.r.t).bind fun z=>(HG b.h s.env).bind fun c =>
 (chk (b.l=0/\b.m<=(b.r.xs.length:Int)/\0<q/\(c:Int)<b.m+q/\(b.m+q)*(by_:Int)<=140737488355328)).bind fun _=>k ⟨[b.r.ent b.h],[],b.r.rest,[(⟨s.nxt,[]⟩,.own (.sl b.r.E b.r.t) (b.r.xs.take b.m.toNat++List.replicate q.toNat z))],.one (.own ⟨s.nxt,[]⟩)⟩)
def A4 (b c:Vb):Int:=min (c.m - c.l) (b.m - b.l)
def M7 {α:Type} (xs:List α) (l:Int) (cnt:Int):List α:=(xs.take (l+cnt).toNat).drop l.toNat
def afe (b c:Vb):Option Y:=(chk (0<=c.l/\0<=A4 b c/\c.l+A4 b c<=(b.r.xs.length:Int)/\0<=b.l/\b.l<=(b.r.xs.length:Int))).bind fun _=>match b.x with
 | false=>(chk (b.m<=(b.r.xs.length:Int))).bind fun _=>k ⟨[],[b.r.ent b.h],b.r.rest,[(b.h,.own (.sl b.r.E b.r.t) (Je b.r.xs b.l.toNat (M7 b.r.xs c.l (A4 b c))))],.one (.val (.int .i64 (A4 b c)))⟩
 | true=>(UB b.h s.env).bind fun q=>(chk (b.l+A4 b c=q.2/\(b.r.xs.length:Int)<=q.2)).bind fun _=>k ⟨[],[b.r.ent b.h],b.r.rest,[(q.1,.own (.sl b.r.E b.r.t) (Je b.r.xs b.l.toNat (M7 b.r.xs c.l (A4 b c))))],.one (.val (.int .i64 (A4 b c)))⟩
def aff (b c:Vb):Option Y:=(qu (.sl c.r.E c.r.t) (.sl b.r.E b.r.t) c.r.xs).bind fun ys=>(chk (0<=c.l/\0<=A4 b c/\c.l+A4 b c<=(ys.length:Int)/\0<=b.l/\b.l<=(b.r.xs.length:Int)/\b.m<=(b.r.xs.length:Int))).bind fun _ =>
 k ⟨[c.r.ent c.h],[b.r.ent b.h],c.r.rest,[(b.h,.own (.sl b.r.E b.r.t) (Je b.r.xs b.l.toNat (M7 ys c.l (A4 b c))))],.one (.val (.int .i64 (A4 b c)))⟩
def UD (T:TypeId) (x y:Operand):Option Y:=(td tt T).bind fun d=>d.el.bind fun E=>(td tt E).bind fun e=>(Xf s x).bind fun b=>(Xf s y).bind fun c=>bW (Nat.beq e.n b.k&&Nat.beq c.k b.k&&Nat.beq b.r.E E&&b.r.t.sh) (match Hdr.beq c.h b.h with
 | true=>afe s k b c
 | false=>(afb s b.r.rest y).bind fun c=>bW (Nat.beq c.k b.k) (aff k b c))
def acW (x y:Operand):Option Y:=match opd s x with
 | some (.one (.own h))=>(rowOf h s.chs).bind fun r=>(afb s r.rest y).bind fun c=>(chk (0<r.xs.length/\c.l<c.m)).bind fun _=>k ⟨[r.ent h,c.r.ent c.h],[],c.r.rest,[],.one (.val (.bool false))⟩
 | _=>none
end
section
variable {Y:Type} {tt:TT} {s:Sg} {k:Res->Option Y} {P:Program} {w0:World} {o:Oper} {res:Y} {x y:Operand}
theorem Yi {b:BinOp} {t u:TypeId} (d:o.op= .binOp b t x y u) (h:acV s k b x y=some res):Oks P w0 s o k res:=by
 unfold acV at h;split at h
 ·rename_i m g c e f;have ⟨a,h⟩:=ak h;exact mw h rfl fun J θ i=>yg d (aG e) (aG f) a rfl
 grind
theorem RC (p:TTok P tt) {T:TypeId} {hi:Operand} (G:o.op= .slice T x none (some hi) none) (h:UC tt s k T x hi=some res):Oks P w0 s o k res:=by
 have ⟨d,D,h⟩:=bind_some h;have ⟨E',E,h⟩:=bind_some h;have ⟨e,F,h⟩:=bind_some h;split at h
 ·rename_i n L;have ⟨r,Q,h⟩:=bind_some h;have ⟨V,h⟩:=ak h;have ⟨m,N,h⟩:=bind_some h;have ⟨c,H,h⟩:=bind_some h;have ⟨u,O,h⟩:=bind_some h;have ⟨c1,K⟩:=bH O;refine ⟨_,h,UA Q (fun _=>rfl) fun J θ A=>fun w C q=>?_⟩;have b:St J w0 w (Ch.own (ah r.E r.t.rep) [hv θ n] r.xs::C):=q;have a:=D6 H A.env;have ⟨X,i,t,e3⟩:=A3 b;rw[a] at i t
  have:=HE (P:=P) (I:=J) (w0:=w0) (ev:=evL (envL θ s)) (lo:=none) (hi:=some hi) (ml:=none) (mh:=some m) ((p.get D).el _ E) (p.get F).ti G ((aG (θ:=θ) L).trans i) trivial (qA N θ) t (Int.le_refl _) (by grind) K w (toCh P θ (r.ent n)::C) q
  refine this.imp fun v Z l=>⟨?_,l.2⟩
  have z:=D3 (k:=r.t.size) b;rcases z with ⟨f,-,M,-,-⟩ | ⟨g,j,B,W,f,-,-⟩
  ·have S:c=0:=by rw[f] at a;exact a.symm
   refine .inl ⟨f,?_,M,rfl,by omega⟩;grind[sliced]
  ·rw[f] at i⊢
   injection i with R f2 U
   refine .inr ⟨g,j,B,0,rfl,?_,Int.le_refl _,by omega,by omega,by omega,Nat.zero_le _,.inr (by simp)⟩;grind[sliced,Addr.add_mid]
 grind
theorem Yj (hT:TTok P tt) {T U:TypeId} (ho:o.op= .call { callee:=.builtin .append,args:= #[x,y],argTypes:= #[T,U] }) (h:afd tt s k T U x y=some res):Oks P w0 s o k res:=by
 obtain ⟨d,hd,h⟩:=bind_some h;obtain ⟨E,hE,h⟩:=bind_some h;obtain ⟨e,he,h⟩:=bind_some h;obtain ⟨p,hby,h⟩:=bind_some h;obtain ⟨f,hf',h⟩:=bind_some h;obtain ⟨ik,hik,h⟩:=bind_some h;obtain ⟨b,hb,h⟩:=bind_some h;obtain ⟨q,hq,h⟩:=bind_some h;obtain ⟨hn,h⟩:=ak h;simp only[al] at hn;obtain ⟨⟨⟨⟨n1,n3⟩,n4⟩,n5⟩,n6⟩:=hn;have n1:e.n=b.k:=aw n1;have n3:b.r.E=E:=aw n3;obtain ⟨z,hz,h⟩:=bind_some h;obtain ⟨c,hc,h⟩:=bind_some h;obtain ⟨u,hk',h⟩:=bind_some h;obtain ⟨c1,c2,c3,c4,c5⟩:=bH hk';obtain ⟨hr,hk,hvw⟩:=tv (P:=P) (w0:=w0) hb;obtain ⟨hp,-⟩:=bK hr;obtain ⟨kn,hkn⟩:=Option.isSome_iff_exists.1 n5;have X:P.underlying U=some (.int kn):=(hT.get hf').ik (some kn) (by grind);have hdk:=hT.get hd;have W:=hT.get he;obtain ⟨l,hz1,hz2,N⟩:=W.zero p hby;have H:l.cells.size=e.n:=by rw[hz2,List.size_toArray,zh,W.sz]
 have Q:P.underlying T=some (.slice b.r.E):=(hdk.el E hE).trans (by rw[n3]);have F:TZ P b.r.E l e.n p:=by rw[n3];exact hz1
 have hzr: ∀J,b.r.t.rep.rd J l.cells.toList z:=fun J=>by grind[PS]
 have hnp:0<e.n:=by rw[n1,hk];exact Ty.size_pos _
 have hR:b.r.t.rep.size=e.n:=b.r.t.rep_size.trans (hk.symm.trans n1.symm);refine ⟨_,h,good_row (rs:=[b.r.ent b.h]) (ns:=[]) (qy hp) fun J θ hf=>fun w C hs=>?_⟩;have r:St J w0 w (Ch.own (ah b.r.E b.r.t.rep) [hv θ b.h] b.r.xs::C):=hs;have h1:=hvw hf rfl r;have K:=D6 hc hf.env;obtain ⟨ad,e1,e2,e3⟩:=A3 r;have hxl:=(r.hd 0 rfl).2;have V:((q.toNat:Nat):Int)=q:=by omega
 have I:0<q.toNat:=by omega
 have L:(b.m.toNat+q.toNat)*p<=140737488355328:=by
  have:(((b.m.toNat+q.toNat)*p:Nat):Int)=(b.m+q)*p:=by
   rw[Int.natCast_mul,Int.natCast_add,V,show ((b.m.toNat:Nat):Int)=b.m from by obtain ⟨_,_,_,g1,g2⟩:=h1.hd;omega]
  omega
 have hbig1:b.m.toNat+q.toNat<=140737488355328:=by
  have:(b.m.toNat+q.toNat)*1<=(b.m.toNat+q.toNat)*p:=Nat.mul_le_mul_left _ N
  omega
 have hy:evL (envL θ s) y= .int .i64 (q.toNat:Nat):=by rw[V];exact qA hq θ
 have fin: ∀(old:List Value) (n:Nat),old.length=b.m.toNat*e.n->(∀(i:Nat) a,(b.r.xs.take b.m.toNat)[i]? =some a-> ∃c:List Value,c.length=e.n/\(∀j,j<e.n->old[i*e.n+j]? =c[j]?)/\b.r.t.rep.rd J c a)->b.m.toNat<=b.r.xs.length->b.m.toNat+q.toNat<=n->n<=maxLen->
   St J w0 (w.drew.alloc (.cells (old.toArray++Builtin.zeroCells l.cells q.toNat++Builtin.zeroCells l.cells (n - (b.m.toNat+q.toNat))) b.r.E)) ((Ch.own (Ty.sl b.r.E b.r.t).rep [.slice (some ⟨w.heap.size,0,none⟩) (b.m.toNat+q.toNat) n] (b.r.xs.take b.m.toNat++List.replicate q.toNat z):: [toCh P θ (b.r.ent b.h)])++C):=by
  intro old n hl hel G hcc hmx;have hA:=(r.drew).alloc (old++(Builtin.zeroCells l.cells q.toNat).toList++(Builtin.zeroCells l.cells (n - (b.m.toNat+q.toNat))).toList) b.r.E;have ea:(old++(Builtin.zeroCells l.cells q.toNat).toList++(Builtin.zeroCells l.cells (n - (b.m.toNat+q.toNat))).toList).toArray=old.toArray++Builtin.zeroCells l.cells q.toNat++Builtin.zeroCells l.cells (n - (b.m.toNat+q.toNat)):=by
   apply Array.ext';simp
  rw[ea] at hA;have B:(b.r.xs.take b.m.toNat++List.replicate q.toNat z).length=b.m.toNat+q.toNat:=by rw[aF,aB,List.length_replicate];omega
  have hzl:(Builtin.zeroCells l.cells q.toNat).toList.length=q.toNat*e.n:=by rw[tq,H]
  have hzl2:(Builtin.zeroCells l.cells (n - (b.m.toNat+q.toNat))).toList.length=(n - (b.m.toNat+q.toNat))*e.n:=by rw[tq,H]
  have m1:b.m.toNat*e.n+q.toNat*e.n+(n - (b.m.toNat+q.toNat))*e.n=n*e.n:=by rw[<-Nat.add_mul,<-Nat.add_mul];congr 1;omega
  have:=RA (xs:=b.r.xs.take b.m.toNat++List.replicate q.toNat z) (Ty.cpy n4) (k:=e.n) hR (by omega) hmx (by grind) (by grind[lim]) (fun i a D=>by
   by_cases hi:i<b.m.toNat
   ·grind
   ·have hi2:i<b.m.toNat+q.toNat:=by rw[<-B];exact (List.getElem?_eq_some_iff.1 D).1
    rw[List.getElem?_append_right (by grind),aB,List.getElem?_replicate,if_pos (by omega)] at D;obtain rfl:=ae D;refine ⟨l.cells.toList,by omega,fun j M=>?_,hzr J⟩;have m2:b.m.toNat*e.n<=i*e.n:=Nat.mul_le_mul_right _ (by omega);have m3:i*e.n+e.n<=(b.m.toNat+q.toNat)*e.n:=by rw[<-Nat.succ_mul];exact Nat.mul_le_mul_right _ hi2
    have m4:(b.m.toNat+q.toNat)*e.n=b.m.toNat*e.n+q.toNat*e.n:=Nat.add_mul _ _ _;have m5:(i - b.m.toNat)*e.n=i*e.n - b.m.toNat*e.n:=Nat.sub_mul _ _ _;rw[List.getElem?_append_left (by grind),List.getElem?_append_right (by omega),hl,show i*e.n+j - b.m.toNat*e.n=(i - b.m.toNat)*e.n+j from by omega,<-H,zw (by omega) (by omega)]) hA
  rw[B] at this;exact this
 rcases h1 with ⟨q0,Z,g1,g2,g3⟩ | ⟨g,ofs,cp,x',q0,Z,q1,q2,q3,q4,q5,q6⟩
 ·have S:b.m.toNat=0:=by omega
  obtain ⟨info,hi',hzz,hsize,hbb⟩:=info_parts F;have t:=Lib.run_append_nil_zeros (P:=P) w T U o.type b.r.E info l .i64 kn Q X hi' hzz q.toNat I (by omega) (by omega) (by grind);rw[uh ho Z hy t];refine ⟨trivial,?_⟩
  have:=fin [] (grownCap w q.toNat 0 b.r.E) (by grind) (fun i a D=>by grind) (by omega) (by rw[S,Nat.zero_add];exact grownCap_ge w _ _ _) (grownCap_le_maxLen w _ _ _ (by unfold maxLen;omega))
  rw[S,Nat.zero_add] at this;grind
 ·have R:b.l.toNat=0:=by omega
  have hx0:x'=0:=by rw[R,Nat.zero_mul] at q5;omega
  subst hx0;rw[R,Nat.sub_zero,Nat.sub_zero,Nat.add_zero] at Z;rw[q0] at K r;have hcp:cp=c:=K;obtain ⟨-,r1,r2,cur,r3,r4,hat⟩:=BZ (k:=e.n) (Ty.sh_ok n4) hR r;have G:b.m.toNat<=b.r.xs.length:=by omega
  have A:=wJ (cur:=cur) (ofs:=ofs) (k:=e.n) (j:=0) (m:=b.m.toNat) (cap:=cp) r4 (Nat.zero_le _) (Nat.le_trans G r1);rw[Nat.sub_zero] at A;obtain ⟨n,g1,g2,t⟩:=D4 (P:=P) (w:=w) (ty:=o.type) (a:=⟨g,ofs,none⟩) (i:=b.m.toNat) (cap:=cp) (q:=q.toNat) (old:=vl cur ofs e.n 0 b.m.toNat) Q X F hnp I (by omega) L N A (fun j v M=>by
   have O:=(List.getElem?_eq_some_iff.1 M).1;rw[A] at O;rw[nO (by simpa using O)] at M;grind[Addr.add_mid,A1])
  rw[uh ho Z hy t];refine ⟨trivial,fin _ n A (fun i a D=>?_) G g1 g2⟩;have hi:i<b.m.toNat:=by
   have:=(List.getElem?_eq_some_iff.1 D).1
   rw[aB] at this;omega
  rw[List.getElem?_take,if_pos hi] at D;obtain ⟨c,d1,d2,d3⟩:=hat i a D;refine ⟨c,d1,fun j M=>?_,d3⟩;have m2:i*e.n+e.n<=b.m.toNat*e.n:=by rw[<-Nat.succ_mul];exact Nat.mul_le_mul_right _ hi
  rw[nO (by rw[Nat.sub_zero];omega),<-d2 j M];simp
theorem Jf {α:Type} {xs:List α} {l cnt:Int} (a:0<=l) (h1:0<=cnt) (b:l+cnt<=(xs.length:Int)):(M7 xs l cnt).length=cnt.toNat:=by
 grind[M7,bF,aB]
theorem Lw {I:Hp} {w:World} {C:List Ch} {α:Type} {E:TypeId} {R:Rep α} (e:R.Sh) {k:Nat} (U:0<k) (z:R.size=k) {v u:Value} {xs:List α} {l m cnt:Int} (b:St I w0 w (Ch.own (ah E R) [v] xs::C)) (hv:Vw u v k xs.length l m) (h1:0<=cnt) (W:l+cnt<=(xs.length:Int)) (F:cnt<=m - l) :
  ∃ao sc news,u= .slice ao (m.toNat - l.toNat) sc/\RdCells R I k news (M7 xs l cnt)/\(news= [] \/ ∃a,ao=some a/\ ∀j v,news[j]? =some v->w.cell? (a.add j)=some v):=by
 rcases hv with ⟨h,f,n,H,G⟩ | ⟨g,ofs,p,L,h,f,N,K,M,D,A,O⟩
 ·have t:=List.eq_nil_of_length_eq_zero n;subst t;refine ⟨none,0,[],by grind,⟨by simp[M7],fun i y q=>by simp[M7] at q⟩,.inl rfl⟩
 ·rw[h] at b;obtain ⟨-,r,V,cur,B,T,d⟩:=BZ (k:=k) e z b;have S:xs.length*k<=p*k:=Nat.mul_le_mul_right _ r;have c:=Lt (R:=R) (I:=I) (xs:=xs) (cur:=cur) (ofs:=ofs) (k:=k) (j:=l.toNat) (m:=(l+cnt).toNat) (by omega) (by omega) (by omega) d;refine ⟨_,_,vl cur ofs k l.toNat (l+cnt).toNat,f,c,?_⟩;by_cases J:cnt=0
  ·left
   have:=c.1
   simp_all
  ·right;refine ⟨_,rfl,fun j v Q=>?_⟩;grind[vl,wJ,nO,Addr.add_mid,Nat.add_assoc,A1]
theorem Lx {I:Hp} {ev:Operand->Value} {w:World} {C:List Ch} {α:Type} {E T U:TypeId} {R:Rep α} (A:R.Sh) (hC:Cpy R R) {k:Nat} {agg:Bool} (O:P.underlying T=some (.slice E)) (H:TI P E agg k) (hk:0<k) (hR:R.size=k) {v V:Value} {xs ys:List α} {l m d h:Int} {ao:Option Addr} {J:Nat} {news:List Value}
  (ho:o.op= .call { callee:=.builtin .copy,args:= #[x,y],argTypes:= #[T,U] }) (Z:ev x=V) (hy:ev y= .slice ao (h.toNat - d.toNat) J) (u:St I w0 w (Ch.own (ah E R) [v] xs::C)) (hv:Vw V v k xs.length l m) (L:RdCells R I k news ys) (z:news= [] \/ ∃a,ao=some a/\ ∀j v,news[j]? =some v->w.cell? (a.add j)=some v)
  (h0:0<=d) (h02:d<=h) (hys:(ys.length:Int)=min (h - d) (m - l)) (hl:l<=(xs.length:Int)) :
  Upon P (fun r w'=>r= .int .i64 (min (h - d) (m - l))/\ ∃u',(∀a b c,v= .slice a b c->u'= .slice a (Je xs l.toNat ys).length c)/\St I w0 w' (Ch.own (ah E R) [u'] (Je xs l.toNat ys)::C)) ((execOp ev o).run P w):=by
 have D:((Nat.min (h.toNat - d.toNat) (m.toNat - l.toNat):Nat):Int)=min (h - d) (m - l):=by
  have ⟨_,_,_,S,g2⟩:=hv.hd;show ((min (h.toNat - d.toNat) (m.toNat - l.toNat):Nat):Int)=_;omega
 have F:Nat.min (h.toNat - d.toNat) (m.toNat - l.toNat)=ys.length:=by omega
 rcases hv with ⟨X,K,S,g2,g3⟩ | ⟨g,i,G,W,X,K,q1,q2,q3,q4,q5,N⟩
 ·have hxx:=List.eq_nil_of_length_eq_zero S;have M:ys= []:=List.eq_nil_of_length_eq_zero (by omega);have f:(Builtin.copy_ #[T,U] o.type #[.slice none 0 0,.slice ao (h.toNat - d.toNat) J]).run P w= .ok (goInt 0) w:=by
   have B:(h.toNat - d.toNat).min 0=0:=Nat.min_zero _;cases ao with
   | none=>simp[Builtin.copy_,run_underlying O,Builtin.lenOf,TI.size H w,Builtin.firstCells,B]
   | some a =>
    have h0:(loadCells a 0).run P w= .ok #[] w:=run_loadCells_list (P:=P) w a [] (by simp);simp[Builtin.copy_,run_underlying O,Builtin.lenOf,TI.size H w,Builtin.firstCells,B,h0]
  rw[zx ho (Z.trans K) hy f];refine ⟨?_,v,fun a b c e=>?_,?_⟩
  ·rw[<-D,F,M];rfl
  ·grind[Je]
  grind[Je]
 ·rw[X] at u⊢;obtain ⟨-,r1,r2,cur,r3,r4,hat⟩:=BZ (k:=k) A hR u;have n:l.toNat+ys.length<=G:=by omega
  have m1:(l.toNat+ys.length)*k<=G*k:=Nat.mul_le_mul_right _ n;have hcl:(cur.toList.drop i).length=cur.size - i:=by grind
  have hnl:=L.1;have t:W=l.toNat*k\/ys= []:=by
   rcases N with N | N
   ·right;exact List.eq_nil_of_length_eq_zero (by omega)
   ·omega
  have f:=Rz (P:=P) (w:=w) (dT:=T) (sT:=U) (ty:=o.type) (k:=k) (g:=g) (o:=i+W) (dLen:=m.toNat - l.toNat) (dCap:=G - l.toNat) (sLen:=h.toNat - d.toNat) (sCap:=J) (ao:=ao) (cs:=news) O (TI.size H w) (by grind) z (fun q hq=>by
   grind[Nat.add_assoc,A1,List.getElem?_eq_getElem]) (fun q _=>by simp[World.frozen?,r3]) (L.one hk)
  rw[zx ho (Z.trans K) hy f];refine ⟨?_,.slice (some ⟨g,i,none⟩) (Je xs l.toNat ys).length G,fun a b c e=>?_,?_⟩
  ·simp_all[goInt,Nat.min]
  ·grind
  ·have:=Yg A hC hk hR (p:=l.toNat) L (by omega) n (by grind[lim,maxLen]) u
   rcases t with t | t
   ·grind
   ·have Q:news= []:=List.eq_nil_of_length_eq_zero (by grind);rw[Q] at this⊢;exact this
theorem sB {b c:Vb} :A4 b c<=c.m - c.l/\A4 b c<=b.m - b.l:=⟨Int.min_le_left _ _,Int.min_le_right _ _⟩
theorem UE (hT:TTok P tt) {T U:TypeId} (ho:o.op= .call { callee:=.builtin .copy,args:= #[x,y],argTypes:= #[T,U] }) (h:UD tt s k T x y=some res):Oks P w0 s o k res:=by
 have ⟨d,hd,h⟩:=bind_some h;have ⟨E,hE,h⟩:=bind_some h;have ⟨e,he,h⟩:=bind_some h;have ⟨b,hb,h⟩:=bind_some h;have ⟨c,hc,h⟩:=bind_some h;have ⟨hn,h⟩:=ak h;simp only[al] at hn;have ⟨⟨⟨n1,n2⟩,n3⟩,Q⟩:=hn;have n1:e.n=b.k:=aw n1;have n2:c.k=b.k:=aw n2;have n3:b.r.E=E:=aw n3;have ⟨hr,hk,hvw⟩:=tv (P:=P) (w0:=w0) hb;obtain ⟨hp,-⟩:=bK hr;have hTE:P.underlying T=some (.slice b.r.E):=((hT.get hd).el E hE).trans (by rw[n3]);have W:TI P b.r.E e.agg b.k:=by rw[n3,<-n1];exact (hT.get he).ti
 have D:0<b.k:=by rw[hk];exact Ty.size_pos _
 have hR:b.r.t.rep.size=b.k:=b.r.t.rep_size.trans hk.symm;split at h
 ·rename_i Z;have hh:=Hdr.beq_eq Z;have ⟨t,hk2,n⟩:=tv (P:=P) (w0:=w0) hc;have hcr:c.r=b.r:=by
   rw[hh] at t;exact ae (t.symm.trans hr)
  have ⟨u,N,h⟩:=bind_some h;have ⟨S,V,R,c4,c5⟩:=bH N;have key: ∀J θ,Fine P w0 J θ s-> ∀w C,St J w0 w (toCh P θ (b.r.ent b.h)::C)->Upon P (fun r w'=>r= .int .i64 (A4 b c)/\ ∃I,(∀a q z,hv θ b.h= .slice a q z->I= .slice a (Je b.r.xs b.l.toNat (M7 b.r.xs c.l (A4 b c))).length z)/\St J w0 w' (Ch.own (ah b.r.E b.r.t.rep) [I] (Je b.r.xs b.l.toNat (M7 b.r.xs c.l (A4 b c)))::C)) ((execOp (evL (envL θ s)) o).run P w):=by
   intro J θ l w C j;have i:St J w0 w (Ch.own (ah b.r.E b.r.t.rep) [hv θ b.h] b.r.xs::C):=j;have h1:=hvw l rfl i;have h2:Vw (evL (envL θ s) y) (hv θ b.h) b.k b.r.xs.length c.l c.m:=by
    have:=n l rfl (xs:=c.r.xs) (by rw[hcr,hh];omega)
    grind
   have ⟨ao,sc,news,hy,H,m⟩:=Lw (Ty.sh_ok Q) D hR i h2 V R (sB).1;have F:=Jf (xs:=b.r.xs) S V R;exact Lx (P:=P) (w0:=w0) (o:=o) (Ty.sh_ok Q) (Ty.cpy Q) hTE W D hR ho rfl hy i h1 H m S (by have:=(sB (b:=b) (c:=c)).1;omega) (by grind[A4]) c5
  have hll:=Jf (xs:=b.r.xs) S V R;have K:=yq (xs:=b.r.xs) (ys:=M7 b.r.xs c.l (A4 b c)) (p:=b.l.toNat) (by omega);have hcf:=(sB (b:=b) (c:=c)).2;split at h
  ·have ⟨u2,M,h⟩:=bind_some h;have d1:=bH M;refine ⟨_,h,Jc (fact:=fun _ v=>v= .int .i64 (A4 b c)) hr (fun J θ l=>fun w C j=>?_) (fun J θ u l A hlt=>⟨rfl,A.symm⟩)⟩;refine (key J θ l w C j).imp fun r w' f=>⟨f.1,?_⟩
   obtain ⟨-,I,G,O⟩:=f;have i:St J w0 w (Ch.own (ah b.r.E b.r.t.rep) [hv θ b.h] b.r.xs::C):=j;have ⟨ad,f1,f2,f3⟩:=A3 i;grind
  ·have ⟨q,hq,h⟩:=bind_some h;have ⟨u2,M,h⟩:=bind_some h;have ⟨d1,d2⟩:=bH M;refine ⟨_,h,Gu hp,aS rfl,fun J θ l=>?_⟩;have ⟨t1,k0,N0,t2⟩:=PW hq l.env;refine OpT.weak (fact:=fun v=>v= .int .i64 (A4 b c)) (gv:=fun _=>[Ch.own (ah b.r.E b.r.t.rep) [hv θ q.1] (Je b.r.xs b.l.toNat (M7 b.r.xs c.l (A4 b c)))]) (fun w C j=>?_) (fun u A=>⟨rfl,A.symm,fun g hg=>?_⟩) (fun u A=>?_)
   ·refine (key J θ l w C j).imp fun r w' f=>⟨f.1,?_⟩
    obtain ⟨-,I,G,O⟩:=f;have i:St J w0 w (Ch.own (ah b.r.E b.r.t.rep) [hv θ b.h] b.r.xs::C):=j;have ⟨ad,f1,f2,f3⟩:=A3 i
    have:=G _ _ _ f1
    have F:(Je b.r.xs b.l.toNat (M7 b.r.xs c.l (A4 b c))).length=q.2.toNat:=by rw[K];omega
    have hu':I=hv θ q.1:=by
     rw[this,F];rcases t2 with ⟨q0,A,g1,g2,g3⟩ | ⟨g,ofs,cp,x',q0,A,q1,q2,q3,q4,q5,q6⟩
     ·grind
     ·grind
    grind
   ·obtain rfl:=ax hg;exact ⟨aW t1,ay _,trivial⟩
   ·show [Ch.own _ [hv θ q.1] _] = [Ch.own _ [hv (upd θ s.nxt u) q.1] _];rw[show hv (upd θ s.nxt u) q.1=hv θ q.1 from a7 Same.upd t1]
    rfl
 ·have ⟨c,hc',h⟩:=bind_some h;have ⟨hkk,h⟩:=ak h;have n2:c.k=b.k:=aw hkk;obtain ⟨t,hk2,n⟩:=NK (P:=P) (w0:=w0) hc';obtain ⟨hp2,-⟩:=bK t;obtain ⟨ys,hys,h⟩:=bind_some h;obtain ⟨u,N,h⟩:=bind_some h;obtain ⟨S,V,R,c4,c5,c6⟩:=bH N;have hent:=AW (h:=c.h) hys;have hyl:c.r.xs.length=ys.length:=by
   obtain ⟨G,O⟩:=qv hys;obtain ⟨x1,x2,x3,x4,x5,ver,E2,t2,xs2,rest2⟩:=c;simp only at G O⊢
   injection G with e3 e4
   subst e3;subst e4;rw[O]
  have hll:=Jf (xs:=ys) S V R;have K:=yq (xs:=b.r.xs) (ys:=M7 ys c.l (A4 b c)) (p:=b.l.toNat) (by omega);have hcf:=(sB (b:=b) (c:=c)).2;have L:s.chs.Perm ([c.r.ent c.h] ++ [b.r.ent b.h] ++c.r.rest):=by
   refine hp.trans ((hp2.cons _).trans ?_);exact List.Perm.swap _ _ _
  refine ⟨_,h,L,aS rfl,fun J θ l=>?_⟩;have X:=ma l hp;refine OpT.weak (fact:=fun v=>v= .int .i64 (A4 b c)) (gv:=fun _=>[toCh P θ (c.r.ent c.h),Ch.own (ah b.r.E b.r.t.rep) [hv θ b.h] (Je b.r.xs b.l.toNat (M7 ys c.l (A4 b c)))]) (fun w C j=>?_) (fun u A=>⟨rfl,A.symm,fun g hg=>?_⟩) (fun u A=>?_)
  ·have j:St J w0 w (toCh P θ (c.r.ent c.h)::Ch.own (ah b.r.E b.r.t.rep) [hv θ b.h] b.r.xs::C):=j;have B:=j.perm (List.Perm.swap _ _ _);have h1:=hvw l rfl B;have h2:=n l rfl (show St J w0 w (Ch.own (ah c.r.E c.r.t.rep) [hv θ c.h] c.r.xs::_) from j);rw[hyl,n2] at h2;rw[hent] at j B⊢;have hs2:St J w0 w (Ch.own (ah b.r.E b.r.t.rep) [hv θ c.h] ys::Ch.own (ah b.r.E b.r.t.rep) [hv θ b.h] b.r.xs::C):=j;obtain ⟨ao,sc,news,hy,H,m⟩:=Lw (Ty.sh_ok Q) D hR hs2 h2 V R (sB).1
   have:=Lx (P:=P) (w0:=w0) (o:=o) (Ty.sh_ok Q) (Ty.cpy Q) hTE W D hR ho rfl hy B h1 H m S (by have:=(sB (b:=b) (c:=c)).1;omega) (by grind[A4]) c5
   refine this.imp fun r w' f=>⟨f.1,?_⟩
   obtain ⟨-,I,G,O⟩:=f;obtain ⟨ad,f1,f2,f3⟩:=A3 B
   have:=G _ _ _ f1
   have hu':I=hv θ b.h:=by
    rw[this,K,show max b.r.xs.length (b.l.toNat+(M7 ys c.l (A4 b c)).length)=b.r.xs.length from by omega];exact f1.symm
   rw[hu'] at O;exact O.perm (List.Perm.swap _ _ _)
  ·obtain rfl:=ax hg;exact ⟨aW X.1,ay _,trivial⟩
  ·show [toCh P θ (c.r.ent c.h),Ch.own _ [hv θ b.h] _] = [toCh P θ (c.r.ent c.h),Ch.own _ [hv (upd θ s.nxt u) b.h] _];rw[show hv (upd θ s.nxt u) b.h=hv θ b.h from a7 Same.upd X.1]
   rfl
theorem Ly {α:Type} {E:TypeId} {R:Rep α} {I:Hp} {w0 w:World} {C:List Ch} {g ofs n cap:Nat} {xs:List α} (h:St I w0 w (Ch.own (ah E R) [.slice (some ⟨g,ofs,none⟩) n cap] xs::C)): ∃cur,w.heap[g]? =some (.cells cur E (0,0))/\ofs+cap*R.size<=cur.size/\n=xs.length/\n<=cap/\ ∃F,Sep I C w F/\g∉F:=by
 obtain ⟨c,f,F,⟨G,K,rfl,⟨b,d⟩,i⟩,a,e⟩:=h;grind
theorem Yk {q:FuncId} (D:air P q) {ts:Array TypeId} (ho:o.op= .call { callee:=.value (.func q),args:= #[x,y],argTypes:=ts }) (h:acW s k x y=some res):Oks P w0 s o k res:=by
 unfold acW at h;split at h
 ·rename_i K hx;have ⟨r,hr,h⟩:=bind_some h;have ⟨c,hc,h⟩:=bind_some h;have ⟨u,hk,h⟩:=bind_some h;have ⟨c1,c2⟩:=bH hk;obtain ⟨hp,-⟩:=bK hr;have ⟨v,W,j⟩:=NK (P:=P) (w0:=w0) hc;obtain ⟨I,-⟩:=bK v;have i:=hp.trans (I.cons _);refine ⟨_,h,i,aS rfl,fun J θ hf=>OpT.weak (fact:=(· = .bool false)) (gv:=fun _=>[toCh P θ (r.ent K),toCh P θ (c.r.ent c.h)]) (fun w C N=>?_) (fun u l=>⟨rfl,l.symm,fun g U=>by cases U⟩) (fun u l=>rfl)⟩;have a:St J w0 w (Ch.own (ah r.E r.t.rep) [hv θ K] r.xs::Ch.own (ah c.r.E c.r.t.rep) [hv θ c.h] c.r.xs::C):=N;have d:=a.perm (List.Perm.swap _ _ _);have h2:=j hf rfl d;have R:=D3 (k:=1) a;rcases R with ⟨t,-,g1,-,-⟩ | ⟨g,z,S,x',t,-,-⟩
  ·omega
  rcases h2 with ⟨O,l,e1,e2,e3⟩ | ⟨M,p,f,x2,O,l,p1,p2,p3,p4,p5,p6⟩
  ·omega
  rw[t] at a;rw[t,O] at d;obtain ⟨n,T,a2,a3,a4,-⟩:=Ly a;have ⟨b,b1,b2,b3,b4,FB,b5,V⟩:=Ly d;have A:g≠M:=by
   intro e;obtain ⟨X,KA,hFB,H,-⟩:=b5
   have:g∈X:=by
    obtain ⟨-,H⟩:=H;rcases H with ⟨F,-,-⟩ | ⟨g',L,Q,cur,K1,F,-,-,-,-,rfl,-⟩
    ·grind
    ·grind
   exact V (by grind)
  have E:1<=c.r.t.rep.size:=by rw[Ty.rep_size];exact Ty.size_pos _
  have B:0<b.size:=by
   have:f*1<=f*c.r.t.rep.size:=Nat.mul_le_mul_left _ E
   omega
  have m:=D w g M z (p+x2) r.xs.length (c.m.toNat - c.l.toNat) S (f - c.l.toNat) n b _ _ A T b1 B;have G:=(aG (θ:=θ) hx).trans t;have Z:(execOp (evL (envL θ s)) o).run P w= .ok (.value (.bool false)) w:=by
   simp[execOp,ho,resolve,show evL (envL θ s) (.func q)= .func (.func q) #[] #[] from rfl,Deferred.ofValue,Sem.run_bind,Sem.run_pure,Result.andThen_ok,invoke,List.map_toArray,List.map_cons,List.map_nil,G,l];exact m
  rw[Z];exact ⟨rfl,N⟩
 grind
end
end R
namespace R
open Go.RowKit
open D
structure PartA where
 h:Hdr
 ver:Nat
 E:TypeId
 t:Ty
 xs:List t.den
 lo:Nat
 hi:Nat
def Yl:AV->Option PartA
 | .sub h ver E t xs l=>some ⟨h,ver,E,t,xs,l.toNat,xs.length⟩
 | .pre h ver E t xs l=>some ⟨h,ver,E,t,xs,0,l.toNat⟩
 | _=>none
section
variable {Y:Type} (tt:TT) (s:Sg) (k:Res->Option Y)
def agE (E:TypeId) (b:Nat) (t:Ty) (xs:List t.den) (nsx rest:List Ent) (q:PartA):Option Y:=
 (rowOf q.h rest).bind fun r=>bW (Nat.beq r.ver q.ver&&(t.sh&&t.dp)) ((qu (.sl r.E r.t) (.sl E t) r.xs).bind fun ys=>(cr b xs ((ys.take q.hi).drop q.lo)).bind fun zs=>k ⟨[r.ent q.h],nsx,r.rest,[(⟨s.nxt,[]⟩,.own (.sl E t) zs)],.one (.own ⟨s.nxt,[]⟩)⟩)
def acX (T:TypeId) (x y:Operand):Option Y:=(td tt T).bind fun d=>d.el.bind fun E=>(td tt E).bind fun e=>e.bytes.bind fun b=>(opd s y).bind fun yv=>(Yl yv).bind fun q=>match opd s x with
 | some (.one (.own h))=>(rowOf h s.chs).bind fun r=>bW (Nat.beq r.E E&&Nat.beq r.t.size e.n) (agE s k r.E b r.t r.xs [r.ent h] r.rest q)
 | some (.one (.val v))=>bW (isNil v&&Nat.beq q.t.size e.n) (agE s k E b q.t [] [] s.chs q)
 | _=>none
end
section
variable {Y:Type} {tt:TT} {an:List (Nat×Ty)} {s:Sg} {k:Res->Option Y} {P:Program} {w0:World} {o:Oper} {res:Y} {x y:Operand}
theorem Ym {J:Hp} {θ:Th} {n:Nat} {chs:List Ent} {v:AV} {q:PartA} (h:Yl v=some q) (a:v.ok P w0 J θ n chs):v.v θ=uf (hv θ q.h) q.lo q.hi q.t.size/\q.lo<=q.hi/\q.hi<=q.xs.length/\q.h.id<n/\Mem chs n q.h q.ver (.own (.sl q.E q.t) q.xs):=by
 unfold Yl at h;split at h
 ·rename_i f e E t c l;obtain rfl:=ae h;obtain ⟨b,g,d⟩:=a;exact ⟨rfl,by show l.toNat<=c.length;omega,aH _,b,d⟩
 ·rename_i f e E t c l;obtain rfl:=ae h;obtain ⟨b,g,d⟩:=a;exact ⟨rfl,Nat.zero_le _,by show l.toNat<=c.length;omega,b,d⟩
 ·cases h
theorem Lz {I:Hp} {ev:Operand->Value} {α:Type} {E T:TypeId} {R:Rep α} {z:Value} {n b:Nat} {x y:Operand} {s u:Value} {xs ys zs:List α} {lo hi:Nat} (h:cr b xs ((ys.take hi).drop lo)=some zs) (h1:lo<=hi) (t:hi<=ys.length) (g:R.Dp) (l:Cpy R R) (q:P.underlying T=some (.slice E)) (i:TZ P E z n b) (a:z.cells.size=n) (m:0<n) (e:R.size=n) (c:1<=b) (j:o.op= .call { callee:=.builtin .append,args:= #[x,y],argTypes:= #[T,T] }) (p:ev x=s) (f:ev y=uf u lo hi n) :
  OpT P I w0 o ev [Ch.own (ah E R) [s] xs,Ch.own (ah E R) [u] ys] (fun _=>True) (fun v=>[Ch.own (ah E R) [v] zs,Ch.own (ah E R) [u] ys]):=by
 intro w C r;have key:=zp (P:=P) (I:=I) (w0:=w0) (o:=o) (ev:=ev) (ls:=[Ch.own (ah E R) [u] ys]) (rn:=[Ch.own (ah E R) [s] xs]) (fact:=fun _=>True) (gv:=fun v=>[Ch.own (ah E R) [v] zs]) (fun v=>⟨DE (IF g),trivial⟩) (fun B A d _=>yi h l e (Pp (d _ _ _ (List.mem_singleton.2 rfl)) h1 t e) q i a m e c j p f) w C (r.perm ((List.Perm.swap _ _ _).append_right C));exact key.imp fun v w hv=>⟨hv.1,hv.2.perm ((List.Perm.swap _ _ _).append_right C)⟩
theorem Yn {q:PartA} {nsx rest:List Ent} {r:Row} {J:Hp} {θ:Th} {n:Nat} (hp:s.chs.Perm (nsx++rest)) (c:rowOf q.h rest=some r) (hv:r.ver=q.ver) (b:Mem s.chs n q.h q.ver (.own (.sl q.E q.t) q.xs)):Chk.own (.sl r.E r.t) r.xs=Chk.own (.sl q.E q.t) q.xs:=by
 obtain ⟨a,-⟩:=bK c;exact b.2 (r.ent q.h) (hp.mem_iff.2 (bw _ (a.mem_iff.2 (by simp)))) _ ⟨rfl,.inl ⟨hv,rfl⟩⟩
theorem UF {T E:TypeId} {z:Value} {n b:Nat} {t:Ty} {xs:List t.den} {nsx rest:List Ent} {q:PartA} {F:AV} (U:Yl F=some q) (hp:s.chs.Perm (nsx++rest)) (hT:P.underlying T=some (.slice E)) (W:TZ P E z n b) (u:z.cells.size=n) (hn:0<n) (K:t.size=n) (A:1<=b) (X:o.op= .call { callee:=.builtin .append,args:= #[x,y],argTypes:= #[T,T] }) (H:opd s y=some F)
  (l: ∀J θ,Fine P w0 J θ s-> ∃v,evL (envL θ s) x=v/\ ∀(rn:List Ch) (fact:Value->Prop) (L:Value->List Ch),OpT P J w0 o (evL (envL θ s)) (Ch.own (ah E t.rep) [v] xs::rn) fact L->OpT P J w0 o (evL (envL θ s)) (nsx.map (toCh P θ)++rn) fact L)
  (h:agE s k E b t xs nsx rest q=some res):Oks P w0 s o k res:=by
 unfold agE at h;obtain ⟨r,N,h⟩:=bind_some h;obtain ⟨M,h⟩:=ak h;rw[al,al] at M;obtain ⟨f,C,D⟩:=M;have f:=aw f;obtain ⟨B,i,h⟩:=bind_some h;obtain ⟨zs,d,h⟩:=bind_some h;obtain ⟨m,-⟩:=bK N;have w:=AW (h:=q.h) i;refine ⟨_,h,good_row (hp.trans ((m.append_left nsx).trans List.perm_middle)) fun J θ G=>?_⟩;obtain ⟨v,j,l⟩:=l J θ G;obtain ⟨Z,p2,p3,-,Q⟩:=Ym U (bQ G H);have c:=Yn (J:=J) (θ:=θ) hp N f Q;have a:r.ent q.h=(q.h,r.ver,.own (.sl q.E q.t) q.xs):=by
  show (q.h,r.ver,Chk.own (.sl r.E r.t) r.xs)=_;rw[c]
 rw[w] at a;have e:Chk.own (.sl E t) B=Chk.own (.sl q.E q.t) q.xs:=(Prod.mk.inj (Prod.mk.inj a).2).2;have g:q.t.size=n/\q.xs.length=B.length:=by
  clear j l h i d a w c;obtain ⟨qh,O,qE,S,p,qlo,qhi⟩:=q;simp only at e;have V:Ty.sl E t=Ty.sl qE S:=(Chk.own.inj e).1;obtain ⟨rfl,rfl⟩:=Ty.sl.inj V;have e2:B=p:=eq_of_heq (Chk.own.inj e).2;exact ⟨K,by rw[e2]⟩
 rw[w]
 have:=Lz (P:=P) (I:=J) (w0:=w0) (R:=t.rep) d p2 (by rw[<-g.2];exact p3) (Ty.dp_ok D) (Ty.cpy C) hT W u hn (t.rep_size.trans K) A X j ((aG (θ:=θ) H).trans (by rw[Z,g.1]))
 exact OpT.permN (List.perm_append_comm (l₁:=[_])) (l _ _ _ this)
theorem Yo (B:TTok P tt) {T:TypeId} (A:o.op= .call { callee:=.builtin .append,args:= #[x,y],argTypes:= #[T,T] }) (h:acX tt s k T x y=some res):Oks P w0 s o k res:=by
 obtain ⟨d,D,h⟩:=bind_some h;obtain ⟨E,w,h⟩:=bind_some h;obtain ⟨e,H,h⟩:=bind_some h;obtain ⟨b,G,h⟩:=bind_some h;obtain ⟨L,t,h⟩:=bind_some h;obtain ⟨q,u,h⟩:=bind_some h;have j:=B.get D;have g:=B.get H;obtain ⟨z,l,n,m⟩:=g.zero b G;have i:z.cells.size=e.n:=by rw[n,List.size_toArray,zh,g.sz]
 split at h
 ·rename_i I p;obtain ⟨r,K,h⟩:=bind_some h;obtain ⟨f,h⟩:=ak h;rw[al] at f;have c:=aw f.1;have a:=aw f.2;obtain ⟨hp,-⟩:=bK K;exact UF (nsx:=[r.ent I]) u hp ((j.el E w).trans (by rw[c])) (by rw[c];exact l) i (by rw[<-a];exact Ty.size_pos _) a m A t (fun J θ C=>⟨_,aG p,fun rn fact F h=>h⟩) h
 ·rename_i v p;obtain ⟨f,h⟩:=ak h;rw[al] at f;have c:=pO f.1;have a:=aw f.2;refine UF (nsx:=[]) u (List.Perm.refl _) (j.el E w) l i (by rw[<-a];exact Ty.size_pos _) a m A t (fun J θ C=>⟨_,aG p,fun rn fact F h=>?_⟩) h;rw[show (AV.one (LV.val v)).v θ= .slice none 0 0 from c] at h;exact OpT.nilrow h
 ·cases h
end
structure HRow where
 E:TypeId
 t:Ty
 xs:List t.den
 n:Nat
def afg:Hol->Option HRow
 | ⟨_,_,.sl E t,d,.sl _ _,_,f,_,_,_,_,_⟩=>some ⟨E,t,d,List.length (α:=t.den) (f ([] :List _))⟩
 | _=>none
section
variable {Y:Type} (tt:TT) (s:Sg) (k:Res->Option Y)
def UG (T:TypeId) (x i:Operand):Option Y:=(td tt T).bind fun d=>match d.el,opd s x,opd s i with
 | some E,some (.one (.own h)),some (.one (.val (.int .i64 i)))=>(Nu h s.chs).bind fun r=>(afg r).bind fun q=>(td tt E).bind fun e=>bW (Nat.beq e.n q.t.size&&Gt h r.rest) ((aK q.xs i).bind fun a=>(chk (i<(q.n:Int))).bind fun _=>k ⟨[r.ent h],[],r.rest,[],.elo h r.over q.E q.t q.xs a i 0⟩)
 | _,_,_=>none
end
section
variable {Y:Type} {tt:TT} {s:Sg} {k:Res->Option Y} {P:Program} {w0:World} {o:Oper} {res:Y} {x:Operand}
theorem afh {I:Hp} {α β:Type} {E E':TypeId} {R:Rep α} {S:Rep β} {v c:Value} {f:List β->List α} {b off:Nat} {w:World} {K:List Nat} (h:(Ch.gap (ah E R) [v] (ah E' S) f b off c).holds I w K):Hd v (f []).length:=by
 obtain ⟨m,⟨cur,n,t,j⟩,p,g⟩:=h;obtain ⟨F,-,i⟩:=g I (w.setCell ⟨b,off,none⟩ (.slice none 0 0)) (.slice none 0 0) [] [] Hp.le.rfl (fun x r a=>by
  simp only[World.setCell];rw[Array.getElem?_modify,if_neg (fun e=>a e.symm)]) (fun d q l=>by
  simp only[World.setCell];rw[Array.getElem?_modify,if_pos rfl,l];rfl) ⟨by simp,.inl ⟨rfl,rfl,rfl⟩⟩
 exact Hd.of_own i
theorem RD (Z:TTok P tt) {T:TypeId} {i:Operand} (ho:o.op= .indexAddr T x i) (h:UG tt s k T x i=some res):Oks P w0 s o k res:=by
 obtain ⟨d,hd,h⟩:=bind_some h;split at h
 ·rename_i E b j he hx hi;obtain ⟨r,hr,h⟩:=bind_some h;obtain ⟨q,D,h⟩:=bind_some h;obtain ⟨e,hE,h⟩:=bind_some h;obtain ⟨l,h⟩:=ak h;obtain ⟨a,M,h⟩:=bind_some h;obtain ⟨u0,z,h⟩:=bind_some h;have z:=bH z;rw[al] at l;obtain ⟨l,B⟩:=l;have l:=aw l;have hp:=Df hr;obtain ⟨ver1,f,t0,d1,u1,y1,t,i1,k1,y,Q,R⟩:=r;cases t0 with
  | sl W m =>
   cases u1 with
   | sl E2 p =>
    obtain rfl:=ae (show some _=some q from D);refine ⟨_,h,qy hp,aS rfl,fun J θ S=>OpT.weak (fact:=(· =pt (hv θ b) (j.toNat*m.size+0))) (gv:=fun _=>[toCh P θ (Hol.ent _ b)]) (fun w C hs=>?_) (fun u V=>?_) (fun u V=>rfl)⟩
    ·have L:St J w0 w (Ch.gap (ah W m.rep) [hv θ b] (ah E2 p.rep) t (ptB (hv θ b)) (ptO (hv θ b)+(i1.toNat*k1+y)) (Q.v θ)::C):=hs;have hD:Hd (hv θ b) (t ([] :List p.den)).length:=by
      obtain ⟨-,-,F,n,-,-⟩:=L;obtain ⟨G,K,-,N,-⟩:=n;exact afh N
     have H:inI (α:=m.den) (t ([] :List p.den)) j:=⟨(IC M).1,by
      have:=(IC M).1
      have z:j<((List.length (α:=m.den) (t ([] :List p.den)):Nat):Int):=z;show j.toNat<List.length (α:=m.den) (t ([] :List p.den));omega⟩
     have:=uY (I:=J) (w0:=w0) (P:=P) (o:=o) hD ((Z.get hd).el _ he) (Z.get hE).ti ho (aG hx) (aG hi) H
     rw[l] at this;exact this w _ hs
    ·have O:=ma S hp;obtain ⟨X,q2,q3,U,q5,q6⟩:=O;have hm:Mem s.chs s.nxt b f (.own (.sl W m) d1):=⟨Nat.lt_trans U q2,fun e' c c' v=>by
      rcases az (hp.mem_iff.1 c) with rfl | c
      ·rcases v.2 with ⟨A,-⟩ | ⟨-,A⟩
       ·exact absurd A (Nat.ne_of_gt U)
       ·exact A
      ·exact absurd v.1 (rv B c)⟩
     refine ⟨⟨aW X,M,hm.newer (Res.newer (qy hp) (aS rfl J θ S)) (Nat.le_succ _)⟩,?_,fun g N=>by cases N⟩;rw[V];show pt (hv (upd θ s.nxt _) b) _=pt (hv θ b) _;rw[show hv (upd θ s.nxt _) b=hv θ b from a7 Same.upd X]
   | _=>cases D
  | _=>cases D
 ·cases h
end
end R
namespace D
open Go.RowKit
def pv (a b:ByteArray):Option ByteArray:=(chk (a.size+b.size<=9223372036854775807)).bind fun _=>some (a++b)
def nB (s:ByteArray) (i:Int):Option Int:=(chk (0<=i/\i<(s.size:Int))).bind fun _=>some ((s.data.toList.getD i.toNat 0).toNat:Int)
def vn (s:ByteArray) (l h:Int):Option ByteArray:=(chk (0<=l/\l<=h/\h<=(s.size:Int))).bind fun _=>some (s.extract l.toNat h.toNat)
def B2 (l:List Int):ByteArray:=l.foldl (fun r n=>r.push (UInt8.ofNat n.toNat)) ByteArray.empty
section
variable {P:Program} {I:Hp} {w0:World} {o:Oper} {ev:Operand->Value} {x y:Operand}
theorem acY {t u:TypeId} {m n:ByteArray} (h:m.size+n.size<=9223372036854775807) (a:o.op= .binOp .add t x y u) (b:ev x= .string m) (c:ev y= .string n):OpT P I w0 o ev [] (· = .string (m++n)) (fun _=>[]):=
 bt fun w=>by simp[execOp,a,b,c,eqGuard,binOp_string_add,run_string_add_sum w m n h,Result.andThen]
theorem UH {T:TypeId} {m:ByteArray} {k:IntKind} {i:Int} (hT:P.underlying T=some .string) (h:0<=i/\i<(m.size:Int)) (ho:o.op= .index T x y) (hx:ev x= .string m) (hy:ev y= .int k i):OpT P I w0 o ev [] (· = .int .u8 ((m.data.toList.getD i.toNat 0).toNat:Int)) (fun _=>[]):=
 bt fun w=>by
  have h2:i.toNat<m.size:=by omega
  have e:m.data.toList.getD i.toNat 0=m[i.toNat]'h2:=by
   have h3:i.toNat<m.data.toList.length:=by simpa using h2
   rw[List.getD_eq_getElem?_getD,List.getElem?_eq_getElem h3]
   simp[ByteArray.getElem_eq_getElem_data]
  have:=run_index_string (P:=P) (w:=w) T m k i hT
  rw[dif_pos h] at this
  rw[e]
  simp[execOp,ho,hx,hy,this,Result.andThen]
def acZ (ev:Operand->Value) (d:Int):Option Operand->Int->Prop
 | none,n=>n=d
 | some z,n=> ∃k,ev z= .int k n
theorem UI {T:TypeId} {m:ByteArray} {lo hi:Option Operand} {l h:Int} (f:P.underlying T=some .string) (d:0<=l/\l<=h/\h<=(m.size:Int)) (g:o.op= .slice T x lo hi none) (n:ev x= .string m)
  (p:acZ ev 0 lo l) (i:acZ ev (m.size:Int) hi h):OpT P I w0 o ev [] (· = .string (m.extract l.toNat h.toNat)) (fun _=>[]):=
 bt fun w=>by
  have c: ∀a b,(Instr.sliceAt T (.string m) a b none).run P w=(Instr.slice T (.string m) a b none).run P w:=fun a b=>by
   simp[Instr.sliceAt,run_underlying f]
  cases lo with
  | none =>
   obtain rfl:l=0:=p;cases hi with
   | none =>
    obtain rfl:h=(m.size:Int):=i;simp[execOp,g,n,c,run_slice_string_all,f,Result.andThen]
   | some b =>
    obtain ⟨k,e⟩:=i;simp[execOp,g,n,e,c,run_slice_string_h (t:=T) (s:=m) (P:=P) (w:=w) f k h d.2.1 d.2.2,Result.andThen]
  | some a =>
   obtain ⟨j,q⟩:=p;cases hi with
   | none =>
    obtain rfl:h=(m.size:Int):=i;simp[execOp,g,n,q,c,run_slice_string_l (t:=T) (s:=m) (P:=P) (w:=w) f j l d.1 d.2.1,Result.andThen]
   | some b =>
    obtain ⟨k,e⟩:=i
    have:=run_slice_string_if (P:=P) (w:=w) T m j k l h f
    rw[if_pos ⟨by omega,d.2.2⟩,if_pos ⟨d.1,d.2.1⟩] at this;simp[execOp,g,n,q,e,c,this,Result.andThen]
theorem D7 {S D E E':TypeId} {h1: ∀a:Int,(Value.int .u8 a).oneCell'=true} {v:Value} {xs:List Int} (m:P.underlying S=some (.slice E)) (i:P.underlying E=some (.int .u8)) (k:P.underlying D=some .string) (l:(ah E' (nA Int (.int .u8) h1)).rd I [v] xs) (j:o.op= .convert S D x) (g:ev x=v):OpT P I w0 o ev [] (· = .string (B2 xs)) (fun _=>[]):=by
 intro w C h;obtain ⟨d,cap,rfl,b⟩:=Src.of_rd h l;have c:(execOp ev o).run P w= .ok (.value (.string (B2 xs))) w:=by
  have f:(convert S D (.slice d (xs.map (Value.int .u8)).length cap)).run P w= .ok (.string (B2 xs)) w:=by
   rw[run_convert_bytes_string w S D E d _ cap m i k];rcases b with b | ⟨a,rfl,b⟩
   ·have e:xs= []:=by simpa using b
    subst e;cases d with
    | none=>rfl
    | some a=>exact run_bytesToString w a _ cap [] (run_loadCells_list (P:=P) w a [] (by simp))
   ·rw[List.length_map];exact run_bytesToString w a _ cap xs (by
     have:=run_loadCells_list (P:=P) w a (xs.map (Value.int .u8)) b
     rwa [List.length_map] at this)
  simp only[List.length_map] at f g;simp[execOp,j,g,f,Result.andThen]
 rw[c];exact ⟨rfl,h⟩
end
end D
namespace R
open Go.RowKit
open D
section
variable {Y:Type} (tt:TT) (s:Sg) (k:Res->Option Y)
def ac0 (b:BinOp) (t:TypeId) (x y:Operand):Option Y:=match b,opd s x,opd s y with
 | .add,some (.one (.val (.string m))),some (.one (.val (.string n)))=>(pv m n).bind fun r=>kv s k (.string r)
 | _,_,_=>agz tt s k b t x y
def afi (T:TypeId) (x i:Operand):Option Y:=(td tt T).bind fun d=>d.ik.bind fun k1=>match k1,opd s x,opd s i with
 | none,some (.one (.val (.string m))),some (.one (.val (.int j n)))=>(nB m n).bind fun r=>kv s k (.int .u8 r)
 | _,_,_=>none
def agF (d:Int):Option Operand->Option Int
 | none=>some d
 | some y=>match opd s y with
  | some (.one (.val (.int _ n)))=>some n
  | _=>none
def UJ (T:TypeId) (x:Operand) (lo hi:Option Operand):Option Y:=(td tt T).bind fun d=>d.ik.bind fun k1=>match k1,opd s x with
 | none,some (.one (.val (.string m)))=>(agF s 0 lo).bind fun l=>(agF s (m.size:Int) hi).bind fun h=>(vn m l h).bind fun r=>kv s k (.string r)
 | _,_=>none
def aaR (S D:TypeId) (x:Operand):Option Y:=(td tt S).bind fun a=>(td tt D).bind fun b=>a.el.bind fun E=>(td tt E).bind fun e=>e.ik.bind fun k1=>b.ik.bind fun k2=>match k1,k2,opd s x with
 | some .u8,none,some (.one (.own h))=>(rowOf h s.chs).bind fun r=>(qq (.sl r.E r.t) (.sl r.E (.int .u8)) r.xs).bind fun xs=>k ⟨[r.ent h],[],r.rest,[],.one (.val (.string (B2 xs)))⟩
 | some .u8,none,some (.one (.rd _ t d))=>(qq t (.sl E (.int .u8)) d).bind fun xs=>kv s k (.string (B2 xs))
 | some .u8,none,some (.one (.val (.slice none 0 0)))=>kv s k (.string ByteArray.empty)
 | _,_,_=>none
end
section
variable {Y:Type} {tt:TT} {s:Sg} {k:Res->Option Y} {P:Program} {w0:World} {o:Oper} {res:Y} {x y:Operand}
theorem Yp (d:TTok P tt) {b:BinOp} {t u:TypeId} (c:o.op= .binOp b t x y u) (h:ac0 tt s k b t x y=some res):Oks P w0 s o k res:=by
 unfold ac0 at h;split at h
 ·rename_i m n e g;obtain ⟨r,a,h⟩:=bind_some h;obtain ⟨i,f,a⟩:=bind_some a;obtain rfl:=ae a;exact mw h rfl fun J θ j=>acY (bH f) c (aG e) (aG g)
 ·exact To d c h
theorem Yq (q:TTok P tt) {T:TypeId} {i:Operand} (g:o.op= .index T x i) (h:afi tt s k T x i=some res):Oks P w0 s o k res:=by
 obtain ⟨d,f,c⟩:=bind_some h;obtain ⟨w,e,a⟩:=bind_some c;clear h c;split at a
 ·rename_i m j n p t;obtain ⟨r,b,h⟩:=bind_some a;obtain ⟨u,l,b⟩:=bind_some b;obtain rfl:=ae b;exact mw h rfl fun J θ v=>UH ((q.get f).ik _ e) (bH l) g (aG p) (aG t)
 ·cases a
theorem UK {d n:Int} {θ:Th} {lo:Option Operand} (h:agF s d lo=some n):acZ (evL (envL θ s)) d lo n:=by
 cases lo with
 | none=>exact (ae h).symm
 | some z =>
  simp only[agF] at h;split at h
  ·rename_i j m a;obtain rfl:=ae h;exact ⟨j,aG a⟩
  ·cases h
theorem RE (v:TTok P tt) {T:TypeId} {lo hi:Option Operand} (p:o.op= .slice T x lo hi none) (h:UJ tt s k T x lo hi=some res):Oks P w0 s o k res:=by
 obtain ⟨d,g,c⟩:=bind_some h;obtain ⟨A,f,a⟩:=bind_some c;clear h c;split at a
 ·rename_i m u;obtain ⟨l,j,i⟩:=bind_some a;obtain ⟨e,n,t⟩:=bind_some i;obtain ⟨r,b,h⟩:=bind_some t;obtain ⟨w,q,b⟩:=bind_some b;obtain rfl:=ae b;exact mw h rfl fun J θ z=>UI ((v.get g).ik _ f) (bH q) p (aG u) (UK j) (UK n)
 ·cases a
theorem UL (q:TTok P tt) {S D:TypeId} (l:o.op= .convert S D x) (h:aaR tt s k S D x=some res):Oks P w0 s o k res:=by
 obtain ⟨a,O,z⟩:=bind_some h;obtain ⟨b,M,F⟩:=bind_some z;obtain ⟨E,L,A⟩:=bind_some F;obtain ⟨e,N,H⟩:=bind_some A;obtain ⟨Z,h1,C⟩:=bind_some H;obtain ⟨W,U,i⟩:=bind_some C;clear h z F A H C;have w:=(q.get O).el _ L;have n:=(q.get M).ik _ U;have p:=(q.get N).ik _ h1;split at i
 ·rename_i G f;obtain ⟨r,T,v⟩:=bind_some i;obtain ⟨xs,c,Q⟩:=bind_some v;obtain ⟨hp,-⟩:=bK T;refine ⟨_,Q,qy hp,aS rfl,fun J θ j=>OpT.weak (zp (ls:=[Ch.own (Ty.sl r.E r.t).rep [hv θ G] r.xs]) (rn:=[]) (gv:=fun _=>[]) (fun _=>trivial) fun X V m K=>?_) (fact:=(· = .string (B2 xs))) (fun u B=>?_) (fun u B=>rfl)⟩
  ·have I:=jB c (m _ _ _ (List.mem_singleton_self _));exact D7 w p n I l (aG f)
  ·subst B;exact ⟨Eq.refl true,rfl,fun g R=>by cases R⟩
 ·rename_i G t d f;obtain ⟨xs,c,v⟩:=bind_some i;exact mw v rfl fun J θ j=>D7 w p n (jB c (bQ j f).2) l (aG f)
 ·rename_i f;exact mw i rfl fun J θ j=>D7 (E':=0) (xs:=[]) (h1:=fun _=>rfl) w p n ⟨none,0,rfl,⟨by simp,by simp⟩,.inl rfl⟩ l (aG f)
 ·cases i
end
section
variable {Y:Type} (s:Sg) (k:Res->Option Y)
def ahk (T f:Nat) (x y:Operand):Option Y:=match opd s x,opd s y with
 | some (.agg xs),some (.agg ys)=>k ⟨[],[],s.chs,[(⟨s.nxt,[]⟩,.clo f [] [.ptr ⟨s.nxt,[0]⟩ 0,.ptr ⟨s.nxt,[1]⟩ 0]),(⟨s.nxt,[0]⟩,.blk T xs),(⟨s.nxt,[1]⟩,.blk T ys)],.one (.own ⟨s.nxt,[]⟩)⟩
 | _,_=>none
end
section
variable {Y:Type} {s:Sg} {k:Res->Option Y} {P:Program} {w0:World} {o:Oper} {res:Y} {x y:Operand}
theorem Yr {J:Hp} {θ:Th} {n:Nat} {chs:List Ent} {h:Hdr} {ver f:Nat} {a:List LV} (h1:h.id<n) (e:ver<n) (c: ∀x∈a,x.ok P w0 J θ n) (b:hv θ h= .func (.func f) #[] (a.map (·.v θ)).toArray):okE P w0 J θ n chs (h,ver,.clo f [] a):=
 ⟨h1,e,fun y d=>(by cases d),c,b⟩
theorem Jg {J:Hp} {θ:Th} {n:Nat} {chs:List Ent} {h:Hdr} {ver T:Nat} {cells:List LV} (h1:h.id<n) (b:ver<n) (a: ∀x∈cells,x.ok P w0 J θ n):okE P w0 J θ n chs (h,ver,.blk T cells):=⟨h1,b,a⟩
set_option maxHeartbeats 2000000 in
theorem ac1 {g T f:Nat} (n:ae3 P g T f) {ts:Array TypeId} (r:o.op= .call { callee:=.value (.func g),args:= #[x,y],argTypes:=ts }) (h:ahk s k T f x y=some res):Oks P w0 s o k res:=by
 unfold ahk at h;split at h
 ·rename_i d e m j;refine ⟨_,h,by simp,aS rfl,fun J θ i=>?_⟩;have p: ∀z∈d,z.ok P w0 J θ s.nxt:=bQ i m;have l: ∀z∈e,z.ok P w0 J θ s.nxt:=bQ i j;have q:(#[] :Array Value).toList++(#[x,y] :Array Operand).toList.map (evL (envL θ s))++(#[] :Array Value).toList=(#[.agg (d.map (·.v θ)).toArray,.agg (e.map (·.v θ)).toArray] :Array Value).toList:=by
   simp only[List.map_cons,List.map_nil,List.nil_append,List.append_nil,aG (θ:=θ) m,aG (θ:=θ) j]
   rfl
  refine OpT.weak (ru n.1 r rfl q (n.2 J w0 (d.map (·.v θ)) (e.map (·.v θ)))) (fun v b=>?_) (fun v b=>?_)
  ·obtain ⟨t,u,rfl⟩:=b;refine ⟨⟨ay _,by rw[dQ];rfl⟩,dQ,fun g c=>?_⟩;rcases az c with rfl | c
   ·refine Yr (ay _) (ay _) (fun z a=>?_) ?_
    ·rcases az a with rfl | a
     ·exact ay _
     ·obtain rfl:=ax a;exact ay _
    ·show hv (upd θ s.nxt _) ⟨s.nxt,[]⟩=_;rw[dQ];show Value.func _ _ _=Value.func _ _ #[.pointer (some ⟨bk (vg (upd θ s.nxt _ s.nxt) [0]),0,none⟩),.pointer (some ⟨bk (vg (upd θ s.nxt _ s.nxt) [1]),0,none⟩)];rw[ix]
     rfl
   rcases az c with rfl | c
   ·exact Jg (ay _) (ay _) fun z a=>LV.ok_same Same.upd (Nat.le_succ _) (p z a) Hp.le.rfl
   ·obtain rfl:=ax c;exact Jg (ay _) (ay _) fun z a=>LV.ok_same Same.upd (Nat.le_succ _) (l z a) Hp.le.rfl
  ·show [Ch.emp,Ch.blk (bk (vg v [0])) _ T,Ch.blk (bk (vg v [1])) _ T] = [Ch.emp,Ch.blk (bk (vg (upd θ s.nxt v s.nxt) [0])) (d.map _) T,Ch.blk (bk (vg (upd θ s.nxt v s.nxt) [1])) (e.map _) T];rw[ix,jc Same.upd p,jc Same.upd l]
 ·cases h
end
def aaS (h:Hdr) (s:Sg):Option Sg:=(pull h s.chs).bind fun r=>match r.1.2.2 with
 | .own (.sl E (.bag t)) xs=>some ⟨s.env,(h,s.nxt,.own (.sl E (.fro (.fro (.fro t)))) xs)::r.2,s.nxt+1⟩
 | _=>none
def A5 (h:Hdr) (s:Sg):Sg:=match aaS h s with
 | some s'=>s'
 | none=>s
def RF (o:Oper) (s:Sg):Sg:=match o.op with
 | .indexAddr _ x _=>match opd s x with
  | some (.one (.own h))=>A5 h s
  | _=>s
 | _=>s
def aiW:Chk->Bool
 | .own (.sl _ (.fro (.fro (.fro _)))) _=>true
 | _=>false
def NM (n:Nat) (e:Ent):Ent:=match e.2.2 with
 | .own (.sl E (.fro (.fro (.fro t)))) xs=>(e.1,n,.own (.sl E (.bag t)) xs)
 | _=>e
def Ys (s:Sg):Sg:=match s.chs.any fun e=>aiW e.2.2 with
 | true=>⟨s.env,s.chs.map (NM s.nxt),s.nxt+1⟩
 | false=>s
def aew (s:Sg):Sg:=Ys (tn s)
section
variable {P:Program} {I J:Hp} {w0 w:World} {F:Ch} {n:Nat} {θ:Th} {s s':Sg} {a:Act} {h:Hdr}
theorem LA (hs:aaS h s=some s') (j:Sim P I w0 F n J θ s a w): ∃o,J.le o/\Sim P I w0 F n o θ s' a w/\Fr s θ s' θ:=by
 obtain ⟨r,hr,hs⟩:=bind_some hs;obtain ⟨p,k⟩:=gf hr;obtain ⟨⟨q,T,c⟩,rest⟩:=r;obtain rfl:q=h:=k;cases c with
 | own u d =>
  cases u with
  | sl E u =>
   cases u with
   | bag t =>
    obtain rfl:=ae (show some _=some s' from hs);have C:=j.fine.chs _ (p.mem_iff.2 (List.mem_cons_self ..));have v:St J w0 w (Ch.own (ah E (SK t.rep)) [hv θ q] d::(rest.map (toCh P θ)++ [F])):=j.st.perm ((p.map (toCh P θ)).append_right [F]);obtain ⟨o,m,y⟩:=v.freeze_els;have l: ∀e,e∈rest->e∈s.chs:=fun e b=>p.mem_iff.2 (bp _ b);have i:Newer s.nxt s.chs ((q,s.nxt,Chk.own (.sl E (.fro (.fro (.fro t)))) d)::rest):=fun e b h' D c f=>by
     rcases az b with rfl | b
     ·obtain ⟨rfl,f⟩:=f;rcases f with ⟨v,-⟩ | f
      ·exact .inl (Nat.le_of_eq v)
      ·exact f.elim
     ·exact .inr ⟨e,l e b,f⟩
    refine ⟨o,m,⟨j.le.trans m,j.agr,?_,fun e b=>AV.ok_same Same.rfl (Nat.le_succ _) i (j.fine.env e b) m,fun e b=>aW (j.fine.ver e b),j.fine.nd,fun e b=>?_,j.fine.lay.mono m⟩,Nat.le_succ _,Same.rfl,fun e b _=>b,i⟩
    ·show St o w0 w (Ch.own (ah E (CF (CF (CF t.rep)))) [hv θ q] d::(rest.map (toCh P θ)++ [F]));obtain ⟨N,O,F0,⟨G,K,rfl,⟨M,B⟩,e3⟩,Z,L⟩:=y;refine ⟨N,O,G++K,⟨G,K,rfl,⟨M,?_⟩,e3⟩,Z,L⟩;rcases B with B | ⟨g,z,cap,cur,Y,A,k1,W,X,Q,U,V⟩
     ·exact .inl B
     ·exact .inr ⟨g,z,cap,cur,Y,A,k1,W,X,Q,U,OwnEls.turn (R:=CF t.rep) (S:=CF (CF (CF t.rep))) rfl (fun c x G H=>⟨H.1,H.2⟩) V⟩
    ·rcases az b with rfl | b
     ·exact ⟨aW C.1,ay _,trivial⟩
     ·exact gx Same.rfl (Nat.le_succ _) i (j.fine.chs e (l e b)) m
   | _=>cases hs
  | _=>cases hs
 | _=>cases hs
theorem Yt {o:Oper} (b:Sim P I w0 F n J θ s a w): ∃J',J.le J'/\Sim P I w0 F n J' θ (RF o s) a w/\Fr s θ (RF o s) θ:=by
 unfold RF;split
 ·split
  ·unfold A5;split
   ·exact LA ‹_› b
   ·exact ⟨J,Hp.le.rfl,b,Fr.rfl⟩
  ·exact ⟨J,Hp.le.rfl,b,Fr.rfl⟩
 ·exact ⟨J,Hp.le.rfl,b,Fr.rfl⟩
theorem PX {f g:Ent->Ch} {C:List Ch} : ∀ {l:List Ent} {K:List Nat},(∀e∈l,∀F,(f e).holds J w F->(g e).holds J w F)->Sep J (l.map f++C) w K->Sep J (l.map g++C) w K
 | [],K,_,h=>h
 | e::l,_,hh,⟨G,K',e1,h1,h2⟩=>⟨G,K',e1,hh e (by simp) G h1,PX (fun e b=>hh e (by simp[b])) h2⟩
theorem RG {n:Nat} {e:Ent} {h:Hdr} {ver:Nat} {c:Chk} (k:Says (NM n e) h ver c):ver=n\/Says e h ver c:=by
 unfold NM at k;split at k
 ·obtain ⟨rfl,k⟩:=k;rcases k with ⟨b,-⟩ | k
  ·exact .inl b.symm
  ·exact k.elim
 ·exact .inr k
theorem Yu (f:Sim P I w0 F n J θ s a w):Sim P I w0 F n J θ (Ys s) a w/\Fr s θ (Ys s) θ:=by
 unfold Ys;split
 ·have b:Newer s.nxt s.chs (s.chs.map (NM s.nxt)):=fun e d h i c q=>by
   obtain ⟨j,l,rfl⟩:=List.mem_map.1 d;rcases RG q with rfl | q
   ·exact .inl (aH _)
   ·exact .inr ⟨j,l,q⟩
  refine ⟨⟨f.le,f.agr,?_,fun e d=>AV.ok_same Same.rfl (Nat.le_succ _) b (f.fine.env e d) Hp.le.rfl,fun e d=>aW (f.fine.ver e d),f.fine.nd,fun e d=>?_,f.fine.lay⟩,Nat.le_succ _,Same.rfl,fun e d _=>d,b⟩
  ·obtain ⟨A,V,K,B,z,U⟩:=f.st;refine ⟨A,V,K,?_,z,U⟩;rw[List.map_map];refine PX (fun e d G y=>?_) B;show (toCh P θ (NM s.nxt e)).holds J w G;obtain ⟨m,i,c⟩:=e;unfold NM;split
   ·rename_i E t k D;obtain rfl:c= .own (.sl E (.fro (.fro (.fro t)))) k:=D;obtain ⟨C,r⟩:=(show (ah E (CF (CF (CF t.rep)))).own J w [hv θ m] k G from y);refine (show (ah E (SK t.rep)).own J w [hv θ m] k G from ⟨C,?_⟩);rcases r with r | ⟨g,o,cap,cur,Q,p,T,N,O,H,L,M⟩
    ·exact .inl r
    ·exact .inr ⟨g,o,cap,cur,Q,p,T,N,O,H,L,OwnEls.turn (R:=CF (CF (CF t.rep))) (S:=SK t.rep) rfl (fun c x G v=>by rw[v.1];exact aaq v.2) M⟩
   ·exact y
  ·obtain ⟨j,l,rfl⟩:=List.mem_map.1 d;have u:=f.fine.chs j l
   have:=gx Same.rfl (Nat.le_succ _) b u (J':=J) Hp.le.rfl
   obtain ⟨m,i,c⟩:=j;unfold NM;split
   ·exact ⟨this.1,ay _,trivial⟩
   ·exact this
 ·exact ⟨f,Fr.rfl⟩
theorem UM (f:Sim P I w0 F n J θ s a w): ∃θ',Sim P I w0 F n J θ' (aew s) a w/\Fr s θ (aew s) θ':=by
 obtain ⟨θ',b,d⟩:=Dg f;obtain ⟨c,e⟩:=Yu b;exact ⟨θ',c,d.trans e⟩
end
section
variable {Y:Type} (ft:FT) (s:Sg) (k:Res->Option Y)
def UN (ns:List Int):List LV:=ns.map fun n=>.val (.int .i64 n)
def aiu (T:Nat) (g:FuncId) (x:Operand):Option Y:=(fs ft g).bind fun f=>(opd s x).bind fun v=>(dV ft s s.chs f.ps [v]).bind fun a=>bW (a.lent.isEmpty&&a.own.isEmpty) <|
 (appP f.ps f.m a.d).bind fun r=>(acB (f.rs++outs f.ps) (toH _ r)).bind fun ns=>match opd s x with
 | some (.one lv)=>k ⟨[],[],s.chs,[(⟨s.nxt,[]⟩,.blk T (lv::UN ns))],.one (.ptr ⟨s.nxt,[]⟩ 0)⟩
 | _=>none
end
section
variable {Y:Type} {ft:FT} {s:Sg} {k:Res->Option Y} {P:Program} {w0:World} {o:Oper} {res:Y} {x:Operand}
theorem Yv {J:Hp} {θ:Th} {n:Nat} {ns:List Int} : ∀z∈UN ns,z.ok P w0 J θ n:=fun z a=>by
 obtain ⟨m,b,rfl⟩:=List.mem_map.1 a;exact Eq.refl true
theorem ac2 {θ:Th} {ns:List Int} :(UN ns).map (·.v θ)=ns.map (Value.int .i64):=by
 unfold UN;rw[List.map_map];rfl
theorem ac3 {T:Nat} {g:FuncId} (F:FTok P ft) (C: ∀f,fs ft g=some f->NewOk P g T f) {ts:Array TypeId} (I:o.op= .call { callee:=.value (.func g),args:= #[x],argTypes:=ts }) (h:aiu ft s k T g x=some res):Oks P w0 s o k res:=by
 obtain ⟨f,j,h⟩:=bind_some h;obtain ⟨O,d,h⟩:=bind_some h;obtain ⟨a,K,h⟩:=bind_some h;obtain ⟨q,h⟩:=ak h;rw[al] at q;have A:a.lent= []:=List.isEmpty_iff.1 q.1;have G:a.own= []:=List.isEmpty_iff.1 q.2;obtain ⟨r,N,h⟩:=bind_some h;obtain ⟨l,n,h⟩:=bind_some h;split at h
 ·rename_i c w;refine ⟨_,h,by simp,aS rfl,fun J θ m=>?_⟩;have B:c.ok P w0 J θ s.nxt:=bQ m w;obtain rfl:O= .one c:=ae (d.symm.trans w);obtain ⟨u,-,-⟩:=gI (J':=J) F m Hp.le.rfl K (fun y D=>by obtain rfl:=ax D;exact B) (fun e H=>H) (by rw[A];exact fun h L=>by cases L) (ghV θ a.gh) HA;have p:evL (envL θ s) x=c.v θ:=aG (θ:=θ) w;have u:PArgs P w0 J (ghV θ a.gh) f.ps [c.v θ] a.d:=u;have E:(#[] :Array Value).toList++(#[x] :Array Operand).toList.map (evL (envL θ s))++(#[] :Array Value).toList=([c.v θ] :List Value).toArray.toList:=by
   simp only[List.map_cons,List.map_nil,List.nil_append,List.append_nil,p]
  refine OpT.weak (ru (C f j).1 I rfl E ((C f j).2 w0 J (ghV θ a.gh) [c.v θ] a.d r l m.lay u N n)) (fun v i=>?_) (fun v i=>?_)
  ·obtain ⟨b,rfl⟩:=i;refine ⟨ay _,by show Value.pointer (some ⟨bk (hv _ ⟨s.nxt,[]⟩),0,none⟩)=_;rw[dQ];rfl,fun g M=>?_⟩;obtain rfl:=ax M;refine Jg (ay _) (ay _) fun z t=>?_;rcases az t with rfl | t
   ·exact LV.ok_same Same.upd (Nat.le_succ _) B Hp.le.rfl
   ·exact Yv z t
  ·show [Ch.blk (bk v) ([c.v θ] ++l.map (Value.int .i64)) T] = [Ch.blk (bk (hv (upd θ s.nxt v) ⟨s.nxt,[]⟩)) ((c::UN l).map (·.v (upd θ s.nxt v))) T];rw[dQ,List.map_cons,ac2,LV.v_same Same.upd B];rfl
 ·cases h
end
structure Mp where
 ver:Nat
 md:MD
 m:List (md.k.den×md.e.den)
 rest:List Ent
def MD.ck (d:MD) (m:List (d.k.den×d.e.den)):Chk:=.map d.K d.E d.k d.e m
def agG (h:Hdr) (chs:List Ent):Option Mp:=(pull h chs).bind fun r=>match r.1.2.2 with
 | .map K E k e m=>some ⟨r.1.2.1,⟨K,E,k,e⟩,m,r.2⟩
 | _=>none
def Mp.ent (r:Mp) (h:Hdr):Ent:=(h,r.ver,r.md.ck r.m)
theorem NN {h:Hdr} {chs:List Ent} {r:Mp} (e:agG h chs=some r):chs.Perm (r.ent h::r.rest):=by
 obtain ⟨q,a,e⟩:=bind_some e;obtain ⟨p,k⟩:=gf a;obtain ⟨⟨b,d,c⟩,rest⟩:=q;obtain rfl:b=h:=k;cases c with
 | map K E k f m =>
  obtain rfl:=ae (show some _=some r from e);exact p
 | _=>cases e
def MK.beq:MK->MK->Bool
 | .int,.int=>true
 | .ii,.ii=>true
 | _,_=>false
def ME.beq:ME->ME->Bool
 | .int,.int=>true
 | .bool,.bool=>true
 | _,_=>false
def MD.beq (a b:MD):Bool:=Nat.beq a.K b.K&&Nat.beq a.E b.E&&MK.beq a.k b.k&&ME.beq a.e b.e
theorem MD.beq_eq {a b:MD} (h:MD.beq a b=true):a=b:=by
 obtain ⟨K,E,k,e⟩:=a;obtain ⟨m,j,c,d⟩:=b;unfold MD.beq at h;simp only[al] at h;obtain ⟨⟨⟨g,i⟩,l⟩,f⟩:=h;obtain rfl:K=m:=aw g;obtain rfl:E=j:=aw i;obtain rfl:k=c:=by cases k <;> cases c <;> first | rfl | cases l
 obtain rfl:e=d:=by cases e <;> cases d <;> first | rfl | cases f
 rfl
def Yw:(k:MK)->AV->Option k.den
 | .int,.one (.val (.int .i64 n))=>some n
 | .ii,.agg [.val (.int .i64 a),.val (.int .i64 b)] =>some (a,b)
 | _,_=>none
theorem Jh {k:MK} {v:AV} {d:k.den} (h:Yw k v=some d) (θ:Th):v.v θ=k.val d:=by
 unfold Yw at h;split at h
 ·rw[<-ae h];rfl
 ·rw[<-ae h];rfl
 ·cases h
def ac4:(e:ME)->AV->Option e.den
 | .int,.one (.val (.int .i64 n))=>some n
 | .bool,.one (.val (.bool b))=>some b
 | .bool,.one (.nb b)=>some (!b)
 | _,_=>none
theorem Yx {e:ME} {v:AV} {d:e.den} (h:ac4 e v=some d) (θ:Th):v.v θ=e.val d:=by
 unfold ac4 at h;split at h
 ·rw[<-ae h];rfl
 ·rw[<-ae h];rfl
 ·rw[<-ae h];rfl
 ·cases h
theorem ME.val_one (e:ME) (d:e.den):(e.val d).oneCell'=true:=by cases e <;> rfl
section
variable {Y:Type} (tt:TT) (s:Sg) (k:Res->Option Y)
def aiv (T:TypeId):Option Y:=(td tt T).bind fun d=>d.mp.bind fun md=>k ⟨[],[],s.chs,[(⟨s.nxt,[]⟩,md.ck [])],.one (.own ⟨s.nxt,[]⟩)⟩
def ac5 (T:TypeId) (m x y:Operand):Option Y:=(td tt T).bind fun d=>d.mp.bind fun md=>match opd s m with
 | some (.one (.own h))=>(agG h s.chs).bind fun r=>bW (MD.beq md r.md) ((opd s x).bind fun kv=>(Yw r.md.k kv).bind fun q=>(opd s y).bind fun ev=>(ac4 r.md.e ev).bind fun i =>
  (@Xb r.md.k.den r.md.e.den r.m r.md.k.ok r.md.e.ok q i).bind fun M=>k ⟨[],[r.ent h],r.rest,[(h,r.md.ck M)],.any ⟨s.nxt,[]⟩⟩)
 | _=>none
def aaT (T:TypeId) (m x:Operand) (two:Bool):Option Y:=(td tt T).bind fun d=>d.mp.bind fun md=>match opd s m with
 | some (.one (.own h))=>(agG h s.chs).bind fun r=>bW (MD.beq md r.md) ((opd s x).bind fun kv=>(Yw r.md.k kv).bind fun q =>
  agy false (r.md.k.ok q=true) (instDecidableEqBool _ _) (match two with
   | true=>k ⟨[r.ent h],[],r.rest,[],.tup [(false,[.val (r.md.e.val ((@lkM r.md.k.den r.md.e.den r.md.k.dec r.m q).getD r.md.e.z))]),(false,[.val (.bool (@lkM r.md.k.den r.md.e.den r.md.k.dec r.m q).isSome)])]⟩
   | false=>k ⟨[r.ent h],[],r.rest,[],.one (.val (r.md.e.val ((@lkM r.md.k.den r.md.e.den r.md.k.dec r.m q).getD r.md.e.z)))⟩))
 | _=>none
end
section
variable {Y:Type} {tt:TT} {s:Sg} {k:Res->Option Y} {P:Program} {w0:World} {o:Oper} {res:Y} {m x y:Operand}
theorem UO {θ:Th} {h:Hdr} {ver:Nat} {a:MD} {M:List (a.k.den×a.e.den)} :toCh P θ (h,ver,a.ck M)= @Ch.mp P a.K a.E a.k.den a.e.den a.k.dec a.k.lit a.k.ok a.e.lit a.e.z (hv θ h) M:=rfl
theorem afj {I:Hp} {w:World} {C:List Ch} {K E:TypeId} {κ ε:Type} [DecidableEq κ] {lit:κ->Lit} {c:κ->Bool} {a:ε->Lit} {z:ε} {v:Value} {M:List (κ×ε)} (h:St I w0 w (Ch.mp P K E lit c a z v M::C)):v.oneCell'=true:=by
 obtain ⟨f,l,F,⟨G,i,rfl,⟨b,rfl,rfl,g⟩,e⟩,d,j⟩:=h
 rfl
theorem ac6 (p:TTok P tt) {T:TypeId} (e:o.op= .makeMap T none) (h:aiv tt s k T=some res):Oks P w0 s o k res:=by
 obtain ⟨d,n,h⟩:=bind_some h;obtain ⟨a,q,h⟩:=bind_some h;refine ⟨_,h,by simp,aS rfl,fun J θ l=>?_⟩;have c:= @Nk P J w0 o (evL (envL θ s)) a.k.den a.e.den a.k.dec a.k.lit a.k.ok a.e.lit a.e.z T a.K a.E e;intro w C i;refine (c w C i).imp fun v f hv=>?_;have b:=letI:=a.k.dec;afj hv.2;refine ⟨⟨⟨ay _,by rw[dQ];exact b⟩,dQ,fun g j=>?_⟩,?_⟩
 ·obtain rfl:=ax j;exact ⟨ay _,ay _,trivial⟩
 ·show St J w0 f ([toCh P (upd θ s.nxt v) (⟨s.nxt,[]⟩,s.nxt,a.ck [])] ++C);rw[UO,dQ];exact hv.2
theorem PY (C:TTok P tt) {T:TypeId} (A:o.op= .mapUpdate T m x y\/o.op= .insert T m x y) (h:ac5 tt s k T m x y=some res):Oks P w0 s o k res:=by
 obtain ⟨d,p,h⟩:=bind_some h;obtain ⟨I,E,h⟩:=bind_some h;split at h
 ·rename_i b B;obtain ⟨r,G,h⟩:=bind_some h;obtain ⟨z,h⟩:=ak h;obtain ⟨kv,F,h⟩:=bind_some h;obtain ⟨q,w,h⟩:=bind_some h;obtain ⟨ev,c,h⟩:=bind_some h;obtain ⟨i,H,h⟩:=bind_some h;obtain ⟨M,t,h⟩:=bind_some h;have hp:=NN G;obtain ⟨e,j,f⟩:=(C.get p).mp _ E;rw[MD.beq_eq z] at e j f;refine ⟨_,h,Gu hp,aS rfl,fun J θ n=>?_⟩;have a:=ma n hp;have l:= @Q6 P J w0 o (evL (envL θ s)) r.md.k.den r.md.e.den r.md.k.dec r.md.k.lit r.md.k.val r.md.k.ok r.md.e.val r.md.e.lit r.md.e.ok r.md.e.z T r.md.K r.md.E m x y (hv θ b) q i r.m M j f e A (aG B) ((aG F).trans (Jh w θ)) ((aG c).trans (Yx H θ)) t;refine OpT.weak l (fun u v=>⟨ay _,dQ,fun g D=>?_⟩) (fun u v=>?_)
  ·obtain rfl:=ax D;exact ⟨aW a.1,ay _,trivial⟩
  ·show [_] = [toCh P (upd θ s.nxt u) (b,s.nxt,r.md.ck M)];rw[UO,show hv (upd θ s.nxt u) b=hv θ b from a7 Same.upd a.1]
 ·cases h
theorem UP (E:TTok P tt) {T:TypeId} {two:Bool} (p:o.op= .lookup T m x two) (h:aaT tt s k T m x two=some res):Oks P w0 s o k res:=by
 obtain ⟨d,C,h⟩:=bind_some h;obtain ⟨H,F,h⟩:=bind_some h;split at h
 ·rename_i t w;obtain ⟨r,G,h⟩:=bind_some h;obtain ⟨D,h⟩:=ak h;obtain ⟨kv,A,h⟩:=bind_some h;obtain ⟨q,n,h⟩:=bind_some h;obtain ⟨c,h⟩:=No h;have hp:=NN G;obtain ⟨i,l,j⟩:=(E.get C).mp _ F;rw[MD.beq_eq D] at i l j;cases two with
  | true =>
   refine ⟨_,h,qy hp,fun _ _ _ g a=>(by cases a),fun J θ B=>?_⟩;have e:= @Nl P J w0 o (evL (envL θ s)) r.md.k.den r.md.e.den r.md.k.dec r.md.k.lit r.md.k.val r.md.k.ok r.md.e.val r.md.e.lit r.md.e.ok r.md.e.z T r.md.K r.md.E m x (hv θ t) q r.m l j c i p (aG w) ((aG A).trans (Jh n θ));refine OpT.weak e (fun u b=>⟨fun y f z v=>?_,?_,fun g a=>by cases a⟩) (fun u b=>rfl)
   ·rcases az f with rfl | f
    ·obtain rfl:=ax v;exact ME.val_one _ _
    ·obtain rfl:=ax f;obtain rfl:=ax v;exact Eq.refl true
   ·rw[b];rfl
  | false =>
   refine ⟨_,h,qy hp,fun _ _ _ g a=>(by cases a),fun J θ B=>?_⟩;have e:= @KW P J w0 o (evL (envL θ s)) r.md.k.den r.md.e.den r.md.k.dec r.md.k.lit r.md.k.val r.md.k.ok r.md.e.val r.md.e.lit r.md.e.ok r.md.e.z T r.md.K r.md.E m x (hv θ t) q r.m l j c i p (aG w) ((aG A).trans (Jh n θ));refine OpT.weak e (fun u b=>⟨ME.val_one _ _,?_,fun g a=>by cases a⟩) (fun u b=>rfl);rw[b];rfl
 ·cases h
end
structure Env where
 tt:TT
 ft:FT
 an:List (Nat×Ty)
 n:Nat
 tr:Trs
section
variable {Y:Type} (V:Env) (s:Sg) (k:Res->Option Y)
def D8 (d:Nat):List (Nat×Ty)->Bool
 | [] =>false
 | (u,_)::l=>Nat.beq u d || D8 d l
def ahl (d:Nat):List (Nat×Ty)->Bool
 | [] =>false
 | (u,.raw)::l=>Nat.beq u d || ahl d l
 | _::l=>ahl d l
def ahm (d:Option Nat) (an:List (Nat×Ty)):Bool:=match d with
 | some d=>ahl d an
 | none=>false
def ahn (d:Nat):List (Nat×Ty)->Bool
 | [] =>false
 | (u,.str)::l=>Nat.beq u d || ahn d l
 | _::l=>ahn d l
def aho (d:Option Nat) (an:List (Nat×Ty)):Bool:=match d with
 | some d=>ahn d an
 | none=>false
def afk (d:Option Nat) (an:List (Nat×Ty)):Bool:=match d with
 | some d=>D8 d an
 | none=>false
def ac7 (dst:Option Nat) (c:Call):Option Y:=match c.callee,c.args.toList,c.argTypes.toList with
 | .builtin .len,[x],[T] =>match opd s x with
  | some (.one (.own _))=>aeZ V.tt s k T x
  | some (.vw _ _ _ _ _ _)=>acS V.tt s k T x
  | some (.xv _ _ _ _ _ _ _)=>acS V.tt s k T x
  | _=>sLen V.tt s k T x
 | .builtin .append,[x,y],[T,U] =>match Nat.beq T U with
  | true=>(match opd s x with
   | some (.vw _ _ _ _ _ _)=>afc V.tt s k T x y
   | _=>(match opd s y with
    | some (.sub _ _ _ _ _ _)=>acX V.tt s k T x y
    | some (.pre _ _ _ _ _ _)=>acX V.tt s k T x y
    | _=>aiq V.tt V.an s k dst T x y))
  | false=>afd V.tt s k T U x y
 | .builtin .clear,[x],[T] =>Uz V.tt s k T x
 | .builtin .copy,[x,y],[T,_] =>match opd s x with
  | some (.vw _ _ _ _ _ _)=>UD V.tt s k T x y
  | some (.xv _ _ _ _ _ _ _)=>UD V.tt s k T x y
  | _=>ae7 V.tt s k T x y
 | .builtin .min,[x,y],[_,_] =>ahf s k x y
 | .builtin .max,[x,y],[_,_] =>ahg s k x y
 | .value (.func g),xs,_=>match (fs V.ft g).bind (·.cl) with
  | some q=>match Nat.beq q.2 7,xs with
   | true,xs=>aaH V.ft s k g xs
   | false,[x] =>(match Nat.beq q.2 9 with
    | true=>aiu V.ft s k q.1 g x
    | false=>bW (!Nat.beq q.2 0 && !Nat.ble 1000 q.2) (Uh s k q.1 q.2 x))
   | false,[x,y] =>(match Nat.ble 1000 q.2 with
    | true=>ahk s k q.1 (q.2 - 1000) x y
    | false=>bW (Nat.beq q.2 0) (acW s k x y))
   | _,_=>none
  | none=>aaG V.ft s k g xs
 | .value (.tmp t),xs,_=>match PJ V.ft s t xs.length with
  | some c=>aaI V.ft s k c xs
  | none=>TW V.ft s k t xs
 | _,_,_=>none
def step (o:Oper):Option Y:=match o.op with
  | .move x=>acq s k x
  | .assign x=>acq s k x
  | .pick c x y=>aeW s k c x y
  | .unOp .not _ x=>ag8 s k x
  | .unOp .neg _ x=>ag9 s k x
  | .binOp b t x y _=>match opd s y with
   | some (.capv _ _)=>acV s k b x y
   | _=>match opd s x with
    | some (.one (.rd _ (.tree _ _ _) _))=>ahh V.tt s k b t x y
    | some (.one (.ptr _ _))=>ahh V.tt s k b t x y
    | some (.one (.rdn _ _ _ _))=>agD V.tt s k b t x y
    | some (.one (.own _))=>agD V.tt s k b t x y
    | some (.one (.val (.slice _ _ _)))=>agD V.tt s k b t x y
    | some (.one (.val (.string _)))=>ac0 V.tt s k b t x y
    | _=>agz V.tt s k b t x y
  | .index T x i=>afi V.tt s k T x i
  | .extract x i=>IN s k x i
  | .indexAddr T x i=>match opd s x with
    | some (.one (.own h))=>(match Nu h s.chs with
      | some _=>UG V.tt s k T x i
      | none=>Tu V.tt s k T x i)
    | some (.vw _ _ _ _ _ _)=>NJ V.tt s k T x i
    | some (.xv _ _ _ _ _ _ _)=>NJ V.tt s k T x i
    | _=>Tn V.tt s k T x i
  | .fieldAddr T x f=>match opd s x with
    | some (.one (.fz _ _ _ _ _))=>T6 V.tt s k T x f
    | some (.one (.rd _ (.tree _ _ _) _))=>Ub V.tt s k T x f
    | _=>aaw V.tt s k T x f
  | .load T x=>match opd s x with
    | some (.elr _ _ _ _ _ _ _)=>aax V.tt s k T x
    | some (.elo _ _ _ _ _ _ _ _)=>aaA V.tt s k T x
    | some (.one (.fz _ _ _ _ _))=>T5 V.tt s k T x
    | some (.one (.fzf _ _ _ _ _))=>T5 V.tt s k T x
    | _=>aaz V.tt s k T x
  | .store T x y=>match opd s x with
    | some (.elo h _ _ _ _ _ _ _)=>match Nu h s.chs with
      | some _=>TG V.tt s k T x y
      | none=>Tv V.tt s k T x y
    | _=>Tt V.tt s k T x y
  | .nilCheck x=>acM s k x
  | .slice T x (some lo) (some hi) (some mx)=>Uy V.tt s k T x lo hi mx
  | .slice T x lo hi none=>match opd s x with
    | some (.vw _ _ _ _ _ _)=>Jb V.tt s k T x lo hi
    | some (.xv _ _ _ _ _ _ _)=>Jb V.tt s k T x lo hi
    | some (.one (.own _))=>match ahm o.dst V.an with
     | true=>Jb V.tt s k T x lo hi
     | false=>match aho o.dst V.an with
      | true=>(match lo,hi with
        | none,some hi=>UC V.tt s k T x hi
        | _,_=>none)
      | false=>match lo with
      | some _=>match afk o.dst V.an with
        | true=>Ue V.tt s k T x lo hi
        | false=>Uf V.tt s k T x lo hi
      | none=>match afk o.dst V.an with
        | true=>Ug V.tt s k T x lo hi
        | false=>Ud V.tt s k T x lo hi
    | some (.one (.val (.string _)))=>UJ V.tt s k T x lo hi
    | _=>Uc V.tt s k T x lo hi
  | .box T x=>ain s k T x
  | .alloc T=>aay V.tt s k T
  | .build T parts=>aaC V.tt s k T parts
  | .buildSlice T m parts=>aip V.tt V.an s k o.dst T m parts
  | .makeSlice T x y=>ae0 V.tt V.an s k o.dst T x y
  | .call c=>ac7 V s k o.dst c
  | .makeFunc f x y=>aaJ s k f x y
  | .makeMap T none=>aiv V.tt s k T
  | .convert S D x=>match opd s x with
    | some (.one (.val (.int _ _)))=>aeX V.tt s k S D x
    | _=>aaR V.tt s k S D x
  | .mapUpdate T m x y=>ac5 V.tt s k T m x y
  | .insert T m x y=>ac5 V.tt s k T m x y
  | .lookup T m x two=>aaT V.tt s k T m x two
  | _=>none
end
section
variable {Y:Type} {V:Env} {s:Sg} {k:Res->Option Y} {P:Program} {w0:World} {o:Oper} {res:Y}
theorem ahp {α:Type} {a:Array α} {x:α} (h:a.toList= [x]):a= #[x]:=Array.ext' h
theorem afl {α:Type} {a:Array α} {x y:α} (h:a.toList= [x,y]):a= #[x,y]:=Array.ext' h
theorem Yy (w:TTok P V.tt) (d:FTok P V.ft) {c:Call} (j:o.op= .call c) (h:ac7 V s k o.dst c=some res):Oks P w0 s o k res:=by
 have ⟨n,args,v⟩:=c;unfold ac7 at h;split at h
 ·grind[builtin,ahp,XG,X9,acv]
 ·grind[builtin,afl,aw,Ya,Yo,acA,Yj]
 ·grind[builtin,ahp,Ry]
 ·grind[builtin,afl,UE,X0]
 ·grind[builtin,min,afl,acN]
 ·grind[builtin,max,afl,acO]
 ·rename_i g t;obtain rfl:n= .value (.func g):=t;split at h
  ·rename_i q b;have ⟨f,a,b⟩:=bind_some b;split at h
   ·rename_i e;exact T3 d (fun m i=>by
     obtain rfl:f=m:=ae (a.symm.trans i);exact ((d.get a).cl q b).2.1 e) j h
   ·rename_i x r p;obtain rfl:args= #[x]:=ahp p;split at h
    ·rename_i l;exact ac3 d (fun m i=>by
      obtain rfl:f=m:=ae (a.symm.trans i);exact ((d.get a).cl q b).2.2 l) j h
    ·rename_i l;have ⟨e,u⟩:=ak h;rw[al] at e;exact Um (((d.get a).cl q b).1.2.1 (by grind) r (by grind) l) j u
   ·rename_i x y r p;obtain rfl:args= #[x,y]:=afl p;split at h
    ·rename_i e;exact ac1 (((d.get a).cl q b).1.2.2 e) j h
    ·have ⟨e,l⟩:=ak h;exact Yk (((d.get a).cl q b).1.1 e) j l
   grind
  grind[T1]
 ·grind[T2,T4]
 grind
theorem UQ (a:TTok P V.tt) (c:FTok P V.ft) (h:step V s k o=some res):Oks P w0 s o k res:=by
 unfold step at h;split at h
 ·exact Pv (.inl ‹_›) h
 ·exact Pv (.inr ‹_›) h
 ·exact XD ‹_› h
 ·exact acr ‹_› h
 ·exact acu ‹_› h
 ·have b:= ‹o.op=_›;split at h
  ·exact Yi b h
  ·split at h
   ·exact Ui a b h
   ·exact Ui a b h
   ·exact ND a b h
   ·exact ND a b h
   ·exact ND a b h
   ·exact Yp a b h
   ·exact To a b h
 ·exact Yq a ‹_› h
 ·exact Np ‹_› h
 ·have b:= ‹o.op=_›;split at h
  ·split at h
   ·exact RD a b h
   ·exact Re a b h
  ·exact HF a b h
  ·exact HF a b h
  ·exact Ra a b h
 ·have b:= ‹o.op=_›;split at h
  ·exact Rm a b h
  ·exact Rn a b h
  ·exact Tp a b h
 ·have b:= ‹o.op=_›;split at h
  ·exact Tq a b h
  ·exact TA a b h
  ·exact Lo a b h
  ·exact Lo a b h
  ·exact Tz a b h
 ·have b:= ‹o.op=_›;split at h
  ·split at h
   ·exact Ri a b h
   ·exact Rf a b h
  ·exact Rc a b h
 ·exact XX ‹_› h
 ·exact Rx a ‹_› h
 ·have b:= ‹o.op=_›;split at h
  ·exact A2 a b h
  ·exact A2 a b h
  ·split at h
   ·exact A2 a b h
   ·split at h
    ·split at h
     ·exact RC a b h
     ·cases h
    ·split at h
     ·split at h
      ·exact Rq a b h
      ·exact Rr a b h
     ·split at h
      ·exact Rs a b h
      ·exact Rp a b h
  ·exact RE a b h
  ·exact Ro a b h
 ·exact acw ‹_› h
 ·exact Tw a ‹_› h
 ·exact TC a ‹_› h
 ·exact acz a ‹_› h
 ·exact XI a ‹_› h
 ·exact Yy a c ‹_› h
 ·exact T7 ‹_› h
 ·exact ac6 a ‹_› h
 ·have b:= ‹o.op=_›;split at h
  ·exact XE a b h
  ·exact UL a b h
 ·exact PY a (.inl ‹_›) h
 ·exact PY a (.inr ‹_›) h
 ·exact UP a ‹_› h
 ·cases h
end
inductive Gd
 | no | skip | bad
 | yes (t:Nat) (b neg want:Bool)
def guardOf (ops:List Oper) (s:Sg) (o:Oper):Gd:=match o.guard with
 | none=>.no
 | some (g,want)=>match ops[g]? with
  | some p=>match p.dst with
   | some t=>match look s.env t with
    | some (.one (.val (.bool b)))=>.yes t b false want
    | some (.one (.nb b))=>.yes t b true want
    | some .und=>.skip
    | _=>.bad
   | none=>.bad
  | none=>.bad
def NO (s:Sg) (t:Nat) (b:Bool):Sg:=⟨(t,s.nxt,.one (.val (.bool b)))::s.env,s.chs,s.nxt+1⟩
def D9:AV->List Hdr
 | .one (.own h)=>[h]
 | .agg xs=>xs.flatMap fun x=>match x with | .own h=>[h] | _=>[]
 | .elo h _ _ _ _ _ _ _=>[h]
 | _=>[]
def zy:List Hdr->Sg->Sg
 | [],s=>s
 | h::hs,s=>zy hs (settle 4 h s)
def HH (s:Sg):List Operand->List Hdr
 | [] =>[]
 | x::xs=>(match opd s x with | some v=>D9 v | none=>[])++HH s xs
def ahq (o:Oper):List Operand:=match o.op with
 | .store _ _ y=>[y]
 | .build _ parts=>parts.toList.map (·.2)
 | .buildSlice _ _ parts=>parts.toList.map (·.2)
 | .call c=>c.args.toList
 | .box _ x=>[x]
 | .binOp _ _ x _ _=>[x]
 | .nilCheck x=>[x]
 | _=>[]
def aiw (o:Bool):AV->List (Bool×Hdr)
 | .one (.own h)=>[(false,h)]
 | .one (.ptr h off)=>if o&&Nat.beq off 0 then [(true,h)] else []
 | .agg xs=>xs.flatMap fun x=>match x with | .own h=>[(false,h)] | .ptr h off=>if o&&Nat.beq off 0 then [(true,h)] else [] | _=>[]
 | _=>[]
def aix (s:Sg) (o:Bool):List Operand->List (Bool×Hdr)
 | [] =>[]
 | x::xs=>(match opd s x with | some v=>aiw o v | none=>[])++aix s o xs
def keeps (o:Oper):Bool:=match o.op with
 | .binOp _ _ _ _ _=>false
 | .nilCheck _=>false
 | _=>true
def UR:List LV->List (Bool×Hdr)
 | [] =>[]
 | .own h::l=>(false,h)::UR l
 | _::l=>UR l
def ldH (s:Sg) (o:Oper):List (Bool×Hdr):=match o.op with
 | .load _ x=>match opd s x with
  | some (.one (.ptr h _))=>match uS h s.chs with
   | some b=>UR b.cells
   | none=>[]
  | _=>[]
 | _=>[]
def ac8:Trs->Bool
 | [] =>false
 | q::l=>Nat.beq q.2.1 0 || ac8 l
def ldF (tr:Trs) (s:Sg) (o:Oper):List (Bool×Hdr):=match ac8 tr with
 | true=>ldH s o
 | false=>[]
def US:Trs->Trs
 | [] =>[]
 | q::l=>match Nat.beq q.2.1 0 with
  | true=>US l
  | false=>q::US l
def ahr (s:Sg) (o:Oper):Bool:=match o.op with
 | .store _ x _=>match opd s x with
  | some (.one (.ptr _ _))=>true
  | _=>false
 | .call c=>match c.callee with
  | .value _=>false
  | _=>true
 | _=>false
def aiy (tr:Trs) (s:Sg) (o:Oper):List (Bool×Hdr):=match ac8 tr&&ahr s o with
 | true=>[]
 | false=>aix s (keeps o) (ahq o)
def UT:Trs->Trs
 | [] =>[]
 | q::l=>match q.2.2 with
  | .str=>UT l
  | _=>q::UT l
def Yz (tr:Trs) (o:Oper) (s:Sg):Sg:=match tr with
 | [] =>s
 | _=>X4 (UT tr) (aiy (UT tr) s o) s
def agH (tr:Trs) (o:Oper) (s0:Sg):Sg:=match tn s0 with
 | s=>Yz tr o (RF o (zy (HH s o.op.operands.toList) s))
section
variable {Y:Type} (V:Env) (all:List Oper) (k:Sg->Option Y)
noncomputable def YA (kont:Sg->Option Y) (o:Oper) (s:Sg):Option Y:=match guardOf all s o with
 | .bad=>none
 | .no=>bW (okO V.n s o) (match acU V.tt s o with
  | some q=>aaP q.2.xs.length fun c=>kont (after s o.dst (aaQ q c))
  | none=>step V s (fun r=>kont (after s o.dst r)) o)
 | .skip=>bW (dstOk V.n o.dst) (kont (skip s o.dst))
 | .yes t b neg want=>if b then (match (!neg)==want with
   | true=>bW (okO V.n (NO s t (!neg)) o) (step V (NO s t (!neg)) (fun r=>kont (after (NO s t (!neg)) o.dst r)) o)
   | false=>bW (dstOk V.n o.dst) (kont (skip (NO s t (!neg)) o.dst)))
  else (match neg==want with
   | true=>bW (okO V.n (NO s t neg) o) (step V (NO s t neg) (fun r=>kont (after (NO s t neg) o.dst r)) o)
   | false=>bW (dstOk V.n o.dst) (kont (skip (NO s t neg) o.dst)))
noncomputable def PZ:List Oper->Sg->Option Y
 | [],s=>k s
 | o::os,s=>YA V all (PZ os) o (agH V.tr o s)
end
section
variable {Y:Type} {V:Env} {P:Program} {I:Hp} {w0 w:World} {F:Ch} {J:Hp} {θ:Th} {s:Sg} {a:Act} {res:Y} {Q:Exit->Act->World->Prop}
theorem RH {h:Hdr} {g:Sg} (hs:Nv h s=some g) (u:Sim P I w0 F V.n J θ s a w):Fr s θ g θ:=by
 have ⟨r,n,hs⟩:=bind_some hs;have ⟨q,j,hs⟩:=bind_some hs;have hp:=Df n;have ⟨l,k,p,o,t⟩:=Lc j;cases i:q.1 with
 | true =>
  rw[i] at hs;cases ae (show some _=some g from hs);refine ⟨Nat.le_succ _,Same.rfl,fun e d _=>d,fun e d m f c b=>?_⟩;rcases az d with rfl | d
  ·obtain ⟨rfl,b⟩:=b;rcases b with ⟨rfl,rfl⟩ | b
   ·exact .inr ⟨r.ent h,hp.mem_iff.2 (by simp),rfl,.inr ⟨rfl,rfl⟩⟩
   ·exact b.elim
  grind
 | false =>
  rw[i] at hs;cases ae (show some _=some g from hs);refine ⟨Nat.le_succ _,Same.rfl,fun e d _=>d,fun e d m f c b=>?_⟩;rcases az d with rfl | d
  ·obtain ⟨rfl,b⟩:=b;rcases b with ⟨rfl,rfl⟩ | b
   ·grind
   ·exact b.elim
  grind
theorem LB: ∀ {m:Nat} {h:Hdr} {s:Sg},Sim P I w0 F V.n J θ s a w->Fr s θ (settle m h s) θ
 | 0,_,_,hS=>Fr.rfl
 | m+1,h,s,hS=>by
  unfold settle;split
  ·split
   ·split
    ·rename_i b;exact (LB hS).trans (RH b (DQ hS))
    ·exact Fr.rfl
   ·exact Fr.rfl
  ·exact Fr.rfl
theorem wK: ∀ {hs:List Hdr} {s:Sg},Sim P I w0 F V.n J θ s a w->Sim P I w0 F V.n J θ (zy hs s) a w/\Fr s θ (zy hs s) θ
 | [],s,hS=>⟨hS,Fr.rfl⟩
 | h::hs,s,hS=>by
  have ⟨c,b⟩:=wK (hs:=hs) (DQ (m:=4) (h:=h) hS);exact ⟨c,(LB hS).trans b⟩
theorem ac9 {t:Nat} {b:Bool} (f:Sim P I w0 F V.n J θ s a w) (g:(envL θ s).lookup t=some (.bool b)):Sim P I w0 F V.n J θ (NO s t b) a w/\Fr s θ (NO s t b) θ:=by
 refine ⟨⟨f.le,f.agr.sub fun u v h=>?_,f.st,fun e c=>?_,fun e c=>?_,K5 (d:=some t) (av:=.one (.val (.bool b))) f.fine.nd f.fine.ver,fun e c=>gx Same.rfl (Nat.le_succ _) Newer.rfl (f.fine.chs e c) Hp.le.rfl,f.fine.lay⟩,Nat.le_succ _,Same.rfl,fun e c h=>?_,Newer.rfl⟩
 ·have h:List.lookup u ((t,Value.bool b)::envL θ s)=some v:=h;grind
 ·rcases az c with rfl | c
  ·rfl
  ·exact AV.ok_same Same.rfl (Nat.le_succ _) Newer.rfl (f.fine.env e c) Hp.le.rfl
 ·rcases az c with rfl | c
  ·exact ay _
  ·exact aW (f.fine.ver e c)
 ·rcases az c with rfl | c
  ·grind
  omega
theorem YB {ops:Array Oper} {o:Oper} :match guardOf ops.toList s o with
  | .no=>o.guard=none
  | .skip=> ∃g want d,o.guard=some (g,want)/\(ops[g]?).bind (·.dst)=some d/\(envL θ s).lookup d=some undef
  | .yes t b neg want=> ∃g,o.guard=some (g,want)/\(ops[g]?).bind (·.dst)=some t/\(envL θ s).lookup t=some (.bool (if neg then !b else b))
  | .bad=>True:=by
 unfold guardOf;cases i:o.guard with
 | none=>rfl
 | some gw =>
  have ⟨g,want⟩:=gw;simp only;cases hp:ops.toList[g]? with
  | none=>trivial
  | some p =>
   simp only;cases h:p.dst with
   | none=>trivial
   | some t =>
    simp only;have c:(ops[g]?).bind (·.dst)=some t:=by
     rw[<-Array.getElem?_toList,hp];exact h
    cases f:look s.env t with
    | none=>trivial
    | some v =>
     have e:=iV (θ:=θ) f;cases v with
     | one x =>
      cases x with
      | val u =>
       cases u with
       | bool b=>exact ⟨g,rfl,c,e⟩
       | _=>trivial
      | nb b=>exact ⟨g,rfl,c,e⟩
      | _=>trivial
     | und=>exact ⟨g,want,t,rfl,c,e⟩
     | _=>trivial
theorem Ji {o:Oper} {r:Res} (b:GoodA P w0 J θ s o r) (c:Sim P I w0 F V.n J θ s a w) {θ':Th} (hs:Same s.nxt θ θ'):Fr s θ (after s o.dst r) θ' :=
 Fr.put hs (Res.newer b.perm b.says)
theorem YC (C:TTok P V.tt) (N:FTok P V.ft) {ops:Array Oper} {rest:List Oper} {o:Oper} {i:Sg->Option Y} (h:YA V ops.toList i o s=some res) (y:Sim P I w0 F V.n J θ s a w)
  (K: ∀s' θ' m v,i s'=some res->Sim P I w0 F V.n J θ' s' m v->Fr s θ s' θ'->wpList P ops Q rest m v):wpList P ops Q (o::rest) a w:=by
 have D:=YB (θ:=θ) (s:=s) (ops:=ops) (o:=o);have run: ∀l,Sim P I w0 F V.n J θ l a w->Fr s θ l θ->(∀g want,o.guard=some (g,want)-> ∃d,(ops[g]?).bind (·.dst)=some d/\(envL θ l).lookup d=some (.bool want))->bW (okO V.n l o) (step V l (fun r=>i (after l o.dst r)) o)=some res->wpList P ops Q (o::rest) a w:=by
  intro l f n A h;have ⟨p,h⟩:=ak h;obtain ⟨r,E,x⟩:=UQ C N h;cases j:o.guard with
  | none=>exact aau (x.at f.fine) f j p fun θ' m v B k=>K _ θ' m v E k (n.trans (Ji (x.at f.fine) f B))
  | some gw =>
   have ⟨g,want⟩:=gw;have ⟨d,z,u⟩:=A g want j;exact acn (x.at f.fine) f j z u rfl p fun θ' m v B k=>K _ θ' m v E k (n.trans (Ji (x.at f.fine) f B))
 have W: ∀l,Sim P I w0 F V.n J θ l a w->Fr s θ l θ-> ∀g want d b,o.guard=some (g,want)->(ops[g]?).bind (·.dst)=some d->(envL θ l).lookup d=some (.bool b)->b=(!want)->bW (dstOk V.n o.dst) (i (skip l o.dst))=some res->wpList P ops Q (o::rest) a w:=by
  intro l f n g want d b j z u O h;have ⟨p,h⟩:=ak h;exact XB f j z u O p fun m k=>K _ θ m w h k (n.trans (Fr.put Same.rfl Newer.rfl))
 unfold YA at h;split at h
 ·cases h
 ·have ⟨p,G⟩:=ak h;split at G
  ·rename_i q M;have ⟨T,S,x⟩:=Yh C M y;grind[NL,aau,Ji]
  ·refine run s y Fr.rfl (fun g want e=>by grind) ?_;rw[p];exact G
 ·rename_i j;rw[j] at D;have ⟨g,want,d,H,X,L⟩:=D;have ⟨p,h⟩:=ak h;exact Q7 y H X L p fun m k=>K _ θ m w h k (Fr.put Same.rfl Newer.rfl)
 ·rename_i t b neg want j;have both: ∀c:Bool,(envL θ s).lookup t=some (.bool c)->(match c==want with
    | true=>bW (okO V.n (NO s t c) o) (step V (NO s t c) (fun r=>i (after (NO s t c) o.dst r)) o)
    | false=>bW (dstOk V.n o.dst) (i (skip (NO s t c) o.dst)))=some res->wpList P ops Q (o::rest) a w:=by
   intro c R h;have ⟨T,S⟩:=ac9 y R;have U:(envL θ (NO s t c)).lookup t=some (.bool c):=by
    show List.lookup t ((t,Value.bool c)::envL θ s)=_;grind
   split at h
   ·grind
   ·grind
  grind
theorem ada {tr:Trs} {o:Oper} (l:Sim P I w0 F V.n J θ s a w): ∃b θ',J.le b/\Sim P I w0 F V.n b θ' (agH tr o s) a w/\Fr s θ (agH tr o s) θ':=by
 have ⟨θ1,h,e⟩:=Dg l;have ⟨i,f⟩:=wK (hs:=HH (tn s) o.op.operands.toList) h;have ⟨j,c,g,d⟩:=Yt (o:=o) i
 show∃b θ',J.le b/\Sim P I w0 F V.n b θ' (Yz tr o (RF o (zy (HH (tn s) o.op.operands.toList) (tn s)))) a w/\Fr s θ (Yz tr o (RF o (zy (HH (tn s) o.op.operands.toList) (tn s)))) θ'
 unfold Yz;split
 ·exact ⟨j,θ1,c,g,(e.trans f).trans d⟩
 ·obtain ⟨b,θ',k,n,m⟩:=yp g;exact ⟨b,θ',c.trans k,n,((e.trans f).trans d).trans m⟩
theorem LC (p:TTok P V.tt) (n:FTok P V.ft) {ops:Array Oper} {k:Sg->Option Y} : ∀ {l:List Oper} {s:Sg} {J:Hp} {θ:Th} {a:Act} {w:World},PZ V ops.toList k l s=some res->Sim P I w0 F V.n J θ s a w->
  (∀c J' θ' f g,k c=some res->Sim P I w0 F V.n J' θ' c f g->J.le J'->Fr s θ c θ'->Q .normal f g)->wpList P ops Q l a w
 | [],s,J,θ,a,w,h,hS,K=>wpList_nil (K s J θ a w h hS Hp.le.rfl Fr.rfl)
 | o::os,s,J,θ,a,w,h,hS,K=>by
  have ⟨A,θ1,u,x,v⟩:=ada (tr:=V.tr) (o:=o) hS;exact YC p n (show YA V ops.toList (PZ V ops.toList k os) o (agH V.tr o s)=some res from h) x fun c θ' f g z i d =>
   LC p n z i fun y q θ2 r t e m j b=>K y q θ2 r t e m (u.trans j) ((v.trans d).trans b)
end
end R
end Go.Proofs.YteapgmibbpckoaaGreatDoor
