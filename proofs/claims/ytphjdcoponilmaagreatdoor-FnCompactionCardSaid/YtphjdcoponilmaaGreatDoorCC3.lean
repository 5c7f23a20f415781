/- FnCompaction: for every input the law returns true and changes nothing that was there. Part 4 of 9. -/
import Derived.Test.YtphjdcoponilmaaGreatDoorCC2
set_option synthInstance.maxSize 20000
set_option synthInstance.maxHeartbeats 2000000
set_option linter.unusedVariables false
set_option linter.unusedSimpArgs false
set_option linter.unnecessarySimpa false
set_option linter.unusedSectionVars false
set_option maxRecDepth 1000000
namespace Go.Proofs.YtphjdcoponilmaaGreatDoor
open Go.IntKind (i64)
namespace R
open Go.RowKit
open D
section
variable {P:Program} {I:Hp} {w0:World} {o:Oper} {ev:Operand->Value}
theorem Mi {x:Operand} {a:Addr} (b:o.op= .nilCheck x) (c:ev x= .pointer (some a)):OpT P I w0 o ev [] (· = .pointer (some a)) (fun _=>[]):=
 bz fun w=>by simp_all[execOp]
theorem YX {x y:Operand} {T U:TypeId} {m n:Int} (a:o.op= .call { callee:=.builtin .min,args:= #[x,y],argTypes:= #[T,U] }) (b:ev x= .int .i64 m) (c:ev y= .int .i64 n):OpT P I w0 o ev [] (· = .int .i64 (min m n)) (fun _=>[]):=
 bz fun w=>by
  have e:min m n=if n<m then n else m:=by omega
  simp_all[execOp,resolve,invoke,builtin,Builtin.min_,Builtin.min2]
theorem YY {x y:Operand} {T U:TypeId} {m n:Int} (a:o.op= .call { callee:=.builtin .max,args:= #[x,y],argTypes:= #[T,U] }) (b:ev x= .int .i64 m) (c:ev y= .int .i64 n):OpT P I w0 o ev [] (· = .int .i64 (max m n)) (fun _=>[]):=
 bz fun w=>by
  have e:max m n=if m<n then n else m:=by omega
  simp_all[execOp,resolve,invoke,builtin,Builtin.max_,Builtin.max2]
theorem Fh {t e:TypeId} {a:Option Addr} {w:World} (b:P.underlying t=some (.pointer e)):(Op.equal t (.pointer a) (.pointer none)).run P w= .ok a.isNone w:=by
 have key: ∀n,(Op.equalIn (n+1) t (.pointer a) (.pointer none)).run P w= .ok a.isNone w:=fun n=>by
  unfold Op.equalIn;rw[Sem.run_bind,run_underlying b,Result.andThen_ok];cases a <;> rfl
 exact key 9999
theorem Qq {t e:TypeId} {a:Option Addr} {l c:Nat} {w:World} (b:P.underlying t=some (.slice e)):(Op.equal t (.slice a l c) (.slice none 0 0)).run P w= .ok (Ie (.slice a l c)) w:=by
 have key: ∀n,(Op.equalIn (n+1) t (.slice a l c) (.slice none 0 0)).run P w= .ok (Ie (.slice a l c)) w:=fun n=>by
  unfold Op.equalIn;rw[Sem.run_bind,run_underlying b,Result.andThen_ok];cases a <;> rfl
 exact key 9999
theorem Kp {x y:Operand} {t u e:TypeId} {a:Option Addr} {l c:Nat} (f:P.underlying t=some (.slice e)) (b:o.op= .binOp .eql t x y u) (d:ev x= .slice a l c) (h:ev y= .slice none 0 0):OpT P I w0 o ev [] (· = .bool (Ie (.slice a l c))) (fun _=>[]):=
 bz fun w=>by
  have g:eqGuard .eql t x y (.slice a l c) (.slice none 0 0)=pure ():=rfl;have i:binOp .eql t (.slice a l c) (.slice none 0 0)=(do pure (.bool (<-Op.equal t (.slice a l c) (.slice none 0 0)))):=rfl;simp_all[execOp,Sem.run_bind,Sem.run_pure,Qq,Result.andThen_ok]
theorem Qr {x y:Operand} {t u e:TypeId} {a:Option Addr} (d:P.underlying t=some (.pointer e)) (b:o.op= .binOp .eql t x y u) (c:ev x= .pointer a) (f:ev y= .pointer none):OpT P I w0 o ev [] (· = .bool a.isNone) (fun _=>[]):=
 bz fun w=>by
  have g:eqGuard .eql t x y (.pointer a) (.pointer none)=pure ():=rfl;have h:binOp .eql t (.pointer a) (.pointer none)=(do pure (.bool (<-Op.equal t (.pointer a) (.pointer none)))):=rfl;simp_all[execOp,Sem.run_bind,Sem.run_pure,Fh,Result.andThen_ok]
theorem Qs {x y:Operand} {t u e:TypeId} {a:Option Addr} (d:P.underlying t=some (.pointer e)) (b:o.op= .binOp .neq t x y u) (c:ev x= .pointer a) (f:ev y= .pointer none):OpT P I w0 o ev [] (· = .bool (!a.isNone)) (fun _=>[]):=
 bz fun w=>by
  have g:eqGuard .neq t x y (.pointer a) (.pointer none)=pure ():=rfl;have h:binOp .neq t (.pointer a) (.pointer none)=(do pure (.bool (!(<-Op.equal t (.pointer a) (.pointer none))))):=rfl;simp_all[execOp,Sem.run_bind,Sem.run_pure,Fh,Result.andThen_ok]
end
section
variable {Y:Type} (tt:TT) (s:Sg) (k:Res->Option Y)
def YZ (x:Operand):Option Y:=match opd s x with
 | some (.one (.ptr h off))=>k (.pure s (.one (.ptr h off)))
 | some (.one (.rd h (.tree T E t) d))=>(Tr.get d).bind fun _=>k (.pure s (.one (.rd h (.tree T E t) d)))
 | _=>none
def adU (x y:Operand):Option Y:=match opd s x,opd s y with
 | some (.one (.val (.int .i64 m))),some (.one (.val (.int .i64 n)))=>kv s k (.int .i64 (min m n))
 | _,_=>none
def adV (x y:Operand):Option Y:=match opd s x,opd s y with
 | some (.one (.val (.int .i64 m))),some (.one (.val (.int .i64 n)))=>kv s k (.int .i64 (max m n))
 | _,_=>none
def adW (b:BinOp) (T:TypeId) (x y:Operand):Option Y:=(td tt T).bind fun q=>q.pt.bind fun _=>match opd s x,opd s y with
 | some (.one (.rd h (.tree T' E t) d)),some (.one (.val v))=>cz (E8 v) (match b with
  | .eql=>kv s k (.bool d.isNil)
  | .neq=>k (.pure s (.one (.nb d.isNil)))
  | _=>none)
 | some (.one (.ptr h off)),some (.one (.val v))=>cz (E8 v) (match b with
  | .eql=>kv s k (.bool false)
  | .neq=>kv s k (.bool true)
  | _=>none)
 | _,_=>none
def adk (b:BinOp) (T:TypeId) (x y:Operand):Option Y:=(td tt T).bind fun q=>q.el.bind fun _=>match opd s x,opd s y,b with
 | some (.one (.rdn h b (.sl E t) d)),some (.one (.val v)),.eql=>cz (isNil v) (kv s k (.bool b))
 | some (.one (.own h)),some (.one (.val v)),.eql=>cz (isNil v) ((rowOf h s.chs).bind fun r=>(chk (0<(r.xs.length:Int))).bind fun _=>k ⟨[r.ent h],[],r.rest,[],.one (.val (.bool false))⟩)
 | some (.one (.val u)),some (.one (.val v)),.eql=>cz (isNil v&&isNil u) (kv s k (.bool true))
 | _,_,_=>none
def Qt (T:TypeId) (x:Operand) (f:Nat):Option Y:=(td tt T).bind fun d=>(d.fields[f]?).bind fun q=>match opd s x with
 | some (.one (.rd h (.tree T' E t) a))=>(Tr.get a).bind fun p=>k (.pure s (.one (.fz h T' (.prod t (.sl E (.tree T' E t))) p q.1)))
 | _=>none
def adX (s:Sg) (x:Operand):Option (Hdr×(E:TypeId)×(t:Ty)×List t.den):=match opd s x with
 | some (.one (.rd h (.sl E t) xs))=>some (h,⟨E,t,xs⟩)
 | _=>none
def asI (s:Sg) (x:Operand):Option Int:=match opd s x with
 | some (.one (.val (.int .i64 m)))=>some m
 | _=>none
def Ur (E:TypeId) (t:Ty) (xs:List t.den):Option Y:=k (.pure s (.one (.rd ⟨s.nxt,[]⟩ (.sl E t) xs)))
def Qu (T:TypeId) (x:Operand) (lo hi:Option Operand):Option Y:=(td tt T).bind fun d=>d.el.bind fun E'=>(td tt E').bind fun e=>(adX s x).bind fun r=>cz (Nat.beq e.n r.2.2.1.size) (match lo,hi with
 | some l,none=>(asI s l).bind fun l=>(chk (0<=l/\l<=(r.2.2.2.length:Int))).bind fun _=>Ur s k r.2.1 r.2.2.1 (r.2.2.2.drop l.toNat)
 | none,some h=>(asI s h).bind fun h=>(chk (0<=h/\h<=(r.2.2.2.length:Int))).bind fun _=>Ur s k r.2.1 r.2.2.1 (r.2.2.2.take h.toNat)
 | some l,some h=>(asI s l).bind fun l=>(asI s h).bind fun h=>(chk (0<=l/\l<=h/\h<=(r.2.2.2.length:Int))).bind fun _=>Ur s k r.2.1 r.2.2.1 ((r.2.2.2.take h.toNat).drop l.toNat)
 | none,none=>none)
def Qv (T:TypeId) (x:Operand) (lo hi:Option Operand):Option Y:=(td tt T).bind fun d=>match d.el,opd s x,lo,hi with
 | some E',some (.one (.own h)),none,some hi=>(rowOf h s.chs).bind fun r=>(td tt E').bind fun e=>cz (Nat.beq e.n r.t.size) ((asI s hi).bind fun m=>(chk (0<=m/\m<=(r.xs.length:Int))).bind fun _=>newRow s k r.E r.t [r.ent h] r.rest (r.xs.take m.toNat))
 | _,_,_,_=>none
def Qw (T:TypeId) (x:Operand) (lo hi:Option Operand):Option Y:=(td tt T).bind fun d=>match d.el,opd s x,lo,hi with
 | some E',some (.one (.own h)),some lo,none=>(rowOf h s.chs).bind fun r=>(td tt E').bind fun e=>cz (Nat.beq e.n r.t.size) ((asI s lo).bind fun m=>(chk (0<=m/\m<=(r.xs.length:Int))).bind fun _=>newRow s k r.E r.t [r.ent h] r.rest (r.xs.drop m.toNat))
 | _,_,_,_=>none
def Qx (T:TypeId) (x:Operand) (lo hi:Option Operand):Option Y:=(td tt T).bind fun d=>match d.el,opd s x,lo,hi with
 | some E',some (.one (.own h)),some lo,none=>(rowOf h s.chs).bind fun r=>(td tt E').bind fun e=>cz (Nat.beq e.n r.t.size) ((asI s lo).bind fun m=>(chk (0<=m/\m<=(r.xs.length:Int))).bind fun _=>k ⟨[r.ent h],[],r.rest,[],.sub h r.ver r.E r.t r.xs m⟩)
 | _,_,_,_=>none
def Qy (T:TypeId) (x:Operand) (lo hi:Option Operand):Option Y:=(td tt T).bind fun d=>match d.el,opd s x,lo,hi with
 | some E',some (.one (.own h)),none,some hi=>(rowOf h s.chs).bind fun r=>(td tt E').bind fun e=>cz (Nat.beq e.n r.t.size) ((asI s hi).bind fun m=>(chk (0<=m/\m<=(r.xs.length:Int))).bind fun _=>k ⟨[r.ent h],[],r.rest,[],.pre h r.ver r.E r.t r.xs m⟩)
 | _,_,_,_=>none
structure Src0 where
 h:Hdr
 sub:Bool
 ver:Nat
 lo:Int
def W2:AV->Option Src0
 | .one (.own h)=>some ⟨h,false,0,0⟩
 | .sub h ver _ _ _ l=>some ⟨h,true,ver,l⟩
 | _=>none
def W3 (h:Hdr) (ver:Nat) (E:TypeId) (k1:IntKind) (xs:List Int) (rest:List Ent) (lo:Int) (y:AV):Option Y:=match y with
 | .one (.rd _ (.sl _ (.int k2)) ys)=>cz (k1==k2) ((chk (0<=lo/\lo<=(xs.length:Int))).bind fun _=>k ⟨[],[(h,ver,.own (.sl E (.int k1)) xs)],rest,[(h,.own (.sl E (.int k1)) (HZ xs lo.toNat ys))],.one (.val (.int .i64 ((min ys.length (xs.length - lo.toNat):Nat):Int)))⟩)
 | .pre h2 v2 _ _ _ hi=>cz (Hdr.beq h2 h&&Nat.beq v2 ver) ((chk (0<=lo/\lo<=(xs.length:Int))).bind fun _=>(chk (0<=hi/\hi<=(xs.length:Int))).bind fun _=>k ⟨[],[(h,ver,.own (.sl E (.int k1)) xs)],rest,[(h,.own (.sl E (.int k1)) (HZ xs lo.toNat (xs.take hi.toNat)))],.one (.val (.int .i64 ((min (xs.take hi.toNat).length (xs.length - lo.toNat):Nat):Int)))⟩)
 | _=>none
def Kq (r:Row):Option ((k:IntKind)×List Int):=match r.t,r.xs with
 | .int k,xs=>some ⟨k,xs⟩
 | _,_=>none
def abx (T:TypeId) (x y:Operand):Option Y:=(td tt T).bind fun d=>d.el.bind fun E=>(td tt E).bind fun e=>cz (Nat.beq e.n 1) ((opd s x).bind fun xv=>(W2 xv).bind fun c=>(rowOf c.h s.chs).bind fun r=>cz (Nat.beq r.E E&&(!c.sub || Nat.beq c.ver r.ver)) ((Kq r).bind fun q=>(opd s y).bind fun yv=>W3 k c.h r.ver r.E q.1 q.2 r.rest c.lo yv))
def Qz (E b:Nat) (x:Operand):Option Y:=match opd s x with
 | some (.sub h ver E' t xs l)=>(rowOf h s.chs).bind fun r=>cz (Nat.beq r.ver ver&&(t.sh&&Nat.beq t.size 1)) ((bC b [] (xs.drop l.toNat)).bind fun zs=>k ⟨[r.ent h],[],r.rest,[(⟨s.nxt,[]⟩,.own (.sl E t) zs)],.one (.own ⟨s.nxt,[]⟩)⟩)
 | some (.one (.own h))=>(rowOf h s.chs).bind fun r=>cz (r.t.sh&&Nat.beq r.t.size 1) ((bC b [] r.xs).bind fun zs=>k ⟨[r.ent h],[],r.rest,[(⟨s.nxt,[]⟩,.own (.sl E r.t) zs)],.one (.own ⟨s.nxt,[]⟩)⟩)
 | some (.one (.rd h (.sl E' t) xs))=>cz (t.sh&&Nat.beq t.size 1) ((bC b [] xs).bind fun zs=>newRow s k E t [] s.chs zs)
 | _=>none
end
section
variable {Y:Type} {tt:TT} {s:Sg} {k:Res->Option Y} {P:Program} {w0:World} {o:Oper} {res:Y} {x y:Operand}
theorem Us {av:AV} {fact:Hp->Th->Value->Prop} (b: ∀J θ,Fine P w0 J θ s->OpT P J w0 o (evL (envL θ s)) [] (fact J θ) (fun _=>[])) (c: ∀J θ v,Fine P w0 J θ s->fact J θ v->av.ok P w0 J (upd θ s.nxt v) (s.nxt+1) s.chs/\av.v (upd θ s.nxt v)=v):Good P w0 s o (Res.pure s av):=
 ⟨List.Perm.refl _,fun _ _ _ g a=>(by cases a),fun J θ d=>OpT.weak (b J θ d) (fun v hv=>by
  have ⟨e,f⟩:=c J θ v d hv;exact ⟨e,f,fun g a=>by cases a⟩) (fun v hv=>rfl)⟩
theorem Ut (g:o.op= .nilCheck x) (h:YZ s k x=some res):Oks P w0 s o k res:=by
 unfold YZ at h;split at h
 ·rename_i i off a;exact ⟨_,h,ga (fun J θ c=>Mi g (aK a)) fun J θ c=>cg c a⟩
 ·rename_i i T E t d a;have ⟨p,hp,h⟩:=bind_some h;refine ⟨_,h,ga (fun J θ c=>?_) fun J θ c=>cg c a⟩;have f:=cg c a;obtain ⟨b,e,-⟩:=LU (E:=E) f.2 hp;have j:=(aK a).trans e;grind[Mi,aK]
 grind
theorem Y0 {T U:TypeId} (b:o.op= .call { callee:=.builtin .min,args:= #[x,y],argTypes:= #[T,U] }) (h:adU s k x y=some res):Oks P w0 s o k res:=by
 unfold adU at h;split at h
 ·rename_i m n a c;exact mU h rfl fun J θ d=>YX b (aK a) (aK c)
 grind
theorem Y1 {T U:TypeId} (b:o.op= .call { callee:=.builtin .max,args:= #[x,y],argTypes:= #[T,U] }) (h:adV s k x y=some res):Oks P w0 s o k res:=by
 unfold adV at h;split at h
 ·rename_i m n a c;exact mU h rfl fun J θ d=>YY b (aK a) (aK c)
 grind
theorem QA (w:TTok P tt) {b:BinOp} {t u:TypeId} (n:o.op= .binOp b t x y u) (h:adW tt s k b t x y=some res):Oks P w0 s o k res:=by
 have ⟨q,z,h⟩:=bind_some h;have ⟨e,r,h⟩:=bind_some h;have c:=(w.get z).pt e r;split at h
 ·rename_i A B E C d v i m;have ⟨f,h⟩:=ak h;have f:=Ct f;subst f;have key: ∀J θ,Fine P w0 J θ s-> ∃a:Option Addr,evL (envL θ s) x= .pointer a/\a.isNone=d.isNil:=fun J θ g=>by
   have p:=cg g i;have ⟨a,j,l⟩:=T5 p.2;exact ⟨a,(aK i).trans j,l⟩
  split at h
  ·refine mU h rfl fun J θ g=>?_;have ⟨a,j,l⟩:=key J θ g;rw[<-l];exact Qr c n j (aK m)
  ·refine ⟨_,h,ga (fun J θ g=>?_) fun _ _ _=>trivial⟩;have ⟨a,j,l⟩:=key J θ g;rw[<-l];exact Qs c n j (aK m)
  grind
 ·rename_i A off v i m;have ⟨f,h⟩:=ak h;have f:=Ct f;subst f;split at h
  ·exact mU h rfl fun J θ g=>Qr c n (aK i) (aK m)
  ·exact mU h rfl fun J θ g=>Qs c n (aK i) (aK m)
  grind
 grind
theorem Kr (H:TTok P tt) {b:BinOp} {t u:TypeId} (p:o.op= .binOp b t x y u) (h:adk tt s k b t x y=some res):Oks P w0 s o k res:=by
 have ⟨q,I,h⟩:=bind_some h;have ⟨e,D,h⟩:=bind_some h;have c:=(H.get I).el e D;split at h
 ·rename_i B N E Q d v f i _ _;have ⟨a,h⟩:=ak h;have a:=pB a;subst a;refine mU h rfl fun J θ m=>?_;have n:=cg m f;obtain ⟨R,⟨z,cap,j,-⟩,A⟩:=n;have j:hv θ B= .slice z d.length cap:=by simpa using j
  rw[j] at A;rw[<-A];exact Kp c p ((aK f).trans j) (aK i)
 ·rename_i B v f i _ _;have ⟨a,h⟩:=ak h;have a:=pB a;subst a;have ⟨r,L,h⟩:=bind_some h;have ⟨M,w,h⟩:=bind_some h;have w:=cG w;obtain ⟨hp,-⟩:=cO L;refine ⟨_,h,sk hp,a7 rfl,fun J θ m=>OpT.weak (xt (fact:=(· = .bool false)) fun C=>?_) (fun u l=>?_) (fun u l=>rfl)⟩
  ·have ⟨z,cap,G,K,S⟩:=C;obtain ⟨O,off,rfl⟩:=K (by omega);exact Kp c p ((aK f).trans G) (aK i)
  ·subst l;exact ⟨Eq.refl true,rfl,fun g F=>by cases F⟩
 ·rename_i u v f i _ _;have ⟨a,h⟩:=ak h;rw[aj] at a;have hv:=pB a.1;have l:=pB a.2;subst hv;subst l;exact mU h rfl fun J θ m=>Kp c p (aK f) (aK i)
 grind
theorem N2 (w:TTok P tt) {T:TypeId} {f:Nat} (v:o.op= .fieldAddr T x f) (h:Qt tt s k T x f=some res):Oks P w0 s o k res:=by
 have ⟨d,B,h⟩:=bind_some h;have ⟨q,z,h⟩:=bind_some h;split at h
 ·rename_i n u E t a r;have ⟨p,hp,h⟩:=bind_some h;have m:=(w.get B).fld f q z;have key: ∀J θ,Fine P w0 J θ s->n.id<s.nxt/\ ∃b,hv θ n= .pointer (some ⟨b,0,none⟩)/\ ∃cells:List Value,J b=some (.cells cells.toArray u (0,0))/\(Ty.prod t (.sl E (.tree u E t))).rep.rd J cells p:=fun J θ c=>by
   have g:=cg c r;have ⟨b,e,cells,j,l⟩:=LU (E:=E) g.2 hp;exact ⟨g.1,b,e,cells,j,l⟩
  refine ⟨_,h,ga (fun J θ c=>?_) fun J θ c=>?_⟩
  ·obtain ⟨-,b,e,-⟩:=key J θ c;have i:=(aK r).trans e
   have:=ot (P:=P) (I:=J) (w0:=w0) m v i
   rw[Nat.zero_add] at this;show OpT P J w0 o _ [] (· = .pointer (some ⟨bk (hv θ n),q.1,none⟩)) _;rw[e];exact this
  ·have ⟨A,b,e,cells,j,l⟩:=key J θ c;exact ⟨A,cells,by rw[e];exact j,l⟩
 grind
theorem Y2 {r:Hdr×(E:TypeId)×(t:Ty)×List t.den} (h:adX s x=some r):opd s x=some (.one (.rd r.1 (.sl r.2.1 r.2.2.1) r.2.2.2)):=by
 grind[adX,ad]
theorem wK {m:Int} (h:asI s x=some m) (θ:Th):evL (envL θ s) x= .int .i64 m:=by
 unfold asI at h;split at h
 ·rename_i a;cases ad h;exact aK a
 grind
theorem GH {E:TypeId} {t:Ty} {xs:List t.den} (h:Ur s k E t xs=some res) (a: ∀J θ,Fine P w0 J θ s->OpT P J w0 o (evL (envL θ s)) [] (fun v=>(Ty.sl E t).rep.rd J [v] xs) (fun _=>[])):Oks P w0 s o k res:=
 ⟨_,h,Us (fact:=fun J θ v=>(Ty.sl E t).rep.rd J [v] xs) a fun J θ v c b=>⟨⟨aJ _,by grind[fE]⟩,fE⟩⟩
theorem N3 (r:TTok P tt) {T:TypeId} {lo hi:Option Operand} (q:o.op= .slice T x lo hi none) (h:Qu tt s k T x lo hi=some res):Oks P w0 s o k res:=by
 have ⟨d,B,h⟩:=bind_some h;have ⟨A,z,h⟩:=bind_some h;have ⟨e,w,h⟩:=bind_some h;have ⟨⟨C,E,t,D⟩,F,h⟩:=bind_some h;have l:=Y2 F;have ⟨n,h⟩:=ak h;have n:=ax n;have g:=(r.get B).el A z;have f:=(r.get w).ti;have key: ∀J θ,Fine P w0 J θ s->(aA E t.rep).rd J [hv θ C] D:=fun J θ c=>(cg c l).2;have i:=t.rep_size.trans n.symm;split at h
 ·have ⟨m,j,h⟩:=bind_some h;have ⟨u,b,h⟩:=bind_some h;have b:=cG b;refine GH h fun J θ c=>OpT.weak (xq g f (Hd.of_rd (key J θ c)) q (aK l) (wK j θ) b) (fun v a=>?_) (fun v a=>rfl);subst a;exact LS (key J θ c) (by grind) i
 ·have ⟨m,j,h⟩:=bind_some h;have ⟨u,b,h⟩:=bind_some h;have b:=cG b;refine GH h fun J θ c=>OpT.weak (xr g f (Hd.of_rd (key J θ c)) q (aK l) (wK j θ) b) (fun v a=>?_) (fun v a=>rfl);subst a;exact T1 (key J θ c) (by omega) i
 ·have ⟨m,j,h⟩:=bind_some h;have ⟨G,p,h⟩:=bind_some h;have ⟨u,b,h⟩:=bind_some h;have b:=cG b;refine GH h fun J θ c=>OpT.weak (Ib g f (Hd.of_rd (key J θ c)) q (aK l) (wK j θ) (wK p θ) b) (fun v a=>?_) (fun v a=>rfl);subst a;exact LR (key J θ c) (by omega) (by omega) i
 grind
theorem Uu {α:Type} {E:TypeId} {R:Rep α} {I:Hp} {w:World} {C:List Ch} {v:Value} {xs:List α} {m n:Nat} (h:St I w0 w (Ch.own (aA E R) [v] xs::C)) (L:m<=xs.length) (M:R.size=n):St I w0 w (Ch.own (aA E R) [tQ v m xs.length n] (xs.drop m)::C):=by
 obtain ⟨r,j,F,⟨G,K,rfl,k,e⟩,p,i⟩:=h;have ⟨V,k⟩:=k;have z:(xs.drop m).length=xs.length - m:=bq;rcases k with ⟨q,rfl,rfl⟩ | ⟨g,c,cap,cur,U,q,t,N,T,O,rfl,u⟩
 ·obtain rfl:v= .slice none 0 0:=by grind
  obtain rfl:m=0:=by grind
  refine ⟨r,j,[] ++K,⟨[],K,rfl,⟨by simp,.inl ⟨?_,rfl,rfl⟩⟩,e⟩,p,i⟩
  rfl
 ·rw[<-List.take_append_drop m xs] at u;obtain ⟨S,H,f,a,J,A,rfl,-,B⟩:=u.cut2;have hp:((g::(f++a))++K).Perm (((g::a)++K)++f):=by
   rw[aH]
   have:((f++a)++K).Perm (a++(K++f)):=by
    rw[aH,<-aH a K f];exact List.perm_append_comm
   exact this.cons g
  have D:cur.toList.drop (c+m*R.size)=H:=by
   rw[<-List.drop_drop,J]
   have:(xs.take m).length=m:=by rw[az];omega
   rw[this] at A;exact List.drop_left' A
  by_cases Q:cap=m
  ·have d:xs.drop m= []:=List.eq_nil_of_length_eq_zero (by omega);rw[d] at B;obtain rfl:a= []:=B;refine ⟨r,j,(g:: [])++K,⟨g:: [],K,rfl,⟨by omega,.inr ⟨g,c,0,cur,[],?_,t,by omega,Nat.zero_le _,by omega,rfl,by rw[d];rfl⟩⟩,e⟩,(List.nodup_append.1 (hp.nodup_iff.1 p)).1,fun b l=>i b (hp.mem_iff.2 (bj _ l))⟩;grind[tQ,sliced]
  ·refine ⟨r,j,(g::a)++K,⟨g::a,K,rfl,⟨by omega,.inr ⟨g,c+m*R.size,cap - m,cur,a,?_,t,by omega,by omega,?_,rfl,by grind⟩⟩,e⟩,(List.nodup_append.1 (hp.nodup_iff.1 p)).1,fun b l=>i b (hp.mem_iff.2 (bj _ l))⟩
   ·grind[tQ,sliced,Addr.add_mid]
   ·have:m*R.size+(cap - m)*R.size=cap*R.size:=by rw[<-Nat.add_mul];congr 1;omega
    omega
theorem Uv {α:Type} {E:TypeId} {R:Rep α} {I:Hp} {w:World} {C:List Ch} {v:Value} {xs:List α} {m n:Nat} (h:St I w0 w (Ch.own (aA E R) [v] xs::C)) (D:m<=xs.length) (H:R.size=n):St I w0 w (Ch.own (aA E R) [tQ v 0 m n] (xs.take m)::C):=by
 obtain ⟨r,j,F,⟨G,K,rfl,k,e⟩,l,i⟩:=h;have ⟨M,k⟩:=k;have q:(xs.take m).length=m:=by rw[az];omega
 rcases k with ⟨f,rfl,rfl⟩ | ⟨g,d,cap,cur,L,f,u,J,A,z,rfl,p⟩
 ·obtain rfl:v= .slice none 0 0:=by grind
  obtain rfl:m=0:=by grind
  refine ⟨r,j,[] ++K,⟨[],K,rfl,⟨by simp,.inl ⟨?_,rfl,rfl⟩⟩,e⟩,l,i⟩
  rfl
 ·rw[<-List.take_append_drop m xs] at p;obtain ⟨a,c,rfl,B,-⟩:=p.parts;have hp:((g::(a++c))++K).Perm (((g::a)++K)++c):=by
   rw[aH];show (g::((a++c)++K)).Perm (g::(a++(K++c)));rw[aH];exact (List.perm_append_comm.append_left a).cons g
  refine ⟨r,j,(g::a)++K,⟨g::a,K,rfl,⟨by omega,.inr ⟨g,d,cap,cur,a,?_,u,by omega,A,z,rfl,B⟩⟩,e⟩,(List.nodup_append.1 (hp.nodup_iff.1 l)).1,fun b t=>i b (hp.mem_iff.2 (bj _ t))⟩;grind[tQ,sliced,Addr.add]
theorem N4 (i:TTok P tt) {T:TypeId} {lo hi:Option Operand} (q:o.op= .slice T x lo hi none) (h:Qv tt s k T x lo hi=some res):Oks P w0 s o k res:=by
 have ⟨d,D,h⟩:=bind_some h;split at h
 ·rename_i G f p n t _;have ⟨r,E,h⟩:=bind_some h;have ⟨e,z,h⟩:=bind_some h;have ⟨a,h⟩:=ak h;have a:=ax a;have ⟨m,j,h⟩:=bind_some h;have ⟨u,b,h⟩:=bind_some h;have b:=cG b;obtain ⟨hp,-⟩:=cO E;have g:=r.t.rep_size.trans a.symm;refine ⟨_,h,good_row (rs:=[]) (Gy hp) fun J θ F=>?_⟩;have B:OpT P J w0 o (evL (envL θ s)) [Ch.own (aA r.E r.t.rep) [hv θ f] r.xs] (· =tQ (hv θ f) 0 m.toNat e.n) (fun _=>[Ch.own (aA r.E r.t.rep) [hv θ f] r.xs]):=xt fun l=>xr ((i.get D).el _ n) (i.get z).ti l q (aK t) (wK j θ) b;refine OpT.post B fun v w C c A=>⟨trivial,?_⟩
  subst c;exact Uv A (by omega) g
 grind
theorem N5 (i:TTok P tt) {T:TypeId} {lo hi:Option Operand} (q:o.op= .slice T x lo hi none) (h:Qw tt s k T x lo hi=some res):Oks P w0 s o k res:=by
 have ⟨d,D,h⟩:=bind_some h;split at h
 ·rename_i G f p n t _;have ⟨r,E,h⟩:=bind_some h;have ⟨e,z,h⟩:=bind_some h;have ⟨a,h⟩:=ak h;have a:=ax a;have ⟨m,j,h⟩:=bind_some h;have ⟨u,b,h⟩:=bind_some h;have b:=cG b;obtain ⟨hp,-⟩:=cO E;have g:=r.t.rep_size.trans a.symm;refine ⟨_,h,good_row (rs:=[]) (Gy hp) fun J θ F=>?_⟩;have B:OpT P J w0 o (evL (envL θ s)) [Ch.own (aA r.E r.t.rep) [hv θ f] r.xs] (· =tQ (hv θ f) m.toNat r.xs.length e.n) (fun _=>[Ch.own (aA r.E r.t.rep) [hv θ f] r.xs]):=xt fun l=>xq ((i.get D).el _ n) (i.get z).ti l q (aK t) (wK j θ) b;refine OpT.post B fun v w C c A=>⟨trivial,?_⟩
  subst c;exact Uu A (by omega) g
 grind
theorem QB {h:Hdr} {ver:Nat} {E:TypeId} {t:Ty} {xs:List t.den} {l:Int} {J:Hp} {θ:Th} {r:Row} (b:rowOf h s.chs=some r) (hv:r.ver=ver) (a:AV.ok P w0 J θ s.nxt s.chs (.sub h ver E t xs l)):r.ent h=(h,ver,.own (.sl E t) xs):=by
 obtain ⟨hp,-⟩:=cO b
 have:=a.2.2.2 (r.ent h) (hp.mem_iff.2 (by simp)) _ ⟨rfl,.inl ⟨hv,rfl⟩⟩
 show (h,r.ver,Chk.own (.sl r.E r.t) r.xs)=_;rw[hv,show Chk.own (.sl r.E r.t) r.xs=_ from this]
theorem N6 (l:TTok P tt) {T:TypeId} {lo hi:Option Operand} (A:o.op= .slice T x lo hi none) (h:Qx tt s k T x lo hi=some res):Oks P w0 s o k res:=by
 have ⟨d,C,h⟩:=bind_some h;split at h
 ·rename_i D b v t z _;have ⟨r,n,h⟩:=bind_some h;have ⟨e,B,h⟩:=bind_some h;have ⟨f,h⟩:=ak h;have f:=ax f;have ⟨m,p,h⟩:=bind_some h;have ⟨u,c,h⟩:=bind_some h;have c:=cG c;obtain ⟨hp,-⟩:=cO n;refine ⟨_,h,sk hp,a7 rfl,fun J θ i=>OpT.weak (xt (fact:=(· =tQ (hv θ b) m.toNat r.xs.length e.n)) fun q=>xq ((l.get C).el _ t) (l.get B).ti q A (aK z) (wK p θ) c) (fun u j=>?_) (fun u j=>rfl)⟩;have a:=nL i hp;refine ⟨⟨be a.1,c,(yq n a.2.1).newer (Res.newer (sk hp) (a7 rfl J θ i)) (Nat.le_succ _)⟩,?_,fun g w=>by cases w⟩;rw[j,f];show tQ (hv (upd θ s.nxt _) b) _ _ _=tQ (hv θ b) _ _ _;rw[show hv (upd θ s.nxt _) b=hv θ b from bh Same.upd a.1]
 grind
theorem N7 (l:TTok P tt) {T:TypeId} {lo hi:Option Operand} (w:o.op= .slice T x lo hi none) (h:Qy tt s k T x lo hi=some res):Oks P w0 s o k res:=by
 have ⟨d,C,h⟩:=bind_some h;split at h
 ·rename_i D b v t A _;have ⟨r,n,h⟩:=bind_some h;have ⟨e,B,h⟩:=bind_some h;have ⟨f,h⟩:=ak h;have f:=ax f;have ⟨m,p,h⟩:=bind_some h;have ⟨u,c,h⟩:=bind_some h;have c:=cG c;obtain ⟨hp,-⟩:=cO n;refine ⟨_,h,sk hp,a7 rfl,fun J θ i=>OpT.weak (xt (fact:=(· =tQ (hv θ b) 0 m.toNat e.n)) fun q=>xr ((l.get C).el _ t) (l.get B).ti q w (aK A) (wK p θ) c) (fun u j=>?_) (fun u j=>rfl)⟩;have a:=nL i hp;refine ⟨⟨be a.1,c,(yq n a.2.1).newer (Res.newer (sk hp) (a7 rfl J θ i)) (Nat.le_succ _)⟩,?_,fun g z=>by cases z⟩;rw[j,f];show tQ (hv (upd θ s.nxt _) b) _ _ _=tQ (hv θ b) _ _ _;rw[show hv (upd θ s.nxt _) b=hv θ b from bh Same.upd a.1]
 grind
theorem Mj {e:Ent} {rest:List Ent} {t:Ty} {d:t.den} {v:Value} (hp:s.chs.Perm (e::rest)) (h1:v.oneCell'=true) (c: ∀J θ,Fine P w0 J θ s->OpT P J w0 o (evL (envL θ s)) [toCh P θ e] (· =v) (fun _=>[Ch.own t.rep [hv θ e.1] d])):Good P w0 s o ⟨[],[e],rest,[(e.1,.own t d)],.one (.val v)⟩:=by
 refine ⟨Gy hp,a7 rfl,fun J θ b=>OpT.weak (c J θ b) (fun u f=>?_) (fun u f=>?_)⟩
 ·have a:=nL b hp;refine ⟨h1,f.symm,fun g h=>?_⟩;cases aq h;exact ⟨be a.1,aJ _,trivial⟩
 ·have a:=nL b hp;show [Ch.own t.rep [hv θ e.1] d] = [Ch.own t.rep [hv (upd θ s.nxt u) e.1] d];rw[show hv (upd θ s.nxt u) e.1=hv θ e.1 from bh Same.upd a.1]
theorem Ks {r:Row} {q:(k:IntKind)×List Int} {h:Hdr} (a:Kq r=some q):r.ent h=(h,r.ver,.own (.sl r.E (.int q.1)) q.2):=by
 have ⟨e,E,t,f,rest⟩:=r;unfold Kq at a;split at a
 ·rename_i k d b c;cases ad a;subst b;cases eq_of_heq c
  rfl
 grind
theorem Uw (Q:TTok P tt) {T U:TypeId} (N:o.op= .call { callee:=.builtin .copy,args:= #[x,y],argTypes:= #[T,U] }) (h:abx tt s k T x y=some res):Oks P w0 s o k res:=by
 have ⟨d,hd,h⟩:=bind_some h;have ⟨E,hE,h⟩:=bind_some h;have ⟨e,W,h⟩:=bind_some h;have ⟨D,h⟩:=ak h;have D:=ax D;have ⟨xv,G,h⟩:=bind_some h;have ⟨c,t,h⟩:=bind_some h;have ⟨r,S,h⟩:=bind_some h;have ⟨b,h⟩:=ak h;rw[aj] at b;have i:=ax b.1;have ⟨q,hq,h⟩:=bind_some h;have ⟨yv,B,h⟩:=bind_some h;obtain ⟨hp,-⟩:=cO S;have f:=Ks (h:=c.h) hq;rw[f,i] at hp;have v:=(Q.get hd).el E hE;have w:(P.info? E).map (·.size)=some 1:=by have:=(Q.get W).ti;rw[D] at this;exact abh this
 have n: ∀J θ,Fine P w0 J θ s->(evL (envL θ s) x=hv θ c.h/\c.lo.toNat=0)\/evL (envL θ s) x=tQ (hv θ c.h) c.lo.toNat q.2.length 1:=by
  intro J θ g;unfold W2 at t;split at t
  ·cases ad t;exact .inl ⟨aK G,rfl⟩
  ·rename_i hh p R t' H l;cases ad t;have F:p=r.ver:=ax (by grind);have A:=QB S F.symm (cg g G);rw[f] at A;have M:=(Prod.mk.inj (Prod.mk.inj A).2).2
   injection M with K O
   injection K with V L
   subst L;cases eq_of_heq O;right;rw[aK (θ:=θ) G]
   rfl
  ·cases t
 unfold W3 at h;split at h
 ·rename_i hh R Z ys;have ⟨j,h⟩:=ak h;have j:q.1=Z:=by simpa using j
  subst j;have ⟨u,a,h⟩:=bind_some h;have a:=cG a;rw[i] at h;refine ⟨_,h,Mj (e:=(c.h,r.ver,.own (.sl E (.int q.1)) q.2)) hp rfl fun J θ g=>?_⟩;have C:c.lo.toNat<=q.2.length:=by omega
  exact Ka (lo:=c.lo.toNat) (cg g B).2 v w N rfl (aK B) C (n J θ g)
 ·rename_i M v2 R t' H hi;have ⟨j,m⟩:=ak h;rw[aj] at j;have e1:=Hdr.beq_eq j.1;subst e1;have e2:=ax j.2;subst e2;have ⟨u,a,m⟩:=bind_some m;have a:=cG a;have ⟨u,z,m⟩:=bind_some m;have z:=cG z;have C:c.lo.toNat<=q.2.length:=by omega
  have X:hi.toNat<=q.2.length:=by omega
  rw[i] at m;refine ⟨_,m,Mj (e:=(c.h,r.ver,.own (.sl E (.int q.1)) q.2)) hp rfl fun J θ g=>?_⟩;have I:=cg g B;have A:=I.2.2.2 (c.h,r.ver,.own (.sl E (.int q.1)) q.2) (hp.mem_iff.2 (by simp)) _ ⟨rfl,.inl ⟨rfl,rfl⟩⟩
  injection A with K O
  injection K with V L
  subst L;exact Gl (lo:=c.lo.toNat) (hi:=hi.toNat) v w N rfl ((aK B).trans rfl) C X (n J θ g)
 grind
inductive All2 {α β:Type} (p:α->β->Prop):List α->List β->Prop
 | nil:All2 p [] []
 | cons {a:α} {b:β} {l:List α} {m:List β} (h:p a b) (k:All2 p l m):All2 p (a::l) (b::m)
theorem All2.length_eq {α β:Type} {p:α->β->Prop} {l:List α} {m:List β} (h:All2 p l m):l.length=m.length:=by
 induction h with
 | nil=>rfl
 | cons _ _ ih=>grind
theorem QC {α:Type} {R:Rep α} (d:R.Sh) (h1:R.size=1) {I:Hp} {w:World} : ∀ {xs:List α} {cur:List Value} {K:List Nat},OwnEls R I w cur xs K-> ∃b:List Raw,K= [] /\OwnEls JW I w cur b [] /\All2 (fun p x=>R.rd I [p.1] x) b xs
 | [],cur,K,h=>⟨[],h,rfl,.nil⟩
 | x::xs,cur,K,⟨c,rest,G,K1,e1,e2,e3,e4,e5⟩=>by
  obtain ⟨rfl,a⟩:=d e4;obtain ⟨p,rfl⟩:=List.length_eq_one_iff.1 (e2.trans h1);obtain ⟨b,rfl,f,e⟩:=QC d h1 e5;exact ⟨⟨p,R.rd_one a p (by simp)⟩::b,e3,⟨[p],rest,[],[],e1,rfl,rfl,⟨rfl,rfl⟩,f⟩,.cons a e⟩
theorem QD {α:Type} {R:Rep α} (d:Cpy R R) (h1:R.size=1) {I:Hp} {w:World} : ∀ {xs:List α} {ps:List Raw} {cur:List Value} {K:List Nat},OwnEls JW I w cur ps K->All2 (fun p x=>R.rd I [p.1] x) ps xs->K= [] /\OwnEls R I w cur xs []
 | [],[],cur,K,h,_=>⟨h,rfl⟩
 | x::xs,p::ps,cur,K,h,hh=>by
  have ⟨c,rest,G,i,e,j,g,b,f⟩:=h;cases hh with
  | cons hp a =>
   obtain ⟨rfl,b⟩:=b;obtain rfl:c= [p.1]:=b;obtain ⟨rfl,k⟩:=QD d h1 f a;exact ⟨g,[p.1],rest,[],[],e,h1.symm,rfl,d hp,k⟩
 | [],_::_,_,_,_,hh=>by cases hh
 | _::_,[],_,_,_,hh=>by cases hh
theorem Y3 {α:Type} {E:TypeId} {R:Rep α} (r:R.Sh) (h1:R.size=1) {I:Hp} {w:World} {C:List Ch} {v:Value} {xs:List α} (h:St I w0 w (Ch.own (aA E R) [v] xs::C)): ∃b:List Raw,All2 (fun p x=>R.rd I [p.1] x) b xs/\St I w0 w (Ch.own (aA E JW) [v] b::C):=by
 obtain ⟨d,n,F,⟨G,K,rfl,⟨D,k⟩,e⟩,l,j⟩:=h;rcases k with ⟨a,rfl,rfl⟩ | ⟨g,c,cap,cur,B,a,q,A,u,f,rfl,t⟩
 ·exact ⟨[],.nil,d,n,[] ++K,⟨[],K,rfl,⟨Nat.zero_le _,.inl ⟨a,rfl,rfl⟩⟩,e⟩,l,j⟩
 ·obtain ⟨b,rfl,z,i⟩:=QC r h1 t;have m:=i.length_eq;exact ⟨b,i,d,n,[g] ++K,⟨[g],K,rfl,⟨by omega,.inr ⟨g,c,cap,cur,[],by grind,q,by omega,u,by rw[h1] at f;exact f,rfl,z⟩⟩,e⟩,l,j⟩
theorem Kt {α:Type} {E:TypeId} {R:Rep α} (q:Cpy R R) (h1:R.size=1) {I:Hp} {w:World} {C:List Ch} {v:Value} {xs:List α} {ps:List Raw} (hp:All2 (fun p x=>R.rd I [p.1] x) ps xs) (h:St I w0 w (Ch.own (aA E JW) [v] ps::C)):St I w0 w (Ch.own (aA E R) [v] xs::C):=by
 obtain ⟨c,j,F,⟨G,K,rfl,⟨A,k⟩,e⟩,f,d⟩:=h;have i:=hp.length_eq;rcases k with ⟨a,rfl,rfl⟩ | ⟨g,b,cap,cur,z,a,l,u,r,m,rfl,n⟩
 ·cases hp;exact ⟨c,j,[] ++K,⟨[],K,rfl,⟨Nat.zero_le _,.inl ⟨a,rfl,rfl⟩⟩,e⟩,f,d⟩
 ·obtain ⟨rfl,t⟩:=QD q h1 n hp;exact ⟨c,j,[g] ++K,⟨[g],K,rfl,⟨by omega,.inr ⟨g,b,cap,cur,[],by grind,l,by omega,r,by rw[h1];exact m,rfl,t⟩⟩,e⟩,f,d⟩
theorem aby {α:Type} {E:TypeId} {R:Rep α} (h1:R.size=1) {I:Hp} {v:Value} {xs:List α} (h:(aA E R).rd I [v] xs): ∃a:List Raw,All2 (fun p x=>R.rd I [p.1] x) a xs/\(aA E JW).rd I [v] a:=by
 obtain ⟨q,cap,e,A,h⟩:=h;obtain rfl:v= .slice q xs.length cap:=by grind
 rcases h with rfl | ⟨b,off,d,t,B,rfl,r,F⟩
 ·exact ⟨[],.nil,q,cap,rfl,A,.inl rfl⟩
 ·have key: ∀(xs:List α) (f:Nat),(∀i x,xs[i]? =some x-> ∃c:List Value,c.length=R.size/\(∀j,j<R.size->d.toList[off+(f+i)*R.size+j]? =c[j]?)/\R.rd I c x)-> ∃a:List Raw,All2 (fun p x=>R.rd I [p.1] x) a xs/\ ∀i p,a[i]? =some p->d.toList[off+(f+i)]? =some p.1:=by
   intro xs;induction xs with
   | nil=>intro f _;exact ⟨[],.nil,fun i p hp=>by grind⟩
   | cons x xs ih =>
    intro f h;have ⟨c,w,G,l⟩:=h 0 x rfl;obtain ⟨p,rfl⟩:=List.length_eq_one_iff.1 (w.trans h1);have ⟨a,g,z⟩:=ih (f+1) fun i y H=>by
     have:=h (i+1) y (by grind)
     grind
    refine ⟨⟨p,R.rd_one l p (by simp)⟩::a,.cons l g,fun i u C=>?_⟩;cases i with
    | zero =>
     obtain rfl:⟨p,R.rd_one l p (by simp)⟩=u:=by grind
     simp_all
    | succ i =>
     grind
  have ⟨a,g,z⟩:=key xs 0 (fun i x D=>by grind);have n:=g.length_eq;refine ⟨a,g,_,cap,by grind,by omega,.inr ⟨b,off,d,t,B,rfl,r,fun i p hp=>?_⟩⟩;refine ⟨[p.1],rfl,fun j m=>?_,rfl⟩;have m:j=0:=by have:j<1:=m;omega
  subst m;show d.toList[off+i*1+0]? =_;grind
theorem A0 {α β:Type} {p:α->β->Prop} : ∀ {xs:List α} {ys:List β} (n:Nat),All2 p xs ys->All2 p (xs.drop n) (ys.drop n)
 | _,_,0,h=>h
 | _,_,n+1,.nil=>.nil
 | _,_,n+1,.cons _ h=>A0 n h
theorem GI {α:Type} {b:Nat} {xs zs:List α} (h:bC b [] xs=some zs):zs=xs/\(∀ {β:Type} (ys:List β),ys.length=xs.length->bC b [] ys=some ys):=by
 have ⟨a,c⟩:=ym h;simp_all[bC,if_pos]
theorem ID {E':TypeId} {α:Type} {R:Rep α} (A:R.Sh) (m:Cpy R R) (h1:R.size=1) {g:FuncId} {E b:Nat} (e:Ab P g E b) {xs zs:List α} {l:Nat} (N:l<=xs.length) (F:bC b [] (xs.drop l)=some zs) {v u:Value} (z:u=tQ v l xs.length 1\/(l=0/\u=v)) {ts:Array TypeId} {J:Hp} {θ:Th} (c:Lay P J) (D:o.op= .call { callee:=.value (.func g),args:= #[x],argTypes:=ts }) {ev:Operand->Value} (t:ev x=u) (f:ev (.func g)= .func (.func g) #[] #[]) :
  OpT P J w0 o ev [Ch.own (aA E' R) [v] xs] (fun _=>True) (fun r=>[Ch.own (aA E' R) [v] xs,Ch.own (aA E R) [r] zs]):=by
 obtain ⟨rfl,so⟩:=GI F;intro w C H;have ⟨a,hp,M⟩:=Y3 A h1 H;have d:=hp.length_eq;have q:OpT P J w0 o ev ([Ch.own (aA E' JW) [v] a] ++ []) (fun _=>True) (fun r=>[Ch.own (aA E' JW) [v] a] ++ [Ch.own (aA E JW) [r] (a.drop l)]):=by
  refine yx (fun v=>⟨Cq (Gi abq),trivial⟩) fun n K i I=>?_;have h:=i (aA E' JW) [v] a (by simp);have j:(aA E' JW).rd n [u] (a.drop l):=by
   rcases z with rfl | ⟨rfl,rfl⟩
   ·rw[<-d];exact LS h (by omega) rfl
   ·exact h
  exact ta e.1 D f (by grind) (e.2 E' n w0 u (a.drop l) (a.drop l) (c.mono K) j (so _ (by grind)))
 have:=q w C (by simp_all)
 refine this.imp fun r B h=>⟨trivial,?_⟩
 have L:St J w0 B (Ch.own (aA E' JW) [v] a::Ch.own (aA E JW) [r] (a.drop l)::C):=by simpa using h.2
 have G:=Kt m h1 hp L;have p:=Kt m h1 (A0 l hp) (G.perm (List.Perm.swap _ _ _));exact p.perm (List.Perm.swap _ _ _)
theorem Ux {E':TypeId} {α:Type} {R:Rep α} (m:Cpy R R) (h1:R.size=1) {e:FuncId} {E b:Nat} (c:Ab P e E b) {xs zs:List α} (j:bC b [] xs=some zs) {v:Value} {ts:Array TypeId} {J:Hp} (a:Lay P J) (n:(aA E' R).rd J [v] xs) (i:o.op= .call { callee:=.value (.func e),args:= #[x],argTypes:=ts }) {ev:Operand->Value} (h:ev x=v) (d:ev (.func e)= .func (.func e) #[] #[]) :
  OpT P J w0 o ev [] (fun _=>True) (fun r=>[Ch.own (aA E R) [r] zs]):=by
 obtain ⟨rfl,so⟩:=GI j;have ⟨g,hp,f⟩:=aby h1 n
 have:=ta (P:=P) (w0:=w0) (o:=o) c.1 i d (by grind) (c.2 E' J w0 v g g a f (so _ hp.length_eq))
 exact OpT.post this fun r w C _ l=>⟨trivial,Kt m h1 hp l⟩
theorem IE {e:Ent} {rest:List Ent} {E:TypeId} {t:Ty} {xs:List t.den} (hp:s.chs.Perm (e::rest)) (a: ∀J θ,Fine P w0 J θ s->OpT P J w0 o (evL (envL θ s)) [toCh P θ e] (fun _=>True) (fun v=>[toCh P θ e,Ch.own (Ty.sl E t).rep [v] xs])):Good P w0 s o ⟨[e],[],rest,[(⟨s.nxt,[]⟩,.own (.sl E t) xs)],.one (.own ⟨s.nxt,[]⟩)⟩:=
 good_row (rs:=[e]) (ns:=[]) hp fun J θ b=>fun w C c=>(a J θ b w C c).imp fun v w hv=>⟨hv.1,hv.2.perm ((List.Perm.swap _ _ _).append_right C)⟩
theorem QE {p:FuncId} {E b:Nat} (f:Ab P p E b) {ts:Array TypeId} (n:o.op= .call { callee:=.value (.func p),args:= #[x],argTypes:=ts }) (h:Qz s k E b x=some res):Oks P w0 s o k res:=by
 unfold Qz at h;split at h
 ·rename_i u v z t A l e;have ⟨r,m,h⟩:=bind_some h;have ⟨a,h⟩:=ak h;rw[aj,aj] at a;have g:=ax a.1;have c:=ax a.2.2;have ⟨q,j,h⟩:=bind_some h;obtain ⟨hp,-⟩:=cO m;refine ⟨_,h,IE hp fun J θ d=>?_⟩;have i:=cg d e;have w:=QB m g i;rw[w];refine ID (Ty.sh_ok a.2.1) (Ty.cpy a.2.1) (t.rep_size.trans c) f (l:=l.toNat) (by have:=i.2.1;omega) j (.inl ?_) (J:=J) (θ:=θ) d.lay n rfl rfl;rw[<-c];exact aK e
 ·rename_i u e;have ⟨r,m,h⟩:=bind_some h;have ⟨a,h⟩:=ak h;rw[aj] at a;have c:=ax a.2;have ⟨q,j,h⟩:=bind_some h;obtain ⟨hp,-⟩:=cO m;refine ⟨_,h,IE hp fun J θ d=>?_⟩;exact ID (Ty.sh_ok a.1) (Ty.cpy a.1) (r.t.rep_size.trans c) f (l:=0) (Nat.zero_le _) (by grind) (.inr ⟨rfl,aK e⟩) (J:=J) (θ:=θ) d.lay n rfl rfl
 ·rename_i u z t A e;have ⟨a,h⟩:=ak h;rw[aj] at a;have c:=ax a.2;have ⟨q,j,h⟩:=bind_some h;exact ⟨_,h,good_row (rs:=[]) (ns:=[]) (List.Perm.refl _) fun J θ d=>Ux (Ty.cpy a.1) (t.rep_size.trans c) f j d.lay (cg d e).2 n (aK e) rfl⟩
 grind
end
structure Fr (s:Sg) (θ:Th) (s':Sg) (θ':Th):Prop where
 le:s.nxt<=s'.nxt
 same:Same s.nxt θ θ'
 env: ∀e∈s'.env,e.2.1<s.nxt->e∈s.env
 chs:Newer s.nxt s.chs s'.chs
section
variable {s s1 s2:Sg} {θ θ1 θ2:Th}
theorem Fr.rfl:Fr s θ s θ:=⟨ay _,Same.rfl,fun e a _=>a,Newer.rfl⟩
theorem Fr.trans (h:Fr s θ s1 θ1) (k:Fr s1 θ1 s2 θ2):Fr s θ s2 θ2:=
 ⟨Nat.le_trans h.le k.le,h.same.trans k.same h.le,fun e d hv=>h.env e (k.env e d (aG hv h.le)) hv,fun e d g a c l=>by
  rcases k.chs e d g a c l with i | ⟨j,b,f⟩
  ·exact .inl (Nat.le_trans h.le i)
  ·exact h.chs j b g a c f⟩
theorem Fr.put {d:Option Nat} {v:AV} {chs:List Ent} (hs:Same s.nxt θ θ1) (a:Newer s.nxt s.chs chs):Fr s θ ⟨PE d s.nxt v s.env,chs,s.nxt+1⟩ θ1:=
 ⟨Nat.le_succ _,hs,fun e b hv=>by
  grind[tc],a⟩
end
def CK (p:AV->Option AV):Nat->List (Nat×Nat×AV)->List (Nat×Nat×AV)
 | _,[] =>[]
 | k,e::l=>(match p e.2.2 with
  | some x=>(e.1,k,x)
  | none=>e)::CK p (k+1) l
section
variable {P:Program} {I J J':Hp} {w0 w:World} {F:Ch} {n:Nat} {θ θ':Th} {s:Sg} {a:Act}
theorem uH {p:AV->Option AV} {e:Nat×Nat×AV} : ∀ {l:List (Nat×Nat×AV)} {k:Nat},e∈CK p k l->(e∈l)\/(k<=e.2.1/\e.2.1<k+l.length/\ ∃e0∈l,e0.1=e.1/\p e0.2.2=some e.2.2)
 | [],k,h=>by cases h
 | e0::l,k,h=>by
  rcases aB h with h | h
  ·grind
  ·rcases uH h with h | ⟨d,c,f,g,b⟩
   ·grind
   grind
theorem Mk {p:AV->Option AV} : ∀ {l:List (Nat×Nat×AV)} {k:Nat},l.Pairwise (fun a b=>a.2.1≠b.2.1)->(∀e∈l,e.2.1<k)->(CK p k l).Pairwise fun a b=>a.2.1≠b.2.1
 | [],_,_,_=>List.Pairwise.nil
 | e0::l,k,h,hk=>by
  have ⟨f,d⟩:=List.pairwise_cons.1 h;refine List.pairwise_cons.2 ⟨fun e c=>?_,Mk d fun e c=>be (hk e (by grind))⟩;rcases uH c with c | ⟨g,-,-⟩
  ·grind
  grind
theorem Fi {p:AV->Option AV} : ∀ {l:List (Nat×Nat×AV)} {k:Nat},(∀e∈l,e.2.2.v θ'=e.2.2.v θ)->(∀e∈l,∀x,p e.2.2=some x->x.v θ'=e.2.2.v θ)->(CK p k l).map (fun e=>(e.1,e.2.2.v θ'))=l.map fun e=>(e.1,e.2.2.v θ)
 | [],_,_,_=>rfl
 | e0::l,k,h,hp=>by
  rw[CK,List.map_cons,List.map_cons,Fi (fun e b=>h e (by grind)) fun e b=>hp e (by grind)];grind
theorem Sim.repl {p:AV->Option AV} {b:List Ent} (d:Sim P I w0 F n J θ s a w) (hs:Same s.nxt θ θ') (i:J.le J') (h:St J' w0 w (b.map (toCh P θ')++ [F])) (k:Newer s.nxt s.chs b) (j: ∀e∈b,okE P w0 J' θ' (s.nxt+1) b e)
  (hp: ∀e∈s.env,∀x,p e.2.2=some x->x.ok P w0 J' θ' (s.nxt+1) b/\x.v θ'=e.2.2.v θ):Sim P I w0 F n J' θ' ⟨CK p (s.nxt+1) s.env,b,s.nxt+1+s.env.length⟩ a w/\Fr s θ ⟨CK p (s.nxt+1) s.env,b,s.nxt+1+s.env.length⟩ θ':=by
 have f:s.nxt+1<=s.nxt+1+s.env.length:=Nat.le_add_right _ _;refine ⟨⟨d.le.trans i,?_,h,fun e c=>?_,fun e c=>?_,Mk d.fine.nd fun e c=>be (d.fine.ver e c),fun e c=>iy Same.rfl f Newer.rfl (j e c) Hp.le.rfl,d.fine.lay.mono i⟩,by grind,hs,fun e c hv=>?_,k⟩
 ·have:envL θ' ⟨CK p (s.nxt+1) s.env,b,s.nxt+1+s.env.length⟩=envL θ s:=Fi (fun e c=>AV.v_same hs (d.fine.env e c)) fun e c x m=>(hp e c x m).2
  rw[this];exact d.agr
 ·rcases uH c with c | ⟨-,-,l,o,-,g⟩
  ·exact AV.ok_same hs (by grind) k (d.fine.env e c) i
  ·exact AV.ok_same Same.rfl f Newer.rfl (hp l o _ g).1 Hp.le.rfl
 ·rcases uH c with c | ⟨g,q,-⟩
  ·have:=d.fine.ver e c
   grind
  omega
 ·rcases uH c with c | ⟨g,-⟩
  ·exact c
  omega
end
def abz (h:Hdr) (s:Sg):Option Sg:=(pull h s.chs).bind fun r=>match r.1.2.2 with
 | .box T t d=>some ⟨s.env,(h,s.nxt,.blk T (jT s.nxt (fun j=>[j]) t d 0))::((tR s.nxt (fun j=>[j]) t d 0).map (fun g=>(g.1,s.nxt,g.2))++r.2),s.nxt+1⟩
 | _=>none
section
variable {P:Program} {I J:Hp} {w0 w:World} {F:Ch} {n:Nat} {θ:Th} {s s':Sg} {a:Act} {h:Hdr}
theorem Uy (hs:abz h s=some s') (q:Sim P I w0 F n J θ s a w): ∃θ',Sim P I w0 F n J θ' s' a w/\Fr s θ s' θ':=by
 have ⟨r,N,hs⟩:=bind_some hs;have ⟨p,k⟩:=hY N;have ⟨⟨x,C,c⟩,rest⟩:=r;obtain rfl:x=h:=k;cases c with
 | box T t d =>
  cases ad (show some _=some s' from hs);have z:=q.fine.chs _ (p.mem_iff.2 (List.mem_cons_self ..));have L:=q.st.perm ((p.map (toCh P θ)).append_right [F]);have y:=L;have ⟨cells,y⟩:=St.box.1 y;let θ':=upd θ s.nxt (.agg cells.toArray);have b:Same s.nxt θ θ':=Same.upd;have M:=y.perm (List.Perm.swap _ _ _);have ⟨D,E,Q,H⟩:=kZ (P:=P) (m:=s.nxt) (θ:=θ') (pth:=fun j=>[j]) (n:=s.nxt+1) (aJ _) t d 0 cells _ (fun i v K=>by
   show vg (upd θ s.nxt (.agg cells.toArray) s.nxt) [0+i] =v;simp_all[kU,Nat.zero_add,WX]) M
  have u: ∀e,e∈rest->e∈s.chs:=fun e f=>p.mem_iff.2 (br _ f);have o:Newer s.nxt s.chs ((x,s.nxt,.blk T (jT s.nxt (fun j=>[j]) t d 0))::((tR s.nxt (fun j=>[j]) t d 0).map (fun g=>(g.1,s.nxt,g.2))++rest)):=fun e f O B c l=>by
   rcases aB f with rfl | f
   ·obtain ⟨rfl,l⟩:=l;rcases l with ⟨y,-⟩ | l
    ·grind
    ·exact l.elim
   ·rcases aI f with f | f
    ·obtain ⟨g,A,rfl⟩:=List.mem_map.1 f;rcases l.2 with ⟨y,-⟩ | l
     ·grind
     grind[yz,kj]
    grind
  refine ⟨θ',⟨q.le,?_,?_,fun e f=>AV.ok_same b (Nat.le_succ _) o (q.fine.env e f) Hp.le.rfl,fun e f=>be (q.fine.ver e f),q.fine.nd,fun e f=>?_,q.fine.lay⟩,Nat.le_succ _,b,fun e f _=>f,o⟩
  ·show Agr n a (envL θ' s);rw[Cr b q.fine.env];exact q.agr
  ·rw[List.map_cons,aX,List.map_map];have G:toCh P θ' (x,s.nxt,Chk.blk T (jT s.nxt (fun j=>[j]) t d 0))=Ch.blk (bk (hv θ x)) cells T:=by
    show Ch.blk (bk (hv θ' x)) ((jT s.nxt (fun j=>[j]) t d 0).map (·.v θ')) T=_;rw[E,bh b z.1]
   rw[G,kW b fun e f=>q.fine.chs e (u e f)]
   have:=H.perm (List.perm_middle (l₁:=(tR s.nxt (fun j=>[j]) t d 0).map fun g=>toCh P θ' (g.1,s.nxt,g.2)))
   rw[List.cons_append,aH];exact this
  ·rcases aB f with rfl | f
   ·exact ⟨be z.1,aJ _,D⟩
   ·rcases aI f with f | f
    ·obtain ⟨g,A,rfl⟩:=List.mem_map.1 f;exact xw (kj t d 0 g A) (by grind) (aJ _)
    ·exact iy b (Nat.le_succ _) o (q.fine.chs e (u e f)) Hp.le.rfl
 | _=>cases hs
end
def Ku:List Ent->List Hdr
 | [] =>[]
 | (h,_,.box _ _ _)::l=>h::Ku l
 | _::l=>Ku l
def QF:List Hdr->Sg->Sg
 | [],s=>s
 | h::hs,s=>QF hs (match abz h s with
  | some s'=>s'
  | none=>s)
def tj (s:Sg):Sg:=QF (Ku s.chs) s
def CL (h:Hdr):LV->Bool
 | .own h'=>Hdr.beq h' h
 | _=>false
def LV.frz (h:Hdr) (t:Ty) (d:t.den) (x:LV):LV:=match CL h x with
 | true=>.rd h t d
 | false=>x
def AV.frz (h:Hdr) (t:Ty) (d:t.den):AV->Option AV
 | .one x=>match CL h x with
  | true=>some (.one (.rd h t d))
  | false=>none
 | .agg xs=>match xs.any (CL h) with
  | true=>some (.agg (xs.map (LV.frz h t d)))
  | false=>none
 | .tup ys=>match ys.any fun y=>y.2.any (CL h) with
  | true=>some (.tup (ys.map fun y=>(y.1,y.2.map (LV.frz h t d))))
  | false=>none
 | _=>none
def QG (h:Hdr) (t:Ty) (d:t.den) (k:Nat) (e:Ent):Ent:=match e.2.2 with
 | .blk T cells=>match cells.any (CL h) with
  | true=>(e.1,k,.blk T (cells.map (LV.frz h t d)))
  | false=>e
 | _=>e
def W4 (h:Hdr) (y:AV) (x:AV):Option AV:=match x with
 | .one (.ptr h' off)=>match Hdr.beq h' h&&Nat.beq off 0 with
  | true=>some y
  | false=>none
 | _=>none
section
variable {P:Program} {J J':Hp} {w0:World} {n m k:Nat} {θ:Th} {h:Hdr} {t:Ty} {d:t.den} {chs:List Ent}
theorem IF {x:LV} (a:CL h x=true):x= .own h:=by
 unfold CL at a;grind[Hdr.beq_eq]
theorem LV.frz_v (x:LV):(x.frz h t d).v θ=x.v θ:=by
 unfold LV.frz;split
 ·rename_i a;rw[IF a];rfl
 ·rfl
theorem LV.frz_ok {x:LV} (a:x.ok P w0 J θ n) (c:n<=m) (e:J.le J') (b:h.id<m) (f:t.rep.rd J' [hv θ h] d):(x.frz h t d).ok P w0 J' θ m:=by
 unfold LV.frz;split
 ·exact ⟨b,f⟩
 ·exact LV.ok_same Same.rfl c a e
theorem Kv (xs:List LV):(xs.map (LV.frz h t d)).map (·.v θ)=xs.map (·.v θ):=by
 grind[List.map_map,List.map_congr_left,LV.frz_v]
theorem Uz (y:Bool×List LV):mR θ (y.1,y.2.map (LV.frz h t d))=mR θ y:=by
 grind[mR,Kv,LV.frz_v]
theorem AV.frz_ok {x y:AV} (a:x.frz h t d=some y) (o:x.ok P w0 J θ n chs) {c:List Ent} (l:n<=m) (p:J.le J') (g:h.id<m) (j:t.rep.rd J' [hv θ h] d):y.ok P w0 J' θ m c/\y.v θ=x.v θ:=by
 unfold AV.frz at a;split at a
 ·split at a
  ·rename_i r;cases ad a;rw[IF r];exact ⟨⟨g,j⟩,rfl⟩
  grind
 ·split at a
  ·cases ad a;refine ⟨fun z e=>?_,?_⟩
   ·obtain ⟨f,b,rfl⟩:=List.mem_map.1 e;exact LV.frz_ok (o f b) l p g j
   ·show Value.agg _=Value.agg _;rw[Kv]
  grind
 ·split at a
  ·cases ad a;refine ⟨fun z e=>?_,?_⟩
   ·obtain ⟨f,b,rfl⟩:=List.mem_map.1 e;intro u s;obtain ⟨q,i,rfl⟩:=List.mem_map.1 s;exact LV.frz_ok (o f b q i) l p g j
   ·show Value.tuple _=Value.tuple _;simp_all[List.map_map,List.map_congr_left,Uz]
  grind
 grind
theorem QH (e:Ent):toCh P θ (QG h t d k e)=toCh P θ e:=by
 have ⟨b,v,c⟩:=e;unfold QG;split
 ·rename_i T cells a;split
  ·show Ch.blk _ ((cells.map _).map _) _=_;rw[Kv];obtain rfl:c= .blk T cells:=a
   rfl
  ·rfl
 ·rfl
theorem QI {e:Ent} {b:Hdr} {ver:Nat} {c:Chk} (hs:Says (QG h t d k e) b ver c):ver=k\/Says e b ver c:=by
 unfold QG at hs;split at hs
 ·split at hs
  ·rcases hs.2 with ⟨a,-⟩ | a
   ·grind
   ·exact a.elim
  grind
 grind
theorem N8 {l:List Ent} :Newer k l (l.map (QG h t d k)):=fun e i o f c g=>by
 obtain ⟨j,b,rfl⟩:=List.mem_map.1 i;rcases QI g with a | a
 ·exact .inl (Nat.le_of_eq a.symm)
 ·exact .inr ⟨j,b,a⟩
theorem Y4 {e:Ent} (i:okE P w0 J θ n chs e) {a:List Ent} (o:Newer n chs a) (g:n<m) (j:J.le J') (q:h.id<m) (r:t.rep.rd J' [hv θ h] d):okE P w0 J' θ m a (QG h t d n e):=by
 have p:=iy Same.rfl (Nat.le_of_lt g) o i j;unfold QG;split
 ·rename_i T cells b;split
  ·have ⟨u,v,c⟩:=e;obtain rfl:c= .blk T cells:=b;exact ⟨p.1,g,fun x l=>by
    obtain ⟨s,f,rfl⟩:=List.mem_map.1 l;exact LV.frz_ok (i.2.2 s f) (Nat.le_of_lt g) j q r⟩
  omega
 omega
end
abbrev Trs:=List (TypeId×TypeId×Ty)
def adY (l:Trs) (T:TypeId):Option (TypeId×Ty):=match l with
 | [] =>none
 | (U,x)::l=>if Nat.beq U T then some x else adY l T
def abA (tr:Trs):Ty->Bool
 | .tree _ _ _=>true
 | .sl E _=>match adY tr E with
  | some q=>Nat.beq q.1 0
  | none=>false
 | _=>false
def tS:(t:Ty)->t.den->(u:Ty)×u.den
 | .bag (.sl E t),d=>⟨.sl E t,d⟩
 | t,d=>⟨t,d⟩
theorem QJ {J:Hp} {cs:List Value} : ∀ {t:Ty} {d:t.den},t.rep.rd J cs d->(tS t d).1.rep.rd J cs (tS t d).2:=fun {t d} h=>by
 cases t with
 | bag u=>cases u <;> exact h
 | _=>exact h
def QK (tr:Trs) (h:Hdr) (s:Sg):Option Sg:=(pull h s.chs).bind fun r=>match r.1.2.2 with
 | .own t d=>match abA tr t with
  | true=>some ⟨CK (AV.frz h (tS t d).1 (tS t d).2) (s.nxt+1) s.env,r.2.map (QG h (tS t d).1 (tS t d).2 s.nxt),s.nxt+1+s.env.length⟩
  | false=>none
 | _=>none
def W5 (T E:TypeId) (t:Ty) (x:LV) (chs:List Ent):Option (List (Tr t.den)×List Ent×List Ent):=match x with
 | .own h=>(rowOf h chs).bind fun r=>(oK (.sl r.E r.t) (.sl E (.tree T E t)) r.xs).bind fun ks=>some (ks,[r.ent h],r.rest)
 | x=>(Ub E (.tree T E t) x).bind fun ks=>some (ks,[],chs)
def QL (tr:Trs) (h:Hdr) (s:Sg):Option Sg:=(tf h s.chs).bind fun b=>(adY tr b.T).bind fun q=>(eM q.2 b.cells).bind fun a=>match a.2 with
 | [kid] =>(W5 b.T q.1 q.2 kid b.rest).bind fun ks=>some ⟨CK (W4 h (.one (.rd ⟨s.nxt,[]⟩ (.tree b.T q.1 q.2) (.node a.1 ks.1)))) (s.nxt+1) s.env,ks.2.2,s.nxt+1+s.env.length⟩
 | _=>none
section
variable {P:Program} {I J:Hp} {w0 w:World} {F:Ch} {n:Nat} {θ:Th} {s s':Sg} {a:Act} {h:Hdr}
theorem QM {m:Nat} {chs b:List Ent} (h: ∀e,e∈b->e∈chs):Newer m chs b:=fun e g i d c f=>.inr ⟨e,h e g,f⟩
theorem QN {tr:Trs} (hs:QK tr h s=some s') (o:Sim P I w0 F n J θ s a w): ∃y,J.le y/\Sim P I w0 F n y θ s' a w/\Fr s θ s' θ:=by
 have ⟨r,E,hs⟩:=bind_some hs;have ⟨p,k⟩:=hY E;have ⟨⟨g,l,c⟩,rest⟩:=r;obtain rfl:g=h:=k;cases c with
 | own t d =>
  have hs:(match abA tr t with
   | true=>some (⟨CK (AV.frz g (tS t d).1 (tS t d).2) (s.nxt+1) s.env,rest.map (QG g (tS t d).1 (tS t d).2 s.nxt),s.nxt+1+s.env.length⟩:Sg)
   | false=>none)=some s':=hs
  split at hs
  ·cases ad (show some _=some s' from hs);have q:=o.fine.chs _ (p.mem_iff.2 (List.mem_cons_self ..));have A:St J w0 w (Ch.own t.rep [hv θ g] d::(rest.map (toCh P θ)++ [F])):=o.st.perm ((p.map (toCh P θ)).append_right [F]);have ⟨y,v,u,B⟩:=A.freeze;have i:=QJ u;have j: ∀e,e∈rest->e∈s.chs:=fun e f=>p.mem_iff.2 (br _ f);have b:Newer s.nxt s.chs (rest.map (QG g (tS t d).1 (tS t d).2 s.nxt)):=fun e f D l c hs=>by
    rcases N8 e f D l c hs with A | ⟨z,m,A⟩
    ·omega
    grind
   refine ⟨y,v,o.repl Same.rfl v ?_ b (fun e f=>?_) fun e f x C=>AV.frz_ok C (o.fine.env e f) (Nat.le_succ _) v (be q.1) i⟩
   ·grind[List.map_map,List.map_congr_left,toCh,QG,QH]
   ·obtain ⟨z,m,rfl⟩:=List.mem_map.1 f;exact Y4 (o.fine.chs z (j z m)) b (aJ _) v (be q.1) i
  grind
 | _=>cases hs
theorem QO {tr:Trs} (hs:QL tr h s=some s') (y:Sim P I w0 F n J θ s a w): ∃J' θ',J.le J'/\Sim P I w0 F n J' θ' s' a w/\Fr s θ s' θ':=by
 have ⟨b,V,hs⟩:=bind_some hs;have ⟨⟨E,t⟩,hq,hs⟩:=bind_some hs;have ⟨c,Y,hs⟩:=bind_some hs;have p:=lW V;have Q:=y.fine.chs _ (p.mem_iff.2 (List.mem_cons_self ..));have g:=Q.2.2;have ⟨Z,X,W⟩:=jH (J:=J) (θ:=θ) Y g;split at hs
 ·rename_i m z;have ⟨G,d,hs⟩:=bind_some hs;cases ad hs;have h0:=y.st.perm ((p.map (toCh P θ)).append_right [F]);have S:=h0;have M:b.cells.map (·.v θ)=Z.map (·.v θ)++ [m.v θ]:=by rw[X,z,aX];rfl
  let θ':=upd θ s.nxt (.pointer (some ⟨bk (hv θ h),0,none⟩));have f:Same s.nxt θ θ':=Same.upd;have key: ∃q,J.le q/\(Ty.sl E (.tree b.T E t)).rep.rd q [m.v θ] G.1/\St q w0 w (Ch.blk (bk (hv θ h)) (b.cells.map (·.v θ)) b.T::(G.2.2.map (toCh P θ)++ [F]))/\ ∀e,e∈G.2.2->e∈b.rest:=by
   unfold W5 at d;split at d
   ·rename_i hk;have ⟨r,hr,d⟩:=bind_some d;have ⟨xs,l,d⟩:=bind_some d;cases ad d;obtain ⟨R,-⟩:=cO hr;have U:St J w0 w (Ch.own (Ty.sl r.E r.t).rep [hv θ hk] r.xs::Ch.blk (bk (hv θ h)) (b.cells.map (·.v θ)) b.T::(r.rest.map (toCh P θ)++ [F])):=by
     refine (S.perm ?_:St J w0 w _)
     have:=((R.map (toCh P θ)).append_right [F]).cons (Ch.blk (bk (hv θ h)) (b.cells.map (·.v θ)) b.T)
     exact this.trans (List.Perm.swap _ _ _)
    have ⟨q,o,H,O⟩:=U.freeze;exact ⟨q,o,jF l H,O,fun e j=>R.mem_iff.2 (br _ j)⟩
   ·have ⟨xs,l,d⟩:=bind_some d;cases ad d;exact ⟨J,Hp.le.rfl,Cu l (g m (by grind)),S,fun e j=>j⟩
  have ⟨q,o,K,A,N⟩:=key;have ⟨J2,u,v,T⟩:=A.freeze_blk;have D:=o.trans u;have i:=fun e j=>p.mem_iff.2 (br _ (N e j));have k:Newer s.nxt s.chs G.2.2:=QM i;have B:hv θ' ⟨s.nxt,[]⟩= .pointer (some ⟨bk (hv θ h),0,none⟩):=kU;refine ⟨J2,θ',D,y.repl f D ?_ k (fun e j=>iy f (Nat.le_succ _) k (y.fine.chs e (i e j)) D) fun e j x C=>?_⟩
  ·rw[kW f fun e j=>y.fine.chs e (i e j)];omega
  ·unfold W4 at C;split at C
   ·rename_i h' off L;split at C
    ·rename_i hp;cases ad C;rw[aj] at hp;refine ⟨⟨aJ _,?_⟩,?_⟩
     ·rw[B];rw[M] at v;exact Pz v (Rep.rd_mono _ W D) (Rep.rd_mono _ K u)
     ·rw[L,Hdr.beq_eq hp.1,ax hp.2];exact B
    grind
   grind
 grind
end
def orS (x:Option Sg) (s:Sg):Sg:=match x with
 | some s'=>s'
 | none=>s
def UA (tr:Trs):List (Bool×Hdr)->Sg->Sg
 | [],s=>s
 | (true,h)::hs,s=>UA tr hs (orS (QL tr h s) s)
 | (false,h)::hs,s=>UA tr hs (orS (QK tr h s) s)
section
variable {P:Program} {I J:Hp} {w0 w:World} {F:Ch} {n:Nat} {θ:Th} {s s':Sg} {a:Act}
theorem GJ: ∀ {hs:List Hdr} {s:Sg} {θ:Th},Sim P I w0 F n J θ s a w-> ∃θ',Sim P I w0 F n J θ' (QF hs s) a w/\Fr s θ (QF hs s) θ'
 | [],s,θ,hS=>⟨θ,hS,Fr.rfl⟩
 | h::hs,s,θ,hS=>by
  unfold QF;split
  ·rename_i s' e;have ⟨θ1,c,f⟩:=Uy e hS;have ⟨θ2,b,d⟩:=GJ (hs:=hs) c;exact ⟨θ2,b,f.trans d⟩
  ·exact GJ hS
theorem B2 (b:Sim P I w0 F n J θ s a w): ∃θ',Sim P I w0 F n J θ' (tj s) a w/\Fr s θ (tj s) θ':=GJ b
theorem xy {tr:Trs} : ∀ {hs:List (Bool×Hdr)} {s:Sg} {J:Hp} {θ:Th},Sim P I w0 F n J θ s a w-> ∃J' θ',J.le J'/\Sim P I w0 F n J' θ' (UA tr hs s) a w/\Fr s θ (UA tr hs s) θ'
 | [],s,J,θ,hS=>⟨J,θ,Hp.le.rfl,hS,Fr.rfl⟩
 | (true,h)::hs,s,J,θ,hS=>by
  unfold UA;cases i:QL tr h s with
  | some s' =>
   have ⟨k,θ1,b,e,j⟩:=QO i hS;obtain ⟨f,θ2,c,d,g⟩:=xy (hs:=hs) e;exact ⟨f,θ2,b.trans c,d,j.trans g⟩
  | none=>exact xy hS
 | (false,h)::hs,s,J,θ,hS=>by
  unfold UA;cases i:QK tr h s with
  | some s' =>
   have ⟨k,b,e,j⟩:=QN i hS;obtain ⟨f,θ2,c,d,g⟩:=xy (hs:=hs) e;exact ⟨f,θ2,b.trans c,d,j.trans g⟩
  | none=>exact xy hS
end
end R
namespace D
open Go.RowKit
section
variable {P:Program} {I J:Hp} {w0 w w':World} {cs C:List Ch} {o:Oper} {ev:Operand->Value}
theorem IG {α:Type} {R:Rep α} (a:Cpy R R): ∀ {xs:List α} {cur:List Value},(∀i x,xs[i]? =some x-> ∃c:List Value,c.length=R.size/\(∀j,j<R.size->cur[i*R.size+j]? =c[j]?)/\R.rd I c x)->OwnEls R I w cur xs []
 | [],cur,_=>rfl
 | x::xs,cur,h=>by
  have ⟨c,e,l,b⟩:=h 0 x rfl;refine ⟨c,cur.drop R.size,[],[],?_,e,rfl,a b,IG a fun i y k=>?_⟩
  ·apply List.ext_getElem?;grind
  ·have ⟨d,g,m,f⟩:=h (i+1) y (by grind);grind
end
section
variable {P:Program} {I J:Hp} {w0 w w':World} {cs C:List Ch} {o:Oper} {ev:Operand->Value}
theorem Ml {α:Type} {E:TypeId} {R:Rep α} (d:R.Sh) {k:Nat} (r:R.size=k) {g a n cap:Nat} {xs:List α} (h:St I w0 w (Ch.own (aA E R) [.slice (some ⟨g,a,none⟩) n cap] xs::C)) :
  n=xs.length/\xs.length<=cap/\cap<=maxLen/\ ∃cur,w.heap[g]? =some (.cells cur E (0,0))/\a+cap*k<=cur.size/\ ∀(i:Nat) x,xs[i]? =some x-> ∃c:List Value,c.length=k/\(∀j,j<k->(cur.toList.drop a)[i*k+j]? =c[j]?)/\R.rd I c x:=by
 obtain ⟨y,L,F,⟨G,K,rfl,⟨D,u⟩,H⟩,z,v⟩:=h;rcases u with ⟨hv,rfl,rfl⟩ | ⟨A,l,m,cur,B,hv,p,q,t,e,rfl,f⟩
 ·simp at hv
 ·simp only[List.cons.injEq,Value.slice.injEq,Option.some.injEq,Addr.mk.injEq,and_true] at hv;obtain ⟨⟨rfl,rfl⟩,rfl,rfl⟩:=hv;obtain rfl:=f.sh d;have b:=fun i x s=>f.at Hp.le.rfl (by simp) i x s;rw[r] at b e;exact ⟨rfl,q,t,cur,p,e,b⟩
theorem GK {α:Type} {E:TypeId} {R:Rep α} (D:R.Sh) (hC:Cpy R R) {k:Nat} (L:R.size=k) {g a n cap p cnt:Nat} {xs zs:List α} {news:List Value} (hn:news.length=cnt*k) (t:p+cnt<=cap) (hz:zs.length<=cap) (f:zs.length<=lim)
  (s: ∀i z,zs[i]? =some z->(p<=i/\i<p+cnt/\ ∃c:List Value,c.length=k/\(∀j,j<k->news[(i - p)*k+j]? =c[j]?)/\R.rd I c z)\/((i<p\/p+cnt<=i)/\xs[i]? =some z))
  (h:St I w0 w (Ch.own (aA E R) [.slice (some ⟨g,a,none⟩) n cap] xs::C)):St I w0 (w.setCells g (a+p*k) news) (Ch.own (aA E R) [.slice (some ⟨g,a,none⟩) zs.length cap] zs::C):=by
 obtain ⟨y,hi,F,⟨G,K,rfl,⟨hl,e2⟩,e3⟩,N,U⟩:=h;rcases e2 with ⟨hv,rfl,rfl⟩ | ⟨g',X,Y,cur,K1,hv,k1,k2,k3,k4,rfl,W⟩
 ·simp at hv
 ·simp only[List.cons.injEq,Value.slice.injEq,Option.some.injEq,Addr.mk.injEq,and_true] at hv;obtain ⟨⟨rfl,rfl⟩,rfl,rfl⟩:=hv;obtain rfl:=W.sh D;have l:=fun i x M=>W.at Hp.le.rfl (by simp) i x M;rw[L] at l k4;have H:cur.toList.length=cur.size:=Array.length_toList;have m0:(p+cnt)*k=p*k+cnt*k:=Nat.add_mul _ _ _;have m1:(p+cnt)*k<=cap*k:=Nat.mul_le_mul_right _ t;have d:a+p*k+news.length<=cur.size:=by omega
  obtain ⟨o1,Z,o3,o4,V⟩:=rB g news (a+p*k) w;have r:=uB news (a+p*k) w cur d k1;have O:g∉K:=by rw[List.cons_append] at N;simpa using (List.nodup_cons.1 N).1
  have key: ∀q,((cur.toList.take (a+p*k)++news++cur.toList.drop (a+p*k+news.length)).toArray.toList.drop a)[q]? =if p*k<=q/\q<p*k+cnt*k then news[q - p*k]? else (cur.toList.drop a)[q]? :=by
   intro q;rw[List.getElem?_drop];show (cur.toList.take (a+p*k)++news++cur.toList.drop (a+p*k+news.length))[a+q]? =_;have v:(cur.toList.take (a+p*k)).length=a+p*k:=by rw[az];omega
   by_cases B:q<p*k
   ·rw[if_neg (by omega),aH,List.getElem?_append_left (by omega),List.getElem?_take,if_pos (by omega),List.getElem?_drop]
   ·by_cases A:q<p*k+cnt*k
    ·rw[if_pos (by omega),aH,List.getElem?_append_right (by omega),v,List.getElem?_append_left (by omega)];congr 1;omega
    ·rw[if_neg (by omega),List.getElem?_append_right (by rw[au];omega),au,v,hn,List.getElem?_drop,List.getElem?_drop];congr 1;omega
  refine ⟨⟨o1.trans y.1,Z.trans y.2.1,o3.trans y.2.2.1,by rw[o4];exact y.2.2.2⟩,fun q u m=>?_,[g] ++K,⟨[g],K,rfl,⟨f,.inr ⟨g,a,cap,_,[],rfl,r,hz,k3,?_,rfl,IG hC fun i x M=>?_⟩⟩,e3.stay fun q m=>V q fun e=>O (e ▸ m)⟩,N,U⟩
  ·show (w.setCells g (a+p*k) _).heap[q]? =some u;rw[V q fun e=>by rw[e,U g (by simp)] at m;cases m];exact hi q u m
  ·rw[L];simp only[List.size_toArray,au,az,bq,H];omega
  ·rw[L];rcases s i x M with ⟨b,S,c,B,A,Q⟩ | ⟨b,S⟩
   ·refine ⟨c,B,fun j T=>?_,Q⟩;have a1:p*k<=i*k:=Nat.mul_le_mul_right _ b;have a2:i*k+k<=p*k+cnt*k:=by rw[<-Nat.succ_mul,<-Nat.add_mul];exact Nat.mul_le_mul_right _ S
    have a3:(i - p)*k=i*k - p*k:=Nat.sub_mul _ _ _;rw[key,if_pos (by omega),<-A j T,a3];congr 1;omega
   ·obtain ⟨c,B,A,Q⟩:=l i x S;refine ⟨c,B,fun j T=>?_,Q⟩;have a1:i*k+k<=p*k\/p*k+cnt*k<=i*k:=by
     rcases b with b | b
     ·left;rw[<-Nat.succ_mul];exact Nat.mul_le_mul_right _ b
     ·right;rw[<-Nat.add_mul];exact Nat.mul_le_mul_right _ b
    rw[key,if_neg (by omega)];exact A j T
def CM (cur:Array Value) (ofs k j m:Nat):List Value:=((cur.toList.drop ofs).drop (j*k)).take ((m - j)*k)
theorem N9 {cur:Array Value} {a k j m cap:Nat} (h:a+cap*k<=cur.size) (c:j<=m) (b:m<=cap):(CM cur a k j m).length=(m - j)*k:=by
 have e:m*k<=cap*k:=Nat.mul_le_mul_right _ b;have f:(m - j)*k=m*k - j*k:=Nat.sub_mul _ _ _;have d:j*k<=m*k:=Nat.mul_le_mul_right _ c;unfold CM;rw[az,bq,bq,Array.length_toList];omega
theorem Af {cur:Array Value} {a k j m q:Nat} (b:q<(m - j)*k):(CM cur a k j m)[q]? =(cur.toList.drop a)[j*k+q]? :=by
 unfold CM;rw[List.getElem?_take,if_pos b,List.getElem?_drop]
theorem Oa {α:Type} {R:Rep α} {xs:List α} {cur:Array Value} {b k j m:Nat} (h:0<k) (l:m<=xs.length) (e: ∀(i:Nat) x,xs[i]? =some x-> ∃c:List Value,c.length=k/\(∀j,j<k->(cur.toList.drop b)[i*k+j]? =c[j]?)/\R.rd I c x): ∀u∈CM cur b k j m,u.oneCell'=true:=by
 intro u n;obtain ⟨q,f⟩:=List.getElem?_of_mem n;have a:=(List.getElem?_eq_some_iff.1 f).1;have g:q<(m - j)*k:=by
  unfold CM at a;rw[az] at a;omega
 rw[Af g] at f;have s:(m - j)*k=m*k - j*k:=Nat.sub_mul _ _ _;have v:m*k<=xs.length*k:=Nat.mul_le_mul_right _ l;have d:(j*k+q) / k<xs.length:=by rw[Nat.div_lt_iff_lt_mul h];omega
 obtain ⟨c,t,p,r⟩:=e _ _ (List.getElem?_eq_getElem d)
 have:=p ((j*k+q) % k) (Nat.mod_lt _ h)
 rw[Nat.div_add_mod',f] at this;exact R.rd_one r u (List.mem_of_getElem? this.symm)
theorem Kw {g a:Nat} {cur:Array Value} {E:TypeId} {b:Nat×Nat} (h:w.heap[g]? =some (.cells cur E b)) (q:Nat):w.cell? ⟨g,a+q,none⟩=(cur.toList.drop a)[q]? :=by
 simp[World.cell?,h]
def A1 {α:Type} (xs:List α) (i j m:Nat):List α:=xs.take i++(((xs.take m).drop j)++xs.drop (i+(m - j)))
theorem GL {α:Type} {xs:List α} {i j m:Nat} (h1:i<=j) (b:j<=m) (a:m<=xs.length):(A1 xs i j m).length=xs.length:=by
 simp only[A1,au,az,bq];omega
theorem Ob {α:Type} {xs:List α} {i j m q:Nat} (h1:i<=j) (d:j<=m) (e:m<=xs.length):(A1 xs i j m)[q]? =if i<=q/\q<i+(m - j) then xs[j+(q - i)]? else xs[q]? :=by
 have c:(xs.take i).length=i:=by rw[az];omega
 have a:((xs.take m).drop j).length=m - j:=by rw[bq,az];omega
 unfold A1;by_cases b:q<i
 ·rw[if_neg (by omega),List.getElem?_append_left (by omega),List.getElem?_take,if_pos b]
 ·rw[List.getElem?_append_right (by omega),c];by_cases f:q<i+(m - j)
  ·rw[if_pos (by omega),List.getElem?_append_left (by omega),List.getElem?_drop,List.getElem?_take,if_pos (by omega)]
  ·rw[if_neg (by omega),List.getElem?_append_right (by omega),a,List.getElem?_drop];congr 1;omega
theorem GM {α:Type} {E T:TypeId} {R:Rep α} {z:Value} {n b:Nat} {x y:Operand} {g d cap len i j m c:Nat} {a:Addr} {xs:List α} (A:R.Sh) (hC:Cpy R R) (Y:P.underlying T=some (.slice E)) (hE:TZ P E z n b) (S:0<n) (O:R.size=n)
  (W:o.op= .call { callee:=.builtin .append,args:= #[x,y],argTypes:= #[T,T] }) (X:ev x= .slice (some ⟨g,d,none⟩) i cap) (hy:ev y= .slice (some a) (m - j) c) (U:j<m->a=⟨g,d+j*n,none⟩) (s:i<=j) (F:j<=m) (v:m<=xs.length) :
  OpT P I w0 o ev [Ch.own (aA E R) [.slice (some ⟨g,d,none⟩) len cap] xs] (· = .slice (some ⟨g,d,none⟩) (i+(m - j)) cap) (fun _=>[Ch.own (aA E R) [.slice (some ⟨g,d,none⟩) len cap] (A1 xs i j m)]):=by
 intro w C L;obtain ⟨info,H,hz,e,hby⟩:=info_parts hE;obtain ⟨rfl,Q,r2,cur,K,Z,B⟩:=Ml A O L;have h:=N9 (k:=n) (j:=j) Z F (Nat.le_trans v Q);have m1:xs.length*n<=cap*n:=Nat.mul_le_mul_right _ Q;have m2:i*n<=j*n:=Nat.mul_le_mul_right _ s;have m3:(m - j)*n=m*n - j*n:=Nat.sub_mul _ _ _;have m4:j*n<=m*n:=Nat.mul_le_mul_right _ F;have m5:m*n<=xs.length*n:=Nat.mul_le_mul_right _ v;have N:(cur.toList.drop d).length=cur.size - d:=by rw[bq,Array.length_toList]
 have l:=run_append_room_cells (P:=P) w T o.type E info Y H g d i cap a (m - j) c (CM cur d n j m) (by rw[e];exact h) (fun q u f=>by
  have r:=(List.getElem?_eq_some_iff.1 f).1;rw[h] at r;rw[Af r] at f;by_cases M:j<m
  ·rw[U M];simp only[Addr.add_mid];rw[Nat.add_assoc,Kw K];exact f
  ·rw[show m - j=0 from by omega] at r;omega) (Oa S v B) (by omega) (fun q f=>by
  rw[h] at f;rw[e,Nat.add_assoc,Kw K,List.getElem?_eq_getElem (by rw[N];omega)];rfl) (fun q _=>by simp[World.frozen?,K])
 rw[e] at l;rw[eS W X hy l];have G:=GL (xs:=xs) s F v;have V:=(L.hd 0 rfl).2
 have:=GK (zs:=A1 xs i j m) A hC O (p:=i) (cnt:=m - j) h (by omega) (by omega) (by omega) (fun q u f=>by
  rw[Ob s F v] at f;by_cases D:i<=q/\q<i+(m - j)
  ·rw[if_pos D] at f;obtain ⟨c,d1,d2,d3⟩:=B _ _ f;refine .inl ⟨D.1,D.2,c,d1,fun t ht=>?_,d3⟩;have e1:(q - i)*n+n<=(m - j)*n:=by rw[<-Nat.succ_mul];exact Nat.mul_le_mul_right _ (by omega)
   rw[Af (by omega),<-d2 t ht,Nat.add_mul];congr 1;omega
  ·rw[if_neg D] at f;exact .inr ⟨by omega,f⟩) L
 rw[G] at this;exact ⟨rfl,this⟩
theorem CN (w:World) (t e ty:TypeId) (z:Value) (g:P.underlying t=some (.slice e)) (hv:(zeroValue e).run P w= .ok z w) (b o n c:Nat) (h:0<n)
  (f: ∀j,j<(Builtin.zeroCells z.cells n).toList.length->(w.cell? ⟨b,o+j,none⟩).isSome=true) (d: ∀j,j<(Builtin.zeroCells z.cells n).toList.length->w.frozen? ⟨b,o+j,none⟩=false) (h1: ∀v∈(Builtin.zeroCells z.cells n).toList,v.oneCell'=true) :
  (Builtin.clear_ #[t] ty #[.slice (some ⟨b,o,none⟩) n c]).run P w= .ok (.tuple #[]) (w.setCells b o (Builtin.zeroCells z.cells n).toList):=by
 have a:=run_storeCells_cells (P:=P) b o (Builtin.zeroCells z.cells n).toList 0 w (by simpa using f) (by simpa using d) h1;simp only[Nat.add_zero] at a;obtain ⟨m,rfl⟩: ∃m,n=m+1:=⟨n - 1,by omega⟩;simp[Builtin.clear_,run_underlying g,hv,a]
theorem uI (w:World) (t e ty:TypeId) (b:P.underlying t=some (.slice e)) (a:Option Addr) (c:Nat):(Builtin.clear_ #[t] ty #[.slice a 0 c]).run P w= .ok (.tuple #[]) w:=by
 cases a <;> simp[Builtin.clear_,run_underlying b]
theorem rE {x:Operand} {T:TypeId} {v r:Value} {w w':World} (a:o.op= .call { callee:=.builtin .clear,args:= #[x],argTypes:= #[T] }) (b:ev x=v) (c:(Builtin.clear_ #[T] o.type #[v]).run P w= .ok r w'):(execOp ev o).run P w= .ok (.value r) w':=by
 simp only[execOp,a,resolve,invoke,builtin,Sem.run_bind,Sem.run_pure,Result.andThen_ok,List.map_toArray,List.map_cons,List.map_nil,b,c]
theorem GN {a:Array Value} {n:Nat} :(Builtin.zeroCells a n).toList.length=n*a.size:=by simp[Builtin.zeroCells]
theorem GO {a:Array Value} {n i j:Nat} (hi:i<n) (b:j<a.size):(Builtin.zeroCells a n).toList[i*a.size+j]? =a.toList[j]? :=by
 have c:i*a.size+j<n*a.size:=by
  have:i*a.size+a.size<=n*a.size:=by rw[<-Nat.succ_mul];exact Nat.mul_le_mul_right _ hi
  omega
 have d:(i*a.size+j) % a.size=j:=by rw[Nat.add_comm,Nat.add_mul_mod_self_right,Nat.mod_eq_of_lt b]
 simp[Builtin.zeroCells,c,d,b]
def tk {α:Type} (xs:List α) (l m:Nat) (z:α):List α:=xs.take l++(List.replicate (m - l) z++xs.drop m)
theorem A2 {α:Type} {xs:List α} {l m:Nat} {z:α} (h1:l<=m) (a:m<=xs.length):(tk xs l m z).length=xs.length:=by
 simp only[tk,au,az,bq,List.length_replicate];omega
theorem QP {α:Type} {xs:List α} {l m q:Nat} {z:α} (h1:l<=m) (c:m<=xs.length):(tk xs l m z)[q]? =if l<=q/\q<m then some z else xs[q]? :=by
 have b:(xs.take l).length=l:=by rw[az];omega
 unfold tk;by_cases a:q<l
 ·rw[if_neg (by omega),List.getElem?_append_left (by omega),List.getElem?_take,if_pos a]
 ·rw[List.getElem?_append_right (by omega),b];by_cases d:q<m
  ·rw[if_pos (by omega),List.getElem?_append_left (by rw[List.length_replicate];omega),List.getElem?_replicate,if_pos (by omega)]
  ·rw[if_neg (by omega),List.getElem?_append_right (by rw[List.length_replicate];omega),List.length_replicate,List.getElem?_drop];congr 1;omega
theorem II {α:Type} {E T:TypeId} {R:Rep α} {z:Value} {s:α} {n b:Nat} {x:Operand} {g d cap len l m c:Nat} {a:Addr} {xs:List α} (h:R.Sh) (Z:Cpy R R) (Q:P.underlying T=some (.slice E)) (X:TZ P E z n b) (hn:0<n) (M:R.size=n) (f:z.cells.size=n) (r:R.rd I z.cells.toList s)
  (O:o.op= .call { callee:=.builtin .clear,args:= #[x],argTypes:= #[T] }) (y:ev x= .slice (some a) (m - l) c) (V:l<m->a=⟨g,d+l*n,none⟩) (K:l<=m) (B:m<=xs.length) :
  OpT P I w0 o ev [Ch.own (aA E R) [.slice (some ⟨g,d,none⟩) len cap] xs] (fun _=>True) (fun _=>[Ch.own (aA E R) [.slice (some ⟨g,d,none⟩) len cap] (tk xs l m s)]):=by
 intro w C A;obtain ⟨rfl,Y,r2,cur,N,r4,W⟩:=Ml h M A;by_cases H:l=m
 ·subst H;rw[Nat.sub_self] at y;rw[rE O y (uI w T E o.type Q _ _)];refine ⟨trivial,?_⟩
  have:tk xs l l s=xs:=by simp[tk]
  rw[this];exact A
 ·have F:l<m:=by omega
  rw[V F] at y;have m1:xs.length*n<=cap*n:=Nat.mul_le_mul_right _ Y;have m3:(m - l)*n=m*n - l*n:=Nat.sub_mul _ _ _;have m4:l*n<=m*n:=Nat.mul_le_mul_right _ K;have m5:m*n<=xs.length*n:=Nat.mul_le_mul_right _ B;have L:(cur.toList.drop d).length=cur.size - d:=by rw[bq,Array.length_toList]
  have S:(Builtin.zeroCells z.cells (m - l)).toList.length=(m - l)*n:=by rw[GN,f]
  have i: ∀v∈(Builtin.zeroCells z.cells (m - l)).toList,v.oneCell'=true:=by
   intro v k;simp only[Builtin.zeroCells,Array.toList_map,List.mem_map] at k;obtain ⟨q,-,rfl⟩:=k;have e:q % z.cells.size<z.cells.size:=Nat.mod_lt _ (by omega);rw[getElem!_pos z.cells _ e];exact R.rd_one r _ (by simp)
  have j:=CN (P:=P) w T E o.type z Q (X.run_zero w) g (d+l*n) (m - l) c (by omega) (fun q e=>by
   rw[S] at e;rw[Nat.add_assoc,Kw N,List.getElem?_eq_getElem (by rw[L];omega)];rfl) (fun q _=>by simp[World.frozen?,N]) i
  rw[rE O y j];have D:=A2 (xs:=xs) (z:=s) K B;have U:=(A.hd 0 rfl).2
  have:=GK (zs:=tk xs l m s) h Z M (p:=l) (cnt:=m - l) S (by omega) (by omega) (by omega) (fun q u e=>by
   rw[QP K B] at e;by_cases G:l<=q/\q<m
   ·rw[if_pos G] at e;obtain rfl:=ad e;refine .inl ⟨G.1,by omega,z.cells.toList,by rw[Array.length_toList,f],fun t ht=>?_,r⟩;rw[<-f,GO (by omega) (by omega)]
   ·rw[if_neg G] at e;exact .inr ⟨by omega,e⟩) A
  rw[D] at this;exact ⟨trivial,this⟩
end
end D
namespace R
open Go.RowKit
open D
theorem Vw.hd {u v:Value} {k n:Nat} {l m:Int} (h:Vw u v k n l m): ∃a c,u= .slice a (m.toNat - l.toNat) c/\0<=l/\l<=m:=by
 rcases h with ⟨-,rfl,-,rfl,rfl⟩ | ⟨g,b,cap,x,-,rfl,d,e,-⟩
 ·grind
 grind
theorem Vw.one {u v:Value} {k n:Nat} {l m:Int} (h:Vw u v k n l m):u.oneCell'=true:=by
 obtain ⟨a,c,rfl,_⟩:=h.hd;rfl
theorem Kx {I:Hp} {w0 w:World} {C:List Ch} {α:Type} {E:TypeId} {R:Rep α} {v:Value} {xs:List α} {k:Nat} (h:St I w0 w (Ch.own (aA E R) [v] xs::C)):Vw v v k xs.length 0 xs.length:=by
 obtain ⟨e,q,F,⟨G,K,rfl,⟨o,c⟩,p⟩,i,d⟩:=h;rcases c with ⟨hv,rfl,rfl⟩ | ⟨g,a,cap,cur,n,hv,f,b,m,j,rfl,l⟩
 ·obtain rfl:v= .slice none 0 0:=by grind
  exact .inl ⟨rfl,rfl,rfl,rfl,rfl⟩
 ·obtain rfl:v= .slice (some ⟨g,a,none⟩) xs.length cap:=by grind
  exact .inr ⟨g,a,cap,0,rfl,by simp,by omega,by omega,b,by omega,Nat.zero_le _,.inr (by simp)⟩
theorem QQ {I:Hp} {w0 w:World} {C:List Ch} {α:Type} {E:TypeId} {R:Rep α} {u v:Value} {xs:List α} {k n:Nat} {l m:Int} (h:St I w0 w (Ch.own (aA E R) [v] xs::C)) (hv:Vw u v k n l m):n=xs.length:=by
 have d:=Kx (k:=k) h;rcases hv with ⟨rfl,-,rfl,-,-⟩ | ⟨g,c,cap,x,rfl,-,-⟩ <;> rcases d with ⟨e,-,q,-,-⟩ | ⟨f,a,b,i,e,-,-⟩
 ·omega
 ·cases e
 ·cases e
 grind
theorem UB {u v w:Value} {k n:Nat} {l m a c:Int} (h:Vw u v k n l m) (h1:0<=a) (s:a<=c) (A:l+c<=(n:Int)\/c<=m - l) {ao:Option Addr} {len cap:Nat} (i:u= .slice ao len cap) (r:w=sliced ao a.toNat c.toNat cap k):Vw w v k n (l+a) (l+c):=by
 rcases h with ⟨rfl,rfl,rfl,rfl,rfl⟩ | ⟨g,b,e,x,rfl,rfl,E,y,p,D,t,B⟩
 ·obtain rfl:a=0:=by omega
  obtain rfl:c=0:=by omega
  injection i with d q f
  subst d;subst f;exact .inl ⟨rfl,by grind[sliced],rfl,rfl,rfl⟩
 ·injection i with d q f
  subst d;subst f;subst r;have z:(l+a).toNat=l.toNat+a.toNat:=by omega
  have o:(l+c).toNat - (l+a).toNat=c.toNat - a.toNat:=by omega
  have C:(l.toNat+a.toNat)*k=l.toNat*k+a.toNat*k:=Nat.add_mul _ _ _;by_cases j:e - l.toNat=a.toNat
  ·refine .inr ⟨g,b,e,x,rfl,?_,by omega,by omega,p,by omega,by grind,.inl (by omega)⟩;simp[sliced,j,if_true,o];grind
  ·refine .inr ⟨g,b,e,x+a.toNat*k,rfl,?_,by omega,by omega,p,by omega,by grind,?_⟩
   ·simp[sliced,j,if_false,o,Option.map_some,Addr.add_mid,Nat.add_assoc];grind
   grind
def oI (ev:Operand->Value):Option Operand->Option Int->Prop
 | none,none=>True
 | some x,some m=>ev x= .int .i64 m
 | _,_=>False
section
variable {P:Program} {I:Hp} {w0:World} {o:Oper} {ev:Operand->Value}
theorem Oc {t e:TypeId} {x:Operand} {lo hi:Option Operand} {b a:Option Int} {ao:Option Addr} {len cap n:Nat} {agg:Bool} (f:P.underlying t=some (.slice e)) (g:TI P e agg n) (k:o.op= .slice t x lo hi none) (l:ev x= .slice ao len cap) (d:oI ev lo b) (c:oI ev hi a) (h:len<=cap)
  (h1:0<=b.getD 0) (i:b.getD 0<=a.getD len) (p:a.getD len<=(cap:Int)) :
  OpT P I w0 o ev [] (· =sliced ao (b.getD 0).toNat (a.getD len).toNat cap n) (fun _=>[]):=by
 have j:P.elem t=e:=by simp[Program.elem,f]
 refine bz fun w=>?_;have m:=TI.size g w;cases lo with
 | none =>
  cases b with
  | some _=>exact d.elim
  | none =>
   cases hi with
   | none =>
    cases a with
    | some _=>exact c.elim
    | none =>
     simp_all[execOp,Option.map_some,Option.map_none,Sem.run_bind,run_sliceAt_slice,run_slice_all,Result.andThen_ok]
   | some hi =>
    cases a with
    | none=>exact c.elim
    | some a =>
     have c:ev hi= .int .i64 a:=c;simp_all[execOp,Option.map_some,Option.map_none,Sem.run_bind,run_sliceAt_slice,run_slice_h,Result.andThen_ok]
 | some lo =>
  cases b with
  | none=>exact d.elim
  | some b =>
   have d:ev lo= .int .i64 b:=d;cases hi with
   | none =>
    cases a with
    | some _=>exact c.elim
    | none =>
     simp_all[execOp,Option.map_some,Option.map_none,Sem.run_bind,run_sliceAt_slice,run_slice_l,Result.andThen_ok]
   | some hi =>
    cases a with
    | none=>exact c.elim
    | some a =>
     have c:ev hi= .int .i64 a:=c;simp_all[execOp,Option.map_some,Option.map_none,Sem.run_bind,run_sliceAt_slice,run_slice_lh,Result.andThen_ok]
end
def UC:(t:Ty)->List Value->Option t.den
 | .raw,[v] =>if h:v.oneCell'=true then some (⟨v,h⟩:Raw) else none
 | .prod .raw b,v::cs=>if h:v.oneCell'=true then (UC b cs).bind fun d=>some ((⟨v,h⟩:Raw),d) else none
 | _,_=>none
theorem UD {J:Hp} : ∀ {t:Ty} {cs:List Value} {d:t.den},UC t cs=some d->t.rep.rd J cs d:=by
 intro t;induction t with
 | raw =>
  intro cs d h
  match cs,h with
  | [],h=>cases h
  | _::_::_,h=>cases h
  | [v],h =>
   by_cases c:v.oneCell'=true
   ·have h:(if h:v.oneCell'=true then some (⟨v,h⟩:Raw) else none)=some d:=h;rw[dif_pos c] at h;cases ad h;rfl
   ·have h:(if h:v.oneCell'=true then some (⟨v,h⟩:Raw) else none)=some d:=h;grind
 | prod a b iha ihb =>
  intro cs d h;cases a with
  | raw =>
   cases cs with
   | nil=>cases h
   | cons v cs =>
    unfold UC at h;split at h
    ·have ⟨f,e,h⟩:=Option.bind_eq_some_iff.1 h;cases ad h;exact ⟨[v],cs,rfl,rfl,ihb e⟩
    grind
  | _=>cases cs <;> cases h
 | _=>intro cs d h;cases cs <;> cases h
def Y5 (e t:Ty):Option t.den:=match oK e t (Gq e) with
 | some z=>some z
 | none=>UC t (zeroCells e)
theorem UE {e t:Ty} {z:t.den} (h:Y5 e t=some z) (J:Hp):t.rep.rd J (zeroCells e) z:=by
 grind[Y5,ad,jF,rC,UD]
structure Vb where
 x:Bool
 h:Hdr
 k:Nat
 l:Int
 m:Int
 r:Row
section
variable {Y:Type} (tt:TT) (s:Sg) (k:Res->Option Y)
def adZ (chs:List Ent) (x:Operand):Option Vb:=match opd s x with
 | some (.one (.own h))=>(rowOf h chs).bind fun r=>some ⟨false,h,r.t.size,0,(r.xs.length:Int),r⟩
 | some (.vw u h k n l m)=>(rowOf h chs).bind fun r=>cz (Nat.beq k r.t.size) (some ⟨false,h,k,l,m,r⟩)
 | some (.xv top u h k n l m)=>match rowOf u chs with
  | some r=>cz (Nat.beq k r.t.size) (some ⟨false,u,k,0,(r.xs.length:Int),r⟩)
  | none=>(rowOf h chs).bind fun r=>cz (Nat.beq k r.t.size) (some ⟨true,h,k,l,m,r⟩)
 | _=>none
def aaS (x:Operand):Option Vb:=adZ s s.chs x
def loV (x:Option Operand) (d:Int) (k:Int->Option Y):Option Y:=match x with
 | none=>k d
 | some x=>(asI s x).bind k
def GP (T:TypeId) (x:Operand) (lo hi:Option Operand):Option Y:=(td tt T).bind fun d=>d.el.bind fun E'=>(td tt E').bind fun e=>(aaS s x).bind fun b=>cz (Nat.beq e.n b.k) (loV s lo 0 fun ml=>loV s hi (b.m - b.l) fun mh =>
 match b.x with
 | false=>(chk (0<=ml/\ml<=mh/\b.l+mh<=(b.r.xs.length:Int))).bind fun _=>k ⟨[b.r.ent b.h],[],b.r.rest,[],.vw ⟨s.nxt,[]⟩ b.h b.k b.r.xs.length (b.l+ml) (b.l+mh)⟩
 | true=>(chk (0<=ml/\ml<=mh/\mh<=b.m - b.l)).bind fun _=>k ⟨[b.r.ent b.h],[],b.r.rest,[],.xv false ⟨s.nxt,[]⟩ b.h b.k b.r.xs.length (b.l+ml) (b.l+mh)⟩)
def Y6 (T:TypeId) (x:Operand):Option Y:=(td tt T).bind fun d=>match d.el,opd s x with
 | some _,some (.vw u h k' n l m)=>k (.pure s (.one (.val (.int .i64 (m - l)))))
 | some _,some (.xv _ u h k' n l m)=>k (.pure s (.one (.val (.int .i64 (m - l)))))
 | _,_=>none
def Ky (T:TypeId) (x i:Operand):Option Y:=(td tt T).bind fun d=>d.el.bind fun E=>(td tt E).bind fun e=>(aaS s x).bind fun b=>cz (Nat.beq e.n b.k) ((asI s i).bind fun i=>(chk (0<=i/\i<b.m - b.l)).bind fun _=>(aO b.r.xs (b.l+i)).bind fun a=>k ⟨[b.r.ent b.h],[],b.r.rest,[],.elo b.h b.r.ver b.r.E b.r.t b.r.xs a (b.l+i) 0⟩)
def abB (T:TypeId) (x y:Operand):Option Y:=(td tt T).bind fun d=>d.el.bind fun E=>(td tt E).bind fun e=>e.bytes.bind fun _=>(aaS s x).bind fun b=>(aaS s y).bind fun c =>
 cz (Nat.beq e.n b.k&&Hdr.beq c.h b.h&&Nat.beq b.r.E E&&b.r.t.sh) ((chk (b.l=0/\b.m<=c.l/\c.l<=c.m/\c.m<=(b.r.xs.length:Int))).bind fun _=>k ⟨[],[b.r.ent b.h],b.r.rest,[(b.h,.own (.sl b.r.E b.r.t) (A1 b.r.xs b.m.toNat c.l.toNat c.m.toNat))],.vw ⟨s.nxt,[]⟩ b.h b.k b.r.xs.length 0 (b.m+(c.m - c.l))⟩)
def QR (T:TypeId) (x:Operand):Option Y:=(td tt T).bind fun d=>d.el.bind fun E=>(td tt E).bind fun e=>e.bytes.bind fun _=>(aaS s x).bind fun b =>
 cz (Nat.beq e.n b.k&&Nat.beq b.r.E E&&b.r.t.sh) ((Y5 e.ty b.r.t).bind fun z=>(chk (b.l<=b.m/\b.m<=(b.r.xs.length:Int))).bind fun _=>k ⟨[],[b.r.ent b.h],b.r.rest,[(b.h,.own (.sl b.r.E b.r.t) (tk b.r.xs b.l.toNat b.m.toNat z))],.any ⟨s.nxt,[]⟩⟩)
end
section
variable {Y:Type} {tt:TT} {s:Sg} {k:Res->Option Y} {P:Program} {w0:World} {o:Oper} {res:Y} {x y:Operand}
theorem Y7 {chs:List Ent} {b:Vb} (h:adZ s chs x=some b):rowOf b.h chs=some b.r/\b.k=b.r.t.size/\ ∀ {J:Hp} {θ:Th},Fine P w0 J θ s-> ∀ {w:World} {C:List Ch} {xs:List b.r.t.den},xs.length=b.r.xs.length->St J w0 w (Ch.own (aA b.r.E b.r.t.rep) [hv θ b.h] xs::C)->Vw (evL (envL θ s) x) (hv θ b.h) b.k b.r.xs.length b.l b.m:=by
 unfold adZ at h;split at h
 ·rename_i q d;have ⟨r,i,h⟩:=bind_some h;cases ad h;refine ⟨i,rfl,fun {J θ} j {w C xs} g f=>?_⟩;have a:=Kx (k:=r.t.size) f;rw[g] at a;rw[aK (θ:=θ) d];exact a
 ·rename_i u q p n l m d;have ⟨r,i,h⟩:=bind_some h;have ⟨c,h⟩:=ak h;have c:=ax c;cases ad h;refine ⟨i,c,fun {J θ} j {w C xs} g f=>?_⟩;have e:=cg j d;have a:=e.2.2.1;cases QQ f a;rw[aK (θ:=θ) d,<-g];exact a
 ·rename_i top u q p n l m d;split at h
  ·rename_i r i;have ⟨c,h⟩:=ak h;have c:=ax c;cases ad h;refine ⟨i,c,fun {J θ} j {w C xs} g f=>?_⟩;have a:=Kx (k:=p) f;rw[g] at a;rw[aK (θ:=θ) d];exact a
  ·have ⟨r,i,h⟩:=bind_some h;have ⟨c,h⟩:=ak h;have c:=ax c;cases ad h;refine ⟨i,c,fun {J θ} j {w C xs} g f=>?_⟩;have e:=cg j d;have a:=e.2.2.1;cases QQ f a;rw[aK (θ:=θ) d,<-g];exact a
 grind
theorem CO {b:Vb} (h:aaS s x=some b):rowOf b.h s.chs=some b.r/\b.k=b.r.t.size/\ ∀ {J:Hp} {θ:Th},Fine P w0 J θ s-> ∀ {w:World} {C:List Ch} {xs:List b.r.t.den},xs.length=b.r.xs.length->St J w0 w (Ch.own (aA b.r.E b.r.t.rep) [hv θ b.h] xs::C)->Vw (evL (envL θ s) x) (hv θ b.h) b.k b.r.xs.length b.l b.m:=Y7 h
theorem W6 {Z:Type} {x:Option Operand} {d:Int} {k:Int->Option Z} {z:Z} (h:loV s x d k=some z): ∃m:Option Int,k (m.getD d)=some z/\ ∀θ,oI (evL (envL θ s)) x m:=by
 unfold loV at h;split at h
 ·exact ⟨none,h,fun _=>trivial⟩
 ·have ⟨q,a,h⟩:=bind_some h;exact ⟨some q,h,fun θ=>wK a θ⟩
theorem Y8 {h:Hdr} {r:Row} {c:Nat} {l m:Int} (j:rowOf h s.chs=some r) (f:m<=(r.xs.length:Int)) (b: ∀J θ,Fine P w0 J θ s->OpT P J w0 o (evL (envL θ s)) [toCh P θ (r.ent h)] (fun v=>Vw v (hv θ h) c r.xs.length l m) (fun _=>[toCh P θ (r.ent h)])):Good P w0 s o ⟨[r.ent h],[],r.rest,[],.vw ⟨s.nxt,[]⟩ h c r.xs.length l m⟩:=by
 obtain ⟨hp,-⟩:=cO j;refine ⟨sk hp,a7 rfl,fun J θ d=>OpT.weak (b J θ d) (fun u e=>?_) (fun u e=>rfl)⟩;have a:=nL d hp;refine ⟨⟨aJ _,be a.1,?_,f⟩,fE,fun g i=>by cases i⟩;rw[fE,show hv (upd θ s.nxt u) h=hv θ h from bh Same.upd a.1];exact e
theorem Y9 {top:Bool} {h:Hdr} {r:Row} {c:Nat} {l m:Int} (j:rowOf h s.chs=some r) (f:top=true->l=0) (b: ∀J θ,Fine P w0 J θ s->OpT P J w0 o (evL (envL θ s)) [toCh P θ (r.ent h)] (fun v=>Vw v (hv θ h) c r.xs.length l m) (fun _=>[toCh P θ (r.ent h)])):Good P w0 s o ⟨[r.ent h],[],r.rest,[],.xv top ⟨s.nxt,[]⟩ h c r.xs.length l m⟩:=by
 obtain ⟨hp,-⟩:=cO j;refine ⟨sk hp,a7 rfl,fun J θ d=>OpT.weak (b J θ d) (fun u e=>?_) (fun u e=>rfl)⟩;have a:=nL d hp;refine ⟨⟨aJ _,be a.1,?_,f⟩,fE,fun g i=>by cases i⟩;rw[fE,show hv (upd θ s.nxt u) h=hv θ h from bh Same.upd a.1];exact e
theorem Ag (E:TTok P tt) {T:TypeId} {lo hi:Option Operand} (N:o.op= .slice T x lo hi none) (h:GP tt s k T x lo hi=some res):Oks P w0 s o k res:=by
 have ⟨d,S,h⟩:=bind_some h;have ⟨E',O,h⟩:=bind_some h;have ⟨e,L,h⟩:=bind_some h;have ⟨b,M,h⟩:=bind_some h;have ⟨B,h⟩:=ak h;have B:=ax B;have ⟨n,h,l⟩:=W6 h;have ⟨f,h,t⟩:=W6 h;have ⟨G,hk,A⟩:=CO (P:=P) (w0:=w0) M;have key:0<=n.getD 0->n.getD 0<=f.getD (b.m - b.l)->(b.l+f.getD (b.m - b.l)<=(b.r.xs.length:Int)\/f.getD (b.m - b.l)<=b.m - b.l)-> ∀J θ,Fine P w0 J θ s->OpT P J w0 o (evL (envL θ s)) [toCh P θ (b.r.ent b.h)] (fun v=>Vw v (hv θ b.h) b.k b.r.xs.length (b.l+n.getD 0) (b.l+f.getD (b.m - b.l))) (fun _=>[toCh P θ (b.r.ent b.h)]):=by
  intro i a c J θ K w C F;have z:=A K rfl F;have ⟨ao,cap,D,H,R⟩:=z.hd;have j:b.m.toNat - b.l.toNat<=cap/\b.l+cap≥b.r.xs.length:=by
   rcases z with ⟨-,q,m,e2,e3⟩ | ⟨g,Q,X,W,-,q,q1,Z,q3,q4,V,q6⟩
   ·omega
   ·grind
  have m:f.getD (b.m - b.l)=f.getD ((b.m.toNat - b.l.toNat:Nat):Int):=by
   cases f with
   | none=>grind
   | some _=>rfl
  rw[m] at a c
  have:=Oc (P:=P) (I:=J) (w0:=w0) (ev:=evL (envL θ s)) ((E.get S).el _ O) (E.get L).ti N D (l θ) (t θ) j.1 i a (by omega) w (toCh P θ (b.r.ent b.h)::C) F
  refine this.imp fun v U r=>⟨?_,r.2⟩
  rw[m];exact UB z i a c D (by grind)
 split at h
 ·have ⟨u,p,h⟩:=bind_some h;have ⟨i,a,c⟩:=cG p;exact ⟨_,h,Y8 G c (key i a (.inl c))⟩
 ·have ⟨u,p,h⟩:=bind_some h;have ⟨i,a,c⟩:=cG p;exact ⟨_,h,Y9 G (fun e=>by cases e) (key i a (.inr c))⟩
theorem UF (p:TTok P tt) {T:TypeId} (j:o.op= .call { callee:=.builtin .len,args:= #[x],argTypes:= #[T] }) (h:Y6 tt s k T x=some res):Oks P w0 s o k res:=by
 have ⟨d,q,h⟩:=bind_some h;split at h
 ·rename_i E u w t n l m i f;refine mU h rfl fun J θ g=>?_;have b:=cg g f;have ⟨a,c,e,v,r⟩:=b.2.2.1.hd
  have:=yk (P:=P) (I:=J) (w0:=w0) (o:=o) (ev:=evL (envL θ s)) ((p.get q).el _ i) j ((aK (θ:=θ) f).trans e)
  grind
 ·rename_i E top u w t n l m i f;refine mU h rfl fun J θ g=>?_;have b:=cg g f;have ⟨a,c,e,v,r⟩:=b.2.2.1.hd
  have:=yk (P:=P) (I:=J) (w0:=w0) (o:=o) (ev:=evL (envL θ s)) ((p.get q).el _ i) j ((aK (θ:=θ) f).trans e)
  grind
 grind
theorem Fj (z:TTok P tt) {T:TypeId} {i:Operand} (K:o.op= .indexAddr T x i) (h:Ky tt s k T x i=some res):Oks P w0 s o k res:=by
 have ⟨d,R,h⟩:=bind_some h;have ⟨E',L,h⟩:=bind_some h;have ⟨e,E,h⟩:=bind_some h;have ⟨b,F,h⟩:=bind_some h;have ⟨m,h⟩:=ak h;have m:=ax m;have ⟨c,S,h⟩:=bind_some h;have ⟨u,M,h⟩:=bind_some h;have ⟨N,U⟩:=cG M;have ⟨a,H,h⟩:=bind_some h;have ⟨B,Q,t⟩:=CO (P:=P) (w0:=w0) F;obtain ⟨hp,-⟩:=cO B;refine ⟨_,h,sk hp,a7 rfl,fun J θ n=>OpT.weak (fact:=(· =pt (hv θ b.h) ((b.l+c).toNat*b.r.t.size+0))) (gv:=fun _=>[toCh P θ (b.r.ent b.h)]) (fun w C A=>?_) (fun u v=>?_) (fun u v=>rfl)⟩
 ·have O:=t n rfl A;have r:=(z.get R).el _ L;have p:=(z.get E).ti;rcases O with ⟨-,q,V,e2,e3⟩ | ⟨g,f,X,Z,G,q,q1,q2,q3,q4,W,q6⟩
  ·omega
  ·have l:pt (hv θ b.h) ((b.l+c).toNat*b.r.t.size+0)= .pointer (some ⟨g,f+b.l.toNat*b.k+c.toNat*e.n,none⟩):=by
    rw[G];show Value.pointer (some ⟨g,f+((b.l+c).toNat*b.r.t.size+0),none⟩)=_;rw[show (b.l+c).toNat=b.l.toNat+c.toNat from by omega,<-Q,m,Nat.add_mul];congr 3;omega
   rw[l];have D:c<((b.m.toNat - b.l.toNat:Nat):Int):=by omega
   have:OpT P J w0 o (evL (envL θ s)) [] (· = .pointer (some ⟨g,f+b.l.toNat*b.k+c.toNat*e.n,none⟩)) (fun _=>[]):=by
    refine bz fun w=>?_;simp[execOp,K,q,wK S θ,Instr.indexAt,asIntOf,run_underlying r,p.run_size,N,D,Result.andThen,Addr.add_mid]
   exact this w (toCh P θ (b.r.ent b.h)::C) A
 ·have j:=nL n hp;refine ⟨⟨be j.1,H,(yq B j.2.1).newer (Res.newer (sk hp) (a7 rfl J θ n)) (Nat.le_succ _)⟩,?_,fun g I=>by cases I⟩;rw[v];show pt (hv (upd θ s.nxt _) b.h) _=pt (hv θ b.h) _;rw[show hv (upd θ s.nxt _) b.h=hv θ b.h from bh Same.upd j.1]
theorem Mm {h:Hdr} {r:Row} {xs:List r.t.den} {av:AV} {fact:Th->Value->Prop} (j:rowOf h s.chs=some r) (c: ∀J θ,Fine P w0 J θ s->OpT P J w0 o (evL (envL θ s)) [toCh P θ (r.ent h)] (fact θ) (fun _=>[Ch.own (aA r.E r.t.rep) [hv θ h] xs]))
  (d: ∀J θ u,Fine P w0 J θ s->fact θ u->h.id<s.nxt->av.ok P w0 J (upd θ s.nxt u) (s.nxt+1) ((h,s.nxt,.own (.sl r.E r.t) xs)::r.rest)/\av.v (upd θ s.nxt u)=u):Good P w0 s o ⟨[],[r.ent h],r.rest,[(h,.own (.sl r.E r.t) xs)],av⟩:=by
 obtain ⟨hp,-⟩:=cO j;refine ⟨Gy hp,a7 rfl,fun J θ b=>OpT.weak (c J θ b) (fun u e=>?_) (fun u e=>?_)⟩
 ·have a:=nL b hp;have ⟨l,i⟩:=d J θ u b e a.1;refine ⟨l,i,fun g f=>?_⟩;cases aq f;exact ⟨be a.1,aJ _,trivial⟩
 ·have a:=nL b hp;show [Ch.own _ [hv θ h] xs] = [Ch.own _ [hv (upd θ s.nxt u) h] xs];rw[show hv (upd θ s.nxt u) h=hv θ h from bh Same.upd a.1]
  rfl
theorem UG (hT:TTok P tt) {T:TypeId} (ho:o.op= .call { callee:=.builtin .append,args:= #[x,y],argTypes:= #[T,T] }) (h:abB tt s k T x y=some res):Oks P w0 s o k res:=by
 have ⟨d,hd,h⟩:=bind_some h;have ⟨E,hE,h⟩:=bind_some h;have ⟨e,he,h⟩:=bind_some h;have ⟨U,X,h⟩:=bind_some h;have ⟨b,hb,h⟩:=bind_some h;have ⟨c,M,h⟩:=bind_some h;have ⟨hn,h⟩:=ak h;simp only[aj] at hn;have ⟨⟨⟨S,F⟩,B⟩,n4⟩:=hn;have S:=ax S;have F:=Hdr.beq_eq F;have B:=ax B;have ⟨u,hc,h⟩:=bind_some h;have ⟨c1,c2,c3,c4⟩:=cG hc;have ⟨hr,hk,N⟩:=CO (P:=P) (w0:=w0) hb;have ⟨i,hk2,j⟩:=CO (P:=P) (w0:=w0) M;have H:c.r=b.r:=by
  rw[F] at i;exact ad (i.symm.trans hr)
 have hk3:c.k=b.k:=by grind
 have O:=hT.get hd;have Z:=hT.get he;have ⟨z,Q,hz2,hz3⟩:=Z.zero U X;have n:P.underlying T=some (.slice b.r.E):=(O.el E hE).trans (by rw[B]);refine ⟨_,h,Mm (fact:=fun θ v=>Vw v (hv θ b.h) b.k b.r.xs.length 0 (b.m+(c.m - c.l))) hr (fun J θ L=>fun w C V=>?_) (fun J θ u L hu A=>⟨⟨aJ _,be A,?_,by omega⟩,fE⟩)⟩
 ·have h1:=N L rfl V;have h2:Vw (evL (envL θ s) y) (hv θ b.h) b.k b.r.xs.length c.l c.m:=by
   have:=j L rfl (xs:=c.r.xs) (by rw[H,F];exact V)
   grind
  have m:St J w0 w (Ch.own (aA b.r.E b.r.t.rep) [hv θ b.h] b.r.xs::C):=V;rcases h1 with ⟨G,q,e1,e2,e3⟩ | ⟨g,K,cp,x',G,q,q1,q2,q3,q4,q5,q6⟩
  ·rcases h2 with ⟨a,p,f1,f2,f3⟩ | ⟨g2,t,W,y',a,p,-⟩
   ·have l:=List.eq_nil_of_length_eq_zero e1;have D:(Builtin.append_ #[T,T] o.type #[.slice none 0 0,.slice none 0 0]).run P w= .ok (.slice none 0 0) w:=by
     obtain ⟨info,r,-,-,-⟩:=info_parts Q;rw[<-B] at r;exact fK n r (ay _)
    rw[eS ho q p D];refine ⟨.inl ⟨G,rfl,e1,rfl,by omega⟩,?_⟩;grind[A1]
   grind
  ·rcases h2 with ⟨a,p,f1,f2,f3⟩ | ⟨g2,t,W,y',a,p,p1,p2,p3,p4,p5,p6⟩
   ·grind
   ·rw[G] at a;simp[Value.slice.injEq,Option.some.injEq,Addr.mk.injEq,and_true,true_and] at a;obtain ⟨⟨rfl,rfl⟩,rfl⟩:=a;have f:b.l.toNat=0:=by omega
    have l:x'=0:=by rw[f,Nat.zero_mul] at q5;omega
    subst l;rw[f,Nat.sub_zero,Nat.sub_zero,Nat.add_zero] at q;rw[G] at m⊢
    have:=GM (P:=P) (I:=J) (w0:=w0) (o:=o) (xs:=b.r.xs) (ev:=evL (envL θ s)) (Ty.sh_ok n4) (Ty.cpy n4) n (by rw[B];omega) (by grind[Ty.size_pos]) (b.r.t.rep_size.trans (hk.symm.trans S.symm)) ho q p (fun A=>?_) (by omega) (by omega) (by omega) w C (by simpa using m)
    ·refine this.imp fun v w' R=>⟨?_,R.2⟩
     refine .inr ⟨g,K,cp,0,rfl,?_,by omega,by omega,q3,by omega,Nat.zero_le _,.inr (by simp)⟩;grind
    grind
 grind[fE,hv,upd,bh,Same.upd]
theorem Od (K:TTok P tt) {T:TypeId} (H:o.op= .call { callee:=.builtin .clear,args:= #[x],argTypes:= #[T] }) (h:QR tt s k T x=some res):Oks P w0 s o k res:=by
 have ⟨d,X,h⟩:=bind_some h;have ⟨E,Q,h⟩:=bind_some h;have ⟨e,N,h⟩:=bind_some h;have ⟨m,A,h⟩:=bind_some h;have ⟨b,O,h⟩:=bind_some h;have ⟨B,h⟩:=ak h;simp only[aj] at B;have ⟨⟨l,i⟩,F⟩:=B;have l:=ax l;have i:=ax i;have ⟨z,hz,h⟩:=bind_some h;have ⟨u,U,h⟩:=bind_some h;have ⟨c3,c4⟩:=cG U;have ⟨Z,W,v⟩:=CO (P:=P) (w0:=w0) O;have j:=K.get X;have f:=K.get N;have ⟨M,R,n,hz3⟩:=f.zero m A;have p:M.cells.size=e.n:=by rw[n,List.size_toArray,BZ,f.sz]
 have c:P.underlying T=some (.slice b.r.E):=(j.el E Q).trans (by rw[i]);have t: ∀J,b.r.t.rep.rd J M.cells.toList z:=fun J=>by
  grind[UE]
 refine ⟨_,h,Mm (fact:=fun _ _=>True) Z (fun J θ D=>fun w C L=>?_) (fun J θ u D hu r=>⟨aJ _,fE⟩)⟩;have V:=v D rfl L;have a:St J w0 w (Ch.own (aA b.r.E b.r.t.rep) [hv θ b.h] b.r.xs::C):=L;rcases V with ⟨G,q,e1,e2,e3⟩ | ⟨g,S,cp,x',G,q,q1,q2,q3,q4,q5,q6⟩
 ·rw[rE H q (uI w T b.r.E o.type c _ _)];refine ⟨trivial,?_⟩;grind[tk]
 ·rw[G] at a⊢;exact II (P:=P) (I:=J) (w0:=w0) (o:=o) (ev:=evL (envL θ s)) (Ty.sh_ok F) (Ty.cpy F) c (by rw[i];omega) (by grind[Ty.size_pos]) (b.r.t.rep_size.trans (W.symm.trans l.symm)) p (t J) H q (fun r=>by
   grind) (by omega) (by omega) w C a
end
theorem UH {α:Type} {E:TypeId} {R:Rep α} {I:Hp} {w0 w:World} {C:List Ch} {u v:Value} {xs:List α} {l m:Int} {k:Nat} (h:St I w0 w (Ch.own (aA E R) [v] xs::C)) (B:R.size=k) (hv:Vw u v k xs.length l m) (hm:m<=(xs.length:Int)):St I w0 w (Ch.own (aA E R) [u] ((xs.take m.toNat).drop l.toNat)::C):=by
 obtain ⟨P,A,F,⟨G,K,rfl,n,e⟩,H,y⟩:=h;have ⟨hl,n⟩:=n;rcases hv with ⟨rfl,rfl,Q,rfl,rfl⟩ | ⟨g,a,cap,x,rfl,rfl,q1,q2,q3,q4,q5,s⟩
 ·have X:=List.eq_nil_of_length_eq_zero Q;subst X;exact ⟨P,A,G++K,⟨G,K,rfl,⟨Nat.zero_le _,n⟩,e⟩,H,y⟩
 ·rcases n with ⟨f,rfl,rfl⟩ | ⟨g',L,M,cur,K1,f,W,k2,k3,Z,rfl,J⟩
  ·grind
  ·simp[List.cons.injEq,Value.slice.injEq,Option.some.injEq,Addr.mk.injEq,and_true,true_and] at f;obtain ⟨⟨rfl,rfl⟩,rfl⟩:=f;rw[B] at Z;have hlm:l.toNat<=m.toNat:=by omega
   have N:((xs.take m.toNat).drop l.toNat).length=m.toNat - l.toNat:=by rw[bq,az];omega
   have Y:xs=(xs.take m.toNat).take l.toNat++((xs.take m.toNat).drop l.toNat++xs.drop m.toNat):=by grind[aH,List.take_append_drop]
   rw[Y] at J;obtain ⟨c1,U,i,G2,V,O,rfl,-,p1⟩:=J.cut2;obtain ⟨d,j,rfl,z,-⟩:=p1.parts;have hp:((g::(i++(d++j)))++K).Perm (((g::d)++K)++(i++j)):=by
    show (g::((i++(d++j))++K)).Perm (g::((d++K)++(i++j)));refine List.Perm.cons g ?_;rw[aH,aH,aH];refine (List.perm_append_comm_assoc i d _).trans (List.Perm.append_left d ?_);refine (List.perm_append_comm_assoc i j K).trans ?_;rw[<-aH];refine List.perm_append_comm.trans ?_;exact List.Perm.append_left K List.perm_append_comm
   have q:((xs.take m.toNat).take l.toNat).length=l.toNat:=by rw[az,az];omega
   rw[q,B] at O;have S:cur.toList.drop (a+l.toNat*k)=U:=by
    rw[<-List.drop_drop,V];exact List.drop_left' O
   have p: ∀c,OwnEls R I w c ((xs.take m.toNat).drop l.toNat) d->St I w0 w (Ch.own (aA E R) [.slice (some ⟨g,a+x,none⟩) (m.toNat - l.toNat) (cap - l.toNat)] ((xs.take m.toNat).drop l.toNat)::C)\/c≠cur.toList.drop (a+x):=fun c hc=>by
    by_cases t:c=cur.toList.drop (a+x)
    ·subst t;have m1:l.toNat*k+(cap - l.toNat)*k=cap*k:=by rw[<-Nat.add_mul];congr 1;omega
     refine .inl ⟨P,A,(g::d)++K,⟨g::d,K,rfl,⟨by omega,.inr ⟨g,a+x,cap - l.toNat,cur,d,by grind,W,by omega,by omega,by grind,rfl,hc⟩⟩,e⟩,(List.nodup_append.1 (hp.nodup_iff.1 H)).1,fun b T=>y b (hp.mem_iff.2 (bj _ T))⟩
    grind
   rcases s with s | s
   ·have D:(xs.take m.toNat).drop l.toNat= []:=List.eq_nil_of_length_eq_zero (by omega);have o:d= []:=by rw[D] at z;exact z
    rcases p (cur.toList.drop (a+x)) (by rw[D,o];rfl) with r | r
    ·exact r
    grind
   grind
def rF (u:Hdr):List (Nat×Nat×AV)->List (Nat×Nat×AV)
 | [] =>[]
 | (t,ver,.xv top u' h k n l m)::es=>(match Hdr.beq u' u with | true=>(t,ver,.one (.own u')) | false=>(t,ver,.xv top u' h k n l m))::rF u es
 | (t,ver,.vw u' h k n l m)::es=>(match Hdr.beq u' u with | true=>(t,ver,.one (.own u)) | false=>(t,ver,.vw u' h k n l m))::rF u es
 | e::es=>e::rF u es
def UI {Y:Type} (s:Sg) (v:AV) (kk:Sg->Option Y):Option Y:=match v with
 | .xv _ u _ _ _ _ _=>kk ⟨rF u s.env,s.chs,s.nxt+1⟩
 | .vw u h k n l m=>match rowOf h s.chs with
  | some r=>cz (Nat.beq k r.t.size) (kk ⟨rF u s.env,(u,s.nxt,.own (.sl r.E r.t) ((r.xs.take m.toNat).drop l.toNat))::r.rest,s.nxt+1⟩)
  | none=>kk s
 | _=>kk s
def UJ {Y:Type} :List AV->Sg->(Sg->Option Y)->Option Y
 | [],s,kk=>kk s
 | v::vs,s,kk=>UI s v fun s=>UJ vs s kk
section
variable {P:Program} {I J:Hp} {w0 w:World} {F:Ch} {n:Nat} {θ:Th} {s:Sg} {a:Act}
theorem GQ {u:Hdr} {N:Nat} {chs:List Ent} : ∀ {l:List (Nat×Nat×AV)},(∀e∈l,e.2.2.ok P w0 J θ N chs)->(∀e∈rF u l,e.2.2.ok P w0 J θ N chs/\ ∃g∈l,g.2.1=e.2.1)/\((rF u l).map fun e=>(e.1,e.2.2.v θ))=(l.map fun e=>(e.1,e.2.2.v θ))/\((l.Pairwise fun a b=>a.2.1≠b.2.1)->(rF u l).Pairwise fun a b=>a.2.1≠b.2.1)
 | [],h=>⟨fun e o=>(by cases o),rfl,fun _=>List.Pairwise.nil⟩
 | e::es,h=>by
  have ⟨B,K,O⟩:=GQ (u:=u) (l:=es) fun e o=>h e (br _ o);have k:=h e (List.mem_cons_self ..);have fin: ∀f,f.1=e.1->f.2.1=e.2.1->f.2.2.ok P w0 J θ N chs->f.2.2.v θ=e.2.2.v θ->(∀q∈f::rF u es,q.2.2.ok P w0 J θ N chs/\ ∃g∈e::es,g.2.1=q.2.1)/\((f::rF u es).map fun e=>(e.1,e.2.2.v θ))=((e::es).map fun e=>(e.1,e.2.2.v θ))/\(((e::es).Pairwise fun a b=>a.2.1≠b.2.1)->(f::rF u es).Pairwise fun a b=>a.2.1≠b.2.1):=fun f H D M L=>by
   refine ⟨fun q j=>?_,?_,fun hp=>?_⟩
   ·rcases aB j with rfl | j
    ·exact ⟨M,e,List.mem_cons_self ..,D.symm⟩
    ·have ⟨C,g,A,p⟩:=B q j;exact ⟨C,g,br _ A,p⟩
   ·rw[List.map_cons,List.map_cons,K,H,L]
   ·have ⟨Q,E⟩:=List.pairwise_cons.1 hp;refine List.pairwise_cons.2 ⟨fun q j=>?_,O E⟩;have ⟨C,g,A,p⟩:=B q j;rw[D,<-p];exact Q g A
  obtain ⟨t,c,G⟩:=e;cases G with
  | vw d v m x y z =>
   cases i:Hdr.beq d u with
   | true =>
    have:=Hdr.beq_eq i
    subst this;have r:rF d ((t,c,.vw d v m x y z)::es)=(t,c,.one (.own d))::rF d es:=by simp[rF,i]
    rw[r];exact fin (t,c,.one (.own d)) rfl rfl ⟨k.1,k.2.2.1.one⟩ rfl
   | false =>
    grind[rF]
  | xv top d v m x y z =>
   cases i:Hdr.beq d u with
   | true =>
    have:=Hdr.beq_eq i
    subst this;have r:rF d ((t,c,.xv top d v m x y z)::es)=(t,c,.one (.own d))::rF d es:=by simp[rF,i]
    rw[r];exact fin (t,c,.one (.own d)) rfl rfl ⟨k.1,k.2.2.1.one⟩ rfl
   | false =>
    grind[rF]
  | _=>exact fin _ rfl rfl k rfl
theorem UK {Y:Type} {D:Sg->Option Y} {y:Y} {v:AV} (h:UI s v D=some y) (z:v.ok P w0 J θ s.nxt s.chs) (b:Sim P I w0 F n J θ s a w): ∃s',D s'=some y/\Sim P I w0 F n J θ s' a w/\Newer s.nxt s.chs s'.chs/\s.nxt<=s'.nxt:=by
 have base:Sim P I w0 F n J θ s a w/\Newer s.nxt s.chs s.chs/\s.nxt<=s.nxt:=⟨b,Newer.rfl,ay _⟩;unfold UI at h;split at h
 ·rename_i top u H k N l m;have ⟨p,t,C⟩:=GQ (u:=u) (P:=P) (w0:=w0) (J:=J) (θ:=θ) (N:=s.nxt) (chs:=s.chs) b.fine.env;refine ⟨_,h,⟨b.le,?_,b.st,fun e d=>AV.ok_same Same.rfl (Nat.le_succ _) Newer.rfl (p e d).1 Hp.le.rfl,fun e d=>?_,C b.fine.nd,fun e d=>iy Same.rfl (Nat.le_succ _) Newer.rfl (b.fine.chs e d) Hp.le.rfl,b.fine.lay⟩,Newer.rfl,Nat.le_succ _⟩
  ·show Agr n a ((rF u s.env).map _);rw[t];exact b.agr
  ·obtain ⟨-,q,x,A⟩:=p e d;rw[<-A];exact be (b.fine.ver q x)
 ·rename_i u H k N l m;have i:=z;split at h
  ·rename_i r K;have ⟨B,h⟩:=ak h;have B:=ax B;obtain ⟨hp,-⟩:=cO K;have ⟨p,t,C⟩:=GQ (u:=u) (P:=P) (w0:=w0) (J:=J) (θ:=θ) (N:=s.nxt) (chs:=s.chs) b.fine.env;have j:=b.st.perm ((hp.map (toCh P θ)).append_right [F]);have G:=QQ j i.2.2.1;subst G;have o:=UH j (r.t.rep_size.trans B.symm) i.2.2.1 i.2.2.2;have g:Newer s.nxt s.chs ((u,s.nxt,.own (.sl r.E r.t) ((r.xs.take m.toNat).drop l.toNat))::r.rest):=fun e d L E c f=>by
    rcases aB d with rfl | d
    ·obtain ⟨rfl,f⟩:=f;rcases f with ⟨rfl,rfl⟩ | f
     ·grind
     ·exact f.elim
    grind
   refine ⟨_,h,⟨b.le,?_,o,fun e d=>AV.ok_same Same.rfl (Nat.le_succ _) g (p e d).1 Hp.le.rfl,fun e d=>?_,C b.fine.nd,fun e d=>?_,b.fine.lay⟩,g,Nat.le_succ _⟩
   ·show Agr n a ((rF u s.env).map _);rw[t];exact b.agr
   ·obtain ⟨-,q,x,A⟩:=p e d;rw[<-A];exact be (b.fine.ver q x)
   ·rcases aB d with rfl | d
    ·exact ⟨be i.1,aJ _,trivial⟩
    ·exact iy Same.rfl (Nat.le_succ _) g (b.fine.chs e (hp.mem_iff.2 (br _ d))) Hp.le.rfl
  grind
 grind
theorem Mn {Y:Type} {c:Sg->Option Y} {y:Y} : ∀ {vs:List AV} {s:Sg},UJ vs s c=some y->(∀v∈vs,v.ok P w0 J θ s.nxt s.chs)->Sim P I w0 F n J θ s a w-> ∃b,c b=some y/\Sim P I w0 F n J θ b a w/\s.nxt<=b.nxt
 | [],s,h,_,hS=>⟨s,h,hS,ay _⟩
 | v::vs,s,h,hv',hS=>by
  have ⟨j,e,d,g,f⟩:=UK (show UI s v (fun s=>UJ vs s c)=some y from h) (hv' v (List.mem_cons_self ..)) hS;have ⟨b,k,l,m⟩:=Mn (vs:=vs) e (fun x i=>AV.ok_same Same.rfl f g (hv' x (br _ i)) Hp.le.rfl) d;grind
end
end R
namespace D
open Go.RowKit
section
variable {P:Program} {I J:Hp} {w0 w w':World} {cs C:List Ch} {o:Oper} {ev:Operand->Value}
end
end D
namespace R
open Go.RowKit
open D
section
variable {tt:TT} {s:Sg} {P:Program} {I J:Hp} {w0 w:World} {F:Ch} {n:Nat} {θ:Th} {a:Act} {o:Oper}
end
section
variable {Y:Type} (tt:TT) (s:Sg) (k:Res->Option Y)
end
section
variable {Y:Type} {tt:TT} {s:Sg} {k:Res->Option Y} {P:Program} {w0:World} {o:Oper} {res:Y} {x y:Operand}
end
structure PartA where
 h:Hdr
 ver:Nat
 E:TypeId
 t:Ty
 xs:List t.den
 lo:Nat
 hi:Nat
def UL:AV->Option PartA
 | .sub h ver E t xs l=>some ⟨h,ver,E,t,xs,l.toNat,xs.length⟩
 | .pre h ver E t xs l=>some ⟨h,ver,E,t,xs,0,l.toNat⟩
 | _=>none
section
variable {Y:Type} (tt:TT) (s:Sg) (k:Res->Option Y)
def adl (E:TypeId) (b:Nat) (t:Ty) (xs:List t.den) (nsx rest:List Ent) (q:PartA):Option Y:=
 (rowOf q.h rest).bind fun r=>cz (Nat.beq r.ver q.ver&&(t.sh&&t.dp)) ((qV (.sl r.E r.t) (.sl E t) r.xs).bind fun ys=>(bC b xs ((ys.take q.hi).drop q.lo)).bind fun zs=>k ⟨[r.ent q.h],nsx,r.rest,[(⟨s.nxt,[]⟩,.own (.sl E t) zs)],.one (.own ⟨s.nxt,[]⟩)⟩)
def Za (T:TypeId) (x y:Operand):Option Y:=(td tt T).bind fun d=>d.el.bind fun E=>(td tt E).bind fun e=>e.bytes.bind fun b=>(opd s y).bind fun yv=>(UL yv).bind fun q=>match opd s x with
 | some (.one (.own h))=>(rowOf h s.chs).bind fun r=>cz (Nat.beq r.E E&&Nat.beq r.t.size e.n) (adl s k r.E b r.t r.xs [r.ent h] r.rest q)
 | some (.one (.val v))=>cz (isNil v&&Nat.beq q.t.size e.n) (adl s k E b q.t [] [] s.chs q)
 | _=>none
end
section
variable {Y:Type} {tt:TT} {an:List (Nat×Ty)} {s:Sg} {k:Res->Option Y} {P:Program} {w0:World} {o:Oper} {res:Y} {x y:Operand}
theorem UM {J:Hp} {θ:Th} {n:Nat} {chs:List Ent} {v:AV} {q:PartA} (h:UL v=some q) (a:v.ok P w0 J θ n chs):v.v θ=tQ (hv θ q.h) q.lo q.hi q.t.size/\q.lo<=q.hi/\q.hi<=q.xs.length/\q.h.id<n/\Mem chs n q.h q.ver (.own (.sl q.E q.t) q.xs):=by
 unfold UL at h;split at h
 ·rename_i g d E t e l;obtain rfl:=ad h;obtain ⟨b,f,c⟩:=a;exact ⟨rfl,by show l.toNat<=e.length;omega,ay _,b,c⟩
 ·rename_i g d E t e l;obtain rfl:=ad h;obtain ⟨b,f,c⟩:=a;exact ⟨rfl,Nat.zero_le _,by show l.toNat<=e.length;omega,b,c⟩
 ·cases h
theorem IJ {I:Hp} {ev:Operand->Value} {α:Type} {E T:TypeId} {R:Rep α} {z:Value} {n b:Nat} {x y:Operand} {s u:Value} {xs ys zs:List α} {lo hi:Nat} (h:bC b xs ((ys.take hi).drop lo)=some zs) (h1:lo<=hi) (f:hi<=ys.length) (r:R.Dp) (q:Cpy R R) (l:P.underlying T=some (.slice E)) (p:TZ P E z n b) (d:z.cells.size=n) (g:0<n) (c:R.size=n) (e:1<=b) (i:o.op= .call { callee:=.builtin .append,args:= #[x,y],argTypes:= #[T,T] }) (j:ev x=s) (t:ev y=tQ u lo hi n) :
  OpT P I w0 o ev [Ch.own (aA E R) [s] xs,Ch.own (aA E R) [u] ys] (fun _=>True) (fun v=>[Ch.own (aA E R) [v] zs,Ch.own (aA E R) [u] ys]):=by
 intro w C m;have key:=yx (P:=P) (I:=I) (w0:=w0) (o:=o) (ev:=ev) (ls:=[Ch.own (aA E R) [u] ys]) (rn:=[Ch.own (aA E R) [s] xs]) (fact:=fun _=>True) (gv:=fun v=>[Ch.own (aA E R) [v] zs]) (fun v=>⟨Cq (Gi r),trivial⟩) (fun B A a _=>xp h q c (LR (a _ _ _ (List.mem_singleton.2 rfl)) h1 f c) l p d g c e i j t) w C (m.perm ((List.Perm.swap _ _ _).append_right C));exact key.imp fun v w hv=>⟨hv.1,hv.2.perm ((List.Perm.swap _ _ _).append_right C)⟩
theorem UN {q:PartA} {nsx rest:List Ent} {r:Row} {J:Hp} {θ:Th} {n:Nat} (hp:s.chs.Perm (nsx++rest)) (c:rowOf q.h rest=some r) (hv:r.ver=q.ver) (b:Mem s.chs n q.h q.ver (.own (.sl q.E q.t) q.xs)):Chk.own (.sl r.E r.t) r.xs=Chk.own (.sl q.E q.t) q.xs:=by
 obtain ⟨a,-⟩:=cO c;exact b.2 (r.ent q.h) (hp.mem_iff.2 (bt _ (a.mem_iff.2 (by simp)))) _ ⟨rfl,.inl ⟨hv,rfl⟩⟩
theorem QS {T E:TypeId} {z:Value} {n b:Nat} {t:Ty} {xs:List t.den} {nsx rest:List Ent} {q:PartA} {K:AV} (hq:UL K=some q) (hp:s.chs.Perm (nsx++rest)) (hT:P.underlying T=some (.slice E)) (hE:TZ P E z n b) (w:z.cells.size=n) (W:0<n) (M:t.size=n) (D:1<=b) (ho:o.op= .call { callee:=.builtin .append,args:= #[x,y],argTypes:= #[T,T] }) (N:opd s y=some K)
  (l: ∀J θ,Fine P w0 J θ s-> ∃v,evL (envL θ s) x=v/\ ∀(rn:List Ch) (fact:Value->Prop) (G:Value->List Ch),OpT P J w0 o (evL (envL θ s)) (Ch.own (aA E t.rep) [v] xs::rn) fact G->OpT P J w0 o (evL (envL θ s)) (nsx.map (toCh P θ)++rn) fact G)
  (h:adl s k E b t xs nsx rest q=some res):Oks P w0 s o k res:=by
 unfold adl at h;obtain ⟨r,O,h⟩:=bind_some h;obtain ⟨H,h⟩:=ak h;rw[aj,aj] at H;obtain ⟨e,m,u⟩:=H;have e:=ax e;obtain ⟨A,g,h⟩:=bind_some h;obtain ⟨zs,c,h⟩:=bind_some h;obtain ⟨C,-⟩:=cO O;have p:=Fa (h:=q.h) g;refine ⟨_,h,good_row (hp.trans ((C.append_left nsx).trans List.perm_middle)) fun J θ F=>?_⟩;obtain ⟨v,i,l⟩:=l J θ F;obtain ⟨p1,S,X,-,U⟩:=UM hq (cg F N);have d:=UN (J:=J) (θ:=θ) hp O e U;have a:r.ent q.h=(q.h,r.ver,.own (.sl q.E q.t) q.xs):=by
  show (q.h,r.ver,Chk.own (.sl r.E r.t) r.xs)=_;rw[d]
 rw[p] at a;have f:Chk.own (.sl E t) A=Chk.own (.sl q.E q.t) q.xs:=(Prod.mk.inj (Prod.mk.inj a).2).2;have j:q.t.size=n/\q.xs.length=A.length:=by
  clear i l h g c a p d;obtain ⟨qh,L,qE,qt,B,Q,V⟩:=q;simp only at f;have Z:Ty.sl E t=Ty.sl qE qt:=(Chk.own.inj f).1;obtain ⟨rfl,rfl⟩:=Ty.sl.inj Z;have e2:A=B:=eq_of_heq (Chk.own.inj f).2;exact ⟨M,by rw[e2]⟩
 rw[p]
 have:=IJ (P:=P) (I:=J) (w0:=w0) (R:=t.rep) c S (by rw[<-j.2];exact X) (Ty.dp_ok u) (Ty.cpy m) hT hE w W (t.rep_size.trans M) D ho i ((aK (θ:=θ) N).trans (by rw[p1,j.1]))
 exact OpT.permN (List.perm_append_comm (l₁:=[_])) (l _ _ _ this)
theorem UO (u:TTok P tt) {T:TypeId} (t:o.op= .call { callee:=.builtin .append,args:= #[x,y],argTypes:= #[T,T] }) (h:Za tt s k T x y=some res):Oks P w0 s o k res:=by
 obtain ⟨d,H,h⟩:=bind_some h;obtain ⟨E,w,h⟩:=bind_some h;obtain ⟨e,D,h⟩:=bind_some h;obtain ⟨b,F,h⟩:=bind_some h;obtain ⟨L,B,h⟩:=bind_some h;obtain ⟨q,A,h⟩:=bind_some h;have g:=u.get H;have l:=u.get D;obtain ⟨z,i,p,m⟩:=l.zero b F;have j:z.cells.size=e.n:=by rw[p,List.size_toArray,BZ,l.sz]
 split at h
 ·rename_i I n;obtain ⟨r,K,h⟩:=bind_some h;obtain ⟨f,h⟩:=ak h;rw[aj] at f;have c:=ax f.1;have a:=ax f.2;obtain ⟨hp,-⟩:=cO K;exact QS (nsx:=[r.ent I]) A hp ((g.el E w).trans (by rw[c])) (by rw[c];exact i) j (by rw[<-a];exact Ty.size_pos _) a m t B (fun J θ C=>⟨_,aK n,fun rn fact G h=>h⟩) h
 ·rename_i v n;obtain ⟨f,h⟩:=ak h;rw[aj] at f;have c:=pB f.1;have a:=ax f.2;refine QS (nsx:=[]) A (List.Perm.refl _) (g.el E w) i j (by rw[<-a];exact Ty.size_pos _) a m t B (fun J θ C=>⟨_,aK n,fun rn fact G h=>?_⟩) h;rw[show (AV.one (LV.val v)).v θ= .slice none 0 0 from c] at h;exact OpT.nilrow h
 ·cases h
end
structure HRow where
 E:TypeId
 t:Ty
 xs:List t.den
 n:Nat
def abC:Hol->Option HRow
 | ⟨_,_,.sl E t,d,.sl _ _,_,f,_,_,_,_,_⟩=>some ⟨E,t,d,List.length (α:=t.den) (f ([] :List _))⟩
 | _=>none
section
variable {Y:Type} (tt:TT) (s:Sg) (k:Res->Option Y)
def QU (T:TypeId) (x i:Operand):Option Y:=(td tt T).bind fun d=>match d.el,opd s x,opd s i with
 | some E,some (.one (.own h)),some (.one (.val (.int .i64 i)))=>(Kj h s.chs).bind fun r=>(abC r).bind fun q=>(td tt E).bind fun e=>cz (Nat.beq e.n q.t.size&&Ev h r.rest) ((aO q.xs i).bind fun a=>(chk (i<(q.n:Int))).bind fun _=>k ⟨[r.ent h],[],r.rest,[],.elo h r.over q.E q.t q.xs a i 0⟩)
 | _,_,_=>none
end
section
variable {Y:Type} {tt:TT} {s:Sg} {k:Res->Option Y} {P:Program} {w0:World} {o:Oper} {res:Y} {x:Operand}
theorem abD {I:Hp} {α β:Type} {E E':TypeId} {R:Rep α} {S:Rep β} {v c:Value} {f:List β->List α} {b off:Nat} {w:World} {K:List Nat} (h:(Ch.gap (aA E R) [v] (aA E' S) f b off c).holds I w K):Hd v (f []).length:=by
 obtain ⟨q,⟨cur,p,m,l⟩,r,g⟩:=h;obtain ⟨F,-,i⟩:=g I (w.setCell ⟨b,off,none⟩ (.slice none 0 0)) (.slice none 0 0) [] [] Hp.le.rfl (fun x n a=>by
  simp only[World.setCell];rw[Array.getElem?_modify,if_neg (fun e=>a e.symm)]) (fun d t j=>by
  simp only[World.setCell];rw[Array.getElem?_modify,if_pos rfl,j];rfl) ⟨by simp,.inl ⟨rfl,rfl,rfl⟩⟩
 exact Hd.of_own i
theorem Oe (V:TTok P tt) {T:TypeId} {i:Operand} (ho:o.op= .indexAddr T x i) (h:QU tt s k T x i=some res):Oks P w0 s o k res:=by
 obtain ⟨d,hd,h⟩:=bind_some h;split at h
 ·rename_i E b j he hx hi;obtain ⟨r,hr,h⟩:=bind_some h;obtain ⟨q,L,h⟩:=bind_some h;obtain ⟨e,hE,h⟩:=bind_some h;obtain ⟨l,h⟩:=ak h;obtain ⟨a,A,h⟩:=bind_some h;obtain ⟨u0,z,h⟩:=bind_some h;have z:=cG z;rw[aj] at l;obtain ⟨l,N⟩:=l;have l:=ax l;have hp:=B1 hr;obtain ⟨X,f,t0,d1,u1,y1,n,i1,k1,v,B,O⟩:=r;cases t0 with
  | sl Z m =>
   cases u1 with
   | sl E2 y =>
    obtain rfl:=ad (show some _=some q from L);refine ⟨_,h,sk hp,a7 rfl,fun J θ S=>OpT.weak (fact:=(· =pt (hv θ b) (j.toNat*m.size+0))) (gv:=fun _=>[toCh P θ (Hol.ent _ b)]) (fun w C W=>?_) (fun u U=>?_) (fun u U=>rfl)⟩
    ·have H:St J w0 w (Ch.gap (aA Z m.rep) [hv θ b] (aA E2 y.rep) n (ptB (hv θ b)) (ptO (hv θ b)+(i1.toNat*k1+v)) (B.v θ)::C):=W;have hD:Hd (hv θ b) (n ([] :List y.den)).length:=by
      obtain ⟨-,-,F,t,-,-⟩:=H;obtain ⟨G,K,-,D,-⟩:=t;exact abD D
     have M:inI (α:=m.den) (n ([] :List y.den)) j:=⟨(Gf A).1,by
      have:=(Gf A).1
      have z:j<((List.length (α:=m.den) (n ([] :List y.den)):Nat):Int):=z;show j.toNat<List.length (α:=m.den) (n ([] :List y.den));omega⟩
     have:=uz (I:=J) (w0:=w0) (P:=P) (o:=o) hD ((V.get hd).el _ he) (V.get hE).ti ho (aK hx) (aK hi) M
     rw[l] at this;exact this w _ W
    ·have R:=nL S hp;obtain ⟨q1,q2,q3,q4,q5,q6⟩:=R;have hm:Mem s.chs s.nxt b f (.own (.sl Z m) d1):=⟨Nat.lt_trans q4 q2,fun e' c c' p=>by
      rcases aB (hp.mem_iff.1 c) with rfl | c
      ·rcases p.2 with ⟨Q,-⟩ | ⟨-,Q⟩
       ·exact absurd Q (Nat.ne_of_gt q4)
       ·exact Q
      ·exact absurd p.1 (qW N c)⟩
     refine ⟨⟨be q1,A,hm.newer (Res.newer (sk hp) (a7 rfl J θ S)) (Nat.le_succ _)⟩,?_,fun g D=>by cases D⟩;rw[U];show pt (hv (upd θ s.nxt _) b) _=pt (hv θ b) _;rw[show hv (upd θ s.nxt _) b=hv θ b from bh Same.upd q1]
   | _=>cases L
  | _=>cases L
 ·cases h
end
end R
namespace D
open Go.RowKit
def lF (a b:ByteArray):Option ByteArray:=(chk (a.size+b.size<=9223372036854775807)).bind fun _=>some (a++b)
def lD (s:ByteArray) (i:Int):Option Int:=(chk (0<=i/\i<(s.size:Int))).bind fun _=>some ((s.data.toList.getD i.toNat 0).toNat:Int)
def qT (s:ByteArray) (l h:Int):Option ByteArray:=(chk (0<=l/\l<=h/\h<=(s.size:Int))).bind fun _=>some (s.extract l.toNat h.toNat)
def A3 (l:List Int):ByteArray:=l.foldl (fun r n=>r.push (UInt8.ofNat n.toNat)) ByteArray.empty
section
variable {P:Program} {I:Hp} {w0:World} {o:Oper} {ev:Operand->Value} {x y:Operand}
theorem Zb {t u:TypeId} {m n:ByteArray} (h:m.size+n.size<=9223372036854775807) (a:o.op= .binOp .add t x y u) (b:ev x= .string m) (c:ev y= .string n):OpT P I w0 o ev [] (· = .string (m++n)) (fun _=>[]):=
 bz fun w=>by simp[execOp,a,b,c,eqGuard,binOp_string_add,run_string_add_sum w m n h,Result.andThen]
theorem QV {T:TypeId} {m:ByteArray} {k:IntKind} {i:Int} (hT:P.underlying T=some .string) (h:0<=i/\i<(m.size:Int)) (ho:o.op= .index T x y) (hx:ev x= .string m) (hy:ev y= .int k i):OpT P I w0 o ev [] (· = .int .u8 ((m.data.toList.getD i.toNat 0).toNat:Int)) (fun _=>[]):=
 bz fun w=>by
  have h2:i.toNat<m.size:=by omega
  have e:m.data.toList.getD i.toNat 0=m[i.toNat]'h2:=by
   have h3:i.toNat<m.data.toList.length:=by simpa using h2
   rw[List.getD_eq_getElem?_getD,List.getElem?_eq_getElem h3]
   simp[ByteArray.getElem_eq_getElem_data]
  have:=run_index_string (P:=P) (w:=w) T m k i hT
  rw[dif_pos h] at this
  rw[e]
  simp[execOp,ho,hx,hy,this,Result.andThen]
def Zc (ev:Operand->Value) (d:Int):Option Operand->Int->Prop
 | none,n=>n=d
 | some z,n=> ∃k,ev z= .int k n
theorem QW {T:TypeId} {m:ByteArray} {lo hi:Option Operand} {l h:Int} (f:P.underlying T=some .string) (d:0<=l/\l<=h/\h<=(m.size:Int)) (g:o.op= .slice T x lo hi none) (i:ev x= .string m)
  (q:Zc ev 0 lo l) (n:Zc ev (m.size:Int) hi h):OpT P I w0 o ev [] (· = .string (m.extract l.toNat h.toNat)) (fun _=>[]):=
 bz fun w=>by
  have c: ∀a b,(Instr.sliceAt T (.string m) a b none).run P w=(Instr.slice T (.string m) a b none).run P w:=fun a b=>by
   simp[Instr.sliceAt,run_underlying f]
  cases lo with
  | none =>
   obtain rfl:l=0:=q;cases hi with
   | none =>
    obtain rfl:h=(m.size:Int):=n;simp[execOp,g,i,c,run_slice_string_all,f,Result.andThen]
   | some b =>
    obtain ⟨k,e⟩:=n;simp[execOp,g,i,e,c,run_slice_string_h (t:=T) (s:=m) (P:=P) (w:=w) f k h d.2.1 d.2.2,Result.andThen]
  | some a =>
   obtain ⟨j,p⟩:=q;cases hi with
   | none =>
    obtain rfl:h=(m.size:Int):=n;simp[execOp,g,i,p,c,run_slice_string_l (t:=T) (s:=m) (P:=P) (w:=w) f j l d.1 d.2.1,Result.andThen]
   | some b =>
    obtain ⟨k,e⟩:=n
    have:=run_slice_string_if (P:=P) (w:=w) T m j k l h f
    rw[if_pos ⟨by omega,d.2.2⟩,if_pos ⟨d.1,d.2.1⟩] at this;simp[execOp,g,i,p,e,c,this,Result.andThen]
theorem CP {S D E E':TypeId} {h1: ∀a:Int,(Value.int .u8 a).oneCell'=true} {v:Value} {xs:List Int} (l:P.underlying S=some (.slice E)) (k:P.underlying E=some (.int .u8)) (i:P.underlying D=some .string) (m:(aA E' (mT Int (.int .u8) h1)).rd I [v] xs) (j:o.op= .convert S D x) (f:ev x=v):OpT P I w0 o ev [] (· = .string (A3 xs)) (fun _=>[]):=by
 intro w C h;obtain ⟨e,cap,rfl,b⟩:=Src.of_rd h m;have c:(execOp ev o).run P w= .ok (.value (.string (A3 xs))) w:=by
  have g:(convert S D (.slice e (xs.map (Value.int .u8)).length cap)).run P w= .ok (.string (A3 xs)) w:=by
   rw[run_convert_bytes_string w S D E e _ cap l k i];rcases b with b | ⟨a,rfl,b⟩
   ·have d:xs= []:=by simpa using b
    subst d;cases e with
    | none=>rfl
    | some a=>exact run_bytesToString w a _ cap [] (run_loadCells_list (P:=P) w a [] (by simp))
   ·rw[List.length_map];exact run_bytesToString w a _ cap xs (by
     have:=run_loadCells_list (P:=P) w a (xs.map (Value.int .u8)) b
     rwa [List.length_map] at this)
  simp only[List.length_map] at g f;simp[execOp,j,f,g,Result.andThen]
 rw[c];exact ⟨rfl,h⟩
end
end D
namespace R
open Go.RowKit
open D
section
variable {Y:Type} (tt:TT) (s:Sg) (k:Res->Option Y)
def Zd (b:BinOp) (t:TypeId) (x y:Operand):Option Y:=match b,opd s x,opd s y with
 | .add,some (.one (.val (.string m))),some (.one (.val (.string n)))=>(lF m n).bind fun r=>kv s k (.string r)
 | _,_,_=>adh tt s k b t x y
def abE (T:TypeId) (x i:Operand):Option Y:=(td tt T).bind fun d=>d.ik.bind fun k1=>match k1,opd s x,opd s i with
 | none,some (.one (.val (.string m))),some (.one (.val (.int j n)))=>(lD m n).bind fun r=>kv s k (.int .u8 r)
 | _,_,_=>none
def adm (d:Int):Option Operand->Option Int
 | none=>some d
 | some y=>match opd s y with
  | some (.one (.val (.int _ n)))=>some n
  | _=>none
def QX (T:TypeId) (x:Operand) (lo hi:Option Operand):Option Y:=(td tt T).bind fun d=>d.ik.bind fun k1=>match k1,opd s x with
 | none,some (.one (.val (.string m)))=>(adm s 0 lo).bind fun l=>(adm s (m.size:Int) hi).bind fun h=>(qT m l h).bind fun r=>kv s k (.string r)
 | _,_=>none
def W7 (S D:TypeId) (x:Operand):Option Y:=(td tt S).bind fun a=>(td tt D).bind fun b=>a.el.bind fun E=>(td tt E).bind fun e=>e.ik.bind fun k1=>b.ik.bind fun k2=>match k1,k2,opd s x with
 | some .u8,none,some (.one (.own h))=>(rowOf h s.chs).bind fun r=>(oK (.sl r.E r.t) (.sl r.E (.int .u8)) r.xs).bind fun xs=>k ⟨[r.ent h],[],r.rest,[],.one (.val (.string (A3 xs)))⟩
 | some .u8,none,some (.one (.rd _ t d))=>(oK t (.sl E (.int .u8)) d).bind fun xs=>kv s k (.string (A3 xs))
 | some .u8,none,some (.one (.val (.slice none 0 0)))=>kv s k (.string ByteArray.empty)
 | _,_,_=>none
end
section
variable {Y:Type} {tt:TT} {s:Sg} {k:Res->Option Y} {P:Program} {w0:World} {o:Oper} {res:Y} {x y:Operand}
theorem UP (e:TTok P tt) {b:BinOp} {t u:TypeId} (c:o.op= .binOp b t x y u) (h:Zd tt s k b t x y=some res):Oks P w0 s o k res:=by
 unfold Zd at h;split at h
 ·rename_i m n d f;obtain ⟨r,a,h⟩:=bind_some h;obtain ⟨i,g,a⟩:=bind_some a;obtain rfl:=ad a;exact mU h rfl fun J θ j=>Zb (cG g) c (aK d) (aK f)
 ·exact PL e c h
theorem UQ (g:TTok P tt) {T:TypeId} {i:Operand} (e:o.op= .index T x i) (h:abE tt s k T x i=some res):Oks P w0 s o k res:=by
 obtain ⟨d,q,c⟩:=bind_some h;obtain ⟨v,p,a⟩:=bind_some c;clear h c;split at a
 ·rename_i m j n f t;obtain ⟨r,b,h⟩:=bind_some a;obtain ⟨w,l,b⟩:=bind_some b;obtain rfl:=ad b;exact mU h rfl fun J θ u=>QV ((g.get q).ik _ p) (cG l) e (aK f) (aK t)
 ·cases a
theorem QY {d n:Int} {θ:Th} {lo:Option Operand} (h:adm s d lo=some n):Zc (evL (envL θ s)) d lo n:=by
 cases lo with
 | none=>exact (ad h).symm
 | some z =>
  simp only[adm] at h;split at h
  ·rename_i j m a;obtain rfl:=ad h;exact ⟨j,aK a⟩
  ·cases h
theorem Of (j:TTok P tt) {T:TypeId} {lo hi:Option Operand} (g:o.op= .slice T x lo hi none) (h:QX tt s k T x lo hi=some res):Oks P w0 s o k res:=by
 obtain ⟨d,u,c⟩:=bind_some h;obtain ⟨z,q,a⟩:=bind_some c;clear h c;split at a
 ·rename_i m i;obtain ⟨l,v,n⟩:=bind_some a;obtain ⟨e,f,t⟩:=bind_some n;obtain ⟨r,b,h⟩:=bind_some t;obtain ⟨A,p,b⟩:=bind_some b;obtain rfl:=ad b;exact mU h rfl fun J θ w=>QW ((j.get u).ik _ q) (cG p) g (aK i) (QY v) (QY f)
 ·cases a
theorem QZ (p:TTok P tt) {S D:TypeId} (n:o.op= .convert S D x) (h:W7 tt s k S D x=some res):Oks P w0 s o k res:=by
 obtain ⟨a,M,A⟩:=bind_some h;obtain ⟨b,K,C⟩:=bind_some A;obtain ⟨E,O,F⟩:=bind_some C;obtain ⟨e,L,G⟩:=bind_some F;obtain ⟨V,h1,z⟩:=bind_some G;obtain ⟨W,I,i⟩:=bind_some z;clear h A C F G z;have q:=(p.get M).el _ O;have l:=(p.get K).ik _ I;have w:=(p.get L).ik _ h1;split at i
 ·rename_i H f;obtain ⟨r,U,v⟩:=bind_some i;obtain ⟨xs,c,Q⟩:=bind_some v;obtain ⟨hp,-⟩:=cO U;refine ⟨_,Q,sk hp,a7 rfl,fun J θ m=>OpT.weak (yx (ls:=[Ch.own (Ty.sl r.E r.t).rep [hv θ H] r.xs]) (rn:=[]) (gv:=fun _=>[]) (fun _=>trivial) fun Z X j R=>?_) (fact:=(· = .string (A3 xs))) (fun u B=>?_) (fun u B=>rfl)⟩
  ·have T:=jF c (j _ _ _ (List.mem_singleton_self _));exact CP q w l T n (aK f)
  ·subst B;exact ⟨Eq.refl true,rfl,fun g N=>by cases N⟩
 ·rename_i H t d f;obtain ⟨xs,c,v⟩:=bind_some i;exact mU v rfl fun J θ m=>CP q w l (jF c (cg m f).2) n (aK f)
 ·rename_i f;exact mU i rfl fun J θ m=>CP (E':=0) (xs:=[]) (h1:=fun _=>rfl) q w l ⟨none,0,rfl,⟨by simp,by simp⟩,.inl rfl⟩ n (aK f)
 ·cases i
end
section
variable {Y:Type} (s:Sg) (k:Res->Option Y)
end
section
variable {Y:Type} {s:Sg} {k:Res->Option Y} {P:Program} {w0:World} {o:Oper} {res:Y} {x y:Operand}
theorem UR {J:Hp} {θ:Th} {n:Nat} {chs:List Ent} {h:Hdr} {ver T:Nat} {cells:List LV} (h1:h.id<n) (b:ver<n) (a: ∀x∈cells,x.ok P w0 J θ n):okE P w0 J θ n chs (h,ver,.blk T cells):=⟨h1,b,a⟩
end
def W8 (h:Hdr) (s:Sg):Option Sg:=(pull h s.chs).bind fun r=>match r.1.2.2 with
 | .own (.sl E (.bag t)) xs=>some ⟨s.env,(h,s.nxt,.own (.sl E (.fro (.fro (.fro t)))) xs)::r.2,s.nxt+1⟩
 | _=>none
def Ah (h:Hdr) (s:Sg):Sg:=match W8 h s with
 | some s'=>s'
 | none=>s
def Og (o:Oper) (s:Sg):Sg:=match o.op with
 | .indexAddr _ x _=>match opd s x with
  | some (.one (.own h))=>Ah h s
  | _=>s
 | _=>s
def afB:Chk->Bool
 | .own (.sl _ (.fro (.fro (.fro _)))) _=>true
 | _=>false
def Kz (n:Nat) (e:Ent):Ent:=match e.2.2 with
 | .own (.sl E (.fro (.fro (.fro t)))) xs=>(e.1,n,.own (.sl E (.bag t)) xs)
 | _=>e
def US (s:Sg):Sg:=match s.chs.any fun e=>afB e.2.2 with
 | true=>⟨s.env,s.chs.map (Kz s.nxt),s.nxt+1⟩
 | false=>s
def aaT (s:Sg):Sg:=US (tj s)
section
variable {P:Program} {I J:Hp} {w0 w:World} {F:Ch} {n:Nat} {θ:Th} {s s':Sg} {a:Act} {h:Hdr}
theorem IK (hs:W8 h s=some s') (j:Sim P I w0 F n J θ s a w): ∃o,J.le o/\Sim P I w0 F n o θ s' a w/\Fr s θ s' θ:=by
 obtain ⟨r,hr,hs⟩:=bind_some hs;obtain ⟨p,k⟩:=hY hr;obtain ⟨⟨q,N,c⟩,rest⟩:=r;obtain rfl:q=h:=k;cases c with
 | own v d =>
  cases v with
  | sl E v =>
   cases v with
   | bag t =>
    obtain rfl:=ad (show some _=some s' from hs);have C:=j.fine.chs _ (p.mem_iff.2 (List.mem_cons_self ..));have A:St J w0 w (Ch.own (aA E (Pc t.rep)) [hv θ q] d::(rest.map (toCh P θ)++ [F])):=j.st.perm ((p.map (toCh P θ)).append_right [F]);obtain ⟨o,m,u⟩:=A.freeze_els;have l: ∀e,e∈rest->e∈s.chs:=fun e b=>p.mem_iff.2 (br _ b);have i:Newer s.nxt s.chs ((q,s.nxt,Chk.own (.sl E (.fro (.fro (.fro t)))) d)::rest):=fun e b h' H c f=>by
     rcases aB b with rfl | b
     ·obtain ⟨rfl,f⟩:=f;rcases f with ⟨A,-⟩ | f
      ·exact .inl (Nat.le_of_eq A)
      ·exact f.elim
     ·exact .inr ⟨e,l e b,f⟩
    refine ⟨o,m,⟨j.le.trans m,j.agr,?_,fun e b=>AV.ok_same Same.rfl (Nat.le_succ _) i (j.fine.env e b) m,fun e b=>be (j.fine.ver e b),j.fine.nd,fun e b=>?_,j.fine.lay.mono m⟩,Nat.le_succ _,Same.rfl,fun e b _=>b,i⟩
    ·show St o w0 w (Ch.own (aA E (Bx (Bx (Bx t.rep)))) [hv θ q] d::(rest.map (toCh P θ)++ [F]));obtain ⟨U,X,F0,⟨G,K,rfl,⟨Z,B⟩,e3⟩,M,b5⟩:=u;refine ⟨U,X,G++K,⟨G,K,rfl,⟨Z,?_⟩,e3⟩,M,b5⟩;rcases B with B | ⟨g,y,cap,cur,Y,z,O,Q,W,T,L,V⟩
     ·exact .inl B
     ·exact .inr ⟨g,y,cap,cur,Y,z,O,Q,W,T,L,OwnEls.turn (R:=Bx t.rep) (S:=Bx (Bx (Bx t.rep))) rfl (fun c x G D=>⟨D.1,D.2⟩) V⟩
    ·rcases aB b with rfl | b
     ·exact ⟨be C.1,aJ _,trivial⟩
     ·exact iy Same.rfl (Nat.le_succ _) i (j.fine.chs e (l e b)) m
   | _=>cases hs
  | _=>cases hs
 | _=>cases hs
theorem UT {o:Oper} (b:Sim P I w0 F n J θ s a w): ∃J',J.le J'/\Sim P I w0 F n J' θ (Og o s) a w/\Fr s θ (Og o s) θ:=by
 unfold Og;split
 ·split
  ·unfold Ah;split
   ·exact IK ‹_› b
   ·exact ⟨J,Hp.le.rfl,b,Fr.rfl⟩
  ·exact ⟨J,Hp.le.rfl,b,Fr.rfl⟩
 ·exact ⟨J,Hp.le.rfl,b,Fr.rfl⟩
theorem Mo {f g:Ent->Ch} {C:List Ch} : ∀ {l:List Ent} {K:List Nat},(∀e∈l,∀F,(f e).holds J w F->(g e).holds J w F)->Sep J (l.map f++C) w K->Sep J (l.map g++C) w K
 | [],K,_,h=>h
 | e::l,_,hh,⟨G,K',e1,h1,h2⟩=>⟨G,K',e1,hh e (by simp) G h1,Mo (fun e b=>hh e (by simp[b])) h2⟩
theorem Oh {n:Nat} {e:Ent} {h:Hdr} {ver:Nat} {c:Chk} (k:Says (Kz n e) h ver c):ver=n\/Says e h ver c:=by
 unfold Kz at k;split at k
 ·obtain ⟨rfl,k⟩:=k;rcases k with ⟨b,-⟩ | k
  ·exact .inl b.symm
  ·exact k.elim
 ·exact .inr k
theorem UU (f:Sim P I w0 F n J θ s a w):Sim P I w0 F n J θ (US s) a w/\Fr s θ (US s) θ:=by
 unfold US;split
 ·have b:Newer s.nxt s.chs (s.chs.map (Kz s.nxt)):=fun e d h i c k=>by
   obtain ⟨j,o,rfl⟩:=List.mem_map.1 d;rcases Oh k with rfl | k
   ·exact .inl (ay _)
   ·exact .inr ⟨j,o,k⟩
  refine ⟨⟨f.le,f.agr,?_,fun e d=>AV.ok_same Same.rfl (Nat.le_succ _) b (f.fine.env e d) Hp.le.rfl,fun e d=>be (f.fine.ver e d),f.fine.nd,fun e d=>?_,f.fine.lay⟩,Nat.le_succ _,Same.rfl,fun e d _=>d,b⟩
  ·obtain ⟨Q,B,K,T,H,A⟩:=f.st;refine ⟨Q,B,K,?_,H,A⟩;rw[List.map_map];refine Mo (fun e d G y=>?_) T;show (toCh P θ (Kz s.nxt e)).holds J w G;obtain ⟨p,i,c⟩:=e;unfold Kz;split
   ·rename_i E t u N;obtain rfl:c= .own (.sl E (.fro (.fro (.fro t)))) u:=N;obtain ⟨V,q⟩:=(show (aA E (Bx (Bx (Bx t.rep)))).own J w [hv θ p] u G from y);refine (show (aA E (Pc t.rep)).own J w [hv θ p] u G from ⟨V,?_⟩);rcases q with q | ⟨g,l,cap,cur,U,m,C,D,O,L,z,M⟩
    ·exact .inl q
    ·exact .inr ⟨g,l,cap,cur,U,m,C,D,O,L,z,OwnEls.turn (R:=Bx (Bx (Bx t.rep))) (S:=Pc t.rep) rfl (fun c x G v=>by rw[v.1];exact WJ v.2) M⟩
   ·exact y
  ·obtain ⟨j,o,rfl⟩:=List.mem_map.1 d;have r:=f.fine.chs j o
   have:=iy Same.rfl (Nat.le_succ _) b r (J':=J) Hp.le.rfl
   obtain ⟨p,i,c⟩:=j;unfold Kz;split
   ·exact ⟨this.1,aJ _,trivial⟩
   ·exact this
 ·exact ⟨f,Fr.rfl⟩
theorem Q0 (e:Sim P I w0 F n J θ s a w): ∃θ',Sim P I w0 F n J θ' (aaT s) a w/\Fr s θ (aaT s) θ':=by
 obtain ⟨θ',c,f⟩:=B2 e;obtain ⟨b,d⟩:=UU c;exact ⟨θ',b,f.trans d⟩
end
section
variable {Y:Type} (ft:FT) (s:Sg) (k:Res->Option Y)
def Q1 (ns:List Int):List LV:=ns.map fun n=>.val (.int .i64 n)
def ae0 (T:Nat) (g:FuncId) (x:Operand):Option Y:=(fs ft g).bind fun f=>(opd s x).bind fun v=>(iD ft s s.chs f.ps [v]).bind fun a=>cz (a.lent.isEmpty&&a.own.isEmpty) <|
 (appP f.ps f.m a.d).bind fun r=>(YP (f.rs++outs f.ps) (toH _ r)).bind fun ns=>match opd s x with
 | some (.one lv)=>k ⟨[],[],s.chs,[(⟨s.nxt,[]⟩,.blk T (lv::Q1 ns))],.one (.ptr ⟨s.nxt,[]⟩ 0)⟩
 | _=>none
end
section
variable {Y:Type} {ft:FT} {s:Sg} {k:Res->Option Y} {P:Program} {w0:World} {o:Oper} {res:Y} {x:Operand}
theorem UV {J:Hp} {θ:Th} {n:Nat} {ns:List Int} : ∀z∈Q1 ns,z.ok P w0 J θ n:=fun z a=>by
 obtain ⟨m,b,rfl⟩:=List.mem_map.1 a;exact Eq.refl true
theorem Ze {θ:Th} {ns:List Int} :(Q1 ns).map (·.v θ)=ns.map (Value.int .i64):=by
 unfold Q1;rw[List.map_map];rfl
theorem Zf {T:Nat} {g:FuncId} (H:FTok P ft) (C: ∀f,fs ft g=some f->NewOk P g T f) {ts:Array TypeId} (G:o.op= .call { callee:=.value (.func g),args:= #[x],argTypes:=ts }) (h:ae0 ft s k T g x=some res):Oks P w0 s o k res:=by
 obtain ⟨f,j,h⟩:=bind_some h;obtain ⟨M,i,h⟩:=bind_some h;obtain ⟨a,E,h⟩:=bind_some h;obtain ⟨w,h⟩:=ak h;rw[aj] at w;have l:a.lent= []:=List.isEmpty_iff.1 w.1;have I:a.own= []:=List.isEmpty_iff.1 w.2;obtain ⟨r,O,h⟩:=bind_some h;obtain ⟨u,A,h⟩:=bind_some h;split at h
 ·rename_i c q;refine ⟨_,h,by simp,a7 rfl,fun J θ m=>?_⟩;have p:c.ok P w0 J θ s.nxt:=cg m q;obtain rfl:M= .one c:=ad (i.symm.trans q);obtain ⟨B,-,-⟩:=kh (J':=J) H m Hp.le.rfl E (fun y N=>by obtain rfl:=aq N;exact p) (fun e D=>D) (by rw[l];exact fun h K=>by cases K) (ghV θ a.gh) Ff;have n:evL (envL θ s) x=c.v θ:=aK (θ:=θ) q;have B:PArgs P w0 J (ghV θ a.gh) f.ps [c.v θ] a.d:=B;have L:(#[] :Array Value).toList++(#[x] :Array Operand).toList.map (evL (envL θ s))++(#[] :Array Value).toList=([c.v θ] :List Value).toArray.toList:=by
   simp only[List.map_cons,List.map_nil,List.nil_append,List.append_nil,n]
  refine OpT.weak (ta (C f j).1 G rfl L ((C f j).2 w0 J (ghV θ a.gh) [c.v θ] a.d r u m.lay B O A)) (fun v d=>?_) (fun v d=>?_)
  ·obtain ⟨b,rfl⟩:=d;refine ⟨aJ _,by show Value.pointer (some ⟨bk (hv _ ⟨s.nxt,[]⟩),0,none⟩)=_;rw[fE];rfl,fun g F=>?_⟩;obtain rfl:=aq F;refine UR (aJ _) (aJ _) fun z t=>?_;rcases aB t with rfl | t
   ·exact LV.ok_same Same.upd (Nat.le_succ _) p Hp.le.rfl
   ·exact UV z t
  ·show [Ch.blk (bk v) ([c.v θ] ++u.map (Value.int .i64)) T] = [Ch.blk (bk (hv (upd θ s.nxt v) ⟨s.nxt,[]⟩)) ((c::Q1 u).map (·.v (upd θ s.nxt v))) T];rw[fE,List.map_cons,Ze,LV.v_same Same.upd p];rfl
 ·cases h
end
structure Mp where
 ver:Nat
 md:MD
 m:List (md.k.den×md.e.den)
 rest:List Ent
def MD.ck (d:MD) (m:List (d.k.den×d.e.den)):Chk:=.map d.K d.E d.k d.e m
def adn (h:Hdr) (chs:List Ent):Option Mp:=(pull h chs).bind fun r=>match r.1.2.2 with
 | .map K E k e m=>some ⟨r.1.2.1,⟨K,E,k,e⟩,m,r.2⟩
 | _=>none
def Mp.ent (r:Mp) (h:Hdr):Ent:=(h,r.ver,r.md.ck r.m)
theorem KA {h:Hdr} {chs:List Ent} {r:Mp} (e:adn h chs=some r):chs.Perm (r.ent h::r.rest):=by
 obtain ⟨q,d,e⟩:=bind_some e;obtain ⟨p,k⟩:=hY d;obtain ⟨⟨a,b,c⟩,rest⟩:=q;obtain rfl:a=h:=k;cases c with
 | map K E k f m =>
  obtain rfl:=ad (show some _=some r from e);exact p
 | _=>cases e
def MK.beq:MK->MK->Bool
 | .int,.int=>true
 | .ii,.ii=>true
 | _,_=>false
def ME.beq:ME->ME->Bool
 | .int,.int=>true
 | .bool,.bool=>true
 | _,_=>false
def MD.beq (a b:MD):Bool:=Nat.beq a.K b.K&&Nat.beq a.E b.E&&MK.beq a.k b.k&&ME.beq a.e b.e
theorem MD.beq_eq {a b:MD} (h:MD.beq a b=true):a=b:=by
 obtain ⟨K,E,k,e⟩:=a;obtain ⟨l,m,c,d⟩:=b;unfold MD.beq at h;simp only[aj] at h;obtain ⟨⟨⟨f,i⟩,g⟩,j⟩:=h;obtain rfl:K=l:=ax f;obtain rfl:E=m:=ax i;obtain rfl:k=c:=by cases k <;> cases c <;> first | rfl | cases g
 obtain rfl:e=d:=by cases e <;> cases d <;> first | rfl | cases j
 rfl
def UW:(k:MK)->AV->Option k.den
 | .int,.one (.val (.int .i64 n))=>some n
 | .ii,.agg [.val (.int .i64 a),.val (.int .i64 b)] =>some (a,b)
 | _,_=>none
theorem GR {k:MK} {v:AV} {d:k.den} (h:UW k v=some d) (θ:Th):v.v θ=k.val d:=by
 unfold UW at h;split at h
 ·rw[<-ad h];rfl
 ·rw[<-ad h];rfl
 ·cases h
def Zg:(e:ME)->AV->Option e.den
 | .int,.one (.val (.int .i64 n))=>some n
 | .bool,.one (.val (.bool b))=>some b
 | .bool,.one (.nb b)=>some (!b)
 | _,_=>none
theorem UX {e:ME} {v:AV} {d:e.den} (h:Zg e v=some d) (θ:Th):v.v θ=e.val d:=by
 unfold Zg at h;split at h
 ·rw[<-ad h];rfl
 ·rw[<-ad h];rfl
 ·rw[<-ad h];rfl
 ·cases h
theorem ME.val_one (e:ME) (d:e.den):(e.val d).oneCell'=true:=by cases e <;> rfl
section
variable {Y:Type} (tt:TT) (s:Sg) (k:Res->Option Y)
def ae1 (T:TypeId):Option Y:=(td tt T).bind fun d=>d.mp.bind fun md=>k ⟨[],[],s.chs,[(⟨s.nxt,[]⟩,md.ck [])],.one (.own ⟨s.nxt,[]⟩)⟩
def Zh (T:TypeId) (m x y:Operand):Option Y:=(td tt T).bind fun d=>d.mp.bind fun md=>match opd s m with
 | some (.one (.own h))=>(adn h s.chs).bind fun r=>cz (MD.beq md r.md) ((opd s x).bind fun kv=>(UW r.md.k kv).bind fun q=>(opd s y).bind fun ev=>(Zg r.md.e ev).bind fun i =>
  (@TA r.md.k.den r.md.e.den r.m r.md.k.ok r.md.e.ok q i).bind fun M=>k ⟨[],[r.ent h],r.rest,[(h,r.md.ck M)],.any ⟨s.nxt,[]⟩⟩)
 | _=>none
def W9 (T:TypeId) (m x:Operand) (two:Bool):Option Y:=(td tt T).bind fun d=>d.mp.bind fun md=>match opd s m with
 | some (.one (.own h))=>(adn h s.chs).bind fun r=>cz (MD.beq md r.md) ((opd s x).bind fun kv=>(UW r.md.k kv).bind fun q =>
  adg false (r.md.k.ok q=true) (instDecidableEqBool _ _) (match two with
   | true=>k ⟨[r.ent h],[],r.rest,[],.tup [(false,[.val (r.md.e.val ((@lkM r.md.k.den r.md.e.den r.md.k.dec r.m q).getD r.md.e.z))]),(false,[.val (.bool (@lkM r.md.k.den r.md.e.den r.md.k.dec r.m q).isSome)])]⟩
   | false=>k ⟨[r.ent h],[],r.rest,[],.one (.val (r.md.e.val ((@lkM r.md.k.den r.md.e.den r.md.k.dec r.m q).getD r.md.e.z)))⟩))
 | _=>none
end
section
variable {Y:Type} {tt:TT} {s:Sg} {k:Res->Option Y} {P:Program} {w0:World} {o:Oper} {res:Y} {m x y:Operand}
theorem Q2 {θ:Th} {h:Hdr} {ver:Nat} {a:MD} {M:List (a.k.den×a.e.den)} :toCh P θ (h,ver,a.ck M)= @Ch.mp P a.K a.E a.k.den a.e.den a.k.dec a.k.lit a.k.ok a.e.lit a.e.z (hv θ h) M:=rfl
theorem abF {I:Hp} {w:World} {C:List Ch} {K E:TypeId} {κ ε:Type} [DecidableEq κ] {lit:κ->Lit} {c:κ->Bool} {a:ε->Lit} {z:ε} {v:Value} {M:List (κ×ε)} (h:St I w0 w (Ch.mp P K E lit c a z v M::C)):v.oneCell'=true:=by
 obtain ⟨i,f,F,⟨G,l,rfl,⟨b,rfl,rfl,j⟩,e⟩,g,d⟩:=h
 rfl
theorem Zi (p:TTok P tt) {T:TypeId} (f:o.op= .makeMap T none) (h:ae1 tt s k T=some res):Oks P w0 s o k res:=by
 obtain ⟨d,q,h⟩:=bind_some h;obtain ⟨a,l,h⟩:=bind_some h;refine ⟨_,h,by simp,a7 rfl,fun J θ n=>?_⟩;have j:= @J8 P J w0 o (evL (envL θ s)) a.k.den a.e.den a.k.dec a.k.lit a.k.ok a.e.lit a.e.z T a.K a.E f;intro w C i;refine (j w C i).imp fun v c hv=>?_;have b:=letI:=a.k.dec;abF hv.2;refine ⟨⟨⟨aJ _,by rw[fE];exact b⟩,fE,fun g e=>?_⟩,?_⟩
 ·obtain rfl:=aq e;exact ⟨aJ _,aJ _,trivial⟩
 ·show St J w0 c ([toCh P (upd θ s.nxt v) (⟨s.nxt,[]⟩,s.nxt,a.ck [])] ++C);rw[Q2,fE];exact hv.2
theorem Mq (B:TTok P tt) {T:TypeId} (A:o.op= .mapUpdate T m x y\/o.op= .insert T m x y) (h:Zh tt s k T m x y=some res):Oks P w0 s o k res:=by
 obtain ⟨d,F,h⟩:=bind_some h;obtain ⟨I,l,h⟩:=bind_some h;split at h
 ·rename_i b w;obtain ⟨r,H,h⟩:=bind_some h;obtain ⟨p,h⟩:=ak h;obtain ⟨kv,E,h⟩:=bind_some h;obtain ⟨q,C,h⟩:=bind_some h;obtain ⟨ev,c,h⟩:=bind_some h;obtain ⟨i,G,h⟩:=bind_some h;obtain ⟨M,t,h⟩:=bind_some h;have hp:=KA H;obtain ⟨j,f,e⟩:=(B.get F).mp _ l;rw[MD.beq_eq p] at j f e;refine ⟨_,h,Gy hp,a7 rfl,fun J θ n=>?_⟩;have a:=nL n hp;have D:= @NL P J w0 o (evL (envL θ s)) r.md.k.den r.md.e.den r.md.k.dec r.md.k.lit r.md.k.val r.md.k.ok r.md.e.val r.md.e.lit r.md.e.ok r.md.e.z T r.md.K r.md.E m x y (hv θ b) q i r.m M f e j A (aK w) ((aK E).trans (GR C θ)) ((aK c).trans (UX G θ)) t;refine OpT.weak D (fun u v=>⟨aJ _,fE,fun g z=>?_⟩) (fun u v=>?_)
  ·obtain rfl:=aq z;exact ⟨be a.1,aJ _,trivial⟩
  ·show [_] = [toCh P (upd θ s.nxt u) (b,s.nxt,r.md.ck M)];rw[Q2,show hv (upd θ s.nxt u) b=hv θ b from bh Same.upd a.1]
 ·cases h
theorem Q3 (E:TTok P tt) {T:TypeId} {two:Bool} (t:o.op= .lookup T m x two) (h:W9 tt s k T m x two=some res):Oks P w0 s o k res:=by
 obtain ⟨d,F,h⟩:=bind_some h;obtain ⟨H,B,h⟩:=bind_some h;split at h
 ·rename_i A n;obtain ⟨r,G,h⟩:=bind_some h;obtain ⟨D,h⟩:=ak h;obtain ⟨kv,w,h⟩:=bind_some h;obtain ⟨q,v,h⟩:=bind_some h;obtain ⟨c,h⟩:=Kc h;have hp:=KA G;obtain ⟨j,f,e⟩:=(E.get F).mp _ B;rw[MD.beq_eq D] at j f e;cases two with
  | true =>
   refine ⟨_,h,sk hp,fun _ _ _ g a=>(by cases a),fun J θ C=>?_⟩;have i:= @J9 P J w0 o (evL (envL θ s)) r.md.k.den r.md.e.den r.md.k.dec r.md.k.lit r.md.k.val r.md.k.ok r.md.e.val r.md.e.lit r.md.e.ok r.md.e.z T r.md.K r.md.E m x (hv θ A) q r.m f e c j t (aK n) ((aK w).trans (GR v θ));refine OpT.weak i (fun u b=>⟨fun y l z p=>?_,?_,fun g a=>by cases a⟩) (fun u b=>rfl)
   ·rcases aB l with rfl | l
    ·obtain rfl:=aq p;exact ME.val_one _ _
    ·obtain rfl:=aq l;obtain rfl:=aq p;exact Eq.refl true
   ·rw[b];rfl
  | false =>
   refine ⟨_,h,sk hp,fun _ _ _ g a=>(by cases a),fun J θ C=>?_⟩;have i:= @H9 P J w0 o (evL (envL θ s)) r.md.k.den r.md.e.den r.md.k.dec r.md.k.lit r.md.k.val r.md.k.ok r.md.e.val r.md.e.lit r.md.e.ok r.md.e.z T r.md.K r.md.E m x (hv θ A) q r.m f e c j t (aK n) ((aK w).trans (GR v θ));refine OpT.weak i (fun u b=>⟨ME.val_one _ _,?_,fun g a=>by cases a⟩) (fun u b=>rfl);rw[b];rfl
 ·cases h
end
structure Env where
 tt:TT
 ft:FT
 an:List (Nat×Ty)
 n:Nat
 tr:Trs
section
variable {Y:Type} (V:Env) (s:Sg) (k:Res->Option Y)
def CQ (d:Nat):List (Nat×Ty)->Bool
 | [] =>false
 | (u,_)::l=>Nat.beq u d || CQ d l
def ad0 (d:Nat):List (Nat×Ty)->Bool
 | [] =>false
 | (u,.raw)::l=>Nat.beq u d || ad0 d l
 | _::l=>ad0 d l
def ad1 (d:Option Nat) (an:List (Nat×Ty)):Bool:=match d with
 | some d=>ad0 d an
 | none=>false
def ae2 (d:Nat):List (Nat×Ty)->Bool
 | [] =>false
 | (u,.str)::l=>Nat.beq u d || ae2 d l
 | _::l=>ae2 d l
def abG (d:Option Nat) (an:List (Nat×Ty)):Bool:=match d with
 | some d=>CQ d an
 | none=>false
def Zj (dst:Option Nat) (c:Call):Option Y:=match c.callee,c.args.toList,c.argTypes.toList with
 | .builtin .len,[x],[T] =>match opd s x with
  | some (.one (.own _))=>abn V.tt s k T x
  | some (.vw _ _ _ _ _ _)=>Y6 V.tt s k T x
  | some (.xv _ _ _ _ _ _ _)=>Y6 V.tt s k T x
  | _=>sLen V.tt s k T x
 | .builtin .append,[x,y],[T,U] =>match Nat.beq T U with
  | true=>(match opd s x with
   | some (.vw _ _ _ _ _ _)=>abB V.tt s k T x y
   | _=>(match opd s y with
    | some (.sub _ _ _ _ _ _)=>Za V.tt s k T x y
    | some (.pre _ _ _ _ _ _)=>Za V.tt s k T x y
    | _=>aeW V.tt V.an s k dst T x y))
  | false=>none
 | .builtin .clear,[x],[T] =>QR V.tt s k T x
 | .builtin .copy,[x,y],[T,_] =>abx V.tt s k T x y
 | .builtin .min,[x,y],[_,_] =>adU s k x y
 | .builtin .max,[x,y],[_,_] =>adV s k x y
 | .value (.func g),xs,_=>match (fs V.ft g).bind (·.cl) with
  | some q=>match Nat.beq q.2 7,xs with
   | true,xs=>W0 V.ft s k g xs
   | false,[x] =>(match Nat.beq q.2 9 with
    | true=>ae0 V.ft s k q.1 g x
    | false=>cz (!Nat.beq q.2 0 && !Nat.ble 1000 q.2) (Qz s k q.1 q.2 x))
   | _,_=>none
  | none=>WZ V.ft s k g xs
 | .value (.tmp t),xs,_=>Qf V.ft s k t xs
 | _,_,_=>none
def step (o:Oper):Option Y:=match o.op with
  | .move x=>YG s k x
  | .assign x=>YG s k x
  | .pick c x y=>abk s k c x y
  | .unOp .not _ x=>adN s k x
  | .unOp .neg _ x=>adO s k x
  | .binOp b t x y _=>match opd s x with
    | some (.one (.rd _ (.tree _ _ _) _))=>adW V.tt s k b t x y
    | some (.one (.ptr _ _))=>adW V.tt s k b t x y
    | some (.one (.rdn _ _ _ _))=>adk V.tt s k b t x y
    | some (.one (.own _))=>adk V.tt s k b t x y
    | some (.one (.val (.slice _ _ _)))=>adk V.tt s k b t x y
    | some (.one (.val (.string _)))=>Zd V.tt s k b t x y
    | _=>adh V.tt s k b t x y
  | .index T x i=>abE V.tt s k T x i
  | .extract x i=>Gs s k x i
  | .indexAddr T x i=>match opd s x with
    | some (.one (.own h))=>(match Kj h s.chs with
      | some _=>QU V.tt s k T x i
      | none=>PR V.tt s k T x i)
    | some (.vw _ _ _ _ _ _)=>Ky V.tt s k T x i
    | some (.xv _ _ _ _ _ _ _)=>Ky V.tt s k T x i
    | _=>PK V.tt s k T x i
  | .fieldAddr T x f=>match opd s x with
    | some (.one (.fz _ _ _ _ _))=>Qo V.tt s k T x f
    | some (.one (.rd _ (.tree _ _ _) _))=>Qt V.tt s k T x f
    | _=>WO V.tt s k T x f
  | .load T x=>match opd s x with
    | some (.elr _ _ _ _ _ _ _)=>WQ V.tt s k T x
    | some (.elo _ _ _ _ _ _ _ _)=>WU V.tt s k T x
    | some (.one (.fz _ _ _ _ _))=>Qn V.tt s k T x
    | some (.one (.fzf _ _ _ _ _))=>Qn V.tt s k T x
    | _=>WS V.tt s k T x
  | .store T x y=>match opd s x with
    | some (.elo h _ _ _ _ _ _ _)=>match Kj h s.chs with
      | some _=>P0 V.tt s k T x y
      | none=>PS V.tt s k T x y
    | _=>PQ V.tt s k T x y
  | .nilCheck x=>YZ s k x
  | .slice T x lo hi none=>match opd s x with
    | some (.vw _ _ _ _ _ _)=>GP V.tt s k T x lo hi
    | some (.xv _ _ _ _ _ _ _)=>GP V.tt s k T x lo hi
    | some (.one (.own _))=>match ad1 o.dst V.an with
     | true=>GP V.tt s k T x lo hi
     | false=>match lo with
      | some _=>match abG o.dst V.an with
        | true=>Qw V.tt s k T x lo hi
        | false=>Qx V.tt s k T x lo hi
      | none=>match abG o.dst V.an with
        | true=>Qy V.tt s k T x lo hi
        | false=>Qv V.tt s k T x lo hi
    | some (.one (.val (.string _)))=>QX V.tt s k T x lo hi
    | _=>Qu V.tt s k T x lo hi
  | .box T x=>aeT s k T x
  | .alloc T=>WR V.tt s k T
  | .build T parts=>WW V.tt s k T parts
  | .buildSlice T m parts=>aeV V.tt V.an s k o.dst T m parts
  | .makeSlice T x y=>abo V.tt V.an s k o.dst T x y
  | .call c=>Zj V s k o.dst c
  | .makeFunc f x y=>W1 s k f x y
  | .makeMap T none=>ae1 V.tt s k T
  | .convert S D x=>match opd s x with
    | some (.one (.val (.int _ _)))=>abl V.tt s k S D x
    | _=>W7 V.tt s k S D x
  | .mapUpdate T m x y=>Zh V.tt s k T m x y
  | .insert T m x y=>Zh V.tt s k T m x y
  | .lookup T m x two=>W9 V.tt s k T m x two
  | _=>none
end
section
variable {Y:Type} {V:Env} {s:Sg} {k:Res->Option Y} {P:Program} {w0:World} {o:Oper} {res:Y}
theorem ad2 {α:Type} {a:Array α} {x:α} (h:a.toList= [x]):a= #[x]:=Array.ext' h
theorem ado {α:Type} {a:Array α} {x y:α} (h:a.toList= [x,y]):a= #[x,y]:=Array.ext' h
theorem UY (w:TTok P V.tt) (d:FTok P V.ft) {c:Call} (l:o.op= .call c) (h:Zj V s k o.dst c=some res):Oks P w0 s o k res:=by
 have ⟨m,args,t⟩:=c;unfold Zj at h;split at h
 ·grind[builtin,ad2,Uc,UF,YJ]
 ·grind[builtin,ado,ax,UG,UO,YO]
 ·grind[builtin,ad2,Od]
 ·grind[builtin,ado,Uw]
 ·grind[builtin,min,ado,Y0]
 ·grind[builtin,max,ado,Y1]
 ·rename_i g v;obtain rfl:m= .value (.func g):=v;split at h
  ·rename_i q e;have ⟨f,b,e⟩:=bind_some e;split at h
   ·rename_i j;exact Ql d (fun n a=>by
     obtain rfl:f=n:=ad (b.symm.trans a);exact ((d.get b).cl q e).2.1 j) l h
   ·rename_i x u r;obtain rfl:args= #[x]:=ad2 r;split at h
    ·rename_i i;exact Zf d (fun n a=>by
      obtain rfl:f=n:=ad (b.symm.trans a);exact ((d.get b).cl q e).2.2 i) l h
    ·rename_i i;have ⟨j,p⟩:=ak h;rw[aj] at j;exact QE (((d.get b).cl q e).1.2.1 (by grind) u (by grind) i) l p
   grind
  grind[Qk]
 ·grind[Qm]
 grind
theorem Q4 (a:TTok P V.tt) (c:FTok P V.ft) (h:step V s k o=some res):Oks P w0 s o k res:=by
 unfold step at h;split at h
 ·exact LY (.inl ‹_›) h
 ·exact LY (.inr ‹_›) h
 ·exact T9 ‹_› h
 ·exact YH ‹_› h
 ·exact YI ‹_› h
 ·have b:= ‹o.op=_›;split at h
  ·exact QA a b h
  ·exact QA a b h
  ·exact Kr a b h
  ·exact Kr a b h
  ·exact Kr a b h
  ·exact UP a b h
  ·exact PL a b h
 ·exact UQ a ‹_› h
 ·exact Ke ‹_› h
 ·have b:= ‹o.op=_›;split at h
  ·split at h
   ·exact Oe a b h
   ·exact NS a b h
  ·exact Fj a b h
  ·exact Fj a b h
  ·exact NP a b h
 ·have b:= ‹o.op=_›;split at h
  ·exact N1 a b h
  ·exact N2 a b h
  ·exact PN a b h
 ·have b:= ‹o.op=_›;split at h
  ·exact PO a b h
  ·exact PX a b h
  ·exact IC a b h
  ·exact IC a b h
  ·exact PW a b h
 ·have b:= ‹o.op=_›;split at h
  ·split at h
   ·exact NW a b h
   ·exact NT a b h
  ·exact NR a b h
 ·exact Ut ‹_› h
 ·have b:= ‹o.op=_›;split at h
  ·exact Ag a b h
  ·exact Ag a b h
  ·split at h
   ·exact Ag a b h
   ·split at h
    ·split at h
     ·exact N5 a b h
     ·exact N6 a b h
    ·split at h
     ·exact N7 a b h
     ·exact N4 a b h
  ·exact Of a b h
  ·exact N3 a b h
 ·exact YK ‹_› h
 ·exact PU a ‹_› h
 ·exact PY a ‹_› h
 ·exact YN a ‹_› h
 ·exact Ue a ‹_› h
 ·exact UY a c ‹_› h
 ·exact Qp ‹_› h
 ·exact Zi a ‹_› h
 ·have b:= ‹o.op=_›;split at h
  ·exact Ua a b h
  ·exact QZ a b h
 ·exact Mq a (.inl ‹_›) h
 ·exact Mq a (.inr ‹_›) h
 ·exact Q3 a ‹_› h
 ·cases h
end
inductive Gd
 | no | skip | bad
 | yes (t:Nat) (b neg want:Bool)
def guardOf (ops:List Oper) (s:Sg) (o:Oper):Gd:=match o.guard with
 | none=>.no
 | some (g,want)=>match ops[g]? with
  | some p=>match p.dst with
   | some t=>match look s.env t with
    | some (.one (.val (.bool b)))=>.yes t b false want
    | some (.one (.nb b))=>.yes t b true want
    | some .und=>.skip
    | _=>.bad
   | none=>.bad
  | none=>.bad
def KB (s:Sg) (t:Nat) (b:Bool):Sg:=⟨(t,s.nxt,.one (.val (.bool b)))::s.env,s.chs,s.nxt+1⟩
def CR:AV->List Hdr
 | .one (.own h)=>[h]
 | .agg xs=>xs.flatMap fun x=>match x with | .own h=>[h] | _=>[]
 | .elo h _ _ _ _ _ _ _=>[h]
 | _=>[]
def yA:List Hdr->Sg->Sg
 | [],s=>s
 | h::hs,s=>yA hs (settle 4 h s)
def Fk (s:Sg):List Operand->List Hdr
 | [] =>[]
 | x::xs=>(match opd s x with | some v=>CR v | none=>[])++Fk s xs
def ad3 (o:Oper):List Operand:=match o.op with
 | .store _ _ y=>[y]
 | .build _ parts=>parts.toList.map (·.2)
 | .buildSlice _ _ parts=>parts.toList.map (·.2)
 | .call c=>c.args.toList
 | .box _ x=>[x]
 | .binOp _ _ x _ _=>[x]
 | .nilCheck x=>[x]
 | _=>[]
def ae3 (o:Bool):AV->List (Bool×Hdr)
 | .one (.own h)=>[(false,h)]
 | .one (.ptr h off)=>if o&&Nat.beq off 0 then [(true,h)] else []
 | .agg xs=>xs.flatMap fun x=>match x with | .own h=>[(false,h)] | .ptr h off=>if o&&Nat.beq off 0 then [(true,h)] else [] | _=>[]
 | _=>[]
def ad4 (s:Sg) (o:Bool):List Operand->List (Bool×Hdr)
 | [] =>[]
 | x::xs=>(match opd s x with | some v=>ae3 o v | none=>[])++ad4 s o xs
def keeps (o:Oper):Bool:=match o.op with
 | .binOp _ _ _ _ _=>false
 | .nilCheck _=>false
 | _=>true
def Q5:List LV->List (Bool×Hdr)
 | [] =>[]
 | .own h::l=>(false,h)::Q5 l
 | _::l=>Q5 l
def ldH (s:Sg) (o:Oper):List (Bool×Hdr):=match o.op with
 | .load _ x=>match opd s x with
  | some (.one (.ptr h _))=>match tf h s.chs with
   | some b=>Q5 b.cells
   | none=>[]
  | _=>[]
 | _=>[]
def Zk:Trs->Bool
 | [] =>false
 | q::l=>Nat.beq q.2.1 0 || Zk l
def ldF (tr:Trs) (s:Sg) (o:Oper):List (Bool×Hdr):=match Zk tr with
 | true=>ldH s o
 | false=>[]
def Q6:Trs->Trs
 | [] =>[]
 | q::l=>match Nat.beq q.2.1 0 with
  | true=>Q6 l
  | false=>q::Q6 l
def ad5 (s:Sg) (o:Oper):Bool:=match o.op with
 | .store _ x _=>match opd s x with
  | some (.one (.ptr _ _))=>true
  | _=>false
 | .call c=>match c.callee with
  | .value _=>false
  | .builtin .len=>false
  | _=>true
 | _=>false
def ae4 (tr:Trs) (s:Sg) (o:Oper):List (Bool×Hdr):=match Zk tr&&ad5 s o with
 | true=>[]
 | false=>ad4 s (keeps o) (ad3 o)
def Q7:Trs->Trs
 | [] =>[]
 | q::l=>match q.2.2 with
  | .str=>Q7 l
  | _=>q::Q7 l
def abH:Trs->Bool
 | [] =>false
 | q::l=>(match q.2.2 with
  | .raw=>true
  | _=>false) || abH l
def afC (tr:Trs) (s:Sg) (o:Oper):List (Bool×Hdr):=match abH tr,o.op with
 | true,.assign x=>ad4 s false [x]
 | _,_=>[]
def UZ (tr:Trs) (o:Oper) (s:Sg):Sg:=match tr with
 | [] =>s
 | _=>UA (Q7 tr) (afC tr s o++ae4 (Q7 tr) s o) s
def adp (tr:Trs) (o:Oper) (s0:Sg):Sg:=match tj s0 with
 | s=>UZ tr o (Og o (yA (Fk s o.op.operands.toList) s))
section
variable {Y:Type} (V:Env) (all:List Oper) (k:Sg->Option Y)
noncomputable def U0 (kont:Sg->Option Y) (o:Oper) (s:Sg):Option Y:=match guardOf all s o with
 | .bad=>none
 | .no=>cz (okO V.n s o) (step V s (fun r=>kont (after s o.dst r)) o)
 | .skip=>cz (dstOk V.n o.dst) (kont (skip s o.dst))
 | .yes t b neg want=>if b then (match (!neg)==want with
   | true=>cz (okO V.n (KB s t (!neg)) o) (step V (KB s t (!neg)) (fun r=>kont (after (KB s t (!neg)) o.dst r)) o)
   | false=>cz (dstOk V.n o.dst) (kont (skip (KB s t (!neg)) o.dst)))
  else (match neg==want with
   | true=>cz (okO V.n (KB s t neg) o) (step V (KB s t neg) (fun r=>kont (after (KB s t neg) o.dst r)) o)
   | false=>cz (dstOk V.n o.dst) (kont (skip (KB s t neg) o.dst)))
noncomputable def Mr:List Oper->Sg->Option Y
 | [],s=>k s
 | o::os,s=>U0 V all (Mr os) o (adp V.tr o s)
end
section
variable {Y:Type} {V:Env} {P:Program} {I:Hp} {w0 w:World} {F:Ch} {J:Hp} {θ:Th} {s:Sg} {a:Act} {res:Y} {Q:Exit->Act->World->Prop}
theorem Oi {h:Hdr} {g:Sg} (hs:Kk h s=some g) (t:Sim P I w0 F V.n J θ s a w):Fr s θ g θ:=by
 have ⟨r,o,hs⟩:=bind_some hs;have ⟨q,n,hs⟩:=bind_some hs;have hp:=B1 o;have ⟨l,j,u,m,p⟩:=Im n;cases i:q.1 with
 | true =>
  rw[i] at hs;cases ad (show some _=some g from hs);refine ⟨Nat.le_succ _,Same.rfl,fun e d _=>d,fun e d k f c b=>?_⟩;rcases aB d with rfl | d
  ·obtain ⟨rfl,b⟩:=b;rcases b with ⟨rfl,rfl⟩ | b
   ·exact .inr ⟨r.ent h,hp.mem_iff.2 (by simp),rfl,.inr ⟨rfl,rfl⟩⟩
   ·exact b.elim
  grind
 | false =>
  rw[i] at hs;cases ad (show some _=some g from hs);refine ⟨Nat.le_succ _,Same.rfl,fun e d _=>d,fun e d k f c b=>?_⟩;rcases aB d with rfl | d
  ·obtain ⟨rfl,b⟩:=b;rcases b with ⟨rfl,rfl⟩ | b
   ·grind
   ·exact b.elim
  grind
theorem IL: ∀ {m:Nat} {h:Hdr} {s:Sg},Sim P I w0 F V.n J θ s a w->Fr s θ (settle m h s) θ
 | 0,_,_,hS=>Fr.rfl
 | m+1,h,s,hS=>by
  unfold settle;split
  ·split
   ·split
    ·rename_i b;exact (IL hS).trans (Oi b (CC hS))
    ·exact Fr.rfl
   ·exact Fr.rfl
  ·exact Fr.rfl
theorem vN: ∀ {hs:List Hdr} {s:Sg},Sim P I w0 F V.n J θ s a w->Sim P I w0 F V.n J θ (yA hs s) a w/\Fr s θ (yA hs s) θ
 | [],s,hS=>⟨hS,Fr.rfl⟩
 | h::hs,s,hS=>by
  have ⟨b,c⟩:=vN (hs:=hs) (CC (m:=4) (h:=h) hS);exact ⟨b,(IL hS).trans c⟩
theorem Zl {t:Nat} {b:Bool} (f:Sim P I w0 F V.n J θ s a w) (g:(envL θ s).lookup t=some (.bool b)):Sim P I w0 F V.n J θ (KB s t b) a w/\Fr s θ (KB s t b) θ:=by
 refine ⟨⟨f.le,f.agr.sub fun u v h=>?_,f.st,fun e c=>?_,fun e c=>?_,Ig (d:=some t) (av:=.one (.val (.bool b))) f.fine.nd f.fine.ver,fun e c=>iy Same.rfl (Nat.le_succ _) Newer.rfl (f.fine.chs e c) Hp.le.rfl,f.fine.lay⟩,Nat.le_succ _,Same.rfl,fun e c h=>?_,Newer.rfl⟩
 ·have h:List.lookup u ((t,Value.bool b)::envL θ s)=some v:=h;grind
 ·rcases aB c with rfl | c
  ·rfl
  ·exact AV.ok_same Same.rfl (Nat.le_succ _) Newer.rfl (f.fine.env e c) Hp.le.rfl
 ·rcases aB c with rfl | c
  ·exact aJ _
  ·exact be (f.fine.ver e c)
 ·rcases aB c with rfl | c
  ·grind
  omega
theorem U1 {ops:Array Oper} {o:Oper} :match guardOf ops.toList s o with
  | .no=>o.guard=none
  | .skip=> ∃g want d,o.guard=some (g,want)/\(ops[g]?).bind (·.dst)=some d/\(envL θ s).lookup d=some undef
  | .yes t b neg want=> ∃g,o.guard=some (g,want)/\(ops[g]?).bind (·.dst)=some t/\(envL θ s).lookup t=some (.bool (if neg then !b else b))
  | .bad=>True:=by
 unfold guardOf;cases i:o.guard with
 | none=>rfl
 | some gw =>
  have ⟨g,want⟩:=gw;simp only;cases hp:ops.toList[g]? with
  | none=>trivial
  | some p =>
   simp only;cases f:p.dst with
   | none=>trivial
   | some t =>
    simp only;have c:(ops[g]?).bind (·.dst)=some t:=by
     rw[<-Array.getElem?_toList,hp];exact f
    cases h:look s.env t with
    | none=>trivial
    | some v =>
     have e:=jG (θ:=θ) h;cases v with
     | one x =>
      cases x with
      | val u =>
       cases u with
       | bool b=>exact ⟨g,rfl,c,e⟩
       | _=>trivial
      | nb b=>exact ⟨g,rfl,c,e⟩
      | _=>trivial
     | und=>exact ⟨g,want,t,rfl,c,e⟩
     | _=>trivial
theorem Ms {o:Oper} {r:Res} (b:GoodA P w0 J θ s o r) (c:Sim P I w0 F V.n J θ s a w) {θ':Th} (hs:Same s.nxt θ θ'):Fr s θ (after s o.dst r) θ' :=
 Fr.put hs (Res.newer b.perm b.says)
theorem U2 (H:TTok P V.tt) (L:FTok P V.ft) {ops:Array Oper} {rest:List Oper} {o:Oper} {i:Sg->Option Y} (h:U0 V ops.toList i o s=some res) (y:Sim P I w0 F V.n J θ s a w)
  (K: ∀s' θ' m u,i s'=some res->Sim P I w0 F V.n J θ' s' m u->Fr s θ s' θ'->wpList P ops Q rest m u):wpList P ops Q (o::rest) a w:=by
 have B:=U1 (θ:=θ) (s:=s) (ops:=ops) (o:=o);have run: ∀l,Sim P I w0 F V.n J θ l a w->Fr s θ l θ->(∀g want,o.guard=some (g,want)-> ∃d,(ops[g]?).bind (·.dst)=some d/\(envL θ l).lookup d=some (.bool want))->cz (okO V.n l o) (step V l (fun r=>i (after l o.dst r)) o)=some res->wpList P ops Q (o::rest) a w:=by
  intro l f n z h;have ⟨p,h⟩:=ak h;obtain ⟨r,C,v⟩:=Q4 H L h;cases j:o.guard with
  | none=>exact abi (v.at f.fine) f j p fun θ' m u x k=>K _ θ' m u C k (n.trans (Ms (v.at f.fine) f x))
  | some gw =>
   have ⟨g,want⟩:=gw;have ⟨d,A,q⟩:=z g want j;exact YD (v.at f.fine) f j A q rfl p fun θ' m u x k=>K _ θ' m u C k (n.trans (Ms (v.at f.fine) f x))
 have M: ∀l,Sim P I w0 F V.n J θ l a w->Fr s θ l θ-> ∀g want d b,o.guard=some (g,want)->(ops[g]?).bind (·.dst)=some d->(envL θ l).lookup d=some (.bool b)->b=(!want)->cz (dstOk V.n o.dst) (i (skip l o.dst))=some res->wpList P ops Q (o::rest) a w:=by
  intro l f n g want d b j A q G h;have ⟨p,h⟩:=ak h;exact T7 f j A q G p fun m k=>K _ θ m w h k (n.trans (Fr.put Same.rfl Newer.rfl))
 unfold U0 at h;split at h
 ·cases h
 ·have ⟨p,E⟩:=ak h;exact run s y Fr.rfl (fun g want e=>by grind) (by rw[p];exact E)
 ·rename_i j;rw[j] at B;have ⟨g,want,d,R,D,S⟩:=B;have ⟨p,h⟩:=ak h;exact NM y R D S p fun m k=>K _ θ m w h k (Fr.put Same.rfl Newer.rfl)
 ·rename_i t b neg want j;have both: ∀c:Bool,(envL θ s).lookup t=some (.bool c)->(match c==want with
    | true=>cz (okO V.n (KB s t c) o) (step V (KB s t c) (fun r=>i (after (KB s t c) o.dst r)) o)
    | false=>cz (dstOk V.n o.dst) (i (skip (KB s t c) o.dst)))=some res->wpList P ops Q (o::rest) a w:=by
   intro c N h;have ⟨U,T⟩:=Zl y N;have O:(envL θ (KB s t c)).lookup t=some (.bool c):=by
    show List.lookup t ((t,Value.bool c)::envL θ s)=_;grind
   split at h
   ·grind
   ·grind
  grind
theorem Zm {tr:Trs} {o:Oper} (n:Sim P I w0 F V.n J θ s a w): ∃b θ',J.le b/\Sim P I w0 F V.n b θ' (adp tr o s) a w/\Fr s θ (adp tr o s) θ':=by
 have ⟨θ1,m,g⟩:=B2 n;have ⟨j,f⟩:=vN (hs:=Fk (tj s) o.op.operands.toList) m;have ⟨l,c,d,e⟩:=UT (o:=o) j
 show∃b θ',J.le b/\Sim P I w0 F V.n b θ' (UZ tr o (Og o (yA (Fk (tj s) o.op.operands.toList) (tj s)))) a w/\Fr s θ (UZ tr o (Og o (yA (Fk (tj s) o.op.operands.toList) (tj s)))) θ'
 unfold UZ;split
 ·exact ⟨l,θ1,c,d,(g.trans f).trans e⟩
 ·obtain ⟨b,θ',h,k,i⟩:=xy d;exact ⟨b,θ',c.trans h,k,((g.trans f).trans e).trans i⟩
theorem IM (n:TTok P V.tt) (p:FTok P V.ft) {ops:Array Oper} {k:Sg->Option Y} : ∀ {l:List Oper} {s:Sg} {J:Hp} {θ:Th} {a:Act} {w:World},Mr V ops.toList k l s=some res->Sim P I w0 F V.n J θ s a w->
  (∀c J' θ' j f,k c=some res->Sim P I w0 F V.n J' θ' c j f->J.le J'->Fr s θ c θ'->Q .normal j f)->wpList P ops Q l a w
 | [],s,J,θ,a,w,h,hS,K=>wpList_nil (K s J θ a w h hS Hp.le.rfl Fr.rfl)
 | o::os,s,J,θ,a,w,h,hS,K=>by
  have ⟨A,θ1,r,z,u⟩:=Zm (tr:=V.tr) (o:=o) hS;exact U2 n p (show U0 V ops.toList (Mr V ops.toList k os) o (adp V.tr o s)=some res from h) z fun c θ' j f x g e =>
   IM n p x g fun q y θ2 v t m i d b=>K q y θ2 v t m i (r.trans d) ((u.trans e).trans b)
end
inductive Knd
 | num (k:IntKind) | boo | str
 | rd (E:TypeId) (t:Ty)
 | own (E:TypeId) (t:Ty)
 | map (d:MD)
 | tre (T E:TypeId) (t:Ty)
 | bx (T:TypeId) (k:IntKind)
def Knd.den:Knd->Type
 | .num _=>Int
 | .boo=>Bool
 | .str=>ByteArray
 | .rd _ t=>List t.den
 | .own _ t=>List t.den
 | .map d=>List (d.k.den×d.e.den)
 | .tre _ _ t=>Tr t.den
 | .bx _ _=>Int
def abI {a b:MD} (h:a=b) (m:List (a.k.den×a.e.den)):List (b.k.den×b.e.den):=h ▸ m
def IN (d:MD) (x:LV) (chs:List Ent):Option (List (d.k.den×d.e.den)×List Ent):=match x with
 | .own h=>(adn h chs).bind fun r=>if h:MD.beq r.md d=true then some (abI (MD.beq_eq h) r.m,r.rest) else none
 | _=>none
theorem IP {d:MD} {x:LV} {chs:List Ent} {q:List (d.k.den×d.e.den)×List Ent} (h:IN d x chs=some q): ∃b a,x= .own b/\chs.Perm ((b,a,d.ck q.1)::q.2):=by
 unfold IN at h;split at h
 ·rename_i b;have ⟨r,e,h⟩:=bind_some h;have hp:=KA e;have ⟨a,f,m,rest⟩:=r;split at h
  ·rename_i c;cases MD.beq_eq c;cases ad h;exact ⟨b,a,rfl,hp⟩
  grind
 grind
def Mt (T:TypeId) (k:IntKind) (x:LV) (chs:List Ent):Option (Int×List Ent):=match x with
 | .ptr h off=>cz (Nat.beq off 0) ((tf h chs).bind fun b=>cz (Nat.beq b.T T) (match b.cells with
  | [c] =>(Gt k c).bind fun d=>some (d,b.rest)
  | _=>none))
 | _=>none
theorem IQ {T:TypeId} {k:IntKind} {x:LV} {chs:List Ent} {q:Int×List Ent} (h:Mt T k x chs=some q): ∃e a c,x= .ptr e 0/\Gt k c=some q.1/\chs.Perm ((e,a,.blk T [c])::q.2):=by
 cases x with
 | ptr e off =>
  have ⟨l,h⟩:=ak (show cz (Nat.beq off 0) _=some q from h);cases ax l;have ⟨b,g,f⟩:=bind_some h;have ⟨m,n⟩:=ak f;have hp:=lW g;have ⟨a,j,cells,rest⟩:=b;obtain rfl:j=T:=ax m
  match cells,n,hp with
  | [c],h,hp =>
   have ⟨d,o,i⟩:=bind_some (show (Gt k c).bind _=some q from h);cases ad i;exact ⟨e,a,c,rfl,o,hp⟩
  | [],h,_=>cases h
  | _::_::_,h,_=>cases h
 | _=>cases h
def Xa:List Knd->Type
 | [] =>Unit
 | [k] =>k.den
 | k::l::ks=>k.den×Xa (l::ks)
def tT:List Knd->Type
 | [] =>Unit
 | k::ks=>k.den×tT ks
def toN:(ks:List Knd)->Xa ks->tT ks
 | [],_=>()
 | [_],d=>(d,())
 | _::l::ks,d=>(d.1,toN (l::ks) d.2)
def ofN:(ks:List Knd)->tT ks->Xa ks
 | [],_=>()
 | [_],d=>d.1
 | _::l::ks,d=>(d.1,ofN (l::ks) d.2)
theorem rG: ∀(a:List Knd) (d:tT a),toN a (ofN a d)=d
 | [],_=>rfl
 | [_],_=>rfl
 | _::l::a,d=>congrArg (Prod.mk d.1) (rG (l::a) d.2)
def Xb (k:Knd) (x:LV) (chs:List Ent):Option (k.den×List Ent):=match k with
 | .num k=>(Gt k x).bind fun d=>some (d,chs)
 | .boo=>(E7 x).bind fun d=>some (d,chs)
 | .str=>(NQ x).bind fun d=>some (d,chs)
 | .rd E t=>(Ub E t x).bind fun d=>some (d,chs)
 | .own E t=>(yr E t x chs).bind fun q=>some (q.1,q.2.2)
 | .map d=>IN d x chs
 | .tre T E t=>(aaQ T E t x).bind fun d=>some (d,chs)
 | .bx T k=>Mt T k x chs
def adq (id:Nat):(k:Knd)->k.den->LV
 | .num k,d=>.val (.int k d)
 | .boo,d=>.val (.bool d)
 | .str,d=>.val (.string d)
 | .rd E t,d=>.rd ⟨id,[]⟩ (.sl E t) d
 | .own _ _,_=>.own ⟨id,[]⟩
 | .map _,_=>.own ⟨id,[]⟩
 | .tre T E t,d=>.rd ⟨id,[]⟩ (.tree T E t) d
 | .bx _ _,_=>.ptr ⟨id,[]⟩ 0
def aaU (id ver:Nat):(k:Knd)->k.den->List Ent
 | .own E t,d=>[(⟨id,[]⟩,ver,.own (.sl E t) d)]
 | .map md,d=>[(⟨id,[]⟩,ver,md.ck d)]
 | .bx T k,d=>[(⟨id,[]⟩,ver,.blk T [.val (.int k d)])]
 | _,_=>[]
def Ew:(ks:List Knd)->List LV->List Ent->Option (tT ks×List Ent)
 | [],[],chs=>some ((),chs)
 | k::ks,x::xs,chs=>(Xb k x chs).bind fun q=>(Ew ks xs q.2).bind fun r=>some ((q.1,r.1),r.2)
 | _,_,_=>none
def GS (id:Nat):(ks:List Knd)->tT ks->List LV
 | [],_=>[]
 | k::ks,d=>adq id k d.1::GS (id+1) ks d.2
def GT (id ver:Nat):(ks:List Knd)->tT ks->List Ent
 | [],_=>[]
 | k::ks,d=>aaU id ver k d.1++GT (id+1) ver ks d.2
section
variable {P:Program} {w0 w:World} {J:Hp} {θ:Th} {n:Nat} {C:List Ch}
theorem St.bun {ls:List Ch} {α:Type} {R:Rep α} {cs:List Value} {x:α} (h:St J w0 w (ls++C)) (i:Bun J ls R cs x):St J w0 w (Ch.own R cs x::C):=by
 have ⟨b,d,F,c,e,a⟩:=h;obtain ⟨G,K,rfl,f,g⟩:=c.split;exact ⟨b,d,G++K,⟨G,K,rfl,i w G f,g⟩,e,a⟩
theorem U3 {α:Type} {R:Rep α} {u:Value} {x:α} (h:St J w0 w (Ch.own R [u] x::C)):u.oneCell'=true:=by
 obtain ⟨a,c,F,⟨G,K,rfl,k,e⟩,d,b⟩:=h;exact R.own_one k u (by simp)
theorem Zn {k:Knd} {x:LV} {chs:List Ent} {q:k.den×List Ent} (h:Xb k x chs=some q) (y:x.ok P w0 J θ n) (b:St J w0 w (chs.map (toCh P θ)++C)) {θ':Th} {id ver m:Nat} (s:θ' id=x.v θ) (l:id<m) :
  (adq id k q.1).ok P w0 J θ' m/\(adq id k q.1).v θ'=x.v θ/\St J w0 w ((aaU id ver k q.1).map (toCh P θ')++(q.2.map (toCh P θ)++C))/\ ∀e∈q.2,e∈chs:=by
 have j:hv θ' ⟨id,[]⟩=x.v θ:=s;cases k with
 | num k =>
  have ⟨d,g,h⟩:=bind_some (show (Gt k x).bind _=some q from h);cases ad h;exact ⟨Eq.refl true,(Gu g θ).symm,b,fun e a=>a⟩
 | boo =>
  have ⟨d,g,h⟩:=bind_some (show (E7 x).bind _=some q from h);cases ad h;exact ⟨Eq.refl true,(Ij g θ).symm,b,fun e a=>a⟩
 | str =>
  have ⟨d,g,h⟩:=bind_some (show (NQ x).bind _=some q from h);cases ad h;exact ⟨Eq.refl true,(LZ g θ).symm,b,fun e a=>a⟩
 | rd E t =>
  have ⟨d,g,h⟩:=bind_some (show (Ub E t x).bind _=some q from h);cases ad h;refine ⟨⟨l,?_⟩,j,b,fun e a=>a⟩;grind[Cu]
 | tre T E t =>
  have ⟨d,g,h⟩:=bind_some (show (aaQ T E t x).bind _=some q from h);cases ad h;refine ⟨⟨l,?_⟩,j,b,fun e a=>a⟩;grind[Kg]
 | own E t =>
  have ⟨r,A,h⟩:=bind_some (show (yr E t x chs).bind _=some q from h);cases ad h;have ⟨p,v⟩:=Cx A P J θ;have o:St J w0 w (Ch.own (Ty.sl E t).rep [x.v θ] r.1::(r.2.2.map (toCh P θ)++C)):=by
   refine St.bun ?_ v
   have:=b.perm ((p.map (toCh P θ)).append_right C)
   grind
  refine ⟨⟨l,by grind[U3]⟩,j,?_,fun e a=>p.mem_iff.2 (by grind)⟩;show St J w0 w (Ch.own _ [hv θ' ⟨id,[]⟩] _::_);simp_all
 | map d =>
  obtain ⟨i,f,rfl,p⟩:=IP (show IN d x chs=some q from h);have o:St J w0 w (toCh P θ (i,f,d.ck q.1)::(q.2.map (toCh P θ)++C)):=by
   have:=b.perm ((p.map (toCh P θ)).append_right C)
   exact this
  have u:hv θ i=LV.v θ (.own i):=rfl;have B:St J w0 w (@Ch.mp P d.K d.E d.k.den d.e.den d.k.dec d.k.lit d.k.ok d.e.lit d.e.z (hv θ i) (show List (d.k.den×d.e.den) from q.1)::(q.2.map (toCh P θ)++C)):=o;refine ⟨⟨l,by rw[j];exact y.2⟩,j,?_,fun e a=>p.mem_iff.2 (by grind)⟩;show St J w0 w (@Ch.mp P d.K d.E d.k.den d.e.den d.k.dec d.k.lit d.k.ok d.e.lit d.e.z (hv θ' ⟨id,[]⟩) (show List (d.k.den×d.e.den) from q.1)::_);simp_all
 | bx T k =>
  obtain ⟨i,f,c,rfl,z,p⟩:=IQ (show Mt T k x chs=some q from h);have o:=b.perm ((p.map (toCh P θ)).append_right C);have u:bk (hv θ' ⟨id,[]⟩)=bk (hv θ i):=by rw[j];rfl
  refine ⟨l,?_,?_,fun e a=>p.mem_iff.2 (by grind)⟩
  ·show Value.pointer (some ⟨bk (hv θ' ⟨id,[]⟩),0,none⟩)=_;rw[u];rfl
  ·show St J w0 w (Ch.blk (bk (hv θ' ⟨id,[]⟩)) [.int k _] T::_);rw[u,<-Gu z θ];exact o
theorem B3: ∀ {c:List Knd} {xs:List LV} {chs:List Ent} {q:tT c×List Ent} {id ver:Nat} {C:List Ch},Ew c xs chs=some q->(∀x∈xs,x.ok P w0 J θ n)->St J w0 w (chs.map (toCh P θ)++C)-> ∀ {θ':Th} {m:Nat},(∀i x,xs[i]? =some x->θ' (id+i)=x.v θ)->id+c.length<=m->
  (∀x∈GS id c q.1,x.ok P w0 J θ' m)/\(GS id c q.1).map (·.v θ')=xs.map (·.v θ)/\St J w0 w ((GT id ver c q.1).map (toCh P θ')++(q.2.map (toCh P θ)++C))/\ ∀e∈q.2,e∈chs
 | [],[],chs,q,id,ver,C,h,_,hS,θ',m,_,_=>by
  cases ad (show some _=some q from h);exact ⟨fun x f=>(by cases f),rfl,hS,fun e g=>g⟩
 | k::c,x::xs,chs,q,id,ver,C,h,f,hS,θ',m,hid,hm=>by
  have ⟨a,r,h⟩:=bind_some (show (Xb k x chs).bind _=some q from h);have ⟨b,o,h⟩:=bind_some h;cases ad h;have j:id<m:=by rw[aw] at hm;omega
  have ⟨p,z,s,u⟩:=Zn (ver:=ver) r (f x (by simp)) hS (θ':=θ') (id:=id) (m:=m) (hid 0 x rfl) j;have ⟨v,A,t,l⟩:=B3 (id:=id+1) (ver:=ver) (C:=(aaU id ver k a.1).map (toCh P θ')++C) o (fun y d=>f y (by grind)) (s.perm (List.perm_append_comm_assoc _ _ _)) (θ':=θ') (m:=m) (fun i y d=>by
   have:=hid (i+1) y d
   grind) (by grind)
  refine ⟨fun y d=>?_,?_,?_,fun e g=>u e (l e g)⟩
  ·rcases aB d with rfl | d
   ·exact p
   grind
  ·grind[LV.v,GS]
  ·refine t.perm ?_;grind[List.perm_append_comm_assoc,GT,toCh,aaU,aH]
 | [],_::_,chs,q,id,ver,C,h,_,_,_,_,_,_=>by cases h
 | _::_,[],chs,q,id,ver,C,h,_,_,_,_,_,_=>by cases h
end
inductive It
 | slot (t:Nat) (k:Knd)
 | box (t:Nat) (ks:List Knd)
 | row (t:Nat) (E:TypeId) (u:Ty)
 | agg (t:Nat) (ks:List Knd)
 | par (i:Nat) (p:List Nat) (E:TypeId) (u:Ty)
 | gone (t:Nat)
 | cur (t:Nat)
 | pbx (i:Nat) (ks:List Knd)
def It.s (t:Nat):It:=.slot t (.num .i64)
inductive RIt
 | slot (t:Nat) (k:Knd)
 | box (h:Hdr) (T:TypeId) (ks:List Knd)
 | row (h:Hdr) (E:TypeId) (u:Ty)
 | agg (t:Nat) (k:Knd) (ks:List Knd)
 | cur (h:Hdr) (T:TypeId) (g:Hdr) (E:TypeId) (xs:List Int)
def RIt.ks:RIt->List Knd
 | .slot _ k=>[k]
 | .box _ _ ks=>ks
 | .row _ E u=>[.own E u]
 | .agg _ k ks=>k::ks
 | .cur _ _ _ _ _=>[.num .i64,.num .i64]
def ur:List RIt->List Knd
 | [] =>[]
 | r::rs=>r.ks++ur rs
def TG:Option AV->Option Hdr
 | some (.one (.ptr h off))=>if Nat.beq off 0 then some h else none
 | _=>none
def abJ:Option AV->Option Hdr
 | some (.one (.own h))=>some h
 | _=>none
theorem Zo {v:Option AV} {h:Hdr} (k:abJ v=some h):v=some (.one (.own h)):=by
 unfold abJ at k;grind
def abK (h:Hdr) (chs:List Ent):Option (Hdr×TypeId×TypeId×List Int):=(pull h chs).bind fun r=>match r.1.2.2 with
 | .blk T [.rd g (.sl E (.int .u8)) xs,_,_] =>some (g,T,E,xs)
 | _=>none
theorem Mu {h g:Hdr} {T E:TypeId} {xs:List Int} {chs:List Ent} (k:abK h chs=some (g,T,E,xs)): ∃ver a b,(h,ver,Chk.blk T [.rd g (.sl E (.int .u8)) xs,a,b])∈chs:=by
 have ⟨r,c,d⟩:=bind_some k;have ⟨p,e⟩:=hY c;grind
def resolve (s:Sg):It->Option RIt
 | .slot t k=>some (.slot t k)
 | .box t ks=>(TG (look s.env t)).bind fun h=>(tf h s.chs).bind fun b=>some (.box h b.T ks)
 | .row t E u=>(abJ (look s.env t)).bind fun h=>some (.row h E u)
 | .agg t ks=>match ks with
  | k::ks=>some (.agg t k ks)
  | [] =>none
 | .par i p E u=>cz (Nat.blt i s.nxt) (some (.row ⟨i,p⟩ E u))
 | .gone _=>none
 | .pbx i ks=>(tf ⟨i,[]⟩ s.chs).bind fun b=>some (.box ⟨i,[]⟩ b.T ks)
 | .cur t=>(TG (look s.env t)).bind fun h=>(abK h s.chs).bind fun q=>some (.cur h q.2.1 q.1 q.2.2.1 q.2.2.2)
def B4 (s:Sg):List It->Option (List RIt)
 | [] =>some []
 | i::is=>(resolve s i).bind fun r=>(B4 s is).bind fun rs=>some (r::rs)
def oneOf:Option AV->Option LV
 | some (.one x)=>some x
 | _=>none
theorem U4 {v:Option AV} {x:LV} (h:oneOf v=some x):v=some (.one x):=by
 unfold oneOf at h;grind
def Q8:Option AV->Option (List LV)
 | some (.agg xs)=>some xs
 | _=>none
theorem U5 {v:Option AV} {x:List LV} (h:Q8 v=some x):v=some (.agg x):=by
 unfold Q8 at h;grind
def U6 (env:List (Nat×Nat×AV)) (chs:List Ent):(r:RIt)->Option (tT r.ks×List Ent)
 | .slot t k=>(oneOf (look env t)).bind fun x=>Ew [k] [x] chs
 | .box h T ks=>(tf h chs).bind fun b=>cz (Nat.beq b.T T) (Ew ks b.cells b.rest)
 | .row h E u=>Ew [.own E u] [.own h] chs
 | .agg t k ks=>(Q8 (look env t)).bind fun xs=>Ew (k::ks) xs chs
 | .cur h T g E _=>(xu h T E chs).bind fun q=>cz (Hdr.beq q.g g) (some ((q.d.2.1,q.d.2.2,()),q.rest))
def U7:(ks ls:List Knd)->tT ks->tT ls->tT (ks++ls)
 | [],_,_,e=>e
 | _::ks,ls,d,e=>(d.1,U7 ks ls d.2 e)
def Xc:(ks ls:List Knd)->tT (ks++ls)->tT ks
 | [],_,_=>()
 | _::ks,ls,d=>(d.1,Xc ks ls d.2)
def Zp:(ks ls:List Knd)->tT (ks++ls)->tT ls
 | [],_,d=>d
 | _::ks,ls,d=>Zp ks ls d.2
theorem KD: ∀(a ls:List Knd) (d:tT a) (e:tT ls),Xc a ls (U7 a ls d e)=d
 | [],_,_,_=>rfl
 | _::a,ls,d,e=>congrArg (Prod.mk d.1) (KD a ls d.2 e)
theorem KE: ∀(a ls:List Knd) (d:tT a) (e:tT ls),Zp a ls (U7 a ls d e)=e
 | [],_,_,_=>rfl
 | _::a,ls,d,e=>KE a ls d.2 e
def Zq (env:List (Nat×Nat×AV)):(rs:List RIt)->List Ent->Option (tT (ur rs)×List Ent)
 | [],chs=>some ((),chs)
 | r::rs,chs=>(U6 env chs r).bind fun q=>(Zq env rs q.2).bind fun p=>some (U7 r.ks (ur rs) q.1 p.1,p.2)
def aaV (id:Nat):(r:RIt)->tT r.ks->List (Nat×Nat×AV)
 | .slot t k,d=>[(t,id,.one (adq id k d.1))]
 | .agg t k ks,d=>[(t,id,.agg (GS id (k::ks) d))]
 | _,_=>[]
def aaW (id ver:Nat):(r:RIt)->tT r.ks->List Ent
 | .slot _ k,d=>GT id ver [k] d
 | .agg _ k ks,d=>GT id ver (k::ks) d
 | .box h T ks,d=>(h,ver,.blk T (GS id ks d))::GT id ver ks d
 | .row h E u,d=>[(h,ver,.own (.sl E u) d.1)]
 | .cur h T g E xs,d=>[(h,ver,.blk T [.rd g (.sl E (.int .u8)) xs,.val (.int .i64 d.1),.val (.int .i64 d.2.1)])]
def Ex:(id:Nat)->(rs:List RIt)->tT (ur rs)->List (Nat×Nat×AV)
 | _,[],_=>[]
 | id,r::rs,d=>aaV id r (Xc r.ks (ur rs) d)++Ex (id+r.ks.length) rs (Zp r.ks (ur rs) d)
def Ai (ver:Nat):(id:Nat)->(rs:List RIt)->tT (ur rs)->List Ent
 | _,[],_=>[]
 | id,r::rs,d=>aaW id ver r (Xc r.ks (ur rs) d)++Ai ver (id+r.ks.length) rs (Zp r.ks (ur rs) d)
structure Cut where
 nxt:Nat
 its:List RIt
 env:List (Nat×Nat×AV)
 chs:List Ent
def Cut.top (c:Cut):Nat:=c.nxt+(ur c.its).length
def Cut.at (c:Cut) (d:tT (ur c.its)):Sg:=⟨Ex c.nxt c.its d++c.env,Ai c.top c.nxt c.its d++c.chs,c.top+1⟩
def ad6 (t:Nat):List Nat->Bool
 | [] =>false
 | u::l=>Nat.beq u t || ad6 t l
def Oj (l:List (Nat×Nat×AV)) (t:Nat):Option Nat:=match l with
 | [] =>none
 | (u,k,_)::l=>if Nat.beq u t then some k else Oj l t
def B5 (env:List (Nat×Nat×AV)):List (Nat×Nat×AV)->Bool
 | [] =>true
 | e::l=>(match Oj env e.1 with | some v=>Nat.beq v e.2.1 | none=>false)&&B5 env l
def KF:List Ent->List Ent->Option (List Ent)
 | [],chs=>some chs
 | e::l,chs=>(pull e.1 chs).bind fun r=>cz (Nat.beq r.1.2.1 e.2.1) (KF l r.2)
def distinctH:List Ent->Bool
 | [] =>true
 | e::l=>Ev e.1 l&&distinctH l
def abL:Option AV->List Hdr
 | some (.one (.ptr h _))=>[h]
 | _=>[]
def rH (s:Sg):List RIt->List Hdr
 | [] =>[]
 | .slot t (.bx _ _)::rs=>abL (look s.env t)++rH s rs
 | .slot t _::rs=>(match look s.env t with | some v=>CR v | none=>[])++rH s rs
 | .box h _ _::rs=>(match tf h s.chs with | some b=>CR (.agg b.cells) | none=>[])++rH s rs
 | .row h _ _::rs=>h::rH s rs
 | .cur _ _ _ _ _::rs=>rH s rs
 | .agg t _ _::rs=>(match look s.env t with | some v=>CR v | none=>[])++rH s rs
def CS:List Ent->List Hdr
 | [] =>[]
 | (h,_,.own _ _)::l=>h::CS l
 | _::l=>CS l
def Cut.of (c:Cut) (s0:Sg):Option (tT (ur c.its)):=match yA (CS c.chs) (yA (rH s0 c.its) s0) with
 | s=>(Zq s.env c.its s.chs).bind fun q=>(KF c.chs q.2).bind fun _=>cz (B5 s.env c.env) (some q.1)
def RIt.hdrs:RIt->List Hdr
 | .slot _ _=>[]
 | .box h _ _=>[h]
 | .row h _ _=>[h]
 | .agg _ _ _=>[]
 | .cur h _ g _ _=>[h,g]
def hdrsR:List RIt->List Hdr
 | [] =>[]
 | r::rs=>r.hdrs++hdrsR rs
def IR:List (Nat×Nat×AV)->List Nat->List (Nat×Nat×AV)
 | [],_=>[]
 | e::l,seen=>match ad6 e.1 seen with
  | true=>IR l seen
  | false=>e::IR l (e.1::seen)
theorem vO: ∀ {l:List (Nat×Nat×AV)} {seen:List Nat},(IR l seen).Sublist l
 | [],_=>List.Sublist.refl _
 | e::l,seen=>by
  unfold IR;split
  ·exact vO.cons _
  ·exact vO.cons_cons _
def Zr:List It->List It
 | [] =>[]
 | .gone _::is=>Zr is
 | i::is=>i::Zr is
def Zs (s:Sg):List It->List Hdr
 | [] =>[]
 | .gone t::is=>(match look s.env t with
  | some (.one (.ptr h _))=>match tf h s.chs with | some b=>CR (.agg b.cells) | none=>[]
  | some v=>CR v
  | none=>[])++Zs s is
 | _::is=>Zs s is
def CT (ks:List Nat) (is:List It) (s:Sg):Option Cut:=(B4 s (Zr is)).bind fun rs=>cz (distinctH s.chs) (some ⟨s.nxt,rs,IR (s.env.filter fun e=> !ad6 e.1 ks) [],s.chs.filter fun e=> !aeX e.1 (Zs s is++(rH s rs++hdrsR rs))⟩)
theorem Zt {P:Program} {w0:World} {J:Hp} {θ:Th} {m id ver:Nat} {chs:List Ent} {k:Knd} {d:k.den} (h1:id<m) (b:ver<m): ∀e∈aaU id ver k d,okE P w0 J θ m chs e:=by
 cases k with
 | own E t=>intro e a;cases aq a;exact ⟨h1,b,trivial⟩
 | map md=>intro e a;cases aq a;exact ⟨h1,b,trivial⟩
 | bx T k=>intro e a;cases aq a;exact ⟨h1,b,fun x c=>by cases aq c;rfl⟩
 | _=>intro e a;cases a
theorem B6 {P:Program} {w0:World} {J:Hp} {θ:Th} {m ver:Nat} {chs:List Ent} (c:ver<m): ∀ {b:List Knd} {id:Nat} {d:tT b},id+b.length<=m-> ∀e∈GT id ver b d,okE P w0 J θ m chs e
 | [],_,_,_=>fun e a=>by cases a
 | k::b,id,d,h1=>fun e a=>by
  rw[aw] at h1;rcases aI a with a | a
  ·exact Zt (by omega) c e a
  ·exact B6 c (by omega) e a
section
variable {P:Program} {w0 w:World} {J:Hp} {θ:Th} {n:Nat} {C:List Ch}
def RitOk (P:Program) (w0:World) (J:Hp) (θ:Th) (n:Nat):RIt->Prop
 | .cur _ _ g E xs=>LV.ok P w0 J θ n (.rd g (.sl E (.int .u8)) xs)
 | _=>True
def ae5 (P:Program) (w0 w:World) (J:Hp) (θ:Th) (env:List (Nat×Nat×AV)) (chs:List Ent) (hs:List Hdr) (len:Nat) (rest:List Ent) (E:Nat->List (Nat×Nat×AV)) (N:Nat->Nat->List Ent):Prop:=
 ∃vals:List Value,vals.length=len/\ ∀(θ':Th) (id ver m:Nat),(∀i v,vals[i]? =some v->θ' (id+i)=v)->id+len<=m->ver<m->(∀h∈hs,hv θ' h=hv θ h/\h.id<m)-> ∀C,St J w0 w (chs.map (toCh P θ)++C)->
  (∀e∈E id,(∀chs',e.2.2.ok P w0 J θ' m chs')/\ ∃x,look env e.1=some x/\e.2.2.v θ'=x.v θ)/\(∀chs',∀e∈N id ver,okE P w0 J θ' m chs' e)/\St J w0 w ((N id ver).map (toCh P θ')++(rest.map (toCh P θ)++C))
theorem U8 {env:List (Nat×Nat×AV)} {chs chs0:List Ent} {r:RIt} {q:tT r.ks×List Ent} (h:U6 env chs r=some q) (I: ∀e∈env,e.2.2.ok P w0 J θ n chs0) (S: ∀e∈chs,okE P w0 J θ n chs0 e) {n1:Nat} (R:RitOk P w0 J θ n1 r) :
  ae5 P w0 w J θ env chs r.hdrs r.ks.length q.2 (fun id=>aaV id r q.1) (fun id ver=>aaW id ver r q.1):=by
 cases r with
 | slot t k =>
  have ⟨x,G,h⟩:=bind_some (show (oneOf (look env t)).bind _=some q from h);have G:=U4 G
  ·have O:x.ok P w0 J θ n:=by
    have ⟨e,d,K⟩:=vL G
    have:=I e d
    rw[K] at this;exact this
   refine ⟨[x.v θ],rfl,fun θ' id ver m o F f A C H=>?_⟩;have ⟨M,X,V,k4⟩:=B3 (ver:=ver) (C:=C) (id:=id) (θ':=θ') (m:=m) h (fun y W=>by cases aq W;omega) H (fun i y W=>by
    cases i with
    | zero=>simp at W;rw[<-W];exact o 0 _ rfl
    | succ i=>grind) F
   refine ⟨fun e d=>?_,fun j=>B6 f F,V⟩;cases aq d;exact ⟨fun j=>M _ (by simp[GS]),_,G,(List.cons.inj (show _::_=_::_ from X)).1⟩
 | box A T s =>
  have ⟨b,L,h⟩:=bind_some (show (tf A chs).bind _=some q from h);have ⟨hT,h⟩:=ak h;have hT:=ax hT;have hp:=lW L;have Y:=S (b.ent A) (hp.mem_iff.2 (by simp));have D: ∀ {s:List Knd} {l:List LV} {chs:List Ent} {q:tT s×List Ent},Ew s l chs=some q->l.length=s.length:=by
   intro s;induction s with
   | nil=>intro l chs q h;cases l with
    | nil=>rfl
    | cons _ _=>cases h
   | cons k s ih=>intro l chs q h;cases l with
    | nil=>cases h
    | cons x l =>
     have ⟨a,N,h⟩:=bind_some (show (Xb k x chs).bind _=some q from h);have ⟨c,hc,h⟩:=bind_some h;grind
  have hl:=D h;have hvl:(b.cells.map (·.v θ)).length=s.length:=by rw[List.length_map];exact hl
  have U: ∀ {θ':Th} {id:Nat},(∀i v,(b.cells.map (·.v θ))[i]? =some v->θ' (id+i)=v)-> ∀i x,b.cells[i]? =some x->θ' (id+i)=x.v θ:=fun o i x G=>o i _ (by grind);refine ⟨b.cells.map (·.v θ),hvl,fun θ' id ver m o F f B C H=>?_⟩
  ·have hS':St J w0 w (b.rest.map (toCh P θ)++(Ch.blk (bk (hv θ A)) (b.cells.map (·.v θ)) b.T::C)):=by
    refine (H.perm ((hp.map (toCh P θ)).append_right C)).perm ?_;exact (List.perm_middle (l₁:=b.rest.map (toCh P θ)) (l₂:=C)).symm
   have ⟨M,X,V,k4⟩:=B3 (ver:=ver) (id:=id) (θ':=θ') (m:=m) h Y.2.2 hS' (U o) F;have ⟨g1,Z⟩:=B A (by simp[RIt.hdrs]);refine ⟨fun e d=>(by cases d),fun j e d=>?_,?_⟩
   ·rcases aB d with rfl | d
    ·exact ⟨Z,f,M⟩
    ·exact B6 f F e d
   ·show St J w0 w (Ch.blk (bk (hv θ' A)) ((GS id s q.1).map (·.v θ')) T::((GT id ver s q.1).map (toCh P θ')++(q.2.map (toCh P θ)++C)));refine V.perm ?_;grind[aH,List.perm_middle]
 | agg t k s =>
  have ⟨l,G,h⟩:=bind_some (show (Q8 (look env t)).bind _=some q from h);have G:=U5 G;have O: ∀x∈l,x.ok P w0 J θ n:=by
   have ⟨e,d,K⟩:=vL G
   have:=I e d
   rw[K] at this;exact this
  have D: ∀ {s:List Knd} {l:List LV} {chs:List Ent} {q:tT s×List Ent},Ew s l chs=some q->l.length=s.length:=by
   intro s;induction s with
   | nil=>intro l chs q h;cases l with
    | nil=>rfl
    | cons _ _=>cases h
   | cons k s ih=>intro l chs q h;cases l with
    | nil=>cases h
    | cons x l =>
     have ⟨a,N,h⟩:=bind_some (show (Xb k x chs).bind _=some q from h);have ⟨c,hc,h⟩:=bind_some h;grind
  refine ⟨l.map (·.v θ),by rw[List.length_map];exact D h,fun θ' id ver m o F f A C H=>?_⟩;have ⟨M,X,V,k4⟩:=B3 (ver:=ver) (C:=C) (id:=id) (θ':=θ') (m:=m) h O H (fun i y W=>o i _ (by grind)) F;refine ⟨fun e d=>?_,fun j=>B6 f F,V⟩;cases aq d;refine ⟨fun j=>M,_,G,?_⟩;show Value.agg ((GS id (k::s) q.1).map (·.v θ')).toArray=Value.agg (l.map (·.v θ)).toArray;rw[X]
 | row A E u =>
  have ⟨a,N,h⟩:=bind_some (show (Xb (.own E u) (.own A) chs).bind _=some q from h);have ⟨c,hc,h⟩:=bind_some h;cases ad (show some ((),a.2)=some c from hc);cases ad h;have ⟨r,hr,N⟩:=bind_some (show (yr E u (.own A) chs).bind _=some a from N);cases ad N;have ⟨p,L⟩:=Cx hr P J θ;refine ⟨[hv θ A],rfl,fun θ' id ver m o F f B C H=>?_⟩;have K:St J w0 w (Ch.own (Ty.sl E u).rep [hv θ A] r.1::(r.2.2.map (toCh P θ)++C)):=by
   refine St.bun ?_ L
   have:=H.perm ((p.map (toCh P θ)).append_right C)
   grind
  refine ⟨fun e d=>(by cases d),fun j e d=>?_,?_⟩
  ·cases aq d;exact ⟨(B A (by simp[RIt.hdrs])).2,f,trivial⟩
  ·show St J w0 w (Ch.own _ [hv θ' A] _::_);simp_all[RIt.hdrs]
 | cur A T g E l =>
  have ⟨b,L,h⟩:=bind_some (show (xu A T E chs).bind _=some q from h);have ⟨hg,h⟩:=ak h;cases ad h;have hg:=Hdr.beq_eq hg;have ⟨p,ver0,d⟩:=pV L;refine ⟨[.int .i64 b.d.2.1,.int .i64 b.d.2.2],rfl,fun θ' id ver m o F f B C H=>?_⟩;have ⟨g1,Z⟩:=B A (by simp[RIt.hdrs]);have ⟨g3,g4⟩:=B g (by simp[RIt.hdrs]);refine ⟨fun e d=>(by cases d),fun j e d=>?_,?_⟩
  ·cases aq d;refine ⟨Z,f,fun z Q=>?_⟩;rcases aB Q with rfl | Q
   ·exact ⟨g4,by rw[g3];exact R.2⟩
   ·rcases aB Q with rfl | Q
    ·rfl
    ·cases aq Q
     rfl
  ·show St J w0 w (Ch.blk (bk (hv θ' A)) [hv θ' g,.int .i64 b.d.2.1,.int .i64 b.d.2.2] T::(b.rest.map (toCh P θ)++C));have K:=H.perm ((p.map (toCh P θ)).append_right C);rw[List.map_cons,d] at K;rw[g1,g3,<-hg];exact K
theorem U9 {k:Knd} {x:LV} {chs:List Ent} {q:k.den×List Ent} (h:Xb k x chs=some q): ∀e∈q.2,e∈chs:=by
 cases k with
 | num k=>have ⟨d,b,h⟩:=bind_some (show (Gt k x).bind _=some q from h);grind
 | boo=>have ⟨d,b,h⟩:=bind_some (show (E7 x).bind _=some q from h);grind
 | str=>have ⟨d,b,h⟩:=bind_some (show (NQ x).bind _=some q from h);grind
 | rd E t=>have ⟨d,b,h⟩:=bind_some (show (Ub E t x).bind _=some q from h);grind
 | own E t =>
  have ⟨r,g,h⟩:=bind_some (show (yr E t x chs).bind _=some q from h);exact fun e i=>(Cy g).mem_iff.2 (by grind)
 | tre T E t=>have ⟨d,b,h⟩:=bind_some (show (aaQ T E t x).bind _=some q from h);grind
 | map d =>
  obtain ⟨f,a,-,p⟩:=IP (show IN d x chs=some q from h);grind
 | bx T k =>
  obtain ⟨f,a,c,-,-,p⟩:=IQ (show Mt T k x chs=some q from h);grind
theorem uJ: ∀ {c:List Knd} {xs:List LV} {chs:List Ent} {q:tT c×List Ent},Ew c xs chs=some q-> ∀e∈q.2,e∈chs
 | [],[],chs,q,h=>by cases ad (show some _=some q from h);grind
 | k::c,x::xs,chs,q,h=>by
  have ⟨a,d,h⟩:=bind_some (show (Xb k x chs).bind _=some q from h);have ⟨b,f,h⟩:=bind_some h;cases ad h;exact fun e g=>U9 d e (uJ f e g)
 | [],_::_,chs,q,h=>by cases h
 | _::_,[],chs,q,h=>by cases h
theorem Q9 {env:List (Nat×Nat×AV)} {chs:List Ent} {r:RIt} {q:tT r.ks×List Ent} (h:U6 env chs r=some q): ∀e∈q.2,e∈chs:=by
 cases r with
 | slot t k =>
  have ⟨x,d,h⟩:=bind_some (show (oneOf (look env t)).bind _=some q from h);exact uJ h
 | box hh T ks =>
  have ⟨b,a,h⟩:=bind_some (show (tf hh chs).bind _=some q from h);have ⟨i,h⟩:=ak h;exact fun e c=>(lW a).mem_iff.2 (br _ (uJ h e c))
 | row hh E u=>exact uJ (show Ew [.own E u] [.own hh] chs=some q from h)
 | cur hh T g E xs =>
  have ⟨b,a,h⟩:=bind_some (show (xu hh T E chs).bind _=some q from h);have ⟨f,h⟩:=ak h;cases ad h;exact fun e c=>(pV a).1.mem_iff.2 (br _ c)
 | agg t k ks =>
  have ⟨x,d,h⟩:=bind_some (show (Q8 (look env t)).bind _=some q from h);exact uJ h
theorem Mv {env:List (Nat×Nat×AV)} {chs0:List Ent} {n1:Nat} (f: ∀e∈env,e.2.2.ok P w0 J θ n chs0): ∀ {rs:List RIt} {chs:List Ent} {q:tT (ur rs)×List Ent},Zq env rs chs=some q->(∀e∈chs,okE P w0 J θ n chs0 e)->(∀r∈rs,RitOk P w0 J θ n1 r)->
  (∀e∈q.2,e∈chs)/\ae5 P w0 w J θ env chs (hdrsR rs) (ur rs).length q.2 (fun id=>Ex id rs q.1) (fun id c=>Ai c id rs q.1)
 | [],chs,q,h,_,_=>by
  cases ad (show some _=some q from h);exact ⟨fun e d=>d,[],rfl,fun θ' id c m _ _ _ _ C s=>⟨fun e d=>(by cases d),fun g e d=>(by cases d),s⟩⟩
 | r::rs,chs,q,h,hchs,hrit=>by
  have ⟨a,t,h⟩:=bind_some (show (U6 env chs r).bind _=some q from h);have ⟨b,A,h⟩:=bind_some h;cases ad h;have j:=Q9 t;have ⟨K,z,B⟩:=U8 (w:=w) t f hchs (hrit r (by simp));have ⟨y,H,D,E⟩:=Mv f A (fun e d=>hchs e (j e d)) fun x o=>hrit x (by grind);refine ⟨fun e d=>j e (y e d),K++H,by rw[au,z,D];exact (au ..).symm,fun θ' id c m k p l u C s=>?_⟩;have p:id+(r.ks.length+(ur rs).length)<=m:=by
   have:(ur (r::rs)).length=r.ks.length+(ur rs).length:=au ..
   rw[this] at p;exact p
  have ⟨L,O,F⟩:=B θ' id c m (fun i v I=>k i v (by grind)) (by omega) l (fun x o=>u x (bj _ o)) C s;have ⟨N,Q,G⟩:=E θ' (id+r.ks.length) c m (fun i v I=>by
   have:=k (r.ks.length+i) v (by grind)
   grind) (by omega) l (fun x o=>u x (bt _ o)) ((aaW id c r a.1).map (toCh P θ')++C) (F.perm (List.perm_append_comm_assoc _ _ _))
  have M:Ex id (r::rs) (U7 r.ks (ur rs) a.1 b.1)=aaV id r a.1++Ex (id+r.ks.length) rs b.1:=by
   show aaV id r (Xc _ _ _)++Ex _ rs (Zp _ _ _)=_;rw[KD,KE]
  have R:Ai c id (r::rs) (U7 r.ks (ur rs) a.1 b.1)=aaW id c r a.1++Ai c (id+r.ks.length) rs b.1:=by
   show aaW id c r (Xc _ _ _)++Ai c _ rs (Zp _ _ _)=_;rw[KD,KE]
  show (∀e∈Ex id (r::rs) (U7 r.ks (ur rs) a.1 b.1),_)/\(∀g,∀e∈Ai c id (r::rs) (U7 r.ks (ur rs) a.1 b.1),_)/\St J w0 w ((Ai c id (r::rs) (U7 r.ks (ur rs) a.1 b.1)).map _++_);refine ⟨fun e d=>?_,fun g e d=>?_,?_⟩
  ·grind
  ·grind
  ·refine G.perm ?_;grind[List.perm_append_comm_assoc,Ai,toCh,aaW,aH]
end
def KG:Chk->Prop
 | .hole _ _ _ _ _ _ _ _ _ _=>False
 | _=>True
theorem Va {id ver:Nat} {k:Knd} {d:k.den} : ∀e∈aaU id ver k d,e.2.1=ver/\KG e.2.2:=by
 cases k with
 | own E t=>intro e a;cases aq a;exact ⟨rfl,trivial⟩
 | map md=>intro e a;cases aq a;exact ⟨rfl,trivial⟩
 | bx T k=>intro e a;cases aq a;exact ⟨rfl,trivial⟩
 | _=>intro e a;cases a
theorem yB {ver:Nat} : ∀ {b:List Knd} {id:Nat} {d:tT b},∀e∈GT id ver b d,e.2.1=ver/\KG e.2.2
 | [],_,_=>fun e a=>by cases a
 | k::b,id,d=>fun e a=>by
  rcases aI a with a | a
  ·exact Va e a
  ·exact yB e a
theorem IS {ver:Nat} : ∀ {rs:List RIt} {id:Nat} {d:tT (ur rs)},∀e∈Ai ver id rs d,e.2.1=ver/\KG e.2.2
 | [],_,_=>fun e a=>by cases a
 | r::rs,id,d=>fun e a=>by
  rcases aI a with a | a
  ·cases r with
   | slot t k=>exact yB e a
   | box h T ks =>
    rcases aB a with rfl | a
    ·exact ⟨rfl,trivial⟩
    ·exact yB e a
   | row h E u=>cases aq a;exact ⟨rfl,trivial⟩
   | agg t k ks=>exact yB e a
   | cur h T g E xs=>cases aq a;exact ⟨rfl,trivial⟩
  ·exact IS e a
theorem IU: ∀ {rs:List RIt} {id:Nat} {d:tT (ur rs)},(∀e∈Ex id rs d,id<=e.2.1/\e.2.1<id+(ur rs).length)/\(Ex id rs d).Pairwise fun a b=>a.2.1≠b.2.1
 | [],_,_=>⟨fun e c=>(by cases c),List.Pairwise.nil⟩
 | r::rs,id,d=>by
  have i:(ur (r::rs)).length=r.ks.length+(ur rs).length:=au ..;have ⟨m,f⟩:=IU (rs:=rs) (id:=id+r.ks.length) (d:=Zp r.ks (ur rs) d);have j: ∀e∈aaV id r (Xc r.ks (ur rs) d),e.2.1=id/\0<r.ks.length:=fun e c=>by
   cases r with
   | slot t k=>cases aq c;exact ⟨rfl,Nat.one_pos⟩
   | agg t k ks=>cases aq c;exact ⟨rfl,Nat.succ_pos _⟩
   | box _ _ _=>cases c
   | row _ _ _=>cases c
   | cur _ _ _ _ _=>cases c
  have g:(aaV id r (Xc r.ks (ur rs) d)).Pairwise fun a b=>a.2.1≠b.2.1:=by
   cases r with
   | slot t k=>exact List.pairwise_singleton _ _
   | agg t k ks=>exact List.pairwise_singleton _ _
   | box _ _ _=>exact List.Pairwise.nil
   | row _ _ _=>exact List.Pairwise.nil
   | cur _ _ _ _ _=>exact List.Pairwise.nil
  refine ⟨fun e c=>?_,List.pairwise_append.2 ⟨g,f,fun a h b l=>?_⟩⟩
  ·rcases aI c with c | c
   ·grind
   grind
  grind
theorem Mw {t v:Nat} : ∀ {l:List (Nat×Nat×AV)},Oj l t=some v-> ∃x,look l t=some x/\(t,v,x)∈l
 | (u,k,x)::l,h=>by
  unfold Oj at h;split at h
  ·simp_all[look,if_pos,Nat.beq_refl]
  ·have ⟨y,a,b⟩:=Mw h;simp_all[look,if_neg]
theorem CU {env:List (Nat×Nat×AV)} : ∀ {l:List (Nat×Nat×AV)},B5 env l=true-> ∀e∈l,Oj env e.1=some e.2.1
 | e::l,h,x,a=>by
  have h:((match Oj env e.1 with | some v=>Nat.beq v e.2.1 | none=>false)&&B5 env l)=true:=h;rw[aj] at h;rcases aB a with rfl | a
  ·grind[hv,ax]
  ·exact CU h.2 x a
theorem Fl: ∀ {l chs rest:List Ent},KF l chs=some rest->(∀e∈l,∀e'∈chs,e'.1=e.1->e'.2.1=e.2.1->e'=e)->chs.Perm (l++rest)
 | [],chs,rest,h,_=>by cases ad (show some _=some rest from h);rfl
 | e::l,chs,rest,h,k=>by
  have ⟨r,f,h⟩:=bind_some (show (pull e.1 chs).bind _=some rest from h);have ⟨hv,h⟩:=ak h;have ⟨p,d⟩:=hY f;have a:=k e (by simp) r.1 (p.mem_iff.2 (by simp)) d (ax hv);rw[a] at p;exact p.trans ((Fl h fun x g c b=>k x (by grind) c (p.mem_iff.2 (by grind))).cons e)
theorem A4: ∀ {l:List Ent},distinctH l=true-> ∀a∈l,∀b∈l,a.1=b.1->a=b
 | e::l,h,a,ha,b,hb,hab=>by
  have h:(Ev e.1 l&&distinctH l)=true:=h;rw[aj] at h;rcases aB ha with d | d
  ·rcases aB hb with c | c
   ·rw[d,c]
   ·rw[d] at hab;exact absurd hab.symm (qW h.1 c)
  ·rcases aB hb with c | c
   ·grind[absurd,qW]
   ·exact A4 h.2 a d b c hab
theorem Ra {l:List (Nat×Nat×AV)} (h:l.Pairwise fun a b=>a.2.1≠b.2.1): ∀a∈l,∀b∈l,a.2.1=b.2.1->a=b:=by
 induction l with
 | nil=>grind
 | cons e l ih =>
  intro a j b i c;have ⟨g,k⟩:=List.pairwise_cons.1 h;rcases aB j with f | f
  ·rcases aB i with d | d
   ·rw[f,d]
   ·rw[f] at c;exact absurd c (g b d)
  ·rcases aB i with d | d
   ·rw[d] at c;exact absurd c.symm (g a f)
   ·exact ih k a f b d c
structure CutOk (P:Program) (w0:World) (c:Cut) (s:Sg) (J0:Hp) (θ0:Th):Prop where
 nxt:c.nxt=s.nxt
 env: ∀e∈c.env,e∈s.env
 nd:c.env.Pairwise fun a b=>a.2.1≠b.2.1
 chs: ∀e∈c.chs,e∈s.chs
 dist:distinctH s.chs=true
 hdr: ∀h∈hdrsR c.its,h.id<s.nxt
 fine:Fine P w0 J0 θ0 s
 rit: ∀r∈c.its,RitOk P w0 J0 θ0 s.nxt r
section
variable {V:Env} {P:Program} {I:Hp} {w0 w:World} {F:Ch} {J J0:Hp} {θ θ0:Th} {s s':Sg} {a:Act} {c:Cut}
theorem yC {m:List Nat} {l:List It} (h:CT m l s=some c) (o:Fine P w0 J θ s):CutOk P w0 c s J θ:=by
 have ⟨j,C,h⟩:=bind_some h;have ⟨N,h⟩:=ak h;cases ad h;have y: ∀ {l:List It} {j:List RIt},B4 s l=some j-> ∀h∈hdrsR j,h.id<s.nxt:=by
  intro l;induction l with
  | nil=>intro j h x f;cases ad (show some _=some j from h);cases f
  | cons i l ih =>
   intro j h x f;have ⟨r,d,h⟩:=bind_some (show (resolve s i).bind _=some j from h);have ⟨K,A,h⟩:=bind_some h;cases ad h;rcases aI f with f | f
   ·cases i with
    | slot t k=>cases ad (show some _=some r from d);cases f
    | gone t=>cases d
    | cur t =>
     have ⟨B,q,d⟩:=bind_some (show (TG (look s.env t)).bind _=some r from d);have ⟨⟨g,T,E,L⟩,n,d⟩:=bind_some d;cases ad d;have ⟨H,a,b,G⟩:=Mu n;have D:=o.chs _ G;rcases aB f with rfl | f
     ·exact D.1
     ·cases aq f;exact (show LV.ok P w0 J θ s.nxt (.rd _ (.sl E (.int .u8)) L) from D.2.2 _ (by simp)).1
    | agg t m =>
     cases m with
     | nil=>cases d
     | cons k m=>cases ad (show some _=some r from d);cases f
    | par i p E u =>
     have ⟨O,d⟩:=ak (show cz (Nat.blt i s.nxt) _=some r from d);cases ad d;cases aq f;simp_all
    | box t m =>
     have ⟨B,q,d⟩:=bind_some (show (TG (look s.env t)).bind _=some r from d);have ⟨b,n,d⟩:=bind_some d;cases ad d;cases aq f;exact (o.chs _ ((lW n).mem_iff.2 (List.mem_cons_self ..))).1
    | pbx i m =>
     have ⟨b,n,d⟩:=bind_some (show (tf ⟨i,[]⟩ s.chs).bind _=some r from d);cases ad d;cases aq f;exact (o.chs _ ((lW n).mem_iff.2 (List.mem_cons_self ..))).1
    | row t E u =>
     have ⟨B,q,d⟩:=bind_some (show (abJ (look s.env t)).bind _=some r from d);cases ad d;cases aq f;have ⟨e,v,M⟩:=vL (Zo q)
     have:=o.env e v
     rw[M] at this;exact this.1
   grind
 have z: ∀ {l:List It} {j:List RIt},B4 s l=some j-> ∀r∈j,RitOk P w0 J θ s.nxt r:=by
  intro l;induction l with
  | nil=>intro j h x f;cases ad (show some _=some j from h);cases f
  | cons i l ih =>
   intro j h x f;have ⟨r,d,h⟩:=bind_some (show (resolve s i).bind _=some j from h);have ⟨K,A,h⟩:=bind_some h;cases ad h;rcases aB f with rfl | f
   ·cases i with
    | slot t k=>cases ad (show some _=some x from d);trivial
    | gone t=>cases d
    | agg t m =>
     cases m with
     | nil=>cases d
     | cons k m=>cases ad (show some _=some x from d);trivial
    | par i p E u =>
     have ⟨O,d⟩:=ak (show cz (Nat.blt i s.nxt) _=some x from d);cases ad d
     trivial
    | box t m =>
     have ⟨B,q,d⟩:=bind_some (show (TG (look s.env t)).bind _=some x from d);have ⟨b,n,d⟩:=bind_some d;cases ad d
     trivial
    | pbx i m =>
     have ⟨b,n,d⟩:=bind_some (show (tf ⟨i,[]⟩ s.chs).bind _=some x from d);cases ad d
     trivial
    | row t E u =>
     have ⟨B,q,d⟩:=bind_some (show (abJ (look s.env t)).bind _=some x from d);cases ad d
     trivial
    | cur t =>
     have ⟨B,q,d⟩:=bind_some (show (TG (look s.env t)).bind _=some x from d);have ⟨⟨g,T,E,L⟩,n,d⟩:=bind_some d;cases ad d;have ⟨H,a,b,G⟩:=Mu n;exact (show LV.ok P w0 J θ s.nxt (.rd g (.sl E (.int .u8)) L) from (o.chs _ G).2.2 _ (List.mem_cons_self ..))
   grind
 exact ⟨rfl,fun e v=>(List.mem_filter.1 (vO.mem v)).1,(o.nd.filter _).sublist vO,fun e v=>(List.mem_filter.1 v).1,N,y C,o,z C⟩
theorem CV (j:CutOk P w0 c s J0 θ0) (hS:Sim P I w0 F V.n J θ s' a w) (hFr:Fr s θ0 s' θ) (hJ:J0.le J) {d:tT (ur c.its)} (h:c.of s'=some d): ∃θ',Sim P I w0 F V.n J θ' (c.at d) a w/\Fr s θ0 (c.at d) θ':=by
 unfold Cut.of at h;have ⟨S1,F1⟩:=vN (hs:=rH s' c.its) hS;have ⟨H,F2⟩:=vN (hs:=CS c.chs) S1;generalize hs1:yA (CS c.chs) (yA (rH s' c.its) s')=s1 at h H F2;simp only at h;have ⟨q,hq,h⟩:=bind_some h;have ⟨M,D,h⟩:=bind_some h;have ⟨O,h⟩:=ak h;cases ad h;have K:=(hFr.trans F1).trans F2;have l:=K.same;have ⟨Q,R,hvl,X⟩:=Mv (w:=w) (n1:=s.nxt) H.fine.env hq H.fine.chs fun r hr=>by
  have n:=j.rit r hr;cases r with
  | cur h T g E xs=>exact LV.ok_same l (ay _) (show LV.ok P w0 J0 θ0 s.nxt (.rd g (.sl E (.int .u8)) xs) from n) hJ
  | _=>trivial
 let θ':=fun i=>if i<s.nxt then θ i else R.getD (i - s.nxt) undef;have W:Same s.nxt θ θ':=fun i hi=>if_pos hi;have m:=l.trans W (ay _);have U:c.top=s.nxt+(ur c.its).length:=by unfold Cut.top;rw[j.nxt]
 have ⟨e1,e2,e3⟩:=X θ' s.nxt c.top (c.top+1) (fun i v hi=>by
  grind) (by omega) (aJ _) (fun x Z=>⟨bh W (j.hdr x Z),by have:=j.hdr x Z;omega⟩) [F] H.st
 have G: ∀e∈c.chs,∀B∈q.2,B.1=e.1->B.2.1=e.2.1->B=e:=fun e b B he' n N=>by
  have A:=j.chs e b;have Y:=j.fine.chs e A;rcases K.chs B (Q B he') B.1 B.2.1 B.2.2 ⟨rfl,.inl ⟨rfl,rfl⟩⟩ with h3 | ⟨e0,he0,h3⟩
  ·have:=Y.2.1;omega
  ·have:=A4 j.dist e0 he0 e A (h3.1.trans n)
   subst this;rcases h3.2 with ⟨h4,h5⟩ | h4
   ·grind
   ·have ⟨y1,y2,y3⟩:=e0;cases y3 with
    | hole over t dd u y f i k off lv =>
     have h5:=h4.1;have h6:=Y.2.2.2.1;omega
    | _=>exact h4.elim
 have C:=Fl D G;have z:Newer s.nxt s.chs (Ai c.top s.nxt c.its q.1++c.chs):=fun e b h' ver x hs=>by
  rcases aI b with b | b
  ·have ⟨k1,k2⟩:=IS e b;rcases hs.2 with ⟨n,N⟩ | n
   ·omega
   ·have ⟨y1,y2,y3⟩:=e;cases y3 with
    | hole _ _ _ _ _ _ _ _ _ _=>exact k2.elim
    | _=>exact n.elim
  ·exact .inr ⟨e,j.chs e b,hs⟩
 have L: ∀e∈c.env,look s1.env e.1=some e.2.2:=fun e b=>by
  have ⟨x,n,N⟩:=Mw (CU O e b);have A:=j.env e b
  have:=Ra j.fine.nd _ (K.env _ N (j.fine.ver e A)) e A rfl
  grind
 have S:c.at q.1=⟨Ex s.nxt c.its q.1++c.env,Ai c.top s.nxt c.its q.1++c.chs,c.top+1⟩:=by unfold Cut.at;rw[j.nxt]
 have ⟨v1,v2⟩:=IU (rs:=c.its) (id:=s.nxt) (d:=q.1);refine ⟨θ',?_,by
  rw[S];refine ⟨show s.nxt<=c.top+1 by rw[U];omega,m,fun e b hv0=>?_,z⟩;rcases aI b with b | b
  ·have:=v1 e b;omega
  ·exact j.env e b⟩
 rw[S];refine ⟨H.le,H.agr.pick _ fun p hp=>?_,?_,fun e b=>?_,fun e b=>?_,List.pairwise_append.2 ⟨v2,j.nd,fun x Z y hy hxy=>?_⟩,fun e b=>?_,H.fine.lay⟩
 ·obtain ⟨e,b,rfl⟩:=List.mem_map.1 hp;rcases aI b with b | b
  ·obtain ⟨-,x,n,N⟩:=e1 e b;show (envL θ s1).lookup e.1=some (e.2.2.v θ');rw[N];exact jG n
  ·have o:=j.fine.env e (j.env e b);show (envL θ s1).lookup e.1=some (e.2.2.v θ');rw[AV.v_same m o,<-AV.v_same l o];exact jG (L e b)
 ·have hch:c.chs.map (toCh P θ')=c.chs.map (toCh P θ):=List.map_congr_left fun e b=>by
   have o:=j.fine.chs e (j.chs e b);rw[qa m o,qa l o]
  show St J w0 w ((Ai c.top s.nxt c.its q.1++c.chs).map (toCh P θ')++ [F]);rw[aX,hch];have n:=e3.perm (List.Perm.append_left _ ((C.map (toCh P θ)).append_right [F]));rw[aX] at n;refine St.left (ds:=M.map (toCh P θ)) (n.perm ?_);rw[aH,aH,aH];exact (List.Perm.append_left _ (List.Perm.append_left _ List.perm_append_comm))
 ·rcases aI b with b | b
  ·exact (e1 e b).1 _
  ·exact AV.ok_same m (show s.nxt<=c.top+1 by omega) z (j.fine.env e (j.env e b)) hJ
 ·rcases aI b with b | b
  ·have:=v1 e b
   show e.2.1<c.top+1;omega
  ·have:=j.fine.ver e (j.env e b)
   show e.2.1<c.top+1;omega
 ·have:=v1 x Z
  have:=j.fine.ver y (j.env y hy)
  omega
 ·rcases aI b with b | b
  ·exact e2 _ e b
  ·exact iy m (show s.nxt<=c.top+1 by omega) z (j.fine.chs e (j.chs e b)) hJ
end
end R
end Go.Proofs.YtphjdcoponilmaaGreatDoor
