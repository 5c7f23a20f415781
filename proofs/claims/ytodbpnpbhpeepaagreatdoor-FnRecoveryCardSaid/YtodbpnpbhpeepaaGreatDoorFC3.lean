/- FnRecovery: for every input the law returns true and changes nothing that was there. Part 4 of 9. -/
import Derived.Test.YtodbpnpbhpeepaaGreatDoorFC2
set_option synthInstance.maxSize 20000
set_option synthInstance.maxHeartbeats 2000000
set_option linter.unusedVariables false
set_option linter.unusedSimpArgs false
set_option linter.unnecessarySimpa false
set_option linter.unusedSectionVars false
set_option maxRecDepth 1000000
namespace Go.Proofs.YtodbpnpbhpeepaaGreatDoor
open Go.IntKind (i64)
namespace R
open Go.RowKit
open D
section
variable {P:Program} {I:Hp} {w0:World} {o:Oper} {ev:Operand->Value}
theorem KS {x:Operand} {a:Addr} (b:o.op= .nilCheck x) (c:ev x= .pointer (some a)):OpT P I w0 o ev [] (· = .pointer (some a)) (fun _=>[]):=
 bt fun w=>by simp_all[execOp]
theorem W5 {x y:Operand} {T U:TypeId} {m n:Int} (a:o.op= .call { callee:=.builtin .min,args:= #[x,y],argTypes:= #[T,U] }) (b:ev x= .int .i64 m) (c:ev y= .int .i64 n):OpT P I w0 o ev [] (· = .int .i64 (min m n)) (fun _=>[]):=
 bt fun w=>by
  have e:min m n=if n<m then n else m:=by omega
  simp_all[execOp,resolve,invoke,builtin,Builtin.min_,Builtin.min2]
theorem W6 {x y:Operand} {T U:TypeId} {m n:Int} (a:o.op= .call { callee:=.builtin .max,args:= #[x,y],argTypes:= #[T,U] }) (b:ev x= .int .i64 m) (c:ev y= .int .i64 n):OpT P I w0 o ev [] (· = .int .i64 (max m n)) (fun _=>[]):=
 bt fun w=>by
  have e:max m n=if m<n then n else m:=by omega
  simp_all[execOp,resolve,invoke,builtin,Builtin.max_,Builtin.max2]
theorem DV {t e:TypeId} {a:Option Addr} {w:World} (b:P.underlying t=some (.pointer e)):(Op.equal t (.pointer a) (.pointer none)).run P w= .ok a.isNone w:=by
 have key: ∀n,(Op.equalIn (n+1) t (.pointer a) (.pointer none)).run P w= .ok a.isNone w:=fun n=>by
  unfold Op.equalIn;rw[Sem.run_bind,run_underlying b,Result.andThen_ok];cases a <;> rfl
 exact key 9999
theorem OK {t e:TypeId} {a:Option Addr} {l c:Nat} {w:World} (b:P.underlying t=some (.slice e)):(Op.equal t (.slice a l c) (.slice none 0 0)).run P w= .ok (GX (.slice a l c)) w:=by
 have key: ∀n,(Op.equalIn (n+1) t (.slice a l c) (.slice none 0 0)).run P w= .ok (GX (.slice a l c)) w:=fun n=>by
  unfold Op.equalIn;rw[Sem.run_bind,run_underlying b,Result.andThen_ok];cases a <;> rfl
 exact key 9999
theorem I8 {x y:Operand} {t u e:TypeId} {a:Option Addr} {l c:Nat} (b:P.underlying t=some (.slice e)) (d:o.op= .binOp .eql t x y u) (f:ev x= .slice a l c) (g:ev y= .slice none 0 0):OpT P I w0 o ev [] (· = .bool (GX (.slice a l c))) (fun _=>[]):=
 bt fun w=>by
  have h:eqGuard .eql t x y (.slice a l c) (.slice none 0 0)=pure ():=rfl;have i:binOp .eql t (.slice a l c) (.slice none 0 0)=(do pure (.bool (<-Op.equal t (.slice a l c) (.slice none 0 0)))):=rfl;simp_all[execOp,Sem.run_bind,Sem.run_pure,OK,Result.andThen_ok]
theorem OL {x y:Operand} {t u e:TypeId} {a:Option Addr} (b:P.underlying t=some (.pointer e)) (c:o.op= .binOp .eql t x y u) (d:ev x= .pointer a) (f:ev y= .pointer none):OpT P I w0 o ev [] (· = .bool a.isNone) (fun _=>[]):=
 bt fun w=>by
  have g:eqGuard .eql t x y (.pointer a) (.pointer none)=pure ():=rfl;have h:binOp .eql t (.pointer a) (.pointer none)=(do pure (.bool (<-Op.equal t (.pointer a) (.pointer none)))):=rfl;simp_all[execOp,Sem.run_bind,Sem.run_pure,DV,Result.andThen_ok]
theorem OM {x y:Operand} {t u e:TypeId} {a:Option Addr} (b:P.underlying t=some (.pointer e)) (c:o.op= .binOp .neq t x y u) (d:ev x= .pointer a) (f:ev y= .pointer none):OpT P I w0 o ev [] (· = .bool (!a.isNone)) (fun _=>[]):=
 bt fun w=>by
  have g:eqGuard .neq t x y (.pointer a) (.pointer none)=pure ():=rfl;have h:binOp .neq t (.pointer a) (.pointer none)=(do pure (.bool (!(<-Op.equal t (.pointer a) (.pointer none))))):=rfl;simp_all[execOp,Sem.run_bind,Sem.run_pure,DV,Result.andThen_ok]
end
section
variable {Y:Type} (tt:TT) (s:Sg) (k:Res->Option Y)
def W7 (x:Operand):Option Y:=match opd s x with
 | some (.one (.ptr h off))=>k (.pure s (.one (.ptr h off)))
 | some (.one (.rd h (.tree T E t) d))=>(Tr.get d).bind fun _=>k (.pure s (.one (.rd h (.tree T E t) d)))
 | _=>none
def ab5 (x y:Operand):Option Y:=match opd s x,opd s y with
 | some (.one (.val (.int .i64 m))),some (.one (.val (.int .i64 n)))=>kv s k (.int .i64 (min m n))
 | _,_=>none
def ab6 (x y:Operand):Option Y:=match opd s x,opd s y with
 | some (.one (.val (.int .i64 m))),some (.one (.val (.int .i64 n)))=>kv s k (.int .i64 (max m n))
 | _,_=>none
def ab7 (b:BinOp) (T:TypeId) (x y:Operand):Option Y:=(td tt T).bind fun q=>q.pt.bind fun _=>match opd s x,opd s y with
 | some (.one (.rd h (.tree T' E t) d)),some (.one (.val v))=>b8 (DQ v) (match b with
  | .eql=>kv s k (.bool d.isNil)
  | .neq=>k (.pure s (.one (.nb d.isNil)))
  | _=>none)
 | some (.one (.ptr h off)),some (.one (.val v))=>b8 (DQ v) (match b with
  | .eql=>kv s k (.bool false)
  | .neq=>kv s k (.bool true)
  | _=>none)
 | _,_=>none
def abu (b:BinOp) (T:TypeId) (x y:Operand):Option Y:=(td tt T).bind fun q=>q.el.bind fun _=>match opd s x,opd s y,b with
 | some (.one (.rdn h b (.sl E t) d)),some (.one (.val v)),.eql=>b8 (isNil v) (kv s k (.bool b))
 | some (.one (.own h)),some (.one (.val v)),.eql=>b8 (isNil v) ((rowOf h s.chs).bind fun r=>(chk (0<(r.xs.length:Int))).bind fun _=>k ⟨[r.ent h],[],r.rest,[],.one (.val (.bool false))⟩)
 | some (.one (.val u)),some (.one (.val v)),.eql=>b8 (isNil v&&isNil u) (kv s k (.bool true))
 | _,_,_=>none
def ON (T:TypeId) (x:Operand) (f:Nat):Option Y:=(td tt T).bind fun d=>(d.fields[f]?).bind fun q=>match opd s x with
 | some (.one (.rd h (.tree T' E t) a))=>(Tr.get a).bind fun p=>k (.pure s (.one (.fz h T' (.prod t (.sl E (.tree T' E t))) p q.1)))
 | _=>none
def ab8 (s:Sg) (x:Operand):Option (Hdr×(E:TypeId)×(t:Ty)×List t.den):=match opd s x with
 | some (.one (.rd h (.sl E t) xs))=>some (h,⟨E,t,xs⟩)
 | _=>none
def asI (s:Sg) (x:Operand):Option Int:=match opd s x with
 | some (.one (.val (.int .i64 m)))=>some m
 | _=>none
def Sq (E:TypeId) (t:Ty) (xs:List t.den):Option Y:=k (.pure s (.one (.rd ⟨s.nxt,[]⟩ (.sl E t) xs)))
def OO (T:TypeId) (x:Operand) (lo hi:Option Operand):Option Y:=(td tt T).bind fun d=>d.el.bind fun E'=>(td tt E').bind fun e=>(ab8 s x).bind fun r=>b8 (Nat.beq e.n r.2.2.1.size) (match lo,hi with
 | some l,none=>(asI s l).bind fun l=>(chk (0<=l/\l<=(r.2.2.2.length:Int))).bind fun _=>Sq s k r.2.1 r.2.2.1 (r.2.2.2.drop l.toNat)
 | none,some h=>(asI s h).bind fun h=>(chk (0<=h/\h<=(r.2.2.2.length:Int))).bind fun _=>Sq s k r.2.1 r.2.2.1 (r.2.2.2.take h.toNat)
 | some l,some h=>(asI s l).bind fun l=>(asI s h).bind fun h=>(chk (0<=l/\l<=h/\h<=(r.2.2.2.length:Int))).bind fun _=>Sq s k r.2.1 r.2.2.1 ((r.2.2.2.take h.toNat).drop l.toNat)
 | none,none=>none)
def OP (T:TypeId) (x:Operand) (lo hi:Option Operand):Option Y:=(td tt T).bind fun d=>match d.el,opd s x,lo,hi with
 | some E',some (.one (.own h)),none,some hi=>(rowOf h s.chs).bind fun r=>(td tt E').bind fun e=>b8 (Nat.beq e.n r.t.size) ((asI s hi).bind fun m=>(chk (0<=m/\m<=(r.xs.length:Int))).bind fun _=>newRow s k r.E r.t [r.ent h] r.rest (r.xs.take m.toNat))
 | _,_,_,_=>none
def OQ (T:TypeId) (x:Operand) (lo hi:Option Operand):Option Y:=(td tt T).bind fun d=>match d.el,opd s x,lo,hi with
 | some E',some (.one (.own h)),some lo,none=>(rowOf h s.chs).bind fun r=>(td tt E').bind fun e=>b8 (Nat.beq e.n r.t.size) ((asI s lo).bind fun m=>(chk (0<=m/\m<=(r.xs.length:Int))).bind fun _=>newRow s k r.E r.t [r.ent h] r.rest (r.xs.drop m.toNat))
 | _,_,_,_=>none
def OR (T:TypeId) (x:Operand) (lo hi:Option Operand):Option Y:=(td tt T).bind fun d=>match d.el,opd s x,lo,hi with
 | some E',some (.one (.own h)),some lo,none=>(rowOf h s.chs).bind fun r=>(td tt E').bind fun e=>b8 (Nat.beq e.n r.t.size) ((asI s lo).bind fun m=>(chk (0<=m/\m<=(r.xs.length:Int))).bind fun _=>k ⟨[r.ent h],[],r.rest,[],.sub h r.ver r.E r.t r.xs m⟩)
 | _,_,_,_=>none
def OS (T:TypeId) (x:Operand) (lo hi:Option Operand):Option Y:=(td tt T).bind fun d=>match d.el,opd s x,lo,hi with
 | some E',some (.one (.own h)),none,some hi=>(rowOf h s.chs).bind fun r=>(td tt E').bind fun e=>b8 (Nat.beq e.n r.t.size) ((asI s hi).bind fun m=>(chk (0<=m/\m<=(r.xs.length:Int))).bind fun _=>k ⟨[r.ent h],[],r.rest,[],.pre h r.ver r.E r.t r.xs m⟩)
 | _,_,_,_=>none
structure Src0 where
 h:Hdr
 sub:Bool
 ver:Nat
 lo:Int
def U5:AV->Option Src0
 | .one (.own h)=>some ⟨h,false,0,0⟩
 | .sub h ver _ _ _ l=>some ⟨h,true,ver,l⟩
 | _=>none
def U6 (h:Hdr) (ver:Nat) (E:TypeId) (k1:IntKind) (xs:List Int) (rest:List Ent) (lo:Int) (y:AV):Option Y:=match y with
 | .one (.rd _ (.sl _ (.int k2)) ys)=>b8 (k1==k2) ((chk (0<=lo/\lo<=(xs.length:Int))).bind fun _=>k ⟨[],[(h,ver,.own (.sl E (.int k1)) xs)],rest,[(h,.own (.sl E (.int k1)) (GI xs lo.toNat ys))],.one (.val (.int .i64 ((min ys.length (xs.length - lo.toNat):Nat):Int)))⟩)
 | .pre h2 v2 _ _ _ hi=>b8 (Hdr.beq h2 h&&Nat.beq v2 ver) ((chk (0<=lo/\lo<=(xs.length:Int))).bind fun _=>(chk (0<=hi/\hi<=(xs.length:Int))).bind fun _=>k ⟨[],[(h,ver,.own (.sl E (.int k1)) xs)],rest,[(h,.own (.sl E (.int k1)) (GI xs lo.toNat (xs.take hi.toNat)))],.one (.val (.int .i64 ((min (xs.take hi.toNat).length (xs.length - lo.toNat):Nat):Int)))⟩)
 | _=>none
def I9 (r:Row):Option ((k:IntKind)×List Int):=match r.t,r.xs with
 | .int k,xs=>some ⟨k,xs⟩
 | _,_=>none
def ZG (T:TypeId) (x y:Operand):Option Y:=(td tt T).bind fun d=>d.el.bind fun E=>(td tt E).bind fun e=>b8 (Nat.beq e.n 1) ((opd s x).bind fun xv=>(U5 xv).bind fun c=>(rowOf c.h s.chs).bind fun r=>b8 (Nat.beq r.E E&&(!c.sub || Nat.beq c.ver r.ver)) ((I9 r).bind fun q=>(opd s y).bind fun yv=>U6 k c.h r.ver r.E q.1 q.2 r.rest c.lo yv))
def OT (E b:Nat) (x:Operand):Option Y:=match opd s x with
 | some (.sub h ver E' t xs l)=>(rowOf h s.chs).bind fun r=>b8 (Nat.beq r.ver ver&&(t.sh&&Nat.beq t.size 1)) ((bw b [] (xs.drop l.toNat)).bind fun zs=>k ⟨[r.ent h],[],r.rest,[(⟨s.nxt,[]⟩,.own (.sl E t) zs)],.one (.own ⟨s.nxt,[]⟩)⟩)
 | some (.one (.own h))=>(rowOf h s.chs).bind fun r=>b8 (r.t.sh&&Nat.beq r.t.size 1) ((bw b [] r.xs).bind fun zs=>k ⟨[r.ent h],[],r.rest,[(⟨s.nxt,[]⟩,.own (.sl E r.t) zs)],.one (.own ⟨s.nxt,[]⟩)⟩)
 | some (.one (.rd h (.sl E' t) xs))=>b8 (t.sh&&Nat.beq t.size 1) ((bw b [] xs).bind fun zs=>newRow s k E t [] s.chs zs)
 | _=>none
end
section
variable {Y:Type} {tt:TT} {s:Sg} {k:Res->Option Y} {P:Program} {w0:World} {o:Oper} {res:Y} {x y:Operand}
theorem Sr {av:AV} {fact:Hp->Th->Value->Prop} (a: ∀J θ,Fine P w0 J θ s->OpT P J w0 o (evL (envL θ s)) [] (fact J θ) (fun _=>[])) (b: ∀J θ v,Fine P w0 J θ s->fact J θ v->av.ok P w0 J (upd θ s.nxt v) (s.nxt+1) s.chs/\av.v (upd θ s.nxt v)=v):Good P w0 s o (Res.pure s av):=
 ⟨List.Perm.refl _,fun _ _ _ g c=>(by cases c),fun J θ d=>OpT.weak (a J θ d) (fun v hv=>by
  have ⟨f,e⟩:=b J θ v d hv;exact ⟨f,e,fun g c=>by cases c⟩) (fun v hv=>rfl)⟩
theorem Ss (j:o.op= .nilCheck x) (h:W7 s k x=some res):Oks P w0 s o k res:=by
 unfold W7 at h;split at h
 ·rename_i g off a;exact ⟨_,h,fI (fun J θ c=>KS j (aI a)) fun J θ c=>b7 c a⟩
 ·rename_i g T E t d a;have ⟨p,hp,h⟩:=bind_some h;refine ⟨_,h,fI (fun J θ c=>?_) fun J θ c=>b7 c a⟩;have f:=b7 c a;obtain ⟨b,e,-⟩:=Kt (E:=E) f.2 hp;have i:=(aI a).trans e;grind[KS,aI]
 grind
theorem W8 {T U:TypeId} (a:o.op= .call { callee:=.builtin .min,args:= #[x,y],argTypes:= #[T,U] }) (h:ab5 s k x y=some res):Oks P w0 s o k res:=by
 unfold ab5 at h;split at h
 ·rename_i m n b c;exact l9 h rfl fun J θ d=>W5 a (aI b) (aI c)
 grind
theorem W9 {T U:TypeId} (a:o.op= .call { callee:=.builtin .max,args:= #[x,y],argTypes:= #[T,U] }) (h:ab6 s k x y=some res):Oks P w0 s o k res:=by
 unfold ab6 at h;split at h
 ·rename_i m n b c;exact l9 h rfl fun J θ d=>W6 a (aI b) (aI c)
 grind
theorem OU (r:TTok P tt) {b:BinOp} {t u:TypeId} (n:o.op= .binOp b t x y u) (h:ab7 tt s k b t x y=some res):Oks P w0 s o k res:=by
 have ⟨q,A,h⟩:=bind_some h;have ⟨e,w,h⟩:=bind_some h;have c:=(r.get A).pt e w;split at h
 ·rename_i z B E C d v m j;have ⟨f,h⟩:=ai h;have f:=Bp f;subst f;have key: ∀J θ,Fine P w0 J θ s-> ∃a:Option Addr,evL (envL θ s) x= .pointer a/\a.isNone=d.isNil:=fun J θ g=>by
   have p:=b7 g m;have ⟨a,i,l⟩:=R1 p.2;exact ⟨a,(aI m).trans i,l⟩
  split at h
  ·refine l9 h rfl fun J θ g=>?_;have ⟨a,i,l⟩:=key J θ g;rw[<-l];exact OL c n i (aI j)
  ·refine ⟨_,h,fI (fun J θ g=>?_) fun _ _ _=>trivial⟩;have ⟨a,i,l⟩:=key J θ g;rw[<-l];exact OM c n i (aI j)
  grind
 ·rename_i z off v m j;have ⟨f,h⟩:=ai h;have f:=Bp f;subst f;split at h
  ·exact l9 h rfl fun J θ g=>OL c n (aI m) (aI j)
  ·exact l9 h rfl fun J θ g=>OM c n (aI m) (aI j)
  grind
 grind
theorem Ja (D:TTok P tt) {b:BinOp} {t u:TypeId} (n:o.op= .binOp b t x y u) (h:abu tt s k b t x y=some res):Oks P w0 s o k res:=by
 have ⟨q,I,h⟩:=bind_some h;have ⟨e,G,h⟩:=bind_some h;have c:=(D.get I).el e G;split at h
 ·rename_i z M E O d v f i _ _;have ⟨a,h⟩:=ai h;have a:=oM a;subst a;refine l9 h rfl fun J θ m=>?_;have p:=b7 m f;obtain ⟨Q,⟨w,cap,l,-⟩,A⟩:=p;have l:hv θ z= .slice w d.length cap:=by simpa using l
  rw[l] at A;rw[<-A];exact I8 c n ((aI f).trans l) (aI i)
 ·rename_i z v f i _ _;have ⟨a,h⟩:=ai h;have a:=oM a;subst a;have ⟨r,K,h⟩:=bind_some h;have ⟨R,B,h⟩:=bind_some h;have B:=bO B;obtain ⟨hp,-⟩:=bU K;refine ⟨_,h,pg hp,aW rfl,fun J θ m=>OpT.weak (wF (fact:=(· = .bool false)) fun H=>?_) (fun u j=>?_) (fun u j=>rfl)⟩
  ·have ⟨w,cap,F,L,S⟩:=H;obtain ⟨N,off,rfl⟩:=L (by omega);exact I8 c n ((aI f).trans F) (aI i)
  ·subst j;exact ⟨Eq.refl true,rfl,fun g C=>by cases C⟩
 ·rename_i u v f i _ _;have ⟨a,h⟩:=ai h;rw[ak] at a;have hv:=oM a.1;have j:=oM a.2;subst hv;subst j;exact l9 h rfl fun J θ m=>I8 c n (aI f) (aI i)
 grind
theorem My (v:TTok P tt) {T:TypeId} {f:Nat} (w:o.op= .fieldAddr T x f) (h:ON tt s k T x f=some res):Oks P w0 s o k res:=by
 have ⟨d,B,h⟩:=bind_some h;have ⟨q,A,h⟩:=bind_some h;split at h
 ·rename_i m r E t a u;have ⟨p,hp,h⟩:=bind_some h;have n:=(v.get B).fld f q A;have key: ∀J θ,Fine P w0 J θ s->m.id<s.nxt/\ ∃b,hv θ m= .pointer (some ⟨b,0,none⟩)/\ ∃cells:List Value,J b=some (.cells cells.toArray r (0,0))/\(Ty.prod t (.sl E (.tree r E t))).rep.rd J cells p:=fun J θ c=>by
   have g:=b7 c u;have ⟨b,e,cells,l,j⟩:=Kt (E:=E) g.2 hp;exact ⟨g.1,b,e,cells,l,j⟩
  refine ⟨_,h,fI (fun J θ c=>?_) fun J θ c=>?_⟩
  ·obtain ⟨-,b,e,-⟩:=key J θ c;have i:=(aI u).trans e
   have:=nA (P:=P) (I:=J) (w0:=w0) n w i
   rw[Nat.zero_add] at this;show OpT P J w0 o _ [] (· = .pointer (some ⟨bk (hv θ m),q.1,none⟩)) _;rw[e];exact this
  ·have ⟨z,b,e,cells,l,j⟩:=key J θ c;exact ⟨z,cells,by rw[e];exact l,j⟩
 grind
theorem Xa {r:Hdr×(E:TypeId)×(t:Ty)×List t.den} (h:ab8 s x=some r):opd s x=some (.one (.rd r.1 (.sl r.2.1 r.2.2.1) r.2.2.2)):=by
 grind[ab8,ae]
theorem pj {m:Int} (h:asI s x=some m) (θ:Th):evL (envL θ s) x= .int .i64 m:=by
 unfold asI at h;split at h
 ·rename_i a;cases ae h;exact aI a
 grind
theorem Fk {E:TypeId} {t:Ty} {xs:List t.den} (h:Sq s k E t xs=some res) (a: ∀J θ,Fine P w0 J θ s->OpT P J w0 o (evL (envL θ s)) [] (fun v=>(Ty.sl E t).rep.rd J [v] xs) (fun _=>[])):Oks P w0 s o k res:=
 ⟨_,h,Sr (fact:=fun J θ v=>(Ty.sl E t).rep.rd J [v] xs) a fun J θ v c b=>⟨⟨aA _,by grind[ep]⟩,ep⟩⟩
theorem Mz (r:TTok P tt) {T:TypeId} {lo hi:Option Operand} (p:o.op= .slice T x lo hi none) (h:OO tt s k T x lo hi=some res):Oks P w0 s o k res:=by
 have ⟨d,C,h⟩:=bind_some h;have ⟨F,D,h⟩:=bind_some h;have ⟨e,z,h⟩:=bind_some h;have ⟨⟨A,E,t,w⟩,B,h⟩:=bind_some h;have l:=Xa B;have ⟨n,h⟩:=ai h;have n:=au n;have f:=(r.get C).el F D;have g:=(r.get z).ti;have key: ∀J θ,Fine P w0 J θ s->(ay E t.rep).rd J [hv θ A] w:=fun J θ c=>(b7 c l).2;have i:=t.rep_size.trans n.symm;split at h
 ·have ⟨m,j,h⟩:=bind_some h;have ⟨u,b,h⟩:=bind_some h;have b:=bO b;refine Fk h fun J θ c=>OpT.weak (wD f g (Hd.of_rd (key J θ c)) p (aI l) (pj j θ) b) (fun v a=>?_) (fun v a=>rfl);subst a;exact Ks (key J θ c) (by grind) i
 ·have ⟨m,j,h⟩:=bind_some h;have ⟨u,b,h⟩:=bind_some h;have b:=bO b;refine Fk h fun J θ c=>OpT.weak (wE f g (Hd.of_rd (key J θ c)) p (aI l) (pj j θ) b) (fun v a=>?_) (fun v a=>rfl);subst a;exact RX (key J θ c) (by omega) i
 ·have ⟨m,j,h⟩:=bind_some h;have ⟨G,q,h⟩:=bind_some h;have ⟨u,b,h⟩:=bind_some h;have b:=bO b;refine Fk h fun J θ c=>OpT.weak (GV f g (Hd.of_rd (key J θ c)) p (aI l) (pj j θ) (pj q θ) b) (fun v a=>?_) (fun v a=>rfl);subst a;exact Kr (key J θ c) (by omega) (by omega) i
 grind
theorem Su {α:Type} {E:TypeId} {R:Rep α} {I:Hp} {w:World} {C:List Ch} {v:Value} {xs:List α} {m n:Nat} (h:St I w0 w (Ch.own (ay E R) [v] xs::C)) (V:m<=xs.length) (M:R.size=n):St I w0 w (Ch.own (ay E R) [sQ v m xs.length n] (xs.drop m)::C):=by
 obtain ⟨l,j,F,⟨G,K,rfl,k,e⟩,r,i⟩:=h;have ⟨S,k⟩:=k;have t:(xs.drop m).length=xs.length - m:=aZ;rcases k with ⟨q,rfl,rfl⟩ | ⟨g,c,cap,cur,L,q,z,N,T,Q,rfl,A⟩
 ·obtain rfl:v= .slice none 0 0:=by grind
  obtain rfl:m=0:=by grind
  refine ⟨l,j,[] ++K,⟨[],K,rfl,⟨by simp,.inl ⟨?_,rfl,rfl⟩⟩,e⟩,r,i⟩
  rfl
 ·rw[<-List.take_append_drop m xs] at A;obtain ⟨O,D,f,a,H,B,rfl,-,u⟩:=A.cut2;have hp:((g::(f++a))++K).Perm (((g::a)++K)++f):=by
   rw[aC]
   have:((f++a)++K).Perm (a++(K++f)):=by
    rw[aC,<-aC a K f];exact List.perm_append_comm
   exact this.cons g
  have J:cur.toList.drop (c+m*R.size)=D:=by
   rw[<-List.drop_drop,H]
   have:(xs.take m).length=m:=by rw[aB];omega
   rw[this] at B;exact List.drop_left' B
  by_cases U:cap=m
  ·have d:xs.drop m= []:=List.eq_nil_of_length_eq_zero (by omega);rw[d] at u;obtain rfl:a= []:=u;refine ⟨l,j,(g:: [])++K,⟨g:: [],K,rfl,⟨by omega,.inr ⟨g,c,0,cur,[],?_,z,by omega,Nat.zero_le _,by omega,rfl,by rw[d];rfl⟩⟩,e⟩,(List.nodup_append.1 (hp.nodup_iff.1 r)).1,fun b p=>i b (hp.mem_iff.2 (bg _ p))⟩;grind[sQ,sliced]
  ·refine ⟨l,j,(g::a)++K,⟨g::a,K,rfl,⟨by omega,.inr ⟨g,c+m*R.size,cap - m,cur,a,?_,z,by omega,by omega,?_,rfl,by grind⟩⟩,e⟩,(List.nodup_append.1 (hp.nodup_iff.1 r)).1,fun b p=>i b (hp.mem_iff.2 (bg _ p))⟩
   ·grind[sQ,sliced,Addr.add_mid]
   ·have:m*R.size+(cap - m)*R.size=cap*R.size:=by rw[<-Nat.add_mul];congr 1;omega
    omega
theorem Sv {α:Type} {E:TypeId} {R:Rep α} {I:Hp} {w:World} {C:List Ch} {v:Value} {xs:List α} {m n:Nat} (h:St I w0 w (Ch.own (ay E R) [v] xs::C)) (M:m<=xs.length) (H:R.size=n):St I w0 w (Ch.own (ay E R) [sQ v 0 m n] (xs.take m)::C):=by
 obtain ⟨p,l,F,⟨G,K,rfl,k,e⟩,r,j⟩:=h;have ⟨L,k⟩:=k;have i:(xs.take m).length=m:=by rw[aB];omega
 rcases k with ⟨f,rfl,rfl⟩ | ⟨g,d,cap,cur,D,f,z,J,A,u,rfl,q⟩
 ·obtain rfl:v= .slice none 0 0:=by grind
  obtain rfl:m=0:=by grind
  refine ⟨p,l,[] ++K,⟨[],K,rfl,⟨by simp,.inl ⟨?_,rfl,rfl⟩⟩,e⟩,r,j⟩
  rfl
 ·rw[<-List.take_append_drop m xs] at q;obtain ⟨a,c,rfl,t,-⟩:=q.parts;have hp:((g::(a++c))++K).Perm (((g::a)++K)++c):=by
   rw[aC];show (g::((a++c)++K)).Perm (g::(a++(K++c)));rw[aC];exact (List.perm_append_comm.append_left a).cons g
  refine ⟨p,l,(g::a)++K,⟨g::a,K,rfl,⟨by omega,.inr ⟨g,d,cap,cur,a,?_,z,by omega,A,u,rfl,t⟩⟩,e⟩,(List.nodup_append.1 (hp.nodup_iff.1 r)).1,fun b B=>j b (hp.mem_iff.2 (bg _ B))⟩;grind[sQ,sliced,Addr.add]
theorem MA (i:TTok P tt) {T:TypeId} {lo hi:Option Operand} (j:o.op= .slice T x lo hi none) (h:OP tt s k T x lo hi=some res):Oks P w0 s o k res:=by
 have ⟨d,z,h⟩:=bind_some h;split at h
 ·rename_i G c D n A _;have ⟨r,t,h⟩:=bind_some h;have ⟨e,B,h⟩:=bind_some h;have ⟨a,h⟩:=ai h;have a:=au a;have ⟨m,E,h⟩:=bind_some h;have ⟨u,g,h⟩:=bind_some h;have g:=bO g;obtain ⟨hp,-⟩:=bU t;have b:=r.t.rep_size.trans a.symm;refine ⟨_,h,good_row (rs:=[]) (Dg hp) fun J θ F=>?_⟩;have p:OpT P J w0 o (evL (envL θ s)) [Ch.own (ay r.E r.t.rep) [hv θ c] r.xs] (· =sQ (hv θ c) 0 m.toNat e.n) (fun _=>[Ch.own (ay r.E r.t.rep) [hv θ c] r.xs]):=wF fun q=>wE ((i.get z).el _ n) (i.get B).ti q j (aI A) (pj E θ) g;refine OpT.post p fun v w C f l=>⟨trivial,?_⟩
  subst f;exact Sv l (by omega) b
 grind
theorem MB (i:TTok P tt) {T:TypeId} {lo hi:Option Operand} (j:o.op= .slice T x lo hi none) (h:OQ tt s k T x lo hi=some res):Oks P w0 s o k res:=by
 have ⟨d,A,h⟩:=bind_some h;split at h
 ·rename_i G c q n B _;have ⟨r,z,h⟩:=bind_some h;have ⟨e,D,h⟩:=bind_some h;have ⟨a,h⟩:=ai h;have a:=au a;have ⟨m,E,h⟩:=bind_some h;have ⟨u,g,h⟩:=bind_some h;have g:=bO g;obtain ⟨hp,-⟩:=bU z;have b:=r.t.rep_size.trans a.symm;refine ⟨_,h,good_row (rs:=[]) (Dg hp) fun J θ F=>?_⟩;have p:OpT P J w0 o (evL (envL θ s)) [Ch.own (ay r.E r.t.rep) [hv θ c] r.xs] (· =sQ (hv θ c) m.toNat r.xs.length e.n) (fun _=>[Ch.own (ay r.E r.t.rep) [hv θ c] r.xs]):=wF fun t=>wD ((i.get A).el _ n) (i.get D).ti t j (aI B) (pj E θ) g;refine OpT.post p fun v w C f l=>⟨trivial,?_⟩
  subst f;exact Su l (by omega) b
 grind
theorem OV {h:Hdr} {ver:Nat} {E:TypeId} {t:Ty} {xs:List t.den} {l:Int} {J:Hp} {θ:Th} {r:Row} (a:rowOf h s.chs=some r) (hv:r.ver=ver) (b:AV.ok P w0 J θ s.nxt s.chs (.sub h ver E t xs l)):r.ent h=(h,ver,.own (.sl E t) xs):=by
 obtain ⟨hp,-⟩:=bU a
 have:=b.2.2.2 (r.ent h) (hp.mem_iff.2 (by simp)) _ ⟨rfl,.inl ⟨hv,rfl⟩⟩
 show (h,r.ver,Chk.own (.sl r.E r.t) r.xs)=_;rw[hv,show Chk.own (.sl r.E r.t) r.xs=_ from this]
theorem MC (l:TTok P tt) {T:TypeId} {lo hi:Option Operand} (q:o.op= .slice T x lo hi none) (h:OR tt s k T x lo hi=some res):Oks P w0 s o k res:=by
 have ⟨d,z,h⟩:=bind_some h;split at h
 ·rename_i D b v t A _;have ⟨r,n,h⟩:=bind_some h;have ⟨e,B,h⟩:=bind_some h;have ⟨f,h⟩:=ai h;have f:=au f;have ⟨m,C,h⟩:=bind_some h;have ⟨u,c,h⟩:=bind_some h;have c:=bO c;obtain ⟨hp,-⟩:=bU n;refine ⟨_,h,pg hp,aW rfl,fun J θ j=>OpT.weak (wF (fact:=(· =sQ (hv θ b) m.toNat r.xs.length e.n)) fun w=>wD ((l.get z).el _ t) (l.get B).ti w q (aI A) (pj C θ) c) (fun u i=>?_) (fun u i=>rfl)⟩;have a:=lP j hp;refine ⟨⟨a8 a.1,c,(xz n a.2.1).newer (Res.newer (pg hp) (aW rfl J θ j)) (Nat.le_succ _)⟩,?_,fun g p=>by cases p⟩;rw[i,f];show sQ (hv (upd θ s.nxt _) b) _ _ _=sQ (hv θ b) _ _ _;rw[show hv (upd θ s.nxt _) b=hv θ b from bc Same.upd a.1]
 grind
theorem MF (l:TTok P tt) {T:TypeId} {lo hi:Option Operand} (q:o.op= .slice T x lo hi none) (h:OS tt s k T x lo hi=some res):Oks P w0 s o k res:=by
 have ⟨d,w,h⟩:=bind_some h;split at h
 ·rename_i D b B t z _;have ⟨r,n,h⟩:=bind_some h;have ⟨e,A,h⟩:=bind_some h;have ⟨f,h⟩:=ai h;have f:=au f;have ⟨m,C,h⟩:=bind_some h;have ⟨u,c,h⟩:=bind_some h;have c:=bO c;obtain ⟨hp,-⟩:=bU n;refine ⟨_,h,pg hp,aW rfl,fun J θ j=>OpT.weak (wF (fact:=(· =sQ (hv θ b) 0 m.toNat e.n)) fun v=>wE ((l.get w).el _ t) (l.get A).ti v q (aI z) (pj C θ) c) (fun u i=>?_) (fun u i=>rfl)⟩;have a:=lP j hp;refine ⟨⟨a8 a.1,c,(xz n a.2.1).newer (Res.newer (pg hp) (aW rfl J θ j)) (Nat.le_succ _)⟩,?_,fun g p=>by cases p⟩;rw[i,f];show sQ (hv (upd θ s.nxt _) b) _ _ _=sQ (hv θ b) _ _ _;rw[show hv (upd θ s.nxt _) b=hv θ b from bc Same.upd a.1]
 grind
theorem KT {e:Ent} {rest:List Ent} {t:Ty} {d:t.den} {v:Value} (hp:s.chs.Perm (e::rest)) (h1:v.oneCell'=true) (b: ∀J θ,Fine P w0 J θ s->OpT P J w0 o (evL (envL θ s)) [toCh P θ e] (· =v) (fun _=>[Ch.own t.rep [hv θ e.1] d])):Good P w0 s o ⟨[],[e],rest,[(e.1,.own t d)],.one (.val v)⟩:=by
 refine ⟨Dg hp,aW rfl,fun J θ c=>OpT.weak (b J θ c) (fun u f=>?_) (fun u f=>?_)⟩
 ·have a:=lP c hp;refine ⟨h1,f.symm,fun g h=>?_⟩;cases al h;exact ⟨a8 a.1,aA _,trivial⟩
 ·have a:=lP c hp;show [Ch.own t.rep [hv θ e.1] d] = [Ch.own t.rep [hv (upd θ s.nxt u) e.1] d];rw[show hv (upd θ s.nxt u) e.1=hv θ e.1 from bc Same.upd a.1]
theorem Jb {r:Row} {q:(k:IntKind)×List Int} {h:Hdr} (a:I9 r=some q):r.ent h=(h,r.ver,.own (.sl r.E (.int q.1)) q.2):=by
 have ⟨e,E,t,f,rest⟩:=r;unfold I9 at a;split at a
 ·rename_i k b d c;cases ae a;subst d;cases eq_of_heq c
  rfl
 grind
theorem Sw (M:TTok P tt) {T U:TypeId} (N:o.op= .call { callee:=.builtin .copy,args:= #[x,y],argTypes:= #[T,U] }) (h:ZG tt s k T x y=some res):Oks P w0 s o k res:=by
 have ⟨d,hd,h⟩:=bind_some h;have ⟨E,hE,h⟩:=bind_some h;have ⟨e,Z,h⟩:=bind_some h;have ⟨D,h⟩:=ai h;have D:=au D;have ⟨xv,L,h⟩:=bind_some h;have ⟨c,w,h⟩:=bind_some h;have ⟨r,Q,h⟩:=bind_some h;have ⟨b,h⟩:=ai h;rw[ak] at b;have g:=au b.1;have ⟨q,hq,h⟩:=bind_some h;have ⟨yv,A,h⟩:=bind_some h;obtain ⟨hp,-⟩:=bU Q;have f:=Jb (h:=c.h) hq;rw[f,g] at hp;have v:=(M.get hd).el E hE;have t:(P.info? E).map (·.size)=some 1:=by have:=(M.get Z).ti;rw[D] at this;exact Zs this
 have z: ∀J θ,Fine P w0 J θ s->(evL (envL θ s) x=hv θ c.h/\c.lo.toNat=0)\/evL (envL θ s) x=sQ (hv θ c.h) c.lo.toNat q.2.length 1:=by
  intro J θ i;unfold U5 at w;split at w
  ·cases ae w;exact .inl ⟨aI L,rfl⟩
  ·rename_i hh n R t' H l;cases ae w;have I:n=r.ver:=au (by grind);have B:=OV Q I.symm (b7 i L);rw[f] at B;have O:=(Prod.mk.inj (Prod.mk.inj B).2).2
   injection O with K S
   injection K with V F
   subst F;cases eq_of_heq S;right;rw[aI (θ:=θ) L]
   rfl
  ·cases w
 unfold U6 at h;split at h
 ·rename_i hh R W ys;have ⟨j,h⟩:=ai h;have j:q.1=W:=by simpa using j
  subst j;have ⟨u,a,h⟩:=bind_some h;have a:=bO a;rw[g] at h;refine ⟨_,h,KT (e:=(c.h,r.ver,.own (.sl E (.int q.1)) q.2)) hp rfl fun J θ i=>?_⟩;have G:c.lo.toNat<=q.2.length:=by omega
  exact IS (lo:=c.lo.toNat) (b7 i A).2 v t N rfl (aI A) G (z J θ i)
 ·rename_i O v2 R t' H hi;have ⟨j,m⟩:=ai h;rw[ak] at j;have X:=Hdr.beq_eq j.1;subst X;have e2:=au j.2;subst e2;have ⟨u,a,m⟩:=bind_some m;have a:=bO a;have ⟨u,p,m⟩:=bind_some m;have p:=bO p;have G:c.lo.toNat<=q.2.length:=by omega
  have l2:hi.toNat<=q.2.length:=by omega
  rw[g] at m;refine ⟨_,m,KT (e:=(c.h,r.ver,.own (.sl E (.int q.1)) q.2)) hp rfl fun J θ i=>?_⟩;have C:=b7 i A;have B:=C.2.2.2 (c.h,r.ver,.own (.sl E (.int q.1)) q.2) (hp.mem_iff.2 (by simp)) _ ⟨rfl,.inl ⟨rfl,rfl⟩⟩
  injection B with K S
  injection K with V F
  subst F;exact EU (lo:=c.lo.toNat) (hi:=hi.toNat) v t N rfl ((aI A).trans rfl) G l2 (z J θ i)
 grind
inductive All2 {α β:Type} (p:α->β->Prop):List α->List β->Prop
 | nil:All2 p [] []
 | cons {a:α} {b:β} {l:List α} {m:List β} (h:p a b) (k:All2 p l m):All2 p (a::l) (b::m)
theorem All2.length_eq {α β:Type} {p:α->β->Prop} {l:List α} {m:List β} (h:All2 p l m):l.length=m.length:=by
 induction h with
 | nil=>rfl
 | cons _ _ ih=>grind
theorem OW {α:Type} {R:Rep α} (d:R.Sh) (h1:R.size=1) {I:Hp} {w:World} : ∀ {xs:List α} {cur:List Value} {K:List Nat},OwnEls R I w cur xs K-> ∃b:List Raw,K= [] /\OwnEls IE I w cur b [] /\All2 (fun p x=>R.rd I [p.1] x) b xs
 | [],cur,K,h=>⟨[],h,rfl,.nil⟩
 | x::xs,cur,K,⟨c,rest,G,K1,e1,e2,e3,e4,e5⟩=>by
  obtain ⟨rfl,a⟩:=d e4;obtain ⟨p,rfl⟩:=List.length_eq_one_iff.1 (e2.trans h1);obtain ⟨b,rfl,f,e⟩:=OW d h1 e5;exact ⟨⟨p,R.rd_one a p (by simp)⟩::b,e3,⟨[p],rest,[],[],e1,rfl,rfl,⟨rfl,rfl⟩,f⟩,.cons a e⟩
theorem OX {α:Type} {R:Rep α} (d:Cpy R R) (h1:R.size=1) {I:Hp} {w:World} : ∀ {xs:List α} {ps:List Raw} {cur:List Value} {K:List Nat},OwnEls IE I w cur ps K->All2 (fun p x=>R.rd I [p.1] x) ps xs->K= [] /\OwnEls R I w cur xs []
 | [],[],cur,K,h,_=>⟨h,rfl⟩
 | x::xs,p::ps,cur,K,h,hh=>by
  have ⟨c,rest,G,i,f,j,g,b,e⟩:=h;cases hh with
  | cons hp a =>
   obtain ⟨rfl,b⟩:=b;obtain rfl:c= [p.1]:=b;obtain ⟨rfl,k⟩:=OX d h1 e a;exact ⟨g,[p.1],rest,[],[],f,h1.symm,rfl,d hp,k⟩
 | [],_::_,_,_,_,hh=>by cases hh
 | _::_,[],_,_,_,hh=>by cases hh
theorem Xb {α:Type} {E:TypeId} {R:Rep α} (z:R.Sh) (h1:R.size=1) {I:Hp} {w:World} {C:List Ch} {v:Value} {xs:List α} (h:St I w0 w (Ch.own (ay E R) [v] xs::C)): ∃b:List Raw,All2 (fun p x=>R.rd I [p.1] x) b xs/\St I w0 w (Ch.own (ay E IE) [v] b::C):=by
 obtain ⟨i,l,F,⟨G,K,rfl,⟨D,k⟩,e⟩,d,f⟩:=h;rcases k with ⟨a,rfl,rfl⟩ | ⟨g,c,cap,cur,A,a,r,B,t,m,rfl,u⟩
 ·exact ⟨[],.nil,i,l,[] ++K,⟨[],K,rfl,⟨Nat.zero_le _,.inl ⟨a,rfl,rfl⟩⟩,e⟩,d,f⟩
 ·obtain ⟨b,rfl,q,n⟩:=OW z h1 u;have j:=n.length_eq;exact ⟨b,n,i,l,[g] ++K,⟨[g],K,rfl,⟨by omega,.inr ⟨g,c,cap,cur,[],by grind,r,by omega,t,by rw[h1] at m;exact m,rfl,q⟩⟩,e⟩,d,f⟩
theorem Jc {α:Type} {E:TypeId} {R:Rep α} (r:Cpy R R) (h1:R.size=1) {I:Hp} {w:World} {C:List Ch} {v:Value} {xs:List α} {ps:List Raw} (hp:All2 (fun p x=>R.rd I [p.1] x) ps xs) (h:St I w0 w (Ch.own (ay E IE) [v] ps::C)):St I w0 w (Ch.own (ay E R) [v] xs::C):=by
 obtain ⟨f,j,F,⟨G,K,rfl,⟨A,k⟩,e⟩,c,d⟩:=h;have i:=hp.length_eq;rcases k with ⟨a,rfl,rfl⟩ | ⟨g,b,cap,cur,u,a,n,z,q,m,rfl,t⟩
 ·cases hp;exact ⟨f,j,[] ++K,⟨[],K,rfl,⟨Nat.zero_le _,.inl ⟨a,rfl,rfl⟩⟩,e⟩,c,d⟩
 ·obtain ⟨rfl,l⟩:=OX r h1 t hp;exact ⟨f,j,[g] ++K,⟨[g],K,rfl,⟨by omega,.inr ⟨g,b,cap,cur,[],by grind,n,by omega,q,by rw[h1];exact m,rfl,l⟩⟩,e⟩,c,d⟩
theorem ZH {α:Type} {E:TypeId} {R:Rep α} (h1:R.size=1) {I:Hp} {v:Value} {xs:List α} (h:(ay E R).rd I [v] xs): ∃a:List Raw,All2 (fun p x=>R.rd I [p.1] x) a xs/\(ay E IE).rd I [v] a:=by
 obtain ⟨q,cap,e,z,h⟩:=h;obtain rfl:v= .slice q xs.length cap:=by grind
 rcases h with rfl | ⟨b,off,d,t,r,rfl,A,F⟩
 ·exact ⟨[],.nil,q,cap,rfl,z,.inl rfl⟩
 ·have key: ∀(xs:List α) (f:Nat),(∀i x,xs[i]? =some x-> ∃c:List Value,c.length=R.size/\(∀j,j<R.size->d.toList[off+(f+i)*R.size+j]? =c[j]?)/\R.rd I c x)-> ∃a:List Raw,All2 (fun p x=>R.rd I [p.1] x) a xs/\ ∀i p,a[i]? =some p->d.toList[off+(f+i)]? =some p.1:=by
   intro xs;induction xs with
   | nil=>intro f _;exact ⟨[],.nil,fun i p hp=>by grind⟩
   | cons x xs ih =>
    intro f h;have ⟨c,w,G,m⟩:=h 0 x rfl;obtain ⟨p,rfl⟩:=List.length_eq_one_iff.1 (w.trans h1);have ⟨a,g,B⟩:=ih (f+1) fun i y D=>by
     have:=h (i+1) y (by grind)
     grind
    refine ⟨⟨p,R.rd_one m p (by simp)⟩::a,.cons m g,fun i u C=>?_⟩;cases i with
    | zero =>
     obtain rfl:⟨p,R.rd_one m p (by simp)⟩=u:=by grind
     simp_all
    | succ i =>
     grind
  have ⟨a,g,B⟩:=key xs 0 (fun i x H=>by grind);have n:=g.length_eq;refine ⟨a,g,_,cap,by grind,by omega,.inr ⟨b,off,d,t,r,rfl,A,fun i p hp=>?_⟩⟩;refine ⟨[p.1],rfl,fun j l=>?_,rfl⟩;have l:j=0:=by have:j<1:=l;omega
  subst l;show d.toList[off+i*1+0]? =_;grind
theorem qj {α β:Type} {p:α->β->Prop} : ∀ {xs:List α} {ys:List β} (n:Nat),All2 p xs ys->All2 p (xs.drop n) (ys.drop n)
 | _,_,0,h=>h
 | _,_,n+1,.nil=>.nil
 | _,_,n+1,.cons _ h=>qj n h
theorem Fl {α:Type} {b:Nat} {xs zs:List α} (h:bw b [] xs=some zs):zs=xs/\(∀ {β:Type} (ys:List β),ys.length=xs.length->bw b [] ys=some ys):=by
 have ⟨c,a⟩:=xt h;simp_all[bw,if_pos]
theorem Hr {E':TypeId} {α:Type} {R:Rep α} (K:R.Sh) (n:Cpy R R) (h1:R.size=1) {g:FuncId} {E b:Nat} (d:y8 P g E b) {xs zs:List α} {l:Nat} (N:l<=xs.length) (H:bw b [] (xs.drop l)=some zs) {v u:Value} (p:u=sQ v l xs.length 1\/(l=0/\u=v)) {ts:Array TypeId} {J:Hp} {θ:Th} (f:Lay P J) (A:o.op= .call { callee:=.value (.func g),args:= #[x],argTypes:=ts }) {ev:Operand->Value} (z:ev x=u) (e:ev (.func g)= .func (.func g) #[] #[]) :
  OpT P J w0 o ev [Ch.own (ay E' R) [v] xs] (fun _=>True) (fun r=>[Ch.own (ay E' R) [v] xs,Ch.own (ay E R) [r] zs]):=by
 obtain ⟨rfl,tV⟩:=Fl H;intro w C D;have ⟨a,hp,q⟩:=Xb K h1 D;have c:=hp.length_eq;have F:OpT P J w0 o ev ([Ch.own (ay E' IE) [v] a] ++ []) (fun _=>True) (fun r=>[Ch.own (ay E' IE) [v] a] ++ [Ch.own (ay E IE) [r] (a.drop l)]):=by
  refine xE (fun v=>⟨Bm (ER ZB),trivial⟩) fun m B j G=>?_;have h:=j (ay E' IE) [v] a (by simp);have i:(ay E' IE).rd m [u] (a.drop l):=by
   rcases p with rfl | ⟨rfl,rfl⟩
   ·rw[<-c];exact Ks h (by omega) rfl
   ·exact h
  exact qf d.1 A e (by grind) (d.2 E' m w0 u (a.drop l) (a.drop l) (f.mono B) i (tV _ (by grind)))
 have:=F w C (by simp_all)
 refine this.imp fun r L h=>⟨trivial,?_⟩
 have I:St J w0 L (Ch.own (ay E' IE) [v] a::Ch.own (ay E IE) [r] (a.drop l)::C):=by simpa using h.2
 have M:=Jc n h1 hp I;have t:=Jc n h1 (qj l hp) (M.perm (List.Perm.swap _ _ _));exact t.perm (List.Perm.swap _ _ _)
theorem Sx {E':TypeId} {α:Type} {R:Rep α} (m:Cpy R R) (h1:R.size=1) {e:FuncId} {E b:Nat} (a:y8 P e E b) {xs zs:List α} (l:bw b [] xs=some zs) {v:Value} {ts:Array TypeId} {J:Hp} (d:Lay P J) (n:(ay E' R).rd J [v] xs) (i:o.op= .call { callee:=.value (.func e),args:= #[x],argTypes:=ts }) {ev:Operand->Value} (h:ev x=v) (c:ev (.func e)= .func (.func e) #[] #[]) :
  OpT P J w0 o ev [] (fun _=>True) (fun r=>[Ch.own (ay E R) [r] zs]):=by
 obtain ⟨rfl,tV⟩:=Fl l;have ⟨g,hp,f⟩:=ZH h1 n
 have:=qf (P:=P) (w0:=w0) (o:=o) a.1 i c (by grind) (a.2 E' J w0 v g g d f (tV _ hp.length_eq))
 exact OpT.post this fun r w C _ j=>⟨trivial,Jc m h1 hp j⟩
theorem Hs {e:Ent} {rest:List Ent} {E:TypeId} {t:Ty} {xs:List t.den} (hp:s.chs.Perm (e::rest)) (a: ∀J θ,Fine P w0 J θ s->OpT P J w0 o (evL (envL θ s)) [toCh P θ e] (fun _=>True) (fun v=>[toCh P θ e,Ch.own (Ty.sl E t).rep [v] xs])):Good P w0 s o ⟨[e],[],rest,[(⟨s.nxt,[]⟩,.own (.sl E t) xs)],.one (.own ⟨s.nxt,[]⟩)⟩:=
 good_row (rs:=[e]) (ns:=[]) hp fun J θ c=>fun w C b=>(a J θ c w C b).imp fun v w hv=>⟨hv.1,hv.2.perm ((List.Perm.swap _ _ _).append_right C)⟩
theorem OY {u:FuncId} {E b:Nat} (d:y8 P u E b) {ts:Array TypeId} (n:o.op= .call { callee:=.value (.func u),args:= #[x],argTypes:=ts }) (h:OT s k E b x=some res):Oks P w0 s o k res:=by
 unfold OT at h;split at h
 ·rename_i q z A t v l f;have ⟨r,m,h⟩:=bind_some h;have ⟨a,h⟩:=ai h;rw[ak,ak] at a;have g:=au a.1;have c:=au a.2.2;have ⟨p,j,h⟩:=bind_some h;obtain ⟨hp,-⟩:=bU m;refine ⟨_,h,Hs hp fun J θ e=>?_⟩;have i:=b7 e f;have w:=OV m g i;rw[w];refine Hr (Ty.sh_ok a.2.1) (Ty.cpy a.2.1) (t.rep_size.trans c) d (l:=l.toNat) (by have:=i.2.1;omega) j (.inl ?_) (J:=J) (θ:=θ) e.lay n rfl rfl;rw[<-c];exact aI f
 ·rename_i q f;have ⟨r,m,h⟩:=bind_some h;have ⟨a,h⟩:=ai h;rw[ak] at a;have c:=au a.2;have ⟨p,j,h⟩:=bind_some h;obtain ⟨hp,-⟩:=bU m;refine ⟨_,h,Hs hp fun J θ e=>?_⟩;exact Hr (Ty.sh_ok a.1) (Ty.cpy a.1) (r.t.rep_size.trans c) d (l:=0) (Nat.zero_le _) (by grind) (.inr ⟨rfl,aI f⟩) (J:=J) (θ:=θ) e.lay n rfl rfl
 ·rename_i q A t v f;have ⟨a,h⟩:=ai h;rw[ak] at a;have c:=au a.2;have ⟨p,j,h⟩:=bind_some h;exact ⟨_,h,good_row (rs:=[]) (ns:=[]) (List.Perm.refl _) fun J θ e=>Sx (Ty.cpy a.1) (t.rep_size.trans c) d j e.lay (b7 e f).2 n (aI f) rfl⟩
 grind
end
structure Fr (s:Sg) (θ:Th) (s':Sg) (θ':Th):Prop where
 le:s.nxt<=s'.nxt
 same:Same s.nxt θ θ'
 env: ∀e∈s'.env,e.2.1<s.nxt->e∈s.env
 chs:Newer s.nxt s.chs s'.chs
section
variable {s s1 s2:Sg} {θ θ1 θ2:Th}
theorem Fr.rfl:Fr s θ s θ:=⟨aH _,Same.rfl,fun e a _=>a,Newer.rfl⟩
theorem Fr.trans (h:Fr s θ s1 θ1) (k:Fr s1 θ1 s2 θ2):Fr s θ s2 θ2:=
 ⟨Nat.le_trans h.le k.le,h.same.trans k.same h.le,fun e b hv=>h.env e (k.env e b (aL hv h.le)) hv,fun e b g a c l=>by
  rcases k.chs e b g a c l with i | ⟨j,d,f⟩
  ·exact .inl (Nat.le_trans h.le i)
  ·exact h.chs j d g a c f⟩
theorem Fr.put {d:Option Nat} {v:AV} {chs:List Ent} (hs:Same s.nxt θ θ1) (b:Newer s.nxt s.chs chs):Fr s θ ⟨N1 d s.nxt v s.env,chs,s.nxt+1⟩ θ1:=
 ⟨Nat.le_succ _,hs,fun e a hv=>by
  rcases rV a with h | h
  ·rw[h.2] at hv;exact absurd hv (Nat.lt_irrefl _)
  ·exact h,b⟩
end
def BF (p:AV->Option AV):Nat->List (Nat×Nat×AV)->List (Nat×Nat×AV)
 | _,[] =>[]
 | k,e::l=>(match p e.2.2 with
  | some x=>(e.1,k,x)
  | none=>e)::BF p (k+1) l
section
variable {P:Program} {I J J':Hp} {w0 w:World} {F:Ch} {n:Nat} {θ θ':Th} {s:Sg} {a:Act}
theorem tN {p:AV->Option AV} {e:Nat×Nat×AV} : ∀ {l:List (Nat×Nat×AV)} {k:Nat},e∈BF p k l->(e∈l)\/(k<=e.2.1/\e.2.1<k+l.length/\ ∃e0∈l,e0.1=e.1/\p e0.2.2=some e.2.2)
 | [],k,h=>by cases h
 | e0::l,k,h=>by
  rcases aG h with h | h
  ·cases hp:p e0.2.2 with
   | some x=>rw[hp] at h;subst h;exact .inr ⟨aH _,by show k<k+(l.length+1);omega,e0,by simp,rfl,hp⟩
   | none=>rw[hp] at h;subst h;exact .inl (by simp)
  ·rcases tN h with h | ⟨f,g,b,d,c⟩
   ·exact .inl (by simp[h])
   ·exact .inr ⟨by omega,by rw[aq];omega,b,by simp[d],c⟩
theorem KU {p:AV->Option AV} : ∀ {l:List (Nat×Nat×AV)} {k:Nat},l.Pairwise (fun a b=>a.2.1≠b.2.1)->(∀e∈l,e.2.1<k)->(BF p k l).Pairwise fun a b=>a.2.1≠b.2.1
 | [],_,_,_=>List.Pairwise.nil
 | e0::l,k,h,hk=>by
  obtain ⟨f,d⟩:=List.pairwise_cons.1 h;refine List.pairwise_cons.2 ⟨fun e c=>?_,KU d fun e c=>a8 (hk e (by simp[c]))⟩;have g:=hk e0 (by simp);rcases tN c with c | ⟨i,-,-⟩
  ·cases hp:p e0.2.2 with
   | some x =>
    have:=hk e (by simp[c])
    show k≠e.2.1;omega
   | none=>exact f e c
  ·cases hp:p e0.2.2 with
   | some x=>show k≠e.2.1;omega
   | none=>show e0.2.1≠e.2.1;omega
theorem DW {p:AV->Option AV} : ∀ {l:List (Nat×Nat×AV)} {k:Nat},(∀e∈l,e.2.2.v θ'=e.2.2.v θ)->(∀e∈l,∀x,p e.2.2=some x->x.v θ'=e.2.2.v θ)->(BF p k l).map (fun e=>(e.1,e.2.2.v θ'))=l.map fun e=>(e.1,e.2.2.v θ)
 | [],_,_,_=>rfl
 | e0::l,k,h,hp=>by
  rw[BF,List.map_cons,List.map_cons,DW (fun e b=>h e (by simp[b])) fun e b=>hp e (by simp[b])];congr 1;cases c:p e0.2.2 with
  | some x=>show (e0.1,x.v θ')=_;rw[hp e0 (by simp) x c]
  | none=>show (e0.1,e0.2.2.v θ')=_;rw[h e0 (by simp)]
theorem Sim.repl {p:AV->Option AV} {b:List Ent} (d:Sim P I w0 F n J θ s a w) (hs:Same s.nxt θ θ') (h:J.le J') (j:St J' w0 w (b.map (toCh P θ')++ [F])) (k:Newer s.nxt s.chs b) (g: ∀e∈b,okE P w0 J' θ' (s.nxt+1) b e)
  (hp: ∀e∈s.env,∀x,p e.2.2=some x->x.ok P w0 J' θ' (s.nxt+1) b/\x.v θ'=e.2.2.v θ):Sim P I w0 F n J' θ' ⟨BF p (s.nxt+1) s.env,b,s.nxt+1+s.env.length⟩ a w/\Fr s θ ⟨BF p (s.nxt+1) s.env,b,s.nxt+1+s.env.length⟩ θ':=by
 have f:s.nxt+1<=s.nxt+1+s.env.length:=Nat.le_add_right _ _;refine ⟨⟨d.le.trans h,?_,j,fun e c=>?_,fun e c=>?_,KU d.fine.nd fun e c=>a8 (d.fine.ver e c),fun e c=>gM Same.rfl f Newer.rfl (g e c) Hp.le.rfl,d.fine.lay.mono h⟩,by show s.nxt<=s.nxt+1+s.env.length;omega,hs,fun e c hv=>?_,k⟩
 ·have:envL θ' ⟨BF p (s.nxt+1) s.env,b,s.nxt+1+s.env.length⟩=envL θ s:=DW (fun e c=>AV.v_same hs (d.fine.env e c)) fun e c x q=>(hp e c x q).2
  rw[this];exact d.agr
 ·rcases tN c with c | ⟨-,-,o,l,-,i⟩
  ·exact AV.ok_same hs (by show s.nxt<=s.nxt+1+s.env.length;omega) k (d.fine.env e c) h
  ·exact AV.ok_same Same.rfl f Newer.rfl (hp o l _ i).1 Hp.le.rfl
 ·rcases tN c with c | ⟨i,m,-⟩
  ·have:=d.fine.ver e c
   show e.2.1<s.nxt+1+s.env.length;omega
  ·exact m
 ·rcases tN c with c | ⟨i,-⟩
  ·exact c
  ·exfalso;omega
end
def ZI (h:Hdr) (s:Sg):Option Sg:=(pull h s.chs).bind fun r=>match r.1.2.2 with
 | .box T t d=>some ⟨s.env,(h,s.nxt,.blk T (jm s.nxt (fun j=>[j]) t d 0))::((sR s.nxt (fun j=>[j]) t d 0).map (fun g=>(g.1,s.nxt,g.2))++r.2),s.nxt+1⟩
 | _=>none
section
variable {P:Program} {I J:Hp} {w0 w:World} {F:Ch} {n:Nat} {θ:Th} {s s':Sg} {a:Act} {h:Hdr}
theorem Sy (hs:ZI h s=some s') (u:Sim P I w0 F n J θ s a w): ∃θ',Sim P I w0 F n J θ' s' a w/\Fr s θ s' θ':=by
 obtain ⟨r,O,hs⟩:=bind_some hs;obtain ⟨p,k⟩:=gB O;obtain ⟨⟨y,N,c⟩,rest⟩:=r;obtain rfl:y=h:=k;cases c with
 | box T t d =>
  obtain rfl:=ae (show some _=some s' from hs);have z:=u.fine.chs _ (p.mem_iff.2 (List.mem_cons_self ..));have D:=u.st.perm ((p.map (toCh P θ)).append_right [F]);have x:St J w0 w (Ch.box (bk (hv θ y)) T t.rep d::(rest.map (toCh P θ)++ [F])):=D;obtain ⟨cells,x⟩:=St.box.1 x;let θ':=upd θ s.nxt (.agg cells.toArray);have b:Same s.nxt θ θ':=Same.upd;have M:=x.perm (List.Perm.swap _ _ _);obtain ⟨H,E,L,G⟩:=kt (P:=P) (m:=s.nxt) (θ:=θ') (pth:=fun j=>[j]) (n:=s.nxt+1) (aA _) t d 0 cells _ (fun i v B=>by
   show vg (upd θ s.nxt (.agg cells.toArray) s.nxt) [0+i] =v;rw[iG,Nat.zero_add];exact UY (by simpa using B)) M
  have q: ∀e,e∈rest->e∈s.chs:=fun e f=>p.mem_iff.2 (bq _ f);have o:Newer s.nxt s.chs ((y,s.nxt,.blk T (jm s.nxt (fun j=>[j]) t d 0))::((sR s.nxt (fun j=>[j]) t d 0).map (fun g=>(g.1,s.nxt,g.2))++rest)):=fun e f Q C c l=>by
   rcases aG f with rfl | f
   ·obtain ⟨rfl,l⟩:=l;rcases l with ⟨x,-⟩ | l
    ·exact .inl (Nat.le_of_eq x)
    ·exact l.elim
   ·rcases aE f with f | f
    ·obtain ⟨g,A,rfl⟩:=List.mem_map.1 f;rcases l.2 with ⟨x,-⟩ | l
     ·exact .inl (Nat.le_of_eq x)
     ·exact (xG (jI t d 0 g A) l).elim
    ·exact .inr ⟨e,q e f,l⟩
  refine ⟨θ',⟨u.le,?_,?_,fun e f=>AV.ok_same b (Nat.le_succ _) o (u.fine.env e f) Hp.le.rfl,fun e f=>a8 (u.fine.ver e f),u.fine.nd,fun e f=>?_,u.fine.lay⟩,Nat.le_succ _,b,fun e f _=>f,o⟩
  ·show Agr n a (envL θ' s);rw[Bn b u.fine.env];exact u.agr
  ·rw[List.map_cons,aX,List.map_map];have K:toCh P θ' (y,s.nxt,Chk.blk T (jm s.nxt (fun j=>[j]) t d 0))=Ch.blk (bk (hv θ y)) cells T:=by
    show Ch.blk (bk (hv θ' y)) ((jm s.nxt (fun j=>[j]) t d 0).map (·.v θ')) T=_;rw[E,bc b z.1]
   rw[K,km b fun e f=>u.fine.chs e (q e f)]
   have:=G.perm (List.perm_middle (l₁:=(sR s.nxt (fun j=>[j]) t d 0).map fun g=>toCh P θ' (g.1,s.nxt,g.2)))
   rw[List.cons_append,aC];exact this
  ·rcases aG f with rfl | f
   ·exact ⟨a8 z.1,aA _,H⟩
   ·rcases aE f with f | f
    ·obtain ⟨g,A,rfl⟩:=List.mem_map.1 f;exact tM (jI t d 0 g A) (by rw[L g A];exact aA _) (aA _)
    ·exact gM b (Nat.le_succ _) o (u.fine.chs e (q e f)) Hp.le.rfl
 | _=>cases hs
end
def Jd:List Ent->List Hdr
 | [] =>[]
 | (h,_,.box _ _ _)::l=>h::Jd l
 | _::l=>Jd l
def OZ:List Hdr->Sg->Sg
 | [],s=>s
 | h::hs,s=>OZ hs (match ZI h s with
  | some s'=>s'
  | none=>s)
def tw (s:Sg):Sg:=OZ (Jd s.chs) s
def BG (h:Hdr):LV->Bool
 | .own h'=>Hdr.beq h' h
 | _=>false
def LV.frz (h:Hdr) (t:Ty) (d:t.den) (x:LV):LV:=match BG h x with
 | true=>.rd h t d
 | false=>x
def AV.frz (h:Hdr) (t:Ty) (d:t.den):AV->Option AV
 | .one x=>match BG h x with
  | true=>some (.one (.rd h t d))
  | false=>none
 | .agg xs=>match xs.any (BG h) with
  | true=>some (.agg (xs.map (LV.frz h t d)))
  | false=>none
 | .tup ys=>match ys.any fun y=>y.2.any (BG h) with
  | true=>some (.tup (ys.map fun y=>(y.1,y.2.map (LV.frz h t d))))
  | false=>none
 | _=>none
def O0 (h:Hdr) (t:Ty) (d:t.den) (k:Nat) (e:Ent):Ent:=match e.2.2 with
 | .blk T cells=>match cells.any (BG h) with
  | true=>(e.1,k,.blk T (cells.map (LV.frz h t d)))
  | false=>e
 | _=>e
def U7 (h:Hdr) (y:AV) (x:AV):Option AV:=match x with
 | .one (.ptr h' off)=>match Hdr.beq h' h&&Nat.beq off 0 with
  | true=>some y
  | false=>none
 | _=>none
section
variable {P:Program} {J J':Hp} {w0:World} {n m k:Nat} {θ:Th} {h:Hdr} {t:Ty} {d:t.den} {chs:List Ent}
theorem Ht {x:LV} (a:BG h x=true):x= .own h:=by
 unfold BG at a;split at a
 ·rw[Hdr.beq_eq a]
 ·cases a
theorem LV.frz_v (x:LV):(x.frz h t d).v θ=x.v θ:=by
 unfold LV.frz;split
 ·rename_i a;rw[Ht a];rfl
 ·rfl
theorem LV.frz_ok {x:LV} (e:x.ok P w0 J θ n) (f:n<=m) (c:J.le J') (b:h.id<m) (a:t.rep.rd J' [hv θ h] d):(x.frz h t d).ok P w0 J' θ m:=by
 unfold LV.frz;split
 ·exact ⟨b,a⟩
 ·exact LV.ok_same Same.rfl f e c
theorem Je (xs:List LV):(xs.map (LV.frz h t d)).map (·.v θ)=xs.map (·.v θ):=by
 rw[List.map_map];exact List.map_congr_left fun x _=>LV.frz_v x
theorem Sz (y:Bool×List LV):l7 θ (y.1,y.2.map (LV.frz h t d))=l7 θ y:=by
 obtain ⟨b,l⟩:=y;unfold l7;dsimp only;rw[Je];cases b with
 | true=>rfl
 | false =>
  cases l with
  | nil=>rfl
  | cons x l=>exact LV.frz_v x
theorem AV.frz_ok {x y:AV} (a:x.frz h t d=some y) (p:x.ok P w0 J θ n chs) {c:List Ent} (l:n<=m) (o:J.le J') (g:h.id<m) (j:t.rep.rd J' [hv θ h] d):y.ok P w0 J' θ m c/\y.v θ=x.v θ:=by
 unfold AV.frz at a;split at a
 ·split at a
  ·rename_i r;obtain rfl:=ae a;rw[Ht r];exact ⟨⟨g,j⟩,rfl⟩
  ·cases a
 ·split at a
  ·obtain rfl:=ae a;refine ⟨fun z f=>?_,?_⟩
   ·obtain ⟨e,b,rfl⟩:=List.mem_map.1 f;exact LV.frz_ok (p e b) l o g j
   ·show Value.agg _=Value.agg _;rw[Je]
  ·cases a
 ·split at a
  ·obtain rfl:=ae a;refine ⟨fun z f=>?_,?_⟩
   ·obtain ⟨e,b,rfl⟩:=List.mem_map.1 f;intro u q;obtain ⟨s,i,rfl⟩:=List.mem_map.1 q;exact LV.frz_ok (p e b s i) l o g j
   ·show Value.tuple _=Value.tuple _;rw[List.map_map];congr 2;exact List.map_congr_left fun z _=>Sz z
  ·cases a
 ·cases a
theorem O1 (e:Ent):toCh P θ (O0 h t d k e)=toCh P θ e:=by
 obtain ⟨b,v,c⟩:=e;unfold O0;split
 ·rename_i T cells a;split
  ·show Ch.blk _ ((cells.map _).map _) _=_;rw[Je];obtain rfl:c= .blk T cells:=a
   rfl
  ·rfl
 ·rfl
theorem O2 {e:Ent} {b:Hdr} {ver:Nat} {c:Chk} (hs:Says (O0 h t d k e) b ver c):ver=k\/Says e b ver c:=by
 unfold O0 at hs;split at hs
 ·split at hs
  ·rcases hs.2 with ⟨a,-⟩ | a
   ·exact .inl a.symm
   ·exact a.elim
  ·exact .inr hs
 ·exact .inr hs
theorem MG {l:List Ent} :Newer k l (l.map (O0 h t d k)):=fun e f o j c i=>by
 obtain ⟨g,a,rfl⟩:=List.mem_map.1 f;rcases O2 i with b | b
 ·exact .inl (Nat.le_of_eq b.symm)
 ·exact .inr ⟨g,a,b⟩
theorem Xc {e:Ent} (l:okE P w0 J θ n chs e) {a:List Ent} (s:Newer n chs a) (f:n<m) (j:J.le J') (p:h.id<m) (q:t.rep.rd J' [hv θ h] d):okE P w0 J' θ m a (O0 h t d n e):=by
 have g:=gM Same.rfl (Nat.le_of_lt f) s l j;unfold O0;split
 ·rename_i T cells b;split
  ·obtain ⟨u,v,c⟩:=e;obtain rfl:c= .blk T cells:=b;exact ⟨g.1,f,fun x r=>by
    obtain ⟨o,i,rfl⟩:=List.mem_map.1 r;exact LV.frz_ok (l.2.2 o i) (Nat.le_of_lt f) j p q⟩
  ·exact g
 ·exact g
end
abbrev Trs:=List (TypeId×TypeId×Ty)
def ab9 (l:Trs) (T:TypeId):Option (TypeId×Ty):=match l with
 | [] =>none
 | (U,x)::l=>if Nat.beq U T then some x else ab9 l T
def ZJ (tr:Trs):Ty->Bool
 | .tree _ _ _=>true
 | .sl E _=>match ab9 tr E with
  | some q=>Nat.beq q.1 0
  | none=>false
 | _=>false
def O3 (tr:Trs) (h:Hdr) (s:Sg):Option Sg:=(pull h s.chs).bind fun r=>match r.1.2.2 with
 | .own t d=>match ZJ tr t with
  | true=>some ⟨BF (AV.frz h t d) (s.nxt+1) s.env,r.2.map (O0 h t d s.nxt),s.nxt+1+s.env.length⟩
  | false=>none
 | _=>none
def U8 (T E:TypeId) (t:Ty) (x:LV) (chs:List Ent):Option (List (Tr t.den)×List Ent×List Ent):=match x with
 | .own h=>(rowOf h chs).bind fun r=>(pc (.sl r.E r.t) (.sl E (.tree T E t)) r.xs).bind fun ks=>some (ks,[r.ent h],r.rest)
 | x=>(R7 E (.tree T E t) x).bind fun ks=>some (ks,[],chs)
def O4 (tr:Trs) (h:Hdr) (s:Sg):Option Sg:=(rW h s.chs).bind fun b=>(ab9 tr b.T).bind fun q=>(eX q.2 b.cells).bind fun a=>match a.2 with
 | [kid] =>(U8 b.T q.1 q.2 kid b.rest).bind fun ks=>some ⟨BF (U7 h (.one (.rd ⟨s.nxt,[]⟩ (.tree b.T q.1 q.2) (.node a.1 ks.1)))) (s.nxt+1) s.env,ks.2.2,s.nxt+1+s.env.length⟩
 | _=>none
section
variable {P:Program} {I J:Hp} {w0 w:World} {F:Ch} {n:Nat} {θ:Th} {s s':Sg} {a:Act} {h:Hdr}
theorem O5 {m:Nat} {chs b:List Ent} (h: ∀e,e∈b->e∈chs):Newer m chs b:=fun e d i g c f=>.inr ⟨e,h e d,f⟩
theorem O6 {tr:Trs} (hs:O3 tr h s=some s') (v:Sim P I w0 F n J θ s a w): ∃y,J.le y/\Sim P I w0 F n y θ s' a w/\Fr s θ s' θ:=by
 obtain ⟨r,B,hs⟩:=bind_some hs;obtain ⟨p,k⟩:=gB B;obtain ⟨⟨j,q,c⟩,rest⟩:=r;obtain rfl:j=h:=k;cases c with
 | own t d =>
  have hs:(match ZJ tr t with
   | true=>some (⟨BF (AV.frz j t d) (s.nxt+1) s.env,rest.map (O0 j t d s.nxt),s.nxt+1+s.env.length⟩:Sg)
   | false=>none)=some s':=hs
  split at hs
  ·obtain rfl:=ae (show some _=some s' from hs);have l:=v.fine.chs _ (p.mem_iff.2 (List.mem_cons_self ..));have o:St J w0 w (Ch.own t.rep [hv θ j] d::(rest.map (toCh P θ)++ [F])):=v.st.perm ((p.map (toCh P θ)).append_right [F]);obtain ⟨y,z,m,A⟩:=o.freeze;have f: ∀e,e∈rest->e∈s.chs:=fun e i=>p.mem_iff.2 (bq _ i);have b:Newer s.nxt s.chs (rest.map (O0 j t d s.nxt)):=fun e i C q c hs=>by
    rcases MG e i C q c hs with o | ⟨u,g,o⟩
    ·exact .inl o
    ·exact .inr ⟨u,f u g,o⟩
   refine ⟨y,z,v.repl Same.rfl z ?_ b (fun e i=>?_) fun e i x D=>AV.frz_ok D (v.fine.env e i) (Nat.le_succ _) z (a8 l.1) m⟩
   ·rw[List.map_map,List.map_congr_left fun e _=>(show (toCh P θ ∘ O0 j t d s.nxt) e=toCh P θ e from O1 e)];exact A
   ·obtain ⟨u,g,rfl⟩:=List.mem_map.1 i;exact Xc (v.fine.chs u (f u g)) b (aA _) z (a8 l.1) m
  ·cases hs
 | _=>cases hs
theorem O7 {tr:Trs} (hs:O4 tr h s=some s') (D:Sim P I w0 F n J θ s a w): ∃J' θ',J.le J'/\Sim P I w0 F n J' θ' s' a w/\Fr s θ s' θ':=by
 obtain ⟨b,hb,hs⟩:=bind_some hs;obtain ⟨⟨E,t⟩,hq,hs⟩:=bind_some hs;obtain ⟨c,hc,hs⟩:=bind_some hs;have p:=ld hb;have L:=D.fine.chs _ (p.mem_iff.2 (List.mem_cons_self ..));have g: ∀x∈b.cells,x.ok P w0 J θ s.nxt:=L.2.2;obtain ⟨X,U,Y⟩:=jH (J:=J) (θ:=θ) hc g;split at hs
 ·rename_i q k;obtain ⟨C,d,hs⟩:=bind_some hs;obtain rfl:=ae hs;have W:=D.st.perm ((p.map (toCh P θ)).append_right [F]);have V:St J w0 w (Ch.blk (bk (hv θ h)) (b.cells.map (·.v θ)) b.T::(b.rest.map (toCh P θ)++ [F])):=W;have M:b.cells.map (·.v θ)=X.map (·.v θ)++ [q.v θ]:=by rw[U,k,aX];rfl
  let θ':=upd θ s.nxt (.pointer (some ⟨bk (hv θ h),0,none⟩));have f:Same s.nxt θ θ':=Same.upd;have key: ∃u,J.le u/\(Ty.sl E (.tree b.T E t)).rep.rd u [q.v θ] C.1/\St u w0 w (Ch.blk (bk (hv θ h)) (b.cells.map (·.v θ)) b.T::(C.2.2.map (toCh P θ)++ [F]))/\ ∀e,e∈C.2.2->e∈b.rest:=by
   unfold U8 at d;split at d
   ·rename_i hk;obtain ⟨r,hr,d⟩:=bind_some d;obtain ⟨Z,m,d⟩:=bind_some d;obtain rfl:=ae d;obtain ⟨S,-⟩:=bU hr;have h2:St J w0 w (Ch.own (Ty.sl r.E r.t).rep [hv θ hk] r.xs::Ch.blk (bk (hv θ h)) (b.cells.map (·.v θ)) b.T::(r.rest.map (toCh P θ)++ [F])):=by
     refine (V.perm ?_:St J w0 w _)
     have:=((S.map (toCh P θ)).append_right [F]).cons (Ch.blk (bk (hv θ h)) (b.cells.map (·.v θ)) b.T)
     exact this.trans (List.Perm.swap _ _ _)
    obtain ⟨u,o,N,Q⟩:=h2.freeze;exact ⟨u,o,jF m N,Q,fun e j=>S.mem_iff.2 (bq _ j)⟩
   ·obtain ⟨Z,m,d⟩:=bind_some d;obtain rfl:=ae d;exact ⟨J,Hp.le.rfl,Bq m (g q (by rw[U,k];simp)),V,fun e j=>j⟩
  obtain ⟨u,o,O,G,R⟩:=key;obtain ⟨T,A,z,B⟩:=G.freeze_blk;have H:J.le T:=o.trans A;have i: ∀e,e∈C.2.2->e∈s.chs:=fun e j=>p.mem_iff.2 (bq _ (R e j));have l:Newer s.nxt s.chs C.2.2:=O5 i;have y:hv θ' ⟨s.nxt,[]⟩= .pointer (some ⟨bk (hv θ h),0,none⟩):=iG;refine ⟨T,θ',H,D.repl f H ?_ l (fun e j=>gM f (Nat.le_succ _) l (D.fine.chs e (i e j)) H) fun e j x v=>?_⟩
  ·rw[km f fun e j=>D.fine.chs e (i e j)];exact B
  ·unfold U7 at v;split at v
   ·rename_i h' off K;split at v
    ·rename_i hp;obtain rfl:=ae v;rw[ak] at hp;refine ⟨⟨aA _,?_⟩,?_⟩
     ·rw[y];rw[M] at z;exact NV z (Rep.rd_mono _ Y H) (Rep.rd_mono _ O A)
     ·rw[K,Hdr.beq_eq hp.1,au hp.2];exact y
    ·cases v
   ·cases v
 ·cases hs
end
def orS (x:Option Sg) (s:Sg):Sg:=match x with
 | some s'=>s'
 | none=>s
def SA (tr:Trs):List (Bool×Hdr)->Sg->Sg
 | [],s=>s
 | (true,h)::hs,s=>SA tr hs (orS (O4 tr h s) s)
 | (false,h)::hs,s=>SA tr hs (orS (O3 tr h s) s)
section
variable {P:Program} {I J:Hp} {w0 w:World} {F:Ch} {n:Nat} {θ:Th} {s s':Sg} {a:Act}
theorem Fm: ∀ {hs:List Hdr} {s:Sg} {θ:Th},Sim P I w0 F n J θ s a w-> ∃θ',Sim P I w0 F n J θ' (OZ hs s) a w/\Fr s θ (OZ hs s) θ'
 | [],s,θ,hS=>⟨θ,hS,Fr.rfl⟩
 | h::hs,s,θ,hS=>by
  unfold OZ;split
  ·rename_i s' c;obtain ⟨θ1,f,b⟩:=Sy c hS;obtain ⟨θ2,e,d⟩:=Fm (hs:=hs) f;exact ⟨θ2,e,b.trans d⟩
  ·exact Fm hS
theorem AY (b:Sim P I w0 F n J θ s a w): ∃θ',Sim P I w0 F n J θ' (tw s) a w/\Fr s θ (tw s) θ':=Fm b
theorem wI {tr:Trs} : ∀ {hs:List (Bool×Hdr)} {s:Sg} {J:Hp} {θ:Th},Sim P I w0 F n J θ s a w-> ∃J' θ',J.le J'/\Sim P I w0 F n J' θ' (SA tr hs s) a w/\Fr s θ (SA tr hs s) θ'
 | [],s,J,θ,hS=>⟨J,θ,Hp.le.rfl,hS,Fr.rfl⟩
 | (true,h)::hs,s,J,θ,hS=>by
  unfold SA;cases e:O4 tr h s with
  | some s' =>
   obtain ⟨k,θ1,g,j,b⟩:=O7 e hS;obtain ⟨f,θ2,c,i,d⟩:=wI (hs:=hs) j;exact ⟨f,θ2,g.trans c,i,b.trans d⟩
  | none=>exact wI hS
 | (false,h)::hs,s,J,θ,hS=>by
  unfold SA;cases e:O3 tr h s with
  | some s' =>
   obtain ⟨k,g,j,b⟩:=O6 e hS;obtain ⟨f,θ2,c,i,d⟩:=wI (hs:=hs) j;exact ⟨f,θ2,g.trans c,i,b.trans d⟩
  | none=>exact wI hS
end
end R
namespace D
open Go.RowKit
section
variable {P:Program} {I J:Hp} {w0 w w':World} {cs C:List Ch} {o:Oper} {ev:Operand->Value}
theorem BH {α:Type} {R:Rep α} (a:Cpy R R): ∀ {xs:List α} {cur:List Value},(∀i x,xs[i]? =some x-> ∃c:List Value,c.length=R.size/\(∀j,j<R.size->cur[i*R.size+j]? =c[j]?)/\R.rd I c x)->OwnEls R I w cur xs []
 | [],cur,_=>rfl
 | x::xs,cur,h=>by
  have ⟨c,b,f,e⟩:=h 0 x rfl;refine ⟨c,cur.drop R.size,[],[],?_,b,rfl,a e,BH a fun i y l=>?_⟩
  ·apply List.ext_getElem?;grind
  ·have ⟨d,g,k,m⟩:=h (i+1) y (by grind);grind
end
section
variable {P:Program} {I J:Hp} {w0 w w':World} {cs C:List Ch} {o:Oper} {ev:Operand->Value}
theorem DX {α:Type} {E:TypeId} {R:Rep α} (b:R.Sh) {k:Nat} (s:R.size=k) {g ofs n cap:Nat} {xs:List α} (h:St I w0 w (Ch.own (ay E R) [.slice (some ⟨g,ofs,none⟩) n cap] xs::C)) :
  n=xs.length/\xs.length<=cap/\cap<=maxLen/\ ∃cur,w.heap[g]? =some (.cells cur E (0,0))/\ofs+cap*k<=cur.size/\ ∀(i:Nat) x,xs[i]? =some x-> ∃c:List Value,c.length=k/\(∀j,j<k->(cur.toList.drop ofs)[i*k+j]? =c[j]?)/\R.rd I c x:=by
 obtain ⟨A,v,F,⟨G,K,rfl,⟨z,r⟩,B⟩,H,y⟩:=h;rcases r with ⟨hv,rfl,rfl⟩ | ⟨D,e,f,cur,u,hv,p,m,q,d,rfl,l⟩
 ·simp at hv
 ·simp only[List.cons.injEq,Value.slice.injEq,Option.some.injEq,Addr.mk.injEq,and_true] at hv;obtain ⟨⟨rfl,rfl⟩,rfl,rfl⟩:=hv;obtain rfl:=l.sh b;have a:=fun i x t=>l.at Hp.le.rfl (by simp) i x t;rw[s] at a d;exact ⟨rfl,m,q,cur,p,d,a⟩
theorem Jf {α:Type} {E:TypeId} {R:Rep α} (L:R.Sh) (hC:Cpy R R) {k:Nat} (O:R.size=k) {g ofs n cap p cnt:Nat} {xs zs:List α} {news:List Value} (hn:news.length=cnt*k) (l:p+cnt<=cap) (hz:zs.length<=cap) (d:zs.length<=lim)
  (f: ∀i z,zs[i]? =some z->(p<=i/\i<p+cnt/\ ∃c:List Value,c.length=k/\(∀j,j<k->news[(i - p)*k+j]? =c[j]?)/\R.rd I c z)\/((i<p\/p+cnt<=i)/\xs[i]? =some z))
  (h:St I w0 w (Ch.own (ay E R) [.slice (some ⟨g,ofs,none⟩) n cap] xs::C)):St I w0 (w.setCells g (ofs+p*k) news) (Ch.own (ay E R) [.slice (some ⟨g,ofs,none⟩) zs.length cap] zs::C):=by
 obtain ⟨A,Z,F,⟨G,K,rfl,⟨hl,e2⟩,e3⟩,S,T⟩:=h;rcases e2 with ⟨hv,rfl,rfl⟩ | ⟨g',U,W,cur,K1,hv,k1,k2,k3,k4,rfl,X⟩
 ·simp at hv
 ·simp only[List.cons.injEq,Value.slice.injEq,Option.some.injEq,Addr.mk.injEq,and_true] at hv;obtain ⟨⟨rfl,rfl⟩,rfl,rfl⟩:=hv;obtain rfl:=X.sh L;have m:=fun i x Q=>X.at Hp.le.rfl (by simp) i x Q;rw[O] at m k4;have B:cur.toList.length=cur.size:=Array.length_toList;have m0:(p+cnt)*k=p*k+cnt*k:=Nat.add_mul _ _ _;have m1:(p+cnt)*k<=cap*k:=Nat.mul_le_mul_right _ l;have a:ofs+p*k+news.length<=cur.size:=by omega
  obtain ⟨o1,o2,o3,o4,V⟩:=qK g news (ofs+p*k) w;have r:=tH news (ofs+p*k) w cur a k1;have N:g∉K:=by rw[List.cons_append] at S;simpa using (List.nodup_cons.1 S).1
  have key: ∀q,((cur.toList.take (ofs+p*k)++news++cur.toList.drop (ofs+p*k+news.length)).toArray.toList.drop ofs)[q]? =if p*k<=q/\q<p*k+cnt*k then news[q - p*k]? else (cur.toList.drop ofs)[q]? :=by
   intro q;rw[List.getElem?_drop];show (cur.toList.take (ofs+p*k)++news++cur.toList.drop (ofs+p*k+news.length))[ofs+q]? =_;have s:(cur.toList.take (ofs+p*k)).length=ofs+p*k:=by rw[aB];omega
   by_cases y:q<p*k
   ·rw[if_neg (by omega),aC,List.getElem?_append_left (by omega),List.getElem?_take,if_pos (by omega),List.getElem?_drop]
   ·by_cases v:q<p*k+cnt*k
    ·rw[if_pos (by omega),aC,List.getElem?_append_right (by omega),s,List.getElem?_append_left (by omega)];congr 1;omega
    ·rw[if_neg (by omega),List.getElem?_append_right (by rw[az];omega),az,s,hn,List.getElem?_drop,List.getElem?_drop];congr 1;omega
  refine ⟨⟨o1.trans A.1,o2.trans A.2.1,o3.trans A.2.2.1,by rw[o4];exact A.2.2.2⟩,fun q u t=>?_,[g] ++K,⟨[g],K,rfl,⟨d,.inr ⟨g,ofs,cap,_,[],rfl,r,hz,k3,?_,rfl,BH hC fun i x Q=>?_⟩⟩,e3.stay fun q t=>V q fun e=>N (e ▸ t)⟩,S,T⟩
  ·show (w.setCells g (ofs+p*k) _).heap[q]? =some u;rw[V q fun e=>by rw[e,T g (by simp)] at t;cases t];exact Z q u t
  ·rw[O];simp only[List.size_toArray,az,aB,aZ,B];omega
  ·rw[O];rcases f i x Q with ⟨b,H,c,y,v,D⟩ | ⟨b,H⟩
   ·refine ⟨c,y,fun j M=>?_,D⟩;have Y:p*k<=i*k:=Nat.mul_le_mul_right _ b;have a2:i*k+k<=p*k+cnt*k:=by rw[<-Nat.succ_mul,<-Nat.add_mul];exact Nat.mul_le_mul_right _ H
    have a3:(i - p)*k=i*k - p*k:=Nat.sub_mul _ _ _;rw[key,if_pos (by omega),<-v j M,a3];congr 1;omega
   ·obtain ⟨c,y,v,D⟩:=m i x H;refine ⟨c,y,fun j M=>?_,D⟩;have Y:i*k+k<=p*k\/p*k+cnt*k<=i*k:=by
     rcases b with b | b
     ·left;rw[<-Nat.succ_mul];exact Nat.mul_le_mul_right _ b
     ·right;rw[<-Nat.add_mul];exact Nat.mul_le_mul_right _ b
    rw[key,if_neg (by omega)];exact v j M
def tO (cur:Array Value) (ofs k j m:Nat):List Value:=((cur.toList.drop ofs).drop (j*k)).take ((m - j)*k)
theorem uV {cur:Array Value} {ofs k j m cap:Nat} (h:ofs+cap*k<=cur.size) (a:j<=m) (b:m<=cap):(tO cur ofs k j m).length=(m - j)*k:=by
 have d:m*k<=cap*k:=Nat.mul_le_mul_right _ b;have e:(m - j)*k=m*k - j*k:=Nat.sub_mul _ _ _;have c:j*k<=m*k:=Nat.mul_le_mul_right _ a;unfold tO;rw[aB,aZ,aZ,Array.length_toList];omega
theorem mY {cur:Array Value} {ofs k j m q:Nat} (a:q<(m - j)*k):(tO cur ofs k j m)[q]? =(cur.toList.drop ofs)[j*k+q]? :=by
 unfold tO;rw[List.getElem?_take,if_pos a,List.getElem?_drop]
theorem MH {α:Type} {R:Rep α} {xs:List α} {cur:Array Value} {ofs k j m:Nat} (g:0<k) (p:m<=xs.length) (e: ∀(i:Nat) x,xs[i]? =some x-> ∃c:List Value,c.length=k/\(∀j,j<k->(cur.toList.drop ofs)[i*k+j]? =c[j]?)/\R.rd I c x): ∀u∈tO cur ofs k j m,u.oneCell'=true:=by
 intro u l;obtain ⟨q,f⟩:=List.getElem?_of_mem l;have a:=(List.getElem?_eq_some_iff.1 f).1;have b:q<(m - j)*k:=by
  unfold tO at a;rw[aB] at a;omega
 rw[mY b] at f;have t:(m - j)*k=m*k - j*k:=Nat.sub_mul _ _ _;have r:m*k<=xs.length*k:=Nat.mul_le_mul_right _ p;have d:(j*k+q) / k<xs.length:=by rw[Nat.div_lt_iff_lt_mul g];omega
 obtain ⟨c,s,h,n⟩:=e _ _ (List.getElem?_eq_getElem d)
 have:=h ((j*k+q) % k) (Nat.mod_lt _ g)
 rw[Nat.div_add_mod',f] at this;exact R.rd_one n u (List.mem_of_getElem? this.symm)
theorem zg {g ofs:Nat} {cur:Array Value} {E:TypeId} {a:Nat×Nat} (h:w.heap[g]? =some (.cells cur E a)) (q:Nat):w.cell? ⟨g,ofs+q,none⟩=(cur.toList.drop ofs)[q]? :=by
 simp[World.cell?,h]
def ri {α:Type} (xs:List α) (i j m:Nat):List α:=xs.take i++(((xs.take m).drop j)++xs.drop (i+(m - j)))
theorem xI {α:Type} {xs:List α} {i j m:Nat} (h1:i<=j) (a:j<=m) (b:m<=xs.length):(ri xs i j m).length=xs.length:=by
 simp only[ri,az,aB,aZ];omega
theorem DY {α:Type} {xs:List α} {i j m q:Nat} (h1:i<=j) (f:j<=m) (d:m<=xs.length):(ri xs i j m)[q]? =if i<=q/\q<i+(m - j) then xs[j+(q - i)]? else xs[q]? :=by
 have b:(xs.take i).length=i:=by rw[aB];omega
 have c:((xs.take m).drop j).length=m - j:=by rw[aZ,aB];omega
 unfold ri;by_cases a:q<i
 ·rw[if_neg (by omega),List.getElem?_append_left (by omega),List.getElem?_take,if_pos a]
 ·rw[List.getElem?_append_right (by omega),b];by_cases e:q<i+(m - j)
  ·rw[if_pos (by omega),List.getElem?_append_left (by omega),List.getElem?_drop,List.getElem?_take,if_pos (by omega)]
  ·rw[if_neg (by omega),List.getElem?_append_right (by omega),c,List.getElem?_drop];congr 1;omega
theorem Fo {α:Type} {E T:TypeId} {R:Rep α} {z:Value} {n b:Nat} {x y:Operand} {g ofs cap len i j m c:Nat} {a:Addr} {xs:List α} (v:R.Sh) (hC:Cpy R R) (X:P.underlying T=some (.slice E)) (hE:TZ P E z n b) (Q:0<n) (O:R.size=n)
  (Y:o.op= .call { callee:=.builtin .append,args:= #[x,y],argTypes:= #[T,T] }) (hx:ev x= .slice (some ⟨g,ofs,none⟩) i cap) (hy:ev y= .slice (some a) (m - j) c) (ha:j<m->a=⟨g,ofs+j*n,none⟩) (r:i<=j) (D:j<=m) (A:m<=xs.length) :
  OpT P I w0 o ev [Ch.own (ay E R) [.slice (some ⟨g,ofs,none⟩) len cap] xs] (· = .slice (some ⟨g,ofs,none⟩) (i+(m - j)) cap) (fun _=>[Ch.own (ay E R) [.slice (some ⟨g,ofs,none⟩) len cap] (ri xs i j m)]):=by
 intro w C H;obtain ⟨info,M,hz,d,hby⟩:=info_parts hE;obtain ⟨rfl,N,r2,cur,K,S,s⟩:=DX v O H;have f:=uV (k:=n) (j:=j) S D (Nat.le_trans A N);have m1:xs.length*n<=cap*n:=Nat.mul_le_mul_right _ N;have m2:i*n<=j*n:=Nat.mul_le_mul_right _ r;have m3:(m - j)*n=m*n - j*n:=Nat.sub_mul _ _ _;have m4:j*n<=m*n:=Nat.mul_le_mul_right _ D;have m5:m*n<=xs.length*n:=Nat.mul_le_mul_right _ A;have G:(cur.toList.drop ofs).length=cur.size - ofs:=by rw[aZ,Array.length_toList]
 have h:=run_append_room_cells (P:=P) w T o.type E info X M g ofs i cap a (m - j) c (tO cur ofs n j m) (by rw[d];exact f) (fun q u e=>by
  have l:=(List.getElem?_eq_some_iff.1 e).1;rw[f] at l;rw[mY l] at e;by_cases L:j<m
  ·rw[ha L];simp only[Addr.add_mid];rw[Nat.add_assoc,zg K];exact e
  ·rw[show m - j=0 from by omega] at l;omega) (MH Q A s) (by omega) (fun q e=>by
  rw[f] at e;rw[d,Nat.add_assoc,zg K,List.getElem?_eq_getElem (by rw[G];omega)];rfl) (fun q _=>by simp[World.frozen?,K])
 rw[d] at h;rw[eD Y hx hy h];have F:=xI (xs:=xs) r D A;have U:=(H.hd 0 rfl).2
 have:=Jf (zs:=ri xs i j m) v hC O (p:=i) (cnt:=m - j) f (by omega) (by omega) (by omega) (fun q u e=>by
  rw[DY r D A] at e;by_cases B:i<=q/\q<i+(m - j)
  ·rw[if_pos B] at e;obtain ⟨c,Z,d2,V⟩:=s _ _ e;refine .inl ⟨B.1,B.2,c,Z,fun t W=>?_,V⟩;have e1:(q - i)*n+n<=(m - j)*n:=by rw[<-Nat.succ_mul];exact Nat.mul_le_mul_right _ (by omega)
   rw[mY (by omega),<-d2 t W,Nat.add_mul];congr 1;omega
  ·rw[if_neg B] at e;exact .inr ⟨by omega,e⟩) H
 rw[F] at this;exact ⟨rfl,this⟩
theorem BJ (w:World) (t e ty:TypeId) (z:Value) (d:P.underlying t=some (.slice e)) (hv:(zeroValue e).run P w= .ok z w) (b o n c:Nat) (h:0<n)
  (f: ∀j,j<(Builtin.zeroCells z.cells n).toList.length->(w.cell? ⟨b,o+j,none⟩).isSome=true) (g: ∀j,j<(Builtin.zeroCells z.cells n).toList.length->w.frozen? ⟨b,o+j,none⟩=false) (h1: ∀v∈(Builtin.zeroCells z.cells n).toList,v.oneCell'=true) :
  (Builtin.clear_ #[t] ty #[.slice (some ⟨b,o,none⟩) n c]).run P w= .ok (.tuple #[]) (w.setCells b o (Builtin.zeroCells z.cells n).toList):=by
 have a:=run_storeCells_cells (P:=P) b o (Builtin.zeroCells z.cells n).toList 0 w (by simpa using f) (by simpa using g) h1;simp only[Nat.add_zero] at a;obtain ⟨m,rfl⟩: ∃m,n=m+1:=⟨n - 1,by omega⟩;simp[Builtin.clear_,run_underlying d,hv,a]
theorem tP (w:World) (t e ty:TypeId) (b:P.underlying t=some (.slice e)) (a:Option Addr) (c:Nat):(Builtin.clear_ #[t] ty #[.slice a 0 c]).run P w= .ok (.tuple #[]) w:=by
 cases a <;> simp[Builtin.clear_,run_underlying b]
theorem qN {x:Operand} {T:TypeId} {v r:Value} {w w':World} (b:o.op= .call { callee:=.builtin .clear,args:= #[x],argTypes:= #[T] }) (c:ev x=v) (a:(Builtin.clear_ #[T] o.type #[v]).run P w= .ok r w'):(execOp ev o).run P w= .ok (.value r) w':=by
 simp only[execOp,b,resolve,invoke,builtin,Sem.run_bind,Sem.run_pure,Result.andThen_ok,List.map_toArray,List.map_cons,List.map_nil,c,a]
theorem rZ {a:Array Value} {n:Nat} :(Builtin.zeroCells a n).toList.length=n*a.size:=by simp[Builtin.zeroCells]
theorem xJ {a:Array Value} {n i j:Nat} (hi:i<n) (b:j<a.size):(Builtin.zeroCells a n).toList[i*a.size+j]? =a.toList[j]? :=by
 have d:i*a.size+j<n*a.size:=by
  have:i*a.size+a.size<=n*a.size:=by rw[<-Nat.succ_mul];exact Nat.mul_le_mul_right _ hi
  omega
 have c:(i*a.size+j) % a.size=j:=by rw[Nat.add_comm,Nat.add_mul_mod_self_right,Nat.mod_eq_of_lt b]
 simp[Builtin.zeroCells,d,c,b]
def AE {α:Type} (xs:List α) (l m:Nat) (z:α):List α:=xs.take l++(List.replicate (m - l) z++xs.drop m)
theorem Aa {α:Type} {xs:List α} {l m:Nat} {z:α} (h1:l<=m) (a:m<=xs.length):(AE xs l m z).length=xs.length:=by
 simp only[AE,az,aB,aZ,List.length_replicate];omega
theorem Hu {α:Type} {xs:List α} {l m q:Nat} {z:α} (h1:l<=m) (d:m<=xs.length):(AE xs l m z)[q]? =if l<=q/\q<m then some z else xs[q]? :=by
 have b:(xs.take l).length=l:=by rw[aB];omega
 unfold AE;by_cases a:q<l
 ·rw[if_neg (by omega),List.getElem?_append_left (by omega),List.getElem?_take,if_pos a]
 ·rw[List.getElem?_append_right (by omega),b];by_cases c:q<m
  ·rw[if_pos (by omega),List.getElem?_append_left (by rw[List.length_replicate];omega),List.getElem?_replicate,if_pos (by omega)]
  ·rw[if_neg (by omega),List.getElem?_append_right (by rw[List.length_replicate];omega),List.length_replicate,List.getElem?_drop];congr 1;omega
theorem Hv {α:Type} {E T:TypeId} {R:Rep α} {z:Value} {i:α} {n b:Nat} {x:Operand} {g ofs cap len l m c:Nat} {a:Addr} {xs:List α} (j:R.Sh) (X:Cpy R R) (L:P.underlying T=some (.slice E)) (Y:TZ P E z n b) (hn:0<n) (Q:R.size=n) (e:z.cells.size=n) (r:R.rd I z.cells.toList i)
  (M:o.op= .call { callee:=.builtin .clear,args:= #[x],argTypes:= #[T] }) (y:ev x= .slice (some a) (m - l) c) (W:l<m->a=⟨g,ofs+l*n,none⟩) (G:l<=m) (K:m<=xs.length) :
  OpT P I w0 o ev [Ch.own (ay E R) [.slice (some ⟨g,ofs,none⟩) len cap] xs] (fun _=>True) (fun _=>[Ch.own (ay E R) [.slice (some ⟨g,ofs,none⟩) len cap] (AE xs l m i)]):=by
 intro w C s;obtain ⟨rfl,S,r2,cur,N,r4,V⟩:=DX j Q s;by_cases H:l=m
 ·subst H;rw[Nat.sub_self] at y;rw[qN M y (tP w T E o.type L _ _)];refine ⟨trivial,?_⟩
  have:AE xs l l i=xs:=by simp[AE]
  rw[this];exact s
 ·have F:l<m:=by omega
  rw[W F] at y;have Z:xs.length*n<=cap*n:=Nat.mul_le_mul_right _ S;have m3:(m - l)*n=m*n - l*n:=Nat.sub_mul _ _ _;have m4:l*n<=m*n:=Nat.mul_le_mul_right _ G;have m5:m*n<=xs.length*n:=Nat.mul_le_mul_right _ K;have B:(cur.toList.drop ofs).length=cur.size - ofs:=by rw[aZ,Array.length_toList]
  have O:(Builtin.zeroCells z.cells (m - l)).toList.length=(m - l)*n:=by rw[rZ,e]
  have h: ∀v∈(Builtin.zeroCells z.cells (m - l)).toList,v.oneCell'=true:=by
   intro v k;simp only[Builtin.zeroCells,Array.toList_map,List.mem_map] at k;obtain ⟨q,-,rfl⟩:=k;have d:q % z.cells.size<z.cells.size:=Nat.mod_lt _ (by omega);rw[getElem!_pos z.cells _ d];exact R.rd_one r _ (by simp)
  have f:=BJ (P:=P) w T E o.type z L (Y.run_zero w) g (ofs+l*n) (m - l) c (by omega) (fun q d=>by
   rw[O] at d;rw[Nat.add_assoc,zg N,List.getElem?_eq_getElem (by rw[B];omega)];rfl) (fun q _=>by simp[World.frozen?,N]) h
  rw[qN M y f];have A:=Aa (xs:=xs) (z:=i) G K;have U:=(s.hd 0 rfl).2
  have:=Jf (zs:=AE xs l m i) j X Q (p:=l) (cnt:=m - l) O (by omega) (by omega) (by omega) (fun q u d=>by
   rw[Hu G K] at d;by_cases D:l<=q/\q<m
   ·rw[if_pos D] at d;obtain rfl:=ae d;refine .inl ⟨D.1,by omega,z.cells.toList,by rw[Array.length_toList,e],fun t ht=>?_,r⟩;rw[<-e,xJ (by omega) (by omega)]
   ·rw[if_neg D] at d;exact .inr ⟨by omega,d⟩) s
  rw[A] at this;exact ⟨trivial,this⟩
end
end D
namespace R
open Go.RowKit
open D
theorem Vw.hd {u v:Value} {k n:Nat} {l m:Int} (h:Vw u v k n l m): ∃a c,u= .slice a (m.toNat - l.toNat) c/\0<=l/\l<=m:=by
 rcases h with ⟨-,rfl,-,rfl,rfl⟩ | ⟨g,b,cap,x,-,rfl,e,d,-⟩
 ·grind
 grind
theorem Vw.one {u v:Value} {k n:Nat} {l m:Int} (h:Vw u v k n l m):u.oneCell'=true:=by
 obtain ⟨a,c,rfl,_⟩:=h.hd;rfl
theorem BK {I:Hp} {w0 w:World} {C:List Ch} {α:Type} {E:TypeId} {R:Rep α} {v:Value} {xs:List α} {k:Nat} (h:St I w0 w (Ch.own (ay E R) [v] xs::C)):Vw v v k xs.length 0 xs.length:=by
 obtain ⟨n,e,F,⟨G,K,rfl,⟨l,c⟩,o⟩,q,f⟩:=h;rcases c with ⟨hv,rfl,rfl⟩ | ⟨g,a,cap,cur,d,hv,j,b,m,i,rfl,p⟩
 ·obtain rfl:v= .slice none 0 0:=by grind
  exact .inl ⟨rfl,rfl,rfl,rfl,rfl⟩
 ·obtain rfl:v= .slice (some ⟨g,a,none⟩) xs.length cap:=by grind
  exact .inr ⟨g,a,cap,0,rfl,by simp,by omega,by omega,b,by omega,Nat.zero_le _,.inr (by simp)⟩
theorem O8 {I:Hp} {w0 w:World} {C:List Ch} {α:Type} {E:TypeId} {R:Rep α} {u v:Value} {xs:List α} {k n:Nat} {l m:Int} (h:St I w0 w (Ch.own (ay E R) [v] xs::C)) (hv:Vw u v k n l m):n=xs.length:=by
 have d:=BK (k:=k) h;rcases hv with ⟨rfl,-,rfl,-,-⟩ | ⟨g,c,cap,x,rfl,-,-⟩ <;> rcases d with ⟨e,-,q,-,-⟩ | ⟨i,a,b,f,e,-,-⟩
 ·omega
 ·cases e
 ·cases e
 grind
theorem SB {u v w:Value} {k n:Nat} {l m a c:Int} (h:Vw u v k n l m) (h1:0<=a) (A:a<=c) (C:l+c<=(n:Int)\/c<=m - l) {ao:Option Addr} {len cap:Nat} (i:u= .slice ao len cap) (q:w=sliced ao a.toNat c.toNat cap k):Vw w v k n (l+a) (l+c):=by
 rcases h with ⟨rfl,rfl,rfl,rfl,rfl⟩ | ⟨g,b,d,x,rfl,rfl,t,z,o,B,E,s⟩
 ·obtain rfl:a=0:=by omega
  obtain rfl:c=0:=by omega
  injection i with e r f
  subst e;subst f;exact .inl ⟨rfl,by grind[sliced],rfl,rfl,rfl⟩
 ·injection i with e r f
  subst e;subst f;subst q;have y:(l+a).toNat=l.toNat+a.toNat:=by omega
  have j:(l+c).toNat - (l+a).toNat=c.toNat - a.toNat:=by omega
  have D:(l.toNat+a.toNat)*k=l.toNat*k+a.toNat*k:=Nat.add_mul _ _ _;by_cases p:d - l.toNat=a.toNat
  ·refine .inr ⟨g,b,d,x,rfl,?_,by omega,by omega,o,by omega,by grind,.inl (by omega)⟩;simp[sliced,p,if_true,j];grind
  ·refine .inr ⟨g,b,d,x+a.toNat*k,rfl,?_,by omega,by omega,o,by omega,by grind,?_⟩
   ·simp[sliced,p,if_false,j,Option.map_some,Addr.add_mid,Nat.add_assoc];grind
   grind
def oI (ev:Operand->Value):Option Operand->Option Int->Prop
 | none,none=>True
 | some x,some m=>ev x= .int .i64 m
 | _,_=>False
section
variable {P:Program} {I:Hp} {w0:World} {o:Oper} {ev:Operand->Value}
theorem DZ {t e:TypeId} {x:Operand} {lo hi:Option Operand} {ml mh:Option Int} {ao:Option Addr} {len cap n:Nat} {agg:Bool} (c:P.underlying t=some (.slice e)) (f:TI P e agg n) (g:o.op= .slice t x lo hi none) (l:ev x= .slice ao len cap) (b:oI ev lo ml) (a:oI ev hi mh) (d:len<=cap)
  (h1:0<=ml.getD 0) (j:ml.getD 0<=mh.getD len) (k:mh.getD len<=(cap:Int)) :
  OpT P I w0 o ev [] (· =sliced ao (ml.getD 0).toNat (mh.getD len).toNat cap n) (fun _=>[]):=by
 have i:P.elem t=e:=by simp[Program.elem,c]
 refine bt fun w=>?_;have h:=TI.size f w;cases lo with
 | none =>
  cases ml with
  | some _=>exact b.elim
  | none =>
   cases hi with
   | none =>
    cases mh with
    | some _=>exact a.elim
    | none =>
     simp_all[execOp,Option.map_some,Option.map_none,Sem.run_bind,run_sliceAt_slice,run_slice_all,Result.andThen_ok]
   | some hi =>
    cases mh with
    | none=>exact a.elim
    | some mh =>
     have a:ev hi= .int .i64 mh:=a;simp_all[execOp,Option.map_some,Option.map_none,Sem.run_bind,run_sliceAt_slice,run_slice_h,Result.andThen_ok]
 | some lo =>
  cases ml with
  | none=>exact b.elim
  | some ml =>
   have b:ev lo= .int .i64 ml:=b;cases hi with
   | none =>
    cases mh with
    | some _=>exact a.elim
    | none =>
     simp_all[execOp,Option.map_some,Option.map_none,Sem.run_bind,run_sliceAt_slice,run_slice_l,Result.andThen_ok]
   | some hi =>
    cases mh with
    | none=>exact a.elim
    | some mh =>
     have a:ev hi= .int .i64 mh:=a;simp_all[execOp,Option.map_some,Option.map_none,Sem.run_bind,run_sliceAt_slice,run_slice_lh,Result.andThen_ok]
theorem MI {t e:TypeId} {x y z q:Operand} {ml mh a:Int} {ao:Option Addr} {len cap n:Nat} {agg:Bool} (b:P.underlying t=some (.slice e)) (c:TI P e agg n) (d:o.op= .slice t x (some y) (some z) (some q)) (m:ev x= .slice ao len cap) (g:ev y= .int .i64 ml) (j:ev z= .int .i64 mh) (l:ev q= .int .i64 a)
  (h1:0<=ml) (i:ml<=mh) (k:mh<=a) (p:a<=(cap:Int)) :
  OpT P I w0 o ev [] (fun _=>True) (fun _=>[]):=by
 have h:P.elem t=e:=by simp[Program.elem,b]
 refine OpT.weak (bt (v:=sliced ao ml.toNat mh.toNat a.toNat n) fun w=>?_) (fun _ _=>trivial) (fun _ _=>rfl);have f:=TI.size c w;simp_all[execOp,Option.map_some,Sem.run_bind,run_sliceAt_slice,run_slice_lhm,Result.andThen_ok]
end
def SC:(t:Ty)->List Value->Option t.den
 | .raw,[v] =>if h:v.oneCell'=true then some (⟨v,h⟩:Raw) else none
 | .prod .raw b,v::cs=>if h:v.oneCell'=true then (SC b cs).bind fun d=>some ((⟨v,h⟩:Raw),d) else none
 | _,_=>none
theorem SD {J:Hp} : ∀ {t:Ty} {cs:List Value} {d:t.den},SC t cs=some d->t.rep.rd J cs d:=by
 intro t;induction t with
 | raw =>
  intro cs d h
  match cs,h with
  | [],h=>cases h
  | _::_::_,h=>cases h
  | [v],h =>
   by_cases c:v.oneCell'=true
   ·have h:(if h:v.oneCell'=true then some (⟨v,h⟩:Raw) else none)=some d:=h;rw[dif_pos c] at h;cases ae h;rfl
   ·have h:(if h:v.oneCell'=true then some (⟨v,h⟩:Raw) else none)=some d:=h;grind
 | prod a b iha ihb =>
  intro cs d h;cases a with
  | raw =>
   cases cs with
   | nil=>cases h
   | cons v cs =>
    unfold SC at h;split at h
    ·have ⟨f,e,h⟩:=Option.bind_eq_some_iff.1 h;cases ae h;exact ⟨[v],cs,rfl,rfl,ihb e⟩
    grind
  | _=>cases cs <;> cases h
 | _=>intro cs d h;cases cs <;> cases h
def SE (e t:Ty):Option t.den:=match pc e t (EY e) with
 | some z=>some z
 | none=>SC t (zeroCells e)
theorem KV {e t:Ty} {z:t.den} (h:SE e t=some z) (J:Hp):t.rep.rd J (zeroCells e) z:=by
 grind[SE,ae,jF,qL,SD]
structure Vb where
 x:Bool
 h:Hdr
 k:Nat
 l:Int
 m:Int
 r:Row
section
variable {Y:Type} (tt:TT) (s:Sg) (k:Res->Option Y)
def ZK (chs:List Ent) (x:Operand):Option Vb:=match opd s x with
 | some (.one (.own h))=>(rowOf h chs).bind fun r=>some ⟨false,h,r.t.size,0,(r.xs.length:Int),r⟩
 | some (.vw u h k n l m)=>(rowOf h chs).bind fun r=>b8 (Nat.beq k r.t.size) (some ⟨false,h,k,l,m,r⟩)
 | some (.xv top u h k n l m)=>match rowOf u chs with
  | some r=>b8 (Nat.beq k r.t.size) (some ⟨false,u,k,0,(r.xs.length:Int),r⟩)
  | none=>(rowOf h chs).bind fun r=>b8 (Nat.beq k r.t.size) (some ⟨true,h,k,l,m,r⟩)
 | _=>none
def RF (x:Operand):Option Vb:=ZK s s.chs x
def loV (x:Option Operand) (d:Int) (k:Int->Option Y):Option Y:=match x with
 | none=>k d
 | some x=>(asI s x).bind k
def Fp (T:TypeId) (x:Operand) (lo hi:Option Operand):Option Y:=(td tt T).bind fun d=>d.el.bind fun E'=>(td tt E').bind fun e=>(RF s x).bind fun b=>b8 (Nat.beq e.n b.k) (loV s lo 0 fun ml=>loV s hi (b.m - b.l) fun mh =>
 match b.x with
 | false=>(chk (0<=ml/\ml<=mh/\b.l+mh<=(b.r.xs.length:Int))).bind fun _=>k ⟨[b.r.ent b.h],[],b.r.rest,[],.vw ⟨s.nxt,[]⟩ b.h b.k b.r.xs.length (b.l+ml) (b.l+mh)⟩
 | true=>(chk (0<=ml/\ml<=mh/\mh<=b.m - b.l)).bind fun _=>k ⟨[b.r.ent b.h],[],b.r.rest,[],.xv false ⟨s.nxt,[]⟩ b.h b.k b.r.xs.length (b.l+ml) (b.l+mh)⟩)
def O9 (T:TypeId) (x y z q:Operand):Option Y:=(td tt T).bind fun d=>d.el.bind fun E'=>(td tt E').bind fun e=>(RF s x).bind fun b=>b8 (Nat.beq e.n b.k) ((asI s y).bind fun ml=>(asI s z).bind fun mh=>(asI s q).bind fun mx =>
 (chk (0<=ml/\ml<=mh/\mh<=mx/\b.l+mx<=(b.r.xs.length:Int))).bind fun _=>k ⟨[b.r.ent b.h],[],b.r.rest,[],.any ⟨s.nxt,[]⟩⟩)
def Xd (T:TypeId) (x:Operand):Option Y:=(td tt T).bind fun d=>match d.el,opd s x with
 | some _,some (.vw u h k' n l m)=>k (.pure s (.one (.val (.int .i64 (m - l)))))
 | some _,some (.xv _ u h k' n l m)=>k (.pure s (.one (.val (.int .i64 (m - l)))))
 | _,_=>none
def Jg (T:TypeId) (x i:Operand):Option Y:=(td tt T).bind fun d=>d.el.bind fun E=>(td tt E).bind fun e=>(RF s x).bind fun b=>b8 (Nat.beq e.n b.k) ((asI s i).bind fun i=>(chk (0<=i/\i<b.m - b.l)).bind fun _=>(aS b.r.xs (b.l+i)).bind fun a=>k ⟨[b.r.ent b.h],[],b.r.rest,[],.elo b.h b.r.ver b.r.E b.r.t b.r.xs a (b.l+i) 0⟩)
def ZL (T:TypeId) (x y:Operand):Option Y:=(td tt T).bind fun d=>d.el.bind fun E=>(td tt E).bind fun e=>e.bytes.bind fun _=>(RF s x).bind fun b=>(RF s y).bind fun c =>
 b8 (Nat.beq e.n b.k&&Hdr.beq c.h b.h&&Nat.beq b.r.E E&&b.r.t.sh) ((chk (b.l=0/\b.m<=c.l/\c.l<=c.m/\c.m<=(b.r.xs.length:Int))).bind fun _=>k ⟨[],[b.r.ent b.h],b.r.rest,[(b.h,.own (.sl b.r.E b.r.t) (ri b.r.xs b.m.toNat c.l.toNat c.m.toNat))],.vw ⟨s.nxt,[]⟩ b.h b.k b.r.xs.length 0 (b.m+(c.m - c.l))⟩)
def Pa (T:TypeId) (x:Operand):Option Y:=(td tt T).bind fun d=>d.el.bind fun E=>(td tt E).bind fun e=>e.bytes.bind fun _=>(RF s x).bind fun b =>
 b8 (Nat.beq e.n b.k&&Nat.beq b.r.E E&&b.r.t.sh) ((SE e.ty b.r.t).bind fun z=>(chk (b.l<=b.m/\b.m<=(b.r.xs.length:Int))).bind fun _=>k ⟨[],[b.r.ent b.h],b.r.rest,[(b.h,.own (.sl b.r.E b.r.t) (AE b.r.xs b.l.toNat b.m.toNat z))],.any ⟨s.nxt,[]⟩⟩)
end
section
variable {Y:Type} {tt:TT} {s:Sg} {k:Res->Option Y} {P:Program} {w0:World} {o:Oper} {res:Y} {x y:Operand}
theorem Jh {chs:List Ent} {b:Vb} (h:ZK s chs x=some b):rowOf b.h chs=some b.r/\b.k=b.r.t.size/\ ∀ {J:Hp} {θ:Th},Fine P w0 J θ s-> ∀ {w:World} {C:List Ch} {xs:List b.r.t.den},xs.length=b.r.xs.length->St J w0 w (Ch.own (ay b.r.E b.r.t.rep) [hv θ b.h] xs::C)->Vw (evL (envL θ s) x) (hv θ b.h) b.k b.r.xs.length b.l b.m:=by
 unfold ZK at h;split at h
 ·rename_i q d;have ⟨r,g,h⟩:=bind_some h;cases ae h;refine ⟨g,rfl,fun {J θ} j {w C xs} f e=>?_⟩;have a:=BK (k:=r.t.size) e;rw[f] at a;rw[aI (θ:=θ) d];exact a
 ·rename_i u q p n l m d;have ⟨r,g,h⟩:=bind_some h;have ⟨c,h⟩:=ai h;have c:=au c;cases ae h;refine ⟨g,c,fun {J θ} j {w C xs} f e=>?_⟩;have i:=b7 j d;have a:=i.2.2.1;cases O8 e a;rw[aI (θ:=θ) d,<-f];exact a
 ·rename_i top u q p n l m d;split at h
  ·rename_i r g;have ⟨c,h⟩:=ai h;have c:=au c;cases ae h;refine ⟨g,c,fun {J θ} j {w C xs} f e=>?_⟩;have a:=BK (k:=p) e;rw[f] at a;rw[aI (θ:=θ) d];exact a
  ·have ⟨r,g,h⟩:=bind_some h;have ⟨c,h⟩:=ai h;have c:=au c;cases ae h;refine ⟨g,c,fun {J θ} j {w C xs} f e=>?_⟩;have i:=b7 j d;have a:=i.2.2.1;cases O8 e a;rw[aI (θ:=θ) d,<-f];exact a
 grind
theorem sb {b:Vb} (h:RF s x=some b):rowOf b.h s.chs=some b.r/\b.k=b.r.t.size/\ ∀ {J:Hp} {θ:Th},Fine P w0 J θ s-> ∀ {w:World} {C:List Ch} {xs:List b.r.t.den},xs.length=b.r.xs.length->St J w0 w (Ch.own (ay b.r.E b.r.t.rep) [hv θ b.h] xs::C)->Vw (evL (envL θ s) x) (hv θ b.h) b.k b.r.xs.length b.l b.m:=Jh h
theorem U9 {Z:Type} {x:Option Operand} {d:Int} {k:Int->Option Z} {z:Z} (h:loV s x d k=some z): ∃m:Option Int,k (m.getD d)=some z/\ ∀θ,oI (evL (envL θ s)) x m:=by
 unfold loV at h;split at h
 ·exact ⟨none,h,fun _=>trivial⟩
 ·have ⟨q,a,h⟩:=bind_some h;exact ⟨some q,h,fun θ=>pj a θ⟩
theorem Xe {h:Hdr} {r:Row} {d:Nat} {l m:Int} (f:rowOf h s.chs=some r) (i:m<=(r.xs.length:Int)) (b: ∀J θ,Fine P w0 J θ s->OpT P J w0 o (evL (envL θ s)) [toCh P θ (r.ent h)] (fun v=>Vw v (hv θ h) d r.xs.length l m) (fun _=>[toCh P θ (r.ent h)])):Good P w0 s o ⟨[r.ent h],[],r.rest,[],.vw ⟨s.nxt,[]⟩ h d r.xs.length l m⟩:=by
 obtain ⟨hp,-⟩:=bU f;refine ⟨pg hp,aW rfl,fun J θ e=>OpT.weak (b J θ e) (fun u c=>?_) (fun u c=>rfl)⟩;have a:=lP e hp;refine ⟨⟨aA _,a8 a.1,?_,i⟩,ep,fun g j=>by cases j⟩;rw[ep,show hv (upd θ s.nxt u) h=hv θ h from bc Same.upd a.1];exact c
theorem Pb {top:Bool} {h:Hdr} {r:Row} {e:Nat} {l m:Int} (i:rowOf h s.chs=some r) (j:top=true->l=0) (b: ∀J θ,Fine P w0 J θ s->OpT P J w0 o (evL (envL θ s)) [toCh P θ (r.ent h)] (fun v=>Vw v (hv θ h) e r.xs.length l m) (fun _=>[toCh P θ (r.ent h)])):Good P w0 s o ⟨[r.ent h],[],r.rest,[],.xv top ⟨s.nxt,[]⟩ h e r.xs.length l m⟩:=by
 obtain ⟨hp,-⟩:=bU i;refine ⟨pg hp,aW rfl,fun J θ d=>OpT.weak (b J θ d) (fun u c=>?_) (fun u c=>rfl)⟩;have a:=lP d hp;refine ⟨⟨aA _,a8 a.1,?_,j⟩,ep,fun g f=>by cases f⟩;rw[ep,show hv (upd θ s.nxt u) h=hv θ h from bc Same.upd a.1];exact c
theorem zh (E:TTok P tt) {T:TypeId} {lo hi:Option Operand} (L:o.op= .slice T x lo hi none) (h:Fp tt s k T x lo hi=some res):Oks P w0 s o k res:=by
 have ⟨d,R,h⟩:=bind_some h;have ⟨E',S,h⟩:=bind_some h;have ⟨e,M,h⟩:=bind_some h;have ⟨b,O,h⟩:=bind_some h;have ⟨D,h⟩:=ai h;have D:=au D;have ⟨l,h,A⟩:=U9 h;have ⟨f,h,z⟩:=U9 h;have ⟨G,hk,m⟩:=sb (P:=P) (w0:=w0) O;have key:0<=l.getD 0->l.getD 0<=f.getD (b.m - b.l)->(b.l+f.getD (b.m - b.l)<=(b.r.xs.length:Int)\/f.getD (b.m - b.l)<=b.m - b.l)-> ∀J θ,Fine P w0 J θ s->OpT P J w0 o (evL (envL θ s)) [toCh P θ (b.r.ent b.h)] (fun v=>Vw v (hv θ b.h) b.k b.r.xs.length (b.l+l.getD 0) (b.l+f.getD (b.m - b.l))) (fun _=>[toCh P θ (b.r.ent b.h)]):=by
  intro i a c J θ H w C F;have p:=m H rfl F;have ⟨Z,cap,B,Q,N⟩:=p.hd;have j:b.m.toNat - b.l.toNat<=cap/\b.l+cap≥b.r.xs.length:=by
   rcases p with ⟨-,q,n,e2,e3⟩ | ⟨g,K,U,x',-,q,W,X,q3,q4,q5,V⟩
   ·omega
   ·grind
  have n:f.getD (b.m - b.l)=f.getD ((b.m.toNat - b.l.toNat:Nat):Int):=by
   cases f with
   | none=>grind
   | some _=>rfl
  rw[n] at a c
  have:=DZ (P:=P) (I:=J) (w0:=w0) (ev:=evL (envL θ s)) ((E.get R).el _ S) (E.get M).ti L B (A θ) (z θ) j.1 i a (by omega) w (toCh P θ (b.r.ent b.h)::C) F
  refine this.imp fun v w' t=>⟨?_,t.2⟩
  rw[n];exact SB p i a c B (by grind)
 split at h
 ·have ⟨u,r,h⟩:=bind_some h;have ⟨i,a,c⟩:=bO r;exact ⟨_,h,Xe G c (key i a (.inl c))⟩
 ·have ⟨u,r,h⟩:=bind_some h;have ⟨i,a,c⟩:=bO r;exact ⟨_,h,Pb G (fun e=>by cases e) (key i a (.inr c))⟩
theorem MJ (m:TTok P tt) {T:TypeId} {y z q:Operand} (E:o.op= .slice T x (some y) (some z) (some q)) (h:O9 tt s k T x y z q=some res):Oks P w0 s o k res:=by
 have ⟨d,M,h⟩:=bind_some h;have ⟨E',N,h⟩:=bind_some h;have ⟨e,F,h⟩:=bind_some h;have ⟨b,H,h⟩:=bind_some h;have ⟨S,h⟩:=ai h;have ⟨V,j,h⟩:=bind_some h;have ⟨W,i,h⟩:=bind_some h;have ⟨Z,f,h⟩:=bind_some h;have ⟨u,O,h⟩:=bind_some h;have ⟨B,r,A,c4⟩:=bO O;have ⟨L,hk,c⟩:=sb (P:=P) (w0:=w0) H;obtain ⟨hp,-⟩:=bU L;refine ⟨_,h,pg hp,aW rfl,fun J θ t=>OpT.weak (fact:=fun _=>True) (gv:=fun _=>[toCh P θ (b.r.ent b.h)]) (fun w C n=>?_) (fun u a=>⟨aA _,ep,fun g v=>by cases v⟩) (fun u a=>rfl)⟩;have p:=c t rfl n;have ⟨ao,cap,a,K,G⟩:=p.hd;have l:b.l+cap≥b.r.xs.length:=by
  rcases p with ⟨-,q,X,e2,e3⟩ | ⟨g,D,Q,x',-,q,U,q2,q3,q4,q5,R⟩
  ·omega
  ·grind
 exact MI (P:=P) (I:=J) (w0:=w0) (ev:=evL (envL θ s)) ((m.get M).el _ N) (m.get F).ti E a (pj j θ) (pj i θ) (pj f θ) B r A (by omega) w (toCh P θ (b.r.ent b.h)::C) n
theorem KW (j:TTok P tt) {T:TypeId} (p:o.op= .call { callee:=.builtin .len,args:= #[x],argTypes:= #[T] }) (h:Xd tt s k T x=some res):Oks P w0 s o k res:=by
 have ⟨d,q,h⟩:=bind_some h;split at h
 ·rename_i E u w r n l m i f;refine l9 h rfl fun J θ g=>?_;have b:=b7 g f;have ⟨a,c,e,v,t⟩:=b.2.2.1.hd
  have:=xq (P:=P) (I:=J) (w0:=w0) (o:=o) (ev:=evL (envL θ s)) ((j.get q).el _ i) p ((aI (θ:=θ) f).trans e)
  grind
 ·rename_i E top u w r n l m i f;refine l9 h rfl fun J θ g=>?_;have b:=b7 g f;have ⟨a,c,e,v,t⟩:=b.2.2.1.hd
  have:=xq (P:=P) (I:=J) (w0:=w0) (o:=o) (ev:=evL (envL θ s)) ((j.get q).el _ i) p ((aI (θ:=θ) f).trans e)
  grind
 grind
theorem D0 (z:TTok P tt) {T:TypeId} {i:Operand} (G:o.op= .indexAddr T x i) (h:Jg tt s k T x i=some res):Oks P w0 s o k res:=by
 have ⟨d,O,h⟩:=bind_some h;have ⟨E',Q,h⟩:=bind_some h;have ⟨e,I,h⟩:=bind_some h;have ⟨b,M,h⟩:=bind_some h;have ⟨m,h⟩:=ai h;have m:=au m;have ⟨c,D,h⟩:=bind_some h;have ⟨u,R,h⟩:=bind_some h;have ⟨F,U⟩:=bO R;have ⟨a,N,h⟩:=bind_some h;have ⟨B,S,p⟩:=sb (P:=P) (w0:=w0) M;obtain ⟨hp,-⟩:=bU B;refine ⟨_,h,pg hp,aW rfl,fun J θ n=>OpT.weak (fact:=(· =pt (hv θ b.h) ((b.l+c).toNat*b.r.t.size+0))) (gv:=fun _=>[toCh P θ (b.r.ent b.h)]) (fun w C A=>?_) (fun u v=>?_) (fun u v=>rfl)⟩
 ·have L:=p n rfl A;have t:=(z.get O).el _ Q;have r:=(z.get I).ti;rcases L with ⟨-,q,Z,e2,e3⟩ | ⟨g,j,V,x',H,q,X,q2,q3,q4,q5,W⟩
  ·omega
  ·have l:pt (hv θ b.h) ((b.l+c).toNat*b.r.t.size+0)= .pointer (some ⟨g,j+b.l.toNat*b.k+c.toNat*e.n,none⟩):=by
    rw[H];show Value.pointer (some ⟨g,j+((b.l+c).toNat*b.r.t.size+0),none⟩)=_;rw[show (b.l+c).toNat=b.l.toNat+c.toNat from by omega,<-S,m,Nat.add_mul];congr 3;omega
   rw[l];have K:c<((b.m.toNat - b.l.toNat:Nat):Int):=by omega
   have:OpT P J w0 o (evL (envL θ s)) [] (· = .pointer (some ⟨g,j+b.l.toNat*b.k+c.toNat*e.n,none⟩)) (fun _=>[]):=by
    refine bt fun w=>?_;simp[execOp,G,q,pj D θ,Instr.indexAt,asIntOf,run_underlying t,r.run_size,F,K,Result.andThen,Addr.add_mid]
   exact this w (toCh P θ (b.r.ent b.h)::C) A
 ·have f:=lP n hp;refine ⟨⟨a8 f.1,N,(xz B f.2.1).newer (Res.newer (pg hp) (aW rfl J θ n)) (Nat.le_succ _)⟩,?_,fun g E=>by cases E⟩;rw[v];show pt (hv (upd θ s.nxt _) b.h) _=pt (hv θ b.h) _;rw[show hv (upd θ s.nxt _) b.h=hv θ b.h from bc Same.upd f.1]
theorem Fq {h:Hdr} {r:Row} {xs:List r.t.den} {av:AV} {fact:Th->Value->Prop} (l:rowOf h s.chs=some r) (c: ∀J θ,Fine P w0 J θ s->OpT P J w0 o (evL (envL θ s)) [toCh P θ (r.ent h)] (fact θ) (fun _=>[Ch.own (ay r.E r.t.rep) [hv θ h] xs]))
  (d: ∀J θ u,Fine P w0 J θ s->fact θ u->h.id<s.nxt->av.ok P w0 J (upd θ s.nxt u) (s.nxt+1) ((h,s.nxt,.own (.sl r.E r.t) xs)::r.rest)/\av.v (upd θ s.nxt u)=u):Good P w0 s o ⟨[],[r.ent h],r.rest,[(h,.own (.sl r.E r.t) xs)],av⟩:=by
 obtain ⟨hp,-⟩:=bU l;refine ⟨Dg hp,aW rfl,fun J θ b=>OpT.weak (c J θ b) (fun u e=>?_) (fun u e=>?_)⟩
 ·have a:=lP b hp;have ⟨f,j⟩:=d J θ u b e a.1;refine ⟨f,j,fun g i=>?_⟩;cases al i;exact ⟨a8 a.1,aA _,trivial⟩
 ·have a:=lP b hp;show [Ch.own _ [hv θ h] xs] = [Ch.own _ [hv (upd θ s.nxt u) h] xs];rw[show hv (upd θ s.nxt u) h=hv θ h from bc Same.upd a.1]
  rfl
theorem SF (hT:TTok P tt) {T:TypeId} (ho:o.op= .call { callee:=.builtin .append,args:= #[x,y],argTypes:= #[T,T] }) (h:ZL tt s k T x y=some res):Oks P w0 s o k res:=by
 have ⟨d,hd,h⟩:=bind_some h;have ⟨E,hE,h⟩:=bind_some h;have ⟨e,he,h⟩:=bind_some h;have ⟨L,R,h⟩:=bind_some h;have ⟨b,hb,h⟩:=bind_some h;have ⟨c,N,h⟩:=bind_some h;have ⟨hn,h⟩:=ai h;simp only[ak] at hn;have ⟨⟨⟨M,G⟩,B⟩,n4⟩:=hn;have M:=au M;have G:=Hdr.beq_eq G;have B:=au B;have ⟨u,hc,h⟩:=bind_some h;have ⟨c1,c2,c3,c4⟩:=bO hc;have ⟨hr,hk,V⟩:=sb (P:=P) (w0:=w0) hb;have ⟨t,hk2,f⟩:=sb (P:=P) (w0:=w0) N;have K:c.r=b.r:=by
  rw[G] at t;exact ae (t.symm.trans hr)
 have hk3:c.k=b.k:=by grind
 have X:=hT.get hd;have H:=hT.get he;have ⟨z,W,hz2,hz3⟩:=H.zero L R;have A:P.underlying T=some (.slice b.r.E):=(X.el E hE).trans (by rw[B]);refine ⟨_,h,Fq (fact:=fun θ v=>Vw v (hv θ b.h) b.k b.r.xs.length 0 (b.m+(c.m - c.l))) hr (fun J θ U=>fun w C Q=>?_) (fun J θ u U hu r=>⟨⟨aA _,a8 r,?_,by omega⟩,ep⟩)⟩
 ·have h1:=V U rfl Q;have h2:Vw (evL (envL θ s) y) (hv θ b.h) b.k b.r.xs.length c.l c.m:=by
   have:=f U rfl (xs:=c.r.xs) (by rw[K,G];exact Q)
   grind
  have i:St J w0 w (Ch.own (ay b.r.E b.r.t.rep) [hv θ b.h] b.r.xs::C):=Q;rcases h1 with ⟨F,q,e1,e2,e3⟩ | ⟨g,O,cp,x',F,q,q1,q2,q3,q4,q5,q6⟩
  ·rcases h2 with ⟨a,p,f1,f2,f3⟩ | ⟨g2,D,S,y',a,p,-⟩
   ·have l:=List.eq_nil_of_length_eq_zero e1;have n:(Builtin.append_ #[T,T] o.type #[.slice none 0 0,.slice none 0 0]).run P w= .ok (.slice none 0 0) w:=by
     obtain ⟨info,j,-,-,-⟩:=info_parts W;rw[<-B] at j;exact fq A j (aH _)
    rw[eD ho q p n];refine ⟨.inl ⟨F,rfl,e1,rfl,by omega⟩,?_⟩;grind[ri]
   grind
  ·rcases h2 with ⟨a,p,f1,f2,f3⟩ | ⟨g2,D,S,y',a,p,p1,p2,p3,p4,p5,p6⟩
   ·grind
   ·rw[F] at a;simp[Value.slice.injEq,Option.some.injEq,Addr.mk.injEq,and_true,true_and] at a;obtain ⟨⟨rfl,rfl⟩,rfl⟩:=a;have m:b.l.toNat=0:=by omega
    have l:x'=0:=by rw[m,Nat.zero_mul] at q5;omega
    subst l;rw[m,Nat.sub_zero,Nat.sub_zero,Nat.add_zero] at q;rw[F] at i⊢
    have:=Fo (P:=P) (I:=J) (w0:=w0) (o:=o) (xs:=b.r.xs) (ev:=evL (envL θ s)) (Ty.sh_ok n4) (Ty.cpy n4) A (by rw[B];omega) (by grind[Ty.size_pos]) (b.r.t.rep_size.trans (hk.symm.trans M.symm)) ho q p (fun r=>?_) (by omega) (by omega) (by omega) w C (by simpa using i)
    ·refine this.imp fun v w' Z=>⟨?_,Z.2⟩
     refine .inr ⟨g,O,cp,0,rfl,?_,by omega,by omega,q3,by omega,Nat.zero_le _,.inr (by simp)⟩;grind
    grind
 grind[ep,hv,upd,bc,Same.upd]
theorem ML (G:TTok P tt) {T:TypeId} (H:o.op= .call { callee:=.builtin .clear,args:= #[x],argTypes:= #[T] }) (h:Pa tt s k T x=some res):Oks P w0 s o k res:=by
 have ⟨d,W,h⟩:=bind_some h;have ⟨E,X,h⟩:=bind_some h;have ⟨e,Q,h⟩:=bind_some h;have ⟨n,p,h⟩:=bind_some h;have ⟨b,R,h⟩:=bind_some h;have ⟨D,h⟩:=ai h;simp only[ak] at D;have ⟨⟨t,i⟩,M⟩:=D;have t:=au t;have i:=au i;have ⟨z,hz,h⟩:=bind_some h;have ⟨u,Z,h⟩:=bind_some h;have ⟨c3,c4⟩:=bO Z;have ⟨V,hk,j⟩:=sb (P:=P) (w0:=w0) R;have r:=G.get W;have a:=G.get Q;have ⟨B,U,l,N⟩:=a.zero n p;have A:B.cells.size=e.n:=by rw[l,List.size_toArray,xy,a.sz]
 have c:P.underlying T=some (.slice b.r.E):=(r.el E X).trans (by rw[i]);have v: ∀J,b.r.t.rep.rd J B.cells.toList z:=fun J=>by
  grind[KV]
 refine ⟨_,h,Fq (fact:=fun _ _=>True) V (fun J θ F=>fun w C K=>?_) (fun J θ u F hu m=>⟨aA _,ep⟩)⟩;have S:=j F rfl K;have f:St J w0 w (Ch.own (ay b.r.E b.r.t.rep) [hv θ b.h] b.r.xs::C):=K;rcases S with ⟨L,q,e1,e2,e3⟩ | ⟨g,O,cp,x',L,q,q1,q2,q3,q4,q5,q6⟩
 ·rw[qN H q (tP w T b.r.E o.type c _ _)];refine ⟨trivial,?_⟩;grind[AE]
 ·rw[L] at f⊢;exact Hv (P:=P) (I:=J) (w0:=w0) (o:=o) (ev:=evL (envL θ s)) (Ty.sh_ok M) (Ty.cpy M) c (by rw[i];omega) (by grind[Ty.size_pos]) (b.r.t.rep_size.trans (hk.symm.trans t.symm)) A (v J) H q (fun m=>by
   grind) (by omega) (by omega) w C f
end
theorem SG {α:Type} {E:TypeId} {R:Rep α} {I:Hp} {w0 w:World} {C:List Ch} {u v:Value} {xs:List α} {l m:Int} {k:Nat} (h:St I w0 w (Ch.own (ay E R) [v] xs::C)) (A:R.size=k) (hv:Vw u v k xs.length l m) (hm:m<=(xs.length:Int)):St I w0 w (Ch.own (ay E R) [u] ((xs.take m.toNat).drop l.toNat)::C):=by
 obtain ⟨J,D,F,⟨G,K,rfl,n,e⟩,P,z⟩:=h;have ⟨hl,n⟩:=n;rcases hv with ⟨rfl,rfl,S,rfl,rfl⟩ | ⟨g,a,cap,x,rfl,rfl,q1,q2,q3,q4,q5,o⟩
 ·have hx:=List.eq_nil_of_length_eq_zero S;subst hx;exact ⟨J,D,G++K,⟨G,K,rfl,⟨Nat.zero_le _,n⟩,e⟩,P,z⟩
 ·rcases n with ⟨f,rfl,rfl⟩ | ⟨g',B,H,cur,K1,f,U,k2,k3,T,rfl,M⟩
  ·grind
  ·simp[List.cons.injEq,Value.slice.injEq,Option.some.injEq,Addr.mk.injEq,and_true,true_and] at f;obtain ⟨⟨rfl,rfl⟩,rfl⟩:=f;rw[A] at T;have W:l.toNat<=m.toNat:=by omega
   have y:((xs.take m.toNat).drop l.toNat).length=m.toNat - l.toNat:=by rw[aZ,aB];omega
   have V:xs=(xs.take m.toNat).take l.toNat++((xs.take m.toNat).drop l.toNat++xs.drop m.toNat):=by grind[aC,List.take_append_drop]
   rw[V] at M;obtain ⟨c1,Q,i,G2,X,N,rfl,-,Y⟩:=M.cut2;obtain ⟨d,j,rfl,O,-⟩:=Y.parts;have hp:((g::(i++(d++j)))++K).Perm (((g::d)++K)++(i++j)):=by
    show (g::((i++(d++j))++K)).Perm (g::((d++K)++(i++j)));refine List.Perm.cons g ?_;rw[aC,aC,aC];refine (List.perm_append_comm_assoc i d _).trans (List.Perm.append_left d ?_);refine (List.perm_append_comm_assoc i j K).trans ?_;rw[<-aC];refine List.perm_append_comm.trans ?_;exact List.Perm.append_left K List.perm_append_comm
   have q:((xs.take m.toNat).take l.toNat).length=l.toNat:=by rw[aB,aB];omega
   rw[q,A] at N;have hdr:cur.toList.drop (a+l.toNat*k)=Q:=by
    rw[<-List.drop_drop,X];exact List.drop_left' N
   have s: ∀c,OwnEls R I w c ((xs.take m.toNat).drop l.toNat) d->St I w0 w (Ch.own (ay E R) [.slice (some ⟨g,a+x,none⟩) (m.toNat - l.toNat) (cap - l.toNat)] ((xs.take m.toNat).drop l.toNat)::C)\/c≠cur.toList.drop (a+x):=fun c hc=>by
    by_cases t:c=cur.toList.drop (a+x)
    ·subst t;have m1:l.toNat*k+(cap - l.toNat)*k=cap*k:=by rw[<-Nat.add_mul];congr 1;omega
     refine .inl ⟨J,D,(g::d)++K,⟨g::d,K,rfl,⟨by omega,.inr ⟨g,a+x,cap - l.toNat,cur,d,by grind,U,by omega,by omega,by grind,rfl,hc⟩⟩,e⟩,(List.nodup_append.1 (hp.nodup_iff.1 P)).1,fun b Z=>z b (hp.mem_iff.2 (bg _ Z))⟩
    grind
   rcases o with o | o
   ·have L:(xs.take m.toNat).drop l.toNat= []:=List.eq_nil_of_length_eq_zero (by omega);have p:d= []:=by rw[L] at O;exact O
    rcases s (cur.toList.drop (a+x)) (by rw[L,p];rfl) with r | r
    ·exact r
    grind
   grind
def qO (u:Hdr):List (Nat×Nat×AV)->List (Nat×Nat×AV)
 | [] =>[]
 | (t,ver,.xv top u' h k n l m)::es=>(match Hdr.beq u' u with | true=>(t,ver,.one (.own u')) | false=>(t,ver,.xv top u' h k n l m))::qO u es
 | (t,ver,.vw u' h k n l m)::es=>(match Hdr.beq u' u with | true=>(t,ver,.one (.own u)) | false=>(t,ver,.vw u' h k n l m))::qO u es
 | e::es=>e::qO u es
def SH {Y:Type} (s:Sg) (v:AV) (kk:Sg->Option Y):Option Y:=match v with
 | .xv _ u _ _ _ _ _=>kk ⟨qO u s.env,s.chs,s.nxt+1⟩
 | .vw u h k n l m=>match rowOf h s.chs with
  | some r=>b8 (Nat.beq k r.t.size) (kk ⟨qO u s.env,(u,s.nxt,.own (.sl r.E r.t) ((r.xs.take m.toNat).drop l.toNat))::r.rest,s.nxt+1⟩)
  | none=>kk s
 | _=>kk s
def SI {Y:Type} :List AV->Sg->(Sg->Option Y)->Option Y
 | [],s,kk=>kk s
 | v::vs,s,kk=>SH s v fun s=>SI vs s kk
section
variable {P:Program} {I J:Hp} {w0 w:World} {F:Ch} {n:Nat} {θ:Th} {s:Sg} {a:Act}
theorem Fs {u:Hdr} {N:Nat} {chs:List Ent} : ∀ {l:List (Nat×Nat×AV)},(∀e∈l,e.2.2.ok P w0 J θ N chs)->(∀e∈qO u l,e.2.2.ok P w0 J θ N chs/\ ∃g∈l,g.2.1=e.2.1)/\((qO u l).map fun e=>(e.1,e.2.2.v θ))=(l.map fun e=>(e.1,e.2.2.v θ))/\((l.Pairwise fun a b=>a.2.1≠b.2.1)->(qO u l).Pairwise fun a b=>a.2.1≠b.2.1)
 | [],h=>⟨fun e v=>(by cases v),rfl,fun _=>List.Pairwise.nil⟩
 | e::es,h=>by
  have ⟨C,E,H⟩:=Fs (u:=u) (l:=es) fun e v=>h e (bq _ v);have j:=h e (List.mem_cons_self ..);have fin: ∀f,f.1=e.1->f.2.1=e.2.1->f.2.2.ok P w0 J θ N chs->f.2.2.v θ=e.2.2.v θ->(∀q∈f::qO u es,q.2.2.ok P w0 J θ N chs/\ ∃g∈e::es,g.2.1=q.2.1)/\((f::qO u es).map fun e=>(e.1,e.2.2.v θ))=((e::es).map fun e=>(e.1,e.2.2.v θ))/\(((e::es).Pairwise fun a b=>a.2.1≠b.2.1)->(f::qO u es).Pairwise fun a b=>a.2.1≠b.2.1):=fun f G D M O=>by
   refine ⟨fun q k=>?_,?_,fun hp=>?_⟩
   ·rcases aG k with rfl | k
    ·exact ⟨M,e,List.mem_cons_self ..,D.symm⟩
    ·have ⟨B,g,z,r⟩:=C q k;exact ⟨B,g,bq _ z,r⟩
   ·rw[List.map_cons,List.map_cons,E,G,O]
   ·have ⟨K,Q⟩:=List.pairwise_cons.1 hp;refine List.pairwise_cons.2 ⟨fun q k=>?_,H Q⟩;have ⟨B,g,z,r⟩:=C q k;rw[D,<-r];exact K g z
  obtain ⟨t,d,L⟩:=e;cases L with
  | vw c y o m A x =>
   cases i:Hdr.beq c u with
   | true =>
    have:=Hdr.beq_eq i
    subst this;have p:qO c ((t,d,.vw c y o m A x)::es)=(t,d,.one (.own c))::qO c es:=by simp[qO,i]
    rw[p];exact fin (t,d,.one (.own c)) rfl rfl ⟨j.1,j.2.2.1.one⟩ rfl
   | false =>
    grind[qO]
  | xv top c y o m A x =>
   cases i:Hdr.beq c u with
   | true =>
    have:=Hdr.beq_eq i
    subst this;have p:qO c ((t,d,.xv top c y o m A x)::es)=(t,d,.one (.own c))::qO c es:=by simp[qO,i]
    rw[p];exact fin (t,d,.one (.own c)) rfl rfl ⟨j.1,j.2.2.1.one⟩ rfl
   | false =>
    grind[qO]
  | _=>exact fin _ rfl rfl j rfl
theorem SJ {Y:Type} {E:Sg->Option Y} {y:Y} {v:AV} (h:SH s v E=some y) (x:v.ok P w0 J θ s.nxt s.chs) (b:Sim P I w0 F n J θ s a w): ∃s',E s'=some y/\Sim P I w0 F n J θ s' a w/\Newer s.nxt s.chs s'.chs/\s.nxt<=s'.nxt:=by
 have base:Sim P I w0 F n J θ s a w/\Newer s.nxt s.chs s.chs/\s.nxt<=s.nxt:=⟨b,Newer.rfl,aH _⟩;unfold SH at h;split at h
 ·rename_i top u H k N l m;have ⟨j,t,z⟩:=Fs (u:=u) (P:=P) (w0:=w0) (J:=J) (θ:=θ) (N:=s.nxt) (chs:=s.chs) b.fine.env;refine ⟨_,h,⟨b.le,?_,b.st,fun e d=>AV.ok_same Same.rfl (Nat.le_succ _) Newer.rfl (j e d).1 Hp.le.rfl,fun e d=>?_,z b.fine.nd,fun e d=>gM Same.rfl (Nat.le_succ _) Newer.rfl (b.fine.chs e d) Hp.le.rfl,b.fine.lay⟩,Newer.rfl,Nat.le_succ _⟩
  ·show Agr n a ((qO u s.env).map _);rw[t];exact b.agr
  ·obtain ⟨-,A,q,B⟩:=j e d;rw[<-B];exact a8 (b.fine.ver A q)
 ·rename_i u H k N l m;have i:=x;split at h
  ·rename_i r K;have ⟨C,h⟩:=ai h;have C:=au C;obtain ⟨hp,-⟩:=bU K;have ⟨j,t,z⟩:=Fs (u:=u) (P:=P) (w0:=w0) (J:=J) (θ:=θ) (N:=s.nxt) (chs:=s.chs) b.fine.env;have o:=b.st.perm ((hp.map (toCh P θ)).append_right [F]);have G:=O8 o i.2.2.1;subst G;have p:=SG o (r.t.rep_size.trans C.symm) i.2.2.1 i.2.2.2;have f:Newer s.nxt s.chs ((u,s.nxt,.own (.sl r.E r.t) ((r.xs.take m.toNat).drop l.toNat))::r.rest):=fun e d L D c g=>by
    rcases aG d with rfl | d
    ·obtain ⟨rfl,g⟩:=g;rcases g with ⟨rfl,rfl⟩ | g
     ·grind
     ·exact g.elim
    grind
   refine ⟨_,h,⟨b.le,?_,p,fun e d=>AV.ok_same Same.rfl (Nat.le_succ _) f (j e d).1 Hp.le.rfl,fun e d=>?_,z b.fine.nd,fun e d=>?_,b.fine.lay⟩,f,Nat.le_succ _⟩
   ·show Agr n a ((qO u s.env).map _);rw[t];exact b.agr
   ·obtain ⟨-,A,q,B⟩:=j e d;rw[<-B];exact a8 (b.fine.ver A q)
   ·rcases aG d with rfl | d
    ·exact ⟨a8 i.1,aA _,trivial⟩
    ·exact gM Same.rfl (Nat.le_succ _) f (b.fine.chs e (hp.mem_iff.2 (bq _ d))) Hp.le.rfl
  grind
 grind
theorem KX {Y:Type} {c:Sg->Option Y} {y:Y} : ∀ {vs:List AV} {s:Sg},SI vs s c=some y->(∀v∈vs,v.ok P w0 J θ s.nxt s.chs)->Sim P I w0 F n J θ s a w-> ∃b,c b=some y/\Sim P I w0 F n J θ b a w/\s.nxt<=b.nxt
 | [],s,h,_,hS=>⟨s,h,hS,aH _⟩
 | v::vs,s,h,hv',hS=>by
  have ⟨k,e,f,d,i⟩:=SJ (show SH s v (fun s=>SI vs s c)=some y from h) (hv' v (List.mem_cons_self ..)) hS;have ⟨b,j,l,m⟩:=KX (vs:=vs) e (fun x g=>AV.ok_same Same.rfl i d (hv' x (bq _ g)) Hp.le.rfl) f;grind
end
end R
namespace D
open Go.RowKit
section
variable {P:Program} {I J:Hp} {w0 w w':World} {cs C:List Ch} {o:Oper} {ev:Operand->Value}
theorem MM {dT sT ty e:TypeId} {k g o dLen dCap sLen sCap:Nat} {ao:Option Addr} {cs:List Value} (i:P.underlying dT=some (.slice e)) (hs:(sizeOf e).run P w= .ok k w) (f:cs.length=Nat.min sLen dLen*k)
  (b:cs= [] \/ ∃a,ao=some a/\ ∀j v,cs[j]? =some v->w.cell? (a.add j)=some v) (n: ∀j,j<cs.length->(w.cell? ⟨g,o+j,none⟩).isSome=true) (l: ∀j,j<cs.length->w.frozen? ⟨g,o+j,none⟩=false) (h1: ∀v∈cs,v.oneCell'=true) :
  (Builtin.copy_ #[dT,sT] ty #[.slice (some ⟨g,o,none⟩) dLen dCap,.slice ao sLen sCap]).run P w= .ok (goInt (Nat.min sLen dLen)) (w.setCells g o cs):=by
 have c:=run_storeCells_cells (P:=P) g o cs 0 w (by simpa using n) (by simpa using l) h1;simp only[Nat.add_zero] at c;have d:(Builtin.firstCells k (Nat.min sLen dLen) (.slice ao sLen sCap)).run P w= .ok cs.toArray w:=by
  rcases b with rfl | ⟨a,rfl,h⟩
  ·cases ao with
   | none=>rfl
   | some a=>exact run_firstCells_some (P:=P) w k _ a sLen sCap [] f (fun j v m=>by simp at m)
  ·exact run_firstCells_some (P:=P) w k _ a sLen sCap cs f h
 simp[Builtin.copy_,run_underlying i,Builtin.lenOf,hs,d,c]
theorem xK {x y:Operand} {T U:TypeId} {v u r:Value} {w w':World} (b:o.op= .call { callee:=.builtin .copy,args:= #[x,y],argTypes:= #[T,U] }) (c:ev x=v) (d:ev y=u) (a:(Builtin.copy_ #[T,U] o.type #[v,u]).run P w= .ok r w'):(execOp ev o).run P w= .ok (.value r) w':=by
 simp only[execOp,b,resolve,invoke,builtin,Sem.run_bind,Sem.run_pure,Result.andThen_ok,List.map_toArray,List.map_cons,List.map_nil,c,d,a]
theorem sU {x y:Operand} {T U:TypeId} {v u r:Value} {w w':World} (b:o.op= .call { callee:=.builtin .append,args:= #[x,y],argTypes:= #[T,U] }) (c:ev x=v) (d:ev y=u) (a:(Builtin.append_ #[T,U] o.type #[v,u]).run P w= .ok r w'):(execOp ev o).run P w= .ok (.value r) w':=by
 simp only[execOp,b,resolve,invoke,builtin,Sem.run_bind,Sem.run_pure,Result.andThen_ok,List.map_toArray,List.map_cons,List.map_nil,c,d,a]
def zi {α:Type} (xs:List α) (p:Nat) (ys:List α):List α:=xs.take p++(ys++xs.drop (p+ys.length))
theorem pn {α:Type} {xs ys:List α} {p:Nat} (hp:p<=xs.length):(zi xs p ys).length=max xs.length (p+ys.length):=by
 simp only[zi,az,aB,aZ];omega
theorem xL {α:Type} {xs ys:List α} {p q:Nat} (hp:p<=xs.length):(zi xs p ys)[q]? =if p<=q/\q<p+ys.length then ys[q - p]? else xs[q]? :=by
 have b:(xs.take p).length=p:=by rw[aB];omega
 unfold zi;by_cases a:q<p
 ·rw[if_neg (by omega),List.getElem?_append_left (by omega),List.getElem?_take,if_pos a]
 ·rw[List.getElem?_append_right (by omega),b];by_cases c:q<p+ys.length
  ·rw[if_pos (by omega),List.getElem?_append_left (by omega)]
  ·rw[if_neg (by omega),List.getElem?_append_right (by omega),List.getElem?_drop];congr 1;omega
def RdCells {α:Type} (R:Rep α) (I:Hp) (k:Nat) (news:List Value) (ys:List α):Prop:=news.length=ys.length*k/\ ∀(i:Nat) y,ys[i]? =some y-> ∃c:List Value,c.length=k/\(∀j,j<k->news[i*k+j]? =c[j]?)/\R.rd I c y
theorem RdCells.one {α:Type} {R:Rep α} {k:Nat} {news:List Value} {ys:List α} (d:0<k) (h:RdCells R I k news ys): ∀u∈news,u.oneCell'=true:=by
 intro u i;obtain ⟨q,e⟩:=List.getElem?_of_mem i;have a:=(List.getElem?_eq_some_iff.1 e).1;rw[h.1] at a;have b:q / k<ys.length:=by rw[Nat.div_lt_iff_lt_mul d];exact a
 obtain ⟨c,j,f,g⟩:=h.2 _ _ (List.getElem?_eq_getElem b)
 have:=f (q % k) (Nat.mod_lt _ d)
 rw[Nat.div_add_mod',e] at this;exact R.rd_one g u (List.mem_of_getElem? this.symm)
theorem Hw {α:Type} {R:Rep α} {xs:List α} {cur:Array Value} {ofs k j m:Nat} (p:m<=xs.length) (a:ofs+xs.length*k<=cur.size) (l:j<=m) (d: ∀(i:Nat) x,xs[i]? =some x-> ∃c:List Value,c.length=k/\(∀j,j<k->(cur.toList.drop ofs)[i*k+j]? =c[j]?)/\R.rd I c x):RdCells R I k (tO cur ofs k j m) ((xs.take m).drop j):=by
 have e:((xs.take m).drop j).length=m - j:=by rw[aZ,aB];omega
 refine ⟨by rw[e];exact uV a l p,fun i y b=>?_⟩;have r:i<m - j:=by rw[<-e];exact (List.getElem?_eq_some_iff.1 b).1
 rw[List.getElem?_drop,List.getElem?_take,if_pos (by omega)] at b;obtain ⟨c,h,f,g⟩:=d _ _ b;refine ⟨c,h,fun q n=>?_,g⟩;have s:i*k+k<=(m - j)*k:=by rw[<-Nat.succ_mul];exact Nat.mul_le_mul_right _ (by omega)
 rw[mY (by omega),<-f q n,Nat.add_mul];congr 1;omega
theorem SK {α:Type} {E:TypeId} {R:Rep α} (b:R.Sh) (v:Cpy R R) {k:Nat} (z:0<k) (l:R.size=k) {g ofs n cap p:Nat} {xs ys:List α} {news:List Value} (f:RdCells R I k news ys) (hp:p<=xs.length) (a:p+ys.length<=cap) (i:p+ys.length<=lim)
  (h:St I w0 w (Ch.own (ay E R) [.slice (some ⟨g,ofs,none⟩) n cap] xs::C)):St I w0 (w.setCells g (ofs+p*k) news) (Ch.own (ay E R) [.slice (some ⟨g,ofs,none⟩) (zi xs p ys).length cap] (zi xs p ys)::C):=by
 obtain ⟨rfl,x,y,-⟩:=DX b l h;have j:=pn (xs:=xs) (ys:=ys) hp;have m:=(h.hd 0 rfl).2;refine Jf b v l (p:=p) (cnt:=ys.length) f.1 a (by rw[j];omega) (by rw[j];omega) (fun q u d=>?_) h;rw[xL hp] at d;by_cases e:p<=q/\q<p+ys.length
 ·rw[if_pos e] at d;obtain ⟨c,s,t,r⟩:=f.2 _ _ d;exact .inl ⟨e.1,e.2,c,s,t,r⟩
 ·rw[if_neg e] at d;exact .inr ⟨by omega,d⟩
theorem MN {α:Type} {E:TypeId} {R:Rep α} (v:Cpy R R) {k:Nat} (f:R.size=k) {g cap:Nat} {cells:List Value} {xs:List α} (a:xs.length<=cap) (d:cap<=maxLen) (r:cap*k<=cells.length) (b:xs.length<=lim) (e: ∀(i:Nat) x,xs[i]? =some x-> ∃c:List Value,c.length=k/\(∀j,j<k->cells[i*k+j]? =c[j]?)/\R.rd I c x)
  (h:St I w0 w (Ch.blk g cells E::C)):St I w0 w (Ch.own (ay E R) [.slice (some ⟨g,0,none⟩) xs.length cap] xs::C):=by
 obtain ⟨t,m,F,⟨G,K,rfl,⟨rfl,y⟩,u⟩,A,n⟩:=h;refine ⟨t,m,[g] ++K,⟨[g],K,rfl,⟨b,.inr ⟨g,0,cap,cells.toArray,[],rfl,y,a,d,?_,rfl,BH v fun i x z=>?_⟩⟩,u⟩,A,n⟩
 ·rw[f];simpa using r
 ·rw[f];obtain ⟨c,q,l,p⟩:=e i x z;exact ⟨c,q,fun j s=>by rw[<-l j s];simp,p⟩
theorem BL {T U ty E:TypeId} {z:Value} {n b:Nat} {B:IntKind} (A:P.underlying T=some (.slice E)) (x:P.underlying U=some (.int B)) (L:TZ P E z n b) {a:Addr} {i cap q:Nat} {old:List Value} (M:0<n) (Q:0<q) (e:cap<i+q) (k:(i+q)*b<=140737488355328) (K:1<=b)
  (D:old.length=i*n) (l: ∀j v,old[j]? =some v->w.cell? (a.add j)=some v) :
  ∃c,i+q<=c/\c<=maxLen/\(Builtin.append_ #[T,U] ty #[.slice (some a) i cap,.int .i64 q]).run P w= .ok (.slice (some ⟨w.heap.size,0,none⟩) (i+q) c) (w.drew.alloc (.cells (old.toArray++Builtin.zeroCells z.cells q++Builtin.zeroCells z.cells (c - (i+q))) E)):=by
 obtain ⟨info,u,G,d,t⟩:=info_parts L;have N:(i+q)*1<=(i+q)*b:=Nat.mul_le_mul_left _ K;have O:q*b<=(i+q)*b:=Nat.mul_le_mul_right _ (by omega);have F:i64.wrap (q:Int)=q:=by rw[IntKind.wrap_i64];omega
 have h: ¬(9223372036854775807<((i:Int)+(q:Int))):=by omega
 have y:=growslice_fits (bytes:=b) e k;have g: ¬(281474976710656<Builtin.nextslicecap (i+q) cap*b):=by omega
 have f: ¬(281474976710656<(q:Int)*(b:Int)):=by
  rw[<-Int.natCast_mul];omega
 have m: ¬((q:Int)<0):=by omega
 have s: ¬(q*n=0):=Nat.mul_ne_zero (by omega) (by omega);have r: ¬(i+q<=cap):=by omega
 have p:(Builtin.firstCells n i (.slice (some a) i cap)).run P w.drew= .ok old.toArray w.drew:=run_firstCells_some (P:=P) w.drew n i a i cap old D (fun j v H=>l j v H);refine ⟨grownCap w (i+q) cap E,grownCap_ge w _ _ _,grownCap_le_maxLen w _ _ _ (by unfold maxLen;omega),?_⟩;simp[Builtin.append_,run_underlying A,run_underlying x,sizeOf,typeInfo,zeroValue,u,G,d,t,asInt,asIntOf,F,m,s,r,h,g,f,Question.forced,p,newRow,grownCap]
end
end D
namespace R
open Go.RowKit
open D
open Classical in
noncomputable def BM {Y:Type} (n:Nat) (f:Nat->Option Y):Option Y:=if h: ∃y,∀c,n<=c->c<=maxLen->f c=some y then some h.choose else none
theorem Hx {Y:Type} {n:Nat} {f:Nat->Option Y} {y:Y} (h:BM n f=some y): ∀c,n<=c->c<=maxLen->f c=some y:=by
 unfold BM at h;split at h
 ·grind
 grind
theorem MO {Y:Type} {n:Nat} {f:Nat->Option Y} {y:Y} (b:n<=maxLen) (h: ∀c,n<=c->c<=maxLen->f c=some y):BM n f=some y:=by
 unfold BM;have a: ∃y,∀c,n<=c->c<=maxLen->f c=some y:=⟨y,h⟩;grind
theorem Ft: ∃F:(Y:Type)->Nat->(Nat->Option Y)->Option Y,(∀Y n f y,F Y n f=some y-> ∀c,n<=c->c<=maxLen->f c=some y)/\ ∀Y n f y,n<=maxLen->(∀c,n<=c->c<=maxLen->f c=some y)->F Y n f=some y:=
 ⟨fun Y n f=>BM n f,fun Y n f y h=>Hx h,fun Y n f y a h=>MO a h⟩
noncomputable def KY {Y:Type} (n:Nat) (f:Nat->Option Y):Option Y:=Classical.choose Ft Y n f
theorem Ji {Y:Type} {n:Nat} {f:Nat->Option Y} {y:Y} (h:KY n f=some y): ∀c,n<=c->c<=maxLen->f c=some y:=(Classical.choose_spec Ft).1 Y n f y h
theorem Pc {Y:Type} {n:Nat} {f:Nat->Option Y} {y:Y} (a:n<=maxLen) (h: ∀c,n<=c->c<=maxLen->f c=some y):KY n f=some y:=(Classical.choose_spec Ft).2 Y n f y a h
def Xf (tt:TT) (s:Sg) (o:Oper):Option (Hdr×Row):=match o.op with
 | .call c=>match c.callee,c.args.toList,c.argTypes.toList with
  | .builtin .cap,[x],[T] =>(td tt T).bind fun d=>d.el.bind fun _=>match opd s x with
   | some (.one (.own h))=>(rowOf h s.chs).bind fun r=>some (h,r)
   | _=>none
  | _,_,_=>none
 | _=>none
def Va (q:Hdr×Row) (c:Nat):Res:=⟨[q.2.ent q.1],[],q.2.rest,[],.capv q.1 c⟩
theorem Hy {P:Program} {o:Oper} {ev:Operand->Value} {x:Operand} {T:TypeId} {v r:Value} {w w':World} (b:o.op= .call { callee:=.builtin .cap,args:= #[x],argTypes:= #[T] }) (c:ev x=v) (a:(Builtin.cap_ #[T] o.type #[v]).run P w= .ok r w'):(execOp ev o).run P w= .ok (.value r) w':=by
 simp[execOp,b,resolve,invoke,builtin,Sem.run_bind,Sem.run_pure,Result.andThen_ok,List.map_toArray,List.map_cons,List.map_nil,c,a]
theorem zj {α:Type} {E:TypeId} {R:Rep α} {I:Hp} {w0 w:World} {C:List Ch} {v:Value} {xs:List α} (h:St I w0 w (Ch.own (ay E R) [v] xs::C)): ∃a,v= .slice a xs.length (RD v)/\xs.length<=RD v/\RD v<=maxLen:=by
 obtain ⟨n,i,F,⟨G,K,rfl,⟨m,e⟩,o⟩,q,j⟩:=h;rcases e with ⟨hv,rfl,rfl⟩ | ⟨g,b,cap,cur,f,hv,l,c,d,k,rfl,p⟩
 ·obtain rfl:v= .slice none 0 0:=by grind
  exact ⟨_,rfl,aH _,Nat.zero_le _⟩
 ·obtain rfl:v= .slice (some ⟨g,b,none⟩) xs.length cap:=by grind
  exact ⟨_,rfl,c,d⟩
section
variable {tt:TT} {s:Sg} {P:Program} {I J:Hp} {w0 w:World} {F:Ch} {n:Nat} {θ:Th} {a:Act} {o:Oper}
theorem SL (D:TTok P tt) {q:Hdr×Row} (h:Xf tt s o=some q) (t:Sim P I w0 F n J θ s a w):q.2.xs.length<=RD (hv θ q.1)/\RD (hv θ q.1)<=maxLen/\GoodA P w0 J θ s o (Va q (RD (hv θ q.1))):=by
 unfold Xf at h;split at h
 ·rename_i c G;split at h
  ·rename_i x T m K L;have ⟨d,N,h⟩:=bind_some h;have ⟨E,Q,h⟩:=bind_some h;split at h
   ·rename_i b O;have ⟨r,M,h⟩:=bind_some h;cases ae h;obtain ⟨hp,-⟩:=bU M;have e:=t.st.perm ((hp.map (toCh P θ)).append_right [F]);have e:St J w0 w (Ch.own (ay r.E r.t.rep) [hv θ b] r.xs::(r.rest.map (toCh P θ)++ [F])):=e;have ⟨R,B,y,A⟩:=zj e;refine ⟨y,A,pg hp,aW rfl J θ t.fine,?_⟩;have f:=lP t.fine hp;have j:o.op= .call { callee:=.builtin .cap,args:= #[x],argTypes:= #[T] }:=by
     have ⟨p,args,k⟩:=c;have m:p= .builtin .cap:=m;rw[G,m,show args= #[x] from Array.ext' K,show k= #[T] from Array.ext' L]
    have l:=(D.get N).el E Q;have S:P.elem T=E:=by simp[Program.elem,l]
    refine OpT.weak (fact:=(· = .int .i64 (RD (hv θ b)))) (gv:=fun _=>[toCh P θ (r.ent b)]) (fun w C H=>?_) (fun u v=>⟨⟨a8 f.1,?_⟩,?_,fun g z=>by cases z⟩) (fun u v=>rfl)
    ·have i:(Builtin.cap_ #[T] o.type #[hv θ b]).run P w= .ok (goInt (RD (hv θ b))) w:=by
      rw[B];exact run_cap_slice (P:=P) w T o.type _ _ _ (by grind)
     rw[Hy j (aI O) i];exact ⟨rfl,H⟩
    ·rw[show hv (upd θ s.nxt u) b=hv θ b from bc Same.upd f.1]
    ·exact v.symm
   grind
  grind
 grind
end
def D1 (h:Hdr):List (Nat×Nat×AV)->Option Nat
 | [] =>none
 | (_,_,.capv h' c)::es=>if Hdr.beq h' h then some c else D1 h es
 | _::es=>D1 h es
theorem BN {P:Program} {w0:World} {J:Hp} {θ:Th} {n:Nat} {chs:List Ent} {h:Hdr} {c:Nat} : ∀ {l:List (Nat×Nat×AV)},D1 h l=some c->(∀e∈l,e.2.2.ok P w0 J θ n chs)->RD (hv θ h)=c
 | (t,ver,av)::es,a,hl=>by
  have q:=fun a=>BN (l:=es) (h:=h) (c:=c) a fun e f=>hl e (bq _ f);have j:=hl (t,ver,av) (List.mem_cons_self ..);unfold D1 at a;split at a
  ·grind
  ·rename_i s p m b
   injection b with d u
   injection d with r k
   injection k with o g
   subst g;split at a
   ·rename_i i
    have:=Hdr.beq_eq i
    subst this;cases ae a;exact j.2
   grind
  grind
def Pd (h:Hdr):List (Nat×Nat×AV)->Option (Hdr×Int)
 | [] =>none
 | (_,_,.xv true u h' _ _ _ m)::es=>if Hdr.beq h' h then some (u,m) else Pd h es
 | _::es=>Pd h es
theorem KZ {P:Program} {w0:World} {J:Hp} {θ:Th} {n:Nat} {chs:List Ent} {h:Hdr} {q:Hdr×Int} : ∀ {l:List (Nat×Nat×AV)},Pd h l=some q->(∀e∈l,e.2.2.ok P w0 J θ n chs)->q.1.id<n/\ ∃k N,Vw (hv θ q.1) (hv θ h) k N 0 q.2
 | (t,ver,av)::es,a,hl=>by
  have p:=fun a=>KZ (l:=es) (h:=h) (q:=q) a fun e d=>hl e (bq _ d);have i:=hl (t,ver,av) (List.mem_cons_self ..);unfold Pd at a;split at a
  ·grind
  ·rename_i u z D C B v m b
   injection b with c A
   injection c with x j
   injection j with o f
   subst f;split at a
   ·rename_i g
    have:=Hdr.beq_eq g
    have ⟨r,s,y,w⟩:=i;grind
   grind
  grind
section
variable {Y:Type} (tt:TT) (s:Sg) (k:Res->Option Y)
def Xg (b:BinOp) (x y:Operand):Option Y:=match opd s x,opd s y with
 | some (.one (.val (.int .i64 m))),some (.capv _ c)=>b8 (Zg b) (kv s k (.bool (abm b m (c:Int))))
 | _,_=>none
def Pe (T:TypeId) (x hi:Operand):Option Y:=(td tt T).bind fun d=>d.el.bind fun E'=>(td tt E').bind fun e=>match opd s x with
 | some (.one (.own h))=>(rowOf h s.chs).bind fun r=>b8 (Nat.beq e.n r.t.size) ((asI s hi).bind fun m=>(D1 h s.env).bind fun c=>(chk ((r.xs.length:Int)<=m/\m<=(c:Int))).bind fun _=>k ⟨[r.ent h],[],r.rest,[],.xv true ⟨s.nxt,[]⟩ h r.t.size r.xs.length 0 m⟩)
 | _=>none
def ZM (T U:TypeId) (x y:Operand):Option Y:=(td tt T).bind fun d=>d.el.bind fun E=>(td tt E).bind fun e=>e.bytes.bind fun by_=>(td tt U).bind fun f=>f.ik.bind fun ik=>(RF s x).bind fun b=>(asI s y).bind fun q =>
 b8 (Nat.beq e.n b.k&&Nat.beq b.r.E E&&b.r.t.sh&&ik.isSome && !b.x) ((SE e.ty b.r.t).bind fun z=>(D1 b.h s.env).bind fun c =>
 (chk (b.l=0/\b.m<=(b.r.xs.length:Int)/\0<q/\(c:Int)<b.m+q/\(b.m+q)*(by_:Int)<=140737488355328)).bind fun _=>k ⟨[b.r.ent b.h],[],b.r.rest,[(⟨s.nxt,[]⟩,.own (.sl b.r.E b.r.t) (b.r.xs.take b.m.toNat++List.replicate q.toNat z))],.one (.own ⟨s.nxt,[]⟩)⟩)
def zk (b c:Vb):Int:=min (c.m - c.l) (b.m - b.l)
def AZ {α:Type} (xs:List α) (l:Int) (cnt:Int):List α:=(xs.take (l+cnt).toNat).drop l.toNat
def ZN (b c:Vb):Option Y:=(chk (0<=c.l/\0<=zk b c/\c.l+zk b c<=(b.r.xs.length:Int)/\0<=b.l/\b.l<=(b.r.xs.length:Int))).bind fun _=>match b.x with
 | false=>(chk (b.m<=(b.r.xs.length:Int))).bind fun _=>k ⟨[],[b.r.ent b.h],b.r.rest,[(b.h,.own (.sl b.r.E b.r.t) (zi b.r.xs b.l.toNat (AZ b.r.xs c.l (zk b c))))],.one (.val (.int .i64 (zk b c)))⟩
 | true=>(Pd b.h s.env).bind fun q=>(chk (b.l+zk b c=q.2/\(b.r.xs.length:Int)<=q.2)).bind fun _=>k ⟨[],[b.r.ent b.h],b.r.rest,[(q.1,.own (.sl b.r.E b.r.t) (zi b.r.xs b.l.toNat (AZ b.r.xs c.l (zk b c))))],.one (.val (.int .i64 (zk b c)))⟩
def ZO (b c:Vb):Option Y:=(pd (.sl c.r.E c.r.t) (.sl b.r.E b.r.t) c.r.xs).bind fun ys=>(chk (0<=c.l/\0<=zk b c/\c.l+zk b c<=(ys.length:Int)/\0<=b.l/\b.l<=(b.r.xs.length:Int)/\b.m<=(b.r.xs.length:Int))).bind fun _ =>
 k ⟨[c.r.ent c.h],[b.r.ent b.h],c.r.rest,[(b.h,.own (.sl b.r.E b.r.t) (zi b.r.xs b.l.toNat (AZ ys c.l (zk b c))))],.one (.val (.int .i64 (zk b c)))⟩
def Pf (T:TypeId) (x y:Operand):Option Y:=(td tt T).bind fun d=>d.el.bind fun E=>(td tt E).bind fun e=>(RF s x).bind fun b=>(RF s y).bind fun c=>b8 (Nat.beq e.n b.k&&Nat.beq c.k b.k&&Nat.beq b.r.E E&&b.r.t.sh) (match Hdr.beq c.h b.h with
 | true=>ZN s k b c
 | false=>(ZK s b.r.rest y).bind fun c=>b8 (Nat.beq c.k b.k) (ZO k b c))
def Xh (x y:Operand):Option Y:=match opd s x with
 | some (.one (.own h))=>(rowOf h s.chs).bind fun r=>(ZK s r.rest y).bind fun c=>(chk (0<r.xs.length/\c.l<c.m)).bind fun _=>k ⟨[r.ent h,c.r.ent c.h],[],c.r.rest,[],.one (.val (.bool false))⟩
 | _=>none
end
section
variable {Y:Type} {tt:TT} {s:Sg} {k:Res->Option Y} {P:Program} {w0:World} {o:Oper} {res:Y} {x y:Operand}
theorem SM {b:BinOp} {t u:TypeId} (d:o.op= .binOp b t x y u) (h:Xg s k b x y=some res):Oks P w0 s o k res:=by
 unfold Xg at h;split at h
 ·rename_i m g c e f;have ⟨a,h⟩:=ai h;exact l9 h rfl fun J θ i=>wA d (aI e) (aI f) a rfl
 grind
theorem MP (n:TTok P tt) {T:TypeId} {hi:Operand} (E:o.op= .slice T x none (some hi) none) (h:Pe tt s k T x hi=some res):Oks P w0 s o k res:=by
 have ⟨d,K,h⟩:=bind_some h;have ⟨E',M,h⟩:=bind_some h;have ⟨e,F,h⟩:=bind_some h;split at h
 ·rename_i q L;have ⟨r,H,h⟩:=bind_some h;have ⟨R,h⟩:=ai h;have ⟨m,O,h⟩:=bind_some h;have ⟨c,N,h⟩:=bind_some h;have ⟨u,Q,h⟩:=bind_some h;have ⟨U,z⟩:=bO Q;refine ⟨_,h,Pb H (fun _=>rfl) fun J θ D=>fun w C p=>?_⟩;have b:St J w0 w (Ch.own (ay r.E r.t.rep) [hv θ q] r.xs::C):=p;have a:=BN N D.env;have ⟨V,f,t,X⟩:=zj b;rw[a] at f t
  have:=DZ (P:=P) (I:=J) (w0:=w0) (ev:=evL (envL θ s)) (lo:=none) (hi:=some hi) (ml:=none) (mh:=some m) ((n.get K).el _ M) (n.get F).ti E ((aI (θ:=θ) L).trans f) trivial (pj O θ) t (Int.le_refl _) (by grind) z w (toCh P θ (r.ent q)::C) p
  refine this.imp fun v w' l=>⟨?_,l.2⟩
  have G:=BK (k:=r.t.size) b;rcases G with ⟨i,-,B,-,-⟩ | ⟨g,j,A,Z,i,-,-⟩
  ·have S:c=0:=by rw[i] at a;exact a.symm
   refine .inl ⟨i,?_,B,rfl,by omega⟩;grind[sliced]
  ·rw[i] at f⊢
   injection f with W f2 f3
   refine .inr ⟨g,j,A,0,rfl,?_,Int.le_refl _,by omega,by omega,by omega,Nat.zero_le _,.inr (by simp)⟩;grind[sliced,Addr.add_mid]
 grind
theorem SN (hT:TTok P tt) {T U:TypeId} (ho:o.op= .call { callee:=.builtin .append,args:= #[x,y],argTypes:= #[T,U] }) (h:ZM tt s k T U x y=some res):Oks P w0 s o k res:=by
 obtain ⟨d,hd,h⟩:=bind_some h;obtain ⟨E,hE,h⟩:=bind_some h;obtain ⟨e,he,h⟩:=bind_some h;obtain ⟨p,hby,h⟩:=bind_some h;obtain ⟨f,hf',h⟩:=bind_some h;obtain ⟨ik,hik,h⟩:=bind_some h;obtain ⟨b,hb,h⟩:=bind_some h;obtain ⟨q,hq,h⟩:=bind_some h;obtain ⟨hn,h⟩:=ai h;simp only[ak] at hn;obtain ⟨⟨⟨⟨Z,n3⟩,n4⟩,n5⟩,n6⟩:=hn;have Z:e.n=b.k:=au Z;have n3:b.r.E=E:=au n3;obtain ⟨z,hz,h⟩:=bind_some h;obtain ⟨c,hc,h⟩:=bind_some h;obtain ⟨u,hk',h⟩:=bind_some h;obtain ⟨c1,c2,c3,c4,c5⟩:=bO hk';obtain ⟨hr,hk,hvw⟩:=sb (P:=P) (w0:=w0) hb;obtain ⟨hp,-⟩:=bU hr;obtain ⟨kn,hkn⟩:=Option.isSome_iff_exists.1 n5;have W:P.underlying U=some (.int kn):=(hT.get hf').ik (some kn) (by grind);have hdk:=hT.get hd;have I:=hT.get he;obtain ⟨l,hz1,hz2,R⟩:=I.zero p hby;have H:l.cells.size=e.n:=by rw[hz2,List.size_toArray,xy,I.sz]
 have V:P.underlying T=some (.slice b.r.E):=(hdk.el E hE).trans (by rw[n3]);have D:TZ P b.r.E l e.n p:=by rw[n3];exact hz1
 have hzr: ∀J,b.r.t.rep.rd J l.cells.toList z:=fun J=>by grind[KV]
 have hnp:0<e.n:=by rw[Z,hk];exact Ty.size_pos _
 have hR:b.r.t.rep.size=e.n:=b.r.t.rep_size.trans (hk.symm.trans Z.symm);refine ⟨_,h,good_row (rs:=[b.r.ent b.h]) (ns:=[]) (pg hp) fun J θ hf=>fun w C hs=>?_⟩;have r:St J w0 w (Ch.own (ay b.r.E b.r.t.rep) [hv θ b.h] b.r.xs::C):=hs;have h1:=hvw hf rfl r;have L:=BN hc hf.env;obtain ⟨ad,e1,e2,e3⟩:=zj r;have hxl:=(r.hd 0 rfl).2;have S:((q.toNat:Nat):Int)=q:=by omega
 have N:0<q.toNat:=by omega
 have X:(b.m.toNat+q.toNat)*p<=140737488355328:=by
  have:(((b.m.toNat+q.toNat)*p:Nat):Int)=(b.m+q)*p:=by
   rw[Int.natCast_mul,Int.natCast_add,S,show ((b.m.toNat:Nat):Int)=b.m from by obtain ⟨_,_,_,g1,g2⟩:=h1.hd;omega]
  omega
 have hbig1:b.m.toNat+q.toNat<=140737488355328:=by
  have:(b.m.toNat+q.toNat)*1<=(b.m.toNat+q.toNat)*p:=Nat.mul_le_mul_left _ R
  omega
 have hy:evL (envL θ s) y= .int .i64 (q.toNat:Nat):=by rw[S];exact pj hq θ
 have fin: ∀(old:List Value) (n:Nat),old.length=b.m.toNat*e.n->(∀(i:Nat) a,(b.r.xs.take b.m.toNat)[i]? =some a-> ∃c:List Value,c.length=e.n/\(∀j,j<e.n->old[i*e.n+j]? =c[j]?)/\b.r.t.rep.rd J c a)->b.m.toNat<=b.r.xs.length->b.m.toNat+q.toNat<=n->n<=maxLen->
   St J w0 (w.drew.alloc (.cells (old.toArray++Builtin.zeroCells l.cells q.toNat++Builtin.zeroCells l.cells (n - (b.m.toNat+q.toNat))) b.r.E)) ((Ch.own (Ty.sl b.r.E b.r.t).rep [.slice (some ⟨w.heap.size,0,none⟩) (b.m.toNat+q.toNat) n] (b.r.xs.take b.m.toNat++List.replicate q.toNat z):: [toCh P θ (b.r.ent b.h)])++C):=by
  intro old n hl hel G hcc hmx;have hA:=(r.drew).alloc (old++(Builtin.zeroCells l.cells q.toNat).toList++(Builtin.zeroCells l.cells (n - (b.m.toNat+q.toNat))).toList) b.r.E;have ea:(old++(Builtin.zeroCells l.cells q.toNat).toList++(Builtin.zeroCells l.cells (n - (b.m.toNat+q.toNat))).toList).toArray=old.toArray++Builtin.zeroCells l.cells q.toNat++Builtin.zeroCells l.cells (n - (b.m.toNat+q.toNat)):=by
   apply Array.ext';simp
  rw[ea] at hA;have F:(b.r.xs.take b.m.toNat++List.replicate q.toNat z).length=b.m.toNat+q.toNat:=by rw[az,aB,List.length_replicate];omega
  have hzl:(Builtin.zeroCells l.cells q.toNat).toList.length=q.toNat*e.n:=by rw[rZ,H]
  have hzl2:(Builtin.zeroCells l.cells (n - (b.m.toNat+q.toNat))).toList.length=(n - (b.m.toNat+q.toNat))*e.n:=by rw[rZ,H]
  have m1:b.m.toNat*e.n+q.toNat*e.n+(n - (b.m.toNat+q.toNat))*e.n=n*e.n:=by rw[<-Nat.add_mul,<-Nat.add_mul];congr 1;omega
  have:=MN (xs:=b.r.xs.take b.m.toNat++List.replicate q.toNat z) (Ty.cpy n4) (k:=e.n) hR (by omega) hmx (by grind) (by grind[lim]) (fun i a B=>by
   by_cases hi:i<b.m.toNat
   ·grind
   ·have hi2:i<b.m.toNat+q.toNat:=by rw[<-F];exact (List.getElem?_eq_some_iff.1 B).1
    rw[List.getElem?_append_right (by grind),aB,List.getElem?_replicate,if_pos (by omega)] at B;obtain rfl:=ae B;refine ⟨l.cells.toList,by omega,fun j M=>?_,hzr J⟩;have m2:b.m.toNat*e.n<=i*e.n:=Nat.mul_le_mul_right _ (by omega);have m3:i*e.n+e.n<=(b.m.toNat+q.toNat)*e.n:=by rw[<-Nat.succ_mul];exact Nat.mul_le_mul_right _ hi2
    have m4:(b.m.toNat+q.toNat)*e.n=b.m.toNat*e.n+q.toNat*e.n:=Nat.add_mul _ _ _;have m5:(i - b.m.toNat)*e.n=i*e.n - b.m.toNat*e.n:=Nat.sub_mul _ _ _;rw[List.getElem?_append_left (by grind),List.getElem?_append_right (by omega),hl,show i*e.n+j - b.m.toNat*e.n=(i - b.m.toNat)*e.n+j from by omega,<-H,xJ (by omega) (by omega)]) hA
  rw[F] at this;exact this
 rcases h1 with ⟨q0,hu,g1,g2,g3⟩ | ⟨g,ofs,cp,x',q0,hu,q1,q2,q3,q4,q5,q6⟩
 ·have K:b.m.toNat=0:=by omega
  obtain ⟨info,hi',hzz,hsize,hbb⟩:=info_parts D;have t:=Lib.run_append_nil_zeros (P:=P) w T U o.type b.r.E info l .i64 kn V W hi' hzz q.toNat N (by omega) (by omega) (by grind);rw[sU ho hu hy t];refine ⟨trivial,?_⟩
  have:=fin [] (grownCap w q.toNat 0 b.r.E) (by grind) (fun i a B=>by grind) (by omega) (by rw[K,Nat.zero_add];exact grownCap_ge w _ _ _) (grownCap_le_maxLen w _ _ _ (by unfold maxLen;omega))
  rw[K,Nat.zero_add] at this;grind
 ·have Q:b.l.toNat=0:=by omega
  have hx0:x'=0:=by rw[Q,Nat.zero_mul] at q5;omega
  subst hx0;rw[Q,Nat.sub_zero,Nat.sub_zero,Nat.add_zero] at hu;rw[q0] at L r;have hcp:cp=c:=L;obtain ⟨-,r1,r2,cur,r3,r4,hat⟩:=DX (k:=e.n) (Ty.sh_ok n4) hR r;have G:b.m.toNat<=b.r.xs.length:=by omega
  have A:=uV (cur:=cur) (ofs:=ofs) (k:=e.n) (j:=0) (m:=b.m.toNat) (cap:=cp) r4 (Nat.zero_le _) (Nat.le_trans G r1);rw[Nat.sub_zero] at A;obtain ⟨n,g1,g2,t⟩:=BL (P:=P) (w:=w) (ty:=o.type) (a:=⟨g,ofs,none⟩) (i:=b.m.toNat) (cap:=cp) (q:=q.toNat) (old:=tO cur ofs e.n 0 b.m.toNat) V W D hnp N (by omega) X R A (fun j v M=>by
   have O:=(List.getElem?_eq_some_iff.1 M).1;rw[A] at O;rw[mY (by simpa using O)] at M;grind[Addr.add_mid,zg])
  rw[sU ho hu hy t];refine ⟨trivial,fin _ n A (fun i a B=>?_) G g1 g2⟩;have hi:i<b.m.toNat:=by
   have:=(List.getElem?_eq_some_iff.1 B).1
   rw[aB] at this;omega
  rw[List.getElem?_take,if_pos hi] at B;obtain ⟨c,d1,d2,d3⟩:=hat i a B;refine ⟨c,d1,fun j M=>?_,d3⟩;have m2:i*e.n+e.n<=b.m.toNat*e.n:=by rw[<-Nat.succ_mul];exact Nat.mul_le_mul_right _ hi
  rw[mY (by rw[Nat.sub_zero];omega),<-d2 j M];simp
theorem Fu {α:Type} {xs:List α} {l cnt:Int} (b:0<=l) (h1:0<=cnt) (a:l+cnt<=(xs.length:Int)):(AZ xs l cnt).length=cnt.toNat:=by
 grind[AZ,aZ,aB]
theorem Hz {I:Hp} {w:World} {C:List Ch} {α:Type} {E:TypeId} {R:Rep α} (e:R.Sh) {k:Nat} (W:0<k) (t:R.size=k) {v u:Value} {xs:List α} {l m cnt:Int} (c:St I w0 w (Ch.own (ay E R) [v] xs::C)) (hv:Vw u v k xs.length l m) (h1:0<=cnt) (K:l+cnt<=(xs.length:Int)) (Q:cnt<=m - l) :
  ∃ao sc news,u= .slice ao (m.toNat - l.toNat) sc/\RdCells R I k news (AZ xs l cnt)/\(news= [] \/ ∃a,ao=some a/\ ∀j v,news[j]? =some v->w.cell? (a.add j)=some v):=by
 rcases hv with ⟨h,f,r,N,B⟩ | ⟨g,ofs,n,S,h,f,F,J,O,M,V,D⟩
 ·have z:=List.eq_nil_of_length_eq_zero r;subst z;refine ⟨none,0,[],by grind,⟨by simp[AZ],fun i y q=>by simp[AZ] at q⟩,.inl rfl⟩
 ·rw[h] at c;obtain ⟨-,p,T,cur,H,G,d⟩:=DX (k:=k) e t c;have A:xs.length*k<=n*k:=Nat.mul_le_mul_right _ p;have b:=Hw (R:=R) (I:=I) (xs:=xs) (cur:=cur) (ofs:=ofs) (k:=k) (j:=l.toNat) (m:=(l+cnt).toNat) (by omega) (by omega) (by omega) d;refine ⟨_,_,tO cur ofs k l.toNat (l+cnt).toNat,f,b,?_⟩;by_cases U:cnt=0
  ·left
   have:=b.1
   simp_all
  ·right;refine ⟨_,rfl,fun j v L=>?_⟩;grind[tO,uV,mY,Addr.add_mid,Nat.add_assoc,zg]
theorem HA {I:Hp} {ev:Operand->Value} {w:World} {C:List Ch} {α:Type} {E T U:TypeId} {R:Rep α} (D:R.Sh) (hC:Cpy R R) {k:Nat} {agg:Bool} (O:P.underlying T=some (.slice E)) (H:TI P E agg k) (hk:0<k) (hR:R.size=k) {v V:Value} {xs ys:List α} {l m d f:Int} {ao:Option Addr} {Q:Nat} {news:List Value}
  (ho:o.op= .call { callee:=.builtin .copy,args:= #[x,y],argTypes:= #[T,U] }) (W:ev x=V) (X:ev y= .slice ao (f.toNat - d.toNat) Q) (t:St I w0 w (Ch.own (ay E R) [v] xs::C)) (hv:Vw V v k xs.length l m) (M:RdCells R I k news ys) (B:news= [] \/ ∃a,ao=some a/\ ∀j v,news[j]? =some v->w.cell? (a.add j)=some v)
  (S:0<=d) (h02:d<=f) (hys:(ys.length:Int)=min (f - d) (m - l)) (hl:l<=(xs.length:Int)) :
  Upon P (fun r w'=>r= .int .i64 (min (f - d) (m - l))/\ ∃u',(∀a b c,v= .slice a b c->u'= .slice a (zi xs l.toNat ys).length c)/\St I w0 w' (Ch.own (ay E R) [u'] (zi xs l.toNat ys)::C)) ((execOp ev o).run P w):=by
 have F:((Nat.min (f.toNat - d.toNat) (m.toNat - l.toNat):Nat):Int)=min (f - d) (m - l):=by
  have ⟨_,_,_,g1,g2⟩:=hv.hd;show ((min (f.toNat - d.toNat) (m.toNat - l.toNat):Nat):Int)=_;omega
 have A:Nat.min (f.toNat - d.toNat) (m.toNat - l.toNat)=ys.length:=by omega
 rcases hv with ⟨Z,K,g1,g2,g3⟩ | ⟨g,i,G,x',Z,K,q1,q2,q3,q4,q5,N⟩
 ·have hxx:=List.eq_nil_of_length_eq_zero g1;have J:ys= []:=List.eq_nil_of_length_eq_zero (by omega);have h:(Builtin.copy_ #[T,U] o.type #[.slice none 0 0,.slice ao (f.toNat - d.toNat) Q]).run P w= .ok (goInt 0) w:=by
   have z:(f.toNat - d.toNat).min 0=0:=Nat.min_zero _;cases ao with
   | none=>simp[Builtin.copy_,run_underlying O,Builtin.lenOf,TI.size H w,Builtin.firstCells,z]
   | some a =>
    have S:(loadCells a 0).run P w= .ok #[] w:=run_loadCells_list (P:=P) w a [] (by simp);simp[Builtin.copy_,run_underlying O,Builtin.lenOf,TI.size H w,Builtin.firstCells,z,S]
  rw[xK ho (W.trans K) X h];refine ⟨?_,v,fun a b c e=>?_,?_⟩
  ·rw[<-F,A,J];rfl
  ·grind[zi]
  grind[zi]
 ·rw[Z] at t⊢;obtain ⟨-,r1,r2,cur,r3,r4,hat⟩:=DX (k:=k) D hR t;have n:l.toNat+ys.length<=G:=by omega
  have m1:(l.toNat+ys.length)*k<=G*k:=Nat.mul_le_mul_right _ n;have hcl:(cur.toList.drop i).length=cur.size - i:=by grind
  have hnl:=M.1;have u:x'=l.toNat*k\/ys= []:=by
   rcases N with N | N
   ·right;exact List.eq_nil_of_length_eq_zero (by omega)
   ·omega
  have h:=MM (P:=P) (w:=w) (dT:=T) (sT:=U) (ty:=o.type) (k:=k) (g:=g) (o:=i+x') (dLen:=m.toNat - l.toNat) (dCap:=G - l.toNat) (sLen:=f.toNat - d.toNat) (sCap:=Q) (ao:=ao) (cs:=news) O (TI.size H w) (by grind) B (fun q hq=>by
   grind[Nat.add_assoc,zg,List.getElem?_eq_getElem]) (fun q _=>by simp[World.frozen?,r3]) (M.one hk)
  rw[xK ho (W.trans K) X h];refine ⟨?_,.slice (some ⟨g,i,none⟩) (zi xs l.toNat ys).length G,fun a b c e=>?_,?_⟩
  ·simp_all[goInt,Nat.min]
  ·grind
  ·have:=SK D hC hk hR (p:=l.toNat) M (by omega) n (by grind[lim,maxLen]) t
   rcases u with u | u
   ·grind
   ·have L:news= []:=List.eq_nil_of_length_eq_zero (by grind);rw[L] at this⊢;exact this
theorem rj {b c:Vb} :zk b c<=c.m - c.l/\zk b c<=b.m - b.l:=⟨Int.min_le_left _ _,Int.min_le_right _ _⟩
theorem HB (hT:TTok P tt) {T U:TypeId} (ho:o.op= .call { callee:=.builtin .copy,args:= #[x,y],argTypes:= #[T,U] }) (h:Pf tt s k T x y=some res):Oks P w0 s o k res:=by
 have ⟨d,hd,h⟩:=bind_some h;have ⟨E,hE,h⟩:=bind_some h;have ⟨e,he,h⟩:=bind_some h;have ⟨b,hb,h⟩:=bind_some h;have ⟨c,hc,h⟩:=bind_some h;have ⟨hn,h⟩:=ai h;simp only[ak] at hn;have ⟨⟨⟨n1,n2⟩,n3⟩,S⟩:=hn;have n1:e.n=b.k:=au n1;have n2:c.k=b.k:=au n2;have n3:b.r.E=E:=au n3;have ⟨hr,hk,hvw⟩:=sb (P:=P) (w0:=w0) hb;obtain ⟨hp,-⟩:=bU hr;have hTE:P.underlying T=some (.slice b.r.E):=((hT.get hd).el E hE).trans (by rw[n3]);have hti:TI P b.r.E e.agg b.k:=by rw[n3,<-n1];exact (hT.get he).ti
 have t:0<b.k:=by rw[hk];exact Ty.size_pos _
 have hR:b.r.t.rep.size=b.k:=b.r.t.rep_size.trans hk.symm;split at h
 ·rename_i hbeq;have hh:=Hdr.beq_eq hbeq;have ⟨D,hk2,m⟩:=sb (P:=P) (w0:=w0) hc;have hcr:c.r=b.r:=by
   rw[hh] at D;exact ae (D.symm.trans hr)
  have ⟨u,K,h⟩:=bind_some h;have ⟨V,Q,R,c4,c5⟩:=bO K;have key: ∀J θ,Fine P w0 J θ s-> ∀w C,St J w0 w (toCh P θ (b.r.ent b.h)::C)->Upon P (fun r w'=>r= .int .i64 (zk b c)/\ ∃M,(∀a q z,hv θ b.h= .slice a q z->M= .slice a (zi b.r.xs b.l.toNat (AZ b.r.xs c.l (zk b c))).length z)/\St J w0 w' (Ch.own (ay b.r.E b.r.t.rep) [M] (zi b.r.xs b.l.toNat (AZ b.r.xs c.l (zk b c)))::C)) ((execOp (evL (envL θ s)) o).run P w):=by
   intro J θ l w C j;have i:St J w0 w (Ch.own (ay b.r.E b.r.t.rep) [hv θ b.h] b.r.xs::C):=j;have h1:=hvw l rfl i;have h2:Vw (evL (envL θ s) y) (hv θ b.h) b.k b.r.xs.length c.l c.m:=by
    have:=m l rfl (xs:=c.r.xs) (by rw[hcr,hh];omega)
    grind
   have ⟨ao,sc,news,hy,L,n⟩:=Hz (Ty.sh_ok S) t hR i h2 Q R (rj).1;have F:=Fu (xs:=b.r.xs) V Q R;exact HA (P:=P) (w0:=w0) (o:=o) (Ty.sh_ok S) (Ty.cpy S) hTE hti t hR ho rfl hy i h1 L n V (by have:=(rj (b:=b) (c:=c)).1;omega) (by grind[zk]) c5
  have hll:=Fu (xs:=b.r.xs) V Q R;have H:=pn (xs:=b.r.xs) (ys:=AZ b.r.xs c.l (zk b c)) (p:=b.l.toNat) (by omega);have hcf:=(rj (b:=b) (c:=c)).2;split at h
  ·have ⟨u2,G,h⟩:=bind_some h;have d1:=bO G;refine ⟨_,h,Fq (fact:=fun _ v=>v= .int .i64 (zk b c)) hr (fun J θ l=>fun w C j=>?_) (fun J θ u l A hlt=>⟨rfl,A.symm⟩)⟩;refine (key J θ l w C j).imp fun r w' f=>⟨f.1,?_⟩
   obtain ⟨-,M,N,O⟩:=f;have i:St J w0 w (Ch.own (ay b.r.E b.r.t.rep) [hv θ b.h] b.r.xs::C):=j;have ⟨ad,W,f2,f3⟩:=zj i;grind
  ·have ⟨q,hq,h⟩:=bind_some h;have ⟨u2,G,h⟩:=bind_some h;have ⟨d1,d2⟩:=bO G;refine ⟨_,h,Dg hp,aW rfl,fun J θ l=>?_⟩;have ⟨t1,k0,N0,t2⟩:=KZ hq l.env;refine OpT.weak (fact:=fun v=>v= .int .i64 (zk b c)) (gv:=fun _=>[Ch.own (ay b.r.E b.r.t.rep) [hv θ q.1] (zi b.r.xs b.l.toNat (AZ b.r.xs c.l (zk b c)))]) (fun w C j=>?_) (fun u A=>⟨rfl,A.symm,fun g hg=>?_⟩) (fun u A=>?_)
   ·refine (key J θ l w C j).imp fun r w' f=>⟨f.1,?_⟩
    obtain ⟨-,M,N,O⟩:=f;have i:St J w0 w (Ch.own (ay b.r.E b.r.t.rep) [hv θ b.h] b.r.xs::C):=j;have ⟨ad,W,f2,f3⟩:=zj i
    have:=N _ _ _ W
    have F:(zi b.r.xs b.l.toNat (AZ b.r.xs c.l (zk b c))).length=q.2.toNat:=by rw[H];omega
    have hu':M=hv θ q.1:=by
     rw[this,F];rcases t2 with ⟨q0,A,g1,g2,g3⟩ | ⟨g,ofs,cp,x',q0,A,q1,q2,q3,q4,q5,q6⟩
     ·grind
     ·grind
    grind
   ·obtain rfl:=al hg;exact ⟨a8 t1,aA _,trivial⟩
   ·show [Ch.own _ [hv θ q.1] _] = [Ch.own _ [hv (upd θ s.nxt u) q.1] _];rw[show hv (upd θ s.nxt u) q.1=hv θ q.1 from bc Same.upd t1]
    rfl
 ·have ⟨c,hc',h⟩:=bind_some h;have ⟨hkk,h⟩:=ai h;have n2:c.k=b.k:=au hkk;obtain ⟨D,hk2,m⟩:=Jh (P:=P) (w0:=w0) hc';obtain ⟨hp2,-⟩:=bU D;obtain ⟨ys,Z,h⟩:=bind_some h;obtain ⟨u,K,h⟩:=bind_some h;obtain ⟨V,Q,R,c4,c5,c6⟩:=bO K;have X:=y7 (h:=c.h) Z;have hyl:c.r.xs.length=ys.length:=by
   obtain ⟨N,O⟩:=pe Z;obtain ⟨x1,x2,x3,x4,x5,ver,E2,t2,xs2,rest2⟩:=c;simp only at N O⊢
   injection N with e3 e4
   subst e3;subst e4;rw[O]
  have hll:=Fu (xs:=ys) V Q R;have H:=pn (xs:=b.r.xs) (ys:=AZ ys c.l (zk b c)) (p:=b.l.toNat) (by omega);have hcf:=(rj (b:=b) (c:=c)).2;have I:s.chs.Perm ([c.r.ent c.h] ++ [b.r.ent b.h] ++c.r.rest):=by
   refine hp.trans ((hp2.cons _).trans ?_);exact List.Perm.swap _ _ _
  refine ⟨_,h,I,aW rfl,fun J θ l=>?_⟩;have hok:=lP l hp;refine OpT.weak (fact:=fun v=>v= .int .i64 (zk b c)) (gv:=fun _=>[toCh P θ (c.r.ent c.h),Ch.own (ay b.r.E b.r.t.rep) [hv θ b.h] (zi b.r.xs b.l.toNat (AZ ys c.l (zk b c)))]) (fun w C j=>?_) (fun u A=>⟨rfl,A.symm,fun g hg=>?_⟩) (fun u A=>?_)
  ·have j:St J w0 w (toCh P θ (c.r.ent c.h)::Ch.own (ay b.r.E b.r.t.rep) [hv θ b.h] b.r.xs::C):=j;have B:=j.perm (List.Perm.swap _ _ _);have h1:=hvw l rfl B;have h2:=m l rfl (show St J w0 w (Ch.own (ay c.r.E c.r.t.rep) [hv θ c.h] c.r.xs::_) from j);rw[hyl,n2] at h2;rw[X] at j B⊢;have hs2:St J w0 w (Ch.own (ay b.r.E b.r.t.rep) [hv θ c.h] ys::Ch.own (ay b.r.E b.r.t.rep) [hv θ b.h] b.r.xs::C):=j;obtain ⟨ao,sc,news,hy,L,n⟩:=Hz (Ty.sh_ok S) t hR hs2 h2 Q R (rj).1
   have:=HA (P:=P) (w0:=w0) (o:=o) (Ty.sh_ok S) (Ty.cpy S) hTE hti t hR ho rfl hy B h1 L n V (by have:=(rj (b:=b) (c:=c)).1;omega) (by grind[zk]) c5
   refine this.imp fun r w' f=>⟨f.1,?_⟩
   obtain ⟨-,M,N,O⟩:=f;obtain ⟨ad,W,f2,f3⟩:=zj B
   have:=N _ _ _ W
   have hu':M=hv θ b.h:=by
    rw[this,H,show max b.r.xs.length (b.l.toNat+(AZ ys c.l (zk b c)).length)=b.r.xs.length from by omega];exact W.symm
   rw[hu'] at O;exact O.perm (List.Perm.swap _ _ _)
  ·obtain rfl:=al hg;exact ⟨a8 hok.1,aA _,trivial⟩
  ·show [toCh P θ (c.r.ent c.h),Ch.own _ [hv θ b.h] _] = [toCh P θ (c.r.ent c.h),Ch.own _ [hv (upd θ s.nxt u) b.h] _];rw[show hv (upd θ s.nxt u) b.h=hv θ b.h from bc Same.upd hok.1]
   rfl
theorem HC {α:Type} {E:TypeId} {R:Rep α} {I:Hp} {w0 w:World} {C:List Ch} {g ofs n cap:Nat} {xs:List α} (h:St I w0 w (Ch.own (ay E R) [.slice (some ⟨g,ofs,none⟩) n cap] xs::C)): ∃cur,w.heap[g]? =some (.cells cur E (0,0))/\ofs+cap*R.size<=cur.size/\n=xs.length/\n<=cap/\ ∃F,Sep I C w F/\g∉F:=by
 obtain ⟨d,a,F,⟨G,K,rfl,⟨c,f⟩,e⟩,i,b⟩:=h;grind
theorem SO {q:FuncId} (F:abq P q) {ts:Array TypeId} (ho:o.op= .call { callee:=.value (.func q),args:= #[x,y],argTypes:=ts }) (h:Xh s k x y=some res):Oks P w0 s o k res:=by
 unfold Xh at h;split at h
 ·rename_i O W;have ⟨r,hr,h⟩:=bind_some h;have ⟨c,hc,h⟩:=bind_some h;have ⟨u,hk,h⟩:=bind_some h;have ⟨c1,c2⟩:=bO hk;obtain ⟨hp,-⟩:=bU hr;have ⟨H,V,j⟩:=Jh (P:=P) (w0:=w0) hc;obtain ⟨z,-⟩:=bU H;have f:=hp.trans (z.cons _);refine ⟨_,h,f,aW rfl,fun J θ hf=>OpT.weak (fact:=(· = .bool false)) (gv:=fun _=>[toCh P θ (r.ent O),toCh P θ (c.r.ent c.h)]) (fun w C M=>?_) (fun u l=>⟨rfl,l.symm,fun g Z=>by cases Z⟩) (fun u l=>rfl)⟩;have a:St J w0 w (Ch.own (ay r.E r.t.rep) [hv θ O] r.xs::Ch.own (ay c.r.E c.r.t.rep) [hv θ c.h] c.r.xs::C):=M;have d:=a.perm (List.Perm.swap _ _ _);have h2:=j hf rfl d;have h1:=BK (k:=1) a;rcases h1 with ⟨t,-,g1,-,-⟩ | ⟨g,A,cp,x',t,-,-⟩
  ·omega
  rcases h2 with ⟨L,l,e1,e2,e3⟩ | ⟨Q,p,i,x2,L,l,p1,p2,p3,p4,p5,p6⟩
  ·omega
  rw[t] at a;rw[t,L] at d;obtain ⟨n,S,a2,a3,a4,-⟩:=HC a;have ⟨b,b1,b2,b3,b4,FB,X,T⟩:=HC d;have E:g≠Q:=by
   intro e;obtain ⟨GA,KA,R,I,-⟩:=X
   have:g∈GA:=by
    obtain ⟨-,I⟩:=I;rcases I with ⟨v,-,-⟩ | ⟨g',K,N,cur,K1,v,-,-,-,-,rfl,-⟩
    ·grind
    ·grind
   exact T (by grind)
  have B:1<=c.r.t.rep.size:=by rw[Ty.rep_size];exact Ty.size_pos _
  have D:0<b.size:=by
   have:i*1<=i*c.r.t.rep.size:=Nat.mul_le_mul_left _ B
   omega
  have m:=F w g Q A (p+x2) r.xs.length (c.m.toNat - c.l.toNat) cp (i - c.l.toNat) n b _ _ E S b1 D;have G:=(aI (θ:=θ) W).trans t;have U:(execOp (evL (envL θ s)) o).run P w= .ok (.value (.bool false)) w:=by
   simp[execOp,ho,resolve,show evL (envL θ s) (.func q)= .func (.func q) #[] #[] from rfl,Deferred.ofValue,Sem.run_bind,Sem.run_pure,Result.andThen_ok,invoke,List.map_toArray,List.map_cons,List.map_nil,G,l];exact m
  rw[U];exact ⟨rfl,M⟩
 grind
theorem aca {f:FuncId} {fn:Func} {tS tR E:TypeId} {n:Nat} {agg:Bool} (p:P.funcs[f]? =some fn) (a:(fn.name == "runtime.NumGoroutine")=false) (v:fn.body.isNone=true) (j:Extern.findNext fn=none) (u:Extern.find fn=some (Extern.SlicesOverlaps.overlaps #[tS,tS] #[tR])) (B:P.underlying tS=some (.slice E)) (F:TI P E agg n):abq P f:=by
 intro w g h m l C q t z b c r A d e D i;rw[run_callFunc_extern p a v j u,Lib.run_overlaps_apart (P:=P) w tS tR E B n (fun w=>TI.size F w) ⟨g,m,none⟩ ⟨h,l,none⟩ C t q z d r A b.size c.size (by simp[World.shape?,e]) (by simp[World.shape?,D]) (by omega) (by simp[World.frozen?,e]) (by simp[World.frozen?,e])]
 rfl
end
end R
namespace R
open Go.RowKit
open D
structure PartA where
 h:Hdr
 ver:Nat
 E:TypeId
 t:Ty
 xs:List t.den
 lo:Nat
 hi:Nat
def SP:AV->Option PartA
 | .sub h ver E t xs l=>some ⟨h,ver,E,t,xs,l.toNat,xs.length⟩
 | .pre h ver E t xs l=>some ⟨h,ver,E,t,xs,0,l.toNat⟩
 | _=>none
section
variable {Y:Type} (tt:TT) (s:Sg) (k:Res->Option Y)
def abv (E:TypeId) (b:Nat) (t:Ty) (xs:List t.den) (nsx rest:List Ent) (q:PartA):Option Y:=
 (rowOf q.h rest).bind fun r=>b8 (Nat.beq r.ver q.ver&&(t.sh&&t.dp)) ((pd (.sl r.E r.t) (.sl E t) r.xs).bind fun ys=>(bw b xs ((ys.take q.hi).drop q.lo)).bind fun zs=>k ⟨[r.ent q.h],nsx,r.rest,[(⟨s.nxt,[]⟩,.own (.sl E t) zs)],.one (.own ⟨s.nxt,[]⟩)⟩)
def Xi (T:TypeId) (x y:Operand):Option Y:=(td tt T).bind fun d=>d.el.bind fun E=>(td tt E).bind fun e=>e.bytes.bind fun b=>(opd s y).bind fun yv=>(SP yv).bind fun q=>match opd s x with
 | some (.one (.own h))=>(rowOf h s.chs).bind fun r=>b8 (Nat.beq r.E E&&Nat.beq r.t.size e.n) (abv s k r.E b r.t r.xs [r.ent h] r.rest q)
 | some (.one (.val v))=>b8 (isNil v&&Nat.beq q.t.size e.n) (abv s k E b q.t [] [] s.chs q)
 | _=>none
end
section
variable {Y:Type} {tt:TT} {an:List (Nat×Ty)} {s:Sg} {k:Res->Option Y} {P:Program} {w0:World} {o:Oper} {res:Y} {x y:Operand}
theorem SQ {J:Hp} {θ:Th} {n:Nat} {chs:List Ent} {v:AV} {q:PartA} (h:SP v=some q) (a:v.ok P w0 J θ n chs):v.v θ=sQ (hv θ q.h) q.lo q.hi q.t.size/\q.lo<=q.hi/\q.hi<=q.xs.length/\q.h.id<n/\Mem chs n q.h q.ver (.own (.sl q.E q.t) q.xs):=by
 unfold SP at h;split at h
 ·rename_i g e E t b l;obtain rfl:=ae h;obtain ⟨c,f,d⟩:=a;exact ⟨rfl,by show l.toNat<=b.length;omega,aH _,c,d⟩
 ·rename_i g e E t b l;obtain rfl:=ae h;obtain ⟨c,f,d⟩:=a;exact ⟨rfl,Nat.zero_le _,by show l.toNat<=b.length;omega,c,d⟩
 ·cases h
theorem HD {I:Hp} {ev:Operand->Value} {α:Type} {E T:TypeId} {R:Rep α} {z:Value} {n b:Nat} {x y:Operand} {s u:Value} {xs ys zs:List α} {lo hi:Nat} (h:bw b xs ((ys.take hi).drop lo)=some zs) (h1:lo<=hi) (m:hi<=ys.length) (p:R.Dp) (t:Cpy R R) (g:P.underlying T=some (.slice E)) (r:TZ P E z n b) (e:z.cells.size=n) (f:0<n) (c:R.size=n) (d:1<=b) (i:o.op= .call { callee:=.builtin .append,args:= #[x,y],argTypes:= #[T,T] }) (q:ev x=s) (l:ev y=sQ u lo hi n) :
  OpT P I w0 o ev [Ch.own (ay E R) [s] xs,Ch.own (ay E R) [u] ys] (fun _=>True) (fun v=>[Ch.own (ay E R) [v] zs,Ch.own (ay E R) [u] ys]):=by
 intro w C j;have key:=xE (P:=P) (I:=I) (w0:=w0) (o:=o) (ev:=ev) (ls:=[Ch.own (ay E R) [u] ys]) (rn:=[Ch.own (ay E R) [s] xs]) (fact:=fun _=>True) (gv:=fun v=>[Ch.own (ay E R) [v] zs]) (fun v=>⟨Bm (ER p),trivial⟩) (fun A B a _=>wC h t c (Kr (a _ _ _ (List.mem_singleton.2 rfl)) h1 m c) g r e f c d i q l) w C (j.perm ((List.Perm.swap _ _ _).append_right C));exact key.imp fun v w hv=>⟨hv.1,hv.2.perm ((List.Perm.swap _ _ _).append_right C)⟩
theorem SR {q:PartA} {nsx rest:List Ent} {r:Row} {J:Hp} {θ:Th} {n:Nat} (hp:s.chs.Perm (nsx++rest)) (b:rowOf q.h rest=some r) (hv:r.ver=q.ver) (c:Mem s.chs n q.h q.ver (.own (.sl q.E q.t) q.xs)):Chk.own (.sl r.E r.t) r.xs=Chk.own (.sl q.E q.t) q.xs:=by
 obtain ⟨a,-⟩:=bU b;exact c.2 (r.ent q.h) (hp.mem_iff.2 (bj _ (a.mem_iff.2 (by simp)))) _ ⟨rfl,.inl ⟨hv,rfl⟩⟩
theorem Pg {T E:TypeId} {z:Value} {n b:Nat} {t:Ty} {xs:List t.den} {nsx rest:List Ent} {q:PartA} {N:AV} (hq:SP N=some q) (hp:s.chs.Perm (nsx++rest)) (U:P.underlying T=some (.slice E)) (hE:TZ P E z n b) (D:z.cells.size=n) (S:0<n) (G:t.size=n) (C:1<=b) (W:o.op= .call { callee:=.builtin .append,args:= #[x,y],argTypes:= #[T,T] }) (K:opd s y=some N)
  (l: ∀J θ,Fine P w0 J θ s-> ∃v,evL (envL θ s) x=v/\ ∀(rn:List Ch) (fact:Value->Prop) (H:Value->List Ch),OpT P J w0 o (evL (envL θ s)) (Ch.own (ay E t.rep) [v] xs::rn) fact H->OpT P J w0 o (evL (envL θ s)) (nsx.map (toCh P θ)++rn) fact H)
  (h:abv s k E b t xs nsx rest q=some res):Oks P w0 s o k res:=by
 unfold abv at h;obtain ⟨r,M,h⟩:=bind_some h;obtain ⟨O,h⟩:=ai h;rw[ak,ak] at O;obtain ⟨e,m,B⟩:=O;have e:=au e;obtain ⟨A,j,h⟩:=bind_some h;obtain ⟨zs,c,h⟩:=bind_some h;obtain ⟨w,-⟩:=bU M;have p:=y7 (h:=q.h) j;refine ⟨_,h,good_row (hp.trans ((w.append_left nsx).trans List.perm_middle)) fun J θ F=>?_⟩;obtain ⟨v,i,l⟩:=l J θ F;obtain ⟨p1,p2,p3,-,p5⟩:=SQ hq (b7 F K);have d:=SR (J:=J) (θ:=θ) hp M e p5;have a:r.ent q.h=(q.h,r.ver,.own (.sl q.E q.t) q.xs):=by
  show (q.h,r.ver,Chk.own (.sl r.E r.t) r.xs)=_;rw[d]
 rw[p] at a;have f:Chk.own (.sl E t) A=Chk.own (.sl q.E q.t) q.xs:=(Prod.mk.inj (Prod.mk.inj a).2).2;have g:q.t.size=n/\q.xs.length=A.length:=by
  clear i l h j c a p d;obtain ⟨qh,L,V,Z,u,qlo,Q⟩:=q;simp only at f;have X:Ty.sl E t=Ty.sl V Z:=(Chk.own.inj f).1;obtain ⟨rfl,rfl⟩:=Ty.sl.inj X;have e2:A=u:=eq_of_heq (Chk.own.inj f).2;exact ⟨G,by rw[e2]⟩
 rw[p]
 have:=HD (P:=P) (I:=J) (w0:=w0) (R:=t.rep) c p2 (by rw[<-g.2];exact p3) (Ty.dp_ok B) (Ty.cpy m) U hE D S (t.rep_size.trans G) C W i ((aI (θ:=θ) K).trans (by rw[p1,g.1]))
 exact OpT.permN (List.perm_append_comm (l₁:=[_])) (l _ _ _ this)
theorem K0 (t:TTok P tt) {T:TypeId} (u:o.op= .call { callee:=.builtin .append,args:= #[x,y],argTypes:= #[T,T] }) (h:Xi tt s k T x y=some res):Oks P w0 s o k res:=by
 obtain ⟨d,K,h⟩:=bind_some h;obtain ⟨E,B,h⟩:=bind_some h;obtain ⟨e,F,h⟩:=bind_some h;obtain ⟨b,G,h⟩:=bind_some h;obtain ⟨L,w,h⟩:=bind_some h;obtain ⟨q,A,h⟩:=bind_some h;have j:=t.get K;have g:=t.get F;obtain ⟨z,l,n,i⟩:=g.zero b G;have m:z.cells.size=e.n:=by rw[n,List.size_toArray,xy,g.sz]
 split at h
 ·rename_i H p;obtain ⟨r,I,h⟩:=bind_some h;obtain ⟨f,h⟩:=ai h;rw[ak] at f;have c:=au f.1;have a:=au f.2;obtain ⟨hp,-⟩:=bU I;exact Pg (nsx:=[r.ent H]) A hp ((j.el E B).trans (by rw[c])) (by rw[c];exact l) m (by rw[<-a];exact Ty.size_pos _) a i u w (fun J θ C=>⟨_,aI p,fun rn fact D h=>h⟩) h
 ·rename_i v p;obtain ⟨f,h⟩:=ai h;rw[ak] at f;have c:=oM f.1;have a:=au f.2;refine Pg (nsx:=[]) A (List.Perm.refl _) (j.el E B) l m (by rw[<-a];exact Ty.size_pos _) a i u w (fun J θ C=>⟨_,aI p,fun rn fact D h=>?_⟩) h;rw[show (AV.one (LV.val v)).v θ= .slice none 0 0 from c] at h;exact OpT.nilrow h
 ·cases h
end
structure HRow where
 E:TypeId
 t:Ty
 xs:List t.den
 n:Nat
def ZP:Hol->Option HRow
 | ⟨_,_,.sl E t,d,.sl _ _,_,f,_,_,_,_,_⟩=>some ⟨E,t,d,List.length (α:=t.den) (f ([] :List _))⟩
 | _=>none
section
variable {Y:Type} (tt:TT) (s:Sg) (k:Res->Option Y)
def Ph (T:TypeId) (x i:Operand):Option Y:=(td tt T).bind fun d=>match d.el,opd s x,opd s i with
 | some E,some (.one (.own h)),some (.one (.val (.int .i64 i)))=>(I0 h s.chs).bind fun r=>(ZP r).bind fun q=>(td tt E).bind fun e=>b8 (Nat.beq e.n q.t.size&&Df h r.rest) ((aS q.xs i).bind fun a=>(chk (i<(q.n:Int))).bind fun _=>k ⟨[r.ent h],[],r.rest,[],.elo h r.over q.E q.t q.xs a i 0⟩)
 | _,_,_=>none
end
section
variable {Y:Type} {tt:TT} {s:Sg} {k:Res->Option Y} {P:Program} {w0:World} {o:Oper} {res:Y} {x:Operand}
theorem ZQ {I:Hp} {α β:Type} {E E':TypeId} {R:Rep α} {S:Rep β} {v c:Value} {f:List β->List α} {b off:Nat} {w:World} {K:List Nat} (h:(Ch.gap (ay E R) [v] (ay E' S) f b off c).holds I w K):Hd v (f []).length:=by
 obtain ⟨p,⟨cur,m,n,g⟩,q,j⟩:=h;obtain ⟨F,-,l⟩:=j I (w.setCell ⟨b,off,none⟩ (.slice none 0 0)) (.slice none 0 0) [] [] Hp.le.rfl (fun x t a=>by
  simp only[World.setCell];rw[Array.getElem?_modify,if_neg (fun e=>a e.symm)]) (fun d r i=>by
  simp only[World.setCell];rw[Array.getElem?_modify,if_pos rfl,i];rfl) ⟨by simp,.inl ⟨rfl,rfl,rfl⟩⟩
 exact Hd.of_own l
theorem MQ (X:TTok P tt) {T:TypeId} {i:Operand} (ho:o.op= .indexAddr T x i) (h:Ph tt s k T x i=some res):Oks P w0 s o k res:=by
 obtain ⟨d,hd,h⟩:=bind_some h;split at h
 ·rename_i E b j he hx hi;obtain ⟨r,hr,h⟩:=bind_some h;obtain ⟨q,R,h⟩:=bind_some h;obtain ⟨e,hE,h⟩:=bind_some h;obtain ⟨l,h⟩:=ai h;obtain ⟨a,Q,h⟩:=bind_some h;obtain ⟨u0,z,h⟩:=bind_some h;have z:=bO z;rw[ak] at l;obtain ⟨l,N⟩:=l;have l:=au l;have hp:=AX hr;obtain ⟨V,f,t0,d1,u1,y1,p,i1,k1,y,A,L⟩:=r;cases t0 with
  | sl E1 m =>
   cases u1 with
   | sl E2 n =>
    obtain rfl:=ae (show some _=some q from R);refine ⟨_,h,pg hp,aW rfl,fun J θ W=>OpT.weak (fact:=(· =pt (hv θ b) (j.toNat*m.size+0))) (gv:=fun _=>[toCh P θ (Hol.ent _ b)]) (fun w C Z=>?_) (fun u S=>?_) (fun u S=>rfl)⟩
    ·have D:St J w0 w (Ch.gap (ay E1 m.rep) [hv θ b] (ay E2 n.rep) p (ptB (hv θ b)) (ptO (hv θ b)+(i1.toNat*k1+y)) (A.v θ)::C):=Z;have hD:Hd (hv θ b) (p ([] :List n.den)).length:=by
      obtain ⟨-,-,F,t,-,-⟩:=D;obtain ⟨G,K,-,M,-⟩:=t;exact ZQ M
     have B:inI (α:=m.den) (p ([] :List n.den)) j:=⟨(EN Q).1,by
      have:=(EN Q).1
      have z:j<((List.length (α:=m.den) (p ([] :List n.den)):Nat):Int):=z;show j.toNat<List.length (α:=m.den) (p ([] :List n.den));omega⟩
     have:=tF (I:=J) (w0:=w0) (P:=P) (o:=o) hD ((X.get hd).el _ he) (X.get hE).ti ho (aI hx) (aI hi) B
     rw[l] at this;exact this w _ Z
    ·have H:=lP W hp;obtain ⟨U,q2,q3,q4,q5,q6⟩:=H;have hm:Mem s.chs s.nxt b f (.own (.sl E1 m) d1):=⟨Nat.lt_trans q4 q2,fun e' c c' v=>by
      rcases aG (hp.mem_iff.1 c) with rfl | c
      ·rcases v.2 with ⟨O,-⟩ | ⟨-,O⟩
       ·exact absurd O (Nat.ne_of_gt q4)
       ·exact O
      ·exact absurd v.1 (qg N c)⟩
     refine ⟨⟨a8 U,Q,hm.newer (Res.newer (pg hp) (aW rfl J θ W)) (Nat.le_succ _)⟩,?_,fun g M=>by cases M⟩;rw[S];show pt (hv (upd θ s.nxt _) b) _=pt (hv θ b) _;rw[show hv (upd θ s.nxt _) b=hv θ b from bc Same.upd U]
   | _=>cases R
  | _=>cases R
 ·cases h
end
end R
namespace D
open Go.RowKit
def jA (a b:ByteArray):Option ByteArray:=(chk (a.size+b.size<=9223372036854775807)).bind fun _=>some (a++b)
def jB (s:ByteArray) (i:Int):Option Int:=(chk (0<=i/\i<(s.size:Int))).bind fun _=>some ((s.data.toList.getD i.toNat 0).toNat:Int)
def lG (s:ByteArray) (l h:Int):Option ByteArray:=(chk (0<=l/\l<=h/\h<=(s.size:Int))).bind fun _=>some (s.extract l.toNat h.toNat)
def nR (l:List Int):ByteArray:=l.foldl (fun r n=>r.push (UInt8.ofNat n.toNat)) ByteArray.empty
section
variable {P:Program} {I:Hp} {w0:World} {o:Oper} {ev:Operand->Value} {x y:Operand}
theorem Xj {t u:TypeId} {m n:ByteArray} (h:m.size+n.size<=9223372036854775807) (a:o.op= .binOp .add t x y u) (b:ev x= .string m) (c:ev y= .string n):OpT P I w0 o ev [] (· = .string (m++n)) (fun _=>[]):=
 bt fun w=>by simp[execOp,a,b,c,eqGuard,binOp_string_add,run_string_add_sum w m n h,Result.andThen]
theorem Pi {T:TypeId} {m:ByteArray} {k:IntKind} {i:Int} (hT:P.underlying T=some .string) (h:0<=i/\i<(m.size:Int)) (ho:o.op= .index T x y) (hx:ev x= .string m) (hy:ev y= .int k i):OpT P I w0 o ev [] (· = .int .u8 ((m.data.toList.getD i.toNat 0).toNat:Int)) (fun _=>[]):=
 bt fun w=>by
  have h2:i.toNat<m.size:=by omega
  have e:m.data.toList.getD i.toNat 0=m[i.toNat]'h2:=by
   have h3:i.toNat<m.data.toList.length:=by simpa using h2
   rw[List.getD_eq_getElem?_getD,List.getElem?_eq_getElem h3]
   simp[ByteArray.getElem_eq_getElem_data]
  have:=run_index_string (P:=P) (w:=w) T m k i hT
  rw[dif_pos h] at this
  rw[e]
  simp[execOp,ho,hx,hy,this,Result.andThen]
def Xk (ev:Operand->Value) (d:Int):Option Operand->Int->Prop
 | none,n=>n=d
 | some z,n=> ∃k,ev z= .int k n
theorem Pj {T:TypeId} {m:ByteArray} {lo hi:Option Operand} {l h:Int} (f:P.underlying T=some .string) (e:0<=l/\l<=h/\h<=(m.size:Int)) (g:o.op= .slice T x lo hi none) (n:ev x= .string m)
  (p:Xk ev 0 lo l) (i:Xk ev (m.size:Int) hi h):OpT P I w0 o ev [] (· = .string (m.extract l.toNat h.toNat)) (fun _=>[]):=
 bt fun w=>by
  have c: ∀a b,(Instr.sliceAt T (.string m) a b none).run P w=(Instr.slice T (.string m) a b none).run P w:=fun a b=>by
   simp[Instr.sliceAt,run_underlying f]
  cases lo with
  | none =>
   obtain rfl:l=0:=p;cases hi with
   | none =>
    obtain rfl:h=(m.size:Int):=i;simp[execOp,g,n,c,run_slice_string_all,f,Result.andThen]
   | some b =>
    obtain ⟨k,d⟩:=i;simp[execOp,g,n,d,c,run_slice_string_h (t:=T) (s:=m) (P:=P) (w:=w) f k h e.2.1 e.2.2,Result.andThen]
  | some a =>
   obtain ⟨j,q⟩:=p;cases hi with
   | none =>
    obtain rfl:h=(m.size:Int):=i;simp[execOp,g,n,q,c,run_slice_string_l (t:=T) (s:=m) (P:=P) (w:=w) f j l e.1 e.2.1,Result.andThen]
   | some b =>
    obtain ⟨k,d⟩:=i
    have:=run_slice_string_if (P:=P) (w:=w) T m j k l h f
    rw[if_pos ⟨by omega,e.2.2⟩,if_pos ⟨e.1,e.2.1⟩] at this;simp[execOp,g,n,q,d,c,this,Result.andThen]
theorem BO {S D E E':TypeId} {h1: ∀a:Int,(Value.int .u8 a).oneCell'=true} {v:Value} {xs:List Int} (l:P.underlying S=some (.slice E)) (m:P.underlying E=some (.int .u8)) (j:P.underlying D=some .string) (k:(ay E' (mb Int (.int .u8) h1)).rd I [v] xs) (i:o.op= .convert S D x) (h:ev x=v):OpT P I w0 o ev [] (· = .string (nR xs)) (fun _=>[]):=by
 intro w C g;obtain ⟨e,cap,rfl,c⟩:=Src.of_rd g k;have b:(execOp ev o).run P w= .ok (.value (.string (nR xs))) w:=by
  have f:(convert S D (.slice e (xs.map (Value.int .u8)).length cap)).run P w= .ok (.string (nR xs)) w:=by
   rw[run_convert_bytes_string w S D E e _ cap l m j];rcases c with c | ⟨a,rfl,c⟩
   ·have d:xs= []:=by simpa using c
    subst d;cases e with
    | none=>rfl
    | some a=>exact run_bytesToString w a _ cap [] (run_loadCells_list (P:=P) w a [] (by simp))
   ·rw[List.length_map];exact run_bytesToString w a _ cap xs (by
     have:=run_loadCells_list (P:=P) w a (xs.map (Value.int .u8)) c
     rwa [List.length_map] at this)
  simp only[List.length_map] at f h;simp[execOp,i,h,f,Result.andThen]
 rw[b];exact ⟨rfl,g⟩
end
end D
namespace R
open Go.RowKit
open D
section
variable {Y:Type} (tt:TT) (s:Sg) (k:Res->Option Y)
def Xl (b:BinOp) (t:TypeId) (x y:Operand):Option Y:=match b,opd s x,opd s y with
 | .add,some (.one (.val (.string m))),some (.one (.val (.string n)))=>(jA m n).bind fun r=>kv s k (.string r)
 | _,_,_=>abo tt s k b t x y
def ZR (T:TypeId) (x i:Operand):Option Y:=(td tt T).bind fun d=>d.ik.bind fun k1=>match k1,opd s x,opd s i with
 | none,some (.one (.val (.string m))),some (.one (.val (.int j n)))=>(jB m n).bind fun r=>kv s k (.int .u8 r)
 | _,_,_=>none
def abw (d:Int):Option Operand->Option Int
 | none=>some d
 | some y=>match opd s y with
  | some (.one (.val (.int _ n)))=>some n
  | _=>none
def Pm (T:TypeId) (x:Operand) (lo hi:Option Operand):Option Y:=(td tt T).bind fun d=>d.ik.bind fun k1=>match k1,opd s x with
 | none,some (.one (.val (.string m)))=>(abw s 0 lo).bind fun l=>(abw s (m.size:Int) hi).bind fun h=>(lG m l h).bind fun r=>kv s k (.string r)
 | _,_=>none
def Vc (S D:TypeId) (x:Operand):Option Y:=(td tt S).bind fun a=>(td tt D).bind fun b=>a.el.bind fun E=>(td tt E).bind fun e=>e.ik.bind fun k1=>b.ik.bind fun k2=>match k1,k2,opd s x with
 | some .u8,none,some (.one (.own h))=>(rowOf h s.chs).bind fun r=>(pc (.sl r.E r.t) (.sl r.E (.int .u8)) r.xs).bind fun xs=>k ⟨[r.ent h],[],r.rest,[],.one (.val (.string (nR xs)))⟩
 | some .u8,none,some (.one (.rd _ t d))=>(pc t (.sl E (.int .u8)) d).bind fun xs=>kv s k (.string (nR xs))
 | some .u8,none,some (.one (.val (.slice none 0 0)))=>kv s k (.string ByteArray.empty)
 | _,_,_=>none
end
section
variable {Y:Type} {tt:TT} {s:Sg} {k:Res->Option Y} {P:Program} {w0:World} {o:Oper} {res:Y} {x y:Operand}
theorem SS (d:TTok P tt) {b:BinOp} {t u:TypeId} (c:o.op= .binOp b t x y u) (h:Xl tt s k b t x y=some res):Oks P w0 s o k res:=by
 unfold Xl at h;split at h
 ·rename_i m n e f;obtain ⟨r,a,h⟩:=bind_some h;obtain ⟨i,g,a⟩:=bind_some a;obtain rfl:=ae a;exact l9 h rfl fun J θ j=>Xj (bO g) c (aI e) (aI f)
 ·exact N8 d c h
theorem SU (f:TTok P tt) {T:TypeId} {i:Operand} (g:o.op= .index T x i) (h:ZR tt s k T x i=some res):Oks P w0 s o k res:=by
 obtain ⟨d,p,c⟩:=bind_some h;obtain ⟨v,l,a⟩:=bind_some c;clear h c;split at a
 ·rename_i m j n q e;obtain ⟨r,b,h⟩:=bind_some a;obtain ⟨w,t,b⟩:=bind_some b;obtain rfl:=ae b;exact l9 h rfl fun J θ u=>Pi ((f.get p).ik _ l) (bO t) g (aI q) (aI e)
 ·cases a
theorem Pn {d n:Int} {θ:Th} {lo:Option Operand} (h:abw s d lo=some n):Xk (evL (envL θ s)) d lo n:=by
 cases lo with
 | none=>exact (ae h).symm
 | some z =>
  simp only[abw] at h;split at h
  ·rename_i j m a;obtain rfl:=ae h;exact ⟨j,aI a⟩
  ·cases h
theorem MR (g:TTok P tt) {T:TypeId} {lo hi:Option Operand} (i:o.op= .slice T x lo hi none) (h:Pm tt s k T x lo hi=some res):Oks P w0 s o k res:=by
 obtain ⟨d,q,c⟩:=bind_some h;obtain ⟨z,p,a⟩:=bind_some c;clear h c;split at a
 ·rename_i m u;obtain ⟨l,j,f⟩:=bind_some a;obtain ⟨e,n,t⟩:=bind_some f;obtain ⟨r,b,h⟩:=bind_some t;obtain ⟨A,v,b⟩:=bind_some b;obtain rfl:=ae b;exact l9 h rfl fun J θ w=>Pj ((g.get q).ik _ p) (bO v) i (aI u) (Pn j) (Pn n)
 ·cases a
theorem Po (m:TTok P tt) {S D:TypeId} (p:o.op= .convert S D x) (h:Vc tt s k S D x=some res):Oks P w0 s o k res:=by
 obtain ⟨a,Q,C⟩:=bind_some h;obtain ⟨b,O,F⟩:=bind_some C;obtain ⟨E,U,A⟩:=bind_some F;obtain ⟨e,L,H⟩:=bind_some A;obtain ⟨W,h1,G⟩:=bind_some H;obtain ⟨V,M,i⟩:=bind_some G;clear h C F A H G;have w:=(m.get Q).el _ U;have v:=(m.get O).ik _ M;have j:=(m.get L).ik _ h1;split at i
 ·rename_i B f;obtain ⟨r,T,q⟩:=bind_some i;obtain ⟨xs,c,I⟩:=bind_some q;obtain ⟨hp,-⟩:=bU T;refine ⟨_,I,pg hp,aW rfl,fun J θ l=>OpT.weak (xE (ls:=[Ch.own (Ty.sl r.E r.t).rep [hv θ B] r.xs]) (rn:=[]) (gv:=fun _=>[]) (fun _=>trivial) fun X Z n N=>?_) (fact:=(· = .string (nR xs))) (fun u z=>?_) (fun u z=>rfl)⟩
  ·have R:=jF c (n _ _ _ (List.mem_singleton_self _));exact BO w j v R p (aI f)
  ·subst z;exact ⟨Eq.refl true,rfl,fun g K=>by cases K⟩
 ·rename_i B t d f;obtain ⟨xs,c,q⟩:=bind_some i;exact l9 q rfl fun J θ l=>BO w j v (jF c (b7 l f).2) p (aI f)
 ·rename_i f;exact l9 i rfl fun J θ l=>BO (E':=0) (xs:=[]) (h1:=fun _=>rfl) w j v ⟨none,0,rfl,⟨by simp,by simp⟩,.inl rfl⟩ p (aI f)
 ·cases i
end
section
variable {Y:Type} (s:Sg) (k:Res->Option Y)
def acb (T f:Nat) (x y:Operand):Option Y:=match opd s x,opd s y with
 | some (.agg xs),some (.agg ys)=>k ⟨[],[],s.chs,[(⟨s.nxt,[]⟩,.clo f [] [.ptr ⟨s.nxt,[0]⟩ 0,.ptr ⟨s.nxt,[1]⟩ 0]),(⟨s.nxt,[0]⟩,.blk T xs),(⟨s.nxt,[1]⟩,.blk T ys)],.one (.own ⟨s.nxt,[]⟩)⟩
 | _,_=>none
end
section
variable {Y:Type} {s:Sg} {k:Res->Option Y} {P:Program} {w0:World} {o:Oper} {res:Y} {x y:Operand}
theorem SV {J:Hp} {θ:Th} {n:Nat} {chs:List Ent} {h:Hdr} {ver f:Nat} {a:List LV} (h1:h.id<n) (b:ver<n) (e: ∀x∈a,x.ok P w0 J θ n) (d:hv θ h= .func (.func f) #[] (a.map (·.v θ)).toArray):okE P w0 J θ n chs (h,ver,.clo f [] a):=
 ⟨h1,b,fun y c=>(by cases c),e,d⟩
theorem Fv {J:Hp} {θ:Th} {n:Nat} {chs:List Ent} {h:Hdr} {ver T:Nat} {cells:List LV} (h1:h.id<n) (b:ver<n) (a: ∀x∈cells,x.ok P w0 J θ n):okE P w0 J θ n chs (h,ver,.blk T cells):=⟨h1,b,a⟩
set_option maxHeartbeats 2000000 in
theorem Xm {g T f:Nat} (p:ZC P g T f) {ts:Array TypeId} (q:o.op= .call { callee:=.value (.func g),args:= #[x,y],argTypes:=ts }) (h:acb s k T f x y=some res):Oks P w0 s o k res:=by
 unfold acb at h;split at h
 ·rename_i d e n m;refine ⟨_,h,by simp,aW rfl,fun J θ j=>?_⟩;have l: ∀z∈d,z.ok P w0 J θ s.nxt:=b7 j n;have i: ∀z∈e,z.ok P w0 J θ s.nxt:=b7 j m;have r:(#[] :Array Value).toList++(#[x,y] :Array Operand).toList.map (evL (envL θ s))++(#[] :Array Value).toList=(#[.agg (d.map (·.v θ)).toArray,.agg (e.map (·.v θ)).toArray] :Array Value).toList:=by
   simp only[List.map_cons,List.map_nil,List.nil_append,List.append_nil,aI (θ:=θ) n,aI (θ:=θ) m]
   rfl
  refine OpT.weak (qf p.1 q rfl r (p.2 J w0 (d.map (·.v θ)) (e.map (·.v θ)))) (fun v c=>?_) (fun v c=>?_)
  ·obtain ⟨u,t,rfl⟩:=c;refine ⟨⟨aA _,by rw[ep];rfl⟩,ep,fun g b=>?_⟩;rcases aG b with rfl | b
   ·refine SV (aA _) (aA _) (fun z a=>?_) ?_
    ·rcases aG a with rfl | a
     ·exact aA _
     ·obtain rfl:=al a;exact aA _
    ·show hv (upd θ s.nxt _) ⟨s.nxt,[]⟩=_;rw[ep];show Value.func _ _ _=Value.func _ _ #[.pointer (some ⟨bk (vg (upd θ s.nxt _ s.nxt) [0]),0,none⟩),.pointer (some ⟨bk (vg (upd θ s.nxt _ s.nxt) [1]),0,none⟩)];rw[iG]
     rfl
   rcases aG b with rfl | b
   ·exact Fv (aA _) (aA _) fun z a=>LV.ok_same Same.upd (Nat.le_succ _) (l z a) Hp.le.rfl
   ·obtain rfl:=al b;exact Fv (aA _) (aA _) fun z a=>LV.ok_same Same.upd (Nat.le_succ _) (i z a) Hp.le.rfl
  ·show [Ch.emp,Ch.blk (bk (vg v [0])) _ T,Ch.blk (bk (vg v [1])) _ T] = [Ch.emp,Ch.blk (bk (vg (upd θ s.nxt v s.nxt) [0])) (d.map _) T,Ch.blk (bk (vg (upd θ s.nxt v s.nxt) [1])) (e.map _) T];rw[iG,jb Same.upd l,jb Same.upd i]
 ·cases h
end
def Vd (h:Hdr) (s:Sg):Option Sg:=(pull h s.chs).bind fun r=>match r.1.2.2 with
 | .own (.sl E (.bag t)) xs=>some ⟨s.env,(h,s.nxt,.own (.sl E (.fro (.fro (.fro t)))) xs)::r.2,s.nxt+1⟩
 | _=>none
def zm (h:Hdr) (s:Sg):Sg:=match Vd h s with
 | some s'=>s'
 | none=>s
def MS (o:Oper) (s:Sg):Sg:=match o.op with
 | .indexAddr _ x _=>match opd s x with
  | some (.one (.own h))=>zm h s
  | _=>s
 | _=>s
def adM:Chk->Bool
 | .own (.sl _ (.fro (.fro (.fro _)))) _=>true
 | _=>false
def Jj (n:Nat) (e:Ent):Ent:=match e.2.2 with
 | .own (.sl E (.fro (.fro (.fro t)))) xs=>(e.1,n,.own (.sl E (.bag t)) xs)
 | _=>e
def SW (s:Sg):Sg:=match s.chs.any fun e=>adM e.2.2 with
 | true=>⟨s.env,s.chs.map (Jj s.nxt),s.nxt+1⟩
 | false=>s
def Ve (s:Sg):Sg:=SW (tw s)
section
variable {P:Program} {I J:Hp} {w0 w:World} {F:Ch} {n:Nat} {θ:Th} {s s':Sg} {a:Act} {h:Hdr}
theorem HE (hs:Vd h s=some s') (j:Sim P I w0 F n J θ s a w): ∃m,J.le m/\Sim P I w0 F n m θ s' a w/\Fr s θ s' θ:=by
 obtain ⟨r,hr,hs⟩:=bind_some hs;obtain ⟨p,k⟩:=gB hr;obtain ⟨⟨q,Y,c⟩,rest⟩:=r;obtain rfl:q=h:=k;cases c with
 | own y d =>
  cases y with
  | sl E y =>
   cases y with
   | bag t =>
    obtain rfl:=ae (show some _=some s' from hs);have u:=j.fine.chs _ (p.mem_iff.2 (List.mem_cons_self ..));have z:St J w0 w (Ch.own (ay E (NA t.rep)) [hv θ q] d::(rest.map (toCh P θ)++ [F])):=j.st.perm ((p.map (toCh P θ)).append_right [F]);obtain ⟨m,o,B⟩:=z.freeze_els;have l: ∀e,e∈rest->e∈s.chs:=fun e b=>p.mem_iff.2 (bq _ b);have i:Newer s.nxt s.chs ((q,s.nxt,Chk.own (.sl E (.fro (.fro (.fro t)))) d)::rest):=fun e b h' D c f=>by
     rcases aG b with rfl | b
     ·obtain ⟨rfl,f⟩:=f;rcases f with ⟨z,-⟩ | f
      ·exact .inl (Nat.le_of_eq z)
      ·exact f.elim
     ·exact .inr ⟨e,l e b,f⟩
    refine ⟨m,o,⟨j.le.trans o,j.agr,?_,fun e b=>AV.ok_same Same.rfl (Nat.le_succ _) i (j.fine.env e b) o,fun e b=>a8 (j.fine.ver e b),j.fine.nd,fun e b=>?_,j.fine.lay.mono o⟩,Nat.le_succ _,Same.rfl,fun e b _=>b,i⟩
    ·show St m w0 w (Ch.own (ay E (AC (AC (AC t.rep)))) [hv θ q] d::(rest.map (toCh P θ)++ [F]));obtain ⟨b1,L,F0,⟨G,K,rfl,⟨U,C⟩,X⟩,b4,M⟩:=B;refine ⟨b1,L,G++K,⟨G,K,rfl,⟨U,?_⟩,X⟩,b4,M⟩;rcases C with C | ⟨g,v,cap,cur,N,A,T,O,V,Q,W,Z⟩
     ·exact .inl C
     ·exact .inr ⟨g,v,cap,cur,N,A,T,O,V,Q,W,OwnEls.turn (R:=AC t.rep) (S:=AC (AC (AC t.rep))) rfl (fun c x G H=>⟨H.1,H.2⟩) Z⟩
    ·rcases aG b with rfl | b
     ·exact ⟨a8 u.1,aA _,trivial⟩
     ·exact gM Same.rfl (Nat.le_succ _) i (j.fine.chs e (l e b)) o
   | _=>cases hs
  | _=>cases hs
 | _=>cases hs
theorem SX {o:Oper} (b:Sim P I w0 F n J θ s a w): ∃J',J.le J'/\Sim P I w0 F n J' θ (MS o s) a w/\Fr s θ (MS o s) θ:=by
 unfold MS;split
 ·split
  ·unfold zm;split
   ·exact HE ‹_› b
   ·exact ⟨J,Hp.le.rfl,b,Fr.rfl⟩
  ·exact ⟨J,Hp.le.rfl,b,Fr.rfl⟩
 ·exact ⟨J,Hp.le.rfl,b,Fr.rfl⟩
theorem K4 {f g:Ent->Ch} {C:List Ch} : ∀ {l:List Ent} {K:List Nat},(∀e∈l,∀F,(f e).holds J w F->(g e).holds J w F)->Sep J (l.map f++C) w K->Sep J (l.map g++C) w K
 | [],K,_,h=>h
 | e::l,_,hh,⟨G,K',e1,h1,h2⟩=>⟨G,K',e1,hh e (by simp) G h1,K4 (fun e b=>hh e (by simp[b])) h2⟩
theorem MT {n:Nat} {e:Ent} {h:Hdr} {ver:Nat} {c:Chk} (k:Says (Jj n e) h ver c):ver=n\/Says e h ver c:=by
 unfold Jj at k;split at k
 ·obtain ⟨rfl,k⟩:=k;rcases k with ⟨b,-⟩ | k
  ·exact .inl b.symm
  ·exact k.elim
 ·exact .inr k
theorem SY (f:Sim P I w0 F n J θ s a w):Sim P I w0 F n J θ (SW s) a w/\Fr s θ (SW s) θ:=by
 unfold SW;split
 ·have b:Newer s.nxt s.chs (s.chs.map (Jj s.nxt)):=fun e d h i c o=>by
   obtain ⟨j,l,rfl⟩:=List.mem_map.1 d;rcases MT o with rfl | o
   ·exact .inl (aH _)
   ·exact .inr ⟨j,l,o⟩
  refine ⟨⟨f.le,f.agr,?_,fun e d=>AV.ok_same Same.rfl (Nat.le_succ _) b (f.fine.env e d) Hp.le.rfl,fun e d=>a8 (f.fine.ver e d),f.fine.nd,fun e d=>?_,f.fine.lay⟩,Nat.le_succ _,Same.rfl,fun e d _=>d,b⟩
  ·obtain ⟨N,M,K,Q,V,A⟩:=f.st;refine ⟨N,M,K,?_,V,A⟩;rw[List.map_map];refine K4 (fun e d G v=>?_) Q;show (toCh P θ (Jj s.nxt e)).holds J w G;obtain ⟨q,i,c⟩:=e;unfold Jj;split
   ·rename_i E t p U;obtain rfl:c= .own (.sl E (.fro (.fro (.fro t)))) p:=U;obtain ⟨H,u⟩:=(show (ay E (AC (AC (AC t.rep)))).own J w [hv θ q] p G from v);refine (show (ay E (NA t.rep)).own J w [hv θ q] p G from ⟨H,?_⟩);rcases u with u | ⟨g,m,cap,cur,z,r,D,B,L,C,O,T⟩
    ·exact .inl u
    ·exact .inr ⟨g,m,cap,cur,z,r,D,B,L,C,O,OwnEls.turn (R:=AC (AC (AC t.rep))) (S:=NA t.rep) rfl (fun c x G y=>by rw[y.1];exact UL y.2) T⟩
   ·exact v
  ·obtain ⟨j,l,rfl⟩:=List.mem_map.1 d;have k:=f.fine.chs j l
   have:=gM Same.rfl (Nat.le_succ _) b k (J':=J) Hp.le.rfl
   obtain ⟨q,i,c⟩:=j;unfold Jj;split
   ·exact ⟨this.1,aA _,trivial⟩
   ·exact this
 ·exact ⟨f,Fr.rfl⟩
theorem Pp (d:Sim P I w0 F n J θ s a w): ∃θ',Sim P I w0 F n J θ' (Ve s) a w/\Fr s θ (Ve s) θ':=by
 obtain ⟨θ',f,b⟩:=AY d;obtain ⟨e,c⟩:=SY f;exact ⟨θ',e,b.trans c⟩
end
section
variable {Y:Type} (ft:FT) (s:Sg) (k:Res->Option Y)
def Pq (ns:List Int):List LV:=ns.map fun n=>.val (.int .i64 n)
def adg (T:Nat) (g:FuncId) (x:Operand):Option Y:=(fs ft g).bind fun f=>(opd s x).bind fun v=>(eE ft s s.chs f.ps [v]).bind fun a=>b8 (a.lent.isEmpty&&a.own.isEmpty) <|
 (appP f.ps f.m a.d).bind fun r=>(WW (f.rs++outs f.ps) (toH _ r)).bind fun ns=>match opd s x with
 | some (.one lv)=>k ⟨[],[],s.chs,[(⟨s.nxt,[]⟩,.blk T (lv::Pq ns))],.one (.ptr ⟨s.nxt,[]⟩ 0)⟩
 | _=>none
end
section
variable {Y:Type} {ft:FT} {s:Sg} {k:Res->Option Y} {P:Program} {w0:World} {o:Oper} {res:Y} {x:Operand}
theorem SZ {J:Hp} {θ:Th} {n:Nat} {ns:List Int} : ∀z∈Pq ns,z.ok P w0 J θ n:=fun z a=>by
 obtain ⟨m,b,rfl⟩:=List.mem_map.1 a;exact Eq.refl true
theorem Xn {θ:Th} {ns:List Int} :(Pq ns).map (·.v θ)=ns.map (Value.int .i64):=by
 unfold Pq;rw[List.map_map];rfl
theorem Xo {T:Nat} {g:FuncId} (O:FTok P ft) (C: ∀f,fs ft g=some f->NewOk P g T f) {ts:Array TypeId} (F:o.op= .call { callee:=.value (.func g),args:= #[x],argTypes:=ts }) (h:adg ft s k T g x=some res):Oks P w0 s o k res:=by
 obtain ⟨f,d,h⟩:=bind_some h;obtain ⟨K,j,h⟩:=bind_some h;obtain ⟨a,L,h⟩:=bind_some h;obtain ⟨B,h⟩:=ai h;rw[ak] at B;have w:a.lent= []:=List.isEmpty_iff.1 B.1;have D:a.own= []:=List.isEmpty_iff.1 B.2;obtain ⟨r,N,h⟩:=bind_some h;obtain ⟨l,q,h⟩:=bind_some h;split at h
 ·rename_i c A;refine ⟨_,h,by simp,aW rfl,fun J θ p=>?_⟩;have t:c.ok P w0 J θ s.nxt:=b7 p A;obtain rfl:K= .one c:=ae (j.symm.trans A);obtain ⟨n,-,-⟩:=gT (J':=J) O p Hp.le.rfl L (fun y G=>by obtain rfl:=al G;exact t) (fun e I=>I) (by rw[w];exact fun h M=>by cases M) (ghV θ a.gh) DT;have m:evL (envL θ s) x=c.v θ:=aI (θ:=θ) A;have n:PArgs P w0 J (ghV θ a.gh) f.ps [c.v θ] a.d:=n;have H:(#[] :Array Value).toList++(#[x] :Array Operand).toList.map (evL (envL θ s))++(#[] :Array Value).toList=([c.v θ] :List Value).toArray.toList:=by
   simp only[List.map_cons,List.map_nil,List.nil_append,List.append_nil,m]
  refine OpT.weak (qf (C f d).1 F rfl H ((C f d).2 w0 J (ghV θ a.gh) [c.v θ] a.d r l p.lay n N q)) (fun v i=>?_) (fun v i=>?_)
  ·obtain ⟨b,rfl⟩:=i;refine ⟨aA _,by show Value.pointer (some ⟨bk (hv _ ⟨s.nxt,[]⟩),0,none⟩)=_;rw[ep];rfl,fun g E=>?_⟩;obtain rfl:=al E;refine Fv (aA _) (aA _) fun z u=>?_;rcases aG u with rfl | u
   ·exact LV.ok_same Same.upd (Nat.le_succ _) t Hp.le.rfl
   ·exact SZ z u
  ·show [Ch.blk (bk v) ([c.v θ] ++l.map (Value.int .i64)) T] = [Ch.blk (bk (hv (upd θ s.nxt v) ⟨s.nxt,[]⟩)) ((c::Pq l).map (·.v (upd θ s.nxt v))) T];rw[ep,List.map_cons,Xn,LV.v_same Same.upd t];rfl
 ·cases h
end
structure Mp where
 ver:Nat
 md:MD
 m:List (md.k.den×md.e.den)
 rest:List Ent
def MD.ck (d:MD) (m:List (d.k.den×d.e.den)):Chk:=.map d.K d.E d.k d.e m
def abx (h:Hdr) (chs:List Ent):Option Mp:=(pull h chs).bind fun r=>match r.1.2.2 with
 | .map K E k e m=>some ⟨r.1.2.1,⟨K,E,k,e⟩,m,r.2⟩
 | _=>none
def Mp.ent (r:Mp) (h:Hdr):Ent:=(h,r.ver,r.md.ck r.m)
theorem Jk {h:Hdr} {chs:List Ent} {r:Mp} (e:abx h chs=some r):chs.Perm (r.ent h::r.rest):=by
 obtain ⟨q,d,e⟩:=bind_some e;obtain ⟨p,k⟩:=gB d;obtain ⟨⟨a,b,c⟩,rest⟩:=q;obtain rfl:a=h:=k;cases c with
 | map K E k f m =>
  obtain rfl:=ae (show some _=some r from e);exact p
 | _=>cases e
def MK.beq:MK->MK->Bool
 | .int,.int=>true
 | .ii,.ii=>true
 | _,_=>false
def ME.beq:ME->ME->Bool
 | .int,.int=>true
 | .bool,.bool=>true
 | _,_=>false
def MD.beq (a b:MD):Bool:=Nat.beq a.K b.K&&Nat.beq a.E b.E&&MK.beq a.k b.k&&ME.beq a.e b.e
theorem MD.beq_eq {a b:MD} (h:MD.beq a b=true):a=b:=by
 obtain ⟨K,E,k,e⟩:=a;obtain ⟨j,f,d,c⟩:=b;unfold MD.beq at h;simp only[ak] at h;obtain ⟨⟨⟨i,g⟩,l⟩,m⟩:=h;obtain rfl:K=j:=au i;obtain rfl:E=f:=au g;obtain rfl:k=d:=by cases k <;> cases d <;> first | rfl | cases l
 obtain rfl:e=c:=by cases e <;> cases c <;> first | rfl | cases m
 rfl
def S4:(k:MK)->AV->Option k.den
 | .int,.one (.val (.int .i64 n))=>some n
 | .ii,.agg [.val (.int .i64 a),.val (.int .i64 b)] =>some (a,b)
 | _,_=>none
theorem Fw {k:MK} {v:AV} {d:k.den} (h:S4 k v=some d) (θ:Th):v.v θ=k.val d:=by
 unfold S4 at h;split at h
 ·rw[<-ae h];rfl
 ·rw[<-ae h];rfl
 ·cases h
def Xp:(e:ME)->AV->Option e.den
 | .int,.one (.val (.int .i64 n))=>some n
 | .bool,.one (.val (.bool b))=>some b
 | .bool,.one (.nb b)=>some (!b)
 | _,_=>none
theorem S5 {e:ME} {v:AV} {d:e.den} (h:Xp e v=some d) (θ:Th):v.v θ=e.val d:=by
 unfold Xp at h;split at h
 ·rw[<-ae h];rfl
 ·rw[<-ae h];rfl
 ·rw[<-ae h];rfl
 ·cases h
theorem ME.val_one (e:ME) (d:e.den):(e.val d).oneCell'=true:=by cases e <;> rfl
section
variable {Y:Type} (tt:TT) (s:Sg) (k:Res->Option Y)
def adh (T:TypeId):Option Y:=(td tt T).bind fun d=>d.mp.bind fun md=>k ⟨[],[],s.chs,[(⟨s.nxt,[]⟩,md.ck [])],.one (.own ⟨s.nxt,[]⟩)⟩
def Xq (T:TypeId) (m x y:Operand):Option Y:=(td tt T).bind fun d=>d.mp.bind fun md=>match opd s m with
 | some (.one (.own h))=>(abx h s.chs).bind fun r=>b8 (MD.beq md r.md) ((opd s x).bind fun kv=>(S4 r.md.k kv).bind fun q=>(opd s y).bind fun ev=>(Xp r.md.e ev).bind fun i =>
  (@RB r.md.k.den r.md.e.den r.m r.md.k.ok r.md.e.ok q i).bind fun M=>k ⟨[],[r.ent h],r.rest,[(h,r.md.ck M)],.any ⟨s.nxt,[]⟩⟩)
 | _=>none
def Vf (T:TypeId) (m x:Operand) (two:Bool):Option Y:=(td tt T).bind fun d=>d.mp.bind fun md=>match opd s m with
 | some (.one (.own h))=>(abx h s.chs).bind fun r=>b8 (MD.beq md r.md) ((opd s x).bind fun kv=>(S4 r.md.k kv).bind fun q =>
  abn false (r.md.k.ok q=true) (instDecidableEqBool _ _) (match two with
   | true=>k ⟨[r.ent h],[],r.rest,[],.tup [(false,[.val (r.md.e.val ((@lkM r.md.k.den r.md.e.den r.md.k.dec r.m q).getD r.md.e.z))]),(false,[.val (.bool (@lkM r.md.k.den r.md.e.den r.md.k.dec r.m q).isSome)])]⟩
   | false=>k ⟨[r.ent h],[],r.rest,[],.one (.val (r.md.e.val ((@lkM r.md.k.den r.md.e.den r.md.k.dec r.m q).getD r.md.e.z)))⟩))
 | _=>none
end
section
variable {Y:Type} {tt:TT} {s:Sg} {k:Res->Option Y} {P:Program} {w0:World} {o:Oper} {res:Y} {m x y:Operand}
theorem Ps {θ:Th} {h:Hdr} {ver:Nat} {a:MD} {M:List (a.k.den×a.e.den)} :toCh P θ (h,ver,a.ck M)= @Ch.mp P a.K a.E a.k.den a.e.den a.k.dec a.k.lit a.k.ok a.e.lit a.e.z (hv θ h) M:=rfl
theorem ZS {I:Hp} {w:World} {C:List Ch} {K E:TypeId} {κ ε:Type} [DecidableEq κ] {lit:κ->Lit} {c:κ->Bool} {a:ε->Lit} {z:ε} {v:Value} {M:List (κ×ε)} (h:St I w0 w (Ch.mp P K E lit c a z v M::C)):v.oneCell'=true:=by
 obtain ⟨i,g,F,⟨G,f,rfl,⟨b,rfl,rfl,j⟩,e⟩,l,d⟩:=h
 rfl
theorem Xr (n:TTok P tt) {T:TypeId} (e:o.op= .makeMap T none) (h:adh tt s k T=some res):Oks P w0 s o k res:=by
 obtain ⟨d,p,h⟩:=bind_some h;obtain ⟨a,q,h⟩:=bind_some h;refine ⟨_,h,by simp,aW rfl,fun J θ l=>?_⟩;have i:= @IQ P J w0 o (evL (envL θ s)) a.k.den a.e.den a.k.dec a.k.lit a.k.ok a.e.lit a.e.z T a.K a.E e;intro w C f;refine (i w C f).imp fun v j hv=>?_;have b:=letI:=a.k.dec;ZS hv.2;refine ⟨⟨⟨aA _,by rw[ep];exact b⟩,ep,fun g c=>?_⟩,?_⟩
 ·obtain rfl:=al c;exact ⟨aA _,aA _,trivial⟩
 ·show St J w0 j ([toCh P (upd θ s.nxt v) (⟨s.nxt,[]⟩,s.nxt,a.ck [])] ++C);rw[Ps,ep];exact hv.2
theorem K5 (v:TTok P tt) {T:TypeId} (w:o.op= .mapUpdate T m x y\/o.op= .insert T m x y) (h:Xq tt s k T m x y=some res):Oks P w0 s o k res:=by
 obtain ⟨d,E,h⟩:=bind_some h;obtain ⟨I,G,h⟩:=bind_some h;split at h
 ·rename_i b F;obtain ⟨r,D,h⟩:=bind_some h;obtain ⟨A,h⟩:=ai h;obtain ⟨kv,H,h⟩:=bind_some h;obtain ⟨q,C,h⟩:=bind_some h;obtain ⟨ev,c,h⟩:=bind_some h;obtain ⟨i,n,h⟩:=bind_some h;obtain ⟨M,z,h⟩:=bind_some h;have hp:=Jk D;obtain ⟨e,j,f⟩:=(v.get E).mp _ G;rw[MD.beq_eq A] at e j f;refine ⟨_,h,Dg hp,aW rfl,fun J θ p=>?_⟩;have a:=lP p hp;have B:= @Mh P J w0 o (evL (envL θ s)) r.md.k.den r.md.e.den r.md.k.dec r.md.k.lit r.md.k.val r.md.k.ok r.md.e.val r.md.e.lit r.md.e.ok r.md.e.z T r.md.K r.md.E m x y (hv θ b) q i r.m M j f e w (aI F) ((aI H).trans (Fw C θ)) ((aI c).trans (S5 n θ)) z;refine OpT.weak B (fun u l=>⟨aA _,ep,fun g t=>?_⟩) (fun u l=>?_)
  ·obtain rfl:=al t;exact ⟨a8 a.1,aA _,trivial⟩
  ·show [_] = [toCh P (upd θ s.nxt u) (b,s.nxt,r.md.ck M)];rw[Ps,show hv (upd θ s.nxt u) b=hv θ b from bc Same.upd a.1]
 ·cases h
theorem Pt (C:TTok P tt) {T:TypeId} {two:Bool} (n:o.op= .lookup T m x two) (h:Vf tt s k T m x two=some res):Oks P w0 s o k res:=by
 obtain ⟨d,F,h⟩:=bind_some h;obtain ⟨H,G,h⟩:=bind_some h;split at h
 ·rename_i t w;obtain ⟨r,E,h⟩:=bind_some h;obtain ⟨D,h⟩:=ai h;obtain ⟨kv,A,h⟩:=bind_some h;obtain ⟨q,v,h⟩:=bind_some h;obtain ⟨c,h⟩:=IU h;have hp:=Jk E;obtain ⟨e,l,f⟩:=(C.get F).mp _ G;rw[MD.beq_eq D] at e l f;cases two with
  | true =>
   refine ⟨_,h,pg hp,fun _ _ _ g a=>(by cases a),fun J θ B=>?_⟩;have j:= @IR P J w0 o (evL (envL θ s)) r.md.k.den r.md.e.den r.md.k.dec r.md.k.lit r.md.k.val r.md.k.ok r.md.e.val r.md.e.lit r.md.e.ok r.md.e.z T r.md.K r.md.E m x (hv θ t) q r.m l f c e n (aI w) ((aI A).trans (Fw v θ));refine OpT.weak j (fun u b=>⟨fun y i z p=>?_,?_,fun g a=>by cases a⟩) (fun u b=>rfl)
   ·rcases aG i with rfl | i
    ·obtain rfl:=al p;exact ME.val_one _ _
    ·obtain rfl:=al i;obtain rfl:=al p;exact Eq.refl true
   ·rw[b];rfl
  | false =>
   refine ⟨_,h,pg hp,fun _ _ _ g a=>(by cases a),fun J θ B=>?_⟩;have j:= @GT P J w0 o (evL (envL θ s)) r.md.k.den r.md.e.den r.md.k.dec r.md.k.lit r.md.k.val r.md.k.ok r.md.e.val r.md.e.lit r.md.e.ok r.md.e.z T r.md.K r.md.E m x (hv θ t) q r.m l f c e n (aI w) ((aI A).trans (Fw v θ));refine OpT.weak j (fun u b=>⟨ME.val_one _ _,?_,fun g a=>by cases a⟩) (fun u b=>rfl);rw[b];rfl
 ·cases h
end
structure Env where
 tt:TT
 ft:FT
 an:List (Nat×Ty)
 n:Nat
 tr:Trs
section
variable {Y:Type} (V:Env) (s:Sg) (k:Res->Option Y)
def D2 (d:Nat):List (Nat×Ty)->Bool
 | [] =>false
 | (u,_)::l=>Nat.beq u d || D2 d l
def acd (d:Nat):List (Nat×Ty)->Bool
 | [] =>false
 | (u,.raw)::l=>Nat.beq u d || acd d l
 | _::l=>acd d l
def ace (d:Option Nat) (an:List (Nat×Ty)):Bool:=match d with
 | some d=>acd d an
 | none=>false
def acf (d:Nat):List (Nat×Ty)->Bool
 | [] =>false
 | (u,.str)::l=>Nat.beq u d || acf d l
 | _::l=>acf d l
def acg (d:Option Nat) (an:List (Nat×Ty)):Bool:=match d with
 | some d=>acf d an
 | none=>false
def ZT (d:Option Nat) (an:List (Nat×Ty)):Bool:=match d with
 | some d=>D2 d an
 | none=>false
def Xs (dst:Option Nat) (c:Call):Option Y:=match c.callee,c.args.toList,c.argTypes.toList with
 | .builtin .len,[x],[T] =>match opd s x with
  | some (.one (.own _))=>Zy V.tt s k T x
  | some (.vw _ _ _ _ _ _)=>Xd V.tt s k T x
  | some (.xv _ _ _ _ _ _ _)=>Xd V.tt s k T x
  | _=>sLen V.tt s k T x
 | .builtin .append,[x,y],[T,U] =>match Nat.beq T U with
  | true=>(match opd s x with
   | some (.vw _ _ _ _ _ _)=>ZL V.tt s k T x y
   | _=>(match opd s y with
    | some (.sub _ _ _ _ _ _)=>Xi V.tt s k T x y
    | some (.pre _ _ _ _ _ _)=>Xi V.tt s k T x y
    | _=>adb V.tt V.an s k dst T x y))
  | false=>ZM V.tt s k T U x y
 | .builtin .clear,[x],[T] =>Pa V.tt s k T x
 | .builtin .copy,[x,y],[T,_] =>match opd s x with
  | some (.vw _ _ _ _ _ _)=>Pf V.tt s k T x y
  | some (.xv _ _ _ _ _ _ _)=>Pf V.tt s k T x y
  | _=>ZG V.tt s k T x y
 | .builtin .min,[x,y],[_,_] =>ab5 s k x y
 | .builtin .max,[x,y],[_,_] =>ab6 s k x y
 | .value (.func g),xs,_=>match (fs V.ft g).bind (·.cl) with
  | some q=>match Nat.beq q.2 7,xs with
   | true,xs=>U2 V.ft s k g xs
   | false,[x] =>(match Nat.beq q.2 9 with
    | true=>adg V.ft s k q.1 g x
    | false=>b8 (!Nat.beq q.2 0 && !Nat.ble 1000 q.2) (OT s k q.1 q.2 x))
   | false,[x,y] =>(match Nat.ble 1000 q.2 with
    | true=>acb s k q.1 (q.2 - 1000) x y
    | false=>b8 (Nat.beq q.2 0) (Xh s k x y))
   | _,_=>none
  | none=>U1 V.ft s k g xs
 | .value (.tmp t),xs,_=>match KM V.ft s t xs.length with
  | some c=>U3 V.ft s k c xs
  | none=>OB V.ft s k t xs
 | _,_,_=>none
def step (o:Oper):Option Y:=match o.op with
  | .move x=>WL s k x
  | .assign x=>WL s k x
  | .pick c x y=>Zv s k c x y
  | .unOp .not _ x=>abZ s k x
  | .unOp .neg _ x=>ab0 s k x
  | .binOp b t x y _=>match opd s y with
   | some (.capv _ _)=>Xg s k b x y
   | _=>match opd s x with
    | some (.one (.rd _ (.tree _ _ _) _))=>ab7 V.tt s k b t x y
    | some (.one (.ptr _ _))=>ab7 V.tt s k b t x y
    | some (.one (.rdn _ _ _ _))=>abu V.tt s k b t x y
    | some (.one (.own _))=>abu V.tt s k b t x y
    | some (.one (.val (.slice _ _ _)))=>abu V.tt s k b t x y
    | some (.one (.val (.string _)))=>Xl V.tt s k b t x y
    | _=>abo V.tt s k b t x y
  | .index T x i=>ZR V.tt s k T x i
  | .extract x i=>E3 s k x i
  | .indexAddr T x i=>match opd s x with
    | some (.one (.own h))=>(match I0 h s.chs with
      | some _=>Ph V.tt s k T x i
      | none=>Od V.tt s k T x i)
    | some (.vw _ _ _ _ _ _)=>Jg V.tt s k T x i
    | some (.xv _ _ _ _ _ _ _)=>Jg V.tt s k T x i
    | _=>N7 V.tt s k T x i
  | .fieldAddr T x f=>match opd s x with
    | some (.one (.fz _ _ _ _ _))=>I7 V.tt s k T x f
    | some (.one (.rd _ (.tree _ _ _) _))=>ON V.tt s k T x f
    | _=>UR V.tt s k T x f
  | .load T x=>match opd s x with
    | some (.elr _ _ _ _ _ _ _)=>US V.tt s k T x
    | some (.elo _ _ _ _ _ _ _ _)=>UV V.tt s k T x
    | some (.one (.fz _ _ _ _ _))=>KR V.tt s k T x
    | some (.one (.fzf _ _ _ _ _))=>KR V.tt s k T x
    | _=>UU V.tt s k T x
  | .store T x y=>match opd s x with
    | some (.elo h _ _ _ _ _ _ _)=>match I0 h s.chs with
      | some _=>Ol V.tt s k T x y
      | none=>Oe V.tt s k T x y
    | _=>Oc V.tt s k T x y
  | .nilCheck x=>W7 s k x
  | .slice T x (some lo) (some hi) (some mx)=>O9 V.tt s k T x lo hi mx
  | .slice T x lo hi none=>match opd s x with
    | some (.vw _ _ _ _ _ _)=>Fp V.tt s k T x lo hi
    | some (.xv _ _ _ _ _ _ _)=>Fp V.tt s k T x lo hi
    | some (.one (.own _))=>match ace o.dst V.an with
     | true=>Fp V.tt s k T x lo hi
     | false=>match acg o.dst V.an with
      | true=>(match lo,hi with
        | none,some hi=>Pe V.tt s k T x hi
        | _,_=>none)
      | false=>match lo with
      | some _=>match ZT o.dst V.an with
        | true=>OQ V.tt s k T x lo hi
        | false=>OR V.tt s k T x lo hi
      | none=>match ZT o.dst V.an with
        | true=>OS V.tt s k T x lo hi
        | false=>OP V.tt s k T x lo hi
    | some (.one (.val (.string _)))=>Pm V.tt s k T x lo hi
    | _=>OO V.tt s k T x lo hi
  | .box T x=>ac8 s k T x
  | .alloc T=>UT V.tt s k T
  | .build T parts=>UX V.tt s k T parts
  | .buildSlice T m parts=>ada V.tt V.an s k o.dst T m parts
  | .makeSlice T x y=>Zz V.tt V.an s k o.dst T x y
  | .call c=>Xs V s k o.dst c
  | .makeFunc f x y=>U4 s k f x y
  | .makeMap T none=>adh V.tt s k T
  | .convert S D x=>match opd s x with
    | some (.one (.val (.int _ _)))=>Zw V.tt s k S D x
    | _=>Vc V.tt s k S D x
  | .mapUpdate T m x y=>Xq V.tt s k T m x y
  | .insert T m x y=>Xq V.tt s k T m x y
  | .lookup T m x two=>Vf V.tt s k T m x two
  | _=>none
end
section
variable {Y:Type} {V:Env} {s:Sg} {k:Res->Option Y} {P:Program} {w0:World} {o:Oper} {res:Y}
theorem ZU {α:Type} {a:Array α} {x:α} (h:a.toList= [x]):a= #[x]:=Array.ext' h
theorem S6 {α:Type} {a:Array α} {x y:α} (h:a.toList= [x,y]):a= #[x,y]:=Array.ext' h
theorem S7 (i:TTok P V.tt) (m:FTok P V.ft) {c:Call} (a:o.op= .call c) (h:Xs V s k o.dst c=some res):Oks P w0 s o k res:=by
 obtain ⟨b,args,e⟩:=c;unfold Xs at h;split at h
 ·rename_i x T d j l;obtain rfl:b= .builtin .len:=d;obtain rfl:args= #[x]:=ZU j;obtain rfl:e= #[T]:=ZU l;split at h
  ·exact R8 i a h
  ·exact KW i a h
  ·exact KW i a h
  ·exact WO i a h
 ·rename_i x y T U d j l;obtain rfl:b= .builtin .append:=d;obtain rfl:args= #[x,y]:=S6 j;obtain rfl:e= #[T,U]:=S6 l;split at h
  ·rename_i B;obtain rfl:T=U:=au B;split at h
   ·exact SF i a h
   ·split at h
    ·exact K0 i a h
    ·exact K0 i a h
    ·exact WV i a h
  ·exact SN i a h
 ·rename_i x T d j l;obtain rfl:b= .builtin .clear:=d;obtain rfl:args= #[x]:=ZU j;obtain rfl:e= #[T]:=ZU l;exact ML i a h
 ·rename_i x y T U d j l;obtain rfl:b= .builtin .copy:=d;obtain rfl:args= #[x,y]:=S6 j;obtain rfl:e= #[T,U]:=S6 l;split at h
  ·exact HB i a h
  ·exact HB i a h
  ·exact Sw i a h
 ·rename_i x y T U d j l;obtain rfl:b= .builtin .min:=d;obtain rfl:args= #[x,y]:=S6 j;obtain rfl:e= #[T,U]:=S6 l;exact W8 a h
 ·rename_i x y T U d j l;obtain rfl:b= .builtin .max:=d;obtain rfl:args= #[x,y]:=S6 j;obtain rfl:e= #[T,U]:=S6 l;exact W9 a h
 ·rename_i g d;obtain rfl:b= .value (.func g):=d;split at h
  ·rename_i q u;obtain ⟨f,p,u⟩:=bind_some u;split at h
   ·rename_i n;exact OH m (fun w r=>by
     obtain rfl:f=w:=ae (p.symm.trans r);exact ((m.get p).cl q u).2.1 n) a h
   ·rename_i x A z;obtain rfl:args= #[x]:=ZU z;split at h
    ·rename_i v;exact Xo m (fun w r=>by
      obtain rfl:f=w:=ae (p.symm.trans r);exact ((m.get p).cl q u).2.2 v) a h
    ·rename_i v;obtain ⟨n,C⟩:=ai h;rw[ak] at n;exact OY (((m.get p).cl q u).1.2.1 (by simpa using n.1) A (by simpa using n.2) v) a C
   ·rename_i x y A z;obtain rfl:args= #[x,y]:=S6 z;split at h
    ·rename_i n;exact Xm (((m.get p).cl q u).1.2.2 n) a h
    ·obtain ⟨n,v⟩:=ai h;exact SO (((m.get p).cl q u).1.1 n) a v
   ·cases h
  ·exact OF m a h
 ·rename_i t d;obtain rfl:b= .value (.tmp t):=d;split at h
  ·exact OG m ‹_› a h
  ·exact OI m a h
 ·cases h
theorem Pu (a:TTok P V.tt) (c:FTok P V.ft) (h:step V s k o=some res):Oks P w0 s o k res:=by
 unfold step at h;split at h
 ·exact Kw (.inl ‹_›) h
 ·exact Kw (.inr ‹_›) h
 ·exact R5 ‹_› h
 ·exact WM ‹_› h
 ·exact WN ‹_› h
 ·have b:= ‹o.op=_›;split at h
  ·exact SM b h
  ·split at h
   ·exact OU a b h
   ·exact OU a b h
   ·exact Ja a b h
   ·exact Ja a b h
   ·exact Ja a b h
   ·exact SS a b h
   ·exact N8 a b h
 ·exact SU a ‹_› h
 ·exact IV ‹_› h
 ·have b:= ‹o.op=_›;split at h
  ·split at h
   ·exact MQ a b h
   ·exact Mo a b h
  ·exact D0 a b h
  ·exact D0 a b h
  ·exact Ml a b h
 ·have b:= ‹o.op=_›;split at h
  ·exact Mx a b h
  ·exact My a b h
  ·exact N9 a b h
 ·have b:= ‹o.op=_›;split at h
  ·exact Oa a b h
  ·exact Oi a b h
  ·exact Hq a b h
  ·exact Hq a b h
  ·exact Oh a b h
 ·have b:= ‹o.op=_›;split at h
  ·split at h
   ·exact Mt a b h
   ·exact Mq a b h
  ·exact Mn a b h
 ·exact Ss ‹_› h
 ·exact MJ a ‹_› h
 ·have b:= ‹o.op=_›;split at h
  ·exact zh a b h
  ·exact zh a b h
  ·split at h
   ·exact zh a b h
   ·split at h
    ·split at h
     ·exact MP a b h
     ·cases h
    ·split at h
     ·split at h
      ·exact MB a b h
      ·exact MC a b h
     ·split at h
      ·exact MF a b h
      ·exact MA a b h
  ·exact MR a b h
  ·exact Mz a b h
 ·exact WQ ‹_› h
 ·exact Of a ‹_› h
 ·exact Oj a ‹_› h
 ·exact WU a ‹_› h
 ·exact Sa a ‹_› h
 ·exact S7 a c ‹_› h
 ·exact OJ ‹_› h
 ·exact Xr a ‹_› h
 ·have b:= ‹o.op=_›;split at h
  ·exact R6 a b h
  ·exact Po a b h
 ·exact K5 a (.inl ‹_›) h
 ·exact K5 a (.inr ‹_›) h
 ·exact Pt a ‹_› h
 ·cases h
end
inductive Gd
 | no | skip | bad
 | yes (t:Nat) (b neg want:Bool)
def guardOf (ops:List Oper) (s:Sg) (o:Oper):Gd:=match o.guard with
 | none=>.no
 | some (g,want)=>match ops[g]? with
  | some p=>match p.dst with
   | some t=>match look s.env t with
    | some (.one (.val (.bool b)))=>.yes t b false want
    | some (.one (.nb b))=>.yes t b true want
    | some .und=>.skip
    | _=>.bad
   | none=>.bad
  | none=>.bad
def Jl (s:Sg) (t:Nat) (b:Bool):Sg:=⟨(t,s.nxt,.one (.val (.bool b)))::s.env,s.chs,s.nxt+1⟩
def BP:AV->List Hdr
 | .one (.own h)=>[h]
 | .agg xs=>xs.flatMap fun x=>match x with | .own h=>[h] | _=>[]
 | .elo h _ _ _ _ _ _ _=>[h]
 | _=>[]
def xM:List Hdr->Sg->Sg
 | [],s=>s
 | h::hs,s=>xM hs (settle 4 h s)
def D3 (s:Sg):List Operand->List Hdr
 | [] =>[]
 | x::xs=>(match opd s x with | some v=>BP v | none=>[])++D3 s xs
def ach (o:Oper):List Operand:=match o.op with
 | .store _ _ y=>[y]
 | .build _ parts=>parts.toList.map (·.2)
 | .buildSlice _ _ parts=>parts.toList.map (·.2)
 | .call c=>c.args.toList
 | .box _ x=>[x]
 | .binOp _ _ x _ _=>[x]
 | .nilCheck x=>[x]
 | _=>[]
def adi (o:Bool):AV->List (Bool×Hdr)
 | .one (.own h)=>[(false,h)]
 | .one (.ptr h off)=>if o&&Nat.beq off 0 then [(true,h)] else []
 | .agg xs=>xs.flatMap fun x=>match x with | .own h=>[(false,h)] | .ptr h off=>if o&&Nat.beq off 0 then [(true,h)] else [] | _=>[]
 | _=>[]
def adj (s:Sg) (o:Bool):List Operand->List (Bool×Hdr)
 | [] =>[]
 | x::xs=>(match opd s x with | some v=>adi o v | none=>[])++adj s o xs
def keeps (o:Oper):Bool:=match o.op with
 | .binOp _ _ _ _ _=>false
 | .nilCheck _=>false
 | _=>true
def Pv:List LV->List (Bool×Hdr)
 | [] =>[]
 | .own h::l=>(false,h)::Pv l
 | _::l=>Pv l
def ldH (s:Sg) (o:Oper):List (Bool×Hdr):=match o.op with
 | .load _ x=>match opd s x with
  | some (.one (.ptr h _))=>match rW h s.chs with
   | some b=>Pv b.cells
   | none=>[]
  | _=>[]
 | _=>[]
def Xt:Trs->Bool
 | [] =>false
 | q::l=>Nat.beq q.2.1 0 || Xt l
def ldF (tr:Trs) (s:Sg) (o:Oper):List (Bool×Hdr):=match Xt tr with
 | true=>ldH s o
 | false=>[]
def Pw:Trs->Trs
 | [] =>[]
 | q::l=>match Nat.beq q.2.1 0 with
  | true=>Pw l
  | false=>q::Pw l
def aci (s:Sg) (o:Oper):Bool:=match o.op with
 | .store _ x _=>match opd s x with
  | some (.one (.ptr _ _))=>true
  | _=>false
 | .call c=>match c.callee with
  | .value _=>false
  | _=>true
 | _=>false
def adk (tr:Trs) (s:Sg) (o:Oper):List (Bool×Hdr):=match Xt tr&&aci s o with
 | true=>[]
 | false=>adj s (keeps o) (ach o)
def Px:Trs->Trs
 | [] =>[]
 | q::l=>match q.2.2 with
  | .str=>Px l
  | _=>q::Px l
def S8 (tr:Trs) (o:Oper) (s:Sg):Sg:=match tr with
 | [] =>s
 | _=>SA (Px tr) (adk (Px tr) s o) s
def aby (tr:Trs) (o:Oper) (s0:Sg):Sg:=match tw s0 with
 | s=>S8 tr o (MS o (xM (D3 s o.op.operands.toList) s))
section
variable {Y:Type} (V:Env) (all:List Oper) (k:Sg->Option Y)
noncomputable def S9 (kont:Sg->Option Y) (o:Oper) (s:Sg):Option Y:=match guardOf all s o with
 | .bad=>none
 | .no=>b8 (okO V.n s o) (match Xf V.tt s o with
  | some q=>KY q.2.xs.length fun c=>kont (after s o.dst (Va q c))
  | none=>step V s (fun r=>kont (after s o.dst r)) o)
 | .skip=>b8 (dstOk V.n o.dst) (kont (skip s o.dst))
 | .yes t b neg want=>if b then (match (!neg)==want with
   | true=>b8 (okO V.n (Jl s t (!neg)) o) (step V (Jl s t (!neg)) (fun r=>kont (after (Jl s t (!neg)) o.dst r)) o)
   | false=>b8 (dstOk V.n o.dst) (kont (skip (Jl s t (!neg)) o.dst)))
  else (match neg==want with
   | true=>b8 (okO V.n (Jl s t neg) o) (step V (Jl s t neg) (fun r=>kont (after (Jl s t neg) o.dst r)) o)
   | false=>b8 (dstOk V.n o.dst) (kont (skip (Jl s t neg) o.dst)))
noncomputable def HF:List Oper->Sg->Option Y
 | [],s=>k s
 | o::os,s=>S9 V all (HF os) o (aby V.tr o s)
end
section
variable {Y:Type} {V:Env} {P:Program} {I:Hp} {w0 w:World} {F:Ch} {J:Hp} {θ:Th} {s:Sg} {a:Act} {res:Y} {Q:Exit->Act->World->Prop}
theorem MU {h:Hdr} {i:Sg} (hs:I1 h s=some i) (v:Sim P I w0 F V.n J θ s a w):Fr s θ i θ:=by
 obtain ⟨r,o,hs⟩:=bind_some hs;obtain ⟨q,n,hs⟩:=bind_some hs;have hp:=AX o;obtain ⟨l,m,u,j,t⟩:=Hb n;have f: ∀e,e∈q.2.2->e∈s.chs:=fun e d=>(hp.trans (j.cons _)).mem_iff.2 (by simp[d]);cases k:q.1 with
 | true =>
  rw[k] at hs;obtain rfl:=ae (show some _=some i from hs);refine ⟨Nat.le_succ _,Same.rfl,fun e d _=>d,fun e d p g c b=>?_⟩;rcases aG d with rfl | d
  ·obtain ⟨rfl,b⟩:=b;rcases b with ⟨rfl,rfl⟩ | b
   ·exact .inr ⟨r.ent h,hp.mem_iff.2 (by simp),rfl,.inr ⟨rfl,rfl⟩⟩
   ·exact b.elim
  ·exact .inr ⟨e,f e d,b⟩
 | false =>
  rw[k] at hs;obtain rfl:=ae (show some _=some i from hs);refine ⟨Nat.le_succ _,Same.rfl,fun e d _=>d,fun e d p g c b=>?_⟩;rcases aG d with rfl | d
  ·obtain ⟨rfl,b⟩:=b;rcases b with ⟨rfl,rfl⟩ | b
   ·exact .inl (aH _)
   ·exact b.elim
  ·exact .inr ⟨e,f e d,b⟩
theorem HG: ∀ {m:Nat} {h:Hdr} {s:Sg},Sim P I w0 F V.n J θ s a w->Fr s θ (settle m h s) θ
 | 0,_,_,hS=>Fr.rfl
 | m+1,h,s,hS=>by
  unfold settle;split
  ·split
   ·split
    ·rename_i b;exact (HG hS).trans (MU b (By hS))
    ·exact Fr.rfl
   ·exact Fr.rfl
  ·exact Fr.rfl
theorem uW: ∀ {hs:List Hdr} {s:Sg},Sim P I w0 F V.n J θ s a w->Sim P I w0 F V.n J θ (xM hs s) a w/\Fr s θ (xM hs s) θ
 | [],s,hS=>⟨hS,Fr.rfl⟩
 | h::hs,s,hS=>by
  obtain ⟨b,c⟩:=uW (hs:=hs) (By (m:=4) (h:=h) hS);exact ⟨b,(HG hS).trans c⟩
theorem Xu {t:Nat} {b:Bool} (f:Sim P I w0 F V.n J θ s a w) (g:(envL θ s).lookup t=some (.bool b)):Sim P I w0 F V.n J θ (Jl s t b) a w/\Fr s θ (Jl s t b) θ:=by
 refine ⟨⟨f.le,f.agr.sub fun u v h=>?_,f.st,fun e c=>?_,fun e c=>?_,GZ (d:=some t) (av:=.one (.val (.bool b))) f.fine.nd f.fine.ver,fun e c=>gM Same.rfl (Nat.le_succ _) Newer.rfl (f.fine.chs e c) Hp.le.rfl,f.fine.lay⟩,Nat.le_succ _,Same.rfl,fun e c h=>?_,Newer.rfl⟩
 ·have h:List.lookup u ((t,Value.bool b)::envL θ s)=some v:=h;rw[List.lookup_cons] at h;by_cases e:u=t
  ·subst e;simp at h;rw[g,h]
  ·rw[show (u==t)=false from by simpa using e] at h;exact h
 ·rcases aG c with rfl | c
  ·exact Eq.refl true
  ·exact AV.ok_same Same.rfl (Nat.le_succ _) Newer.rfl (f.fine.env e c) Hp.le.rfl
 ·rcases aG c with rfl | c
  ·exact aA _
  ·exact a8 (f.fine.ver e c)
 ·rcases aG c with rfl | c
  ·exact absurd h (Nat.lt_irrefl _)
  ·exact c
theorem Ta {ops:Array Oper} {o:Oper} :match guardOf ops.toList s o with
  | .no=>o.guard=none
  | .skip=> ∃g want d,o.guard=some (g,want)/\(ops[g]?).bind (·.dst)=some d/\(envL θ s).lookup d=some undef
  | .yes t b neg want=> ∃g,o.guard=some (g,want)/\(ops[g]?).bind (·.dst)=some t/\(envL θ s).lookup t=some (.bool (if neg then !b else b))
  | .bad=>True:=by
 unfold guardOf;cases i:o.guard with
 | none=>exact rfl
 | some gw =>
  obtain ⟨g,want⟩:=gw;simp only;cases hp:ops.toList[g]? with
  | none=>trivial
  | some p =>
   simp only;cases f:p.dst with
   | none=>trivial
   | some t =>
    simp only;have c:(ops[g]?).bind (·.dst)=some t:=by
     rw[<-Array.getElem?_toList,hp];exact f
    cases h:look s.env t with
    | none=>trivial
    | some v =>
     have e:=iT (θ:=θ) h;cases v with
     | one x =>
      cases x with
      | val u =>
       cases u with
       | bool b=>exact ⟨g,rfl,c,e⟩
       | _=>trivial
      | nb b=>exact ⟨g,rfl,c,e⟩
      | _=>trivial
     | und=>exact ⟨g,want,t,rfl,c,e⟩
     | _=>trivial
theorem Fx {o:Oper} {r:Res} (b:GoodA P w0 J θ s o r) (c:Sim P I w0 F V.n J θ s a w) {θ':Th} (hs:Same s.nxt θ θ'):Fr s θ (after s o.dst r) θ' :=
 Fr.put hs (Res.newer b.perm b.says)
theorem Tb (T:TTok P V.tt) (hF:FTok P V.ft) {ops:Array Oper} {rest:List Oper} {o:Oper} {j:Sg->Option Y} (h:S9 V ops.toList j o s=some res) (B:Sim P I w0 F V.n J θ s a w)
  (K: ∀s' θ' n v,j s'=some res->Sim P I w0 F V.n J θ' s' n v->Fr s θ s' θ'->wpList P ops Q rest n v):wpList P ops Q (o::rest) a w:=by
 have y:=Ta (θ:=θ) (s:=s) (ops:=ops) (o:=o);have run: ∀l,Sim P I w0 F V.n J θ l a w->Fr s θ l θ->(∀g want,o.guard=some (g,want)-> ∃d,(ops[g]?).bind (·.dst)=some d/\(envL θ l).lookup d=some (.bool want))->b8 (okO V.n l o) (step V l (fun r=>j (after l o.dst r)) o)=some res->wpList P ops Q (o::rest) a w:=by
  intro l i p O h;obtain ⟨u,h⟩:=ai h;obtain ⟨r,U,z⟩:=Pu T hF h;cases f:o.guard with
  | none=>exact UP (z.at i.fine) i f u fun θ' n v C k=>K _ θ' n v U k (p.trans (Fx (z.at i.fine) i C))
  | some gw =>
   obtain ⟨g,want⟩:=gw;obtain ⟨d,R,A⟩:=O g want f;exact WI (z.at i.fine) i f R A rfl u fun θ' n v C k=>K _ θ' n v U k (p.trans (Fx (z.at i.fine) i C))
 have S: ∀l,Sim P I w0 F V.n J θ l a w->Fr s θ l θ-> ∀g want d b,o.guard=some (g,want)->(ops[g]?).bind (·.dst)=some d->(envL θ l).lookup d=some (.bool b)->b=(!want)->b8 (dstOk V.n o.dst) (j (skip l o.dst))=some res->wpList P ops Q (o::rest) a w:=by
  intro l i p g want d b f R A W h;obtain ⟨u,h⟩:=ai h;exact R3 i f R A W u fun n k=>K _ θ n w h k (p.trans (Fr.put Same.rfl Newer.rfl))
 unfold S9 at h;split at h
 ·cases h
 ·rename_i f;rw[f] at y;obtain ⟨u,N⟩:=ai h;clear h;split at N
  ·rename_i q X;obtain ⟨E,G,z⟩:=SL T X B
   have:=Ji N _ E G
   exact UP z B (show o.guard=none from y) u fun θ' n v C k=>K _ θ' n v this k (Fr.rfl.trans (Fx z B C))
  ·refine run s B Fr.rfl (fun g want e=>by rw[show o.guard=none from y] at e;cases e) ?_;rw[u];exact N
 ·rename_i f;rw[f] at y;obtain ⟨g,want,d,L,H,M⟩:=y;obtain ⟨u,h⟩:=ai h;exact Mi B L H M u fun n k=>K _ θ n w h k (Fr.put Same.rfl Newer.rfl)
 ·rename_i t b neg want f;rw[f] at y;obtain ⟨g,L,H,M⟩:=y;have both: ∀c:Bool,(envL θ s).lookup t=some (.bool c)->(match c==want with
    | true=>b8 (okO V.n (Jl s t c) o) (step V (Jl s t c) (fun r=>j (after (Jl s t c) o.dst r)) o)
    | false=>b8 (dstOk V.n o.dst) (j (skip (Jl s t c) o.dst)))=some res->wpList P ops Q (o::rest) a w:=by
   intro c hc h;obtain ⟨E,G⟩:=Xu B hc;have D:(envL θ (Jl s t c)).lookup t=some (.bool c):=by
    show List.lookup t ((t,Value.bool c)::envL θ s)=_;rw[List.lookup_cons_self]
   split at h
   ·rename_i m;have m:c=want:=by simpa using m
    exact run _ E G (fun Z x e=>by
     rw[L] at e;obtain ⟨rfl,rfl⟩:g=Z/\want=x:=by simpa using e
     exact ⟨t,H,by rw[D,m]⟩) h
   ·rename_i m;have m:c≠want:=by simpa using m
    exact S _ E G g want t c L H D (by cases c <;> cases want <;> simp_all) h
  cases b with
  | true =>
   refine both (!neg) ?_ (show _=some res from h);rw[M];cases neg <;> rfl
  | false =>
   refine both neg ?_ (show _=some res from h);rw[M];cases neg <;> rfl
theorem Xv {tr:Trs} {o:Oper} (k:Sim P I w0 F V.n J θ s a w): ∃b θ',J.le b/\Sim P I w0 F V.n b θ' (aby tr o s) a w/\Fr s θ (aby tr o s) θ':=by
 obtain ⟨θ1,m,e⟩:=AY k;obtain ⟨l,f⟩:=uW (hs:=D3 (tw s) o.op.operands.toList) m;obtain ⟨i,c,d,g⟩:=SX (o:=o) l
 show∃b θ',J.le b/\Sim P I w0 F V.n b θ' (S8 tr o (MS o (xM (D3 (tw s) o.op.operands.toList) (tw s)))) a w/\Fr s θ (S8 tr o (MS o (xM (D3 (tw s) o.op.operands.toList) (tw s)))) θ'
 unfold S8;split
 ·exact ⟨i,θ1,c,d,(e.trans f).trans g⟩
 ·obtain ⟨b,θ',j,h,n⟩:=wI d;exact ⟨b,θ',c.trans j,h,((e.trans f).trans g).trans n⟩
theorem HH (n:TTok P V.tt) (p:FTok P V.ft) {ops:Array Oper} {k:Sg->Option Y} : ∀ {l:List Oper} {s:Sg} {J:Hp} {θ:Th} {a:Act} {w:World},HF V ops.toList k l s=some res->Sim P I w0 F V.n J θ s a w->
  (∀c J' θ' e m,k c=some res->Sim P I w0 F V.n J' θ' c e m->J.le J'->Fr s θ c θ'->Q .normal e m)->wpList P ops Q l a w
 | [],s,J,θ,a,w,h,hS,K=>wpList_nil (K s J θ a w h hS Hp.le.rfl Fr.rfl)
 | o::os,s,J,θ,a,w,h,hS,K=>by
  obtain ⟨A,θ1,u,r,v⟩:=Xv (tr:=V.tr) (o:=o) hS;exact Tb n p (show S9 V ops.toList (HF V ops.toList k os) o (aby V.tr o s)=some res from h) r fun c θ' e m z d g =>
   HH n p z d fun y t θ2 q x j i f b=>K y t θ2 q x j i (u.trans f) ((v.trans g).trans b)
end
end R
end Go.Proofs.YtodbpnpbhpeepaaGreatDoor
