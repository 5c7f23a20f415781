/- FnEngineSteps: for every input the law returns true and changes nothing that was there. Part 4 of 9. -/
import Derived.Test.YtodbpnpbhpeepaaGreatDoorSC2
set_option synthInstance.maxSize 20000
set_option synthInstance.maxHeartbeats 2000000
set_option linter.unusedVariables false
set_option linter.unusedSimpArgs false
set_option linter.unnecessarySimpa false
set_option linter.unusedSectionVars false
set_option maxRecDepth 1000000
namespace Go.Proofs.YtodbpnpbhpeepaaGreatDoor
open Go.IntKind (i64)
namespace R
open Go.RowKit
open D
section
variable {P:Program} {I:Hp} {w0:World} {o:Oper} {ev:Operand->Value}
theorem Kw {x:Operand} {a:Addr} (c:o.op= .nilCheck x) (b:ev x= .pointer (some a)):OpT P I w0 o ev [] (· = .pointer (some a)) (fun _=>[]):=
 bB fun w=>by simp_all[execOp]
theorem WO {x y:Operand} {T U:TypeId} {m n:Int} (b:o.op= .call { callee:=.builtin .min,args:= #[x,y],argTypes:= #[T,U] }) (a:ev x= .int .i64 m) (c:ev y= .int .i64 n):OpT P I w0 o ev [] (· = .int .i64 (min m n)) (fun _=>[]):=
 bB fun w=>by
  have e:min m n=if n<m then n else m:=by omega
  simp_all[execOp,resolve,invoke,builtin,Builtin.min_,Builtin.min2]
theorem WQ {x y:Operand} {T U:TypeId} {m n:Int} (b:o.op= .call { callee:=.builtin .max,args:= #[x,y],argTypes:= #[T,U] }) (a:ev x= .int .i64 m) (c:ev y= .int .i64 n):OpT P I w0 o ev [] (· = .int .i64 (max m n)) (fun _=>[]):=
 bB fun w=>by
  have e:max m n=if m<n then n else m:=by omega
  simp_all[execOp,resolve,invoke,builtin,Builtin.max_,Builtin.max2]
theorem DN {t e:TypeId} {a:Option Addr} {w:World} (b:P.underlying t=some (.pointer e)):(Op.equal t (.pointer a) (.pointer none)).run P w= .ok a.isNone w:=by
 have key: ∀n,(Op.equalIn (n+1) t (.pointer a) (.pointer none)).run P w= .ok a.isNone w:=fun n=>by
  unfold Op.equalIn;rw[Sem.run_bind,run_underlying b,Result.andThen_ok];cases a <;> rfl
 exact key 9999
theorem Om {t e:TypeId} {a:Option Addr} {l c:Nat} {w:World} (b:P.underlying t=some (.slice e)):(Op.equal t (.slice a l c) (.slice none 0 0)).run P w= .ok (DF (.slice a l c)) w:=by
 have key: ∀n,(Op.equalIn (n+1) t (.slice a l c) (.slice none 0 0)).run P w= .ok (DF (.slice a l c)) w:=fun n=>by
  unfold Op.equalIn;rw[Sem.run_bind,run_underlying b,Result.andThen_ok];cases a <;> rfl
 exact key 9999
theorem IQ {x y:Operand} {t u e:TypeId} {a:Option Addr} {l c:Nat} (b:P.underlying t=some (.slice e)) (g:o.op= .binOp .eql t x y u) (d:ev x= .slice a l c) (i:ev y= .slice none 0 0):OpT P I w0 o ev [] (· = .bool (DF (.slice a l c))) (fun _=>[]):=
 bB fun w=>by
  have f:eqGuard .eql t x y (.slice a l c) (.slice none 0 0)=pure ():=rfl;have h:binOp .eql t (.slice a l c) (.slice none 0 0)=(do pure (.bool (<-Op.equal t (.slice a l c) (.slice none 0 0)))):=rfl;simp_all[execOp,Sem.run_bind,Sem.run_pure,Om,Result.andThen_ok]
theorem On {x y:Operand} {t u e:TypeId} {a:Option Addr} (b:P.underlying t=some (.pointer e)) (f:o.op= .binOp .eql t x y u) (c:ev x= .pointer a) (h:ev y= .pointer none):OpT P I w0 o ev [] (· = .bool a.isNone) (fun _=>[]):=
 bB fun w=>by
  have d:eqGuard .eql t x y (.pointer a) (.pointer none)=pure ():=rfl;have g:binOp .eql t (.pointer a) (.pointer none)=(do pure (.bool (<-Op.equal t (.pointer a) (.pointer none)))):=rfl;simp_all[execOp,Sem.run_bind,Sem.run_pure,DN,Result.andThen_ok]
theorem Oo {x y:Operand} {t u e:TypeId} {a:Option Addr} (b:P.underlying t=some (.pointer e)) (f:o.op= .binOp .neq t x y u) (c:ev x= .pointer a) (h:ev y= .pointer none):OpT P I w0 o ev [] (· = .bool (!a.isNone)) (fun _=>[]):=
 bB fun w=>by
  have d:eqGuard .neq t x y (.pointer a) (.pointer none)=pure ():=rfl;have g:binOp .neq t (.pointer a) (.pointer none)=(do pure (.bool (!(<-Op.equal t (.pointer a) (.pointer none))))):=rfl;simp_all[execOp,Sem.run_bind,Sem.run_pure,DN,Result.andThen_ok]
end
section
variable {Y:Type} (tt:TT) (s:Sg) (k:Res->Option Y)
def WR (x:Operand):Option Y:=match opd s x with
 | some (.one (.ptr h off))=>k (.pure s (.one (.ptr h off)))
 | some (.one (.rd h (.tree T E t) d))=>(Tr.get d).bind fun _=>k (.pure s (.one (.rd h (.tree T E t) d)))
 | _=>none
def abH (x y:Operand):Option Y:=match opd s x,opd s y with
 | some (.one (.val (.int .i64 m))),some (.one (.val (.int .i64 n)))=>kv s k (.int .i64 (min m n))
 | _,_=>none
def abI (x y:Operand):Option Y:=match opd s x,opd s y with
 | some (.one (.val (.int .i64 m))),some (.one (.val (.int .i64 n)))=>kv s k (.int .i64 (max m n))
 | _,_=>none
def abJ (b:BinOp) (T:TypeId) (x y:Operand):Option Y:=(td tt T).bind fun q=>q.pt.bind fun _=>match opd s x,opd s y with
 | some (.one (.rd h (.tree T' E t) d)),some (.one (.val v))=>cg (DI v) (match b with
  | .eql=>kv s k (.bool d.isNil)
  | .neq=>k (.pure s (.one (.nb d.isNil)))
  | _=>none)
 | some (.one (.ptr h off)),some (.one (.val v))=>cg (DI v) (match b with
  | .eql=>kv s k (.bool false)
  | .neq=>kv s k (.bool true)
  | _=>none)
 | _,_=>none
def aa5 (b:BinOp) (T:TypeId) (x y:Operand):Option Y:=(td tt T).bind fun q=>q.el.bind fun _=>match opd s x,opd s y,b with
 | some (.one (.rdn h b (.sl E t) d)),some (.one (.val v)),.eql=>cg (isNil v) (kv s k (.bool b))
 | some (.one (.own h)),some (.one (.val v)),.eql=>cg (isNil v) ((rowOf h s.chs).bind fun r=>(chk (0<(r.xs.length:Int))).bind fun _=>k ⟨[r.ent h],[],r.rest,[],.one (.val (.bool false))⟩)
 | some (.one (.val u)),some (.one (.val v)),.eql=>cg (isNil v&&isNil u) (kv s k (.bool true))
 | _,_,_=>none
def Oq (T:TypeId) (x:Operand) (f:Nat):Option Y:=(td tt T).bind fun d=>(d.fields[f]?).bind fun q=>match opd s x with
 | some (.one (.rd h (.tree T' E t) a))=>(Tr.get a).bind fun p=>k (.pure s (.one (.fz h T' (.prod t (.sl E (.tree T' E t))) p q.1)))
 | _=>none
def abK (s:Sg) (x:Operand):Option (Hdr×(E:TypeId)×(t:Ty)×List t.den):=match opd s x with
 | some (.one (.rd h (.sl E t) xs))=>some (h,⟨E,t,xs⟩)
 | _=>none
def asI (s:Sg) (x:Operand):Option Int:=match opd s x with
 | some (.one (.val (.int .i64 m)))=>some m
 | _=>none
def R1 (E:TypeId) (t:Ty) (xs:List t.den):Option Y:=k (.pure s (.one (.rd ⟨s.nxt,[]⟩ (.sl E t) xs)))
def Ot (T:TypeId) (x:Operand) (lo hi:Option Operand):Option Y:=(td tt T).bind fun d=>d.el.bind fun E'=>(td tt E').bind fun e=>(abK s x).bind fun r=>cg (Nat.beq e.n r.2.2.1.size) (match lo,hi with
 | some l,none=>(asI s l).bind fun l=>(chk (0<=l/\l<=(r.2.2.2.length:Int))).bind fun _=>R1 s k r.2.1 r.2.2.1 (r.2.2.2.drop l.toNat)
 | none,some h=>(asI s h).bind fun h=>(chk (0<=h/\h<=(r.2.2.2.length:Int))).bind fun _=>R1 s k r.2.1 r.2.2.1 (r.2.2.2.take h.toNat)
 | some l,some h=>(asI s l).bind fun l=>(asI s h).bind fun h=>(chk (0<=l/\l<=h/\h<=(r.2.2.2.length:Int))).bind fun _=>R1 s k r.2.1 r.2.2.1 ((r.2.2.2.take h.toNat).drop l.toNat)
 | none,none=>none)
def Ou (T:TypeId) (x:Operand) (lo hi:Option Operand):Option Y:=(td tt T).bind fun d=>match d.el,opd s x,lo,hi with
 | some E',some (.one (.own h)),none,some hi=>(rowOf h s.chs).bind fun r=>(td tt E').bind fun e=>cg (Nat.beq e.n r.t.size) ((asI s hi).bind fun m=>(chk (0<=m/\m<=(r.xs.length:Int))).bind fun _=>newRow s k r.E r.t [r.ent h] r.rest (r.xs.take m.toNat))
 | _,_,_,_=>none
def Ov (T:TypeId) (x:Operand) (lo hi:Option Operand):Option Y:=(td tt T).bind fun d=>match d.el,opd s x,lo,hi with
 | some E',some (.one (.own h)),some lo,none=>(rowOf h s.chs).bind fun r=>(td tt E').bind fun e=>cg (Nat.beq e.n r.t.size) ((asI s lo).bind fun m=>(chk (0<=m/\m<=(r.xs.length:Int))).bind fun _=>newRow s k r.E r.t [r.ent h] r.rest (r.xs.drop m.toNat))
 | _,_,_,_=>none
def Ow (T:TypeId) (x:Operand) (lo hi:Option Operand):Option Y:=(td tt T).bind fun d=>match d.el,opd s x,lo,hi with
 | some E',some (.one (.own h)),some lo,none=>(rowOf h s.chs).bind fun r=>(td tt E').bind fun e=>cg (Nat.beq e.n r.t.size) ((asI s lo).bind fun m=>(chk (0<=m/\m<=(r.xs.length:Int))).bind fun _=>k ⟨[r.ent h],[],r.rest,[],.sub h r.ver r.E r.t r.xs m⟩)
 | _,_,_,_=>none
def Ox (T:TypeId) (x:Operand) (lo hi:Option Operand):Option Y:=(td tt T).bind fun d=>match d.el,opd s x,lo,hi with
 | some E',some (.one (.own h)),none,some hi=>(rowOf h s.chs).bind fun r=>(td tt E').bind fun e=>cg (Nat.beq e.n r.t.size) ((asI s hi).bind fun m=>(chk (0<=m/\m<=(r.xs.length:Int))).bind fun _=>k ⟨[r.ent h],[],r.rest,[],.pre h r.ver r.E r.t r.xs m⟩)
 | _,_,_,_=>none
structure Src0 where
 h:Hdr
 sub:Bool
 ver:Nat
 lo:Int
def UN:AV->Option Src0
 | .one (.own h)=>some ⟨h,false,0,0⟩
 | .sub h ver _ _ _ l=>some ⟨h,true,ver,l⟩
 | _=>none
def UO (h:Hdr) (ver:Nat) (E:TypeId) (k1:IntKind) (xs:List Int) (rest:List Ent) (lo:Int) (y:AV):Option Y:=match y with
 | .one (.rd _ (.sl _ (.int k2)) ys)=>cg (k1==k2) ((chk (0<=lo/\lo<=(xs.length:Int))).bind fun _=>k ⟨[],[(h,ver,.own (.sl E (.int k1)) xs)],rest,[(h,.own (.sl E (.int k1)) (Gq xs lo.toNat ys))],.one (.val (.int .i64 ((min ys.length (xs.length - lo.toNat):Nat):Int)))⟩)
 | .pre h2 v2 _ _ _ hi=>cg (Hdr.beq h2 h&&Nat.beq v2 ver) ((chk (0<=lo/\lo<=(xs.length:Int))).bind fun _=>(chk (0<=hi/\hi<=(xs.length:Int))).bind fun _=>k ⟨[],[(h,ver,.own (.sl E (.int k1)) xs)],rest,[(h,.own (.sl E (.int k1)) (Gq xs lo.toNat (xs.take hi.toNat)))],.one (.val (.int .i64 ((min (xs.take hi.toNat).length (xs.length - lo.toNat):Nat):Int)))⟩)
 | _=>none
def IR (r:Row):Option ((k:IntKind)×List Int):=match r.t,r.xs with
 | .int k,xs=>some ⟨k,xs⟩
 | _,_=>none
def Zl (T:TypeId) (x y:Operand):Option Y:=(td tt T).bind fun d=>d.el.bind fun E=>(td tt E).bind fun e=>cg (Nat.beq e.n 1) ((opd s x).bind fun xv=>(UN xv).bind fun c=>(rowOf c.h s.chs).bind fun r=>cg (Nat.beq r.E E&&(!c.sub || Nat.beq c.ver r.ver)) ((IR r).bind fun q=>(opd s y).bind fun yv=>UO k c.h r.ver r.E q.1 q.2 r.rest c.lo yv))
def Oy (E b:Nat) (x:Operand):Option Y:=match opd s x with
 | some (.sub h ver E' t xs l)=>(rowOf h s.chs).bind fun r=>cg (Nat.beq r.ver ver&&(t.sh&&Nat.beq t.size 1)) ((bA b [] (xs.drop l.toNat)).bind fun zs=>k ⟨[r.ent h],[],r.rest,[(⟨s.nxt,[]⟩,.own (.sl E t) zs)],.one (.own ⟨s.nxt,[]⟩)⟩)
 | some (.one (.own h))=>(rowOf h s.chs).bind fun r=>cg (r.t.sh&&Nat.beq r.t.size 1) ((bA b [] r.xs).bind fun zs=>k ⟨[r.ent h],[],r.rest,[(⟨s.nxt,[]⟩,.own (.sl E r.t) zs)],.one (.own ⟨s.nxt,[]⟩)⟩)
 | some (.one (.rd h (.sl E' t) xs))=>cg (t.sh&&Nat.beq t.size 1) ((bA b [] xs).bind fun zs=>newRow s k E t [] s.chs zs)
 | _=>none
end
section
variable {Y:Type} {tt:TT} {s:Sg} {k:Res->Option Y} {P:Program} {w0:World} {o:Oper} {res:Y} {x y:Operand}
theorem R2 {av:AV} {fact:Hp->Th->Value->Prop} (b: ∀J θ,Fine P w0 J θ s->OpT P J w0 o (evL (envL θ s)) [] (fact J θ) (fun _=>[])) (a: ∀J θ v,Fine P w0 J θ s->fact J θ v->av.ok P w0 J (upd θ s.nxt v) (s.nxt+1) s.chs/\av.v (upd θ s.nxt v)=v):Good P w0 s o (Res.pure s av):=
 ⟨List.Perm.refl _,fun _ _ _ g c=>(by cases c),fun J θ d=>OpT.weak (b J θ d) (fun v hv=>by
  have ⟨f,e⟩:=a J θ v d hv;exact ⟨f,e,fun g c=>by cases c⟩) (fun v hv=>rfl)⟩
theorem R3 (i:o.op= .nilCheck x) (h:WR s k x=some res):Oks P w0 s o k res:=by
 unfold WR at h;split at h
 ·rename_i j off a;exact ⟨_,h,fQ (fun J θ c=>Kw i (aH a)) fun J θ c=>cf c a⟩
 ·rename_i j T E t d a;have ⟨p,hp,h⟩:=bind_some h;refine ⟨_,h,fQ (fun J θ c=>?_) fun J θ c=>cf c a⟩;have f:=cf c a;obtain ⟨b,e,-⟩:=J8 (E:=E) f.2 hp;have g:=(aH a).trans e;grind[Kw,aH]
 grind
theorem WS {T U:TypeId} (b:o.op= .call { callee:=.builtin .min,args:= #[x,y],argTypes:= #[T,U] }) (h:abH s k x y=some res):Oks P w0 s o k res:=by
 unfold abH at h;split at h
 ·rename_i m n a c;exact ma h rfl fun J θ d=>WO b (aH a) (aH c)
 grind
theorem WU {T U:TypeId} (b:o.op= .call { callee:=.builtin .max,args:= #[x,y],argTypes:= #[T,U] }) (h:abI s k x y=some res):Oks P w0 s o k res:=by
 unfold abI at h;split at h
 ·rename_i m n a c;exact ma h rfl fun J θ d=>WQ b (aH a) (aH c)
 grind
theorem Oz (w:TTok P tt) {b:BinOp} {t u:TypeId} (n:o.op= .binOp b t x y u) (h:abJ tt s k b t x y=some res):Oks P w0 s o k res:=by
 have ⟨q,A,h⟩:=bind_some h;have ⟨e,z,h⟩:=bind_some h;have c:=(w.get A).pt e z;split at h
 ·rename_i r C E B d v m j;have ⟨f,h⟩:=ai h;have f:=Bm f;subst f;have key: ∀J θ,Fine P w0 J θ s-> ∃a:Option Addr,evL (envL θ s) x= .pointer a/\a.isNone=d.isNil:=fun J θ g=>by
   have p:=cf g m;have ⟨a,i,l⟩:=RF p.2;exact ⟨a,(aH m).trans i,l⟩
  split at h
  ·refine ma h rfl fun J θ g=>?_;have ⟨a,i,l⟩:=key J θ g;rw[<-l];exact On c n i (aH j)
  ·refine ⟨_,h,fQ (fun J θ g=>?_) fun _ _ _=>trivial⟩;have ⟨a,i,l⟩:=key J θ g;rw[<-l];exact Oo c n i (aH j)
  grind
 ·rename_i r off v m j;have ⟨f,h⟩:=ai h;have f:=Bm f;subst f;split at h
  ·exact ma h rfl fun J θ g=>On c n (aH m) (aH j)
  ·exact ma h rfl fun J θ g=>Oo c n (aH m) (aH j)
  grind
 grind
theorem IS (D:TTok P tt) {b:BinOp} {t u:TypeId} (m:o.op= .binOp b t x y u) (h:aa5 tt s k b t x y=some res):Oks P w0 s o k res:=by
 have ⟨q,L,h⟩:=bind_some h;have ⟨e,F,h⟩:=bind_some h;have c:=(D.get L).el e F;split at h
 ·rename_i w N E R d v f i _ _;have ⟨a,h⟩:=ai h;have a:=oA a;subst a;refine ma h rfl fun J θ p=>?_;have n:=cf p f;obtain ⟨S,⟨z,cap,j,-⟩,A⟩:=n;have j:hv θ w= .slice z d.length cap:=by simpa using j
  rw[j] at A;rw[<-A];exact IQ c m ((aH f).trans j) (aH i)
 ·rename_i w v f i _ _;have ⟨a,h⟩:=ai h;have a:=oA a;subst a;have ⟨r,K,h⟩:=bind_some h;have ⟨Q,B,h⟩:=bind_some h;have B:=bM B;obtain ⟨hp,-⟩:=bY K;refine ⟨_,h,o6 hp,aX rfl,fun J θ p=>OpT.weak (wD (fact:=(· = .bool false)) fun G=>?_) (fun u l=>?_) (fun u l=>rfl)⟩
  ·have ⟨z,cap,C,H,M⟩:=G;obtain ⟨O,off,rfl⟩:=H (by omega);exact IQ c m ((aH f).trans C) (aH i)
  ·subst l;exact ⟨Eq.refl true,rfl,fun g I=>by cases I⟩
 ·rename_i u v f i _ _;have ⟨a,h⟩:=ai h;rw[aj] at a;have hv:=oA a.1;have l:=oA a.2;subst hv;subst l;exact ma h rfl fun J θ p=>IQ c m (aH f) (aH i)
 grind
theorem Me (z:TTok P tt) {T:TypeId} {f:Nat} (v:o.op= .fieldAddr T x f) (h:Oq tt s k T x f=some res):Oks P w0 s o k res:=by
 have ⟨d,w,h⟩:=bind_some h;have ⟨q,A,h⟩:=bind_some h;split at h
 ·rename_i i u E t a r;have ⟨p,hp,h⟩:=bind_some h;have n:=(z.get w).fld f q A;have key: ∀J θ,Fine P w0 J θ s->i.id<s.nxt/\ ∃b,hv θ i= .pointer (some ⟨b,0,none⟩)/\ ∃cells:List Value,J b=some (.cells cells.toArray u (0,0))/\(Ty.prod t (.sl E (.tree u E t))).rep.rd J cells p:=fun J θ g=>by
   have c:=cf g r;have ⟨b,e,cells,l,j⟩:=J8 (E:=E) c.2 hp;exact ⟨c.1,b,e,cells,l,j⟩
  refine ⟨_,h,fQ (fun J θ g=>?_) fun J θ g=>?_⟩
  ·obtain ⟨-,b,e,-⟩:=key J θ g;have m:=(aH r).trans e
   have:=nr (P:=P) (I:=J) (w0:=w0) n v m
   rw[Nat.zero_add] at this;show OpT P J w0 o _ [] (· = .pointer (some ⟨bk (hv θ i),q.1,none⟩)) _;rw[e];exact this
  ·have ⟨B,b,e,cells,l,j⟩:=key J θ g;exact ⟨B,cells,by rw[e];exact l,j⟩
 grind
theorem WV {r:Hdr×(E:TypeId)×(t:Ty)×List t.den} (h:abK s x=some r):opd s x=some (.one (.rd r.1 (.sl r.2.1 r.2.2.1) r.2.2.2)):=by
 grind[abK,ae]
theorem o8 {m:Int} (h:asI s x=some m) (θ:Th):evL (envL θ s) x= .int .i64 m:=by
 unfold asI at h;split at h
 ·rename_i a;cases ae h;exact aH a
 grind
theorem E6 {E:TypeId} {t:Ty} {xs:List t.den} (h:R1 s k E t xs=some res) (a: ∀J θ,Fine P w0 J θ s->OpT P J w0 o (evL (envL θ s)) [] (fun v=>(Ty.sl E t).rep.rd J [v] xs) (fun _=>[])):Oks P w0 s o k res:=
 ⟨_,h,R2 (fact:=fun J θ v=>(Ty.sl E t).rep.rd J [v] xs) a fun J θ v c b=>⟨⟨aB _,by grind[eH]⟩,eH⟩⟩
theorem Mf (r:TTok P tt) {T:TypeId} {lo hi:Option Operand} (n:o.op= .slice T x lo hi none) (h:Ot tt s k T x lo hi=some res):Oks P w0 s o k res:=by
 have ⟨d,z,h⟩:=bind_some h;have ⟨A,F,h⟩:=bind_some h;have ⟨e,C,h⟩:=bind_some h;have ⟨⟨B,E,t,w⟩,D,h⟩:=bind_some h;have l:=WV D;have ⟨p,h⟩:=ai h;have p:=au p;have i:=(r.get z).el A F;have g:=(r.get C).ti;have key: ∀J θ,Fine P w0 J θ s->(ax E t.rep).rd J [hv θ B] w:=fun J θ c=>(cf c l).2;have f:=t.rep_size.trans p.symm;split at h
 ·have ⟨m,j,h⟩:=bind_some h;have ⟨u,b,h⟩:=bind_some h;have b:=bM b;refine E6 h fun J θ c=>OpT.weak (wB i g (Hd.of_rd (key J θ c)) n (aH l) (o8 j θ) b) (fun v a=>?_) (fun v a=>rfl);subst a;exact J7 (key J θ c) (by grind) f
 ·have ⟨m,j,h⟩:=bind_some h;have ⟨u,b,h⟩:=bind_some h;have b:=bM b;refine E6 h fun J θ c=>OpT.weak (wC i g (Hd.of_rd (key J θ c)) n (aH l) (o8 j θ) b) (fun v a=>?_) (fun v a=>rfl);subst a;exact RB (key J θ c) (by omega) f
 ·have ⟨m,j,h⟩:=bind_some h;have ⟨G,q,h⟩:=bind_some h;have ⟨u,b,h⟩:=bind_some h;have b:=bM b;refine E6 h fun J θ c=>OpT.weak (GD i g (Hd.of_rd (key J θ c)) n (aH l) (o8 j θ) (o8 q θ) b) (fun v a=>?_) (fun v a=>rfl);subst a;exact J6 (key J θ c) (by omega) (by omega) f
 grind
theorem R4 {α:Type} {E:TypeId} {R:Rep α} {I:Hp} {w:World} {C:List Ch} {v:Value} {xs:List α} {m n:Nat} (h:St I w0 w (Ch.own (ax E R) [v] xs::C)) (S:m<=xs.length) (M:R.size=n):St I w0 w (Ch.own (ax E R) [sI v m xs.length n] (xs.drop m)::C):=by
 obtain ⟨r,i,F,⟨G,K,rfl,k,e⟩,l,q⟩:=h;have ⟨Q,k⟩:=k;have A:(xs.drop m).length=xs.length - m:=a7;rcases k with ⟨j,rfl,rfl⟩ | ⟨g,c,cap,cur,O,j,z,T,N,L,rfl,t⟩
 ·obtain rfl:v= .slice none 0 0:=by grind
  obtain rfl:m=0:=by grind
  refine ⟨r,i,[] ++K,⟨[],K,rfl,⟨by simp,.inl ⟨?_,rfl,rfl⟩⟩,e⟩,l,q⟩
  rfl
 ·rw[<-List.take_append_drop m xs] at t;obtain ⟨U,H,f,a,D,u,rfl,-,B⟩:=t.cut2;have hp:((g::(f++a))++K).Perm (((g::a)++K)++f):=by
   rw[aC]
   have:((f++a)++K).Perm (a++(K++f)):=by
    rw[aC,<-aC a K f];exact List.perm_append_comm
   exact this.cons g
  have J:cur.toList.drop (c+m*R.size)=H:=by
   rw[<-List.drop_drop,D]
   have:(xs.take m).length=m:=by rw[aq];omega
   rw[this] at u;exact List.drop_left' u
  by_cases V:cap=m
  ·have d:xs.drop m= []:=List.eq_nil_of_length_eq_zero (by omega);rw[d] at B;obtain rfl:a= []:=B;refine ⟨r,i,(g:: [])++K,⟨g:: [],K,rfl,⟨by omega,.inr ⟨g,c,0,cur,[],?_,z,by omega,Nat.zero_le _,by omega,rfl,by rw[d];rfl⟩⟩,e⟩,(List.nodup_append.1 (hp.nodup_iff.1 l)).1,fun b p=>q b (hp.mem_iff.2 (bj _ p))⟩;grind[sI,sliced]
  ·refine ⟨r,i,(g::a)++K,⟨g::a,K,rfl,⟨by omega,.inr ⟨g,c+m*R.size,cap - m,cur,a,?_,z,by omega,by omega,?_,rfl,by grind⟩⟩,e⟩,(List.nodup_append.1 (hp.nodup_iff.1 l)).1,fun b p=>q b (hp.mem_iff.2 (bj _ p))⟩
   ·grind[sI,sliced,Addr.add_mid]
   ·have:m*R.size+(cap - m)*R.size=cap*R.size:=by rw[<-Nat.add_mul];congr 1;omega
    omega
theorem R5 {α:Type} {E:TypeId} {R:Rep α} {I:Hp} {w:World} {C:List Ch} {v:Value} {xs:List α} {m n:Nat} (h:St I w0 w (Ch.own (ax E R) [v] xs::C)) (L:m<=xs.length) (D:R.size=n):St I w0 w (Ch.own (ax E R) [sI v 0 m n] (xs.take m)::C):=by
 obtain ⟨r,i,F,⟨G,K,rfl,k,e⟩,j,q⟩:=h;have ⟨J,k⟩:=k;have p:(xs.take m).length=m:=by rw[aq];omega
 rcases k with ⟨d,rfl,rfl⟩ | ⟨g,f,cap,cur,H,d,A,M,u,t,rfl,l⟩
 ·obtain rfl:v= .slice none 0 0:=by grind
  obtain rfl:m=0:=by grind
  refine ⟨r,i,[] ++K,⟨[],K,rfl,⟨by simp,.inl ⟨?_,rfl,rfl⟩⟩,e⟩,j,q⟩
  rfl
 ·rw[<-List.take_append_drop m xs] at l;obtain ⟨a,c,rfl,B,-⟩:=l.parts;have hp:((g::(a++c))++K).Perm (((g::a)++K)++c):=by
   rw[aC];show (g::((a++c)++K)).Perm (g::(a++(K++c)));rw[aC];exact (List.perm_append_comm.append_left a).cons g
  refine ⟨r,i,(g::a)++K,⟨g::a,K,rfl,⟨by omega,.inr ⟨g,f,cap,cur,a,?_,A,by omega,u,t,rfl,B⟩⟩,e⟩,(List.nodup_append.1 (hp.nodup_iff.1 j)).1,fun b z=>q b (hp.mem_iff.2 (bj _ z))⟩;grind[sI,sliced,Addr.add]
theorem Mg (i:TTok P tt) {T:TypeId} {lo hi:Option Operand} (j:o.op= .slice T x lo hi none) (h:Ou tt s k T x lo hi=some res):Oks P w0 s o k res:=by
 have ⟨d,l,h⟩:=bind_some h;split at h
 ·rename_i F f p q z _;have ⟨r,A,h⟩:=bind_some h;have ⟨e,B,h⟩:=bind_some h;have ⟨c,h⟩:=ai h;have c:=au c;have ⟨m,n,h⟩:=bind_some h;have ⟨u,g,h⟩:=bind_some h;have g:=bM g;obtain ⟨hp,-⟩:=bY A;have a:=r.t.rep_size.trans c.symm;refine ⟨_,h,good_row (rs:=[]) (Db hp) fun J θ G=>?_⟩;have E:OpT P J w0 o (evL (envL θ s)) [Ch.own (ax r.E r.t.rep) [hv θ f] r.xs] (· =sI (hv θ f) 0 m.toNat e.n) (fun _=>[Ch.own (ax r.E r.t.rep) [hv θ f] r.xs]):=wD fun t=>wC ((i.get l).el _ q) (i.get B).ti t j (aH z) (o8 n θ) g;refine OpT.post E fun v w C b D=>⟨trivial,?_⟩
  subst b;exact R5 D (by omega) a
 grind
theorem Mh (i:TTok P tt) {T:TypeId} {lo hi:Option Operand} (j:o.op= .slice T x lo hi none) (h:Ov tt s k T x lo hi=some res):Oks P w0 s o k res:=by
 have ⟨d,l,h⟩:=bind_some h;split at h
 ·rename_i F f p q z _;have ⟨r,A,h⟩:=bind_some h;have ⟨e,B,h⟩:=bind_some h;have ⟨c,h⟩:=ai h;have c:=au c;have ⟨m,n,h⟩:=bind_some h;have ⟨u,g,h⟩:=bind_some h;have g:=bM g;obtain ⟨hp,-⟩:=bY A;have a:=r.t.rep_size.trans c.symm;refine ⟨_,h,good_row (rs:=[]) (Db hp) fun J θ G=>?_⟩;have E:OpT P J w0 o (evL (envL θ s)) [Ch.own (ax r.E r.t.rep) [hv θ f] r.xs] (· =sI (hv θ f) m.toNat r.xs.length e.n) (fun _=>[Ch.own (ax r.E r.t.rep) [hv θ f] r.xs]):=wD fun t=>wB ((i.get l).el _ q) (i.get B).ti t j (aH z) (o8 n θ) g;refine OpT.post E fun v w C b D=>⟨trivial,?_⟩
  subst b;exact R4 D (by omega) a
 grind
theorem OA {h:Hdr} {ver:Nat} {E:TypeId} {t:Ty} {xs:List t.den} {l:Int} {J:Hp} {θ:Th} {r:Row} (a:rowOf h s.chs=some r) (hv:r.ver=ver) (b:AV.ok P w0 J θ s.nxt s.chs (.sub h ver E t xs l)):r.ent h=(h,ver,.own (.sl E t) xs):=by
 obtain ⟨hp,-⟩:=bY a
 have:=b.2.2.2 (r.ent h) (hp.mem_iff.2 (by simp)) _ ⟨rfl,.inl ⟨hv,rfl⟩⟩
 show (h,r.ver,Chk.own (.sl r.E r.t) r.xs)=_;rw[hv,show Chk.own (.sl r.E r.t) r.xs=_ from this]
theorem Mi (j:TTok P tt) {T:TypeId} {lo hi:Option Operand} (p:o.op= .slice T x lo hi none) (h:Ow tt s k T x lo hi=some res):Oks P w0 s o k res:=by
 have ⟨d,q,h⟩:=bind_some h;split at h
 ·rename_i D b v w B _;have ⟨r,l,h⟩:=bind_some h;have ⟨e,C,h⟩:=bind_some h;have ⟨f,h⟩:=ai h;have f:=au f;have ⟨m,t,h⟩:=bind_some h;have ⟨u,c,h⟩:=bind_some h;have c:=bM c;obtain ⟨hp,-⟩:=bY l;refine ⟨_,h,o6 hp,aX rfl,fun J θ n=>OpT.weak (wD (fact:=(· =sI (hv θ b) m.toNat r.xs.length e.n)) fun z=>wB ((j.get q).el _ w) (j.get C).ti z p (aH B) (o8 t θ) c) (fun u i=>?_) (fun u i=>rfl)⟩;have a:=lQ n hp;refine ⟨⟨bc a.1,c,(xt l a.2.1).newer (Res.newer (o6 hp) (aX rfl J θ n)) (Nat.le_succ _)⟩,?_,fun g A=>by cases A⟩;rw[i,f];show sI (hv (upd θ s.nxt _) b) _ _ _=sI (hv θ b) _ _ _;rw[show hv (upd θ s.nxt _) b=hv θ b from be Same.upd a.1]
 grind
theorem Mj (j:TTok P tt) {T:TypeId} {lo hi:Option Operand} (p:o.op= .slice T x lo hi none) (h:Ox tt s k T x lo hi=some res):Oks P w0 s o k res:=by
 have ⟨d,q,h⟩:=bind_some h;split at h
 ·rename_i D b v w B _;have ⟨r,l,h⟩:=bind_some h;have ⟨e,C,h⟩:=bind_some h;have ⟨f,h⟩:=ai h;have f:=au f;have ⟨m,t,h⟩:=bind_some h;have ⟨u,c,h⟩:=bind_some h;have c:=bM c;obtain ⟨hp,-⟩:=bY l;refine ⟨_,h,o6 hp,aX rfl,fun J θ n=>OpT.weak (wD (fact:=(· =sI (hv θ b) 0 m.toNat e.n)) fun z=>wC ((j.get q).el _ w) (j.get C).ti z p (aH B) (o8 t θ) c) (fun u i=>?_) (fun u i=>rfl)⟩;have a:=lQ n hp;refine ⟨⟨bc a.1,c,(xt l a.2.1).newer (Res.newer (o6 hp) (aX rfl J θ n)) (Nat.le_succ _)⟩,?_,fun g A=>by cases A⟩;rw[i,f];show sI (hv (upd θ s.nxt _) b) _ _ _=sI (hv θ b) _ _ _;rw[show hv (upd θ s.nxt _) b=hv θ b from be Same.upd a.1]
 grind
theorem Kx {e:Ent} {rest:List Ent} {t:Ty} {d:t.den} {v:Value} (hp:s.chs.Perm (e::rest)) (h1:v.oneCell'=true) (c: ∀J θ,Fine P w0 J θ s->OpT P J w0 o (evL (envL θ s)) [toCh P θ e] (· =v) (fun _=>[Ch.own t.rep [hv θ e.1] d])):Good P w0 s o ⟨[],[e],rest,[(e.1,.own t d)],.one (.val v)⟩:=by
 refine ⟨Db hp,aX rfl,fun J θ b=>OpT.weak (c J θ b) (fun u f=>?_) (fun u f=>?_)⟩
 ·have a:=lQ b hp;refine ⟨h1,f.symm,fun g h=>?_⟩;cases ak h;exact ⟨bc a.1,aB _,trivial⟩
 ·have a:=lQ b hp;show [Ch.own t.rep [hv θ e.1] d] = [Ch.own t.rep [hv (upd θ s.nxt u) e.1] d];rw[show hv (upd θ s.nxt u) e.1=hv θ e.1 from be Same.upd a.1]
theorem IT {r:Row} {q:(k:IntKind)×List Int} {h:Hdr} (a:IR r=some q):r.ent h=(h,r.ver,.own (.sl r.E (.int q.1)) q.2):=by
 have ⟨b,E,t,f,rest⟩:=r;unfold IR at a;split at a
 ·rename_i k d e c;cases ae a;subst e;cases eq_of_heq c
  rfl
 grind
theorem R6 (R:TTok P tt) {T U:TypeId} (N:o.op= .call { callee:=.builtin .copy,args:= #[x,y],argTypes:= #[T,U] }) (h:Zl tt s k T x y=some res):Oks P w0 s o k res:=by
 have ⟨d,V,h⟩:=bind_some h;have ⟨E,hE,h⟩:=bind_some h;have ⟨e,he,h⟩:=bind_some h;have ⟨F,h⟩:=ai h;have F:=au F;have ⟨xv,K,h⟩:=bind_some h;have ⟨c,z,h⟩:=bind_some h;have ⟨r,S,h⟩:=bind_some h;have ⟨b,h⟩:=ai h;rw[aj] at b;have i:=au b.1;have ⟨q,hq,h⟩:=bind_some h;have ⟨yv,A,h⟩:=bind_some h;obtain ⟨hp,-⟩:=bY S;have f:=IT (h:=c.h) hq;rw[f,i] at hp;have p:=(R.get V).el E hE;have n:(P.info? E).map (·.size)=some 1:=by have:=(R.get he).ti;rw[F] at this;exact Y7 this
 have w: ∀J θ,Fine P w0 J θ s->(evL (envL θ s) x=hv θ c.h/\c.lo.toNat=0)\/evL (envL θ s) x=sI (hv θ c.h) c.lo.toNat q.2.length 1:=by
  intro J θ j;unfold UN at z;split at z
  ·cases ae z;exact .inl ⟨aH K,rfl⟩
  ·rename_i Z t Q t' L l;cases ae z;have C:t=r.ver:=au (by grind);have B:=OA S C.symm (cf j K);rw[f] at B;have M:=(Prod.mk.inj (Prod.mk.inj B).2).2
   injection M with H O
   injection H with h5 I
   subst I;cases eq_of_heq O;right;rw[aH (θ:=θ) K]
   rfl
  ·cases z
 unfold UO at h;split at h
 ·rename_i Z Q k2 ys;have ⟨g,h⟩:=ai h;have g:q.1=k2:=by simpa using g
  subst g;have ⟨u,a,h⟩:=bind_some h;have a:=bM a;rw[i] at h;refine ⟨_,h,Kx (e:=(c.h,r.ver,.own (.sl E (.int q.1)) q.2)) hp rfl fun J θ j=>?_⟩;have D:c.lo.toNat<=q.2.length:=by omega
  exact Iy (lo:=c.lo.toNat) (cf j A).2 p n N rfl (aH A) D (w J θ j)
 ·rename_i M v2 Q t' L hi;have ⟨g,m⟩:=ai h;rw[aj] at g;have W:=Hdr.beq_eq g.1;subst W;have e2:=au g.2;subst e2;have ⟨u,a,m⟩:=bind_some m;have a:=bM a;have ⟨u,v,m⟩:=bind_some m;have v:=bM v;have D:c.lo.toNat<=q.2.length:=by omega
  have X:hi.toNat<=q.2.length:=by omega
  rw[i] at m;refine ⟨_,m,Kx (e:=(c.h,r.ver,.own (.sl E (.int q.1)) q.2)) hp rfl fun J θ j=>?_⟩;have G:=cf j A;have B:=G.2.2.2 (c.h,r.ver,.own (.sl E (.int q.1)) q.2) (hp.mem_iff.2 (by simp)) _ ⟨rfl,.inl ⟨rfl,rfl⟩⟩
  injection B with H O
  injection H with h5 I
  subst I;exact EE (lo:=c.lo.toNat) (hi:=hi.toNat) p n N rfl ((aH A).trans rfl) D X (w J θ j)
 grind
inductive All2 {α β:Type} (p:α->β->Prop):List α->List β->Prop
 | nil:All2 p [] []
 | cons {a:α} {b:β} {l:List α} {m:List β} (h:p a b) (k:All2 p l m):All2 p (a::l) (b::m)
theorem All2.length_eq {α β:Type} {p:α->β->Prop} {l:List α} {m:List β} (h:All2 p l m):l.length=m.length:=by
 induction h with
 | nil=>rfl
 | cons _ _ ih=>grind
theorem OB {α:Type} {R:Rep α} (d:R.Sh) (h1:R.size=1) {I:Hp} {w:World} : ∀ {xs:List α} {cur:List Value} {K:List Nat},OwnEls R I w cur xs K-> ∃b:List Raw,K= [] /\OwnEls Ik I w cur b [] /\All2 (fun p x=>R.rd I [p.1] x) b xs
 | [],cur,K,h=>⟨[],h,rfl,.nil⟩
 | x::xs,cur,K,⟨c,rest,G,K1,e1,e2,e3,e4,e5⟩=>by
  obtain ⟨rfl,a⟩:=d e4;obtain ⟨p,rfl⟩:=List.length_eq_one_iff.1 (e2.trans h1);obtain ⟨b,rfl,e,f⟩:=OB d h1 e5;exact ⟨⟨p,R.rd_one a p (by simp)⟩::b,e3,⟨[p],rest,[],[],e1,rfl,rfl,⟨rfl,rfl⟩,e⟩,.cons a f⟩
theorem OC {α:Type} {R:Rep α} (d:Cpy R R) (h1:R.size=1) {I:Hp} {w:World} : ∀ {xs:List α} {ps:List Raw} {cur:List Value} {K:List Nat},OwnEls Ik I w cur ps K->All2 (fun p x=>R.rd I [p.1] x) ps xs->K= [] /\OwnEls R I w cur xs []
 | [],[],cur,K,h,_=>⟨h,rfl⟩
 | x::xs,p::ps,cur,K,h,hh=>by
  have ⟨c,rest,G,i,f,j,e,a,g⟩:=h;cases hh with
  | cons hp b =>
   obtain ⟨rfl,a⟩:=a;obtain rfl:c= [p.1]:=a;obtain ⟨rfl,k⟩:=OC d h1 g b;exact ⟨e,[p.1],rest,[],[],f,h1.symm,rfl,d hp,k⟩
 | [],_::_,_,_,_,hh=>by cases hh
 | _::_,[],_,_,_,hh=>by cases hh
theorem WW {α:Type} {E:TypeId} {R:Rep α} (z:R.Sh) (h1:R.size=1) {I:Hp} {w:World} {C:List Ch} {v:Value} {xs:List α} (h:St I w0 w (Ch.own (ax E R) [v] xs::C)): ∃b:List Raw,All2 (fun p x=>R.rd I [p.1] x) b xs/\St I w0 w (Ch.own (ax E Ik) [v] b::C):=by
 obtain ⟨j,l,F,⟨G,K,rfl,⟨B,k⟩,e⟩,n,m⟩:=h;rcases k with ⟨a,rfl,rfl⟩ | ⟨g,c,cap,cur,A,a,t,D,r,d,rfl,q⟩
 ·exact ⟨[],.nil,j,l,[] ++K,⟨[],K,rfl,⟨Nat.zero_le _,.inl ⟨a,rfl,rfl⟩⟩,e⟩,n,m⟩
 ·obtain ⟨b,rfl,u,f⟩:=OB z h1 q;have i:=f.length_eq;exact ⟨b,f,j,l,[g] ++K,⟨[g],K,rfl,⟨by omega,.inr ⟨g,c,cap,cur,[],by grind,t,by omega,r,by rw[h1] at d;exact d,rfl,u⟩⟩,e⟩,n,m⟩
theorem IU {α:Type} {E:TypeId} {R:Rep α} (r:Cpy R R) (h1:R.size=1) {I:Hp} {w:World} {C:List Ch} {v:Value} {xs:List α} {ps:List Raw} (hp:All2 (fun p x=>R.rd I [p.1] x) ps xs) (h:St I w0 w (Ch.own (ax E Ik) [v] ps::C)):St I w0 w (Ch.own (ax E R) [v] xs::C):=by
 obtain ⟨d,f,F,⟨G,K,rfl,⟨z,k⟩,e⟩,j,i⟩:=h;have c:=hp.length_eq;rcases k with ⟨a,rfl,rfl⟩ | ⟨g,b,cap,cur,u,a,q,A,n,l,rfl,m⟩
 ·cases hp;exact ⟨d,f,[] ++K,⟨[],K,rfl,⟨Nat.zero_le _,.inl ⟨a,rfl,rfl⟩⟩,e⟩,j,i⟩
 ·obtain ⟨rfl,t⟩:=OC r h1 m hp;exact ⟨d,f,[g] ++K,⟨[g],K,rfl,⟨by omega,.inr ⟨g,b,cap,cur,[],by grind,q,by omega,n,by rw[h1];exact l,rfl,t⟩⟩,e⟩,j,i⟩
theorem Zm {α:Type} {E:TypeId} {R:Rep α} (h1:R.size=1) {I:Hp} {v:Value} {xs:List α} (h:(ax E R).rd I [v] xs): ∃d:List Raw,All2 (fun p x=>R.rd I [p.1] x) d xs/\(ax E Ik).rd I [v] d:=by
 obtain ⟨n,cap,e,A,h⟩:=h;obtain rfl:v= .slice n xs.length cap:=by grind
 rcases h with rfl | ⟨b,off,a,t,w,rfl,r,F⟩
 ·exact ⟨[],.nil,n,cap,rfl,A,.inl rfl⟩
 ·have key: ∀(xs:List α) (f:Nat),(∀i x,xs[i]? =some x-> ∃c:List Value,c.length=R.size/\(∀j,j<R.size->a.toList[off+(f+i)*R.size+j]? =c[j]?)/\R.rd I c x)-> ∃d:List Raw,All2 (fun p x=>R.rd I [p.1] x) d xs/\ ∀i p,d[i]? =some p->a.toList[off+(f+i)]? =some p.1:=by
   intro xs;induction xs with
   | nil=>intro f _;exact ⟨[],.nil,fun i p hp=>by grind⟩
   | cons x xs ih =>
    intro f h;have ⟨c,z,G,m⟩:=h 0 x rfl;obtain ⟨p,rfl⟩:=List.length_eq_one_iff.1 (z.trans h1);have ⟨d,g,B⟩:=ih (f+1) fun i y C=>by
     have:=h (i+1) y (by grind)
     grind
    refine ⟨⟨p,R.rd_one m p (by simp)⟩::d,.cons m g,fun i u D=>?_⟩;cases i with
    | zero =>
     obtain rfl:⟨p,R.rd_one m p (by simp)⟩=u:=by grind
     simp_all
    | succ i =>
     grind
  have ⟨d,g,B⟩:=key xs 0 (fun i x H=>by grind);have q:=g.length_eq;refine ⟨d,g,_,cap,by grind,by omega,.inr ⟨b,off,a,t,w,rfl,r,fun i p hp=>?_⟩⟩;refine ⟨[p.1],rfl,fun j l=>?_,rfl⟩;have l:j=0:=by have:j<1:=l;omega
  subst l;show a.toList[off+i*1+0]? =_;grind
theorem p7 {α β:Type} {p:α->β->Prop} : ∀ {xs:List α} {ys:List β} (n:Nat),All2 p xs ys->All2 p (xs.drop n) (ys.drop n)
 | _,_,0,h=>h
 | _,_,n+1,.nil=>.nil
 | _,_,n+1,.cons _ h=>p7 n h
theorem xE {α:Type} {b:Nat} {xs zs:List α} (h:bA b [] xs=some zs):zs=xs/\(∀ {β:Type} (ys:List β),ys.length=xs.length->bA b [] ys=some ys):=by
 have ⟨c,a⟩:=xn h;simp_all[bA,if_pos]
theorem G0 {E':TypeId} {α:Type} {R:Rep α} (K:R.Sh) (n:Cpy R R) (h1:R.size=1) {g:FuncId} {E b:Nat} (f:yY P g E b) {xs zs:List α} {l:Nat} (N:l<=xs.length) (D:bA b [] (xs.drop l)=some zs) {v u:Value} (B:u=sI v l xs.length 1\/(l=0/\u=v)) {ts:Array TypeId} {J:Hp} {θ:Th} (e:Lay P J) (q:o.op= .call { callee:=.value (.func g),args:= #[x],argTypes:=ts }) {ev:Operand->Value} (G:ev x=u) (c:ev (.func g)= .func (.func g) #[] #[]) :
  OpT P J w0 o ev [Ch.own (ax E' R) [v] xs] (fun _=>True) (fun r=>[Ch.own (ax E' R) [v] xs,Ch.own (ax E R) [r] zs]):=by
 obtain ⟨rfl,ra⟩:=xE D;intro w C M;have ⟨a,hp,F⟩:=WW K h1 M;have d:=hp.length_eq;have p:OpT P J w0 o ev ([Ch.own (ax E' Ik) [v] a] ++ []) (fun _=>True) (fun r=>[Ch.own (ax E' Ik) [v] a] ++ [Ch.own (ax E Ik) [r] (a.drop l)]):=by
  refine xA (fun v=>⟨Bj (EB Zg),trivial⟩) fun m t j z=>?_;have h:=j (ax E' Ik) [v] a (by simp);have i:(ax E' Ik).rd m [u] (a.drop l):=by
   rcases B with rfl | ⟨rfl,rfl⟩
   ·rw[<-d];exact J7 h (by omega) rfl
   ·exact h
  exact pX f.1 q c (by grind) (f.2 E' m w0 u (a.drop l) (a.drop l) (e.mono t) i (ra _ (by grind)))
 have:=p w C (by simp_all)
 refine this.imp fun r L h=>⟨trivial,?_⟩
 have H:St J w0 L (Ch.own (ax E' Ik) [v] a::Ch.own (ax E Ik) [r] (a.drop l)::C):=by simpa using h.2
 have A:=IU n h1 hp H;have I:=IU n h1 (p7 l hp) (A.perm (List.Perm.swap _ _ _));exact I.perm (List.Perm.swap _ _ _)
theorem R7 {E':TypeId} {α:Type} {R:Rep α} (n:Cpy R R) (h1:R.size=1) {e:FuncId} {E b:Nat} (d:yY P e E b) {xs zs:List α} (i:bA b [] xs=some zs) {v:Value} {ts:Array TypeId} {J:Hp} (c:Lay P J) (l:(ax E' R).rd J [v] xs) (h:o.op= .call { callee:=.value (.func e),args:= #[x],argTypes:=ts }) {ev:Operand->Value} (j:ev x=v) (a:ev (.func e)= .func (.func e) #[] #[]) :
  OpT P J w0 o ev [] (fun _=>True) (fun r=>[Ch.own (ax E R) [r] zs]):=by
 obtain ⟨rfl,ra⟩:=xE i;have ⟨g,hp,f⟩:=Zm h1 l
 have:=pX (P:=P) (w0:=w0) (o:=o) d.1 h a (by grind) (d.2 E' J w0 v g g c f (ra _ hp.length_eq))
 exact OpT.post this fun r w C _ m=>⟨trivial,IU n h1 hp m⟩
theorem G5 {e:Ent} {rest:List Ent} {E:TypeId} {t:Ty} {xs:List t.den} (hp:s.chs.Perm (e::rest)) (a: ∀J θ,Fine P w0 J θ s->OpT P J w0 o (evL (envL θ s)) [toCh P θ e] (fun _=>True) (fun v=>[toCh P θ e,Ch.own (Ty.sl E t).rep [v] xs])):Good P w0 s o ⟨[e],[],rest,[(⟨s.nxt,[]⟩,.own (.sl E t) xs)],.one (.own ⟨s.nxt,[]⟩)⟩:=
 good_row (rs:=[e]) (ns:=[]) hp fun J θ b=>fun w C c=>(a J θ b w C c).imp fun v w hv=>⟨hv.1,hv.2.perm ((List.Perm.swap _ _ _).append_right C)⟩
theorem OD {q:FuncId} {E b:Nat} (d:yY P q E b) {ts:Array TypeId} (n:o.op= .call { callee:=.value (.func q),args:= #[x],argTypes:=ts }) (h:Oy s k E b x=some res):Oks P w0 s o k res:=by
 unfold Oy at h;split at h
 ·rename_i p z w t v l e;have ⟨r,m,h⟩:=bind_some h;have ⟨a,h⟩:=ai h;rw[aj,aj] at a;have g:=au a.1;have c:=au a.2.2;have ⟨u,j,h⟩:=bind_some h;obtain ⟨hp,-⟩:=bY m;refine ⟨_,h,G5 hp fun J θ f=>?_⟩;have i:=cf f e;have A:=OA m g i;rw[A];refine G0 (Ty.sh_ok a.2.1) (Ty.cpy a.2.1) (t.rep_size.trans c) d (l:=l.toNat) (by have:=i.2.1;omega) j (.inl ?_) (J:=J) (θ:=θ) f.lay n rfl rfl;rw[<-c];exact aH e
 ·rename_i p e;have ⟨r,m,h⟩:=bind_some h;have ⟨a,h⟩:=ai h;rw[aj] at a;have c:=au a.2;have ⟨u,j,h⟩:=bind_some h;obtain ⟨hp,-⟩:=bY m;refine ⟨_,h,G5 hp fun J θ f=>?_⟩;exact G0 (Ty.sh_ok a.1) (Ty.cpy a.1) (r.t.rep_size.trans c) d (l:=0) (Nat.zero_le _) (by grind) (.inr ⟨rfl,aH e⟩) (J:=J) (θ:=θ) f.lay n rfl rfl
 ·rename_i p w t v e;have ⟨a,h⟩:=ai h;rw[aj] at a;have c:=au a.2;have ⟨u,j,h⟩:=bind_some h;exact ⟨_,h,good_row (rs:=[]) (ns:=[]) (List.Perm.refl _) fun J θ f=>R7 (Ty.cpy a.1) (t.rep_size.trans c) d j f.lay (cf f e).2 n (aH e) rfl⟩
 grind
end
structure Fr (s:Sg) (θ:Th) (s':Sg) (θ':Th):Prop where
 le:s.nxt<=s'.nxt
 same:Same s.nxt θ θ'
 env: ∀e∈s'.env,e.2.1<s.nxt->e∈s.env
 chs:Newer s.nxt s.chs s'.chs
section
variable {s s1 s2:Sg} {θ θ1 θ2:Th}
theorem Fr.rfl:Fr s θ s θ:=⟨aF _,Same.rfl,fun e a _=>a,Newer.rfl⟩
theorem Fr.trans (h:Fr s θ s1 θ1) (k:Fr s1 θ1 s2 θ2):Fr s θ s2 θ2:=
 ⟨Nat.le_trans h.le k.le,h.same.trans k.same h.le,fun e f hv=>h.env e (k.env e f (aJ hv h.le)) hv,fun e f g a c i=>by
  rcases k.chs e f g a c i with j | ⟨l,d,b⟩
  ·exact .inl (Nat.le_trans h.le j)
  ·exact h.chs l d g a c b⟩
theorem Fr.put {d:Option Nat} {v:AV} {chs:List Ent} (hs:Same s.nxt θ θ1) (a:Newer s.nxt s.chs chs):Fr s θ ⟨NF d s.nxt v s.env,chs,s.nxt+1⟩ θ1:=
 ⟨Nat.le_succ _,hs,fun e b hv=>by
  rcases rN b with h | h
  ·rw[h.2] at hv;exact absurd hv (Nat.lt_irrefl _)
  ·exact h,a⟩
end
def BC (p:AV->Option AV):Nat->List (Nat×Nat×AV)->List (Nat×Nat×AV)
 | _,[] =>[]
 | k,e::l=>(match p e.2.2 with
  | some x=>(e.1,k,x)
  | none=>e)::BC p (k+1) l
section
variable {P:Program} {I J J':Hp} {w0 w:World} {F:Ch} {n:Nat} {θ θ':Th} {s:Sg} {a:Act}
theorem tG {p:AV->Option AV} {e:Nat×Nat×AV} : ∀ {l:List (Nat×Nat×AV)} {k:Nat},e∈BC p k l->(e∈l)\/(k<=e.2.1/\e.2.1<k+l.length/\ ∃e0∈l,e0.1=e.1/\p e0.2.2=some e.2.2)
 | [],k,h=>by cases h
 | e0::l,k,h=>by
  rcases aE h with h | h
  ·cases hp:p e0.2.2 with
   | some x=>rw[hp] at h;subst h;exact .inr ⟨aF _,by show k<k+(l.length+1);omega,e0,by simp,rfl,hp⟩
   | none=>rw[hp] at h;subst h;exact .inl (by simp)
  ·rcases tG h with h | ⟨f,g,d,b,c⟩
   ·exact .inl (by simp[h])
   ·exact .inr ⟨by omega,by rw[ay];omega,d,by simp[b],c⟩
theorem Ky {p:AV->Option AV} : ∀ {l:List (Nat×Nat×AV)} {k:Nat},l.Pairwise (fun a b=>a.2.1≠b.2.1)->(∀e∈l,e.2.1<k)->(BC p k l).Pairwise fun a b=>a.2.1≠b.2.1
 | [],_,_,_=>List.Pairwise.nil
 | e0::l,k,h,hk=>by
  obtain ⟨f,d⟩:=List.pairwise_cons.1 h;refine List.pairwise_cons.2 ⟨fun e c=>?_,Ky d fun e c=>bc (hk e (by simp[c]))⟩;have g:=hk e0 (by simp);rcases tG c with c | ⟨i,-,-⟩
  ·cases hp:p e0.2.2 with
   | some x =>
    have:=hk e (by simp[c])
    show k≠e.2.1;omega
   | none=>exact f e c
  ·cases hp:p e0.2.2 with
   | some x=>show k≠e.2.1;omega
   | none=>show e0.2.1≠e.2.1;omega
theorem DO {p:AV->Option AV} : ∀ {l:List (Nat×Nat×AV)} {k:Nat},(∀e∈l,e.2.2.v θ'=e.2.2.v θ)->(∀e∈l,∀x,p e.2.2=some x->x.v θ'=e.2.2.v θ)->(BC p k l).map (fun e=>(e.1,e.2.2.v θ'))=l.map fun e=>(e.1,e.2.2.v θ)
 | [],_,_,_=>rfl
 | e0::l,k,h,hp=>by
  rw[BC,List.map_cons,List.map_cons,DO (fun e b=>h e (by simp[b])) fun e b=>hp e (by simp[b])];congr 1;cases c:p e0.2.2 with
  | some x=>show (e0.1,x.v θ')=_;rw[hp e0 (by simp) x c]
  | none=>show (e0.1,e0.2.2.v θ')=_;rw[h e0 (by simp)]
theorem Sim.repl {p:AV->Option AV} {b:List Ent} (d:Sim P I w0 F n J θ s a w) (hs:Same s.nxt θ θ') (i:J.le J') (j:St J' w0 w (b.map (toCh P θ')++ [F])) (k:Newer s.nxt s.chs b) (g: ∀e∈b,okE P w0 J' θ' (s.nxt+1) b e)
  (hp: ∀e∈s.env,∀x,p e.2.2=some x->x.ok P w0 J' θ' (s.nxt+1) b/\x.v θ'=e.2.2.v θ):Sim P I w0 F n J' θ' ⟨BC p (s.nxt+1) s.env,b,s.nxt+1+s.env.length⟩ a w/\Fr s θ ⟨BC p (s.nxt+1) s.env,b,s.nxt+1+s.env.length⟩ θ':=by
 have f:s.nxt+1<=s.nxt+1+s.env.length:=Nat.le_add_right _ _;refine ⟨⟨d.le.trans i,?_,j,fun e c=>?_,fun e c=>?_,Ky d.fine.nd fun e c=>bc (d.fine.ver e c),fun e c=>gL Same.rfl f Newer.rfl (g e c) Hp.le.rfl,d.fine.lay.mono i⟩,by show s.nxt<=s.nxt+1+s.env.length;omega,hs,fun e c hv=>?_,k⟩
 ·have:envL θ' ⟨BC p (s.nxt+1) s.env,b,s.nxt+1+s.env.length⟩=envL θ s:=DO (fun e c=>AV.v_same hs (d.fine.env e c)) fun e c x o=>(hp e c x o).2
  rw[this];exact d.agr
 ·rcases tG c with c | ⟨-,-,l,q,-,h⟩
  ·exact AV.ok_same hs (by show s.nxt<=s.nxt+1+s.env.length;omega) k (d.fine.env e c) i
  ·exact AV.ok_same Same.rfl f Newer.rfl (hp l q _ h).1 Hp.le.rfl
 ·rcases tG c with c | ⟨h,m,-⟩
  ·have:=d.fine.ver e c
   show e.2.1<s.nxt+1+s.env.length;omega
  ·exact m
 ·rcases tG c with c | ⟨h,-⟩
  ·exact c
  ·exfalso;omega
end
def Zn (h:Hdr) (s:Sg):Option Sg:=(pull h s.chs).bind fun r=>match r.1.2.2 with
 | .box T t d=>some ⟨s.env,(h,s.nxt,.blk T (jo s.nxt (fun j=>[j]) t d 0))::((sJ s.nxt (fun j=>[j]) t d 0).map (fun g=>(g.1,s.nxt,g.2))++r.2),s.nxt+1⟩
 | _=>none
section
variable {P:Program} {I J:Hp} {w0 w:World} {F:Ch} {n:Nat} {θ:Th} {s s':Sg} {a:Act} {h:Hdr}
theorem R8 (hs:Zn h s=some s') (o:Sim P I w0 F n J θ s a w): ∃θ',Sim P I w0 F n J θ' s' a w/\Fr s θ s' θ':=by
 obtain ⟨r,O,hs⟩:=bind_some hs;obtain ⟨p,k⟩:=gC O;obtain ⟨⟨y,L,c⟩,rest⟩:=r;obtain rfl:y=h:=k;cases c with
 | box T t d =>
  obtain rfl:=ae (show some _=some s' from hs);have z:=o.fine.chs _ (p.mem_iff.2 (List.mem_cons_self ..));have H:=o.st.perm ((p.map (toCh P θ)).append_right [F]);have x:St J w0 w (Ch.box (bk (hv θ y)) T t.rep d::(rest.map (toCh P θ)++ [F])):=H;obtain ⟨cells,x⟩:=St.box.1 x;let θ':=upd θ s.nxt (.agg cells.toArray);have b:Same s.nxt θ θ':=Same.upd;have N:=x.perm (List.Perm.swap _ _ _);obtain ⟨M,K,G,D⟩:=kj (P:=P) (m:=s.nxt) (θ:=θ') (pth:=fun j=>[j]) (n:=s.nxt+1) (aB _) t d 0 cells _ (fun i v B=>by
   show vg (upd θ s.nxt (.agg cells.toArray) s.nxt) [0+i] =v;rw[iF,Nat.zero_add];exact UG (by simpa using B)) N
  have u: ∀e,e∈rest->e∈s.chs:=fun e f=>p.mem_iff.2 (bF _ f);have q:Newer s.nxt s.chs ((y,s.nxt,.blk T (jo s.nxt (fun j=>[j]) t d 0))::((sJ s.nxt (fun j=>[j]) t d 0).map (fun g=>(g.1,s.nxt,g.2))++rest)):=fun e f Q C c l=>by
   rcases aE f with rfl | f
   ·obtain ⟨rfl,l⟩:=l;rcases l with ⟨x,-⟩ | l
    ·exact .inl (Nat.le_of_eq x)
    ·exact l.elim
   ·rcases aG f with f | f
    ·obtain ⟨g,A,rfl⟩:=List.mem_map.1 f;rcases l.2 with ⟨x,-⟩ | l
     ·exact .inl (Nat.le_of_eq x)
     ·exact (xC (jH t d 0 g A) l).elim
    ·exact .inr ⟨e,u e f,l⟩
  refine ⟨θ',⟨o.le,?_,?_,fun e f=>AV.ok_same b (Nat.le_succ _) q (o.fine.env e f) Hp.le.rfl,fun e f=>bc (o.fine.ver e f),o.fine.nd,fun e f=>?_,o.fine.lay⟩,Nat.le_succ _,b,fun e f _=>f,q⟩
  ·show Agr n a (envL θ' s);rw[Bk b o.fine.env];exact o.agr
  ·rw[List.map_cons,aZ,List.map_map];have E:toCh P θ' (y,s.nxt,Chk.blk T (jo s.nxt (fun j=>[j]) t d 0))=Ch.blk (bk (hv θ y)) cells T:=by
    show Ch.blk (bk (hv θ' y)) ((jo s.nxt (fun j=>[j]) t d 0).map (·.v θ')) T=_;rw[K,be b z.1]
   rw[E,ke b fun e f=>o.fine.chs e (u e f)]
   have:=D.perm (List.perm_middle (l₁:=(sJ s.nxt (fun j=>[j]) t d 0).map fun g=>toCh P θ' (g.1,s.nxt,g.2)))
   rw[List.cons_append,aC];exact this
  ·rcases aE f with rfl | f
   ·exact ⟨bc z.1,aB _,M⟩
   ·rcases aG f with f | f
    ·obtain ⟨g,A,rfl⟩:=List.mem_map.1 f;exact tF (jH t d 0 g A) (by rw[G g A];exact aB _) (aB _)
    ·exact gL b (Nat.le_succ _) q (o.fine.chs e (u e f)) Hp.le.rfl
 | _=>cases hs
end
def IV:List Ent->List Hdr
 | [] =>[]
 | (h,_,.box _ _ _)::l=>h::IV l
 | _::l=>IV l
def OE:List Hdr->Sg->Sg
 | [],s=>s
 | h::hs,s=>OE hs (match Zn h s with
  | some s'=>s'
  | none=>s)
def tg (s:Sg):Sg:=OE (IV s.chs) s
def BD (h:Hdr):LV->Bool
 | .own h'=>Hdr.beq h' h
 | _=>false
def LV.frz (h:Hdr) (t:Ty) (d:t.den) (x:LV):LV:=match BD h x with
 | true=>.rd h t d
 | false=>x
def AV.frz (h:Hdr) (t:Ty) (d:t.den):AV->Option AV
 | .one x=>match BD h x with
  | true=>some (.one (.rd h t d))
  | false=>none
 | .agg xs=>match xs.any (BD h) with
  | true=>some (.agg (xs.map (LV.frz h t d)))
  | false=>none
 | .tup ys=>match ys.any fun y=>y.2.any (BD h) with
  | true=>some (.tup (ys.map fun y=>(y.1,y.2.map (LV.frz h t d))))
  | false=>none
 | _=>none
def OF (h:Hdr) (t:Ty) (d:t.den) (k:Nat) (e:Ent):Ent:=match e.2.2 with
 | .blk T cells=>match cells.any (BD h) with
  | true=>(e.1,k,.blk T (cells.map (LV.frz h t d)))
  | false=>e
 | _=>e
def UP (h:Hdr) (y:AV) (x:AV):Option AV:=match x with
 | .one (.ptr h' off)=>match Hdr.beq h' h&&Nat.beq off 0 with
  | true=>some y
  | false=>none
 | _=>none
section
variable {P:Program} {J J':Hp} {w0:World} {n m k:Nat} {θ:Th} {h:Hdr} {t:Ty} {d:t.den} {chs:List Ent}
theorem G6 {x:LV} (a:BD h x=true):x= .own h:=by
 unfold BD at a;split at a
 ·rw[Hdr.beq_eq a]
 ·cases a
theorem LV.frz_v (x:LV):(x.frz h t d).v θ=x.v θ:=by
 unfold LV.frz;split
 ·rename_i a;rw[G6 a];rfl
 ·rfl
theorem LV.frz_ok {x:LV} (a:x.ok P w0 J θ n) (c:n<=m) (f:J.le J') (e:h.id<m) (b:t.rep.rd J' [hv θ h] d):(x.frz h t d).ok P w0 J' θ m:=by
 unfold LV.frz;split
 ·exact ⟨e,b⟩
 ·exact LV.ok_same Same.rfl c a f
theorem IW (xs:List LV):(xs.map (LV.frz h t d)).map (·.v θ)=xs.map (·.v θ):=by
 rw[List.map_map];exact List.map_congr_left fun x _=>LV.frz_v x
theorem R9 (y:Bool×List LV):l9 θ (y.1,y.2.map (LV.frz h t d))=l9 θ y:=by
 obtain ⟨b,l⟩:=y;unfold l9;dsimp only;rw[IW];cases b with
 | true=>rfl
 | false =>
  cases l with
  | nil=>rfl
  | cons x l=>exact LV.frz_v x
theorem AV.frz_ok {x y:AV} (a:x.frz h t d=some y) (p:x.ok P w0 J θ n chs) {c:List Ent} (o:n<=m) (l:J.le J') (f:h.id<m) (j:t.rep.rd J' [hv θ h] d):y.ok P w0 J' θ m c/\y.v θ=x.v θ:=by
 unfold AV.frz at a;split at a
 ·split at a
  ·rename_i r;obtain rfl:=ae a;rw[G6 r];exact ⟨⟨f,j⟩,rfl⟩
  ·cases a
 ·split at a
  ·obtain rfl:=ae a;refine ⟨fun z g=>?_,?_⟩
   ·obtain ⟨e,b,rfl⟩:=List.mem_map.1 g;exact LV.frz_ok (p e b) o l f j
   ·show Value.agg _=Value.agg _;rw[IW]
  ·cases a
 ·split at a
  ·obtain rfl:=ae a;refine ⟨fun z g=>?_,?_⟩
   ·obtain ⟨e,b,rfl⟩:=List.mem_map.1 g;intro u q;obtain ⟨s,i,rfl⟩:=List.mem_map.1 q;exact LV.frz_ok (p e b s i) o l f j
   ·show Value.tuple _=Value.tuple _;rw[List.map_map];congr 2;exact List.map_congr_left fun z _=>R9 z
  ·cases a
 ·cases a
theorem OG (e:Ent):toCh P θ (OF h t d k e)=toCh P θ e:=by
 obtain ⟨b,v,c⟩:=e;unfold OF;split
 ·rename_i T cells a;split
  ·show Ch.blk _ ((cells.map _).map _) _=_;rw[IW];obtain rfl:c= .blk T cells:=a
   rfl
  ·rfl
 ·rfl
theorem OH {e:Ent} {b:Hdr} {ver:Nat} {c:Chk} (hs:Says (OF h t d k e) b ver c):ver=k\/Says e b ver c:=by
 unfold OF at hs;split at hs
 ·split at hs
  ·rcases hs.2 with ⟨a,-⟩ | a
   ·exact .inl a.symm
   ·exact a.elim
  ·exact .inr hs
 ·exact .inr hs
theorem Mk {l:List Ent} :Newer k l (l.map (OF h t d k)):=fun e j o f c g=>by
 obtain ⟨i,a,rfl⟩:=List.mem_map.1 j;rcases OH g with b | b
 ·exact .inl (Nat.le_of_eq b.symm)
 ·exact .inr ⟨i,a,b⟩
theorem WX {e:Ent} (l:okE P w0 J θ n chs e) {a:List Ent} (q:Newer n chs a) (f:n<m) (j:J.le J') (o:h.id<m) (s:t.rep.rd J' [hv θ h] d):okE P w0 J' θ m a (OF h t d n e):=by
 have g:=gL Same.rfl (Nat.le_of_lt f) q l j;unfold OF;split
 ·rename_i T cells b;split
  ·obtain ⟨u,v,c⟩:=e;obtain rfl:c= .blk T cells:=b;exact ⟨g.1,f,fun x p=>by
    obtain ⟨r,i,rfl⟩:=List.mem_map.1 p;exact LV.frz_ok (l.2.2 r i) (Nat.le_of_lt f) j o s⟩
  ·exact g
 ·exact g
end
abbrev Trs:=List (TypeId×TypeId×Ty)
def abL (l:Trs) (T:TypeId):Option (TypeId×Ty):=match l with
 | [] =>none
 | (U,x)::l=>if Nat.beq U T then some x else abL l T
def Zo (tr:Trs):Ty->Bool
 | .tree _ _ _=>true
 | .sl E _=>match abL tr E with
  | some q=>Nat.beq q.1 0
  | none=>false
 | _=>false
def OI (tr:Trs) (h:Hdr) (s:Sg):Option Sg:=(pull h s.chs).bind fun r=>match r.1.2.2 with
 | .own t d=>match Zo tr t with
  | true=>some ⟨BC (AV.frz h t d) (s.nxt+1) s.env,r.2.map (OF h t d s.nxt),s.nxt+1+s.env.length⟩
  | false=>none
 | _=>none
def UQ (T E:TypeId) (t:Ty) (x:LV) (chs:List Ent):Option (List (Tr t.den)×List Ent×List Ent):=match x with
 | .own h=>(rowOf h chs).bind fun r=>(oX (.sl r.E r.t) (.sl E (.tree T E t)) r.xs).bind fun ks=>some (ks,[r.ent h],r.rest)
 | x=>(RL E (.tree T E t) x).bind fun ks=>some (ks,[],chs)
def OJ (tr:Trs) (h:Hdr) (s:Sg):Option Sg:=(rO h s.chs).bind fun b=>(abL tr b.T).bind fun q=>(fl q.2 b.cells).bind fun a=>match a.2 with
 | [kid] =>(UQ b.T q.1 q.2 kid b.rest).bind fun ks=>some ⟨BC (UP h (.one (.rd ⟨s.nxt,[]⟩ (.tree b.T q.1 q.2) (.node a.1 ks.1)))) (s.nxt+1) s.env,ks.2.2,s.nxt+1+s.env.length⟩
 | _=>none
section
variable {P:Program} {I J:Hp} {w0 w:World} {F:Ch} {n:Nat} {θ:Th} {s s':Sg} {a:Act} {h:Hdr}
theorem OK {m:Nat} {chs b:List Ent} (h: ∀e,e∈b->e∈chs):Newer m chs b:=fun e g i d c f=>.inr ⟨e,h e g,f⟩
theorem OL {tr:Trs} (hs:OI tr h s=some s') (m:Sim P I w0 F n J θ s a w): ∃z,J.le z/\Sim P I w0 F n z θ s' a w/\Fr s θ s' θ:=by
 obtain ⟨r,D,hs⟩:=bind_some hs;obtain ⟨p,k⟩:=gC D;obtain ⟨⟨j,q,c⟩,rest⟩:=r;obtain rfl:j=h:=k;cases c with
 | own t d =>
  have hs:(match Zo tr t with
   | true=>some (⟨BC (AV.frz j t d) (s.nxt+1) s.env,rest.map (OF j t d s.nxt),s.nxt+1+s.env.length⟩:Sg)
   | false=>none)=some s':=hs
  split at hs
  ·obtain rfl:=ae (show some _=some s' from hs);have l:=m.fine.chs _ (p.mem_iff.2 (List.mem_cons_self ..));have v:St J w0 w (Ch.own t.rep [hv θ j] d::(rest.map (toCh P θ)++ [F])):=m.st.perm ((p.map (toCh P θ)).append_right [F]);obtain ⟨z,y,u,A⟩:=v.freeze;have f: ∀e,e∈rest->e∈s.chs:=fun e i=>p.mem_iff.2 (bF _ i);have b:Newer s.nxt s.chs (rest.map (OF j t d s.nxt)):=fun e i B q c hs=>by
    rcases Mk e i B q c hs with v | ⟨o,g,v⟩
    ·exact .inl v
    ·exact .inr ⟨o,f o g,v⟩
   refine ⟨z,y,m.repl Same.rfl y ?_ b (fun e i=>?_) fun e i x C=>AV.frz_ok C (m.fine.env e i) (Nat.le_succ _) y (bc l.1) u⟩
   ·rw[List.map_map,List.map_congr_left fun e _=>(show (toCh P θ ∘ OF j t d s.nxt) e=toCh P θ e from OG e)];exact A
   ·obtain ⟨o,g,rfl⟩:=List.mem_map.1 i;exact WX (m.fine.chs o (f o g)) b (aB _) y (bc l.1) u
  ·cases hs
 | _=>cases hs
theorem OM {tr:Trs} (hs:OJ tr h s=some s') (y:Sim P I w0 F n J θ s a w): ∃J' θ',J.le J'/\Sim P I w0 F n J' θ' s' a w/\Fr s θ s' θ':=by
 obtain ⟨b,hb,hs⟩:=bind_some hs;obtain ⟨⟨E,t⟩,hq,hs⟩:=bind_some hs;obtain ⟨c,hc,hs⟩:=bind_some hs;have p:=lf hb;have K:=y.fine.chs _ (p.mem_iff.2 (List.mem_cons_self ..));have g: ∀x∈b.cells,x.ok P w0 J θ s.nxt:=K.2.2;obtain ⟨c1,S,k1⟩:=jG (J:=J) (θ:=θ) hc g;split at hs
 ·rename_i o k;obtain ⟨C,d,hs⟩:=bind_some hs;obtain rfl:=ae hs;have Z:=y.st.perm ((p.map (toCh P θ)).append_right [F]);have V:St J w0 w (Ch.blk (bk (hv θ h)) (b.cells.map (·.v θ)) b.T::(b.rest.map (toCh P θ)++ [F])):=Z;have M:b.cells.map (·.v θ)=c1.map (·.v θ)++ [o.v θ]:=by rw[S,k,aZ];rfl
  let θ':=upd θ s.nxt (.pointer (some ⟨bk (hv θ h),0,none⟩));have f:Same s.nxt θ θ':=Same.upd;have key: ∃u,J.le u/\(Ty.sl E (.tree b.T E t)).rep.rd u [o.v θ] C.1/\St u w0 w (Ch.blk (bk (hv θ h)) (b.cells.map (·.v θ)) b.T::(C.2.2.map (toCh P θ)++ [F]))/\ ∀e,e∈C.2.2->e∈b.rest:=by
   unfold UQ at d;split at d
   ·rename_i W;obtain ⟨r,hr,d⟩:=bind_some d;obtain ⟨X,m,d⟩:=bind_some d;obtain rfl:=ae d;obtain ⟨U,-⟩:=bY hr;have Y:St J w0 w (Ch.own (Ty.sl r.E r.t).rep [hv θ W] r.xs::Ch.blk (bk (hv θ h)) (b.cells.map (·.v θ)) b.T::(r.rest.map (toCh P θ)++ [F])):=by
     refine (V.perm ?_:St J w0 w _)
     have:=((U.map (toCh P θ)).append_right [F]).cons (Ch.blk (bk (hv θ h)) (b.cells.map (·.v θ)) b.T)
     exact this.trans (List.Perm.swap _ _ _)
    obtain ⟨u,q,R,N⟩:=Y.freeze;exact ⟨u,q,jE m R,N,fun e j=>U.mem_iff.2 (bF _ j)⟩
   ·obtain ⟨X,m,d⟩:=bind_some d;obtain rfl:=ae d;exact ⟨J,Hp.le.rfl,Bn m (g o (by rw[S,k];simp)),V,fun e j=>j⟩
  obtain ⟨u,q,Q,B,O⟩:=key;obtain ⟨T,D,A,G⟩:=B.freeze_blk;have H:J.le T:=q.trans D;have i: ∀e,e∈C.2.2->e∈s.chs:=fun e j=>p.mem_iff.2 (bF _ (O e j));have l:Newer s.nxt s.chs C.2.2:=OK i;have z:hv θ' ⟨s.nxt,[]⟩= .pointer (some ⟨bk (hv θ h),0,none⟩):=iF;refine ⟨T,θ',H,y.repl f H ?_ l (fun e j=>gL f (Nat.le_succ _) l (y.fine.chs e (i e j)) H) fun e j x v=>?_⟩
  ·rw[ke f fun e j=>y.fine.chs e (i e j)];exact G
  ·unfold UP at v;split at v
   ·rename_i h' off L;split at v
    ·rename_i hp;obtain rfl:=ae v;rw[aj] at hp;refine ⟨⟨aB _,?_⟩,?_⟩
     ·rw[z];rw[M] at A;exact Nz A (Rep.rd_mono _ k1 H) (Rep.rd_mono _ Q D)
     ·rw[L,Hdr.beq_eq hp.1,au hp.2];exact z
    ·cases v
   ·cases v
 ·cases hs
end
def orS (x:Option Sg) (s:Sg):Sg:=match x with
 | some s'=>s'
 | none=>s
def Sa (tr:Trs):List (Bool×Hdr)->Sg->Sg
 | [],s=>s
 | (true,h)::hs,s=>Sa tr hs (orS (OJ tr h s) s)
 | (false,h)::hs,s=>Sa tr hs (orS (OI tr h s) s)
section
variable {P:Program} {I J:Hp} {w0 w:World} {F:Ch} {n:Nat} {θ:Th} {s s':Sg} {a:Act}
theorem E7: ∀ {hs:List Hdr} {s:Sg} {θ:Th},Sim P I w0 F n J θ s a w-> ∃θ',Sim P I w0 F n J θ' (OE hs s) a w/\Fr s θ (OE hs s) θ'
 | [],s,θ,hS=>⟨θ,hS,Fr.rfl⟩
 | h::hs,s,θ,hS=>by
  unfold OE;split
  ·rename_i s' f;obtain ⟨θ1,e,c⟩:=R8 f hS;obtain ⟨θ2,b,d⟩:=E7 (hs:=hs) e;exact ⟨θ2,b,c.trans d⟩
  ·exact E7 hS
theorem AY (b:Sim P I w0 F n J θ s a w): ∃θ',Sim P I w0 F n J θ' (tg s) a w/\Fr s θ (tg s) θ':=E7 b
theorem wG {tr:Trs} : ∀ {hs:List (Bool×Hdr)} {s:Sg} {J:Hp} {θ:Th},Sim P I w0 F n J θ s a w-> ∃J' θ',J.le J'/\Sim P I w0 F n J' θ' (Sa tr hs s) a w/\Fr s θ (Sa tr hs s) θ'
 | [],s,J,θ,hS=>⟨J,θ,Hp.le.rfl,hS,Fr.rfl⟩
 | (true,h)::hs,s,J,θ,hS=>by
  unfold Sa;cases i:OJ tr h s with
  | some s' =>
   obtain ⟨k,θ1,f,b,d⟩:=OM i hS;obtain ⟨j,θ2,e,c,g⟩:=wG (hs:=hs) b;exact ⟨j,θ2,f.trans e,c,d.trans g⟩
  | none=>exact wG hS
 | (false,h)::hs,s,J,θ,hS=>by
  unfold Sa;cases i:OI tr h s with
  | some s' =>
   obtain ⟨k,f,b,d⟩:=OL i hS;obtain ⟨j,θ2,e,c,g⟩:=wG (hs:=hs) b;exact ⟨j,θ2,f.trans e,c,d.trans g⟩
  | none=>exact wG hS
end
end R
namespace D
open Go.RowKit
section
variable {P:Program} {I J:Hp} {w0 w w':World} {cs C:List Ch} {o:Oper} {ev:Operand->Value}
theorem BE {α:Type} {R:Rep α} (a:Cpy R R): ∀ {xs:List α} {cur:List Value},(∀i x,xs[i]? =some x-> ∃c:List Value,c.length=R.size/\(∀j,j<R.size->cur[i*R.size+j]? =c[j]?)/\R.rd I c x)->OwnEls R I w cur xs []
 | [],cur,_=>rfl
 | x::xs,cur,h=>by
  have ⟨c,e,m,b⟩:=h 0 x rfl;refine ⟨c,cur.drop R.size,[],[],?_,e,rfl,a b,BE a fun i y l=>?_⟩
  ·apply List.ext_getElem?;grind
  ·have ⟨d,k,f,g⟩:=h (i+1) y (by grind);grind
end
section
variable {P:Program} {I J:Hp} {w0 w w':World} {cs C:List Ch} {o:Oper} {ev:Operand->Value}
theorem DP {α:Type} {E:TypeId} {R:Rep α} (b:R.Sh) {k:Nat} (t:R.size=k) {g ofs n cap:Nat} {xs:List α} (h:St I w0 w (Ch.own (ax E R) [.slice (some ⟨g,ofs,none⟩) n cap] xs::C)) :
  n=xs.length/\xs.length<=cap/\cap<=maxLen/\ ∃cur,w.heap[g]? =some (.cells cur E (0,0))/\ofs+cap*k<=cur.size/\ ∀(i:Nat) x,xs[i]? =some x-> ∃c:List Value,c.length=k/\(∀j,j<k->(cur.toList.drop ofs)[i*k+j]? =c[j]?)/\R.rd I c x:=by
 obtain ⟨B,H,F,⟨G,K,rfl,⟨A,r⟩,u⟩,y,D⟩:=h;rcases r with ⟨hv,rfl,rfl⟩ | ⟨v,f,l,cur,z,hv,q,p,m,d,rfl,e⟩
 ·simp at hv
 ·simp only[List.cons.injEq,Value.slice.injEq,Option.some.injEq,Addr.mk.injEq,and_true] at hv;obtain ⟨⟨rfl,rfl⟩,rfl,rfl⟩:=hv;obtain rfl:=e.sh b;have a:=fun i x s=>e.at Hp.le.rfl (by simp) i x s;rw[t] at a d;exact ⟨rfl,p,m,cur,q,d,a⟩
theorem IX {α:Type} {E:TypeId} {R:Rep α} (M:R.Sh) (hC:Cpy R R) {k:Nat} (S:R.size=k) {g ofs n cap p cnt:Nat} {xs zs:List α} {news:List Value} (hn:news.length=cnt*k) (f:p+cnt<=cap) (hz:zs.length<=cap) (r:zs.length<=lim)
  (l: ∀i z,zs[i]? =some z->(p<=i/\i<p+cnt/\ ∃c:List Value,c.length=k/\(∀j,j<k->news[(i - p)*k+j]? =c[j]?)/\R.rd I c z)\/((i<p\/p+cnt<=i)/\xs[i]? =some z))
  (h:St I w0 w (Ch.own (ax E R) [.slice (some ⟨g,ofs,none⟩) n cap] xs::C)):St I w0 (w.setCells g (ofs+p*k) news) (Ch.own (ax E R) [.slice (some ⟨g,ofs,none⟩) zs.length cap] zs::C):=by
 obtain ⟨v,hi,F,⟨G,K,rfl,⟨hl,e2⟩,e3⟩,H,W⟩:=h;rcases e2 with ⟨hv,rfl,rfl⟩ | ⟨g',V,X,cur,K1,hv,k1,k2,k3,Z,rfl,T⟩
 ·simp at hv
 ·simp only[List.cons.injEq,Value.slice.injEq,Option.some.injEq,Addr.mk.injEq,and_true] at hv;obtain ⟨⟨rfl,rfl⟩,rfl,rfl⟩:=hv;obtain rfl:=T.sh M;have m:=fun i x O=>T.at Hp.le.rfl (by simp) i x O;rw[S] at m Z;have N:cur.toList.length=cur.size:=Array.length_toList;have m0:(p+cnt)*k=p*k+cnt*k:=Nat.add_mul _ _ _;have m1:(p+cnt)*k<=cap*k:=Nat.mul_le_mul_right _ f;have a:ofs+p*k+news.length<=cur.size:=by omega
  obtain ⟨o1,o2,o3,Y,U⟩:=qz g news (ofs+p*k) w;have s:=tx news (ofs+p*k) w cur a k1;have L:g∉K:=by rw[List.cons_append] at H;simpa using (List.nodup_cons.1 H).1
  have key: ∀q,((cur.toList.take (ofs+p*k)++news++cur.toList.drop (ofs+p*k+news.length)).toArray.toList.drop ofs)[q]? =if p*k<=q/\q<p*k+cnt*k then news[q - p*k]? else (cur.toList.drop ofs)[q]? :=by
   intro q;rw[List.getElem?_drop];show (cur.toList.take (ofs+p*k)++news++cur.toList.drop (ofs+p*k+news.length))[ofs+q]? =_;have d:(cur.toList.take (ofs+p*k)).length=ofs+p*k:=by rw[aq];omega
   by_cases y:q<p*k
   ·rw[if_neg (by omega),aC,List.getElem?_append_left (by omega),List.getElem?_take,if_pos (by omega),List.getElem?_drop]
   ·by_cases A:q<p*k+cnt*k
    ·rw[if_pos (by omega),aC,List.getElem?_append_right (by omega),d,List.getElem?_append_left (by omega)];congr 1;omega
    ·rw[if_neg (by omega),List.getElem?_append_right (by rw[az];omega),az,d,hn,List.getElem?_drop,List.getElem?_drop];congr 1;omega
  refine ⟨⟨o1.trans v.1,o2.trans v.2.1,o3.trans v.2.2.1,by rw[Y];exact v.2.2.2⟩,fun q u t=>?_,[g] ++K,⟨[g],K,rfl,⟨r,.inr ⟨g,ofs,cap,_,[],rfl,s,hz,k3,?_,rfl,BE hC fun i x O=>?_⟩⟩,e3.stay fun q t=>U q fun e=>L (e ▸ t)⟩,H,W⟩
  ·show (w.setCells g (ofs+p*k) _).heap[q]? =some u;rw[U q fun e=>by rw[e,W g (by simp)] at t;cases t];exact hi q u t
  ·rw[S];simp only[List.size_toArray,az,aq,a7,N];omega
  ·rw[S];rcases l i x O with ⟨b,D,c,y,A,Q⟩ | ⟨b,D⟩
   ·refine ⟨c,y,fun j B=>?_,Q⟩;have a1:p*k<=i*k:=Nat.mul_le_mul_right _ b;have a2:i*k+k<=p*k+cnt*k:=by rw[<-Nat.succ_mul,<-Nat.add_mul];exact Nat.mul_le_mul_right _ D
    have a3:(i - p)*k=i*k - p*k:=Nat.sub_mul _ _ _;rw[key,if_pos (by omega),<-A j B,a3];congr 1;omega
   ·obtain ⟨c,y,A,Q⟩:=m i x D;refine ⟨c,y,fun j B=>?_,Q⟩;have a1:i*k+k<=p*k\/p*k+cnt*k<=i*k:=by
     rcases b with b | b
     ·left;rw[<-Nat.succ_mul];exact Nat.mul_le_mul_right _ b
     ·right;rw[<-Nat.add_mul];exact Nat.mul_le_mul_right _ b
    rw[key,if_neg (by omega)];exact A j B
def tH (cur:Array Value) (ofs k j m:Nat):List Value:=((cur.toList.drop ofs).drop (j*k)).take ((m - j)*k)
theorem uS {cur:Array Value} {ofs k j m cap:Nat} (h:ofs+cap*k<=cur.size) (a:j<=m) (b:m<=cap):(tH cur ofs k j m).length=(m - j)*k:=by
 have e:m*k<=cap*k:=Nat.mul_le_mul_right _ b;have c:(m - j)*k=m*k - j*k:=Nat.sub_mul _ _ _;have d:j*k<=m*k:=Nat.mul_le_mul_right _ a;unfold tH;rw[aq,a7,a7,Array.length_toList];omega
theorem mX {cur:Array Value} {ofs k j m q:Nat} (a:q<(m - j)*k):(tH cur ofs k j m)[q]? =(cur.toList.drop ofs)[j*k+q]? :=by
 unfold tH;rw[List.getElem?_take,if_pos a,List.getElem?_drop]
theorem Ml {α:Type} {R:Rep α} {xs:List α} {cur:Array Value} {ofs k j m:Nat} (g:0<k) (l:m<=xs.length) (d: ∀(i:Nat) x,xs[i]? =some x-> ∃c:List Value,c.length=k/\(∀j,j<k->(cur.toList.drop ofs)[i*k+j]? =c[j]?)/\R.rd I c x): ∀u∈tH cur ofs k j m,u.oneCell'=true:=by
 intro u h;obtain ⟨q,f⟩:=List.getElem?_of_mem h;have a:=(List.getElem?_eq_some_iff.1 f).1;have b:q<(m - j)*k:=by
  unfold tH at a;rw[aq] at a;omega
 rw[mX b] at f;have s:(m - j)*k=m*k - j*k:=Nat.sub_mul _ _ _;have t:m*k<=xs.length*k:=Nat.mul_le_mul_right _ l;have e:(j*k+q) / k<xs.length:=by rw[Nat.div_lt_iff_lt_mul g];omega
 obtain ⟨c,r,n,p⟩:=d _ _ (List.getElem?_eq_getElem e)
 have:=n ((j*k+q) % k) (Nat.mod_lt _ g)
 rw[Nat.div_add_mod',f] at this;exact R.rd_one p u (List.mem_of_getElem? this.symm)
theorem y8 {g ofs:Nat} {cur:Array Value} {E:TypeId} {a:Nat×Nat} (h:w.heap[g]? =some (.cells cur E a)) (q:Nat):w.cell? ⟨g,ofs+q,none⟩=(cur.toList.drop ofs)[q]? :=by
 simp[World.cell?,h]
def q8 {α:Type} (xs:List α) (i j m:Nat):List α:=xs.take i++(((xs.take m).drop j)++xs.drop (i+(m - j)))
theorem xF {α:Type} {xs:List α} {i j m:Nat} (h1:i<=j) (a:j<=m) (b:m<=xs.length):(q8 xs i j m).length=xs.length:=by
 simp only[q8,az,aq,a7];omega
theorem DQ {α:Type} {xs:List α} {i j m q:Nat} (h1:i<=j) (d:j<=m) (e:m<=xs.length):(q8 xs i j m)[q]? =if i<=q/\q<i+(m - j) then xs[j+(q - i)]? else xs[q]? :=by
 have b:(xs.take i).length=i:=by rw[aq];omega
 have a:((xs.take m).drop j).length=m - j:=by rw[a7,aq];omega
 unfold q8;by_cases c:q<i
 ·rw[if_neg (by omega),List.getElem?_append_left (by omega),List.getElem?_take,if_pos c]
 ·rw[List.getElem?_append_right (by omega),b];by_cases f:q<i+(m - j)
  ·rw[if_pos (by omega),List.getElem?_append_left (by omega),List.getElem?_drop,List.getElem?_take,if_pos (by omega)]
  ·rw[if_neg (by omega),List.getElem?_append_right (by omega),a,List.getElem?_drop];congr 1;omega
theorem E8 {α:Type} {E T:TypeId} {R:Rep α} {z:Value} {n b:Nat} {x y:Operand} {g ofs cap len i j m c:Nat} {a:Addr} {xs:List α} (v:R.Sh) (hC:Cpy R R) (hT:P.underlying T=some (.slice E)) (hE:TZ P E z n b) (W:0<n) (O:R.size=n)
  (Q:o.op= .call { callee:=.builtin .append,args:= #[x,y],argTypes:= #[T,T] }) (hx:ev x= .slice (some ⟨g,ofs,none⟩) i cap) (V:ev y= .slice (some a) (m - j) c) (ha:j<m->a=⟨g,ofs+j*n,none⟩) (l:i<=j) (B:j<=m) (s:m<=xs.length) :
  OpT P I w0 o ev [Ch.own (ax E R) [.slice (some ⟨g,ofs,none⟩) len cap] xs] (· = .slice (some ⟨g,ofs,none⟩) (i+(m - j)) cap) (fun _=>[Ch.own (ax E R) [.slice (some ⟨g,ofs,none⟩) len cap] (q8 xs i j m)]):=by
 intro w C M;obtain ⟨info,H,hz,d,U⟩:=info_parts hE;obtain ⟨rfl,N,r2,cur,F,r4,A⟩:=DP v O M;have f:=uS (k:=n) (j:=j) r4 B (Nat.le_trans s N);have m1:xs.length*n<=cap*n:=Nat.mul_le_mul_right _ N;have m2:i*n<=j*n:=Nat.mul_le_mul_right _ l;have m3:(m - j)*n=m*n - j*n:=Nat.sub_mul _ _ _;have m4:j*n<=m*n:=Nat.mul_le_mul_right _ B;have m5:m*n<=xs.length*n:=Nat.mul_le_mul_right _ s;have K:(cur.toList.drop ofs).length=cur.size - ofs:=by rw[a7,Array.length_toList]
 have h:=run_append_room_cells (P:=P) w T o.type E info hT H g ofs i cap a (m - j) c (tH cur ofs n j m) (by rw[d];exact f) (fun q u e=>by
  have r:=(List.getElem?_eq_some_iff.1 e).1;rw[f] at r;rw[mX r] at e;by_cases G:j<m
  ·rw[ha G];simp only[Addr.add_mid];rw[Nat.add_assoc,y8 F];exact e
  ·rw[show m - j=0 from by omega] at r;omega) (Ml W s A) (by omega) (fun q e=>by
  rw[f] at e;rw[d,Nat.add_assoc,y8 F,List.getElem?_eq_getElem (by rw[K];omega)];rfl) (fun q _=>by simp[World.frozen?,F])
 rw[d] at h;rw[eN Q hx V h];have L:=xF (xs:=xs) l B s;have Y:=(M.hd 0 rfl).2
 have:=IX (zs:=q8 xs i j m) v hC O (p:=i) (cnt:=m - j) f (by omega) (by omega) (by omega) (fun q u e=>by
  rw[DQ l B s] at e;by_cases D:i<=q/\q<i+(m - j)
  ·rw[if_pos D] at e;obtain ⟨c,Z,d2,S⟩:=A _ _ e;refine .inl ⟨D.1,D.2,c,Z,fun t X=>?_,S⟩;have e1:(q - i)*n+n<=(m - j)*n:=by rw[<-Nat.succ_mul];exact Nat.mul_le_mul_right _ (by omega)
   rw[mX (by omega),<-d2 t X,Nat.add_mul];congr 1;omega
  ·rw[if_neg D] at e;exact .inr ⟨by omega,e⟩) M
 rw[L] at this;exact ⟨rfl,this⟩
theorem BF (w:World) (t e ty:TypeId) (z:Value) (g:P.underlying t=some (.slice e)) (hv:(zeroValue e).run P w= .ok z w) (b o n c:Nat) (h:0<n)
  (d: ∀j,j<(Builtin.zeroCells z.cells n).toList.length->(w.cell? ⟨b,o+j,none⟩).isSome=true) (f: ∀j,j<(Builtin.zeroCells z.cells n).toList.length->w.frozen? ⟨b,o+j,none⟩=false) (h1: ∀v∈(Builtin.zeroCells z.cells n).toList,v.oneCell'=true) :
  (Builtin.clear_ #[t] ty #[.slice (some ⟨b,o,none⟩) n c]).run P w= .ok (.tuple #[]) (w.setCells b o (Builtin.zeroCells z.cells n).toList):=by
 have a:=run_storeCells_cells (P:=P) b o (Builtin.zeroCells z.cells n).toList 0 w (by simpa using d) (by simpa using f) h1;simp only[Nat.add_zero] at a;obtain ⟨m,rfl⟩: ∃m,n=m+1:=⟨n - 1,by omega⟩;simp[Builtin.clear_,run_underlying g,hv,a]
theorem tI (w:World) (t e ty:TypeId) (b:P.underlying t=some (.slice e)) (a:Option Addr) (c:Nat):(Builtin.clear_ #[t] ty #[.slice a 0 c]).run P w= .ok (.tuple #[]) w:=by
 cases a <;> simp[Builtin.clear_,run_underlying b]
theorem qC {x:Operand} {T:TypeId} {v r:Value} {w w':World} (c:o.op= .call { callee:=.builtin .clear,args:= #[x],argTypes:= #[T] }) (a:ev x=v) (b:(Builtin.clear_ #[T] o.type #[v]).run P w= .ok r w'):(execOp ev o).run P w= .ok (.value r) w':=by
 simp only[execOp,c,resolve,invoke,builtin,Sem.run_bind,Sem.run_pure,Result.andThen_ok,List.map_toArray,List.map_cons,List.map_nil,a,b]
theorem rR {a:Array Value} {n:Nat} :(Builtin.zeroCells a n).toList.length=n*a.size:=by simp[Builtin.zeroCells]
theorem xG {a:Array Value} {n i j:Nat} (hi:i<n) (b:j<a.size):(Builtin.zeroCells a n).toList[i*a.size+j]? =a.toList[j]? :=by
 have d:i*a.size+j<n*a.size:=by
  have:i*a.size+a.size<=n*a.size:=by rw[<-Nat.succ_mul];exact Nat.mul_le_mul_right _ hi
  omega
 have c:(i*a.size+j) % a.size=j:=by rw[Nat.add_comm,Nat.add_mul_mod_self_right,Nat.mod_eq_of_lt b]
 simp[Builtin.zeroCells,d,c,b]
def tJ {α:Type} (xs:List α) (l m:Nat) (z:α):List α:=xs.take l++(List.replicate (m - l) z++xs.drop m)
theorem tK {α:Type} {xs:List α} {l m:Nat} {z:α} (h1:l<=m) (a:m<=xs.length):(tJ xs l m z).length=xs.length:=by
 simp only[tJ,az,aq,a7,List.length_replicate];omega
theorem G7 {α:Type} {xs:List α} {l m q:Nat} {z:α} (h1:l<=m) (c:m<=xs.length):(tJ xs l m z)[q]? =if l<=q/\q<m then some z else xs[q]? :=by
 have a:(xs.take l).length=l:=by rw[aq];omega
 unfold tJ;by_cases b:q<l
 ·rw[if_neg (by omega),List.getElem?_append_left (by omega),List.getElem?_take,if_pos b]
 ·rw[List.getElem?_append_right (by omega),a];by_cases d:q<m
  ·rw[if_pos (by omega),List.getElem?_append_left (by rw[List.length_replicate];omega),List.getElem?_replicate,if_pos (by omega)]
  ·rw[if_neg (by omega),List.getElem?_append_right (by rw[List.length_replicate];omega),List.length_replicate,List.getElem?_drop];congr 1;omega
theorem G8 {α:Type} {E T:TypeId} {R:Rep α} {z:Value} {h:α} {n b:Nat} {x:Operand} {g ofs cap len l m c:Nat} {a:Addr} {xs:List α} (r:R.Sh) (V:Cpy R R) (O:P.underlying T=some (.slice E)) (Y:TZ P E z n b) (Z:0<n) (Q:R.size=n) (e:z.cells.size=n) (j:R.rd I z.cells.toList h)
  (M:o.op= .call { callee:=.builtin .clear,args:= #[x],argTypes:= #[T] }) (s:ev x= .slice (some a) (m - l) c) (W:l<m->a=⟨g,ofs+l*n,none⟩) (A:l<=m) (B:m<=xs.length) :
  OpT P I w0 o ev [Ch.own (ax E R) [.slice (some ⟨g,ofs,none⟩) len cap] xs] (fun _=>True) (fun _=>[Ch.own (ax E R) [.slice (some ⟨g,ofs,none⟩) len cap] (tJ xs l m h)]):=by
 intro w C y;obtain ⟨rfl,U,r2,cur,L,r4,X⟩:=DP r Q y;by_cases H:l=m
 ·subst H;rw[Nat.sub_self] at s;rw[qC M s (tI w T E o.type O _ _)];refine ⟨trivial,?_⟩
  have:tJ xs l l h=xs:=by simp[tJ]
  rw[this];exact y
 ·have F:l<m:=by omega
  rw[W F] at s;have m1:xs.length*n<=cap*n:=Nat.mul_le_mul_right _ U;have m3:(m - l)*n=m*n - l*n:=Nat.sub_mul _ _ _;have m4:l*n<=m*n:=Nat.mul_le_mul_right _ A;have m5:m*n<=xs.length*n:=Nat.mul_le_mul_right _ B;have G:(cur.toList.drop ofs).length=cur.size - ofs:=by rw[a7,Array.length_toList]
  have N:(Builtin.zeroCells z.cells (m - l)).toList.length=(m - l)*n:=by rw[rR,e]
  have k: ∀v∈(Builtin.zeroCells z.cells (m - l)).toList,v.oneCell'=true:=by
   intro v f;simp only[Builtin.zeroCells,Array.toList_map,List.mem_map] at f;obtain ⟨q,-,rfl⟩:=f;have d:q % z.cells.size<z.cells.size:=Nat.mod_lt _ (by omega);rw[getElem!_pos z.cells _ d];exact R.rd_one j _ (by simp)
  have i:=BF (P:=P) w T E o.type z O (Y.run_zero w) g (ofs+l*n) (m - l) c (by omega) (fun q d=>by
   rw[N] at d;rw[Nat.add_assoc,y8 L,List.getElem?_eq_getElem (by rw[G];omega)];rfl) (fun q _=>by simp[World.frozen?,L]) k
  rw[qC M s i];have K:=tK (xs:=xs) (z:=h) A B;have S:=(y.hd 0 rfl).2
  have:=IX (zs:=tJ xs l m h) r V Q (p:=l) (cnt:=m - l) N (by omega) (by omega) (by omega) (fun q u d=>by
   rw[G7 A B] at d;by_cases D:l<=q/\q<m
   ·rw[if_pos D] at d;obtain rfl:=ae d;refine .inl ⟨D.1,by omega,z.cells.toList,by rw[Array.length_toList,e],fun t ht=>?_,j⟩;rw[<-e,xG (by omega) (by omega)]
   ·rw[if_neg D] at d;exact .inr ⟨by omega,d⟩) y
  rw[K] at this;exact ⟨trivial,this⟩
end
end D
namespace R
open Go.RowKit
open D
theorem Vw.hd {u v:Value} {k n:Nat} {l m:Int} (h:Vw u v k n l m): ∃a c,u= .slice a (m.toNat - l.toNat) c/\0<=l/\l<=m:=by
 rcases h with ⟨-,rfl,-,rfl,rfl⟩ | ⟨g,b,cap,x,-,rfl,e,d,-⟩
 ·grind
 grind
theorem Vw.one {u v:Value} {k n:Nat} {l m:Int} (h:Vw u v k n l m):u.oneCell'=true:=by
 obtain ⟨a,c,rfl,_⟩:=h.hd;rfl
theorem BG {I:Hp} {w0 w:World} {C:List Ch} {α:Type} {E:TypeId} {R:Rep α} {v:Value} {xs:List α} {k:Nat} (h:St I w0 w (Ch.own (ax E R) [v] xs::C)):Vw v v k xs.length 0 xs.length:=by
 obtain ⟨n,q,F,⟨G,K,rfl,⟨m,c⟩,e⟩,f,p⟩:=h;rcases c with ⟨hv,rfl,rfl⟩ | ⟨g,a,cap,cur,l,hv,o,b,j,d,rfl,i⟩
 ·obtain rfl:v= .slice none 0 0:=by grind
  exact .inl ⟨rfl,rfl,rfl,rfl,rfl⟩
 ·obtain rfl:v= .slice (some ⟨g,a,none⟩) xs.length cap:=by grind
  exact .inr ⟨g,a,cap,0,rfl,by simp,by omega,by omega,b,by omega,Nat.zero_le _,.inr (by simp)⟩
theorem ON {I:Hp} {w0 w:World} {C:List Ch} {α:Type} {E:TypeId} {R:Rep α} {u v:Value} {xs:List α} {k n:Nat} {l m:Int} (h:St I w0 w (Ch.own (ax E R) [v] xs::C)) (hv:Vw u v k n l m):n=xs.length:=by
 have d:=BG (k:=k) h;rcases hv with ⟨rfl,-,rfl,-,-⟩ | ⟨g,c,cap,x,rfl,-,-⟩ <;> rcases d with ⟨e,-,q,-,-⟩ | ⟨f,a,b,i,e,-,-⟩
 ·omega
 ·cases e
 ·cases e
 grind
theorem Sb {u v w:Value} {k n:Nat} {l m a c:Int} (h:Vw u v k n l m) (h1:0<=a) (t:a<=c) (D:l+c<=(n:Int)\/c<=m - l) {ao:Option Addr} {len cap:Nat} (i:u= .slice ao len cap) (q:w=sliced ao a.toNat c.toNat cap k):Vw w v k n (l+a) (l+c):=by
 rcases h with ⟨rfl,rfl,rfl,rfl,rfl⟩ | ⟨g,b,f,x,rfl,rfl,E,A,j,C,y,z⟩
 ·obtain rfl:a=0:=by omega
  obtain rfl:c=0:=by omega
  injection i with e r d
  subst e;subst d;exact .inl ⟨rfl,by grind[sliced],rfl,rfl,rfl⟩
 ·injection i with e r d
  subst e;subst d;subst q;have s:(l+a).toNat=l.toNat+a.toNat:=by omega
  have o:(l+c).toNat - (l+a).toNat=c.toNat - a.toNat:=by omega
  have B:(l.toNat+a.toNat)*k=l.toNat*k+a.toNat*k:=Nat.add_mul _ _ _;by_cases p:f - l.toNat=a.toNat
  ·refine .inr ⟨g,b,f,x,rfl,?_,by omega,by omega,j,by omega,by grind,.inl (by omega)⟩;simp[sliced,p,if_true,o];grind
  ·refine .inr ⟨g,b,f,x+a.toNat*k,rfl,?_,by omega,by omega,j,by omega,by grind,?_⟩
   ·simp[sliced,p,if_false,o,Option.map_some,Addr.add_mid,Nat.add_assoc];grind
   grind
def oI (ev:Operand->Value):Option Operand->Option Int->Prop
 | none,none=>True
 | some x,some m=>ev x= .int .i64 m
 | _,_=>False
section
variable {P:Program} {I:Hp} {w0:World} {o:Oper} {ev:Operand->Value}
theorem DR {t e:TypeId} {x:Operand} {lo hi:Option Operand} {ml mh:Option Int} {ao:Option Addr} {len cap n:Nat} {agg:Bool} (d:P.underlying t=some (.slice e)) (f:TI P e agg n) (h:o.op= .slice t x lo hi none) (k:ev x= .slice ao len cap) (b:oI ev lo ml) (a:oI ev hi mh) (c:len<=cap)
  (h1:0<=ml.getD 0) (g:ml.getD 0<=mh.getD len) (i:mh.getD len<=(cap:Int)) :
  OpT P I w0 o ev [] (· =sliced ao (ml.getD 0).toNat (mh.getD len).toNat cap n) (fun _=>[]):=by
 have j:P.elem t=e:=by simp[Program.elem,d]
 refine bB fun w=>?_;have l:=TI.size f w;cases lo with
 | none =>
  cases ml with
  | some _=>exact b.elim
  | none =>
   cases hi with
   | none =>
    cases mh with
    | some _=>exact a.elim
    | none =>
     simp_all[execOp,Option.map_some,Option.map_none,Sem.run_bind,run_sliceAt_slice,run_slice_all,Result.andThen_ok]
   | some hi =>
    cases mh with
    | none=>exact a.elim
    | some mh =>
     have a:ev hi= .int .i64 mh:=a;simp_all[execOp,Option.map_some,Option.map_none,Sem.run_bind,run_sliceAt_slice,run_slice_h,Result.andThen_ok]
 | some lo =>
  cases ml with
  | none=>exact b.elim
  | some ml =>
   have b:ev lo= .int .i64 ml:=b;cases hi with
   | none =>
    cases mh with
    | some _=>exact a.elim
    | none =>
     simp_all[execOp,Option.map_some,Option.map_none,Sem.run_bind,run_sliceAt_slice,run_slice_l,Result.andThen_ok]
   | some hi =>
    cases mh with
    | none=>exact a.elim
    | some mh =>
     have a:ev hi= .int .i64 mh:=a;simp_all[execOp,Option.map_some,Option.map_none,Sem.run_bind,run_sliceAt_slice,run_slice_lh,Result.andThen_ok]
theorem Mm {t e:TypeId} {x y z q:Operand} {ml mh a:Int} {ao:Option Addr} {len cap n:Nat} {agg:Bool} (b:P.underlying t=some (.slice e)) (c:TI P e agg n) (f:o.op= .slice t x (some y) (some z) (some q)) (l:ev x= .slice ao len cap) (h:ev y= .int .i64 ml) (i:ev z= .int .i64 mh) (p:ev q= .int .i64 a)
  (h1:0<=ml) (d:ml<=mh) (j:mh<=a) (g:a<=(cap:Int)) :
  OpT P I w0 o ev [] (fun _=>True) (fun _=>[]):=by
 have k:P.elem t=e:=by simp[Program.elem,b]
 refine OpT.weak (bB (v:=sliced ao ml.toNat mh.toNat a.toNat n) fun w=>?_) (fun _ _=>trivial) (fun _ _=>rfl);have m:=TI.size c w;simp_all[execOp,Option.map_some,Sem.run_bind,run_sliceAt_slice,run_slice_lhm,Result.andThen_ok]
end
def Sc:(t:Ty)->List Value->Option t.den
 | .raw,[v] =>if h:v.oneCell'=true then some (⟨v,h⟩:Raw) else none
 | .prod .raw b,v::cs=>if h:v.oneCell'=true then (Sc b cs).bind fun d=>some ((⟨v,h⟩:Raw),d) else none
 | _,_=>none
theorem Sd {J:Hp} : ∀ {t:Ty} {cs:List Value} {d:t.den},Sc t cs=some d->t.rep.rd J cs d:=by
 intro t;induction t with
 | raw =>
  intro cs d h
  match cs,h with
  | [],h=>cases h
  | _::_::_,h=>cases h
  | [v],h =>
   by_cases c:v.oneCell'=true
   ·have h:(if h:v.oneCell'=true then some (⟨v,h⟩:Raw) else none)=some d:=h;rw[dif_pos c] at h;cases ae h;rfl
   ·have h:(if h:v.oneCell'=true then some (⟨v,h⟩:Raw) else none)=some d:=h;grind
 | prod a b iha ihb =>
  intro cs d h;cases a with
  | raw =>
   cases cs with
   | nil=>cases h
   | cons v cs =>
    unfold Sc at h;split at h
    ·have ⟨f,e,h⟩:=Option.bind_eq_some_iff.1 h;cases ae h;exact ⟨[v],cs,rfl,rfl,ihb e⟩
    grind
  | _=>cases cs <;> cases h
 | _=>intro cs d h;cases cs <;> cases h
def Se (e t:Ty):Option t.den:=match oX e t (EH e) with
 | some z=>some z
 | none=>Sc t (zeroCells e)
theorem Kz {e t:Ty} {z:t.den} (h:Se e t=some z) (J:Hp):t.rep.rd J (zeroCells e) z:=by
 grind[Se,ae,jE,qA,Sd]
structure Vb where
 x:Bool
 h:Hdr
 k:Nat
 l:Int
 m:Int
 r:Row
section
variable {Y:Type} (tt:TT) (s:Sg) (k:Res->Option Y)
def Zp (chs:List Ent) (x:Operand):Option Vb:=match opd s x with
 | some (.one (.own h))=>(rowOf h chs).bind fun r=>some ⟨false,h,r.t.size,0,(r.xs.length:Int),r⟩
 | some (.vw u h k n l m)=>(rowOf h chs).bind fun r=>cg (Nat.beq k r.t.size) (some ⟨false,h,k,l,m,r⟩)
 | some (.xv top u h k n l m)=>match rowOf u chs with
  | some r=>cg (Nat.beq k r.t.size) (some ⟨false,u,k,0,(r.xs.length:Int),r⟩)
  | none=>(rowOf h chs).bind fun r=>cg (Nat.beq k r.t.size) (some ⟨true,h,k,l,m,r⟩)
 | _=>none
def Rk (x:Operand):Option Vb:=Zp s s.chs x
def loV (x:Option Operand) (d:Int) (k:Int->Option Y):Option Y:=match x with
 | none=>k d
 | some x=>(asI s x).bind k
def E9 (T:TypeId) (x:Operand) (lo hi:Option Operand):Option Y:=(td tt T).bind fun d=>d.el.bind fun E'=>(td tt E').bind fun e=>(Rk s x).bind fun b=>cg (Nat.beq e.n b.k) (loV s lo 0 fun ml=>loV s hi (b.m - b.l) fun mh =>
 match b.x with
 | false=>(chk (0<=ml/\ml<=mh/\b.l+mh<=(b.r.xs.length:Int))).bind fun _=>k ⟨[b.r.ent b.h],[],b.r.rest,[],.vw ⟨s.nxt,[]⟩ b.h b.k b.r.xs.length (b.l+ml) (b.l+mh)⟩
 | true=>(chk (0<=ml/\ml<=mh/\mh<=b.m - b.l)).bind fun _=>k ⟨[b.r.ent b.h],[],b.r.rest,[],.xv false ⟨s.nxt,[]⟩ b.h b.k b.r.xs.length (b.l+ml) (b.l+mh)⟩)
def OO (T:TypeId) (x y z q:Operand):Option Y:=(td tt T).bind fun d=>d.el.bind fun E'=>(td tt E').bind fun e=>(Rk s x).bind fun b=>cg (Nat.beq e.n b.k) ((asI s y).bind fun ml=>(asI s z).bind fun mh=>(asI s q).bind fun mx =>
 (chk (0<=ml/\ml<=mh/\mh<=mx/\b.l+mx<=(b.r.xs.length:Int))).bind fun _=>k ⟨[b.r.ent b.h],[],b.r.rest,[],.any ⟨s.nxt,[]⟩⟩)
def WY (T:TypeId) (x:Operand):Option Y:=(td tt T).bind fun d=>match d.el,opd s x with
 | some _,some (.vw u h k' n l m)=>k (.pure s (.one (.val (.int .i64 (m - l)))))
 | some _,some (.xv _ u h k' n l m)=>k (.pure s (.one (.val (.int .i64 (m - l)))))
 | _,_=>none
def IY (T:TypeId) (x i:Operand):Option Y:=(td tt T).bind fun d=>d.el.bind fun E=>(td tt E).bind fun e=>(Rk s x).bind fun b=>cg (Nat.beq e.n b.k) ((asI s i).bind fun i=>(chk (0<=i/\i<b.m - b.l)).bind fun _=>(aU b.r.xs (b.l+i)).bind fun a=>k ⟨[b.r.ent b.h],[],b.r.rest,[],.elo b.h b.r.ver b.r.E b.r.t b.r.xs a (b.l+i) 0⟩)
def Zq (T:TypeId) (x y:Operand):Option Y:=(td tt T).bind fun d=>d.el.bind fun E=>(td tt E).bind fun e=>e.bytes.bind fun _=>(Rk s x).bind fun b=>(Rk s y).bind fun c =>
 cg (Nat.beq e.n b.k&&Hdr.beq c.h b.h&&Nat.beq b.r.E E&&b.r.t.sh) ((chk (b.l=0/\b.m<=c.l/\c.l<=c.m/\c.m<=(b.r.xs.length:Int))).bind fun _=>k ⟨[],[b.r.ent b.h],b.r.rest,[(b.h,.own (.sl b.r.E b.r.t) (q8 b.r.xs b.m.toNat c.l.toNat c.m.toNat))],.vw ⟨s.nxt,[]⟩ b.h b.k b.r.xs.length 0 (b.m+(c.m - c.l))⟩)
def OP (T:TypeId) (x:Operand):Option Y:=(td tt T).bind fun d=>d.el.bind fun E=>(td tt E).bind fun e=>e.bytes.bind fun _=>(Rk s x).bind fun b =>
 cg (Nat.beq e.n b.k&&Nat.beq b.r.E E&&b.r.t.sh) ((Se e.ty b.r.t).bind fun z=>(chk (b.l<=b.m/\b.m<=(b.r.xs.length:Int))).bind fun _=>k ⟨[],[b.r.ent b.h],b.r.rest,[(b.h,.own (.sl b.r.E b.r.t) (tJ b.r.xs b.l.toNat b.m.toNat z))],.any ⟨s.nxt,[]⟩⟩)
end
section
variable {Y:Type} {tt:TT} {s:Sg} {k:Res->Option Y} {P:Program} {w0:World} {o:Oper} {res:Y} {x y:Operand}
theorem IZ {chs:List Ent} {b:Vb} (h:Zp s chs x=some b):rowOf b.h chs=some b.r/\b.k=b.r.t.size/\ ∀ {J:Hp} {θ:Th},Fine P w0 J θ s-> ∀ {w:World} {C:List Ch} {xs:List b.r.t.den},xs.length=b.r.xs.length->St J w0 w (Ch.own (ax b.r.E b.r.t.rep) [hv θ b.h] xs::C)->Vw (evL (envL θ s) x) (hv θ b.h) b.k b.r.xs.length b.l b.m:=by
 unfold Zp at h;split at h
 ·rename_i p d;have ⟨r,g,h⟩:=bind_some h;cases ae h;refine ⟨g,rfl,fun {J θ} j {w C xs} e i=>?_⟩;have c:=BG (k:=r.t.size) i;rw[e] at c;rw[aH (θ:=θ) d];exact c
 ·rename_i u p q n l m d;have ⟨r,g,h⟩:=bind_some h;have ⟨a,h⟩:=ai h;have a:=au a;cases ae h;refine ⟨g,a,fun {J θ} j {w C xs} e i=>?_⟩;have f:=cf j d;have c:=f.2.2.1;cases ON i c;rw[aH (θ:=θ) d,<-e];exact c
 ·rename_i top u p q n l m d;split at h
  ·rename_i r g;have ⟨a,h⟩:=ai h;have a:=au a;cases ae h;refine ⟨g,a,fun {J θ} j {w C xs} e i=>?_⟩;have c:=BG (k:=q) i;rw[e] at c;rw[aH (θ:=θ) d];exact c
  ·have ⟨r,g,h⟩:=bind_some h;have ⟨a,h⟩:=ai h;have a:=au a;cases ae h;refine ⟨g,a,fun {J θ} j {w C xs} e i=>?_⟩;have f:=cf j d;have c:=f.2.2.1;cases ON i c;rw[aH (θ:=θ) d,<-e];exact c
 grind
theorem rS {b:Vb} (h:Rk s x=some b):rowOf b.h s.chs=some b.r/\b.k=b.r.t.size/\ ∀ {J:Hp} {θ:Th},Fine P w0 J θ s-> ∀ {w:World} {C:List Ch} {xs:List b.r.t.den},xs.length=b.r.xs.length->St J w0 w (Ch.own (ax b.r.E b.r.t.rep) [hv θ b.h] xs::C)->Vw (evL (envL θ s) x) (hv θ b.h) b.k b.r.xs.length b.l b.m:=IZ h
theorem UR {Z:Type} {x:Option Operand} {d:Int} {k:Int->Option Z} {z:Z} (h:loV s x d k=some z): ∃m:Option Int,k (m.getD d)=some z/\ ∀θ,oI (evL (envL θ s)) x m:=by
 unfold loV at h;split at h
 ·exact ⟨none,h,fun _=>trivial⟩
 ·have ⟨q,a,h⟩:=bind_some h;exact ⟨some q,h,fun θ=>o8 a θ⟩
theorem WZ {h:Hdr} {r:Row} {e:Nat} {l m:Int} (f:rowOf h s.chs=some r) (i:m<=(r.xs.length:Int)) (b: ∀J θ,Fine P w0 J θ s->OpT P J w0 o (evL (envL θ s)) [toCh P θ (r.ent h)] (fun v=>Vw v (hv θ h) e r.xs.length l m) (fun _=>[toCh P θ (r.ent h)])):Good P w0 s o ⟨[r.ent h],[],r.rest,[],.vw ⟨s.nxt,[]⟩ h e r.xs.length l m⟩:=by
 obtain ⟨hp,-⟩:=bY f;refine ⟨o6 hp,aX rfl,fun J θ d=>OpT.weak (b J θ d) (fun u c=>?_) (fun u c=>rfl)⟩;have a:=lQ d hp;refine ⟨⟨aB _,bc a.1,?_,i⟩,eH,fun g j=>by cases j⟩;rw[eH,show hv (upd θ s.nxt u) h=hv θ h from be Same.upd a.1];exact c
theorem OQ {top:Bool} {h:Hdr} {r:Row} {c:Nat} {l m:Int} (j:rowOf h s.chs=some r) (f:top=true->l=0) (b: ∀J θ,Fine P w0 J θ s->OpT P J w0 o (evL (envL θ s)) [toCh P θ (r.ent h)] (fun v=>Vw v (hv θ h) c r.xs.length l m) (fun _=>[toCh P θ (r.ent h)])):Good P w0 s o ⟨[r.ent h],[],r.rest,[],.xv top ⟨s.nxt,[]⟩ h c r.xs.length l m⟩:=by
 obtain ⟨hp,-⟩:=bY j;refine ⟨o6 hp,aX rfl,fun J θ e=>OpT.weak (b J θ e) (fun u d=>?_) (fun u d=>rfl)⟩;have a:=lQ e hp;refine ⟨⟨aB _,bc a.1,?_,f⟩,eH,fun g i=>by cases i⟩;rw[eH,show hv (upd θ s.nxt u) h=hv θ h from be Same.upd a.1];exact d
theorem za (E:TTok P tt) {T:TypeId} {lo hi:Option Operand} (K:o.op= .slice T x lo hi none) (h:E9 tt s k T x lo hi=some res):Oks P w0 s o k res:=by
 have ⟨d,H,h⟩:=bind_some h;have ⟨W,R,h⟩:=bind_some h;have ⟨e,O,h⟩:=bind_some h;have ⟨b,L,h⟩:=bind_some h;have ⟨D,h⟩:=ai h;have D:=au D;have ⟨p,h,r⟩:=UR h;have ⟨a,h,z⟩:=UR h;have ⟨F,U,l⟩:=rS (P:=P) (w0:=w0) L;have key:0<=p.getD 0->p.getD 0<=a.getD (b.m - b.l)->(b.l+a.getD (b.m - b.l)<=(b.r.xs.length:Int)\/a.getD (b.m - b.l)<=b.m - b.l)-> ∀J θ,Fine P w0 J θ s->OpT P J w0 o (evL (envL θ s)) [toCh P θ (b.r.ent b.h)] (fun v=>Vw v (hv θ b.h) b.k b.r.xs.length (b.l+p.getD 0) (b.l+a.getD (b.m - b.l))) (fun _=>[toCh P θ (b.r.ent b.h)]):=by
  intro i c f J θ Q w C G;have A:=l Q rfl G;have ⟨ao,cap,B,M,N⟩:=A.hd;have j:b.m.toNat - b.l.toNat<=cap/\b.l+cap≥b.r.xs.length:=by
   rcases A with ⟨-,q,n,e2,V⟩ | ⟨g,S,cp,Z,-,q,q1,q2,q3,q4,X,q6⟩
   ·omega
   ·grind
  have n:a.getD (b.m - b.l)=a.getD ((b.m.toNat - b.l.toNat:Nat):Int):=by
   cases a with
   | none=>grind
   | some _=>rfl
  rw[n] at c f
  have:=DR (P:=P) (I:=J) (w0:=w0) (ev:=evL (envL θ s)) ((E.get H).el _ R) (E.get O).ti K B (r θ) (z θ) j.1 i c (by omega) w (toCh P θ (b.r.ent b.h)::C) G
  refine this.imp fun v w' m=>⟨?_,m.2⟩
  rw[n];exact Sb A i c f B (by grind)
 split at h
 ·have ⟨u,t,h⟩:=bind_some h;have ⟨i,c,f⟩:=bM t;exact ⟨_,h,WZ F f (key i c (.inl f))⟩
 ·have ⟨u,t,h⟩:=bind_some h;have ⟨i,c,f⟩:=bM t;exact ⟨_,h,OQ F (fun e=>by cases e) (key i c (.inr f))⟩
theorem Mn (m:TTok P tt) {T:TypeId} {y z q:Operand} (t:o.op= .slice T x (some y) (some z) (some q)) (h:OO tt s k T x y z q=some res):Oks P w0 s o k res:=by
 have ⟨d,r,h⟩:=bind_some h;have ⟨W,M,h⟩:=bind_some h;have ⟨e,F,h⟩:=bind_some h;have ⟨b,v,h⟩:=bind_some h;have ⟨V,h⟩:=ai h;have ⟨ml,i,h⟩:=bind_some h;have ⟨Z,j,h⟩:=bind_some h;have ⟨mx,c,h⟩:=bind_some h;have ⟨u,H,h⟩:=bind_some h;have ⟨A,B,N,S⟩:=bM H;have ⟨K,Q,a⟩:=rS (P:=P) (w0:=w0) v;obtain ⟨hp,-⟩:=bY K;refine ⟨_,h,o6 hp,aX rfl,fun J θ L=>OpT.weak (fact:=fun _=>True) (gv:=fun _=>[toCh P θ (b.r.ent b.h)]) (fun w C n=>?_) (fun u f=>⟨aB _,eH,fun g G=>by cases G⟩) (fun u f=>rfl)⟩;have p:=a L rfl n;have ⟨ao,cap,f,D,E⟩:=p.hd;have l:b.l+cap≥b.r.xs.length:=by
  rcases p with ⟨-,q,U,e2,R⟩ | ⟨g,O,cp,x',-,q,q1,q2,q3,q4,X,q6⟩
  ·omega
  ·grind
 exact Mm (P:=P) (I:=J) (w0:=w0) (ev:=evL (envL θ s)) ((m.get r).el _ M) (m.get F).ti t f (o8 i θ) (o8 j θ) (o8 c θ) A B N (by omega) w (toCh P θ (b.r.ent b.h)::C) n
theorem KB (q:TTok P tt) {T:TypeId} (j:o.op= .call { callee:=.builtin .len,args:= #[x],argTypes:= #[T] }) (h:WY tt s k T x=some res):Oks P w0 s o k res:=by
 have ⟨d,p,h⟩:=bind_some h;split at h
 ·rename_i E u t w n l m g f;refine ma h rfl fun J θ i=>?_;have b:=cf i f;have ⟨a,c,e,v,r⟩:=b.2.2.1.hd
  have:=xl (P:=P) (I:=J) (w0:=w0) (o:=o) (ev:=evL (envL θ s)) ((q.get p).el _ g) j ((aH (θ:=θ) f).trans e)
  grind
 ·rename_i E top u t w n l m g f;refine ma h rfl fun J θ i=>?_;have b:=cf i f;have ⟨a,c,e,v,r⟩:=b.2.2.1.hd
  have:=xl (P:=P) (I:=J) (w0:=w0) (o:=o) (ev:=evL (envL θ s)) ((q.get p).el _ g) j ((aH (θ:=θ) f).trans e)
  grind
 grind
theorem DS (z:TTok P tt) {T:TypeId} {i:Operand} (G:o.op= .indexAddr T x i) (h:IY tt s k T x i=some res):Oks P w0 s o k res:=by
 have ⟨d,F,h⟩:=bind_some h;have ⟨W,Q,h⟩:=bind_some h;have ⟨e,M,h⟩:=bind_some h;have ⟨b,I,h⟩:=bind_some h;have ⟨p,h⟩:=ai h;have p:=au p;have ⟨c,L,h⟩:=bind_some h;have ⟨u,O,h⟩:=bind_some h;have ⟨K,c2⟩:=bM O;have ⟨a,S,h⟩:=bind_some h;have ⟨A,D,m⟩:=rS (P:=P) (w0:=w0) I;obtain ⟨hp,-⟩:=bY A;refine ⟨_,h,o6 hp,aX rfl,fun J θ t=>OpT.weak (fact:=(· =pt (hv θ b.h) ((b.l+c).toNat*b.r.t.size+0))) (gv:=fun _=>[toCh P θ (b.r.ent b.h)]) (fun w C B=>?_) (fun u v=>?_) (fun u v=>rfl)⟩
 ·have R:=m t rfl B;have r:=(z.get F).el _ Q;have n:=(z.get M).ti;rcases R with ⟨-,q,V,e2,U⟩ | ⟨g,j,cp,Z,H,q,q1,q2,q3,q4,X,q6⟩
  ·omega
  ·have l:pt (hv θ b.h) ((b.l+c).toNat*b.r.t.size+0)= .pointer (some ⟨g,j+b.l.toNat*b.k+c.toNat*e.n,none⟩):=by
    rw[H];show Value.pointer (some ⟨g,j+((b.l+c).toNat*b.r.t.size+0),none⟩)=_;rw[show (b.l+c).toNat=b.l.toNat+c.toNat from by omega,<-D,p,Nat.add_mul];congr 3;omega
   rw[l];have E:c<((b.m.toNat - b.l.toNat:Nat):Int):=by omega
   have:OpT P J w0 o (evL (envL θ s)) [] (· = .pointer (some ⟨g,j+b.l.toNat*b.k+c.toNat*e.n,none⟩)) (fun _=>[]):=by
    refine bB fun w=>?_;simp[execOp,G,q,o8 L θ,Instr.indexAt,asIntOf,run_underlying r,n.run_size,K,E,Result.andThen,Addr.add_mid]
   exact this w (toCh P θ (b.r.ent b.h)::C) B
 ·have f:=lQ t hp;refine ⟨⟨bc f.1,S,(xt A f.2.1).newer (Res.newer (o6 hp) (aX rfl J θ t)) (Nat.le_succ _)⟩,?_,fun g N=>by cases N⟩;rw[v];show pt (hv (upd θ s.nxt _) b.h) _=pt (hv θ b.h) _;rw[show hv (upd θ s.nxt _) b.h=hv θ b.h from be Same.upd f.1]
theorem Fa {h:Hdr} {r:Row} {xs:List r.t.den} {av:AV} {fact:Th->Value->Prop} (l:rowOf h s.chs=some r) (c: ∀J θ,Fine P w0 J θ s->OpT P J w0 o (evL (envL θ s)) [toCh P θ (r.ent h)] (fact θ) (fun _=>[Ch.own (ax r.E r.t.rep) [hv θ h] xs]))
  (d: ∀J θ u,Fine P w0 J θ s->fact θ u->h.id<s.nxt->av.ok P w0 J (upd θ s.nxt u) (s.nxt+1) ((h,s.nxt,.own (.sl r.E r.t) xs)::r.rest)/\av.v (upd θ s.nxt u)=u):Good P w0 s o ⟨[],[r.ent h],r.rest,[(h,.own (.sl r.E r.t) xs)],av⟩:=by
 obtain ⟨hp,-⟩:=bY l;refine ⟨Db hp,aX rfl,fun J θ b=>OpT.weak (c J θ b) (fun u e=>?_) (fun u e=>?_)⟩
 ·have a:=lQ b hp;have ⟨j,f⟩:=d J θ u b e a.1;refine ⟨j,f,fun g i=>?_⟩;cases ak i;exact ⟨bc a.1,aB _,trivial⟩
 ·have a:=lQ b hp;show [Ch.own _ [hv θ h] xs] = [Ch.own _ [hv (upd θ s.nxt u) h] xs];rw[show hv (upd θ s.nxt u) h=hv θ h from be Same.upd a.1]
  rfl
theorem Sf (hT:TTok P tt) {T:TypeId} (ho:o.op= .call { callee:=.builtin .append,args:= #[x,y],argTypes:= #[T,T] }) (h:Zq tt s k T x y=some res):Oks P w0 s o k res:=by
 have ⟨d,hd,h⟩:=bind_some h;have ⟨E,hE,h⟩:=bind_some h;have ⟨e,he,h⟩:=bind_some h;have ⟨V,K,h⟩:=bind_some h;have ⟨b,hb,h⟩:=bind_some h;have ⟨c,Q,h⟩:=bind_some h;have ⟨hn,h⟩:=ai h;simp only[aj] at hn;have ⟨⟨⟨W,G⟩,B⟩,n4⟩:=hn;have W:=au W;have G:=Hdr.beq_eq G;have B:=au B;have ⟨u,hc,h⟩:=bind_some h;have ⟨c1,c2,c3,c4⟩:=bM hc;have ⟨hr,hk,O⟩:=rS (P:=P) (w0:=w0) hb;have ⟨i,hk2,j⟩:=rS (P:=P) (w0:=w0) Q;have U:c.r=b.r:=by
  rw[G] at i;exact ae (i.symm.trans hr)
 have hk3:c.k=b.k:=by grind
 have S:=hT.get hd;have R:=hT.get he;have ⟨z,M,hz2,hz3⟩:=R.zero V K;have D:P.underlying T=some (.slice b.r.E):=(S.el E hE).trans (by rw[B]);refine ⟨_,h,Fa (fact:=fun θ v=>Vw v (hv θ b.h) b.k b.r.xs.length 0 (b.m+(c.m - c.l))) hr (fun J θ X=>fun w C Z=>?_) (fun J θ u X hu f=>⟨⟨aB _,bc f,?_,by omega⟩,eH⟩)⟩
 ·have h1:=O X rfl Z;have h2:Vw (evL (envL θ s) y) (hv θ b.h) b.k b.r.xs.length c.l c.m:=by
   have:=j X rfl (xs:=c.r.xs) (by rw[U,G];exact Z)
   grind
  have m:St J w0 w (Ch.own (ax b.r.E b.r.t.rep) [hv θ b.h] b.r.xs::C):=Z;rcases h1 with ⟨F,q,e1,e2,e3⟩ | ⟨g,N,cp,x',F,q,q1,q2,q3,q4,q5,q6⟩
  ·rcases h2 with ⟨a,p,f1,f2,f3⟩ | ⟨g2,r,L,y',a,p,-⟩
   ·have A:=List.eq_nil_of_length_eq_zero e1;have t:(Builtin.append_ #[T,T] o.type #[.slice none 0 0,.slice none 0 0]).run P w= .ok (.slice none 0 0) w:=by
     obtain ⟨info,l,-,-,-⟩:=info_parts M;rw[<-B] at l;exact fF D l (aF _)
    rw[eN ho q p t];refine ⟨.inl ⟨F,rfl,e1,rfl,by omega⟩,?_⟩;grind[q8]
   grind
  ·rcases h2 with ⟨a,p,f1,f2,f3⟩ | ⟨g2,r,L,y',a,p,p1,p2,p3,p4,p5,p6⟩
   ·grind
   ·rw[F] at a;simp[Value.slice.injEq,Option.some.injEq,Addr.mk.injEq,and_true,true_and] at a;obtain ⟨⟨rfl,rfl⟩,rfl⟩:=a;have n:b.l.toNat=0:=by omega
    have A:x'=0:=by rw[n,Nat.zero_mul] at q5;omega
    subst A;rw[n,Nat.sub_zero,Nat.sub_zero,Nat.add_zero] at q;rw[F] at m⊢
    have:=E8 (P:=P) (I:=J) (w0:=w0) (o:=o) (xs:=b.r.xs) (ev:=evL (envL θ s)) (Ty.sh_ok n4) (Ty.cpy n4) D (by rw[B];omega) (by grind[Ty.size_pos]) (b.r.t.rep_size.trans (hk.symm.trans W.symm)) ho q p (fun f=>?_) (by omega) (by omega) (by omega) w C (by simpa using m)
    ·refine this.imp fun v w' H=>⟨?_,H.2⟩
     refine .inr ⟨g,N,cp,0,rfl,?_,by omega,by omega,q3,by omega,Nat.zero_le _,.inr (by simp)⟩;grind
    grind
 grind[eH,hv,upd,be,Same.upd]
theorem Mo (H:TTok P tt) {T:TypeId} (B:o.op= .call { callee:=.builtin .clear,args:= #[x],argTypes:= #[T] }) (h:OP tt s k T x=some res):Oks P w0 s o k res:=by
 have ⟨d,O,h⟩:=bind_some h;have ⟨E,X,h⟩:=bind_some h;have ⟨e,S,h⟩:=bind_some h;have ⟨p,n,h⟩:=bind_some h;have ⟨b,R,h⟩:=bind_some h;have ⟨F,h⟩:=ai h;simp only[aj] at F;have ⟨⟨r,i⟩,D⟩:=F;have r:=au r;have i:=au i;have ⟨z,hz,h⟩:=bind_some h;have ⟨u,V,h⟩:=bind_some h;have ⟨c3,c4⟩:=bM V;have ⟨W,N,j⟩:=rS (P:=P) (w0:=w0) R;have v:=H.get O;have a:=H.get S;have ⟨K,U,m,Q⟩:=a.zero p n;have A:K.cells.size=e.n:=by rw[m,List.size_toArray,xr,a.sz]
 have f:P.underlying T=some (.slice b.r.E):=(v.el E X).trans (by rw[i]);have l: ∀J,b.r.t.rep.rd J K.cells.toList z:=fun J=>by
  grind[Kz]
 refine ⟨_,h,Fa (fact:=fun _ _=>True) W (fun J θ L=>fun w C M=>?_) (fun J θ u L hu t=>⟨aB _,eH⟩)⟩;have h1:=j L rfl M;have c:St J w0 w (Ch.own (ax b.r.E b.r.t.rep) [hv θ b.h] b.r.xs::C):=M;rcases h1 with ⟨G,q,e1,e2,e3⟩ | ⟨g,Z,cp,x',G,q,q1,q2,q3,q4,q5,q6⟩
 ·rw[qC B q (tI w T b.r.E o.type f _ _)];refine ⟨trivial,?_⟩;grind[tJ]
 ·rw[G] at c⊢;exact G8 (P:=P) (I:=J) (w0:=w0) (o:=o) (ev:=evL (envL θ s)) (Ty.sh_ok D) (Ty.cpy D) f (by rw[i];omega) (by grind[Ty.size_pos]) (b.r.t.rep_size.trans (N.symm.trans r.symm)) A (l J) B q (fun t=>by
   grind) (by omega) (by omega) w C c
end
theorem Si {α:Type} {E:TypeId} {R:Rep α} {I:Hp} {w0 w:World} {C:List Ch} {u v:Value} {xs:List α} {l m:Int} {k:Nat} (h:St I w0 w (Ch.own (ax E R) [v] xs::C)) (N:R.size=k) (hv:Vw u v k xs.length l m) (hm:m<=(xs.length:Int)):St I w0 w (Ch.own (ax E R) [u] ((xs.take m.toNat).drop l.toNat)::C):=by
 obtain ⟨O,y,F,⟨G,K,rfl,n,e⟩,z,L⟩:=h;have ⟨hl,n⟩:=n;rcases hv with ⟨rfl,rfl,U,rfl,rfl⟩ | ⟨g,a,cap,x,rfl,rfl,q1,q2,q3,q4,q5,q⟩
 ·have hx:=List.eq_nil_of_length_eq_zero U;subst hx;exact ⟨O,y,G++K,⟨G,K,rfl,⟨Nat.zero_le _,n⟩,e⟩,z,L⟩
 ·rcases n with ⟨f,rfl,rfl⟩ | ⟨g',J,P,cur,K1,f,X,k2,k3,Q,rfl,A⟩
  ·grind
  ·simp[List.cons.injEq,Value.slice.injEq,Option.some.injEq,Addr.mk.injEq,and_true,true_and] at f;obtain ⟨⟨rfl,rfl⟩,rfl⟩:=f;rw[N] at Q;have Z:l.toNat<=m.toNat:=by omega
   have H:((xs.take m.toNat).drop l.toNat).length=m.toNat - l.toNat:=by rw[a7,aq];omega
   have T:xs=(xs.take m.toNat).take l.toNat++((xs.take m.toNat).drop l.toNat++xs.drop m.toNat):=by grind[aC,List.take_append_drop]
   rw[T] at A;obtain ⟨c1,Y,i,G2,S,B,rfl,-,V⟩:=A.cut2;obtain ⟨d,j,rfl,M,-⟩:=V.parts;have hp:((g::(i++(d++j)))++K).Perm (((g::d)++K)++(i++j)):=by
    show (g::((i++(d++j))++K)).Perm (g::((d++K)++(i++j)));refine List.Perm.cons g ?_;rw[aC,aC,aC];refine (List.perm_append_comm_assoc i d _).trans (List.Perm.append_left d ?_);refine (List.perm_append_comm_assoc i j K).trans ?_;rw[<-aC];refine List.perm_append_comm.trans ?_;exact List.Perm.append_left K List.perm_append_comm
   have s:((xs.take m.toNat).take l.toNat).length=l.toNat:=by rw[aq,aq];omega
   rw[s,N] at B;have hdr:cur.toList.drop (a+l.toNat*k)=Y:=by
    rw[<-List.drop_drop,S];exact List.drop_left' B
   have t: ∀c,OwnEls R I w c ((xs.take m.toNat).drop l.toNat) d->St I w0 w (Ch.own (ax E R) [.slice (some ⟨g,a+x,none⟩) (m.toNat - l.toNat) (cap - l.toNat)] ((xs.take m.toNat).drop l.toNat)::C)\/c≠cur.toList.drop (a+x):=fun c hc=>by
    by_cases p:c=cur.toList.drop (a+x)
    ·subst p;have m1:l.toNat*k+(cap - l.toNat)*k=cap*k:=by rw[<-Nat.add_mul];congr 1;omega
     refine .inl ⟨O,y,(g::d)++K,⟨g::d,K,rfl,⟨by omega,.inr ⟨g,a+x,cap - l.toNat,cur,d,by grind,X,by omega,by omega,by grind,rfl,hc⟩⟩,e⟩,(List.nodup_append.1 (hp.nodup_iff.1 z)).1,fun b W=>L b (hp.mem_iff.2 (bj _ W))⟩
    grind
   rcases q with q | q
   ·have D:(xs.take m.toNat).drop l.toNat= []:=List.eq_nil_of_length_eq_zero (by omega);have o:d= []:=by rw[D] at M;exact M
    rcases t (cur.toList.drop (a+x)) (by rw[D,o];rfl) with r | r
    ·exact r
    grind
   grind
def qD (u:Hdr):List (Nat×Nat×AV)->List (Nat×Nat×AV)
 | [] =>[]
 | (t,ver,.xv top u' h k n l m)::es=>(match Hdr.beq u' u with | true=>(t,ver,.one (.own u')) | false=>(t,ver,.xv top u' h k n l m))::qD u es
 | (t,ver,.vw u' h k n l m)::es=>(match Hdr.beq u' u with | true=>(t,ver,.one (.own u)) | false=>(t,ver,.vw u' h k n l m))::qD u es
 | e::es=>e::qD u es
def Sj {Y:Type} (s:Sg) (v:AV) (kk:Sg->Option Y):Option Y:=match v with
 | .xv _ u _ _ _ _ _=>kk ⟨qD u s.env,s.chs,s.nxt+1⟩
 | .vw u h k n l m=>match rowOf h s.chs with
  | some r=>cg (Nat.beq k r.t.size) (kk ⟨qD u s.env,(u,s.nxt,.own (.sl r.E r.t) ((r.xs.take m.toNat).drop l.toNat))::r.rest,s.nxt+1⟩)
  | none=>kk s
 | _=>kk s
def Sk {Y:Type} :List AV->Sg->(Sg->Option Y)->Option Y
 | [],s,kk=>kk s
 | v::vs,s,kk=>Sj s v fun s=>Sk vs s kk
section
variable {P:Program} {I J:Hp} {w0 w:World} {F:Ch} {n:Nat} {θ:Th} {s:Sg} {a:Act}
theorem Fb {u:Hdr} {N:Nat} {chs:List Ent} : ∀ {l:List (Nat×Nat×AV)},(∀e∈l,e.2.2.ok P w0 J θ N chs)->(∀e∈qD u l,e.2.2.ok P w0 J θ N chs/\ ∃g∈l,g.2.1=e.2.1)/\((qD u l).map fun e=>(e.1,e.2.2.v θ))=(l.map fun e=>(e.1,e.2.2.v θ))/\((l.Pairwise fun a b=>a.2.1≠b.2.1)->(qD u l).Pairwise fun a b=>a.2.1≠b.2.1)
 | [],h=>⟨fun e y=>(by cases y),rfl,fun _=>List.Pairwise.nil⟩
 | e::es,h=>by
  have ⟨C,L,G⟩:=Fb (u:=u) (l:=es) fun e y=>h e (bF _ y);have i:=h e (List.mem_cons_self ..);have fin: ∀f,f.1=e.1->f.2.1=e.2.1->f.2.2.ok P w0 J θ N chs->f.2.2.v θ=e.2.2.v θ->(∀q∈f::qD u es,q.2.2.ok P w0 J θ N chs/\ ∃g∈e::es,g.2.1=q.2.1)/\((f::qD u es).map fun e=>(e.1,e.2.2.v θ))=((e::es).map fun e=>(e.1,e.2.2.v θ))/\(((e::es).Pairwise fun a b=>a.2.1≠b.2.1)->(f::qD u es).Pairwise fun a b=>a.2.1≠b.2.1):=fun f E B Q M=>by
   refine ⟨fun q k=>?_,?_,fun hp=>?_⟩
   ·rcases aE k with rfl | k
    ·exact ⟨Q,e,List.mem_cons_self ..,B.symm⟩
    ·have ⟨D,g,z,p⟩:=C q k;exact ⟨D,g,bF _ z,p⟩
   ·rw[List.map_cons,List.map_cons,L,E,M]
   ·have ⟨H,O⟩:=List.pairwise_cons.1 hp;refine List.pairwise_cons.2 ⟨fun q k=>?_,G O⟩;have ⟨D,g,z,p⟩:=C q k;rw[B,<-p];exact H g z
  obtain ⟨t,d,K⟩:=e;cases K with
  | vw c x A r o m =>
   cases j:Hdr.beq c u with
   | true =>
    have:=Hdr.beq_eq j
    subst this;have v:qD c ((t,d,.vw c x A r o m)::es)=(t,d,.one (.own c))::qD c es:=by simp[qD,j]
    rw[v];exact fin (t,d,.one (.own c)) rfl rfl ⟨i.1,i.2.2.1.one⟩ rfl
   | false =>
    grind[qD]
  | xv top c x A r o m =>
   cases j:Hdr.beq c u with
   | true =>
    have:=Hdr.beq_eq j
    subst this;have v:qD c ((t,d,.xv top c x A r o m)::es)=(t,d,.one (.own c))::qD c es:=by simp[qD,j]
    rw[v];exact fin (t,d,.one (.own c)) rfl rfl ⟨i.1,i.2.2.1.one⟩ rfl
   | false =>
    grind[qD]
  | _=>exact fin _ rfl rfl i rfl
theorem Sl {Y:Type} {D:Sg->Option Y} {y:Y} {v:AV} (h:Sj s v D=some y) (t:v.ok P w0 J θ s.nxt s.chs) (b:Sim P I w0 F n J θ s a w): ∃s',D s'=some y/\Sim P I w0 F n J θ s' a w/\Newer s.nxt s.chs s'.chs/\s.nxt<=s'.nxt:=by
 have base:Sim P I w0 F n J θ s a w/\Newer s.nxt s.chs s.chs/\s.nxt<=s.nxt:=⟨b,Newer.rfl,aF _⟩;unfold Sj at h;split at h
 ·rename_i top u H k N l m;have ⟨o,z,A⟩:=Fb (u:=u) (P:=P) (w0:=w0) (J:=J) (θ:=θ) (N:=s.nxt) (chs:=s.chs) b.fine.env;refine ⟨_,h,⟨b.le,?_,b.st,fun e d=>AV.ok_same Same.rfl (Nat.le_succ _) Newer.rfl (o e d).1 Hp.le.rfl,fun e d=>?_,A b.fine.nd,fun e d=>gL Same.rfl (Nat.le_succ _) Newer.rfl (b.fine.chs e d) Hp.le.rfl,b.fine.lay⟩,Newer.rfl,Nat.le_succ _⟩
  ·show Agr n a ((qD u s.env).map _);rw[z];exact b.agr
  ·obtain ⟨-,x,B,C⟩:=o e d;rw[<-C];exact bc (b.fine.ver x B)
 ·rename_i u H k N l m;have i:=t;split at h
  ·rename_i r K;have ⟨q,h⟩:=ai h;have q:=au q;obtain ⟨hp,-⟩:=bY K;have ⟨o,z,A⟩:=Fb (u:=u) (P:=P) (w0:=w0) (J:=J) (θ:=θ) (N:=s.nxt) (chs:=s.chs) b.fine.env;have j:=b.st.perm ((hp.map (toCh P θ)).append_right [F]);have G:=ON j i.2.2.1;subst G;have p:=Si j (r.t.rep_size.trans q.symm) i.2.2.1 i.2.2.2;have g:Newer s.nxt s.chs ((u,s.nxt,.own (.sl r.E r.t) ((r.xs.take m.toNat).drop l.toNat))::r.rest):=fun e d L E c f=>by
    rcases aE d with rfl | d
    ·obtain ⟨rfl,f⟩:=f;rcases f with ⟨rfl,rfl⟩ | f
     ·grind
     ·exact f.elim
    grind
   refine ⟨_,h,⟨b.le,?_,p,fun e d=>AV.ok_same Same.rfl (Nat.le_succ _) g (o e d).1 Hp.le.rfl,fun e d=>?_,A b.fine.nd,fun e d=>?_,b.fine.lay⟩,g,Nat.le_succ _⟩
   ·show Agr n a ((qD u s.env).map _);rw[z];exact b.agr
   ·obtain ⟨-,x,B,C⟩:=o e d;rw[<-C];exact bc (b.fine.ver x B)
   ·rcases aE d with rfl | d
    ·exact ⟨bc i.1,aB _,trivial⟩
    ·exact gL Same.rfl (Nat.le_succ _) g (b.fine.chs e (hp.mem_iff.2 (bF _ d))) Hp.le.rfl
  grind
 grind
theorem KD {Y:Type} {c:Sg->Option Y} {y:Y} : ∀ {vs:List AV} {s:Sg},Sk vs s c=some y->(∀v∈vs,v.ok P w0 J θ s.nxt s.chs)->Sim P I w0 F n J θ s a w-> ∃b,c b=some y/\Sim P I w0 F n J θ b a w/\s.nxt<=b.nxt
 | [],s,h,_,hS=>⟨s,h,hS,aF _⟩
 | v::vs,s,h,hv',hS=>by
  have ⟨k,e,i,f,g⟩:=Sl (show Sj s v (fun s=>Sk vs s c)=some y from h) (hv' v (List.mem_cons_self ..)) hS;have ⟨b,l,j,m⟩:=KD (vs:=vs) e (fun x d=>AV.ok_same Same.rfl g f (hv' x (bF _ d)) Hp.le.rfl) i;grind
end
end R
namespace D
open Go.RowKit
section
variable {P:Program} {I J:Hp} {w0 w w':World} {cs C:List Ch} {o:Oper} {ev:Operand->Value}
theorem Mq {dT sT ty e:TypeId} {k g o dLen dCap sLen sCap:Nat} {ao:Option Addr} {cs:List Value} (l:P.underlying dT=some (.slice e)) (hs:(sizeOf e).run P w= .ok k w) (f:cs.length=Nat.min sLen dLen*k)
  (c:cs= [] \/ ∃a,ao=some a/\ ∀j v,cs[j]? =some v->w.cell? (a.add j)=some v) (m: ∀j,j<cs.length->(w.cell? ⟨g,o+j,none⟩).isSome=true) (n: ∀j,j<cs.length->w.frozen? ⟨g,o+j,none⟩=false) (h1: ∀v∈cs,v.oneCell'=true) :
  (Builtin.copy_ #[dT,sT] ty #[.slice (some ⟨g,o,none⟩) dLen dCap,.slice ao sLen sCap]).run P w= .ok (goInt (Nat.min sLen dLen)) (w.setCells g o cs):=by
 have b:=run_storeCells_cells (P:=P) g o cs 0 w (by simpa using m) (by simpa using n) h1;simp only[Nat.add_zero] at b;have d:(Builtin.firstCells k (Nat.min sLen dLen) (.slice ao sLen sCap)).run P w= .ok cs.toArray w:=by
  rcases c with rfl | ⟨a,rfl,h⟩
  ·cases ao with
   | none=>rfl
   | some a=>exact run_firstCells_some (P:=P) w k _ a sLen sCap [] f (fun j v i=>by simp at i)
  ·exact run_firstCells_some (P:=P) w k _ a sLen sCap cs f h
 simp[Builtin.copy_,run_underlying l,Builtin.lenOf,hs,d,b]
theorem xH {x y:Operand} {T U:TypeId} {v u r:Value} {w w':World} (c:o.op= .call { callee:=.builtin .copy,args:= #[x,y],argTypes:= #[T,U] }) (a:ev x=v) (d:ev y=u) (b:(Builtin.copy_ #[T,U] o.type #[v,u]).run P w= .ok r w'):(execOp ev o).run P w= .ok (.value r) w':=by
 simp only[execOp,c,resolve,invoke,builtin,Sem.run_bind,Sem.run_pure,Result.andThen_ok,List.map_toArray,List.map_cons,List.map_nil,a,d,b]
theorem sL {x y:Operand} {T U:TypeId} {v u r:Value} {w w':World} (c:o.op= .call { callee:=.builtin .append,args:= #[x,y],argTypes:= #[T,U] }) (a:ev x=v) (d:ev y=u) (b:(Builtin.append_ #[T,U] o.type #[v,u]).run P w= .ok r w'):(execOp ev o).run P w= .ok (.value r) w':=by
 simp only[execOp,c,resolve,invoke,builtin,Sem.run_bind,Sem.run_pure,Result.andThen_ok,List.map_toArray,List.map_cons,List.map_nil,a,d,b]
def zb {α:Type} (xs:List α) (p:Nat) (ys:List α):List α:=xs.take p++(ys++xs.drop (p+ys.length))
theorem o9 {α:Type} {xs ys:List α} {p:Nat} (hp:p<=xs.length):(zb xs p ys).length=max xs.length (p+ys.length):=by
 simp only[zb,az,aq,a7];omega
theorem xI {α:Type} {xs ys:List α} {p q:Nat} (hp:p<=xs.length):(zb xs p ys)[q]? =if p<=q/\q<p+ys.length then ys[q - p]? else xs[q]? :=by
 have a:(xs.take p).length=p:=by rw[aq];omega
 unfold zb;by_cases b:q<p
 ·rw[if_neg (by omega),List.getElem?_append_left (by omega),List.getElem?_take,if_pos b]
 ·rw[List.getElem?_append_right (by omega),a];by_cases c:q<p+ys.length
  ·rw[if_pos (by omega),List.getElem?_append_left (by omega)]
  ·rw[if_neg (by omega),List.getElem?_append_right (by omega),List.getElem?_drop];congr 1;omega
def RdCells {α:Type} (R:Rep α) (I:Hp) (k:Nat) (news:List Value) (ys:List α):Prop:=news.length=ys.length*k/\ ∀(i:Nat) y,ys[i]? =some y-> ∃c:List Value,c.length=k/\(∀j,j<k->news[i*k+j]? =c[j]?)/\R.rd I c y
theorem RdCells.one {α:Type} {R:Rep α} {k:Nat} {news:List Value} {ys:List α} (d:0<k) (h:RdCells R I k news ys): ∀u∈news,u.oneCell'=true:=by
 intro u f;obtain ⟨q,e⟩:=List.getElem?_of_mem f;have a:=(List.getElem?_eq_some_iff.1 e).1;rw[h.1] at a;have b:q / k<ys.length:=by rw[Nat.div_lt_iff_lt_mul d];exact a
 obtain ⟨c,j,i,g⟩:=h.2 _ _ (List.getElem?_eq_getElem b)
 have:=i (q % k) (Nat.mod_lt _ d)
 rw[Nat.div_add_mod',e] at this;exact R.rd_one g u (List.mem_of_getElem? this.symm)
theorem G9 {α:Type} {R:Rep α} {xs:List α} {cur:Array Value} {ofs k j m:Nat} (g:m<=xs.length) (a:ofs+xs.length*k<=cur.size) (f:j<=m) (d: ∀(i:Nat) x,xs[i]? =some x-> ∃c:List Value,c.length=k/\(∀j,j<k->(cur.toList.drop ofs)[i*k+j]? =c[j]?)/\R.rd I c x):RdCells R I k (tH cur ofs k j m) ((xs.take m).drop j):=by
 have e:((xs.take m).drop j).length=m - j:=by rw[a7,aq];omega
 refine ⟨by rw[e];exact uS a f g,fun i y b=>?_⟩;have s:i<m - j:=by rw[<-e];exact (List.getElem?_eq_some_iff.1 b).1
 rw[List.getElem?_drop,List.getElem?_take,if_pos (by omega)] at b;obtain ⟨c,h,l,n⟩:=d _ _ b;refine ⟨c,h,fun q p=>?_,n⟩;have r:i*k+k<=(m - j)*k:=by rw[<-Nat.succ_mul];exact Nat.mul_le_mul_right _ (by omega)
 rw[mX (by omega),<-l q p,Nat.add_mul];congr 1;omega
theorem Sn {α:Type} {E:TypeId} {R:Rep α} (b:R.Sh) (v:Cpy R R) {k:Nat} (x:0<k) (j:R.size=k) {g ofs n cap p:Nat} {xs ys:List α} {news:List Value} (f:RdCells R I k news ys) (hp:p<=xs.length) (a:p+ys.length<=cap) (l:p+ys.length<=lim)
  (h:St I w0 w (Ch.own (ax E R) [.slice (some ⟨g,ofs,none⟩) n cap] xs::C)):St I w0 (w.setCells g (ofs+p*k) news) (Ch.own (ax E R) [.slice (some ⟨g,ofs,none⟩) (zb xs p ys).length cap] (zb xs p ys)::C):=by
 obtain ⟨rfl,y,z,-⟩:=DP b j h;have i:=o9 (xs:=xs) (ys:=ys) hp;have r:=(h.hd 0 rfl).2;refine IX b v j (p:=p) (cnt:=ys.length) f.1 a (by rw[i];omega) (by rw[i];omega) (fun q u d=>?_) h;rw[xI hp] at d;by_cases e:p<=q/\q<p+ys.length
 ·rw[if_pos e] at d;obtain ⟨c,s,t,m⟩:=f.2 _ _ d;exact .inl ⟨e.1,e.2,c,s,t,m⟩
 ·rw[if_neg e] at d;exact .inr ⟨by omega,d⟩
theorem Mr {α:Type} {E:TypeId} {R:Rep α} (v:Cpy R R) {k:Nat} (f:R.size=k) {g cap:Nat} {cells:List Value} {xs:List α} (a:xs.length<=cap) (d:cap<=maxLen) (p:cap*k<=cells.length) (b:xs.length<=lim) (e: ∀(i:Nat) x,xs[i]? =some x-> ∃c:List Value,c.length=k/\(∀j,j<k->cells[i*k+j]? =c[j]?)/\R.rd I c x)
  (h:St I w0 w (Ch.blk g cells E::C)):St I w0 w (Ch.own (ax E R) [.slice (some ⟨g,0,none⟩) xs.length cap] xs::C):=by
 obtain ⟨q,u,F,⟨G,K,rfl,⟨rfl,y⟩,m⟩,n,t⟩:=h;refine ⟨q,u,[g] ++K,⟨[g],K,rfl,⟨b,.inr ⟨g,0,cap,cells.toArray,[],rfl,y,a,d,?_,rfl,BE v fun i x z=>?_⟩⟩,m⟩,n,t⟩
 ·rw[f];simpa using p
 ·rw[f];obtain ⟨c,r,s,A⟩:=e i x z;exact ⟨c,r,fun j l=>by rw[<-s j l];simp,A⟩
theorem BH {T U ty E:TypeId} {z:Value} {n b:Nat} {B:IntKind} (K:P.underlying T=some (.slice E)) (D:P.underlying U=some (.int B)) (L:TZ P E z n b) {a:Addr} {i cap q:Nat} {old:List Value} (M:0<n) (O:0<q) (d:cap<i+q) (f:(i+q)*b<=140737488355328) (H:1<=b)
  (F:old.length=i*n) (g: ∀j v,old[j]? =some v->w.cell? (a.add j)=some v) :
  ∃c,i+q<=c/\c<=maxLen/\(Builtin.append_ #[T,U] ty #[.slice (some a) i cap,.int .i64 q]).run P w= .ok (.slice (some ⟨w.heap.size,0,none⟩) (i+q) c) (w.drew.alloc (.cells (old.toArray++Builtin.zeroCells z.cells q++Builtin.zeroCells z.cells (c - (i+q))) E)):=by
 obtain ⟨info,s,G,e,p⟩:=info_parts L;have N:(i+q)*1<=(i+q)*b:=Nat.mul_le_mul_left _ H;have Q:q*b<=(i+q)*b:=Nat.mul_le_mul_right _ (by omega);have y:i64.wrap (q:Int)=q:=by rw[IntKind.wrap_i64];omega
 have l: ¬(9223372036854775807<((i:Int)+(q:Int))):=by omega
 have A:=growslice_fits (bytes:=b) d f;have h: ¬(281474976710656<Builtin.nextslicecap (i+q) cap*b):=by omega
 have m: ¬(281474976710656<(q:Int)*(b:Int)):=by
  rw[<-Int.natCast_mul];omega
 have k: ¬((q:Int)<0):=by omega
 have t: ¬(q*n=0):=Nat.mul_ne_zero (by omega) (by omega);have r: ¬(i+q<=cap):=by omega
 have u:(Builtin.firstCells n i (.slice (some a) i cap)).run P w.drew= .ok old.toArray w.drew:=run_firstCells_some (P:=P) w.drew n i a i cap old F (fun j v x=>g j v x);refine ⟨grownCap w (i+q) cap E,grownCap_ge w _ _ _,grownCap_le_maxLen w _ _ _ (by unfold maxLen;omega),?_⟩;simp[Builtin.append_,run_underlying K,run_underlying D,sizeOf,typeInfo,zeroValue,s,G,e,p,asInt,asIntOf,y,k,t,r,l,h,m,Question.forced,u,newRow,grownCap]
end
end D
namespace R
open Go.RowKit
open D
open Classical in
noncomputable def BJ {Y:Type} (n:Nat) (f:Nat->Option Y):Option Y:=if h: ∃y,∀c,n<=c->c<=maxLen->f c=some y then some h.choose else none
theorem Ha {Y:Type} {n:Nat} {f:Nat->Option Y} {y:Y} (h:BJ n f=some y): ∀c,n<=c->c<=maxLen->f c=some y:=by
 unfold BJ at h;split at h
 ·grind
 grind
theorem Ms {Y:Type} {n:Nat} {f:Nat->Option Y} {y:Y} (a:n<=maxLen) (h: ∀c,n<=c->c<=maxLen->f c=some y):BJ n f=some y:=by
 unfold BJ;have b: ∃y,∀c,n<=c->c<=maxLen->f c=some y:=⟨y,h⟩;grind
theorem Fc: ∃F:(Y:Type)->Nat->(Nat->Option Y)->Option Y,(∀Y n f y,F Y n f=some y-> ∀c,n<=c->c<=maxLen->f c=some y)/\ ∀Y n f y,n<=maxLen->(∀c,n<=c->c<=maxLen->f c=some y)->F Y n f=some y:=
 ⟨fun Y n f=>BJ n f,fun Y n f y h=>Ha h,fun Y n f y a h=>Ms a h⟩
noncomputable def KE {Y:Type} (n:Nat) (f:Nat->Option Y):Option Y:=Classical.choose Fc Y n f
theorem I0 {Y:Type} {n:Nat} {f:Nat->Option Y} {y:Y} (h:KE n f=some y): ∀c,n<=c->c<=maxLen->f c=some y:=(Classical.choose_spec Fc).1 Y n f y h
theorem OR {Y:Type} {n:Nat} {f:Nat->Option Y} {y:Y} (a:n<=maxLen) (h: ∀c,n<=c->c<=maxLen->f c=some y):KE n f=some y:=(Classical.choose_spec Fc).2 Y n f y a h
def W0 (tt:TT) (s:Sg) (o:Oper):Option (Hdr×Row):=match o.op with
 | .call c=>match c.callee,c.args.toList,c.argTypes.toList with
  | .builtin .cap,[x],[T] =>(td tt T).bind fun d=>d.el.bind fun _=>match opd s x with
   | some (.one (.own h))=>(rowOf h s.chs).bind fun r=>some (h,r)
   | _=>none
  | _,_,_=>none
 | _=>none
def US (q:Hdr×Row) (c:Nat):Res:=⟨[q.2.ent q.1],[],q.2.rest,[],.capv q.1 c⟩
theorem Hb {P:Program} {o:Oper} {ev:Operand->Value} {x:Operand} {T:TypeId} {v r:Value} {w w':World} (c:o.op= .call { callee:=.builtin .cap,args:= #[x],argTypes:= #[T] }) (a:ev x=v) (b:(Builtin.cap_ #[T] o.type #[v]).run P w= .ok r w'):(execOp ev o).run P w= .ok (.value r) w':=by
 simp[execOp,c,resolve,invoke,builtin,Sem.run_bind,Sem.run_pure,Result.andThen_ok,List.map_toArray,List.map_cons,List.map_nil,a,b]
theorem ze {α:Type} {E:TypeId} {R:Rep α} {I:Hp} {w0 w:World} {C:List Ch} {v:Value} {xs:List α} (h:St I w0 w (Ch.own (ax E R) [v] xs::C)): ∃a,v= .slice a xs.length (Ri v)/\xs.length<=Ri v/\Ri v<=maxLen:=by
 obtain ⟨n,q,F,⟨G,K,rfl,⟨m,e⟩,i⟩,j,p⟩:=h;rcases e with ⟨hv,rfl,rfl⟩ | ⟨g,b,cap,cur,l,hv,o,d,c,f,rfl,k⟩
 ·obtain rfl:v= .slice none 0 0:=by grind
  exact ⟨_,rfl,aF _,Nat.zero_le _⟩
 ·obtain rfl:v= .slice (some ⟨g,b,none⟩) xs.length cap:=by grind
  exact ⟨_,rfl,d,c⟩
section
variable {tt:TT} {s:Sg} {P:Program} {I J:Hp} {w0 w:World} {F:Ch} {n:Nat} {θ:Th} {a:Act} {o:Oper}
theorem So (G:TTok P tt) {q:Hdr×Row} (h:W0 tt s o=some q) (j:Sim P I w0 F n J θ s a w):q.2.xs.length<=Ri (hv θ q.1)/\Ri (hv θ q.1)<=maxLen/\GoodA P w0 J θ s o (US q (Ri (hv θ q.1))):=by
 unfold W0 at h;split at h
 ·rename_i c z;split at h
  ·rename_i x T t y H;have ⟨d,A,h⟩:=bind_some h;have ⟨E,N,h⟩:=bind_some h;split at h
   ·rename_i b L;have ⟨r,M,h⟩:=bind_some h;cases ae h;obtain ⟨hp,-⟩:=bY M;have e:=j.st.perm ((hp.map (toCh P θ)).append_right [F]);have e:St J w0 w (Ch.own (ax r.E r.t.rep) [hv θ b] r.xs::(r.rest.map (toCh P θ)++ [F])):=e;have ⟨R,B,D,O⟩:=ze e;refine ⟨D,O,o6 hp,aX rfl J θ j.fine,?_⟩;have f:=lQ j.fine hp;have p:o.op= .call { callee:=.builtin .cap,args:= #[x],argTypes:= #[T] }:=by
     have ⟨k,args,l⟩:=c;have t:k= .builtin .cap:=t;rw[z,t,show args= #[x] from Array.ext' y,show l= #[T] from Array.ext' H]
    have m:=(G.get A).el E N;have S:P.elem T=E:=by simp[Program.elem,m]
    refine OpT.weak (fact:=(· = .int .i64 (Ri (hv θ b)))) (gv:=fun _=>[toCh P θ (r.ent b)]) (fun w C Q=>?_) (fun u v=>⟨⟨bc f.1,?_⟩,?_,fun g K=>by cases K⟩) (fun u v=>rfl)
    ·have i:(Builtin.cap_ #[T] o.type #[hv θ b]).run P w= .ok (goInt (Ri (hv θ b))) w:=by
      rw[B];exact run_cap_slice (P:=P) w T o.type _ _ _ (by grind)
     rw[Hb p (aH L) i];exact ⟨rfl,Q⟩
    ·rw[show hv (upd θ s.nxt u) b=hv θ b from be Same.upd f.1]
    ·exact v.symm
   grind
  grind
 grind
end
def DT (h:Hdr):List (Nat×Nat×AV)->Option Nat
 | [] =>none
 | (_,_,.capv h' c)::es=>if Hdr.beq h' h then some c else DT h es
 | _::es=>DT h es
theorem BK {P:Program} {w0:World} {J:Hp} {θ:Th} {n:Nat} {chs:List Ent} {h:Hdr} {c:Nat} : ∀ {l:List (Nat×Nat×AV)},DT h l=some c->(∀e∈l,e.2.2.ok P w0 J θ n chs)->Ri (hv θ h)=c
 | (t,ver,av)::es,a,hl=>by
  have u:=fun a=>BK (l:=es) (h:=h) (c:=c) a fun e m=>hl e (bF _ m);have g:=hl (t,ver,av) (List.mem_cons_self ..);unfold DT at a;split at a
  ·grind
  ·rename_i q s k b
   injection b with f r
   injection f with o i
   injection i with p d
   subst d;split at a
   ·rename_i j
    have:=Hdr.beq_eq j
    subst this;cases ae a;exact g.2
   grind
  grind
def OS (h:Hdr):List (Nat×Nat×AV)->Option (Hdr×Int)
 | [] =>none
 | (_,_,.xv true u h' _ _ _ m)::es=>if Hdr.beq h' h then some (u,m) else OS h es
 | _::es=>OS h es
theorem KF {P:Program} {w0:World} {J:Hp} {θ:Th} {n:Nat} {chs:List Ent} {h:Hdr} {q:Hdr×Int} : ∀ {l:List (Nat×Nat×AV)},OS h l=some q->(∀e∈l,e.2.2.ok P w0 J θ n chs)->q.1.id<n/\ ∃k N,Vw (hv θ q.1) (hv θ h) k N 0 q.2
 | (t,ver,av)::es,a,hl=>by
  have D:=fun a=>KF (l:=es) (h:=h) (q:=q) a fun e m=>hl e (bF _ m);have f:=hl (t,ver,av) (List.mem_cons_self ..);unfold OS at a;split at a
  ·grind
  ·rename_i u z s v o p j b
   injection b with d C
   injection d with r g
   injection g with w c
   subst c;split at a
   ·rename_i i
    have:=Hdr.beq_eq i
    have ⟨B,x,A,y⟩:=f;grind
   grind
  grind
section
variable {Y:Type} (tt:TT) (s:Sg) (k:Res->Option Y)
def W1 (b:BinOp) (x y:Operand):Option Y:=match opd s x,opd s y with
 | some (.one (.val (.int .i64 m))),some (.capv _ c)=>cg (YV b) (kv s k (.bool (aaX b m (c:Int))))
 | _,_=>none
def OT (T:TypeId) (x hi:Operand):Option Y:=(td tt T).bind fun d=>d.el.bind fun E'=>(td tt E').bind fun e=>match opd s x with
 | some (.one (.own h))=>(rowOf h s.chs).bind fun r=>cg (Nat.beq e.n r.t.size) ((asI s hi).bind fun m=>(DT h s.env).bind fun c=>(chk ((r.xs.length:Int)<=m/\m<=(c:Int))).bind fun _=>k ⟨[r.ent h],[],r.rest,[],.xv true ⟨s.nxt,[]⟩ h r.t.size r.xs.length 0 m⟩)
 | _=>none
def Zr (T U:TypeId) (x y:Operand):Option Y:=(td tt T).bind fun d=>d.el.bind fun E=>(td tt E).bind fun e=>e.bytes.bind fun by_=>(td tt U).bind fun f=>f.ik.bind fun ik=>(Rk s x).bind fun b=>(asI s y).bind fun q =>
 cg (Nat.beq e.n b.k&&Nat.beq b.r.E E&&b.r.t.sh&&ik.isSome && !b.x) ((Se e.ty b.r.t).bind fun z=>(DT b.h s.env).bind fun c =>
 (chk (b.l=0/\b.m<=(b.r.xs.length:Int)/\0<q/\(c:Int)<b.m+q/\(b.m+q)*(by_:Int)<=140737488355328)).bind fun _=>k ⟨[b.r.ent b.h],[],b.r.rest,[(⟨s.nxt,[]⟩,.own (.sl b.r.E b.r.t) (b.r.xs.take b.m.toNat++List.replicate q.toNat z))],.one (.own ⟨s.nxt,[]⟩)⟩)
def zf (b c:Vb):Int:=min (c.m - c.l) (b.m - b.l)
def AZ {α:Type} (xs:List α) (l:Int) (cnt:Int):List α:=(xs.take (l+cnt).toNat).drop l.toNat
def Zs (b c:Vb):Option Y:=(chk (0<=c.l/\0<=zf b c/\c.l+zf b c<=(b.r.xs.length:Int)/\0<=b.l/\b.l<=(b.r.xs.length:Int))).bind fun _=>match b.x with
 | false=>(chk (b.m<=(b.r.xs.length:Int))).bind fun _=>k ⟨[],[b.r.ent b.h],b.r.rest,[(b.h,.own (.sl b.r.E b.r.t) (zb b.r.xs b.l.toNat (AZ b.r.xs c.l (zf b c))))],.one (.val (.int .i64 (zf b c)))⟩
 | true=>(OS b.h s.env).bind fun q=>(chk (b.l+zf b c=q.2/\(b.r.xs.length:Int)<=q.2)).bind fun _=>k ⟨[],[b.r.ent b.h],b.r.rest,[(q.1,.own (.sl b.r.E b.r.t) (zb b.r.xs b.l.toNat (AZ b.r.xs c.l (zf b c))))],.one (.val (.int .i64 (zf b c)))⟩
def Zt (b c:Vb):Option Y:=(oY (.sl c.r.E c.r.t) (.sl b.r.E b.r.t) c.r.xs).bind fun ys=>(chk (0<=c.l/\0<=zf b c/\c.l+zf b c<=(ys.length:Int)/\0<=b.l/\b.l<=(b.r.xs.length:Int)/\b.m<=(b.r.xs.length:Int))).bind fun _ =>
 k ⟨[c.r.ent c.h],[b.r.ent b.h],c.r.rest,[(b.h,.own (.sl b.r.E b.r.t) (zb b.r.xs b.l.toNat (AZ ys c.l (zf b c))))],.one (.val (.int .i64 (zf b c)))⟩
def OU (T:TypeId) (x y:Operand):Option Y:=(td tt T).bind fun d=>d.el.bind fun E=>(td tt E).bind fun e=>(Rk s x).bind fun b=>(Rk s y).bind fun c=>cg (Nat.beq e.n b.k&&Nat.beq c.k b.k&&Nat.beq b.r.E E&&b.r.t.sh) (match Hdr.beq c.h b.h with
 | true=>Zs s k b c
 | false=>(Zp s b.r.rest y).bind fun c=>cg (Nat.beq c.k b.k) (Zt k b c))
def W2 (x y:Operand):Option Y:=match opd s x with
 | some (.one (.own h))=>(rowOf h s.chs).bind fun r=>(Zp s r.rest y).bind fun c=>(chk (0<r.xs.length/\c.l<c.m)).bind fun _=>k ⟨[r.ent h,c.r.ent c.h],[],c.r.rest,[],.one (.val (.bool false))⟩
 | _=>none
end
section
variable {Y:Type} {tt:TT} {s:Sg} {k:Res->Option Y} {P:Program} {w0:World} {o:Oper} {res:Y} {x y:Operand}
theorem Sp {b:BinOp} {t u:TypeId} (d:o.op= .binOp b t x y u) (h:W1 s k b x y=some res):Oks P w0 s o k res:=by
 unfold W1 at h;split at h
 ·rename_i m i c a f;have ⟨e,h⟩:=ai h;exact ma h rfl fun J θ g=>wx d (aH a) (aH f) e rfl
 grind
theorem Mt (p:TTok P tt) {T:TypeId} {hi:Operand} (B:o.op= .slice T x none (some hi) none) (h:OT tt s k T x hi=some res):Oks P w0 s o k res:=by
 have ⟨d,A,h⟩:=bind_some h;have ⟨W,N,h⟩:=bind_some h;have ⟨e,F,h⟩:=bind_some h;split at h
 ·rename_i n H;have ⟨r,L,h⟩:=bind_some h;have ⟨V,h⟩:=ai h;have ⟨m,D,h⟩:=bind_some h;have ⟨c,K,h⟩:=bind_some h;have ⟨u,z,h⟩:=bind_some h;have ⟨c1,E⟩:=bM z;refine ⟨_,h,OQ L (fun _=>rfl) fun J θ M=>fun w C t=>?_⟩;have b:St J w0 w (Ch.own (ax r.E r.t.rep) [hv θ n] r.xs::C):=t;have a:=BK K M.env;have ⟨U,f,q,R⟩:=ze b;rw[a] at f q
  have:=DR (P:=P) (I:=J) (w0:=w0) (ev:=evL (envL θ s)) (lo:=none) (hi:=some hi) (ml:=none) (mh:=some m) ((p.get A).el _ N) (p.get F).ti B ((aH (θ:=θ) H).trans f) trivial (o8 D θ) q (Int.le_refl _) (by grind) E w (toCh P θ (r.ent n)::C) t
  refine this.imp fun v w' j=>⟨?_,j.2⟩
  have O:=BG (k:=r.t.size) b;rcases O with ⟨i,-,G,-,-⟩ | ⟨g,l,Q,x',i,-,-⟩
  ·have Z:c=0:=by rw[i] at a;exact a.symm
   refine .inl ⟨i,?_,G,rfl,by omega⟩;grind[sliced]
  ·rw[i] at f⊢
   injection f with S X f3
   refine .inr ⟨g,l,Q,0,rfl,?_,Int.le_refl _,by omega,by omega,by omega,Nat.zero_le _,.inr (by simp)⟩;grind[sliced,Addr.add_mid]
 grind
theorem Sq (hT:TTok P tt) {T U:TypeId} (ho:o.op= .call { callee:=.builtin .append,args:= #[x,y],argTypes:= #[T,U] }) (h:Zr tt s k T U x y=some res):Oks P w0 s o k res:=by
 obtain ⟨d,hd,h⟩:=bind_some h;obtain ⟨E,hE,h⟩:=bind_some h;obtain ⟨e,he,h⟩:=bind_some h;obtain ⟨r,hby,h⟩:=bind_some h;obtain ⟨f,hf',h⟩:=bind_some h;obtain ⟨ik,hik,h⟩:=bind_some h;obtain ⟨b,hb,h⟩:=bind_some h;obtain ⟨q,hq,h⟩:=bind_some h;obtain ⟨hn,h⟩:=ai h;simp only[aj] at hn;obtain ⟨⟨⟨⟨n1,Z⟩,n4⟩,n5⟩,n6⟩:=hn;have n1:e.n=b.k:=au n1;have Z:b.r.E=E:=au Z;obtain ⟨z,hz,h⟩:=bind_some h;obtain ⟨c,hc,h⟩:=bind_some h;obtain ⟨u,hk',h⟩:=bind_some h;obtain ⟨c1,c2,c3,c4,c5⟩:=bM hk';obtain ⟨hr,hk,hvw⟩:=rS (P:=P) (w0:=w0) hb;obtain ⟨hp,-⟩:=bY hr;obtain ⟨kn,hkn⟩:=Option.isSome_iff_exists.1 n5;have V:P.underlying U=some (.int kn):=(hT.get hf').ik (some kn) (by grind);have hdk:=hT.get hd;have R:=hT.get he;obtain ⟨l,hz1,hz2,K⟩:=R.zero r hby;have H:l.cells.size=e.n:=by rw[hz2,List.size_toArray,xr,R.sz]
 have W:P.underlying T=some (.slice b.r.E):=(hdk.el E hE).trans (by rw[Z]);have B:TZ P b.r.E l e.n r:=by rw[Z];exact hz1
 have hzr: ∀J,b.r.t.rep.rd J l.cells.toList z:=fun J=>by grind[Kz]
 have hnp:0<e.n:=by rw[n1,hk];exact Ty.size_pos _
 have hR:b.r.t.rep.size=e.n:=b.r.t.rep_size.trans (hk.symm.trans n1.symm);refine ⟨_,h,good_row (rs:=[b.r.ent b.h]) (ns:=[]) (o6 hp) fun J θ hf=>fun w C hs=>?_⟩;have p:St J w0 w (Ch.own (ax b.r.E b.r.t.rep) [hv θ b.h] b.r.xs::C):=hs;have h1:=hvw hf rfl p;have L:=BK hc hf.env;obtain ⟨ad,e1,e2,e3⟩:=ze p;have hxl:=(p.hd 0 rfl).2;have S:((q.toNat:Nat):Int)=q:=by omega
 have M:0<q.toNat:=by omega
 have X:(b.m.toNat+q.toNat)*r<=140737488355328:=by
  have:(((b.m.toNat+q.toNat)*r:Nat):Int)=(b.m+q)*r:=by
   rw[Int.natCast_mul,Int.natCast_add,S,show ((b.m.toNat:Nat):Int)=b.m from by obtain ⟨_,_,_,g1,g2⟩:=h1.hd;omega]
  omega
 have hbig1:b.m.toNat+q.toNat<=140737488355328:=by
  have:(b.m.toNat+q.toNat)*1<=(b.m.toNat+q.toNat)*r:=Nat.mul_le_mul_left _ K
  omega
 have hy:evL (envL θ s) y= .int .i64 (q.toNat:Nat):=by rw[S];exact o8 hq θ
 have fin: ∀(old:List Value) (n:Nat),old.length=b.m.toNat*e.n->(∀(i:Nat) a,(b.r.xs.take b.m.toNat)[i]? =some a-> ∃c:List Value,c.length=e.n/\(∀j,j<e.n->old[i*e.n+j]? =c[j]?)/\b.r.t.rep.rd J c a)->b.m.toNat<=b.r.xs.length->b.m.toNat+q.toNat<=n->n<=maxLen->
   St J w0 (w.drew.alloc (.cells (old.toArray++Builtin.zeroCells l.cells q.toNat++Builtin.zeroCells l.cells (n - (b.m.toNat+q.toNat))) b.r.E)) ((Ch.own (Ty.sl b.r.E b.r.t).rep [.slice (some ⟨w.heap.size,0,none⟩) (b.m.toNat+q.toNat) n] (b.r.xs.take b.m.toNat++List.replicate q.toNat z):: [toCh P θ (b.r.ent b.h)])++C):=by
  intro old n hl hel G hcc hmx;have hA:=(p.drew).alloc (old++(Builtin.zeroCells l.cells q.toNat).toList++(Builtin.zeroCells l.cells (n - (b.m.toNat+q.toNat))).toList) b.r.E;have ea:(old++(Builtin.zeroCells l.cells q.toNat).toList++(Builtin.zeroCells l.cells (n - (b.m.toNat+q.toNat))).toList).toArray=old.toArray++Builtin.zeroCells l.cells q.toNat++Builtin.zeroCells l.cells (n - (b.m.toNat+q.toNat)):=by
   apply Array.ext';simp
  rw[ea] at hA;have D:(b.r.xs.take b.m.toNat++List.replicate q.toNat z).length=b.m.toNat+q.toNat:=by rw[az,aq,List.length_replicate];omega
  have hzl:(Builtin.zeroCells l.cells q.toNat).toList.length=q.toNat*e.n:=by rw[rR,H]
  have hzl2:(Builtin.zeroCells l.cells (n - (b.m.toNat+q.toNat))).toList.length=(n - (b.m.toNat+q.toNat))*e.n:=by rw[rR,H]
  have m1:b.m.toNat*e.n+q.toNat*e.n+(n - (b.m.toNat+q.toNat))*e.n=n*e.n:=by rw[<-Nat.add_mul,<-Nat.add_mul];congr 1;omega
  have:=Mr (xs:=b.r.xs.take b.m.toNat++List.replicate q.toNat z) (Ty.cpy n4) (k:=e.n) hR (by omega) hmx (by grind) (by grind[lim]) (fun i a F=>by
   by_cases hi:i<b.m.toNat
   ·grind
   ·have hi2:i<b.m.toNat+q.toNat:=by rw[<-D];exact (List.getElem?_eq_some_iff.1 F).1
    rw[List.getElem?_append_right (by grind),aq,List.getElem?_replicate,if_pos (by omega)] at F;obtain rfl:=ae F;refine ⟨l.cells.toList,by omega,fun j O=>?_,hzr J⟩;have m2:b.m.toNat*e.n<=i*e.n:=Nat.mul_le_mul_right _ (by omega);have m3:i*e.n+e.n<=(b.m.toNat+q.toNat)*e.n:=by rw[<-Nat.succ_mul];exact Nat.mul_le_mul_right _ hi2
    have m4:(b.m.toNat+q.toNat)*e.n=b.m.toNat*e.n+q.toNat*e.n:=Nat.add_mul _ _ _;have m5:(i - b.m.toNat)*e.n=i*e.n - b.m.toNat*e.n:=Nat.sub_mul _ _ _;rw[List.getElem?_append_left (by grind),List.getElem?_append_right (by omega),hl,show i*e.n+j - b.m.toNat*e.n=(i - b.m.toNat)*e.n+j from by omega,<-H,xG (by omega) (by omega)]) hA
  rw[D] at this;exact this
 rcases h1 with ⟨q0,hu,g1,g2,g3⟩ | ⟨g,ofs,cp,x',q0,hu,q1,q2,q3,q4,q5,q6⟩
 ·have I:b.m.toNat=0:=by omega
  obtain ⟨info,hi',hzz,hsize,hbb⟩:=info_parts B;have t:=Lib.run_append_nil_zeros (P:=P) w T U o.type b.r.E info l .i64 kn W V hi' hzz q.toNat M (by omega) (by omega) (by grind);rw[sL ho hu hy t];refine ⟨trivial,?_⟩
  have:=fin [] (grownCap w q.toNat 0 b.r.E) (by grind) (fun i a F=>by grind) (by omega) (by rw[I,Nat.zero_add];exact grownCap_ge w _ _ _) (grownCap_le_maxLen w _ _ _ (by unfold maxLen;omega))
  rw[I,Nat.zero_add] at this;grind
 ·have N:b.l.toNat=0:=by omega
  have hx0:x'=0:=by rw[N,Nat.zero_mul] at q5;omega
  subst hx0;rw[N,Nat.sub_zero,Nat.sub_zero,Nat.add_zero] at hu;rw[q0] at L p;have hcp:cp=c:=L;obtain ⟨-,r1,r2,cur,r3,r4,hat⟩:=DP (k:=e.n) (Ty.sh_ok n4) hR p;have G:b.m.toNat<=b.r.xs.length:=by omega
  have A:=uS (cur:=cur) (ofs:=ofs) (k:=e.n) (j:=0) (m:=b.m.toNat) (cap:=cp) r4 (Nat.zero_le _) (Nat.le_trans G r1);rw[Nat.sub_zero] at A;obtain ⟨n,g1,g2,t⟩:=BH (P:=P) (w:=w) (ty:=o.type) (a:=⟨g,ofs,none⟩) (i:=b.m.toNat) (cap:=cp) (q:=q.toNat) (old:=tH cur ofs e.n 0 b.m.toNat) W V B hnp M (by omega) X K A (fun j v O=>by
   have Q:=(List.getElem?_eq_some_iff.1 O).1;rw[A] at Q;rw[mX (by simpa using Q)] at O;grind[Addr.add_mid,y8])
  rw[sL ho hu hy t];refine ⟨trivial,fin _ n A (fun i a F=>?_) G g1 g2⟩;have hi:i<b.m.toNat:=by
   have:=(List.getElem?_eq_some_iff.1 F).1
   rw[aq] at this;omega
  rw[List.getElem?_take,if_pos hi] at F;obtain ⟨c,d1,d2,d3⟩:=hat i a F;refine ⟨c,d1,fun j O=>?_,d3⟩;have m2:i*e.n+e.n<=b.m.toNat*e.n:=by rw[<-Nat.succ_mul];exact Nat.mul_le_mul_right _ hi
  rw[mX (by rw[Nat.sub_zero];omega),<-d2 j O];simp
theorem Fe {α:Type} {xs:List α} {l cnt:Int} (b:0<=l) (h1:0<=cnt) (a:l+cnt<=(xs.length:Int)):(AZ xs l cnt).length=cnt.toNat:=by
 grind[AZ,a7,aq]
theorem Hc {I:Hp} {w:World} {C:List Ch} {α:Type} {E:TypeId} {R:Rep α} (d:R.Sh) {k:Nat} (B:0<k) (t:R.size=k) {v u:Value} {xs:List α} {l m cnt:Int} (b:St I w0 w (Ch.own (ax E R) [v] xs::C)) (hv:Vw u v k xs.length l m) (h1:0<=cnt) (G:l+cnt<=(xs.length:Int)) (S:cnt<=m - l) :
  ∃ao sc news,u= .slice ao (m.toNat - l.toNat) sc/\RdCells R I k news (AZ xs l cnt)/\(news= [] \/ ∃a,ao=some a/\ ∀j v,news[j]? =some v->w.cell? (a.add j)=some v):=by
 rcases hv with ⟨h,f,p,O,F⟩ | ⟨g,ofs,z,J,h,f,U,L,Q,N,H,K⟩
 ·have r:=List.eq_nil_of_length_eq_zero p;subst r;refine ⟨none,0,[],by grind,⟨by simp[AZ],fun i y n=>by simp[AZ] at n⟩,.inl rfl⟩
 ·rw[h] at b;obtain ⟨-,q,W,cur,D,M,e⟩:=DP (k:=k) d t b;have T:xs.length*k<=z*k:=Nat.mul_le_mul_right _ q;have c:=G9 (R:=R) (I:=I) (xs:=xs) (cur:=cur) (ofs:=ofs) (k:=k) (j:=l.toNat) (m:=(l+cnt).toNat) (by omega) (by omega) (by omega) e;refine ⟨_,_,tH cur ofs k l.toNat (l+cnt).toNat,f,c,?_⟩;by_cases V:cnt=0
  ·left
   have:=c.1
   simp_all
  ·right;refine ⟨_,rfl,fun j v A=>?_⟩;grind[tH,uS,mX,Addr.add_mid,Nat.add_assoc,y8]
theorem He {I:Hp} {ev:Operand->Value} {w:World} {C:List Ch} {α:Type} {E T U:TypeId} {R:Rep α} (F:R.Sh) (hC:Cpy R R) {k:Nat} {agg:Bool} (O:P.underlying T=some (.slice E)) (H:TI P E agg k) (hk:0<k) (hR:R.size=k) {v V:Value} {xs ys:List α} {l m d f:Int} {ao:Option Addr} {L:Nat} {news:List Value}
  (W:o.op= .call { callee:=.builtin .copy,args:= #[x,y],argTypes:= #[T,U] }) (S:ev x=V) (X:ev y= .slice ao (f.toNat - d.toNat) L) (t:St I w0 w (Ch.own (ax E R) [v] xs::C)) (hv:Vw V v k xs.length l m) (K:RdCells R I k news ys) (B:news= [] \/ ∃a,ao=some a/\ ∀j v,news[j]? =some v->w.cell? (a.add j)=some v)
  (h0:0<=d) (h02:d<=f) (hys:(ys.length:Int)=min (f - d) (m - l)) (hl:l<=(xs.length:Int)) :
  Upon P (fun r w'=>r= .int .i64 (min (f - d) (m - l))/\ ∃u',(∀a b c,v= .slice a b c->u'= .slice a (zb xs l.toNat ys).length c)/\St I w0 w' (Ch.own (ax E R) [u'] (zb xs l.toNat ys)::C)) ((execOp ev o).run P w):=by
 have D:((Nat.min (f.toNat - d.toNat) (m.toNat - l.toNat):Nat):Int)=min (f - d) (m - l):=by
  have ⟨_,_,_,g1,g2⟩:=hv.hd;show ((min (f.toNat - d.toNat) (m.toNat - l.toNat):Nat):Int)=_;omega
 have A:Nat.min (f.toNat - d.toNat) (m.toNat - l.toNat)=ys.length:=by omega
 rcases hv with ⟨Z,Q,g1,g2,g3⟩ | ⟨g,i,G,x',Z,Q,q1,q2,q3,q4,q5,M⟩
 ·have hxx:=List.eq_nil_of_length_eq_zero g1;have J:ys= []:=List.eq_nil_of_length_eq_zero (by omega);have h:(Builtin.copy_ #[T,U] o.type #[.slice none 0 0,.slice ao (f.toNat - d.toNat) L]).run P w= .ok (goInt 0) w:=by
   have z:(f.toNat - d.toNat).min 0=0:=Nat.min_zero _;cases ao with
   | none=>simp[Builtin.copy_,run_underlying O,Builtin.lenOf,TI.size H w,Builtin.firstCells,z]
   | some a =>
    have h0:(loadCells a 0).run P w= .ok #[] w:=run_loadCells_list (P:=P) w a [] (by simp);simp[Builtin.copy_,run_underlying O,Builtin.lenOf,TI.size H w,Builtin.firstCells,z,h0]
  rw[xH W (S.trans Q) X h];refine ⟨?_,v,fun a b c e=>?_,?_⟩
  ·rw[<-D,A,J];rfl
  ·grind[zb]
  grind[zb]
 ·rw[Z] at t⊢;obtain ⟨-,r1,r2,cur,r3,r4,hat⟩:=DP (k:=k) F hR t;have n:l.toNat+ys.length<=G:=by omega
  have m1:(l.toNat+ys.length)*k<=G*k:=Nat.mul_le_mul_right _ n;have hcl:(cur.toList.drop i).length=cur.size - i:=by grind
  have hnl:=K.1;have u:x'=l.toNat*k\/ys= []:=by
   rcases M with M | M
   ·right;exact List.eq_nil_of_length_eq_zero (by omega)
   ·omega
  have h:=Mq (P:=P) (w:=w) (dT:=T) (sT:=U) (ty:=o.type) (k:=k) (g:=g) (o:=i+x') (dLen:=m.toNat - l.toNat) (dCap:=G - l.toNat) (sLen:=f.toNat - d.toNat) (sCap:=L) (ao:=ao) (cs:=news) O (TI.size H w) (by grind) B (fun q hq=>by
   grind[Nat.add_assoc,y8,List.getElem?_eq_getElem]) (fun q _=>by simp[World.frozen?,r3]) (K.one hk)
  rw[xH W (S.trans Q) X h];refine ⟨?_,.slice (some ⟨g,i,none⟩) (zb xs l.toNat ys).length G,fun a b c e=>?_,?_⟩
  ·simp_all[goInt,Nat.min]
  ·grind
  ·have:=Sn F hC hk hR (p:=l.toNat) K (by omega) n (by grind[lim,maxLen]) t
   rcases u with u | u
   ·grind
   ·have N:news= []:=List.eq_nil_of_length_eq_zero (by grind);rw[N] at this⊢;exact this
theorem q9 {b c:Vb} :zf b c<=c.m - c.l/\zf b c<=b.m - b.l:=⟨Int.min_le_left _ _,Int.min_le_right _ _⟩
theorem Hf (hT:TTok P tt) {T U:TypeId} (ho:o.op= .call { callee:=.builtin .copy,args:= #[x,y],argTypes:= #[T,U] }) (h:OU tt s k T x y=some res):Oks P w0 s o k res:=by
 have ⟨d,hd,h⟩:=bind_some h;have ⟨E,hE,h⟩:=bind_some h;have ⟨e,he,h⟩:=bind_some h;have ⟨b,hb,h⟩:=bind_some h;have ⟨c,hc,h⟩:=bind_some h;have ⟨hn,h⟩:=ai h;simp only[aj] at hn;have ⟨⟨⟨n1,n2⟩,n3⟩,S⟩:=hn;have n1:e.n=b.k:=au n1;have n2:c.k=b.k:=au n2;have n3:b.r.E=E:=au n3;have ⟨hr,hk,hvw⟩:=rS (P:=P) (w0:=w0) hb;obtain ⟨hp,-⟩:=bY hr;have hTE:P.underlying T=some (.slice b.r.E):=((hT.get hd).el E hE).trans (by rw[n3]);have hti:TI P b.r.E e.agg b.k:=by rw[n3,<-n1];exact (hT.get he).ti
 have t:0<b.k:=by rw[hk];exact Ty.size_pos _
 have hR:b.r.t.rep.size=b.k:=b.r.t.rep_size.trans hk.symm;split at h
 ·rename_i Z;have hh:=Hdr.beq_eq Z;have ⟨A,hk2,m⟩:=rS (P:=P) (w0:=w0) hc;have hcr:c.r=b.r:=by
   rw[hh] at A;exact ae (A.symm.trans hr)
  have ⟨u,L,h⟩:=bind_some h;have ⟨V,Q,R,c4,c5⟩:=bM L;have key: ∀J θ,Fine P w0 J θ s-> ∀w C,St J w0 w (toCh P θ (b.r.ent b.h)::C)->Upon P (fun r w'=>r= .int .i64 (zf b c)/\ ∃G,(∀a q z,hv θ b.h= .slice a q z->G= .slice a (zb b.r.xs b.l.toNat (AZ b.r.xs c.l (zf b c))).length z)/\St J w0 w' (Ch.own (ax b.r.E b.r.t.rep) [G] (zb b.r.xs b.l.toNat (AZ b.r.xs c.l (zf b c)))::C)) ((execOp (evL (envL θ s)) o).run P w):=by
   intro J θ l w C j;have i:St J w0 w (Ch.own (ax b.r.E b.r.t.rep) [hv θ b.h] b.r.xs::C):=j;have h1:=hvw l rfl i;have h2:Vw (evL (envL θ s) y) (hv θ b.h) b.k b.r.xs.length c.l c.m:=by
    have:=m l rfl (xs:=c.r.xs) (by rw[hcr,hh];omega)
    grind
   have ⟨ao,sc,news,hy,M,n⟩:=Hc (Ty.sh_ok S) t hR i h2 Q R (q9).1;have F:=Fe (xs:=b.r.xs) V Q R;exact He (P:=P) (w0:=w0) (o:=o) (Ty.sh_ok S) (Ty.cpy S) hTE hti t hR ho rfl hy i h1 M n V (by have:=(q9 (b:=b) (c:=c)).1;omega) (by grind[zf]) c5
  have hll:=Fe (xs:=b.r.xs) V Q R;have O:=o9 (xs:=b.r.xs) (ys:=AZ b.r.xs c.l (zf b c)) (p:=b.l.toNat) (by omega);have hcf:=(q9 (b:=b) (c:=c)).2;split at h
  ·have ⟨u2,H,h⟩:=bind_some h;have d1:=bM H;refine ⟨_,h,Fa (fact:=fun _ v=>v= .int .i64 (zf b c)) hr (fun J θ l=>fun w C j=>?_) (fun J θ u l B hlt=>⟨rfl,B.symm⟩)⟩;refine (key J θ l w C j).imp fun r w' f=>⟨f.1,?_⟩
   obtain ⟨-,G,K,I⟩:=f;have i:St J w0 w (Ch.own (ax b.r.E b.r.t.rep) [hv θ b.h] b.r.xs::C):=j;have ⟨ad,f1,f2,f3⟩:=ze i;grind
  ·have ⟨q,hq,h⟩:=bind_some h;have ⟨u2,H,h⟩:=bind_some h;have ⟨d1,d2⟩:=bM H;refine ⟨_,h,Db hp,aX rfl,fun J θ l=>?_⟩;have ⟨t1,k0,N0,t2⟩:=KF hq l.env;refine OpT.weak (fact:=fun v=>v= .int .i64 (zf b c)) (gv:=fun _=>[Ch.own (ax b.r.E b.r.t.rep) [hv θ q.1] (zb b.r.xs b.l.toNat (AZ b.r.xs c.l (zf b c)))]) (fun w C j=>?_) (fun u B=>⟨rfl,B.symm,fun g hg=>?_⟩) (fun u B=>?_)
   ·refine (key J θ l w C j).imp fun r w' f=>⟨f.1,?_⟩
    obtain ⟨-,G,K,I⟩:=f;have i:St J w0 w (Ch.own (ax b.r.E b.r.t.rep) [hv θ b.h] b.r.xs::C):=j;have ⟨ad,f1,f2,f3⟩:=ze i
    have:=K _ _ _ f1
    have F:(zb b.r.xs b.l.toNat (AZ b.r.xs c.l (zf b c))).length=q.2.toNat:=by rw[O];omega
    have X:G=hv θ q.1:=by
     rw[this,F];rcases t2 with ⟨q0,B,g1,g2,g3⟩ | ⟨g,ofs,cp,x',q0,B,q1,q2,q3,q4,q5,q6⟩
     ·grind
     ·grind
    grind
   ·obtain rfl:=ak hg;exact ⟨bc t1,aB _,trivial⟩
   ·show [Ch.own _ [hv θ q.1] _] = [Ch.own _ [hv (upd θ s.nxt u) q.1] _];rw[show hv (upd θ s.nxt u) q.1=hv θ q.1 from be Same.upd t1]
    rfl
 ·have ⟨c,hc',h⟩:=bind_some h;have ⟨hkk,h⟩:=ai h;have n2:c.k=b.k:=au hkk;obtain ⟨A,hk2,m⟩:=IZ (P:=P) (w0:=w0) hc';obtain ⟨hp2,-⟩:=bY A;obtain ⟨ys,hys,h⟩:=bind_some h;obtain ⟨u,L,h⟩:=bind_some h;obtain ⟨V,Q,R,c4,c5,c6⟩:=bM L;have hent:=yX (h:=c.h) hys;have hyl:c.r.xs.length=ys.length:=by
   obtain ⟨K,I⟩:=oZ hys;obtain ⟨x1,x2,x3,x4,x5,ver,E2,t2,xs2,rest2⟩:=c;simp only at K I⊢
   injection K with e3 e4
   subst e3;subst e4;rw[I]
  have hll:=Fe (xs:=ys) V Q R;have O:=o9 (xs:=b.r.xs) (ys:=AZ ys c.l (zf b c)) (p:=b.l.toNat) (by omega);have hcf:=(q9 (b:=b) (c:=c)).2;have N:s.chs.Perm ([c.r.ent c.h] ++ [b.r.ent b.h] ++c.r.rest):=by
   refine hp.trans ((hp2.cons _).trans ?_);exact List.Perm.swap _ _ _
  refine ⟨_,h,N,aX rfl,fun J θ l=>?_⟩;have W:=lQ l hp;refine OpT.weak (fact:=fun v=>v= .int .i64 (zf b c)) (gv:=fun _=>[toCh P θ (c.r.ent c.h),Ch.own (ax b.r.E b.r.t.rep) [hv θ b.h] (zb b.r.xs b.l.toNat (AZ ys c.l (zf b c)))]) (fun w C j=>?_) (fun u B=>⟨rfl,B.symm,fun g hg=>?_⟩) (fun u B=>?_)
  ·have j:St J w0 w (toCh P θ (c.r.ent c.h)::Ch.own (ax b.r.E b.r.t.rep) [hv θ b.h] b.r.xs::C):=j;have D:=j.perm (List.Perm.swap _ _ _);have h1:=hvw l rfl D;have h2:=m l rfl (show St J w0 w (Ch.own (ax c.r.E c.r.t.rep) [hv θ c.h] c.r.xs::_) from j);rw[hyl,n2] at h2;rw[hent] at j D⊢;have hs2:St J w0 w (Ch.own (ax b.r.E b.r.t.rep) [hv θ c.h] ys::Ch.own (ax b.r.E b.r.t.rep) [hv θ b.h] b.r.xs::C):=j;obtain ⟨ao,sc,news,hy,M,n⟩:=Hc (Ty.sh_ok S) t hR hs2 h2 Q R (q9).1
   have:=He (P:=P) (w0:=w0) (o:=o) (Ty.sh_ok S) (Ty.cpy S) hTE hti t hR ho rfl hy D h1 M n V (by have:=(q9 (b:=b) (c:=c)).1;omega) (by grind[zf]) c5
   refine this.imp fun r w' f=>⟨f.1,?_⟩
   obtain ⟨-,G,K,I⟩:=f;obtain ⟨ad,f1,f2,f3⟩:=ze D
   have:=K _ _ _ f1
   have X:G=hv θ b.h:=by
    rw[this,O,show max b.r.xs.length (b.l.toNat+(AZ ys c.l (zf b c)).length)=b.r.xs.length from by omega];exact f1.symm
   rw[X] at I;exact I.perm (List.Perm.swap _ _ _)
  ·obtain rfl:=ak hg;exact ⟨bc W.1,aB _,trivial⟩
  ·show [toCh P θ (c.r.ent c.h),Ch.own _ [hv θ b.h] _] = [toCh P θ (c.r.ent c.h),Ch.own _ [hv (upd θ s.nxt u) b.h] _];rw[show hv (upd θ s.nxt u) b.h=hv θ b.h from be Same.upd W.1]
   rfl
theorem Hg {α:Type} {E:TypeId} {R:Rep α} {I:Hp} {w0 w:World} {C:List Ch} {g ofs n cap:Nat} {xs:List α} (h:St I w0 w (Ch.own (ax E R) [.slice (some ⟨g,ofs,none⟩) n cap] xs::C)): ∃cur,w.heap[g]? =some (.cells cur E (0,0))/\ofs+cap*R.size<=cur.size/\n=xs.length/\n<=cap/\ ∃F,Sep I C w F/\g∉F:=by
 obtain ⟨d,f,F,⟨G,K,rfl,⟨c,i⟩,a⟩,b,e⟩:=h;grind
theorem Sr {q:FuncId} (I:aa2 P q) {ts:Array TypeId} (X:o.op= .call { callee:=.value (.func q),args:= #[x,y],argTypes:=ts }) (h:W2 s k x y=some res):Oks P w0 s o k res:=by
 unfold W2 at h;split at h
 ·rename_i M T;have ⟨r,U,h⟩:=bind_some h;have ⟨c,Z,h⟩:=bind_some h;have ⟨u,hk,h⟩:=bind_some h;have ⟨c1,c2⟩:=bM hk;obtain ⟨hp,-⟩:=bY U;have ⟨A,hk2,j⟩:=IZ (P:=P) (w0:=w0) Z;obtain ⟨H,-⟩:=bY A;have i:=hp.trans (H.cons _);refine ⟨_,h,i,aX rfl,fun J θ hf=>OpT.weak (fact:=(· = .bool false)) (gv:=fun _=>[toCh P θ (r.ent M),toCh P θ (c.r.ent c.h)]) (fun w C Q=>?_) (fun u p=>⟨rfl,p.symm,fun g R=>by cases R⟩) (fun u p=>rfl)⟩;have a:St J w0 w (Ch.own (ax r.E r.t.rep) [hv θ M] r.xs::Ch.own (ax c.r.E c.r.t.rep) [hv θ c.h] c.r.xs::C):=Q;have d:=a.perm (List.Perm.swap _ _ _);have W:=j hf rfl d;have V:=BG (k:=1) a;rcases V with ⟨t,-,g1,-,-⟩ | ⟨g,B,cp,x',t,-,-⟩
  ·omega
  rcases W with ⟨L,p,e1,e2,e3⟩ | ⟨O,m,f,S,L,p,p1,p2,p3,p4,p5,p6⟩
  ·omega
  rw[t] at a;rw[t,L] at d;obtain ⟨l,a1,a2,a3,a4,-⟩:=Hg a;have ⟨b,b1,b2,b3,b4,FB,b5,b6⟩:=Hg d;have v:g≠O:=by
   intro e;obtain ⟨GA,KA,hFB,F,-⟩:=b5
   have:g∈GA:=by
    obtain ⟨-,F⟩:=F;rcases F with ⟨G,-,-⟩ | ⟨g',N,K,cur,K1,G,-,-,-,-,rfl,-⟩
    ·grind
    ·grind
   exact b6 (by grind)
  have z:1<=c.r.t.rep.size:=by rw[Ty.rep_size];exact Ty.size_pos _
  have D:0<b.size:=by
   have:f*1<=f*c.r.t.rep.size:=Nat.mul_le_mul_left _ z
   omega
  have n:=I w g O B (m+S) r.xs.length (c.m.toNat - c.l.toNat) cp (f - c.l.toNat) l b _ _ v a1 b1 D;have E:=(aH (θ:=θ) T).trans t;have he:(execOp (evL (envL θ s)) o).run P w= .ok (.value (.bool false)) w:=by
   simp[execOp,X,resolve,show evL (envL θ s) (.func q)= .func (.func q) #[] #[] from rfl,Deferred.ofValue,Sem.run_bind,Sem.run_pure,Result.andThen_ok,invoke,List.map_toArray,List.map_cons,List.map_nil,E,p];exact n
  rw[he];exact ⟨rfl,Q⟩
 grind
theorem Zu {f:FuncId} {fn:Func} {tS tR E:TypeId} {n:Nat} {agg:Bool} (C:P.funcs[f]? =some fn) (a:(fn.name == "runtime.NumGoroutine")=false) (z:fn.body.isNone=true) (r:Extern.findNext fn=none) (B:Extern.find fn=some (Extern.SlicesOverlaps.overlaps #[tS,tS] #[tR])) (j:P.underlying tS=some (.slice E)) (D:TI P E agg n):aa2 P f:=by
 intro w g h F v p m q l c b u t d e A i;rw[run_callFunc_extern C a z r B,Lib.run_overlaps_apart (P:=P) w tS tR E j n (fun w=>TI.size D w) ⟨g,F,none⟩ ⟨h,v,none⟩ p q m l d u t c.size b.size (by simp[World.shape?,e]) (by simp[World.shape?,A]) (by omega) (by simp[World.frozen?,e]) (by simp[World.frozen?,e])]
 rfl
end
end R
namespace R
open Go.RowKit
open D
structure PartA where
 h:Hdr
 ver:Nat
 E:TypeId
 t:Ty
 xs:List t.den
 lo:Nat
 hi:Nat
def Ss:AV->Option PartA
 | .sub h ver E t xs l=>some ⟨h,ver,E,t,xs,l.toNat,xs.length⟩
 | .pre h ver E t xs l=>some ⟨h,ver,E,t,xs,0,l.toNat⟩
 | _=>none
section
variable {Y:Type} (tt:TT) (s:Sg) (k:Res->Option Y)
def aa6 (E:TypeId) (b:Nat) (t:Ty) (xs:List t.den) (nsx rest:List Ent) (q:PartA):Option Y:=
 (rowOf q.h rest).bind fun r=>cg (Nat.beq r.ver q.ver&&(t.sh&&t.dp)) ((oY (.sl r.E r.t) (.sl E t) r.xs).bind fun ys=>(bA b xs ((ys.take q.hi).drop q.lo)).bind fun zs=>k ⟨[r.ent q.h],nsx,r.rest,[(⟨s.nxt,[]⟩,.own (.sl E t) zs)],.one (.own ⟨s.nxt,[]⟩)⟩)
def W3 (T:TypeId) (x y:Operand):Option Y:=(td tt T).bind fun d=>d.el.bind fun E=>(td tt E).bind fun e=>e.bytes.bind fun b=>(opd s y).bind fun yv=>(Ss yv).bind fun q=>match opd s x with
 | some (.one (.own h))=>(rowOf h s.chs).bind fun r=>cg (Nat.beq r.E E&&Nat.beq r.t.size e.n) (aa6 s k r.E b r.t r.xs [r.ent h] r.rest q)
 | some (.one (.val v))=>cg (isNil v&&Nat.beq q.t.size e.n) (aa6 s k E b q.t [] [] s.chs q)
 | _=>none
end
section
variable {Y:Type} {tt:TT} {an:List (Nat×Ty)} {s:Sg} {k:Res->Option Y} {P:Program} {w0:World} {o:Oper} {res:Y} {x y:Operand}
theorem Su {J:Hp} {θ:Th} {n:Nat} {chs:List Ent} {v:AV} {q:PartA} (h:Ss v=some q) (a:v.ok P w0 J θ n chs):v.v θ=sI (hv θ q.h) q.lo q.hi q.t.size/\q.lo<=q.hi/\q.hi<=q.xs.length/\q.h.id<n/\Mem chs n q.h q.ver (.own (.sl q.E q.t) q.xs):=by
 unfold Ss at h;split at h
 ·rename_i g b E t c l;obtain rfl:=ae h;obtain ⟨e,f,d⟩:=a;exact ⟨rfl,by show l.toNat<=c.length;omega,aF _,e,d⟩
 ·rename_i g b E t c l;obtain rfl:=ae h;obtain ⟨e,f,d⟩:=a;exact ⟨rfl,Nat.zero_le _,by show l.toNat<=c.length;omega,e,d⟩
 ·cases h
theorem Hh {I:Hp} {ev:Operand->Value} {α:Type} {E T:TypeId} {R:Rep α} {z:Value} {n b:Nat} {x y:Operand} {s u:Value} {xs ys zs:List α} {lo hi:Nat} (h:bA b xs ((ys.take hi).drop lo)=some zs) (h1:lo<=hi) (f:hi<=ys.length) (i:R.Dp) (q:Cpy R R) (m:P.underlying T=some (.slice E)) (r:TZ P E z n b) (e:z.cells.size=n) (l:0<n) (d:R.size=n) (a:1<=b) (g:o.op= .call { callee:=.builtin .append,args:= #[x,y],argTypes:= #[T,T] }) (p:ev x=s) (j:ev y=sI u lo hi n) :
  OpT P I w0 o ev [Ch.own (ax E R) [s] xs,Ch.own (ax E R) [u] ys] (fun _=>True) (fun v=>[Ch.own (ax E R) [v] zs,Ch.own (ax E R) [u] ys]):=by
 intro w C t;have key:=xA (P:=P) (I:=I) (w0:=w0) (o:=o) (ev:=ev) (ls:=[Ch.own (ax E R) [u] ys]) (rn:=[Ch.own (ax E R) [s] xs]) (fact:=fun _=>True) (gv:=fun v=>[Ch.own (ax E R) [v] zs]) (fun v=>⟨Bj (EB i),trivial⟩) (fun B A c _=>wA h q d (J6 (c _ _ _ (List.mem_singleton.2 rfl)) h1 f d) m r e l d a g p j) w C (t.perm ((List.Perm.swap _ _ _).append_right C));exact key.imp fun v w hv=>⟨hv.1,hv.2.perm ((List.Perm.swap _ _ _).append_right C)⟩
theorem Sv {q:PartA} {nsx rest:List Ent} {r:Row} {J:Hp} {θ:Th} {n:Nat} (hp:s.chs.Perm (nsx++rest)) (b:rowOf q.h rest=some r) (hv:r.ver=q.ver) (c:Mem s.chs n q.h q.ver (.own (.sl q.E q.t) q.xs)):Chk.own (.sl r.E r.t) r.xs=Chk.own (.sl q.E q.t) q.xs:=by
 obtain ⟨a,-⟩:=bY b;exact c.2 (r.ent q.h) (hp.mem_iff.2 (bp _ (a.mem_iff.2 (by simp)))) _ ⟨rfl,.inl ⟨hv,rfl⟩⟩
theorem OV {T E:TypeId} {z:Value} {n b:Nat} {t:Ty} {xs:List t.den} {nsx rest:List Ent} {q:PartA} {G:AV} (hq:Ss G=some q) (hp:s.chs.Perm (nsx++rest)) (hT:P.underlying T=some (.slice E)) (hE:TZ P E z n b) (D:z.cells.size=n) (Z:0<n) (H:t.size=n) (u:1<=b) (U:o.op= .call { callee:=.builtin .append,args:= #[x,y],argTypes:= #[T,T] }) (F:opd s y=some G)
  (l: ∀J θ,Fine P w0 J θ s-> ∃v,evL (envL θ s) x=v/\ ∀(rn:List Ch) (fact:Value->Prop) (K:Value->List Ch),OpT P J w0 o (evL (envL θ s)) (Ch.own (ax E t.rep) [v] xs::rn) fact K->OpT P J w0 o (evL (envL θ s)) (nsx.map (toCh P θ)++rn) fact K)
  (h:aa6 s k E b t xs nsx rest q=some res):Oks P w0 s o k res:=by
 unfold aa6 at h;obtain ⟨r,N,h⟩:=bind_some h;obtain ⟨M,h⟩:=ai h;rw[aj,aj] at M;obtain ⟨f,m,A⟩:=M;have f:=au f;obtain ⟨p,j,h⟩:=bind_some h;obtain ⟨zs,c,h⟩:=bind_some h;obtain ⟨C,-⟩:=bY N;have B:=yX (h:=q.h) j;refine ⟨_,h,good_row (hp.trans ((C.append_left nsx).trans List.perm_middle)) fun J θ O=>?_⟩;obtain ⟨v,i,l⟩:=l J θ O;obtain ⟨p1,p2,p3,-,X⟩:=Su hq (cf O F);have d:=Sv (J:=J) (θ:=θ) hp N f X;have a:r.ent q.h=(q.h,r.ver,.own (.sl q.E q.t) q.xs):=by
  show (q.h,r.ver,Chk.own (.sl r.E r.t) r.xs)=_;rw[d]
 rw[B] at a;have e:Chk.own (.sl E t) p=Chk.own (.sl q.E q.t) q.xs:=(Prod.mk.inj (Prod.mk.inj a).2).2;have g:q.t.size=n/\q.xs.length=p.length:=by
  clear i l h j c a B d;obtain ⟨qh,L,qE,Q,w,S,V⟩:=q;simp only at e;have W:Ty.sl E t=Ty.sl qE Q:=(Chk.own.inj e).1;obtain ⟨rfl,rfl⟩:=Ty.sl.inj W;have e2:p=w:=eq_of_heq (Chk.own.inj e).2;exact ⟨H,by rw[e2]⟩
 rw[B]
 have:=Hh (P:=P) (I:=J) (w0:=w0) (R:=t.rep) c p2 (by rw[<-g.2];exact p3) (Ty.dp_ok A) (Ty.cpy m) hT hE D Z (t.rep_size.trans H) u U i ((aH (θ:=θ) F).trans (by rw[p1,g.1]))
 exact OpT.permN (List.perm_append_comm (l₁:=[_])) (l _ _ _ this)
theorem KG (w:TTok P tt) {T:TypeId} (t:o.op= .call { callee:=.builtin .append,args:= #[x,y],argTypes:= #[T,T] }) (h:W3 tt s k T x y=some res):Oks P w0 s o k res:=by
 obtain ⟨d,C,h⟩:=bind_some h;obtain ⟨E,A,h⟩:=bind_some h;obtain ⟨e,H,h⟩:=bind_some h;obtain ⟨b,G,h⟩:=bind_some h;obtain ⟨L,u,h⟩:=bind_some h;obtain ⟨q,B,h⟩:=bind_some h;have j:=w.get C;have i:=w.get H;obtain ⟨z,l,n,g⟩:=i.zero b G;have m:z.cells.size=e.n:=by rw[n,List.size_toArray,xr,i.sz]
 split at h
 ·rename_i D p;obtain ⟨r,I,h⟩:=bind_some h;obtain ⟨f,h⟩:=ai h;rw[aj] at f;have c:=au f.1;have a:=au f.2;obtain ⟨hp,-⟩:=bY I;exact OV (nsx:=[r.ent D]) B hp ((j.el E A).trans (by rw[c])) (by rw[c];exact l) m (by rw[<-a];exact Ty.size_pos _) a g t u (fun J θ K=>⟨_,aH p,fun rn fact F h=>h⟩) h
 ·rename_i v p;obtain ⟨f,h⟩:=ai h;rw[aj] at f;have c:=oA f.1;have a:=au f.2;refine OV (nsx:=[]) B (List.Perm.refl _) (j.el E A) l m (by rw[<-a];exact Ty.size_pos _) a g t u (fun J θ K=>⟨_,aH p,fun rn fact F h=>?_⟩) h;rw[show (AV.one (LV.val v)).v θ= .slice none 0 0 from c] at h;exact OpT.nilrow h
 ·cases h
end
structure HRow where
 E:TypeId
 t:Ty
 xs:List t.den
 n:Nat
def Zv:Hol->Option HRow
 | ⟨_,_,.sl E t,d,.sl _ _,_,f,_,_,_,_,_⟩=>some ⟨E,t,d,List.length (α:=t.den) (f ([] :List _))⟩
 | _=>none
section
variable {Y:Type} (tt:TT) (s:Sg) (k:Res->Option Y)
def OW (T:TypeId) (x i:Operand):Option Y:=(td tt T).bind fun d=>match d.el,opd s x,opd s i with
 | some E,some (.one (.own h)),some (.one (.val (.int .i64 i)))=>(IG h s.chs).bind fun r=>(Zv r).bind fun q=>(td tt E).bind fun e=>cg (Nat.beq e.n q.t.size&&Da h r.rest) ((aU q.xs i).bind fun a=>(chk (i<(q.n:Int))).bind fun _=>k ⟨[r.ent h],[],r.rest,[],.elo h r.over q.E q.t q.xs a i 0⟩)
 | _,_,_=>none
end
section
variable {Y:Type} {tt:TT} {s:Sg} {k:Res->Option Y} {P:Program} {w0:World} {o:Oper} {res:Y} {x:Operand}
theorem Zw {I:Hp} {α β:Type} {E E':TypeId} {R:Rep α} {S:Rep β} {v c:Value} {f:List β->List α} {b off:Nat} {w:World} {K:List Nat} (h:(Ch.gap (ax E R) [v] (ax E' S) f b off c).holds I w K):Hd v (f []).length:=by
 obtain ⟨t,⟨cur,p,n,l⟩,q,g⟩:=h;obtain ⟨F,-,j⟩:=g I (w.setCell ⟨b,off,none⟩ (.slice none 0 0)) (.slice none 0 0) [] [] Hp.le.rfl (fun x r a=>by
  simp only[World.setCell];rw[Array.getElem?_modify,if_neg (fun e=>a e.symm)]) (fun d m i=>by
  simp only[World.setCell];rw[Array.getElem?_modify,if_pos rfl,i];rfl) ⟨by simp,.inl ⟨rfl,rfl,rfl⟩⟩
 exact Hd.of_own j
theorem Mu (W:TTok P tt) {T:TypeId} {i:Operand} (ho:o.op= .indexAddr T x i) (h:OW tt s k T x i=some res):Oks P w0 s o k res:=by
 obtain ⟨d,hd,h⟩:=bind_some h;split at h
 ·rename_i E b j he hx hi;obtain ⟨r,hr,h⟩:=bind_some h;obtain ⟨q,O,h⟩:=bind_some h;obtain ⟨e,hE,h⟩:=bind_some h;obtain ⟨m,h⟩:=ai h;obtain ⟨a,R,h⟩:=bind_some h;obtain ⟨u0,z,h⟩:=bind_some h;have z:=bM z;rw[aj] at m;obtain ⟨m,A⟩:=m;have m:=au m;have hp:=AX hr;obtain ⟨V,f,t0,d1,u1,y1,n,i1,k1,p,M,N⟩:=r;cases t0 with
  | sl S l =>
   cases u1 with
   | sl E2 y =>
    obtain rfl:=ae (show some _=some q from O);refine ⟨_,h,o6 hp,aX rfl,fun J θ hf=>OpT.weak (fact:=(· =pt (hv θ b) (j.toNat*l.size+0))) (gv:=fun _=>[toCh P θ (Hol.ent _ b)]) (fun w C hs=>?_) (fun u U=>?_) (fun u U=>rfl)⟩
    ·have D:St J w0 w (Ch.gap (ax S l.rep) [hv θ b] (ax E2 y.rep) n (ptB (hv θ b)) (ptO (hv θ b)+(i1.toNat*k1+p)) (M.v θ)::C):=hs;have hD:Hd (hv θ b) (n ([] :List y.den)).length:=by
      obtain ⟨-,-,F,t,-,-⟩:=D;obtain ⟨G,K,-,L,-⟩:=t;exact Zw L
     have H:inI (α:=l.den) (n ([] :List y.den)) j:=⟨(Ey R).1,by
      have:=(Ey R).1
      have z:j<((List.length (α:=l.den) (n ([] :List y.den)):Nat):Int):=z;show j.toNat<List.length (α:=l.den) (n ([] :List y.den));omega⟩
     have:=tv (I:=J) (w0:=w0) (P:=P) (o:=o) hD ((W.get hd).el _ he) (W.get hE).ti ho (aH hx) (aH hi) H
     rw[m] at this;exact this w _ hs
    ·have B:=lQ hf hp;obtain ⟨Z,q2,q3,X,q5,q6⟩:=B;have hm:Mem s.chs s.nxt b f (.own (.sl S l) d1):=⟨Nat.lt_trans X q2,fun e' c c' v=>by
      rcases aE (hp.mem_iff.1 c) with rfl | c
      ·rcases v.2 with ⟨Q,-⟩ | ⟨-,Q⟩
       ·exact absurd Q (Nat.ne_of_gt X)
       ·exact Q
      ·exact absurd v.1 (pY A c)⟩
     refine ⟨⟨bc Z,R,hm.newer (Res.newer (o6 hp) (aX rfl J θ hf)) (Nat.le_succ _)⟩,?_,fun g L=>by cases L⟩;rw[U];show pt (hv (upd θ s.nxt _) b) _=pt (hv θ b) _;rw[show hv (upd θ s.nxt _) b=hv θ b from be Same.upd Z]
   | _=>cases O
  | _=>cases O
 ·cases h
end
end R
namespace D
open Go.RowKit
def mc (a b:ByteArray):Option ByteArray:=(chk (a.size+b.size<=9223372036854775807)).bind fun _=>some (a++b)
def kL (s:ByteArray) (i:Int):Option Int:=(chk (0<=i/\i<(s.size:Int))).bind fun _=>some ((s.data.toList.getD i.toNat 0).toNat:Int)
def tL (s:ByteArray) (l h:Int):Option ByteArray:=(chk (0<=l/\l<=h/\h<=(s.size:Int))).bind fun _=>some (s.extract l.toNat h.toNat)
def Ab (l:List Int):ByteArray:=l.foldl (fun r n=>r.push (UInt8.ofNat n.toNat)) ByteArray.empty
section
variable {P:Program} {I:Hp} {w0:World} {o:Oper} {ev:Operand->Value} {x y:Operand}
theorem W4 {t u:TypeId} {m n:ByteArray} (h:m.size+n.size<=9223372036854775807) (b:o.op= .binOp .add t x y u) (a:ev x= .string m) (c:ev y= .string n):OpT P I w0 o ev [] (· = .string (m++n)) (fun _=>[]):=
 bB fun w=>by simp[execOp,b,a,c,eqGuard,binOp_string_add,run_string_add_sum w m n h,Result.andThen]
theorem OX {T:TypeId} {m:ByteArray} {k:IntKind} {i:Int} (hT:P.underlying T=some .string) (h:0<=i/\i<(m.size:Int)) (ho:o.op= .index T x y) (hx:ev x= .string m) (hy:ev y= .int k i):OpT P I w0 o ev [] (· = .int .u8 ((m.data.toList.getD i.toNat 0).toNat:Int)) (fun _=>[]):=
 bB fun w=>by
  have h2:i.toNat<m.size:=by omega
  have e:m.data.toList.getD i.toNat 0=m[i.toNat]'h2:=by
   have h3:i.toNat<m.data.toList.length:=by simpa using h2
   rw[List.getD_eq_getElem?_getD,List.getElem?_eq_getElem h3]
   simp[ByteArray.getElem_eq_getElem_data]
  have:=run_index_string (P:=P) (w:=w) T m k i hT
  rw[dif_pos h] at this
  rw[e]
  simp[execOp,ho,hx,hy,this,Result.andThen]
def W5 (ev:Operand->Value) (d:Int):Option Operand->Int->Prop
 | none,n=>n=d
 | some z,n=> ∃k,ev z= .int k n
theorem OY {T:TypeId} {m:ByteArray} {lo hi:Option Operand} {l h:Int} (f:P.underlying T=some .string) (e:0<=l/\l<=h/\h<=(m.size:Int)) (g:o.op= .slice T x lo hi none) (n:ev x= .string m)
  (p:W5 ev 0 lo l) (i:W5 ev (m.size:Int) hi h):OpT P I w0 o ev [] (· = .string (m.extract l.toNat h.toNat)) (fun _=>[]):=
 bB fun w=>by
  have c: ∀a b,(Instr.sliceAt T (.string m) a b none).run P w=(Instr.slice T (.string m) a b none).run P w:=fun a b=>by
   simp[Instr.sliceAt,run_underlying f]
  cases lo with
  | none =>
   obtain rfl:l=0:=p;cases hi with
   | none =>
    obtain rfl:h=(m.size:Int):=i;simp[execOp,g,n,c,run_slice_string_all,f,Result.andThen]
   | some b =>
    obtain ⟨k,d⟩:=i;simp[execOp,g,n,d,c,run_slice_string_h (t:=T) (s:=m) (P:=P) (w:=w) f k h e.2.1 e.2.2,Result.andThen]
  | some a =>
   obtain ⟨j,q⟩:=p;cases hi with
   | none =>
    obtain rfl:h=(m.size:Int):=i;simp[execOp,g,n,q,c,run_slice_string_l (t:=T) (s:=m) (P:=P) (w:=w) f j l e.1 e.2.1,Result.andThen]
   | some b =>
    obtain ⟨k,d⟩:=i
    have:=run_slice_string_if (P:=P) (w:=w) T m j k l h f
    rw[if_pos ⟨by omega,e.2.2⟩,if_pos ⟨e.1,e.2.1⟩] at this;simp[execOp,g,n,q,d,c,this,Result.andThen]
theorem BL {S D E E':TypeId} {h1: ∀a:Int,(Value.int .u8 a).oneCell'=true} {v:Value} {xs:List Int} (i:P.underlying S=some (.slice E)) (m:P.underlying E=some (.int .u8)) (k:P.underlying D=some .string) (l:(ax E' (me Int (.int .u8) h1)).rd I [v] xs) (j:o.op= .convert S D x) (g:ev x=v):OpT P I w0 o ev [] (· = .string (Ab xs)) (fun _=>[]):=by
 intro w C h;obtain ⟨e,cap,rfl,c⟩:=Src.of_rd h l;have b:(execOp ev o).run P w= .ok (.value (.string (Ab xs))) w:=by
  have f:(convert S D (.slice e (xs.map (Value.int .u8)).length cap)).run P w= .ok (.string (Ab xs)) w:=by
   rw[run_convert_bytes_string w S D E e _ cap i m k];rcases c with c | ⟨a,rfl,c⟩
   ·have d:xs= []:=by simpa using c
    subst d;cases e with
    | none=>rfl
    | some a=>exact run_bytesToString w a _ cap [] (run_loadCells_list (P:=P) w a [] (by simp))
   ·rw[List.length_map];exact run_bytesToString w a _ cap xs (by
     have:=run_loadCells_list (P:=P) w a (xs.map (Value.int .u8)) c
     rwa [List.length_map] at this)
  simp only[List.length_map] at f g;simp[execOp,j,g,f,Result.andThen]
 rw[b];exact ⟨rfl,h⟩
end
end D
namespace R
open Go.RowKit
open D
section
variable {Y:Type} (tt:TT) (s:Sg) (k:Res->Option Y)
def W6 (b:BinOp) (t:TypeId) (x y:Operand):Option Y:=match b,opd s x,opd s y with
 | .add,some (.one (.val (.string m))),some (.one (.val (.string n)))=>(mc m n).bind fun r=>kv s k (.string r)
 | _,_,_=>aa0 tt s k b t x y
def Zx (T:TypeId) (x i:Operand):Option Y:=(td tt T).bind fun d=>d.ik.bind fun k1=>match k1,opd s x,opd s i with
 | none,some (.one (.val (.string m))),some (.one (.val (.int j n)))=>(kL m n).bind fun r=>kv s k (.int .u8 r)
 | _,_,_=>none
def aa7 (d:Int):Option Operand->Option Int
 | none=>some d
 | some y=>match opd s y with
  | some (.one (.val (.int _ n)))=>some n
  | _=>none
def OZ (T:TypeId) (x:Operand) (lo hi:Option Operand):Option Y:=(td tt T).bind fun d=>d.ik.bind fun k1=>match k1,opd s x with
 | none,some (.one (.val (.string m)))=>(aa7 s 0 lo).bind fun l=>(aa7 s (m.size:Int) hi).bind fun h=>(tL m l h).bind fun r=>kv s k (.string r)
 | _,_=>none
def UT (S D:TypeId) (x:Operand):Option Y:=(td tt S).bind fun a=>(td tt D).bind fun b=>a.el.bind fun E=>(td tt E).bind fun e=>e.ik.bind fun k1=>b.ik.bind fun k2=>match k1,k2,opd s x with
 | some .u8,none,some (.one (.own h))=>(rowOf h s.chs).bind fun r=>(oX (.sl r.E r.t) (.sl r.E (.int .u8)) r.xs).bind fun xs=>k ⟨[r.ent h],[],r.rest,[],.one (.val (.string (Ab xs)))⟩
 | some .u8,none,some (.one (.rd _ t d))=>(oX t (.sl E (.int .u8)) d).bind fun xs=>kv s k (.string (Ab xs))
 | some .u8,none,some (.one (.val (.slice none 0 0)))=>kv s k (.string ByteArray.empty)
 | _,_,_=>none
end
section
variable {Y:Type} {tt:TT} {s:Sg} {k:Res->Option Y} {P:Program} {w0:World} {o:Oper} {res:Y} {x y:Operand}
theorem Sw (f:TTok P tt) {b:BinOp} {t u:TypeId} (c:o.op= .binOp b t x y u) (h:W6 tt s k b t x y=some res):Oks P w0 s o k res:=by
 unfold W6 at h;split at h
 ·rename_i m n d g;obtain ⟨r,a,h⟩:=bind_some h;obtain ⟨i,e,a⟩:=bind_some a;obtain rfl:=ae a;exact ma h rfl fun J θ j=>W4 (bM e) c (aH d) (aH g)
 ·exact NM f c h
theorem Sx (g:TTok P tt) {T:TypeId} {i:Operand} (e:o.op= .index T x i) (h:Zx tt s k T x i=some res):Oks P w0 s o k res:=by
 obtain ⟨d,f,c⟩:=bind_some h;obtain ⟨v,t,a⟩:=bind_some c;clear h c;split at a
 ·rename_i m j n p l;obtain ⟨r,b,h⟩:=bind_some a;obtain ⟨u,q,b⟩:=bind_some b;obtain rfl:=ae b;exact ma h rfl fun J θ w=>OX ((g.get f).ik _ t) (bM q) e (aH p) (aH l)
 ·cases a
theorem O0 {d n:Int} {θ:Th} {lo:Option Operand} (h:aa7 s d lo=some n):W5 (evL (envL θ s)) d lo n:=by
 cases lo with
 | none=>exact (ae h).symm
 | some z =>
  simp only[aa7] at h;split at h
  ·rename_i j m a;obtain rfl:=ae h;exact ⟨j,aH a⟩
  ·cases h
theorem Mv (p:TTok P tt) {T:TypeId} {lo hi:Option Operand} (i:o.op= .slice T x lo hi none) (h:OZ tt s k T x lo hi=some res):Oks P w0 s o k res:=by
 obtain ⟨d,j,c⟩:=bind_some h;obtain ⟨z,v,a⟩:=bind_some c;clear h c;split at a
 ·rename_i m t;obtain ⟨l,n,g⟩:=bind_some a;obtain ⟨e,q,f⟩:=bind_some g;obtain ⟨r,b,h⟩:=bind_some f;obtain ⟨w,u,b⟩:=bind_some b;obtain rfl:=ae b;exact ma h rfl fun J θ A=>OY ((p.get j).ik _ v) (bM u) i (aH t) (O0 n) (O0 q)
 ·cases a
theorem O1 (n:TTok P tt) {S D:TypeId} (l:o.op= .convert S D x) (h:UT tt s k S D x=some res):Oks P w0 s o k res:=by
 obtain ⟨a,U,C⟩:=bind_some h;obtain ⟨b,L,H⟩:=bind_some C;obtain ⟨E,R,A⟩:=bind_some H;obtain ⟨e,N,z⟩:=bind_some A;obtain ⟨X,h1,G⟩:=bind_some z;obtain ⟨W,I,i⟩:=bind_some G;clear h C H A z G;have j:=(n.get U).el _ R;have q:=(n.get L).ik _ I;have m:=(n.get N).ik _ h1;split at i
 ·rename_i F f;obtain ⟨r,Q,p⟩:=bind_some i;obtain ⟨xs,c,T⟩:=bind_some p;obtain ⟨hp,-⟩:=bY Q;refine ⟨_,T,o6 hp,aX rfl,fun J θ w=>OpT.weak (xA (ls:=[Ch.own (Ty.sl r.E r.t).rep [hv θ F] r.xs]) (rn:=[]) (gv:=fun _=>[]) (fun _=>trivial) fun Z V v K=>?_) (fact:=(· = .string (Ab xs))) (fun u B=>?_) (fun u B=>rfl)⟩
  ·have M:=jE c (v _ _ _ (List.mem_singleton_self _));exact BL j m q M l (aH f)
  ·subst B;exact ⟨Eq.refl true,rfl,fun g O=>by cases O⟩
 ·rename_i F t d f;obtain ⟨xs,c,p⟩:=bind_some i;exact ma p rfl fun J θ w=>BL j m q (jE c (cf w f).2) l (aH f)
 ·rename_i f;exact ma i rfl fun J θ w=>BL (E':=0) (xs:=[]) (h1:=fun _=>rfl) j m q ⟨none,0,rfl,⟨by simp,by simp⟩,.inl rfl⟩ l (aH f)
 ·cases i
end
section
variable {Y:Type} (s:Sg) (k:Res->Option Y)
def abM (T f:Nat) (x y:Operand):Option Y:=match opd s x,opd s y with
 | some (.agg xs),some (.agg ys)=>k ⟨[],[],s.chs,[(⟨s.nxt,[]⟩,.clo f [] [.ptr ⟨s.nxt,[0]⟩ 0,.ptr ⟨s.nxt,[1]⟩ 0]),(⟨s.nxt,[0]⟩,.blk T xs),(⟨s.nxt,[1]⟩,.blk T ys)],.one (.own ⟨s.nxt,[]⟩)⟩
 | _,_=>none
end
section
variable {Y:Type} {s:Sg} {k:Res->Option Y} {P:Program} {w0:World} {o:Oper} {res:Y} {x y:Operand}
theorem Sy {J:Hp} {θ:Th} {n:Nat} {chs:List Ent} {h:Hdr} {ver f:Nat} {a:List LV} (h1:h.id<n) (c:ver<n) (d: ∀x∈a,x.ok P w0 J θ n) (b:hv θ h= .func (.func f) #[] (a.map (·.v θ)).toArray):okE P w0 J θ n chs (h,ver,.clo f [] a):=
 ⟨h1,c,fun y e=>(by cases e),d,b⟩
theorem Ff {J:Hp} {θ:Th} {n:Nat} {chs:List Ent} {h:Hdr} {ver T:Nat} {cells:List LV} (h1:h.id<n) (a:ver<n) (b: ∀x∈cells,x.ok P w0 J θ n):okE P w0 J θ n chs (h,ver,.blk T cells):=⟨h1,a,b⟩
set_option maxHeartbeats 2000000 in
theorem W7 {g T f:Nat} (i:Zh P g T f) {ts:Array TypeId} (q:o.op= .call { callee:=.value (.func g),args:= #[x,y],argTypes:=ts }) (h:abM s k T f x y=some res):Oks P w0 s o k res:=by
 unfold abM at h;split at h
 ·rename_i d e n j;refine ⟨_,h,by simp,aX rfl,fun J θ p=>?_⟩;have m: ∀z∈d,z.ok P w0 J θ s.nxt:=cf p n;have l: ∀z∈e,z.ok P w0 J θ s.nxt:=cf p j;have r:(#[] :Array Value).toList++(#[x,y] :Array Operand).toList.map (evL (envL θ s))++(#[] :Array Value).toList=(#[.agg (d.map (·.v θ)).toArray,.agg (e.map (·.v θ)).toArray] :Array Value).toList:=by
   simp only[List.map_cons,List.map_nil,List.nil_append,List.append_nil,aH (θ:=θ) n,aH (θ:=θ) j]
   rfl
  refine OpT.weak (pX i.1 q rfl r (i.2 J w0 (d.map (·.v θ)) (e.map (·.v θ)))) (fun v c=>?_) (fun v c=>?_)
  ·obtain ⟨t,u,rfl⟩:=c;refine ⟨⟨aB _,by rw[eH];rfl⟩,eH,fun g b=>?_⟩;rcases aE b with rfl | b
   ·refine Sy (aB _) (aB _) (fun z a=>?_) ?_
    ·rcases aE a with rfl | a
     ·exact aB _
     ·obtain rfl:=ak a;exact aB _
    ·show hv (upd θ s.nxt _) ⟨s.nxt,[]⟩=_;rw[eH];show Value.func _ _ _=Value.func _ _ #[.pointer (some ⟨bk (vg (upd θ s.nxt _ s.nxt) [0]),0,none⟩),.pointer (some ⟨bk (vg (upd θ s.nxt _ s.nxt) [1]),0,none⟩)];rw[iF]
     rfl
   rcases aE b with rfl | b
   ·exact Ff (aB _) (aB _) fun z a=>LV.ok_same Same.upd (Nat.le_succ _) (m z a) Hp.le.rfl
   ·obtain rfl:=ak b;exact Ff (aB _) (aB _) fun z a=>LV.ok_same Same.upd (Nat.le_succ _) (l z a) Hp.le.rfl
  ·show [Ch.emp,Ch.blk (bk (vg v [0])) _ T,Ch.blk (bk (vg v [1])) _ T] = [Ch.emp,Ch.blk (bk (vg (upd θ s.nxt v s.nxt) [0])) (d.map _) T,Ch.blk (bk (vg (upd θ s.nxt v s.nxt) [1])) (e.map _) T];rw[iF,jc Same.upd m,jc Same.upd l]
 ·cases h
end
def UU (h:Hdr) (s:Sg):Option Sg:=(pull h s.chs).bind fun r=>match r.1.2.2 with
 | .own (.sl E (.bag t)) xs=>some ⟨s.env,(h,s.nxt,.own (.sl E (.fro (.fro (.fro t)))) xs)::r.2,s.nxt+1⟩
 | _=>none
def zg (h:Hdr) (s:Sg):Sg:=match UU h s with
 | some s'=>s'
 | none=>s
def Mw (o:Oper) (s:Sg):Sg:=match o.op with
 | .indexAddr _ x _=>match opd s x with
  | some (.one (.own h))=>zg h s
  | _=>s
 | _=>s
def adg:Chk->Bool
 | .own (.sl _ (.fro (.fro (.fro _)))) _=>true
 | _=>false
def I1 (n:Nat) (e:Ent):Ent:=match e.2.2 with
 | .own (.sl E (.fro (.fro (.fro t)))) xs=>(e.1,n,.own (.sl E (.bag t)) xs)
 | _=>e
def Sz (s:Sg):Sg:=match s.chs.any fun e=>adg e.2.2 with
 | true=>⟨s.env,s.chs.map (I1 s.nxt),s.nxt+1⟩
 | false=>s
def UV (s:Sg):Sg:=Sz (tg s)
section
variable {P:Program} {I J:Hp} {w0 w:World} {F:Ch} {n:Nat} {θ:Th} {s s':Sg} {a:Act} {h:Hdr}
theorem Hi (hs:UU h s=some s') (j:Sim P I w0 F n J θ s a w): ∃o,J.le o/\Sim P I w0 F n o θ s' a w/\Fr s θ s' θ:=by
 obtain ⟨r,Z,hs⟩:=bind_some hs;obtain ⟨p,k⟩:=gC Z;obtain ⟨⟨q,W,c⟩,rest⟩:=r;obtain rfl:q=h:=k;cases c with
 | own B d =>
  cases B with
  | sl E B =>
   cases B with
   | bag t =>
    obtain rfl:=ae (show some _=some s' from hs);have u:=j.fine.chs _ (p.mem_iff.2 (List.mem_cons_self ..));have C:St J w0 w (Ch.own (ax E (Nd t.rep)) [hv θ q] d::(rest.map (toCh P θ)++ [F])):=j.st.perm ((p.map (toCh P θ)).append_right [F]);obtain ⟨o,m,y⟩:=C.freeze_els;have l: ∀e,e∈rest->e∈s.chs:=fun e b=>p.mem_iff.2 (bF _ b);have i:Newer s.nxt s.chs ((q,s.nxt,Chk.own (.sl E (.fro (.fro (.fro t)))) d)::rest):=fun e b h' D c f=>by
     rcases aE b with rfl | b
     ·obtain ⟨rfl,f⟩:=f;rcases f with ⟨C,-⟩ | f
      ·exact .inl (Nat.le_of_eq C)
      ·exact f.elim
     ·exact .inr ⟨e,l e b,f⟩
    refine ⟨o,m,⟨j.le.trans m,j.agr,?_,fun e b=>AV.ok_same Same.rfl (Nat.le_succ _) i (j.fine.env e b) m,fun e b=>bc (j.fine.ver e b),j.fine.nd,fun e b=>?_,j.fine.lay.mono m⟩,Nat.le_succ _,Same.rfl,fun e b _=>b,i⟩
    ·show St o w0 w (Ch.own (ax E (yP (yP (yP t.rep)))) [hv θ q] d::(rest.map (toCh P θ)++ [F]));obtain ⟨N,Y,F0,⟨G,K,rfl,⟨U,z⟩,M⟩,b4,b5⟩:=y;refine ⟨N,Y,G++K,⟨G,K,rfl,⟨U,?_⟩,M⟩,b4,b5⟩;rcases z with z | ⟨g,A,cap,cur,T,v,X,V,Q,L,k6,O⟩
     ·exact .inl z
     ·exact .inr ⟨g,A,cap,cur,T,v,X,V,Q,L,k6,OwnEls.turn (R:=yP t.rep) (S:=yP (yP (yP t.rep))) rfl (fun c x G H=>⟨H.1,H.2⟩) O⟩
    ·rcases aE b with rfl | b
     ·exact ⟨bc u.1,aB _,trivial⟩
     ·exact gL Same.rfl (Nat.le_succ _) i (j.fine.chs e (l e b)) m
   | _=>cases hs
  | _=>cases hs
 | _=>cases hs
theorem SA {o:Oper} (b:Sim P I w0 F n J θ s a w): ∃J',J.le J'/\Sim P I w0 F n J' θ (Mw o s) a w/\Fr s θ (Mw o s) θ:=by
 unfold Mw;split
 ·split
  ·unfold zg;split
   ·exact Hi ‹_› b
   ·exact ⟨J,Hp.le.rfl,b,Fr.rfl⟩
  ·exact ⟨J,Hp.le.rfl,b,Fr.rfl⟩
 ·exact ⟨J,Hp.le.rfl,b,Fr.rfl⟩
theorem KH {f g:Ent->Ch} {C:List Ch} : ∀ {l:List Ent} {K:List Nat},(∀e∈l,∀F,(f e).holds J w F->(g e).holds J w F)->Sep J (l.map f++C) w K->Sep J (l.map g++C) w K
 | [],K,_,h=>h
 | e::l,_,hh,⟨G,K',e1,h1,h2⟩=>⟨G,K',e1,hh e (by simp) G h1,KH (fun e b=>hh e (by simp[b])) h2⟩
theorem Mx {n:Nat} {e:Ent} {h:Hdr} {ver:Nat} {c:Chk} (k:Says (I1 n e) h ver c):ver=n\/Says e h ver c:=by
 unfold I1 at k;split at k
 ·obtain ⟨rfl,k⟩:=k;rcases k with ⟨b,-⟩ | k
  ·exact .inl b.symm
  ·exact k.elim
 ·exact .inr k
theorem SB (f:Sim P I w0 F n J θ s a w):Sim P I w0 F n J θ (Sz s) a w/\Fr s θ (Sz s) θ:=by
 unfold Sz;split
 ·have b:Newer s.nxt s.chs (s.chs.map (I1 s.nxt)):=fun e d h i c u=>by
   obtain ⟨j,o,rfl⟩:=List.mem_map.1 d;rcases Mx u with rfl | u
   ·exact .inl (aF _)
   ·exact .inr ⟨j,o,u⟩
  refine ⟨⟨f.le,f.agr,?_,fun e d=>AV.ok_same Same.rfl (Nat.le_succ _) b (f.fine.env e d) Hp.le.rfl,fun e d=>bc (f.fine.ver e d),f.fine.nd,fun e d=>?_,f.fine.lay⟩,Nat.le_succ _,Same.rfl,fun e d _=>d,b⟩
  ·obtain ⟨V,A,K,O,B,Q⟩:=f.st;refine ⟨V,A,K,?_,B,Q⟩;rw[List.map_map];refine KH (fun e d G v=>?_) O;show (toCh P θ (I1 s.nxt e)).holds J w G;obtain ⟨p,i,c⟩:=e;unfold I1;split
   ·rename_i E t k T;obtain rfl:c= .own (.sl E (.fro (.fro (.fro t)))) k:=T;obtain ⟨L,q⟩:=(show (ax E (yP (yP (yP t.rep)))).own J w [hv θ p] k G from v);refine (show (ax E (Nd t.rep)).own J w [hv θ p] k G from ⟨L,?_⟩);rcases q with q | ⟨g,r,cap,cur,H,m,N,M,C,z,U,D⟩
    ·exact .inl q
    ·exact .inr ⟨g,r,cap,cur,H,m,N,M,C,z,U,OwnEls.turn (R:=yP (yP (yP t.rep))) (S:=Nd t.rep) rfl (fun c x G y=>by rw[y.1];exact Ut y.2) D⟩
   ·exact v
  ·obtain ⟨j,o,rfl⟩:=List.mem_map.1 d;have l:=f.fine.chs j o
   have:=gL Same.rfl (Nat.le_succ _) b l (J':=J) Hp.le.rfl
   obtain ⟨p,i,c⟩:=j;unfold I1;split
   ·exact ⟨this.1,aB _,trivial⟩
   ·exact this
 ·exact ⟨f,Fr.rfl⟩
theorem O2 (b:Sim P I w0 F n J θ s a w): ∃θ',Sim P I w0 F n J θ' (UV s) a w/\Fr s θ (UV s) θ':=by
 obtain ⟨θ',f,d⟩:=AY b;obtain ⟨c,e⟩:=SB f;exact ⟨θ',c,d.trans e⟩
end
section
variable {Y:Type} (ft:FT) (s:Sg) (k:Res->Option Y)
def O3 (ns:List Int):List LV:=ns.map fun n=>.val (.int .i64 n)
def acJ (T:Nat) (g:FuncId) (x:Operand):Option Y:=(fs ft g).bind fun f=>(opd s x).bind fun v=>(eO ft s s.chs f.ps [v]).bind fun a=>cg (a.lent.isEmpty&&a.own.isEmpty) <|
 (appP f.ps f.m a.d).bind fun r=>(WE (f.rs++outs f.ps) (toH _ r)).bind fun ns=>match opd s x with
 | some (.one lv)=>k ⟨[],[],s.chs,[(⟨s.nxt,[]⟩,.blk T (lv::O3 ns))],.one (.ptr ⟨s.nxt,[]⟩ 0)⟩
 | _=>none
end
section
variable {Y:Type} {ft:FT} {s:Sg} {k:Res->Option Y} {P:Program} {w0:World} {o:Oper} {res:Y} {x:Operand}
theorem SC {J:Hp} {θ:Th} {n:Nat} {ns:List Int} : ∀z∈O3 ns,z.ok P w0 J θ n:=fun z a=>by
 obtain ⟨m,b,rfl⟩:=List.mem_map.1 a;exact Eq.refl true
theorem W8 {θ:Th} {ns:List Int} :(O3 ns).map (·.v θ)=ns.map (Value.int .i64):=by
 unfold O3;rw[List.map_map];rfl
theorem W9 {T:Nat} {g:FuncId} (N:FTok P ft) (C: ∀f,fs ft g=some f->NewOk P g T f) {ts:Array TypeId} (D:o.op= .call { callee:=.value (.func g),args:= #[x],argTypes:=ts }) (h:acJ ft s k T g x=some res):Oks P w0 s o k res:=by
 obtain ⟨f,d,h⟩:=bind_some h;obtain ⟨M,i,h⟩:=bind_some h;obtain ⟨a,O,h⟩:=bind_some h;obtain ⟨A,h⟩:=ai h;rw[aj] at A;have n:a.lent= []:=List.isEmpty_iff.1 A.1;have H:a.own= []:=List.isEmpty_iff.1 A.2;obtain ⟨r,L,h⟩:=bind_some h;obtain ⟨l,t,h⟩:=bind_some h;split at h
 ·rename_i c w;refine ⟨_,h,by simp,aX rfl,fun J θ B=>?_⟩;have p:c.ok P w0 J θ s.nxt:=cf B w;obtain rfl:M= .one c:=ae (i.symm.trans w);obtain ⟨u,-,-⟩:=gT (J':=J) N B Hp.le.rfl O (fun y E=>by obtain rfl:=ak E;exact p) (fun e I=>I) (by rw[n];exact fun h G=>by cases G) (ghV θ a.gh) DL;have q:evL (envL θ s) x=c.v θ:=aH (θ:=θ) w;have u:PArgs P w0 J (ghV θ a.gh) f.ps [c.v θ] a.d:=u;have F:(#[] :Array Value).toList++(#[x] :Array Operand).toList.map (evL (envL θ s))++(#[] :Array Value).toList=([c.v θ] :List Value).toArray.toList:=by
   simp only[List.map_cons,List.map_nil,List.nil_append,List.append_nil,q]
  refine OpT.weak (pX (C f d).1 D rfl F ((C f d).2 w0 J (ghV θ a.gh) [c.v θ] a.d r l B.lay u L t)) (fun v j=>?_) (fun v j=>?_)
  ·obtain ⟨b,rfl⟩:=j;refine ⟨aB _,by show Value.pointer (some ⟨bk (hv _ ⟨s.nxt,[]⟩),0,none⟩)=_;rw[eH];rfl,fun g K=>?_⟩;obtain rfl:=ak K;refine Ff (aB _) (aB _) fun z m=>?_;rcases aE m with rfl | m
   ·exact LV.ok_same Same.upd (Nat.le_succ _) p Hp.le.rfl
   ·exact SC z m
  ·show [Ch.blk (bk v) ([c.v θ] ++l.map (Value.int .i64)) T] = [Ch.blk (bk (hv (upd θ s.nxt v) ⟨s.nxt,[]⟩)) ((c::O3 l).map (·.v (upd θ s.nxt v))) T];rw[eH,List.map_cons,W8,LV.v_same Same.upd p];rfl
 ·cases h
end
structure Mp where
 ver:Nat
 md:MD
 m:List (md.k.den×md.e.den)
 rest:List Ent
def MD.ck (d:MD) (m:List (d.k.den×d.e.den)):Chk:=.map d.K d.E d.k d.e m
def aa8 (h:Hdr) (chs:List Ent):Option Mp:=(pull h chs).bind fun r=>match r.1.2.2 with
 | .map K E k e m=>some ⟨r.1.2.1,⟨K,E,k,e⟩,m,r.2⟩
 | _=>none
def Mp.ent (r:Mp) (h:Hdr):Ent:=(h,r.ver,r.md.ck r.m)
theorem I2 {h:Hdr} {chs:List Ent} {r:Mp} (e:aa8 h chs=some r):chs.Perm (r.ent h::r.rest):=by
 obtain ⟨q,d,e⟩:=bind_some e;obtain ⟨p,k⟩:=gC d;obtain ⟨⟨b,a,c⟩,rest⟩:=q;obtain rfl:b=h:=k;cases c with
 | map K E k f m =>
  obtain rfl:=ae (show some _=some r from e);exact p
 | _=>cases e
def MK.beq:MK->MK->Bool
 | .int,.int=>true
 | .ii,.ii=>true
 | _,_=>false
def ME.beq:ME->ME->Bool
 | .int,.int=>true
 | .bool,.bool=>true
 | _,_=>false
def MD.beq (a b:MD):Bool:=Nat.beq a.K b.K&&Nat.beq a.E b.E&&MK.beq a.k b.k&&ME.beq a.e b.e
theorem MD.beq_eq {a b:MD} (h:MD.beq a b=true):a=b:=by
 obtain ⟨K,E,k,e⟩:=a;obtain ⟨m,g,d,c⟩:=b;unfold MD.beq at h;simp only[aj] at h;obtain ⟨⟨⟨l,i⟩,j⟩,f⟩:=h;obtain rfl:K=m:=au l;obtain rfl:E=g:=au i;obtain rfl:k=d:=by cases k <;> cases d <;> first | rfl | cases j
 obtain rfl:e=c:=by cases e <;> cases c <;> first | rfl | cases f
 rfl
def SD:(k:MK)->AV->Option k.den
 | .int,.one (.val (.int .i64 n))=>some n
 | .ii,.agg [.val (.int .i64 a),.val (.int .i64 b)] =>some (a,b)
 | _,_=>none
theorem Fg {k:MK} {v:AV} {d:k.den} (h:SD k v=some d) (θ:Th):v.v θ=k.val d:=by
 unfold SD at h;split at h
 ·rw[<-ae h];rfl
 ·rw[<-ae h];rfl
 ·cases h
def Xa:(e:ME)->AV->Option e.den
 | .int,.one (.val (.int .i64 n))=>some n
 | .bool,.one (.val (.bool b))=>some b
 | .bool,.one (.nb b)=>some (!b)
 | _,_=>none
theorem SE {e:ME} {v:AV} {d:e.den} (h:Xa e v=some d) (θ:Th):v.v θ=e.val d:=by
 unfold Xa at h;split at h
 ·rw[<-ae h];rfl
 ·rw[<-ae h];rfl
 ·rw[<-ae h];rfl
 ·cases h
theorem ME.val_one (e:ME) (d:e.den):(e.val d).oneCell'=true:=by cases e <;> rfl
section
variable {Y:Type} (tt:TT) (s:Sg) (k:Res->Option Y)
def acK (T:TypeId):Option Y:=(td tt T).bind fun d=>d.mp.bind fun md=>k ⟨[],[],s.chs,[(⟨s.nxt,[]⟩,md.ck [])],.one (.own ⟨s.nxt,[]⟩)⟩
def Xb (T:TypeId) (m x y:Operand):Option Y:=(td tt T).bind fun d=>d.mp.bind fun md=>match opd s m with
 | some (.one (.own h))=>(aa8 h s.chs).bind fun r=>cg (MD.beq md r.md) ((opd s x).bind fun kv=>(SD r.md.k kv).bind fun q=>(opd s y).bind fun ev=>(Xa r.md.e ev).bind fun i =>
  (@Rg r.md.k.den r.md.e.den r.m r.md.k.ok r.md.e.ok q i).bind fun M=>k ⟨[],[r.ent h],r.rest,[(h,r.md.ck M)],.any ⟨s.nxt,[]⟩⟩)
 | _=>none
def UW (T:TypeId) (m x:Operand) (two:Bool):Option Y:=(td tt T).bind fun d=>d.mp.bind fun md=>match opd s m with
 | some (.one (.own h))=>(aa8 h s.chs).bind fun r=>cg (MD.beq md r.md) ((opd s x).bind fun kv=>(SD r.md.k kv).bind fun q =>
  aaZ false (r.md.k.ok q=true) (instDecidableEqBool _ _) (match two with
   | true=>k ⟨[r.ent h],[],r.rest,[],.tup [(false,[.val (r.md.e.val ((@lkM r.md.k.den r.md.e.den r.md.k.dec r.m q).getD r.md.e.z))]),(false,[.val (.bool (@lkM r.md.k.den r.md.e.den r.md.k.dec r.m q).isSome)])]⟩
   | false=>k ⟨[r.ent h],[],r.rest,[],.one (.val (r.md.e.val ((@lkM r.md.k.den r.md.e.den r.md.k.dec r.m q).getD r.md.e.z)))⟩))
 | _=>none
end
section
variable {Y:Type} {tt:TT} {s:Sg} {k:Res->Option Y} {P:Program} {w0:World} {o:Oper} {res:Y} {m x y:Operand}
theorem O4 {θ:Th} {h:Hdr} {ver:Nat} {a:MD} {M:List (a.k.den×a.e.den)} :toCh P θ (h,ver,a.ck M)= @Ch.mp P a.K a.E a.k.den a.e.den a.k.dec a.k.lit a.k.ok a.e.lit a.e.z (hv θ h) M:=rfl
theorem Zy {I:Hp} {w:World} {C:List Ch} {K E:TypeId} {κ ε:Type} [DecidableEq κ] {lit:κ->Lit} {c:κ->Bool} {a:ε->Lit} {z:ε} {v:Value} {M:List (κ×ε)} (h:St I w0 w (Ch.mp P K E lit c a z v M::C)):v.oneCell'=true:=by
 obtain ⟨l,d,F,⟨G,j,rfl,⟨b,rfl,rfl,g⟩,e⟩,f,i⟩:=h
 rfl
theorem Xc (p:TTok P tt) {T:TypeId} (c:o.op= .makeMap T none) (h:acK tt s k T=some res):Oks P w0 s o k res:=by
 obtain ⟨d,l,h⟩:=bind_some h;obtain ⟨a,n,h⟩:=bind_some h;refine ⟨_,h,by simp,aX rfl,fun J θ q=>?_⟩;have j:= @Iw P J w0 o (evL (envL θ s)) a.k.den a.e.den a.k.dec a.k.lit a.k.ok a.e.lit a.e.z T a.K a.E c;intro w C i;refine (j w C i).imp fun v f hv=>?_;have b:=letI:=a.k.dec;Zy hv.2;refine ⟨⟨⟨aB _,by rw[eH];exact b⟩,eH,fun g e=>?_⟩,?_⟩
 ·obtain rfl:=ak e;exact ⟨aB _,aB _,trivial⟩
 ·show St J w0 f ([toCh P (upd θ s.nxt v) (⟨s.nxt,[]⟩,s.nxt,a.ck [])] ++C);rw[O4,eH];exact hv.2
theorem KI (z:TTok P tt) {T:TypeId} (n:o.op= .mapUpdate T m x y\/o.op= .insert T m x y) (h:Xb tt s k T m x y=some res):Oks P w0 s o k res:=by
 obtain ⟨d,p,h⟩:=bind_some h;obtain ⟨I,v,h⟩:=bind_some h;split at h
 ·rename_i b D;obtain ⟨r,E,h⟩:=bind_some h;obtain ⟨B,h⟩:=ai h;obtain ⟨kv,l,h⟩:=bind_some h;obtain ⟨q,G,h⟩:=bind_some h;obtain ⟨ev,c,h⟩:=bind_some h;obtain ⟨i,A,h⟩:=bind_some h;obtain ⟨M,w,h⟩:=bind_some h;have hp:=I2 E;obtain ⟨j,f,e⟩:=(z.get p).mp _ v;rw[MD.beq_eq B] at j f e;refine ⟨_,h,Db hp,aX rfl,fun J θ F=>?_⟩;have a:=lQ F hp;have H:= @LS P J w0 o (evL (envL θ s)) r.md.k.den r.md.e.den r.md.k.dec r.md.k.lit r.md.k.val r.md.k.ok r.md.e.val r.md.e.lit r.md.e.ok r.md.e.z T r.md.K r.md.E m x y (hv θ b) q i r.m M f e j n (aH D) ((aH l).trans (Fg G θ)) ((aH c).trans (SE A θ)) w;refine OpT.weak H (fun u t=>⟨aB _,eH,fun g C=>?_⟩) (fun u t=>?_)
  ·obtain rfl:=ak C;exact ⟨bc a.1,aB _,trivial⟩
  ·show [_] = [toCh P (upd θ s.nxt u) (b,s.nxt,r.md.ck M)];rw[O4,show hv (upd θ s.nxt u) b=hv θ b from be Same.upd a.1]
 ·cases h
theorem O5 (D:TTok P tt) {T:TypeId} {two:Bool} (p:o.op= .lookup T m x two) (h:UW tt s k T m x two=some res):Oks P w0 s o k res:=by
 obtain ⟨d,B,h⟩:=bind_some h;obtain ⟨H,C,h⟩:=bind_some h;split at h
 ·rename_i t w;obtain ⟨r,F,h⟩:=bind_some h;obtain ⟨E,h⟩:=ai h;obtain ⟨kv,n,h⟩:=bind_some h;obtain ⟨q,A,h⟩:=bind_some h;obtain ⟨b,h⟩:=IA h;have hp:=I2 F;obtain ⟨j,i,f⟩:=(D.get B).mp _ C;rw[MD.beq_eq E] at j i f;cases two with
  | true =>
   refine ⟨_,h,o6 hp,fun _ _ _ g a=>(by cases a),fun J θ G=>?_⟩;have l:= @Ix P J w0 o (evL (envL θ s)) r.md.k.den r.md.e.den r.md.k.dec r.md.k.lit r.md.k.val r.md.k.ok r.md.e.val r.md.e.lit r.md.e.ok r.md.e.z T r.md.K r.md.E m x (hv θ t) q r.m i f b j p (aH w) ((aH n).trans (Fg A θ));refine OpT.weak l (fun u c=>⟨fun y e z v=>?_,?_,fun g a=>by cases a⟩) (fun u c=>rfl)
   ·rcases aE e with rfl | e
    ·obtain rfl:=ak v;exact ME.val_one _ _
    ·obtain rfl:=ak e;obtain rfl:=ak v;exact Eq.refl true
   ·rw[c];rfl
  | false =>
   refine ⟨_,h,o6 hp,fun _ _ _ g a=>(by cases a),fun J θ G=>?_⟩;have l:= @GB P J w0 o (evL (envL θ s)) r.md.k.den r.md.e.den r.md.k.dec r.md.k.lit r.md.k.val r.md.k.ok r.md.e.val r.md.e.lit r.md.e.ok r.md.e.z T r.md.K r.md.E m x (hv θ t) q r.m i f b j p (aH w) ((aH n).trans (Fg A θ));refine OpT.weak l (fun u c=>⟨ME.val_one _ _,?_,fun g a=>by cases a⟩) (fun u c=>rfl);rw[c];rfl
 ·cases h
end
structure Env where
 tt:TT
 ft:FT
 an:List (Nat×Ty)
 n:Nat
 tr:Trs
section
variable {Y:Type} (V:Env) (s:Sg) (k:Res->Option Y)
def BM (d:Nat):List (Nat×Ty)->Bool
 | [] =>false
 | (u,_)::l=>Nat.beq u d || BM d l
def abN (d:Nat):List (Nat×Ty)->Bool
 | [] =>false
 | (u,.raw)::l=>Nat.beq u d || abN d l
 | _::l=>abN d l
def abO (d:Option Nat) (an:List (Nat×Ty)):Bool:=match d with
 | some d=>abN d an
 | none=>false
def abP (d:Nat):List (Nat×Ty)->Bool
 | [] =>false
 | (u,.str)::l=>Nat.beq u d || abP d l
 | _::l=>abP d l
def abQ (d:Option Nat) (an:List (Nat×Ty)):Bool:=match d with
 | some d=>abP d an
 | none=>false
def Zz (d:Option Nat) (an:List (Nat×Ty)):Bool:=match d with
 | some d=>BM d an
 | none=>false
def Xd (dst:Option Nat) (c:Call):Option Y:=match c.callee,c.args.toList,c.argTypes.toList with
 | .builtin .len,[x],[T] =>match opd s x with
  | some (.one (.own _))=>Zd V.tt s k T x
  | some (.vw _ _ _ _ _ _)=>WY V.tt s k T x
  | some (.xv _ _ _ _ _ _ _)=>WY V.tt s k T x
  | _=>sLen V.tt s k T x
 | .builtin .append,[x,y],[T,U] =>match Nat.beq T U with
  | true=>(match opd s x with
   | some (.vw _ _ _ _ _ _)=>Zq V.tt s k T x y
   | _=>(match opd s y with
    | some (.sub _ _ _ _ _ _)=>W3 V.tt s k T x y
    | some (.pre _ _ _ _ _ _)=>W3 V.tt s k T x y
    | _=>acG V.tt V.an s k dst T x y))
  | false=>Zr V.tt s k T U x y
 | .builtin .clear,[x],[T] =>OP V.tt s k T x
 | .builtin .copy,[x,y],[T,_] =>match opd s x with
  | some (.vw _ _ _ _ _ _)=>OU V.tt s k T x y
  | some (.xv _ _ _ _ _ _ _)=>OU V.tt s k T x y
  | _=>Zl V.tt s k T x y
 | .builtin .min,[x,y],[_,_] =>abH s k x y
 | .builtin .max,[x,y],[_,_] =>abI s k x y
 | .value (.func g),xs,_=>match (fs V.ft g).bind (·.cl) with
  | some q=>match Nat.beq q.2 7,xs with
   | true,xs=>UK V.ft s k g xs
   | false,[x] =>(match Nat.beq q.2 9 with
    | true=>acJ V.ft s k q.1 g x
    | false=>cg (!Nat.beq q.2 0 && !Nat.ble 1000 q.2) (Oy s k q.1 q.2 x))
   | false,[x,y] =>(match Nat.ble 1000 q.2 with
    | true=>abM s k q.1 (q.2 - 1000) x y
    | false=>cg (Nat.beq q.2 0) (W2 s k x y))
   | _,_=>none
  | none=>UJ V.ft s k g xs
 | .value (.tmp t),xs,_=>match Kq V.ft s t xs.length with
  | some c=>UL V.ft s k c xs
  | none=>Od V.ft s k t xs
 | _,_,_=>none
def step (o:Oper):Option Y:=match o.op with
  | .move x=>Wv s k x
  | .assign x=>Wv s k x
  | .pick c x y=>Za s k c x y
  | .unOp .not _ x=>abB s k x
  | .unOp .neg _ x=>abC s k x
  | .binOp b t x y _=>match opd s y with
   | some (.capv _ _)=>W1 s k b x y
   | _=>match opd s x with
    | some (.one (.rd _ (.tree _ _ _) _))=>abJ V.tt s k b t x y
    | some (.one (.ptr _ _))=>abJ V.tt s k b t x y
    | some (.one (.rdn _ _ _ _))=>aa5 V.tt s k b t x y
    | some (.one (.own _))=>aa5 V.tt s k b t x y
    | some (.one (.val (.slice _ _ _)))=>aa5 V.tt s k b t x y
    | some (.one (.val (.string _)))=>W6 V.tt s k b t x y
    | _=>aa0 V.tt s k b t x y
  | .index T x i=>Zx V.tt s k T x i
  | .extract x i=>EK s k x i
  | .indexAddr T x i=>match opd s x with
    | some (.one (.own h))=>(match IG h s.chs with
      | some _=>OW V.tt s k T x i
      | none=>NR V.tt s k T x i)
    | some (.vw _ _ _ _ _ _)=>IY V.tt s k T x i
    | some (.xv _ _ _ _ _ _ _)=>IY V.tt s k T x i
    | _=>NL V.tt s k T x i
  | .fieldAddr T x f=>match opd s x with
    | some (.one (.fz _ _ _ _ _))=>IP V.tt s k T x f
    | some (.one (.rd _ (.tree _ _ _) _))=>Oq V.tt s k T x f
    | _=>Uz V.tt s k T x f
  | .load T x=>match opd s x with
    | some (.elr _ _ _ _ _ _ _)=>UA V.tt s k T x
    | some (.elo _ _ _ _ _ _ _ _)=>UD V.tt s k T x
    | some (.one (.fz _ _ _ _ _))=>Kv V.tt s k T x
    | some (.one (.fzf _ _ _ _ _))=>Kv V.tt s k T x
    | _=>UC V.tt s k T x
  | .store T x y=>match opd s x with
    | some (.elo h _ _ _ _ _ _ _)=>match IG h s.chs with
      | some _=>NZ V.tt s k T x y
      | none=>NS V.tt s k T x y
    | _=>NQ V.tt s k T x y
  | .nilCheck x=>WR s k x
  | .slice T x (some lo) (some hi) (some mx)=>OO V.tt s k T x lo hi mx
  | .slice T x lo hi none=>match opd s x with
    | some (.vw _ _ _ _ _ _)=>E9 V.tt s k T x lo hi
    | some (.xv _ _ _ _ _ _ _)=>E9 V.tt s k T x lo hi
    | some (.one (.own _))=>match abO o.dst V.an with
     | true=>E9 V.tt s k T x lo hi
     | false=>match abQ o.dst V.an with
      | true=>(match lo,hi with
        | none,some hi=>OT V.tt s k T x hi
        | _,_=>none)
      | false=>match lo with
      | some _=>match Zz o.dst V.an with
        | true=>Ov V.tt s k T x lo hi
        | false=>Ow V.tt s k T x lo hi
      | none=>match Zz o.dst V.an with
        | true=>Ox V.tt s k T x lo hi
        | false=>Ou V.tt s k T x lo hi
    | some (.one (.val (.string _)))=>OZ V.tt s k T x lo hi
    | _=>Ot V.tt s k T x lo hi
  | .box T x=>acD s k T x
  | .alloc T=>UB V.tt s k T
  | .build T parts=>UF V.tt s k T parts
  | .buildSlice T m parts=>acF V.tt V.an s k o.dst T m parts
  | .makeSlice T x y=>Ze V.tt V.an s k o.dst T x y
  | .call c=>Xd V s k o.dst c
  | .makeFunc f x y=>UM s k f x y
  | .makeMap T none=>acK V.tt s k T
  | .convert S D x=>match opd s x with
    | some (.one (.val (.int _ _)))=>Zb V.tt s k S D x
    | _=>UT V.tt s k S D x
  | .mapUpdate T m x y=>Xb V.tt s k T m x y
  | .insert T m x y=>Xb V.tt s k T m x y
  | .lookup T m x two=>UW V.tt s k T m x two
  | _=>none
end
section
variable {Y:Type} {V:Env} {s:Sg} {k:Res->Option Y} {P:Program} {w0:World} {o:Oper} {res:Y}
theorem ZA {α:Type} {a:Array α} {x:α} (h:a.toList= [x]):a= #[x]:=Array.ext' h
theorem SF {α:Type} {a:Array α} {x y:α} (h:a.toList= [x,y]):a= #[x,y]:=Array.ext' h
theorem SG (i:TTok P V.tt) (m:FTok P V.ft) {c:Call} (a:o.op= .call c) (h:Xd V s k o.dst c=some res):Oks P w0 s o k res:=by
 obtain ⟨b,args,e⟩:=c;unfold Xd at h;split at h
 ·rename_i x T d j l;obtain rfl:b= .builtin .len:=d;obtain rfl:args= #[x]:=ZA j;obtain rfl:e= #[T]:=ZA l;split at h
  ·exact RM i a h
  ·exact KB i a h
  ·exact KB i a h
  ·exact Wy i a h
 ·rename_i x y T U d j l;obtain rfl:b= .builtin .append:=d;obtain rfl:args= #[x,y]:=SF j;obtain rfl:e= #[T,U]:=SF l;split at h
  ·rename_i B;obtain rfl:T=U:=au B;split at h
   ·exact Sf i a h
   ·split at h
    ·exact KG i a h
    ·exact KG i a h
    ·exact WD i a h
  ·exact Sq i a h
 ·rename_i x T d j l;obtain rfl:b= .builtin .clear:=d;obtain rfl:args= #[x]:=ZA j;obtain rfl:e= #[T]:=ZA l;exact Mo i a h
 ·rename_i x y T U d j l;obtain rfl:b= .builtin .copy:=d;obtain rfl:args= #[x,y]:=SF j;obtain rfl:e= #[T,U]:=SF l;split at h
  ·exact Hf i a h
  ·exact Hf i a h
  ·exact R6 i a h
 ·rename_i x y T U d j l;obtain rfl:b= .builtin .min:=d;obtain rfl:args= #[x,y]:=SF j;obtain rfl:e= #[T,U]:=SF l;exact WS a h
 ·rename_i x y T U d j l;obtain rfl:b= .builtin .max:=d;obtain rfl:args= #[x,y]:=SF j;obtain rfl:e= #[T,U]:=SF l;exact WU a h
 ·rename_i g d;obtain rfl:b= .value (.func g):=d;split at h
  ·rename_i q u;obtain ⟨f,r,u⟩:=bind_some u;split at h
   ·rename_i n;exact Oj m (fun w p=>by
     obtain rfl:f=w:=ae (r.symm.trans p);exact ((m.get r).cl q u).2.1 n) a h
   ·rename_i x A z;obtain rfl:args= #[x]:=ZA z;split at h
    ·rename_i v;exact W9 m (fun w p=>by
      obtain rfl:f=w:=ae (r.symm.trans p);exact ((m.get r).cl q u).2.2 v) a h
    ·rename_i v;obtain ⟨n,C⟩:=ai h;rw[aj] at n;exact OD (((m.get r).cl q u).1.2.1 (by simpa using n.1) A (by simpa using n.2) v) a C
   ·rename_i x y A z;obtain rfl:args= #[x,y]:=SF z;split at h
    ·rename_i n;exact W7 (((m.get r).cl q u).1.2.2 n) a h
    ·obtain ⟨n,v⟩:=ai h;exact Sr (((m.get r).cl q u).1.1 n) a v
   ·cases h
  ·exact Oh m a h
 ·rename_i t d;obtain rfl:b= .value (.tmp t):=d;split at h
  ·exact Oi m ‹_› a h
  ·exact Ok m a h
 ·cases h
theorem O6 (a:TTok P V.tt) (c:FTok P V.ft) (h:step V s k o=some res):Oks P w0 s o k res:=by
 unfold step at h;split at h
 ·exact Kb (.inl ‹_›) h
 ·exact Kb (.inr ‹_›) h
 ·exact RJ ‹_› h
 ·exact Ww ‹_› h
 ·exact Wx ‹_› h
 ·have b:= ‹o.op=_›;split at h
  ·exact Sp b h
  ·split at h
   ·exact Oz a b h
   ·exact Oz a b h
   ·exact IS a b h
   ·exact IS a b h
   ·exact IS a b h
   ·exact Sw a b h
   ·exact NM a b h
 ·exact Sx a ‹_› h
 ·exact IB ‹_› h
 ·have b:= ‹o.op=_›;split at h
  ·split at h
   ·exact Mu a b h
   ·exact L5 a b h
  ·exact DS a b h
  ·exact DS a b h
  ·exact LY a b h
 ·have b:= ‹o.op=_›;split at h
  ·exact Md a b h
  ·exact Me a b h
  ·exact NN a b h
 ·have b:= ‹o.op=_›;split at h
  ·exact NO a b h
  ·exact NW a b h
  ·exact GZ a b h
  ·exact GZ a b h
  ·exact NV a b h
 ·have b:= ‹o.op=_›;split at h
  ·split at h
   ·exact L9 a b h
   ·exact L6 a b h
  ·exact L4 a b h
 ·exact R3 ‹_› h
 ·exact Mn a ‹_› h
 ·have b:= ‹o.op=_›;split at h
  ·exact za a b h
  ·exact za a b h
  ·split at h
   ·exact za a b h
   ·split at h
    ·split at h
     ·exact Mt a b h
     ·cases h
    ·split at h
     ·split at h
      ·exact Mh a b h
      ·exact Mi a b h
     ·split at h
      ·exact Mj a b h
      ·exact Mg a b h
  ·exact Mv a b h
  ·exact Mf a b h
 ·exact Wz ‹_› h
 ·exact NT a ‹_› h
 ·exact NX a ‹_› h
 ·exact WC a ‹_› h
 ·exact RO a ‹_› h
 ·exact SG a c ‹_› h
 ·exact Ol ‹_› h
 ·exact Xc a ‹_› h
 ·have b:= ‹o.op=_›;split at h
  ·exact RK a b h
  ·exact O1 a b h
 ·exact KI a (.inl ‹_›) h
 ·exact KI a (.inr ‹_›) h
 ·exact O5 a ‹_› h
 ·cases h
end
inductive Gd
 | no | skip | bad
 | yes (t:Nat) (b neg want:Bool)
def guardOf (ops:List Oper) (s:Sg) (o:Oper):Gd:=match o.guard with
 | none=>.no
 | some (g,want)=>match ops[g]? with
  | some p=>match p.dst with
   | some t=>match look s.env t with
    | some (.one (.val (.bool b)))=>.yes t b false want
    | some (.one (.nb b))=>.yes t b true want
    | some .und=>.skip
    | _=>.bad
   | none=>.bad
  | none=>.bad
def I3 (s:Sg) (t:Nat) (b:Bool):Sg:=⟨(t,s.nxt,.one (.val (.bool b)))::s.env,s.chs,s.nxt+1⟩
def BN:AV->List Hdr
 | .one (.own h)=>[h]
 | .agg xs=>xs.flatMap fun x=>match x with | .own h=>[h] | _=>[]
 | .elo h _ _ _ _ _ _ _=>[h]
 | _=>[]
def xJ:List Hdr->Sg->Sg
 | [],s=>s
 | h::hs,s=>xJ hs (settle 4 h s)
def DU (s:Sg):List Operand->List Hdr
 | [] =>[]
 | x::xs=>(match opd s x with | some v=>BN v | none=>[])++DU s xs
def abR (o:Oper):List Operand:=match o.op with
 | .store _ _ y=>[y]
 | .build _ parts=>parts.toList.map (·.2)
 | .buildSlice _ _ parts=>parts.toList.map (·.2)
 | .call c=>c.args.toList
 | .box _ x=>[x]
 | .binOp _ _ x _ _=>[x]
 | .nilCheck x=>[x]
 | _=>[]
def acL (o:Bool):AV->List (Bool×Hdr)
 | .one (.own h)=>[(false,h)]
 | .one (.ptr h off)=>if o&&Nat.beq off 0 then [(true,h)] else []
 | .agg xs=>xs.flatMap fun x=>match x with | .own h=>[(false,h)] | .ptr h off=>if o&&Nat.beq off 0 then [(true,h)] else [] | _=>[]
 | _=>[]
def acM (s:Sg) (o:Bool):List Operand->List (Bool×Hdr)
 | [] =>[]
 | x::xs=>(match opd s x with | some v=>acL o v | none=>[])++acM s o xs
def keeps (o:Oper):Bool:=match o.op with
 | .binOp _ _ _ _ _=>false
 | .nilCheck _=>false
 | _=>true
def O7:List LV->List (Bool×Hdr)
 | [] =>[]
 | .own h::l=>(false,h)::O7 l
 | _::l=>O7 l
def ldH (s:Sg) (o:Oper):List (Bool×Hdr):=match o.op with
 | .load _ x=>match opd s x with
  | some (.one (.ptr h _))=>match rO h s.chs with
   | some b=>O7 b.cells
   | none=>[]
  | _=>[]
 | _=>[]
def Xe:Trs->Bool
 | [] =>false
 | q::l=>Nat.beq q.2.1 0 || Xe l
def ldF (tr:Trs) (s:Sg) (o:Oper):List (Bool×Hdr):=match Xe tr with
 | true=>ldH s o
 | false=>[]
def O8:Trs->Trs
 | [] =>[]
 | q::l=>match Nat.beq q.2.1 0 with
  | true=>O8 l
  | false=>q::O8 l
def abS (s:Sg) (o:Oper):Bool:=match o.op with
 | .store _ x _=>match opd s x with
  | some (.one (.ptr _ _))=>true
  | _=>false
 | .call c=>match c.callee with
  | .value _=>false
  | _=>true
 | _=>false
def acN (tr:Trs) (s:Sg) (o:Oper):List (Bool×Hdr):=match Xe tr&&abS s o with
 | true=>[]
 | false=>acM s (keeps o) (abR o)
def O9:Trs->Trs
 | [] =>[]
 | q::l=>match q.2.2 with
  | .str=>O9 l
  | _=>q::O9 l
def SH (tr:Trs) (o:Oper) (s:Sg):Sg:=match tr with
 | [] =>s
 | _=>Sa (O9 tr) (acN (O9 tr) s o) s
def aa9 (tr:Trs) (o:Oper) (s0:Sg):Sg:=match tg s0 with
 | s=>SH tr o (Mw o (xJ (DU s o.op.operands.toList) s))
section
variable {Y:Type} (V:Env) (all:List Oper) (k:Sg->Option Y)
noncomputable def SI (kont:Sg->Option Y) (o:Oper) (s:Sg):Option Y:=match guardOf all s o with
 | .bad=>none
 | .no=>cg (okO V.n s o) (match W0 V.tt s o with
  | some q=>KE q.2.xs.length fun c=>kont (after s o.dst (US q c))
  | none=>step V s (fun r=>kont (after s o.dst r)) o)
 | .skip=>cg (dstOk V.n o.dst) (kont (skip s o.dst))
 | .yes t b neg want=>if b then (match (!neg)==want with
   | true=>cg (okO V.n (I3 s t (!neg)) o) (step V (I3 s t (!neg)) (fun r=>kont (after (I3 s t (!neg)) o.dst r)) o)
   | false=>cg (dstOk V.n o.dst) (kont (skip (I3 s t (!neg)) o.dst)))
  else (match neg==want with
   | true=>cg (okO V.n (I3 s t neg) o) (step V (I3 s t neg) (fun r=>kont (after (I3 s t neg) o.dst r)) o)
   | false=>cg (dstOk V.n o.dst) (kont (skip (I3 s t neg) o.dst)))
noncomputable def Hj:List Oper->Sg->Option Y
 | [],s=>k s
 | o::os,s=>SI V all (Hj os) o (aa9 V.tr o s)
end
section
variable {Y:Type} {V:Env} {P:Program} {I:Hp} {w0 w:World} {F:Ch} {J:Hp} {θ:Th} {s:Sg} {a:Act} {res:Y} {Q:Exit->Act->World->Prop}
theorem My {h:Hdr} {i:Sg} (hs:II h s=some i) (t:Sim P I w0 F V.n J θ s a w):Fr s θ i θ:=by
 obtain ⟨r,o,hs⟩:=bind_some hs;obtain ⟨q,p,hs⟩:=bind_some hs;have hp:=AX o;obtain ⟨l,m,v,j,u⟩:=GN p;have f: ∀e,e∈q.2.2->e∈s.chs:=fun e d=>(hp.trans (j.cons _)).mem_iff.2 (by simp[d]);cases k:q.1 with
 | true =>
  rw[k] at hs;obtain rfl:=ae (show some _=some i from hs);refine ⟨Nat.le_succ _,Same.rfl,fun e d _=>d,fun e d n g c b=>?_⟩;rcases aE d with rfl | d
  ·obtain ⟨rfl,b⟩:=b;rcases b with ⟨rfl,rfl⟩ | b
   ·exact .inr ⟨r.ent h,hp.mem_iff.2 (by simp),rfl,.inr ⟨rfl,rfl⟩⟩
   ·exact b.elim
  ·exact .inr ⟨e,f e d,b⟩
 | false =>
  rw[k] at hs;obtain rfl:=ae (show some _=some i from hs);refine ⟨Nat.le_succ _,Same.rfl,fun e d _=>d,fun e d n g c b=>?_⟩;rcases aE d with rfl | d
  ·obtain ⟨rfl,b⟩:=b;rcases b with ⟨rfl,rfl⟩ | b
   ·exact .inl (aF _)
   ·exact b.elim
  ·exact .inr ⟨e,f e d,b⟩
theorem Hk: ∀ {m:Nat} {h:Hdr} {s:Sg},Sim P I w0 F V.n J θ s a w->Fr s θ (settle m h s) θ
 | 0,_,_,hS=>Fr.rfl
 | m+1,h,s,hS=>by
  unfold settle;split
  ·split
   ·split
    ·rename_i b;exact (Hk hS).trans (My b (Bv hS))
    ·exact Fr.rfl
   ·exact Fr.rfl
  ·exact Fr.rfl
theorem uT: ∀ {hs:List Hdr} {s:Sg},Sim P I w0 F V.n J θ s a w->Sim P I w0 F V.n J θ (xJ hs s) a w/\Fr s θ (xJ hs s) θ
 | [],s,hS=>⟨hS,Fr.rfl⟩
 | h::hs,s,hS=>by
  obtain ⟨b,c⟩:=uT (hs:=hs) (Bv (m:=4) (h:=h) hS);exact ⟨b,(Hk hS).trans c⟩
theorem Xf {t:Nat} {b:Bool} (f:Sim P I w0 F V.n J θ s a w) (g:(envL θ s).lookup t=some (.bool b)):Sim P I w0 F V.n J θ (I3 s t b) a w/\Fr s θ (I3 s t b) θ:=by
 refine ⟨⟨f.le,f.agr.sub fun u v h=>?_,f.st,fun e c=>?_,fun e c=>?_,GG (d:=some t) (av:=.one (.val (.bool b))) f.fine.nd f.fine.ver,fun e c=>gL Same.rfl (Nat.le_succ _) Newer.rfl (f.fine.chs e c) Hp.le.rfl,f.fine.lay⟩,Nat.le_succ _,Same.rfl,fun e c h=>?_,Newer.rfl⟩
 ·have h:List.lookup u ((t,Value.bool b)::envL θ s)=some v:=h;rw[List.lookup_cons] at h;by_cases e:u=t
  ·subst e;simp at h;rw[g,h]
  ·rw[show (u==t)=false from by simpa using e] at h;exact h
 ·rcases aE c with rfl | c
  ·exact Eq.refl true
  ·exact AV.ok_same Same.rfl (Nat.le_succ _) Newer.rfl (f.fine.env e c) Hp.le.rfl
 ·rcases aE c with rfl | c
  ·exact aB _
  ·exact bc (f.fine.ver e c)
 ·rcases aE c with rfl | c
  ·exact absurd h (Nat.lt_irrefl _)
  ·exact c
theorem SJ {ops:Array Oper} {o:Oper} :match guardOf ops.toList s o with
  | .no=>o.guard=none
  | .skip=> ∃g want d,o.guard=some (g,want)/\(ops[g]?).bind (·.dst)=some d/\(envL θ s).lookup d=some undef
  | .yes t b neg want=> ∃g,o.guard=some (g,want)/\(ops[g]?).bind (·.dst)=some t/\(envL θ s).lookup t=some (.bool (if neg then !b else b))
  | .bad=>True:=by
 unfold guardOf;cases i:o.guard with
 | none=>exact rfl
 | some gw =>
  obtain ⟨g,want⟩:=gw;simp only;cases hp:ops.toList[g]? with
  | none=>trivial
  | some p =>
   simp only;cases f:p.dst with
   | none=>trivial
   | some t =>
    simp only;have e:(ops[g]?).bind (·.dst)=some t:=by
     rw[<-Array.getElem?_toList,hp];exact f
    cases h:look s.env t with
    | none=>trivial
    | some v =>
     have c:=iV (θ:=θ) h;cases v with
     | one x =>
      cases x with
      | val u =>
       cases u with
       | bool b=>exact ⟨g,rfl,e,c⟩
       | _=>trivial
      | nb b=>exact ⟨g,rfl,e,c⟩
      | _=>trivial
     | und=>exact ⟨g,want,t,rfl,e,c⟩
     | _=>trivial
theorem Fh {o:Oper} {r:Res} (b:GoodA P w0 J θ s o r) (c:Sim P I w0 F V.n J θ s a w) {θ':Th} (hs:Same s.nxt θ θ'):Fr s θ (after s o.dst r) θ' :=
 Fr.put hs (Res.newer b.perm b.says)
theorem SK (T:TTok P V.tt) (hF:FTok P V.ft) {ops:Array Oper} {rest:List Oper} {o:Oper} {j:Sg->Option Y} (h:SI V ops.toList j o s=some res) (B:Sim P I w0 F V.n J θ s a w)
  (K: ∀s' θ' n v,j s'=some res->Sim P I w0 F V.n J θ' s' n v->Fr s θ s' θ'->wpList P ops Q rest n v):wpList P ops Q (o::rest) a w:=by
 have A:=SJ (θ:=θ) (s:=s) (ops:=ops) (o:=o);have run: ∀m,Sim P I w0 F V.n J θ m a w->Fr s θ m θ->(∀g want,o.guard=some (g,want)-> ∃d,(ops[g]?).bind (·.dst)=some d/\(envL θ m).lookup d=some (.bool want))->cg (okO V.n m o) (step V m (fun r=>j (after m o.dst r)) o)=some res->wpList P ops Q (o::rest) a w:=by
  intro m i u N h;obtain ⟨p,h⟩:=ai h;obtain ⟨r,U,z⟩:=O6 T hF h;cases f:o.guard with
  | none=>exact Ux (z.at i.fine) i f p fun θ' n v D k=>K _ θ' n v U k (u.trans (Fh (z.at i.fine) i D))
  | some gw =>
   obtain ⟨g,want⟩:=gw;obtain ⟨d,O,x⟩:=N g want f;exact Ws (z.at i.fine) i f O x rfl p fun θ' n v D k=>K _ θ' n v U k (u.trans (Fh (z.at i.fine) i D))
 have S: ∀m,Sim P I w0 F V.n J θ m a w->Fr s θ m θ-> ∀g want d b,o.guard=some (g,want)->(ops[g]?).bind (·.dst)=some d->(envL θ m).lookup d=some (.bool b)->b=(!want)->cg (dstOk V.n o.dst) (j (skip m o.dst))=some res->wpList P ops Q (o::rest) a w:=by
  intro m i u g want d b f O x X h;obtain ⟨p,h⟩:=ai h;exact RH i f O x X p fun n k=>K _ θ n w h k (u.trans (Fr.put Same.rfl Newer.rfl))
 unfold SI at h;split at h
 ·cases h
 ·rename_i f;rw[f] at A;obtain ⟨p,R⟩:=ai h;clear h;split at R
  ·rename_i q hq;obtain ⟨L,G,z⟩:=So T hq B
   have:=I0 R _ L G
   exact Ux z B (show o.guard=none from A) p fun θ' n v D k=>K _ θ' n v this k (Fr.rfl.trans (Fh z B D))
  ·refine run s B Fr.rfl (fun g want e=>by rw[show o.guard=none from A] at e;cases e) ?_;rw[p];exact R
 ·rename_i f;rw[f] at A;obtain ⟨g,want,d,M,E,H⟩:=A;obtain ⟨p,h⟩:=ai h;exact LU B M E H p fun n k=>K _ θ n w h k (Fr.put Same.rfl Newer.rfl)
 ·rename_i t b neg want f;rw[f] at A;obtain ⟨g,M,E,H⟩:=A;have both: ∀c:Bool,(envL θ s).lookup t=some (.bool c)->(match c==want with
    | true=>cg (okO V.n (I3 s t c) o) (step V (I3 s t c) (fun r=>j (after (I3 s t c) o.dst r)) o)
    | false=>cg (dstOk V.n o.dst) (j (skip (I3 s t c) o.dst)))=some res->wpList P ops Q (o::rest) a w:=by
   intro c Z h;obtain ⟨L,G⟩:=Xf B Z;have C:(envL θ (I3 s t c)).lookup t=some (.bool c):=by
    show List.lookup t ((t,Value.bool c)::envL θ s)=_;rw[List.lookup_cons_self]
   split at h
   ·rename_i l;have l:c=want:=by simpa using l
    exact run _ L G (fun W y e=>by
     rw[M] at e;obtain ⟨rfl,rfl⟩:g=W/\want=y:=by simpa using e
     exact ⟨t,E,by rw[C,l]⟩) h
   ·rename_i l;have l:c≠want:=by simpa using l
    exact S _ L G g want t c M E C (by cases c <;> cases want <;> simp_all) h
  cases b with
  | true =>
   refine both (!neg) ?_ (show _=some res from h);rw[H];cases neg <;> rfl
  | false =>
   refine both neg ?_ (show _=some res from h);rw[H];cases neg <;> rfl
theorem Xg {tr:Trs} {o:Oper} (h:Sim P I w0 F V.n J θ s a w): ∃b θ',J.le b/\Sim P I w0 F V.n b θ' (aa9 tr o s) a w/\Fr s θ (aa9 tr o s) θ':=by
 obtain ⟨θ1,m,e⟩:=AY h;obtain ⟨i,f⟩:=uT (hs:=DU (tg s) o.op.operands.toList) m;obtain ⟨n,c,d,g⟩:=SA (o:=o) i
 show∃b θ',J.le b/\Sim P I w0 F V.n b θ' (SH tr o (Mw o (xJ (DU (tg s) o.op.operands.toList) (tg s)))) a w/\Fr s θ (SH tr o (Mw o (xJ (DU (tg s) o.op.operands.toList) (tg s)))) θ'
 unfold SH;split
 ·exact ⟨n,θ1,c,d,(e.trans f).trans g⟩
 ·obtain ⟨b,θ',l,j,k⟩:=wG d;exact ⟨b,θ',c.trans l,j,((e.trans f).trans g).trans k⟩
theorem Hl (n:TTok P V.tt) (p:FTok P V.ft) {ops:Array Oper} {k:Sg->Option Y} : ∀ {l:List Oper} {s:Sg} {J:Hp} {θ:Th} {a:Act} {w:World},Hj V ops.toList k l s=some res->Sim P I w0 F V.n J θ s a w->
  (∀c J' θ' e m,k c=some res->Sim P I w0 F V.n J' θ' c e m->J.le J'->Fr s θ c θ'->Q .normal e m)->wpList P ops Q l a w
 | [],s,J,θ,a,w,h,hS,K=>wpList_nil (K s J θ a w h hS Hp.le.rfl Fr.rfl)
 | o::os,s,J,θ,a,w,h,hS,K=>by
  obtain ⟨A,θ1,r,y,u⟩:=Xg (tr:=V.tr) (o:=o) hS;exact SK n p (show SI V ops.toList (Hj V ops.toList k os) o (aa9 V.tr o s)=some res from h) y fun c θ' e m q g f =>
   Hl n p q g fun t v θ2 z x i d j b=>K t v θ2 z x i d (r.trans j) ((u.trans f).trans b)
end
end R
end Go.Proofs.YtodbpnpbhpeepaaGreatDoor
