/- FnCompaction: for every input the law returns true and changes nothing that was there. Part 3 of 9. -/
import Derived.Test.YtphjdcoponilmaaGreatDoorCC1
set_option synthInstance.maxSize 20000
set_option synthInstance.maxHeartbeats 2000000
set_option linter.unusedVariables false
set_option linter.unusedSimpArgs false
set_option linter.unnecessarySimpa false
set_option linter.unusedSectionVars false
set_option maxRecDepth 1000000
namespace Go.Proofs.YtphjdcoponilmaaGreatDoor
open Go.IntKind (i64)
namespace R
open Go.RowKit
open D
def one (v:Value):AV:=.one (.val v)
def asB:AV->Option (Bool×Bool)
 | .one (.val (.bool b))=>some (b,true)
 | .one (.nb b)=>some (b,false)
 | _=>none
def onB {Y:Type} (v:AV) (x y:Option Y):Option Y:=match v with
 | .one (.val (.bool b))=>if b then x else y
 | .one (.nb b)=>if b then y else x
 | _=>none
theorem WN {Y:Type} {v:AV} {x y:Option Y} {r:Y} (h:onB v x y=some r): ∃b:Bool,(∀θ,v.v θ= .bool b)/\(if b then x else y)=some r:=by
 unfold onB at h;split at h
 ·exact ⟨_,fun θ=>rfl,h⟩
 ·rename_i b;refine ⟨!b,fun θ=>rfl,?_⟩;grind
 grind
def cz {Y:Type} (b:Bool) (x:Option Y):Option Y:=match b with
 | true=>x
 | false=>none
theorem ak {Y:Type} {b:Bool} {x:Option Y} {r:Y} (h:cz b x=some r):b=true/\x=some r:=by
 cases b
 ·cases h
 ·exact ⟨rfl,h⟩
def isLit:Value->Bool
 | .int _ (.ofNat _)=>true
 | .int _ (.negSucc _)=>true
 | _=>false
def arith (b:BinOp) (k:IntKind) (m n:Int):Option Value:=match k,b with
 | .i64,.add=>some (.int .i64 (i64.wrap (m+n)))
 | .i64,.sub=>some (.int .i64 (i64.wrap (m - n)))
 | .i64,.mul=>some (.int .i64 (i64.wrap (m*n)))
 | .i64,.and=>some (.int .i64 (sd m n))
 | .i64,.or=>some (.int .i64 (orI m n))
 | .i64,.xor=>some (.int .i64 (adf m n))
 | .u64,.add=>some (.int .u64 (IntKind.u64.wrap (m+n)))
 | .u64,.sub=>some (.int .u64 (IntKind.u64.wrap (m - n)))
 | .u64,.mul=>some (.int .u64 (IntKind.u64.wrap (m*n)))
 | .u64,.and=>some (.int .u64 (TC m n))
 | .u8,.sub=>some (.int .u8 (IntKind.u8.wrap (m - n)))
 | _,.eql=>some (.bool (m==n))
 | _,.neq=>some (.bool (m !=n))
 | _,.lss=>some (.bool (decide (m<n)))
 | _,.leq=>some (.bool (decide (m<=n)))
 | _,.gtr=>some (.bool (decide (m>n)))
 | _,.geq=>some (.bool (decide (m≥n)))
 | _,_=>none
def Ih (b:BinOp) (k:IntKind) (m n:Int):Option (Value×((p:Prop)×Decidable p)):=match k,b with
 | .i64,.quo=>some (.int .i64 (EZ m n),⟨n≠0,inferInstance⟩)
 | .i64,.rem=>some (.int .i64 (Int.tmod m n),⟨n≠0,inferInstance⟩)
 | .i64,.shl=>some (.int .i64 (yj m n),⟨0<=n,inferInstance⟩)
 | .i64,.shr=>some (.int .i64 (pA m n),⟨0<=n,inferInstance⟩)
 | .u64,.shr=>some (.int .u64 (pA m n),⟨0<=n,inferInstance⟩)
 | _,_=>none
def aeR (k:IntKind) (m n:Int):Int:=k.wrap (m*2 ^ (min n.toNat k.bits))
def aeS (k:IntKind) (m n:Int):Int:=m.fdiv (2 ^ (min n.toNat k.bits))
def Ii (b:BinOp) (k:IntKind) (m n:Int):Option Value:=match b,k with
 | .shl,.i64=>some (.int .i64 (yj m n))
 | .shr,.i64=>some (.int .i64 (pA m n))
 | .shr,.u64=>some (.int .u64 (pA m n))
 | .shl,k=>some (.int k (aeR k m n))
 | .shr,k=>some (.int k (aeS k m n))
 | _,_=>none
def adg {Y:Type} (c:Bool) (p:Prop) (d:Decidable p) (x:Option Y):Option Y:=match c with
 | true=> @ite _ p d x none
 | false=>(@chk p d).bind fun _=>x
theorem Kc {Y:Type} {c:Bool} {p:Prop} {d:Decidable p} {x:Option Y} {r:Y} (h:adg c p d x=some r):p/\x=some r:=by
 cases c with
 | true =>
  have h: @ite _ p d x none=some r:=h;grind
 | false =>
  have ⟨u,e,h⟩:=bind_some (show (@chk p d).bind _=some r from h);grind[cG]
def isConst:Operand->Bool
 | .const _=>true
 | _=>false
def eqB (b:BinOp) (m n:Bool):Option Value:=match b with
 | .eql=>some (.bool (m==n))
 | .neq=>some (.bool (m !=n))
 | _=>none
def eqS (b:BinOp) (m n:ByteArray):Option Value:=match b with
 | .eql=>some (.bool (m==n))
 | .neq=>some (.bool (m !=n))
 | _=>none
section
variable {P:Program} {I:Hp} {w0:World} {o:Oper} {ev:Operand->Value} {x y:Operand} {t u:TypeId}
theorem T8 {b:BinOp} {k:IntKind} {m n:Int} {r:Value} (h:arith b k m n=some r) (a:o.op= .binOp b t x y u) (c:ev x= .int k m) (d:ev y= .int k n):OpT P I w0 o ev [] (· =r) (fun _=>[]):=by
 unfold arith at h;split at h <;> first | cases h | (cases ad h)
 ·exact X0 a c d
 ·exact X1 a c d
 ·exact X2 a c d
 ·exact X7 a c d
 ·exact aa6 a c d
 ·exact X8 a c d
 ·exact Ys a c d
 ·exact Yt a c d
 ·exact Yu a c d
 ·exact Yv a c d
 ·exact bz fun w=>by simp[execOp,a,c,d];rfl
 ·exact zU a c d rfl rfl
 ·exact zU a c d rfl rfl
 ·exact zU a c d rfl rfl
 ·exact zU a c d rfl rfl
 ·exact zU a c d rfl rfl
 ·exact zU a c d rfl rfl
theorem PH {b:BinOp} {k:IntKind} {m n:Int} {r:Value×((p:Prop)×Decidable p)} (h:Ih b k m n=some r) (hp:r.2.1) (a:o.op= .binOp b t x y u) (c:ev x= .int k m) (d:ev y= .int k n):OpT P I w0 o ev [] (· =r.1) (fun _=>[]):=by
 unfold Ih at h;split at h <;> first | cases h | (cases ad h)
 ·grind[X3]
 ·grind[X4]
 ·grind[X5]
 ·grind[X6]
 grind[Yw]
theorem PI {b:BinOp} {k j:IntKind} {m n:Int} {r:Value} (h:Ii b k m n=some r) (hp:0<=n) (a:o.op= .binOp b t x y u) (c:ev x= .int k m) (e:ev y= .int j n):OpT P I w0 o ev [] (· =r) (fun _=>[]):=by
 have d: ¬n<0:=by omega
 unfold Ii at h;split at h <;> first | (cases ad h) | grind
 all_goals exact bz fun w=>by simp[execOp,a,c,e,eqGuard,binOp,Op.shift,d,Result.andThen,yj,pA,aeR,aeS,IntKind.bits]
theorem NN {b:BinOp} {k:IntKind} {m n:Int} {r:Value} (h:Ii b k m n=some r):r.oneCell'=true:=by
 unfold Ii at h;split at h <;> first | (cases ad h;rfl) | grind
theorem PJ {b:BinOp} {k:IntKind} {m n:Int} {r:Value} (h:arith b k m n=some r):r.oneCell'=true:=by
 unfold arith at h;split at h <;> cases h <;> rfl
theorem NO {b:BinOp} {k:IntKind} {m n:Int} {r:Value×((p:Prop)×Decidable p)} (h:Ih b k m n=some r):r.1.oneCell'=true:=by
 unfold Ih at h;split at h <;> cases h <;> rfl
theorem Gr {b:BinOp} {m n:Bool} {r:Value} (h:eqB b m n=some r):r.oneCell'=true:=by
 unfold eqB at h;split at h <;> cases h <;> rfl
theorem YF {b:BinOp} {m n:ByteArray} {r:Value} (h:eqS b m n=some r):r.oneCell'=true:=by
 unfold eqS at h;split at h <;> cases h <;> rfl
theorem LX {b:BinOp} {m n:Bool} {r:Value} (h:eqB b m n=some r) (d:P.underlying t=some .bool) (a:o.op= .binOp b t x y u) (c:ev x= .bool m) (e:ev y= .bool n):OpT P I w0 o ev [] (· =r) (fun _=>[]):=by
 unfold eqB at h;grind[ad,X9,Ya]
theorem abj {b:BinOp} {m n:ByteArray} {r:Value} (h:eqS b m n=some r) (a:o.op= .binOp b t x y u) (c:ev x= .string m) (d:ev y= .string n):OpT P I w0 o ev [] (· =r) (fun _=>[]):=by
 unfold eqS at h;grind[ad,Yk,Yl]
end
section
variable {Y:Type} (tt:TT) (s:Sg) (k:Res->Option Y)
def kv (v:Value):Option Y:=k (.pure s (.one (.val v)))
def YG (x:Operand):Option Y:=(opd s x).bind fun v=>k (.pure s v)
def abk (c x y:Operand):Option Y:=(opd s c).bind fun c=>onB c ((opd s x).bind fun v=>k (.pure s v)) ((opd s y).bind fun v=>k (.pure s v))
def adN (x:Operand):Option Y:=match opd s x with
 | some (.one (.val (.bool b)))=>k (.pure s (.one (.nb b)))
 | some (.one (.nb b))=>kv s k (.bool b)
 | _=>none
def adO (x:Operand):Option Y:=match opd s x with
 | some (.one (.val (.int .i64 n)))=>kv s k (.int .i64 (i64.wrap (-n)))
 | _=>none
def adh (b:BinOp) (t:TypeId) (x y:Operand):Option Y:=match opd s x,opd s y with
 | some (.one (.val (.int j m))),some (.one (.val (.int j' n)))=>if j=j' then match arith b j m n with
   | some r=>kv s k r
   | none=>(Ih b j m n).bind fun r=>adg (isConst y) r.2.1 r.2.2 (kv s k r.1)
  else (Ii b j m n).bind fun r=>adg (isConst y) (0<=n) inferInstance (kv s k r)
 | some (.one (.val (.bool m))),some (.one (.val (.bool n)))=>(td tt t).bind fun d=>cz d.boo ((eqB b m n).bind fun r=>kv s k r)
 | some (.one (.nb m)),some (.one (.val (.bool n)))=>(td tt t).bind fun d=>cz d.boo ((eqB b (!m) n).bind fun r=>kv s k r)
 | some (.one (.val (.bool m))),some (.one (.nb n))=>(td tt t).bind fun d=>cz d.boo ((eqB b m (!n)).bind fun r=>kv s k r)
 | some (.one (.nb m)),some (.one (.nb n))=>(td tt t).bind fun d=>cz d.boo ((eqB b (!m) (!n)).bind fun r=>kv s k r)
 | some (.one (.val (.string m))),some (.one (.val (.string n)))=>(eqS b m n).bind fun r=>kv s k r
 | some (.agg xs),some (.agg ys)=>(td tt t).bind fun d=>d.eq.bind fun ks=>(adM ks xs ys).bind fun r=>match b with
  | .eql=>kv s k (.bool r)
  | .neq=>k (.pure s (.one (.nb r)))
  | _=>none
 | _,_=>none
def abl (S D:TypeId) (x:Operand):Option Y:=(td tt S).bind fun a=>(td tt D).bind fun b=>a.ik.bind fun k1=>b.ik.bind fun k2=>match opd s x,k1,k2 with
 | some (.one (.val (.int j m))),some k1,some k2=>if j=k1 then kv s k (.int k2 (k2.wrap m)) else none
 | _,_,_=>none
def Gs (x:Operand) (i:Nat):Option Y:=match opd s x with
 | some (.tup ys)=>(ys[i]?).bind fun y=>if y.1 then k (.pure s (.agg y.2)) else match y.2 with
  | [x] =>k (.pure s (.one x))
  | _=>none
 | _=>none
def sLen (T:TypeId) (x:Operand):Option Y:=(td tt T).bind fun d=>match d.el,opd s x with
 | some _,some (.one (.rd _ (.sl _ _) xs))=>kv s k (.int .i64 (xs.length:Int))
 | some _,some (.one (.val (.slice none 0 0)))=>kv s k (.int .i64 ((0:Nat):Int))
 | none,some (.one (.val (.string b)))=>d.ik.bind fun k1=>match k1 with
  | none=>kv s k (.int .i64 (b.size:Int))
  | _=>none
 | _,_=>none
def PK (T:TypeId) (x i:Operand):Option Y:=(td tt T).bind fun d=>match d.el,opd s x,opd s i with
 | some E,some (.one (.rd h (.sl E' t) xs)),some (.one (.val (.int .i64 i)))=>(td tt E).bind fun e=>cz (Nat.beq e.n t.size) ((aO xs i).bind fun a=>k (.pure s (.elr h E' t xs a i 0)))
 | _,_,_=>none
def WO (T:TypeId) (x:Operand) (f:Nat):Option Y:=(td tt T).bind fun d=>(d.fields[f]?).bind fun q=>match opd s x with
 | some (.elr h E t xs a i off)=>k (.pure s (.elr h E t xs a i (off+q.1)))
 | some (.elo h ver E t xs a i off)=>k (.pure s (.elo h ver E t xs a i (off+q.1)))
 | some (.one (.ptr h off))=>k (.pure s (.one (.ptr h (off+q.1))))
 | _=>none
def WQ (T:TypeId) (x:Operand):Option Y:=(td tt T).bind fun d=>match opd s x with
 | some (.elr h E t xs a i off)=>(Aa d.agg t off d.n).bind fun p=>cz (p.ty.isProd==d.agg) (k (.pure s (PG s.nxt p.ty (p.get a))))
 | _=>none
end
section
variable {Y:Type} {tt:TT} {s:Sg} {k:Res->Option Y} {P:Program} {w0:World} {o:Oper} {res:Y} {x y:Operand}
def Oks (P:Program) (w0:World) (s:Sg) (o:Oper) (k:Res->Option Y) (res:Y):Prop:= ∃r,k r=some res/\Good P w0 s o r
theorem mU {v:Value} (h:kv s k v=some res) (h1:v.oneCell'=true) (a: ∀J θ,Fine P w0 J θ s->OpT P J w0 o (evL (envL θ s)) [] (· =v) (fun _=>[])):Oks P w0 s o k res:=
 ⟨_,h,ga a fun _ _ _=>h1⟩
theorem LY (a:o.op= .move x\/o.op= .assign x) (h:YG s k x=some res):Oks P w0 s o k res:=by
 have ⟨v,hv,h⟩:=bind_some h;refine ⟨_,h,ga (fun J θ b=>?_) fun J θ b=>cg b hv⟩;rcases a with a | a
 ·exact TM a (aK hv)
 ·exact NH a (aK hv)
theorem T9 {c:Operand} (e:o.op= .pick c x y) (h:abk s k c x y=some res):Oks P w0 s o k res:=by
 have ⟨v,hv,h⟩:=bind_some h;have ⟨b,f,h⟩:=WN h;cases b with
 | true =>
  have ⟨u,d,h⟩:=bind_some (show (opd s x).bind _=some res from h);exact ⟨_,h,ga (fun J θ a=>LK e ((aK hv).trans (f θ)) (aK d)) fun J θ a=>cg a d⟩
 | false =>
  have ⟨u,d,h⟩:=bind_some (show (opd s y).bind _=some res from h);exact ⟨_,h,ga (fun J θ a=>LK e ((aK hv).trans (f θ)) (aK d)) fun J θ a=>cg a d⟩
theorem YH {t:TypeId} (c:o.op= .unOp .not t x) (h:adN s k x=some res):Oks P w0 s o k res:=by
 unfold adN at h;split at h
 ·rename_i b a;exact ⟨_,h,ga (fun J θ d=>Ph c (aK a)) fun _ _ _=>trivial⟩
 ·rename_i b a;exact mU h rfl fun J θ d=>by
   have:=Ph (P:=P) (I:=J) (w0:=w0) (b:= !b) c (aK (θ:=θ) a)
   grind
 grind
theorem YI {t:TypeId} (a:o.op= .unOp .neg t x) (h:adO s k x=some res):Oks P w0 s o k res:=by
 unfold adO at h;split at h
 ·rename_i b c;exact mU h rfl fun J θ d=>XZ a (aK c)
 grind
theorem PL (p:TTok P tt) {b:BinOp} {t u:TypeId} (f:o.op= .binOp b t x y u) (h:adh tt s k b t x y=some res):Oks P w0 s o k res:=by
 unfold adh at h;split at h
 ·rename_i j m D n c e;split at h
  ·rename_i A;subst A;split at h
   ·rename_i r a;exact mU h (PJ a) fun J θ g=>T8 a f (aK c) (aK e)
   ·have ⟨r,a,h⟩:=bind_some h;have ⟨hp,h⟩:=Kc h;exact mU h (NO a) fun J θ g=>PH a hp f (aK c) (aK e)
  ·have ⟨r,a,h⟩:=bind_some h;have ⟨hp,h⟩:=Kc h;exact mU h (NN a) fun J θ g=>PI a hp f (aK c) (aK e)
 ·rename_i m n c e;have ⟨d,i,h⟩:=bind_some h;have ⟨l,h⟩:=ak h;have ⟨r,a,h⟩:=bind_some h;exact mU h (Gr a) fun J θ g=>LX a ((p.get i).boo l) f (aK c) (aK e)
 ·rename_i m n c e;have ⟨d,i,h⟩:=bind_some h;have ⟨l,h⟩:=ak h;have ⟨r,a,h⟩:=bind_some h;exact mU h (Gr a) fun J θ g=>LX a ((p.get i).boo l) f (aK c) (aK e)
 ·rename_i m n c e;have ⟨d,i,h⟩:=bind_some h;have ⟨l,h⟩:=ak h;have ⟨r,a,h⟩:=bind_some h;exact mU h (Gr a) fun J θ g=>LX a ((p.get i).boo l) f (aK c) (aK e)
 ·rename_i m n c e;have ⟨d,i,h⟩:=bind_some h;have ⟨l,h⟩:=ak h;have ⟨r,a,h⟩:=bind_some h;exact mU h (Gr a) fun J θ g=>LX a ((p.get i).boo l) f (aK c) (aK e)
 ·rename_i m n c e;have ⟨r,a,h⟩:=bind_some h;exact mU h (YF a) fun J θ g=>abj a f (aK c) (aK e)
 ·rename_i B v c e;have ⟨d,i,h⟩:=bind_some h;have ⟨C,z,h⟩:=bind_some h;have ⟨r,a,h⟩:=bind_some h;have q: ∀(θ:Th) w,EqT P t (AV.v θ (.agg B)) (AV.v θ (.agg v)) r w:=fun θ w=>YE ((p.get i).eq _ z w) a;split at h
  ·exact mU h rfl fun J θ g=>Ym (q θ) f (aK c) (aK e) rfl
  ·exact ⟨_,h,ga (fun J θ g=>Yn (q θ) f (aK c) (aK e) rfl) fun _ _ _=>trivial⟩
  grind
 grind
theorem Ua (d:TTok P tt) {S D:TypeId} (r:o.op= .convert S D x) (h:abl tt s k S D x=some res):Oks P w0 s o k res:=by
 have ⟨a,q,g⟩:=bind_some h;have ⟨b,i,l⟩:=bind_some g;have ⟨n,v,u⟩:=bind_some l;have ⟨p,f,c⟩:=bind_some u;split at c
 ·rename_i j m n p t;split at c
  ·rename_i e;subst e;exact mU c rfl fun J θ w=>Ia ((d.get q).ik _ v) ((d.get i).ik _ f) r (aK t)
  grind
 grind
theorem Ke {i:Nat} (e:o.op= .extract x i) (h:Gs s k x i=some res):Oks P w0 s o k res:=by
 unfold Gs at h;split at h
 ·rename_i j b;have ⟨y,l,h⟩:=bind_some h;have f: ∀θ,((j.map (mR θ)).toArray)[i]? =some (mR θ y):=fun θ=>by grind
  have d:=List.mem_of_getElem? l;split at h
  ·rename_i c;exact ⟨_,h,ga (fun J θ a=>Cm e (aK b) ((f θ).trans (by unfold mR;rw[if_pos c];rfl))) fun J θ a=>(cg a b) y d⟩
  ·rename_i c;split at h
   ·rename_i z g;exact ⟨_,h,ga (fun J θ a=>Cm e (aK b) ((f θ).trans (by unfold mR;rw[if_neg c,g];rfl))) fun J θ a=>(cg a b) y d z (by grind)⟩
   grind
 grind
theorem YJ (i:TTok P tt) {T:TypeId} (f:o.op= .call { callee:=.builtin .len,args:= #[x],argTypes:= #[T] }) (h:sLen tt s k T x=some res):Oks P w0 s o k res:=by
 have ⟨d,j,h⟩:=bind_some h;split at h
 ·rename_i E n p t q c a;exact mU h rfl fun J θ e=>E3 (Hd.of_rd (cg e a).2) ((i.get j).el _ c) f (aK a)
 ·rename_i E c a;exact mU h rfl fun J θ e=>yk ((i.get j).el _ c) f (aK a)
 ·rename_i b c a;have ⟨l,m,g⟩:=bind_some h;cases l with
  | none=>exact mU g rfl fun J θ e=>JY ((i.get j).ik _ m) f (aK a)
  | some l=>cases g
 grind
theorem NP (l:TTok P tt) {T:TypeId} {i:Operand} (n:o.op= .indexAddr T x i) (h:PK tt s k T x i=some res):Oks P w0 s o k res:=by
 have ⟨d,q,h⟩:=bind_some h;split at h
 ·rename_i E u v t w j m c r;have ⟨e,p,h⟩:=bind_some h;have ⟨f,h⟩:=ak h;have ⟨a,g,h⟩:=bind_some h;have f:=ax f;refine ⟨_,h,ga (fun J θ b=>?_) fun J θ b=>⟨(cg b c).1,g,(cg b c).2⟩⟩
  have:=uz (I:=J) (w0:=w0) (Hd.of_rd (cg b c).2) ((l.get q).el _ m) (l.get p).ti n (aK c) (aK r) (Gf g)
  rw[f] at this;exact this
 grind
theorem PN (m:TTok P tt) {T:TypeId} {f:Nat} (g:o.op= .fieldAddr T x f) (h:WO tt s k T x f=some res):Oks P w0 s o k res:=by
 have ⟨d,p,h⟩:=bind_some h;have ⟨q,n,h⟩:=bind_some h;have e:=(m.get p).fld f q n;split at h
 ·rename_i j E t r a i off b;refine ⟨_,h,ga (fun J θ c=>?_) fun J θ c=>(by have:=cg c b;exact this)⟩
  have:=AT (I:=J) (w0:=w0) e g (aK (θ:=θ) b)
  rw[Nat.add_assoc] at this;exact this
 ·rename_i j l E t r a i off b;refine ⟨_,h,ga (fun J θ c=>?_) fun J θ c=>(by have:=cg c b;exact this)⟩
  have:=AT (I:=J) (w0:=w0) e g (aK (θ:=θ) b)
  rw[Nat.add_assoc] at this;exact this
 ·rename_i j off b;exact ⟨_,h,ga (fun J θ c=>ot e g (aK (θ:=θ) b)) fun J θ c=>(by have:=cg c b;exact this)⟩
 grind
theorem PO (u:TTok P tt) {T:TypeId} (r:o.op= .load T x) (h:WQ tt s k T x=some res):Oks P w0 s o k res:=by
 have ⟨d,z,h⟩:=bind_some h;split at h
 ·rename_i A E t B a i off m;have ⟨p,hp,h⟩:=bind_some h;have ⟨j,h⟩:=ak h;have hp:=B0 _ _ _ _ hp;have b:=u.get z;refine ⟨_,h,List.Perm.refl _,a7 rfl,fun J θ q=>?_⟩;have f:=cg q m
  have:=JZ (P:=P) (w0:=w0) (o:=o) (T:=T) f.2.2 f.2.1 hp.fld b.ti (p.ty.rep_size.trans hp.size) b.one r (aK (θ:=θ) m) t.rep_size
  refine OpT.weak this (fun v hv=>?_) (fun v hv=>rfl);have ⟨c,w,l⟩:=hv;rw[<-show (p.ty.isProd==d.agg)=true->p.ty.isProd=d.agg from fun e=>by grind,] at l
  all_goals first | exact j | skip
  have:=sj (P:=P) (w0:=w0) (J:=J) (θ:=upd θ s.nxt v) (id:=s.nxt) (n:=s.nxt+1) (chs:=(Res.pure s (PG s.nxt p.ty (p.get a))).chs s.nxt) (aJ _) kU p.ty (p.get a) c w l
  exact ⟨this.1,this.2,fun g j=>by cases j⟩
 grind
end
def pull (h:Hdr):List Ent->Option (Ent×List Ent)
 | [] =>none
 | e::l=>if Hdr.beq e.1 h then some (e,l) else (pull h l).bind fun r=>some (r.1,e::r.2)
theorem hY {h:Hdr} : ∀ {l:List Ent} {r:Ent×List Ent},pull h l=some r->l.Perm (r.1::r.2)/\r.1.1=h
 | [],r,e=>by cases e
 | x::l,r,e=>by
  unfold pull at e;split at e
  ·rename_i a;obtain rfl:=ad e;exact ⟨List.Perm.refl _,Hdr.beq_eq a⟩
  ·obtain ⟨q,b,e⟩:=bind_some e;obtain rfl:=ad e;obtain ⟨p,k⟩:=hY b;exact ⟨(p.cons x).trans (List.Perm.swap _ _ _),k⟩
def Ev (h:Hdr) (l:List Ent):Bool:=l.all fun e=> !(Hdr.beq e.1 h)
theorem Cs: ∀l:List Nat,aaP l l=true
 | [] =>rfl
 | a::l=>by show (Nat.beq a a&&aaP l l)=true;rw[Nat.beq_refl,Cs l];rfl
theorem qW {h:Hdr} {l:List Ent} (k:Ev h l=true) {e:Ent} (b:e∈l):e.1≠h:=by
 intro a
 have:=(List.all_eq_true.1 k) e b
 rw[a] at this;unfold Hdr.beq at this;rw[Nat.beq_refl,Cs] at this;cases this
structure Row where
 ver:Nat
 E:TypeId
 t:Ty
 xs:List t.den
 rest:List Ent
def rowOf (h:Hdr) (chs:List Ent):Option Row:=(pull h chs).bind fun r=>match r.1.2.2 with
 | .own (.sl E t) xs=>cz (Ev h r.2) (some ⟨r.1.2.1,E,t,xs,r.2⟩)
 | _=>none
def Row.ent (r:Row) (h:Hdr):Ent:=(h,r.ver,.own (.sl r.E r.t) r.xs)
theorem cO {h:Hdr} {chs:List Ent} {r:Row} (e:rowOf h chs=some r):chs.Perm (r.ent h::r.rest)/\ ∀e∈r.rest,e.1≠h:=by
 obtain ⟨q,i,e⟩:=bind_some e;obtain ⟨p,k⟩:=hY i;obtain ⟨⟨a,f,c⟩,rest⟩:=q;obtain rfl:a=h:=k;cases c with
 | own j d =>
  cases j with
  | sl E t =>
   obtain ⟨b,e⟩:=ak (show cz (Ev a rest) _=some r from e);obtain rfl:=ad e;exact ⟨p,fun e g=>qW b g⟩
  | _=>cases e
 | _=>cases e
theorem yq {h:Hdr} {chs:List Ent} {r:Row} (e:rowOf h chs=some r) {n:Nat} (hv:r.ver<n):Mem chs n h r.ver (.own (.sl r.E r.t) r.xs):=by
 obtain ⟨p,k⟩:=cO e;refine ⟨hv,fun x b c d=>?_⟩;rcases aB (p.mem_iff.1 b) with rfl | b
 ·rcases d.2 with a | a
  ·exact a.2
  ·exact a.elim
 ·exact absurd d.1 (k x b)
structure Blk where
 ver:Nat
 T:TypeId
 cells:List LV
 rest:List Ent
def tf (h:Hdr) (chs:List Ent):Option Blk:=(pull h chs).bind fun r=>match r.1.2.2 with
 | .blk T cells=>some ⟨r.1.2.1,T,cells,r.2⟩
 | _=>none
def Blk.ent (r:Blk) (h:Hdr):Ent:=(h,r.ver,.blk r.T r.cells)
theorem lW {h:Hdr} {chs:List Ent} {r:Blk} (e:tf h chs=some r):chs.Perm (r.ent h::r.rest):=by
 obtain ⟨q,d,e⟩:=bind_some e;obtain ⟨p,k⟩:=hY d;obtain ⟨⟨a,b,c⟩,rest⟩:=q;obtain rfl:a=h:=k;cases c with
 | blk T cells =>
  obtain rfl:=ad (show some _=some r from e);exact p
 | _=>cases e
def nQ:AV->Option (List LV)
 | .one x=>some [x]
 | .agg xs=>some xs
 | _=>none
theorem kX {v:AV} {cs:List LV} (h:nQ v=some cs) {P:Program} {w0:World} {J:Hp} {θ:Th} {n:Nat} {chs:List Ent} (hv:v.ok P w0 J θ n chs):(∀x∈cs,x.ok P w0 J θ n)/\(v.v θ).cells=(cs.map (·.v θ)).toArray:=by
 unfold nQ at h;split at h
 ·obtain rfl:=ad h;exact ⟨fun x a=>by obtain rfl:=aq a;exact hv,If (LV.one (show LV.ok P w0 J θ n _ from hv))⟩
 ·obtain rfl:=ad h;exact ⟨hv,rfl⟩
 ·cases h
theorem Kf {P:Program} {w0:World} {J:Hp} {θ:Th} {n:Nat} {cs:List LV} (h: ∀x∈cs,x.ok P w0 J θ n):(cs.map (·.v θ)).all (·.oneCell')=true:=List.all_eq_true.2 fun v hv=>by
 obtain ⟨x,a,rfl⟩:=List.mem_map.1 hv;exact LV.one (h x a)
def Gt (k:IntKind):LV->Option Int
 | .val (.int k' n)=>if k'=k then some n else none
 | _=>none
def E7:LV->Option Bool
 | .val (.bool b)=>some b
 | .nb b=>some (!b)
 | _=>none
def NQ:LV->Option ByteArray
 | .val (.string b)=>some b
 | _=>none
def isNil:Value->Bool
 | .slice none 0 0=>true
 | _=>false
theorem pB {v:Value} (h:isNil v=true):v= .slice none 0 0:=by
 unfold isNil at h;split at h
 ·rfl
 ·cases h
def Ub (E:TypeId) (t:Ty):LV->Option (List t.den)
 | .rd _ t' d=>oK t' (.sl E t) d
 | .val v=>cz (isNil v) (some [])
 | _=>none
def E8:Value->Bool
 | .pointer none=>true
 | _=>false
theorem Ct {v:Value} (h:E8 v=true):v= .pointer none:=by
 unfold E8 at h;split at h
 ·rfl
 ·cases h
def aaQ (T E:TypeId) (t:Ty):LV->Option (Tr t.den)
 | .rd _ t' d=>oK t' (.tree T E t) d
 | .val v=>cz (E8 v) (some .nil)
 | _=>none
def hd1 {α:Type} (f:LV->Option α):List LV->Option (α×List LV)
 | x::r=>(f x).bind fun d=>some (d,r)
 | [] =>none
def adP:LV->Option Raw
 | .rd _ t' d=>oK t' .raw d
 | _=>none
def eM:(t:Ty)->List LV->Option (t.den×List LV)
 | .int k,l=>hd1 (Gt k) l
 | .bool,l=>hd1 E7 l
 | .str,l=>hd1 NQ l
 | .raw,l=>hd1 adP l
 | .prod a b,l=>(eM a l).bind fun x=>(eM b x.2).bind fun y=>some ((x.1,y.1),y.2)
 | .sl E t,l=>hd1 (Ub E t) l
 | .fro t,l=>eM t l
 | .bag t,l=>eM t l
 | .wr t,l=>eM t l
 | .tree T E t,l=>hd1 (aaQ T E t) l
theorem Gu {k:IntKind} {x:LV} {n:Int} (h:Gt k x=some n) (θ:Th):x.v θ= .int k n:=by
 unfold Gt at h;split at h
 ·split at h
  ·rename_i a;subst a;obtain rfl:=ad h
   rfl
  ·cases h
 ·cases h
theorem Ij {x:LV} {n:Bool} (h:E7 x=some n) (θ:Th):x.v θ= .bool n:=by
 unfold E7 at h;split at h
 ·obtain rfl:=ad h;rfl
 ·obtain rfl:=ad h;rfl
 ·cases h
theorem LZ {x:LV} {n:ByteArray} (h:NQ x=some n) (θ:Th):x.v θ= .string n:=by
 unfold NQ at h;split at h
 ·obtain rfl:=ad h;rfl
 ·cases h
theorem Cu {E:TypeId} {t:Ty} {x:LV} {d:List t.den} (h:Ub E t x=some d) {P:Program} {w0:World} {J:Hp} {θ:Th} {n:Nat} (b:x.ok P w0 J θ n):(Ty.sl E t).rep.rd J [x.v θ] d:=by
 cases x with
 | rd f e c=>exact jF (show oK e (.sl E t) c=some d from h) b.2
 | val v =>
  obtain ⟨a,h⟩:=ak (show cz (isNil v) (some [])=some d from h);obtain rfl:=ad h;show (Ty.sl E t).rep.rd J [v] [];rw[pB a];exact WI
 | _=>cases h
theorem Kg {T E:TypeId} {t:Ty} {x:LV} {d:Tr t.den} (h:aaQ T E t x=some d) {P:Program} {w0:World} {J:Hp} {θ:Th} {n:Nat} (b:x.ok P w0 J θ n):(Ty.tree T E t).rep.rd J [x.v θ] d:=by
 cases x with
 | rd f e c=>exact jF (show oK e (.tree T E t) c=some d from h) b.2
 | val v =>
  obtain ⟨a,h⟩:=ak (show cz (E8 v) (some .nil)=some d from h);obtain rfl:=ad h;show (Ty.tree T E t).rep.rd J [v] .nil;rw[Ct a];exact ⟨_,rfl,.nil⟩
 | _=>cases h
theorem E9 {α:Type} {f:LV->Option α} {cs:List LV} {r:α×List LV} (h:hd1 f cs=some r): ∃x,cs=x::r.2/\f x=some r.1:=by
 cases cs with
 | nil=>cases h
 | cons x l =>
  obtain ⟨d,a,h⟩:=bind_some (show (f x).bind _=some r from h);obtain rfl:=ad h;exact ⟨x,rfl,a⟩
theorem jH {P:Program} {w0:World} {J:Hp} {θ:Th} {n:Nat} : ∀ {t:Ty} {cs:List LV} {r:t.den×List LV},eM t cs=some r->(∀x∈cs,x.ok P w0 J θ n)-> ∃e,cs=e++r.2/\t.rep.rd J (e.map (·.v θ)) r.1:=by
 intro t;induction t with
 | int k =>
  intro cs r h c;obtain ⟨x,rfl,d⟩:=E9 (show hd1 _ _=some r from h);exact ⟨[x],rfl,congrArg (fun v=>[v]) (Gu d θ)⟩
 | bool =>
  intro cs r h c;obtain ⟨x,rfl,d⟩:=E9 (show hd1 _ _=some r from h);exact ⟨[x],rfl,congrArg (fun v=>[v]) (Ij d θ)⟩
 | str =>
  intro cs r h c;obtain ⟨x,rfl,d⟩:=E9 (show hd1 _ _=some r from h);exact ⟨[x],rfl,congrArg (fun v=>[v]) (LZ d θ)⟩
 | raw =>
  intro cs r h c;obtain ⟨x,rfl,d⟩:=E9 (show hd1 _ _=some r from h);refine ⟨[x],rfl,?_⟩;cases x with
  | rd f g i=>exact jF (show oK g .raw i=some r.1 from d) (show f.id<n/\g.rep.rd J [hv θ f] i from c (.rd f g i) (by simp)).2
  | _=>cases d
 | prod a b iha ihb =>
  intro cs r h c;obtain ⟨x,d,h⟩:=bind_some (show (eM a cs).bind _=some r from h);obtain ⟨y,q,h⟩:=bind_some h;obtain rfl:=ad h;obtain ⟨e,rfl,l⟩:=iha d c;obtain ⟨j,p,m⟩:=ihb q fun z o=>c z (bt _ o);exact ⟨e++j,by rw[p,aH],e.map (·.v θ),j.map (·.v θ),by rw[aX],l,m⟩
 | sl E t ih =>
  intro cs r h c;obtain ⟨x,rfl,d⟩:=E9 (show hd1 _ _=some r from h);exact ⟨[x],rfl,Cu d (c x (by simp))⟩
 | fro t ih =>
  intro cs r h c;exact ih (show eM t cs=some r from h) c
 | bag t ih =>
  intro cs r h c;exact ih (show eM t cs=some r from h) c
 | wr t ih =>
  intro cs r h c;exact ih (show eM t cs=some r from h) c
 | tree T E t ih =>
  intro cs r h c;obtain ⟨x,rfl,d⟩:=E9 (show hd1 _ _=some r from h);exact ⟨[x],rfl,Kg d (c x (by simp))⟩
section
variable {P:Program} {I J:Hp} {w0 w w':World} {C:List Ch} {o:Oper} {ev:Operand->Value} {α β:Type} {R:Rep α} {S:Rep β} {E T:TypeId}
theorem Cv {v:Value} {xs:List α} {i:Nat} {x:α} {F:List Nat} (h:(aA E R).own I w [v] xs F) (q:xs[i]? =some x) :
  ∃g a cap cur f c b cell d G,v= .slice (some ⟨g,a,none⟩) xs.length cap/\xs.length<=lim/\w.heap[g]? =some (.cells cur E (0,0))/\xs.length<=cap/\cap<=maxLen/\a+cap*R.size<=cur.size/\F=g::(f++(G++c)) /\
   cur.toList.drop a=b++(cell++d)/\b.length=i*R.size/\cell.length=R.size/\OwnEls R I w b (xs.take i) f/\R.own I w cell x G/\OwnEls R I w d (xs.drop (i+1)) c:=by
 have y:=(List.getElem?_eq_some_iff.1 q).1;obtain ⟨A,⟨-,rfl,-⟩ | ⟨g,a,cap,cur,K,hv,m,n,z,t,rfl,j⟩⟩:=h
 ·grind
 obtain rfl:v= .slice (some ⟨g,a,none⟩) xs.length cap:=by grind
 have e:xs=xs.take i++(x::xs.drop (i+1)):=by
  grind[List.drop_eq_getElem_cons,List.take_append_drop]
 rw[e] at j;obtain ⟨b,H,f,D,l,k,rfl,s,cells,d,G,c,rfl,p,rfl,r,u⟩:=j.cut2;have B:(xs.take i).length=i:=by rw[az];omega
 rw[B] at k;exact ⟨g,a,cap,cur,f,c,b,cells,d,G,rfl,A,m,n,z,t,rfl,l,k,p,s,r,u⟩
theorem Gv {off n k:Nat} {f:α->β} {u:α->β->α} {x:Operand} {v:Value} {xs:List α} {a:α} {i:Int} {agg:Bool} (O:S.Sh) (A:aO xs i=some a) (s:Lens R off S f u) (L:TI P T agg n) (h:S.size=n) (Z:(agg || n==1)=true) (B:o.op= .load T x) (D:ev x=pt v (i.toNat*k+off)) (V:R.size=k) :
  OpT P I w0 o ev [Ch.own (aA E R) [v] xs] (fun u=> ∃d,S.rd I d (f a)/\Lds agg d u) (fun _=>[Ch.own (aA E R) [v] xs]):=by
 intro w C m;obtain ⟨hb,hi,F,⟨G,K,rfl,W,e3⟩,Y,h3⟩:=id m;obtain ⟨g,c,cap,cur,K1,K3,c1,cell,c3,N,rfl,hl,z,k2,k3,k4,rfl,y,U,f3,-,Q,-⟩:=Cv W (xo A);obtain ⟨d,G2,K2,p,H,M,-⟩:=s I w cell a N Q;obtain ⟨-,r⟩:=O M;have l:=(S.rd_len r).trans h;have ⟨u,X,t⟩:=Pi (P:=P) (w:=w) (b:=g) (off:=c+(i.toNat*k+off)) L l (fun e=>by grind) (fun j u q=>by
  rw[<-H,List.getElem?_take] at q;split at q
  ·simp[World.cell?,z];rw[<-Array.getElem?_toList,show c+(i.toNat*k+off)+j=c+(i.toNat*k+off+j) from Nat.add_assoc _ _ _,<-List.getElem?_drop,y,List.getElem?_append_right (by grind),List.getElem?_append_left (by grind),U,V];grind
  grind)
 simp[execOp,B,D,pt,ptB,ptO,Sem.run_bind,X,Result.andThen_ok];exact ⟨⟨d,r,t⟩,m⟩
theorem abm {off:Nat} {u:α->β->α} {xs:List α} {i:Nat} {a:α} {g d cap:Nat} {cur:Array Value} {j K2 f:List Nat} {k cell l:List Value} {v0:Value}
  (s:i<xs.length) (Y:xs.length<=lim) (A:w.heap[g]? =some (.cells cur E (0,0))) (V:xs.length<=cap) (Q:cap<=maxLen) (W:d+cap*R.size<=cur.size) (z:cur.toList.drop d=k++(cell++l)) (H:k.length=i*R.size) (N:cell.length=R.size)
  (G:OwnEls R I w k (xs.take i) j) (B:OwnEls R I w l (xs.drop (i+1)) f) (hv:cell[off]? =some v0) (v: ∀b,b∈j++(K2++f)->b≠g) (U: ∀b,b∈K2->b<w.heap.size) (X:S.size=1)
  (O: ∀J w' d' y m,I.le J->(∀b,b∈K2->w'.heap[b]? =w.heap[b]?)->S.own J w' d' y m-> ∃F,F.Perm (m++K2)/\R.own J w' (spl cell off d') (u a y) F) :
  (Ch.gap (aA E R) [.slice (some ⟨g,d,none⟩) xs.length cap] S (fun y=>xs.set i (u a y)) g (d+(i*R.size+off)) v0).holds I w (g::(j++(K2++f))):=by
 have D:=(List.getElem?_eq_some_iff.1 hv).1;refine ⟨by simp,⟨cur,E,A,?_⟩,fun b c=>?_,fun J w' n y m t M K L=>?_⟩
 ·rw[<-Array.getElem?_toList,<-List.getElem?_drop (i:=d),z,List.getElem?_append_right (by omega),List.getElem?_append_left (by omega),H];grind
 ·rcases aB c with rfl | c
  ·grind
  ·rcases aI c with c | c
   ·exact G.live b c
   ·rcases aI c with c | c
    ·grind
    ·exact B.live b c
 ·have r:=fun b c=>M b (br _ c) (v b c);have ⟨x,p,q⟩:=O J w' [n] y m t (fun b c=>r b (bt _ (bj _ c))) L;have h:=K cur E A;have e:(cur.setIfInBounds (d+(i*R.size+off)) n).toList.drop d=k++(spl cell off [n] ++l):=by
   rw[Array.toList_setIfInBounds,List.drop_set,if_neg (by omega),Nat.add_sub_cancel_left,z,List.set_append_right _ _ (by omega),List.set_append_left _ _ (by omega),H];rw[show i*R.size+off - i*R.size=off from by omega];rfl
  refine ⟨g::(j++(x++f)),?_,by grind,.inr ⟨g,d,cap,_,j++(x++f),by grind,h,by grind,Q,by grind,rfl,?_⟩⟩
  ·grind
  ·show OwnEls R J w' _ (xs.set i (u a y)) _;rw[List.set_eq_take_append_cons_drop,if_pos s,e];exact OwnEls.glue (ys:=xs.take i) (zs:=u a y::xs.drop (i+1)) (by grind) ((G.mono t).stay fun b c=>r b (bj _ c))
    ⟨spl cell off [n],l,x,f,rfl,by rw[zV];exact N,rfl,q,(B.mono t).stay fun b c=>r b (bt _ (bt _ c))⟩
theorem Gw {off k:Nat} {f:α->β} {u:α->β->α} {x:Operand} {v:Value} {xs:List α} {a:α} {i:Int} (N:aO xs i=some a) (X:Lens R off S f u) (hT:TI P T false 1) (A:S.size=1) (ho:o.op= .load T x) (hx:ev x=pt v (i.toNat*k+off)) (hk:R.size=k) :
  OpT P I w0 o ev [Ch.own (aA E R) [v] xs] (fun u=>u.oneCell'=true) (fun c=>[Ch.own S [c] (f a),Ch.gap (aA E R) [v] S (fun y=>xs.set i.toNat (u a y)) (ptB v) (ptO v+(i.toNat*k+off)) c]):=by
 intro w C hs;obtain ⟨n,hi,F,⟨G,K,rfl,e2,e3⟩,W,h3⟩:=hs;have z:=(List.getElem?_eq_some_iff.1 (xo N)).1;obtain ⟨g,m,cap,cur,r,q,c1,cell,c3,O,rfl,hl,M,Z,k3,k4,rfl,L,V,f3,f4,Q,f6⟩:=Cv e2 (xo N);have ⟨d,s,K2,p,e1,t,e5⟩:=X I w cell a O Q;have B:=(S.own_len t).trans A;obtain ⟨c,rfl⟩:=List.length_eq_one_iff.1 B;have hc:cell[off]? =some c:=by
  have:=congrArg (fun l:List Value=>l[0]?) e1
  simpa [List.getElem?_take,List.getElem?_drop,A] using this
 have ⟨U,hr,Y⟩:=Pi (P:=P) (w:=w) (b:=g) (off:=m+(i.toNat*k+off)) (d:=[c]) hT rfl (fun _=>rfl) (fun j u hj=>by
  have D:j=0:=by have:=(List.getElem?_eq_some_iff.1 hj).1;simpa using this
  subst D;simp only[World.cell?,M];rw[<-Array.getElem?_toList,show m+(i.toNat*k+off)+0=m+(i.toNat*k+off+0) from Nat.add_assoc _ _ _,<-List.getElem?_drop,L,List.getElem?_append_right (by grind),List.getElem?_append_left (by grind),V,hk];simp_all)
 obtain rfl:c=U:=by simpa using (show [c] = [U] from Y)
 simp[execOp,ho,hx,pt,ptB,ptO,Sem.run_bind,hr,Result.andThen_ok];have h:((g::(r++(O++q)))++K).Perm (s++((g::(r++(K2++q)))++K)):=by
  grind
 have H:=h.nodup_iff.1 W;refine ⟨S.own_one t c (by simp),n,hi,s++((g::(r++(K2++q)))++K),⟨s,_,rfl,t,g::(r++(K2++q)),K,rfl,?_,e3⟩,H,fun b n=>h3 b (h.mem_iff.2 n)⟩
 have:=abm (u:=u) (a:=a) (v0:=c) z hl M Z k3 k4 L V f3 f4 f6 hc (K2:=K2) (S:=S) (fun b n e=>by
  grind) (fun b n=>R.own_live Q b (p.mem_iff.2 (bt _ n))) A e5
 grind
theorem St.settle {cs:List Value} {f:β->α} {b off:Nat} {v:Value} {y:β} (h:St I w0 w (Ch.own S [v] y::Ch.gap R cs S f b off v::C)):St I w0 w (Ch.own R cs (f y)::C):=by
 obtain ⟨t,g,F,⟨G,K,rfl,l,x,c,rfl,⟨z,⟨cur,E,j,k⟩,A,n⟩,u⟩,m,e⟩:=h;have ⟨F,p,q⟩:=n I w v y G Hp.le.rfl (fun _ _ _=>rfl) (fun a s r=>by
  rw[j] at r⊢;obtain ⟨rfl,rfl⟩:cur=a/\E=s:=by grind
  congr 2;grind) l
 have d:(F++c).Perm (G++(x++c)):=by rw[<-aH];exact p.append_right _
 exact ⟨t,g,F++c,⟨F,c,rfl,q,u⟩,d.nodup_iff.2 m,fun b i=>e b (d.mem_iff.1 i)⟩
theorem Gx {cs:List Value} {f:β->α} {b off:Nat} {v u:Value} {x y:Operand} (D:TI P T false 1) (A:o.op= .store T x y) (B:ev x= .pointer (some ⟨b,off,none⟩)) (Y:ev y=u) (h1:u.oneCell'=true) :
  OpT P I w0 o ev [Ch.gap R cs S f b off v] (fun _=>True) (fun _=>[Ch.gap R cs S f b off u]):=by
 intro w C k;obtain ⟨p,hi,F,⟨K,K2,rfl,⟨k1,⟨cur,E,t,z⟩,k3,k4⟩,e3⟩,h4,Z⟩:=id k;have X:=LL (P:=P) (w:=w) D (g:=b) (o:=off) (l:=[u]) (If h1) rfl (fun j hj=>by
  simp_all[World.cell?,Option.isSome_none,Bool.false_eq_true,ite_false,Nat.add_zero]) (fun j=>by simp[World.frozen?,t]) (fun v hv=>by grind)
 simp only[execOp,A,B,Y,Sem.run_bind,X,Result.andThen_ok];refine ⟨trivial,?_⟩;refine St.step (w:=w) (c:=[Ch.gap R cs S f b off v]) (c':=[Ch.gap R cs S f b off u]) (w':=w.setCell ⟨b,off,none⟩ u) k rfl rfl rfl (by simp_all) ?_;rintro F ⟨K,K',rfl,⟨n,⟨m,O,L,H⟩,q3,W⟩,rfl⟩ d r;rw[List.append_nil] at *;refine ⟨fun c a s=>Below.heap_setCell _ _ _ _ fun e=>s (e ▸ n),K,⟨K,[],by simp,⟨n,⟨_,O,iC L,?_⟩,fun c a=>by simp_all,fun J h V Q G N s1 q=>W J h V Q G N (fun c a U=>by grind[Below.heap_setCell]) fun i M a=>?_⟩,rfl⟩,d,fun c a=>.inl a⟩
 ·grind
 ·have:=q _ M (iC (v:=u) (o:=off) a)
  simp_all
end
def yr (E:TypeId) (t:Ty) (x:LV) (chs:List Ent):Option (List t.den×List Ent×List Ent):=match x with
 | .own h=>(pull h chs).bind fun r=>match r.1.2.2 with
  | .own t' d=>(qV t' (.sl E t) d).bind fun d=>some (d,[r.1],r.2)
  | _=>none
 | .val v=>cz (isNil v) (some ([],[],chs))
 | _=>none
def Cw (T E:TypeId) (t:Ty) (x:LV) (chs:List Ent):Option (Tr t.den×List Ent×List Ent):=match x with
 | .own h=>(pull h chs).bind fun r=>match r.1.2.2 with
  | .own t' d=>(qV t' (.tree T E t) d).bind fun d=>some (d,[r.1],r.2)
  | _=>none
 | x=>(aaQ T E t x).bind fun d=>some (d,[],chs)
structure Took (t:Ty) where
 d:t.den
 cells:List LV
 used:List Ent
 rest:List Ent
def fe:(t:Ty)->List LV->List Ent->Option (Took t)
 | .prod a b,l,chs=>(fe a l chs).bind fun x=>(fe b x.cells x.rest).bind fun y=>some ⟨(x.d,y.d),y.cells,x.used++y.used,y.rest⟩
 | .sl E t,l,chs=>match l with
  | x::r=>(yr E t x chs).bind fun q=>some ⟨q.1,r,q.2.1,q.2.2⟩
  | [] =>none
 | .int k,l,chs=>(eM (.int k) l).bind fun x=>some ⟨x.1,x.2,[],chs⟩
 | .bool,l,chs=>(eM .bool l).bind fun x=>some ⟨x.1,x.2,[],chs⟩
 | .str,l,chs=>(eM .str l).bind fun x=>some ⟨x.1,x.2,[],chs⟩
 | .raw,l,chs=>(eM .raw l).bind fun x=>some ⟨x.1,x.2,[],chs⟩
 | .fro t,l,chs=>(eM t l).bind fun x=>some ⟨x.1,x.2,[],chs⟩
 | .bag t,l,chs=>(fe t l chs).bind fun x=>some ⟨x.d,x.cells,x.used,x.rest⟩
 | .wr t,l,chs=>(fe t l chs).bind fun x=>some ⟨x.d,x.cells,x.used,x.rest⟩
 | .tree T E t,l,chs=>match l with
  | x::r=>(Cw T E t x chs).bind fun q=>some ⟨q.1,r,q.2.1,q.2.2⟩
  | [] =>none
theorem Cx {E:TypeId} {t:Ty} {x:LV} {chs:List Ent} {q:List t.den×List Ent×List Ent} (h:yr E t x chs=some q) (P:Program) (J:Hp) (θ:Th):chs.Perm (q.2.1++q.2.2)/\Bun J (q.2.1.map (toCh P θ)) (Ty.sl E t).rep [x.v θ] q.1:=by
 cases x with
 | own a =>
  have ⟨r,l,h⟩:=bind_some (show (pull a chs).bind _=some q from h);have ⟨p,k⟩:=hY l;have ⟨⟨b,f,c⟩,rest⟩:=r;obtain rfl:b=a:=k;cases c with
  | own g d =>
   have ⟨m,j,h⟩:=bind_some (show (qV g (.sl E t) d).bind _=some q from h);obtain ⟨e,rfl⟩:=si j;cases ad h;subst e;exact ⟨p,Pu⟩
  | _=>cases h
 | val v =>
  have ⟨i,h⟩:=ak (show cz (isNil v) _=some q from h);cases ad h;refine ⟨List.Perm.refl _,?_⟩;rw[pB i];exact Yo
 | _=>cases h
theorem Cy {E:TypeId} {t:Ty} {x:LV} {chs:List Ent} {q:List t.den×List Ent×List Ent} (h:yr E t x chs=some q):chs.Perm (q.2.1++q.2.2):=by
 cases x with
 | own a =>
  have ⟨r,c,h⟩:=bind_some (show (pull a chs).bind _=some q from h);grind[hY,bind_some,qV,bind,ad]
 | val v =>
  have ⟨b,h⟩:=ak (show cz (isNil v) _=some q from h);grind[ad,List.Perm.refl]
 | _=>cases h
theorem Cz {T E:TypeId} {t:Ty} {x:LV} {chs:List Ent} {q:Tr t.den×List Ent×List Ent} (h:Cw T E t x chs=some q):chs.Perm (q.2.1++q.2.2):=by
 unfold Cw at h;split at h
 ·have ⟨r,b,h⟩:=bind_some h;have ⟨p,k⟩:=hY b;split at h
  ·have ⟨c,a,h⟩:=bind_some h;grind
  grind
 ·have ⟨d,a,h⟩:=bind_some h;grind[ad,List.Perm.refl]
theorem uE {J:Hp} {α:Type} {R:Rep α} (a:Cpy R R) {c:List Value} {x:α} (h:R.rd J c x):Bun J [] R c x:=fun w F k=>by
 rw[show F= [] from k];exact a h
theorem PP {T E:TypeId} {t:Ty} {x:LV} {chs:List Ent} {q:Tr t.den×List Ent×List Ent} (h:Cw T E t x chs=some q) {P:Program} {w0:World} {J:Hp} {θ:Th} {n:Nat} (g:x.ok P w0 J θ n):Bun J (q.2.1.map (toCh P θ)) (Ty.tree T E t).rep [x.v θ] q.1:=by
 unfold Cw at h;split at h
 ·rename_i i;have ⟨r,l,h⟩:=bind_some h;have ⟨p,k⟩:=hY l;have ⟨⟨b,f,c⟩,rest⟩:=r;obtain rfl:b=i:=k;cases c with
  | own j d =>
   have ⟨m,a,h⟩:=bind_some (show (qV j (.tree T E t) d).bind _=some q from h);obtain ⟨e,rfl⟩:=si a;cases ad h;subst e;exact Pu
  | _=>cases h
 ·have ⟨d,a,h⟩:=bind_some h;cases ad h;exact uE T3 (Kg a g)
theorem mo {P:Program} {w0:World} {J:Hp} {θ:Th} {n:Nat} : ∀ {t:Ty} {cs:List LV} {chs:List Ent} {r:Took t},fe t cs chs=some r->(∀x∈cs,x.ok P w0 J θ n)->
  chs.Perm (r.used++r.rest)/\ ∃d,cs=d++r.cells/\Bun J (r.used.map (toCh P θ)) t.rep (d.map (·.v θ)) r.d:=by
 intro t;induction t with
 | prod a b i j =>
  intro cs chs r h c;have ⟨x,f,h⟩:=bind_some (show (fe a cs chs).bind _=some r from h);have ⟨y,w,h⟩:=bind_some h;cases ad h;obtain ⟨A,d,rfl,s⟩:=i f c;have ⟨m,o,B,u⟩:=j w fun z v=>c z (bt _ v);refine ⟨by rw[aH];exact A.trans (m.append_left _),d++o,by grind,?_⟩;rw[aX,aX];exact TX s u
 | sl E t ih =>
  intro cs chs r h c;cases cs with
  | nil=>cases h
  | cons x l =>
   have ⟨q,g,h⟩:=bind_some (show (yr E t x chs).bind _=some r from h);cases ad h;have ⟨p,k⟩:=Cx g P J θ;exact ⟨p,[x],rfl,k⟩
 | fro t ih =>
  intro cs chs r h c;have ⟨x,f,h⟩:=bind_some (show (eM t cs).bind _=some r from h);cases ad h;have ⟨d,e,k⟩:=jH f c;exact ⟨List.Perm.refl _,d,e,abd k⟩
 | wr t ih =>
  intro cs chs r h c;have ⟨x,f,h⟩:=bind_some (show (fe t cs chs).bind _=some r from h);cases ad h;exact ih f c
 | bag t ih =>
  intro cs chs r h c;have ⟨x,f,h⟩:=bind_some (show (fe t cs chs).bind _=some r from h);cases ad h;have ⟨p,d,e,k⟩:=ih f c;exact ⟨p,d,e,Yz k⟩
 | tree T E t ih =>
  intro cs chs r h c;cases cs with
  | nil=>cases h
  | cons x l =>
   have ⟨q,g,h⟩:=bind_some (show (Cw T E t x chs).bind _=some r from h);cases ad h;exact ⟨Cz g,[x],rfl,PP g (c x (by simp))⟩
 | int k =>
  intro cs chs r h c;have ⟨x,f,h⟩:=bind_some (show (eM _ cs).bind _=some r from h);cases ad h;have ⟨d,e,k⟩:=jH f c;exact ⟨List.Perm.refl _,d,e,uE vK k⟩
 | bool =>
  intro cs chs r h c;have ⟨x,f,h⟩:=bind_some (show (eM _ cs).bind _=some r from h);cases ad h;have ⟨d,e,k⟩:=jH f c;exact ⟨List.Perm.refl _,d,e,uE LO k⟩
 | str =>
  intro cs chs r h c;have ⟨x,f,h⟩:=bind_some (show (eM _ cs).bind _=some r from h);cases ad h;have ⟨d,e,k⟩:=jH f c;exact ⟨List.Perm.refl _,d,e,uE Po k⟩
 | raw =>
  intro cs chs r h c;have ⟨x,f,h⟩:=bind_some (show (eM _ cs).bind _=some r from h);cases ad h;have ⟨d,e,k⟩:=jH f c;exact ⟨List.Perm.refl _,d,e,uE (vK (α:=Raw) (enc:=(·.1)) (h1:=(·.2))) k⟩
theorem jl: ∀ {t:Ty} {cs:List LV} {chs:List Ent} {r:Took t},fe t cs chs=some r->chs.Perm (r.used++r.rest):=by
 intro t;induction t with
 | prod a b d e =>
  intro cs chs r h;have ⟨x,c,h⟩:=bind_some (show (fe a cs chs).bind _=some r from h);have ⟨y,f,h⟩:=bind_some h;cases ad h;exact (by rw[aH];exact (d c).trans ((e f).append_left _))
 | sl E t ih =>
  intro cs chs r h;cases cs with
  | nil=>cases h
  | cons x l =>
   have ⟨q,g,h⟩:=bind_some (show (yr E t x chs).bind _=some r from h);grind[ad,Cy]
 | fro t ih =>
  intro cs chs r h;have ⟨x,c,h⟩:=bind_some (show (eM t cs).bind _=some r from h);grind[ad,List.Perm.refl]
 | wr t ih =>
  intro cs chs r h;have ⟨x,c,h⟩:=bind_some (show (fe t cs chs).bind _=some r from h);grind
 | bag t ih =>
  intro cs chs r h;have ⟨x,c,h⟩:=bind_some (show (fe t cs chs).bind _=some r from h);grind
 | tree T E t ih =>
  intro cs chs r h;cases cs with
  | nil=>cases h
  | cons x l =>
   have ⟨q,g,h⟩:=bind_some (show (Cw T E t x chs).bind _=some r from h);grind[ad,Cz]
 | int k =>
  intro cs chs r h;have ⟨x,c,h⟩:=bind_some (show (eM _ cs).bind _=some r from h);grind[ad,List.Perm.refl]
 | bool =>
  intro cs chs r h;have ⟨x,c,h⟩:=bind_some (show (eM _ cs).bind _=some r from h);grind[ad,List.Perm.refl]
 | str =>
  intro cs chs r h;have ⟨x,c,h⟩:=bind_some (show (eM _ cs).bind _=some r from h);grind[ad,List.Perm.refl]
 | raw =>
  intro cs chs r h;have ⟨x,c,h⟩:=bind_some (show (eM _ cs).bind _=some r from h);grind[ad,List.Perm.refl]
section
variable {Y:Type} (tt:TT) (s:Sg) (k:Res->Option Y)
def aeT (T:TypeId) (x:Operand):Option Y:=(opd s x).bind fun v=>(nQ v).bind fun cs=>k ⟨[],[],s.chs,[(⟨s.nxt,[]⟩,.blk T cs)],.one (.ptr ⟨s.nxt,[]⟩ 0)⟩
def WR (T:TypeId):Option Y:=(td tt T).bind fun d=>match d.fz with
 | true=>k ⟨[],[],s.chs,[(⟨s.nxt,[]⟩,.blk T [.val .nilFunc])],.one (.ptr ⟨s.nxt,[]⟩ 0)⟩
 | false=>d.bytes.bind fun _=>k ⟨[],[],s.chs,[(⟨s.nxt,[]⟩,.blk T ((zeroCells d.ty).map .val))],.one (.ptr ⟨s.nxt,[]⟩ 0)⟩
def adQ (agg:Bool) (cs:List LV):Option AV:=match agg with
 | true=>some (.agg cs)
 | false=>match cs with
  | [x] =>some (.one x)
  | _=>none
def WS (T:TypeId) (x:Operand):Option Y:=(td tt T).bind fun d=>match opd s x with
 | some (.one (.ptr h off))=>(tf h s.chs).bind fun b=>cz (Nat.beq ((b.cells.drop off).take d.n).length d.n) ((adQ d.agg ((b.cells.drop off).take d.n)).bind fun v=>k ⟨[b.ent h],[],b.rest,[],v⟩)
 | _=>none
def PQ (T:TypeId) (x y:Operand):Option Y:=(td tt T).bind fun d=>match opd s x with
 | some (.one (.ptr h off))=>(opd s y).bind fun v=>(nQ v).bind fun cs=>(tf h s.chs).bind fun b=>cz (Nat.beq cs.length d.n&&Nat.ble (off+d.n) b.cells.length) (k ⟨[],[b.ent h],b.rest,[(h,.blk b.T (b.cells.take off++cs++b.cells.drop (off+cs.length)))],.any ⟨s.nxt,[]⟩⟩)
 | _=>none
def abn (T:TypeId) (x:Operand):Option Y:=(td tt T).bind fun d=>match d.el,opd s x with
 | some _,some (.one (.own h))=>(rowOf h s.chs).bind fun r=>k ⟨[r.ent h],[],r.rest,[],.one (.val (.int .i64 (r.xs.length:Int)))⟩
 | _,_=>none
def PR (T:TypeId) (x i:Operand):Option Y:=(td tt T).bind fun d=>match d.el,opd s x,opd s i with
 | some E,some (.one (.own h)),some (.one (.val (.int .i64 i)))=>(rowOf h s.chs).bind fun r=>(td tt E).bind fun e=>cz (Nat.beq e.n r.t.size) ((aO r.xs i).bind fun a=>k ⟨[r.ent h],[],r.rest,[],.elo h r.ver r.E r.t r.xs a i 0⟩)
 | _,_,_=>none
def WU (T:TypeId) (x:Operand):Option Y:=(td tt T).bind fun d=>match opd s x with
 | some (.elo h ver E t xs a i off)=>(rowOf h s.chs).bind fun r=>cz (Nat.beq r.ver ver) ((Aa d.agg t off d.n).bind fun p=>match p.ty.sh with
  | true=>cz (p.ty.isProd==d.agg) (k ⟨[r.ent h],[],r.rest,[],PG s.nxt p.ty (p.get a)⟩)
  | false=>cz (Nat.beq p.ty.size 1 && !d.agg) (k ⟨[],[r.ent h],r.rest,[(⟨s.nxt,[]⟩,.own p.ty (p.get a)),(h,.hole ver (.sl E t) xs p.ty (p.get a) (fun y=>xs.set i.toNat (p.set a y)) i t.size off (.own ⟨s.nxt,[]⟩))],.one (.own ⟨s.nxt,[]⟩)⟩))
 | _=>none
def PS (T:TypeId) (x y:Operand):Option Y:=(td tt T).bind fun d=>match opd s x with
 | some (.elo h ver E t xs a i off)=>(opd s y).bind fun v=>(nQ v).bind fun cs=>(rowOf h s.chs).bind fun r=>cz (Nat.beq r.ver ver&&Nat.beq cs.length d.n) ((Aa d.agg t off d.n).bind fun p=>match t.sh with
  | true=>(eM p.ty cs).bind fun b=>cz b.2.isEmpty (k ⟨[],[r.ent h],r.rest,[(h,.own (.sl E t) (xs.set i.toNat (p.set a b.1)))],.any ⟨s.nxt,[]⟩⟩)
  | false=>(fe p.ty cs r.rest).bind fun q=>cz q.cells.isEmpty (k ⟨[],r.ent h::q.used,q.rest,[(h,.own (.sl E t) (xs.set i.toNat (p.set a q.d)))],.any ⟨s.nxt,[]⟩⟩))
 | _=>none
end
section
variable {Y:Type} {tt:TT} {s:Sg} {k:Res->Option Y} {P:Program} {w0:World} {o:Oper} {res:Y} {x y:Operand}
theorem xt {I:Hp} {ev:Operand->Value} {α:Type} {R:Rep α} {E:TypeId} {v:Value} {xs:List α} {fact:Value->Prop} (h:Hd v xs.length->OpT P I w0 o ev [] fact (fun _=>[])):OpT P I w0 o ev [Ch.own (aA E R) [v] xs] fact (fun _=>[Ch.own (aA E R) [v] xs]):=
 fun w C a=>h (a.hd 0 rfl).1 w (Ch.own (aA E R) [v] xs::C) a
theorem fE {θ:Th} {n:Nat} {v:Value} :hv (upd θ n v) ⟨n,[]⟩=v:=kU
theorem YK {T:TypeId} (m:o.op= .box T x) (h:aeT s k T x=some res):Oks P w0 s o k res:=by
 have ⟨v,a,h⟩:=bind_some h;have ⟨e,c,h⟩:=bind_some h;refine ⟨_,h,by simp,a7 rfl,fun J θ n=>?_⟩;have ⟨d,i⟩:=kX c (cg n a);refine OpT.weak (Yb (l:=e.map (·.v θ)) (aK a) i m) (fun v b=>⟨aJ _,?_,fun g f=>?_⟩) (fun v b=>?_)
 ·show Value.pointer (some ⟨bk (hv _ ⟨s.nxt,[]⟩),0,none⟩)=v;grind[fE,J7]
 ·cases aq f;exact ⟨aJ _,aJ _,fun x j=>LV.ok_same Same.upd (Nat.le_succ _) (d x j) Hp.le.rfl⟩
 ·show [Ch.blk (bk v) _ T] = [Ch.blk (bk (hv _ ⟨s.nxt,[]⟩)) (e.map _) T];rw[fE,mE Same.upd d]
theorem PU (n:TTok P tt) {T:TypeId} (m:o.op= .alloc T) (h:WR tt s k T=some res):Oks P w0 s o k res:=by
 have ⟨d,p,h⟩:=bind_some h;split at h
 ·rename_i j;have ⟨b,r⟩:=(n.get p).fz j;refine ⟨_,h,by simp,a7 rfl,fun J θ q=>?_⟩;refine OpT.weak (H3 (l:=[.nilFunc]) r rfl m) (fun v a=>⟨aJ _,?_,fun g c=>?_⟩) (fun v a=>?_)
  ·show Value.pointer (some ⟨bk (hv _ ⟨s.nxt,[]⟩),0,none⟩)=v;grind[fE,J7]
  ·cases aq c;refine ⟨aJ _,aJ _,fun x e=>?_⟩;cases aq e
   rfl
  ·show [Ch.blk (bk v) _ T] = [Ch.blk (bk (hv _ ⟨s.nxt,[]⟩)) _ T];rw[fE];rfl
 have ⟨z,w,h⟩:=bind_some h;obtain ⟨A,i,f,-⟩:=(n.get p).zero z w;refine ⟨_,h,by simp,a7 rfl,fun J θ q=>?_⟩;refine OpT.weak (H3 (l:=zeroCells d.ty) i f m) (fun v a=>⟨aJ _,?_,fun g c=>?_⟩) (fun v a=>?_)
 ·show Value.pointer (some ⟨bk (hv _ ⟨s.nxt,[]⟩),0,none⟩)=v;grind[fE,J7]
 ·cases aq c;refine ⟨aJ _,aJ _,fun x e=>?_⟩;obtain ⟨u,t,rfl⟩:=List.mem_map.1 e;exact LW _ u t
 ·show [Ch.blk (bk v) _ T] = [Ch.blk (bk (hv _ ⟨s.nxt,[]⟩)) (((zeroCells d.ty).map LV.val).map _) T];rw[fE,List.map_map];congr 2;exact (List.map_id' _).symm
theorem PV {agg:Bool} {cs:List LV} {v:AV} (h:adQ agg cs=some v) {P:Program} {w0:World} {J:Hp} {θ:Th} {n:Nat} {chs:List Ent} (a: ∀x∈cs,x.ok P w0 J θ n):v.ok P w0 J θ n chs/\(if agg then Value.agg (cs.map (·.v θ)).toArray else (cs.map (·.v θ)).getD 0 undef)=v.v θ:=by
 cases agg with
 | true =>
  cases ad (show some (AV.agg cs)=some v from h);exact ⟨a,rfl⟩
 | false =>
  cases cs with
  | nil=>cases h
  | cons x l =>
   cases l with
   | nil =>
    cases ad (show some (AV.one x)=some v from h);exact ⟨a x (by simp),rfl⟩
   | cons _ _=>cases h
theorem nL {e:Ent} {r:List Ent} {J:Hp} {θ:Th} (a:Fine P w0 J θ s) (hp:s.chs.Perm (e::r)):okE P w0 J θ s.nxt s.chs e:=a.chs e (hp.mem_iff.2 (by simp))
theorem sk {e:Ent} {r l:List Ent} (hp:l.Perm (e::r)):l.Perm ([e] ++ [] ++r):=hp
theorem Gy {e:Ent} {r l:List Ent} (hp:l.Perm (e::r)):l.Perm ([] ++ [e] ++r):=hp
theorem PW (w:TTok P tt) {T:TypeId} (t:o.op= .load T x) (h:WS tt s k T x=some res):Oks P w0 s o k res:=by
 have ⟨d,B,h⟩:=bind_some h;split at h
 ·rename_i C off q;have ⟨b,m,h⟩:=bind_some h;have ⟨j,h⟩:=ak h;have ⟨v,c,h⟩:=bind_some h;have hp:=lW m;have j:=ax j;refine ⟨_,h,sk hp,a7 rfl,fun J θ e=>?_⟩;have A: ∀z∈(b.cells.drop off).take d.n,z.ok P w0 J θ s.nxt:=fun z r=>(nL e hp).2.2 z (List.mem_of_mem_drop (List.mem_of_mem_take r));have ⟨i,n⟩:=PV (chs:=s.chs) c A;have a:=w.get B;refine OpT.weak (H4 (l:=b.cells.map (·.v θ)) (E:=b.T) a.ti t (aK q) a.one (by simp_all) (by grind) n) (fun u f=>?_) (fun u f=>rfl);subst f;exact ⟨AV.ok_same Same.upd (Nat.le_succ _) (Res.newer (sk hp) (a7 rfl J θ e)) i Hp.le.rfl,AV.v_same Same.upd i,fun g p=>by cases p⟩
 grind
theorem NR (D:TTok P tt) {T:TypeId} (C:o.op= .store T x y) (h:PQ tt s k T x y=some res):Oks P w0 s o k res:=by
 have ⟨d,I,h⟩:=bind_some h;split at h
 ·rename_i i off B;have ⟨v,f,h⟩:=bind_some h;have ⟨q,m,h⟩:=bind_some h;have ⟨b,r,h⟩:=bind_some h;have ⟨n,h⟩:=ak h;rw[aj] at n;have H:=ax n.1;have F:=bB n.2;have hp:=lW r;refine ⟨_,h,Gy hp,a7 rfl,fun J θ p=>?_⟩;have ⟨G,w⟩:=kX m (cg p f);have c:=nL p hp;have j:=D.get I;have e: ∀z∈b.cells.take off++q++b.cells.drop (off+q.length),z.ok P w0 J θ s.nxt:=fun z a=>by
   rcases aI a with a | a
   ·rcases aI a with a | a
    ·exact c.2.2 z (List.mem_of_mem_take a)
    grind
   ·exact c.2.2 z (List.mem_of_mem_drop a)
  refine OpT.weak (Gh (l:=b.cells.map (·.v θ)) (E:=b.T) j.ti C (aK B) (aK f) w (by grind) (Kf G) (by grind)) (fun u t=>⟨aJ _,fE,fun g A=>?_⟩) (fun u t=>?_)
  ·cases aq A;exact ⟨be c.1,aJ _,fun z a=>LV.ok_same Same.upd (Nat.le_succ _) (e z a) Hp.le.rfl⟩
  ·show [Ch.blk (bk (hv θ i)) _ b.T] = [Ch.blk (bk (hv (upd θ s.nxt u) i)) _ b.T];rw[show hv (upd θ s.nxt u) i=hv θ i from bh Same.upd c.1,E5 _ _ _ (by grind),mE Same.upd e,aX,aX,List.map_take,List.map_drop,List.length_map]
 grind
theorem Uc (j:TTok P tt) {T:TypeId} (e:o.op= .call { callee:=.builtin .len,args:= #[x],argTypes:= #[T] }) (h:abn tt s k T x=some res):Oks P w0 s o k res:=by
 have ⟨d,l,h⟩:=bind_some h;split at h
 ·rename_i E p c i;have ⟨r,m,h⟩:=bind_some h;obtain ⟨hp,-⟩:=cO m;refine ⟨_,h,sk hp,a7 rfl,fun J θ n=>OpT.weak (xt fun b=>E3 b ((j.get l).el _ c) e (aK i)) (fun u a=>?_) (fun u a=>rfl)⟩;subst a;exact ⟨Eq.refl true,rfl,fun g f=>by cases f⟩
 grind
theorem NS (p:TTok P tt) {T:TypeId} {i:Operand} (w:o.op= .indexAddr T x i) (h:PR tt s k T x i=some res):Oks P w0 s o k res:=by
 have ⟨d,D,h⟩:=bind_some h;split at h
 ·rename_i E c j v A F;have ⟨r,q,h⟩:=bind_some h;have ⟨e,B,h⟩:=bind_some h;have ⟨f,h⟩:=ak h;have ⟨a,n,h⟩:=bind_some h;have f:=ax f;have ⟨hp,C⟩:=cO q;refine ⟨_,h,sk hp,a7 rfl,fun J θ l=>OpT.weak (xt (fact:=(· =pt (hv θ c) (j.toNat*r.t.size+0))) fun t=>?_) (fun u m=>?_) (fun u m=>rfl)⟩
  ·have:=uz (I:=J) (w0:=w0) t ((p.get D).el _ v) (p.get B).ti w (aK A) (aK F) (Gf n)
   rw[f] at this;exact this
  ·have b:=nL l hp;refine ⟨⟨be b.1,n,(yq q b.2.1).newer (Res.newer (sk hp) (a7 rfl J θ l)) (Nat.le_succ _)⟩,?_,fun g z=>by cases z⟩;rw[m];show pt (hv (upd θ s.nxt _) c) _=pt (hv θ c) _;rw[show hv (upd θ s.nxt _) c=hv θ c from bh Same.upd b.1]
 grind
theorem CA {h:Hdr} {ver:Nat} {E:TypeId} {t:Ty} {xs:List t.den} {a:t.den} {i:Int} {off:Nat} {J:Hp} {θ:Th} {r:Row} (c:rowOf h s.chs=some r) (hv:r.ver=ver) (b:AV.ok P w0 J θ s.nxt s.chs (.elo h ver E t xs a i off)):r.ent h=(h,ver,.own (.sl E t) xs):=by
 obtain ⟨hp,-⟩:=cO c
 have:=b.2.2.2 (r.ent h) (hp.mem_iff.2 (by simp)) _ ⟨rfl,.inl ⟨hv,rfl⟩⟩
 show (h,r.ver,Chk.own (.sl r.E r.t) r.xs)=_;rw[hv,show Chk.own (.sl r.E r.t) r.xs=_ from this]
theorem PX (hT:TTok P tt) {T:TypeId} (W:o.op= .load T x) (h:WU tt s k T x=some res):Oks P w0 s o k res:=by
 have ⟨d,hd,h⟩:=bind_some h;split at h
 ·rename_i m R E t Z a i off H;have ⟨r,M,h⟩:=bind_some h;have ⟨j,h⟩:=ak h;have j:=ax j;have ⟨p,O,h⟩:=bind_some h;have q:=B0 _ _ _ _ O;obtain ⟨hp,-⟩:=cO M;have A:=hT.get hd;split at h
  ·rename_i N;have ⟨b,h⟩:=ak h;have b:p.ty.isProd=d.agg:=by simpa using b
   refine ⟨_,h,sk hp,a7 rfl,fun J θ z=>?_⟩;have f:=cg z H;have v:=CA M j f
   have:=Gv (P:=P) (I:=J) (w0:=w0) (o:=o) (T:=T) (E:=E) (Ty.sh_ok N) f.2.1 q.lens A.ti (p.ty.rep_size.trans q.size) A.one W (aK (θ:=θ) H) t.rep_size
   rw[v];refine OpT.weak this (fun u B=>?_) (fun u B=>rfl);have ⟨c,L,V⟩:=B;rw[<-b] at V
   have:=sj (P:=P) (w0:=w0) (J:=J) (θ:=upd θ s.nxt u) (id:=s.nxt) (n:=s.nxt+1) (chs:=Res.chs ⟨[r.ent m],[],r.rest,[],PG s.nxt p.ty (p.get a)⟩ s.nxt) (aJ _) kU p.ty (p.get a) c L V
   grind
  ·have ⟨b,h⟩:=ak h;rw[aj] at b;have K:=ax b.1;have Q:d.agg=false:=by simpa using b.2
   refine ⟨_,h,Gy hp,fun J θ z g b X c C=>?_,fun J θ z=>?_⟩
   ·rcases aB b with rfl | b
    ·exact C.elim
    ·cases aq b;obtain ⟨rfl,rfl⟩:=C;exact ⟨r.ent m,hp.mem_iff.2 (by simp),by rw[CA M j (cg z H)];exact ⟨rfl,.inl ⟨rfl,rfl⟩⟩⟩
   have f:=cg z H;have v:=CA M j f;have w:=nL z hp;have F:=A.ti;rw[Q,<-q.size,K] at F
   have:=Gw (P:=P) (I:=J) (w0:=w0) (o:=o) (T:=T) (E:=E) f.2.1 q.lens F (p.ty.rep_size.trans K) W (aK (θ:=θ) H) t.rep_size
   rw[v];have D:Z.set i.toNat (p.set a (p.get a))=Z:=by
    have ⟨S,e⟩:=List.getElem?_eq_some_iff.1 (xo f.2.1);rw[q.eta,<-e];exact List.set_getElem_self S
   have G:R<s.nxt:=by rw[<-j];exact w.2.1
   refine OpT.weak this (fun u B=>⟨⟨aJ _,by rw[fE];exact B⟩,fE,fun g b=>?_⟩) (fun u B=>?_)
   ·rcases aB b with rfl | b
    ·exact ⟨aJ _,aJ _,trivial⟩
    ·cases aq b;refine ⟨be w.1,aJ _,⟨aJ _,by rw[fE];exact B⟩,G,D,fun l hl=>?_⟩;cases LV.own.inj hl;refine ⟨aJ _,fun e v c C=>?_⟩;rcases aI v with v | v
     ·obtain ⟨g,b,rfl⟩:=List.mem_map.1 v;rcases aB b with rfl | b
      ·rcases C.2 with L | L
       ·grind
       ·exact L.elim
      ·cases aq b
       have:=w.1
       rw[show m=(⟨s.nxt,[]⟩:Hdr) from C.1] at this;exact absurd this (Nat.lt_irrefl _)
     ·have v:e∈s.chs:=hp.mem_iff.2 (br _ (by grind));have U:=z.chs e v
      have:=U.1
      rw[C.1] at this;grind
   ·show [Ch.own p.ty.rep [u] (p.get a),Ch.gap _ [hv θ m] p.ty.rep _ (ptB (hv θ m)) (ptO (hv θ m)+_) u] = [Ch.own p.ty.rep [hv (upd θ s.nxt u) ⟨s.nxt,[]⟩] (p.get a),Ch.gap _ [hv (upd θ s.nxt u) m] p.ty.rep _ (ptB (hv (upd θ s.nxt u) m)) (ptO (hv (upd θ s.nxt u) m)+_) (hv (upd θ s.nxt u) ⟨s.nxt,[]⟩)];rw[fE,show hv (upd θ s.nxt u) m=hv θ m from bh Same.upd w.1];rfl
 grind
theorem NT (V:TTok P tt) {T:TypeId} (Q:o.op= .store T x y) (h:PS tt s k T x y=some res):Oks P w0 s o k res:=by
 have ⟨d,X,h⟩:=bind_some h;split at h
 ·rename_i m S E t xs a i off G;have ⟨v,j,h⟩:=bind_some h;have ⟨cs,D,h⟩:=bind_some h;have ⟨r,O,h⟩:=bind_some h;have ⟨w,h⟩:=ak h;rw[aj] at w;have l:=ax w.1;have Z:=ax w.2;have ⟨p,H,h⟩:=bind_some h;have c:=B0 _ _ _ _ H;obtain ⟨hp,-⟩:=cO O;have B:=V.get X;split at h
  ·rename_i A;have ⟨b,U,h⟩:=bind_some h;have ⟨z,h⟩:=ak h;refine ⟨_,h,Gy hp,a7 rfl,fun J θ n=>?_⟩;have e:=cg n G;have K:=CA O l e;have f:=nL n hp;have ⟨F,M⟩:=kX D (cg n j);have ⟨W,C,N⟩:=jH (J:=J) U F;rw[List.isEmpty_iff.1 z,List.append_nil] at C;subst C
   have:=H7 (P:=P) (I:=J) (w0:=w0) (o:=o) (T:=T) (E:=E) (Ty.sh_ok A) (Ty.cpy A) e.2.1 c.upd B.ti Q (aK (θ:=θ) G) (aK j) M (Kf F) (by grind) t.rep_size c.fit N
   rw[K];refine OpT.weak this (fun u L=>⟨aJ _,fE,fun g w=>?_⟩) (fun u L=>?_)
   ·cases aq w;exact ⟨be f.1,aJ _,trivial⟩
   ·show [Ch.own _ [hv θ m] _] = [Ch.own _ [hv (upd θ s.nxt u) m] _];rw[show hv (upd θ s.nxt u) m=hv θ m from bh Same.upd f.1];rfl
  ·have ⟨q,R,h⟩:=bind_some h;have ⟨z,h⟩:=ak h;refine ⟨_,h,(hp.trans ((jl R).cons _)),a7 rfl,fun J θ n=>?_⟩;have e:=cg n G;have K:=CA O l e;have f:=nL n hp;have ⟨F,M⟩:=kX D (cg n j);obtain ⟨-,W,C,N⟩:=mo (J:=J) (θ:=θ) R F;rw[List.isEmpty_iff.1 z,List.append_nil] at C;subst C
   have:=Gk (P:=P) (I:=J) (w0:=w0) (o:=o) (T:=T) (E:=E) N e.2.1 c.updO B.ti Q (aK (θ:=θ) G) (aK j) M (Kf F) (by grind) (p.ty.rep_size.trans c.size) t.rep_size c.fit
   rw[K];refine OpT.weak this (fun u L=>⟨aJ _,fE,fun g w=>?_⟩) (fun u L=>?_)
   ·cases aq w;exact ⟨be f.1,aJ _,trivial⟩
   ·show [Ch.own _ [hv θ m] _] = [Ch.own _ [hv (upd θ s.nxt u) m] _];rw[show hv (upd θ s.nxt u) m=hv θ m from bh Same.upd f.1];rfl
 grind
end
def Ud (pl:List (Nat×Nat)) (cells:List LV):List (Nat×List LV)->Option (List LV)
 | [] =>some cells
 | (i,l)::rest=>(pl[i]?).bind fun q=>cz (Nat.beq l.length q.2&&Nat.ble (q.1+q.2) cells.length) (Ud pl (cells.take q.1++l++cells.drop (q.1+q.2)) rest)
theorem L4 {a:List (Nat×Nat)} {θ:Th} : ∀ {ps:List (Nat×List LV)} {cells r:List LV},Ud a cells ps=some r->J6 (a[·]?) (cells.map (·.v θ)) (ps.map fun p=>(p.1,p.2.map (·.v θ)))=some (r.map (·.v θ))
 | [],cells,r,h=>by cases ad (show some cells=some r from h);rfl
 | (i,l)::ps,cells,r,h=>by
  have ⟨q,c,h⟩:=bind_some (show (a[i]?).bind _=some r from h);have ⟨b,h⟩:=ak h
  have:=L4 (θ:=θ) h
  simp_all[List.map_cons,J6,List.length_map,if_pos,aX,List.map_take,List.map_drop]
theorem Ik {b:List (Nat×Nat)} {Q:LV->Prop} : ∀ {ps:List (Nat×List LV)} {cells r:List LV},Ud b cells ps=some r->(∀x∈cells,Q x)->(∀p∈ps,∀x∈p.2,Q x)-> ∀x∈r,Q x
 | [],cells,r,h,hc,hp=>by cases ad (show some cells=some r from h);exact hc
 | (i,l)::ps,cells,r,h,hc,hp=>by
  have ⟨q,d,h⟩:=bind_some (show (b[i]?).bind _=some r from h);obtain ⟨-,h⟩:=ak h;refine Ik h (fun x a=>?_) fun p c=>hp p (by grind);rcases aI a with a | a
  ·rcases aI a with a | a
   ·grind
   simp_all
  grind
def partsOf (s:Sg):List (Nat×Operand)->Option (List (Nat×List LV))
 | [] =>some []
 | (i,x)::l=>(opd s x).bind fun v=>(nQ v).bind fun cs=>(partsOf s l).bind fun r=>some ((i,cs)::r)
theorem sn {P:Program} {w0:World} {s:Sg} {J:Hp} {θ:Th} (c:Fine P w0 J θ s): ∀ {l:List (Nat×Operand)} {ps:List (Nat×List LV)},partsOf s l=some ps->
  peq (l.map fun p=>(p.1,evL (envL θ s) p.2)) (ps.map fun p=>(p.1,p.2.map (·.v θ)))/\ ∀p∈ps,∀x∈p.2,x.ok P w0 J θ s.nxt
 | [],ps,h=>by cases ad (show some [] =some ps from h);exact ⟨trivial,fun p hp=>by cases hp⟩
 | (i,x)::l,ps,h=>by
  have ⟨v,b,h⟩:=bind_some (show (opd s x).bind _=some ps from h);have ⟨g,a,h⟩:=bind_some h;have ⟨r,e,h⟩:=bind_some h;cases ad h;have ⟨d,f⟩:=sn c e;have ⟨k,j⟩:=kX a (cg c b);refine ⟨⟨rfl,by grind[aK],d⟩,fun p hp=>?_⟩;grind
structure Lits (t:Ty) where
 xs:List t.den
 used:List Ent
 rest:List Ent
def YL (t:Ty):List (Nat×List LV)->Nat->Option (List t.den)
 | [],_=>some []
 | (i,cs)::l,j=>cz (Nat.beq i j) ((eM t cs).bind fun d=>cz d.2.isEmpty ((YL t l (j+1)).bind fun r=>some (d.1::r)))
def L5 (t:Ty):List (Nat×List LV)->Nat->List Ent->Option (Lits t)
 | [],_,chs=>some ⟨[],[],chs⟩
 | (i,cs)::l,j,chs=>cz (Nat.beq i j&&Nat.beq cs.length t.size) ((fe t cs chs).bind fun d=>cz d.cells.isEmpty ((L5 t l (j+1) d.rest).bind fun r=>some ⟨d.d::r.xs,d.used++r.used,r.rest⟩))
section
variable {P:Program} {w0:World} {J:Hp} {θ:Th} {n:Nat} {t:Ty}
theorem L6: ∀ {l:List (Nat×List LV)} {j:Nat} {xs:List t.den},YL t l j=some xs->(∀p∈l,∀x∈p.2,x.ok P w0 J θ n)->l.map (·.1)=(List.range' j l.length)/\xs.length=l.length/\(∀p∈l,p.2.length=t.size)/\ ∀p,p∈(l.map fun p=>p.2.map (·.v θ)).zip xs->t.rep.rd J p.1 p.2
 | [],j,xs,h,hc=>by cases ad (show some [] =some xs from h);simp_all
 | (i,cs)::l,j,xs,h,hc=>by
  have ⟨a,h⟩:=ak (show cz (Nat.beq i j) _=some xs from h);have ⟨d,k,h⟩:=bind_some h;have ⟨e,h⟩:=ak h;have ⟨r,m,h⟩:=bind_some h;cases ad h;have a:=ax a;subst a;have ⟨q,b,c⟩:=jH (J:=J) k (hc (i,cs) (by simp));rw[List.isEmpty_iff.1 e,List.append_nil] at b;subst b;have ⟨g,o,s,f⟩:=L6 m fun p hp=>hc p (by grind);refine ⟨by rw[List.map_cons,g];rfl,by grind,fun p hp=>?_,fun p hp=>?_⟩
  ·rcases aB hp with rfl | hp
   ·have:=Rep.rd_len _ c
    rw[List.length_map,t.rep_size] at this;omega
   grind
  ·rcases aB hp with rfl | hp
   ·exact c
   ·exact f p hp
theorem CB: ∀ {l:List (Nat×List LV)} {j:Nat} {chs:List Ent} {r:Lits t},L5 t l j chs=some r->chs.Perm (r.used++r.rest)
 | [],j,chs,r,h=>by cases ad (show some _=some r from h);rfl
 | (i,cs)::l,j,chs,r,h=>by
  have ⟨e,h⟩:=ak (show cz (Nat.beq i j&&Nat.beq cs.length t.size) _=some r from h);have ⟨d,a,h⟩:=bind_some h;have ⟨c,h⟩:=ak h;have ⟨q,b,h⟩:=bind_some h;cases ad h;rw[aH];exact (jl a).trans ((CB b).append_left _)
theorem Il: ∀ {l:List (Nat×List LV)} {j:Nat} {chs:List Ent} {r:Lits t},L5 t l j chs=some r->(∀p∈l,∀x∈p.2,x.ok P w0 J θ n)->l.map (·.1)=(List.range' j l.length)/\r.xs.length=l.length/\(∀p∈l,p.2.length=t.size)/\uC J (r.used.map (toCh P θ)) (H6 t.rep (l.map fun p=>p.2.map (·.v θ)) r.xs)
 | [],j,chs,r,h,hc=>by cases ad (show some _=some r from h);exact ⟨rfl,rfl,fun p hp=>(by cases hp),yo⟩
 | (i,cs)::l,j,chs,r,h,hc=>by
  have ⟨a,h⟩:=ak (show cz (Nat.beq i j&&Nat.beq cs.length t.size) _=some r from h);have ⟨d,k,h⟩:=bind_some h;have ⟨c,h⟩:=ak h;have ⟨q,f,h⟩:=bind_some h;cases ad h;rw[aj] at a;have o:=ax a.2;have a:=ax a.1;subst a;obtain ⟨-,u,b,m⟩:=mo (J:=J) (θ:=θ) k (hc (i,cs) (by simp));rw[List.isEmpty_iff.1 c,List.append_nil] at b;subst b;have ⟨g,s,v,e⟩:=Il f fun p hp=>hc p (by grind);refine ⟨by rw[List.map_cons,g];rfl,by grind,fun p hp=>?_,?_⟩
  ·grind
  ·rw[aX];exact uD m e
end
section
variable {P:Program} {w0:World} {I:Hp} {o:Oper} {ev:Operand->Value} {s:Sg}
def WV (ev:Operand->Value) (θ:Th):List (Nat×Operand)->List (Nat×List LV)->List (Value×List Value)
 | p::l,q::m=>(ev p.2,q.2.map (·.v θ))::WV ev θ l m
 | _,_=>[]
theorem Kh {θ:Th} : ∀ {l:List (Nat×Operand)} {ps:List (Nat×List LV)} {j:Nat},peq (l.map fun p=>(p.1,ev p.2)) (ps.map fun p=>(p.1,p.2.map (·.v θ)))->ps.map (·.1)=List.range' j ps.length->
  l.map (fun p=>(p.1,ev p.2))=((WV ev θ l ps).zipIdx j).map (fun p=>(p.2,p.1.1))/\(WV ev θ l ps).length=ps.length/\(WV ev θ l ps).map (·.2)=ps.map (fun p=>p.2.map (·.v θ))/\ ∀u∈WV ev θ l ps,u.1.cells=u.2.toArray/\ ∃p∈ps,u.2.length=p.2.length
 | [],[],j,_,_=>⟨rfl,rfl,rfl,fun u a=>by cases a⟩
 | (i,x)::l,(i',cs)::ps,j,h,hj=>by
  have ⟨g,m,h⟩:=(show i=i'/\(ev x).cells=(cs.map (·.v θ)).toArray/\peq _ _ from h);have d:i'=j:=by
   have:=congrArg (fun l:List Nat=>l.head?) hj
   simpa [List.range'] using this
  have b:ps.map (·.1)=List.range' (j+1) ps.length:=by
   have:=congrArg List.tail hj
   simpa [List.range'] using this
  have ⟨e,f,c,k⟩:=Kh h b;refine ⟨?_,by grind[WV],by show _::_=_::_;rw[c],fun u a=>?_⟩
  ·show (i,ev x)::_=(j,ev x)::_;grind
  ·rcases aB a with rfl | a
   ·simp_all
   grind
 | [],_::_,j,h,_=>h.elim
 | _::_,[],j,h,_=>h.elim
theorem YM {α:Type} {R:Rep α} {E:TypeId} {xs:List α} {rn:List Ch} {fact:Value->Prop} {gv:Value->List Ch} (h:OpT P I w0 o ev rn fact (fun v=>Ch.own (aA E R) [v] xs::gv v)):OpT P I w0 o ev rn (fun v=>fact v/\v.oneCell'=true) (fun v=>Ch.own (aA E R) [v] xs::gv v):=
 OpT.weak (OpT.hdk (fun v=>v) 0 (fun v=>rfl) h) (fun v hv=>⟨hv.1,Hd.one hv.2⟩) fun v hv=>rfl
theorem good_row {rs ns rest:List Ent} {E:TypeId} {t:Ty} {xs:List t.den} (hp:s.chs.Perm (rs++ns++rest)) (a: ∀J θ,Fine P w0 J θ s->OpT P J w0 o (evL (envL θ s)) ((rs++ns).map (toCh P θ)) (fun _=>True) (fun v=>Ch.own (Ty.sl E t).rep [v] xs::rs.map (toCh P θ))):Good P w0 s o ⟨rs,ns,rest,[(⟨s.nxt,[]⟩,.own (.sl E t) xs)],.one (.own ⟨s.nxt,[]⟩)⟩:=
 ⟨hp,a7 rfl,fun J θ d=>by
  have h:=YM (a J θ d);have c:OpT P J w0 o (evL (envL θ s)) ((rs++ns).map (toCh P θ)) (fun v=>True/\v.oneCell'=true) (fun v=>rs.map (toCh P θ)++ [Ch.own (Ty.sl E t).rep [v] xs]):=
   fun w C f=>(h w C f).imp fun v w hv=>⟨hv.1,hv.2.perm (List.Perm.append_right C (List.perm_append_comm (l₁:=[_])))⟩
  refine OpT.weak c (fun v b=>⟨⟨aJ _,by grind[fE]⟩,fE,fun g e=>?_⟩) (fun v b=>?_)
  ·cases aq e;exact ⟨aJ _,aJ _,trivial⟩
  ·show _=_++ [Ch.own _ [hv (upd θ s.nxt v) ⟨s.nxt,[]⟩] _];rw[fE]⟩
end
section
variable {Y:Type} (tt:TT) (an:List (Nat×Ty)) (s:Sg) (k:Res->Option Y)
def WW (T:TypeId) (parts:Array (Nat×Operand)):Option Y:=(td tt T).bind fun d=>d.place.bind fun pl=>d.bytes.bind fun _=>(partsOf s parts.toList).bind fun ps=>(Ud pl ((zeroCells d.ty).map .val) ps).bind fun r=>k (.pure s (.agg r))
def aeU:List (Nat×Ty)->Nat->Ty->Ty
 | [],_,t=>t
 | (u,t')::l,d,t=>if Nat.beq u d then t' else aeU l d t
def TE (d:Option Nat) (t:Ty):Ty:=match d with
 | none=>t
 | some d=>aeU an d t
def newRow (E:TypeId) (t:Ty) (ns rest:List Ent) (xs:List t.den):Option Y:=k ⟨[],ns,rest,[(⟨s.nxt,[]⟩,.own (.sl E t) xs)],.one (.own ⟨s.nxt,[]⟩)⟩
def adR (E : TypeId) (n : Nat) (t : Ty) (m : Nat) (l : List (Nat × Operand)) : Option Y := (partsOf s l).bind fun ps => cz (Nat.beq ps.length (m + 1) && Nat.beq t.size n && Nat.ble ((m + 1) * n) 16777216) (match t.sh with
    | true => (YL t ps 0).bind fun xs => newRow s k E t [] s.chs xs
    | false => (L5 t ps 0 s.chs).bind fun r => newRow s k E t r.used r.rest r.xs)
def aeV (dst:Option Nat) (T:TypeId) (m:Nat) (parts:Array (Nat×Operand)):Option Y:=(td tt T).bind fun d=>d.el.bind fun E=>(td tt E).bind fun e=>match m with
 | 0=>cz parts.toList.isEmpty (newRow s k E (TE an dst e.ty) [] s.chs [])
 | m+1=>e.bytes.bind fun _=>adR s k E e.n (TE an dst e.ty) m parts.toList
def Ki:Operand->Operand->Bool
 | .tmp t,.tmp u=>Nat.beq t u
 | .const (.int .i64 m),.const (.int .i64 n)=>match m,n with
  | .ofNat a,.ofNat b=>Nat.beq a b
  | _,_=>false
 | _,_=>false
def abo (dst:Option Nat) (T:TypeId) (x y:Operand):Option Y:=(td tt T).bind fun d=>d.el.bind fun E=>(td tt E).bind fun e=>e.bytes.bind fun b=>match opd s x with
 | some (.one (.val (.int .i64 l)))=>cz (Ki x y&&Nat.beq e.ty.size e.n&&decide ((TE an dst e.ty).erase=e.ty.erase)) ((mkI b l (Gq (TE an dst e.ty))).bind fun xs=>newRow s k E (TE an dst e.ty) [] s.chs xs)
 | _=>none
end
section
variable {Y:Type} {tt:TT} {an:List (Nat×Ty)} {s:Sg} {k:Res->Option Y} {P:Program} {w0:World} {o:Oper} {res:Y} {x y:Operand}
theorem PY (w:TTok P tt) {T:TypeId} {parts:Array (Nat×Operand)} (v:o.op= .build T parts) (h:WW tt s k T parts=some res):Oks P w0 s o k res:=by
 have ⟨d,B,h⟩:=bind_some h;have ⟨A,f,h⟩:=bind_some h;have ⟨b,p,h⟩:=bind_some h;have ⟨C,c,h⟩:=bind_some h;have ⟨r,n,h⟩:=bind_some h;have a:=w.get B;obtain ⟨z,i,g,-⟩:=a.zero b p;refine ⟨_,h,ga (fun J θ e=>?_) fun J θ e=>?_⟩
 ·have ⟨l,j⟩:=sn e c;have m:=L4 (θ:=θ) n;rw[List.map_map,show (zeroCells d.ty).map ((fun x:LV=>x.v θ) ∘ LV.val)=zeroCells d.ty from List.map_id' _] at m;exact Ps _ (a.place A f) i g v l m
 ·have ⟨l,j⟩:=sn e c;exact Ik n (fun x t=>by
   obtain ⟨u,q,rfl⟩:=List.mem_map.1 t;exact LW _ u q) j
theorem YN (N:TTok P tt) {T:TypeId} {m:Nat} {parts:Array (Nat×Operand)} (C:o.op= .buildSlice T m parts) (h:aeV tt an s k o.dst T m parts=some res):Oks P w0 s o k res:=by
 have ⟨d,W,h⟩:=bind_some h;have ⟨E,G,h⟩:=bind_some h;have ⟨e,S,h⟩:=bind_some h;have f:=N.get W;have l:=N.get S;cases m with
 | zero =>
  have ⟨hp,h⟩:=ak (show cz parts.toList.isEmpty _=some res from h);have L:parts= #[]:=by simpa using hp
  subst L;exact ⟨_,h,good_row (rs:=[]) (by simp) fun J θ n=>TN (f.el E G) l.ti C⟩
 | succ m =>
  have ⟨b,U,h⟩:=bind_some (show e.bytes.bind _=some res from h);have ⟨O,g,h⟩:=bind_some h;have ⟨p,h⟩:=ak h;rw[aj,aj] at p;have a:=ax p.1.1;have c:=ax p.1.2;have j:=bB p.2;obtain ⟨z,i,V,-⟩:=l.zero b U;have M:0<e.n:=by rw[<-c];exact Ty.size_pos _
  split at h
  ·rename_i q;have ⟨X,t,h⟩:=bind_some h;refine ⟨_,h,good_row (rs:=[]) (by simp) fun J θ n=>?_⟩;have ⟨K,v⟩:=sn n g;have ⟨w,B,Z,H⟩:=L6 (J:=J) t v;have ⟨D,I,Q,F⟩:=Kh K w;exact J4 (WV (evL (envL θ s)) θ parts.toList O) X (Ty.cpy q) (by grind) (f.el E G) i M ((Ty.rep_size _).trans c) (Nat.succ_pos _) j C D (I.trans a) (B.trans a) fun u A=>⟨(F u A).1,by
    grind⟩
  ·have ⟨r,R,h⟩:=bind_some h;refine ⟨_,h,good_row (rs:=[]) (CB R) fun J θ n=>?_⟩;have ⟨K,v⟩:=sn n g;have ⟨w,B,Z,H⟩:=Il (J:=J) R v;have ⟨D,I,Q,F⟩:=Kh K w;rw[<-Q] at H;exact OpT.pre H rfl (Pn (WV (evL (envL θ s)) θ parts.toList O) r.xs (f.el E G) i M ((Ty.rep_size _).trans c) (Nat.succ_pos _) j C D (I.trans a) (B.trans a) fun u A=>⟨(F u A).1,by
    grind⟩)
theorem NU {x y:Operand} (h:Ki x y=true):x=y:=by
 unfold Ki at h;split at h
 ·simp_all
 ·split at h
  ·simp_all
  grind
 grind
theorem Ue (p:TTok P tt) {T:TypeId} (v:o.op= .makeSlice T x y) (h:abo tt an s k o.dst T x y=some res):Oks P w0 s o k res:=by
 have ⟨d,C,h⟩:=bind_some h;have ⟨E,w,h⟩:=bind_some h;have ⟨e,t,h⟩:=bind_some h;have ⟨b,u,h⟩:=bind_some h;have g:=p.get C;have j:=p.get t;split at h
 ·rename_i l n;have ⟨q,h⟩:=ak h;rw[aj,aj] at q;have ⟨⟨a,c⟩,B⟩:=q;have ⟨G,f,h⟩:=bind_some h;have a:=NU a;have c:=ax c;have ⟨z,i,A,m⟩:=j.zero b u;have F:z.cells.toList=zeroCells (TE an o.dst e.ty):=by grind[nP,TE]
  have r:(TE an o.dst e.ty).size=e.n:=by grind[BZ,nP]
  refine ⟨_,h,good_row (rs:=[]) (by simp) fun J θ D=>?_⟩;exact abe (by grind[BY]) (g.el E w) i v ((Ty.rep_size _).trans r) (by grind[Ty.size_pos]) m (aK n) (by rw[<-a];exact aK n) f
 grind
end
section
variable {Y:Type} (tt:TT) (an:List (Nat×Ty)) (s:Sg) (k:Res->Option Y)
def adi (E:TypeId) (b:Nat) (t:Ty) (xs:List t.den) (nsx rest:List Ent) (y:AV):Option Y:=match y with
 | .one (.own h)=>(rowOf h rest).bind fun r=>(qV (.sl r.E r.t) (.sl E t) r.xs).bind fun ys=>(bC b xs ys).bind fun zs=>match t.sh with
  | true=>k ⟨[r.ent h],nsx,r.rest,[(⟨s.nxt,[]⟩,.own (.sl E t) zs)],.one (.own ⟨s.nxt,[]⟩)⟩
  | false=>k ⟨[],nsx++ [r.ent h],r.rest,[(⟨s.nxt,[]⟩,.own (.sl E t) zs)],.one (.own ⟨s.nxt,[]⟩)⟩
 | .one (.rd h t' d)=>cz t.sh ((oK t' (.sl E t) d).bind fun ys=>(bC b xs ys).bind fun zs=>k ⟨[],nsx,rest,[(⟨s.nxt,[]⟩,.own (.sl E t) zs)],.one (.own ⟨s.nxt,[]⟩)⟩)
 | .one (.rdn h _ t' d)=>cz t.sh ((oK t' (.sl E t) d).bind fun ys=>(bC b xs ys).bind fun zs=>k ⟨[],nsx,rest,[(⟨s.nxt,[]⟩,.own (.sl E t) zs)],.one (.own ⟨s.nxt,[]⟩)⟩)
 | _=>none
def abp (y:AV) (t:Ty):Ty:=match y with
 | .one (.own h)=>match rowOf h s.chs with
  | some r=>r.t
  | none=>t
 | _=>t
def aeW (dst:Option Nat) (T:TypeId) (x y:Operand):Option Y:=(td tt T).bind fun d=>d.el.bind fun E=>(td tt E).bind fun e=>e.bytes.bind fun b=>(opd s y).bind fun yv=>match opd s x with
 | some (.one (.own h))=>(rowOf h s.chs).bind fun r=>cz (Nat.beq r.E E&&Nat.beq r.t.size e.n) (adi s k r.E b r.t r.xs [r.ent h] r.rest yv)
 | some (.one (.val v))=>cz (isNil v&&Nat.beq (abp s yv (TE an dst e.ty)).size e.n) (adi s k E b (abp s yv (TE an dst e.ty)) [] [] s.chs yv)
 | _=>none
end
section
variable {Y:Type} {tt:TT} {an:List (Nat×Ty)} {s:Sg} {k:Res->Option Y} {P:Program} {w0:World} {o:Oper} {res:Y} {x y:Operand}
theorem OpT.nilrow {I:Hp} {ev:Operand->Value} {α:Type} {E:TypeId} {R:Rep α} {rn:List Ch} {fact:Value->Prop} {gv:Value->List Ch} (h:OpT P I w0 o ev (Ch.own (aA E R) [.slice none 0 0] ([] :List α)::rn) fact gv):OpT P I w0 o ev rn fact gv:=fun w C a=>h w C a.nil
theorem OpT.permN {I:Hp} {ev:Operand->Value} {rn a:List Ch} {fact:Value->Prop} {gv:Value->List Ch} (hp:a.Perm rn) (h:OpT P I w0 o ev rn fact gv):OpT P I w0 o ev a fact gv:=fun w C b=>h w C (b.perm (hp.append_right C))
theorem Fa {r:Row} {E:TypeId} {t:Ty} {ys:List t.den} {h:Hdr} (b:qV (.sl r.E r.t) (.sl E t) r.xs=some ys):r.ent h=(h,r.ver,.own (.sl E t) ys):=by
 have ⟨e,a⟩:=si b;obtain ⟨rfl,rfl⟩:=Ty.sl.inj e;rw[a];rfl
theorem PZ {T E:TypeId} {z:Value} {n b:Nat} {t:Ty} {xs:List t.den} {nsx rest:List Ent} {G:AV} (hp:s.chs.Perm (nsx++rest)) (A:P.underlying T=some (.slice E)) (B:TZ P E z n b) (i:z.cells.size=n) (u:0<n) (m:t.size=n) (j:1<=b) (w:o.op= .call { callee:=.builtin .append,args:= #[x,y],argTypes:= #[T,T] }) (p:opd s y=some G)
  (e: ∀J θ,Fine P w0 J θ s-> ∃v,evL (envL θ s) x=v/\ ∀(rn:List Ch) (fact:Value->Prop) (F:Value->List Ch),OpT P J w0 o (evL (envL θ s)) (Ch.own (aA E t.rep) [v] xs::rn) fact F->OpT P J w0 o (evL (envL θ s)) (nsx.map (toCh P θ)++rn) fact F)
  (h:adi s k E b t xs nsx rest G=some res):Oks P w0 s o k res:=by
 unfold adi at h;split at h
 ·rename_i K;have ⟨r,L,h⟩:=bind_some h;have ⟨D,f,h⟩:=bind_some h;have ⟨H,a,h⟩:=bind_some h;obtain ⟨q,-⟩:=cO L;have C:=Fa (h:=K) f;split at h
  ·rename_i d;refine ⟨_,h,good_row (hp.trans ((q.append_left nsx).trans List.perm_middle)) fun J θ g=>?_⟩;have ⟨v,c,e⟩:=e J θ g;rw[C]
   have:=H8 (P:=P) (I:=J) (w0:=w0) (R:=t.rep) a (Ty.sh_ok d) (Ty.cpy d) A B i u (t.rep_size.trans m) j w c (aK (θ:=θ) p)
   exact OpT.permN (List.perm_append_comm (l₁:=[_])) (e _ _ _ this)
  ·refine ⟨_,h,good_row (rs:=[]) (by
    have:=hp.trans (q.append_left nsx)
    grind) fun J θ g=>?_⟩
   have ⟨v,c,e⟩:=e J θ g;rw[C]
   have:=Yj (P:=P) (I:=J) (w0:=w0) (R:=t.rep) a A B i u (t.rep_size.trans m) j w c (aK (θ:=θ) p)
   have:=e _ _ _ this
   rw[List.nil_append,aX];exact this
 ·have ⟨d,h⟩:=ak h;have ⟨D,f,h⟩:=bind_some h;have ⟨H,a,h⟩:=bind_some h;refine ⟨_,h,good_row (rs:=[]) hp fun J θ g=>?_⟩;have ⟨v,c,e⟩:=e J θ g;have l:=jF f (cg g p).2
  have:=xp (P:=P) (I:=J) (w0:=w0) (R:=t.rep) (S:=t.rep) (E':=E) a (Ty.cpy d) (t.rep_size.trans m) l A B i u (t.rep_size.trans m) j w c (aK (θ:=θ) p)
  have:=e _ _ _ this
  rw[List.append_nil] at this;exact this
 ·have ⟨d,h⟩:=ak h;have ⟨D,f,h⟩:=bind_some h;have ⟨H,a,h⟩:=bind_some h;refine ⟨_,h,good_row (rs:=[]) hp fun J θ g=>?_⟩;have ⟨v,c,e⟩:=e J θ g;have l:=jF f (cg g p).2.1
  have:=xp (P:=P) (I:=J) (w0:=w0) (R:=t.rep) (S:=t.rep) (E':=E) a (Ty.cpy d) (t.rep_size.trans m) l A B i u (t.rep_size.trans m) j w c (aK (θ:=θ) p)
  have:=e _ _ _ this
  rw[List.append_nil] at this;exact this
 grind
theorem YO (t:TTok P tt) {T:TypeId} (q:o.op= .call { callee:=.builtin .append,args:= #[x,y],argTypes:= #[T,T] }) (h:aeW tt an s k o.dst T x y=some res):Oks P w0 s o k res:=by
 have ⟨d,F,h⟩:=bind_some h;have ⟨E,u,h⟩:=bind_some h;have ⟨e,B,h⟩:=bind_some h;have ⟨b,C,h⟩:=bind_some h;have ⟨I,w,h⟩:=bind_some h;have g:=t.get F;have j:=t.get B;have ⟨z,p,n,l⟩:=j.zero b C;have i:z.cells.size=e.n:=by rw[n,List.size_toArray,BZ,j.sz]
 split at h
 ·rename_i G m;have ⟨r,H,h⟩:=bind_some h;have ⟨f,h⟩:=ak h;rw[aj] at f;have c:=ax f.1;have a:=ax f.2;obtain ⟨hp,-⟩:=cO H;exact PZ (nsx:=[r.ent G]) hp ((g.el E u).trans (by rw[c])) (by grind) i (by grind[Ty.size_pos]) a l q w (fun J θ A=>⟨_,aK m,fun rn fact D h=>h⟩) h
 ·rename_i v m;have ⟨f,h⟩:=ak h;rw[aj] at f;have c:=pB f.1;have a:=ax f.2;refine PZ (nsx:=[]) (List.Perm.refl _) (g.el E u) p i (by grind[Ty.size_pos]) a l q w (fun J θ A=>⟨_,aK m,fun rn fact D h=>?_⟩) h;rw[show (AV.one (LV.val v)).v θ= .slice none 0 0 from c] at h;exact OpT.nilrow h
 grind
end
structure Hol where
 ver:Nat
 over:Nat
 t:Ty
 d:t.den
 u:Ty
 y:u.den
 f:u.den->t.den
 i:Int
 k:Nat
 off:Nat
 lv:LV
 rest:List Ent
def Kj (h:Hdr) (chs:List Ent):Option Hol:=(pull h chs).bind fun r=>match r.1.2.2 with
 | .hole over t d u y f i k off lv=>some ⟨r.1.2.1,over,t,d,u,y,f,i,k,off,lv,r.2⟩
 | _=>none
def Hol.ent (r:Hol) (h:Hdr):Ent:=(h,r.ver,.hole r.over r.t r.d r.u r.y r.f r.i r.k r.off r.lv)
theorem B1 {h:Hdr} {chs:List Ent} {r:Hol} (e:Kj h chs=some r):chs.Perm (r.ent h::r.rest):=by
 have ⟨q,g,e⟩:=bind_some e;have ⟨p,k⟩:=hY g;have ⟨⟨b,a,c⟩,rest⟩:=q;obtain rfl:b=h:=k;cases c with
 | hole over t d u y f i k off j =>
  cases ad (show some _=some r from e);exact p
 | _=>cases e
def partOf (r:Hol):Option (Bool×r.u.den×List Ent):=match r.lv with
 | .own l=>(pull l r.rest).bind fun q=>match q.1.2.2 with
  | .own u' d=>(qV u' r.u d).bind fun d=>some (Nat.beq q.1.2.1 r.ver,d,q.2)
  | _=>none
 | _=>none
theorem Im {r:Hol} {q:Bool×r.u.den×List Ent} (h:partOf r=some q): ∃l a,r.lv= .own l/\r.rest.Perm ((l,a,.own r.u q.2.1)::q.2.2)/\(q.1=true->a=r.ver):=by
 have ⟨a,over,t,d,u,y,f,i,k,off,b,rest⟩:=r;cases b with
 | own l =>
  have ⟨e,c,h⟩:=bind_some (show (pull l rest).bind _=some q from h);grind[hY,bind_some,qV,bind,ad,si,ax]
 | _=>cases h
def Kk (h:Hdr) (s:Sg):Option Sg:=(Kj h s.chs).bind fun r=>(partOf r).bind fun q=>match q.1 with
 | true=>some ⟨s.env,(h,r.over,.own r.t r.d)::q.2.2,s.nxt+1⟩
 | false=>some ⟨s.env,(h,s.nxt,.own r.t (r.f q.2.1))::q.2.2,s.nxt+1⟩
section
variable {P:Program} {I J:Hp} {w0 w:World} {F:Ch} {n:Nat} {θ:Th} {s s':Sg} {a:Act} {o:Oper}
theorem Sim.chs (c:Sim P I w0 F n J θ s a w) {b:List Ent} (d:St J w0 w (b.map (toCh P θ)++ [F])) (h:Newer s.nxt s.chs b) (g: ∀e∈b,okE P w0 J θ (s.nxt+1) b e):Sim P I w0 F n J θ ⟨s.env,b,s.nxt+1⟩ a w:=
 ⟨c.le,c.agr,d,fun e f=>AV.ok_same Same.rfl (Nat.le_succ _) h (c.fine.env e f) Hp.le.rfl,fun e f=>be (c.fine.ver e f),c.fine.nd,g,c.fine.lay⟩
theorem NV {h:Hdr} (hs:Kk h s=some s') (m:Sim P I w0 F n J θ s a w):Sim P I w0 F n J θ s' a w:=by
 have ⟨r,H,hs⟩:=bind_some hs;have ⟨q,D,hs⟩:=bind_some hs;have hp:=B1 H;have ⟨l,u,A,x,B⟩:=Im D;have k:=hp.trans (x.cons _);have g:=m.fine.chs (r.ent h) (hp.mem_iff.2 (by simp));have j:St J w0 w (Ch.own r.t.rep [hv θ h] (r.f q.2.1)::(q.2.2.map (toCh P θ)++ [F])):=by
  have E:=m.st.perm ((k.map (toCh P θ)).append_right [F]);have z:St J w0 w (Ch.own r.u.rep [hv θ l] q.2.1::Ch.gap r.t.rep [hv θ h] r.u.rep r.f (ptB (hv θ h)) (ptO (hv θ h)+(r.i.toNat*r.k+r.off)) (r.lv.v θ)::(q.2.2.map (toCh P θ)++ [F])):=E.perm (List.Perm.swap _ _ _);rw[A] at z;exact St.settle z
 have i: ∀e,e∈q.2.2->e∈s.chs:=fun e f=>k.mem_iff.2 (by grind);cases v:q.1 with
 | true =>
  rw[v] at hs;cases ad (show some _=some s' from hs);have p:=B v;have G:q.2.1=r.y:=by
   have:=(g.2.2.2.2.2 l A).2 (l,u,.own r.u q.2.1) (k.mem_iff.2 (by simp)) _ ⟨rfl,.inl ⟨p,rfl⟩⟩
   injection this with _ K
  have y:r.f q.2.1=r.d:=by rw[G];exact g.2.2.2.2.1
  rw[y] at j;have d:Newer s.nxt s.chs ((h,r.over,.own r.t r.d)::q.2.2):=fun e f C t c b=>by
   rcases aB f with rfl | f
   ·obtain ⟨rfl,b⟩:=b;rcases b with ⟨rfl,rfl⟩ | b
    ·exact .inr ⟨r.ent h,hp.mem_iff.2 (by simp),rfl,.inr ⟨rfl,rfl⟩⟩
    ·exact b.elim
   grind
  refine m.chs j d fun e f=>?_;rcases aB f with rfl | f
  ·exact ⟨be g.1,be (Nat.lt_trans g.2.2.2.1 g.2.1),trivial⟩
  ·exact iy Same.rfl (Nat.le_succ _) d (m.fine.chs e (i e f)) Hp.le.rfl
 | false =>
  rw[v] at hs;cases ad (show some _=some s' from hs);have d:Newer s.nxt s.chs ((h,s.nxt,.own r.t (r.f q.2.1))::q.2.2):=fun e f C t c b=>by
   rcases aB f with rfl | f
   ·obtain ⟨rfl,b⟩:=b;rcases b with ⟨rfl,rfl⟩ | b
    ·grind
    ·exact b.elim
   grind
  refine m.chs j d fun e f=>?_;rcases aB f with rfl | f
  ·exact ⟨be g.1,aJ _,trivial⟩
  ·exact iy Same.rfl (Nat.le_succ _) d (m.fine.chs e (i e f)) Hp.le.rfl
def settle:Nat->Hdr->Sg->Sg
 | 0,_,s=>s
 | m+1,h,s=>match Kj h s.chs with
  | some r=>match r.lv with
   | .own l=>match Kk h (settle m l s) with
    | some s'=>s'
    | none=>s
   | _=>s
  | none=>s
theorem CC: ∀ {m:Nat} {h:Hdr} {s:Sg},Sim P I w0 F n J θ s a w->Sim P I w0 F n J θ (settle m h s) a w
 | 0,_,_,hS=>hS
 | m+1,h,s,hS=>by
  unfold settle;split
  ·split
   ·split
    ·rename_i b;exact NV b (CC hS)
    omega
   omega
  omega
end
section
variable {Y:Type} (tt:TT) (s:Sg) (k:Res->Option Y)
def P0 (T:TypeId) (x y:Operand):Option Y:=(td tt T).bind fun d=>match opd s x,opd s y with
 | some (.elo h ver E t xs a i off),some (.one lv)=>(Kj h s.chs).bind fun r=>cz (Nat.beq r.k t.size&&Nat.beq r.off off && !d.agg&&Nat.beq d.n 1&&(match lv with | .own l=> !(Hdr.beq l h) | _=>true)) ((chk (i=r.i)).bind fun _=>k ⟨[],[r.ent h],r.rest,[(h,.hole r.over r.t r.d r.u r.y r.f r.i r.k r.off lv)],.any ⟨s.nxt,[]⟩⟩)
 | _,_=>none
end
theorem Gz (h:Hdr):Hdr.beq h h=true:=by grind[Hdr.beq,Nat.beq_refl,Cs]
section
variable {Y:Type} {tt:TT} {s:Sg} {k:Res->Option Y} {P:Program} {w0:World} {o:Oper} {res:Y} {x y:Operand}
theorem NW (hT:TTok P tt) {T:TypeId} (Z:o.op= .store T x y) (h:P0 tt s k T x y=some res):Oks P w0 s o k res:=by
 have ⟨d,hd,h⟩:=bind_some h;split at h
 ·rename_i b W E t xs a i off N hx U;have ⟨r,hr,h⟩:=bind_some h;have ⟨Q,h⟩:=ak h;rw[aj,aj,aj,aj] at Q;have ⟨⟨⟨⟨n,m⟩,w⟩,q⟩,hc5⟩:=Q;have ⟨u,L,h⟩:=bind_some h;have L:=cG L;have n:=ax n;have m:=ax m;have w:d.agg=false:=by simpa using w
  have q:=ax q;have hp:=B1 hr;have B:=(hT.get hd).ti;rw[w,q] at B;refine ⟨_,h,Gy hp,fun J θ D g C O c F=>?_,fun J θ D=>?_⟩
  ·cases aq C;exact ⟨r.ent b,hp.mem_iff.2 (by simp),rfl,.inr F⟩
  ·have j:=nL D hp;have p:=cg D U;have G:evL (envL θ s) x= .pointer (some ⟨ptB (hv θ b),ptO (hv θ b)+(r.i.toNat*r.k+r.off),none⟩):=by
    rw[aK (θ:=θ) hx,n,m,<-L];rfl
   have X: ∀u,hv (upd θ s.nxt u) b=hv θ b:=fun u=>bh Same.upd j.1
   have:=Gx (P:=P) (I:=J) (w0:=w0) (R:=r.t.rep) (S:=r.u.rep) (cs:=[hv θ b]) (f:=r.f) (v:=r.lv.v θ) B Z G (aK (θ:=θ) U) (LV.one p)
   refine OpT.weak this (fun v M=>⟨aJ _,fE,fun g C=>?_⟩) (fun v M=>?_)
   ·cases aq C;refine ⟨be j.1,aJ _,LV.ok_same Same.upd (Nat.le_succ _) p Hp.le.rfl,Nat.lt_trans j.2.2.2.1 j.2.1,j.2.2.2.2.1,fun l hl=>?_⟩;have H:l≠b:=fun e=>by
     grind[Hdr.beq,Gz]
    refine ⟨aJ _,fun e A c F=>?_⟩;rcases aI A with A | A
    ·obtain ⟨g,C,rfl⟩:=List.mem_map.1 A;cases aq C;exact absurd F.1.symm H
    ·have A:e∈s.chs:=hp.mem_iff.2 (br _ (by grind));have z:=D.chs e A;have ⟨h',v',V⟩:=e;rcases F.2 with ⟨K,h2⟩ | K
     ·have:=z.2.1
      grind
     ·cases V with
      | hole over _ _ _ _ _ _ _ _ _ =>
       have:=Nat.lt_trans z.2.2.2.1 z.2.1
       rw[K.1] at this;grind
      | _=>exact K.elim
   ·show [Ch.gap _ [hv θ b] _ _ (ptB (hv θ b)) (ptO (hv θ b)+_) (N.v θ)] = [Ch.gap _ [hv (upd θ s.nxt v) b] _ _ (ptB (hv (upd θ s.nxt v) b)) (ptO (hv (upd θ s.nxt v) b)+_) (N.v (upd θ s.nxt v))];rw[X,LV.v_same Same.upd p]
 grind
end
inductive PM
 | rd (t:Ty)
 | ow (t:Ty)
 | fn (ps rs:List Ty)
 | cap (T:TypeId) (t:Ty)
 | capf (T:TypeId) (ps rs:List Ty)
 | ptr (T:TypeId) (t:Ty)
 | eat (t:Ty)
 | fk (g:Nat)
 | crs (T:TypeId) (E:TypeId)
 deriving DecidableEq
def PM.den:PM->Type
 | .rd t=>t.den
 | .ow t=>t.den
 | .fn ps rs=>cur ps (Option (dens rs))
 | .cap _ t=>t.den
 | .capf _ ps rs=>cur ps (Option (dens rs))
 | .ptr _ t=>t.den
 | .eat t=>t.den
 | .fk _=>Unit
 | .crs _ _=>List Int×Int×Int
def denP:List PM->Type
 | [] =>Unit
 | p::ps=>p.den×denP ps
def curP:List PM->Type->Type
 | [],R=>R
 | p::ps,R=>p.den->curP ps R
def appP {R:Type} :(ps:List PM)->curP ps R->denP ps->R
 | [],f,_=>f
 | _::ps,f,d=>appP ps (f d.1) d.2
def PM.out:PM->List Ty
 | .ow t=>[t]
 | .ptr _ t=>[t]
 | .crs _ _=>[.prod (.int .i64) (.int .i64)]
 | _=>[]
def outs:List PM->List Ty
 | [] =>[]
 | p::ps=>match p with
  | .ow t=>t::outs ps
  | .ptr _ t=>t::outs ps
  | .crs _ _=>.prod (.int .i64) (.int .i64)::outs ps
  | _=>outs ps
def hFst:(ts us:List Ty)->lE (ts++us)->lE ts
 | [],_,_=>()
 | _::ts,us,d=>(d.1,hFst ts us d.2)
def hSnd:(ts us:List Ty)->lE (ts++us)->lE us
 | [],_,d=>d
 | _::ts,us,d=>hSnd ts us d.2
structure FS where
 ps:List PM
 rs:List Ty
 m:curP ps (Option (dens (rs++outs ps)))
 cl:Option (TypeId×Nat)
theorem abq:JW.Dp:=Cp
def Ab (P:Program) (k:FuncId) (E b:Nat):Prop:=Enters P k/\ ∀(E':TypeId) (I:Hp) (w0:World) (v:Value) (xs zs:List Raw),Lay P I->(aA E' JW).rd I [v] xs->bC b [] xs=some zs->Con P k #[v] I w0 [] (fun _=>True) (fun r=>[Ch.own (aA E JW) [r] zs])
abbrev FT:=List (Nat×FS)
def fs (ft:FT) (k:Nat):Option FS:=match ft with
 | [] =>none
 | (j,f)::l=>if Nat.beq j k then some f else fs l k
def adS (P:Program) (w0:World) (J:Hp) (γ:Value):(p:PM)->Value->p.den->Prop
 | .rd t,v,d=> ∃cs,Lds t.isProd cs v/\t.rep.rd J cs d
 | .ow t,v,_=>p9 v=t.isProd
 | .fn a b,v,d=>FnOk P w0 J v a b d
 | .cap T t,v,d=> ∃b,v= .pointer (some ⟨b,0,none⟩)/\ ∃cells:List Value,J b=some (.cells cells.toArray T (0,0))/\t.rep.rd J cells d
 | .capf T x y,v,d=> ∃b,v= .pointer (some ⟨b,0,none⟩)/\ ∃u:Value,J b=some (.cells [u].toArray T (0,0))/\FnOk P w0 J u x y d
 | .ptr T t,v,_=> ∃b,v= .pointer (some ⟨b,0,none⟩)
 | .eat t,v,_=>p9 v=t.isProd
 | .fk g,v,_=>v= .func (.func g) #[] #[]
 | .crs _ E,v,d=>(∃b,v= .pointer (some ⟨b,0,none⟩))/\(Ty.sl E (.int .u8)).rep.rd J [γ] d.1
def PArgs (P:Program) (w0:World) (J:Hp) (γ:Value):(ps:List PM)->List Value->denP ps->Prop
 | [],vs,_=>vs= []
 | p::ps,vs,d=> ∃v r,vs=v::r/\adS P w0 J γ p v d.1/\PArgs P w0 J γ ps r d.2
def owCh (γ:Value):(ps:List PM)->List Value->denP ps->List Ch
 | p::ps,v::vs,d=>match p,d with
  | .ow t,d=>Ch.own t.rep (mD t.isProd v) d.1::owCh γ ps vs d.2
  | .ptr T t,d=>Ch.box (bk v) T t.rep d.1::owCh γ ps vs d.2
  | .eat t,d=>Ch.own t.rep (mD t.isProd v) d.1::owCh γ ps vs d.2
  | .rd _,d=>owCh γ ps vs d.2
  | .fn _ _,d=>owCh γ ps vs d.2
  | .cap _ _,d=>owCh γ ps vs d.2
  | .capf _ _ _,d=>owCh γ ps vs d.2
  | .fk _,d=>owCh γ ps vs d.2
  | .crs T _,d=>Ch.blk (bk v) [γ,.int .i64 d.1.2.1,.int .i64 d.1.2.2] T::owCh γ ps vs d.2
 | _,_,_=>[]
def outCh (γ:Value):(ps:List PM)->List Value->lE (outs ps)->List Ch
 | p::ps,v::vs,d=>match p,d with
  | .ow t,d=>Ch.own t.rep (mD t.isProd v) d.1::outCh γ ps vs d.2
  | .ptr T t,d=>Ch.box (bk v) T t.rep d.1::outCh γ ps vs d.2
  | .eat _,d=>outCh γ ps vs d
  | .rd _,d=>outCh γ ps vs d
  | .fn _ _,d=>outCh γ ps vs d
  | .cap _ _,d=>outCh γ ps vs d
  | .capf _ _ _,d=>outCh γ ps vs d
  | .fk _,d=>outCh γ ps vs d
  | .crs T _,d=>Ch.blk (bk v) [γ,.int .i64 d.1.1,.int .i64 d.1.2] T::outCh γ ps vs d.2
 | _,_,_=>[]
def afy (P:Program) (k:FuncId):Prop:= ∀(w:World) (g h oa ob la lb ca cb:Nat) (curA curB:Array Value) (tA tB:TypeId),g≠h->w.heap[g]? =some (.cells curA tA (0,0))->w.heap[h]? =some (.cells curB tB (0,0))->0<curB.size->(callFunc k #[.slice (some ⟨g,oa,none⟩) la ca,.slice (some ⟨h,ob,none⟩) lb cb]).run P w= .ok (.value (.bool false)) w
def adT (P:Program) (k:FuncId) (T f:Nat):Prop:=Enters P k/\ ∀(I:Hp) (w0:World) (c d:List Value),Con P k #[.agg c.toArray,.agg d.toArray] I w0 []
 (fun v=> ∃b1 b2,v= .func (.func f) #[] #[.pointer (some ⟨b1,0,none⟩),.pointer (some ⟨b2,0,none⟩)]) (fun v=>[Ch.emp,Ch.blk (bk (vg v [0])) c T,Ch.blk (bk (vg v [1])) d T])
def FS.ov (f:FS):Bool:=match f.cl with
 | some q=>Nat.beq q.2 0 || Nat.beq q.2 9
 | none=>false
def ClOk (P:Program) (k:FuncId) (E b:Nat):Prop:=(Nat.beq b 0=true->afy P k)/\(Nat.beq b 0=false->Nat.beq b 7=false->Nat.ble 1000 b=false->Nat.beq b 9=false->Ab P k E b)/\(Nat.ble 1000 b=true->adT P k E (b - 1000))
def AW:(ts:List Ty)->lE ts->Value->Prop
 | [.sl _ t],d,v=>List.length (α:=t.den) d.1=0->v= .slice none 0 0
 | _,_,_=>True
def NilOk (P : Program) (k : FuncId) (f : FS) : Prop := ∀ w0 J γ vs (d : denP f.ps) r, Lay P J -> PArgs P w0 J γ f.ps vs d -> appP f.ps f.m d = some r ->
    Con P k vs.toArray J w0 (owCh γ f.ps vs d) (fun v => resFa f.rs v /\ AW f.rs (hFst f.rs (outs f.ps) (toH _ r)) v) (fun v => resGv f.rs (hFst f.rs (outs f.ps) (toH _ r)) v ++ outCh γ f.ps vs (hSnd f.rs (outs f.ps) (toH _ r)))
def YP:(ts:List Ty)->lE ts->Option (List Int)
 | [],_=>some []
 | .int .i64::ts,d=>(YP ts d.2).map fun l=>d.1::l
 | _::_,_=>none
def NewOk (P : Program) (k : FuncId) (T : Nat) (f : FS) : Prop := Enters P k /\ ∀ w0 J γ vs (d : denP f.ps) r ns, Lay P J -> PArgs P w0 J γ f.ps vs d -> appP f.ps f.m d = some r -> YP (f.rs ++ outs f.ps) (toH _ r) = some ns ->
    Con P k vs.toArray J w0 [] (fun v => ∃ b, v = .pointer (some ⟨b, 0, none⟩)) (fun v => [Ch.blk (bk v) (vs ++ ns.map (Value.int .i64)) T])
structure FOk (P:Program) (k:FuncId) (f:FS):Prop where
 cl: ∀q,f.cl=some q->ClOk P k q.1 q.2/\(Nat.beq q.2 7=true->NilOk P k f)/\(Nat.beq q.2 9=true->NewOk P k q.1 f)
 en:f.ov=false->Enters P k
 con:f.ov=false-> ∀w0 J γ vs (d:denP f.ps) r,Lay P J->PArgs P w0 J γ f.ps vs d->appP f.ps f.m d=some r->
  Con P k vs.toArray J w0 (owCh γ f.ps vs d) (resFa f.rs) (fun v=>resGv f.rs (hFst f.rs (outs f.ps) (toH _ r)) v++outCh γ f.ps vs (hSnd f.rs (outs f.ps) (toH _ r)))
def FTok (P:Program):FT->Prop
 | [] =>True
 | (k,f)::l=>FOk P k f/\FTok P l
theorem FTok.get {P:Program} {k:Nat} {f:FS} : ∀ {a:FT},FTok P a->fs a k=some f->FOk P k f
 | (j,x)::l,⟨h1,h2⟩,h=>by
  unfold fs at h;split at h
  ·rename_i b
   have:=ax b
   subst this;rw[<-ad h];exact h1
  ·exact FTok.get h2 h
def Ty.dp:Ty->Bool
 | .prod a b=>a.dp&&b.dp
 | .sl _ t=>t.dp
 | .fro _=>false
 | .bag _=>false
 | .wr t=>t.dp
 | .tree _ _ _=>false
 | _=>true
theorem Ty.dp_ok: ∀ {t:Ty},t.dp=true->t.rep.Dp
 | .int _,_=>Cp
 | .bool,_=>Ye
 | .str,_=>aba
 | .raw,_=>Cp (α:=Raw) (enc:=(·.1)) (h1:=(·.2))
 | .prod a b,h=>by
  have h:(a.dp&&b.dp)=true:=h;rw[aj] at h;exact Yf (dp_ok h.1) (dp_ok h.2)
 | .sl _ t,h=>Gi (dp_ok (show t.dp=true from h))
 | .fro _,h=>by cases h
 | .bag _,h=>by cases h
 | .wr t,h=>dp_ok (t:=t) h
 | .tree _ _ _,h=>by cases h
def ou (id:Nat) (pth:Nat->List Nat):(t:Ty)->t.den->Nat->List LV
 | .int k,d,_=>[.val (.int k d)]
 | .bool,d,_=>[.val (.bool d)]
 | .str,d,_=>[.val (.string d)]
 | .raw,d,j=>[.rd ⟨id,pth j⟩ .raw d]
 | .prod a b,d,j=>ou id pth a d.1 j++ou id pth b d.2 (j+a.size)
 | .sl E t,d,j=>[.rd ⟨id,pth j⟩ (.sl E t) d]
 | .fro t,d,j=>ou id pth t d j
 | .bag t,d,j=>ou id pth t d j
 | .wr t,d,j=>ou id pth t d j
 | .tree T E t,d,j=>[.rd ⟨id,pth j⟩ (.tree T E t) d]
theorem kY {P:Program} {w0:World} {J:Hp} {θ:Th} {id n:Nat} {pth:Nat->List Nat} (c:id<n): ∀(t:Ty) (d:t.den) (j:Nat) (cs:List Value),t.rep.rd J cs d->(∀i v,cs[i]? =some v->vg (θ id) (pth (j+i))=v)->
  (∀x∈ou id pth t d j,x.ok P w0 J θ n)/\(ou id pth t d j).map (·.v θ)=cs
 | .int k,d,j,cs,h,_=>⟨fun x e=>by cases aq e;rfl,h.symm⟩
 | .bool,d,j,cs,h,_=>⟨fun x e=>by cases aq e;rfl,h.symm⟩
 | .str,d,j,cs,h,_=>⟨fun x e=>by cases aq e;rfl,h.symm⟩
 | .raw,d,j,cs,h,hc=>by
  obtain ⟨u,rfl⟩:=List.length_eq_one_iff.1 (Rep.rd_len _ h);have f:hv θ ⟨id,pth j⟩=u:=by
   have:=hc 0 u rfl
   rwa [Nat.add_zero] at this
  refine ⟨fun x e=>?_,?_⟩
  ·cases aq e;exact ⟨c,by grind⟩
  ·show [hv θ ⟨id,pth j⟩] = [u];rw[f]
 | .prod a b,d,j,cs,h,hc=>by
  obtain ⟨p,m,rfl,g,l⟩:=h;have s:=(Rep.rd_len _ g).trans a.rep_size;obtain ⟨o,w⟩:=kY c a d.1 j p g fun i v hv=>hc i v (by grind);obtain ⟨q,r⟩:=kY c b d.2 (j+a.size) m l fun i v hv=>by
   have:=hc (a.size+i) v (by grind)
   rwa [show j+a.size+i=j+(a.size+i) from by omega]
  refine ⟨fun x e=>?_,?_⟩
  ·rcases aI e with e | e
   ·exact o x e
   ·exact q x e
  grind[ou]
 | .sl E t,d,j,cs,h,hc=>by
  obtain ⟨u,rfl⟩:=List.length_eq_one_iff.1 (Rep.rd_len _ h);have f:hv θ ⟨id,pth j⟩=u:=by
   have:=hc 0 u rfl
   rwa [Nat.add_zero] at this
  refine ⟨fun x e=>?_,?_⟩
  ·cases aq e;exact ⟨c,by grind⟩
  ·show [hv θ ⟨id,pth j⟩] = [u];rw[f]
 | .fro t,d,j,cs,h,hc=>kY c t d j cs h hc
 | .bag t,d,j,cs,h,hc=>kY c t d j cs h hc
 | .wr t,d,j,cs,h,hc=>kY c t d j cs h hc
 | .tree T E t,d,j,cs,h,hc=>by
  obtain ⟨u,rfl⟩:=List.length_eq_one_iff.1 (Rep.rd_len _ h);have f:hv θ ⟨id,pth j⟩=u:=by
   have:=hc 0 u rfl
   rwa [Nat.add_zero] at this
  refine ⟨fun x e=>?_,?_⟩
  ·cases aq e;exact ⟨c,by grind⟩
  ·show [hv θ ⟨id,pth j⟩] = [u];rw[f]
def jT (id:Nat) (pth:Nat->List Nat):(t:Ty)->t.den->Nat->List LV
 | .int k,d,_=>[.val (.int k d)]
 | .bool,d,_=>[.val (.bool d)]
 | .str,d,_=>[.val (.string d)]
 | .raw,d,_=>[.val d.1]
 | .prod a b,d,j=>jT id pth a d.1 j++jT id pth b d.2 (j+a.size)
 | .sl _ _,_,j=>[.own ⟨id,pth j⟩]
 | .fro t,d,j=>ou id pth t d j
 | .bag t,_,j=>(List.range t.size).map fun i=>.own ⟨id,pth (j+i)⟩
 | .wr t,d,j=>jT id pth t d j
 | .tree _ _ _,_,j=>[.own ⟨id,pth j⟩]
def tR (id:Nat) (pth:Nat->List Nat):(t:Ty)->t.den->Nat->List (Hdr×Chk)
 | .prod a b,d,j=>tR id pth a d.1 j++tR id pth b d.2 (j+a.size)
 | .wr t,d,j=>tR id pth t d j
 | .tree T E t,d,j=>[(⟨id,pth j⟩,.own (.tree T E t) d)]
 | .sl E t,d,j=>[(⟨id,pth j⟩,.own (.sl E t) d)]
 | _,_,_=>[]
section
variable {P:Program} {I J:Hp} {w0 w:World} {C:List Ch} {θ:Th} {n m:Nat}
theorem L7 {α β:Type} {A:Rep α} {B:Rep β} {cs:List Value} {x:α×β} (h:St I w0 w (Ch.own (uq A B) cs x::C)): ∃c d,cs=c++d/\c.length=A.size/\St I w0 w (Ch.own A c x.1::Ch.own B d x.2::C):=by
 obtain ⟨l,i,F,⟨G,K,rfl,⟨c,d,f,a,rfl,rfl,b,j⟩,e⟩,k,g⟩:=h;exact ⟨c,d,rfl,A.own_len b,l,i,(f++a)++K,⟨f,a++K,by grind,b,a,K,rfl,j,e⟩,k,g⟩
theorem yt {α:Type} {enc:α->Value} {h1: ∀a,(enc a).oneCell'=true} {cs:List Value} {x:α} (h:St I w0 w (Ch.own (mT α enc h1) cs x::C)):cs= [enc x] /\St I w0 w C:=by
 obtain ⟨h1,c,F,⟨G,K,rfl,⟨rfl,k⟩,e⟩,d,b⟩:=h;exact ⟨k,h1,c,K,e,d,b⟩
theorem kZ {id:Nat} {pth:Nat->List Nat} (l:id<n): ∀(t:Ty) (d:t.den) (j:Nat) (cs:List Value) (C:List Ch),(∀i v,cs[i]? =some v->vg (θ id) (pth (j+i))=v)->St J w0 w (Ch.own t.rep cs d::C)->
  (∀x∈jT id pth t d j,x.ok P w0 J θ n)/\(jT id pth t d j).map (·.v θ)=cs/\(∀g∈tR id pth t d j,g.1.id=id)/\St J w0 w (((tR id pth t d j).map fun g=>toCh P θ (g.1,m,g.2))++C)
 | .int k,d,j,cs,C,_,h=>by
  obtain ⟨rfl,q⟩:=yt h;exact ⟨fun x f=>by cases aq f;rfl,rfl,fun g c=>(by cases c),q⟩
 | .bool,d,j,cs,C,_,h=>by
  obtain ⟨rfl,q⟩:=yt (h1:=fun _=>rfl) h;exact ⟨fun x f=>by cases aq f;rfl,rfl,fun g c=>(by cases c),q⟩
 | .str,d,j,cs,C,_,h=>by
  obtain ⟨rfl,q⟩:=yt (h1:=fun _=>rfl) h;exact ⟨fun x f=>by cases aq f;rfl,rfl,fun g c=>(by cases c),q⟩
 | .raw,d,j,cs,C,_,h=>by
  obtain ⟨rfl,q⟩:=yt (α:=Raw) (enc:=(·.1)) (h1:=(·.2)) h;exact ⟨fun x f=>by cases aq f;exact d.2,rfl,fun g c=>(by cases c),q⟩
 | .prod a b,d,j,cs,C,hc,h=>by
  obtain ⟨R,N,rfl,r,h⟩:=L7 h;rw[a.rep_size] at r;have ⟨H,L,X,Q⟩:=kZ l a d.1 j R _ (fun i v hv=>hc i v (by grind)) h;obtain ⟨S,U,W,O⟩:=kZ l b d.2 (j+a.size) N _ (fun i v hv=>by
   have:=hc (a.size+i) v (by grind)
   rwa [show j+a.size+i=j+(a.size+i) from by omega]) (Q.perm List.perm_middle)
  refine ⟨fun x f=>?_,?_,fun g c=>?_,?_⟩
  ·rcases aI f with f | f
   ·grind
   grind
  ·grind[jT]
  ·rcases aI c with c | c
   ·grind
   grind
  ·show St J w0 w (((tR id pth a d.1 j++tR id pth b d.2 (j+a.size)).map _)++C);refine O.perm ?_;grind[aH,List.perm_append_comm_assoc]
 | .sl E t,d,j,cs,C,hc,h=>by
  have o: ∃u,cs= [u] /\u.oneCell'=true:=by
   obtain ⟨h1,p,F,⟨G,K,rfl,k,e⟩,y,s⟩:=h;have r:=(Ty.sl E t).rep.own_len k;obtain ⟨u,rfl⟩:=List.length_eq_one_iff.1 r;exact ⟨u,rfl,(Ty.sl E t).rep.own_one k u (by simp)⟩
  obtain ⟨u,rfl,h1⟩:=o;have B:hv θ ⟨id,pth j⟩=u:=by
   have:=hc 0 u rfl
   rwa [Nat.add_zero] at this
  refine ⟨fun x f=>?_,?_,fun g c=>?_,?_⟩
  ·cases aq f;exact ⟨l,by grind⟩
  ·show [hv θ ⟨id,pth j⟩] = [u];rw[B]
  ·cases aq c;rfl
  ·show St J w0 w (Ch.own _ [hv θ ⟨id,pth j⟩] d::C);grind
 | .fro t,d,j,cs,C,hc,h=>by
  obtain ⟨h1,p,F,⟨G,K,rfl,⟨rfl,k⟩,e⟩,y,s⟩:=h;obtain ⟨H,L⟩:=kY (J:=J) l t d j cs k hc;exact ⟨H,L,fun g c=>(by cases c),h1,p,K,e,y,s⟩
 | .wr t,d,j,cs,C,hc,hs=>kZ l t d j cs C hc hs
 | .bag t,d,j,cs,C,hc,h=>by
  obtain ⟨h1,p,F,⟨G,K,rfl,k,e⟩,y,s⟩:=h;have r:=((Ty.bag t).rep.own_len k).trans t.rep_size;have V:=(Ty.bag t).rep.own_one k;have z:St J w0 w C:=⟨h1,p,K,e,(List.nodup_append.1 y).2.1,fun b M=>s b (bt _ M)⟩;have A: ∀i (D:i<cs.length),hv θ ⟨id,pth (j+i)⟩=cs[i]:=fun i D=>hc i _ (List.getElem?_eq_getElem D);refine ⟨fun x f=>?_,?_,fun g c=>(by cases c),z⟩
  ·obtain ⟨i,D,rfl⟩:=List.mem_map.1 f;exact ⟨l,by grind⟩
  ·show ((List.range t.size).map fun i=>LV.own ⟨id,pth (j+i)⟩).map (·.v θ)=cs;rw[List.map_map,<-r];refine List.ext_getElem (by simp) fun i h1 p=>?_;rw[List.getElem_map,List.getElem_range];exact A i p
 | .tree T E t,d,j,cs,C,hc,h=>by
  have o: ∃u,cs= [u] /\u.oneCell'=true:=by
   obtain ⟨h1,p,F,⟨G,K,rfl,k,e⟩,y,s⟩:=h;have r:=(Ty.tree T E t).rep.own_len k;obtain ⟨u,rfl⟩:=List.length_eq_one_iff.1 r;exact ⟨u,rfl,(Ty.tree T E t).rep.own_one k u (by simp)⟩
  obtain ⟨u,rfl,h1⟩:=o;have B:hv θ ⟨id,pth j⟩=u:=by
   have:=hc 0 u rfl
   rwa [Nat.add_zero] at this
  refine ⟨fun x f=>?_,?_,fun g c=>?_,?_⟩
  ·cases aq f;exact ⟨l,by grind⟩
  ·show [hv θ ⟨id,pth j⟩] = [u];rw[B]
  ·cases aq c;rfl
  ·show St J w0 w (Ch.own _ [hv θ ⟨id,pth j⟩] d::C);grind
end
def NX (agg:Bool) (pre:List Nat):Nat->List Nat:=match agg with
 | true=>fun j=>pre++ [j]
 | false=>fun _=>pre
def mV (id:Nat) (pre:List Nat) (t:Ty) (d:t.den):Bool×List LV:=(t.isProd,jT id (NX t.isProd pre) t d 0)
def nR (id:Nat) (pre:List Nat) (t:Ty) (d:t.den):List (Hdr×Chk):=tR id (NX t.isProd pre) t d 0
def Io (id:Nat):(i:Nat)->(ts:List Ty)->lE ts->List (Bool×List LV)
 | _,[],_=>[]
 | i,t::ts,d=>mV id [i] t d.1::Io id (i+1) ts d.2
def AX (id:Nat):(i:Nat)->(ts:List Ty)->lE ts->List (Hdr×Chk)
 | _,[],_=>[]
 | i,t::ts,d=>nR id [i] t d.1++AX id (i+1) ts d.2
def P1 (y:Bool×List LV):AV:=match y with
 | (true,l)=>.agg l
 | (false,[x])=>.one x
 | _=>.und
def Kl (id:Nat):(ts:List Ty)->lE ts->AV
 | [t],d=>P1 (mV id [] t d.1)
 | ts,d=>.tup (Io id 0 ts d)
def yu (id:Nat):(ts:List Ty)->lE ts->List (Hdr×Chk)
 | [t],d=>nR id [] t d.1
 | ts,d=>AX id 0 ts d
theorem L8: ∀p:List Nat,vg undef p=undef
 | [] =>rfl
 | i::l=>by
  exact L8 l
theorem L9: ∀(p q:List Nat) (v:Value),vg v (p++q)=vg (vg v p) q
 | [],q,v=>by rfl
 | i::p,q,v=>by
  cases v with
  | tuple a=>exact L9 p q _
  | agg cs=>exact L9 p q _
  | func _ _ cs=>exact L9 p q _
  | _=>exact (L8 q).symm
theorem WX {cs:Array Value} {j:Nat} {v:Value} (h:cs.toList[j]? =some v):vg (.agg cs) [j] =v:=by
 show cs.getD j undef=v;simp_all
theorem Ty.size_one: ∀ {t:Ty},t.isProd=false->t.size=1
 | .int _,_=>rfl
 | .bool,_=>rfl
 | .str,_=>rfl
 | .raw,_=>rfl
 | .prod _ _,h=>by cases h
 | .sl _ _,_=>rfl
 | .fro t,h=>Ty.size_one (t:=t) h
 | .wr _,h=>by cases h
 | .tree _ _ _,_=>rfl
 | .bag t,h=>Ty.size_one (t:=t) h
theorem uF {id:Nat} {pth:Nat->List Nat} : ∀ {t:Ty} {d:t.den} {j:Nat},t.isProd=false->(ou id pth t d j).length=1
 | .int _,_,_,_=>rfl
 | .bool,_,_,_=>rfl
 | .str,_,_,_=>rfl
 | .raw,_,_,_=>rfl
 | .prod _ _,_,_,h=>by cases h
 | .sl _ _,_,_,_=>rfl
 | .fro t,d,j,h=>uF (t:=t) h
 | .bag t,d,j,h=>uF (t:=t) h
 | .wr _,_,_,h=>by cases h
 | .tree _ _ _,_,_,_=>rfl
theorem uG {id:Nat} {pth:Nat->List Nat} {t:Ty} {d:t.den} {j:Nat} (h1:t.isProd=false):(jT id pth t d j).length=1:=by
 cases t with
 | prod a b=>cases h1
 | fro t=>exact uF (t:=t) h1
 | wr t=>cases h1
 | bag t =>
  show ((List.range t.size).map _).length=1;rw[List.length_map,List.length_range];exact Ty.size_one h1
 | _=>rfl
def Ip:List Ty->Bool
 | [] =>true
 | t::ts=>t.dp&&Ip ts
section
variable {P:Program} {I J:Hp} {w0 w:World} {C:List Ch} {θ:Th} {n m:Nat}
theorem GA {chs:List Ent} : ∀y:Bool×List LV,(y.1=false->y.2.length=1)->(∀x∈y.2,x.ok P w0 J θ n)->(P1 y).ok P w0 J θ n chs/\(P1 y).v θ=mR θ y:=by
 rintro ⟨b,l⟩ c a;cases b with
 | true=>exact ⟨a,rfl⟩
 | false =>
  obtain ⟨x,rfl⟩:=List.length_eq_one_iff.1 (c rfl);exact ⟨a x (by simp),rfl⟩
theorem yw {id:Nat} {pre:List Nat} (a:id<n) {t:Ty} {d:t.den} {u:Value} (c:hv θ ⟨id,pre⟩=u) (f:p9 u=t.isProd) (h:St J w0 w (Ch.own t.rep (mD t.isProd u) d::C)) :
  (∀x∈(mV id pre t d).2,x.ok P w0 J θ n)/\(mV id pre t d).2.map (·.v θ)=mD t.isProd u/\mR θ (mV id pre t d)=u/\(∀g∈nR id pre t d,g.1.id=id)/\St J w0 w (((nR id pre t d).map fun g=>toCh P θ (g.1,m,g.2))++C):=by
 have c:vg (θ id) pre=u:=c;cases b:t.isProd with
 | true =>
  rw[b] at f h;cases u with
  | agg j =>
   have ⟨k,e,o,l⟩:=kZ (P:=P) (m:=m) (θ:=θ) (pth:=NX true pre) a t d 0 j.toList C (fun i v hv=>by
    show vg (θ id) (pre++ [0+i])=v;simp_all[L9,Nat.zero_add,WX]) h
   refine ⟨by grind[mV],by unfold mV;rw[b];exact e,?_,by grind[nR],by grind[nR]⟩;simp_all[mV,mR,jT,NX]
  | _=>cases f
 | false =>
  rw[b] at f h;have ⟨k,e,o,l⟩:=kZ (P:=P) (m:=m) (θ:=θ) (pth:=NX false pre) a t d 0 [u] C (fun i v hv=>by
   cases i with
   | zero=>exact c.trans (by grind)
   | succ i=>grind) h
  refine ⟨by grind[mV],by unfold mV;rw[b];exact e,?_,by grind[nR],by grind[nR]⟩;grind[mV,mR,jT,NX,undef,List.cons.inj]
theorem Ma {id:Nat} (a:id<n) {vs:Array Value} (e:θ id= .tuple vs): ∀(ts:List Ty) (i:Nat) (d:lE ts) (C:List Ch),(∀j t,ts[j]? =some t->p9 (vs.getD (i+j) undef)=t.isProd)->St J w0 w (zY i ts d (.tuple vs)++C)->
  (∀y∈Io id i ts d,∀x∈y.2,x.ok P w0 J θ n)/\(Io id i ts d).map (mR θ)=(List.range' i ts.length).map (fun j=>vs.getD j undef)/\(∀g∈AX id i ts d,g.1.id=id)/\St J w0 w (((AX id i ts d).map fun g=>toCh P θ (g.1,m,g.2))++C)
 | [],i,d,C,_,h=>⟨fun y c=>(by cases c),rfl,fun g b=>(by cases b),h⟩
 | t::ts,i,d,C,ha,h=>by
  obtain ⟨k,-,p,v,o⟩:=yw (P:=P) (m:=m) (θ:=θ) (pre:=[i]) (u:=vs.getD i undef) a (by show vg (θ id) [i] =_;rw[e];rfl) (ha 0 t rfl) h;have ⟨r,f,s,l⟩:=Ma a e ts (i+1) d.2 (((nR id [i] t d.1).map fun g=>toCh P θ (g.1,m,g.2))++C) (fun j t q=>by
   have:=ha (j+1) t q
   grind) (o.perm (List.perm_append_comm_assoc _ _ _))
  refine ⟨fun y c=>?_,?_,fun g b=>?_,?_⟩
  ·rcases aB c with rfl | c
   ·exact k
   grind
  ·show mR θ _::(Io id (i+1) ts d.2).map _=_;rw[p,f];rfl
  ·rcases aI b with b | b
   ·grind
   grind
  ·show St J w0 w (((nR id [i] t d.1++AX id (i+1) ts d.2).map _)++C);refine l.perm ?_;grind[aH,List.perm_append_comm_assoc]
theorem Mb {id:Nat} (f:id<n) {chs:List Ent} {v:Value} (s:θ id=v): ∀(ts:List Ty) (d:lE ts) (C:List Ch),resFa ts v->St J w0 w (resGv ts d v++C)->
  (Kl id ts d).ok P w0 J θ n chs/\(Kl id ts d).v θ=v/\(∀g∈yu id ts d,g.1.id=id)/\St J w0 w (((yu id ts d).map fun g=>toCh P θ (g.1,m,g.2))++C):=by
 intro ts d C c h;have a: ∀b,v= .tuple b->b.size=ts.length->(∀i t,ts[i]? =some t->p9 (b.getD i undef)=t.isProd)->St J w0 w (zY 0 ts d v++C)->
   (AV.tup (Io id 0 ts d)).ok P w0 J θ n chs/\(AV.tup (Io id 0 ts d)).v θ=v/\(∀g∈AX id 0 ts d,g.1.id=id)/\St J w0 w (((AX id 0 ts d).map fun g=>toCh P θ (g.1,m,g.2))++C):=by
  rintro b rfl y A h;have ⟨l,u,p,o⟩:=Ma (P:=P) (m:=m) f s ts 0 d C (fun j t B=>by grind) h;refine ⟨l,?_,p,o⟩;show Value.tuple ((Io id 0 ts d).map (mR θ)).toArray=_;congr 1;apply Array.ext';apply List.ext_getElem?;intro i;by_cases D:i<ts.length
  ·simp_all
  ·grind
 match ts,d,c,h,a with
 | [t],d,c,h,_ =>
  obtain ⟨l,-,u,p,o⟩:=yw (P:=P) (m:=m) (θ:=θ) (pre:=[]) f (show hv θ ⟨id,[]⟩=v from s) c h;obtain ⟨z,x⟩:=GA _ (fun e=>uG e) l;exact ⟨z,x.trans u,p,o⟩
 | [],d,c,h,a=>have ⟨b,q,k,r⟩:=c;exact a b q k r h
 | _::_::_,d,c,h,a=>have ⟨b,q,k,r⟩:=c;exact a b q k r h
end
section
variable {P:Program} {I:Hp} {w0 w:World} {o:Oper} {ev:Operand->Value}
theorem P2 {ls rn cs:List Ch} (h:St I w0 w (ls++(rn++cs))): ∃J,I.le J/\(∀ {α:Type} (R:Rep α) (v:List Value) (a:α),Ch.own R v a∈ls->R.rd J v a)/\(∀g l E,Ch.blk g l E∈ls->J g=some (.cells l.toArray E (0,0)))/\St J w0 w (rn++ [Ch.fr I cs]) /\
  ∀m p,Ch.deeps p->St J w0 m (p++ [Ch.fr I cs])->St I w0 m (p++(ls++cs)):=by
 have ⟨t,Y,F,T,H,h3⟩:=h;obtain ⟨G,K,rfl,r,W⟩:=T.split;have ⟨n1,U,n3⟩:=List.nodup_append.1 H;let J:=fun b=>if b∈G then w.heap[b]? else I b;have i:I.le J:=fun b o f=>by
  grind
 have k: ∀b,b∈G->J b=w.heap[b]? :=fun b f=>if_pos f;have u: ∀b,b∉G->J b=I b:=fun b f=>if_neg f;have j: ∀ {ls:List Ch} {G:List Nat} {c:Ch},Sep I ls w G->c∈ls-> ∃q,(∀b,b∈q->b∈G)/\c.holds I w q:=by
  intro ls;induction ls with
  | nil=>grind
  | cons d ls ih =>
   rintro G c ⟨G1,D,rfl,e,e'⟩ hc;grind
 obtain ⟨D,z,rfl,L,M⟩:=W.split;refine ⟨J,i,fun R v a s=>?_,fun g l E s=>?_,⟨t,fun b o f=>?_,D++z,(L.mono i).append ⟨z,[],by simp,M,rfl⟩,U,fun b f=>?_⟩,?_⟩
 ·have ⟨q,A,C⟩:=j r s;exact R.own_rd C i fun b t=>k b (A b t)
 ·have ⟨q,A,C,f3⟩:=j r s;grind
 ·by_cases n:b∈G
  ·rw[k b n] at f;exact f
  ·rw[u b n] at f;exact Y b o f
 ·grind
 ·rintro m p V ⟨Q,B,F',N,k2,k3⟩;obtain ⟨Z,F2,rfl,q1,S,F4,rfl,X,rfl⟩:=N.split;have x:=r.live;have y: ∀b,b∈G->m.heap[b]? =w.heap[b]? :=fun b n=>by
   have ⟨o,O⟩: ∃o,w.heap[b]? =some o:=⟨_,Array.getElem?_eq_getElem (x b n)⟩;rw[O];exact B b o (by grind)
  refine ⟨Q,i.trans B,Z++(G++S),(q1.deeps V).append ((r.stay y).append X),?_,fun b f=>?_⟩
  ·grind
  grind
theorem yx {ls rn:List Ch} {fact:Value->Prop} {gv:Value->List Ch} (k: ∀v,Ch.deeps (gv v))
  (h: ∀J,I.le J->(∀ {α:Type} (R:Rep α) (v:List Value) (a:α),Ch.own R v a∈ls->R.rd J v a)->(∀g l E,Ch.blk g l E∈ls->J g=some (.cells l.toArray E (0,0)))->OpT P J w0 o ev rn fact gv):OpT P I w0 o ev (ls++rn) fact (fun v=>ls++gv v):=by
 intro w C b;rw[aH] at b;have ⟨J,i,d,j,f,c⟩:=P2 b;refine (h J i d j w _ f).imp fun v e hv=>⟨hv.1,?_⟩
 have:=c e _ (k v) hv.2
 refine this.perm ?_;grind[aH,List.perm_append_comm_assoc]
end
def WY (chs:List Ent) (E:TypeId) (t:Ty) (x:LV):Option (List t.den×List Hdr):=match x with
 | .own h=>(rowOf h chs).bind fun q=>(oK (.sl q.E q.t) (.sl E t) q.xs).bind fun d=>some (d,[h])
 | x=>(Ub E t x).bind fun d=>some (d,[])
structure TreeE where
 ver:Nat
 T:TypeId
 E:TypeId
 t:Ty
 d:Tr t.den
 rest:List Ent
def Iq (h:Hdr) (chs:List Ent):Option TreeE:=(pull h chs).bind fun r=>match r.1.2.2 with
 | .own (.tree T E t) d=>cz (Ev h r.2) (some ⟨r.1.2.1,T,E,t,d,r.2⟩)
 | _=>none
def TreeE.ent (r:TreeE) (h:Hdr):Ent:=(h,r.ver,.own (.tree r.T r.E r.t) r.d)
theorem P3 {h:Hdr} {chs:List Ent} {r:TreeE} (e:Iq h chs=some r):chs.Perm (r.ent h::r.rest)/\ ∀e∈r.rest,e.1≠h:=by
 have ⟨q,i,e⟩:=bind_some e;have ⟨p,k⟩:=hY i;have ⟨⟨a,f,c⟩,rest⟩:=q;obtain rfl:a=h:=k;cases c with
 | own j d =>
  cases j with
  | tree T E t =>
   have ⟨b,e⟩:=ak (show cz (Ev a rest) _=some r from e);cases ad e;exact ⟨p,fun e g=>qW b g⟩
  | _=>cases e
 | _=>cases e
def jU (chs:List Ent):(t:Ty)->List LV->Option (t.den×List LV×List Hdr)
 | .prod a b,l=>(jU chs a l).bind fun x=>(jU chs b x.2.1).bind fun y=>some ((x.1,y.1),y.2.1,x.2.2++y.2.2)
 | .sl E t,l=>match l with
  | x::r=>(WY chs E t x).bind fun q=>some (q.1,r,q.2)
  | [] =>none
 | .fro t,l=>jU chs t l
 | .bag t,l=>jU chs t l
 | .wr t,l=>jU chs t l
 | .int k,l=>(eM (.int k) l).bind fun x=>some (x.1,x.2,[])
 | .bool,l=>(eM .bool l).bind fun x=>some (x.1,x.2,[])
 | .str,l=>(eM .str l).bind fun x=>some (x.1,x.2,[])
 | .raw,_=>none
 | .tree T E t,l=>match l with
  | .own h::r=>(Iq h chs).bind fun q=>(oK (.tree q.T q.E q.t) (.tree T E t) q.d).bind fun d=>some (d,r,[h])
  | l=>(eM (.tree T E t) l).bind fun x=>some (x.1,x.2,[])
def aaR (h:Hdr) (chs:List Ent):Option Blk:=(tf h chs).bind fun b=>cz (Ev h b.rest) (some b)
theorem P4 {h:Hdr} {chs:List Ent} {b:Blk} (k:aaR h chs=some b):tf h chs=some b/\ ∀e∈b.rest,e.1≠h:=by
 have ⟨f,c,k⟩:=bind_some k;have ⟨a,k⟩:=ak k;cases ad k;exact ⟨c,fun e d=>qW a d⟩
def Lent (J:Hp) (θ:Th) (chs:List Ent) (hs:List Hdr):Prop:= ∀h∈hs,(∀q,rowOf h chs=some q->(Ty.sl q.E q.t).rep.rd J [hv θ h] q.xs)/\(∀q,Iq h chs=some q->(Ty.tree q.T q.E q.t).rep.rd J [hv θ h] q.d)/\ ∀b,aaR h chs=some b->J (bk (hv θ h))=some (.cells (b.cells.map (·.v θ)).toArray b.T (0,0))
theorem Lent.l {J:Hp} {θ:Th} {chs:List Ent} {a b:List Hdr} (h:Lent J θ chs (a++b)):Lent J θ chs a:=fun x c=>h x (bj _ c)
theorem Lent.r {J:Hp} {θ:Th} {chs:List Ent} {a b:List Hdr} (h:Lent J θ chs (a++b)):Lent J θ chs b:=fun x c=>h x (bt _ c)
theorem tg {P:Program} {w0:World} {J:Hp} {θ:Th} {n:Nat} {chs:List Ent} : ∀ {t:Ty} {cs:List LV} {r:t.den×List LV×List Hdr},jU chs t cs=some r->(∀x∈cs,x.ok P w0 J θ n)->Lent J θ chs r.2.2-> ∃i,cs=i++r.2.1/\t.rep.rd J (i.map (·.v θ)) r.1:=by
 intro t;induction t with
 | prod a b s u =>
  intro cs r h c f;have ⟨x,g,h⟩:=bind_some (show (jU chs a cs).bind _=some r from h);have ⟨y,C,h⟩:=bind_some h;cases ad h;obtain ⟨i,rfl,A⟩:=s g c f.l;have ⟨w,D,B⟩:=u C (fun z p=>c z (bt _ p)) f.r;exact ⟨i++w,by grind,i.map (·.v θ),w.map (·.v θ),by grind,A,B⟩
 | sl E t ih =>
  intro cs r h c f;cases cs with
  | nil=>cases h
  | cons x l =>
   have ⟨q,e,h⟩:=bind_some (show (WY chs E t x).bind _=some r from h);cases ad h;refine ⟨[x],rfl,?_⟩;cases x with
   | own m =>
    have ⟨z,p,e⟩:=bind_some (show (rowOf m chs).bind _=some q from e);have ⟨d,j,e⟩:=bind_some e;cases ad e;exact jF j ((f m (by simp)).1 z p)
   | rd h2 t2 d2 =>
    have ⟨d,j,e⟩:=bind_some (show (Ub E t (.rd h2 t2 d2)).bind _=some q from e);cases ad e;exact Cu j (c _ (by simp))
   | val v =>
    have ⟨d,j,e⟩:=bind_some (show (Ub E t (.val v)).bind _=some q from e);cases ad e;exact Cu j (c _ (by simp))
   | nb _=>cases (show none=some q from e)
   | ptr _ _=>cases (show none=some q from e)
   | fn _ _ _ _=>cases (show none=some q from e)
   | fz _ _ _ _ _=>cases (show none=some q from e)
   | fzf _ _ _ _ _=>cases (show none=some q from e)
   | rdn _ _ _ _=>cases (show none=some q from e)
 | fro t ih =>
  intro cs r h c f;exact ih (show jU chs t cs=some r from h) c f
 | bag t ih =>
  intro cs r h c f;exact ih (show jU chs t cs=some r from h) c f
 | wr t ih =>
  intro cs r h c f;exact ih (show jU chs t cs=some r from h) c f
 | int k =>
  intro cs r h c f;have ⟨x,g,h⟩:=bind_some (show (eM _ cs).bind _=some r from h);cases ad h;exact jH g c
 | bool =>
  intro cs r h c f;have ⟨x,g,h⟩:=bind_some (show (eM _ cs).bind _=some r from h);cases ad h;exact jH g c
 | raw =>
  intro cs r h c f;cases (show none=some r from h)
 | str =>
  intro cs r h c f;have ⟨x,g,h⟩:=bind_some (show (eM _ cs).bind _=some r from h);cases ad h;exact jH g c
 | tree T E t ih =>
  intro cs r h c f;have o:((eM (.tree T E t) cs).bind fun x=>some (x.1,x.2,([] :List Hdr)))=some r-> ∃i,cs=i++r.2.1/\(Ty.tree T E t).rep.rd J (i.map (·.v θ)) r.1:=fun h=>by
   have ⟨x,g,h⟩:=bind_some h;cases ad h;exact jH g c
  cases cs with
  | nil=>exact o h
  | cons x l =>
   cases x with
   | own m =>
    have ⟨q,e,h⟩:=bind_some (show (Iq m chs).bind _=some r from h);have ⟨d,j,h⟩:=bind_some h;cases ad h;exact ⟨[.own m],rfl,jF j ((f m (by simp)).2.1 q e)⟩
   | _=>exact o h
def CD (chs:List Ent) (t:Ty) (v:AV):Option (t.den×List Hdr):=match v,t.isProd with
 | .agg cs,true=>(jU chs t cs).bind fun r=>cz r.2.1.isEmpty (some (r.1,r.2.2))
 | .one x,false=>(jU chs t [x]).bind fun r=>cz r.2.1.isEmpty (some (r.1,r.2.2))
 | _,_=>none
theorem Ir {P:Program} {w0:World} {J:Hp} {θ:Th} {n:Nat} {chs:List Ent} {t:Ty} {v:AV} {r:t.den×List Hdr} (h:CD chs t v=some r) (a:v.ok P w0 J θ n chs) (g:Lent J θ chs r.2): ∃b,Lds t.isProd b (v.v θ)/\t.rep.rd J b r.1:=by
 unfold CD at h;split at h
 ·rename_i b c;have ⟨q,f,h⟩:=bind_some h;have ⟨d,h⟩:=ak h;cases ad h;have ⟨i,e,k⟩:=tg f a g;rw[List.isEmpty_iff.1 d,List.append_nil] at e;subst e;exact ⟨_,by rw[c];rfl,k⟩
 ·rename_i x c;have ⟨q,f,h⟩:=bind_some h;have ⟨d,h⟩:=ak h;cases ad h;have ⟨i,e,k⟩:=tg f (fun y j=>by cases aq j;exact a) g;rw[List.isEmpty_iff.1 d,List.append_nil] at e;subst e;exact ⟨_,by rw[c];rfl,k⟩
 grind
def Is (ps rs ps' rs':List Ty) (e:cur ps (Option (dens rs))):Option (cur ps' (Option (dens rs'))):=if h:ps=ps'/\rs=rs' then some (h.1 ▸ h.2 ▸ e) else none
theorem Iu {ps rs b a:List Ty} {e:cur ps (Option (dens rs))} {c:cur b (Option (dens a))} (h:Is ps rs b a e=some c) {P:Program} {w0:World} {J:Hp} {v:Value} (d:FnOk P w0 J v ps rs e):FnOk P w0 J v b a c:=by
 grind[Is,ad]
structure FnR (a b:List Ty) where
 e:cur a (Option (dens b))
 lent:List Hdr
structure CapR (p:PM) where
 d:p.den
 lent:List Hdr
section
variable (ft:FT) (chs:List Ent)
def YQ (rec:(a b:List Ty)->LV->Option (FnR a b)):(p:PM)->LV->Option (CapR p)
 | .cap T t,x=>match x with
  | .ptr h off=>cz (Nat.beq off 0) ((aaR h chs).bind fun b=>cz (Nat.beq b.T T) ((jU chs t b.cells).bind fun r=>cz r.2.1.isEmpty (some ⟨r.1,h::r.2.2⟩)))
  | .fz h T' t' d off=>cz (Nat.beq off 0&&Nat.beq T' T) ((oK t' t d).bind fun d=>some ⟨d,[]⟩)
  | _=>none
 | .capf T a b,x=>match x with
  | .ptr h off=>cz (Nat.beq off 0) ((aaR h chs).bind fun bl=>cz (Nat.beq bl.T T) (match bl.cells with
   | [y] =>(rec a b y).bind fun r=>some ⟨r.e,h::r.lent⟩
   | _=>none))
  | .fzf h T' a' b' e=>cz (Nat.beq T' T) ((Is a' b' a b e).bind fun e=>some ⟨e,[]⟩)
  | _=>none
 | _,_=>none
def P5 (rec:(a b:List Ty)->LV->Option (FnR a b)):(qs:List PM)->List LV->Option (denP qs×List Hdr)
 | [],[] =>some ((),[])
 | q::qs,x::xs=>(YQ chs rec q x).bind fun r=>(P5 rec qs xs).bind fun s=>some ((r.d,s.1),r.lent++s.2)
 | _,_=>none
def Km:(ts:List Ty)->List (Bool×List LV)->Option (lE ts×List Hdr)
 | [],[] =>some ((),[])
 | t::ts,y::ys=>cz (y.1==t.isProd) ((jU chs t y.2).bind fun r=>cz (r.2.1.isEmpty&&(y.1 || Nat.beq y.2.length 1)) ((Km ts ys).bind fun q=>some ((r.1,q.1),r.2.2++q.2)))
 | _,_=>none
end
def YR:List PM->Option (List Ty)
 | [] =>some []
 | .rd t::ps=>(YR ps).bind fun ts=>some (t::ts)
 | _=>none
def rds:List Ty->List PM->List PM
 | [],qs=>qs
 | t::ts,qs=>.rd t::rds ts qs
def YS:(ts:List Ty)->(qs:List PM)->lE ts->denP qs->denP (rds ts qs)
 | [],_,_,e=>e
 | _::ts,qs,d,e=>(d.1,YS ts qs d.2 e)
def YT {R:Type} :(a:List Ty)->(lE a->R)->cur a R
 | [],g=>g ()
 | _::a,g=>fun x=>YT a fun d=>g (x,d)
theorem Iv {R:Type} : ∀(a:List Ty) (g:lE a->R) (d:lE a),app a (YT a g) d=g d
 | [],_,_=>rfl
 | _::a,g,d=>Iv a (fun x=>g (d.1,x)) d.2
def Uf:PM->Bool
 | .cap _ _=>true
 | .capf _ _ _=>true
 | _=>false
def yy:List PM->Bool
 | [] =>true
 | p::ps=>Uf p&&yy ps
def abr (chs:List Ent) (rec:(a b:List Ty)->LV->Option (FnR a b)) (a b:List Ty) (f:FS) (r1:List Ty) (qs:List PM) (first:List (Bool×List LV)) (capt:List LV):Option (FnR a b):=
 if h:f.ps=rds r1 (rds a qs)/\f.rs++outs f.ps=b then
  (Km chs r1 first).bind fun d1=>(P5 chs rec qs capt).bind fun dc =>
   some ⟨YT a fun x=>h.2 ▸ appP f.ps f.m (h.1 ▸ YS r1 (rds a qs) d1.1 (YS a qs x dc.1)),d1.2++dc.2⟩
 else none
def adj (ft:FT) (chs:List Ent) (rec:(a b:List Ty)->LV->Option (FnR a b)) (a b:List Ty) (k:FuncId) (first:List (Bool×List LV)) (capt:List LV):Option (FnR a b):=(fs ft k).bind fun f=>(YR (f.ps.take first.length)).bind fun r1 =>
 cz (!f.ov&&yy (f.ps.drop (first.length+a.length))) (abr chs rec a b f r1 (f.ps.drop (first.length+a.length)) first capt)
def P6 (h:Hdr) (chs:List Ent):Option (FuncId×List (Bool×List LV)×List LV):=(pull h chs).bind fun r=>match r.1.2.2 with
 | .clo k first capt=>some (k,first,capt)
 | _=>none
def YU (ft:FT) (chs:List Ent):Nat->(a b:List Ty)->LV->Option (FnR a b)
 | 0,_,_,_=>none
 | n+1,a,b,x=>match x with
  | .fn h a' b' e=>(Is a' b' a b e).bind fun e=>some ⟨e,[]⟩
  | .own h=>(P6 h chs).bind fun q=>adj ft chs (YU ft chs n) a b q.1 q.2.1 q.2.2
  | .val v=>match v with
   | .func (.func k) f c=>cz (f.toList.isEmpty&&c.toList.isEmpty) (adj ft chs (YU ft chs n) a b k [] [])
   | _=>none
  | _=>none
section
variable {P:Program} {w0:World} {J J':Hp} {θ:Th} {n:Nat} {chs chs0:List Ent} {ft:FT}
theorem Iw: ∀(rs us:List Ty) (i:Nat) (d:lE (rs++us)) (v:Value),us= [] ->zY i (rs++us) d v=zY i rs (hFst rs us d) v
 | [],us,i,d,v,h=>by subst h;rfl
 | t::rs,us,i,d,v,h=>by
  show Ch.own _ _ _::zY (i+1) (rs++us) d.2 v=Ch.own _ _ _::zY (i+1) rs (hFst rs us d.2) v;rw[Iw rs us (i+1) d.2 v h];rfl
theorem P7 (rs us:List Ty) (d:lE (rs++us)) (v:Value) (h:us= []):resGv (rs++us) d v=resGv rs (hFst rs us d) v:=by
 match rs,d with
 | [],d=>subst h;rfl
 | [t],d=>subst h;rfl
 | t::u::rs,d=>exact Iw (t::u::rs) us 0 d v h
theorem P8 (rs us:List Ty) (v:Value) (h:us= []):resFa rs v->resFa (rs++us) v:=by
 grind
theorem GB {qs:List PM} : ∀ts:List Ty,outs (rds ts qs)=outs qs
 | [] =>rfl
 | _::ts=>GB ts
theorem Ug {qs:List PM} :yy qs=true->outs qs= []:=by
 induction qs with
 | nil=>intro _;rfl
 | cons q qs ih =>
  intro h;have h:(Uf q&&yy qs)=true:=h;rw[aj] at h;cases q with
  | cap _ _=>exact ih h.2
  | capf _ _ _=>exact ih h.2
  | _=>cases h.1
theorem GC {γ:Value} {qs:List PM} : ∀(ts:List Ty) (vs us:List Value) (d:lE ts) (e:denP qs),vs.length=ts.length->owCh γ (rds ts qs) (vs++us) (YS ts qs d e)=owCh γ qs us e
 | [],[],us,d,e,_=>rfl
 | _::ts,v::vs,us,d,e,h=>GC ts vs us d.2 e (by grind)
 | [],_::_,_,_,_,h=>by cases h
 | _::_,[],_,_,_,h=>by cases h
theorem Uh {γ:Value} {qs:List PM} : ∀(us:List Value) (e:denP qs),yy qs=true->owCh γ qs us e= []:=by
 induction qs with
 | nil=>intro us e _;rfl
 | cons q qs ih =>
  intro us e h;cases us with
  | nil=>rfl
  | cons u us =>
   have h:(Uf q&&yy qs)=true:=h;rw[aj] at h;cases q with
   | cap _ _=>exact ih us e.2 h.2
   | capf _ _ _=>exact ih us e.2 h.2
   | _=>cases h.1
theorem Ix {γ:Value} {qs:List PM} {us:List Value} : ∀(ts:List Ty) (vs:List Value),vs.length=ts.length->yy qs=true-> ∀d:lE (outs (rds ts qs)),outCh γ (rds ts qs) (vs++us) d= []
 | [],[],_,h=>fun d=>by
  have key: ∀ {qs:List PM} (us:List Value) (d:lE (outs qs)),yy qs=true->outCh γ qs us d= []:=by
   intro qs;induction qs with
   | nil=>intro us d _;rfl
   | cons q qs ih =>
    intro us d h;cases us with
    | nil=>rfl
    | cons u us =>
     have h:(Uf q&&yy qs)=true:=h;rw[aj] at h;cases q with
     | cap _ _=>exact ih us d h.2
     | capf _ _ _=>exact ih us d h.2
     | _=>cases h.1
  exact key us d h
 | _::ts,v::vs,hl,h=>fun d=>Ix ts vs (by grind) h d
 | [],_::_,h,_=>by cases h
 | _::_,[],h,_=>by cases h
theorem CE {γ:Value} {qs:List PM} {us:List Value} {e:denP qs} (h:PArgs P w0 J γ qs us e): ∀ {ts:List Ty} {vs:List Value} {d:lE ts},PC J ts vs d->PArgs P w0 J γ (rds ts qs) (vs++us) (YS ts qs d e)/\vs.length=ts.length
 | [],vs,d,hr=>by
  subst hr;exact ⟨h,rfl⟩
 | t::ts,vs,d,hr=>by
  obtain ⟨v,b,r,rfl,f,g,a⟩:=hr;have ⟨c,i⟩:=CE h a;exact ⟨⟨v,r++us,rfl,⟨b,f,g⟩,c⟩,by grind⟩
theorem Mc {h:Hdr} {b:Blk} (k:aaR h chs=some b) (a: ∀e∈chs,okE P w0 J θ n chs0 e):okE P w0 J θ n chs0 (b.ent h):=a _ ((lW (P4 k).1).mem_iff.2 (List.mem_cons_self ..))
theorem Ui {rec:(a b:List Ty)->LV->Option (FnR a b)} (j: ∀a b x r,rec a b x=some r->x.ok P w0 J θ n->Lent J' θ chs r.lent->FnOk P w0 J' (x.v θ) a b r.e) (l:J.le J') (D: ∀e∈chs,okE P w0 J θ n chs0 e) {p:PM} {x:LV} {r:CapR p} (h:YQ chs rec p x=some r) (o:x.ok P w0 J θ n) (s:Lent J' θ chs r.lent):adS P w0 J' undef p (x.v θ) r.d:=by
 cases p with
 | cap T t =>
  cases x with
  | ptr m off =>
   have ⟨c,h⟩:=ak (show cz (Nat.beq off 0) _=some r from h);have ⟨b,g,h⟩:=bind_some h;have ⟨i,h⟩:=ak h;have ⟨q,w,h⟩:=bind_some h;have ⟨B,h⟩:=ak h;cases ad h;cases ax c;have i:=ax i;have K:=(s m (by simp)).2.2 b g;have f:=Mc (P:=P) (w0:=w0) (J:=J) (n:=n) g D;have ⟨R,O,k⟩:=tg (J:=J') w (fun x o=>LV.ok_same Same.rfl (ay _) (f.2.2 x o) l) (fun y M=>s y (by grind));exact ⟨_,rfl,_,by grind,k⟩
  | fz m T' t' d off =>
   have ⟨c,h⟩:=ak (show cz (Nat.beq off 0&&Nat.beq T' T) _=some r from h);rw[aj] at c;have ⟨S,L,h⟩:=bind_some h;cases ad h;cases ax c.1;cases ax c.2;have ⟨H,cells,v,A⟩:=o;exact ⟨_,rfl,cells,l _ _ v,jF L (Rep.rd_mono _ A l)⟩
  | _=>cases h
 | capf T a b =>
  cases x with
  | ptr m off =>
   have ⟨c,E⟩:=ak (show cz (Nat.beq off 0) _=some r from h);have ⟨G,g,F⟩:=bind_some E;have ⟨i,C⟩:=ak F;cases ax c;have i:=ax i;have f:=Mc (P:=P) (w0:=w0) (J:=J) (n:=n) g D;split at C
   ·rename_i y M;have ⟨q,w,I⟩:=bind_some C;cases ad I;have K:=(s m (by simp)).2.2 G g;exact ⟨_,rfl,_,by grind,j a b y q w (f.2.2 y (by grind)) fun z N=>s z (by grind)⟩
   grind
  | fzf m T' a' b' e =>
   have ⟨c,h⟩:=ak (show cz (Nat.beq T' T) _=some r from h);have ⟨Q,B,h⟩:=bind_some h;cases ad h;cases ax c;have ⟨H,u,v,A⟩:=o;exact ⟨_,rfl,u,l _ _ v,(Iu B A).mono l⟩
  | _=>cases h
 | _=>cases h
theorem Iy {rec:(a b:List Ty)->LV->Option (FnR a b)} (c: ∀a b x r,rec a b x=some r->x.ok P w0 J θ n->Lent J' θ chs r.lent->FnOk P w0 J' (x.v θ) a b r.e) (f:J.le J') (d: ∀e∈chs,okE P w0 J θ n chs0 e): ∀ {qs:List PM} {xs:List LV} {r:denP qs×List Hdr},P5 chs rec qs xs=some r->(∀x∈xs,x.ok P w0 J θ n)->Lent J' θ chs r.2->PArgs P w0 J' undef qs (xs.map (·.v θ)) r.1
 | [],[],r,h,_,_=>by rfl
 | q::qs,x::xs,r,h,hx,hl=>by
  have ⟨a,g,h⟩:=bind_some (show (YQ chs rec q x).bind _=some r from h);have ⟨s,i,h⟩:=bind_some h;cases ad h;exact ⟨_,_,rfl,Ui c f d g (hx x (by simp)) hl.l,Iy c f d i (fun y j=>hx y (by grind)) hl.r⟩
 | [],_::_,r,h,_,_=>by cases h
 | _::_,[],r,h,_,_=>by cases h
theorem Fb (d:J.le J'): ∀ {ts:List Ty} {ys:List (Bool×List LV)} {r:lE ts×List Hdr},Km chs ts ys=some r->(∀y∈ys,∀x∈y.2,x.ok P w0 J θ n)->Lent J' θ chs r.2->PC J' ts (ys.map (mR θ)) r.1
 | [],[],r,h,_,_=>by rfl
 | t::ts,y::ys,r,h,hy,hl=>by
  have ⟨c,h⟩:=ak (show cz (y.1==t.isProd) _=some r from h);have ⟨a,e,h⟩:=bind_some h;have ⟨j,h⟩:=ak h;have ⟨q,i,h⟩:=bind_some h;cases ad h;have c:y.1=t.isProd:=by simpa using c
  have ⟨p,o,k⟩:=tg (J:=J') e (fun x g=>LV.ok_same Same.rfl (ay _) (hy y (by simp) x g) d) hl.l;refine ⟨_,y.2.map (·.v θ),_,rfl,?_,by grind,Fb d i (fun z m=>hy z (by grind)) hl.r⟩;have ⟨s,f⟩:=y;subst c;cases l:t.isProd with
  | true=>rfl
  | false =>
   have b:f.length=1:=ax (by grind);obtain ⟨x,rfl⟩:=List.length_eq_one_iff.1 b
   rfl
 | [],_::_,r,h,_,_=>by cases h
 | _::_,[],r,h,_,_=>by cases h
theorem P9 (hF:FTok P ft) (s:Lay P J) {rec:(a b:List Ty)->LV->Option (FnR a b)} (B: ∀a b x r,rec a b x=some r->x.ok P w0 J θ n-> ∀J',J.le J'->Lent J' θ chs r.lent->FnOk P w0 J' (x.v θ) a b r.e) (F:J.le J') (hc: ∀e∈chs,okE P w0 J θ n chs0 e) {a b:List Ty} {k:FuncId} {first:List (Bool×List LV)} {g:List LV} {r:FnR a b} (h:adj ft chs rec a b k first g=some r)
  (h1: ∀y∈first,∀x∈y.2,x.ok P w0 J θ n) (Y: ∀x∈g,x.ok P w0 J θ n) (M:Lent J' θ chs r.lent):FnOk P w0 J' (.func (.func k) (first.map (mR θ)).toArray (g.map (·.v θ)).toArray) a b r.e:=by
 have ⟨f,Z,h⟩:=bind_some h;have ⟨p,hr1,h⟩:=bind_some h;have ⟨c,h⟩:=ak h;rw[aj] at c;have E:f.ov=false:=by simpa using c.1
 replace c:=c.2;have D:=hF.get Z;have K:=D.en E;have O:=D.con E;generalize f.ps.drop (first.length+a.length)=l at h c;unfold abr at h;split at h
 ·rename_i hh;have ⟨V,hd1,h⟩:=bind_some h;have ⟨T,N,h⟩:=bind_some h;cases ad h;obtain ⟨ps,rs,m⟩:=f;have ⟨R,U⟩:=hh;simp only at R U;subst R;subst U;refine ⟨k,_,_,rfl,K,fun L i args d o q S=>?_⟩;have A:Lent L θ chs (V.2++T.2):=fun x u=>⟨fun z v=>Rep.rd_mono _ ((M x u).1 z v) i,fun z v=>Rep.rd_mono _ ((M x u).2.1 z v) i,fun z v=>i _ _ ((M x u).2.2 z v)⟩
  have k1:=Fb (F.trans i) hd1 h1 A.l;have k2:=Iy (fun a b x r hr u G=>B a b x r hr u L (F.trans i) G) (F.trans i) hc N Y A.r;have ⟨k3,k4⟩:=CE k2 o;have ⟨k5,W⟩:=CE k3 k1;rw[Iv] at S;have j:=O w0 L undef _ _ q (s.mono (F.trans i)) k5 S;have hou:outs (rds p (rds a l))= []:=by rw[GB,GB];exact Ug c
  have I:owCh undef (rds p (rds a l)) ((first.map (mR θ))++(args++g.map (·.v θ))) (YS p (rds a l) V.1 (YS a l d T.1))= []:=by
   rw[GC _ _ _ _ _ W,GC _ _ _ _ _ k4];exact Uh _ _ c
  have Q: ∀z,outCh undef (rds p (rds a l)) ((first.map (mR θ))++(args++g.map (·.v θ))) z= []:=by
   intro z;have H: ∀(x y:List Ty),rds x (rds y l)=rds (x++y) l:=by
    intro x y;induction x with
    | nil=>rfl
    | cons t x ih=>exact congrArg (PM.rd t:: ·) ih
   have key: ∀(X:List PM),X=rds (p++a) l-> ∀z:lE (outs X),outCh undef X ((first.map (mR θ))++(args++g.map (·.v θ))) z= []:=by
    rintro X rfl z;rw[<-aH];exact Ix (p++a) _ (by grind) c z
   exact key _ (H p a) z
  rw[I] at j;intro w C hS;have hS':=j w C hS;grind[mR,P8,P7,outs,rds,toH]
 grind
theorem Uj {h:Hdr} {q:FuncId×List (Bool×List LV)×List LV} (k:P6 h chs=some q): ∃ver,(h,ver,Chk.clo q.1 q.2.1 q.2.2)∈chs:=by
 have ⟨r,a,k⟩:=bind_some k;have ⟨p,e⟩:=hY a;grind
theorem Kn (s:FTok P ft) (d:Lay P J) (l: ∀e∈chs,okE P w0 J θ n chs0 e): ∀ {m:Nat} {a b:List Ty} {x:LV} {r:FnR a b},YU ft chs m a b x=some r->x.ok P w0 J θ n-> ∀J',J.le J'->Lent J' θ chs r.lent->FnOk P w0 J' (x.v θ) a b r.e
 | 0,_,_,_,_,h,_,_,_,_=>by cases h
 | m+1,a,b,x,r,h,p,J',j,o=>by
  have g: ∀a b x r,YU ft chs m a b x=some r->x.ok P w0 J θ n-> ∀J',J.le J'->Lent J' θ chs r.lent->FnOk P w0 J' (x.v θ) a b r.e:=fun a b x r h p J' j o=>Kn s d l h p J' j o;cases x with
  | fn t F A e =>
   have ⟨H,i,h⟩:=bind_some (show (Is F A a b e).bind _=some r from h);cases ad h;exact (Iu i p.2).mono j
  | own t =>
   have ⟨q,E,h⟩:=bind_some (show (P6 t chs).bind _=some r from h);have ⟨z,w⟩:=Uj E;obtain ⟨-,-,B,C,I⟩:=l _ w
   have:=P9 s d g j l h B C o
   show FnOk P w0 J' (hv θ t) a b r.e;grind
  | val v =>
   cases v with
   | func fk f c =>
    cases fk with
    | func k =>
     have ⟨i,h⟩:=ak (show cz (f.toList.isEmpty&&c.toList.isEmpty) (adj ft chs (YU ft chs m) a b k [] [])=some r from h);rw[aj,List.isEmpty_iff,List.isEmpty_iff] at i
     have:=P9 s d g j l h (fun y u=>by cases u) (fun y u=>by cases u) o
     have D:f= #[]:=by simpa using i.1
     have G:c= #[]:=by simpa using i.2
     subst D;subst G;exact this
    | _=>cases h
   | _=>cases h
  | _=>cases h
end
def GD:List Hdr->List Ent->Option (List Ent×List Ent)
 | [],chs=>some ([],chs)
 | h::hs,chs=>(pull h chs).bind fun r=>(GD hs r.2).bind fun q=>some (r.1::q.1,q.2)
theorem Ac: ∀ {hs:List Hdr} {chs:List Ent} {r:List Ent×List Ent},GD hs chs=some r->chs.Perm (r.1++r.2)/\r.1.map (·.1)=hs
 | [],chs,r,h=>by cases ad (show some _=some r from h);simp_all
 | h'::hs,chs,r,h=>by
  have ⟨q,c,h⟩:=bind_some (show (pull h' chs).bind _=some r from h);have ⟨e,a,h⟩:=bind_some h;cases ad h;have ⟨d,f⟩:=hY c;have ⟨b,g⟩:=Ac a;exact ⟨d.trans (b.cons _),by grind⟩
def aeX (h:Hdr) (l:List Hdr):Bool:=l.any fun x=>Hdr.beq x h
def Ko:List Hdr->List Hdr->List Hdr
 | [],_=>[]
 | h::hs,acc=>if aeX h acc then Ko hs acc else h::Ko hs (h::acc)
theorem CF {h:Hdr} : ∀ {hs acc:List Hdr},h∈hs->h∈Ko hs acc\/h∈acc
 | x::hs,acc,a=>by
  unfold Ko;split
  ·rename_i c;rcases aB a with rfl | a
   ·have ⟨y,d,e⟩:=List.any_eq_true.1 c;grind[Hdr.beq_eq]
   ·exact CF a
  ·rcases aB a with rfl | a
   ·grind
   ·rcases CF (acc:=x::acc) a with b | b
    ·grind
    grind
def qb:AV->Bool
 | .agg _=>true
 | _=>false
theorem CG {v:AV} {cs:List LV} (h:nQ v=some cs) {P:Program} {w0:World} {J:Hp} {θ:Th} {n:Nat} {chs:List Ent} (a:v.ok P w0 J θ n chs) {b:Bool} (d:qb v=b):mD b (v.v θ)=cs.map (·.v θ)/\p9 (v.v θ)=b:=by
 subst d;cases v with
 | agg e =>
  cases ad (show some e=some cs from h);exact ⟨rfl,rfl⟩
 | one x =>
  cases ad (show some [x] =some cs from h);refine ⟨rfl,?_⟩;have c:=LV.one (show LV.ok P w0 J θ n x from a);show p9 (x.v θ)=false;generalize x.v θ=u at c;cases u <;> first | rfl | cases c
 | _=>cases h
def CH (h:Hdr) (T:TypeId) (t:Ty) (chs:List Ent):Option (t.den×List Ent×List Ent):=(pull h chs).bind fun r=>match r.1.2.2 with
 | .box T' t' d=>cz (Nat.beq T' T) ((qV t' t d).bind fun d=>some (d,[r.1],r.2))
 | .blk T' cells=>cz (Nat.beq T' T) ((fe t cells r.2).bind fun q=>cz q.cells.isEmpty (some (q.d,r.1::q.used,q.rest)))
 | _=>none
theorem YV {I:Hp} {w:World} {F:List Nat} {ls:List Ch} {α:Type} {R:Rep α} {b:Nat} {T:TypeId} {cells:List Value} {d:α} (h:Sep I (Ch.blk b cells T::ls) w F) (k:Bun I ls R cells d):(Ch.box b T R d).holds I w F:=by
 obtain ⟨G,K,rfl,⟨rfl,a⟩,c⟩:=h;exact ⟨cells,K,rfl,a,k w K c⟩
section
variable {P:Program} {w0:World} {J J':Hp} {θ θ':Th} {n m:Nat} {chs chs0:List Ent}
theorem AY {h:Hdr} {T:TypeId} {t:Ty} {chs:List Ent} {q:t.den×List Ent×List Ent} (k:CH h T t chs=some q):chs.Perm (q.2.1++q.2.2):=by
 have ⟨r,i,k⟩:=bind_some k;have ⟨p,e⟩:=hY i;have ⟨⟨o,b,c⟩,rest⟩:=r;cases c with
 | box a s d =>
  have ⟨f,k⟩:=ak (show cz (Nat.beq a T) _=some q from k);have ⟨v,u,k⟩:=bind_some k;grind
 | blk a cells =>
  have ⟨f,k⟩:=ak (show cz (Nat.beq a T) _=some q from k);have ⟨j,g,k⟩:=bind_some k;have ⟨l,k⟩:=ak k;cases ad k;exact p.trans ((jl g).cons _)
 | _=>cases k
theorem Fc {h:Hdr} {T:TypeId} {t:Ty} {q:t.den×List Ent×List Ent} (k:CH h T t chs=some q) (z:J.le J') (y: ∀e∈chs,okE P w0 J θ n chs0 e):chs.Perm (q.2.1++q.2.2)/\ ∀w F,Sep J' (q.2.1.map (toCh P θ)) w F->(Ch.box (bk (hv θ h)) T t.rep q.1).holds J' w F:=by
 have ⟨r,D,k⟩:=bind_some k;have ⟨p,e⟩:=hY D;have ⟨⟨u,l,c⟩,rest⟩:=r;obtain rfl:u=h:=e;cases c with
 | box b H d =>
  have ⟨a,k⟩:=ak (show cz (Nat.beq b T) _=some q from k);have ⟨L,B,k⟩:=bind_some k;cases ad k;cases ax a;obtain ⟨rfl,rfl⟩:=si B;refine ⟨p,fun w F f=>?_⟩;obtain ⟨G,K,rfl,A,rfl⟩:=f;rw[List.append_nil];exact A
 | blk b cells =>
  have ⟨a,k⟩:=ak (show cz (Nat.beq b T) _=some q from k);have ⟨E,v,k⟩:=bind_some k;have ⟨o,k⟩:=ak k;cases ad k;cases ax a;have g:=y _ (p.mem_iff.2 (List.mem_cons_self ..));have ⟨j,I,i,C⟩:=mo (J:=J') (P:=P) (w0:=w0) (θ:=θ) (n:=n) v fun x s=>LV.ok_same Same.rfl (ay _) (g.2.2 x s) z;rw[List.isEmpty_iff.1 o,List.append_nil] at i;subst i;exact ⟨p.trans (j.cons _),fun w F f=>YV f C⟩
 | _=>cases k
structure CurQ where
 g:Hdr
 d:List Int×Int×Int
 ent:Ent
 rest:List Ent
def xu (h:Hdr) (T E:TypeId) (chs:List Ent):Option CurQ:=(pull h chs).bind fun r=>match r.1.2.2 with
 | .blk T' [.rd g t xs,.val (.int .i64 x),.val (.int .i64 y)] =>cz (Nat.beq T' T) ((qV t (.sl E (.int .u8)) xs).bind fun xs=>some ⟨g,(xs,x,y),r.1,r.2⟩)
 | _=>none
theorem pV {h:Hdr} {T E:TypeId} {chs:List Ent} {q:CurQ} (k:xu h T E chs=some q):chs.Perm (q.ent::q.rest)/\ ∃ver,q.ent=(h,ver,.blk T [.rd q.g (.sl E (.int .u8)) q.d.1,.val (.int .i64 q.d.2.1),.val (.int .i64 q.d.2.2)]):=by
 have ⟨r,d,a⟩:=bind_some k;have ⟨p,e⟩:=hY d;split at a
 ·have ⟨g,b⟩:=ak a;have ⟨c,f,i⟩:=bind_some b;grind[ad,ax,si]
 grind
inductive GhQ
 | cur (h:Hdr) (xs:List Int)
 | box (h:Hdr)
def GhQ.v (θ:Th):GhQ->Value
 | .cur h _=>hv θ h
 | .box h=>.pointer (some ⟨bk (hv θ h),0,none⟩)
def afz (h:Hdr) (chs:List Ent):Option (FuncId×Hdr):=(P6 h chs).bind fun q=>match q with
 | (k,[],[.ptr hb off])=>if Nat.beq off 0 then some (k,hb) else none
 | _=>none
structure Args (ps:List PM) where
 d:denP ps
 lent:List Hdr
 own:List Ent
 rest:List Ent
 gh:Option GhQ
def iD (ft:FT) (s:Sg):(chs:List Ent)->(ps:List PM)->List AV->Option (Args ps)
 | chs,[],[] =>some ⟨(),[],[],chs,none⟩
 | chs,.rd t::ps,v::xs=>(CD s.chs t v).bind fun a=>(iD ft s chs ps xs).bind fun r=>some ⟨(a.1,r.d),a.2++r.lent,r.own,r.rest,r.gh⟩
 | chs,.ow t::ps,v::xs=>cz (qb v==t.isProd) ((nQ v).bind fun cs=>(fe t cs chs).bind fun q=>cz q.cells.isEmpty ((iD ft s q.rest ps xs).bind fun r=>some ⟨(q.d,r.d),r.lent,q.used++r.own,r.rest,r.gh⟩))
 | chs,.eat t::ps,v::xs=>cz (qb v==t.isProd) ((nQ v).bind fun cs=>(fe t cs chs).bind fun q=>cz q.cells.isEmpty ((iD ft s q.rest ps xs).bind fun r=>some ⟨(q.d,r.d),r.lent,q.used++r.own,r.rest,r.gh⟩))
 | chs,.fn a b::ps,x::xs=>match x with
  | .one y=>(YU ft s.chs 4 a b y).bind fun q=>(iD ft s chs ps xs).bind fun r=>some ⟨(q.e,r.d),q.lent++r.lent,r.own,r.rest,r.gh⟩
  | _=>none
 | chs,.fk g::ps,x::xs=>match x with
  | .one (.val (.func (.func k) f c))=>cz (Nat.beq k g&&f.toList.isEmpty&&c.toList.isEmpty) ((iD ft s chs ps xs).bind fun r=>some ⟨((),r.d),r.lent,r.own,r.rest,r.gh⟩)
  | _=>none
 | chs,.ptr T t::ps,x::xs=>match x with
  | .one (.ptr h off)=>cz (Nat.beq off 0) ((CH h T t chs).bind fun q=>(iD ft s q.2.2 ps xs).bind fun r=>some ⟨(q.1,r.d),r.lent,q.2.1++r.own,r.rest,r.gh⟩)
  | _=>none
 | chs,.crs T E::ps,x::xs=>match x with
  | .one (.ptr h off)=>cz (Nat.beq off 0) ((xu h T E chs).bind fun q=>(iD ft s q.rest ps xs).bind fun r=>cz r.gh.isNone (some ⟨(q.d,r.d),r.lent,q.ent::r.own,r.rest,some (.cur q.g q.d.1)⟩))
  | _=>none
 | _,_,_=>none
theorem kh {ft:FT} {s:Sg} (C:FTok P ft) (l:Fine P w0 J θ s) (f:J.le J'): ∀ {ps:List PM} {xs:List AV} {chs:List Ent} {r:Args ps},iD ft s chs ps xs=some r->(∀x∈xs,x.ok P w0 J θ s.nxt s.chs)->(∀e∈chs,e∈s.chs)->Lent J' θ s.chs r.lent-> ∀γ,(∀q,r.gh=some q->γ=q.v θ)->
  PArgs P w0 J' γ ps (xs.map (·.v θ)) r.d/\chs.Perm (r.own++r.rest)/\uC J' (r.own.map (toCh P θ)) (owCh γ ps (xs.map (·.v θ)) r.d)
 | [],[],chs,r,h,_,_,_,γ,hγ=>by
  cases ad (show some _=some r from h);exact ⟨Eq.refl _,List.Perm.refl _,yo⟩
 | .rd t::ps,x::xs,chs,r,h,hx,hc,hl,γ,hγ=>by
  have ⟨a,ha,h⟩:=bind_some (show (CD s.chs t x).bind _=some r from h);have ⟨q,o,h⟩:=bind_some h;cases ad h;have ⟨c,d,i⟩:=kh C l f o (fun y Y=>hx y (by grind)) hc hl.r γ hγ;have ⟨Q,L,H⟩:=Ir ha (AV.ok_same Same.rfl (ay _) Newer.rfl (hx x (by simp)) f) hl.l;exact ⟨⟨_,_,rfl,⟨Q,L,H⟩,c⟩,d,i⟩
 | .ow t::ps,x::xs,chs,r,h,hx,hc,hl,γ,hγ=>by
  have ⟨A,h⟩:=ak (show cz (qb x==t.isProd) _=some r from h);have A:qb x=t.isProd:=by simpa using A
  have ⟨Q,u,h⟩:=bind_some h;have ⟨q,o,h⟩:=bind_some h;have ⟨B,h⟩:=ak h;have ⟨D,v,h⟩:=bind_some h;cases ad h;have k:=hx x (by simp);have ⟨L,H⟩:=CG u k A;have j:=(kX u (AV.ok_same Same.rfl (ay _) Newer.rfl k f)).1;have ⟨p,cc,I,X⟩:=mo (J:=J') (θ:=θ) o j;rw[List.isEmpty_iff.1 B,List.append_nil] at I;subst I;have ⟨c,d,i⟩:=kh C l f v (fun y Y=>hx y (by grind)) (fun e h=>hc e (p.mem_iff.2 (by simp[h]))) hl γ hγ;refine ⟨⟨_,_,rfl,H,c⟩,by rw[aH];exact p.trans (d.append_left _),?_⟩;show uC J' ((q.used++D.own).map _) (Ch.own t.rep (mD t.isProd (x.v θ)) q.d::_);rw[aX,L];exact uD X i
 | .eat t::ps,x::xs,chs,r,h,hx,hc,hl,γ,hγ=>by
  have ⟨A,h⟩:=ak (show cz (qb x==t.isProd) _=some r from h);have A:qb x=t.isProd:=by simpa using A
  have ⟨Q,u,h⟩:=bind_some h;have ⟨q,o,h⟩:=bind_some h;have ⟨B,h⟩:=ak h;have ⟨D,v,h⟩:=bind_some h;cases ad h;have k:=hx x (by simp);have ⟨L,H⟩:=CG u k A;have j:=(kX u (AV.ok_same Same.rfl (ay _) Newer.rfl k f)).1;have ⟨p,cc,I,X⟩:=mo (J:=J') (θ:=θ) o j;rw[List.isEmpty_iff.1 B,List.append_nil] at I;subst I;have ⟨c,d,i⟩:=kh C l f v (fun y Y=>hx y (by grind)) (fun e h=>hc e (p.mem_iff.2 (by simp[h]))) hl γ hγ;refine ⟨⟨_,_,rfl,H,c⟩,by rw[aH];exact p.trans (d.append_left _),?_⟩;show uC J' ((q.used++D.own).map _) (Ch.own t.rep (mD t.isProd (x.v θ)) q.d::_);rw[aX,L];exact uD X i
 | .fn a b::ps,x::xs,chs,r,h,hx,hc,hl,γ,hγ=>by
  unfold iD at h;split at h
  ·rename_i y;have ⟨q,o,h⟩:=bind_some h;have ⟨D,v,h⟩:=bind_some h;cases ad h;have ⟨c,d,i⟩:=kh C l f v (fun z Z=>hx z (by grind)) hc hl.r γ hγ;exact ⟨⟨_,_,rfl,Kn C l.lay l.chs o (show LV.ok P w0 J θ s.nxt y from hx (.one y) (by simp)) J' f hl.l,c⟩,d,i⟩
  grind
 | .ptr T t::ps,x::xs,chs,r,h,hx,hc,hl,γ,hγ=>by
  unfold iD at h;split at h
  ·have ⟨R,h⟩:=ak h;have ⟨q,o,h⟩:=bind_some h;have ⟨D,v,h⟩:=bind_some h;cases ad h;cases ax R;have ⟨p,hb⟩:=Fc (P:=P) (w0:=w0) (J:=J) (J':=J') (θ:=θ) (n:=s.nxt) (chs0:=s.chs) o f fun e B=>l.chs e (hc e B);have ⟨c,d,i⟩:=kh C l f v (fun y Y=>hx y (by grind)) (fun e h=>hc e (p.mem_iff.2 (by simp[h]))) hl γ hγ;refine ⟨⟨_,_,rfl,⟨_,rfl⟩,c⟩,by rw[aH];exact p.trans (d.append_left _),?_⟩;rw[aX];intro w F U;obtain ⟨G,K,rfl,W,M⟩:=U.split;exact ⟨G,K,rfl,hb w G W,i w K M⟩
  grind
 | .fk g::ps,x::xs,chs,r,h,hx,hc,hl,γ,hγ=>by
  unfold iD at h;split at h
  ·have ⟨hk,h⟩:=ak h;have ⟨D,v,h⟩:=bind_some h;cases ad h;have ⟨c,d,i⟩:=kh C l f v (fun z Z=>hx z (by grind)) hc hl γ hγ;rw[aj,aj] at hk;have ⟨⟨N,V⟩,S⟩:=hk;cases ax N;have ef:=Array.ext' (List.isEmpty_iff.1 V);have ec:=Array.ext' (List.isEmpty_iff.1 S);subst ef;subst ec;exact ⟨⟨_,_,rfl,rfl,c⟩,d,i⟩
  grind
 | .crs T E::ps,x::xs,chs,r,h,hx,hc,hl,γ,hγ=>by
  unfold iD at h;split at h
  ·have ⟨R,h⟩:=ak h;have ⟨q,o,h⟩:=bind_some h;have ⟨D,v,h⟩:=bind_some h;have ⟨hn,h⟩:=ak h;cases ad h;cases ax R;have A:=hγ _ rfl;subst A;have ⟨p,ver,B⟩:=pV o;have j:=l.chs _ (hc _ (p.mem_iff.2 (List.mem_cons_self ..)));rw[B] at j;have O:LV.ok P w0 J θ s.nxt (.rd q.g (.sl E (.int .u8)) q.d.1):=j.2.2 _ (by simp);have ⟨c,d,i⟩:=kh C l f v (fun z Z=>hx z (by grind)) (fun e h=>hc e (p.mem_iff.2 (by simp[h]))) hl (hv θ q.g) (fun q' hq'=>by grind);refine ⟨⟨_,_,rfl,⟨⟨_,rfl⟩,Rep.rd_mono _ O.2 f⟩,c⟩,p.trans (d.cons _),?_⟩;rw[B];intro w F U;obtain ⟨G,K,rfl,W,M⟩:=U;exact ⟨G,K,rfl,W,i w K M⟩
  grind
 | .cap _ _::_,_::_,_,_,h,_,_,_,_,_=>by cases h
 | .capf _ _ _::_,_::_,_,_,h,_,_,_,_,_=>by cases h
 | [],_::_,_,r,h,_,_,_,_,_=>by cases h
 | .rd _::_,[],_,r,h,_,_,_,_,_=>by cases h
 | .ow _::_,[],_,r,h,_,_,_,_,_=>by cases h
 | .eat _::_,[],_,r,h,_,_,_,_,_=>by cases h
 | .fn _ _::_,[],_,r,h,_,_,_,_,_=>by cases h
 | .ptr _ _::_,[],_,r,h,_,_,_,_,_=>by cases h
 | .cap _ _::_,[],_,_,h,_,_,_,_,_=>by cases h
 | .capf _ _ _::_,[],_,_,h,_,_,_,_,_=>by cases h
 | .fk _::_,[],_,_,h,_,_,_,_,_=>by cases h
 | .crs _ _::_,[],_,_,h,_,_,_,_,_=>by cases h
def By:List PM->Bool
 | [] =>true
 | .ow t::ps=>t.dp&&By ps
 | .ptr _ t::ps=>t.dp&&By ps
 | _::ps=>By ps
def CI:(t:Ty)->t.den->List LV->List (Hdr×Chk)
 | .prod a b,d,cs=>CI a d.1 (cs.take a.size)++CI b d.2 (cs.drop a.size)
 | .wr t,d,cs=>CI t d cs
 | .sl E t,d,cs=>match cs with
  | .own h::_=>[(h,.own (.sl E t) d)]
  | _=>[]
 | _,_,_=>[]
def pC (gh:Option GhQ):(ps:List PM)->List AV->lE (outs ps)->List (Hdr×Chk)
 | .ow t::ps,x::xs,d=>((nQ x).elim [] fun cs=>CI t d.1 cs)++pC gh ps xs d.2
 | .ptr T t::ps,x::xs,d=>(match x with
  | .one (.ptr h _)=>[(h,.box T t d.1)]
  | _=>[])++pC gh ps xs d.2
 | .rd _::ps,_::xs,d=>pC gh ps xs d
 | .eat _::ps,_::xs,d=>pC gh ps xs d
 | .fn _ _::ps,_::xs,d=>pC gh ps xs d
 | .cap _ _::ps,_::xs,d=>pC gh ps xs d
 | .capf _ _ _::ps,_::xs,d=>pC gh ps xs d
 | .fk _::ps,_::xs,d=>pC gh ps xs d
 | .crs T E::ps,x::xs,d=>(match x,gh with
  | .one (.ptr h _),some (.cur g l)=>[(h,.blk T [.rd g (.sl E (.int .u8)) l,.val (.int .i64 d.1.1),.val (.int .i64 d.1.2)])]
  | _,_=>[])++pC gh ps xs d.2
 | _,_,_=>[]
def Uk:Chk->Prop
 | .own _ _=>True
 | .box _ _ _=>True
 | _=>False
theorem xw {g:Hdr×Chk} {ver:Nat} (h:Uk g.2) (h1:g.1.id<n) (b:ver<n):okE P w0 J θ n chs (g.1,ver,g.2):=by
 have ⟨a,c⟩:=g;cases c with
 | own _ _=>exact ⟨h1,b,trivial⟩
 | box _ _ _=>exact ⟨h1,b,trivial⟩
 | _=>exact h.elim
def abt (P:Program) (w0:World) (J:Hp) (θ:Th) (n:Nat) (c:Chk):Prop:=Uk c\/ ∃T cells,c= .blk T cells/\ ∀x∈cells,LV.ok P w0 J θ n x
theorem Md {g:Hdr×Chk} {ver m:Nat} (h:abt P w0 J θ m g.2) (d:m<=n) (h1:g.1.id<n) (b:ver<n):okE P w0 J θ n chs (g.1,ver,g.2):=by
 rcases h with h | ⟨T,cells,h,f⟩
 ·exact xw h h1 b
 ·have ⟨a,c⟩:=g;obtain rfl:c=_:=h;exact ⟨h1,b,fun x e=>LV.ok_same Same.rfl d (f x e) Hp.le.rfl⟩
theorem Ul {w:World} : ∀ {t:Ty} {d:t.den} {cs:List LV} {C:List Ch},St J w0 w (Ch.own t.rep (cs.map (·.v θ)) d::C)->(∀x∈cs,x.ok P w0 J θ' n)->(∀x∈cs,x.v θ'=x.v θ)->
  St J w0 w ((CI t d cs).map (fun g=>toCh P θ' (g.1,m,g.2))++C)/\ ∀g∈CI t d cs,Uk g.2/\g.1.id<n:=by
 intro t;induction t with
 | prod a b q r =>
  intro d cs C h j c;have ⟨y,s,e,B,h⟩:=L7 h;rw[a.rep_size] at B;have v:y=(cs.take a.size).map (·.v θ):=by
   simp_all
  have D:s=(cs.drop a.size).map (·.v θ):=by
   grind[List.map_drop,List.drop_left]
  rw[v,D] at h;have ⟨u,L⟩:=q h (fun x i=>j x (List.mem_of_mem_take i)) fun x i=>c x (List.mem_of_mem_take i);have ⟨z,N⟩:=r (u.perm List.perm_middle) (fun x i=>j x (List.mem_of_mem_drop i)) fun x i=>c x (List.mem_of_mem_drop i);refine ⟨?_,fun g f=>?_⟩
  ·show St J w0 w ((CI a d.1 _++CI b d.2 _).map _++C);refine z.perm ?_;grind[aH,List.perm_append_comm_assoc]
  ·rcases aI f with f | f
   ·grind
   grind
 | wr t ih =>
  intro d cs C h j c;exact ih h j c
 | sl E t ih =>
  intro d cs C h j c;cases cs with
  | nil=>exact ⟨h.tail,fun g f=>by cases f⟩
  | cons x l =>
   cases x with
   | own o =>
    have p:l= []:=by
     obtain ⟨O,I,F,⟨G,K,rfl,k,e⟩,M,H⟩:=h
     have:=(Ty.sl E t).rep.own_len k
     have A:((LV.own o::l).map (·.v θ)).length=1:=this;simpa using A
    subst p;refine ⟨?_,fun g f=>?_⟩
    ·have:=c (.own o) (by simp)
     show St J w0 w (Ch.own _ [hv θ' o] d::C);rw[show hv θ' o=hv θ o from this];exact h
    ·cases aq f;exact ⟨trivial,(j (.own o) (by simp)).1⟩
   | _=>exact ⟨h.tail,fun g f=>by cases f⟩
 | _ =>
  intro d cs C h j c;exact ⟨h.tail,fun g f=>by cases f⟩
theorem pD {w:World} {s:Sg} (D:Fine P w0 J θ s) (hs:Same s.nxt θ θ') (G:s.nxt<=m) {γ:Value} {gh:Option GhQ} : ∀ {ps:List PM} {xs:List AV} {v:FT} {chs:List Ent} {r:Args ps} (d:lE (outs ps)) {C:List Ch},iD v s chs ps xs=some r->(∀x∈xs,x.ok P w0 J θ s.nxt s.chs)->(∀e∈chs,e∈s.chs)->(∀q,r.gh=some q->gh=some q/\γ=q.v θ)->St J w0 w (outCh γ ps (xs.map (·.v θ)) d++C)->
  St J w0 w ((pC gh ps xs d).map (fun g=>toCh P θ' (g.1,m,g.2))++C)/\ ∀g∈pC gh ps xs d,abt P w0 J θ' m g.2/\g.1.id<s.nxt
 | [],[],v,chs,r,d,C,h,f,hc,hγ,c=>⟨c,fun g i=>by cases i⟩
 | .rd t::ps,x::xs,v,chs,r,d,C,h,f,hc,hγ,c=>by
  have ⟨a,ha,h⟩:=bind_some (show (CD s.chs t x).bind _=some r from h);have ⟨q,o,h⟩:=bind_some h;cases ad h;exact pD D hs G (ps:=ps) d o (fun y I=>f y (by grind)) hc hγ c
 | .ow t::ps,x::xs,v,chs,r,d,C,h,f,hc,hγ,c=>by
  have ⟨i,h⟩:=ak (show cz (qb x==t.isProd) _=some r from h);have i:qb x=t.isProd:=by simpa using i
  have ⟨O,A,h⟩:=bind_some h;have ⟨q,o,h⟩:=bind_some h;have ⟨H,h⟩:=ak h;have ⟨L,l,h⟩:=bind_some h;cases ad h;have K:=f x (by simp);have ⟨Z,c2⟩:=CG A K i;have k:=(kX A K).1;have c:St J w0 w (Ch.own t.rep (mD t.isProd (x.v θ)) d.1::(outCh γ ps (xs.map (·.v θ)) d.2++C)):=c;rw[Z] at c;have ⟨X,U⟩:=Ul (P:=P) (θ':=θ') (n:=s.nxt) (m:=m) c (fun x f=>LV.ok_same hs (ay _) (k x f) Hp.le.rfl) fun x f=>LV.v_same hs (k x f);have ⟨N,V⟩:=pD D hs G (ps:=ps) d.2 l (fun y I=>f y (by grind)) (fun e H=>hc e ((jl o).mem_iff.2 (by grind))) hγ (X.perm (List.perm_append_comm_assoc _ _ _));have F:pC gh (.ow t::ps) (x::xs) d=CI t d.1 O++pC gh ps xs d.2:=by
   show ((nQ x).elim [] fun O=>CI t d.1 O)++_=_;rw[A];rfl
  rw[F];refine ⟨?_,fun g i=>?_⟩
  ·refine N.perm ?_;grind[aH,List.perm_append_comm_assoc]
  ·rcases aI i with i | i
   ·exact ⟨.inl (U g i).1,(U g i).2⟩
   grind
 | .eat t::ps,x::xs,v,chs,r,d,C,h,f,hc,hγ,c=>by
  have ⟨i,h⟩:=ak (show cz (qb x==t.isProd) _=some r from h);have ⟨O,A,h⟩:=bind_some h;have ⟨q,o,h⟩:=bind_some h;have ⟨H,h⟩:=ak h;have ⟨L,l,h⟩:=bind_some h;cases ad h;exact pD D hs G (ps:=ps) d l (fun y I=>f y (by grind)) (fun e H=>hc e ((jl o).mem_iff.2 (by grind))) hγ c
 | .fn a b::ps,x::xs,v,chs,r,d,C,h,f,hc,hγ,c=>by
  unfold iD at h;split at h
  ·have ⟨q,o,h⟩:=bind_some h;have ⟨L,l,h⟩:=bind_some h;cases ad h;exact pD D hs G (ps:=ps) d l (fun y I=>f y (by grind)) hc hγ c
  grind
 | .ptr T t::ps,x::xs,v,chs,r,d,C,h,f,hc,hγ,c=>by
  unfold iD at h;split at h
  ·rename_i B off;have ⟨R,h⟩:=ak h;have ⟨q,o,h⟩:=bind_some h;have ⟨L,l,h⟩:=bind_some h;cases ad h;cases ax R;have j:=f (.one (.ptr B 0)) (by simp);have ⟨N,V⟩:=pD D hs G (ps:=ps) (C:=Ch.box (bk (hv θ B)) T t.rep d.1::C) d.2 l (fun y I=>f y (by grind)) (fun e H=>hc e ((AY o).mem_iff.2 (by grind))) hγ (c.perm List.perm_middle.symm);refine ⟨?_,fun g i=>?_⟩
   ·show St J w0 w (Ch.box (bk (hv θ' B)) T t.rep d.1::((pC gh ps xs d.2).map _++C));rw[bh hs j];exact N.perm List.perm_middle
   ·rcases aI i with i | i
    ·cases aq i;exact ⟨.inl trivial,j⟩
    grind
  grind
 | .fk g::ps,x::xs,v,chs,r,d,C,h,f,hc,hγ,c=>by
  unfold iD at h;split at h
  ·have ⟨hk,h⟩:=ak h;have ⟨L,l,h⟩:=bind_some h;cases ad h;exact pD D hs G (ps:=ps) d l (fun y I=>f y (by grind)) hc hγ c
  grind
 | .crs T E::ps,x::xs,v,chs,r,d,C,h,f,hc,hγ,c=>by
  unfold iD at h;split at h
  ·rename_i B off;have ⟨R,h⟩:=ak h;have ⟨q,o,h⟩:=bind_some h;have ⟨L,l,h⟩:=bind_some h;have ⟨hn,h⟩:=ak h;cases ad h;cases ax R;have ⟨S,i⟩:=hγ _ rfl;have ⟨p,W,H⟩:=pV o;have k:=D.chs _ (hc _ (p.mem_iff.2 (List.mem_cons_self ..)));rw[H] at k;have Q:LV.ok P w0 J θ s.nxt (.rd q.g (.sl E (.int .u8)) q.d.1):=k.2.2 _ (by simp);have j:=f (.one (.ptr B 0)) (by simp);have ⟨N,V⟩:=pD D hs G (ps:=ps) (gh:=gh) (C:=Ch.blk (bk (hv θ B)) [γ,.int .i64 d.1.1,.int .i64 d.1.2] T::C) d.2 l (fun y I=>f y (by grind)) (fun e H=>hc e (p.mem_iff.2 (by grind))) (fun q' Y=>by grind) (c.perm List.perm_middle.symm);have F:pC gh (.crs T E::ps) (.one (.ptr B 0)::xs) d= [(B,.blk T [.rd q.g (.sl E (.int .u8)) q.d.1,.val (.int .i64 d.1.1),.val (.int .i64 d.1.2)])] ++pC gh ps xs d.2:=by
    rw[S];rfl
   rw[F];refine ⟨?_,fun g u=>?_⟩
   ·show St J w0 w (Ch.blk (bk (hv θ' B)) [hv θ' q.g,.int .i64 d.1.1,.int .i64 d.1.2] T::((pC gh ps xs d.2).map _++C));rw[bh hs j,bh hs Q.1,<-show γ=hv θ q.g from i];exact N.perm List.perm_middle
   ·rcases aI u with u | u
    ·cases aq u;refine ⟨.inr ⟨_,_,rfl,fun z M=>?_⟩,j⟩;rcases aB M with rfl | M
     ·grind[LV.ok_same,Hp.le.rfl]
     ·rcases aB M with rfl | M
      ·rfl
      ·cases aq M
       rfl
    grind
  grind
 | .cap _ _::_,_::_,_,_,_,_,_,h,_,_,_,_=>by cases h
 | .capf _ _ _::_,_::_,_,_,_,_,_,h,_,_,_,_=>by cases h
 | [],_::_,_,_,_,_,_,h,_,_,_,_=>by cases h
 | .rd _::_,[],_,_,_,_,_,h,_,_,_,_=>by cases h
 | .ow _::_,[],_,_,_,_,_,h,_,_,_,_=>by cases h
 | .eat _::_,[],_,_,_,_,_,h,_,_,_,_=>by cases h
 | .fn _ _::_,[],_,_,_,_,_,h,_,_,_,_=>by cases h
 | .ptr _ _::_,[],_,_,_,_,_,h,_,_,_,_=>by cases h
 | .cap _ _::_,[],_,_,_,_,_,h,_,_,_,_=>by cases h
 | .capf _ _ _::_,[],_,_,_,_,_,h,_,_,_,_=>by cases h
 | .fk _::_,[],_,_,_,_,_,h,_,_,_,_=>by cases h
 | .crs _ _::_,[],_,_,_,_,_,h,_,_,_,_=>by cases h
end
theorem AZ {l m:List Ch} (h:Ch.deeps l) (k:Ch.deeps m):Ch.deeps (l++m):=by
 induction l with
 | nil=>exact k
 | cons c l ih=>exact ⟨h.1,ih h.2⟩
theorem vM {v:Value} : ∀(ts:List Ty) (i:Nat) (d:lE ts),Ip ts=true->Ch.deeps (zY i ts d v)
 | [],_,_,_=>trivial
 | t::ts,i,d,h=>by
  have h:(t.dp&&Ip ts)=true:=h;rw[aj] at h;exact ⟨Cq (Ty.dp_ok h.1),vM ts (i+1) d.2 h.2⟩
theorem Fe {v:Value} (ts:List Ty) (d:lE ts) (h:Ip ts=true):Ch.deeps (resGv ts d v):=by
 match ts,d,h with
 | [t],d,h =>
  have h:(t.dp&&true)=true:=h;rw[Bool.and_true] at h;exact ⟨Cq (Ty.dp_ok h),trivial⟩
 | [],d,h=>exact vM (v:=v) [] 0 d h
 | _::_::_,d,h=>exact vM (v:=v) _ 0 d h
def Ty.fin:Ty->Bool
 | .int _=>true
 | .bool=>true
 | .str=>true
 | .prod a b=>a.fin&&b.fin
 | .wr t=>t.fin
 | _=>false
theorem Ty.fin_ok: ∀ {t:Ty},t.fin=true->t.rep.Fin
 | .int _,_=>Gn
 | .bool,_=>Gn (h1:=fun _=>rfl)
 | .str,_=>Gn (h1:=fun _=>rfl)
 | .raw,h=>by cases h
 | .prod a b,h=>by
  have h:(a.fin&&b.fin)=true:=h;rw[aj] at h;exact T6 (fin_ok h.1) (fin_ok h.2)
 | .wr t,h=>fin_ok (t:=t) h
 | .sl _ _,h=>by cases h
 | .bag _,h=>by cases h
 | .fro _,h=>by cases h
 | .tree _ _ _,h=>by cases h
def recT:Ty->Bool
 | .tree _ _ u=>u.fin
 | _=>false
theorem Qa {t:Ty} (h:recT t=true) {cs:List Value} {d:t.den} :(Ch.own t.rep cs d).recl:=by
 cases t with
 | tree T E u=>exact PA (Ty.fin_ok h)
 | _=>cases h
def GE:List Ty->Bool
 | [] =>true
 | t::ts=>(t.dp&&GE ts) || (recT t&&Ip ts)
theorem Ad {v:Value} {D:List Ch} (a:Ch.deeps D): ∀(ts:List Ty) (i:Nat) (d:lE ts),GE ts=true->Ch.back (zY i ts d v++D)
 | [],_,_,_=>Ch.back_deeps a
 | t::ts,i,d,h=>by
  have h:((t.dp&&GE ts) || (recT t&&Ip ts))=true:=h;rw[Bool.or_eq_true,aj,aj] at h;rcases h with h | h
  ·exact .inl ⟨Cq (Ty.dp_ok h.1),Ad a ts (i+1) d.2 h.2⟩
  ·exact .inr ⟨Qa h.1,AZ (vM ts (i+1) d.2 h.2) a⟩
theorem Ae {v:Value} {D:List Ch} (a:Ch.deeps D) (ts:List Ty) (d:lE ts) (h:GE ts=true):Ch.back (resGv ts d v++D):=by
 match ts,d,h with
 | [t],d,h =>
  have h:((t.dp&&true) || (recT t&&true))=true:=h;rw[Bool.and_true,Bool.and_true,Bool.or_eq_true] at h;rcases h with h | h
  ·exact .inl ⟨Cq (Ty.dp_ok h),Ch.back_deeps a⟩
  ·exact .inr ⟨Qa h,a⟩
 | [],d,h=>exact Ad (v:=v) a [] 0 d h
 | _::_::_,d,h=>exact Ad (v:=v) a _ 0 d h
theorem abu {α:Type} {b:Nat} {T:TypeId} {R:Rep α} {d:α} (h:R.Dp):(Ch.box b T R d).deep:=by
 rintro I J w F ⟨cells,G,rfl,a,c⟩;exact ⟨cells,G,rfl,a,h c⟩
theorem gl {γ:Value} : ∀(ps:List PM) (vs:List Value) (d:lE (outs ps)),By ps=true->Ch.deeps (outCh γ ps vs d)
 | [],vs,_,_=>by cases vs <;> trivial
 | .ow t::ps,[],d,h=>trivial
 | .ow t::ps,v::vs,d,h=>by
  have h:(t.dp&&By ps)=true:=h;rw[aj] at h;exact ⟨Cq (Ty.dp_ok h.1),gl ps vs d.2 h.2⟩
 | .ptr T t::ps,[],d,h=>trivial
 | .ptr T t::ps,v::vs,d,h=>by
  have h:(t.dp&&By ps)=true:=h;rw[aj] at h;exact ⟨abu (Ty.dp_ok h.1),gl ps vs d.2 h.2⟩
 | .rd _::ps,[],d,h=>trivial
 | .rd _::ps,v::vs,d,h=>gl ps vs d h
 | .eat _::ps,[],d,h=>trivial
 | .eat _::ps,v::vs,d,h=>gl ps vs d h
 | .fn _ _::ps,[],d,h=>trivial
 | .fn _ _::ps,v::vs,d,h=>gl ps vs d h
 | .cap _ _::ps,[],d,h=>trivial
 | .cap _ _::ps,v::vs,d,h=>gl ps vs d h
 | .capf _ _ _::ps,[],d,h=>trivial
 | .fk _::ps,[],d,h=>trivial
 | .capf _ _ _::ps,v::vs,d,h=>gl ps vs d h
 | .fk _::ps,v::vs,d,h=>gl ps vs d h
 | .crs _ _::ps,[],d,h=>trivial
 | .crs _ _::ps,v::vs,d,h=>⟨WG,gl ps vs d.2 h⟩
theorem kj {id:Nat} {pth:Nat->List Nat} : ∀(t:Ty) (d:t.den) (j:Nat),∀g∈tR id pth t d j,Uk g.2
 | .prod a b,d,j=>fun g c=>by
  rcases aI c with c | c
  ·exact kj a d.1 j g c
  ·exact kj b d.2 _ g c
 | .sl E t,d,j=>fun g c=>by cases aq c;trivial
 | .wr t,d,j=>kj t d j
 | .int _,_,_=>fun g c=>by cases c
 | .bool,_,_=>fun g c=>by cases c
 | .str,_,_=>fun g c=>by cases c
 | .raw,_,_=>fun g c=>by cases c
 | .fro _,_,_=>fun g c=>by cases c
 | .bag _,_,_=>fun g c=>by cases c
 | .tree _ _ _,d,j=>fun g c=>by cases aq c;trivial
theorem xx {id:Nat} : ∀(i:Nat) (ts:List Ty) (d:lE ts),∀g∈AX id i ts d,Uk g.2
 | _,[],_=>fun g a=>by cases a
 | i,t::ts,d=>fun g a=>by
  rcases aI a with a | a
  ·exact kj t d.1 0 g a
  ·exact xx (i+1) ts d.2 g a
theorem th {id:Nat} (ts:List Ty) (d:lE ts): ∀g∈yu id ts d,Uk g.2:=by
 match ts,d with
 | [t],d=>exact kj t d.1 0
 | [],d=>exact xx (id:=id) 0 [] d
 | _::_::_,d=>exact xx (id:=id) 0 _ d
theorem yz {g:Hdr×Chk} {ver:Nat} {c:Chk} (h:Uk g.2) (k:SaysH g.2 ver c):False:=by
 have ⟨a,x⟩:=g;cases x <;> first | exact h.elim | exact k.elim
theorem Um {h:Hdr} {chs:List Ent} {q:Row} (a:rowOf h chs=some q) {e:Ent} (b:e∈chs) (h1:e.1=h):e=q.ent h:=by
 have ⟨p,k⟩:=cO a;grind
theorem Qb {h:Hdr} {chs:List Ent} {q:TreeE} (a:Iq h chs=some q) {e:Ent} (b:e∈chs) (h1:e.1=h):e=q.ent h:=by
 have ⟨p,k⟩:=P3 a;grind
theorem Un {h:Hdr} {chs:List Ent} {q:Blk} (b:aaR h chs=some q) {e:Ent} (a:e∈chs) (h1:e.1=h):e=q.ent h:=by
 have ⟨p,k⟩:=P4 b;rcases aB ((lW p).mem_iff.1 a) with rfl | a
 ·rfl
 grind
theorem OpT.post {P:Program} {w0:World} {o:Oper} {I:Hp} {ev:Operand->Value} {rn:List Ch} {fact a:Value->Prop} {gv b:Value->List Ch} (h:OpT P I w0 o ev rn fact gv) (hp: ∀v w C,fact v->St I w0 w (gv v++C)->a v/\St I w0 w (b v++C)):OpT P I w0 o ev rn a b :=
 fun w C c=>(h w C c).imp fun v w hv=>hp v w C hv.1 hv.2
theorem OpT.sepTo {P:Program} {w0:World} {o:Oper} {I:Hp} {ev:Operand->Value} {l a:List Ch} {fact:Value->Prop} {gv:Value->List Ch} (k:uC I l a) (h:OpT P I w0 o ev a fact gv):OpT P I w0 o ev l fact gv:=fun w C f=>by
 have ⟨g,c,F,i,d,b⟩:=f;obtain ⟨G,K,rfl,e,j⟩:=i.split;exact h w C ⟨g,c,G++K,(k w G e).append j,d,b⟩
section
variable {Y:Type} (ft:FT) (s:Sg) (k:Res->Option Y)
def Qc (s:Sg):List Operand->Option (List AV)
 | [] =>some []
 | x::xs=>(opd s x).bind fun v=>(Qc s xs).bind fun vs=>some (v::vs)
def Qd (f:FS) (xs:List AV) (kx:List Ent->List Ent->List Ent->Option GhQ->dens (f.rs++outs f.ps)->Option Y):Option Y:=(iD ft s s.chs f.ps xs).bind fun a =>
 (GD (Ko a.lent []) a.rest).bind fun pl=>match (Ip f.rs&&By f.ps) || pl.1.isEmpty with
 | true=>(appP f.ps f.m a.d).bind fun r=>kx pl.1 a.own pl.2 a.gh r
 | false=>cz (GE f.rs&&By f.ps) ((appP f.ps f.m a.d).bind fun r=>kx [] (a.own++pl.1) pl.2 a.gh r)
def abv (f : FS) (xs : List AV) (L M R : List Ent) (gh : Option GhQ) (r : dens (f.rs ++ outs f.ps)) : Option Y :=
    k ⟨L, M, R, yu s.nxt f.rs (hFst f.rs (outs f.ps) (toH _ r)) ++ pC gh f.ps xs (hSnd f.rs (outs f.ps) (toH _ r)), Kl s.nxt f.rs (hFst f.rs (outs f.ps) (toH _ r))⟩
def WZ (g:FuncId) (xs:List Operand):Option Y:=(fs ft g).bind fun f=>cz (!f.ov)<|(Qc s xs).bind fun vs=>Qd ft s f vs (abv s k f vs)
def aeY:(ts:List Ty)->lE ts->Int
 | [.sl _ t],d=>((List.length (α:=t.den) d.1:Nat):Int)
 | _,_=>1
def Qe (ts:List Ty) (d:lE ts):Bool:=decide (aeY ts d=0)
def W0 (g : FuncId) (xs : List Operand) : Option Y := (fs ft g).bind fun f => cz (!f.ov) <| (Qc s xs).bind fun vs => Qd ft s f vs fun L M R gh r =>
    if Qe f.rs (hFst f.rs (outs f.ps) (toH _ r)) then k ⟨L, M, R, pC gh f.ps vs (hSnd f.rs (outs f.ps) (toH _ r)), .one (.val (.slice none 0 0))⟩
    else abv s k f vs L M R gh r
def abw (f:FS) (n:Nat):Bool:=match f.ps.drop n with
 | [.ptr _ _] =>true
 | _=>false
def aeZ (t n:Nat):Option (FuncId×Hdr):=match look s.env t with
 | some (.one (.own h))=>(afz h s.chs).bind fun c=>(fs ft c.1).bind fun f=>match abw f n with
  | true=>some c
  | false=>none
 | _=>none
def afA (n:Nat):LV->Option (List Ty×List Ty)
 | .fn _ a b _=>some (a,b)
 | .own h=>(P6 h s.chs).bind fun q=>(fs ft q.1).bind fun f=>(YR ((f.ps.drop q.2.1.length).take n)).bind fun a=>some (a,f.rs++outs f.ps)
 | _=>none
def YW:(ts:List Ty)->List Operand->Option (lE ts×List Hdr)
 | [],[] =>some ((),[])
 | t::ts,x::xs=>(opd s x).bind fun v=>(CD s.chs t v).bind fun a=>(YW ts xs).bind fun r=>some ((a.1,r.1),a.2++r.2)
 | _,_=>none
def Qf (t:Nat) (xs:List Operand):Option Y:=(oneOf0 (look s.env t)).bind fun y=>(afA ft s xs.length y).bind fun ab=>(YU ft s.chs 4 ab.1 ab.2 y).bind fun q=>(YW s ab.1 xs).bind fun d =>
 (GD (Ko (q.lent++d.2) []) s.chs).bind fun pl=>cz (Ip ab.2) ((app ab.1 q.e d.1).bind fun r=>k ⟨pl.1,[],pl.2,yu s.nxt ab.2 (toH _ r),Kl s.nxt ab.2 (toH _ r)⟩)
where oneOf0:Option AV->Option LV
 | some (.one x)=>some x
 | _=>none
end
section
variable {Y:Type} {ft:FT} {s:Sg} {k:Res->Option Y} {P:Program} {w0:World} {o:Oper} {res:Y}
theorem GF {J:Hp} {θ:Th} {hs:List Hdr} {l:List Ent} (p:l.map (·.1)=Ko hs []) (b: ∀e∈l,e∈s.chs) (j: ∀ {α:Type} (R:Rep α) (v:List Value) (a:α),Ch.own R v a∈l.map (toCh P θ)->R.rd J v a) (r: ∀g c E,Ch.blk g c E∈l.map (toCh P θ)->J g=some (.cells c.toArray E (0,0))):Lent J θ s.chs hs:=fun h n=>by
 have m:h∈l.map (·.1):=by
  rw[p];rcases CF (acc:=[]) n with d | d
  ·exact d
  ·cases d
 have ⟨e,f,d⟩:=List.mem_map.1 m;refine ⟨fun q i=>?_,fun q i=>?_,fun q i=>?_⟩
 ·have:=Um i (b e f) d
  subst this;exact j _ _ _ (List.mem_map.2 ⟨_,f,rfl⟩)
 ·have:=Qb i (b e f) d
  subst this;exact j _ _ _ (List.mem_map.2 ⟨_,f,rfl⟩)
 ·have:=Un i (b e f) d
  subst this;exact r _ _ _ (List.mem_map.2 ⟨_,f,rfl⟩)
theorem kl: ∀ {ps:List PM} {xs:List AV} {chs:List Ent} {r:Args ps},iD ft s chs ps xs=some r->chs.Perm (r.own++r.rest)
 | [],[],chs,r,h=>by cases ad (show some _=some r from h);rfl
 | .rd t::ps,x::xs,chs,r,h=>by
  have ⟨a,n,h⟩:=bind_some (show (CD s.chs t x).bind _=some r from h);have ⟨q,d,h⟩:=bind_some h;cases ad h;exact kl (ps:=ps) d
 | .ow t::ps,x::xs,chs,r,h=>by
  have ⟨i,h⟩:=ak (show cz (qb x==t.isProd) _=some r from h);have ⟨l,f,h⟩:=bind_some h;have ⟨q,d,h⟩:=bind_some h;have ⟨m,h⟩:=ak h;have ⟨e,c,h⟩:=bind_some h;cases ad h;show chs.Perm ((q.used++e.own)++e.rest);rw[aH];exact (jl d).trans ((kl c).append_left _)
 | .eat t::ps,x::xs,chs,r,h=>by
  have ⟨i,h⟩:=ak (show cz (qb x==t.isProd) _=some r from h);have ⟨l,f,h⟩:=bind_some h;have ⟨q,d,h⟩:=bind_some h;have ⟨m,h⟩:=ak h;have ⟨e,c,h⟩:=bind_some h;cases ad h;rw[aH];exact (jl d).trans ((kl c).append_left _)
 | .fn a b::ps,x::xs,chs,r,h=>by
  unfold iD at h;split at h
  ·have ⟨q,d,h⟩:=bind_some h;have ⟨e,c,h⟩:=bind_some h;cases ad h;exact kl (ps:=ps) c
  grind
 | .ptr T t::ps,x::xs,chs,r,h=>by
  unfold iD at h;split at h
  ·have ⟨j,h⟩:=ak h;have ⟨q,d,h⟩:=bind_some h;have ⟨e,c,h⟩:=bind_some h;cases ad h;rw[aH];exact (AY d).trans ((kl c).append_left _)
  grind
 | .crs T E::ps,x::xs,chs,r,h=>by
  unfold iD at h;split at h
  ·have ⟨j,h⟩:=ak h;have ⟨q,d,h⟩:=bind_some h;have ⟨e,c,h⟩:=bind_some h;have ⟨u,h⟩:=ak h;cases ad h;exact (pV d).1.trans ((kl c).cons _)
  grind
 | .fk g::ps,x::xs,chs,r,h=>by
  unfold iD at h;split at h
  ·have ⟨p,h⟩:=ak h;have ⟨e,c,h⟩:=bind_some h;cases ad h;exact kl (ps:=ps) c
  grind
 | .cap _ _::_,_::_,_,_,h=>by cases h
 | .capf _ _ _::_,_::_,_,_,h=>by cases h
 | [],_::_,_,r,h=>by cases h
 | .rd _::_,[],_,r,h=>by cases h
 | .ow _::_,[],_,r,h=>by cases h
 | .eat _::_,[],_,r,h=>by cases h
 | .fn _ _::_,[],_,r,h=>by cases h
 | .ptr _ _::_,[],_,r,h=>by cases h
 | .cap _ _::_,[],_,_,h=>by cases h
 | .capf _ _ _::_,[],_,_,h=>by cases h
 | .fk _::_,[],_,_,h=>by cases h
 | .crs _ _::_,[],_,_,h=>by cases h
theorem NY: ∀ {t:Ty} {d:t.den} {cs:List LV},∀g∈CI t d cs,Uk g.2:=by
 intro t;induction t with
 | prod a b f i =>
  intro d cs g c;rcases aI c with c | c
  ·grind
  grind
 | wr t e=>intro d cs g c;exact e g c
 | sl E t e =>
  intro d cs g c;cases cs with
  | nil=>cases c
  | cons x l =>
   cases x with
   | own h=>cases aq c;trivial
   | _=>cases c
 | _=>intro d cs g c;cases c
theorem iE {gh:Option GhQ} : ∀ {ps:List PM} {xs:List AV} {d:lE (outs ps)},∀g∈pC gh ps xs d,∀b c,SaysH g.2 b c->False
 | [],xs,d=>fun g a=>by cases xs <;> cases a
 | .ow t::ps,[],d=>fun g a=>by cases a
 | .ow t::ps,x::xs,d=>fun g a=>by
  rcases aI a with a | a
  ·cases e:nQ x with
   | none=>grind
   | some cs=>grind[yz,NY]
  ·exact iE g a
 | .ptr T t::ps,[],d=>fun g a=>by cases a
 | .ptr T t::ps,x::xs,d=>fun g a=>by
  rcases aI a with a | a
  ·split at a
   ·cases aq a;exact fun b c k=>k
   grind
  ·exact iE g a
 | .rd _::ps,[],d=>fun g a=>by cases a
 | .rd _::ps,_::xs,d=>iE (ps:=ps)
 | .eat _::ps,[],d=>fun g a=>by cases a
 | .eat _::ps,_::xs,d=>iE (ps:=ps)
 | .fn _ _::ps,[],d=>fun g a=>by cases a
 | .fn _ _::ps,_::xs,d=>iE (ps:=ps)
 | .cap _ _::ps,[],d=>fun g a=>by cases a
 | .cap _ _::ps,_::xs,d=>iE (ps:=ps)
 | .capf _ _ _::ps,[],d=>fun g a=>by cases a
 | .fk _::ps,[],d=>fun g a=>by cases a
 | .capf _ _ _::ps,_::xs,d=>iE (ps:=ps)
 | .fk _::ps,_::xs,d=>iE (ps:=ps)
 | .crs T E::ps,[],d=>fun g a=>by cases a
 | .crs T E::ps,x::xs,d=>fun g a=>by
  rcases aI a with a | a
  ·split at a
   ·cases aq a;exact fun b c k=>k
   grind
  ·exact iE g a
theorem Uo {α:Type} (A L O C:List α):(A++(L++(O++C))).Perm (O++(A++(L++C))):=by
 grind[aH,List.perm_append_comm_assoc]
theorem Qg {α:Type} (B A L C:List α):(B++(A++(L++C))).Perm (L++(A++B)++C):=by
 have h:(B++(A++L)).Perm (L++(A++B)):=List.perm_append_comm.trans ((List.Perm.of_eq (aH ..)).trans (List.perm_append_comm_assoc _ _ _))
 have:=h.append_right C
 grind
theorem Up {P:Program} {I:Hp} {w0:World} {o:Oper} {ev:Operand->Value} {ls rn:List Ch} {fact:Value->Prop} {gv:Value->List Ch} (i: ∀v,Ch.back (gv v))
  (h: ∀J,I.le J->(∀ {α:Type} (R:Rep α) (v:List Value) (a:α),Ch.own R v a∈ls->R.rd J v a)->(∀g l E,Ch.blk g l E∈ls->J g=some (.cells l.toArray E (0,0)))->OpT P J w0 o ev rn fact gv):OpT P I w0 o ev (ls++rn) fact gv:=by
 intro w C b;rw[aH] at b;have ⟨J,c,d,f,e,j⟩:=P2 b;exact (h J c d f w _ e).imp fun v m hv=>⟨hv.1,hv.2.back c (i v)⟩
theorem Qh {α:Type} (L G O C:List α):(L++(G++O)++C).Perm (O++(L++C)++G):=by
 refine (List.Perm.append_right C List.perm_append_comm).trans ?_;grind[aH,List.perm_append_comm]
theorem Qi {ts:List Ty} {d:lE ts} {v:Value} (h:Qe ts d=true) (k:AW ts d v):v= .slice none 0 0:=by
 have h:=of_decide_eq_true h;unfold aeY at h;split at h
 ·exact k (Int.ofNat.inj h)
 omega
def ghV (θ:Th):Option GhQ->Value
 | some q=>q.v θ
 | none=>undef
theorem Ff {θ:Th} {o:Option GhQ} : ∀q,o=some q->ghV θ o=q.v θ:=fun q h=>by rw[h];rfl
theorem Me {J:Hp} {θ:Th} (d:Fine P w0 J θ s): ∀ {xs:List Operand} {vs:List AV},Qc s xs=some vs->xs.map (evL (envL θ s))=vs.map (·.v θ)/\ ∀x∈vs,x.ok P w0 J θ s.nxt s.chs
 | [],vs,h=>by cases ad (show some _=some vs from h);grind
 | x::xs,vs,h=>by
  have ⟨v,a,h⟩:=bind_some (show (opd s x).bind _=some vs from h);have ⟨g,b,h⟩:=bind_some h;cases ad h;have ⟨e,f⟩:=Me d b;refine ⟨by rw[List.map_cons,List.map_cons,e,aK (θ:=θ) a],fun y c=>?_⟩;rcases aB c with rfl | c
  ·exact cg d a
  ·exact f y c
def Qj (P:Program) (w0:World) (s:Sg) (cv:Operand) (g:FuncId) (xs:List Operand) (vs:List AV):Prop:= ∀J θ,Fine P w0 J θ s-> ∃cap:Array Value,evL (envL θ s) cv= .func (.func g) #[] cap/\xs.map (evL (envL θ s))++cap.toList=vs.map (·.v θ)/\ ∀x∈vs,x.ok P w0 J θ s.nxt s.chs
theorem Mf {g:FuncId} {xs:List Operand} {vs:List AV} (h:Qc s xs=some vs):Qj P w0 s (.func g) g xs vs:=fun J θ a=>by
 have ⟨c,b⟩:=Me a h;exact ⟨#[],rfl,by grind,b⟩
theorem Iz (O:FTok P ft) {f:FS} {g:FuncId} (q:Enters P g) {fact:dens (f.rs++outs f.ps)->Value->Prop} (j: ∀w0 J γ vs (d:denP f.ps) r,Lay P J->PArgs P w0 J γ f.ps vs d->appP f.ps f.m d=some r->
  Con P g vs.toArray J w0 (owCh γ f.ps vs d) (fact r) (fun v=>resGv f.rs (hFst f.rs (outs f.ps) (toH _ r)) v++outCh γ f.ps vs (hSnd f.rs (outs f.ps) (toH _ r)))) {xs:Array Operand} {ts:Array TypeId} {W:Operand} {vs:List AV} (w:Qj P w0 s W g xs.toList vs) (N:o.op= .call { callee:=.value W,args:=xs,argTypes:=ts }) {X:List Ent->List Ent->List Ent->Option GhQ->dens (f.rs++outs f.ps)->Option Y} (h:Qd ft s f vs X=some res) :
  ∃L M R r a,X L M R a.gh r=some res/\s.chs.Perm (L++M++R)/\iD ft s s.chs f.ps vs=some a/\ ∀J θ,Fine P w0 J θ s->OpT P J w0 o (evL (envL θ s)) (L.map (toCh P θ)++M.map (toCh P θ)) (fact r) (fun v=>L.map (toCh P θ)++(resGv f.rs (hFst f.rs (outs f.ps) (toH _ r)) v++outCh (ghV θ a.gh) f.ps (vs.map (·.v θ)) (hSnd f.rs (outs f.ps) (toH _ r)))):=by
 obtain ⟨a,u,h⟩:=bind_some h;obtain ⟨C,l,h⟩:=bind_some h;obtain ⟨Z,T⟩:=Ac l;have U:s.chs.Perm (a.own++a.rest):=kl u;have b:s.chs.Perm (C.1++a.own++C.2):=by
  refine U.trans ((Z.append_left a.own).trans ?_);rw[aH];exact List.perm_append_comm_assoc _ _ _
 split at h
 ·rename_i n;obtain ⟨r,F,h⟩:=bind_some h;rw[Bool.or_eq_true,aj] at n;refine ⟨_,_,_,r,a,h,b,u,fun J θ m=>?_⟩;obtain ⟨cap,G,B,D⟩:=w J θ m;rcases n with ⟨Q,H⟩ | n
  ·refine yx (fun v=>AZ (Fe _ _ Q) (gl _ _ _ H)) fun S z p t=>?_;obtain ⟨y,V,A⟩:=kh O m z u D (fun e i=>i) (GF T (fun e i=>b.mem_iff.2 (by simp[i])) p t) (ghV θ a.gh) Ff;exact OpT.sepTo A (ta q N G (by rw[List.nil_append,B]) (j w0 S (ghV θ a.gh) _ a.d r (m.lay.mono z) y F))
  ·have l:C.1= []:=List.isEmpty_iff.1 n;obtain ⟨y,V,A⟩:=kh O m Hp.le.rfl u D (fun e i=>i) (GF (P:=P) T (fun e i=>b.mem_iff.2 (by simp[i])) (by rw[l];intro α R v x K;cases K) (by rw[l];intro g c E K;cases K)) (ghV θ a.gh) Ff;rw[l];exact OpT.sepTo A (ta q N G (by rw[List.nil_append,B]) (j w0 J (ghV θ a.gh) _ a.d r m.lay y F))
 ·obtain ⟨n,h⟩:=ak h;obtain ⟨r,F,h⟩:=bind_some h;rw[aj] at n;refine ⟨[],_,_,r,a,h,(by
   rw[List.nil_append];refine b.trans ?_;exact List.Perm.append_right _ List.perm_append_comm),u,fun J θ m=>?_⟩
  obtain ⟨cap,G,B,D⟩:=w J θ m
  have:=Up (P:=P) (I:=J) (w0:=w0) (o:=o) (ev:=evL (envL θ s)) (ls:=C.1.map (toCh P θ)) (rn:=a.own.map (toCh P θ)) (fact:=fact r) (gv:=fun v=>resGv f.rs (hFst f.rs (outs f.ps) (toH _ r)) v++outCh (ghV θ a.gh) f.ps (vs.map (·.v θ)) (hSnd f.rs (outs f.ps) (toH _ r))) (fun v=>Ae (gl _ _ _ n.2) _ _ n.1) fun S z p t=>by
    obtain ⟨y,V,A⟩:=kh O m z u D (fun e i=>i) (GF T (fun e i=>b.mem_iff.2 (by simp[i])) p t) (ghV θ a.gh) Ff;exact OpT.sepTo A (ta q N G (by rw[List.nil_append,B]) (j w0 S (ghV θ a.gh) _ a.d r (m.lay.mono z) y F))
  rw[List.map_nil,List.nil_append,aX];exact OpT.permN List.perm_append_comm this
section
variable {f:FS} {vs:List AV} {L M R:List Ent} {r:dens (f.rs++outs f.ps)} {a:Args f.ps} (hvs: ∀J θ,Fine P w0 J θ s-> ∀x∈vs,x.ok P w0 J θ s.nxt s.chs)
include hvs
theorem IA (A:iD ft s s.chs f.ps vs=some a) (h:s.chs.Perm (L++M++R))
  (h1: ∀J θ,Fine P w0 J θ s->OpT P J w0 o (evL (envL θ s)) (L.map (toCh P θ)++M.map (toCh P θ)) (resFa f.rs) (fun v=>L.map (toCh P θ)++(resGv f.rs (hFst f.rs (outs f.ps) (toH _ r)) v++outCh (ghV θ a.gh) f.ps (vs.map (·.v θ)) (hSnd f.rs (outs f.ps) (toH _ r))))) :
  Good P w0 s o ⟨L,M,R,yu s.nxt f.rs (hFst f.rs (outs f.ps) (toH _ r))++pC a.gh f.ps vs (hSnd f.rs (outs f.ps) (toH _ r)),Kl s.nxt f.rs (hFst f.rs (outs f.ps) (toH _ r))⟩:=by
 have p: ∀g∈yu s.nxt f.rs (hFst f.rs (outs f.ps) (toH _ r))++pC a.gh f.ps vs (hSnd f.rs (outs f.ps) (toH _ r)),∀d c,SaysH g.2 d c->False:=fun g b=>by
  rcases aI b with b | b
  ·exact fun d c k=>yz (th _ _ g b) k
  ·exact iE g b
 refine ⟨h,fun J θ l g b d c D=>(p g b d c D).elim,fun J θ l=>?_⟩;rw[aX];refine OpT.post (h1 J θ l) fun v w C u t=>?_;have j:St J w0 w (resGv f.rs (hFst f.rs (outs f.ps) (toH _ r)) v++(L.map (toCh P θ)++(outCh (ghV θ a.gh) f.ps (vs.map (·.v θ)) (hSnd f.rs (outs f.ps) (toH _ r))++C))):=by
  refine t.perm ?_;rw[aH,aH];exact List.perm_append_comm_assoc _ _ _
 have ⟨H,F,I,G⟩:=Mb (P:=P) (m:=s.nxt) (θ:=upd θ s.nxt v) (n:=s.nxt+1) (chs:=Res.chs ⟨L,M,R,yu s.nxt f.rs (hFst f.rs (outs f.ps) (toH _ r))++pC a.gh f.ps vs (hSnd f.rs (outs f.ps) (toH _ r)),Kl s.nxt f.rs (hFst f.rs (outs f.ps) (toH _ r))⟩ s.nxt) (aJ _) (kU (vs:=θ) (i:=s.nxt) (v:=v)) f.rs (hFst f.rs (outs f.ps) (toH _ r)) _ u j;have B:=G.perm (Uo _ _ _ _);have ⟨E,y⟩:=pD (P:=P) (θ:=θ) (θ':=upd θ s.nxt v) (m:=s.nxt) l Same.upd (ay _) (hSnd f.rs (outs f.ps) (toH _ r)) A (hvs J θ l) (fun e z=>z) (fun q x=>⟨x,Ff q x⟩) B;refine ⟨⟨H,F,fun g b=>?_⟩,?_⟩
 ·rcases aI b with b | b
  ·exact xw (th _ _ g b) (by grind) (aJ _)
  ·exact Md (y g b).1 (Nat.le_succ _) (be (y g b).2) (aJ _)
 ·rw[aX];exact E.perm (Qg _ _ _ _)
theorem NZ (x:iD ft s s.chs f.ps vs=some a) (b:s.chs.Perm (L++M++R)) (t:Qe f.rs (hFst f.rs (outs f.ps) (toH _ r))=true)
  (h1: ∀J θ,Fine P w0 J θ s->OpT P J w0 o (evL (envL θ s)) (L.map (toCh P θ)++M.map (toCh P θ)) (fun v=>resFa f.rs v/\AW f.rs (hFst f.rs (outs f.ps) (toH _ r)) v) (fun v=>L.map (toCh P θ)++(resGv f.rs (hFst f.rs (outs f.ps) (toH _ r)) v++outCh (ghV θ a.gh) f.ps (vs.map (·.v θ)) (hSnd f.rs (outs f.ps) (toH _ r))))) :
  Good P w0 s o ⟨L,M,R,pC a.gh f.ps vs (hSnd f.rs (outs f.ps) (toH _ r)),.one (.val (.slice none 0 0))⟩:=by
 refine ⟨b,fun J θ d g h i c z=>(iE g h i c z).elim,fun J θ d=>?_⟩;rw[aX];refine OpT.post (h1 J θ d) fun v w C l j=>?_;have y:St J w0 w (outCh (ghV θ a.gh) f.ps (vs.map (·.v θ)) (hSnd f.rs (outs f.ps) (toH _ r))++(L.map (toCh P θ)++C)):=by
  refine St.left (ds:=resGv f.rs (hFst f.rs (outs f.ps) (toH _ r)) v) (j.perm ?_);exact Qh _ _ _ _
 have ⟨A,p⟩:=pD (P:=P) (θ:=θ) (θ':=upd θ s.nxt v) (m:=s.nxt) d Same.upd (ay _) (hSnd f.rs (outs f.ps) (toH _ r)) x (hvs J θ d) (fun e u=>u) (fun q n=>⟨n,Ff q n⟩) y;refine ⟨⟨Eq.refl true,(Qi t l.2).symm,fun g h=>Md (p g h).1 (Nat.le_succ _) (be (p g h).2) (aJ _)⟩,?_⟩;refine A.perm ?_;grind[aH,List.perm_append_comm_assoc]
end
theorem CJ {b:Operand} {g:FuncId} {xs:List Operand} {vs:List AV} (h:Qj P w0 s b g xs vs): ∀J θ,Fine P w0 J θ s-> ∀x∈vs,x.ok P w0 J θ s.nxt s.chs:=fun J θ a=>by
 obtain ⟨cap,-,-,h⟩:=h J θ a;exact h
theorem Qk (i:FTok P ft) {g:FuncId} {xs:Array Operand} {ts:Array TypeId} (m:o.op= .call { callee:=.value (.func g),args:=xs,argTypes:=ts }) (h:WZ ft s k g xs.toList=some res):Oks P w0 s o k res:=by
 have ⟨f,d,h⟩:=bind_some h;have ⟨b,h⟩:=ak h;have ⟨p,e,h⟩:=bind_some h;have b:f.ov=false:=by simpa using b
 have c:=i.get d;have j:=Mf (P:=P) (w0:=w0) (g:=g) e;have ⟨L,M,R,r,a,h,hp,l,n⟩:=Iz (w0:=w0) i (c.en b) (fact:=fun _=>resFa f.rs) (c.con b) j m h;exact ⟨_,h,IA (CJ j) l hp n⟩
theorem Ql (m:FTok P ft) {g:FuncId} {xs:Array Operand} {ts:Array TypeId} (i: ∀f,fs ft g=some f->NilOk P g f) (q:o.op= .call { callee:=.value (.func g),args:=xs,argTypes:=ts }) (h:W0 ft s k g xs.toList=some res):Oks P w0 s o k res:=by
 have ⟨f,c,h⟩:=bind_some h;have ⟨b,h⟩:=ak h;have ⟨t,j,h⟩:=bind_some h;have b:f.ov=false:=by simpa using b
 have d:=m.get c;have e:=Mf (P:=P) (w0:=w0) (g:=g) j;have ⟨L,M,R,r,a,h,hp,l,n⟩:=Iz (w0:=w0) m (d.en b) (fact:=fun r v=>resFa f.rs v/\AW f.rs (hFst f.rs (outs f.ps) (toH _ r)) v) (i f c) e q h;split at h
 ·exact ⟨_,h,NZ (CJ e) l hp ‹_› n⟩
 ·exact ⟨_,h,IA (CJ e) l hp fun J θ p=>OpT.weak (n J θ p) (fun v hv=>hv.1) fun v _=>rfl⟩
theorem Mg {J J':Hp} {θ:Th} (c:Fine P w0 J θ s) (e:J.le J'): ∀ {ts:List Ty} {xs:List Operand} {r:lE ts×List Hdr},YW s ts xs=some r->Lent J' θ s.chs r.2->PC J' ts (xs.map (evL (envL θ s))) r.1
 | [],[],r,h,_=>by rfl
 | t::ts,x::xs,r,h,hl=>by
  have ⟨v,b,h⟩:=bind_some (show (opd s x).bind _=some r from h);have ⟨a,f,h⟩:=bind_some h;have ⟨q,i,h⟩:=bind_some h;cases ad h;have ⟨j,d,g⟩:=Ir f (AV.ok_same Same.rfl (ay _) Newer.rfl (cg c b) e) hl.l;rw[<-aK (θ:=θ) b] at d;exact ⟨_,j,_,rfl,d,g,Mg c e i hl.r⟩
 | [],_::_,r,h,_=>by cases h
 | _::_,[],r,h,_=>by cases h
theorem Qm (V:FTok P ft) {t:Nat} {xs:Array Operand} {ts:Array TypeId} (T:o.op= .call { callee:=.value (.tmp t),args:=xs,argTypes:=ts }) (h:Qf ft s k t xs.toList=some res):Oks P w0 s o k res:=by
 have ⟨y,b,h⟩:=bind_some h;have ⟨a,S,h⟩:=bind_some h;have ⟨q,X,h⟩:=bind_some h;have ⟨d,hd,h⟩:=bind_some h;have ⟨p,E,h⟩:=bind_some h;have ⟨F,h⟩:=ak h;have ⟨r,hr,h⟩:=bind_some h;have b:look s.env t=some (.one y):=by
  unfold Qf.oneOf0 at b;split at b
  ·grind
  ·cases b
 have ⟨Q,e2⟩:=Ac E;refine ⟨_,h,by grind,fun J θ f g B R c W=>(yz (th _ _ g B) W).elim,fun J θ f=>?_⟩;have H:=cg (x:=.tmp t) f b;have L:OpT P J w0 o (evL (envL θ s)) (p.1.map (toCh P θ)++ []) (resFa a.2) (fun v=>p.1.map (toCh P θ)++resGv a.2 (toH _ r) v):=by
  refine yx (fun v=>Fe _ _ F) fun M K u G=>?_;have N:=GF (s:=s) e2 (fun e he=>Q.mem_iff.2 (by grind)) u G;have ⟨kk,first,I,h3,U,O⟩:=Kn V f.lay f.chs X H M K N.l;have j:=O M Hp.le.rfl _ d.1 (Mg f K hd N.r) r hr;have z:=(aK (x:=.tmp t) b).trans h3;exact ta U T z (by simp) j
 rw[List.append_nil] at L;rw[List.append_nil];refine OpT.post L fun v w C A D=>?_;have l:St J w0 w (resGv a.2 (toH _ r) v++(p.1.map (toCh P θ)++C)):=by
  refine D.perm ?_;rw[aH];exact List.perm_append_comm_assoc _ _ _
 have ⟨q1,Z,q3,q4⟩:=Mb (P:=P) (m:=s.nxt) (θ:=upd θ s.nxt v) (n:=s.nxt+1) (chs:=Res.chs ⟨p.1,[],p.2,yu s.nxt a.2 (toH _ r),Kl s.nxt a.2 (toH _ r)⟩ s.nxt) (aJ _) (kU (vs:=θ) (i:=s.nxt) (v:=v)) a.2 (toH _ r) _ A l;refine ⟨⟨q1,Z,fun g B=>xw (th _ _ g B) (by grind) (aJ _)⟩,?_⟩;refine q4.perm ?_;grind[aH,List.perm_append_comm_assoc]
end
section
variable {Y:Type} (tt:TT) (s:Sg) (k:Res->Option Y)
def Uq:AV->Option (Bool×List LV)
 | .one x=>some (false,[x])
 | .agg xs=>some (true,xs)
 | _=>none
def GG (s:Sg):List Operand->Option (List (Bool×List LV))
 | [] =>some []
 | x::xs=>(opd s x).bind fun v=>(Uq v).bind fun y=>(GG s xs).bind fun ys=>some (y::ys)
def Mh (s:Sg):List Operand->Option (List LV)
 | [] =>some []
 | x::xs=>match opd s x with
  | some (.one y)=>(Mh s xs).bind fun ys=>some (y::ys)
  | _=>none
def W1 (fn:Fn) (first captured:Array Operand):Option Y:=match fn with
 | .func g=>(GG s first.toList).bind fun ys=>(Mh s captured.toList).bind fun xs=>k ⟨[],[],s.chs,[(⟨s.nxt,[]⟩,.clo g ys xs)],.one (.own ⟨s.nxt,[]⟩)⟩
 | _=>none
def Qn (T:TypeId) (x:Operand):Option Y:=(td tt T).bind fun d=>match opd s x with
 | some (.one (.fz h T' t a off))=>(Aa d.agg t off d.n).bind fun p=>cz (p.ty.isProd==d.agg) (k (.pure s (PG s.nxt p.ty (p.get a))))
 | some (.one (.fzf h T' ps rs e))=>cz (Nat.beq d.n 1 && !d.agg) (k (.pure s (.one (.fn ⟨s.nxt,[]⟩ ps rs e))))
 | _=>none
def Qo (T:TypeId) (x:Operand) (f:Nat):Option Y:=(td tt T).bind fun d=>(d.fields[f]?).bind fun q=>match opd s x with
 | some (.one (.fz h T' t a off))=>k (.pure s (.one (.fz h T' t a (off+q.1))))
 | _=>none
end
section
variable {Y:Type} {tt:TT} {s:Sg} {k:Res->Option Y} {P:Program} {w0:World} {o:Oper} {res:Y} {x:Operand}
theorem Fg {J:Hp} {θ:Th} (d:Fine P w0 J θ s): ∀ {l:List Operand} {ys:List (Bool×List LV)},GG s l=some ys->l.map (evL (envL θ s))=ys.map (mR θ)/\ ∀y∈ys,∀x∈y.2,x.ok P w0 J θ s.nxt
 | [],ys,h=>by cases ad (show some _=some ys from h);grind
 | x::l,ys,h=>by
  have ⟨v,b,h⟩:=bind_some (show (opd s x).bind _=some ys from h);have ⟨y,c,h⟩:=bind_some h;have ⟨i,e,h⟩:=bind_some h;have ⟨j,m⟩:=Fg d e;have a:=cg d b;have f:=aK (θ:=θ) b;have key:v.v θ=mR θ y/\ ∀x∈y.2,x.ok P w0 J θ s.nxt:=by
   cases v with
   | one z=>cases ad (show some _=some y from c);exact ⟨rfl,fun x g=>by cases aq g;exact a⟩
   | agg i=>cases ad (show some _=some y from c);exact ⟨rfl,a⟩
   | _=>cases c
  refine ⟨by grind,fun z e=>?_⟩;grind
theorem IB {J:Hp} {θ:Th} (c:Fine P w0 J θ s): ∀ {l:List Operand} {ys:List LV},Mh s l=some ys->l.map (evL (envL θ s))=ys.map (·.v θ)/\ ∀x∈ys,x.ok P w0 J θ s.nxt
 | [],ys,h=>by cases ad (show some _=some ys from h);grind
 | x::l,ys,h=>by
  unfold Mh at h;split at h
  ·rename_i y d;have ⟨f,a,h⟩:=bind_some h;cases ad h;have ⟨e,g⟩:=IB c a;have b:=cg c d;refine ⟨by rw[List.map_cons,List.map_cons,e,aK (θ:=θ) d];rfl,fun z a=>?_⟩;rcases aB a with rfl | a
   ·exact b
   grind
  grind
theorem Qp {fn:Fn} {first captured:Array Operand} (q:o.op= .makeFunc fn first captured) (h:W1 s k fn first captured=some res):Oks P w0 s o k res:=by
 cases fn with
 | func g =>
  have ⟨t,c,h⟩:=bind_some (show (GG s first.toList).bind _=some res from h);have ⟨u,b,h⟩:=bind_some h;refine ⟨_,h,List.Perm.refl _,a7 rfl,fun J θ j=>?_⟩;have ⟨n,l⟩:=Fg j c;have ⟨r,m⟩:=IB j b;refine OpT.post (Gc q rfl) fun v w C a d=>?_;rw[n,r] at a;have f:hv (upd θ s.nxt v) ⟨s.nxt,[]⟩=v:=kU;refine ⟨⟨⟨aJ _,by rw[f,a];rfl⟩,f,fun g p=>?_⟩,?_⟩
  ·cases aq p;refine ⟨aJ _,aJ _,fun y i x e=>LV.ok_same Same.upd (Nat.le_succ _) (l y i x e) Hp.le.rfl,fun x e=>LV.ok_same Same.upd (Nat.le_succ _) (m x e) Hp.le.rfl,?_⟩;rw[f,mE Same.upd m,List.map_congr_left fun y i=>zZ Same.upd (l y i)];omega
  ·exact St.emp.2 d
 | _=>cases h
theorem IC (G:TTok P tt) {T:TypeId} (B:o.op= .load T x) (h:Qn tt s k T x=some res):Oks P w0 s o k res:=by
 have ⟨d,L,h⟩:=bind_some h;have f:=G.get L;split at h
 ·rename_i z H t a off j;have ⟨p,hp,h⟩:=bind_some h;have ⟨i,h⟩:=ak h;have i:p.ty.isProd=d.agg:=by simpa using i
  have hp:=B0 _ _ _ _ hp;refine ⟨_,h,List.Perm.refl _,a7 rfl,fun J θ r=>?_⟩;have ⟨K,cells,m,C⟩:=cg r j;have ⟨c,F,D⟩:=hp.fld J cells a C;have E:=(p.ty.rep.rd_len D).trans (p.ty.rep_size.trans hp.size);have q:(cells.drop off).take d.n=c:=by rw[<-hp.size,<-p.ty.rep_size];exact F
  refine OpT.weak (AS m f.ti B (aK (θ:=θ) j) f.one q E rfl) (fun v b=>?_) (fun v b=>rfl);have l:Lds p.ty.isProd c v:=by
   rw[i];cases w:d.agg with
   | true=>rw[w] at b;exact b
   | false =>
    rw[w] at b;have y:d.n=1:=by
     have:=f.one
     rw[w] at this;simpa using this
    obtain ⟨u,rfl⟩:=List.length_eq_one_iff.1 (E.trans y);rw[show v=u from b];rfl
  have:=sj (P:=P) (w0:=w0) (J:=J) (θ:=upd θ s.nxt v) (id:=s.nxt) (n:=s.nxt+1) (chs:=(Res.pure s (PG s.nxt p.ty (p.get a))).chs s.nxt) (aJ _) kU p.ty (p.get a) c D l
  exact ⟨this.1,this.2,fun g i=>by cases i⟩
 ·rename_i z H N M e j;have ⟨A,h⟩:=ak h;rw[aj] at A;have I:=ax A.1;refine ⟨_,h,List.Perm.refl _,a7 rfl,fun J θ r=>?_⟩;have ⟨K,u,m,C⟩:=cg r j;refine OpT.weak (AS (d:=[u]) (u:=u) m f.ti B (aK (θ:=θ) j) f.one (by grind) (by grind) (by grind)) (fun v b=>?_) (fun v b=>rfl);have z:hv (upd θ s.nxt v) ⟨s.nxt,[]⟩=v:=kU;exact ⟨⟨aJ _,by grind⟩,z,fun g i=>by cases i⟩
 grind
theorem N1 (i:TTok P tt) {T:TypeId} {f:Nat} (e:o.op= .fieldAddr T x f) (h:Qo tt s k T x f=some res):Oks P w0 s o k res:=by
 have ⟨d,g,h⟩:=bind_some h;have ⟨q,l,h⟩:=bind_some h;have j:=(i.get g).fld f q l;split at h
 ·rename_i m n t a off b;exact ⟨_,h,ga (fun J θ c=>ot j e (aK (θ:=θ) b)) fun J θ c=>(by have:=cg c b;exact this)⟩
 grind
end
end R
end Go.Proofs.YtphjdcoponilmaaGreatDoor
