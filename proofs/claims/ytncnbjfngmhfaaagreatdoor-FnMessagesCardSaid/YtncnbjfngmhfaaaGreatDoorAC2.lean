/- FnMessages: for every input the law returns true and changes nothing that was there. Part 3 of 9. -/
import Derived.Test.YtncnbjfngmhfaaaGreatDoorAC1
set_option synthInstance.maxSize 20000
set_option synthInstance.maxHeartbeats 2000000
set_option linter.unusedVariables false
set_option linter.unusedSimpArgs false
set_option linter.unnecessarySimpa false
set_option linter.unusedSectionVars false
set_option maxRecDepth 1000000
namespace Go.Proofs.YtncnbjfngmhfaaaGreatDoor
open Go.IntKind (i64)
namespace R
open Go.RowKit
open D
def one (v:Value):AV:=.one (.val v)
def asB:AV->Option (Bool×Bool)
 | .one (.val (.bool b))=>some (b,true)
 | .one (.nb b)=>some (b,false)
 | _=>none
def onB {Y:Type} (v:AV) (x y:Option Y):Option Y:=match v with
 | .one (.val (.bool b))=>if b then x else y
 | .one (.nb b)=>if b then y else x
 | _=>none
theorem T1 {Y:Type} {v:AV} {x y:Option Y} {r:Y} (h:onB v x y=some r): ∃b:Bool,(∀θ,v.v θ= .bool b)/\(if b then x else y)=some r:=by
 unfold onB at h;split at h
 ·exact ⟨_,fun θ=>rfl,h⟩
 ·rename_i b;refine ⟨!b,fun θ=>rfl,?_⟩;grind
 grind
def bO {Y:Type} (b:Bool) (x:Option Y):Option Y:=match b with
 | true=>x
 | false=>none
theorem ai {Y:Type} {b:Bool} {x:Option Y} {r:Y} (h:bO b x=some r):b=true/\x=some r:=by
 cases b
 ·cases h
 ·exact ⟨rfl,h⟩
def isLit:Value->Bool
 | .int _ (.ofNat _)=>true
 | .int _ (.negSucc _)=>true
 | _=>false
def arith (b:BinOp) (k:IntKind) (m n:Int):Option Value:=match k,b with
 | .i64,.add=>some (.int .i64 (i64.wrap (m+n)))
 | .i64,.sub=>some (.int .i64 (i64.wrap (m - n)))
 | .i64,.mul=>some (.int .i64 (i64.wrap (m*n)))
 | .i64,.and=>some (.int .i64 (qp m n))
 | .i64,.or=>some (.int .i64 (orI m n))
 | .i64,.xor=>some (.int .i64 (Z5 m n))
 | .u64,.add=>some (.int .u64 (IntKind.u64.wrap (m+n)))
 | .u64,.sub=>some (.int .u64 (IntKind.u64.wrap (m - n)))
 | .u64,.mul=>some (.int .u64 (IntKind.u64.wrap (m*n)))
 | .u64,.and=>some (.int .u64 (QL m n))
 | .u8,.sub=>some (.int .u8 (IntKind.u8.wrap (m - n)))
 | _,.eql=>some (.bool (m==n))
 | _,.neq=>some (.bool (m !=n))
 | _,.lss=>some (.bool (decide (m<n)))
 | _,.leq=>some (.bool (decide (m<=n)))
 | _,.gtr=>some (.bool (decide (m>n)))
 | _,.geq=>some (.bool (decide (m≥n)))
 | _,_=>none
def FR (b:BinOp) (k:IntKind) (m n:Int):Option (Value×((p:Prop)×Decidable p)):=match k,b with
 | .i64,.quo=>some (.int .i64 (FD m n),⟨n≠0,inferInstance⟩)
 | .i64,.rem=>some (.int .i64 (Int.tmod m n),⟨n≠0,inferInstance⟩)
 | .i64,.shl=>some (.int .i64 (vZ m n),⟨0<=n,inferInstance⟩)
 | .i64,.shr=>some (.int .i64 (n9 m n),⟨0<=n,inferInstance⟩)
 | .u64,.shr=>some (.int .u64 (n9 m n),⟨0<=n,inferInstance⟩)
 | _,_=>none
def abB (k:IntKind) (m n:Int):Int:=k.wrap (m*2 ^ (min n.toNat k.bits))
def abC (k:IntKind) (m n:Int):Int:=m.fdiv (2 ^ (min n.toNat k.bits))
def FU (b:BinOp) (k:IntKind) (m n:Int):Option Value:=match b,k with
 | .shl,.i64=>some (.int .i64 (vZ m n))
 | .shr,.i64=>some (.int .i64 (n9 m n))
 | .shr,.u64=>some (.int .u64 (n9 m n))
 | .shl,k=>some (.int k (abB k m n))
 | .shr,k=>some (.int k (abC k m n))
 | _,_=>none
def Z6 {Y:Type} (c:Bool) (p:Prop) (d:Decidable p) (x:Option Y):Option Y:=match c with
 | true=> @ite _ p d x none
 | false=>(@chk p d).bind fun _=>x
theorem H1 {Y:Type} {c:Bool} {p:Prop} {d:Decidable p} {x:Option Y} {r:Y} (h:Z6 c p d x=some r):p/\x=some r:=by
 cases c with
 | true =>
  have h: @ite _ p d x none=some r:=h;grind
 | false =>
  have ⟨u,e,h⟩:=bind_some (show (@chk p d).bind _=some r from h);grind[bE]
def isConst:Operand->Bool
 | .const _=>true
 | _=>false
def eqB (b:BinOp) (m n:Bool):Option Value:=match b with
 | .eql=>some (.bool (m==n))
 | .neq=>some (.bool (m !=n))
 | _=>none
def eqS (b:BinOp) (m n:ByteArray):Option Value:=match b with
 | .eql=>some (.bool (m==n))
 | .neq=>some (.bool (m !=n))
 | _=>none
section
variable {P:Program} {I:Hp} {w0:World} {o:Oper} {ev:Operand->Value} {x y:Operand} {t u:TypeId}
theorem Rc {b:BinOp} {k:IntKind} {m n:Int} {r:Value} (h:arith b k m n=some r) (d:o.op= .binOp b t x y u) (c:ev x= .int k m) (a:ev y= .int k n):OpT P I w0 o ev [] (· =r) (fun _=>[]):=by
 unfold arith at h;split at h <;> first | cases h | (cases ae h)
 ·exact U7 d c a
 ·exact U8 d c a
 ·exact U9 d c a
 ·exact Vf d c a
 ·exact X6 d c a
 ·exact Vg d c a
 ·exact VC d c a
 ·exact VD d c a
 ·exact VE d c a
 ·exact VF d c a
 ·exact bp fun w=>by simp[execOp,d,c,a];rfl
 ·exact vd d c a rfl rfl
 ·exact vd d c a rfl rfl
 ·exact vd d c a rfl rfl
 ·exact vd d c a rfl rfl
 ·exact vd d c a rfl rfl
 ·exact vd d c a rfl rfl
theorem Nh {b:BinOp} {k:IntKind} {m n:Int} {r:Value×((p:Prop)×Decidable p)} (h:FR b k m n=some r) (hp:r.2.1) (d:o.op= .binOp b t x y u) (c:ev x= .int k m) (a:ev y= .int k n):OpT P I w0 o ev [] (· =r.1) (fun _=>[]):=by
 unfold FR at h;split at h <;> first | cases h | (cases ae h)
 ·grind[Va]
 ·grind[Vc]
 ·grind[Vd]
 ·grind[Ve]
 grind[VG]
theorem Ni {b:BinOp} {k j:IntKind} {m n:Int} {r:Value} (h:FU b k m n=some r) (hp:0<=n) (e:o.op= .binOp b t x y u) (d:ev x= .int k m) (c:ev y= .int j n):OpT P I w0 o ev [] (· =r) (fun _=>[]):=by
 have a: ¬n<0:=by omega
 unfold FU at h;split at h <;> first | (cases ae h) | grind
 all_goals exact bp fun w=>by simp[execOp,e,d,c,eqGuard,binOp,Op.shift,a,Result.andThen,vZ,n9,abB,abC,IntKind.bits]
theorem Ll {b:BinOp} {k:IntKind} {m n:Int} {r:Value} (h:FU b k m n=some r):r.oneCell'=true:=by
 unfold FU at h;split at h <;> first | (cases ae h;rfl) | grind
theorem Nj {b:BinOp} {k:IntKind} {m n:Int} {r:Value} (h:arith b k m n=some r):r.oneCell'=true:=by
 unfold arith at h;split at h <;> cases h <;> rfl
theorem Lm {b:BinOp} {k:IntKind} {m n:Int} {r:Value×((p:Prop)×Decidable p)} (h:FR b k m n=some r):r.1.oneCell'=true:=by
 unfold FR at h;split at h <;> cases h <;> rfl
theorem Eb {b:BinOp} {m n:Bool} {r:Value} (h:eqB b m n=some r):r.oneCell'=true:=by
 unfold eqB at h;split at h <;> cases h <;> rfl
theorem VP {b:BinOp} {m n:ByteArray} {r:Value} (h:eqS b m n=some r):r.oneCell'=true:=by
 unfold eqS at h;split at h <;> cases h <;> rfl
theorem JB {b:BinOp} {m n:Bool} {r:Value} (h:eqB b m n=some r) (c:P.underlying t=some .bool) (e:o.op= .binOp b t x y u) (d:ev x= .bool m) (a:ev y= .bool n):OpT P I w0 o ev [] (· =r) (fun _=>[]):=by
 unfold eqB at h;grind[ae,Vh,Vi]
theorem Yj {b:BinOp} {m n:ByteArray} {r:Value} (h:eqS b m n=some r) (d:o.op= .binOp b t x y u) (c:ev x= .string m) (a:ev y= .string n):OpT P I w0 o ev [] (· =r) (fun _=>[]):=by
 unfold eqS at h;grind[ae,Vs,Vt]
end
section
variable {Y:Type} (tt:TT) (s:Sg) (k:Res->Option Y)
def kv (v:Value):Option Y:=k (.pure s (.one (.val v)))
def VQ (x:Operand):Option Y:=(opd s x).bind fun v=>k (.pure s v)
def Yk (c x y:Operand):Option Y:=(opd s c).bind fun c=>onB c ((opd s x).bind fun v=>k (.pure s v)) ((opd s y).bind fun v=>k (.pure s v))
def aaA (x:Operand):Option Y:=match opd s x with
 | some (.one (.val (.bool b)))=>k (.pure s (.one (.nb b)))
 | some (.one (.nb b))=>kv s k (.bool b)
 | _=>none
def aaB (x:Operand):Option Y:=match opd s x with
 | some (.one (.val (.int .i64 n)))=>kv s k (.int .i64 (i64.wrap (-n)))
 | _=>none
def Z7 (b:BinOp) (t:TypeId) (x y:Operand):Option Y:=match opd s x,opd s y with
 | some (.one (.val (.int j m))),some (.one (.val (.int j' n)))=>if j=j' then match arith b j m n with
   | some r=>kv s k r
   | none=>(FR b j m n).bind fun r=>Z6 (isConst y) r.2.1 r.2.2 (kv s k r.1)
  else (FU b j m n).bind fun r=>Z6 (isConst y) (0<=n) inferInstance (kv s k r)
 | some (.one (.val (.bool m))),some (.one (.val (.bool n)))=>(td tt t).bind fun d=>bO d.boo ((eqB b m n).bind fun r=>kv s k r)
 | some (.one (.nb m)),some (.one (.val (.bool n)))=>(td tt t).bind fun d=>bO d.boo ((eqB b (!m) n).bind fun r=>kv s k r)
 | some (.one (.val (.bool m))),some (.one (.nb n))=>(td tt t).bind fun d=>bO d.boo ((eqB b m (!n)).bind fun r=>kv s k r)
 | some (.one (.nb m)),some (.one (.nb n))=>(td tt t).bind fun d=>bO d.boo ((eqB b (!m) (!n)).bind fun r=>kv s k r)
 | some (.one (.val (.string m))),some (.one (.val (.string n)))=>(eqS b m n).bind fun r=>kv s k r
 | some (.agg xs),some (.agg ys)=>(td tt t).bind fun d=>d.eq.bind fun ks=>(aaz ks xs ys).bind fun r=>match b with
  | .eql=>kv s k (.bool r)
  | .neq=>k (.pure s (.one (.nb r)))
  | _=>none
 | _,_=>none
def Yl (S D:TypeId) (x:Operand):Option Y:=(td tt S).bind fun a=>(td tt D).bind fun b=>a.ik.bind fun k1=>b.ik.bind fun k2=>match opd s x,k1,k2 with
 | some (.one (.val (.int j m))),some k1,some k2=>if j=k1 then kv s k (.int k2 (k2.wrap m)) else none
 | _,_,_=>none
def Ec (x:Operand) (i:Nat):Option Y:=match opd s x with
 | some (.tup ys)=>(ys[i]?).bind fun y=>if y.1 then k (.pure s (.agg y.2)) else match y.2 with
  | [x] =>k (.pure s (.one x))
  | _=>none
 | _=>none
def sLen (T:TypeId) (x:Operand):Option Y:=(td tt T).bind fun d=>match d.el,opd s x with
 | some _,some (.one (.rd _ (.sl _ _) xs))=>kv s k (.int .i64 (xs.length:Int))
 | some _,some (.one (.val (.slice none 0 0)))=>kv s k (.int .i64 ((0:Nat):Int))
 | none,some (.one (.val (.string b)))=>d.ik.bind fun k1=>match k1 with
  | none=>kv s k (.int .i64 (b.size:Int))
  | _=>none
 | _,_=>none
def Nk (T:TypeId) (x i:Operand):Option Y:=(td tt T).bind fun d=>match d.el,opd s x,opd s i with
 | some E,some (.one (.rd h (.sl E' t) xs)),some (.one (.val (.int .i64 i)))=>(td tt E).bind fun e=>bO (Nat.beq e.n t.size) ((aP xs i).bind fun a=>k (.pure s (.elr h E' t xs a i 0)))
 | _,_,_=>none
def T2 (T:TypeId) (x:Operand) (f:Nat):Option Y:=(td tt T).bind fun d=>(d.fields[f]?).bind fun q=>match opd s x with
 | some (.elr h E t xs a i off)=>k (.pure s (.elr h E t xs a i (off+q.1)))
 | some (.elo h ver E t xs a i off)=>k (.pure s (.elo h ver E t xs a i (off+q.1)))
 | some (.one (.ptr h off))=>k (.pure s (.one (.ptr h (off+q.1))))
 | _=>none
def T3 (T:TypeId) (x:Operand):Option Y:=(td tt T).bind fun d=>match opd s x with
 | some (.elr h E t xs a i off)=>(xJ d.agg t off d.n).bind fun p=>bO (p.ty.isProd==d.agg) (k (.pure s (Ng s.nxt p.ty (p.get a))))
 | _=>none
end
section
variable {Y:Type} {tt:TT} {s:Sg} {k:Res->Option Y} {P:Program} {w0:World} {o:Oper} {res:Y} {x y:Operand}
def Oks (P:Program) (w0:World) (s:Sg) (o:Oper) (k:Res->Option Y) (res:Y):Prop:= ∃r,k r=some res/\Good P w0 s o r
theorem lA {v:Value} (h:kv s k v=some res) (h1:v.oneCell'=true) (a: ∀J θ,Fine P w0 J θ s->OpT P J w0 o (evL (envL θ s)) [] (· =v) (fun _=>[])):Oks P w0 s o k res:=
 ⟨_,h,fC a fun _ _ _=>h1⟩
theorem JC (a:o.op= .move x\/o.op= .assign x) (h:VQ s k x=some res):Oks P w0 s o k res:=by
 have ⟨v,hv,h⟩:=bind_some h;refine ⟨_,h,fC (fun J θ b=>?_) fun J θ b=>bN b hv⟩;rcases a with a | a
 ·exact QS a (aF hv)
 ·exact Lf a (aF hv)
theorem Re {c:Operand} (f:o.op= .pick c x y) (h:Yk s k c x y=some res):Oks P w0 s o k res:=by
 have ⟨v,hv,h⟩:=bind_some h;have ⟨b,e,h⟩:=T1 h;cases b with
 | true =>
  have ⟨u,d,h⟩:=bind_some (show (opd s x).bind _=some res from h);exact ⟨_,h,fC (fun J θ a=>Jq f ((aF hv).trans (e θ)) (aF d)) fun J θ a=>bN a d⟩
 | false =>
  have ⟨u,d,h⟩:=bind_some (show (opd s y).bind _=some res from h);exact ⟨_,h,fC (fun J θ a=>Jq f ((aF hv).trans (e θ)) (aF d)) fun J θ a=>bN a d⟩
theorem VR {t:TypeId} (c:o.op= .unOp .not t x) (h:aaA s k x=some res):Oks P w0 s o k res:=by
 unfold aaA at h;split at h
 ·rename_i b a;exact ⟨_,h,fC (fun J θ d=>MU c (aF a)) fun _ _ _=>trivial⟩
 ·rename_i b a;exact lA h rfl fun J θ d=>by
   have:=MU (P:=P) (I:=J) (w0:=w0) (b:= !b) c (aF (θ:=θ) a)
   grind
 grind
theorem VS {t:TypeId} (c:o.op= .unOp .neg t x) (h:aaB s k x=some res):Oks P w0 s o k res:=by
 unfold aaB at h;split at h
 ·rename_i b a;exact lA h rfl fun J θ d=>U6 c (aF a)
 grind
theorem Nl (p:TTok P tt) {b:BinOp} {t u:TypeId} (f:o.op= .binOp b t x y u) (h:Z7 tt s k b t x y=some res):Oks P w0 s o k res:=by
 unfold Z7 at h;split at h
 ·rename_i j m C n e c;split at h
  ·rename_i z;subst z;split at h
   ·rename_i r a;exact lA h (Nj a) fun J θ g=>Rc a f (aF e) (aF c)
   ·have ⟨r,a,h⟩:=bind_some h;have ⟨hp,h⟩:=H1 h;exact lA h (Lm a) fun J θ g=>Nh a hp f (aF e) (aF c)
  ·have ⟨r,a,h⟩:=bind_some h;have ⟨hp,h⟩:=H1 h;exact lA h (Ll a) fun J θ g=>Ni a hp f (aF e) (aF c)
 ·rename_i m n e c;have ⟨d,i,h⟩:=bind_some h;have ⟨l,h⟩:=ai h;have ⟨r,a,h⟩:=bind_some h;exact lA h (Eb a) fun J θ g=>JB a ((p.get i).boo l) f (aF e) (aF c)
 ·rename_i m n e c;have ⟨d,i,h⟩:=bind_some h;have ⟨l,h⟩:=ai h;have ⟨r,a,h⟩:=bind_some h;exact lA h (Eb a) fun J θ g=>JB a ((p.get i).boo l) f (aF e) (aF c)
 ·rename_i m n e c;have ⟨d,i,h⟩:=bind_some h;have ⟨l,h⟩:=ai h;have ⟨r,a,h⟩:=bind_some h;exact lA h (Eb a) fun J θ g=>JB a ((p.get i).boo l) f (aF e) (aF c)
 ·rename_i m n e c;have ⟨d,i,h⟩:=bind_some h;have ⟨l,h⟩:=ai h;have ⟨r,a,h⟩:=bind_some h;exact lA h (Eb a) fun J θ g=>JB a ((p.get i).boo l) f (aF e) (aF c)
 ·rename_i m n e c;have ⟨r,a,h⟩:=bind_some h;exact lA h (VP a) fun J θ g=>Yj a f (aF e) (aF c)
 ·rename_i B A e c;have ⟨d,i,h⟩:=bind_some h;have ⟨D,v,h⟩:=bind_some h;have ⟨r,a,h⟩:=bind_some h;have q: ∀(θ:Th) w,EqT P t (AV.v θ (.agg B)) (AV.v θ (.agg A)) r w:=fun θ w=>VO ((p.get i).eq _ v w) a;split at h
  ·exact lA h rfl fun J θ g=>Vu (q θ) f (aF e) (aF c) rfl
  ·exact ⟨_,h,fC (fun J θ g=>Vv (q θ) f (aF e) (aF c) rfl) fun _ _ _=>trivial⟩
  grind
 grind
theorem Rf (d:TTok P tt) {S D:TypeId} (r:o.op= .convert S D x) (h:Yl tt s k S D x=some res):Oks P w0 s o k res:=by
 have ⟨a,n,u⟩:=bind_some h;have ⟨b,f,i⟩:=bind_some u;have ⟨l,p,g⟩:=bind_some i;have ⟨t,q,c⟩:=bind_some g;split at c
 ·rename_i j m l t v;split at c
  ·rename_i e;subst e;exact lA c rfl fun J θ w=>FL ((d.get n).ik _ p) ((d.get f).ik _ q) r (aF v)
  grind
 grind
theorem H2 {i:Nat} (e:o.op= .extract x i) (h:Ec s k x i=some res):Oks P w0 s o k res:=by
 unfold Ec at h;split at h
 ·rename_i j b;have ⟨y,g,h⟩:=bind_some h;have d: ∀θ,((j.map (lx θ)).toArray)[i]? =some (lx θ y):=fun θ=>by grind
  have f:=List.mem_of_getElem? g;split at h
  ·rename_i c;exact ⟨_,h,fC (fun J θ a=>Al e (aF b) ((d θ).trans (by unfold lx;rw[if_pos c];rfl))) fun J θ a=>(bN a b) y f⟩
  ·rename_i c;split at h
   ·rename_i z l;exact ⟨_,h,fC (fun J θ a=>Al e (aF b) ((d θ).trans (by unfold lx;rw[if_neg c,l];rfl))) fun J θ a=>(bN a b) y f z (by grind)⟩
   grind
 grind
theorem VT (e:TTok P tt) {T:TypeId} (j:o.op= .call { callee:=.builtin .len,args:= #[x],argTypes:= #[T] }) (h:sLen tt s k T x=some res):Oks P w0 s o k res:=by
 have ⟨d,i,h⟩:=bind_some h;split at h
 ·rename_i E p n t q c a;exact lA h rfl fun J θ f=>C4 (Hd.of_rd (bN f a).2) ((e.get i).el _ c) j (aF a)
 ·rename_i E c a;exact lA h rfl fun J θ f=>v7 ((e.get i).el _ c) j (aF a)
 ·rename_i b c a;have ⟨l,m,g⟩:=bind_some h;cases l with
  | none=>exact lA g rfl fun J θ f=>HP ((e.get i).ik _ m) j (aF a)
  | some l=>cases g
 grind
theorem Ln (l:TTok P tt) {T:TypeId} {i:Operand} (r:o.op= .indexAddr T x i) (h:Nk tt s k T x i=some res):Oks P w0 s o k res:=by
 have ⟨d,q,h⟩:=bind_some h;split at h
 ·rename_i E v u t w j m c n;have ⟨e,p,h⟩:=bind_some h;have ⟨f,h⟩:=ai h;have ⟨a,g,h⟩:=bind_some h;have f:=al f;refine ⟨_,h,fC (fun J θ b=>?_) fun J θ b=>⟨(bN b c).1,g,(bN b c).2⟩⟩
  have:=sw (I:=J) (w0:=w0) (Hd.of_rd (bN b c).2) ((l.get q).el _ m) (l.get p).ti r (aF c) (aF n) (D1 g)
  rw[f] at this;exact this
 grind
theorem Nm (n:TTok P tt) {T:TypeId} {f:Nat} (g:o.op= .fieldAddr T x f) (h:T2 tt s k T x f=some res):Oks P w0 s o k res:=by
 have ⟨d,p,h⟩:=bind_some h;have ⟨q,m,h⟩:=bind_some h;have e:=(n.get p).fld f q m;split at h
 ·rename_i j E t r a i off c;refine ⟨_,h,fC (fun J θ b=>?_) fun J θ b=>(by have:=bN b c;exact this)⟩
  have:=yM (I:=J) (w0:=w0) e g (aF (θ:=θ) c)
  rw[Nat.add_assoc] at this;exact this
 ·rename_i j l E t r a i off c;refine ⟨_,h,fC (fun J θ b=>?_) fun J θ b=>(by have:=bN b c;exact this)⟩
  have:=yM (I:=J) (w0:=w0) e g (aF (θ:=θ) c)
  rw[Nat.add_assoc] at this;exact this
 ·rename_i j off c;exact ⟨_,h,fC (fun J θ b=>mR e g (aF (θ:=θ) c)) fun J θ b=>(by have:=bN b c;exact this)⟩
 grind
theorem Nn (r:TTok P tt) {T:TypeId} (z:o.op= .load T x) (h:T3 tt s k T x=some res):Oks P w0 s o k res:=by
 have ⟨d,w,h⟩:=bind_some h;split at h
 ·rename_i A E t B a i off m;have ⟨p,hp,h⟩:=bind_some h;have ⟨j,h⟩:=ai h;have hp:=zS _ _ _ _ hp;have b:=r.get w;refine ⟨_,h,List.Perm.refl _,aU rfl,fun J θ u=>?_⟩;have f:=bN u m
  have:=HQ (P:=P) (w0:=w0) (o:=o) (T:=T) f.2.2 f.2.1 hp.fld b.ti (p.ty.rep_size.trans hp.size) b.one z (aF (θ:=θ) m) t.rep_size
  refine OpT.weak this (fun v hv=>?_) (fun v hv=>rfl);have ⟨c,q,l⟩:=hv;rw[<-show (p.ty.isProd==d.agg)=true->p.ty.isProd=d.agg from fun e=>by grind,] at l
  all_goals first | exact j | skip
  have:=qu (P:=P) (w0:=w0) (J:=J) (θ:=upd θ s.nxt v) (id:=s.nxt) (n:=s.nxt+1) (chs:=(Res.pure s (Ng s.nxt p.ty (p.get a))).chs s.nxt) (ax _) ig p.ty (p.get a) c q l
  exact ⟨this.1,this.2,fun g j=>by cases j⟩
 grind
end
def pull (h:Hdr):List Ent->Option (Ent×List Ent)
 | [] =>none
 | e::l=>if Hdr.beq e.1 h then some (e,l) else (pull h l).bind fun r=>some (r.1,e::r.2)
theorem gi {h:Hdr} : ∀ {l:List Ent} {r:Ent×List Ent},pull h l=some r->l.Perm (r.1::r.2)/\r.1.1=h
 | [],r,e=>by cases e
 | x::l,r,e=>by
  unfold pull at e;split at e
  ·rename_i b;obtain rfl:=ae e;exact ⟨List.Perm.refl _,Hdr.beq_eq b⟩
  ·obtain ⟨q,a,e⟩:=bind_some e;obtain rfl:=ae e;obtain ⟨p,k⟩:=gi a;exact ⟨(p.cons x).trans (List.Perm.swap _ _ _),k⟩
def Cw (h:Hdr) (l:List Ent):Bool:=l.all fun e=> !(Hdr.beq e.1 h)
theorem Ar: ∀l:List Nat,XP l l=true
 | [] =>rfl
 | a::l=>by show (Nat.beq a a&&XP l l)=true;rw[Nat.beq_refl,Ar l];rfl
theorem pG {h:Hdr} {l:List Ent} (k:Cw h l=true) {e:Ent} (b:e∈l):e.1≠h:=by
 intro a
 have:=(List.all_eq_true.1 k) e b
 rw[a] at this;unfold Hdr.beq at this;rw[Nat.beq_refl,Ar] at this;cases this
structure Row where
 ver:Nat
 E:TypeId
 t:Ty
 xs:List t.den
 rest:List Ent
def rowOf (h:Hdr) (chs:List Ent):Option Row:=(pull h chs).bind fun r=>match r.1.2.2 with
 | .own (.sl E t) xs=>bO (Cw h r.2) (some ⟨r.1.2.1,E,t,xs,r.2⟩)
 | _=>none
def Row.ent (r:Row) (h:Hdr):Ent:=(h,r.ver,.own (.sl r.E r.t) r.xs)
theorem bF {h:Hdr} {chs:List Ent} {r:Row} (e:rowOf h chs=some r):chs.Perm (r.ent h::r.rest)/\ ∀e∈r.rest,e.1≠h:=by
 obtain ⟨q,g,e⟩:=bind_some e;obtain ⟨p,k⟩:=gi g;obtain ⟨⟨a,b,c⟩,rest⟩:=q;obtain rfl:a=h:=k;cases c with
 | own j d =>
  cases j with
  | sl E t =>
   obtain ⟨f,e⟩:=ai (show bO (Cw a rest) _=some r from e);obtain rfl:=ae e;exact ⟨p,fun e i=>pG f i⟩
  | _=>cases e
 | _=>cases e
theorem wj {h:Hdr} {chs:List Ent} {r:Row} (e:rowOf h chs=some r) {n:Nat} (hv:r.ver<n):Mem chs n h r.ver (.own (.sl r.E r.t) r.xs):=by
 obtain ⟨p,k⟩:=bF e;refine ⟨hv,fun x b c d=>?_⟩;rcases aA (p.mem_iff.1 b) with rfl | b
 ·rcases d.2 with a | a
  ·exact a.2
  ·exact a.elim
 ·exact absurd d.1 (k x b)
structure Blk where
 ver:Nat
 T:TypeId
 cells:List LV
 rest:List Ent
def rf (h:Hdr) (chs:List Ent):Option Blk:=(pull h chs).bind fun r=>match r.1.2.2 with
 | .blk T cells=>some ⟨r.1.2.1,T,cells,r.2⟩
 | _=>none
def Blk.ent (r:Blk) (h:Hdr):Ent:=(h,r.ver,.blk r.T r.cells)
theorem kA {h:Hdr} {chs:List Ent} {r:Blk} (e:rf h chs=some r):chs.Perm (r.ent h::r.rest):=by
 obtain ⟨q,d,e⟩:=bind_some e;obtain ⟨p,k⟩:=gi d;obtain ⟨⟨b,a,c⟩,rest⟩:=q;obtain rfl:b=h:=k;cases c with
 | blk T cells =>
  obtain rfl:=ae (show some _=some r from e);exact p
 | _=>cases e
def mz:AV->Option (List LV)
 | .one x=>some [x]
 | .agg xs=>some xs
 | _=>none
theorem jI {v:AV} {cs:List LV} (h:mz v=some cs) {P:Program} {w0:World} {J:Hp} {θ:Th} {n:Nat} {chs:List Ent} (hv:v.ok P w0 J θ n chs):(∀x∈cs,x.ok P w0 J θ n)/\(v.v θ).cells=(cs.map (·.v θ)).toArray:=by
 unfold mz at h;split at h
 ·obtain rfl:=ae h;exact ⟨fun x a=>by obtain rfl:=ak a;exact hv,FP (LV.one (show LV.ok P w0 J θ n _ from hv))⟩
 ·obtain rfl:=ae h;exact ⟨hv,rfl⟩
 ·cases h
theorem H3 {P:Program} {w0:World} {J:Hp} {θ:Th} {n:Nat} {cs:List LV} (h: ∀x∈cs,x.ok P w0 J θ n):(cs.map (·.v θ)).all (·.oneCell')=true:=List.all_eq_true.2 fun v hv=>by
 obtain ⟨x,a,rfl⟩:=List.mem_map.1 hv;exact LV.one (h x a)
def Ed (k:IntKind):LV->Option Int
 | .val (.int k' n)=>if k'=k then some n else none
 | _=>none
def C8:LV->Option Bool
 | .val (.bool b)=>some b
 | .nb b=>some (!b)
 | _=>none
def Lo:LV->Option ByteArray
 | .val (.string b)=>some b
 | _=>none
def isNil:Value->Bool
 | .slice none 0 0=>true
 | _=>false
theorem oc {v:Value} (h:isNil v=true):v= .slice none 0 0:=by
 unfold isNil at h;split at h
 ·rfl
 ·cases h
def Rg (E:TypeId) (t:Ty):LV->Option (List t.den)
 | .rd _ t' d=>oH t' (.sl E t) d
 | .val v=>bO (isNil v) (some [])
 | _=>none
def C9:Value->Bool
 | .pointer none=>true
 | _=>false
theorem As {v:Value} (h:C9 v=true):v= .pointer none:=by
 unfold C9 at h;split at h
 ·rfl
 ·cases h
def XQ (T E:TypeId) (t:Ty):LV->Option (Tr t.den)
 | .rd _ t' d=>oH t' (.tree T E t) d
 | .val v=>bO (C9 v) (some .nil)
 | _=>none
def hd1 {α:Type} (f:LV->Option α):List LV->Option (α×List LV)
 | x::r=>(f x).bind fun d=>some (d,r)
 | [] =>none
def eS:(t:Ty)->List LV->Option (t.den×List LV)
 | .int k,l=>hd1 (Ed k) l
 | .bool,l=>hd1 C8 l
 | .str,l=>hd1 Lo l
 | .raw,_=>none
 | .prod a b,l=>(eS a l).bind fun x=>(eS b x.2).bind fun y=>some ((x.1,y.1),y.2)
 | .sl E t,l=>hd1 (Rg E t) l
 | .fro t,l=>eS t l
 | .bag t,l=>eS t l
 | .wr t,l=>eS t l
 | .tree T E t,l=>hd1 (XQ T E t) l
theorem Ee {k:IntKind} {x:LV} {n:Int} (h:Ed k x=some n) (θ:Th):x.v θ= .int k n:=by
 unfold Ed at h;split at h
 ·split at h
  ·rename_i a;subst a;obtain rfl:=ae h
   rfl
  ·cases h
 ·cases h
theorem FV {x:LV} {n:Bool} (h:C8 x=some n) (θ:Th):x.v θ= .bool n:=by
 unfold C8 at h;split at h
 ·obtain rfl:=ae h;rfl
 ·obtain rfl:=ae h;rfl
 ·cases h
theorem JD {x:LV} {n:ByteArray} (h:Lo x=some n) (θ:Th):x.v θ= .string n:=by
 unfold Lo at h;split at h
 ·obtain rfl:=ae h;rfl
 ·cases h
theorem Au {E:TypeId} {t:Ty} {x:LV} {d:List t.den} (h:Rg E t x=some d) {P:Program} {w0:World} {J:Hp} {θ:Th} {n:Nat} (c:x.ok P w0 J θ n):(Ty.sl E t).rep.rd J [x.v θ] d:=by
 cases x with
 | rd f e a=>exact iZ (show oH e (.sl E t) a=some d from h) c.2
 | val v =>
  obtain ⟨b,h⟩:=ai (show bO (isNil v) (some [])=some d from h);obtain rfl:=ae h;show (Ty.sl E t).rep.rd J [v] [];rw[oc b];exact TU
 | _=>cases h
theorem H4 {T E:TypeId} {t:Ty} {x:LV} {d:Tr t.den} (h:XQ T E t x=some d) {P:Program} {w0:World} {J:Hp} {θ:Th} {n:Nat} (c:x.ok P w0 J θ n):(Ty.tree T E t).rep.rd J [x.v θ] d:=by
 cases x with
 | rd f e a=>exact iZ (show oH e (.tree T E t) a=some d from h) c.2
 | val v =>
  obtain ⟨b,h⟩:=ai (show bO (C9 v) (some .nil)=some d from h);obtain rfl:=ae h;show (Ty.tree T E t).rep.rd J [v] .nil;rw[As b];exact ⟨_,rfl,.nil⟩
 | _=>cases h
theorem FW {α:Type} {f:LV->Option α} {cs:List LV} {r:α×List LV} (h:hd1 f cs=some r): ∃x,cs=x::r.2/\f x=some r.1:=by
 cases cs with
 | nil=>cases h
 | cons x l =>
  obtain ⟨d,a,h⟩:=bind_some (show (f x).bind _=some r from h);obtain rfl:=ae h;exact ⟨x,rfl,a⟩
theorem jb {P:Program} {w0:World} {J:Hp} {θ:Th} {n:Nat} : ∀ {t:Ty} {cs:List LV} {r:t.den×List LV},eS t cs=some r->(∀x∈cs,x.ok P w0 J θ n)-> ∃e,cs=e++r.2/\t.rep.rd J (e.map (·.v θ)) r.1:=by
 intro t;induction t with
 | int k =>
  intro cs r h c;obtain ⟨x,rfl,d⟩:=FW (show hd1 _ _=some r from h);exact ⟨[x],rfl,congrArg (fun v=>[v]) (Ee d θ)⟩
 | bool =>
  intro cs r h c;obtain ⟨x,rfl,d⟩:=FW (show hd1 _ _=some r from h);exact ⟨[x],rfl,congrArg (fun v=>[v]) (FV d θ)⟩
 | str =>
  intro cs r h c;obtain ⟨x,rfl,d⟩:=FW (show hd1 _ _=some r from h);exact ⟨[x],rfl,congrArg (fun v=>[v]) (JD d θ)⟩
 | raw =>
  intro cs r h c;cases (show none=some r from h)
 | prod a b iha ihb =>
  intro cs r h c;obtain ⟨x,d,h⟩:=bind_some (show (eS a cs).bind _=some r from h);obtain ⟨y,l,h⟩:=bind_some h;obtain rfl:=ae h;obtain ⟨e,rfl,g⟩:=iha d c;obtain ⟨f,j,m⟩:=ihb l fun z i=>c z (bq _ i);exact ⟨e++f,by rw[j,aC],e.map (·.v θ),f.map (·.v θ),by rw[aW],g,m⟩
 | sl E t ih =>
  intro cs r h c;obtain ⟨x,rfl,d⟩:=FW (show hd1 _ _=some r from h);exact ⟨[x],rfl,Au d (c x (by simp))⟩
 | fro t ih =>
  intro cs r h c;exact ih (show eS t cs=some r from h) c
 | bag t ih =>
  intro cs r h c;exact ih (show eS t cs=some r from h) c
 | wr t ih =>
  intro cs r h c;exact ih (show eS t cs=some r from h) c
 | tree T E t ih =>
  intro cs r h c;obtain ⟨x,rfl,d⟩:=FW (show hd1 _ _=some r from h);exact ⟨[x],rfl,H4 d (c x (by simp))⟩
section
variable {P:Program} {I J:Hp} {w0 w w':World} {C:List Ch} {o:Oper} {ev:Operand->Value} {α β:Type} {R:Rep α} {S:Rep β} {E T:TypeId}
theorem Av {v:Value} {xs:List α} {i:Nat} {x:α} {F:List Nat} (h:(aw E R).own I w [v] xs F) (A:xs[i]? =some x) :
  ∃g a cap cur d c b cell f G,v= .slice (some ⟨g,a,none⟩) xs.length cap/\xs.length<=lim/\w.heap[g]? =some (.cells cur E (0,0))/\xs.length<=cap/\cap<=maxLen/\a+cap*R.size<=cur.size/\F=g::(d++(G++c)) /\
   cur.toList.drop a=b++(cell++f)/\b.length=i*R.size/\cell.length=R.size/\OwnEls R I w b (xs.take i) d/\R.own I w cell x G/\OwnEls R I w f (xs.drop (i+1)) c:=by
 have z:=(List.getElem?_eq_some_iff.1 A).1;obtain ⟨t,⟨-,rfl,-⟩ | ⟨g,a,cap,cur,K,hv,p,u,l,q,rfl,j⟩⟩:=h
 ·grind
 obtain rfl:v= .slice (some ⟨g,a,none⟩) xs.length cap:=by grind
 have e:xs=xs.take i++(x::xs.drop (i+1)):=by
  grind[List.drop_eq_getElem_cons,List.take_append_drop]
 rw[e] at j;obtain ⟨b,D,d,H,y,k,rfl,m,cells,f,G,c,rfl,s,rfl,B,n⟩:=j.cut2;have r:(xs.take i).length=i:=by rw[aB];omega
 rw[r] at k;exact ⟨g,a,cap,cur,d,c,b,cells,f,G,rfl,t,p,u,l,q,rfl,y,k,s,m,B,n⟩
theorem Ef {off n k:Nat} {f:α->β} {u:α->β->α} {x:Operand} {v:Value} {xs:List α} {a:α} {i:Int} {agg:Bool} (W:S.Sh) (z:aP xs i=some a) (M:Lens R off S f u) (H:TI P T agg n) (h:S.size=n) (hn:(agg || n==1)=true) (N:o.op= .load T x) (A:ev x=pt v (i.toNat*k+off)) (B:R.size=k) :
  OpT P I w0 o ev [Ch.own (aw E R) [v] xs] (fun u=> ∃d,S.rd I d (f a)/\Lds agg d u) (fun _=>[Ch.own (aw E R) [v] xs]):=by
 intro w C m;obtain ⟨Y,hi,F,⟨G,K,rfl,L,e3⟩,h2,h3⟩:=id m;obtain ⟨g,c,cap,cur,K1,K3,c1,cell,c3,D,rfl,hl,y,k2,k3,k4,rfl,V,U,f3,-,X,-⟩:=Av L (ve z);obtain ⟨d,Z,K2,p,Q,s,-⟩:=M I w cell a D X;obtain ⟨-,q⟩:=W s;have l:=(S.rd_len q).trans h;have ⟨u,t,O⟩:=MV (P:=P) (w:=w) (b:=g) (off:=c+(i.toNat*k+off)) H l (fun e=>by grind) (fun j u r=>by
  rw[<-Q,List.getElem?_take] at r;split at r
  ·simp[World.cell?,y];rw[<-Array.getElem?_toList,show c+(i.toNat*k+off)+j=c+(i.toNat*k+off+j) from Nat.add_assoc _ _ _,<-List.getElem?_drop,V,List.getElem?_append_right (by grind),List.getElem?_append_left (by grind),U,B];grind
  grind)
 simp[execOp,N,A,pt,ptB,ptO,Sem.run_bind,t,Result.andThen_ok];exact ⟨⟨d,q,O⟩,m⟩
theorem Ym {off:Nat} {u:α->β->α} {xs:List α} {i:Nat} {a:α} {g ofs cap:Nat} {cur:Array Value} {h K2 e:List Nat} {j cell m:List Value} {v0:Value}
  (t:i<xs.length) (V:xs.length<=lim) (A:w.heap[g]? =some (.cells cur E (0,0))) (W:xs.length<=cap) (H:cap<=maxLen) (U:ofs+cap*R.size<=cur.size) (G:cur.toList.drop ofs=j++(cell++m)) (D:j.length=i*R.size) (O:cell.length=R.size)
  (x:OwnEls R I w j (xs.take i) h) (B:OwnEls R I w m (xs.drop (i+1)) e) (hv:cell[off]? =some v0) (s: ∀b,b∈h++(K2++e)->b≠g) (Q: ∀b,b∈K2->b<w.heap.size) (X:S.size=1)
  (M: ∀J w' d' y l,I.le J->(∀b,b∈K2->w'.heap[b]? =w.heap[b]?)->S.own J w' d' y l-> ∃F,F.Perm (l++K2)/\R.own J w' (spl cell off d') (u a y) F) :
  (Ch.gap (aw E R) [.slice (some ⟨g,ofs,none⟩) xs.length cap] S (fun y=>xs.set i (u a y)) g (ofs+(i*R.size+off)) v0).holds I w (g::(h++(K2++e))):=by
 have z:=(List.getElem?_eq_some_iff.1 hv).1;refine ⟨by simp,⟨cur,E,A,?_⟩,fun b c=>?_,fun J w' k y l r K L N=>?_⟩
 ·rw[<-Array.getElem?_toList,<-List.getElem?_drop (i:=ofs),G,List.getElem?_append_right (by omega),List.getElem?_append_left (by omega),D];grind
 ·rcases aA c with rfl | c
  ·grind
  ·rcases aG c with c | c
   ·exact x.live b c
   ·rcases aG c with c | c
    ·grind
    ·exact B.live b c
 ·have v:=fun b c=>K b (bY _ c) (s b c);have ⟨n,p,q⟩:=M J w' [k] y l r (fun b c=>v b (bq _ (bm _ c))) N;have f:=L cur E A;have d:(cur.setIfInBounds (ofs+(i*R.size+off)) k).toList.drop ofs=j++(spl cell off [k] ++m):=by
   rw[Array.toList_setIfInBounds,List.drop_set,if_neg (by omega),Nat.add_sub_cancel_left,G,List.set_append_right _ _ (by omega),List.set_append_left _ _ (by omega),D];rw[show i*R.size+off - i*R.size=off from by omega];rfl
  refine ⟨g::(h++(n++e)),?_,by grind,.inr ⟨g,ofs,cap,_,h++(n++e),by grind,f,by grind,H,by grind,rfl,?_⟩⟩
  ·grind
  ·show OwnEls R J w' _ (xs.set i (u a y)) _;rw[List.set_eq_take_append_cons_drop,if_pos t,d];exact OwnEls.glue (ys:=xs.take i) (zs:=u a y::xs.drop (i+1)) (by grind) ((x.mono r).stay fun b c=>v b (bm _ c))
    ⟨spl cell off [k],m,n,e,rfl,by rw[xF];exact O,rfl,q,(B.mono r).stay fun b c=>v b (bq _ (bq _ c))⟩
theorem Eg {off k:Nat} {f:α->β} {u:α->β->α} {x:Operand} {v:Value} {xs:List α} {a:α} {i:Int} (M:aP xs i=some a) (hf:Lens R off S f u) (hT:TI P T false 1) (H:S.size=1) (ho:o.op= .load T x) (hx:ev x=pt v (i.toNat*k+off)) (hk:R.size=k) :
  OpT P I w0 o ev [Ch.own (aw E R) [v] xs] (fun u=>u.oneCell'=true) (fun c=>[Ch.own S [c] (f a),Ch.gap (aw E R) [v] S (fun y=>xs.set i.toNat (u a y)) (ptB v) (ptO v+(i.toNat*k+off)) c]):=by
 intro w C Y;obtain ⟨n,hi,F,⟨G,K,rfl,e2,e3⟩,h2,h3⟩:=Y;have D:=(List.getElem?_eq_some_iff.1 (ve M)).1;obtain ⟨g,m,cap,cur,r,q,c1,cell,c3,N,rfl,hl,L,k2,W,k4,rfl,U,Q,f3,X,V,f6⟩:=Av e2 (ve M);have ⟨d,s,K2,p,e1,z,e5⟩:=hf I w cell a N V;have A:=(S.own_len z).trans H;obtain ⟨c,rfl⟩:=List.length_eq_one_iff.1 A;have hc:cell[off]? =some c:=by
  have:=congrArg (fun l:List Value=>l[0]?) e1
  simpa [List.getElem?_take,List.getElem?_drop,H] using this
 have ⟨O,Z,hu⟩:=MV (P:=P) (w:=w) (b:=g) (off:=m+(i.toNat*k+off)) (d:=[c]) hT rfl (fun _=>rfl) (fun j u hj=>by
  have t:j=0:=by have:=(List.getElem?_eq_some_iff.1 hj).1;simpa using this
  subst t;simp only[World.cell?,L];rw[<-Array.getElem?_toList,show m+(i.toNat*k+off)+0=m+(i.toNat*k+off+0) from Nat.add_assoc _ _ _,<-List.getElem?_drop,U,List.getElem?_append_right (by grind),List.getElem?_append_left (by grind),Q,hk];simp_all)
 obtain rfl:c=O:=by simpa using (show [c] = [O] from hu)
 simp[execOp,ho,hx,pt,ptB,ptO,Sem.run_bind,Z,Result.andThen_ok];have h:((g::(r++(N++q)))++K).Perm (s++((g::(r++(K2++q)))++K)):=by
  grind
 have B:=h.nodup_iff.1 h2;refine ⟨S.own_one z c (by simp),n,hi,s++((g::(r++(K2++q)))++K),⟨s,_,rfl,z,g::(r++(K2++q)),K,rfl,?_,e3⟩,B,fun b n=>h3 b (h.mem_iff.2 n)⟩
 have:=Ym (u:=u) (a:=a) (v0:=c) D hl L k2 W k4 U Q f3 X f6 hc (K2:=K2) (S:=S) (fun b n e=>by
  grind) (fun b n=>R.own_live V b (p.mem_iff.2 (bq _ n))) H e5
 grind
theorem St.settle {cs:List Value} {f:β->α} {b off:Nat} {v:Value} {y:β} (h:St I w0 w (Ch.own S [v] y::Ch.gap R cs S f b off v::C)):St I w0 w (Ch.own R cs (f y)::C):=by
 obtain ⟨j,n,F,⟨G,K,rfl,t,s,c,rfl,⟨A,⟨cur,E,u,r⟩,z,m⟩,x⟩,i,l⟩:=h;have ⟨F,p,q⟩:=m I w v y G Hp.le.rfl (fun _ _ _=>rfl) (fun a g k=>by
  rw[u] at k⊢;obtain ⟨rfl,rfl⟩:cur=a/\E=g:=by grind
  congr 2;grind) t
 have d:(F++c).Perm (G++(s++c)):=by rw[<-aC];exact p.append_right _
 exact ⟨j,n,F++c,⟨F,c,rfl,q,x⟩,d.nodup_iff.2 i,fun b e=>l b (d.mem_iff.1 e)⟩
theorem Eh {cs:List Value} {f:β->α} {b off:Nat} {v u:Value} {x y:Operand} (D:TI P T false 1) (Q:o.op= .store T x y) (Y:ev x= .pointer (some ⟨b,off,none⟩)) (W:ev y=u) (h1:u.oneCell'=true) :
  OpT P I w0 o ev [Ch.gap R cs S f b off v] (fun _=>True) (fun _=>[Ch.gap R cs S f b off u]):=by
 intro w C k;obtain ⟨M,hi,F,⟨K,K2,rfl,⟨k1,⟨cur,E,U,L⟩,Z,k4⟩,e3⟩,h4,h5⟩:=id k;have s:=Jr (P:=P) (w:=w) D (g:=b) (o:=off) (l:=[u]) (FP h1) rfl (fun j hj=>by
  simp_all[World.cell?,Option.isSome_none,Bool.false_eq_true,ite_false,Nat.add_zero]) (fun j=>by simp[World.frozen?,U]) (fun v hv=>by grind)
 simp only[execOp,Q,Y,W,Sem.run_bind,s,Result.andThen_ok];refine ⟨trivial,?_⟩;refine St.step (w:=w) (c:=[Ch.gap R cs S f b off v]) (c':=[Ch.gap R cs S f b off u]) (w':=w.setCell ⟨b,off,none⟩ u) k rfl rfl rfl (by simp_all) ?_;rintro F ⟨K,K',rfl,⟨n,⟨m,r,p,X⟩,q3,A⟩,rfl⟩ h N;rw[List.append_nil] at *;refine ⟨fun c a q=>Below.heap_setCell _ _ _ _ fun e=>q (e ▸ n),K,⟨K,[],by simp,⟨n,⟨_,r,gC p,?_⟩,fun c a=>by simp_all,fun J d B H G O s1 t=>A J d B H G O (fun c a V=>by grind[Below.heap_setCell]) fun i z a=>?_⟩,rfl⟩,h,fun c a=>.inl a⟩
 ·grind
 ·have:=t _ z (gC (v:=u) (o:=off) a)
  simp_all
end
def wk (E:TypeId) (t:Ty) (x:LV) (chs:List Ent):Option (List t.den×List Ent×List Ent):=match x with
 | .own h=>(pull h chs).bind fun r=>match r.1.2.2 with
  | .own t' d=>(oJ t' (.sl E t) d).bind fun d=>some (d,[r.1],r.2)
  | _=>none
 | .val v=>bO (isNil v) (some ([],[],chs))
 | _=>none
def Aw (T E:TypeId) (t:Ty) (x:LV) (chs:List Ent):Option (Tr t.den×List Ent×List Ent):=match x with
 | .own h=>(pull h chs).bind fun r=>match r.1.2.2 with
  | .own t' d=>(oJ t' (.tree T E t) d).bind fun d=>some (d,[r.1],r.2)
  | _=>none
 | x=>(XQ T E t x).bind fun d=>some (d,[],chs)
structure Took (t:Ty) where
 d:t.den
 cells:List LV
 used:List Ent
 rest:List Ent
def eG:(t:Ty)->List LV->List Ent->Option (Took t)
 | .prod a b,l,chs=>(eG a l chs).bind fun x=>(eG b x.cells x.rest).bind fun y=>some ⟨(x.d,y.d),y.cells,x.used++y.used,y.rest⟩
 | .sl E t,l,chs=>match l with
  | x::r=>(wk E t x chs).bind fun q=>some ⟨q.1,r,q.2.1,q.2.2⟩
  | [] =>none
 | .int k,l,chs=>(eS (.int k) l).bind fun x=>some ⟨x.1,x.2,[],chs⟩
 | .bool,l,chs=>(eS .bool l).bind fun x=>some ⟨x.1,x.2,[],chs⟩
 | .str,l,chs=>(eS .str l).bind fun x=>some ⟨x.1,x.2,[],chs⟩
 | .raw,_,_=>none
 | .fro t,l,chs=>(eS t l).bind fun x=>some ⟨x.1,x.2,[],chs⟩
 | .bag t,l,chs=>(eG t l chs).bind fun x=>some ⟨x.d,x.cells,x.used,x.rest⟩
 | .wr t,l,chs=>(eG t l chs).bind fun x=>some ⟨x.d,x.cells,x.used,x.rest⟩
 | .tree T E t,l,chs=>match l with
  | x::r=>(Aw T E t x chs).bind fun q=>some ⟨q.1,r,q.2.1,q.2.2⟩
  | [] =>none
theorem Ax {E:TypeId} {t:Ty} {x:LV} {chs:List Ent} {q:List t.den×List Ent×List Ent} (h:wk E t x chs=some q) (P:Program) (J:Hp) (θ:Th):chs.Perm (q.2.1++q.2.2)/\Bun J (q.2.1.map (toCh P θ)) (Ty.sl E t).rep [x.v θ] q.1:=by
 cases x with
 | own a =>
  have ⟨r,f,h⟩:=bind_some (show (pull a chs).bind _=some q from h);have ⟨p,k⟩:=gi f;have ⟨⟨i,b,c⟩,rest⟩:=r;obtain rfl:i=a:=k;cases c with
  | own l d =>
   have ⟨m,j,h⟩:=bind_some (show (oJ l (.sl E t) d).bind _=some q from h);obtain ⟨e,rfl⟩:=oK j;cases ae h;subst e;exact ⟨p,M5⟩
  | _=>cases h
 | val v =>
  have ⟨g,h⟩:=ai (show bO (isNil v) _=some q from h);cases ae h;refine ⟨List.Perm.refl _,?_⟩;rw[oc g];exact Vx
 | _=>cases h
theorem Ay {E:TypeId} {t:Ty} {x:LV} {chs:List Ent} {q:List t.den×List Ent×List Ent} (h:wk E t x chs=some q):chs.Perm (q.2.1++q.2.2):=by
 cases x with
 | own a =>
  have ⟨r,c,h⟩:=bind_some (show (pull a chs).bind _=some q from h);grind[gi,bind_some,oJ,bind,ae]
 | val v =>
  have ⟨b,h⟩:=ai (show bO (isNil v) _=some q from h);grind[ae,List.Perm.refl]
 | _=>cases h
theorem Az {T E:TypeId} {t:Ty} {x:LV} {chs:List Ent} {q:Tr t.den×List Ent×List Ent} (h:Aw T E t x chs=some q):chs.Perm (q.2.1++q.2.2):=by
 unfold Aw at h;split at h
 ·have ⟨r,a,h⟩:=bind_some h;have ⟨p,k⟩:=gi a;split at h
  ·have ⟨c,b,h⟩:=bind_some h;grind
  grind
 ·have ⟨d,b,h⟩:=bind_some h;grind[ae,List.Perm.refl]
theorem wm {J:Hp} {α:Type} {R:Rep α} (a:Cpy R R) {c:List Value} {x:α} (h:R.rd J c x):Bun J [] R c x:=fun w F k=>by
 rw[show F= [] from k];exact a h
theorem No {T E:TypeId} {t:Ty} {x:LV} {chs:List Ent} {q:Tr t.den×List Ent×List Ent} (h:Aw T E t x chs=some q) {P:Program} {w0:World} {J:Hp} {θ:Th} {n:Nat} (j:x.ok P w0 J θ n):Bun J (q.2.1.map (toCh P θ)) (Ty.tree T E t).rep [x.v θ] q.1:=by
 unfold Aw at h;split at h
 ·rename_i g;have ⟨r,f,h⟩:=bind_some h;have ⟨p,k⟩:=gi f;have ⟨⟨i,b,c⟩,rest⟩:=r;obtain rfl:i=g:=k;cases c with
  | own l d =>
   have ⟨m,a,h⟩:=bind_some (show (oJ l (.tree T E t) d).bind _=some q from h);obtain ⟨e,rfl⟩:=oK a;cases ae h;subst e;exact M5
  | _=>cases h
 ·have ⟨d,a,h⟩:=bind_some h;cases ae h;exact wm Q7 (H4 a j)
theorem kN {P:Program} {w0:World} {J:Hp} {θ:Th} {n:Nat} : ∀ {t:Ty} {cs:List LV} {chs:List Ent} {r:Took t},eG t cs chs=some r->(∀x∈cs,x.ok P w0 J θ n)->
  chs.Perm (r.used++r.rest)/\ ∃d,cs=d++r.cells/\Bun J (r.used.map (toCh P θ)) t.rep (d.map (·.v θ)) r.d:=by
 intro t;induction t with
 | prod a b j i =>
  intro cs chs r h c;have ⟨x,f,h⟩:=bind_some (show (eG a cs chs).bind _=some r from h);have ⟨y,v,h⟩:=bind_some h;cases ae h;obtain ⟨o,d,rfl,s⟩:=j f c;have ⟨w,m,B,A⟩:=i v fun z u=>c z (bq _ u);refine ⟨by rw[aC];exact o.trans (w.append_left _),d++m,by grind,?_⟩;rw[aW,aW];exact Q2 s A
 | sl E t ih =>
  intro cs chs r h c;cases cs with
  | nil=>cases h
  | cons x l =>
   have ⟨q,g,h⟩:=bind_some (show (wk E t x chs).bind _=some r from h);cases ae h;have ⟨p,k⟩:=Ax g P J θ;exact ⟨p,[x],rfl,k⟩
 | fro t ih =>
  intro cs chs r h c;have ⟨x,f,h⟩:=bind_some (show (eS t cs).bind _=some r from h);cases ae h;have ⟨d,e,k⟩:=jb f c;exact ⟨List.Perm.refl _,d,e,Yd k⟩
 | wr t ih =>
  intro cs chs r h c;have ⟨x,f,h⟩:=bind_some (show (eG t cs chs).bind _=some r from h);cases ae h;exact ih f c
 | bag t ih =>
  intro cs chs r h c;have ⟨x,f,h⟩:=bind_some (show (eG t cs chs).bind _=some r from h);cases ae h;have ⟨p,d,e,k⟩:=ih f c;exact ⟨p,d,e,VK k⟩
 | tree T E t ih =>
  intro cs chs r h c;cases cs with
  | nil=>cases h
  | cons x l =>
   have ⟨q,g,h⟩:=bind_some (show (Aw T E t x chs).bind _=some r from h);cases ae h;exact ⟨Az g,[x],rfl,No g (c x (by simp))⟩
 | int k =>
  intro cs chs r h c;have ⟨x,f,h⟩:=bind_some (show (eS _ cs).bind _=some r from h);cases ae h;have ⟨d,e,k⟩:=jb f c;exact ⟨List.Perm.refl _,d,e,wm v8 k⟩
 | bool =>
  intro cs chs r h c;have ⟨x,f,h⟩:=bind_some (show (eS _ cs).bind _=some r from h);cases ae h;have ⟨d,e,k⟩:=jb f c;exact ⟨List.Perm.refl _,d,e,wm Ju k⟩
 | str =>
  intro cs chs r h c;have ⟨x,f,h⟩:=bind_some (show (eS _ cs).bind _=some r from h);cases ae h;have ⟨d,e,k⟩:=jb f c;exact ⟨List.Perm.refl _,d,e,wm MZ k⟩
 | raw =>
  intro cs chs r h c;cases (show none=some r from h)
theorem ij: ∀ {t:Ty} {cs:List LV} {chs:List Ent} {r:Took t},eG t cs chs=some r->chs.Perm (r.used++r.rest):=by
 intro t;induction t with
 | prod a b e d =>
  intro cs chs r h;have ⟨x,c,h⟩:=bind_some (show (eG a cs chs).bind _=some r from h);have ⟨y,f,h⟩:=bind_some h;cases ae h;exact (by rw[aC];exact (e c).trans ((d f).append_left _))
 | sl E t ih =>
  intro cs chs r h;cases cs with
  | nil=>cases h
  | cons x l =>
   have ⟨q,g,h⟩:=bind_some (show (wk E t x chs).bind _=some r from h);grind[ae,Ay]
 | fro t ih =>
  intro cs chs r h;have ⟨x,c,h⟩:=bind_some (show (eS t cs).bind _=some r from h);grind[ae,List.Perm.refl]
 | wr t ih =>
  intro cs chs r h;have ⟨x,c,h⟩:=bind_some (show (eG t cs chs).bind _=some r from h);grind
 | bag t ih =>
  intro cs chs r h;have ⟨x,c,h⟩:=bind_some (show (eG t cs chs).bind _=some r from h);grind
 | tree T E t ih =>
  intro cs chs r h;cases cs with
  | nil=>cases h
  | cons x l =>
   have ⟨q,g,h⟩:=bind_some (show (Aw T E t x chs).bind _=some r from h);grind[ae,Az]
 | int k =>
  intro cs chs r h;have ⟨x,c,h⟩:=bind_some (show (eS _ cs).bind _=some r from h);grind[ae,List.Perm.refl]
 | bool =>
  intro cs chs r h;have ⟨x,c,h⟩:=bind_some (show (eS _ cs).bind _=some r from h);grind[ae,List.Perm.refl]
 | str =>
  intro cs chs r h;have ⟨x,c,h⟩:=bind_some (show (eS _ cs).bind _=some r from h);grind[ae,List.Perm.refl]
 | raw =>
  intro cs chs r h;cases (show none=some r from h)
section
variable {Y:Type} (tt:TT) (s:Sg) (k:Res->Option Y)
def abD (T:TypeId) (x:Operand):Option Y:=(opd s x).bind fun v=>(mz v).bind fun cs=>k ⟨[],[],s.chs,[(⟨s.nxt,[]⟩,.blk T cs)],.one (.ptr ⟨s.nxt,[]⟩ 0)⟩
def T4 (T:TypeId):Option Y:=(td tt T).bind fun d=>match d.fz with
 | true=>k ⟨[],[],s.chs,[(⟨s.nxt,[]⟩,.blk T [.val .nilFunc])],.one (.ptr ⟨s.nxt,[]⟩ 0)⟩
 | false=>d.bytes.bind fun _=>k ⟨[],[],s.chs,[(⟨s.nxt,[]⟩,.blk T ((zeroCells d.ty).map .val))],.one (.ptr ⟨s.nxt,[]⟩ 0)⟩
def aaC (agg:Bool) (cs:List LV):Option AV:=match agg with
 | true=>some (.agg cs)
 | false=>match cs with
  | [x] =>some (.one x)
  | _=>none
def T5 (T:TypeId) (x:Operand):Option Y:=(td tt T).bind fun d=>match opd s x with
 | some (.one (.ptr h off))=>(rf h s.chs).bind fun b=>bO (Nat.beq ((b.cells.drop off).take d.n).length d.n) ((aaC d.agg ((b.cells.drop off).take d.n)).bind fun v=>k ⟨[b.ent h],[],b.rest,[],v⟩)
 | _=>none
def Np (T:TypeId) (x y:Operand):Option Y:=(td tt T).bind fun d=>match opd s x with
 | some (.one (.ptr h off))=>(opd s y).bind fun v=>(mz v).bind fun cs=>(rf h s.chs).bind fun b=>bO (Nat.beq cs.length d.n&&Nat.ble (off+d.n) b.cells.length) (k ⟨[],[b.ent h],b.rest,[(h,.blk b.T (b.cells.take off++cs++b.cells.drop (off+cs.length)))],.any ⟨s.nxt,[]⟩⟩)
 | _=>none
def Yn (T:TypeId) (x:Operand):Option Y:=(td tt T).bind fun d=>match d.el,opd s x with
 | some _,some (.one (.own h))=>(rowOf h s.chs).bind fun r=>k ⟨[r.ent h],[],r.rest,[],.one (.val (.int .i64 (r.xs.length:Int)))⟩
 | _,_=>none
def Nq (T:TypeId) (x i:Operand):Option Y:=(td tt T).bind fun d=>match d.el,opd s x,opd s i with
 | some E,some (.one (.own h)),some (.one (.val (.int .i64 i)))=>(rowOf h s.chs).bind fun r=>(td tt E).bind fun e=>bO (Nat.beq e.n r.t.size) ((aP r.xs i).bind fun a=>k ⟨[r.ent h],[],r.rest,[],.elo h r.ver r.E r.t r.xs a i 0⟩)
 | _,_,_=>none
def T6 (T:TypeId) (x:Operand):Option Y:=(td tt T).bind fun d=>match opd s x with
 | some (.elo h ver E t xs a i off)=>(rowOf h s.chs).bind fun r=>bO (Nat.beq r.ver ver) ((xJ d.agg t off d.n).bind fun p=>match p.ty.sh with
  | true=>bO (p.ty.isProd==d.agg) (k ⟨[r.ent h],[],r.rest,[],Ng s.nxt p.ty (p.get a)⟩)
  | false=>bO (Nat.beq p.ty.size 1 && !d.agg) (k ⟨[],[r.ent h],r.rest,[(⟨s.nxt,[]⟩,.own p.ty (p.get a)),(h,.hole ver (.sl E t) xs p.ty (p.get a) (fun y=>xs.set i.toNat (p.set a y)) i t.size off (.own ⟨s.nxt,[]⟩))],.one (.own ⟨s.nxt,[]⟩)⟩))
 | _=>none
def Nr (T:TypeId) (x y:Operand):Option Y:=(td tt T).bind fun d=>match opd s x with
 | some (.elo h ver E t xs a i off)=>(opd s y).bind fun v=>(mz v).bind fun cs=>(rowOf h s.chs).bind fun r=>bO (Nat.beq r.ver ver&&Nat.beq cs.length d.n) ((xJ d.agg t off d.n).bind fun p=>match t.sh with
  | true=>(eS p.ty cs).bind fun b=>bO b.2.isEmpty (k ⟨[],[r.ent h],r.rest,[(h,.own (.sl E t) (xs.set i.toNat (p.set a b.1)))],.any ⟨s.nxt,[]⟩⟩)
  | false=>(eG p.ty cs r.rest).bind fun q=>bO q.cells.isEmpty (k ⟨[],r.ent h::q.used,q.rest,[(h,.own (.sl E t) (xs.set i.toNat (p.set a q.d)))],.any ⟨s.nxt,[]⟩⟩))
 | _=>none
end
section
variable {Y:Type} {tt:TT} {s:Sg} {k:Res->Option Y} {P:Program} {w0:World} {o:Oper} {res:Y} {x y:Operand}
theorem vj {I:Hp} {ev:Operand->Value} {α:Type} {R:Rep α} {E:TypeId} {v:Value} {xs:List α} {fact:Value->Prop} (h:Hd v xs.length->OpT P I w0 o ev [] fact (fun _=>[])):OpT P I w0 o ev [Ch.own (aw E R) [v] xs] fact (fun _=>[Ch.own (aw E R) [v] xs]):=
 fun w C a=>h (a.hd 0 rfl).1 w (Ch.own (aw E R) [v] xs::C) a
theorem dV {θ:Th} {n:Nat} {v:Value} :hv (upd θ n v) ⟨n,[]⟩=v:=ig
theorem VU {T:TypeId} (n:o.op= .box T x) (h:abD s k T x=some res):Oks P w0 s o k res:=by
 have ⟨v,a,h⟩:=bind_some h;have ⟨d,c,h⟩:=bind_some h;refine ⟨_,h,by simp,aU rfl,fun J θ m=>?_⟩;have ⟨e,i⟩:=jI c (bN m a);refine OpT.weak (Vj (l:=d.map (·.v θ)) (aF a) i n) (fun v b=>⟨ax _,?_,fun g f=>?_⟩) (fun v b=>?_)
 ·show Value.pointer (some ⟨bk (hv _ ⟨s.nxt,[]⟩),0,none⟩)=v;grind[dV,HV]
 ·cases ak f;exact ⟨ax _,ax _,fun x j=>LV.ok_same Same.upd (Nat.le_succ _) (e x j) Hp.le.rfl⟩
 ·show [Ch.blk (bk v) _ T] = [Ch.blk (bk (hv _ ⟨s.nxt,[]⟩)) (d.map _) T];rw[dV,iH Same.upd e]
theorem Ns (m:TTok P tt) {T:TypeId} (p:o.op= .alloc T) (h:T4 tt s k T=some res):Oks P w0 s o k res:=by
 have ⟨d,n,h⟩:=bind_some h;split at h
 ·rename_i c;have ⟨b,q⟩:=(m.get n).fz c;refine ⟨_,h,by simp,aU rfl,fun J θ r=>?_⟩;refine OpT.weak (FE (l:=[.nilFunc]) q rfl p) (fun v a=>⟨ax _,?_,fun g e=>?_⟩) (fun v a=>?_)
  ·show Value.pointer (some ⟨bk (hv _ ⟨s.nxt,[]⟩),0,none⟩)=v;grind[dV,HV]
  ·cases ak e;refine ⟨ax _,ax _,fun x f=>?_⟩;cases ak f
   rfl
  ·show [Ch.blk (bk v) _ T] = [Ch.blk (bk (hv _ ⟨s.nxt,[]⟩)) _ T];rw[dV];rfl
 have ⟨z,w,h⟩:=bind_some h;obtain ⟨A,i,j,-⟩:=(m.get n).zero z w;refine ⟨_,h,by simp,aU rfl,fun J θ r=>?_⟩;refine OpT.weak (FE (l:=zeroCells d.ty) i j p) (fun v a=>⟨ax _,?_,fun g e=>?_⟩) (fun v a=>?_)
 ·show Value.pointer (some ⟨bk (hv _ ⟨s.nxt,[]⟩),0,none⟩)=v;grind[dV,HV]
 ·cases ak e;refine ⟨ax _,ax _,fun x f=>?_⟩;obtain ⟨u,t,rfl⟩:=List.mem_map.1 f;exact JA _ u t
 ·show [Ch.blk (bk v) _ T] = [Ch.blk (bk (hv _ ⟨s.nxt,[]⟩)) (((zeroCells d.ty).map LV.val).map _) T];rw[dV,List.map_map];congr 2;exact (List.map_id' _).symm
theorem Nt {agg:Bool} {cs:List LV} {v:AV} (h:aaC agg cs=some v) {P:Program} {w0:World} {J:Hp} {θ:Th} {n:Nat} {chs:List Ent} (a: ∀x∈cs,x.ok P w0 J θ n):v.ok P w0 J θ n chs/\(if agg then Value.agg (cs.map (·.v θ)).toArray else (cs.map (·.v θ)).getD 0 undef)=v.v θ:=by
 cases agg with
 | true =>
  cases ae (show some (AV.agg cs)=some v from h);exact ⟨a,rfl⟩
 | false =>
  cases cs with
  | nil=>cases h
  | cons x l =>
   cases l with
   | nil =>
    cases ae (show some (AV.one x)=some v from h);exact ⟨a x (by simp),rfl⟩
   | cons _ _=>cases h
theorem kY {e:Ent} {r:List Ent} {J:Hp} {θ:Th} (a:Fine P w0 J θ s) (hp:s.chs.Perm (e::r)):okE P w0 J θ s.nxt s.chs e:=a.chs e (hp.mem_iff.2 (by simp))
theorem oN {e:Ent} {r l:List Ent} (hp:l.Perm (e::r)):l.Perm ([e] ++ [] ++r):=hp
theorem Cx {e:Ent} {r l:List Ent} (hp:l.Perm (e::r)):l.Perm ([] ++ [e] ++r):=hp
theorem Nu (r:TTok P tt) {T:TypeId} (w:o.op= .load T x) (h:T5 tt s k T x=some res):Oks P w0 s o k res:=by
 have ⟨d,t,h⟩:=bind_some h;split at h
 ·rename_i C off p;have ⟨b,m,h⟩:=bind_some h;have ⟨j,h⟩:=ai h;have ⟨v,c,h⟩:=bind_some h;have hp:=kA m;have j:=al j;refine ⟨_,h,oN hp,aU rfl,fun J θ f=>?_⟩;have q: ∀z∈(b.cells.drop off).take d.n,z.ok P w0 J θ s.nxt:=fun z B=>(kY f hp).2.2 z (List.mem_of_mem_drop (List.mem_of_mem_take B));have ⟨e,A⟩:=Nt (chs:=s.chs) c q;have a:=r.get t;refine OpT.weak (FF (l:=b.cells.map (·.v θ)) (E:=b.T) a.ti w (aF p) a.one (by simp_all) (by grind) A) (fun u i=>?_) (fun u i=>rfl);subst i;exact ⟨AV.ok_same Same.upd (Nat.le_succ _) (Res.newer (oN hp) (aU rfl J θ f)) e Hp.le.rfl,AV.v_same Same.upd e,fun g n=>by cases n⟩
 grind
theorem Lp (C:TTok P tt) {T:TypeId} (G:o.op= .store T x y) (h:Np tt s k T x y=some res):Oks P w0 s o k res:=by
 have ⟨d,F,h⟩:=bind_some h;split at h
 ·rename_i i off I;have ⟨v,f,h⟩:=bind_some h;have ⟨p,j,h⟩:=bind_some h;have ⟨b,r,h⟩:=bind_some h;have ⟨n,h⟩:=ai h;rw[aj] at n;have D:=al n.1;have B:=bu n.2;have hp:=kA r;refine ⟨_,h,Cx hp,aU rfl,fun J θ q=>?_⟩;have ⟨w,t⟩:=jI j (bN q f);have c:=kY q hp;have m:=C.get F;have e: ∀z∈b.cells.take off++p++b.cells.drop (off+p.length),z.ok P w0 J θ s.nxt:=fun z a=>by
   rcases aG a with a | a
   ·rcases aG a with a | a
    ·exact c.2.2 z (List.mem_of_mem_take a)
    grind
   ·exact c.2.2 z (List.mem_of_mem_drop a)
  refine OpT.weak (D3 (l:=b.cells.map (·.v θ)) (E:=b.T) m.ti G (aF I) (aF f) t (by grind) (H3 w) (by grind)) (fun u H=>⟨ax _,dV,fun g A=>?_⟩) (fun u H=>?_)
  ·cases ak A;exact ⟨aZ c.1,ax _,fun z a=>LV.ok_same Same.upd (Nat.le_succ _) (e z a) Hp.le.rfl⟩
  ·show [Ch.blk (bk (hv θ i)) _ b.T] = [Ch.blk (bk (hv (upd θ s.nxt u) i)) _ b.T];rw[show hv (upd θ s.nxt u) i=hv θ i from ba Same.upd c.1,C6 _ _ _ (by grind),iH Same.upd e,aW,aW,List.map_take,List.map_drop,List.length_map]
 grind
theorem Rh (i:TTok P tt) {T:TypeId} (l:o.op= .call { callee:=.builtin .len,args:= #[x],argTypes:= #[T] }) (h:Yn tt s k T x=some res):Oks P w0 s o k res:=by
 have ⟨d,j,h⟩:=bind_some h;split at h
 ·rename_i E n f m;have ⟨r,b,h⟩:=bind_some h;obtain ⟨hp,-⟩:=bF b;refine ⟨_,h,oN hp,aU rfl,fun J θ p=>OpT.weak (vj fun e=>C4 e ((i.get j).el _ f) l (aF m)) (fun u a=>?_) (fun u a=>rfl)⟩;subst a;exact ⟨Eq.refl true,rfl,fun g c=>by cases c⟩
 grind
theorem Lq (n:TTok P tt) {T:TypeId} {i:Operand} (D:o.op= .indexAddr T x i) (h:Nq tt s k T x i=some res):Oks P w0 s o k res:=by
 have ⟨d,C,h⟩:=bind_some h;split at h
 ·rename_i E c j w F z;have ⟨r,l,h⟩:=bind_some h;have ⟨e,A,h⟩:=bind_some h;have ⟨f,h⟩:=ai h;have ⟨a,m,h⟩:=bind_some h;have f:=al f;have ⟨hp,B⟩:=bF l;refine ⟨_,h,oN hp,aU rfl,fun J θ p=>OpT.weak (vj (fact:=(· =pt (hv θ c) (j.toNat*r.t.size+0))) fun v=>?_) (fun u q=>?_) (fun u q=>rfl)⟩
  ·have:=sw (I:=J) (w0:=w0) v ((n.get C).el _ w) (n.get A).ti D (aF F) (aF z) (D1 m)
   rw[f] at this;exact this
  ·have b:=kY p hp;refine ⟨⟨aZ b.1,m,(wj l b.2.1).newer (Res.newer (oN hp) (aU rfl J θ p)) (Nat.le_succ _)⟩,?_,fun g t=>by cases t⟩;rw[q];show pt (hv (upd θ s.nxt _) c) _=pt (hv θ c) _;rw[show hv (upd θ s.nxt _) c=hv θ c from ba Same.upd b.1]
 grind
theorem AA {h:Hdr} {ver:Nat} {E:TypeId} {t:Ty} {xs:List t.den} {a:t.den} {i:Int} {off:Nat} {J:Hp} {θ:Th} {r:Row} (b:rowOf h s.chs=some r) (hv:r.ver=ver) (c:AV.ok P w0 J θ s.nxt s.chs (.elo h ver E t xs a i off)):r.ent h=(h,ver,.own (.sl E t) xs):=by
 obtain ⟨hp,-⟩:=bF b
 have:=c.2.2.2 (r.ent h) (hp.mem_iff.2 (by simp)) _ ⟨rfl,.inl ⟨hv,rfl⟩⟩
 show (h,r.ver,Chk.own (.sl r.E r.t) r.xs)=_;rw[hv,show Chk.own (.sl r.E r.t) r.xs=_ from this]
theorem Nv (hT:TTok P tt) {T:TypeId} (X:o.op= .load T x) (h:T6 tt s k T x=some res):Oks P w0 s o k res:=by
 have ⟨d,hd,h⟩:=bind_some h;split at h
 ·rename_i m N E t Z a i off K;have ⟨r,L,h⟩:=bind_some h;have ⟨f,h⟩:=ai h;have f:=al f;have ⟨p,S,h⟩:=bind_some h;have q:=zS _ _ _ _ S;obtain ⟨hp,-⟩:=bF L;have z:=hT.get hd;split at h
  ·rename_i Q;have ⟨b,h⟩:=ai h;have b:p.ty.isProd=d.agg:=by simpa using b
   refine ⟨_,h,oN hp,aU rfl,fun J θ A=>?_⟩;have j:=bN A K;have v:=AA L f j
   have:=Ef (P:=P) (I:=J) (w0:=w0) (o:=o) (T:=T) (E:=E) (Ty.sh_ok Q) j.2.1 q.lens z.ti (p.ty.rep_size.trans q.size) z.one X (aF (θ:=θ) K) t.rep_size
   rw[v];refine OpT.weak this (fun u C=>?_) (fun u C=>rfl);have ⟨c,M,V⟩:=C;rw[<-b] at V
   have:=qu (P:=P) (w0:=w0) (J:=J) (θ:=upd θ s.nxt u) (id:=s.nxt) (n:=s.nxt+1) (chs:=Res.chs ⟨[r.ent m],[],r.rest,[],Ng s.nxt p.ty (p.get a)⟩ s.nxt) (ax _) ig p.ty (p.get a) c M V
   grind
  ·have ⟨b,h⟩:=ai h;rw[aj] at b;have D:=al b.1;have R:d.agg=false:=by simpa using b.2
   refine ⟨_,h,Cx hp,fun J θ A g b W c B=>?_,fun J θ A=>?_⟩
   ·rcases aA b with rfl | b
    ·exact B.elim
    ·cases ak b;obtain ⟨rfl,rfl⟩:=B;exact ⟨r.ent m,hp.mem_iff.2 (by simp),by rw[AA L f (bN A K)];exact ⟨rfl,.inl ⟨rfl,rfl⟩⟩⟩
   have j:=bN A K;have v:=AA L f j;have w:=kY A hp;have G:=z.ti;rw[R,<-q.size,D] at G
   have:=Eg (P:=P) (I:=J) (w0:=w0) (o:=o) (T:=T) (E:=E) j.2.1 q.lens G (p.ty.rep_size.trans D) X (aF (θ:=θ) K) t.rep_size
   rw[v];have H:Z.set i.toNat (p.set a (p.get a))=Z:=by
    have ⟨U,e⟩:=List.getElem?_eq_some_iff.1 (ve j.2.1);rw[q.eta,<-e];exact List.set_getElem_self U
   have F:N<s.nxt:=by rw[<-f];exact w.2.1
   refine OpT.weak this (fun u C=>⟨⟨ax _,by rw[dV];exact C⟩,dV,fun g b=>?_⟩) (fun u C=>?_)
   ·rcases aA b with rfl | b
    ·exact ⟨ax _,ax _,trivial⟩
    ·cases ak b;refine ⟨aZ w.1,ax _,⟨ax _,by rw[dV];exact C⟩,F,H,fun l hl=>?_⟩;cases LV.own.inj hl;refine ⟨ax _,fun e v c B=>?_⟩;rcases aG v with v | v
     ·obtain ⟨g,b,rfl⟩:=List.mem_map.1 v;rcases aA b with rfl | b
      ·rcases B.2 with M | M
       ·grind
       ·exact M.elim
      ·cases ak b
       have:=w.1
       rw[show m=(⟨s.nxt,[]⟩:Hdr) from B.1] at this;exact absurd this (Nat.lt_irrefl _)
     ·have v:e∈s.chs:=hp.mem_iff.2 (bY _ (by grind));have O:=A.chs e v
      have:=O.1
      rw[B.1] at this;grind
   ·show [Ch.own p.ty.rep [u] (p.get a),Ch.gap _ [hv θ m] p.ty.rep _ (ptB (hv θ m)) (ptO (hv θ m)+_) u] = [Ch.own p.ty.rep [hv (upd θ s.nxt u) ⟨s.nxt,[]⟩] (p.get a),Ch.gap _ [hv (upd θ s.nxt u) m] p.ty.rep _ (ptB (hv (upd θ s.nxt u) m)) (ptO (hv (upd θ s.nxt u) m)+_) (hv (upd θ s.nxt u) ⟨s.nxt,[]⟩)];rw[dV,show hv (upd θ s.nxt u) m=hv θ m from ba Same.upd w.1];rfl
 grind
theorem Lr (V:TTok P tt) {T:TypeId} (R:o.op= .store T x y) (h:Nr tt s k T x y=some res):Oks P w0 s o k res:=by
 have ⟨d,Z,h⟩:=bind_some h;split at h
 ·rename_i m U E t xs a i off G;have ⟨v,j,h⟩:=bind_some h;have ⟨cs,B,h⟩:=bind_some h;have ⟨r,K,h⟩:=bind_some h;have ⟨n,h⟩:=ai h;rw[aj] at n;have l:=al n.1;have X:=al n.2;have ⟨p,N,h⟩:=bind_some h;have c:=zS _ _ _ _ N;obtain ⟨hp,-⟩:=bF K;have C:=V.get Z;split at h
  ·rename_i D;have ⟨b,S,h⟩:=bind_some h;have ⟨w,h⟩:=ai h;refine ⟨_,h,Cx hp,aU rfl,fun J θ z=>?_⟩;have f:=bN z G;have L:=AA K l f;have e:=kY z hp;have ⟨A,H⟩:=jI B (bN z j);have ⟨W,F,M⟩:=jb (J:=J) S A;rw[List.isEmpty_iff.1 w,List.append_nil] at F;subst F
   have:=FI (P:=P) (I:=J) (w0:=w0) (o:=o) (T:=T) (E:=E) (Ty.sh_ok D) (Ty.cpy D) f.2.1 c.upd C.ti R (aF (θ:=θ) G) (aF j) H (H3 A) (by grind) t.rep_size c.fit M
   rw[L];refine OpT.weak this (fun u O=>⟨ax _,dV,fun g n=>?_⟩) (fun u O=>?_)
   ·cases ak n;exact ⟨aZ e.1,ax _,trivial⟩
   ·show [Ch.own _ [hv θ m] _] = [Ch.own _ [hv (upd θ s.nxt u) m] _];rw[show hv (upd θ s.nxt u) m=hv θ m from ba Same.upd e.1];rfl
  ·have ⟨q,Q,h⟩:=bind_some h;have ⟨w,h⟩:=ai h;refine ⟨_,h,(hp.trans ((ij Q).cons _)),aU rfl,fun J θ z=>?_⟩;have f:=bN z G;have L:=AA K l f;have e:=kY z hp;have ⟨A,H⟩:=jI B (bN z j);obtain ⟨-,W,F,M⟩:=kN (J:=J) (θ:=θ) Q A;rw[List.isEmpty_iff.1 w,List.append_nil] at F;subst F
   have:=D6 (P:=P) (I:=J) (w0:=w0) (o:=o) (T:=T) (E:=E) M f.2.1 c.updO C.ti R (aF (θ:=θ) G) (aF j) H (H3 A) (by grind) (p.ty.rep_size.trans c.size) t.rep_size c.fit
   rw[L];refine OpT.weak this (fun u O=>⟨ax _,dV,fun g n=>?_⟩) (fun u O=>?_)
   ·cases ak n;exact ⟨aZ e.1,ax _,trivial⟩
   ·show [Ch.own _ [hv θ m] _] = [Ch.own _ [hv (upd θ s.nxt u) m] _];rw[show hv (upd θ s.nxt u) m=hv θ m from ba Same.upd e.1];rfl
 grind
end
def Ri (pl:List (Nat×Nat)) (cells:List LV):List (Nat×List LV)->Option (List LV)
 | [] =>some cells
 | (i,l)::rest=>(pl[i]?).bind fun q=>bO (Nat.beq l.length q.2&&Nat.ble (q.1+q.2) cells.length) (Ri pl (cells.take q.1++l++cells.drop (q.1+q.2)) rest)
theorem JE {a:List (Nat×Nat)} {θ:Th} : ∀ {ps:List (Nat×List LV)} {cells r:List LV},Ri a cells ps=some r->HU (a[·]?) (cells.map (·.v θ)) (ps.map fun p=>(p.1,p.2.map (·.v θ)))=some (r.map (·.v θ))
 | [],cells,r,h=>by cases ae (show some cells=some r from h);rfl
 | (i,l)::ps,cells,r,h=>by
  have ⟨q,b,h⟩:=bind_some (show (a[i]?).bind _=some r from h);have ⟨c,h⟩:=ai h
  have:=JE (θ:=θ) h
  simp_all[List.map_cons,HU,List.length_map,if_pos,aW,List.map_take,List.map_drop]
theorem FX {b:List (Nat×Nat)} {Q:LV->Prop} : ∀ {ps:List (Nat×List LV)} {cells r:List LV},Ri b cells ps=some r->(∀x∈cells,Q x)->(∀p∈ps,∀x∈p.2,Q x)-> ∀x∈r,Q x
 | [],cells,r,h,hc,hp=>by cases ae (show some cells=some r from h);exact hc
 | (i,l)::ps,cells,r,h,hc,hp=>by
  have ⟨q,d,h⟩:=bind_some (show (b[i]?).bind _=some r from h);obtain ⟨-,h⟩:=ai h;refine FX h (fun x a=>?_) fun p c=>hp p (by grind);rcases aG a with a | a
  ·rcases aG a with a | a
   ·grind
   simp_all
  grind
def partsOf (s:Sg):List (Nat×Operand)->Option (List (Nat×List LV))
 | [] =>some []
 | (i,x)::l=>(opd s x).bind fun v=>(mz v).bind fun cs=>(partsOf s l).bind fun r=>some ((i,cs)::r)
theorem qv {P:Program} {w0:World} {s:Sg} {J:Hp} {θ:Th} (c:Fine P w0 J θ s): ∀ {l:List (Nat×Operand)} {ps:List (Nat×List LV)},partsOf s l=some ps->
  peq (l.map fun p=>(p.1,evL (envL θ s) p.2)) (ps.map fun p=>(p.1,p.2.map (·.v θ)))/\ ∀p∈ps,∀x∈p.2,x.ok P w0 J θ s.nxt
 | [],ps,h=>by cases ae (show some [] =some ps from h);exact ⟨trivial,fun p hp=>by cases hp⟩
 | (i,x)::l,ps,h=>by
  have ⟨v,a,h⟩:=bind_some (show (opd s x).bind _=some ps from h);have ⟨j,b,h⟩:=bind_some h;have ⟨r,d,h⟩:=bind_some h;cases ae h;have ⟨e,k⟩:=qv c d;have ⟨g,f⟩:=jI b (bN c a);refine ⟨⟨rfl,by grind[aF],e⟩,fun p hp=>?_⟩;grind
structure Lits (t:Ty) where
 xs:List t.den
 used:List Ent
 rest:List Ent
def VV (t:Ty):List (Nat×List LV)->Nat->Option (List t.den)
 | [],_=>some []
 | (i,cs)::l,j=>bO (Nat.beq i j) ((eS t cs).bind fun d=>bO d.2.isEmpty ((VV t l (j+1)).bind fun r=>some (d.1::r)))
def JF (t:Ty):List (Nat×List LV)->Nat->List Ent->Option (Lits t)
 | [],_,chs=>some ⟨[],[],chs⟩
 | (i,cs)::l,j,chs=>bO (Nat.beq i j&&Nat.beq cs.length t.size) ((eG t cs chs).bind fun d=>bO d.cells.isEmpty ((JF t l (j+1) d.rest).bind fun r=>some ⟨d.d::r.xs,d.used++r.used,r.rest⟩))
section
variable {P:Program} {w0:World} {J:Hp} {θ:Th} {n:Nat} {t:Ty}
theorem JG: ∀ {l:List (Nat×List LV)} {j:Nat} {xs:List t.den},VV t l j=some xs->(∀p∈l,∀x∈p.2,x.ok P w0 J θ n)->l.map (·.1)=(List.range' j l.length)/\xs.length=l.length/\(∀p∈l,p.2.length=t.size)/\ ∀p,p∈(l.map fun p=>p.2.map (·.v θ)).zip xs->t.rep.rd J p.1 p.2
 | [],j,xs,h,hc=>by cases ae (show some [] =some xs from h);simp_all
 | (i,cs)::l,j,xs,h,hc=>by
  have ⟨a,h⟩:=ai (show bO (Nat.beq i j) _=some xs from h);have ⟨d,m,h⟩:=bind_some h;have ⟨k,h⟩:=ai h;have ⟨r,e,h⟩:=bind_some h;cases ae h;have a:=al a;subst a;have ⟨o,c,b⟩:=jb (J:=J) m (hc (i,cs) (by simp));rw[List.isEmpty_iff.1 k,List.append_nil] at c;subst c;have ⟨g,s,q,f⟩:=JG e fun p hp=>hc p (by grind);refine ⟨by rw[List.map_cons,g];rfl,by grind,fun p hp=>?_,fun p hp=>?_⟩
  ·rcases aA hp with rfl | hp
   ·have:=Rep.rd_len _ b
    rw[List.length_map,t.rep_size] at this;omega
   grind
  ·rcases aA hp with rfl | hp
   ·exact b
   ·exact f p hp
theorem AB: ∀ {l:List (Nat×List LV)} {j:Nat} {chs:List Ent} {r:Lits t},JF t l j chs=some r->chs.Perm (r.used++r.rest)
 | [],j,chs,r,h=>by cases ae (show some _=some r from h);rfl
 | (i,cs)::l,j,chs,r,h=>by
  have ⟨c,h⟩:=ai (show bO (Nat.beq i j&&Nat.beq cs.length t.size) _=some r from h);have ⟨d,b,h⟩:=bind_some h;have ⟨e,h⟩:=ai h;have ⟨q,a,h⟩:=bind_some h;cases ae h;rw[aC];exact (ij b).trans ((AB a).append_left _)
theorem FY: ∀ {l:List (Nat×List LV)} {j:Nat} {chs:List Ent} {r:Lits t},JF t l j chs=some r->(∀p∈l,∀x∈p.2,x.ok P w0 J θ n)->l.map (·.1)=(List.range' j l.length)/\r.xs.length=l.length/\(∀p∈l,p.2.length=t.size)/\sA J (r.used.map (toCh P θ)) (FH t.rep (l.map fun p=>p.2.map (·.v θ)) r.xs)
 | [],j,chs,r,h,hc=>by cases ae (show some _=some r from h);exact ⟨rfl,rfl,fun p hp=>(by cases hp),wg⟩
 | (i,cs)::l,j,chs,r,h,hc=>by
  have ⟨a,h⟩:=ai (show bO (Nat.beq i j&&Nat.beq cs.length t.size) _=some r from h);have ⟨d,o,h⟩:=bind_some h;have ⟨g,h⟩:=ai h;have ⟨q,c,h⟩:=bind_some h;cases ae h;rw[aj] at a;have m:=al a.2;have a:=al a.1;subst a;obtain ⟨-,s,b,k⟩:=kN (J:=J) (θ:=θ) o (hc (i,cs) (by simp));rw[List.isEmpty_iff.1 g,List.append_nil] at b;subst b;have ⟨f,v,u,e⟩:=FY c fun p hp=>hc p (by grind);refine ⟨by rw[List.map_cons,f];rfl,by grind,fun p hp=>?_,?_⟩
  ·grind
  ·rw[aW];exact sB k e
end
section
variable {P:Program} {w0:World} {I:Hp} {o:Oper} {ev:Operand->Value} {s:Sg}
def T7 (ev:Operand->Value) (θ:Th):List (Nat×Operand)->List (Nat×List LV)->List (Value×List Value)
 | p::l,q::m=>(ev p.2,q.2.map (·.v θ))::T7 ev θ l m
 | _,_=>[]
theorem H5 {θ:Th} : ∀ {l:List (Nat×Operand)} {ps:List (Nat×List LV)} {j:Nat},peq (l.map fun p=>(p.1,ev p.2)) (ps.map fun p=>(p.1,p.2.map (·.v θ)))->ps.map (·.1)=List.range' j ps.length->
  l.map (fun p=>(p.1,ev p.2))=((T7 ev θ l ps).zipIdx j).map (fun p=>(p.2,p.1.1))/\(T7 ev θ l ps).length=ps.length/\(T7 ev θ l ps).map (·.2)=ps.map (fun p=>p.2.map (·.v θ))/\ ∀u∈T7 ev θ l ps,u.1.cells=u.2.toArray/\ ∃p∈ps,u.2.length=p.2.length
 | [],[],j,_,_=>⟨rfl,rfl,rfl,fun u a=>by cases a⟩
 | (i,x)::l,(i',cs)::ps,j,h,hj=>by
  have ⟨e,g,h⟩:=(show i=i'/\(ev x).cells=(cs.map (·.v θ)).toArray/\peq _ _ from h);have d:i'=j:=by
   have:=congrArg (fun l:List Nat=>l.head?) hj
   simpa [List.range'] using this
  have b:ps.map (·.1)=List.range' (j+1) ps.length:=by
   have:=congrArg List.tail hj
   simpa [List.range'] using this
  have ⟨k,m,c,f⟩:=H5 h b;refine ⟨?_,by grind[T7],by show _::_=_::_;rw[c],fun u a=>?_⟩
  ·show (i,ev x)::_=(j,ev x)::_;grind
  ·rcases aA a with rfl | a
   ·simp_all
   grind
 | [],_::_,j,h,_=>h.elim
 | _::_,[],j,h,_=>h.elim
theorem VW {α:Type} {R:Rep α} {E:TypeId} {xs:List α} {rn:List Ch} {fact:Value->Prop} {gv:Value->List Ch} (h:OpT P I w0 o ev rn fact (fun v=>Ch.own (aw E R) [v] xs::gv v)):OpT P I w0 o ev rn (fun v=>fact v/\v.oneCell'=true) (fun v=>Ch.own (aw E R) [v] xs::gv v):=
 OpT.weak (OpT.hdk (fun v=>v) 0 (fun v=>rfl) h) (fun v hv=>⟨hv.1,Hd.one hv.2⟩) fun v hv=>rfl
theorem good_row {rs ns rest:List Ent} {E:TypeId} {t:Ty} {xs:List t.den} (hp:s.chs.Perm (rs++ns++rest)) (b: ∀J θ,Fine P w0 J θ s->OpT P J w0 o (evL (envL θ s)) ((rs++ns).map (toCh P θ)) (fun _=>True) (fun v=>Ch.own (Ty.sl E t).rep [v] xs::rs.map (toCh P θ))):Good P w0 s o ⟨rs,ns,rest,[(⟨s.nxt,[]⟩,.own (.sl E t) xs)],.one (.own ⟨s.nxt,[]⟩)⟩:=
 ⟨hp,aU rfl,fun J θ h=>by
  have e:=VW (b J θ h);have f:OpT P J w0 o (evL (envL θ s)) ((rs++ns).map (toCh P θ)) (fun v=>True/\v.oneCell'=true) (fun v=>rs.map (toCh P θ)++ [Ch.own (Ty.sl E t).rep [v] xs]):=
   fun w C c=>(e w C c).imp fun v w hv=>⟨hv.1,hv.2.perm (List.Perm.append_right C (List.perm_append_comm (l₁:=[_])))⟩
  refine OpT.weak f (fun v a=>⟨⟨ax _,by grind[dV]⟩,dV,fun g d=>?_⟩) (fun v a=>?_)
  ·cases ak d;exact ⟨ax _,ax _,trivial⟩
  ·show _=_++ [Ch.own _ [hv (upd θ s.nxt v) ⟨s.nxt,[]⟩] _];rw[dV]⟩
end
section
variable {Y:Type} (tt:TT) (an:List (Nat×Ty)) (s:Sg) (k:Res->Option Y)
def T8 (T:TypeId) (parts:Array (Nat×Operand)):Option Y:=(td tt T).bind fun d=>d.place.bind fun pl=>d.bytes.bind fun _=>(partsOf s parts.toList).bind fun ps=>(Ri pl ((zeroCells d.ty).map .val) ps).bind fun r=>k (.pure s (.agg r))
def abE:List (Nat×Ty)->Nat->Ty->Ty
 | [],_,t=>t
 | (u,t')::l,d,t=>if Nat.beq u d then t' else abE l d t
def QO (d:Option Nat) (t:Ty):Ty:=match d with
 | none=>t
 | some d=>abE an d t
def newRow (E:TypeId) (t:Ty) (ns rest:List Ent) (xs:List t.den):Option Y:=k ⟨[],ns,rest,[(⟨s.nxt,[]⟩,.own (.sl E t) xs)],.one (.own ⟨s.nxt,[]⟩)⟩
def aaD (E : TypeId) (n : Nat) (t : Ty) (m : Nat) (l : List (Nat × Operand)) : Option Y := (partsOf s l).bind fun ps => bO (Nat.beq ps.length (m + 1) && Nat.beq t.size n && Nat.ble ((m + 1) * n) 16777216) (match t.sh with
    | true => (VV t ps 0).bind fun xs => newRow s k E t [] s.chs xs
    | false => (JF t ps 0 s.chs).bind fun r => newRow s k E t r.used r.rest r.xs)
def abF (dst:Option Nat) (T:TypeId) (m:Nat) (parts:Array (Nat×Operand)):Option Y:=(td tt T).bind fun d=>d.el.bind fun E=>(td tt E).bind fun e=>match m with
 | 0=>bO parts.toList.isEmpty (newRow s k E (QO an dst e.ty) [] s.chs [])
 | m+1=>e.bytes.bind fun _=>aaD s k E e.n (QO an dst e.ty) m parts.toList
def H6:Operand->Operand->Bool
 | .tmp t,.tmp u=>Nat.beq t u
 | .const (.int .i64 m),.const (.int .i64 n)=>match m,n with
  | .ofNat a,.ofNat b=>Nat.beq a b
  | _,_=>false
 | _,_=>false
def Yo (dst:Option Nat) (T:TypeId) (x y:Operand):Option Y:=(td tt T).bind fun d=>d.el.bind fun E=>(td tt E).bind fun e=>e.bytes.bind fun b=>match opd s x with
 | some (.one (.val (.int .i64 l)))=>bO (H6 x y&&Nat.beq e.ty.size e.n&&decide ((QO an dst e.ty).erase=e.ty.erase)) ((mkI b l (Ea (QO an dst e.ty))).bind fun xs=>newRow s k E (QO an dst e.ty) [] s.chs xs)
 | _=>none
end
section
variable {Y:Type} {tt:TT} {an:List (Nat×Ty)} {s:Sg} {k:Res->Option Y} {P:Program} {w0:World} {o:Oper} {res:Y} {x y:Operand}
theorem Nw (q:TTok P tt) {T:TypeId} {parts:Array (Nat×Operand)} (w:o.op= .build T parts) (h:T8 tt s k T parts=some res):Oks P w0 s o k res:=by
 have ⟨d,t,h⟩:=bind_some h;have ⟨v,e,h⟩:=bind_some h;have ⟨b,p,h⟩:=bind_some h;have ⟨C,c,h⟩:=bind_some h;have ⟨r,j,h⟩:=bind_some h;have a:=q.get t;obtain ⟨z,f,g,-⟩:=a.zero b p;refine ⟨_,h,fC (fun J θ i=>?_) fun J θ i=>?_⟩
 ·have ⟨l,n⟩:=qv i c;have m:=JE (θ:=θ) j;rw[List.map_map,show (zeroCells d.ty).map ((fun x:LV=>x.v θ) ∘ LV.val)=zeroCells d.ty from List.map_id' _] at m;exact M3 _ (a.place v e) f g w l m
 ·have ⟨l,n⟩:=qv i c;exact FX j (fun x B=>by
   obtain ⟨u,A,rfl⟩:=List.mem_map.1 B;exact JA _ u A) n
theorem VX (O:TTok P tt) {T:TypeId} {m:Nat} {parts:Array (Nat×Operand)} (H:o.op= .buildSlice T m parts) (h:abF tt an s k o.dst T m parts=some res):Oks P w0 s o k res:=by
 have ⟨d,X,h⟩:=bind_some h;have ⟨E,C,h⟩:=bind_some h;have ⟨e,U,h⟩:=bind_some h;have c:=O.get X;have g:=O.get U;cases m with
 | zero =>
  have ⟨hp,h⟩:=ai (show bO parts.toList.isEmpty _=some res from h);have L:parts= #[]:=by simpa using hp
  subst L;exact ⟨_,h,good_row (rs:=[]) (by simp) fun J θ p=>QU (c.el E C) g.ti H⟩
 | succ m =>
  have ⟨b,S,h⟩:=bind_some (show e.bytes.bind _=some res from h);have ⟨R,l,h⟩:=bind_some h;have ⟨n,h⟩:=ai h;rw[aj,aj] at n;have a:=al n.1.1;have f:=al n.1.2;have i:=bu n.2;obtain ⟨z,j,W,-⟩:=g.zero b S;have M:0<e.n:=by rw[<-f];exact Ty.size_pos _
  split at h
  ·rename_i A;have ⟨Z,K,h⟩:=bind_some h;refine ⟨_,h,good_row (rs:=[]) (by simp) fun J θ p=>?_⟩;have ⟨B,F⟩:=qv p l;have ⟨D,q,V,t⟩:=JG (J:=J) K F;have ⟨v,G,Q,w⟩:=H5 B D;exact HS (T7 (evL (envL θ s)) θ parts.toList R) Z (Ty.cpy A) (by grind) (c.el E C) j M ((Ty.rep_size _).trans f) (Nat.succ_pos _) i H v (G.trans a) (q.trans a) fun u I=>⟨(w u I).1,by
    grind⟩
  ·have ⟨r,N,h⟩:=bind_some h;refine ⟨_,h,good_row (rs:=[]) (AB N) fun J θ p=>?_⟩;have ⟨B,F⟩:=qv p l;have ⟨D,q,V,t⟩:=FY (J:=J) N F;have ⟨v,G,Q,w⟩:=H5 B D;rw[<-Q] at t;exact OpT.pre t rfl (MY (T7 (evL (envL θ s)) θ parts.toList R) r.xs (c.el E C) j M ((Ty.rep_size _).trans f) (Nat.succ_pos _) i H v (G.trans a) (q.trans a) fun u I=>⟨(w u I).1,by
    grind⟩)
theorem Ls {x y:Operand} (h:H6 x y=true):x=y:=by
 unfold H6 at h;split at h
 ·simp_all
 ·split at h
  ·simp_all
  grind
 grind
theorem Rj (p:TTok P tt) {T:TypeId} (C:o.op= .makeSlice T x y) (h:Yo tt an s k o.dst T x y=some res):Oks P w0 s o k res:=by
 have ⟨d,B,h⟩:=bind_some h;have ⟨E,w,h⟩:=bind_some h;have ⟨e,u,h⟩:=bind_some h;have ⟨b,r,h⟩:=bind_some h;have i:=p.get B;have g:=p.get u;split at h
 ·rename_i l q;have ⟨n,h⟩:=ai h;rw[aj,aj] at n;have ⟨⟨a,c⟩,v⟩:=n;have ⟨G,m,h⟩:=bind_some h;have a:=Ls a;have c:=al c;have ⟨z,j,A,f⟩:=g.zero b r;have D:z.cells.toList=zeroCells (QO an o.dst e.ty):=by grind[my,QO]
  have t:(QO an o.dst e.ty).size=e.n:=by grind[wi,my]
  refine ⟨_,h,good_row (rs:=[]) (by simp) fun J θ F=>?_⟩;exact Ye (by grind[zR]) (i.el E w) j C ((Ty.rep_size _).trans t) (by grind[Ty.size_pos]) f (aF q) (by rw[<-a];exact aF q) m
 grind
end
section
variable {Y:Type} (tt:TT) (an:List (Nat×Ty)) (s:Sg) (k:Res->Option Y)
def Z8 (E:TypeId) (b:Nat) (t:Ty) (xs:List t.den) (nsx rest:List Ent) (y:AV):Option Y:=match y with
 | .one (.own h)=>(rowOf h rest).bind fun r=>(oJ (.sl r.E r.t) (.sl E t) r.xs).bind fun ys=>(bM b xs ys).bind fun zs=>match t.sh with
  | true=>k ⟨[r.ent h],nsx,r.rest,[(⟨s.nxt,[]⟩,.own (.sl E t) zs)],.one (.own ⟨s.nxt,[]⟩)⟩
  | false=>k ⟨[],nsx++ [r.ent h],r.rest,[(⟨s.nxt,[]⟩,.own (.sl E t) zs)],.one (.own ⟨s.nxt,[]⟩)⟩
 | .one (.rd h t' d)=>bO t.sh ((oH t' (.sl E t) d).bind fun ys=>(bM b xs ys).bind fun zs=>k ⟨[],nsx,rest,[(⟨s.nxt,[]⟩,.own (.sl E t) zs)],.one (.own ⟨s.nxt,[]⟩)⟩)
 | .one (.rdn h _ t' d)=>bO t.sh ((oH t' (.sl E t) d).bind fun ys=>(bM b xs ys).bind fun zs=>k ⟨[],nsx,rest,[(⟨s.nxt,[]⟩,.own (.sl E t) zs)],.one (.own ⟨s.nxt,[]⟩)⟩)
 | _=>none
def Yp (y:AV) (t:Ty):Ty:=match y with
 | .one (.own h)=>match rowOf h s.chs with
  | some r=>r.t
  | none=>t
 | _=>t
def abG (dst:Option Nat) (T:TypeId) (x y:Operand):Option Y:=(td tt T).bind fun d=>d.el.bind fun E=>(td tt E).bind fun e=>e.bytes.bind fun b=>(opd s y).bind fun yv=>match opd s x with
 | some (.one (.own h))=>(rowOf h s.chs).bind fun r=>bO (Nat.beq r.E E&&Nat.beq r.t.size e.n) (Z8 s k r.E b r.t r.xs [r.ent h] r.rest yv)
 | some (.one (.val v))=>bO (isNil v&&Nat.beq (Yp s yv (QO an dst e.ty)).size e.n) (Z8 s k E b (Yp s yv (QO an dst e.ty)) [] [] s.chs yv)
 | _=>none
end
section
variable {Y:Type} {tt:TT} {an:List (Nat×Ty)} {s:Sg} {k:Res->Option Y} {P:Program} {w0:World} {o:Oper} {res:Y} {x y:Operand}
theorem OpT.nilrow {I:Hp} {ev:Operand->Value} {α:Type} {E:TypeId} {R:Rep α} {rn:List Ch} {fact:Value->Prop} {gv:Value->List Ch} (h:OpT P I w0 o ev (Ch.own (aw E R) [.slice none 0 0] ([] :List α)::rn) fact gv):OpT P I w0 o ev rn fact gv:=fun w C a=>h w C a.nil
theorem OpT.permN {I:Hp} {ev:Operand->Value} {rn a:List Ch} {fact:Value->Prop} {gv:Value->List Ch} (hp:a.Perm rn) (h:OpT P I w0 o ev rn fact gv):OpT P I w0 o ev a fact gv:=fun w C b=>h w C (b.perm (hp.append_right C))
theorem xK {r:Row} {E:TypeId} {t:Ty} {ys:List t.den} {h:Hdr} (b:oJ (.sl r.E r.t) (.sl E t) r.xs=some ys):r.ent h=(h,r.ver,.own (.sl E t) ys):=by
 have ⟨e,a⟩:=oK b;obtain ⟨rfl,rfl⟩:=Ty.sl.inj e;rw[a];rfl
theorem Nx {T E:TypeId} {z:Value} {n b:Nat} {t:Ty} {xs:List t.den} {nsx rest:List Ent} {C:AV} (hp:s.chs.Perm (nsx++rest)) (w:P.underlying T=some (.slice E)) (A:TZ P E z n b) (j:z.cells.size=n) (u:0<n) (p:t.size=n) (g:1<=b) (B:o.op= .call { callee:=.builtin .append,args:= #[x,y],argTypes:= #[T,T] }) (m:opd s y=some C)
  (e: ∀J θ,Fine P w0 J θ s-> ∃v,evL (envL θ s) x=v/\ ∀(rn:List Ch) (fact:Value->Prop) (F:Value->List Ch),OpT P J w0 o (evL (envL θ s)) (Ch.own (aw E t.rep) [v] xs::rn) fact F->OpT P J w0 o (evL (envL θ s)) (nsx.map (toCh P θ)++rn) fact F)
  (h:Z8 s k E b t xs nsx rest C=some res):Oks P w0 s o k res:=by
 unfold Z8 at h;split at h
 ·rename_i L;have ⟨r,K,h⟩:=bind_some h;have ⟨G,f,h⟩:=bind_some h;have ⟨H,a,h⟩:=bind_some h;obtain ⟨q,-⟩:=bF K;have D:=xK (h:=L) f;split at h
  ·rename_i d;refine ⟨_,h,good_row (hp.trans ((q.append_left nsx).trans List.perm_middle)) fun J θ i=>?_⟩;have ⟨v,c,e⟩:=e J θ i;rw[D]
   have:=FJ (P:=P) (I:=J) (w0:=w0) (R:=t.rep) a (Ty.sh_ok d) (Ty.cpy d) w A j u (t.rep_size.trans p) g B c (aF (θ:=θ) m)
   exact OpT.permN (List.perm_append_comm (l₁:=[_])) (e _ _ _ this)
  ·refine ⟨_,h,good_row (rs:=[]) (by
    have:=hp.trans (q.append_left nsx)
    grind) fun J θ i=>?_⟩
   have ⟨v,c,e⟩:=e J θ i;rw[D]
   have:=Vr (P:=P) (I:=J) (w0:=w0) (R:=t.rep) a w A j u (t.rep_size.trans p) g B c (aF (θ:=θ) m)
   have:=e _ _ _ this
   rw[List.nil_append,aW];exact this
 ·have ⟨d,h⟩:=ai h;have ⟨G,f,h⟩:=bind_some h;have ⟨H,a,h⟩:=bind_some h;refine ⟨_,h,good_row (rs:=[]) hp fun J θ i=>?_⟩;have ⟨v,c,e⟩:=e J θ i;have l:=iZ f (bN i m).2
  have:=vf (P:=P) (I:=J) (w0:=w0) (R:=t.rep) (S:=t.rep) (E':=E) a (Ty.cpy d) (t.rep_size.trans p) l w A j u (t.rep_size.trans p) g B c (aF (θ:=θ) m)
  have:=e _ _ _ this
  rw[List.append_nil] at this;exact this
 ·have ⟨d,h⟩:=ai h;have ⟨G,f,h⟩:=bind_some h;have ⟨H,a,h⟩:=bind_some h;refine ⟨_,h,good_row (rs:=[]) hp fun J θ i=>?_⟩;have ⟨v,c,e⟩:=e J θ i;have l:=iZ f (bN i m).2.1
  have:=vf (P:=P) (I:=J) (w0:=w0) (R:=t.rep) (S:=t.rep) (E':=E) a (Ty.cpy d) (t.rep_size.trans p) l w A j u (t.rep_size.trans p) g B c (aF (θ:=θ) m)
  have:=e _ _ _ this
  rw[List.append_nil] at this;exact this
 grind
theorem VY (q:TTok P tt) {T:TypeId} (u:o.op= .call { callee:=.builtin .append,args:= #[x,y],argTypes:= #[T,T] }) (h:abG tt an s k o.dst T x y=some res):Oks P w0 s o k res:=by
 have ⟨d,H,h⟩:=bind_some h;have ⟨E,t,h⟩:=bind_some h;have ⟨e,C,h⟩:=bind_some h;have ⟨b,A,h⟩:=bind_some h;have ⟨I,w,h⟩:=bind_some h;have j:=q.get H;have i:=q.get C;have ⟨z,m,n,g⟩:=i.zero b A;have l:z.cells.size=e.n:=by rw[n,List.size_toArray,wi,i.sz]
 split at h
 ·rename_i D p;have ⟨r,B,h⟩:=bind_some h;have ⟨c,h⟩:=ai h;rw[aj] at c;have a:=al c.1;have f:=al c.2;obtain ⟨hp,-⟩:=bF B;exact Nx (nsx:=[r.ent D]) hp ((j.el E t).trans (by rw[a])) (by grind) l (by grind[Ty.size_pos]) f g u w (fun J θ G=>⟨_,aF p,fun rn fact F h=>h⟩) h
 ·rename_i v p;have ⟨c,h⟩:=ai h;rw[aj] at c;have a:=oc c.1;have f:=al c.2;refine Nx (nsx:=[]) (List.Perm.refl _) (j.el E t) m l (by grind[Ty.size_pos]) f g u w (fun J θ G=>⟨_,aF p,fun rn fact F h=>?_⟩) h;rw[show (AV.one (LV.val v)).v θ= .slice none 0 0 from a] at h;exact OpT.nilrow h
 grind
end
structure Hol where
 ver:Nat
 over:Nat
 t:Ty
 d:t.den
 u:Ty
 y:u.den
 f:u.den->t.den
 i:Int
 k:Nat
 off:Nat
 lv:LV
 rest:List Ent
def H7 (h:Hdr) (chs:List Ent):Option Hol:=(pull h chs).bind fun r=>match r.1.2.2 with
 | .hole over t d u y f i k off lv=>some ⟨r.1.2.1,over,t,d,u,y,f,i,k,off,lv,r.2⟩
 | _=>none
def Hol.ent (r:Hol) (h:Hdr):Ent:=(h,r.ver,.hole r.over r.t r.d r.u r.y r.f r.i r.k r.off r.lv)
theorem zT {h:Hdr} {chs:List Ent} {r:Hol} (e:H7 h chs=some r):chs.Perm (r.ent h::r.rest):=by
 have ⟨q,b,e⟩:=bind_some e;have ⟨p,k⟩:=gi b;have ⟨⟨g,a,c⟩,rest⟩:=q;obtain rfl:g=h:=k;cases c with
 | hole over t d u y f i k off j =>
  cases ae (show some _=some r from e);exact p
 | _=>cases e
def partOf (r:Hol):Option (Bool×r.u.den×List Ent):=match r.lv with
 | .own l=>(pull l r.rest).bind fun q=>match q.1.2.2 with
  | .own u' d=>(oJ u' r.u d).bind fun d=>some (Nat.beq q.1.2.1 r.ver,d,q.2)
  | _=>none
 | _=>none
theorem FZ {r:Hol} {q:Bool×r.u.den×List Ent} (h:partOf r=some q): ∃l a,r.lv= .own l/\r.rest.Perm ((l,a,.own r.u q.2.1)::q.2.2)/\(q.1=true->a=r.ver):=by
 have ⟨a,over,t,d,u,y,f,i,k,off,b,rest⟩:=r;cases b with
 | own l =>
  have ⟨e,c,h⟩:=bind_some (show (pull l rest).bind _=some q from h);grind[gi,bind_some,oJ,bind,ae,oK,al]
 | _=>cases h
def H8 (h:Hdr) (s:Sg):Option Sg:=(H7 h s.chs).bind fun r=>(partOf r).bind fun q=>match q.1 with
 | true=>some ⟨s.env,(h,r.over,.own r.t r.d)::q.2.2,s.nxt+1⟩
 | false=>some ⟨s.env,(h,s.nxt,.own r.t (r.f q.2.1))::q.2.2,s.nxt+1⟩
section
variable {P:Program} {I J:Hp} {w0 w:World} {F:Ch} {n:Nat} {θ:Th} {s s':Sg} {a:Act} {o:Oper}
theorem Sim.chs (c:Sim P I w0 F n J θ s a w) {b:List Ent} (g:St J w0 w (b.map (toCh P θ)++ [F])) (h:Newer s.nxt s.chs b) (d: ∀e∈b,okE P w0 J θ (s.nxt+1) b e):Sim P I w0 F n J θ ⟨s.env,b,s.nxt+1⟩ a w:=
 ⟨c.le,c.agr,g,fun e f=>AV.ok_same Same.rfl (Nat.le_succ _) h (c.fine.env e f) Hp.le.rfl,fun e f=>aZ (c.fine.ver e f),c.fine.nd,d,c.fine.lay⟩
theorem Lt {h:Hdr} (hs:H8 h s=some s') (m:Sim P I w0 F n J θ s a w):Sim P I w0 F n J θ s' a w:=by
 have ⟨r,B,hs⟩:=bind_some hs;have ⟨q,D,hs⟩:=bind_some hs;have hp:=zT B;have ⟨l,v,A,y,H⟩:=FZ D;have j:=hp.trans (y.cons _);have g:=m.fine.chs (r.ent h) (hp.mem_iff.2 (by simp));have k:St J w0 w (Ch.own r.t.rep [hv θ h] (r.f q.2.1)::(q.2.2.map (toCh P θ)++ [F])):=by
  have C:=m.st.perm ((j.map (toCh P θ)).append_right [F]);have z:St J w0 w (Ch.own r.u.rep [hv θ l] q.2.1::Ch.gap r.t.rep [hv θ h] r.u.rep r.f (ptB (hv θ h)) (ptO (hv θ h)+(r.i.toNat*r.k+r.off)) (r.lv.v θ)::(q.2.2.map (toCh P θ)++ [F])):=C.perm (List.Perm.swap _ _ _);rw[A] at z;exact St.settle z
 have i: ∀e,e∈q.2.2->e∈s.chs:=fun e f=>j.mem_iff.2 (by grind);cases u:q.1 with
 | true =>
  rw[u] at hs;cases ae (show some _=some s' from hs);have p:=H u;have G:q.2.1=r.y:=by
   have:=(g.2.2.2.2.2 l A).2 (l,v,.own r.u q.2.1) (j.mem_iff.2 (by simp)) _ ⟨rfl,.inl ⟨p,rfl⟩⟩
   injection this with _ K
  have x:r.f q.2.1=r.d:=by rw[G];exact g.2.2.2.2.1
  rw[x] at k;have d:Newer s.nxt s.chs ((h,r.over,.own r.t r.d)::q.2.2):=fun e f E t c b=>by
   rcases aA f with rfl | f
   ·obtain ⟨rfl,b⟩:=b;rcases b with ⟨rfl,rfl⟩ | b
    ·exact .inr ⟨r.ent h,hp.mem_iff.2 (by simp),rfl,.inr ⟨rfl,rfl⟩⟩
    ·exact b.elim
   grind
  refine m.chs k d fun e f=>?_;rcases aA f with rfl | f
  ·exact ⟨aZ g.1,aZ (Nat.lt_trans g.2.2.2.1 g.2.1),trivial⟩
  ·exact gy Same.rfl (Nat.le_succ _) d (m.fine.chs e (i e f)) Hp.le.rfl
 | false =>
  rw[u] at hs;cases ae (show some _=some s' from hs);have d:Newer s.nxt s.chs ((h,s.nxt,.own r.t (r.f q.2.1))::q.2.2):=fun e f E t c b=>by
   rcases aA f with rfl | f
   ·obtain ⟨rfl,b⟩:=b;rcases b with ⟨rfl,rfl⟩ | b
    ·grind
    ·exact b.elim
   grind
  refine m.chs k d fun e f=>?_;rcases aA f with rfl | f
  ·exact ⟨aZ g.1,ax _,trivial⟩
  ·exact gy Same.rfl (Nat.le_succ _) d (m.fine.chs e (i e f)) Hp.le.rfl
def settle:Nat->Hdr->Sg->Sg
 | 0,_,s=>s
 | m+1,h,s=>match H7 h s.chs with
  | some r=>match r.lv with
   | .own l=>match H8 h (settle m l s) with
    | some s'=>s'
    | none=>s
   | _=>s
  | none=>s
theorem AC: ∀ {m:Nat} {h:Hdr} {s:Sg},Sim P I w0 F n J θ s a w->Sim P I w0 F n J θ (settle m h s) a w
 | 0,_,_,hS=>hS
 | m+1,h,s,hS=>by
  unfold settle;split
  ·split
   ·split
    ·rename_i b;exact Lt b (AC hS)
    omega
   omega
  omega
end
section
variable {Y:Type} (tt:TT) (s:Sg) (k:Res->Option Y)
def Ny (T:TypeId) (x y:Operand):Option Y:=(td tt T).bind fun d=>match opd s x,opd s y with
 | some (.elo h ver E t xs a i off),some (.one lv)=>(H7 h s.chs).bind fun r=>bO (Nat.beq r.k t.size&&Nat.beq r.off off && !d.agg&&Nat.beq d.n 1&&(match lv with | .own l=> !(Hdr.beq l h) | _=>true)) ((chk (i=r.i)).bind fun _=>k ⟨[],[r.ent h],r.rest,[(h,.hole r.over r.t r.d r.u r.y r.f r.i r.k r.off lv)],.any ⟨s.nxt,[]⟩⟩)
 | _,_=>none
end
theorem Ei (h:Hdr):Hdr.beq h h=true:=by grind[Hdr.beq,Nat.beq_refl,Ar]
section
variable {Y:Type} {tt:TT} {s:Sg} {k:Res->Option Y} {P:Program} {w0:World} {o:Oper} {res:Y} {x y:Operand}
theorem Lu (X:TTok P tt) {T:TypeId} (ho:o.op= .store T x y) (h:Ny tt s k T x y=some res):Oks P w0 s o k res:=by
 have ⟨d,hd,h⟩:=bind_some h;split at h
 ·rename_i b V E t xs a i off N hx U;have ⟨r,W,h⟩:=bind_some h;have ⟨O,h⟩:=ai h;rw[aj,aj,aj,aj] at O;have ⟨⟨⟨⟨n,w⟩,p⟩,q⟩,Z⟩:=O;have ⟨u,L,h⟩:=bind_some h;have L:=bE L;have n:=al n;have w:=al w;have p:d.agg=false:=by simpa using p
  have q:=al q;have hp:=zT W;have C:=(X.get hd).ti;rw[p,q] at C;refine ⟨_,h,Cx hp,fun J θ F g B Q c D=>?_,fun J θ F=>?_⟩
  ·cases ak B;exact ⟨r.ent b,hp.mem_iff.2 (by simp),rfl,.inr D⟩
  ·have j:=kY F hp;have z:=bN F U;have H:evL (envL θ s) x= .pointer (some ⟨ptB (hv θ b),ptO (hv θ b)+(r.i.toNat*r.k+r.off),none⟩):=by
    rw[aF (θ:=θ) hx,n,w,<-L];rfl
   have hu: ∀u,hv (upd θ s.nxt u) b=hv θ b:=fun u=>ba Same.upd j.1
   have:=Eh (P:=P) (I:=J) (w0:=w0) (R:=r.t.rep) (S:=r.u.rep) (cs:=[hv θ b]) (f:=r.f) (v:=r.lv.v θ) C ho H (aF (θ:=θ) U) (LV.one z)
   refine OpT.weak this (fun v G=>⟨ax _,dV,fun g B=>?_⟩) (fun v G=>?_)
   ·cases ak B;refine ⟨aZ j.1,ax _,LV.ok_same Same.upd (Nat.le_succ _) z Hp.le.rfl,Nat.lt_trans j.2.2.2.1 j.2.1,j.2.2.2.2.1,fun l hl=>?_⟩;have M:l≠b:=fun e=>by
     grind[Hdr.beq,Ei]
    refine ⟨ax _,fun e A c D=>?_⟩;rcases aG A with A | A
    ·obtain ⟨g,B,rfl⟩:=List.mem_map.1 A;cases ak B;exact absurd D.1.symm M
    ·have A:e∈s.chs:=hp.mem_iff.2 (bY _ (by grind));have m:=F.chs e A;have ⟨h',v',c'⟩:=e;rcases D.2 with ⟨K,h2⟩ | K
     ·have:=m.2.1
      grind
     ·cases c' with
      | hole over _ _ _ _ _ _ _ _ _ =>
       have:=Nat.lt_trans m.2.2.2.1 m.2.1
       rw[K.1] at this;grind
      | _=>exact K.elim
   ·show [Ch.gap _ [hv θ b] _ _ (ptB (hv θ b)) (ptO (hv θ b)+_) (N.v θ)] = [Ch.gap _ [hv (upd θ s.nxt v) b] _ _ (ptB (hv (upd θ s.nxt v) b)) (ptO (hv (upd θ s.nxt v) b)+_) (N.v (upd θ s.nxt v))];rw[hu,LV.v_same Same.upd z]
 grind
end
inductive PM
 | rd (t:Ty)
 | ow (t:Ty)
 | fn (ps rs:List Ty)
 | cap (T:TypeId) (t:Ty)
 | capf (T:TypeId) (ps rs:List Ty)
 | ptr (T:TypeId) (t:Ty)
 | eat (t:Ty)
 | fk (g:Nat)
 | crs (T:TypeId) (E:TypeId)
 | kb (g:Nat) (T:TypeId) (t:Ty)
 | kc (g:Nat)
 deriving DecidableEq
def PM.den:PM->Type
 | .rd t=>t.den
 | .ow t=>t.den
 | .fn ps rs=>cur ps (Option (dens rs))
 | .cap _ t=>t.den
 | .capf _ ps rs=>cur ps (Option (dens rs))
 | .ptr _ t=>t.den
 | .eat t=>t.den
 | .fk _=>Unit
 | .crs _ _=>List Int×Int×Int
 | .kb _ _ t=>t.den
 | .kc _=>Unit
def denP:List PM->Type
 | [] =>Unit
 | p::ps=>p.den×denP ps
def curP:List PM->Type->Type
 | [],R=>R
 | p::ps,R=>p.den->curP ps R
def appP {R:Type} :(ps:List PM)->curP ps R->denP ps->R
 | [],f,_=>f
 | _::ps,f,d=>appP ps (f d.1) d.2
def PM.out:PM->List Ty
 | .ow t=>[t]
 | .ptr _ t=>[t]
 | .crs _ _=>[.prod (.int .i64) (.int .i64)]
 | .kb _ _ t=>[t]
 | _=>[]
def outs:List PM->List Ty
 | [] =>[]
 | p::ps=>match p with
  | .ow t=>t::outs ps
  | .ptr _ t=>t::outs ps
  | .crs _ _=>.prod (.int .i64) (.int .i64)::outs ps
  | .kb _ _ t=>t::outs ps
  | _=>outs ps
def hFst:(ts us:List Ty)->j4 (ts++us)->j4 ts
 | [],_,_=>()
 | _::ts,us,d=>(d.1,hFst ts us d.2)
def hSnd:(ts us:List Ty)->j4 (ts++us)->j4 us
 | [],_,d=>d
 | _::ts,us,d=>hSnd ts us d.2
structure FS where
 ps:List PM
 rs:List Ty
 m:curP ps (Option (dens (rs++outs ps)))
 cl:Option (TypeId×Nat)
theorem Yq:HL.Dp:=Ao
def xL (P:Program) (k:FuncId) (E b:Nat):Prop:=Enters P k/\ ∀(E':TypeId) (I:Hp) (w0:World) (v:Value) (xs zs:List Raw),Lay P I->(aw E' HL).rd I [v] xs->bM b [] xs=some zs->Con P k #[v] I w0 [] (fun _=>True) (fun r=>[Ch.own (aw E HL) [r] zs])
abbrev FT:=List (Nat×FS)
def fs (ft:FT) (k:Nat):Option FS:=match ft with
 | [] =>none
 | (j,f)::l=>if Nat.beq j k then some f else fs l k
def aaE (P:Program) (w0:World) (J:Hp) (γ:Value):(p:PM)->Value->p.den->Prop
 | .rd t,v,d=> ∃cs,Lds t.isProd cs v/\t.rep.rd J cs d
 | .ow t,v,_=>oL v=t.isProd
 | .fn a b,v,d=>FnOk P w0 J v a b d
 | .cap T t,v,d=> ∃b,v= .pointer (some ⟨b,0,none⟩)/\ ∃cells:List Value,J b=some (.cells cells.toArray T (0,0))/\t.rep.rd J cells d
 | .capf T x y,v,d=> ∃b,v= .pointer (some ⟨b,0,none⟩)/\ ∃u:Value,J b=some (.cells [u].toArray T (0,0))/\FnOk P w0 J u x y d
 | .ptr T t,v,_=> ∃b,v= .pointer (some ⟨b,0,none⟩)
 | .eat t,v,_=>oL v=t.isProd
 | .fk g,v,_=>v= .func (.func g) #[] #[]
 | .crs _ E,v,d=>(∃b,v= .pointer (some ⟨b,0,none⟩))/\(Ty.sl E (.int .u8)).rep.rd J [γ] d.1
 | .kb g _ _,v,_=>v= .func (.func g) #[] #[γ] /\ ∃b,γ= .pointer (some ⟨b,0,none⟩)
 | .kc g,v,_=>v= .func (.func g) #[] #[γ] /\ ∃b,γ= .pointer (some ⟨b,0,none⟩)
def PArgs (P:Program) (w0:World) (J:Hp) (γ:Value):(ps:List PM)->List Value->denP ps->Prop
 | [],vs,_=>vs= []
 | p::ps,vs,d=> ∃v r,vs=v::r/\aaE P w0 J γ p v d.1/\PArgs P w0 J γ ps r d.2
def owCh (γ:Value):(ps:List PM)->List Value->denP ps->List Ch
 | p::ps,v::vs,d=>match p,d with
  | .ow t,d=>Ch.own t.rep (mo t.isProd v) d.1::owCh γ ps vs d.2
  | .ptr T t,d=>Ch.box (bk v) T t.rep d.1::owCh γ ps vs d.2
  | .eat t,d=>Ch.own t.rep (mo t.isProd v) d.1::owCh γ ps vs d.2
  | .rd _,d=>owCh γ ps vs d.2
  | .fn _ _,d=>owCh γ ps vs d.2
  | .cap _ _,d=>owCh γ ps vs d.2
  | .capf _ _ _,d=>owCh γ ps vs d.2
  | .fk _,d=>owCh γ ps vs d.2
  | .crs T _,d=>Ch.blk (bk v) [γ,.int .i64 d.1.2.1,.int .i64 d.1.2.2] T::owCh γ ps vs d.2
  | .kb _ T t,d=>Ch.box (bk γ) T t.rep d.1::owCh γ ps vs d.2
  | .kc _,d=>owCh γ ps vs d.2
 | _,_,_=>[]
def outCh (γ:Value):(ps:List PM)->List Value->j4 (outs ps)->List Ch
 | p::ps,v::vs,d=>match p,d with
  | .ow t,d=>Ch.own t.rep (mo t.isProd v) d.1::outCh γ ps vs d.2
  | .ptr T t,d=>Ch.box (bk v) T t.rep d.1::outCh γ ps vs d.2
  | .eat _,d=>outCh γ ps vs d
  | .rd _,d=>outCh γ ps vs d
  | .fn _ _,d=>outCh γ ps vs d
  | .cap _ _,d=>outCh γ ps vs d
  | .capf _ _ _,d=>outCh γ ps vs d
  | .fk _,d=>outCh γ ps vs d
  | .crs T _,d=>Ch.blk (bk v) [γ,.int .i64 d.1.1,.int .i64 d.1.2] T::outCh γ ps vs d.2
  | .kb _ T t,d=>Ch.box (bk γ) T t.rep d.1::outCh γ ps vs d.2
  | .kc _,d=>outCh γ ps vs d
 | _,_,_=>[]
def abH (P:Program) (k:FuncId):Prop:= ∀(w:World) (g h oa ob la lb ca cb:Nat) (curA curB:Array Value) (tA tB:TypeId),g≠h->w.heap[g]? =some (.cells curA tA (0,0))->w.heap[h]? =some (.cells curB tB (0,0))->0<curB.size->(callFunc k #[.slice (some ⟨g,oa,none⟩) la ca,.slice (some ⟨h,ob,none⟩) lb cb]).run P w= .ok (.value (.bool false)) w
def Yr (P:Program) (k:FuncId) (T f:Nat):Prop:=Enters P k/\ ∀(I:Hp) (w0:World) (c d:List Value),Con P k #[.agg c.toArray,.agg d.toArray] I w0 []
 (fun v=> ∃b1 b2,v= .func (.func f) #[] #[.pointer (some ⟨b1,0,none⟩),.pointer (some ⟨b2,0,none⟩)]) (fun v=>[Ch.emp,Ch.blk (bk (vg v [0])) c T,Ch.blk (bk (vg v [1])) d T])
def FS.ov (f:FS):Bool:=match f.cl with
 | some q=>Nat.beq q.2 0 || Nat.beq q.2 9
 | none=>false
def ClOk (P:Program) (k:FuncId) (E b:Nat):Prop:=(Nat.beq b 0=true->abH P k)/\(Nat.beq b 0=false->Nat.beq b 7=false->Nat.ble 1000 b=false->Nat.beq b 9=false->xL P k E b)/\(Nat.ble 1000 b=true->Yr P k E (b - 1000))
def yO:(ts:List Ty)->j4 ts->Value->Prop
 | [.sl _ t],d,v=>List.length (α:=t.den) d.1=0->v= .slice none 0 0
 | _,_,_=>True
def NilOk (P : Program) (k : FuncId) (f : FS) : Prop := ∀ w0 J γ vs (d : denP f.ps) r, Lay P J -> PArgs P w0 J γ f.ps vs d -> appP f.ps f.m d = some r ->
    Con P k vs.toArray J w0 (owCh γ f.ps vs d) (fun v => resFa f.rs v /\ yO f.rs (hFst f.rs (outs f.ps) (toH _ r)) v) (fun v => resGv f.rs (hFst f.rs (outs f.ps) (toH _ r)) v ++ outCh γ f.ps vs (hSnd f.rs (outs f.ps) (toH _ r)))
def VZ:(ts:List Ty)->j4 ts->Option (List Int)
 | [],_=>some []
 | .int .i64::ts,d=>(VZ ts d.2).map fun l=>d.1::l
 | _::_,_=>none
def NewOk (P : Program) (k : FuncId) (T : Nat) (f : FS) : Prop := Enters P k /\ ∀ w0 J γ vs (d : denP f.ps) r ns, Lay P J -> PArgs P w0 J γ f.ps vs d -> appP f.ps f.m d = some r -> VZ (f.rs ++ outs f.ps) (toH _ r) = some ns ->
    Con P k vs.toArray J w0 [] (fun v => ∃ b, v = .pointer (some ⟨b, 0, none⟩)) (fun v => [Ch.blk (bk v) (vs ++ ns.map (Value.int .i64)) T])
structure FOk (P:Program) (k:FuncId) (f:FS):Prop where
 cl: ∀q,f.cl=some q->ClOk P k q.1 q.2/\(Nat.beq q.2 7=true->NilOk P k f)/\(Nat.beq q.2 9=true->NewOk P k q.1 f)
 en:f.ov=false->Enters P k
 con:f.ov=false-> ∀w0 J γ vs (d:denP f.ps) r,Lay P J->PArgs P w0 J γ f.ps vs d->appP f.ps f.m d=some r->
  Con P k vs.toArray J w0 (owCh γ f.ps vs d) (resFa f.rs) (fun v=>resGv f.rs (hFst f.rs (outs f.ps) (toH _ r)) v++outCh γ f.ps vs (hSnd f.rs (outs f.ps) (toH _ r)))
def FTok (P:Program):FT->Prop
 | [] =>True
 | (k,f)::l=>FOk P k f/\FTok P l
theorem FTok.get {P:Program} {k:Nat} {f:FS} : ∀ {a:FT},FTok P a->fs a k=some f->FOk P k f
 | (j,x)::l,⟨h1,h2⟩,h=>by
  unfold fs at h;split at h
  ·rename_i b
   have:=al b
   subst this;rw[<-ae h];exact h1
  ·exact FTok.get h2 h
def Ty.dp:Ty->Bool
 | .prod a b=>a.dp&&b.dp
 | .sl _ t=>t.dp
 | .fro _=>false
 | .bag _=>false
 | .wr t=>t.dp
 | .tree _ _ _=>false
 | _=>true
theorem Ty.dp_ok: ∀ {t:Ty},t.dp=true->t.rep.Dp
 | .int _,_=>Ao
 | .bool,_=>Vm
 | .str,_=>Ya
 | .raw,_=>Ao (α:=Raw) (enc:=(·.1)) (h1:=(·.2))
 | .prod a b,h=>by
  have h:(a.dp&&b.dp)=true:=h;rw[aj] at h;exact Vn (dp_ok h.1) (dp_ok h.2)
 | .sl _ t,h=>D4 (dp_ok (show t.dp=true from h))
 | .fro _,h=>by cases h
 | .bag _,h=>by cases h
 | .wr t,h=>dp_ok (t:=t) h
 | .tree _ _ _,h=>by cases h
def mS (id:Nat) (pth:Nat->List Nat):(t:Ty)->t.den->Nat->List LV
 | .int k,d,_=>[.val (.int k d)]
 | .bool,d,_=>[.val (.bool d)]
 | .str,d,_=>[.val (.string d)]
 | .raw,d,_=>[.val d.1]
 | .prod a b,d,j=>mS id pth a d.1 j++mS id pth b d.2 (j+a.size)
 | .sl E t,d,j=>[.rd ⟨id,pth j⟩ (.sl E t) d]
 | .fro t,d,j=>mS id pth t d j
 | .bag t,d,j=>mS id pth t d j
 | .wr t,d,j=>mS id pth t d j
 | .tree T E t,d,j=>[.rd ⟨id,pth j⟩ (.tree T E t) d]
theorem jJ {P:Program} {w0:World} {J:Hp} {θ:Th} {id n:Nat} {pth:Nat->List Nat} (e:id<n): ∀(t:Ty) (d:t.den) (j:Nat) (cs:List Value),t.rep.rd J cs d->(∀i v,cs[i]? =some v->vg (θ id) (pth (j+i))=v)->
  (∀x∈mS id pth t d j,x.ok P w0 J θ n)/\(mS id pth t d j).map (·.v θ)=cs
 | .int k,d,j,cs,h,_=>⟨fun x c=>by cases ak c;rfl,h.symm⟩
 | .bool,d,j,cs,h,_=>⟨fun x c=>by cases ak c;rfl,h.symm⟩
 | .str,d,j,cs,h,_=>⟨fun x c=>by cases ak c;rfl,h.symm⟩
 | .raw,d,j,cs,h,_=>⟨fun x c=>by cases ak c;exact d.2,h.symm⟩
 | .prod a b,d,j,cs,h,hc=>by
  obtain ⟨m,l,rfl,g,o⟩:=h;have w:=(Rep.rd_len _ g).trans a.rep_size;obtain ⟨p,s⟩:=jJ e a d.1 j m g fun i v hv=>hc i v (by grind);obtain ⟨q,r⟩:=jJ e b d.2 (j+a.size) l o fun i v hv=>by
   have:=hc (a.size+i) v (by grind)
   rwa [show j+a.size+i=j+(a.size+i) from by omega]
  refine ⟨fun x c=>?_,?_⟩
  ·rcases aG c with c | c
   ·exact p x c
   ·exact q x c
  grind[mS]
 | .sl E t,d,j,cs,h,hc=>by
  obtain ⟨u,rfl⟩:=List.length_eq_one_iff.1 (Rep.rd_len _ h);have f:hv θ ⟨id,pth j⟩=u:=by
   have:=hc 0 u rfl
   rwa [Nat.add_zero] at this
  refine ⟨fun x c=>?_,?_⟩
  ·cases ak c;exact ⟨e,by grind⟩
  ·show [hv θ ⟨id,pth j⟩] = [u];rw[f]
 | .fro t,d,j,cs,h,hc=>jJ e t d j cs h hc
 | .bag t,d,j,cs,h,hc=>jJ e t d j cs h hc
 | .wr t,d,j,cs,h,hc=>jJ e t d j cs h hc
 | .tree T E t,d,j,cs,h,hc=>by
  obtain ⟨u,rfl⟩:=List.length_eq_one_iff.1 (Rep.rd_len _ h);have f:hv θ ⟨id,pth j⟩=u:=by
   have:=hc 0 u rfl
   rwa [Nat.add_zero] at this
  refine ⟨fun x c=>?_,?_⟩
  ·cases ak c;exact ⟨e,by grind⟩
  ·show [hv θ ⟨id,pth j⟩] = [u];rw[f]
def iO (id:Nat) (pth:Nat->List Nat):(t:Ty)->t.den->Nat->List LV
 | .int k,d,_=>[.val (.int k d)]
 | .bool,d,_=>[.val (.bool d)]
 | .str,d,_=>[.val (.string d)]
 | .raw,d,_=>[.val d.1]
 | .prod a b,d,j=>iO id pth a d.1 j++iO id pth b d.2 (j+a.size)
 | .sl _ _,_,j=>[.own ⟨id,pth j⟩]
 | .fro t,d,j=>mS id pth t d j
 | .bag t,_,j=>(List.range t.size).map fun i=>.own ⟨id,pth (j+i)⟩
 | .wr t,d,j=>iO id pth t d j
 | .tree _ _ _,_,j=>[.own ⟨id,pth j⟩]
def rM (id:Nat) (pth:Nat->List Nat):(t:Ty)->t.den->Nat->List (Hdr×Chk)
 | .prod a b,d,j=>rM id pth a d.1 j++rM id pth b d.2 (j+a.size)
 | .wr t,d,j=>rM id pth t d j
 | .tree T E t,d,j=>[(⟨id,pth j⟩,.own (.tree T E t) d)]
 | .sl E t,d,j=>[(⟨id,pth j⟩,.own (.sl E t) d)]
 | _,_,_=>[]
section
variable {P:Program} {I J:Hp} {w0 w:World} {C:List Ch} {θ:Th} {n m:Nat}
theorem JH {α β:Type} {A:Rep α} {B:Rep β} {cs:List Value} {x:α×β} (h:St I w0 w (Ch.own (si A B) cs x::C)): ∃c d,cs=c++d/\c.length=A.size/\St I w0 w (Ch.own A c x.1::Ch.own B d x.2::C):=by
 obtain ⟨i,k,F,⟨G,K,rfl,⟨c,d,f,a,rfl,rfl,b,l⟩,e⟩,g,j⟩:=h;exact ⟨c,d,rfl,A.own_len b,i,k,(f++a)++K,⟨f,a++K,by grind,b,a,K,rfl,l,e⟩,g,j⟩
theorem wo {α:Type} {enc:α->Value} {h1: ∀a,(enc a).oneCell'=true} {cs:List Value} {x:α} (h:St I w0 w (Ch.own (mu α enc h1) cs x::C)):cs= [enc x] /\St I w0 w C:=by
 obtain ⟨h1,c,F,⟨G,K,rfl,⟨rfl,k⟩,e⟩,b,d⟩:=h;exact ⟨k,h1,c,K,e,b,d⟩
theorem jK {id:Nat} {pth:Nat->List Nat} (l:id<n): ∀(t:Ty) (d:t.den) (j:Nat) (cs:List Value) (C:List Ch),(∀i v,cs[i]? =some v->vg (θ id) (pth (j+i))=v)->St J w0 w (Ch.own t.rep cs d::C)->
  (∀x∈iO id pth t d j,x.ok P w0 J θ n)/\(iO id pth t d j).map (·.v θ)=cs/\(∀g∈rM id pth t d j,g.1.id=id)/\St J w0 w (((rM id pth t d j).map fun g=>toCh P θ (g.1,m,g.2))++C)
 | .int k,d,j,cs,C,_,h=>by
  obtain ⟨rfl,p⟩:=wo h;exact ⟨fun x f=>by cases ak f;rfl,rfl,fun g c=>(by cases c),p⟩
 | .bool,d,j,cs,C,_,h=>by
  obtain ⟨rfl,p⟩:=wo (h1:=fun _=>rfl) h;exact ⟨fun x f=>by cases ak f;rfl,rfl,fun g c=>(by cases c),p⟩
 | .str,d,j,cs,C,_,h=>by
  obtain ⟨rfl,p⟩:=wo (h1:=fun _=>rfl) h;exact ⟨fun x f=>by cases ak f;rfl,rfl,fun g c=>(by cases c),p⟩
 | .raw,d,j,cs,C,_,h=>by
  obtain ⟨rfl,p⟩:=wo (α:=Raw) (enc:=(·.1)) (h1:=(·.2)) h;exact ⟨fun x f=>by cases ak f;exact d.2,rfl,fun g c=>(by cases c),p⟩
 | .prod a b,d,j,cs,C,hc,h=>by
  obtain ⟨O,N,rfl,r,h⟩:=JH h;rw[a.rep_size] at r;have ⟨L,H,X,Q⟩:=jK l a d.1 j O _ (fun i v hv=>hc i v (by grind)) h;obtain ⟨U,W,S,R⟩:=jK l b d.2 (j+a.size) N _ (fun i v hv=>by
   have:=hc (a.size+i) v (by grind)
   rwa [show j+a.size+i=j+(a.size+i) from by omega]) (Q.perm List.perm_middle)
  refine ⟨fun x f=>?_,?_,fun g c=>?_,?_⟩
  ·rcases aG f with f | f
   ·grind
   grind
  ·grind[iO]
  ·rcases aG c with c | c
   ·grind
   grind
  ·show St J w0 w (((rM id pth a d.1 j++rM id pth b d.2 (j+a.size)).map _)++C);refine R.perm ?_;grind[aC,List.perm_append_comm_assoc]
 | .sl E t,d,j,cs,C,hc,h=>by
  have o: ∃u,cs= [u] /\u.oneCell'=true:=by
   obtain ⟨h1,q,F,⟨G,K,rfl,k,e⟩,s,y⟩:=h;have r:=(Ty.sl E t).rep.own_len k;obtain ⟨u,rfl⟩:=List.length_eq_one_iff.1 r;exact ⟨u,rfl,(Ty.sl E t).rep.own_one k u (by simp)⟩
  obtain ⟨u,rfl,h1⟩:=o;have z:hv θ ⟨id,pth j⟩=u:=by
   have:=hc 0 u rfl
   rwa [Nat.add_zero] at this
  refine ⟨fun x f=>?_,?_,fun g c=>?_,?_⟩
  ·cases ak f;exact ⟨l,by grind⟩
  ·show [hv θ ⟨id,pth j⟩] = [u];rw[z]
  ·cases ak c;rfl
  ·show St J w0 w (Ch.own _ [hv θ ⟨id,pth j⟩] d::C);grind
 | .fro t,d,j,cs,C,hc,h=>by
  obtain ⟨h1,q,F,⟨G,K,rfl,⟨rfl,k⟩,e⟩,s,y⟩:=h;obtain ⟨L,H⟩:=jJ (J:=J) l t d j cs k hc;exact ⟨L,H,fun g c=>(by cases c),h1,q,K,e,s,y⟩
 | .wr t,d,j,cs,C,hc,hs=>jK l t d j cs C hc hs
 | .bag t,d,j,cs,C,hc,h=>by
  obtain ⟨h1,q,F,⟨G,K,rfl,k,e⟩,s,y⟩:=h;have r:=((Ty.bag t).rep.own_len k).trans t.rep_size;have V:=(Ty.bag t).rep.own_one k;have A:St J w0 w C:=⟨h1,q,K,e,(List.nodup_append.1 s).2.1,fun b M=>y b (bq _ M)⟩;have D: ∀i (B:i<cs.length),hv θ ⟨id,pth (j+i)⟩=cs[i]:=fun i B=>hc i _ (List.getElem?_eq_getElem B);refine ⟨fun x f=>?_,?_,fun g c=>(by cases c),A⟩
  ·obtain ⟨i,B,rfl⟩:=List.mem_map.1 f;exact ⟨l,by grind⟩
  ·show ((List.range t.size).map fun i=>LV.own ⟨id,pth (j+i)⟩).map (·.v θ)=cs;rw[List.map_map,<-r];refine List.ext_getElem (by simp) fun i h1 q=>?_;rw[List.getElem_map,List.getElem_range];exact D i q
 | .tree T E t,d,j,cs,C,hc,h=>by
  have o: ∃u,cs= [u] /\u.oneCell'=true:=by
   obtain ⟨h1,q,F,⟨G,K,rfl,k,e⟩,s,y⟩:=h;have r:=(Ty.tree T E t).rep.own_len k;obtain ⟨u,rfl⟩:=List.length_eq_one_iff.1 r;exact ⟨u,rfl,(Ty.tree T E t).rep.own_one k u (by simp)⟩
  obtain ⟨u,rfl,h1⟩:=o;have z:hv θ ⟨id,pth j⟩=u:=by
   have:=hc 0 u rfl
   rwa [Nat.add_zero] at this
  refine ⟨fun x f=>?_,?_,fun g c=>?_,?_⟩
  ·cases ak f;exact ⟨l,by grind⟩
  ·show [hv θ ⟨id,pth j⟩] = [u];rw[z]
  ·cases ak c;rfl
  ·show St J w0 w (Ch.own _ [hv θ ⟨id,pth j⟩] d::C);grind
end
def Lv (agg:Bool) (pre:List Nat):Nat->List Nat:=match agg with
 | true=>fun j=>pre++ [j]
 | false=>fun _=>pre
def lC (id:Nat) (pre:List Nat) (t:Ty) (d:t.den):Bool×List LV:=(t.isProd,iO id (Lv t.isProd pre) t d 0)
def mA (id:Nat) (pre:List Nat) (t:Ty) (d:t.den):List (Hdr×Chk):=rM id (Lv t.isProd pre) t d 0
def F5 (id:Nat):(i:Nat)->(ts:List Ty)->j4 ts->List (Bool×List LV)
 | _,[],_=>[]
 | i,t::ts,d=>lC id [i] t d.1::F5 id (i+1) ts d.2
def yP (id:Nat):(i:Nat)->(ts:List Ty)->j4 ts->List (Hdr×Chk)
 | _,[],_=>[]
 | i,t::ts,d=>mA id [i] t d.1++yP id (i+1) ts d.2
def Nz (y:Bool×List LV):AV:=match y with
 | (true,l)=>.agg l
 | (false,[x])=>.one x
 | _=>.und
def H9 (id:Nat):(ts:List Ty)->j4 ts->AV
 | [t],d=>Nz (lC id [] t d.1)
 | ts,d=>.tup (F5 id 0 ts d)
def wq (id:Nat):(ts:List Ty)->j4 ts->List (Hdr×Chk)
 | [t],d=>mA id [] t d.1
 | ts,d=>yP id 0 ts d
theorem JI: ∀p:List Nat,vg undef p=undef
 | [] =>rfl
 | i::l=>by
  exact JI l
theorem JJ: ∀(p q:List Nat) (v:Value),vg v (p++q)=vg (vg v p) q
 | [],q,v=>by rfl
 | i::p,q,v=>by
  cases v with
  | tuple a=>exact JJ p q _
  | agg cs=>exact JJ p q _
  | func _ _ cs=>exact JJ p q _
  | _=>exact (JI q).symm
theorem T9 {cs:Array Value} {j:Nat} {v:Value} (h:cs.toList[j]? =some v):vg (.agg cs) [j] =v:=by
 show cs.getD j undef=v;simp_all
theorem Ty.size_one: ∀ {t:Ty},t.isProd=false->t.size=1
 | .int _,_=>rfl
 | .bool,_=>rfl
 | .str,_=>rfl
 | .raw,_=>rfl
 | .prod _ _,h=>by cases h
 | .sl _ _,_=>rfl
 | .fro t,h=>Ty.size_one (t:=t) h
 | .wr _,h=>by cases h
 | .tree _ _ _,_=>rfl
 | .bag t,h=>Ty.size_one (t:=t) h
theorem sC {id:Nat} {pth:Nat->List Nat} : ∀ {t:Ty} {d:t.den} {j:Nat},t.isProd=false->(mS id pth t d j).length=1
 | .int _,_,_,_=>rfl
 | .bool,_,_,_=>rfl
 | .str,_,_,_=>rfl
 | .raw,_,_,_=>rfl
 | .prod _ _,_,_,h=>by cases h
 | .sl _ _,_,_,_=>rfl
 | .fro t,d,j,h=>sC (t:=t) h
 | .bag t,d,j,h=>sC (t:=t) h
 | .wr _,_,_,h=>by cases h
 | .tree _ _ _,_,_,_=>rfl
theorem sD {id:Nat} {pth:Nat->List Nat} {t:Ty} {d:t.den} {j:Nat} (h1:t.isProd=false):(iO id pth t d j).length=1:=by
 cases t with
 | prod a b=>cases h1
 | fro t=>exact sC (t:=t) h1
 | wr t=>cases h1
 | bag t =>
  show ((List.range t.size).map _).length=1;rw[List.length_map,List.length_range];exact Ty.size_one h1
 | _=>rfl
def F6:List Ty->Bool
 | [] =>true
 | t::ts=>t.dp&&F6 ts
section
variable {P:Program} {I J:Hp} {w0 w:World} {C:List Ch} {θ:Th} {n m:Nat}
theorem Ej {chs:List Ent} : ∀y:Bool×List LV,(y.1=false->y.2.length=1)->(∀x∈y.2,x.ok P w0 J θ n)->(Nz y).ok P w0 J θ n chs/\(Nz y).v θ=lx θ y:=by
 rintro ⟨b,l⟩ c a;cases b with
 | true=>exact ⟨a,rfl⟩
 | false =>
  obtain ⟨x,rfl⟩:=List.length_eq_one_iff.1 (c rfl);exact ⟨a x (by simp),rfl⟩
theorem wt {id:Nat} {pre:List Nat} (a:id<n) {t:Ty} {d:t.den} {u:Value} (e:hv θ ⟨id,pre⟩=u) (c:oL u=t.isProd) (h:St J w0 w (Ch.own t.rep (mo t.isProd u) d::C)) :
  (∀x∈(lC id pre t d).2,x.ok P w0 J θ n)/\(lC id pre t d).2.map (·.v θ)=mo t.isProd u/\lx θ (lC id pre t d)=u/\(∀g∈mA id pre t d,g.1.id=id)/\St J w0 w (((mA id pre t d).map fun g=>toCh P θ (g.1,m,g.2))++C):=by
 have e:vg (θ id) pre=u:=e;cases b:t.isProd with
 | true =>
  rw[b] at c h;cases u with
  | agg o =>
   have ⟨k,f,j,l⟩:=jK (P:=P) (m:=m) (θ:=θ) (pth:=Lv true pre) a t d 0 o.toList C (fun i v hv=>by
    show vg (θ id) (pre++ [0+i])=v;simp_all[JJ,Nat.zero_add,T9]) h
   refine ⟨by grind[lC],by unfold lC;rw[b];exact f,?_,by grind[mA],by grind[mA]⟩;simp_all[lC,lx,iO,Lv]
  | _=>cases c
 | false =>
  rw[b] at c h;have ⟨k,f,j,l⟩:=jK (P:=P) (m:=m) (θ:=θ) (pth:=Lv false pre) a t d 0 [u] C (fun i v hv=>by
   cases i with
   | zero=>exact e.trans (by grind)
   | succ i=>grind) h
  refine ⟨by grind[lC],by unfold lC;rw[b];exact f,?_,by grind[mA],by grind[mA]⟩;grind[lC,lx,iO,Lv,undef,List.cons.inj]
theorem JK {id:Nat} (c:id<n) {vs:Array Value} (f:θ id= .tuple vs): ∀(a:List Ty) (i:Nat) (d:j4 a) (C:List Ch),(∀j t,a[j]? =some t->oL (vs.getD (i+j) undef)=t.isProd)->St J w0 w (xH i a d (.tuple vs)++C)->
  (∀y∈F5 id i a d,∀x∈y.2,x.ok P w0 J θ n)/\(F5 id i a d).map (lx θ)=(List.range' i a.length).map (fun j=>vs.getD j undef)/\(∀g∈yP id i a d,g.1.id=id)/\St J w0 w (((yP id i a d).map fun g=>toCh P θ (g.1,m,g.2))++C)
 | [],i,d,C,_,h=>⟨fun y e=>(by cases e),rfl,fun g b=>(by cases b),h⟩
 | t::a,i,d,C,ha,h=>by
  obtain ⟨q,-,p,z,k⟩:=wt (P:=P) (m:=m) (θ:=θ) (pre:=[i]) (u:=vs.getD i undef) c (by show vg (θ id) [i] =_;rw[f];rfl) (ha 0 t rfl) h;have ⟨v,r,s,l⟩:=JK c f a (i+1) d.2 (((mA id [i] t d.1).map fun g=>toCh P θ (g.1,m,g.2))++C) (fun j t o=>by
   have:=ha (j+1) t o
   grind) (k.perm (List.perm_append_comm_assoc _ _ _))
  refine ⟨fun y e=>?_,?_,fun g b=>?_,?_⟩
  ·rcases aA e with rfl | e
   ·exact q
   grind
  ·show lx θ _::(F5 id (i+1) a d.2).map _=_;rw[p,r];rfl
  ·rcases aG b with b | b
   ·grind
   grind
  ·show St J w0 w (((mA id [i] t d.1++yP id (i+1) a d.2).map _)++C);refine l.perm ?_;grind[aC,List.perm_append_comm_assoc]
theorem JL {id:Nat} (k:id<n) {chs:List Ent} {v:Value} (u:θ id=v): ∀(a:List Ty) (d:j4 a) (C:List Ch),resFa a v->St J w0 w (resGv a d v++C)->
  (H9 id a d).ok P w0 J θ n chs/\(H9 id a d).v θ=v/\(∀g∈wq id a d,g.1.id=id)/\St J w0 w (((wq id a d).map fun g=>toCh P θ (g.1,m,g.2))++C):=by
 intro a d C f h;have b: ∀c,v= .tuple c->c.size=a.length->(∀i t,a[i]? =some t->oL (c.getD i undef)=t.isProd)->St J w0 w (xH 0 a d v++C)->
   (AV.tup (F5 id 0 a d)).ok P w0 J θ n chs/\(AV.tup (F5 id 0 a d)).v θ=v/\(∀g∈yP id 0 a d,g.1.id=id)/\St J w0 w (((yP id 0 a d).map fun g=>toCh P θ (g.1,m,g.2))++C):=by
  rintro c rfl z B h;have ⟨o,x,l,r⟩:=JK (P:=P) (m:=m) k u a 0 d C (fun j t D=>by grind) h;refine ⟨o,?_,l,r⟩;show Value.tuple ((F5 id 0 a d).map (lx θ)).toArray=_;congr 1;apply Array.ext';apply List.ext_getElem?;intro i;by_cases E:i<a.length
  ·simp_all
  ·grind
 match a,d,f,h,b with
 | [t],d,f,h,_ =>
  obtain ⟨o,-,x,l,r⟩:=wt (P:=P) (m:=m) (θ:=θ) (pre:=[]) k (show hv θ ⟨id,[]⟩=v from u) f h;obtain ⟨A,y⟩:=Ej _ (fun e=>sD e) o;exact ⟨A,y.trans x,l,r⟩
 | [],d,f,h,b=>have ⟨c,p,s,q⟩:=f;exact b c p s q h
 | _::_::_,d,f,h,b=>have ⟨c,p,s,q⟩:=f;exact b c p s q h
end
section
variable {P:Program} {I:Hp} {w0 w:World} {o:Oper} {ev:Operand->Value}
theorem NA {ls rn cs:List Ch} (h:St I w0 w (ls++(rn++cs))): ∃J,I.le J/\(∀ {α:Type} (R:Rep α) (v:List Value) (a:α),Ch.own R v a∈ls->R.rd J v a)/\(∀g l E,Ch.blk g l E∈ls->J g=some (.cells l.toArray E (0,0)))/\St J w0 w (rn++ [Ch.fr I cs]) /\
  ∀r n,Ch.deeps n->St J w0 r (n++ [Ch.fr I cs])->St I w0 r (n++(ls++cs)):=by
 have ⟨s,U,F,S,V,h3⟩:=h;obtain ⟨G,K,rfl,p,Z⟩:=S.split;have ⟨n1,T,n3⟩:=List.nodup_append.1 V;let J:=fun b=>if b∈G then w.heap[b]? else I b;have i:I.le J:=fun b o f=>by
  grind
 have k: ∀b,b∈G->J b=w.heap[b]? :=fun b f=>if_pos f;have t: ∀b,b∉G->J b=I b:=fun b f=>if_neg f;have j: ∀ {ls:List Ch} {G:List Nat} {c:Ch},Sep I ls w G->c∈ls-> ∃q,(∀b,b∈q->b∈G)/\c.holds I w q:=by
  intro ls;induction ls with
  | nil=>grind
  | cons d ls ih =>
   rintro G c ⟨G1,A,rfl,e,e'⟩ hc;grind
 obtain ⟨A,z,rfl,g1,M⟩:=Z.split;refine ⟨J,i,fun R v a x=>?_,fun g l E x=>?_,⟨s,fun b o f=>?_,A++z,(g1.mono i).append ⟨z,[],by simp,M,rfl⟩,T,fun b f=>?_⟩,?_⟩
 ·have ⟨q,C,B⟩:=j p x;exact R.own_rd B i fun b s=>k b (C b s)
 ·have ⟨q,C,B,f3⟩:=j p x;grind
 ·by_cases m:b∈G
  ·rw[k b m] at f;exact f
  ·rw[t b m] at f;exact U b o f
 ·grind
 ·rintro r n X ⟨O,D,F',N,k2,k3⟩;obtain ⟨H,F2,rfl,W,Y,F4,rfl,Q,rfl⟩:=N.split;have u:=p.live;have y: ∀b,b∈G->r.heap[b]? =w.heap[b]? :=fun b m=>by
   have ⟨o,L⟩: ∃o,w.heap[b]? =some o:=⟨_,Array.getElem?_eq_getElem (u b m)⟩;rw[L];exact D b o (by grind)
  refine ⟨O,i.trans D,H++(G++Y),(W.deeps X).append ((p.stay y).append Q),?_,fun b f=>?_⟩
  ·grind
  grind
theorem wu {ls rn:List Ch} {fact:Value->Prop} {gv:Value->List Ch} (j: ∀v,Ch.deeps (gv v))
  (h: ∀J,I.le J->(∀ {α:Type} (R:Rep α) (v:List Value) (a:α),Ch.own R v a∈ls->R.rd J v a)->(∀g l E,Ch.blk g l E∈ls->J g=some (.cells l.toArray E (0,0)))->OpT P J w0 o ev rn fact gv):OpT P I w0 o ev (ls++rn) fact (fun v=>ls++gv v):=by
 intro w C b;rw[aC] at b;have ⟨J,d,i,e,c,f⟩:=NA b;refine (h J d i e w _ c).imp fun v k hv=>⟨hv.1,?_⟩
 have:=f k _ (j v) hv.2
 refine this.perm ?_;grind[aC,List.perm_append_comm_assoc]
end
def Ua (chs:List Ent) (E:TypeId) (t:Ty) (x:LV):Option (List t.den×List Hdr):=match x with
 | .own h=>(rowOf h chs).bind fun q=>(oH (.sl q.E q.t) (.sl E t) q.xs).bind fun d=>some (d,[h])
 | x=>(Rg E t x).bind fun d=>some (d,[])
structure TreeE where
 ver:Nat
 T:TypeId
 E:TypeId
 t:Ty
 d:Tr t.den
 rest:List Ent
def F7 (h:Hdr) (chs:List Ent):Option TreeE:=(pull h chs).bind fun r=>match r.1.2.2 with
 | .own (.tree T E t) d=>bO (Cw h r.2) (some ⟨r.1.2.1,T,E,t,d,r.2⟩)
 | _=>none
def TreeE.ent (r:TreeE) (h:Hdr):Ent:=(h,r.ver,.own (.tree r.T r.E r.t) r.d)
theorem NB {h:Hdr} {chs:List Ent} {r:TreeE} (e:F7 h chs=some r):chs.Perm (r.ent h::r.rest)/\ ∀e∈r.rest,e.1≠h:=by
 have ⟨q,g,e⟩:=bind_some e;have ⟨p,k⟩:=gi g;have ⟨⟨a,b,c⟩,rest⟩:=q;obtain rfl:a=h:=k;cases c with
 | own j d =>
  cases j with
  | tree T E t =>
   have ⟨f,e⟩:=ai (show bO (Cw a rest) _=some r from e);cases ae e;exact ⟨p,fun e i=>pG f i⟩
  | _=>cases e
 | _=>cases e
def iP (chs:List Ent):(t:Ty)->List LV->Option (t.den×List LV×List Hdr)
 | .prod a b,l=>(iP chs a l).bind fun x=>(iP chs b x.2.1).bind fun y=>some ((x.1,y.1),y.2.1,x.2.2++y.2.2)
 | .sl E t,l=>match l with
  | x::r=>(Ua chs E t x).bind fun q=>some (q.1,r,q.2)
  | [] =>none
 | .fro t,l=>iP chs t l
 | .bag t,l=>iP chs t l
 | .wr t,l=>iP chs t l
 | .int k,l=>(eS (.int k) l).bind fun x=>some (x.1,x.2,[])
 | .bool,l=>(eS .bool l).bind fun x=>some (x.1,x.2,[])
 | .str,l=>(eS .str l).bind fun x=>some (x.1,x.2,[])
 | .raw,_=>none
 | .tree T E t,l=>match l with
  | .own h::r=>(F7 h chs).bind fun q=>(oH (.tree q.T q.E q.t) (.tree T E t) q.d).bind fun d=>some (d,r,[h])
  | l=>(eS (.tree T E t) l).bind fun x=>some (x.1,x.2,[])
def XR (h:Hdr) (chs:List Ent):Option Blk:=(rf h chs).bind fun b=>bO (Cw h b.rest) (some b)
theorem NC {h:Hdr} {chs:List Ent} {b:Blk} (k:XR h chs=some b):rf h chs=some b/\ ∀e∈b.rest,e.1≠h:=by
 have ⟨f,a,k⟩:=bind_some k;have ⟨c,k⟩:=ai k;cases ae k;exact ⟨a,fun e d=>pG c d⟩
def Lent (J:Hp) (θ:Th) (chs:List Ent) (hs:List Hdr):Prop:= ∀h∈hs,(∀q,rowOf h chs=some q->(Ty.sl q.E q.t).rep.rd J [hv θ h] q.xs)/\(∀q,F7 h chs=some q->(Ty.tree q.T q.E q.t).rep.rd J [hv θ h] q.d)/\ ∀b,XR h chs=some b->J (bk (hv θ h))=some (.cells (b.cells.map (·.v θ)).toArray b.T (0,0))
theorem Lent.l {J:Hp} {θ:Th} {chs:List Ent} {a b:List Hdr} (h:Lent J θ chs (a++b)):Lent J θ chs a:=fun x c=>h x (bm _ c)
theorem Lent.r {J:Hp} {θ:Th} {chs:List Ent} {a b:List Hdr} (h:Lent J θ chs (a++b)):Lent J θ chs b:=fun x c=>h x (bq _ c)
theorem rh {P:Program} {w0:World} {J:Hp} {θ:Th} {n:Nat} {chs:List Ent} : ∀ {t:Ty} {cs:List LV} {r:t.den×List LV×List Hdr},iP chs t cs=some r->(∀x∈cs,x.ok P w0 J θ n)->Lent J θ chs r.2.2-> ∃i,cs=i++r.2.1/\t.rep.rd J (i.map (·.v θ)) r.1:=by
 intro t;induction t with
 | prod a b s p =>
  intro cs r h c f;have ⟨x,g,h⟩:=bind_some (show (iP chs a cs).bind _=some r from h);have ⟨y,B,h⟩:=bind_some h;cases ae h;obtain ⟨i,rfl,A⟩:=s g c f.l;have ⟨w,D,C⟩:=p B (fun z u=>c z (bq _ u)) f.r;exact ⟨i++w,by grind,i.map (·.v θ),w.map (·.v θ),by grind,A,C⟩
 | sl E t ih =>
  intro cs r h c f;cases cs with
  | nil=>cases h
  | cons x l =>
   have ⟨q,e,h⟩:=bind_some (show (Ua chs E t x).bind _=some r from h);cases ae h;refine ⟨[x],rfl,?_⟩;cases x with
   | own m =>
    have ⟨z,u,e⟩:=bind_some (show (rowOf m chs).bind _=some q from e);have ⟨d,j,e⟩:=bind_some e;cases ae e;exact iZ j ((f m (by simp)).1 z u)
   | rd h2 t2 d2 =>
    have ⟨d,j,e⟩:=bind_some (show (Rg E t (.rd h2 t2 d2)).bind _=some q from e);cases ae e;exact Au j (c _ (by simp))
   | val v =>
    have ⟨d,j,e⟩:=bind_some (show (Rg E t (.val v)).bind _=some q from e);cases ae e;exact Au j (c _ (by simp))
   | nb _=>cases (show none=some q from e)
   | ptr _ _=>cases (show none=some q from e)
   | fn _ _ _ _=>cases (show none=some q from e)
   | fz _ _ _ _ _=>cases (show none=some q from e)
   | fzf _ _ _ _ _=>cases (show none=some q from e)
   | rdn _ _ _ _=>cases (show none=some q from e)
 | fro t ih =>
  intro cs r h c f;exact ih (show iP chs t cs=some r from h) c f
 | bag t ih =>
  intro cs r h c f;exact ih (show iP chs t cs=some r from h) c f
 | wr t ih =>
  intro cs r h c f;exact ih (show iP chs t cs=some r from h) c f
 | int k =>
  intro cs r h c f;have ⟨x,g,h⟩:=bind_some (show (eS _ cs).bind _=some r from h);cases ae h;exact jb g c
 | bool =>
  intro cs r h c f;have ⟨x,g,h⟩:=bind_some (show (eS _ cs).bind _=some r from h);cases ae h;exact jb g c
 | raw =>
  intro cs r h c f;cases (show none=some r from h)
 | str =>
  intro cs r h c f;have ⟨x,g,h⟩:=bind_some (show (eS _ cs).bind _=some r from h);cases ae h;exact jb g c
 | tree T E t ih =>
  intro cs r h c f;have o:((eS (.tree T E t) cs).bind fun x=>some (x.1,x.2,([] :List Hdr)))=some r-> ∃i,cs=i++r.2.1/\(Ty.tree T E t).rep.rd J (i.map (·.v θ)) r.1:=fun h=>by
   have ⟨x,g,h⟩:=bind_some h;cases ae h;exact jb g c
  cases cs with
  | nil=>exact o h
  | cons x l =>
   cases x with
   | own m =>
    have ⟨q,e,h⟩:=bind_some (show (F7 m chs).bind _=some r from h);have ⟨d,j,h⟩:=bind_some h;cases ae h;exact ⟨[.own m],rfl,iZ j ((f m (by simp)).2.1 q e)⟩
   | _=>exact o h
def AD (chs:List Ent) (t:Ty) (v:AV):Option (t.den×List Hdr):=match v,t.isProd with
 | .agg cs,true=>(iP chs t cs).bind fun r=>bO r.2.1.isEmpty (some (r.1,r.2.2))
 | .one x,false=>(iP chs t [x]).bind fun r=>bO r.2.1.isEmpty (some (r.1,r.2.2))
 | _,_=>none
theorem F8 {P:Program} {w0:World} {J:Hp} {θ:Th} {n:Nat} {chs:List Ent} {t:Ty} {v:AV} {r:t.den×List Hdr} (h:AD chs t v=some r) (a:v.ok P w0 J θ n chs) (g:Lent J θ chs r.2): ∃f,Lds t.isProd f (v.v θ)/\t.rep.rd J f r.1:=by
 unfold AD at h;split at h
 ·rename_i f b;have ⟨q,c,h⟩:=bind_some h;have ⟨d,h⟩:=ai h;cases ae h;have ⟨i,e,k⟩:=rh c a g;rw[List.isEmpty_iff.1 d,List.append_nil] at e;subst e;exact ⟨_,by rw[b];rfl,k⟩
 ·rename_i x b;have ⟨q,c,h⟩:=bind_some h;have ⟨d,h⟩:=ai h;cases ae h;have ⟨i,e,k⟩:=rh c (fun y j=>by cases ak j;exact a) g;rw[List.isEmpty_iff.1 d,List.append_nil] at e;subst e;exact ⟨_,by rw[b];rfl,k⟩
 grind
def F9 (ps rs ps' rs':List Ty) (e:cur ps (Option (dens rs))):Option (cur ps' (Option (dens rs'))):=if h:ps=ps'/\rs=rs' then some (h.1 ▸ h.2 ▸ e) else none
theorem Gc {ps rs b a:List Ty} {e:cur ps (Option (dens rs))} {c:cur b (Option (dens a))} (h:F9 ps rs b a e=some c) {P:Program} {w0:World} {J:Hp} {v:Value} (d:FnOk P w0 J v ps rs e):FnOk P w0 J v b a c:=by
 grind[F9,ae]
structure FnR (a b:List Ty) where
 e:cur a (Option (dens b))
 lent:List Hdr
structure CapR (p:PM) where
 d:p.den
 lent:List Hdr
section
variable (ft:FT) (chs:List Ent)
def V0 (rec:(a b:List Ty)->LV->Option (FnR a b)):(p:PM)->LV->Option (CapR p)
 | .cap T t,x=>match x with
  | .ptr h off=>bO (Nat.beq off 0) ((XR h chs).bind fun b=>bO (Nat.beq b.T T) ((iP chs t b.cells).bind fun r=>bO r.2.1.isEmpty (some ⟨r.1,h::r.2.2⟩)))
  | .fz h T' t' d off=>bO (Nat.beq off 0&&Nat.beq T' T) ((oH t' t d).bind fun d=>some ⟨d,[]⟩)
  | _=>none
 | .capf T a b,x=>match x with
  | .ptr h off=>bO (Nat.beq off 0) ((XR h chs).bind fun bl=>bO (Nat.beq bl.T T) (match bl.cells with
   | [y] =>(rec a b y).bind fun r=>some ⟨r.e,h::r.lent⟩
   | _=>none))
  | .fzf h T' a' b' e=>bO (Nat.beq T' T) ((F9 a' b' a b e).bind fun e=>some ⟨e,[]⟩)
  | _=>none
 | _,_=>none
def ND (rec:(a b:List Ty)->LV->Option (FnR a b)):(qs:List PM)->List LV->Option (denP qs×List Hdr)
 | [],[] =>some ((),[])
 | q::qs,x::xs=>(V0 chs rec q x).bind fun r=>(ND rec qs xs).bind fun s=>some ((r.d,s.1),r.lent++s.2)
 | _,_=>none
def Ia:(ts:List Ty)->List (Bool×List LV)->Option (j4 ts×List Hdr)
 | [],[] =>some ((),[])
 | t::ts,y::ys=>bO (y.1==t.isProd) ((iP chs t y.2).bind fun r=>bO (r.2.1.isEmpty&&(y.1 || Nat.beq y.2.length 1)) ((Ia ts ys).bind fun q=>some ((r.1,q.1),r.2.2++q.2)))
 | _,_=>none
end
def V1:List PM->Option (List Ty)
 | [] =>some []
 | .rd t::ps=>(V1 ps).bind fun ts=>some (t::ts)
 | _=>none
def rds:List Ty->List PM->List PM
 | [],qs=>qs
 | t::ts,qs=>.rd t::rds ts qs
def V2:(ts:List Ty)->(qs:List PM)->j4 ts->denP qs->denP (rds ts qs)
 | [],_,_,e=>e
 | _::ts,qs,d,e=>(d.1,V2 ts qs d.2 e)
def V3 {R:Type} :(a:List Ty)->(j4 a->R)->cur a R
 | [],g=>g ()
 | _::a,g=>fun x=>V3 a fun d=>g (x,d)
theorem Ge {R:Type} : ∀(a:List Ty) (g:j4 a->R) (d:j4 a),app a (V3 a g) d=g d
 | [],_,_=>rfl
 | _::a,g,d=>Ge a (fun x=>g (d.1,x)) d.2
def Rk:PM->Bool
 | .cap _ _=>true
 | .capf _ _ _=>true
 | _=>false
def wv:List PM->Bool
 | [] =>true
 | p::ps=>Rk p&&wv ps
def Ys (chs:List Ent) (rec:(a b:List Ty)->LV->Option (FnR a b)) (a b:List Ty) (f:FS) (r1:List Ty) (qs:List PM) (first:List (Bool×List LV)) (capt:List LV):Option (FnR a b):=
 if h:f.ps=rds r1 (rds a qs)/\f.rs++outs f.ps=b then
  (Ia chs r1 first).bind fun d1=>(ND chs rec qs capt).bind fun dc =>
   some ⟨V3 a fun x=>h.2 ▸ appP f.ps f.m (h.1 ▸ V2 r1 (rds a qs) d1.1 (V2 a qs x dc.1)),d1.2++dc.2⟩
 else none
def Z9 (ft:FT) (chs:List Ent) (rec:(a b:List Ty)->LV->Option (FnR a b)) (a b:List Ty) (k:FuncId) (first:List (Bool×List LV)) (capt:List LV):Option (FnR a b):=(fs ft k).bind fun f=>(V1 (f.ps.take first.length)).bind fun r1 =>
 bO (!f.ov&&wv (f.ps.drop (first.length+a.length))) (Ys chs rec a b f r1 (f.ps.drop (first.length+a.length)) first capt)
def NF (h:Hdr) (chs:List Ent):Option (FuncId×List (Bool×List LV)×List LV):=(pull h chs).bind fun r=>match r.1.2.2 with
 | .clo k first capt=>some (k,first,capt)
 | _=>none
def V4 (ft:FT) (chs:List Ent):Nat->(a b:List Ty)->LV->Option (FnR a b)
 | 0,_,_,_=>none
 | n+1,a,b,x=>match x with
  | .fn h a' b' e=>(F9 a' b' a b e).bind fun e=>some ⟨e,[]⟩
  | .own h=>(NF h chs).bind fun q=>Z9 ft chs (V4 ft chs n) a b q.1 q.2.1 q.2.2
  | .val v=>match v with
   | .func (.func k) f c=>bO (f.toList.isEmpty&&c.toList.isEmpty) (Z9 ft chs (V4 ft chs n) a b k [] [])
   | _=>none
  | _=>none
section
variable {P:Program} {w0:World} {J J':Hp} {θ:Th} {n:Nat} {chs chs0:List Ent} {ft:FT}
theorem Gf: ∀(rs us:List Ty) (i:Nat) (d:j4 (rs++us)) (v:Value),us= [] ->xH i (rs++us) d v=xH i rs (hFst rs us d) v
 | [],us,i,d,v,h=>by subst h;rfl
 | t::rs,us,i,d,v,h=>by
  show Ch.own _ _ _::xH (i+1) (rs++us) d.2 v=Ch.own _ _ _::xH (i+1) rs (hFst rs us d.2) v;rw[Gf rs us (i+1) d.2 v h];rfl
theorem NG (rs us:List Ty) (d:j4 (rs++us)) (v:Value) (h:us= []):resGv (rs++us) d v=resGv rs (hFst rs us d) v:=by
 match rs,d with
 | [],d=>subst h;rfl
 | [t],d=>subst h;rfl
 | t::u::rs,d=>exact Gf (t::u::rs) us 0 d v h
theorem NH (rs us:List Ty) (v:Value) (h:us= []):resFa rs v->resFa (rs++us) v:=by
 grind
theorem Ek {a:List PM} : ∀ts:List Ty,outs (rds ts a)=outs a
 | [] =>rfl
 | _::ts=>Ek ts
theorem Rl {a:List PM} :wv a=true->outs a= []:=by
 induction a with
 | nil=>intro _;rfl
 | cons q a ih =>
  intro h;have h:(Rk q&&wv a)=true:=h;rw[aj] at h;cases q with
  | cap _ _=>exact ih h.2
  | capf _ _ _=>exact ih h.2
  | _=>cases h.1
theorem El {γ:Value} {b:List PM} : ∀(a:List Ty) (vs us:List Value) (d:j4 a) (e:denP b),vs.length=a.length->owCh γ (rds a b) (vs++us) (V2 a b d e)=owCh γ b us e
 | [],[],us,d,e,_=>rfl
 | _::a,v::vs,us,d,e,h=>El a vs us d.2 e (by grind)
 | [],_::_,_,_,_,h=>by cases h
 | _::_,[],_,_,_,h=>by cases h
theorem Rm {γ:Value} {a:List PM} : ∀(us:List Value) (e:denP a),wv a=true->owCh γ a us e= []:=by
 induction a with
 | nil=>intro us e _;rfl
 | cons q a ih =>
  intro us e h;cases us with
  | nil=>rfl
  | cons u us =>
   have h:(Rk q&&wv a)=true:=h;rw[aj] at h;cases q with
   | cap _ _=>exact ih us e.2 h.2
   | capf _ _ _=>exact ih us e.2 h.2
   | _=>cases h.1
theorem Gg {γ:Value} {a:List PM} {us:List Value} : ∀(b:List Ty) (vs:List Value),vs.length=b.length->wv a=true-> ∀d:j4 (outs (rds b a)),outCh γ (rds b a) (vs++us) d= []
 | [],[],_,h=>fun d=>by
  have key: ∀ {a:List PM} (us:List Value) (d:j4 (outs a)),wv a=true->outCh γ a us d= []:=by
   intro a;induction a with
   | nil=>intro us d _;rfl
   | cons q a ih =>
    intro us d h;cases us with
    | nil=>rfl
    | cons u us =>
     have h:(Rk q&&wv a)=true:=h;rw[aj] at h;cases q with
     | cap _ _=>exact ih us d h.2
     | capf _ _ _=>exact ih us d h.2
     | _=>cases h.1
  exact key us d h
 | _::b,v::vs,hl,h=>fun d=>Gg b vs (by grind) h d
 | [],_::_,h,_=>by cases h
 | _::_,[],h,_=>by cases h
theorem AE {γ:Value} {b:List PM} {us:List Value} {e:denP b} (h:PArgs P w0 J γ b us e): ∀ {a:List Ty} {vs:List Value} {d:j4 a},Nb J a vs d->PArgs P w0 J γ (rds a b) (vs++us) (V2 a b d e)/\vs.length=a.length
 | [],vs,d,hr=>by
  subst hr;exact ⟨h,rfl⟩
 | t::a,vs,d,hr=>by
  obtain ⟨v,c,r,rfl,g,i,f⟩:=hr;have ⟨j,k⟩:=AE h f;exact ⟨⟨v,r++us,rfl,⟨c,g,i⟩,j⟩,by grind⟩
theorem JM {h:Hdr} {b:Blk} (k:XR h chs=some b) (a: ∀e∈chs,okE P w0 J θ n chs0 e):okE P w0 J θ n chs0 (b.ent h):=a _ ((kA (NC k).1).mem_iff.2 (List.mem_cons_self ..))
theorem Rn {rec:(a b:List Ty)->LV->Option (FnR a b)} (i: ∀a b x r,rec a b x=some r->x.ok P w0 J θ n->Lent J' θ chs r.lent->FnOk P w0 J' (x.v θ) a b r.e) (m:J.le J') (D: ∀e∈chs,okE P w0 J θ n chs0 e) {p:PM} {x:LV} {r:CapR p} (h:V0 chs rec p x=some r) (s:x.ok P w0 J θ n) (o:Lent J' θ chs r.lent):aaE P w0 J' undef p (x.v θ) r.d:=by
 cases p with
 | cap T t =>
  cases x with
  | ptr j off =>
   have ⟨c,h⟩:=ai (show bO (Nat.beq off 0) _=some r from h);have ⟨b,g,h⟩:=bind_some h;have ⟨l,h⟩:=ai h;have ⟨q,v,h⟩:=bind_some h;have ⟨C,h⟩:=ai h;cases ae h;cases al c;have l:=al l;have G:=(o j (by simp)).2.2 b g;have f:=JM (P:=P) (w0:=w0) (J:=J) (n:=n) g D;have ⟨N,S,k⟩:=rh (J:=J') v (fun x s=>LV.ok_same Same.rfl (aL _) (f.2.2 x s) m) (fun y L=>o y (by grind));exact ⟨_,rfl,_,by grind,k⟩
  | fz j T' t' d off =>
   have ⟨c,h⟩:=ai (show bO (Nat.beq off 0&&Nat.beq T' T) _=some r from h);rw[aj] at c;have ⟨O,I,h⟩:=bind_some h;cases ae h;cases al c.1;cases al c.2;have ⟨F,cells,A,w⟩:=s;exact ⟨_,rfl,cells,m _ _ A,iZ I (Rep.rd_mono _ w m)⟩
  | _=>cases h
 | capf T a b =>
  cases x with
  | ptr j off =>
   have ⟨c,M⟩:=ai (show bO (Nat.beq off 0) _=some r from h);have ⟨H,g,E⟩:=bind_some M;have ⟨l,B⟩:=ai E;cases al c;have l:=al l;have f:=JM (P:=P) (w0:=w0) (J:=J) (n:=n) g D;split at B
   ·rename_i y L;have ⟨q,v,K⟩:=bind_some B;cases ae K;have G:=(o j (by simp)).2.2 H g;exact ⟨_,rfl,_,by grind,i a b y q v (f.2.2 y (by grind)) fun z Q=>o z (by grind)⟩
   grind
  | fzf j T' a' b' e =>
   have ⟨c,h⟩:=ai (show bO (Nat.beq T' T) _=some r from h);have ⟨R,C,h⟩:=bind_some h;cases ae h;cases al c;have ⟨F,u,A,w⟩:=s;exact ⟨_,rfl,u,m _ _ A,(Gc C w).mono m⟩
  | _=>cases h
 | _=>cases h
theorem Gh {rec:(a b:List Ty)->LV->Option (FnR a b)} (c: ∀a b x r,rec a b x=some r->x.ok P w0 J θ n->Lent J' θ chs r.lent->FnOk P w0 J' (x.v θ) a b r.e) (g:J.le J') (f: ∀e∈chs,okE P w0 J θ n chs0 e): ∀ {d:List PM} {xs:List LV} {r:denP d×List Hdr},ND chs rec d xs=some r->(∀x∈xs,x.ok P w0 J θ n)->Lent J' θ chs r.2->PArgs P w0 J' undef d (xs.map (·.v θ)) r.1
 | [],[],r,h,_,_=>by rfl
 | q::d,x::xs,r,h,hx,hl=>by
  have ⟨a,i,h⟩:=bind_some (show (V0 chs rec q x).bind _=some r from h);have ⟨s,j,h⟩:=bind_some h;cases ae h;exact ⟨_,_,rfl,Rn c g f i (hx x (by simp)) hl.l,Gh c g f j (fun y k=>hx y (by grind)) hl.r⟩
 | [],_::_,r,h,_,_=>by cases h
 | _::_,[],r,h,_,_=>by cases h
theorem Da (e:J.le J'): ∀ {c:List Ty} {ys:List (Bool×List LV)} {r:j4 c×List Hdr},Ia chs c ys=some r->(∀y∈ys,∀x∈y.2,x.ok P w0 J θ n)->Lent J' θ chs r.2->Nb J' c (ys.map (lx θ)) r.1
 | [],[],r,h,_,_=>by rfl
 | t::c,y::ys,r,h,hy,hl=>by
  have ⟨d,h⟩:=ai (show bO (y.1==t.isProd) _=some r from h);have ⟨a,g,h⟩:=bind_some h;have ⟨p,h⟩:=ai h;have ⟨q,f,h⟩:=bind_some h;cases ae h;have d:y.1=t.isProd:=by simpa using d
  have ⟨m,s,k⟩:=rh (J:=J') g (fun x j=>LV.ok_same Same.rfl (aL _) (hy y (by simp) x j) e) hl.l;refine ⟨_,y.2.map (·.v θ),_,rfl,?_,by grind,Da e f (fun z u=>hy z (by grind)) hl.r⟩;have ⟨o,i⟩:=y;subst d;cases l:t.isProd with
  | true=>rfl
  | false =>
   have b:i.length=1:=al (by grind);obtain ⟨x,rfl⟩:=List.length_eq_one_iff.1 b
   rfl
 | [],_::_,r,h,_,_=>by cases h
 | _::_,[],r,h,_,_=>by cases h
theorem NI (W:FTok P ft) (B:Lay P J) {rec:(a b:List Ty)->LV->Option (FnR a b)} (s: ∀a b x r,rec a b x=some r->x.ok P w0 J θ n-> ∀J',J.le J'->Lent J' θ chs r.lent->FnOk P w0 J' (x.v θ) a b r.e) (F:J.le J') (hc: ∀e∈chs,okE P w0 J θ n chs0 e) {a b:List Ty} {k:FuncId} {first:List (Bool×List LV)} {g:List LV} {r:FnR a b} (h:Z9 ft chs rec a b k first g=some r)
  (h1: ∀y∈first,∀x∈y.2,x.ok P w0 J θ n) (h2: ∀x∈g,x.ok P w0 J θ n) (N:Lent J' θ chs r.lent):FnOk P w0 J' (.func (.func k) (first.map (lx θ)).toArray (g.map (·.v θ)).toArray) a b r.e:=by
 have ⟨f,hf,h⟩:=bind_some h;have ⟨p,hr1,h⟩:=bind_some h;have ⟨c,h⟩:=ai h;rw[aj] at c;have E:f.ov=false:=by simpa using c.1
 replace c:=c.2;have A:=W.get hf;have K:=A.en E;have G:=A.con E;generalize f.ps.drop (first.length+a.length)=j at h c;unfold Ys at h;split at h
 ·rename_i hh;have ⟨S,hd1,h⟩:=bind_some h;have ⟨V,I,h⟩:=bind_some h;cases ae h;obtain ⟨ps,rs,m⟩:=f;have ⟨U,T⟩:=hh;simp only at U T;subst U;subst T;refine ⟨k,_,_,rfl,K,fun O i args d o q R=>?_⟩;have u:Lent O θ chs (S.2++V.2):=fun x D=>⟨fun z v=>Rep.rd_mono _ ((N x D).1 z v) i,fun z v=>Rep.rd_mono _ ((N x D).2.1 z v) i,fun z v=>i _ _ ((N x D).2.2 z v)⟩
  have k1:=Da (F.trans i) hd1 h1 u.l;have k2:=Gh (fun a b x r hr D M=>s a b x r hr D O (F.trans i) M) (F.trans i) hc I h2 u.r;have ⟨Y,k4⟩:=AE k2 o;have ⟨k5,k6⟩:=AE Y k1;rw[Ge] at R;have l:=G w0 O undef _ _ q (B.mono (F.trans i)) k5 R;have hou:outs (rds p (rds a j))= []:=by rw[Ek,Ek];exact Rl c
  have L:owCh undef (rds p (rds a j)) ((first.map (lx θ))++(args++g.map (·.v θ))) (V2 p (rds a j) S.1 (V2 a j d V.1))= []:=by
   rw[El _ _ _ _ _ k6,El _ _ _ _ _ k4];exact Rm _ _ c
  have Q: ∀z,outCh undef (rds p (rds a j)) ((first.map (lx θ))++(args++g.map (·.v θ))) z= []:=by
   intro z;have H: ∀(x y:List Ty),rds x (rds y j)=rds (x++y) j:=by
    intro x y;induction x with
    | nil=>rfl
    | cons t x ih=>exact congrArg (PM.rd t:: ·) ih
   have key: ∀(X:List PM),X=rds (p++a) j-> ∀z:j4 (outs X),outCh undef X ((first.map (lx θ))++(args++g.map (·.v θ))) z= []:=by
    rintro X rfl z;rw[<-aC];exact Gg (p++a) _ (by grind) c z
   exact key _ (H p a) z
  rw[L] at l;intro w C hS;have Z:=l w C hS;grind[lx,NH,NG,outs,rds,toH]
 grind
theorem JN {h:Hdr} {q:FuncId×List (Bool×List LV)×List LV} (k:NF h chs=some q): ∃ver,(h,ver,Chk.clo q.1 q.2.1 q.2.2)∈chs:=by
 have ⟨r,a,k⟩:=bind_some k;have ⟨p,e⟩:=gi a;grind
theorem Ib (p:FTok P ft) (d:Lay P J) (l: ∀e∈chs,okE P w0 J θ n chs0 e): ∀ {m:Nat} {a b:List Ty} {x:LV} {r:FnR a b},V4 ft chs m a b x=some r->x.ok P w0 J θ n-> ∀J',J.le J'->Lent J' θ chs r.lent->FnOk P w0 J' (x.v θ) a b r.e
 | 0,_,_,_,_,h,_,_,_,_=>by cases h
 | m+1,a,b,x,r,h,u,J',j,o=>by
  have g: ∀a b x r,V4 ft chs m a b x=some r->x.ok P w0 J θ n-> ∀J',J.le J'->Lent J' θ chs r.lent->FnOk P w0 J' (x.v θ) a b r.e:=fun a b x r h u J' j o=>Ib p d l h u J' j o;cases x with
  | fn s F B e =>
   have ⟨I,i,h⟩:=bind_some (show (F9 F B a b e).bind _=some r from h);cases ae h;exact (Gc i u.2).mono j
  | own s =>
   have ⟨q,z,h⟩:=bind_some (show (NF s chs).bind _=some r from h);have ⟨w,G⟩:=JN z;obtain ⟨-,-,A,E,H⟩:=l _ G
   have:=NI p d g j l h A E o
   show FnOk P w0 J' (hv θ s) a b r.e;grind
  | val v =>
   cases v with
   | func fk f c =>
    cases fk with
    | func k =>
     have ⟨i,h⟩:=ai (show bO (f.toList.isEmpty&&c.toList.isEmpty) (Z9 ft chs (V4 ft chs m) a b k [] [])=some r from h);rw[aj,List.isEmpty_iff,List.isEmpty_iff] at i
     have:=NI p d g j l h (fun y t=>by cases t) (fun y t=>by cases t) o
     have D:f= #[]:=by simpa using i.1
     have C:c= #[]:=by simpa using i.2
     subst D;subst C;exact this
    | _=>cases h
   | _=>cases h
  | _=>cases h
end
def Em:List Hdr->List Ent->Option (List Ent×List Ent)
 | [],chs=>some ([],chs)
 | h::hs,chs=>(pull h chs).bind fun r=>(Em hs r.2).bind fun q=>some (r.1::q.1,q.2)
theorem xM: ∀ {hs:List Hdr} {chs:List Ent} {r:List Ent×List Ent},Em hs chs=some r->chs.Perm (r.1++r.2)/\r.1.map (·.1)=hs
 | [],chs,r,h=>by cases ae (show some _=some r from h);simp_all
 | h'::hs,chs,r,h=>by
  have ⟨q,d,h⟩:=bind_some (show (pull h' chs).bind _=some r from h);have ⟨e,a,h⟩:=bind_some h;cases ae h;have ⟨b,f⟩:=gi d;have ⟨c,g⟩:=xM a;exact ⟨b.trans (c.cons _),by grind⟩
def abI (h:Hdr) (l:List Hdr):Bool:=l.any fun x=>Hdr.beq x h
def Ic:List Hdr->List Hdr->List Hdr
 | [],_=>[]
 | h::hs,acc=>if abI h acc then Ic hs acc else h::Ic hs (h::acc)
theorem AF {h:Hdr} : ∀ {hs acc:List Hdr},h∈hs->h∈Ic hs acc\/h∈acc
 | x::hs,acc,a=>by
  unfold Ic;split
  ·rename_i c;rcases aA a with rfl | a
   ·have ⟨y,d,e⟩:=List.any_eq_true.1 c;grind[Hdr.beq_eq]
   ·exact AF a
  ·rcases aA a with rfl | a
   ·grind
   ·rcases AF (acc:=x::acc) a with b | b
    ·grind
    grind
def oO:AV->Bool
 | .agg _=>true
 | _=>false
theorem AG {v:AV} {cs:List LV} (h:mz v=some cs) {P:Program} {w0:World} {J:Hp} {θ:Th} {n:Nat} {chs:List Ent} (a:v.ok P w0 J θ n chs) {b:Bool} (e:oO v=b):mo b (v.v θ)=cs.map (·.v θ)/\oL (v.v θ)=b:=by
 subst e;cases v with
 | agg d =>
  cases ae (show some d=some cs from h);exact ⟨rfl,rfl⟩
 | one x =>
  cases ae (show some [x] =some cs from h);refine ⟨rfl,?_⟩;have c:=LV.one (show LV.ok P w0 J θ n x from a);show oL (x.v θ)=false;generalize x.v θ=u at c;cases u <;> first | rfl | cases c
 | _=>cases h
def sE (h:Hdr) (T:TypeId) (t:Ty) (chs:List Ent):Option (t.den×List Ent×List Ent):=(pull h chs).bind fun r=>match r.1.2.2 with
 | .box T' t' d=>bO (Nat.beq T' T) ((oJ t' t d).bind fun d=>some (d,[r.1],r.2))
 | .blk T' cells=>bO (Nat.beq T' T) ((eG t cells r.2).bind fun q=>bO q.cells.isEmpty (some (q.d,r.1::q.used,q.rest)))
 | _=>none
theorem V5 {I:Hp} {w:World} {F:List Nat} {ls:List Ch} {α:Type} {R:Rep α} {b:Nat} {T:TypeId} {cells:List Value} {d:α} (h:Sep I (Ch.blk b cells T::ls) w F) (k:Bun I ls R cells d):(Ch.box b T R d).holds I w F:=by
 obtain ⟨G,K,rfl,⟨rfl,c⟩,a⟩:=h;exact ⟨cells,K,rfl,c,k w K a⟩
section
variable {P:Program} {w0:World} {J J':Hp} {θ θ':Th} {n m:Nat} {chs chs0:List Ent}
theorem pH {h:Hdr} {T:TypeId} {t:Ty} {chs:List Ent} {q:t.den×List Ent×List Ent} (k:sE h T t chs=some q):chs.Perm (q.2.1++q.2.2):=by
 have ⟨r,f,k⟩:=bind_some k;have ⟨p,e⟩:=gi f;have ⟨⟨o,b,c⟩,rest⟩:=r;cases c with
 | box a v d =>
  have ⟨i,k⟩:=ai (show bO (Nat.beq a T) _=some q from k);have ⟨j,s,k⟩:=bind_some k;grind
 | blk a cells =>
  have ⟨i,k⟩:=ai (show bO (Nat.beq a T) _=some q from k);have ⟨u,g,k⟩:=bind_some k;have ⟨l,k⟩:=ai k;cases ae k;exact p.trans ((ij g).cons _)
 | _=>cases k
theorem tL {h:Hdr} {T:TypeId} {t:Ty} {q:t.den×List Ent×List Ent} (k:sE h T t chs=some q) (B:J.le J') (v: ∀e∈chs,okE P w0 J θ n chs0 e):chs.Perm (q.2.1++q.2.2)/\ ∀w F,Sep J' (q.2.1.map (toCh P θ)) w F->(Ch.box (bk (hv θ h)) T t.rep q.1).holds J' w F:=by
 have ⟨r,l,k⟩:=bind_some k;have ⟨p,e⟩:=gi l;have ⟨⟨z,j,c⟩,rest⟩:=r;obtain rfl:z=h:=e;cases c with
 | box b L d =>
  have ⟨f,k⟩:=ai (show bO (Nat.beq b T) _=some q from k);have ⟨H,A,k⟩:=bind_some k;cases ae k;cases al f;obtain ⟨rfl,rfl⟩:=oK A;refine ⟨p,fun w F a=>?_⟩;obtain ⟨G,K,rfl,s,rfl⟩:=a;rw[List.append_nil];exact s
 | blk b cells =>
  have ⟨f,k⟩:=ai (show bO (Nat.beq b T) _=some q from k);have ⟨I,o,k⟩:=bind_some k;have ⟨u,k⟩:=ai k;cases ae k;cases al f;have g:=v _ (p.mem_iff.2 (List.mem_cons_self ..));have ⟨C,E,i,y⟩:=kN (J:=J') (P:=P) (w0:=w0) (θ:=θ) (n:=n) o fun x D=>LV.ok_same Same.rfl (aL _) (g.2.2 x D) B;rw[List.isEmpty_iff.1 u,List.append_nil] at i;subst i;exact ⟨p.trans (C.cons _),fun w F a=>V5 a y⟩
 | _=>cases k
structure CurQ where
 g:Hdr
 d:List Int×Int×Int
 ent:Ent
 rest:List Ent
def vk (h:Hdr) (T E:TypeId) (chs:List Ent):Option CurQ:=(pull h chs).bind fun r=>match r.1.2.2 with
 | .blk T' [.rd g t xs,.val (.int .i64 x),.val (.int .i64 y)] =>bO (Nat.beq T' T) ((oJ t (.sl E (.int .u8)) xs).bind fun xs=>some ⟨g,(xs,x,y),r.1,r.2⟩)
 | _=>none
theorem oB {h:Hdr} {T E:TypeId} {chs:List Ent} {q:CurQ} (k:vk h T E chs=some q):chs.Perm (q.ent::q.rest)/\ ∃ver,q.ent=(h,ver,.blk T [.rd q.g (.sl E (.int .u8)) q.d.1,.val (.int .i64 q.d.2.1),.val (.int .i64 q.d.2.2)]):=by
 have ⟨r,d,a⟩:=bind_some k;have ⟨p,e⟩:=gi d;split at a
 ·have ⟨g,b⟩:=ai a;have ⟨c,i,f⟩:=bind_some b;grind[ae,al,oK]
 grind
inductive GhQ
 | cur (h:Hdr) (xs:List Int)
 | box (h:Hdr)
def GhQ.v (θ:Th):GhQ->Value
 | .cur h _=>hv θ h
 | .box h=>.pointer (some ⟨bk (hv θ h),0,none⟩)
def aaF (h:Hdr):Option GhQ->Bool
 | none=>true
 | some (.box h')=>Hdr.beq h' h
 | _=>false
theorem En {h:Hdr} {o:Option GhQ} (k:aaF h o=true): ∀q,o=some q->q= .box h:=by
 rintro q rfl;cases q with
 | cur _ _=>cases k
 | box h'=>rw[Hdr.beq_eq k]
def aaa (h:Hdr) (chs:List Ent):Option (FuncId×Hdr):=(NF h chs).bind fun q=>match q with
 | (k,[],[.ptr hb off])=>if Nat.beq off 0 then some (k,hb) else none
 | _=>none
theorem Eo {h:Hdr} {chs:List Ent} {q:FuncId×Hdr} (k:aaa h chs=some q): ∃ver,(h,ver,Chk.clo q.1 [] [.ptr q.2 0])∈chs:=by
 have ⟨⟨g,f,c⟩,a,k⟩:=bind_some k;grind[JN,ae,al]
structure Args (ps:List PM) where
 d:denP ps
 lent:List Hdr
 own:List Ent
 rest:List Ent
 gh:Option GhQ
def ej (ft:FT) (s:Sg):(chs:List Ent)->(ps:List PM)->List AV->Option (Args ps)
 | chs,[],[] =>some ⟨(),[],[],chs,none⟩
 | chs,.rd t::ps,v::xs=>(AD s.chs t v).bind fun a=>(ej ft s chs ps xs).bind fun r=>some ⟨(a.1,r.d),a.2++r.lent,r.own,r.rest,r.gh⟩
 | chs,.ow t::ps,v::xs=>bO (oO v==t.isProd) ((mz v).bind fun cs=>(eG t cs chs).bind fun q=>bO q.cells.isEmpty ((ej ft s q.rest ps xs).bind fun r=>some ⟨(q.d,r.d),r.lent,q.used++r.own,r.rest,r.gh⟩))
 | chs,.eat t::ps,v::xs=>bO (oO v==t.isProd) ((mz v).bind fun cs=>(eG t cs chs).bind fun q=>bO q.cells.isEmpty ((ej ft s q.rest ps xs).bind fun r=>some ⟨(q.d,r.d),r.lent,q.used++r.own,r.rest,r.gh⟩))
 | chs,.fn a b::ps,x::xs=>match x with
  | .one y=>(V4 ft s.chs 4 a b y).bind fun q=>(ej ft s chs ps xs).bind fun r=>some ⟨(q.e,r.d),q.lent++r.lent,r.own,r.rest,r.gh⟩
  | _=>none
 | chs,.fk g::ps,x::xs=>match x with
  | .one (.val (.func (.func k) f c))=>bO (Nat.beq k g&&f.toList.isEmpty&&c.toList.isEmpty) ((ej ft s chs ps xs).bind fun r=>some ⟨((),r.d),r.lent,r.own,r.rest,r.gh⟩)
  | _=>none
 | chs,.ptr T t::ps,x::xs=>match x with
  | .one (.ptr h off)=>bO (Nat.beq off 0) ((sE h T t chs).bind fun q=>(ej ft s q.2.2 ps xs).bind fun r=>some ⟨(q.1,r.d),r.lent,q.2.1++r.own,r.rest,r.gh⟩)
  | _=>none
 | chs,.crs T E::ps,x::xs=>match x with
  | .one (.ptr h off)=>bO (Nat.beq off 0) ((vk h T E chs).bind fun q=>(ej ft s q.rest ps xs).bind fun r=>bO r.gh.isNone (some ⟨(q.d,r.d),r.lent,q.ent::r.own,r.rest,some (.cur q.g q.d.1)⟩))
  | _=>none
 | chs,.kb g T t::ps,x::xs=>match x with
  | .one (.own h)=>(aaa h s.chs).bind fun c=>bO (Nat.beq c.1 g) ((sE c.2 T t chs).bind fun q=>(ej ft s q.2.2 ps xs).bind fun r=>bO (aaF c.2 r.gh) (some ⟨(q.1,r.d),r.lent,q.2.1++r.own,r.rest,some (.box c.2)⟩))
  | _=>none
 | chs,.kc g::ps,x::xs=>match x with
  | .one (.own h)=>(aaa h s.chs).bind fun c=>bO (Nat.beq c.1 g) ((ej ft s chs ps xs).bind fun r=>bO (aaF c.2 r.gh) (some ⟨((),r.d),r.lent,r.own,r.rest,some (.box c.2)⟩))
  | _=>none
 | _,_,_=>none
theorem gD {ft:FT} {s:Sg} (C:FTok P ft) (l:Fine P w0 J θ s) (o:J.le J'): ∀ {ps:List PM} {xs:List AV} {chs:List Ent} {r:Args ps},ej ft s chs ps xs=some r->(∀x∈xs,x.ok P w0 J θ s.nxt s.chs)->(∀e∈chs,e∈s.chs)->Lent J' θ s.chs r.lent-> ∀γ,(∀q,r.gh=some q->γ=q.v θ)->
  PArgs P w0 J' γ ps (xs.map (·.v θ)) r.d/\chs.Perm (r.own++r.rest)/\sA J' (r.own.map (toCh P θ)) (owCh γ ps (xs.map (·.v θ)) r.d)
 | [],[],chs,r,h,_,_,_,γ,hγ=>by
  cases ae (show some _=some r from h);exact ⟨Eq.refl _,List.Perm.refl _,wg⟩
 | .rd t::ps,x::xs,chs,r,h,hx,hc,hl,γ,hγ=>by
  have ⟨a,ha,h⟩:=bind_some (show (AD s.chs t x).bind _=some r from h);have ⟨q,v,h⟩:=bind_some h;cases ae h;have ⟨j,k,f⟩:=gD C l o v (fun y hy=>hx y (by grind)) hc hl.r γ hγ;have ⟨cs,R,O⟩:=F8 ha (AV.ok_same Same.rfl (aL _) Newer.rfl (hx x (by simp)) o) hl.l;exact ⟨⟨_,_,rfl,⟨cs,R,O⟩,j⟩,k,f⟩
 | .ow t::ps,x::xs,chs,r,h,hx,hc,hl,γ,hγ=>by
  have ⟨i,h⟩:=ai (show bO (oO x==t.isProd) _=some r from h);have i:oO x=t.isProd:=by simpa using i
  have ⟨cs,A,h⟩:=bind_some h;have ⟨q,v,h⟩:=bind_some h;have ⟨D,h⟩:=ai h;have ⟨H,u,h⟩:=bind_some h;cases ae h;have B:=hx x (by simp);have ⟨R,O⟩:=AG A B i;have d:=(jI A (AV.ok_same Same.rfl (aL _) Newer.rfl B o)).1;have ⟨p,cc,W,e2⟩:=kN (J:=J') (θ:=θ) v d;rw[List.isEmpty_iff.1 D,List.append_nil] at W;subst W;have ⟨j,k,f⟩:=gD C l o u (fun y hy=>hx y (by grind)) (fun e h=>hc e (p.mem_iff.2 (by simp[h]))) hl γ hγ;refine ⟨⟨_,_,rfl,O,j⟩,by rw[aC];exact p.trans (k.append_left _),?_⟩;show sA J' ((q.used++H.own).map _) (Ch.own t.rep (mo t.isProd (x.v θ)) q.d::_);rw[aW,R];exact sB e2 f
 | .eat t::ps,x::xs,chs,r,h,hx,hc,hl,γ,hγ=>by
  have ⟨i,h⟩:=ai (show bO (oO x==t.isProd) _=some r from h);have i:oO x=t.isProd:=by simpa using i
  have ⟨cs,A,h⟩:=bind_some h;have ⟨q,v,h⟩:=bind_some h;have ⟨D,h⟩:=ai h;have ⟨H,u,h⟩:=bind_some h;cases ae h;have B:=hx x (by simp);have ⟨R,O⟩:=AG A B i;have d:=(jI A (AV.ok_same Same.rfl (aL _) Newer.rfl B o)).1;have ⟨p,cc,W,e2⟩:=kN (J:=J') (θ:=θ) v d;rw[List.isEmpty_iff.1 D,List.append_nil] at W;subst W;have ⟨j,k,f⟩:=gD C l o u (fun y hy=>hx y (by grind)) (fun e h=>hc e (p.mem_iff.2 (by simp[h]))) hl γ hγ;refine ⟨⟨_,_,rfl,O,j⟩,by rw[aC];exact p.trans (k.append_left _),?_⟩;show sA J' ((q.used++H.own).map _) (Ch.own t.rep (mo t.isProd (x.v θ)) q.d::_);rw[aW,R];exact sB e2 f
 | .fn a b::ps,x::xs,chs,r,h,hx,hc,hl,γ,hγ=>by
  unfold ej at h;split at h
  ·rename_i y;have ⟨q,v,h⟩:=bind_some h;have ⟨H,u,h⟩:=bind_some h;cases ae h;have ⟨j,k,f⟩:=gD C l o u (fun z X=>hx z (by grind)) hc hl.r γ hγ;exact ⟨⟨_,_,rfl,Ib C l.lay l.chs v (show LV.ok P w0 J θ s.nxt y from hx (.one y) (by simp)) J' o hl.l,j⟩,k,f⟩
  grind
 | .ptr T t::ps,x::xs,chs,r,h,hx,hc,hl,γ,hγ=>by
  unfold ej at h;split at h
  ·have ⟨ho,h⟩:=ai h;have ⟨q,v,h⟩:=bind_some h;have ⟨H,u,h⟩:=bind_some h;cases ae h;cases al ho;have ⟨p,Y⟩:=tL (P:=P) (w0:=w0) (J:=J) (J':=J') (θ:=θ) (n:=s.nxt) (chs0:=s.chs) v o fun e D=>l.chs e (hc e D);have ⟨j,k,f⟩:=gD C l o u (fun y hy=>hx y (by grind)) (fun e h=>hc e (p.mem_iff.2 (by simp[h]))) hl γ hγ;refine ⟨⟨_,_,rfl,⟨_,rfl⟩,j⟩,by rw[aC];exact p.trans (k.append_left _),?_⟩;rw[aW];intro w F Q;obtain ⟨G,K,rfl,U,V⟩:=Q.split;exact ⟨G,K,rfl,Y w G U,f w K V⟩
  grind
 | .fk g::ps,x::xs,chs,r,h,hx,hc,hl,γ,hγ=>by
  unfold ej at h;split at h
  ·have ⟨M,h⟩:=ai h;have ⟨H,u,h⟩:=bind_some h;cases ae h;have ⟨j,k,f⟩:=gD C l o u (fun z X=>hx z (by grind)) hc hl γ hγ;rw[aj,aj] at M;have ⟨⟨hk1,Z⟩,hk3⟩:=M;cases al hk1;have ef:=Array.ext' (List.isEmpty_iff.1 Z);have ec:=Array.ext' (List.isEmpty_iff.1 hk3);subst ef;subst ec;exact ⟨⟨_,_,rfl,rfl,j⟩,k,f⟩
  grind
 | .crs T E::ps,x::xs,chs,r,h,hx,hc,hl,γ,hγ=>by
  unfold ej at h;split at h
  ·have ⟨ho,h⟩:=ai h;have ⟨q,v,h⟩:=bind_some h;have ⟨H,u,h⟩:=bind_some h;have ⟨hn,h⟩:=ai h;cases ae h;cases al ho;have i:=hγ _ rfl;subst i;have ⟨p,N,D⟩:=oB v;have d:=l.chs _ (hc _ (p.mem_iff.2 (List.mem_cons_self ..)));rw[D] at d;have hrd:LV.ok P w0 J θ s.nxt (.rd q.g (.sl E (.int .u8)) q.d.1):=d.2.2 _ (by simp);have ⟨j,k,f⟩:=gD C l o u (fun z X=>hx z (by grind)) (fun e h=>hc e (p.mem_iff.2 (by simp[h]))) hl (hv θ q.g) (fun q' S=>by grind);refine ⟨⟨_,_,rfl,⟨⟨_,rfl⟩,Rep.rd_mono _ hrd.2 o⟩,j⟩,p.trans (k.cons _),?_⟩;rw[D];intro w F Q;obtain ⟨G,K,rfl,U,V⟩:=Q;exact ⟨G,K,rfl,U,f w K V⟩
  grind
 | .kb g T t::ps,x::xs,chs,r,h,hx,hc,hl,γ,hγ=>by
  unfold ej at h;split at h
  ·have ⟨c,L,h⟩:=bind_some h;have ⟨M,h⟩:=ai h;have ⟨q,v,h⟩:=bind_some h;have ⟨H,u,h⟩:=bind_some h;have ⟨hn,h⟩:=ai h;cases ae h;cases al M;have i:=hγ _ rfl;have ⟨N,hm⟩:=Eo L;have d:=(l.chs _ hm).2.2;have I:=d.2.2;have ⟨p,Y⟩:=tL (P:=P) (w0:=w0) (J:=J) (J':=J') (θ:=θ) (n:=s.nxt) (chs0:=s.chs) v o fun e D=>l.chs e (hc e D);have ⟨j,k,f⟩:=gD C l o u (fun z X=>hx z (by grind)) (fun e h=>hc e (p.mem_iff.2 (by simp[h]))) hl γ (fun q' S=>by grind[En]);refine ⟨⟨_,_,rfl,⟨by rw[i];exact I,_,i⟩,j⟩,by rw[aC];exact p.trans (k.append_left _),?_⟩;rw[aW,i];intro w F Q;obtain ⟨G,K,rfl,U,V⟩:=Q.split;rw[i] at f;exact ⟨G,K,rfl,Y w G U,f w K V⟩
  grind
 | .kc g::ps,x::xs,chs,r,h,hx,hc,hl,γ,hγ=>by
  unfold ej at h;split at h
  ·have ⟨c,L,h⟩:=bind_some h;have ⟨M,h⟩:=ai h;have ⟨H,u,h⟩:=bind_some h;have ⟨hn,h⟩:=ai h;cases ae h;cases al M;have i:=hγ _ rfl;have ⟨N,hm⟩:=Eo L;have d:=(l.chs _ hm).2.2;have I:=d.2.2;have ⟨j,k,f⟩:=gD C l o u (fun z X=>hx z (by grind)) hc hl γ (fun q' S=>by grind[En]);exact ⟨⟨_,_,rfl,⟨by rw[i];exact I,_,i⟩,j⟩,k,f⟩
  grind
 | .cap _ _::_,_::_,_,_,h,_,_,_,_,_=>by cases h
 | .capf _ _ _::_,_::_,_,_,h,_,_,_,_,_=>by cases h
 | [],_::_,_,r,h,_,_,_,_,_=>by cases h
 | .rd _::_,[],_,r,h,_,_,_,_,_=>by cases h
 | .ow _::_,[],_,r,h,_,_,_,_,_=>by cases h
 | .eat _::_,[],_,r,h,_,_,_,_,_=>by cases h
 | .fn _ _::_,[],_,r,h,_,_,_,_,_=>by cases h
 | .ptr _ _::_,[],_,r,h,_,_,_,_,_=>by cases h
 | .cap _ _::_,[],_,_,h,_,_,_,_,_=>by cases h
 | .capf _ _ _::_,[],_,_,h,_,_,_,_,_=>by cases h
 | .fk _::_,[],_,_,h,_,_,_,_,_=>by cases h
 | .crs _ _::_,[],_,_,h,_,_,_,_,_=>by cases h
 | .kb _ _ _::_,[],_,_,h,_,_,_,_,_=>by cases h
 | .kc _::_,[],_,_,h,_,_,_,_,_=>by cases h
def wx:List PM->Bool
 | [] =>true
 | .ow t::ps=>t.dp&&wx ps
 | .ptr _ t::ps=>t.dp&&wx ps
 | .kb _ _ t::ps=>t.dp&&wx ps
 | _::ps=>wx ps
def AH:(t:Ty)->t.den->List LV->List (Hdr×Chk)
 | .prod a b,d,cs=>AH a d.1 (cs.take a.size)++AH b d.2 (cs.drop a.size)
 | .wr t,d,cs=>AH t d cs
 | .sl E t,d,cs=>match cs with
  | .own h::_=>[(h,.own (.sl E t) d)]
  | _=>[]
 | _,_,_=>[]
def lD (gh:Option GhQ):(ps:List PM)->List AV->j4 (outs ps)->List (Hdr×Chk)
 | .ow t::ps,x::xs,d=>((mz x).elim [] fun cs=>AH t d.1 cs)++lD gh ps xs d.2
 | .ptr T t::ps,x::xs,d=>(match x with
  | .one (.ptr h _)=>[(h,.box T t d.1)]
  | _=>[])++lD gh ps xs d.2
 | .rd _::ps,_::xs,d=>lD gh ps xs d
 | .eat _::ps,_::xs,d=>lD gh ps xs d
 | .fn _ _::ps,_::xs,d=>lD gh ps xs d
 | .cap _ _::ps,_::xs,d=>lD gh ps xs d
 | .capf _ _ _::ps,_::xs,d=>lD gh ps xs d
 | .fk _::ps,_::xs,d=>lD gh ps xs d
 | .kc _::ps,_::xs,d=>lD gh ps xs d
 | .kb _ T t::ps,_::xs,d=>(match gh with
  | some (.box h)=>[(h,.box T t d.1)]
  | _=>[])++lD gh ps xs d.2
 | .crs T E::ps,x::xs,d=>(match x,gh with
  | .one (.ptr h _),some (.cur g l)=>[(h,.blk T [.rd g (.sl E (.int .u8)) l,.val (.int .i64 d.1.1),.val (.int .i64 d.1.2)])]
  | _,_=>[])++lD gh ps xs d.2
 | _,_,_=>[]
def Ro:Chk->Prop
 | .own _ _=>True
 | .box _ _ _=>True
 | _=>False
theorem sF {g:Hdr×Chk} {ver:Nat} (h:Ro g.2) (h1:g.1.id<n) (b:ver<n):okE P w0 J θ n chs (g.1,ver,g.2):=by
 have ⟨a,c⟩:=g;cases c with
 | own _ _=>exact ⟨h1,b,trivial⟩
 | box _ _ _=>exact ⟨h1,b,trivial⟩
 | _=>exact h.elim
def Yt (P:Program) (w0:World) (J:Hp) (θ:Th) (n:Nat) (c:Chk):Prop:=Ro c\/ ∃T cells,c= .blk T cells/\ ∀x∈cells,LV.ok P w0 J θ n x
theorem JO {g:Hdr×Chk} {ver m:Nat} (h:Yt P w0 J θ m g.2) (e:m<=n) (h1:g.1.id<n) (b:ver<n):okE P w0 J θ n chs (g.1,ver,g.2):=by
 rcases h with h | ⟨T,cells,h,d⟩
 ·exact sF h h1 b
 ·have ⟨a,c⟩:=g;obtain rfl:c=_:=h;exact ⟨h1,b,fun x f=>LV.ok_same Same.rfl e (d x f) Hp.le.rfl⟩
theorem Rp {w:World} : ∀ {t:Ty} {d:t.den} {cs:List LV} {C:List Ch},St J w0 w (Ch.own t.rep (cs.map (·.v θ)) d::C)->(∀x∈cs,x.ok P w0 J θ' n)->(∀x∈cs,x.v θ'=x.v θ)->
  St J w0 w ((AH t d cs).map (fun g=>toCh P θ' (g.1,m,g.2))++C)/\ ∀g∈AH t d cs,Ro g.2/\g.1.id<n:=by
 intro t;induction t with
 | prod a b r q =>
  intro d cs C h i c;have ⟨v,u,e,D,h⟩:=JH h;rw[a.rep_size] at D;have B:v=(cs.take a.size).map (·.v θ):=by
   simp_all
  have A:u=(cs.drop a.size).map (·.v θ):=by
   grind[List.map_drop,List.drop_left]
  rw[B,A] at h;have ⟨y,O⟩:=r h (fun x j=>i x (List.mem_of_mem_take j)) fun x j=>c x (List.mem_of_mem_take j);have ⟨s,M⟩:=q (y.perm List.perm_middle) (fun x j=>i x (List.mem_of_mem_drop j)) fun x j=>c x (List.mem_of_mem_drop j);refine ⟨?_,fun g f=>?_⟩
  ·show St J w0 w ((AH a d.1 _++AH b d.2 _).map _++C);refine s.perm ?_;grind[aC,List.perm_append_comm_assoc]
  ·rcases aG f with f | f
   ·grind
   grind
 | wr t ih =>
  intro d cs C h i c;exact ih h i c
 | sl E t ih =>
  intro d cs C h i c;cases cs with
  | nil=>exact ⟨h.tail,fun g f=>by cases f⟩
  | cons x l =>
   cases x with
   | own o =>
    have p:l= []:=by
     obtain ⟨I,N,F,⟨G,K,rfl,k,e⟩,H,L⟩:=h
     have:=(Ty.sl E t).rep.own_len k
     have z:((LV.own o::l).map (·.v θ)).length=1:=this;simpa using z
    subst p;refine ⟨?_,fun g f=>?_⟩
    ·have:=c (.own o) (by simp)
     show St J w0 w (Ch.own _ [hv θ' o] d::C);rw[show hv θ' o=hv θ o from this];exact h
    ·cases ak f;exact ⟨trivial,(i (.own o) (by simp)).1⟩
   | _=>exact ⟨h.tail,fun g f=>by cases f⟩
 | _ =>
  intro d cs C h i c;exact ⟨h.tail,fun g f=>by cases f⟩
theorem lE {w:World} {s:Sg} (A:Fine P w0 J θ s) (hs:Same s.nxt θ θ') (H:s.nxt<=m) {γ:Value} {gh:Option GhQ} : ∀ {ps:List PM} {xs:List AV} {B:FT} {chs:List Ent} {r:Args ps} (d:j4 (outs ps)) {C:List Ch},ej B s chs ps xs=some r->(∀x∈xs,x.ok P w0 J θ s.nxt s.chs)->(∀e∈chs,e∈s.chs)->(∀q,r.gh=some q->gh=some q/\γ=q.v θ)->St J w0 w (outCh γ ps (xs.map (·.v θ)) d++C)->
  St J w0 w ((lD gh ps xs d).map (fun g=>toCh P θ' (g.1,m,g.2))++C)/\ ∀g∈lD gh ps xs d,Yt P w0 J θ' m g.2/\g.1.id<s.nxt
 | [],[],B,chs,r,d,C,h,j,hc,hγ,f=>⟨f,fun g i=>by cases i⟩
 | .rd t::ps,x::xs,B,chs,r,d,C,h,j,hc,hγ,f=>by
  have ⟨a,ha,h⟩:=bind_some (show (AD s.chs t x).bind _=some r from h);have ⟨q,u,h⟩:=bind_some h;cases ae h;exact lE A hs H (ps:=ps) d u (fun y K=>j y (by grind)) hc hγ f
 | .ow t::ps,x::xs,B,chs,r,d,C,h,j,hc,hγ,f=>by
  have ⟨i,h⟩:=ai (show bO (oO x==t.isProd) _=some r from h);have i:oO x=t.isProd:=by simpa using i
  have ⟨U,F,h⟩:=bind_some h;have ⟨q,u,h⟩:=bind_some h;have ⟨I,h⟩:=ai h;have ⟨M,l,h⟩:=bind_some h;cases ae h;have S:=j x (by simp);have ⟨c1,c2⟩:=AG F S i;have o:=(jI F S).1;have f:St J w0 w (Ch.own t.rep (mo t.isProd (x.v θ)) d.1::(outCh γ ps (xs.map (·.v θ)) d.2++C)):=f;rw[c1] at f;have ⟨k1,k2⟩:=Rp (P:=P) (θ':=θ') (n:=s.nxt) (m:=m) f (fun x j=>LV.ok_same hs (aL _) (o x j) Hp.le.rfl) fun x j=>LV.v_same hs (o x j);have ⟨L,X⟩:=lE A hs H (ps:=ps) d.2 l (fun y K=>j y (by grind)) (fun e I=>hc e ((ij u).mem_iff.2 (by grind))) hγ (k1.perm (List.perm_append_comm_assoc _ _ _));have D:lD gh (.ow t::ps) (x::xs) d=AH t d.1 U++lD gh ps xs d.2:=by
   show ((mz x).elim [] fun U=>AH t d.1 U)++_=_;rw[F];rfl
  rw[D];refine ⟨?_,fun g i=>?_⟩
  ·refine L.perm ?_;grind[aC,List.perm_append_comm_assoc]
  ·rcases aG i with i | i
   ·exact ⟨.inl (k2 g i).1,(k2 g i).2⟩
   grind
 | .eat t::ps,x::xs,B,chs,r,d,C,h,j,hc,hγ,f=>by
  have ⟨i,h⟩:=ai (show bO (oO x==t.isProd) _=some r from h);have ⟨U,F,h⟩:=bind_some h;have ⟨q,u,h⟩:=bind_some h;have ⟨I,h⟩:=ai h;have ⟨M,l,h⟩:=bind_some h;cases ae h;exact lE A hs H (ps:=ps) d l (fun y K=>j y (by grind)) (fun e I=>hc e ((ij u).mem_iff.2 (by grind))) hγ f
 | .fn a b::ps,x::xs,B,chs,r,d,C,h,j,hc,hγ,f=>by
  unfold ej at h;split at h
  ·have ⟨q,u,h⟩:=bind_some h;have ⟨M,l,h⟩:=bind_some h;cases ae h;exact lE A hs H (ps:=ps) d l (fun y K=>j y (by grind)) hc hγ f
  grind
 | .ptr T t::ps,x::xs,B,chs,r,d,C,h,j,hc,hγ,f=>by
  unfold ej at h;split at h
  ·rename_i v off;have ⟨Z,h⟩:=ai h;have ⟨q,u,h⟩:=bind_some h;have ⟨M,l,h⟩:=bind_some h;cases ae h;cases al Z;have k:=j (.one (.ptr v 0)) (by simp);have ⟨L,X⟩:=lE A hs H (ps:=ps) (C:=Ch.box (bk (hv θ v)) T t.rep d.1::C) d.2 l (fun y K=>j y (by grind)) (fun e I=>hc e ((pH u).mem_iff.2 (by grind))) hγ (f.perm List.perm_middle.symm);refine ⟨?_,fun g i=>?_⟩
   ·show St J w0 w (Ch.box (bk (hv θ' v)) T t.rep d.1::((lD gh ps xs d.2).map _++C));rw[ba hs k];exact L.perm List.perm_middle
   ·rcases aG i with i | i
    ·cases ak i;exact ⟨.inl trivial,k⟩
    grind
  grind
 | .fk g::ps,x::xs,B,chs,r,d,C,h,j,hc,hγ,f=>by
  unfold ej at h;split at h
  ·have ⟨hk,h⟩:=ai h;have ⟨M,l,h⟩:=bind_some h;cases ae h;exact lE A hs H (ps:=ps) d l (fun y K=>j y (by grind)) hc hγ f
  grind
 | .crs T E::ps,x::xs,B,chs,r,d,C,h,j,hc,hγ,f=>by
  unfold ej at h;split at h
  ·rename_i v off;have ⟨Z,h⟩:=ai h;have ⟨q,u,h⟩:=bind_some h;have ⟨M,l,h⟩:=bind_some h;have ⟨hn,h⟩:=ai h;cases ae h;cases al Z;have ⟨N,i⟩:=hγ _ rfl;have ⟨p,V,I⟩:=oB u;have o:=A.chs _ (hc _ (p.mem_iff.2 (List.mem_cons_self ..)));rw[I] at o;have W:LV.ok P w0 J θ s.nxt (.rd q.g (.sl E (.int .u8)) q.d.1):=o.2.2 _ (by simp);have k:=j (.one (.ptr v 0)) (by simp);have ⟨L,X⟩:=lE A hs H (ps:=ps) (gh:=gh) (C:=Ch.blk (bk (hv θ v)) [γ,.int .i64 d.1.1,.int .i64 d.1.2] T::C) d.2 l (fun y K=>j y (by grind)) (fun e I=>hc e (p.mem_iff.2 (by grind))) (fun q' O=>by grind) (f.perm List.perm_middle.symm);have D:lD gh (.crs T E::ps) (.one (.ptr v 0)::xs) d= [(v,.blk T [.rd q.g (.sl E (.int .u8)) q.d.1,.val (.int .i64 d.1.1),.val (.int .i64 d.1.2)])] ++lD gh ps xs d.2:=by
    rw[N];rfl
   rw[D];refine ⟨?_,fun g G=>?_⟩
   ·show St J w0 w (Ch.blk (bk (hv θ' v)) [hv θ' q.g,.int .i64 d.1.1,.int .i64 d.1.2] T::((lD gh ps xs d.2).map _++C));rw[ba hs k,ba hs W.1,<-show γ=hv θ q.g from i];exact L.perm List.perm_middle
   ·rcases aG G with G | G
    ·cases ak G;refine ⟨.inr ⟨_,_,rfl,fun z Q=>?_⟩,k⟩;rcases aA Q with rfl | Q
     ·grind[LV.ok_same,Hp.le.rfl]
     ·rcases aA Q with rfl | Q
      ·rfl
      ·cases ak Q
       rfl
    grind
  grind
 | .kb g T t::ps,x::xs,B,chs,r,d,C,h,j,hc,hγ,f=>by
  unfold ej at h;split at h
  ·rename_i v;have ⟨c,R,h⟩:=bind_some h;have ⟨hk,h⟩:=ai h;have ⟨q,u,h⟩:=bind_some h;have ⟨M,l,h⟩:=bind_some h;have ⟨hn,h⟩:=ai h;cases ae h;have ⟨N,i⟩:=hγ _ rfl;have ⟨V,Y⟩:=Eo R;have o:=(A.chs _ Y).2.2;have k:=o.2.1 (.ptr c.2 0) (by simp);have f:St J w0 w (Ch.box (bk γ) T t.rep d.1::(outCh γ ps (xs.map (·.v θ)) d.2++C)):=f;have hbg:bk γ=bk (hv θ c.2):=by rw[i];rfl
   rw[hbg] at f;have ⟨L,X⟩:=lE A hs H (ps:=ps) (gh:=gh) (C:=Ch.box (bk (hv θ c.2)) T t.rep d.1::C) d.2 l (fun y K=>j y (by grind)) (fun e I=>hc e ((pH u).mem_iff.2 (by grind))) (fun q' O=>by grind[En]) (f.perm List.perm_middle.symm);have D:lD gh (.kb g T t::ps) (.one (.own v)::xs) d= [(c.2,.box T t d.1)] ++lD gh ps xs d.2:=by
    rw[N];rfl
   rw[D];refine ⟨?_,fun g i=>?_⟩
   ·show St J w0 w (Ch.box (bk (hv θ' c.2)) T t.rep d.1::((lD gh ps xs d.2).map _++C));rw[ba hs k];exact L.perm List.perm_middle
   ·rcases aG i with i | i
    ·cases ak i;exact ⟨.inl trivial,k⟩
    grind
  grind
 | .kc g::ps,x::xs,B,chs,r,d,C,h,j,hc,hγ,f=>by
  unfold ej at h;split at h
  ·have ⟨c,R,h⟩:=bind_some h;have ⟨hk,h⟩:=ai h;have ⟨M,l,h⟩:=bind_some h;have ⟨hn,h⟩:=ai h;exact lE A hs H (ps:=ps) d l (fun y K=>j y (by grind)) hc (fun q' O=>by grind[En]) f
  grind
 | .cap _ _::_,_::_,_,_,_,_,_,h,_,_,_,_=>by cases h
 | .capf _ _ _::_,_::_,_,_,_,_,_,h,_,_,_,_=>by cases h
 | [],_::_,_,_,_,_,_,h,_,_,_,_=>by cases h
 | .rd _::_,[],_,_,_,_,_,h,_,_,_,_=>by cases h
 | .ow _::_,[],_,_,_,_,_,h,_,_,_,_=>by cases h
 | .eat _::_,[],_,_,_,_,_,h,_,_,_,_=>by cases h
 | .fn _ _::_,[],_,_,_,_,_,h,_,_,_,_=>by cases h
 | .ptr _ _::_,[],_,_,_,_,_,h,_,_,_,_=>by cases h
 | .cap _ _::_,[],_,_,_,_,_,h,_,_,_,_=>by cases h
 | .capf _ _ _::_,[],_,_,_,_,_,h,_,_,_,_=>by cases h
 | .fk _::_,[],_,_,_,_,_,h,_,_,_,_=>by cases h
 | .crs _ _::_,[],_,_,_,_,_,h,_,_,_,_=>by cases h
 | .kb _ _ _::_,[],_,_,_,_,_,h,_,_,_,_=>by cases h
 | .kc _::_,[],_,_,_,_,_,h,_,_,_,_=>by cases h
end
theorem yQ {l m:List Ch} (h:Ch.deeps l) (k:Ch.deeps m):Ch.deeps (l++m):=by
 induction l with
 | nil=>exact k
 | cons c l ih=>exact ⟨h.1,ih h.2⟩
theorem tM {v:Value} : ∀(a:List Ty) (i:Nat) (d:j4 a),F6 a=true->Ch.deeps (xH i a d v)
 | [],_,_,_=>trivial
 | t::a,i,d,h=>by
  have h:(t.dp&&F6 a)=true:=h;rw[aj] at h;exact ⟨Ap (Ty.dp_ok h.1),tM a (i+1) d.2 h.2⟩
theorem Db {v:Value} (a:List Ty) (d:j4 a) (h:F6 a=true):Ch.deeps (resGv a d v):=by
 match a,d,h with
 | [t],d,h =>
  have h:(t.dp&&true)=true:=h;rw[Bool.and_true] at h;exact ⟨Ap (Ty.dp_ok h),trivial⟩
 | [],d,h=>exact tM (v:=v) [] 0 d h
 | _::_::_,d,h=>exact tM (v:=v) _ 0 d h
def Ty.fin:Ty->Bool
 | .int _=>true
 | .bool=>true
 | .str=>true
 | .prod a b=>a.fin&&b.fin
 | .wr t=>t.fin
 | _=>false
theorem Ty.fin_ok: ∀ {t:Ty},t.fin=true->t.rep.Fin
 | .int _,_=>D8
 | .bool,_=>D8 (h1:=fun _=>rfl)
 | .str,_=>D8 (h1:=fun _=>rfl)
 | .raw,h=>by cases h
 | .prod a b,h=>by
  have h:(a.fin&&b.fin)=true:=h;rw[aj] at h;exact Ra (fin_ok h.1) (fin_ok h.2)
 | .wr t,h=>fin_ok (t:=t) h
 | .sl _ _,h=>by cases h
 | .fro _,h=>by cases h
 | .bag _,h=>by cases h
 | .tree _ _ _,h=>by cases h
def aab:Ty->Bool
 | .tree _ _ u=>u.fin
 | _=>false
theorem NJ {t:Ty} (h:aab t=true) {cs:List Value} {d:t.den} :(Ch.own t.rep cs d).recl:=by
 cases t with
 | tree T E u=>exact Na (Ty.fin_ok h)
 | _=>cases h
def Ep:List Ty->Bool
 | [] =>true
 | t::ts=>(t.dp&&Ep ts) || (aab t&&F6 ts)
theorem xN {v:Value} {D:List Ch} (b:Ch.deeps D): ∀(a:List Ty) (i:Nat) (d:j4 a),Ep a=true->Ch.back (xH i a d v++D)
 | [],_,_,_=>Ch.back_deeps b
 | t::a,i,d,h=>by
  have h:((t.dp&&Ep a) || (aab t&&F6 a))=true:=h;rw[Bool.or_eq_true,aj,aj] at h;rcases h with h | h
  ·exact .inl ⟨Ap (Ty.dp_ok h.1),xN b a (i+1) d.2 h.2⟩
  ·exact .inr ⟨NJ h.1,yQ (tM a (i+1) d.2 h.2) b⟩
theorem xO {v:Value} {D:List Ch} (b:Ch.deeps D) (a:List Ty) (d:j4 a) (h:Ep a=true):Ch.back (resGv a d v++D):=by
 match a,d,h with
 | [t],d,h =>
  have h:((t.dp&&true) || (aab t&&true))=true:=h;rw[Bool.and_true,Bool.and_true,Bool.or_eq_true] at h;rcases h with h | h
  ·exact .inl ⟨Ap (Ty.dp_ok h),Ch.back_deeps b⟩
  ·exact .inr ⟨NJ h,b⟩
 | [],d,h=>exact xN (v:=v) b [] 0 d h
 | _::_::_,d,h=>exact xN (v:=v) b _ 0 d h
theorem Ub {α:Type} {b:Nat} {T:TypeId} {R:Rep α} {d:α} (h:R.Dp):(Ch.box b T R d).deep:=by
 rintro I J w F ⟨cells,G,rfl,a,c⟩;exact ⟨cells,G,rfl,a,h c⟩
theorem eH {γ:Value} : ∀(ps:List PM) (vs:List Value) (d:j4 (outs ps)),wx ps=true->Ch.deeps (outCh γ ps vs d)
 | [],vs,_,_=>by cases vs <;> trivial
 | .ow t::ps,[],d,h=>trivial
 | .ow t::ps,v::vs,d,h=>by
  have h:(t.dp&&wx ps)=true:=h;rw[aj] at h;exact ⟨Ap (Ty.dp_ok h.1),eH ps vs d.2 h.2⟩
 | .ptr T t::ps,[],d,h=>trivial
 | .ptr T t::ps,v::vs,d,h=>by
  have h:(t.dp&&wx ps)=true:=h;rw[aj] at h;exact ⟨Ub (Ty.dp_ok h.1),eH ps vs d.2 h.2⟩
 | .rd _::ps,[],d,h=>trivial
 | .rd _::ps,v::vs,d,h=>eH ps vs d h
 | .eat _::ps,[],d,h=>trivial
 | .eat _::ps,v::vs,d,h=>eH ps vs d h
 | .fn _ _::ps,[],d,h=>trivial
 | .fn _ _::ps,v::vs,d,h=>eH ps vs d h
 | .cap _ _::ps,[],d,h=>trivial
 | .cap _ _::ps,v::vs,d,h=>eH ps vs d h
 | .capf _ _ _::ps,[],d,h=>trivial
 | .fk _::ps,[],d,h=>trivial
 | .capf _ _ _::ps,v::vs,d,h=>eH ps vs d h
 | .fk _::ps,v::vs,d,h=>eH ps vs d h
 | .crs _ _::ps,[],d,h=>trivial
 | .kb _ _ _::ps,[],d,h=>trivial
 | .kc _::ps,[],d,h=>trivial
 | .kb _ T t::ps,v::vs,d,h=>by
  have h:(t.dp&&wx ps)=true:=h;rw[aj] at h;exact ⟨Ub (Ty.dp_ok h.1),eH ps vs d.2 h.2⟩
 | .kc _::ps,v::vs,d,h=>eH ps vs d h
 | .crs _ _::ps,v::vs,d,h=>⟨TQ,eH ps vs d.2 h⟩
theorem jc {id:Nat} {pth:Nat->List Nat} : ∀(t:Ty) (d:t.den) (j:Nat),∀g∈rM id pth t d j,Ro g.2
 | .prod a b,d,j=>fun g c=>by
  rcases aG c with c | c
  ·exact jc a d.1 j g c
  ·exact jc b d.2 _ g c
 | .sl E t,d,j=>fun g c=>by cases ak c;trivial
 | .wr t,d,j=>jc t d j
 | .int _,_,_=>fun g c=>by cases c
 | .bool,_,_=>fun g c=>by cases c
 | .str,_,_=>fun g c=>by cases c
 | .raw,_,_=>fun g c=>by cases c
 | .fro _,_,_=>fun g c=>by cases c
 | .bag _,_,_=>fun g c=>by cases c
 | .tree _ _ _,d,j=>fun g c=>by cases ak c;trivial
theorem vl {id:Nat} : ∀(i:Nat) (b:List Ty) (d:j4 b),∀g∈yP id i b d,Ro g.2
 | _,[],_=>fun g a=>by cases a
 | i,t::b,d=>fun g a=>by
  rcases aG a with a | a
  ·exact jc t d.1 0 g a
  ·exact vl (i+1) b d.2 g a
theorem ri {id:Nat} (a:List Ty) (d:j4 a): ∀g∈wq id a d,Ro g.2:=by
 match a,d with
 | [t],d=>exact jc t d.1 0
 | [],d=>exact vl (id:=id) 0 [] d
 | _::_::_,d=>exact vl (id:=id) 0 _ d
theorem wz {g:Hdr×Chk} {ver:Nat} {c:Chk} (h:Ro g.2) (k:SaysH g.2 ver c):False:=by
 have ⟨a,x⟩:=g;cases x <;> first | exact h.elim | exact k.elim
theorem Rq {h:Hdr} {chs:List Ent} {q:Row} (a:rowOf h chs=some q) {e:Ent} (b:e∈chs) (h1:e.1=h):e=q.ent h:=by
 have ⟨p,k⟩:=bF a;grind
theorem NK {h:Hdr} {chs:List Ent} {q:TreeE} (a:F7 h chs=some q) {e:Ent} (b:e∈chs) (h1:e.1=h):e=q.ent h:=by
 have ⟨p,k⟩:=NB a;grind
theorem Rr {h:Hdr} {chs:List Ent} {q:Blk} (b:XR h chs=some q) {e:Ent} (a:e∈chs) (h1:e.1=h):e=q.ent h:=by
 have ⟨p,k⟩:=NC b;rcases aA ((kA p).mem_iff.1 a) with rfl | a
 ·rfl
 grind
theorem OpT.post {P:Program} {w0:World} {o:Oper} {I:Hp} {ev:Operand->Value} {rn:List Ch} {fact a:Value->Prop} {gv b:Value->List Ch} (h:OpT P I w0 o ev rn fact gv) (hp: ∀v w C,fact v->St I w0 w (gv v++C)->a v/\St I w0 w (b v++C)):OpT P I w0 o ev rn a b :=
 fun w C c=>(h w C c).imp fun v w hv=>hp v w C hv.1 hv.2
theorem OpT.sepTo {P:Program} {w0:World} {o:Oper} {I:Hp} {ev:Operand->Value} {l a:List Ch} {fact:Value->Prop} {gv:Value->List Ch} (k:sA I l a) (h:OpT P I w0 o ev a fact gv):OpT P I w0 o ev l fact gv:=fun w C b=>by
 have ⟨d,i,F,e,c,f⟩:=b;obtain ⟨G,K,rfl,j,g⟩:=e.split;exact h w C ⟨d,i,G++K,(k w G j).append g,c,f⟩
section
variable {Y:Type} (ft:FT) (s:Sg) (k:Res->Option Y)
def Ie (s:Sg):List Operand->Option (List AV)
 | [] =>some []
 | x::xs=>(opd s x).bind fun v=>(Ie s xs).bind fun vs=>some (v::vs)
def JP (f:FS) (xs:List AV) (kx:List Ent->List Ent->List Ent->Option GhQ->dens (f.rs++outs f.ps)->Option Y):Option Y:=(ej ft s s.chs f.ps xs).bind fun a =>
 (Em (Ic a.lent []) a.rest).bind fun pl=>match (F6 f.rs&&wx f.ps) || pl.1.isEmpty with
 | true=>(appP f.ps f.m a.d).bind fun r=>kx pl.1 a.own pl.2 a.gh r
 | false=>bO (Ep f.rs&&wx f.ps) ((appP f.ps f.m a.d).bind fun r=>kx [] (a.own++pl.1) pl.2 a.gh r)
def V6 (f : FS) (xs : List AV) (L M R : List Ent) (gh : Option GhQ) (r : dens (f.rs ++ outs f.ps)) : Option Y :=
    k ⟨L, M, R, wq s.nxt f.rs (hFst f.rs (outs f.ps) (toH _ r)) ++ lD gh f.ps xs (hSnd f.rs (outs f.ps) (toH _ r)), H9 s.nxt f.rs (hFst f.rs (outs f.ps) (toH _ r))⟩
def Uc (g:FuncId) (xs:List Operand):Option Y:=(fs ft g).bind fun f=>bO (!f.ov)<|(Ie s xs).bind fun vs=>JP ft s f vs (V6 s k f vs)
def abJ:(ts:List Ty)->j4 ts->Int
 | [.sl _ t],d=>((List.length (α:=t.den) d.1:Nat):Int)
 | _,_=>1
def NL (ts:List Ty) (d:j4 ts):Bool:=decide (abJ ts d=0)
def Ud (g : FuncId) (xs : List Operand) : Option Y := (fs ft g).bind fun f => bO (!f.ov) <| (Ie s xs).bind fun vs => JP ft s f vs fun L M R gh r =>
    if NL f.rs (hFst f.rs (outs f.ps) (toH _ r)) then k ⟨L, M, R, lD gh f.ps vs (hSnd f.rs (outs f.ps) (toH _ r)), .one (.val (.slice none 0 0))⟩
    else V6 s k f vs L M R gh r
def Yu (f:FS) (n:Nat):Bool:=match f.ps.drop n with
 | [.ptr _ _] =>true
 | _=>false
def JQ (t n:Nat):Option (FuncId×Hdr):=match look s.env t with
 | some (.one (.own h))=>(aaa h s.chs).bind fun c=>(fs ft c.1).bind fun f=>match Yu f n with
  | true=>some c
  | false=>none
 | _=>none
def Ue (c:FuncId×Hdr) (xs:List Operand):Option Y:=(fs ft c.1).bind fun f=>bO (!f.ov)<|(Ie s xs).bind fun vs=>JP ft s f (vs++ [.one (.ptr c.2 0)]) (V6 s k f (vs++ [.one (.ptr c.2 0)]))
def ab8 (n:Nat):LV->Option (List Ty×List Ty)
 | .fn _ a b _=>some (a,b)
 | .own h=>(NF h s.chs).bind fun q=>(fs ft q.1).bind fun f=>(V1 ((f.ps.drop q.2.1.length).take n)).bind fun a=>some (a,f.rs++outs f.ps)
 | _=>none
def V7:(ts:List Ty)->List Operand->Option (j4 ts×List Hdr)
 | [],[] =>some ((),[])
 | t::ts,x::xs=>(opd s x).bind fun v=>(AD s.chs t v).bind fun a=>(V7 ts xs).bind fun r=>some ((a.1,r.1),a.2++r.2)
 | _,_=>none
def NM (t:Nat) (xs:List Operand):Option Y:=(oneOf0 (look s.env t)).bind fun y=>(ab8 ft s xs.length y).bind fun ab=>(V4 ft s.chs 4 ab.1 ab.2 y).bind fun q=>(V7 s ab.1 xs).bind fun d =>
 (Em (Ic (q.lent++d.2) []) s.chs).bind fun pl=>bO (F6 ab.2) ((app ab.1 q.e d.1).bind fun r=>k ⟨pl.1,[],pl.2,wq s.nxt ab.2 (toH _ r),H9 s.nxt ab.2 (toH _ r)⟩)
where oneOf0:Option AV->Option LV
 | some (.one x)=>some x
 | _=>none
end
section
variable {Y:Type} {ft:FT} {s:Sg} {k:Res->Option Y} {P:Program} {w0:World} {o:Oper} {res:Y}
theorem Er {J:Hp} {θ:Th} {hs:List Hdr} {l:List Ent} (n:l.map (·.1)=Ic hs []) (b: ∀e∈l,e∈s.chs) (j: ∀ {α:Type} (R:Rep α) (v:List Value) (a:α),Ch.own R v a∈l.map (toCh P θ)->R.rd J v a) (m: ∀g c E,Ch.blk g c E∈l.map (toCh P θ)->J g=some (.cells c.toArray E (0,0))):Lent J θ s.chs hs:=fun h p=>by
 have r:h∈l.map (·.1):=by
  rw[n];rcases AF (acc:=[]) p with d | d
  ·exact d
  ·cases d
 have ⟨e,f,d⟩:=List.mem_map.1 r;refine ⟨fun q i=>?_,fun q i=>?_,fun q i=>?_⟩
 ·have:=Rq i (b e f) d
  subst this;exact j _ _ _ (List.mem_map.2 ⟨_,f,rfl⟩)
 ·have:=NK i (b e f) d
  subst this;exact j _ _ _ (List.mem_map.2 ⟨_,f,rfl⟩)
 ·have:=Rr i (b e f) d
  subst this;exact m _ _ _ (List.mem_map.2 ⟨_,f,rfl⟩)
theorem gj: ∀ {ps:List PM} {xs:List AV} {chs:List Ent} {r:Args ps},ej ft s chs ps xs=some r->chs.Perm (r.own++r.rest)
 | [],[],chs,r,h=>by cases ae (show some _=some r from h);rfl
 | .rd t::ps,x::xs,chs,r,h=>by
  have ⟨a,w,h⟩:=bind_some (show (AD s.chs t x).bind _=some r from h);have ⟨q,e,h⟩:=bind_some h;cases ae h;exact gj (ps:=ps) e
 | .ow t::ps,x::xs,chs,r,h=>by
  have ⟨m,h⟩:=ai (show bO (oO x==t.isProd) _=some r from h);have ⟨u,i,h⟩:=bind_some h;have ⟨q,e,h⟩:=bind_some h;have ⟨n,h⟩:=ai h;have ⟨f,d,h⟩:=bind_some h;cases ae h;show chs.Perm ((q.used++f.own)++f.rest);rw[aC];exact (ij e).trans ((gj d).append_left _)
 | .eat t::ps,x::xs,chs,r,h=>by
  have ⟨m,h⟩:=ai (show bO (oO x==t.isProd) _=some r from h);have ⟨u,i,h⟩:=bind_some h;have ⟨q,e,h⟩:=bind_some h;have ⟨n,h⟩:=ai h;have ⟨f,d,h⟩:=bind_some h;cases ae h;rw[aC];exact (ij e).trans ((gj d).append_left _)
 | .fn a b::ps,x::xs,chs,r,h=>by
  unfold ej at h;split at h
  ·have ⟨q,e,h⟩:=bind_some h;have ⟨f,d,h⟩:=bind_some h;cases ae h;exact gj (ps:=ps) d
  grind
 | .ptr T t::ps,x::xs,chs,r,h=>by
  unfold ej at h;split at h
  ·have ⟨v,h⟩:=ai h;have ⟨q,e,h⟩:=bind_some h;have ⟨f,d,h⟩:=bind_some h;cases ae h;rw[aC];exact (pH e).trans ((gj d).append_left _)
  grind
 | .crs T E::ps,x::xs,chs,r,h=>by
  unfold ej at h;split at h
  ·have ⟨v,h⟩:=ai h;have ⟨q,e,h⟩:=bind_some h;have ⟨f,d,h⟩:=bind_some h;have ⟨j,h⟩:=ai h;cases ae h;exact (oB e).1.trans ((gj d).cons _)
  grind
 | .fk g::ps,x::xs,chs,r,h=>by
  unfold ej at h;split at h
  ·have ⟨l,h⟩:=ai h;have ⟨f,d,h⟩:=bind_some h;cases ae h;exact gj (ps:=ps) d
  grind
 | .kb g T t::ps,x::xs,chs,r,h=>by
  unfold ej at h;split at h
  ·have ⟨c,p,h⟩:=bind_some h;have ⟨l,h⟩:=ai h;have ⟨q,e,h⟩:=bind_some h;have ⟨f,d,h⟩:=bind_some h;have ⟨j,h⟩:=ai h;cases ae h;rw[aC];exact (pH e).trans ((gj d).append_left _)
  grind
 | .kc g::ps,x::xs,chs,r,h=>by
  unfold ej at h;split at h
  ·have ⟨c,p,h⟩:=bind_some h;have ⟨l,h⟩:=ai h;have ⟨f,d,h⟩:=bind_some h;have ⟨j,h⟩:=ai h;cases ae h;exact gj (ps:=ps) d
  grind
 | .kb _ _ _::_,[],_,_,h=>by cases h
 | .kc _::_,[],_,_,h=>by cases h
 | .cap _ _::_,_::_,_,_,h=>by cases h
 | .capf _ _ _::_,_::_,_,_,h=>by cases h
 | [],_::_,_,r,h=>by cases h
 | .rd _::_,[],_,r,h=>by cases h
 | .ow _::_,[],_,r,h=>by cases h
 | .eat _::_,[],_,r,h=>by cases h
 | .fn _ _::_,[],_,r,h=>by cases h
 | .ptr _ _::_,[],_,r,h=>by cases h
 | .cap _ _::_,[],_,_,h=>by cases h
 | .capf _ _ _::_,[],_,_,h=>by cases h
 | .fk _::_,[],_,_,h=>by cases h
 | .crs _ _::_,[],_,_,h=>by cases h
theorem Lw: ∀ {t:Ty} {d:t.den} {cs:List LV},∀g∈AH t d cs,Ro g.2:=by
 intro t;induction t with
 | prod a b i f =>
  intro d cs g c;rcases aG c with c | c
  ·grind
  grind
 | wr t e=>intro d cs g c;exact e g c
 | sl E t e =>
  intro d cs g c;cases cs with
  | nil=>cases c
  | cons x l =>
   cases x with
   | own h=>cases ak c;trivial
   | _=>cases c
 | _=>intro d cs g c;cases c
theorem fh {gh:Option GhQ} : ∀ {ps:List PM} {xs:List AV} {d:j4 (outs ps)},∀g∈lD gh ps xs d,∀b c,SaysH g.2 b c->False
 | [],xs,d=>fun g a=>by cases xs <;> cases a
 | .ow t::ps,[],d=>fun g a=>by cases a
 | .ow t::ps,x::xs,d=>fun g a=>by
  rcases aG a with a | a
  ·cases e:mz x with
   | none=>grind
   | some cs=>grind[wz,Lw]
  ·exact fh g a
 | .ptr T t::ps,[],d=>fun g a=>by cases a
 | .ptr T t::ps,x::xs,d=>fun g a=>by
  rcases aG a with a | a
  ·split at a
   ·cases ak a;exact fun b c k=>k
   grind
  ·exact fh g a
 | .rd _::ps,[],d=>fun g a=>by cases a
 | .rd _::ps,_::xs,d=>fh (ps:=ps)
 | .eat _::ps,[],d=>fun g a=>by cases a
 | .eat _::ps,_::xs,d=>fh (ps:=ps)
 | .fn _ _::ps,[],d=>fun g a=>by cases a
 | .fn _ _::ps,_::xs,d=>fh (ps:=ps)
 | .cap _ _::ps,[],d=>fun g a=>by cases a
 | .cap _ _::ps,_::xs,d=>fh (ps:=ps)
 | .capf _ _ _::ps,[],d=>fun g a=>by cases a
 | .fk _::ps,[],d=>fun g a=>by cases a
 | .capf _ _ _::ps,_::xs,d=>fh (ps:=ps)
 | .fk _::ps,_::xs,d=>fh (ps:=ps)
 | .kc _::ps,[],d=>fun g a=>by cases a
 | .kc _::ps,_::xs,d=>fh (ps:=ps)
 | .kb _ T t::ps,[],d=>fun g a=>by cases a
 | .kb _ T t::ps,x::xs,d=>fun g a=>by
  rcases aG a with a | a
  ·split at a
   ·cases ak a;exact fun b c k=>k
   grind
  ·exact fh g a
 | .crs T E::ps,[],d=>fun g a=>by cases a
 | .crs T E::ps,x::xs,d=>fun g a=>by
  rcases aG a with a | a
  ·split at a
   ·cases ak a;exact fun b c k=>k
   grind
  ·exact fh g a
theorem Rs {α:Type} (A L O C:List α):(A++(L++(O++C))).Perm (O++(A++(L++C))):=by
 grind[aC,List.perm_append_comm_assoc]
theorem NN {α:Type} (B A L C:List α):(B++(A++(L++C))).Perm (L++(A++B)++C):=by
 have h:(B++(A++L)).Perm (L++(A++B)):=List.perm_append_comm.trans ((List.Perm.of_eq (aC ..)).trans (List.perm_append_comm_assoc _ _ _))
 have:=h.append_right C
 grind
theorem Rt {P:Program} {I:Hp} {w0:World} {o:Oper} {ev:Operand->Value} {ls rn:List Ch} {fact:Value->Prop} {gv:Value->List Ch} (i: ∀v,Ch.back (gv v))
  (h: ∀J,I.le J->(∀ {α:Type} (R:Rep α) (v:List Value) (a:α),Ch.own R v a∈ls->R.rd J v a)->(∀g l E,Ch.blk g l E∈ls->J g=some (.cells l.toArray E (0,0)))->OpT P J w0 o ev rn fact gv):OpT P I w0 o ev (ls++rn) fact gv:=by
 intro w C b;rw[aC] at b;have ⟨J,c,f,e,d,j⟩:=NA b;exact (h J c f e w _ d).imp fun v m hv=>⟨hv.1,hv.2.back c (i v)⟩
theorem NO {α:Type} (L G O C:List α):(L++(G++O)++C).Perm (O++(L++C)++G):=by
 refine (List.Perm.append_right C List.perm_append_comm).trans ?_;grind[aC,List.perm_append_comm]
theorem NP {a:List Ty} {d:j4 a} {v:Value} (h:NL a d=true) (k:yO a d v):v= .slice none 0 0:=by
 have h:=of_decide_eq_true h;unfold abJ at h;split at h
 ·exact k (Int.ofNat.inj h)
 omega
def ghV (θ:Th):Option GhQ->Value
 | some q=>q.v θ
 | none=>undef
theorem Dc {θ:Th} {o:Option GhQ} : ∀q,o=some q->ghV θ o=q.v θ:=fun q h=>by rw[h];rfl
theorem Es {J:Hp} {θ:Th} (d:Fine P w0 J θ s): ∀ {xs:List Operand} {vs:List AV},Ie s xs=some vs->xs.map (evL (envL θ s))=vs.map (·.v θ)/\ ∀x∈vs,x.ok P w0 J θ s.nxt s.chs
 | [],vs,h=>by cases ae (show some _=some vs from h);grind
 | x::xs,vs,h=>by
  have ⟨v,a,h⟩:=bind_some (show (opd s x).bind _=some vs from h);have ⟨g,b,h⟩:=bind_some h;cases ae h;have ⟨e,f⟩:=Es d b;refine ⟨by rw[List.map_cons,List.map_cons,e,aF (θ:=θ) a],fun y c=>?_⟩;rcases aA c with rfl | c
  ·exact bN d a
  ·exact f y c
def JR (P:Program) (w0:World) (s:Sg) (cv:Operand) (g:FuncId) (xs:List Operand) (vs:List AV):Prop:= ∀J θ,Fine P w0 J θ s-> ∃cap:Array Value,evL (envL θ s) cv= .func (.func g) #[] cap/\xs.map (evL (envL θ s))++cap.toList=vs.map (·.v θ)/\ ∀x∈vs,x.ok P w0 J θ s.nxt s.chs
theorem JS {g:FuncId} {xs:List Operand} {vs:List AV} (h:Ie s xs=some vs):JR P w0 s (.func g) g xs vs:=fun J θ b=>by
 have ⟨c,a⟩:=Es b h;exact ⟨#[],rfl,by grind,a⟩
theorem Ru {t n:Nat} {c:FuncId×Hdr} {xs:List Operand} {vs:List AV} (hp:JQ ft s t n=some c) (h:Ie s xs=some vs):JR P w0 s (.tmp t) c.1 xs (vs++ [.one (.ptr c.2 0)]):=fun J θ j=>by
 unfold JQ at hp;split at hp
 ·rename_i q g;obtain ⟨d,r,hp⟩:=bind_some hp;obtain ⟨f,m,hp⟩:=bind_some hp;split at hp
  ·obtain rfl:=ae hp;obtain ⟨p,u⟩:=Es j h;obtain ⟨l,v⟩:=Eo r;have a:=(j.chs _ v).2.2;have e:hv θ q= .func (.func d.1) #[] #[.pointer (some ⟨bk (hv θ d.2),0,none⟩)]:=a.2.2;have i:d.2.id<s.nxt:=a.2.1 (.ptr d.2 0) (by simp);refine ⟨#[.pointer (some ⟨bk (hv θ d.2),0,none⟩)],?_,?_,fun x b=>?_⟩
   ·rw[<-e];exact aF (x:=.tmp t) (θ:=θ) g
   ·rw[p,aW];rfl
   ·rcases aG b with b | b
    ·exact u x b
    ·obtain rfl:=ak b;exact i
  ·cases hp
 ·cases hp
theorem AI (H:FTok P ft) {f:FS} {g:FuncId} (q:Enters P g) {fact:dens (f.rs++outs f.ps)->Value->Prop} (l: ∀w0 J γ vs (d:denP f.ps) r,Lay P J->PArgs P w0 J γ f.ps vs d->appP f.ps f.m d=some r->
  Con P g vs.toArray J w0 (owCh γ f.ps vs d) (fact r) (fun v=>resGv f.rs (hFst f.rs (outs f.ps) (toH _ r)) v++outCh γ f.ps vs (hSnd f.rs (outs f.ps) (toH _ r)))) {xs:Array Operand} {Z:Array TypeId} {V:Operand} {vs:List AV} (z:JR P w0 s V g xs.toList vs) (S:o.op= .call { callee:=.value V,args:=xs,argTypes:=Z }) {W:List Ent->List Ent->List Ent->Option GhQ->dens (f.rs++outs f.ps)->Option Y} (h:JP ft s f vs W=some res) :
  ∃L M R r a,W L M R a.gh r=some res/\s.chs.Perm (L++M++R)/\ej ft s s.chs f.ps vs=some a/\ ∀J θ,Fine P w0 J θ s->OpT P J w0 o (evL (envL θ s)) (L.map (toCh P θ)++M.map (toCh P θ)) (fact r) (fun v=>L.map (toCh P θ)++(resGv f.rs (hFst f.rs (outs f.ps) (toH _ r)) v++outCh (ghV θ a.gh) f.ps (vs.map (·.v θ)) (hSnd f.rs (outs f.ps) (toH _ r)))):=by
 obtain ⟨a,u,h⟩:=bind_some h;obtain ⟨G,j,h⟩:=bind_some h;obtain ⟨p2,Q⟩:=xM j;have N:s.chs.Perm (a.own++a.rest):=gj u;have b:s.chs.Perm (G.1++a.own++G.2):=by
  refine N.trans ((p2.append_left a.own).trans ?_);rw[aC];exact List.perm_append_comm_assoc _ _ _
 split at h
 ·rename_i n;obtain ⟨r,C,h⟩:=bind_some h;rw[Bool.or_eq_true,aj] at n;refine ⟨_,_,_,r,a,h,b,u,fun J θ m=>?_⟩;obtain ⟨cap,D,B,F⟩:=z J θ m;rcases n with ⟨O,T⟩ | n
  ·refine wu (fun v=>yQ (Db _ _ O) (eH _ _ _ T)) fun K A p t=>?_;obtain ⟨y,X,w⟩:=gD H m A u F (fun e i=>i) (Er Q (fun e i=>b.mem_iff.2 (by simp[i])) p t) (ghV θ a.gh) Dc;exact OpT.sepTo w (pF q S D (by rw[List.nil_append,B]) (l w0 K (ghV θ a.gh) _ a.d r (m.lay.mono A) y C))
  ·have j:G.1= []:=List.isEmpty_iff.1 n;obtain ⟨y,X,w⟩:=gD H m Hp.le.rfl u F (fun e i=>i) (Er (P:=P) Q (fun e i=>b.mem_iff.2 (by simp[i])) (by rw[j];intro α R v x U;cases U) (by rw[j];intro g c E U;cases U)) (ghV θ a.gh) Dc;rw[j];exact OpT.sepTo w (pF q S D (by rw[List.nil_append,B]) (l w0 J (ghV θ a.gh) _ a.d r m.lay y C))
 ·obtain ⟨n,h⟩:=ai h;obtain ⟨r,C,h⟩:=bind_some h;rw[aj] at n;refine ⟨[],_,_,r,a,h,(by
   rw[List.nil_append];refine b.trans ?_;exact List.Perm.append_right _ List.perm_append_comm),u,fun J θ m=>?_⟩
  obtain ⟨cap,D,B,F⟩:=z J θ m
  have:=Rt (P:=P) (I:=J) (w0:=w0) (o:=o) (ev:=evL (envL θ s)) (ls:=G.1.map (toCh P θ)) (rn:=a.own.map (toCh P θ)) (fact:=fact r) (gv:=fun v=>resGv f.rs (hFst f.rs (outs f.ps) (toH _ r)) v++outCh (ghV θ a.gh) f.ps (vs.map (·.v θ)) (hSnd f.rs (outs f.ps) (toH _ r))) (fun v=>xO (eH _ _ _ n.2) _ _ n.1) fun K A p t=>by
    obtain ⟨y,X,w⟩:=gD H m A u F (fun e i=>i) (Er Q (fun e i=>b.mem_iff.2 (by simp[i])) p t) (ghV θ a.gh) Dc;exact OpT.sepTo w (pF q S D (by rw[List.nil_append,B]) (l w0 K (ghV θ a.gh) _ a.d r (m.lay.mono A) y C))
  rw[List.map_nil,List.nil_append,aW];exact OpT.permN List.perm_append_comm this
section
variable {f:FS} {vs:List AV} {L M R:List Ent} {r:dens (f.rs++outs f.ps)} {a:Args f.ps} (hvs: ∀J θ,Fine P w0 J θ s-> ∀x∈vs,x.ok P w0 J θ s.nxt s.chs)
include hvs
theorem AJ (D:ej ft s s.chs f.ps vs=some a) (h:s.chs.Perm (L++M++R))
  (h1: ∀J θ,Fine P w0 J θ s->OpT P J w0 o (evL (envL θ s)) (L.map (toCh P θ)++M.map (toCh P θ)) (resFa f.rs) (fun v=>L.map (toCh P θ)++(resGv f.rs (hFst f.rs (outs f.ps) (toH _ r)) v++outCh (ghV θ a.gh) f.ps (vs.map (·.v θ)) (hSnd f.rs (outs f.ps) (toH _ r))))) :
  Good P w0 s o ⟨L,M,R,wq s.nxt f.rs (hFst f.rs (outs f.ps) (toH _ r))++lD a.gh f.ps vs (hSnd f.rs (outs f.ps) (toH _ r)),H9 s.nxt f.rs (hFst f.rs (outs f.ps) (toH _ r))⟩:=by
 have t: ∀g∈wq s.nxt f.rs (hFst f.rs (outs f.ps) (toH _ r))++lD a.gh f.ps vs (hSnd f.rs (outs f.ps) (toH _ r)),∀d c,SaysH g.2 d c->False:=fun g b=>by
  rcases aG b with b | b
  ·exact fun d c k=>wz (ri _ _ g b) k
  ·exact fh g b
 refine ⟨h,fun J θ l g b d c A=>(t g b d c A).elim,fun J θ l=>?_⟩;rw[aW];refine OpT.post (h1 J θ l) fun v w C p u=>?_;have j:St J w0 w (resGv f.rs (hFst f.rs (outs f.ps) (toH _ r)) v++(L.map (toCh P θ)++(outCh (ghV θ a.gh) f.ps (vs.map (·.v θ)) (hSnd f.rs (outs f.ps) (toH _ r))++C))):=by
  refine u.perm ?_;rw[aC,aC];exact List.perm_append_comm_assoc _ _ _
 have ⟨G,z,I,B⟩:=JL (P:=P) (m:=s.nxt) (θ:=upd θ s.nxt v) (n:=s.nxt+1) (chs:=Res.chs ⟨L,M,R,wq s.nxt f.rs (hFst f.rs (outs f.ps) (toH _ r))++lD a.gh f.ps vs (hSnd f.rs (outs f.ps) (toH _ r)),H9 s.nxt f.rs (hFst f.rs (outs f.ps) (toH _ r))⟩ s.nxt) (ax _) (ig (vs:=θ) (i:=s.nxt) (v:=v)) f.rs (hFst f.rs (outs f.ps) (toH _ r)) _ p j;have F:=B.perm (Rs _ _ _ _);have ⟨H,y⟩:=lE (P:=P) (θ:=θ) (θ':=upd θ s.nxt v) (m:=s.nxt) l Same.upd (aL _) (hSnd f.rs (outs f.ps) (toH _ r)) D (hvs J θ l) (fun e E=>E) (fun q x=>⟨x,Dc q x⟩) F;refine ⟨⟨G,z,fun g b=>?_⟩,?_⟩
 ·rcases aG b with b | b
  ·exact sF (ri _ _ g b) (by grind) (ax _)
  ·exact JO (y g b).1 (Nat.le_succ _) (aZ (y g b).2) (ax _)
 ·rw[aW];exact H.perm (NN _ _ _ _)
theorem Lx (x:ej ft s s.chs f.ps vs=some a) (b:s.chs.Perm (L++M++R)) (t:NL f.rs (hFst f.rs (outs f.ps) (toH _ r))=true)
  (h1: ∀J θ,Fine P w0 J θ s->OpT P J w0 o (evL (envL θ s)) (L.map (toCh P θ)++M.map (toCh P θ)) (fun v=>resFa f.rs v/\yO f.rs (hFst f.rs (outs f.ps) (toH _ r)) v) (fun v=>L.map (toCh P θ)++(resGv f.rs (hFst f.rs (outs f.ps) (toH _ r)) v++outCh (ghV θ a.gh) f.ps (vs.map (·.v θ)) (hSnd f.rs (outs f.ps) (toH _ r))))) :
  Good P w0 s o ⟨L,M,R,lD a.gh f.ps vs (hSnd f.rs (outs f.ps) (toH _ r)),.one (.val (.slice none 0 0))⟩:=by
 refine ⟨b,fun J θ h g d j c u=>(fh g d j c u).elim,fun J θ h=>?_⟩;rw[aW];refine OpT.post (h1 J θ h) fun v w C i l=>?_;have z:St J w0 w (outCh (ghV θ a.gh) f.ps (vs.map (·.v θ)) (hSnd f.rs (outs f.ps) (toH _ r))++(L.map (toCh P θ)++C)):=by
  refine St.left (ds:=resGv f.rs (hFst f.rs (outs f.ps) (toH _ r)) v) (l.perm ?_);exact NO _ _ _ _
 have ⟨A,p⟩:=lE (P:=P) (θ:=θ) (θ':=upd θ s.nxt v) (m:=s.nxt) h Same.upd (aL _) (hSnd f.rs (outs f.ps) (toH _ r)) x (hvs J θ h) (fun e y=>y) (fun q n=>⟨n,Dc q n⟩) z;refine ⟨⟨Eq.refl true,(NP t i.2).symm,fun g d=>JO (p g d).1 (Nat.le_succ _) (aZ (p g d).2) (ax _)⟩,?_⟩;refine A.perm ?_;grind[aC,List.perm_append_comm_assoc]
end
theorem wA {b:Operand} {g:FuncId} {xs:List Operand} {vs:List AV} (h:JR P w0 s b g xs vs): ∀J θ,Fine P w0 J θ s-> ∀x∈vs,x.ok P w0 J θ s.nxt s.chs:=fun J θ a=>by
 obtain ⟨cap,-,-,h⟩:=h J θ a;exact h
theorem NQ (i:FTok P ft) {g:FuncId} {xs:Array Operand} {n:Array TypeId} (p:o.op= .call { callee:=.value (.func g),args:=xs,argTypes:=n }) (h:Uc ft s k g xs.toList=some res):Oks P w0 s o k res:=by
 have ⟨f,d,h⟩:=bind_some h;have ⟨b,h⟩:=ai h;have ⟨q,e,h⟩:=bind_some h;have b:f.ov=false:=by simpa using b
 have c:=i.get d;have j:=JS (P:=P) (w0:=w0) (g:=g) e;have ⟨L,M,R,r,a,h,hp,l,m⟩:=AI (w0:=w0) i (c.en b) (fact:=fun _=>resFa f.rs) (c.con b) j p h;exact ⟨_,h,AJ (wA j) l hp m⟩
theorem NR (j:FTok P ft) {t n:Nat} {c:FuncId×Hdr} (i:JQ ft s t n=some c) {xs:Array Operand} {q:Array TypeId} (u:o.op= .call { callee:=.value (.tmp t),args:=xs,argTypes:=q }) (h:Ue ft s k c xs.toList=some res):Oks P w0 s o k res:=by
 have ⟨f,e,h⟩:=bind_some h;have ⟨b,h⟩:=ai h;have ⟨v,g,h⟩:=bind_some h;have b:f.ov=false:=by simpa using b
 have d:=j.get e;have l:=Ru (P:=P) (w0:=w0) i g;have ⟨L,M,R,r,a,h,hp,m,p⟩:=AI (w0:=w0) j (d.en b) (fact:=fun _=>resFa f.rs) (d.con b) l u h;exact ⟨_,h,AJ (wA l) m hp p⟩
theorem NS (l:FTok P ft) {g:FuncId} {xs:Array Operand} {p:Array TypeId} (j: ∀f,fs ft g=some f->NilOk P g f) (t:o.op= .call { callee:=.value (.func g),args:=xs,argTypes:=p }) (h:Ud ft s k g xs.toList=some res):Oks P w0 s o k res:=by
 have ⟨f,c,h⟩:=bind_some h;have ⟨b,h⟩:=ai h;have ⟨u,d,h⟩:=bind_some h;have b:f.ov=false:=by simpa using b
 have i:=l.get c;have e:=JS (P:=P) (w0:=w0) (g:=g) d;have ⟨L,M,R,r,a,h,hp,m,n⟩:=AI (w0:=w0) l (i.en b) (fact:=fun r v=>resFa f.rs v/\yO f.rs (hFst f.rs (outs f.ps) (toH _ r)) v) (j f c) e t h;split at h
 ·exact ⟨_,h,Lx (wA e) m hp ‹_› n⟩
 ·exact ⟨_,h,AJ (wA e) m hp fun J θ q=>OpT.weak (n J θ q) (fun v hv=>hv.1) fun v _=>rfl⟩
theorem JT {J J':Hp} {θ:Th} (e:Fine P w0 J θ s) (f:J.le J'): ∀ {c:List Ty} {xs:List Operand} {r:j4 c×List Hdr},V7 s c xs=some r->Lent J' θ s.chs r.2->Nb J' c (xs.map (evL (envL θ s))) r.1
 | [],[],r,h,_=>by rfl
 | t::c,x::xs,r,h,hl=>by
  have ⟨v,b,h⟩:=bind_some (show (opd s x).bind _=some r from h);have ⟨a,j,h⟩:=bind_some h;have ⟨q,l,h⟩:=bind_some h;cases ae h;have ⟨g,d,i⟩:=F8 j (AV.ok_same Same.rfl (aL _) Newer.rfl (bN e b) f) hl.l;rw[<-aF (θ:=θ) b] at d;exact ⟨_,g,_,rfl,d,i,JT e f l hl.r⟩
 | [],_::_,r,h,_=>by cases h
 | _::_,[],r,h,_=>by cases h
theorem NT (R:FTok P ft) {t:Nat} {xs:Array Operand} {ts:Array TypeId} (ho:o.op= .call { callee:=.value (.tmp t),args:=xs,argTypes:=ts }) (h:NM ft s k t xs.toList=some res):Oks P w0 s o k res:=by
 have ⟨y,a,h⟩:=bind_some h;have ⟨b,U,h⟩:=bind_some h;have ⟨q,V,h⟩:=bind_some h;have ⟨d,hd,h⟩:=bind_some h;have ⟨j,E,h⟩:=bind_some h;have ⟨D,h⟩:=ai h;have ⟨r,T,h⟩:=bind_some h;have a:look s.env t=some (.one y):=by
  unfold NM.oneOf0 at a;split at a
  ·grind
  ·cases a
 have ⟨p2,e2⟩:=xM E;refine ⟨_,h,by grind,fun J θ f g A Q c S=>(wz (ri _ _ g A) S).elim,fun J θ f=>?_⟩;have u:=bN (x:=.tmp t) f a;have K:OpT P J w0 o (evL (envL θ s)) (j.1.map (toCh P θ)++ []) (resFa b.2) (fun v=>j.1.map (toCh P θ)++resGv b.2 (toH _ r) v):=by
  refine wu (fun v=>Db _ _ D) fun I L B H=>?_;have M:=Er (s:=s) e2 (fun e he=>p2.mem_iff.2 (by grind)) B H;have ⟨kk,first,N,Z,W,h5⟩:=Ib R f.lay f.chs V u I L M.l;have l:=h5 I Hp.le.rfl _ d.1 (JT f L hd M.r) r T;have F:=(aF (x:=.tmp t) a).trans Z;exact pF W ho F (by simp) l
 rw[List.append_nil] at K;rw[List.append_nil];refine OpT.post K fun v w C z G=>?_;have p:St J w0 w (resGv b.2 (toH _ r) v++(j.1.map (toCh P θ)++C)):=by
  refine G.perm ?_;rw[aC];exact List.perm_append_comm_assoc _ _ _
 have ⟨q1,O,q3,X⟩:=JL (P:=P) (m:=s.nxt) (θ:=upd θ s.nxt v) (n:=s.nxt+1) (chs:=Res.chs ⟨j.1,[],j.2,wq s.nxt b.2 (toH _ r),H9 s.nxt b.2 (toH _ r)⟩ s.nxt) (ax _) (ig (vs:=θ) (i:=s.nxt) (v:=v)) b.2 (toH _ r) _ z p;refine ⟨⟨q1,O,fun g A=>sF (ri _ _ g A) (by grind) (ax _)⟩,?_⟩;refine X.perm ?_;grind[aC,List.perm_append_comm_assoc]
end
section
variable {Y:Type} (tt:TT) (s:Sg) (k:Res->Option Y)
def Rv:AV->Option (Bool×List LV)
 | .one x=>some (false,[x])
 | .agg xs=>some (true,xs)
 | _=>none
def Et (s:Sg):List Operand->Option (List (Bool×List LV))
 | [] =>some []
 | x::xs=>(opd s x).bind fun v=>(Rv v).bind fun y=>(Et s xs).bind fun ys=>some (y::ys)
def JU (s:Sg):List Operand->Option (List LV)
 | [] =>some []
 | x::xs=>match opd s x with
  | some (.one y)=>(JU s xs).bind fun ys=>some (y::ys)
  | _=>none
def Uf (fn:Fn) (first captured:Array Operand):Option Y:=match fn with
 | .func g=>(Et s first.toList).bind fun ys=>(JU s captured.toList).bind fun xs=>k ⟨[],[],s.chs,[(⟨s.nxt,[]⟩,.clo g ys xs)],.one (.own ⟨s.nxt,[]⟩)⟩
 | _=>none
def NU (T:TypeId) (x:Operand):Option Y:=(td tt T).bind fun d=>match opd s x with
 | some (.one (.fz h T' t a off))=>(xJ d.agg t off d.n).bind fun p=>bO (p.ty.isProd==d.agg) (k (.pure s (Ng s.nxt p.ty (p.get a))))
 | some (.one (.fzf h T' ps rs e))=>bO (Nat.beq d.n 1 && !d.agg) (k (.pure s (.one (.fn ⟨s.nxt,[]⟩ ps rs e))))
 | _=>none
def NV (T:TypeId) (x:Operand) (f:Nat):Option Y:=(td tt T).bind fun d=>(d.fields[f]?).bind fun q=>match opd s x with
 | some (.one (.fz h T' t a off))=>k (.pure s (.one (.fz h T' t a (off+q.1))))
 | _=>none
end
section
variable {Y:Type} {tt:TT} {s:Sg} {k:Res->Option Y} {P:Program} {w0:World} {o:Oper} {res:Y} {x:Operand}
theorem Dd {J:Hp} {θ:Th} (e:Fine P w0 J θ s): ∀ {l:List Operand} {ys:List (Bool×List LV)},Et s l=some ys->l.map (evL (envL θ s))=ys.map (lx θ)/\ ∀y∈ys,∀x∈y.2,x.ok P w0 J θ s.nxt
 | [],ys,h=>by cases ae (show some _=some ys from h);grind
 | x::l,ys,h=>by
  have ⟨v,a,h⟩:=bind_some (show (opd s x).bind _=some ys from h);have ⟨y,c,h⟩:=bind_some h;have ⟨i,d,h⟩:=bind_some h;have ⟨j,m⟩:=Dd e d;have b:=bN e a;have f:=aF (θ:=θ) a;have key:v.v θ=lx θ y/\ ∀x∈y.2,x.ok P w0 J θ s.nxt:=by
   cases v with
   | one z=>cases ae (show some _=some y from c);exact ⟨rfl,fun x g=>by cases ak g;exact b⟩
   | agg i=>cases ae (show some _=some y from c);exact ⟨rfl,b⟩
   | _=>cases c
  refine ⟨by grind,fun z d=>?_⟩;grind
theorem Gi {J:Hp} {θ:Th} (d:Fine P w0 J θ s): ∀ {l:List Operand} {ys:List LV},JU s l=some ys->l.map (evL (envL θ s))=ys.map (·.v θ)/\ ∀x∈ys,x.ok P w0 J θ s.nxt
 | [],ys,h=>by cases ae (show some _=some ys from h);grind
 | x::l,ys,h=>by
  unfold JU at h;split at h
  ·rename_i y c;have ⟨g,a,h⟩:=bind_some h;cases ae h;have ⟨e,f⟩:=Gi d a;have b:=bN d c;refine ⟨by rw[List.map_cons,List.map_cons,e,aF (θ:=θ) c];rfl,fun z a=>?_⟩;rcases aA a with rfl | a
   ·exact b
   grind
  grind
theorem NW {fn:Fn} {first captured:Array Operand} (r:o.op= .makeFunc fn first captured) (h:Uf s k fn first captured=some res):Oks P w0 s o k res:=by
 cases fn with
 | func g =>
  have ⟨t,f,h⟩:=bind_some (show (Et s first.toList).bind _=some res from h);have ⟨u,d,h⟩:=bind_some h;refine ⟨_,h,List.Perm.refl _,aU rfl,fun J θ l=>?_⟩;have ⟨q,m⟩:=Dd l f;have ⟨n,j⟩:=Gi l d;refine OpT.post (DZ r rfl) fun v w C a c=>?_;rw[q,n] at a;have b:hv (upd θ s.nxt v) ⟨s.nxt,[]⟩=v:=ig;refine ⟨⟨⟨ax _,by rw[b,a];rfl⟩,b,fun g p=>?_⟩,?_⟩
  ·cases ak p;refine ⟨ax _,ax _,fun y e x i=>LV.ok_same Same.upd (Nat.le_succ _) (m y e x i) Hp.le.rfl,fun x i=>LV.ok_same Same.upd (Nat.le_succ _) (j x i) Hp.le.rfl,?_⟩;rw[b,iH Same.upd j,List.map_congr_left fun y e=>xI Same.upd (m y e)];omega
  ·exact St.emp.2 c
 | _=>cases h
theorem Gj (H:TTok P tt) {T:TypeId} (D:o.op= .load T x) (h:NU tt s k T x=some res):Oks P w0 s o k res:=by
 have ⟨d,K,h⟩:=bind_some h;have f:=H.get K;split at h
 ·rename_i r F t a off l;have ⟨p,hp,h⟩:=bind_some h;have ⟨i,h⟩:=ai h;have i:p.ty.isProd=d.agg:=by simpa using i
  have hp:=zS _ _ _ _ hp;refine ⟨_,h,List.Perm.refl _,aU rfl,fun J θ z=>?_⟩;have ⟨G,cells,y,B⟩:=bN z l;have ⟨c,L,C⟩:=hp.fld J cells a B;have E:=(p.ty.rep.rd_len C).trans (p.ty.rep_size.trans hp.size);have w:(cells.drop off).take d.n=c:=by rw[<-hp.size,<-p.ty.rep_size];exact L
  refine OpT.weak (yL y f.ti D (aF (θ:=θ) l) f.one w E rfl) (fun v b=>?_) (fun v b=>rfl);have j:Lds p.ty.isProd c v:=by
   rw[i];cases m:d.agg with
   | true=>rw[m] at b;exact b
   | false =>
    rw[m] at b;have q:d.n=1:=by
     have:=f.one
     rw[m] at this;simpa using this
    obtain ⟨u,rfl⟩:=List.length_eq_one_iff.1 (E.trans q);rw[show v=u from b];rfl
  have:=qu (P:=P) (w0:=w0) (J:=J) (θ:=upd θ s.nxt v) (id:=s.nxt) (n:=s.nxt+1) (chs:=(Res.pure s (Ng s.nxt p.ty (p.get a))).chs s.nxt) (ax _) ig p.ty (p.get a) c C j
  exact ⟨this.1,this.2,fun g i=>by cases i⟩
 ·rename_i r F N M e l;have ⟨A,h⟩:=ai h;rw[aj] at A;have I:=al A.1;refine ⟨_,h,List.Perm.refl _,aU rfl,fun J θ z=>?_⟩;have ⟨G,u,y,B⟩:=bN z l;refine OpT.weak (yL (d:=[u]) (u:=u) y f.ti D (aF (θ:=θ) l) f.one (by grind) (by grind) (by grind)) (fun v b=>?_) (fun v b=>rfl);have r:hv (upd θ s.nxt v) ⟨s.nxt,[]⟩=v:=ig;exact ⟨⟨ax _,by grind⟩,r,fun g i=>by cases i⟩
 grind
theorem Ly (i:TTok P tt) {T:TypeId} {f:Nat} (e:o.op= .fieldAddr T x f) (h:NV tt s k T x f=some res):Oks P w0 s o k res:=by
 have ⟨d,l,h⟩:=bind_some h;have ⟨q,g,h⟩:=bind_some h;have j:=(i.get l).fld f q g;split at h
 ·rename_i m n t a off c;exact ⟨_,h,fC (fun J θ b=>mR j e (aF (θ:=θ) c)) fun J θ b=>(by have:=bN b c;exact this)⟩
 grind
end
end R
end Go.Proofs.YtncnbjfngmhfaaaGreatDoor
