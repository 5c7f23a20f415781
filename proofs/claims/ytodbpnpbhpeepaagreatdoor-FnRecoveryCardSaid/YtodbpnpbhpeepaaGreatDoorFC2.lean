/- FnRecovery: for every input the law returns true and changes nothing that was there. Part 3 of 9. -/
import Derived.Test.YtodbpnpbhpeepaaGreatDoorFC1
set_option synthInstance.maxSize 20000
set_option synthInstance.maxHeartbeats 2000000
set_option linter.unusedVariables false
set_option linter.unusedSimpArgs false
set_option linter.unnecessarySimpa false
set_option linter.unusedSectionVars false
set_option maxRecDepth 1000000
namespace Go.Proofs.YtodbpnpbhpeepaaGreatDoor
open Go.IntKind (i64)
namespace R
open Go.RowKit
open D
def one (v:Value):AV:=.one (.val v)
def asB:AV->Option (Bool×Bool)
 | .one (.val (.bool b))=>some (b,true)
 | .one (.nb b)=>some (b,false)
 | _=>none
def onB {Y:Type} (v:AV) (x y:Option Y):Option Y:=match v with
 | .one (.val (.bool b))=>if b then x else y
 | .one (.nb b)=>if b then y else x
 | _=>none
theorem UQ {Y:Type} {v:AV} {x y:Option Y} {r:Y} (h:onB v x y=some r): ∃b:Bool,(∀θ,v.v θ= .bool b)/\(if b then x else y)=some r:=by
 unfold onB at h;split at h
 ·exact ⟨_,fun θ=>rfl,h⟩
 ·rename_i b;refine ⟨!b,fun θ=>rfl,?_⟩;grind
 grind
def b8 {Y:Type} (b:Bool) (x:Option Y):Option Y:=match b with
 | true=>x
 | false=>none
theorem ai {Y:Type} {b:Bool} {x:Option Y} {r:Y} (h:b8 b x=some r):b=true/\x=some r:=by
 cases b
 ·cases h
 ·exact ⟨rfl,h⟩
def isLit:Value->Bool
 | .int _ (.ofNat _)=>true
 | .int _ (.negSucc _)=>true
 | _=>false
def arith (b:BinOp) (k:IntKind) (m n:Int):Option Value:=match k,b with
 | .i64,.add=>some (.int .i64 (i64.wrap (m+n)))
 | .i64,.sub=>some (.int .i64 (i64.wrap (m - n)))
 | .i64,.mul=>some (.int .i64 (i64.wrap (m*n)))
 | .i64,.and=>some (.int .i64 (rU m n))
 | .i64,.or=>some (.int .i64 (orI m n))
 | .i64,.xor=>some (.int .i64 (Y1 m n))
 | .u64,.add=>some (.int .u64 (IntKind.u64.wrap (m+n)))
 | .u64,.sub=>some (.int .u64 (IntKind.u64.wrap (m - n)))
 | .u64,.mul=>some (.int .u64 (IntKind.u64.wrap (m*n)))
 | .u64,.and=>some (.int .u64 (RC m n))
 | .u8,.sub=>some (.int .u8 (IntKind.u8.wrap (m - n)))
 | _,.eql=>some (.bool (m==n))
 | _,.neq=>some (.bool (m !=n))
 | _,.lss=>some (.bool (decide (m<n)))
 | _,.leq=>some (.bool (decide (m<=n)))
 | _,.gtr=>some (.bool (decide (m>n)))
 | _,.geq=>some (.bool (decide (m≥n)))
 | _,_=>none
def G5 (b:BinOp) (k:IntKind) (m n:Int):Option (Value×((p:Prop)×Decidable p)):=match k,b with
 | .i64,.quo=>some (.int .i64 (GH m n),⟨n≠0,inferInstance⟩)
 | .i64,.rem=>some (.int .i64 (Int.tmod m n),⟨n≠0,inferInstance⟩)
 | .i64,.shl=>some (.int .i64 (Dc m n),⟨0<=n,inferInstance⟩)
 | .i64,.shr=>some (.int .i64 (qc m n),⟨0<=n,inferInstance⟩)
 | .u64,.shr=>some (.int .u64 (qc m n),⟨0<=n,inferInstance⟩)
 | _,_=>none
def ac6 (k:IntKind) (m n:Int):Int:=k.wrap (m*2 ^ (min n.toNat k.bits))
def ac7 (k:IntKind) (m n:Int):Int:=m.fdiv (2 ^ (min n.toNat k.bits))
def G6 (b:BinOp) (k:IntKind) (m n:Int):Option Value:=match b,k with
 | .shl,.i64=>some (.int .i64 (Dc m n))
 | .shr,.i64=>some (.int .i64 (qc m n))
 | .shr,.u64=>some (.int .u64 (qc m n))
 | .shl,k=>some (.int k (ac6 k m n))
 | .shr,k=>some (.int k (ac7 k m n))
 | _,_=>none
def abn {Y:Type} (c:Bool) (p:Prop) (d:Decidable p) (x:Option Y):Option Y:=match c with
 | true=> @ite _ p d x none
 | false=>(@chk p d).bind fun _=>x
theorem IU {Y:Type} {c:Bool} {p:Prop} {d:Decidable p} {x:Option Y} {r:Y} (h:abn c p d x=some r):p/\x=some r:=by
 cases c with
 | true =>
  have h: @ite _ p d x none=some r:=h;grind
 | false =>
  have ⟨u,e,h⟩:=bind_some (show (@chk p d).bind _=some r from h);grind[bO]
def isConst:Operand->Bool
 | .const _=>true
 | _=>false
def eqB (b:BinOp) (m n:Bool):Option Value:=match b with
 | .eql=>some (.bool (m==n))
 | .neq=>some (.bool (m !=n))
 | _=>none
def eqS (b:BinOp) (m n:ByteArray):Option Value:=match b with
 | .eql=>some (.bool (m==n))
 | .neq=>some (.bool (m !=n))
 | _=>none
section
variable {P:Program} {I:Hp} {w0:World} {o:Oper} {ev:Operand->Value} {x y:Operand} {t u:TypeId}
theorem R4 {b:BinOp} {k:IntKind} {m n:Int} {r:Value} (h:arith b k m n=some r) (a:o.op= .binOp b t x y u) (c:ev x= .int k m) (d:ev y= .int k n):OpT P I w0 o ev [] (· =r) (fun _=>[]):=by
 unfold arith at h;split at h <;> first | cases h | (cases ae h)
 ·exact V3 a c d
 ·exact V4 a c d
 ·exact V5 a c d
 ·exact Wa a c d
 ·exact Zh a c d
 ·exact Wb a c d
 ·exact Ww a c d
 ·exact Wx a c d
 ·exact Wy a c d
 ·exact Wz a c d
 ·exact bt fun w=>by simp[execOp,a,c,d];rfl
 ·exact wA a c d rfl rfl
 ·exact wA a c d rfl rfl
 ·exact wA a c d rfl rfl
 ·exact wA a c d rfl rfl
 ·exact wA a c d rfl rfl
 ·exact wA a c d rfl rfl
theorem N4 {b:BinOp} {k:IntKind} {m n:Int} {r:Value×((p:Prop)×Decidable p)} (h:G5 b k m n=some r) (hp:r.2.1) (a:o.op= .binOp b t x y u) (c:ev x= .int k m) (d:ev y= .int k n):OpT P I w0 o ev [] (· =r.1) (fun _=>[]):=by
 unfold G5 at h;split at h <;> first | cases h | (cases ae h)
 ·grind[V6]
 ·grind[V7]
 ·grind[V8]
 ·grind[V9]
 grind[WA]
theorem N5 {b:BinOp} {k j:IntKind} {m n:Int} {r:Value} (h:G6 b k m n=some r) (hp:0<=n) (a:o.op= .binOp b t x y u) (d:ev x= .int k m) (e:ev y= .int j n):OpT P I w0 o ev [] (· =r) (fun _=>[]):=by
 have c: ¬n<0:=by omega
 unfold G6 at h;split at h <;> first | (cases ae h) | grind
 all_goals exact bt fun w=>by simp[execOp,a,d,e,eqGuard,binOp,Op.shift,c,Result.andThen,Dc,qc,ac6,ac7,IntKind.bits]
theorem Mj {b:BinOp} {k:IntKind} {m n:Int} {r:Value} (h:G6 b k m n=some r):r.oneCell'=true:=by
 unfold G6 at h;split at h <;> first | (cases ae h;rfl) | grind
theorem N6 {b:BinOp} {k:IntKind} {m n:Int} {r:Value} (h:arith b k m n=some r):r.oneCell'=true:=by
 unfold arith at h;split at h <;> cases h <;> rfl
theorem Mk {b:BinOp} {k:IntKind} {m n:Int} {r:Value×((p:Prop)×Decidable p)} (h:G5 b k m n=some r):r.1.oneCell'=true:=by
 unfold G5 at h;split at h <;> cases h <;> rfl
theorem EZ {b:BinOp} {m n:Bool} {r:Value} (h:eqB b m n=some r):r.oneCell'=true:=by
 unfold eqB at h;split at h <;> cases h <;> rfl
theorem WK {b:BinOp} {m n:ByteArray} {r:Value} (h:eqS b m n=some r):r.oneCell'=true:=by
 unfold eqS at h;split at h <;> cases h <;> rfl
theorem Kv {b:BinOp} {m n:Bool} {r:Value} (h:eqB b m n=some r) (a:P.underlying t=some .bool) (c:o.op= .binOp b t x y u) (d:ev x= .bool m) (e:ev y= .bool n):OpT P I w0 o ev [] (· =r) (fun _=>[]):=by
 unfold eqB at h;grind[ae,Wc,Wd]
theorem Zu {b:BinOp} {m n:ByteArray} {r:Value} (h:eqS b m n=some r) (a:o.op= .binOp b t x y u) (c:ev x= .string m) (d:ev y= .string n):OpT P I w0 o ev [] (· =r) (fun _=>[]):=by
 unfold eqS at h;grind[ae,Wn,Wo]
end
section
variable {Y:Type} (tt:TT) (s:Sg) (k:Res->Option Y)
def kv (v:Value):Option Y:=k (.pure s (.one (.val v)))
def WL (x:Operand):Option Y:=(opd s x).bind fun v=>k (.pure s v)
def Zv (c x y:Operand):Option Y:=(opd s c).bind fun c=>onB c ((opd s x).bind fun v=>k (.pure s v)) ((opd s y).bind fun v=>k (.pure s v))
def abZ (x:Operand):Option Y:=match opd s x with
 | some (.one (.val (.bool b)))=>k (.pure s (.one (.nb b)))
 | some (.one (.nb b))=>kv s k (.bool b)
 | _=>none
def ab0 (x:Operand):Option Y:=match opd s x with
 | some (.one (.val (.int .i64 n)))=>kv s k (.int .i64 (i64.wrap (-n)))
 | _=>none
def abo (b:BinOp) (t:TypeId) (x y:Operand):Option Y:=match opd s x,opd s y with
 | some (.one (.val (.int j m))),some (.one (.val (.int j' n)))=>if j=j' then match arith b j m n with
   | some r=>kv s k r
   | none=>(G5 b j m n).bind fun r=>abn (isConst y) r.2.1 r.2.2 (kv s k r.1)
  else (G6 b j m n).bind fun r=>abn (isConst y) (0<=n) inferInstance (kv s k r)
 | some (.one (.val (.bool m))),some (.one (.val (.bool n)))=>(td tt t).bind fun d=>b8 d.boo ((eqB b m n).bind fun r=>kv s k r)
 | some (.one (.nb m)),some (.one (.val (.bool n)))=>(td tt t).bind fun d=>b8 d.boo ((eqB b (!m) n).bind fun r=>kv s k r)
 | some (.one (.val (.bool m))),some (.one (.nb n))=>(td tt t).bind fun d=>b8 d.boo ((eqB b m (!n)).bind fun r=>kv s k r)
 | some (.one (.nb m)),some (.one (.nb n))=>(td tt t).bind fun d=>b8 d.boo ((eqB b (!m) (!n)).bind fun r=>kv s k r)
 | some (.one (.val (.string m))),some (.one (.val (.string n)))=>(eqS b m n).bind fun r=>kv s k r
 | some (.agg xs),some (.agg ys)=>(td tt t).bind fun d=>d.eq.bind fun ks=>(abY ks xs ys).bind fun r=>match b with
  | .eql=>kv s k (.bool r)
  | .neq=>k (.pure s (.one (.nb r)))
  | _=>none
 | _,_=>none
def Zw (S D:TypeId) (x:Operand):Option Y:=(td tt S).bind fun a=>(td tt D).bind fun b=>a.ik.bind fun k1=>b.ik.bind fun k2=>match opd s x,k1,k2 with
 | some (.one (.val (.int j m))),some k1,some k2=>if j=k1 then kv s k (.int k2 (k2.wrap m)) else none
 | _,_,_=>none
def E3 (x:Operand) (i:Nat):Option Y:=match opd s x with
 | some (.tup ys)=>(ys[i]?).bind fun y=>if y.1 then k (.pure s (.agg y.2)) else match y.2 with
  | [x] =>k (.pure s (.one x))
  | _=>none
 | _=>none
def sLen (T:TypeId) (x:Operand):Option Y:=(td tt T).bind fun d=>match d.el,opd s x with
 | some _,some (.one (.rd _ (.sl _ _) xs))=>kv s k (.int .i64 (xs.length:Int))
 | some _,some (.one (.val (.slice none 0 0)))=>kv s k (.int .i64 ((0:Nat):Int))
 | none,some (.one (.val (.string b)))=>d.ik.bind fun k1=>match k1 with
  | none=>kv s k (.int .i64 (b.size:Int))
  | _=>none
 | _,_=>none
def N7 (T:TypeId) (x i:Operand):Option Y:=(td tt T).bind fun d=>match d.el,opd s x,opd s i with
 | some E,some (.one (.rd h (.sl E' t) xs)),some (.one (.val (.int .i64 i)))=>(td tt E).bind fun e=>b8 (Nat.beq e.n t.size) ((aS xs i).bind fun a=>k (.pure s (.elr h E' t xs a i 0)))
 | _,_,_=>none
def UR (T:TypeId) (x:Operand) (f:Nat):Option Y:=(td tt T).bind fun d=>(d.fields[f]?).bind fun q=>match opd s x with
 | some (.elr h E t xs a i off)=>k (.pure s (.elr h E t xs a i (off+q.1)))
 | some (.elo h ver E t xs a i off)=>k (.pure s (.elo h ver E t xs a i (off+q.1)))
 | some (.one (.ptr h off))=>k (.pure s (.one (.ptr h (off+q.1))))
 | _=>none
def US (T:TypeId) (x:Operand):Option Y:=(td tt T).bind fun d=>match opd s x with
 | some (.elr h E t xs a i off)=>(y6 d.agg t off d.n).bind fun p=>b8 (p.ty.isProd==d.agg) (k (.pure s (N3 s.nxt p.ty (p.get a))))
 | _=>none
end
section
variable {Y:Type} {tt:TT} {s:Sg} {k:Res->Option Y} {P:Program} {w0:World} {o:Oper} {res:Y} {x y:Operand}
def Oks (P:Program) (w0:World) (s:Sg) (o:Oper) (k:Res->Option Y) (res:Y):Prop:= ∃r,k r=some res/\Good P w0 s o r
theorem l9 {v:Value} (h:kv s k v=some res) (h1:v.oneCell'=true) (a: ∀J θ,Fine P w0 J θ s->OpT P J w0 o (evL (envL θ s)) [] (· =v) (fun _=>[])):Oks P w0 s o k res:=
 ⟨_,h,fI a fun _ _ _=>h1⟩
theorem Kw (a:o.op= .move x\/o.op= .assign x) (h:WL s k x=some res):Oks P w0 s o k res:=by
 have ⟨v,hv,h⟩:=bind_some h;refine ⟨_,h,fI (fun J θ b=>?_) fun J θ b=>b7 b hv⟩;rcases a with a | a
 ·exact RL a (aI hv)
 ·exact Md a (aI hv)
theorem R5 {c:Operand} (f:o.op= .pick c x y) (h:Zv s k c x y=some res):Oks P w0 s o k res:=by
 have ⟨v,hv,h⟩:=bind_some h;have ⟨b,e,h⟩:=UQ h;cases b with
 | true =>
  have ⟨u,a,h⟩:=bind_some (show (opd s x).bind _=some res from h);exact ⟨_,h,fI (fun J θ d=>Kk f ((aI hv).trans (e θ)) (aI a)) fun J θ d=>b7 d a⟩
 | false =>
  have ⟨u,a,h⟩:=bind_some (show (opd s y).bind _=some res from h);exact ⟨_,h,fI (fun J θ d=>Kk f ((aI hv).trans (e θ)) (aI a)) fun J θ d=>b7 d a⟩
theorem WM {t:TypeId} (c:o.op= .unOp .not t x) (h:abZ s k x=some res):Oks P w0 s o k res:=by
 unfold abZ at h;split at h
 ·rename_i b a;exact ⟨_,h,fI (fun J θ d=>NG c (aI a)) fun _ _ _=>trivial⟩
 ·rename_i b a;exact l9 h rfl fun J θ d=>by
   have:=NG (P:=P) (I:=J) (w0:=w0) (b:= !b) c (aI (θ:=θ) a)
   grind
 grind
theorem WN {t:TypeId} (a:o.op= .unOp .neg t x) (h:ab0 s k x=some res):Oks P w0 s o k res:=by
 unfold ab0 at h;split at h
 ·rename_i b c;exact l9 h rfl fun J θ d=>V2 a (aI c)
 grind
theorem N8 (p:TTok P tt) {b:BinOp} {t u:TypeId} (f:o.op= .binOp b t x y u) (h:abo tt s k b t x y=some res):Oks P w0 s o k res:=by
 unfold abo at h;split at h
 ·rename_i j m C n e c;split at h
  ·rename_i z;subst z;split at h
   ·rename_i r a;exact l9 h (N6 a) fun J θ g=>R4 a f (aI e) (aI c)
   ·have ⟨r,a,h⟩:=bind_some h;have ⟨hp,h⟩:=IU h;exact l9 h (Mk a) fun J θ g=>N4 a hp f (aI e) (aI c)
  ·have ⟨r,a,h⟩:=bind_some h;have ⟨hp,h⟩:=IU h;exact l9 h (Mj a) fun J θ g=>N5 a hp f (aI e) (aI c)
 ·rename_i m n e c;have ⟨d,i,h⟩:=bind_some h;have ⟨l,h⟩:=ai h;have ⟨r,a,h⟩:=bind_some h;exact l9 h (EZ a) fun J θ g=>Kv a ((p.get i).boo l) f (aI e) (aI c)
 ·rename_i m n e c;have ⟨d,i,h⟩:=bind_some h;have ⟨l,h⟩:=ai h;have ⟨r,a,h⟩:=bind_some h;exact l9 h (EZ a) fun J θ g=>Kv a ((p.get i).boo l) f (aI e) (aI c)
 ·rename_i m n e c;have ⟨d,i,h⟩:=bind_some h;have ⟨l,h⟩:=ai h;have ⟨r,a,h⟩:=bind_some h;exact l9 h (EZ a) fun J θ g=>Kv a ((p.get i).boo l) f (aI e) (aI c)
 ·rename_i m n e c;have ⟨d,i,h⟩:=bind_some h;have ⟨l,h⟩:=ai h;have ⟨r,a,h⟩:=bind_some h;exact l9 h (EZ a) fun J θ g=>Kv a ((p.get i).boo l) f (aI e) (aI c)
 ·rename_i m n e c;have ⟨r,a,h⟩:=bind_some h;exact l9 h (WK a) fun J θ g=>Zu a f (aI e) (aI c)
 ·rename_i v A e c;have ⟨d,i,h⟩:=bind_some h;have ⟨D,B,h⟩:=bind_some h;have ⟨r,a,h⟩:=bind_some h;have q: ∀(θ:Th) w,EqT P t (AV.v θ (.agg v)) (AV.v θ (.agg A)) r w:=fun θ w=>WJ ((p.get i).eq _ B w) a;split at h
  ·exact l9 h rfl fun J θ g=>Wp (q θ) f (aI e) (aI c) rfl
  ·exact ⟨_,h,fI (fun J θ g=>Wq (q θ) f (aI e) (aI c) rfl) fun _ _ _=>trivial⟩
  grind
 grind
theorem R6 (d:TTok P tt) {S D:TypeId} (i:o.op= .convert S D x) (h:Zw tt s k S D x=some res):Oks P w0 s o k res:=by
 have ⟨a,r,t⟩:=bind_some h;have ⟨b,q,u⟩:=bind_some t;have ⟨l,p,f⟩:=bind_some u;have ⟨g,n,c⟩:=bind_some f;split at c
 ·rename_i j m l g v;split at c
  ·rename_i e;subst e;exact l9 c rfl fun J θ w=>GU ((d.get r).ik _ p) ((d.get q).ik _ n) i (aI v)
  grind
 grind
theorem IV {i:Nat} (d:o.op= .extract x i) (h:E3 s k x i=some res):Oks P w0 s o k res:=by
 unfold E3 at h;split at h
 ·rename_i j b;have ⟨y,l,h⟩:=bind_some h;have e: ∀θ,((j.map (l7 θ)).toArray)[i]? =some (l7 θ y):=fun θ=>by grind
  have f:=List.mem_of_getElem? l;split at h
  ·rename_i c;exact ⟨_,h,fI (fun J θ a=>Bi d (aI b) ((e θ).trans (by unfold l7;rw[if_pos c];rfl))) fun J θ a=>(b7 a b) y f⟩
  ·rename_i c;split at h
   ·rename_i z g;exact ⟨_,h,fI (fun J θ a=>Bi d (aI b) ((e θ).trans (by unfold l7;rw[if_neg c,g];rfl))) fun J θ a=>(b7 a b) y f z (by grind)⟩
   grind
 grind
theorem WO (f:TTok P tt) {T:TypeId} (i:o.op= .call { callee:=.builtin .len,args:= #[x],argTypes:= #[T] }) (h:sLen tt s k T x=some res):Oks P w0 s o k res:=by
 have ⟨d,j,h⟩:=bind_some h;split at h
 ·rename_i E p q t n c a;exact l9 h rfl fun J θ e=>DL (Hd.of_rd (b7 e a).2) ((f.get j).el _ c) i (aI a)
 ·rename_i E c a;exact l9 h rfl fun J θ e=>xq ((f.get j).el _ c) i (aI a)
 ·rename_i b c a;have ⟨l,m,g⟩:=bind_some h;cases l with
  | none=>exact l9 g rfl fun J θ e=>IJ ((f.get j).ik _ m) i (aI a)
  | some l=>cases g
 grind
theorem Ml (g:TTok P tt) {T:TypeId} {i:Operand} (n:o.op= .indexAddr T x i) (h:N7 tt s k T x i=some res):Oks P w0 s o k res:=by
 have ⟨d,q,h⟩:=bind_some h;split at h
 ·rename_i E v w t u j p c m;have ⟨e,r,h⟩:=bind_some h;have ⟨f,h⟩:=ai h;have ⟨a,l,h⟩:=bind_some h;have f:=au f;refine ⟨_,h,fI (fun J θ b=>?_) fun J θ b=>⟨(b7 b c).1,l,(b7 b c).2⟩⟩
  have:=tF (I:=J) (w0:=w0) (Hd.of_rd (b7 b c).2) ((g.get q).el _ p) (g.get r).ti n (aI c) (aI m) (EN l)
  rw[f] at this;exact this
 grind
theorem N9 (l:TTok P tt) {T:TypeId} {f:Nat} (g:o.op= .fieldAddr T x f) (h:UR tt s k T x f=some res):Oks P w0 s o k res:=by
 have ⟨d,r,h⟩:=bind_some h;have ⟨q,p,h⟩:=bind_some h;have e:=(l.get r).fld f q p;split at h
 ·rename_i j E t m a i off b;refine ⟨_,h,fI (fun J θ c=>?_) fun J θ c=>(by have:=b7 c b;exact this)⟩
  have:=zV (I:=J) (w0:=w0) e g (aI (θ:=θ) b)
  rw[Nat.add_assoc] at this;exact this
 ·rename_i j n E t m a i off b;refine ⟨_,h,fI (fun J θ c=>?_) fun J θ c=>(by have:=b7 c b;exact this)⟩
  have:=zV (I:=J) (w0:=w0) e g (aI (θ:=θ) b)
  rw[Nat.add_assoc] at this;exact this
 ·rename_i j off b;exact ⟨_,h,fI (fun J θ c=>nA e g (aI (θ:=θ) b)) fun J θ c=>(by have:=b7 c b;exact this)⟩
 grind
theorem Oa (r:TTok P tt) {T:TypeId} (u:o.op= .load T x) (h:US tt s k T x=some res):Oks P w0 s o k res:=by
 have ⟨d,z,h⟩:=bind_some h;split at h
 ·rename_i B E t A a i off m;have ⟨p,hp,h⟩:=bind_some h;have ⟨j,h⟩:=ai h;have hp:=AW _ _ _ _ hp;have f:=r.get z;refine ⟨_,h,List.Perm.refl _,aW rfl,fun J θ q=>?_⟩;have b:=b7 q m
  have:=IK (P:=P) (w0:=w0) (o:=o) (T:=T) b.2.2 b.2.1 hp.fld f.ti (p.ty.rep_size.trans hp.size) f.one u (aI (θ:=θ) m) t.rep_size
  refine OpT.weak this (fun v hv=>?_) (fun v hv=>rfl);have ⟨c,w,l⟩:=hv;rw[<-show (p.ty.isProd==d.agg)=true->p.ty.isProd=d.agg from fun e=>by grind,] at l
  all_goals first | exact j | skip
  have:=rf (P:=P) (w0:=w0) (J:=J) (θ:=upd θ s.nxt v) (id:=s.nxt) (n:=s.nxt+1) (chs:=(Res.pure s (N3 s.nxt p.ty (p.get a))).chs s.nxt) (aA _) iG p.ty (p.get a) c w l
  exact ⟨this.1,this.2,fun g j=>by cases j⟩
 grind
end
def pull (h:Hdr):List Ent->Option (Ent×List Ent)
 | [] =>none
 | e::l=>if Hdr.beq e.1 h then some (e,l) else (pull h l).bind fun r=>some (r.1,e::r.2)
theorem gB {h:Hdr} : ∀ {l:List Ent} {r:Ent×List Ent},pull h l=some r->l.Perm (r.1::r.2)/\r.1.1=h
 | [],r,e=>by cases e
 | x::l,r,e=>by
  unfold pull at e;split at e
  ·rename_i a;obtain rfl:=ae e;exact ⟨List.Perm.refl _,Hdr.beq_eq a⟩
  ·obtain ⟨q,b,e⟩:=bind_some e;obtain rfl:=ae e;obtain ⟨p,k⟩:=gB b;exact ⟨(p.cons x).trans (List.Perm.swap _ _ _),k⟩
def Df (h:Hdr) (l:List Ent):Bool:=l.all fun e=> !(Hdr.beq e.1 h)
theorem Bo: ∀l:List Nat,Y2 l l=true
 | [] =>rfl
 | a::l=>by show (Nat.beq a a&&Y2 l l)=true;rw[Nat.beq_refl,Bo l];rfl
theorem qg {h:Hdr} {l:List Ent} (k:Df h l=true) {e:Ent} (a:e∈l):e.1≠h:=by
 intro b
 have:=(List.all_eq_true.1 k) e a
 rw[b] at this;unfold Hdr.beq at this;rw[Nat.beq_refl,Bo] at this;cases this
structure Row where
 ver:Nat
 E:TypeId
 t:Ty
 xs:List t.den
 rest:List Ent
def rowOf (h:Hdr) (chs:List Ent):Option Row:=(pull h chs).bind fun r=>match r.1.2.2 with
 | .own (.sl E t) xs=>b8 (Df h r.2) (some ⟨r.1.2.1,E,t,xs,r.2⟩)
 | _=>none
def Row.ent (r:Row) (h:Hdr):Ent:=(h,r.ver,.own (.sl r.E r.t) r.xs)
theorem bU {h:Hdr} {chs:List Ent} {r:Row} (e:rowOf h chs=some r):chs.Perm (r.ent h::r.rest)/\ ∀e∈r.rest,e.1≠h:=by
 obtain ⟨q,j,e⟩:=bind_some e;obtain ⟨p,k⟩:=gB j;obtain ⟨⟨a,i,c⟩,rest⟩:=q;obtain rfl:a=h:=k;cases c with
 | own f d =>
  cases f with
  | sl E t =>
   obtain ⟨b,e⟩:=ai (show b8 (Df a rest) _=some r from e);obtain rfl:=ae e;exact ⟨p,fun e g=>qg b g⟩
  | _=>cases e
 | _=>cases e
theorem xz {h:Hdr} {chs:List Ent} {r:Row} (e:rowOf h chs=some r) {n:Nat} (hv:r.ver<n):Mem chs n h r.ver (.own (.sl r.E r.t) r.xs):=by
 obtain ⟨p,k⟩:=bU e;refine ⟨hv,fun x b c d=>?_⟩;rcases aG (p.mem_iff.1 b) with rfl | b
 ·rcases d.2 with a | a
  ·exact a.2
  ·exact a.elim
 ·exact absurd d.1 (k x b)
structure Blk where
 ver:Nat
 T:TypeId
 cells:List LV
 rest:List Ent
def rW (h:Hdr) (chs:List Ent):Option Blk:=(pull h chs).bind fun r=>match r.1.2.2 with
 | .blk T cells=>some ⟨r.1.2.1,T,cells,r.2⟩
 | _=>none
def Blk.ent (r:Blk) (h:Hdr):Ent:=(h,r.ver,.blk r.T r.cells)
theorem ld {h:Hdr} {chs:List Ent} {r:Blk} (e:rW h chs=some r):chs.Perm (r.ent h::r.rest):=by
 obtain ⟨q,d,e⟩:=bind_some e;obtain ⟨p,k⟩:=gB d;obtain ⟨⟨a,b,c⟩,rest⟩:=q;obtain rfl:a=h:=k;cases c with
 | blk T cells =>
  obtain rfl:=ae (show some _=some r from e);exact p
 | _=>cases e
def mc:AV->Option (List LV)
 | .one x=>some [x]
 | .agg xs=>some xs
 | _=>none
theorem ko {v:AV} {cs:List LV} (h:mc v=some cs) {P:Program} {w0:World} {J:Hp} {θ:Th} {n:Nat} {chs:List Ent} (hv:v.ok P w0 J θ n chs):(∀x∈cs,x.ok P w0 J θ n)/\(v.v θ).cells=(cs.map (·.v θ)).toArray:=by
 unfold mc at h;split at h
 ·obtain rfl:=ae h;exact ⟨fun x a=>by obtain rfl:=al a;exact hv,GY (LV.one (show LV.ok P w0 J θ n _ from hv))⟩
 ·obtain rfl:=ae h;exact ⟨hv,rfl⟩
 ·cases h
theorem IW {P:Program} {w0:World} {J:Hp} {θ:Th} {n:Nat} {cs:List LV} (h: ∀x∈cs,x.ok P w0 J θ n):(cs.map (·.v θ)).all (·.oneCell')=true:=List.all_eq_true.2 fun v hv=>by
 obtain ⟨x,a,rfl⟩:=List.mem_map.1 hv;exact LV.one (h x a)
def E4 (k:IntKind):LV->Option Int
 | .val (.int k' n)=>if k'=k then some n else none
 | _=>none
def DP:LV->Option Bool
 | .val (.bool b)=>some b
 | .nb b=>some (!b)
 | _=>none
def Mm:LV->Option ByteArray
 | .val (.string b)=>some b
 | _=>none
def isNil:Value->Bool
 | .slice none 0 0=>true
 | _=>false
theorem oM {v:Value} (h:isNil v=true):v= .slice none 0 0:=by
 unfold isNil at h;split at h
 ·rfl
 ·cases h
def R7 (E:TypeId) (t:Ty):LV->Option (List t.den)
 | .rd _ t' d=>pc t' (.sl E t) d
 | .val v=>b8 (isNil v) (some [])
 | _=>none
def DQ:Value->Bool
 | .pointer none=>true
 | _=>false
theorem Bp {v:Value} (h:DQ v=true):v= .pointer none:=by
 unfold DQ at h;split at h
 ·rfl
 ·cases h
def Y3 (T E:TypeId) (t:Ty):LV->Option (Tr t.den)
 | .rd _ t' d=>pc t' (.tree T E t) d
 | .val v=>b8 (DQ v) (some .nil)
 | _=>none
def hd1 {α:Type} (f:LV->Option α):List LV->Option (α×List LV)
 | x::r=>(f x).bind fun d=>some (d,r)
 | [] =>none
def eX:(t:Ty)->List LV->Option (t.den×List LV)
 | .int k,l=>hd1 (E4 k) l
 | .bool,l=>hd1 DP l
 | .str,l=>hd1 Mm l
 | .raw,_=>none
 | .prod a b,l=>(eX a l).bind fun x=>(eX b x.2).bind fun y=>some ((x.1,y.1),y.2)
 | .sl E t,l=>hd1 (R7 E t) l
 | .fro t,l=>eX t l
 | .bag t,l=>eX t l
 | .wr t,l=>eX t l
 | .tree T E t,l=>hd1 (Y3 T E t) l
theorem E5 {k:IntKind} {x:LV} {n:Int} (h:E4 k x=some n) (θ:Th):x.v θ= .int k n:=by
 unfold E4 at h;split at h
 ·split at h
  ·rename_i a;subst a;obtain rfl:=ae h
   rfl
  ·cases h
 ·cases h
theorem G7 {x:LV} {n:Bool} (h:DP x=some n) (θ:Th):x.v θ= .bool n:=by
 unfold DP at h;split at h
 ·obtain rfl:=ae h;rfl
 ·obtain rfl:=ae h;rfl
 ·cases h
theorem Kx {x:LV} {n:ByteArray} (h:Mm x=some n) (θ:Th):x.v θ= .string n:=by
 unfold Mm at h;split at h
 ·obtain rfl:=ae h;rfl
 ·cases h
theorem Bq {E:TypeId} {t:Ty} {x:LV} {d:List t.den} (h:R7 E t x=some d) {P:Program} {w0:World} {J:Hp} {θ:Th} {n:Nat} (e:x.ok P w0 J θ n):(Ty.sl E t).rep.rd J [x.v θ] d:=by
 cases x with
 | rd f a b=>exact jF (show pc a (.sl E t) b=some d from h) e.2
 | val v =>
  obtain ⟨c,h⟩:=ai (show b8 (isNil v) (some [])=some d from h);obtain rfl:=ae h;show (Ty.sl E t).rep.rd J [v] [];rw[oM c];exact UK
 | _=>cases h
theorem IX {T E:TypeId} {t:Ty} {x:LV} {d:Tr t.den} (h:Y3 T E t x=some d) {P:Program} {w0:World} {J:Hp} {θ:Th} {n:Nat} (e:x.ok P w0 J θ n):(Ty.tree T E t).rep.rd J [x.v θ] d:=by
 cases x with
 | rd f a b=>exact jF (show pc a (.tree T E t) b=some d from h) e.2
 | val v =>
  obtain ⟨c,h⟩:=ai (show b8 (DQ v) (some .nil)=some d from h);obtain rfl:=ae h;show (Ty.tree T E t).rep.rd J [v] .nil;rw[Bp c];exact ⟨_,rfl,.nil⟩
 | _=>cases h
theorem G8 {α:Type} {f:LV->Option α} {cs:List LV} {r:α×List LV} (h:hd1 f cs=some r): ∃x,cs=x::r.2/\f x=some r.1:=by
 cases cs with
 | nil=>cases h
 | cons x l =>
  obtain ⟨d,a,h⟩:=bind_some (show (f x).bind _=some r from h);obtain rfl:=ae h;exact ⟨x,rfl,a⟩
theorem jH {P:Program} {w0:World} {J:Hp} {θ:Th} {n:Nat} : ∀ {t:Ty} {cs:List LV} {r:t.den×List LV},eX t cs=some r->(∀x∈cs,x.ok P w0 J θ n)-> ∃e,cs=e++r.2/\t.rep.rd J (e.map (·.v θ)) r.1:=by
 intro t;induction t with
 | int k =>
  intro cs r h c;obtain ⟨x,rfl,d⟩:=G8 (show hd1 _ _=some r from h);exact ⟨[x],rfl,congrArg (fun v=>[v]) (E5 d θ)⟩
 | bool =>
  intro cs r h c;obtain ⟨x,rfl,d⟩:=G8 (show hd1 _ _=some r from h);exact ⟨[x],rfl,congrArg (fun v=>[v]) (G7 d θ)⟩
 | str =>
  intro cs r h c;obtain ⟨x,rfl,d⟩:=G8 (show hd1 _ _=some r from h);exact ⟨[x],rfl,congrArg (fun v=>[v]) (Kx d θ)⟩
 | raw =>
  intro cs r h c;cases (show none=some r from h)
 | prod a b iha ihb =>
  intro cs r h c;obtain ⟨x,d,h⟩:=bind_some (show (eX a cs).bind _=some r from h);obtain ⟨y,j,h⟩:=bind_some h;obtain rfl:=ae h;obtain ⟨e,rfl,i⟩:=iha d c;obtain ⟨f,m,g⟩:=ihb j fun z l=>c z (bj _ l);exact ⟨e++f,by rw[m,aC],e.map (·.v θ),f.map (·.v θ),by rw[aX],i,g⟩
 | sl E t ih =>
  intro cs r h c;obtain ⟨x,rfl,d⟩:=G8 (show hd1 _ _=some r from h);exact ⟨[x],rfl,Bq d (c x (by simp))⟩
 | fro t ih =>
  intro cs r h c;exact ih (show eX t cs=some r from h) c
 | bag t ih =>
  intro cs r h c;exact ih (show eX t cs=some r from h) c
 | wr t ih =>
  intro cs r h c;exact ih (show eX t cs=some r from h) c
 | tree T E t ih =>
  intro cs r h c;obtain ⟨x,rfl,d⟩:=G8 (show hd1 _ _=some r from h);exact ⟨[x],rfl,IX d (c x (by simp))⟩
section
variable {P:Program} {I J:Hp} {w0 w w':World} {C:List Ch} {o:Oper} {ev:Operand->Value} {α β:Type} {R:Rep α} {S:Rep β} {E T:TypeId}
theorem Br {v:Value} {xs:List α} {i:Nat} {x:α} {F:List Nat} (h:(ay E R).own I w [v] xs F) (B:xs[i]? =some x) :
  ∃g a cap cur c f b cell d G,v= .slice (some ⟨g,a,none⟩) xs.length cap/\xs.length<=lim/\w.heap[g]? =some (.cells cur E (0,0))/\xs.length<=cap/\cap<=maxLen/\a+cap*R.size<=cur.size/\F=g::(c++(G++f)) /\
   cur.toList.drop a=b++(cell++d)/\b.length=i*R.size/\cell.length=R.size/\OwnEls R I w b (xs.take i) c/\R.own I w cell x G/\OwnEls R I w d (xs.drop (i+1)) f:=by
 have r:=(List.getElem?_eq_some_iff.1 B).1;obtain ⟨s,⟨-,rfl,-⟩ | ⟨g,a,cap,cur,K,hv,q,n,y,p,rfl,j⟩⟩:=h
 ·grind
 obtain rfl:v= .slice (some ⟨g,a,none⟩) xs.length cap:=by grind
 have e:xs=xs.take i++(x::xs.drop (i+1)):=by
  grind[List.drop_eq_getElem_cons,List.take_append_drop]
 rw[e] at j;obtain ⟨b,D,c,H,t,k,rfl,A,cells,d,G,f,rfl,u,rfl,z,l⟩:=j.cut2;have m:(xs.take i).length=i:=by rw[aB];omega
 rw[m] at k;exact ⟨g,a,cap,cur,c,f,b,cells,d,G,rfl,s,q,n,y,p,rfl,t,k,u,A,z,l⟩
theorem E6 {off n k:Nat} {f:α->β} {u:α->β->α} {x:Operand} {v:Value} {xs:List α} {a:α} {i:Int} {agg:Bool} (U:S.Sh) (M:aS xs i=some a) (y:Lens R off S f u) (z:TI P T agg n) (l:S.size=n) (hn:(agg || n==1)=true) (A:o.op= .load T x) (W:ev x=pt v (i.toNat*k+off)) (X:R.size=k) :
  OpT P I w0 o ev [Ch.own (ay E R) [v] xs] (fun u=> ∃d,S.rd I d (f a)/\Lds agg d u) (fun _=>[Ch.own (ay E R) [v] xs]):=by
 intro w C m;obtain ⟨hb,Z,F,⟨G,K,rfl,Q,e3⟩,h2,h3⟩:=id m;obtain ⟨g,c,cap,cur,Y,K3,c1,cell,c3,L,rfl,hl,B,k2,k3,k4,rfl,H,V,f3,-,t,-⟩:=Br Q (wB M);obtain ⟨d,G2,K2,p,D,N,-⟩:=y I w cell a L t;obtain ⟨-,r⟩:=U N;have h:=(S.rd_len r).trans l;have ⟨u,O,s⟩:=NH (P:=P) (w:=w) (b:=g) (off:=c+(i.toNat*k+off)) z h (fun e=>by grind) (fun j u q=>by
  rw[<-D,List.getElem?_take] at q;split at q
  ·simp[World.cell?,B];rw[<-Array.getElem?_toList,show c+(i.toNat*k+off)+j=c+(i.toNat*k+off+j) from Nat.add_assoc _ _ _,<-List.getElem?_drop,H,List.getElem?_append_right (by grind),List.getElem?_append_left (by grind),V,X];grind
  grind)
 simp[execOp,A,W,pt,ptB,ptO,Sem.run_bind,O,Result.andThen_ok];exact ⟨⟨d,r,s⟩,m⟩
theorem Zx {off:Nat} {u:α->β->α} {xs:List α} {i:Nat} {a:α} {g ofs cap:Nat} {cur:Array Value} {f K2 e:List Nat} {j cell k:List Value} {v0:Value}
  (v:i<xs.length) (W:xs.length<=lim) (x:w.heap[g]? =some (.cells cur E (0,0))) (U:xs.length<=cap) (L:cap<=maxLen) (V:ofs+cap*R.size<=cur.size) (z:cur.toList.drop ofs=j++(cell++k)) (B:j.length=i*R.size) (Q:cell.length=R.size)
  (D:OwnEls R I w j (xs.take i) f) (A:OwnEls R I w k (xs.drop (i+1)) e) (hv:cell[off]? =some v0) (s: ∀b,b∈f++(K2++e)->b≠g) (M: ∀b,b∈K2->b<w.heap.size) (X:S.size=1)
  (O: ∀J w' d' y l,I.le J->(∀b,b∈K2->w'.heap[b]? =w.heap[b]?)->S.own J w' d' y l-> ∃F,F.Perm (l++K2)/\R.own J w' (spl cell off d') (u a y) F) :
  (Ch.gap (ay E R) [.slice (some ⟨g,ofs,none⟩) xs.length cap] S (fun y=>xs.set i (u a y)) g (ofs+(i*R.size+off)) v0).holds I w (g::(f++(K2++e))):=by
 have G:=(List.getElem?_eq_some_iff.1 hv).1;refine ⟨by simp,⟨cur,E,x,?_⟩,fun b c=>?_,fun J w' m y l t K H N=>?_⟩
 ·rw[<-Array.getElem?_toList,<-List.getElem?_drop (i:=ofs),z,List.getElem?_append_right (by omega),List.getElem?_append_left (by omega),B];grind
 ·rcases aG c with rfl | c
  ·grind
  ·rcases aE c with c | c
   ·exact D.live b c
   ·rcases aE c with c | c
    ·grind
    ·exact A.live b c
 ·have n:=fun b c=>K b (bq _ c) (s b c);have ⟨r,p,q⟩:=O J w' [m] y l t (fun b c=>n b (bj _ (bg _ c))) N;have h:=H cur E x;have d:(cur.setIfInBounds (ofs+(i*R.size+off)) m).toList.drop ofs=j++(spl cell off [m] ++k):=by
   rw[Array.toList_setIfInBounds,List.drop_set,if_neg (by omega),Nat.add_sub_cancel_left,z,List.set_append_right _ _ (by omega),List.set_append_left _ _ (by omega),B];rw[show i*R.size+off - i*R.size=off from by omega];rfl
  refine ⟨g::(f++(r++e)),?_,by grind,.inr ⟨g,ofs,cap,_,f++(r++e),by grind,h,by grind,L,by grind,rfl,?_⟩⟩
  ·grind
  ·show OwnEls R J w' _ (xs.set i (u a y)) _;rw[List.set_eq_take_append_cons_drop,if_pos v,d];exact OwnEls.glue (ys:=xs.take i) (zs:=u a y::xs.drop (i+1)) (by grind) ((D.mono t).stay fun b c=>n b (bg _ c))
    ⟨spl cell off [m],k,r,e,rfl,by rw[yW];exact Q,rfl,q,(A.mono t).stay fun b c=>n b (bj _ (bj _ c))⟩
theorem E7 {off k:Nat} {f:α->β} {u:α->β->α} {x:Operand} {v:Value} {xs:List α} {a:α} {i:Int} (Q:aS xs i=some a) (hf:Lens R off S f u) (hT:TI P T false 1) (D:S.size=1) (ho:o.op= .load T x) (hx:ev x=pt v (i.toNat*k+off)) (hk:R.size=k) :
  OpT P I w0 o ev [Ch.own (ay E R) [v] xs] (fun u=>u.oneCell'=true) (fun c=>[Ch.own S [c] (f a),Ch.gap (ay E R) [v] S (fun y=>xs.set i.toNat (u a y)) (ptB v) (ptO v+(i.toNat*k+off)) c]):=by
 intro w C hs;obtain ⟨n,Y,F,⟨G,K,rfl,e2,e3⟩,h2,h3⟩:=hs;have t:=(List.getElem?_eq_some_iff.1 (wB Q)).1;obtain ⟨g,m,cap,cur,q,r,c1,cell,c3,U,rfl,hl,N,Z,k3,k4,rfl,O,V,f3,f4,L,f6⟩:=Br e2 (wB Q);have ⟨d,H,K2,p,e1,A,X⟩:=hf I w cell a U L;have s:=(S.own_len A).trans D;obtain ⟨c,rfl⟩:=List.length_eq_one_iff.1 s;have hc:cell[off]? =some c:=by
  have:=congrArg (fun l:List Value=>l[0]?) e1
  simpa [List.getElem?_take,List.getElem?_drop,D] using this
 have ⟨M,hr,W⟩:=NH (P:=P) (w:=w) (b:=g) (off:=m+(i.toNat*k+off)) (d:=[c]) hT rfl (fun _=>rfl) (fun j u hj=>by
  have z:j=0:=by have:=(List.getElem?_eq_some_iff.1 hj).1;simpa using this
  subst z;simp only[World.cell?,N];rw[<-Array.getElem?_toList,show m+(i.toNat*k+off)+0=m+(i.toNat*k+off+0) from Nat.add_assoc _ _ _,<-List.getElem?_drop,O,List.getElem?_append_right (by grind),List.getElem?_append_left (by grind),V,hk];simp_all)
 obtain rfl:c=M:=by simpa using (show [c] = [M] from W)
 simp[execOp,ho,hx,pt,ptB,ptO,Sem.run_bind,hr,Result.andThen_ok];have h:((g::(q++(U++r)))++K).Perm (H++((g::(q++(K2++r)))++K)):=by
  grind
 have B:=h.nodup_iff.1 h2;refine ⟨S.own_one A c (by simp),n,Y,H++((g::(q++(K2++r)))++K),⟨H,_,rfl,A,g::(q++(K2++r)),K,rfl,?_,e3⟩,B,fun b n=>h3 b (h.mem_iff.2 n)⟩
 have:=Zx (u:=u) (a:=a) (v0:=c) t hl N Z k3 k4 O V f3 f4 f6 hc (K2:=K2) (S:=S) (fun b n e=>by
  grind) (fun b n=>R.own_live L b (p.mem_iff.2 (bj _ n))) D X
 grind
theorem St.settle {cs:List Value} {f:β->α} {b off:Nat} {v:Value} {y:β} (h:St I w0 w (Ch.own S [v] y::Ch.gap R cs S f b off v::C)):St I w0 w (Ch.own R cs (f y)::C):=by
 obtain ⟨m,l,F,⟨G,K,rfl,j,t,c,rfl,⟨z,⟨cur,E,g,k⟩,A,i⟩,r⟩,u,e⟩:=h;have ⟨F,p,q⟩:=i I w v y G Hp.le.rfl (fun _ _ _=>rfl) (fun a x s=>by
  rw[g] at s⊢;obtain ⟨rfl,rfl⟩:cur=a/\E=x:=by grind
  congr 2;grind) j
 have d:(F++c).Perm (G++(t++c)):=by rw[<-aC];exact p.append_right _
 exact ⟨m,l,F++c,⟨F,c,rfl,q,r⟩,d.nodup_iff.2 u,fun b n=>e b (d.mem_iff.1 n)⟩
theorem E8 {cs:List Value} {f:β->α} {b off:Nat} {v u:Value} {x y:Operand} (t:TI P T false 1) (B:o.op= .store T x y) (Y:ev x= .pointer (some ⟨b,off,none⟩)) (L:ev y=u) (h1:u.oneCell'=true) :
  OpT P I w0 o ev [Ch.gap R cs S f b off v] (fun _=>True) (fun _=>[Ch.gap R cs S f b off u]):=by
 intro w C m;obtain ⟨p,Z,F,⟨K,K2,rfl,⟨k1,⟨cur,E,r,D⟩,k3,k4⟩,e3⟩,h4,h5⟩:=id m;have V:=Kl (P:=P) (w:=w) t (g:=b) (o:=off) (l:=[u]) (GY h1) rfl (fun j hj=>by
  simp_all[World.cell?,Option.isSome_none,Bool.false_eq_true,ite_false,Nat.add_zero]) (fun j=>by simp[World.frozen?,r]) (fun v hv=>by grind)
 simp only[execOp,B,Y,L,Sem.run_bind,V,Result.andThen_ok];refine ⟨trivial,?_⟩;refine St.step (w:=w) (c:=[Ch.gap R cs S f b off v]) (c':=[Ch.gap R cs S f b off u]) (w':=w.setCell ⟨b,off,none⟩ u) m rfl rfl rfl (by simp_all) ?_;rintro F ⟨K,K',rfl,⟨i,⟨k,z,M,s⟩,q3,Q⟩,rfl⟩ d U;rw[List.append_nil] at *;refine ⟨fun c a q=>Below.heap_setCell _ _ _ _ fun e=>q (e ▸ i),K,⟨K,[],by simp,⟨i,⟨_,z,gS M,?_⟩,fun c a=>by simp_all,fun J h N W G H s1 X=>Q J h N W G H (fun c a A=>by grind[Below.heap_setCell]) fun n O a=>?_⟩,rfl⟩,d,fun c a=>.inl a⟩
 ·grind
 ·have:=X _ O (gS (v:=u) (o:=off) a)
  simp_all
end
def xA (E:TypeId) (t:Ty) (x:LV) (chs:List Ent):Option (List t.den×List Ent×List Ent):=match x with
 | .own h=>(pull h chs).bind fun r=>match r.1.2.2 with
  | .own t' d=>(pd t' (.sl E t) d).bind fun d=>some (d,[r.1],r.2)
  | _=>none
 | .val v=>b8 (isNil v) (some ([],[],chs))
 | _=>none
def Bs (T E:TypeId) (t:Ty) (x:LV) (chs:List Ent):Option (Tr t.den×List Ent×List Ent):=match x with
 | .own h=>(pull h chs).bind fun r=>match r.1.2.2 with
  | .own t' d=>(pd t' (.tree T E t) d).bind fun d=>some (d,[r.1],r.2)
  | _=>none
 | x=>(Y3 T E t x).bind fun d=>some (d,[],chs)
structure Took (t:Ty) where
 d:t.den
 cells:List LV
 used:List Ent
 rest:List Ent
def eO:(t:Ty)->List LV->List Ent->Option (Took t)
 | .prod a b,l,chs=>(eO a l chs).bind fun x=>(eO b x.cells x.rest).bind fun y=>some ⟨(x.d,y.d),y.cells,x.used++y.used,y.rest⟩
 | .sl E t,l,chs=>match l with
  | x::r=>(xA E t x chs).bind fun q=>some ⟨q.1,r,q.2.1,q.2.2⟩
  | [] =>none
 | .int k,l,chs=>(eX (.int k) l).bind fun x=>some ⟨x.1,x.2,[],chs⟩
 | .bool,l,chs=>(eX .bool l).bind fun x=>some ⟨x.1,x.2,[],chs⟩
 | .str,l,chs=>(eX .str l).bind fun x=>some ⟨x.1,x.2,[],chs⟩
 | .raw,_,_=>none
 | .fro t,l,chs=>(eX t l).bind fun x=>some ⟨x.1,x.2,[],chs⟩
 | .bag t,l,chs=>(eO t l chs).bind fun x=>some ⟨x.d,x.cells,x.used,x.rest⟩
 | .wr t,l,chs=>(eO t l chs).bind fun x=>some ⟨x.d,x.cells,x.used,x.rest⟩
 | .tree T E t,l,chs=>match l with
  | x::r=>(Bs T E t x chs).bind fun q=>some ⟨q.1,r,q.2.1,q.2.2⟩
  | [] =>none
theorem Bt {E:TypeId} {t:Ty} {x:LV} {chs:List Ent} {q:List t.den×List Ent×List Ent} (h:xA E t x chs=some q) (P:Program) (J:Hp) (θ:Th):chs.Perm (q.2.1++q.2.2)/\Bun J (q.2.1.map (toCh P θ)) (Ty.sl E t).rep [x.v θ] q.1:=by
 cases x with
 | own a =>
  have ⟨r,j,h⟩:=bind_some (show (pull a chs).bind _=some q from h);have ⟨p,k⟩:=gB j;have ⟨⟨f,i,c⟩,rest⟩:=r;obtain rfl:f=a:=k;cases c with
  | own b d =>
   have ⟨m,l,h⟩:=bind_some (show (pd b (.sl E t) d).bind _=some q from h);obtain ⟨e,rfl⟩:=pe l;cases ae h;subst e;exact ⟨p,NQ⟩
  | _=>cases h
 | val v =>
  have ⟨g,h⟩:=ai (show b8 (isNil v) _=some q from h);cases ae h;refine ⟨List.Perm.refl _,?_⟩;rw[oM g];exact Ws
 | _=>cases h
theorem Bu {E:TypeId} {t:Ty} {x:LV} {chs:List Ent} {q:List t.den×List Ent×List Ent} (h:xA E t x chs=some q):chs.Perm (q.2.1++q.2.2):=by
 cases x with
 | own a =>
  have ⟨r,b,h⟩:=bind_some (show (pull a chs).bind _=some q from h);grind[gB,bind_some,pd,bind,ae]
 | val v =>
  have ⟨c,h⟩:=ai (show b8 (isNil v) _=some q from h);grind[ae,List.Perm.refl]
 | _=>cases h
theorem Bv {T E:TypeId} {t:Ty} {x:LV} {chs:List Ent} {q:Tr t.den×List Ent×List Ent} (h:Bs T E t x chs=some q):chs.Perm (q.2.1++q.2.2):=by
 unfold Bs at h;split at h
 ·have ⟨r,a,h⟩:=bind_some h;have ⟨p,k⟩:=gB a;split at h
  ·have ⟨c,b,h⟩:=bind_some h;grind
  grind
 ·have ⟨d,b,h⟩:=bind_some h;grind[ae,List.Perm.refl]
theorem xB {J:Hp} {α:Type} {R:Rep α} (a:Cpy R R) {c:List Value} {x:α} (h:R.rd J c x):Bun J [] R c x:=fun w F k=>by
 rw[show F= [] from k];exact a h
theorem Ob {T E:TypeId} {t:Ty} {x:LV} {chs:List Ent} {q:Tr t.den×List Ent×List Ent} (h:Bs T E t x chs=some q) {P:Program} {w0:World} {J:Hp} {θ:Th} {n:Nat} (l:x.ok P w0 J θ n):Bun J (q.2.1.map (toCh P θ)) (Ty.tree T E t).rep [x.v θ] q.1:=by
 unfold Bs at h;split at h
 ·rename_i i;have ⟨r,j,h⟩:=bind_some h;have ⟨p,k⟩:=gB j;have ⟨⟨f,g,c⟩,rest⟩:=r;obtain rfl:f=i:=k;cases c with
  | own b d =>
   have ⟨m,a,h⟩:=bind_some (show (pd b (.tree T E t) d).bind _=some q from h);obtain ⟨e,rfl⟩:=pe a;cases ae h;subst e;exact NQ
  | _=>cases h
 ·have ⟨d,a,h⟩:=bind_some h;cases ae h;exact xB RZ (IX a l)
theorem lF {P:Program} {w0:World} {J:Hp} {θ:Th} {n:Nat} : ∀ {t:Ty} {cs:List LV} {chs:List Ent} {r:Took t},eO t cs chs=some r->(∀x∈cs,x.ok P w0 J θ n)->
  chs.Perm (r.used++r.rest)/\ ∃d,cs=d++r.cells/\Bun J (r.used.map (toCh P θ)) t.rep (d.map (·.v θ)) r.d:=by
 intro t;induction t with
 | prod a b j i =>
  intro cs chs r h c;have ⟨x,f,h⟩:=bind_some (show (eO a cs chs).bind _=some r from h);have ⟨y,u,h⟩:=bind_some h;cases ae h;obtain ⟨v,d,rfl,s⟩:=j f c;have ⟨A,m,B,o⟩:=i u fun z w=>c z (bj _ w);refine ⟨by rw[aC];exact v.trans (A.append_left _),d++m,by grind,?_⟩;rw[aX,aX];exact RU s o
 | sl E t ih =>
  intro cs chs r h c;cases cs with
  | nil=>cases h
  | cons x l =>
   have ⟨q,g,h⟩:=bind_some (show (xA E t x chs).bind _=some r from h);cases ae h;have ⟨p,k⟩:=Bt g P J θ;exact ⟨p,[x],rfl,k⟩
 | fro t ih =>
  intro cs chs r h c;have ⟨x,f,h⟩:=bind_some (show (eX t cs).bind _=some r from h);cases ae h;have ⟨d,e,k⟩:=jH f c;exact ⟨List.Perm.refl _,d,e,Zo k⟩
 | wr t ih =>
  intro cs chs r h c;have ⟨x,f,h⟩:=bind_some (show (eO t cs chs).bind _=some r from h);cases ae h;exact ih f c
 | bag t ih =>
  intro cs chs r h c;have ⟨x,f,h⟩:=bind_some (show (eO t cs chs).bind _=some r from h);cases ae h;have ⟨p,d,e,k⟩:=ih f c;exact ⟨p,d,e,WD k⟩
 | tree T E t ih =>
  intro cs chs r h c;cases cs with
  | nil=>cases h
  | cons x l =>
   have ⟨q,g,h⟩:=bind_some (show (Bs T E t x chs).bind _=some r from h);cases ae h;exact ⟨Bv g,[x],rfl,Ob g (c x (by simp))⟩
 | int k =>
  intro cs chs r h c;have ⟨x,f,h⟩:=bind_some (show (eX _ cs).bind _=some r from h);cases ae h;have ⟨d,e,k⟩:=jH f c;exact ⟨List.Perm.refl _,d,e,xB xr k⟩
 | bool =>
  intro cs chs r h c;have ⟨x,f,h⟩:=bind_some (show (eX _ cs).bind _=some r from h);cases ae h;have ⟨d,e,k⟩:=jH f c;exact ⟨List.Perm.refl _,d,e,xB Ko k⟩
 | str =>
  intro cs chs r h c;have ⟨x,f,h⟩:=bind_some (show (eX _ cs).bind _=some r from h);cases ae h;have ⟨d,e,k⟩:=jH f c;exact ⟨List.Perm.refl _,d,e,xB NL k⟩
 | raw =>
  intro cs chs r h c;cases (show none=some r from h)
theorem iH: ∀ {t:Ty} {cs:List LV} {chs:List Ent} {r:Took t},eO t cs chs=some r->chs.Perm (r.used++r.rest):=by
 intro t;induction t with
 | prod a b e d =>
  intro cs chs r h;have ⟨x,c,h⟩:=bind_some (show (eO a cs chs).bind _=some r from h);have ⟨y,f,h⟩:=bind_some h;cases ae h;exact (by rw[aC];exact (e c).trans ((d f).append_left _))
 | sl E t ih =>
  intro cs chs r h;cases cs with
  | nil=>cases h
  | cons x l =>
   have ⟨q,g,h⟩:=bind_some (show (xA E t x chs).bind _=some r from h);grind[ae,Bu]
 | fro t ih =>
  intro cs chs r h;have ⟨x,c,h⟩:=bind_some (show (eX t cs).bind _=some r from h);grind[ae,List.Perm.refl]
 | wr t ih =>
  intro cs chs r h;have ⟨x,c,h⟩:=bind_some (show (eO t cs chs).bind _=some r from h);grind
 | bag t ih =>
  intro cs chs r h;have ⟨x,c,h⟩:=bind_some (show (eO t cs chs).bind _=some r from h);grind
 | tree T E t ih =>
  intro cs chs r h;cases cs with
  | nil=>cases h
  | cons x l =>
   have ⟨q,g,h⟩:=bind_some (show (Bs T E t x chs).bind _=some r from h);grind[ae,Bv]
 | int k =>
  intro cs chs r h;have ⟨x,c,h⟩:=bind_some (show (eX _ cs).bind _=some r from h);grind[ae,List.Perm.refl]
 | bool =>
  intro cs chs r h;have ⟨x,c,h⟩:=bind_some (show (eX _ cs).bind _=some r from h);grind[ae,List.Perm.refl]
 | str =>
  intro cs chs r h;have ⟨x,c,h⟩:=bind_some (show (eX _ cs).bind _=some r from h);grind[ae,List.Perm.refl]
 | raw =>
  intro cs chs r h;cases (show none=some r from h)
section
variable {Y:Type} (tt:TT) (s:Sg) (k:Res->Option Y)
def ac8 (T:TypeId) (x:Operand):Option Y:=(opd s x).bind fun v=>(mc v).bind fun cs=>k ⟨[],[],s.chs,[(⟨s.nxt,[]⟩,.blk T cs)],.one (.ptr ⟨s.nxt,[]⟩ 0)⟩
def UT (T:TypeId):Option Y:=(td tt T).bind fun d=>match d.fz with
 | true=>k ⟨[],[],s.chs,[(⟨s.nxt,[]⟩,.blk T [.val .nilFunc])],.one (.ptr ⟨s.nxt,[]⟩ 0)⟩
 | false=>d.bytes.bind fun _=>k ⟨[],[],s.chs,[(⟨s.nxt,[]⟩,.blk T ((zeroCells d.ty).map .val))],.one (.ptr ⟨s.nxt,[]⟩ 0)⟩
def ab1 (agg:Bool) (cs:List LV):Option AV:=match agg with
 | true=>some (.agg cs)
 | false=>match cs with
  | [x] =>some (.one x)
  | _=>none
def UU (T:TypeId) (x:Operand):Option Y:=(td tt T).bind fun d=>match opd s x with
 | some (.one (.ptr h off))=>(rW h s.chs).bind fun b=>b8 (Nat.beq ((b.cells.drop off).take d.n).length d.n) ((ab1 d.agg ((b.cells.drop off).take d.n)).bind fun v=>k ⟨[b.ent h],[],b.rest,[],v⟩)
 | _=>none
def Oc (T:TypeId) (x y:Operand):Option Y:=(td tt T).bind fun d=>match opd s x with
 | some (.one (.ptr h off))=>(opd s y).bind fun v=>(mc v).bind fun cs=>(rW h s.chs).bind fun b=>b8 (Nat.beq cs.length d.n&&Nat.ble (off+d.n) b.cells.length) (k ⟨[],[b.ent h],b.rest,[(h,.blk b.T (b.cells.take off++cs++b.cells.drop (off+cs.length)))],.any ⟨s.nxt,[]⟩⟩)
 | _=>none
def Zy (T:TypeId) (x:Operand):Option Y:=(td tt T).bind fun d=>match d.el,opd s x with
 | some _,some (.one (.own h))=>(rowOf h s.chs).bind fun r=>k ⟨[r.ent h],[],r.rest,[],.one (.val (.int .i64 (r.xs.length:Int)))⟩
 | _,_=>none
def Od (T:TypeId) (x i:Operand):Option Y:=(td tt T).bind fun d=>match d.el,opd s x,opd s i with
 | some E,some (.one (.own h)),some (.one (.val (.int .i64 i)))=>(rowOf h s.chs).bind fun r=>(td tt E).bind fun e=>b8 (Nat.beq e.n r.t.size) ((aS r.xs i).bind fun a=>k ⟨[r.ent h],[],r.rest,[],.elo h r.ver r.E r.t r.xs a i 0⟩)
 | _,_,_=>none
def UV (T:TypeId) (x:Operand):Option Y:=(td tt T).bind fun d=>match opd s x with
 | some (.elo h ver E t xs a i off)=>(rowOf h s.chs).bind fun r=>b8 (Nat.beq r.ver ver) ((y6 d.agg t off d.n).bind fun p=>match p.ty.sh with
  | true=>b8 (p.ty.isProd==d.agg) (k ⟨[r.ent h],[],r.rest,[],N3 s.nxt p.ty (p.get a)⟩)
  | false=>b8 (Nat.beq p.ty.size 1 && !d.agg) (k ⟨[],[r.ent h],r.rest,[(⟨s.nxt,[]⟩,.own p.ty (p.get a)),(h,.hole ver (.sl E t) xs p.ty (p.get a) (fun y=>xs.set i.toNat (p.set a y)) i t.size off (.own ⟨s.nxt,[]⟩))],.one (.own ⟨s.nxt,[]⟩)⟩))
 | _=>none
def Oe (T:TypeId) (x y:Operand):Option Y:=(td tt T).bind fun d=>match opd s x with
 | some (.elo h ver E t xs a i off)=>(opd s y).bind fun v=>(mc v).bind fun cs=>(rowOf h s.chs).bind fun r=>b8 (Nat.beq r.ver ver&&Nat.beq cs.length d.n) ((y6 d.agg t off d.n).bind fun p=>match t.sh with
  | true=>(eX p.ty cs).bind fun b=>b8 b.2.isEmpty (k ⟨[],[r.ent h],r.rest,[(h,.own (.sl E t) (xs.set i.toNat (p.set a b.1)))],.any ⟨s.nxt,[]⟩⟩)
  | false=>(eO p.ty cs r.rest).bind fun q=>b8 q.cells.isEmpty (k ⟨[],r.ent h::q.used,q.rest,[(h,.own (.sl E t) (xs.set i.toNat (p.set a q.d)))],.any ⟨s.nxt,[]⟩⟩))
 | _=>none
end
section
variable {Y:Type} {tt:TT} {s:Sg} {k:Res->Option Y} {P:Program} {w0:World} {o:Oper} {res:Y} {x y:Operand}
theorem wF {I:Hp} {ev:Operand->Value} {α:Type} {R:Rep α} {E:TypeId} {v:Value} {xs:List α} {fact:Value->Prop} (h:Hd v xs.length->OpT P I w0 o ev [] fact (fun _=>[])):OpT P I w0 o ev [Ch.own (ay E R) [v] xs] fact (fun _=>[Ch.own (ay E R) [v] xs]):=
 fun w C a=>h (a.hd 0 rfl).1 w (Ch.own (ay E R) [v] xs::C) a
theorem ep {θ:Th} {n:Nat} {v:Value} :hv (upd θ n v) ⟨n,[]⟩=v:=iG
theorem WQ {T:TypeId} (i:o.op= .box T x) (h:ac8 s k T x=some res):Oks P w0 s o k res:=by
 have ⟨v,a,h⟩:=bind_some h;have ⟨e,b,h⟩:=bind_some h;refine ⟨_,h,by simp,aW rfl,fun J θ m=>?_⟩;have ⟨d,f⟩:=ko b (b7 m a);refine OpT.weak (We (l:=e.map (·.v θ)) (aI a) f i) (fun v c=>⟨aA _,?_,fun g n=>?_⟩) (fun v c=>?_)
 ·show Value.pointer (some ⟨bk (hv _ ⟨s.nxt,[]⟩),0,none⟩)=v;grind[ep,IP]
 ·cases al n;exact ⟨aA _,aA _,fun x j=>LV.ok_same Same.upd (Nat.le_succ _) (d x j) Hp.le.rfl⟩
 ·show [Ch.blk (bk v) _ T] = [Ch.blk (bk (hv _ ⟨s.nxt,[]⟩)) (e.map _) T];rw[ep,jb Same.upd d]
theorem Of (m:TTok P tt) {T:TypeId} (n:o.op= .alloc T) (h:UT tt s k T=some res):Oks P w0 s o k res:=by
 have ⟨d,p,h⟩:=bind_some h;split at h
 ·rename_i j;have ⟨b,w⟩:=(m.get p).fz j;refine ⟨_,h,by simp,aW rfl,fun J θ r=>?_⟩;refine OpT.weak (GN (l:=[.nilFunc]) w rfl n) (fun v a=>⟨aA _,?_,fun g c=>?_⟩) (fun v a=>?_)
  ·show Value.pointer (some ⟨bk (hv _ ⟨s.nxt,[]⟩),0,none⟩)=v;grind[ep,IP]
  ·cases al c;refine ⟨aA _,aA _,fun x i=>?_⟩;cases al i
   rfl
  ·show [Ch.blk (bk v) _ T] = [Ch.blk (bk (hv _ ⟨s.nxt,[]⟩)) _ T];rw[ep];rfl
 have ⟨z,t,h⟩:=bind_some h;obtain ⟨A,f,e,-⟩:=(m.get p).zero z t;refine ⟨_,h,by simp,aW rfl,fun J θ r=>?_⟩;refine OpT.weak (GN (l:=zeroCells d.ty) f e n) (fun v a=>⟨aA _,?_,fun g c=>?_⟩) (fun v a=>?_)
 ·show Value.pointer (some ⟨bk (hv _ ⟨s.nxt,[]⟩),0,none⟩)=v;grind[ep,IP]
 ·cases al c;refine ⟨aA _,aA _,fun x i=>?_⟩;obtain ⟨u,q,rfl⟩:=List.mem_map.1 i;exact Ku _ u q
 ·show [Ch.blk (bk v) _ T] = [Ch.blk (bk (hv _ ⟨s.nxt,[]⟩)) (((zeroCells d.ty).map LV.val).map _) T];rw[ep,List.map_map];congr 2;exact (List.map_id' _).symm
theorem Og {agg:Bool} {cs:List LV} {v:AV} (h:ab1 agg cs=some v) {P:Program} {w0:World} {J:Hp} {θ:Th} {n:Nat} {chs:List Ent} (a: ∀x∈cs,x.ok P w0 J θ n):v.ok P w0 J θ n chs/\(if agg then Value.agg (cs.map (·.v θ)).toArray else (cs.map (·.v θ)).getD 0 undef)=v.v θ:=by
 cases agg with
 | true =>
  cases ae (show some (AV.agg cs)=some v from h);exact ⟨a,rfl⟩
 | false =>
  cases cs with
  | nil=>cases h
  | cons x l =>
   cases l with
   | nil =>
    cases ae (show some (AV.one x)=some v from h);exact ⟨a x (by simp),rfl⟩
   | cons _ _=>cases h
theorem lP {e:Ent} {r:List Ent} {J:Hp} {θ:Th} (a:Fine P w0 J θ s) (hp:s.chs.Perm (e::r)):okE P w0 J θ s.nxt s.chs e:=a.chs e (hp.mem_iff.2 (by simp))
theorem pg {e:Ent} {r l:List Ent} (hp:l.Perm (e::r)):l.Perm ([e] ++ [] ++r):=hp
theorem Dg {e:Ent} {r l:List Ent} (hp:l.Perm (e::r)):l.Perm ([] ++ [e] ++r):=hp
theorem Oh (p:TTok P tt) {T:TypeId} (q:o.op= .load T x) (h:UU tt s k T x=some res):Oks P w0 s o k res:=by
 have ⟨d,w,h⟩:=bind_some h;split at h
 ·rename_i C off A;have ⟨b,t,h⟩:=bind_some h;have ⟨j,h⟩:=ai h;have ⟨v,c,h⟩:=bind_some h;have hp:=ld t;have j:=au j;refine ⟨_,h,pg hp,aW rfl,fun J θ f=>?_⟩;have B: ∀z∈(b.cells.drop off).take d.n,z.ok P w0 J θ s.nxt:=fun z r=>(lP f hp).2.2 z (List.mem_of_mem_drop (List.mem_of_mem_take r));have ⟨i,m⟩:=Og (chs:=s.chs) c B;have a:=p.get w;refine OpT.weak (GO (l:=b.cells.map (·.v θ)) (E:=b.T) a.ti q (aI A) a.one (by simp_all) (by grind) m) (fun u e=>?_) (fun u e=>rfl);subst e;exact ⟨AV.ok_same Same.upd (Nat.le_succ _) (Res.newer (pg hp) (aW rfl J θ f)) i Hp.le.rfl,AV.v_same Same.upd i,fun g n=>by cases n⟩
 grind
theorem Mn (B:TTok P tt) {T:TypeId} (C:o.op= .store T x y) (h:Oc tt s k T x y=some res):Oks P w0 s o k res:=by
 have ⟨d,H,h⟩:=bind_some h;split at h
 ·rename_i i off I;have ⟨v,f,h⟩:=bind_some h;have ⟨q,j,h⟩:=bind_some h;have ⟨b,G,h⟩:=bind_some h;have ⟨m,h⟩:=ai h;rw[ak] at m;have D:=au m.1;have F:=bA m.2;have hp:=ld G;refine ⟨_,h,Dg hp,aW rfl,fun J θ p=>?_⟩;have ⟨A,r⟩:=ko j (b7 p f);have c:=lP p hp;have n:=B.get H;have e: ∀z∈b.cells.take off++q++b.cells.drop (off+q.length),z.ok P w0 J θ s.nxt:=fun z a=>by
   rcases aE a with a | a
   ·rcases aE a with a | a
    ·exact c.2.2 z (List.mem_of_mem_take a)
    grind
   ·exact c.2.2 z (List.mem_of_mem_drop a)
  refine OpT.weak (EP (l:=b.cells.map (·.v θ)) (E:=b.T) n.ti C (aI I) (aI f) r (by grind) (IW A) (by grind)) (fun u t=>⟨aA _,ep,fun g w=>?_⟩) (fun u t=>?_)
  ·cases al w;exact ⟨a8 c.1,aA _,fun z a=>LV.ok_same Same.upd (Nat.le_succ _) (e z a) Hp.le.rfl⟩
  ·show [Ch.blk (bk (hv θ i)) _ b.T] = [Ch.blk (bk (hv (upd θ s.nxt u) i)) _ b.T];rw[show hv (upd θ s.nxt u) i=hv θ i from bc Same.upd c.1,DN _ _ _ (by grind),jb Same.upd e,aX,aX,List.map_take,List.map_drop,List.length_map]
 grind
theorem R8 (c:TTok P tt) {T:TypeId} (e:o.op= .call { callee:=.builtin .len,args:= #[x],argTypes:= #[T] }) (h:Zy tt s k T x=some res):Oks P w0 s o k res:=by
 have ⟨d,l,h⟩:=bind_some h;split at h
 ·rename_i E p f m;have ⟨r,j,h⟩:=bind_some h;obtain ⟨hp,-⟩:=bU j;refine ⟨_,h,pg hp,aW rfl,fun J θ n=>OpT.weak (wF fun i=>DL i ((c.get l).el _ f) e (aI m)) (fun u a=>?_) (fun u a=>rfl)⟩;subst a;exact ⟨Eq.refl true,rfl,fun g b=>by cases b⟩
 grind
theorem Mo (n:TTok P tt) {T:TypeId} {i:Operand} (w:o.op= .indexAddr T x i) (h:Od tt s k T x i=some res):Oks P w0 s o k res:=by
 have ⟨d,C,h⟩:=bind_some h;split at h
 ·rename_i E c j A D t;have ⟨r,q,h⟩:=bind_some h;have ⟨e,F,h⟩:=bind_some h;have ⟨f,h⟩:=ai h;have ⟨a,p,h⟩:=bind_some h;have f:=au f;have ⟨hp,z⟩:=bU q;refine ⟨_,h,pg hp,aW rfl,fun J θ m=>OpT.weak (wF (fact:=(· =pt (hv θ c) (j.toNat*r.t.size+0))) fun B=>?_) (fun u l=>?_) (fun u l=>rfl)⟩
  ·have:=tF (I:=J) (w0:=w0) B ((n.get C).el _ A) (n.get F).ti w (aI D) (aI t) (EN p)
   rw[f] at this;exact this
  ·have b:=lP m hp;refine ⟨⟨a8 b.1,p,(xz q b.2.1).newer (Res.newer (pg hp) (aW rfl J θ m)) (Nat.le_succ _)⟩,?_,fun g v=>by cases v⟩;rw[l];show pt (hv (upd θ s.nxt _) c) _=pt (hv θ c) _;rw[show hv (upd θ s.nxt _) c=hv θ c from bc Same.upd b.1]
 grind
theorem Bw {h:Hdr} {ver:Nat} {E:TypeId} {t:Ty} {xs:List t.den} {a:t.den} {i:Int} {off:Nat} {J:Hp} {θ:Th} {r:Row} (b:rowOf h s.chs=some r) (hv:r.ver=ver) (c:AV.ok P w0 J θ s.nxt s.chs (.elo h ver E t xs a i off)):r.ent h=(h,ver,.own (.sl E t) xs):=by
 obtain ⟨hp,-⟩:=bU b
 have:=c.2.2.2 (r.ent h) (hp.mem_iff.2 (by simp)) _ ⟨rfl,.inl ⟨hv,rfl⟩⟩
 show (h,r.ver,Chk.own (.sl r.E r.t) r.xs)=_;rw[hv,show Chk.own (.sl r.E r.t) r.xs=_ from this]
theorem Oi (hT:TTok P tt) {T:TypeId} (W:o.op= .load T x) (h:UV tt s k T x=some res):Oks P w0 s o k res:=by
 have ⟨d,hd,h⟩:=bind_some h;split at h
 ·rename_i q S E t X a i off K;have ⟨r,M,h⟩:=bind_some h;have ⟨j,h⟩:=ai h;have j:=au j;have ⟨p,U,h⟩:=bind_some h;have m:=AW _ _ _ _ U;obtain ⟨hp,-⟩:=bU M;have A:=hT.get hd;split at h
  ·rename_i R;have ⟨b,h⟩:=ai h;have b:p.ty.isProd=d.agg:=by simpa using b
   refine ⟨_,h,pg hp,aW rfl,fun J θ z=>?_⟩;have f:=b7 z K;have v:=Bw M j f
   have:=E6 (P:=P) (I:=J) (w0:=w0) (o:=o) (T:=T) (E:=E) (Ty.sh_ok R) f.2.1 m.lens A.ti (p.ty.rep_size.trans m.size) A.one W (aI (θ:=θ) K) t.rep_size
   rw[v];refine OpT.weak this (fun u B=>?_) (fun u B=>rfl);have ⟨c,L,Z⟩:=B;rw[<-b] at Z
   have:=rf (P:=P) (w0:=w0) (J:=J) (θ:=upd θ s.nxt u) (id:=s.nxt) (n:=s.nxt+1) (chs:=Res.chs ⟨[r.ent q],[],r.rest,[],N3 s.nxt p.ty (p.get a)⟩ s.nxt) (aA _) iG p.ty (p.get a) c L Z
   grind
  ·have ⟨b,h⟩:=ai h;rw[ak] at b;have F:=au b.1;have O:d.agg=false:=by simpa using b.2
   refine ⟨_,h,Dg hp,fun J θ z g b V c C=>?_,fun J θ z=>?_⟩
   ·rcases aG b with rfl | b
    ·exact C.elim
    ·cases al b;obtain ⟨rfl,rfl⟩:=C;exact ⟨r.ent q,hp.mem_iff.2 (by simp),by rw[Bw M j (b7 z K)];exact ⟨rfl,.inl ⟨rfl,rfl⟩⟩⟩
   have f:=b7 z K;have v:=Bw M j f;have w:=lP z hp;have H:=A.ti;rw[O,<-m.size,F] at H
   have:=E7 (P:=P) (I:=J) (w0:=w0) (o:=o) (T:=T) (E:=E) f.2.1 m.lens H (p.ty.rep_size.trans F) W (aI (θ:=θ) K) t.rep_size
   rw[v];have G:X.set i.toNat (p.set a (p.get a))=X:=by
    have ⟨Q,e⟩:=List.getElem?_eq_some_iff.1 (wB f.2.1);rw[m.eta,<-e];exact List.set_getElem_self Q
   have D:S<s.nxt:=by rw[<-j];exact w.2.1
   refine OpT.weak this (fun u B=>⟨⟨aA _,by rw[ep];exact B⟩,ep,fun g b=>?_⟩) (fun u B=>?_)
   ·rcases aG b with rfl | b
    ·exact ⟨aA _,aA _,trivial⟩
    ·cases al b;refine ⟨a8 w.1,aA _,⟨aA _,by rw[ep];exact B⟩,D,G,fun l hl=>?_⟩;cases LV.own.inj hl;refine ⟨aA _,fun e v c C=>?_⟩;rcases aE v with v | v
     ·obtain ⟨g,b,rfl⟩:=List.mem_map.1 v;rcases aG b with rfl | b
      ·rcases C.2 with L | L
       ·grind
       ·exact L.elim
      ·cases al b
       have:=w.1
       rw[show q=(⟨s.nxt,[]⟩:Hdr) from C.1] at this;exact absurd this (Nat.lt_irrefl _)
     ·have v:e∈s.chs:=hp.mem_iff.2 (bq _ (by grind));have N:=z.chs e v
      have:=N.1
      rw[C.1] at this;grind
   ·show [Ch.own p.ty.rep [u] (p.get a),Ch.gap _ [hv θ q] p.ty.rep _ (ptB (hv θ q)) (ptO (hv θ q)+_) u] = [Ch.own p.ty.rep [hv (upd θ s.nxt u) ⟨s.nxt,[]⟩] (p.get a),Ch.gap _ [hv (upd θ s.nxt u) q] p.ty.rep _ (ptB (hv (upd θ s.nxt u) q)) (ptO (hv (upd θ s.nxt u) q)+_) (hv (upd θ s.nxt u) ⟨s.nxt,[]⟩)];rw[ep,show hv (upd θ s.nxt u) q=hv θ q from bc Same.upd w.1];rfl
 grind
theorem Mq (U:TTok P tt) {T:TypeId} (Q:o.op= .store T x y) (h:Oe tt s k T x y=some res):Oks P w0 s o k res:=by
 have ⟨d,X,h⟩:=bind_some h;split at h
 ·rename_i m W E t xs a i off G;have ⟨v,j,h⟩:=bind_some h;have ⟨cs,A,h⟩:=bind_some h;have ⟨r,M,h⟩:=bind_some h;have ⟨w,h⟩:=ai h;rw[ak] at w;have l:=au w.1;have S:=au w.2;have ⟨p,O,h⟩:=bind_some h;have f:=AW _ _ _ _ O;obtain ⟨hp,-⟩:=bU M;have F:=U.get X;split at h
  ·rename_i D;have ⟨b,V,h⟩:=bind_some h;have ⟨z,h⟩:=ai h;refine ⟨_,h,Dg hp,aW rfl,fun J θ n=>?_⟩;have c:=b7 n G;have L:=Bw M l c;have e:=lP n hp;have ⟨B,H⟩:=ko A (b7 n j);have ⟨Z,C,N⟩:=jH (J:=J) V B;rw[List.isEmpty_iff.1 z,List.append_nil] at C;subst C
   have:=GR (P:=P) (I:=J) (w0:=w0) (o:=o) (T:=T) (E:=E) (Ty.sh_ok D) (Ty.cpy D) c.2.1 f.upd F.ti Q (aI (θ:=θ) G) (aI j) H (IW B) (by grind) t.rep_size f.fit N
   rw[L];refine OpT.weak this (fun u K=>⟨aA _,ep,fun g w=>?_⟩) (fun u K=>?_)
   ·cases al w;exact ⟨a8 e.1,aA _,trivial⟩
   ·show [Ch.own _ [hv θ m] _] = [Ch.own _ [hv (upd θ s.nxt u) m] _];rw[show hv (upd θ s.nxt u) m=hv θ m from bc Same.upd e.1];rfl
  ·have ⟨q,R,h⟩:=bind_some h;have ⟨z,h⟩:=ai h;refine ⟨_,h,(hp.trans ((iH R).cons _)),aW rfl,fun J θ n=>?_⟩;have c:=b7 n G;have L:=Bw M l c;have e:=lP n hp;have ⟨B,H⟩:=ko A (b7 n j);obtain ⟨-,Z,C,N⟩:=lF (J:=J) (θ:=θ) R B;rw[List.isEmpty_iff.1 z,List.append_nil] at C;subst C
   have:=ET (P:=P) (I:=J) (w0:=w0) (o:=o) (T:=T) (E:=E) N c.2.1 f.updO F.ti Q (aI (θ:=θ) G) (aI j) H (IW B) (by grind) (p.ty.rep_size.trans f.size) t.rep_size f.fit
   rw[L];refine OpT.weak this (fun u K=>⟨aA _,ep,fun g w=>?_⟩) (fun u K=>?_)
   ·cases al w;exact ⟨a8 e.1,aA _,trivial⟩
   ·show [Ch.own _ [hv θ m] _] = [Ch.own _ [hv (upd θ s.nxt u) m] _];rw[show hv (upd θ s.nxt u) m=hv θ m from bc Same.upd e.1];rfl
 grind
end
def R9 (pl:List (Nat×Nat)) (cells:List LV):List (Nat×List LV)->Option (List LV)
 | [] =>some cells
 | (i,l)::rest=>(pl[i]?).bind fun q=>b8 (Nat.beq l.length q.2&&Nat.ble (q.1+q.2) cells.length) (R9 pl (cells.take q.1++l++cells.drop (q.1+q.2)) rest)
theorem Ky {a:List (Nat×Nat)} {θ:Th} : ∀ {ps:List (Nat×List LV)} {cells r:List LV},R9 a cells ps=some r->IN (a[·]?) (cells.map (·.v θ)) (ps.map fun p=>(p.1,p.2.map (·.v θ)))=some (r.map (·.v θ))
 | [],cells,r,h=>by cases ae (show some cells=some r from h);rfl
 | (i,l)::ps,cells,r,h=>by
  have ⟨q,c,h⟩:=bind_some (show (a[i]?).bind _=some r from h);have ⟨b,h⟩:=ai h
  have:=Ky (θ:=θ) h
  simp_all[List.map_cons,IN,List.length_map,if_pos,aX,List.map_take,List.map_drop]
theorem G9 {b:List (Nat×Nat)} {Q:LV->Prop} : ∀ {ps:List (Nat×List LV)} {cells r:List LV},R9 b cells ps=some r->(∀x∈cells,Q x)->(∀p∈ps,∀x∈p.2,Q x)-> ∀x∈r,Q x
 | [],cells,r,h,hc,hp=>by cases ae (show some cells=some r from h);exact hc
 | (i,l)::ps,cells,r,h,hc,hp=>by
  have ⟨q,d,h⟩:=bind_some (show (b[i]?).bind _=some r from h);obtain ⟨-,h⟩:=ai h;refine G9 h (fun x a=>?_) fun p c=>hp p (by grind);rcases aE a with a | a
  ·rcases aE a with a | a
   ·grind
   simp_all
  grind
def partsOf (s:Sg):List (Nat×Operand)->Option (List (Nat×List LV))
 | [] =>some []
 | (i,x)::l=>(opd s x).bind fun v=>(mc v).bind fun cs=>(partsOf s l).bind fun r=>some ((i,cs)::r)
theorem rh {P:Program} {w0:World} {s:Sg} {J:Hp} {θ:Th} (c:Fine P w0 J θ s): ∀ {l:List (Nat×Operand)} {ps:List (Nat×List LV)},partsOf s l=some ps->
  peq (l.map fun p=>(p.1,evL (envL θ s) p.2)) (ps.map fun p=>(p.1,p.2.map (·.v θ)))/\ ∀p∈ps,∀x∈p.2,x.ok P w0 J θ s.nxt
 | [],ps,h=>by cases ae (show some [] =some ps from h);exact ⟨trivial,fun p hp=>by cases hp⟩
 | (i,x)::l,ps,h=>by
  have ⟨v,b,h⟩:=bind_some (show (opd s x).bind _=some ps from h);have ⟨k,a,h⟩:=bind_some h;have ⟨r,e,h⟩:=bind_some h;cases ae h;have ⟨d,j⟩:=rh c e;have ⟨g,f⟩:=ko a (b7 c b);refine ⟨⟨rfl,by grind[aI],d⟩,fun p hp=>?_⟩;grind
structure Lits (t:Ty) where
 xs:List t.den
 used:List Ent
 rest:List Ent
def WR (t:Ty):List (Nat×List LV)->Nat->Option (List t.den)
 | [],_=>some []
 | (i,cs)::l,j=>b8 (Nat.beq i j) ((eX t cs).bind fun d=>b8 d.2.isEmpty ((WR t l (j+1)).bind fun r=>some (d.1::r)))
def Kz (t:Ty):List (Nat×List LV)->Nat->List Ent->Option (Lits t)
 | [],_,chs=>some ⟨[],[],chs⟩
 | (i,cs)::l,j,chs=>b8 (Nat.beq i j&&Nat.beq cs.length t.size) ((eO t cs chs).bind fun d=>b8 d.cells.isEmpty ((Kz t l (j+1) d.rest).bind fun r=>some ⟨d.d::r.xs,d.used++r.used,r.rest⟩))
section
variable {P:Program} {w0:World} {J:Hp} {θ:Th} {n:Nat} {t:Ty}
theorem KB: ∀ {l:List (Nat×List LV)} {j:Nat} {xs:List t.den},WR t l j=some xs->(∀p∈l,∀x∈p.2,x.ok P w0 J θ n)->l.map (·.1)=(List.range' j l.length)/\xs.length=l.length/\(∀p∈l,p.2.length=t.size)/\ ∀p,p∈(l.map fun p=>p.2.map (·.v θ)).zip xs->t.rep.rd J p.1 p.2
 | [],j,xs,h,hc=>by cases ae (show some [] =some xs from h);simp_all
 | (i,cs)::l,j,xs,h,hc=>by
  have ⟨a,h⟩:=ai (show b8 (Nat.beq i j) _=some xs from h);have ⟨d,k,h⟩:=bind_some h;have ⟨e,h⟩:=ai h;have ⟨r,g,h⟩:=bind_some h;cases ae h;have a:=au a;subst a;have ⟨o,b,c⟩:=jH (J:=J) k (hc (i,cs) (by simp));rw[List.isEmpty_iff.1 e,List.append_nil] at b;subst b;have ⟨f,q,s,m⟩:=KB g fun p hp=>hc p (by grind);refine ⟨by rw[List.map_cons,f];rfl,by grind,fun p hp=>?_,fun p hp=>?_⟩
  ·rcases aG hp with rfl | hp
   ·have:=Rep.rd_len _ c
    rw[List.length_map,t.rep_size] at this;omega
   grind
  ·rcases aG hp with rfl | hp
   ·exact c
   ·exact m p hp
theorem Bx: ∀ {l:List (Nat×List LV)} {j:Nat} {chs:List Ent} {r:Lits t},Kz t l j chs=some r->chs.Perm (r.used++r.rest)
 | [],j,chs,r,h=>by cases ae (show some _=some r from h);rfl
 | (i,cs)::l,j,chs,r,h=>by
  have ⟨e,h⟩:=ai (show b8 (Nat.beq i j&&Nat.beq cs.length t.size) _=some r from h);have ⟨d,a,h⟩:=bind_some h;have ⟨c,h⟩:=ai h;have ⟨q,b,h⟩:=bind_some h;cases ae h;rw[aC];exact (iH a).trans ((Bx b).append_left _)
theorem Ha: ∀ {l:List (Nat×List LV)} {j:Nat} {chs:List Ent} {r:Lits t},Kz t l j chs=some r->(∀p∈l,∀x∈p.2,x.ok P w0 J θ n)->l.map (·.1)=(List.range' j l.length)/\r.xs.length=l.length/\(∀p∈l,p.2.length=t.size)/\rb J (r.used.map (toCh P θ)) (GQ t.rep (l.map fun p=>p.2.map (·.v θ)) r.xs)
 | [],j,chs,r,h,hc=>by cases ae (show some _=some r from h);exact ⟨rfl,rfl,fun p hp=>(by cases hp),xw⟩
 | (i,cs)::l,j,chs,r,h,hc=>by
  have ⟨a,h⟩:=ai (show b8 (Nat.beq i j&&Nat.beq cs.length t.size) _=some r from h);have ⟨d,k,h⟩:=bind_some h;have ⟨e,h⟩:=ai h;have ⟨q,g,h⟩:=bind_some h;cases ae h;rw[ak] at a;have c:=au a.2;have a:=au a.1;subst a;obtain ⟨-,s,b,m⟩:=lF (J:=J) (θ:=θ) k (hc (i,cs) (by simp));rw[List.isEmpty_iff.1 e,List.append_nil] at b;subst b;have ⟨f,u,v,o⟩:=Ha g fun p hp=>hc p (by grind);refine ⟨by rw[List.map_cons,f];rfl,by grind,fun p hp=>?_,?_⟩
  ·grind
  ·rw[aX];exact tI m o
end
section
variable {P:Program} {w0:World} {I:Hp} {o:Oper} {ev:Operand->Value} {s:Sg}
def UW (ev:Operand->Value) (θ:Th):List (Nat×Operand)->List (Nat×List LV)->List (Value×List Value)
 | p::l,q::m=>(ev p.2,q.2.map (·.v θ))::UW ev θ l m
 | _,_=>[]
theorem IY {θ:Th} : ∀ {l:List (Nat×Operand)} {ps:List (Nat×List LV)} {j:Nat},peq (l.map fun p=>(p.1,ev p.2)) (ps.map fun p=>(p.1,p.2.map (·.v θ)))->ps.map (·.1)=List.range' j ps.length->
  l.map (fun p=>(p.1,ev p.2))=((UW ev θ l ps).zipIdx j).map (fun p=>(p.2,p.1.1))/\(UW ev θ l ps).length=ps.length/\(UW ev θ l ps).map (·.2)=ps.map (fun p=>p.2.map (·.v θ))/\ ∀u∈UW ev θ l ps,u.1.cells=u.2.toArray/\ ∃p∈ps,u.2.length=p.2.length
 | [],[],j,_,_=>⟨rfl,rfl,rfl,fun u a=>by cases a⟩
 | (i,x)::l,(i',cs)::ps,j,h,hj=>by
  have ⟨k,f,h⟩:=(show i=i'/\(ev x).cells=(cs.map (·.v θ)).toArray/\peq _ _ from h);have c:i'=j:=by
   have:=congrArg (fun l:List Nat=>l.head?) hj
   simpa [List.range'] using this
  have b:ps.map (·.1)=List.range' (j+1) ps.length:=by
   have:=congrArg List.tail hj
   simpa [List.range'] using this
  have ⟨g,e,d,m⟩:=IY h b;refine ⟨?_,by grind[UW],by show _::_=_::_;rw[d],fun u a=>?_⟩
  ·show (i,ev x)::_=(j,ev x)::_;grind
  ·rcases aG a with rfl | a
   ·simp_all
   grind
 | [],_::_,j,h,_=>h.elim
 | _::_,[],j,h,_=>h.elim
theorem WS {α:Type} {R:Rep α} {E:TypeId} {xs:List α} {rn:List Ch} {fact:Value->Prop} {gv:Value->List Ch} (h:OpT P I w0 o ev rn fact (fun v=>Ch.own (ay E R) [v] xs::gv v)):OpT P I w0 o ev rn (fun v=>fact v/\v.oneCell'=true) (fun v=>Ch.own (ay E R) [v] xs::gv v):=
 OpT.weak (OpT.hdk (fun v=>v) 0 (fun v=>rfl) h) (fun v hv=>⟨hv.1,Hd.one hv.2⟩) fun v hv=>rfl
theorem good_row {rs ns rest:List Ent} {E:TypeId} {t:Ty} {xs:List t.den} (hp:s.chs.Perm (rs++ns++rest)) (a: ∀J θ,Fine P w0 J θ s->OpT P J w0 o (evL (envL θ s)) ((rs++ns).map (toCh P θ)) (fun _=>True) (fun v=>Ch.own (Ty.sl E t).rep [v] xs::rs.map (toCh P θ))):Good P w0 s o ⟨rs,ns,rest,[(⟨s.nxt,[]⟩,.own (.sl E t) xs)],.one (.own ⟨s.nxt,[]⟩)⟩:=
 ⟨hp,aW rfl,fun J θ c=>by
  have h:=WS (a J θ c);have f:OpT P J w0 o (evL (envL θ s)) ((rs++ns).map (toCh P θ)) (fun v=>True/\v.oneCell'=true) (fun v=>rs.map (toCh P θ)++ [Ch.own (Ty.sl E t).rep [v] xs]):=
   fun w C e=>(h w C e).imp fun v w hv=>⟨hv.1,hv.2.perm (List.Perm.append_right C (List.perm_append_comm (l₁:=[_])))⟩
  refine OpT.weak f (fun v b=>⟨⟨aA _,by grind[ep]⟩,ep,fun g d=>?_⟩) (fun v b=>?_)
  ·cases al d;exact ⟨aA _,aA _,trivial⟩
  ·show _=_++ [Ch.own _ [hv (upd θ s.nxt v) ⟨s.nxt,[]⟩] _];rw[ep]⟩
end
section
variable {Y:Type} (tt:TT) (an:List (Nat×Ty)) (s:Sg) (k:Res->Option Y)
def UX (T:TypeId) (parts:Array (Nat×Operand)):Option Y:=(td tt T).bind fun d=>d.place.bind fun pl=>d.bytes.bind fun _=>(partsOf s parts.toList).bind fun ps=>(R9 pl ((zeroCells d.ty).map .val) ps).bind fun r=>k (.pure s (.agg r))
def ac9:List (Nat×Ty)->Nat->Ty->Ty
 | [],_,t=>t
 | (u,t')::l,d,t=>if Nat.beq u d then t' else ac9 l d t
def RE (d:Option Nat) (t:Ty):Ty:=match d with
 | none=>t
 | some d=>ac9 an d t
def newRow (E:TypeId) (t:Ty) (ns rest:List Ent) (xs:List t.den):Option Y:=k ⟨[],ns,rest,[(⟨s.nxt,[]⟩,.own (.sl E t) xs)],.one (.own ⟨s.nxt,[]⟩)⟩
def ab2 (E : TypeId) (n : Nat) (t : Ty) (m : Nat) (l : List (Nat × Operand)) : Option Y := (partsOf s l).bind fun ps => b8 (Nat.beq ps.length (m + 1) && Nat.beq t.size n && Nat.ble ((m + 1) * n) 16777216) (match t.sh with
    | true => (WR t ps 0).bind fun xs => newRow s k E t [] s.chs xs
    | false => (Kz t ps 0 s.chs).bind fun r => newRow s k E t r.used r.rest r.xs)
def ada (dst:Option Nat) (T:TypeId) (m:Nat) (parts:Array (Nat×Operand)):Option Y:=(td tt T).bind fun d=>d.el.bind fun E=>(td tt E).bind fun e=>match m with
 | 0=>b8 parts.toList.isEmpty (newRow s k E (RE an dst e.ty) [] s.chs [])
 | m+1=>e.bytes.bind fun _=>ab2 s k E e.n (RE an dst e.ty) m parts.toList
def IZ:Operand->Operand->Bool
 | .tmp t,.tmp u=>Nat.beq t u
 | .const (.int .i64 m),.const (.int .i64 n)=>match m,n with
  | .ofNat a,.ofNat b=>Nat.beq a b
  | _,_=>false
 | _,_=>false
def Zz (dst:Option Nat) (T:TypeId) (x y:Operand):Option Y:=(td tt T).bind fun d=>d.el.bind fun E=>(td tt E).bind fun e=>e.bytes.bind fun b=>match opd s x with
 | some (.one (.val (.int .i64 l)))=>b8 (IZ x y&&Nat.beq e.ty.size e.n&&decide ((RE an dst e.ty).erase=e.ty.erase)) ((mkI b l (EY (RE an dst e.ty))).bind fun xs=>newRow s k E (RE an dst e.ty) [] s.chs xs)
 | _=>none
end
section
variable {Y:Type} {tt:TT} {an:List (Nat×Ty)} {s:Sg} {k:Res->Option Y} {P:Program} {w0:World} {o:Oper} {res:Y} {x y:Operand}
theorem Oj (q:TTok P tt) {T:TypeId} {parts:Array (Nat×Operand)} (t:o.op= .build T parts) (h:UX tt s k T parts=some res):Oks P w0 s o k res:=by
 have ⟨d,A,h⟩:=bind_some h;have ⟨w,g,h⟩:=bind_some h;have ⟨b,v,h⟩:=bind_some h;have ⟨C,a,h⟩:=bind_some h;have ⟨r,n,h⟩:=bind_some h;have c:=q.get A;obtain ⟨z,i,f,-⟩:=c.zero b v;refine ⟨_,h,fI (fun J θ e=>?_) fun J θ e=>?_⟩
 ·have ⟨l,j⟩:=rh e a;have m:=Ky (θ:=θ) n;rw[List.map_map,show (zeroCells d.ty).map ((fun x:LV=>x.v θ) ∘ LV.val)=zeroCells d.ty from List.map_id' _] at m;exact NO _ (c.place w g) i f t l m
 ·have ⟨l,j⟩:=rh e a;exact G9 n (fun x B=>by
   obtain ⟨u,p,rfl⟩:=List.mem_map.1 B;exact Ku _ u p) j
theorem WU (O:TTok P tt) {T:TypeId} {m:Nat} {parts:Array (Nat×Operand)} (B:o.op= .buildSlice T m parts) (h:ada tt an s k o.dst T m parts=some res):Oks P w0 s o k res:=by
 have ⟨d,Z,h⟩:=bind_some h;have ⟨E,L,h⟩:=bind_some h;have ⟨e,W,h⟩:=bind_some h;have f:=O.get Z;have g:=O.get W;cases m with
 | zero =>
  have ⟨hp,h⟩:=ai (show b8 parts.toList.isEmpty _=some res from h);have v:parts= #[]:=by simpa using hp
  subst v;exact ⟨_,h,good_row (rs:=[]) (by simp) fun J θ n=>RM (f.el E L) g.ti B⟩
 | succ m =>
  have ⟨b,X,h⟩:=bind_some (show e.bytes.bind _=some res from h);have ⟨N,j,h⟩:=bind_some h;have ⟨p,h⟩:=ai h;rw[ak,ak] at p;have a:=au p.1.1;have c:=au p.1.2;have i:=bA p.2;obtain ⟨z,l,U,-⟩:=g.zero b X;have M:0<e.n:=by rw[<-c];exact Ty.size_pos _
  split at h
  ·rename_i D;have ⟨V,C,h⟩:=bind_some h;refine ⟨_,h,good_row (rs:=[]) (by simp) fun J θ n=>?_⟩;have ⟨H,F⟩:=rh n j;have ⟨w,G,S,K⟩:=KB (J:=J) C F;have ⟨I,q,Q,A⟩:=IY H w;exact IL (UW (evL (envL θ s)) θ parts.toList N) V (Ty.cpy D) (by grind) (f.el E L) l M ((Ty.rep_size _).trans c) (Nat.succ_pos _) i B I (q.trans a) (G.trans a) fun u t=>⟨(A u t).1,by
    grind⟩
  ·have ⟨r,R,h⟩:=bind_some h;refine ⟨_,h,good_row (rs:=[]) (Bx R) fun J θ n=>?_⟩;have ⟨H,F⟩:=rh n j;have ⟨w,G,S,K⟩:=Ha (J:=J) R F;have ⟨I,q,Q,A⟩:=IY H w;rw[<-Q] at K;exact OpT.pre K rfl (NK (UW (evL (envL θ s)) θ parts.toList N) r.xs (f.el E L) l M ((Ty.rep_size _).trans c) (Nat.succ_pos _) i B I (q.trans a) (G.trans a) fun u t=>⟨(A u t).1,by
    grind⟩)
theorem Mr {x y:Operand} (h:IZ x y=true):x=y:=by
 unfold IZ at h;split at h
 ·simp_all
 ·split at h
  ·simp_all
  grind
 grind
theorem Sa (n:TTok P tt) {T:TypeId} (u:o.op= .makeSlice T x y) (h:Zz tt an s k o.dst T x y=some res):Oks P w0 s o k res:=by
 have ⟨d,B,h⟩:=bind_some h;have ⟨E,C,h⟩:=bind_some h;have ⟨e,w,h⟩:=bind_some h;have ⟨b,A,h⟩:=bind_some h;have j:=n.get B;have f:=n.get w;split at h
 ·rename_i l p;have ⟨q,h⟩:=ai h;rw[ak,ak] at q;have ⟨⟨a,c⟩,t⟩:=q;have ⟨F,i,h⟩:=bind_some h;have a:=Mr a;have c:=au c;have ⟨z,m,v,g⟩:=f.zero b A;have G:z.cells.toList=zeroCells (RE an o.dst e.ty):=by grind[mW,RE]
  have r:(RE an o.dst e.ty).size=e.n:=by grind[xy,mW]
  refine ⟨_,h,good_row (rs:=[]) (by simp) fun J θ D=>?_⟩;exact Zp (by grind[AU]) (j.el E C) m u ((Ty.rep_size _).trans r) (by grind[Ty.size_pos]) g (aI p) (by rw[<-a];exact aI p) i
 grind
end
section
variable {Y:Type} (tt:TT) (an:List (Nat×Ty)) (s:Sg) (k:Res->Option Y)
def abp (E:TypeId) (b:Nat) (t:Ty) (xs:List t.den) (nsx rest:List Ent) (y:AV):Option Y:=match y with
 | .one (.own h)=>(rowOf h rest).bind fun r=>(pd (.sl r.E r.t) (.sl E t) r.xs).bind fun ys=>(bw b xs ys).bind fun zs=>match t.sh with
  | true=>k ⟨[r.ent h],nsx,r.rest,[(⟨s.nxt,[]⟩,.own (.sl E t) zs)],.one (.own ⟨s.nxt,[]⟩)⟩
  | false=>k ⟨[],nsx++ [r.ent h],r.rest,[(⟨s.nxt,[]⟩,.own (.sl E t) zs)],.one (.own ⟨s.nxt,[]⟩)⟩
 | .one (.rd h t' d)=>b8 t.sh ((pc t' (.sl E t) d).bind fun ys=>(bw b xs ys).bind fun zs=>k ⟨[],nsx,rest,[(⟨s.nxt,[]⟩,.own (.sl E t) zs)],.one (.own ⟨s.nxt,[]⟩)⟩)
 | .one (.rdn h _ t' d)=>b8 t.sh ((pc t' (.sl E t) d).bind fun ys=>(bw b xs ys).bind fun zs=>k ⟨[],nsx,rest,[(⟨s.nxt,[]⟩,.own (.sl E t) zs)],.one (.own ⟨s.nxt,[]⟩)⟩)
 | _=>none
def ZA (y:AV) (t:Ty):Ty:=match y with
 | .one (.own h)=>match rowOf h s.chs with
  | some r=>r.t
  | none=>t
 | _=>t
def adb (dst:Option Nat) (T:TypeId) (x y:Operand):Option Y:=(td tt T).bind fun d=>d.el.bind fun E=>(td tt E).bind fun e=>e.bytes.bind fun b=>(opd s y).bind fun yv=>match opd s x with
 | some (.one (.own h))=>(rowOf h s.chs).bind fun r=>b8 (Nat.beq r.E E&&Nat.beq r.t.size e.n) (abp s k r.E b r.t r.xs [r.ent h] r.rest yv)
 | some (.one (.val v))=>b8 (isNil v&&Nat.beq (ZA s yv (RE an dst e.ty)).size e.n) (abp s k E b (ZA s yv (RE an dst e.ty)) [] [] s.chs yv)
 | _=>none
end
section
variable {Y:Type} {tt:TT} {an:List (Nat×Ty)} {s:Sg} {k:Res->Option Y} {P:Program} {w0:World} {o:Oper} {res:Y} {x y:Operand}
theorem OpT.nilrow {I:Hp} {ev:Operand->Value} {α:Type} {E:TypeId} {R:Rep α} {rn:List Ch} {fact:Value->Prop} {gv:Value->List Ch} (h:OpT P I w0 o ev (Ch.own (ay E R) [.slice none 0 0] ([] :List α)::rn) fact gv):OpT P I w0 o ev rn fact gv:=fun w C a=>h w C a.nil
theorem OpT.permN {I:Hp} {ev:Operand->Value} {rn a:List Ch} {fact:Value->Prop} {gv:Value->List Ch} (hp:a.Perm rn) (h:OpT P I w0 o ev rn fact gv):OpT P I w0 o ev a fact gv:=fun w C b=>h w C (b.perm (hp.append_right C))
theorem y7 {r:Row} {E:TypeId} {t:Ty} {ys:List t.den} {h:Hdr} (b:pd (.sl r.E r.t) (.sl E t) r.xs=some ys):r.ent h=(h,r.ver,.own (.sl E t) ys):=by
 have ⟨e,a⟩:=pe b;obtain ⟨rfl,rfl⟩:=Ty.sl.inj e;rw[a];rfl
theorem Ok {T E:TypeId} {z:Value} {n b:Nat} {t:Ty} {xs:List t.den} {nsx rest:List Ent} {H:AV} (hp:s.chs.Perm (nsx++rest)) (w:P.underlying T=some (.slice E)) (B:TZ P E z n b) (j:z.cells.size=n) (u:0<n) (m:t.size=n) (i:1<=b) (A:o.op= .call { callee:=.builtin .append,args:= #[x,y],argTypes:= #[T,T] }) (p:opd s y=some H)
  (e: ∀J θ,Fine P w0 J θ s-> ∃v,evL (envL θ s) x=v/\ ∀(rn:List Ch) (fact:Value->Prop) (D:Value->List Ch),OpT P J w0 o (evL (envL θ s)) (Ch.own (ay E t.rep) [v] xs::rn) fact D->OpT P J w0 o (evL (envL θ s)) (nsx.map (toCh P θ)++rn) fact D)
  (h:abp s k E b t xs nsx rest H=some res):Oks P w0 s o k res:=by
 unfold abp at h;split at h
 ·rename_i K;have ⟨r,L,h⟩:=bind_some h;have ⟨G,f,h⟩:=bind_some h;have ⟨C,a,h⟩:=bind_some h;obtain ⟨q,-⟩:=bU L;have F:=y7 (h:=K) f;split at h
  ·rename_i d;refine ⟨_,h,good_row (hp.trans ((q.append_left nsx).trans List.perm_middle)) fun J θ g=>?_⟩;have ⟨v,c,e⟩:=e J θ g;rw[F]
   have:=GS (P:=P) (I:=J) (w0:=w0) (R:=t.rep) a (Ty.sh_ok d) (Ty.cpy d) w B j u (t.rep_size.trans m) i A c (aI (θ:=θ) p)
   exact OpT.permN (List.perm_append_comm (l₁:=[_])) (e _ _ _ this)
  ·refine ⟨_,h,good_row (rs:=[]) (by
    have:=hp.trans (q.append_left nsx)
    grind) fun J θ g=>?_⟩
   have ⟨v,c,e⟩:=e J θ g;rw[F]
   have:=Wm (P:=P) (I:=J) (w0:=w0) (R:=t.rep) a w B j u (t.rep_size.trans m) i A c (aI (θ:=θ) p)
   have:=e _ _ _ this
   rw[List.nil_append,aX];exact this
 ·have ⟨d,h⟩:=ai h;have ⟨G,f,h⟩:=bind_some h;have ⟨C,a,h⟩:=bind_some h;refine ⟨_,h,good_row (rs:=[]) hp fun J θ g=>?_⟩;have ⟨v,c,e⟩:=e J θ g;have l:=jF f (b7 g p).2
  have:=wC (P:=P) (I:=J) (w0:=w0) (R:=t.rep) (S:=t.rep) (E':=E) a (Ty.cpy d) (t.rep_size.trans m) l w B j u (t.rep_size.trans m) i A c (aI (θ:=θ) p)
  have:=e _ _ _ this
  rw[List.append_nil] at this;exact this
 ·have ⟨d,h⟩:=ai h;have ⟨G,f,h⟩:=bind_some h;have ⟨C,a,h⟩:=bind_some h;refine ⟨_,h,good_row (rs:=[]) hp fun J θ g=>?_⟩;have ⟨v,c,e⟩:=e J θ g;have l:=jF f (b7 g p).2.1
  have:=wC (P:=P) (I:=J) (w0:=w0) (R:=t.rep) (S:=t.rep) (E':=E) a (Ty.cpy d) (t.rep_size.trans m) l w B j u (t.rep_size.trans m) i A c (aI (θ:=θ) p)
  have:=e _ _ _ this
  rw[List.append_nil] at this;exact this
 grind
theorem WV (q:TTok P tt) {T:TypeId} (t:o.op= .call { callee:=.builtin .append,args:= #[x,y],argTypes:= #[T,T] }) (h:adb tt an s k o.dst T x y=some res):Oks P w0 s o k res:=by
 have ⟨d,H,h⟩:=bind_some h;have ⟨E,w,h⟩:=bind_some h;have ⟨e,C,h⟩:=bind_some h;have ⟨b,D,h⟩:=bind_some h;have ⟨I,u,h⟩:=bind_some h;have j:=q.get H;have g:=q.get C;have ⟨z,n,m,i⟩:=g.zero b D;have l:z.cells.size=e.n:=by rw[m,List.size_toArray,xy,g.sz]
 split at h
 ·rename_i F p;have ⟨r,G,h⟩:=bind_some h;have ⟨f,h⟩:=ai h;rw[ak] at f;have c:=au f.1;have a:=au f.2;obtain ⟨hp,-⟩:=bU G;exact Ok (nsx:=[r.ent F]) hp ((j.el E w).trans (by rw[c])) (by grind) l (by grind[Ty.size_pos]) a i t u (fun J θ A=>⟨_,aI p,fun rn fact B h=>h⟩) h
 ·rename_i v p;have ⟨f,h⟩:=ai h;rw[ak] at f;have c:=oM f.1;have a:=au f.2;refine Ok (nsx:=[]) (List.Perm.refl _) (j.el E w) n l (by grind[Ty.size_pos]) a i t u (fun J θ A=>⟨_,aI p,fun rn fact B h=>?_⟩) h;rw[show (AV.one (LV.val v)).v θ= .slice none 0 0 from c] at h;exact OpT.nilrow h
 grind
end
structure Hol where
 ver:Nat
 over:Nat
 t:Ty
 d:t.den
 u:Ty
 y:u.den
 f:u.den->t.den
 i:Int
 k:Nat
 off:Nat
 lv:LV
 rest:List Ent
def I0 (h:Hdr) (chs:List Ent):Option Hol:=(pull h chs).bind fun r=>match r.1.2.2 with
 | .hole over t d u y f i k off lv=>some ⟨r.1.2.1,over,t,d,u,y,f,i,k,off,lv,r.2⟩
 | _=>none
def Hol.ent (r:Hol) (h:Hdr):Ent:=(h,r.ver,.hole r.over r.t r.d r.u r.y r.f r.i r.k r.off r.lv)
theorem AX {h:Hdr} {chs:List Ent} {r:Hol} (e:I0 h chs=some r):chs.Perm (r.ent h::r.rest):=by
 have ⟨q,b,e⟩:=bind_some e;have ⟨p,k⟩:=gB b;have ⟨⟨g,a,c⟩,rest⟩:=q;obtain rfl:g=h:=k;cases c with
 | hole over t d u y f i k off j =>
  cases ae (show some _=some r from e);exact p
 | _=>cases e
def partOf (r:Hol):Option (Bool×r.u.den×List Ent):=match r.lv with
 | .own l=>(pull l r.rest).bind fun q=>match q.1.2.2 with
  | .own u' d=>(pd u' r.u d).bind fun d=>some (Nat.beq q.1.2.1 r.ver,d,q.2)
  | _=>none
 | _=>none
theorem Hb {r:Hol} {q:Bool×r.u.den×List Ent} (h:partOf r=some q): ∃l a,r.lv= .own l/\r.rest.Perm ((l,a,.own r.u q.2.1)::q.2.2)/\(q.1=true->a=r.ver):=by
 have ⟨a,over,t,d,u,y,f,i,k,off,b,rest⟩:=r;cases b with
 | own l =>
  have ⟨e,c,h⟩:=bind_some (show (pull l rest).bind _=some q from h);grind[gB,bind_some,pd,bind,ae,pe,au]
 | _=>cases h
def I1 (h:Hdr) (s:Sg):Option Sg:=(I0 h s.chs).bind fun r=>(partOf r).bind fun q=>match q.1 with
 | true=>some ⟨s.env,(h,r.over,.own r.t r.d)::q.2.2,s.nxt+1⟩
 | false=>some ⟨s.env,(h,s.nxt,.own r.t (r.f q.2.1))::q.2.2,s.nxt+1⟩
section
variable {P:Program} {I J:Hp} {w0 w:World} {F:Ch} {n:Nat} {θ:Th} {s s':Sg} {a:Act} {o:Oper}
theorem Sim.chs (c:Sim P I w0 F n J θ s a w) {b:List Ent} (g:St J w0 w (b.map (toCh P θ)++ [F])) (h:Newer s.nxt s.chs b) (f: ∀e∈b,okE P w0 J θ (s.nxt+1) b e):Sim P I w0 F n J θ ⟨s.env,b,s.nxt+1⟩ a w:=
 ⟨c.le,c.agr,g,fun e d=>AV.ok_same Same.rfl (Nat.le_succ _) h (c.fine.env e d) Hp.le.rfl,fun e d=>a8 (c.fine.ver e d),c.fine.nd,f,c.fine.lay⟩
theorem Ms {h:Hdr} (hs:I1 h s=some s') (m:Sim P I w0 F n J θ s a w):Sim P I w0 F n J θ s' a w:=by
 have ⟨r,E,hs⟩:=bind_some hs;have ⟨q,D,hs⟩:=bind_some hs;have hp:=AX E;have ⟨l,x,z,y,B⟩:=Hb D;have k:=hp.trans (y.cons _);have g:=m.fine.chs (r.ent h) (hp.mem_iff.2 (by simp));have j:St J w0 w (Ch.own r.t.rep [hv θ h] (r.f q.2.1)::(q.2.2.map (toCh P θ)++ [F])):=by
  have C:=m.st.perm ((k.map (toCh P θ)).append_right [F]);have A:St J w0 w (Ch.own r.u.rep [hv θ l] q.2.1::Ch.gap r.t.rep [hv θ h] r.u.rep r.f (ptB (hv θ h)) (ptO (hv θ h)+(r.i.toNat*r.k+r.off)) (r.lv.v θ)::(q.2.2.map (toCh P θ)++ [F])):=C.perm (List.Perm.swap _ _ _);rw[z] at A;exact St.settle A
 have i: ∀e,e∈q.2.2->e∈s.chs:=fun e f=>k.mem_iff.2 (by grind);cases v:q.1 with
 | true =>
  rw[v] at hs;cases ae (show some _=some s' from hs);have p:=B v;have H:q.2.1=r.y:=by
   have:=(g.2.2.2.2.2 l z).2 (l,x,.own r.u q.2.1) (k.mem_iff.2 (by simp)) _ ⟨rfl,.inl ⟨p,rfl⟩⟩
   injection this with _ K
  have u:r.f q.2.1=r.d:=by rw[H];exact g.2.2.2.2.1
  rw[u] at j;have d:Newer s.nxt s.chs ((h,r.over,.own r.t r.d)::q.2.2):=fun e f G t c b=>by
   rcases aG f with rfl | f
   ·obtain ⟨rfl,b⟩:=b;rcases b with ⟨rfl,rfl⟩ | b
    ·exact .inr ⟨r.ent h,hp.mem_iff.2 (by simp),rfl,.inr ⟨rfl,rfl⟩⟩
    ·exact b.elim
   grind
  refine m.chs j d fun e f=>?_;rcases aG f with rfl | f
  ·exact ⟨a8 g.1,a8 (Nat.lt_trans g.2.2.2.1 g.2.1),trivial⟩
  ·exact gM Same.rfl (Nat.le_succ _) d (m.fine.chs e (i e f)) Hp.le.rfl
 | false =>
  rw[v] at hs;cases ae (show some _=some s' from hs);have d:Newer s.nxt s.chs ((h,s.nxt,.own r.t (r.f q.2.1))::q.2.2):=fun e f G t c b=>by
   rcases aG f with rfl | f
   ·obtain ⟨rfl,b⟩:=b;rcases b with ⟨rfl,rfl⟩ | b
    ·grind
    ·exact b.elim
   grind
  refine m.chs j d fun e f=>?_;rcases aG f with rfl | f
  ·exact ⟨a8 g.1,aA _,trivial⟩
  ·exact gM Same.rfl (Nat.le_succ _) d (m.fine.chs e (i e f)) Hp.le.rfl
def settle:Nat->Hdr->Sg->Sg
 | 0,_,s=>s
 | m+1,h,s=>match I0 h s.chs with
  | some r=>match r.lv with
   | .own l=>match I1 h (settle m l s) with
    | some s'=>s'
    | none=>s
   | _=>s
  | none=>s
theorem By: ∀ {m:Nat} {h:Hdr} {s:Sg},Sim P I w0 F n J θ s a w->Sim P I w0 F n J θ (settle m h s) a w
 | 0,_,_,hS=>hS
 | m+1,h,s,hS=>by
  unfold settle;split
  ·split
   ·split
    ·rename_i b;exact Ms b (By hS)
    omega
   omega
  omega
end
section
variable {Y:Type} (tt:TT) (s:Sg) (k:Res->Option Y)
def Ol (T:TypeId) (x y:Operand):Option Y:=(td tt T).bind fun d=>match opd s x,opd s y with
 | some (.elo h ver E t xs a i off),some (.one lv)=>(I0 h s.chs).bind fun r=>b8 (Nat.beq r.k t.size&&Nat.beq r.off off && !d.agg&&Nat.beq d.n 1&&(match lv with | .own l=> !(Hdr.beq l h) | _=>true)) ((chk (i=r.i)).bind fun _=>k ⟨[],[r.ent h],r.rest,[(h,.hole r.over r.t r.d r.u r.y r.f r.i r.k r.off lv)],.any ⟨s.nxt,[]⟩⟩)
 | _,_=>none
end
theorem E9 (h:Hdr):Hdr.beq h h=true:=by grind[Hdr.beq,Nat.beq_refl,Bo]
section
variable {Y:Type} {tt:TT} {s:Sg} {k:Res->Option Y} {P:Program} {w0:World} {o:Oper} {res:Y} {x y:Operand}
theorem Mt (Z:TTok P tt) {T:TypeId} (ho:o.op= .store T x y) (h:Ol tt s k T x y=some res):Oks P w0 s o k res:=by
 have ⟨d,hd,h⟩:=bind_some h;split at h
 ·rename_i b ver E t xs a i off N hx Q;have ⟨r,hr,h⟩:=bind_some h;have ⟨U,h⟩:=ai h;rw[ak,ak,ak,ak] at U;have ⟨⟨⟨⟨w,n⟩,p⟩,q⟩,X⟩:=U;have ⟨u,G,h⟩:=bind_some h;have G:=bO G;have w:=au w;have n:=au n;have p:d.agg=false:=by simpa using p
  have q:=au q;have hp:=AX hr;have C:=(Z.get hd).ti;rw[p,q] at C;refine ⟨_,h,Dg hp,fun J θ D g B O c F=>?_,fun J θ D=>?_⟩
  ·cases al B;exact ⟨r.ent b,hp.mem_iff.2 (by simp),rfl,.inr F⟩
  ·have j:=lP D hp;have z:=b7 D Q;have M:evL (envL θ s) x= .pointer (some ⟨ptB (hv θ b),ptO (hv θ b)+(r.i.toNat*r.k+r.off),none⟩):=by
    rw[aI (θ:=θ) hx,w,n,<-G];rfl
   have V: ∀u,hv (upd θ s.nxt u) b=hv θ b:=fun u=>bc Same.upd j.1
   have:=E8 (P:=P) (I:=J) (w0:=w0) (R:=r.t.rep) (S:=r.u.rep) (cs:=[hv θ b]) (f:=r.f) (v:=r.lv.v θ) C ho M (aI (θ:=θ) Q) (LV.one z)
   refine OpT.weak this (fun v K=>⟨aA _,ep,fun g B=>?_⟩) (fun v K=>?_)
   ·cases al B;refine ⟨a8 j.1,aA _,LV.ok_same Same.upd (Nat.le_succ _) z Hp.le.rfl,Nat.lt_trans j.2.2.2.1 j.2.1,j.2.2.2.2.1,fun l hl=>?_⟩;have H:l≠b:=fun e=>by
     grind[Hdr.beq,E9]
    refine ⟨aA _,fun e A c F=>?_⟩;rcases aE A with A | A
    ·obtain ⟨g,B,rfl⟩:=List.mem_map.1 A;cases al B;exact absurd F.1.symm H
    ·have A:e∈s.chs:=hp.mem_iff.2 (bq _ (by grind));have m:=D.chs e A;have ⟨h',v',W⟩:=e;rcases F.2 with ⟨L,h2⟩ | L
     ·have:=m.2.1
      grind
     ·cases W with
      | hole over _ _ _ _ _ _ _ _ _ =>
       have:=Nat.lt_trans m.2.2.2.1 m.2.1
       rw[L.1] at this;grind
      | _=>exact L.elim
   ·show [Ch.gap _ [hv θ b] _ _ (ptB (hv θ b)) (ptO (hv θ b)+_) (N.v θ)] = [Ch.gap _ [hv (upd θ s.nxt v) b] _ _ (ptB (hv (upd θ s.nxt v) b)) (ptO (hv (upd θ s.nxt v) b)+_) (N.v (upd θ s.nxt v))];rw[V,LV.v_same Same.upd z]
 grind
end
inductive PM
 | rd (t:Ty)
 | ow (t:Ty)
 | fn (ps rs:List Ty)
 | cap (T:TypeId) (t:Ty)
 | capf (T:TypeId) (ps rs:List Ty)
 | ptr (T:TypeId) (t:Ty)
 | eat (t:Ty)
 | fk (g:Nat)
 | crs (T:TypeId) (E:TypeId)
 | kb (g:Nat) (T:TypeId) (t:Ty)
 | kc (g:Nat)
 deriving DecidableEq
def PM.den:PM->Type
 | .rd t=>t.den
 | .ow t=>t.den
 | .fn ps rs=>cur ps (Option (dens rs))
 | .cap _ t=>t.den
 | .capf _ ps rs=>cur ps (Option (dens rs))
 | .ptr _ t=>t.den
 | .eat t=>t.den
 | .fk _=>Unit
 | .crs _ _=>List Int×Int×Int
 | .kb _ _ t=>t.den
 | .kc _=>Unit
def denP:List PM->Type
 | [] =>Unit
 | p::ps=>p.den×denP ps
def curP:List PM->Type->Type
 | [],R=>R
 | p::ps,R=>p.den->curP ps R
def appP {R:Type} :(ps:List PM)->curP ps R->denP ps->R
 | [],f,_=>f
 | _::ps,f,d=>appP ps (f d.1) d.2
def PM.out:PM->List Ty
 | .ow t=>[t]
 | .ptr _ t=>[t]
 | .crs _ _=>[.prod (.int .i64) (.int .i64)]
 | .kb _ _ t=>[t]
 | _=>[]
def outs:List PM->List Ty
 | [] =>[]
 | p::ps=>match p with
  | .ow t=>t::outs ps
  | .ptr _ t=>t::outs ps
  | .crs _ _=>.prod (.int .i64) (.int .i64)::outs ps
  | .kb _ _ t=>t::outs ps
  | _=>outs ps
def hFst:(ts us:List Ty)->kK (ts++us)->kK ts
 | [],_,_=>()
 | _::ts,us,d=>(d.1,hFst ts us d.2)
def hSnd:(ts us:List Ty)->kK (ts++us)->kK us
 | [],_,d=>d
 | _::ts,us,d=>hSnd ts us d.2
structure FS where
 ps:List PM
 rs:List Ty
 m:curP ps (Option (dens (rs++outs ps)))
 cl:Option (TypeId×Nat)
theorem ZB:IE.Dp:=Bl
def y8 (P:Program) (k:FuncId) (E b:Nat):Prop:=Enters P k/\ ∀(E':TypeId) (I:Hp) (w0:World) (v:Value) (xs zs:List Raw),Lay P I->(ay E' IE).rd I [v] xs->bw b [] xs=some zs->Con P k #[v] I w0 [] (fun _=>True) (fun r=>[Ch.own (ay E IE) [r] zs])
abbrev FT:=List (Nat×FS)
def fs (ft:FT) (k:Nat):Option FS:=match ft with
 | [] =>none
 | (j,f)::l=>if Nat.beq j k then some f else fs l k
def ab3 (P:Program) (w0:World) (J:Hp) (γ:Value):(p:PM)->Value->p.den->Prop
 | .rd t,v,d=> ∃cs,Lds t.isProd cs v/\t.rep.rd J cs d
 | .ow t,v,_=>re v=t.isProd
 | .fn a b,v,d=>FnOk P w0 J v a b d
 | .cap T t,v,d=> ∃b,v= .pointer (some ⟨b,0,none⟩)/\ ∃cells:List Value,J b=some (.cells cells.toArray T (0,0))/\t.rep.rd J cells d
 | .capf T x y,v,d=> ∃b,v= .pointer (some ⟨b,0,none⟩)/\ ∃u:Value,J b=some (.cells [u].toArray T (0,0))/\FnOk P w0 J u x y d
 | .ptr T t,v,_=> ∃b,v= .pointer (some ⟨b,0,none⟩)
 | .eat t,v,_=>re v=t.isProd
 | .fk g,v,_=>v= .func (.func g) #[] #[]
 | .crs _ E,v,d=>(∃b,v= .pointer (some ⟨b,0,none⟩))/\(Ty.sl E (.int .u8)).rep.rd J [γ] d.1
 | .kb g _ _,v,_=>v= .func (.func g) #[] #[γ] /\ ∃b,γ= .pointer (some ⟨b,0,none⟩)
 | .kc g,v,_=>v= .func (.func g) #[] #[γ] /\ ∃b,γ= .pointer (some ⟨b,0,none⟩)
def PArgs (P:Program) (w0:World) (J:Hp) (γ:Value):(ps:List PM)->List Value->denP ps->Prop
 | [],vs,_=>vs= []
 | p::ps,vs,d=> ∃v r,vs=v::r/\ab3 P w0 J γ p v d.1/\PArgs P w0 J γ ps r d.2
def owCh (γ:Value):(ps:List PM)->List Value->denP ps->List Ch
 | p::ps,v::vs,d=>match p,d with
  | .ow t,d=>Ch.own t.rep (lO t.isProd v) d.1::owCh γ ps vs d.2
  | .ptr T t,d=>Ch.box (bk v) T t.rep d.1::owCh γ ps vs d.2
  | .eat t,d=>Ch.own t.rep (lO t.isProd v) d.1::owCh γ ps vs d.2
  | .rd _,d=>owCh γ ps vs d.2
  | .fn _ _,d=>owCh γ ps vs d.2
  | .cap _ _,d=>owCh γ ps vs d.2
  | .capf _ _ _,d=>owCh γ ps vs d.2
  | .fk _,d=>owCh γ ps vs d.2
  | .crs T _,d=>Ch.blk (bk v) [γ,.int .i64 d.1.2.1,.int .i64 d.1.2.2] T::owCh γ ps vs d.2
  | .kb _ T t,d=>Ch.box (bk γ) T t.rep d.1::owCh γ ps vs d.2
  | .kc _,d=>owCh γ ps vs d.2
 | _,_,_=>[]
def outCh (γ:Value):(ps:List PM)->List Value->kK (outs ps)->List Ch
 | p::ps,v::vs,d=>match p,d with
  | .ow t,d=>Ch.own t.rep (lO t.isProd v) d.1::outCh γ ps vs d.2
  | .ptr T t,d=>Ch.box (bk v) T t.rep d.1::outCh γ ps vs d.2
  | .eat _,d=>outCh γ ps vs d
  | .rd _,d=>outCh γ ps vs d
  | .fn _ _,d=>outCh γ ps vs d
  | .cap _ _,d=>outCh γ ps vs d
  | .capf _ _ _,d=>outCh γ ps vs d
  | .fk _,d=>outCh γ ps vs d
  | .crs T _,d=>Ch.blk (bk v) [γ,.int .i64 d.1.1,.int .i64 d.1.2] T::outCh γ ps vs d.2
  | .kb _ T t,d=>Ch.box (bk γ) T t.rep d.1::outCh γ ps vs d.2
  | .kc _,d=>outCh γ ps vs d
 | _,_,_=>[]
def abq (P:Program) (k:FuncId):Prop:= ∀(w:World) (g h oa ob la lb ca cb:Nat) (curA curB:Array Value) (tA tB:TypeId),g≠h->w.heap[g]? =some (.cells curA tA (0,0))->w.heap[h]? =some (.cells curB tB (0,0))->0<curB.size->(callFunc k #[.slice (some ⟨g,oa,none⟩) la ca,.slice (some ⟨h,ob,none⟩) lb cb]).run P w= .ok (.value (.bool false)) w
def ZC (P:Program) (k:FuncId) (T f:Nat):Prop:=Enters P k/\ ∀(I:Hp) (w0:World) (c d:List Value),Con P k #[.agg c.toArray,.agg d.toArray] I w0 []
 (fun v=> ∃b1 b2,v= .func (.func f) #[] #[.pointer (some ⟨b1,0,none⟩),.pointer (some ⟨b2,0,none⟩)]) (fun v=>[Ch.emp,Ch.blk (bk (vg v [0])) c T,Ch.blk (bk (vg v [1])) d T])
def FS.ov (f:FS):Bool:=match f.cl with
 | some q=>Nat.beq q.2 0 || Nat.beq q.2 9
 | none=>false
def ClOk (P:Program) (k:FuncId) (E b:Nat):Prop:=(Nat.beq b 0=true->abq P k)/\(Nat.beq b 0=false->Nat.beq b 7=false->Nat.ble 1000 b=false->Nat.beq b 9=false->y8 P k E b)/\(Nat.ble 1000 b=true->ZC P k E (b - 1000))
def zX:(ts:List Ty)->kK ts->Value->Prop
 | [.sl _ t],d,v=>List.length (α:=t.den) d.1=0->v= .slice none 0 0
 | _,_,_=>True
def NilOk (P : Program) (k : FuncId) (f : FS) : Prop := ∀ w0 J γ vs (d : denP f.ps) r, Lay P J -> PArgs P w0 J γ f.ps vs d -> appP f.ps f.m d = some r ->
    Con P k vs.toArray J w0 (owCh γ f.ps vs d) (fun v => resFa f.rs v /\ zX f.rs (hFst f.rs (outs f.ps) (toH _ r)) v) (fun v => resGv f.rs (hFst f.rs (outs f.ps) (toH _ r)) v ++ outCh γ f.ps vs (hSnd f.rs (outs f.ps) (toH _ r)))
def WW:(ts:List Ty)->kK ts->Option (List Int)
 | [],_=>some []
 | .int .i64::ts,d=>(WW ts d.2).map fun l=>d.1::l
 | _::_,_=>none
def NewOk (P : Program) (k : FuncId) (T : Nat) (f : FS) : Prop := Enters P k /\ ∀ w0 J γ vs (d : denP f.ps) r ns, Lay P J -> PArgs P w0 J γ f.ps vs d -> appP f.ps f.m d = some r -> WW (f.rs ++ outs f.ps) (toH _ r) = some ns ->
    Con P k vs.toArray J w0 [] (fun v => ∃ b, v = .pointer (some ⟨b, 0, none⟩)) (fun v => [Ch.blk (bk v) (vs ++ ns.map (Value.int .i64)) T])
structure FOk (P:Program) (k:FuncId) (f:FS):Prop where
 cl: ∀q,f.cl=some q->ClOk P k q.1 q.2/\(Nat.beq q.2 7=true->NilOk P k f)/\(Nat.beq q.2 9=true->NewOk P k q.1 f)
 en:f.ov=false->Enters P k
 con:f.ov=false-> ∀w0 J γ vs (d:denP f.ps) r,Lay P J->PArgs P w0 J γ f.ps vs d->appP f.ps f.m d=some r->
  Con P k vs.toArray J w0 (owCh γ f.ps vs d) (resFa f.rs) (fun v=>resGv f.rs (hFst f.rs (outs f.ps) (toH _ r)) v++outCh γ f.ps vs (hSnd f.rs (outs f.ps) (toH _ r)))
def FTok (P:Program):FT->Prop
 | [] =>True
 | (k,f)::l=>FOk P k f/\FTok P l
theorem FTok.get {P:Program} {k:Nat} {f:FS} : ∀ {a:FT},FTok P a->fs a k=some f->FOk P k f
 | (j,x)::l,⟨h1,h2⟩,h=>by
  unfold fs at h;split at h
  ·rename_i b
   have:=au b
   subst this;rw[<-ae h];exact h1
  ·exact FTok.get h2 h
def Ty.dp:Ty->Bool
 | .prod a b=>a.dp&&b.dp
 | .sl _ t=>t.dp
 | .fro _=>false
 | .bag _=>false
 | .wr t=>t.dp
 | .tree _ _ _=>false
 | _=>true
theorem Ty.dp_ok: ∀ {t:Ty},t.dp=true->t.rep.Dp
 | .int _,_=>Bl
 | .bool,_=>Wh
 | .str,_=>Zl
 | .raw,_=>Bl (α:=Raw) (enc:=(·.1)) (h1:=(·.2))
 | .prod a b,h=>by
  have h:(a.dp&&b.dp)=true:=h;rw[ak] at h;exact Wi (dp_ok h.1) (dp_ok h.2)
 | .sl _ t,h=>ER (dp_ok (show t.dp=true from h))
 | .fro _,h=>by cases h
 | .bag _,h=>by cases h
 | .wr t,h=>dp_ok (t:=t) h
 | .tree _ _ _,h=>by cases h
def nB (id:Nat) (pth:Nat->List Nat):(t:Ty)->t.den->Nat->List LV
 | .int k,d,_=>[.val (.int k d)]
 | .bool,d,_=>[.val (.bool d)]
 | .str,d,_=>[.val (.string d)]
 | .raw,d,_=>[.val d.1]
 | .prod a b,d,j=>nB id pth a d.1 j++nB id pth b d.2 (j+a.size)
 | .sl E t,d,j=>[.rd ⟨id,pth j⟩ (.sl E t) d]
 | .fro t,d,j=>nB id pth t d j
 | .bag t,d,j=>nB id pth t d j
 | .wr t,d,j=>nB id pth t d j
 | .tree T E t,d,j=>[.rd ⟨id,pth j⟩ (.tree T E t) d]
theorem kp {P:Program} {w0:World} {J:Hp} {θ:Th} {id n:Nat} {pth:Nat->List Nat} (e:id<n): ∀(t:Ty) (d:t.den) (j:Nat) (cs:List Value),t.rep.rd J cs d->(∀i v,cs[i]? =some v->vg (θ id) (pth (j+i))=v)->
  (∀x∈nB id pth t d j,x.ok P w0 J θ n)/\(nB id pth t d j).map (·.v θ)=cs
 | .int k,d,j,cs,h,_=>⟨fun x c=>by cases al c;rfl,h.symm⟩
 | .bool,d,j,cs,h,_=>⟨fun x c=>by cases al c;rfl,h.symm⟩
 | .str,d,j,cs,h,_=>⟨fun x c=>by cases al c;rfl,h.symm⟩
 | .raw,d,j,cs,h,_=>⟨fun x c=>by cases al c;exact d.2,h.symm⟩
 | .prod a b,d,j,cs,h,hc=>by
  obtain ⟨m,l,rfl,g,p⟩:=h;have r:=(Rep.rd_len _ g).trans a.rep_size;obtain ⟨o,w⟩:=kp e a d.1 j m g fun i v hv=>hc i v (by grind);obtain ⟨q,s⟩:=kp e b d.2 (j+a.size) l p fun i v hv=>by
   have:=hc (a.size+i) v (by grind)
   rwa [show j+a.size+i=j+(a.size+i) from by omega]
  refine ⟨fun x c=>?_,?_⟩
  ·rcases aE c with c | c
   ·exact o x c
   ·exact q x c
  grind[nB]
 | .sl E t,d,j,cs,h,hc=>by
  obtain ⟨u,rfl⟩:=List.length_eq_one_iff.1 (Rep.rd_len _ h);have f:hv θ ⟨id,pth j⟩=u:=by
   have:=hc 0 u rfl
   rwa [Nat.add_zero] at this
  refine ⟨fun x c=>?_,?_⟩
  ·cases al c;exact ⟨e,by grind⟩
  ·show [hv θ ⟨id,pth j⟩] = [u];rw[f]
 | .fro t,d,j,cs,h,hc=>kp e t d j cs h hc
 | .bag t,d,j,cs,h,hc=>kp e t d j cs h hc
 | .wr t,d,j,cs,h,hc=>kp e t d j cs h hc
 | .tree T E t,d,j,cs,h,hc=>by
  obtain ⟨u,rfl⟩:=List.length_eq_one_iff.1 (Rep.rd_len _ h);have f:hv θ ⟨id,pth j⟩=u:=by
   have:=hc 0 u rfl
   rwa [Nat.add_zero] at this
  refine ⟨fun x c=>?_,?_⟩
  ·cases al c;exact ⟨e,by grind⟩
  ·show [hv θ ⟨id,pth j⟩] = [u];rw[f]
def jm (id:Nat) (pth:Nat->List Nat):(t:Ty)->t.den->Nat->List LV
 | .int k,d,_=>[.val (.int k d)]
 | .bool,d,_=>[.val (.bool d)]
 | .str,d,_=>[.val (.string d)]
 | .raw,d,_=>[.val d.1]
 | .prod a b,d,j=>jm id pth a d.1 j++jm id pth b d.2 (j+a.size)
 | .sl _ _,_,j=>[.own ⟨id,pth j⟩]
 | .fro t,d,j=>nB id pth t d j
 | .bag t,_,j=>(List.range t.size).map fun i=>.own ⟨id,pth (j+i)⟩
 | .wr t,d,j=>jm id pth t d j
 | .tree _ _ _,_,j=>[.own ⟨id,pth j⟩]
def sR (id:Nat) (pth:Nat->List Nat):(t:Ty)->t.den->Nat->List (Hdr×Chk)
 | .prod a b,d,j=>sR id pth a d.1 j++sR id pth b d.2 (j+a.size)
 | .wr t,d,j=>sR id pth t d j
 | .tree T E t,d,j=>[(⟨id,pth j⟩,.own (.tree T E t) d)]
 | .sl E t,d,j=>[(⟨id,pth j⟩,.own (.sl E t) d)]
 | _,_,_=>[]
section
variable {P:Program} {I J:Hp} {w0 w:World} {C:List Ch} {θ:Th} {n m:Nat}
theorem KD {α β:Type} {A:Rep α} {B:Rep β} {cs:List Value} {x:α×β} (h:St I w0 w (Ch.own (tv A B) cs x::C)): ∃c d,cs=c++d/\c.length=A.size/\St I w0 w (Ch.own A c x.1::Ch.own B d x.2::C):=by
 obtain ⟨k,j,F,⟨G,K,rfl,⟨c,d,f,a,rfl,rfl,b,i⟩,e⟩,l,g⟩:=h;exact ⟨c,d,rfl,A.own_len b,k,j,(f++a)++K,⟨f,a++K,by grind,b,a,K,rfl,i,e⟩,l,g⟩
theorem xC {α:Type} {enc:α->Value} {h1: ∀a,(enc a).oneCell'=true} {cs:List Value} {x:α} (h:St I w0 w (Ch.own (mb α enc h1) cs x::C)):cs= [enc x] /\St I w0 w C:=by
 obtain ⟨h1,b,F,⟨G,K,rfl,⟨rfl,k⟩,e⟩,d,c⟩:=h;exact ⟨k,h1,b,K,e,d,c⟩
theorem kt {id:Nat} {pth:Nat->List Nat} (l:id<n): ∀(t:Ty) (d:t.den) (j:Nat) (cs:List Value) (C:List Ch),(∀i v,cs[i]? =some v->vg (θ id) (pth (j+i))=v)->St J w0 w (Ch.own t.rep cs d::C)->
  (∀x∈jm id pth t d j,x.ok P w0 J θ n)/\(jm id pth t d j).map (·.v θ)=cs/\(∀g∈sR id pth t d j,g.1.id=id)/\St J w0 w (((sR id pth t d j).map fun g=>toCh P θ (g.1,m,g.2))++C)
 | .int k,d,j,cs,C,_,h=>by
  obtain ⟨rfl,p⟩:=xC h;exact ⟨fun x f=>by cases al f;rfl,rfl,fun g c=>(by cases c),p⟩
 | .bool,d,j,cs,C,_,h=>by
  obtain ⟨rfl,p⟩:=xC (h1:=fun _=>rfl) h;exact ⟨fun x f=>by cases al f;rfl,rfl,fun g c=>(by cases c),p⟩
 | .str,d,j,cs,C,_,h=>by
  obtain ⟨rfl,p⟩:=xC (h1:=fun _=>rfl) h;exact ⟨fun x f=>by cases al f;rfl,rfl,fun g c=>(by cases c),p⟩
 | .raw,d,j,cs,C,_,h=>by
  obtain ⟨rfl,p⟩:=xC (α:=Raw) (enc:=(·.1)) (h1:=(·.2)) h;exact ⟨fun x f=>by cases al f;exact d.2,rfl,fun g c=>(by cases c),p⟩
 | .prod a b,d,j,cs,C,hc,h=>by
  obtain ⟨N,M,rfl,q,h⟩:=KD h;rw[a.rep_size] at q;have ⟨H,L,X,R⟩:=kt l a d.1 j N _ (fun i v hv=>hc i v (by grind)) h;obtain ⟨V,S,W,O⟩:=kt l b d.2 (j+a.size) M _ (fun i v hv=>by
   have:=hc (a.size+i) v (by grind)
   rwa [show j+a.size+i=j+(a.size+i) from by omega]) (R.perm List.perm_middle)
  refine ⟨fun x f=>?_,?_,fun g c=>?_,?_⟩
  ·rcases aE f with f | f
   ·grind
   grind
  ·grind[jm]
  ·rcases aE c with c | c
   ·grind
   grind
  ·show St J w0 w (((sR id pth a d.1 j++sR id pth b d.2 (j+a.size)).map _)++C);refine O.perm ?_;grind[aC,List.perm_append_comm_assoc]
 | .sl E t,d,j,cs,C,hc,h=>by
  have o: ∃u,cs= [u] /\u.oneCell'=true:=by
   obtain ⟨h1,r,F,⟨G,K,rfl,k,e⟩,y,s⟩:=h;have q:=(Ty.sl E t).rep.own_len k;obtain ⟨u,rfl⟩:=List.length_eq_one_iff.1 q;exact ⟨u,rfl,(Ty.sl E t).rep.own_one k u (by simp)⟩
  obtain ⟨u,rfl,h1⟩:=o;have B:hv θ ⟨id,pth j⟩=u:=by
   have:=hc 0 u rfl
   rwa [Nat.add_zero] at this
  refine ⟨fun x f=>?_,?_,fun g c=>?_,?_⟩
  ·cases al f;exact ⟨l,by grind⟩
  ·show [hv θ ⟨id,pth j⟩] = [u];rw[B]
  ·cases al c;rfl
  ·show St J w0 w (Ch.own _ [hv θ ⟨id,pth j⟩] d::C);grind
 | .fro t,d,j,cs,C,hc,h=>by
  obtain ⟨h1,r,F,⟨G,K,rfl,⟨rfl,k⟩,e⟩,y,s⟩:=h;obtain ⟨H,L⟩:=kp (J:=J) l t d j cs k hc;exact ⟨H,L,fun g c=>(by cases c),h1,r,K,e,y,s⟩
 | .wr t,d,j,cs,C,hc,hs=>kt l t d j cs C hc hs
 | .bag t,d,j,cs,C,hc,h=>by
  obtain ⟨h1,r,F,⟨G,K,rfl,k,e⟩,y,s⟩:=h;have q:=((Ty.bag t).rep.own_len k).trans t.rep_size;have U:=(Ty.bag t).rep.own_one k;have D:St J w0 w C:=⟨h1,r,K,e,(List.nodup_append.1 y).2.1,fun b Q=>s b (bj _ Q)⟩;have A: ∀i (z:i<cs.length),hv θ ⟨id,pth (j+i)⟩=cs[i]:=fun i z=>hc i _ (List.getElem?_eq_getElem z);refine ⟨fun x f=>?_,?_,fun g c=>(by cases c),D⟩
  ·obtain ⟨i,z,rfl⟩:=List.mem_map.1 f;exact ⟨l,by grind⟩
  ·show ((List.range t.size).map fun i=>LV.own ⟨id,pth (j+i)⟩).map (·.v θ)=cs;rw[List.map_map,<-q];refine List.ext_getElem (by simp) fun i h1 r=>?_;rw[List.getElem_map,List.getElem_range];exact A i r
 | .tree T E t,d,j,cs,C,hc,h=>by
  have o: ∃u,cs= [u] /\u.oneCell'=true:=by
   obtain ⟨h1,r,F,⟨G,K,rfl,k,e⟩,y,s⟩:=h;have q:=(Ty.tree T E t).rep.own_len k;obtain ⟨u,rfl⟩:=List.length_eq_one_iff.1 q;exact ⟨u,rfl,(Ty.tree T E t).rep.own_one k u (by simp)⟩
  obtain ⟨u,rfl,h1⟩:=o;have B:hv θ ⟨id,pth j⟩=u:=by
   have:=hc 0 u rfl
   rwa [Nat.add_zero] at this
  refine ⟨fun x f=>?_,?_,fun g c=>?_,?_⟩
  ·cases al f;exact ⟨l,by grind⟩
  ·show [hv θ ⟨id,pth j⟩] = [u];rw[B]
  ·cases al c;rfl
  ·show St J w0 w (Ch.own _ [hv θ ⟨id,pth j⟩] d::C);grind
end
def Mu (agg:Bool) (pre:List Nat):Nat->List Nat:=match agg with
 | true=>fun j=>pre++ [j]
 | false=>fun _=>pre
def me (id:Nat) (pre:List Nat) (t:Ty) (d:t.den):Bool×List LV:=(t.isProd,jm id (Mu t.isProd pre) t d 0)
def mX (id:Nat) (pre:List Nat) (t:Ty) (d:t.den):List (Hdr×Chk):=sR id (Mu t.isProd pre) t d 0
def Hc (id:Nat):(i:Nat)->(ts:List Ty)->kK ts->List (Bool×List LV)
 | _,[],_=>[]
 | i,t::ts,d=>me id [i] t d.1::Hc id (i+1) ts d.2
def zY (id:Nat):(i:Nat)->(ts:List Ty)->kK ts->List (Hdr×Chk)
 | _,[],_=>[]
 | i,t::ts,d=>mX id [i] t d.1++zY id (i+1) ts d.2
def Om (y:Bool×List LV):AV:=match y with
 | (true,l)=>.agg l
 | (false,[x])=>.one x
 | _=>.und
def I2 (id:Nat):(ts:List Ty)->kK ts->AV
 | [t],d=>Om (me id [] t d.1)
 | ts,d=>.tup (Hc id 0 ts d)
def sS (id:Nat):(ts:List Ty)->kK ts->List (Hdr×Chk)
 | [t],d=>mX id [] t d.1
 | ts,d=>zY id 0 ts d
theorem KE: ∀p:List Nat,vg undef p=undef
 | [] =>rfl
 | i::l=>by
  exact KE l
theorem KF: ∀(p q:List Nat) (v:Value),vg v (p++q)=vg (vg v p) q
 | [],q,v=>by rfl
 | i::p,q,v=>by
  cases v with
  | tuple a=>exact KF p q _
  | agg cs=>exact KF p q _
  | func _ _ cs=>exact KF p q _
  | _=>exact (KE q).symm
theorem UY {cs:Array Value} {j:Nat} {v:Value} (h:cs.toList[j]? =some v):vg (.agg cs) [j] =v:=by
 show cs.getD j undef=v;simp_all
theorem Ty.size_one: ∀ {t:Ty},t.isProd=false->t.size=1
 | .int _,_=>rfl
 | .bool,_=>rfl
 | .str,_=>rfl
 | .raw,_=>rfl
 | .prod _ _,h=>by cases h
 | .sl _ _,_=>rfl
 | .fro t,h=>Ty.size_one (t:=t) h
 | .wr _,h=>by cases h
 | .tree _ _ _,_=>rfl
 | .bag t,h=>Ty.size_one (t:=t) h
theorem tJ {id:Nat} {pth:Nat->List Nat} : ∀ {t:Ty} {d:t.den} {j:Nat},t.isProd=false->(nB id pth t d j).length=1
 | .int _,_,_,_=>rfl
 | .bool,_,_,_=>rfl
 | .str,_,_,_=>rfl
 | .raw,_,_,_=>rfl
 | .prod _ _,_,_,h=>by cases h
 | .sl _ _,_,_,_=>rfl
 | .fro t,d,j,h=>tJ (t:=t) h
 | .bag t,d,j,h=>tJ (t:=t) h
 | .wr _,_,_,h=>by cases h
 | .tree _ _ _,_,_,_=>rfl
theorem tK {id:Nat} {pth:Nat->List Nat} {t:Ty} {d:t.den} {j:Nat} (h1:t.isProd=false):(jm id pth t d j).length=1:=by
 cases t with
 | prod a b=>cases h1
 | fro t=>exact tJ (t:=t) h1
 | wr t=>cases h1
 | bag t =>
  show ((List.range t.size).map _).length=1;rw[List.length_map,List.length_range];exact Ty.size_one h1
 | _=>rfl
def He:List Ty->Bool
 | [] =>true
 | t::ts=>t.dp&&He ts
section
variable {P:Program} {I J:Hp} {w0 w:World} {C:List Ch} {θ:Th} {n m:Nat}
theorem Fa {chs:List Ent} : ∀y:Bool×List LV,(y.1=false->y.2.length=1)->(∀x∈y.2,x.ok P w0 J θ n)->(Om y).ok P w0 J θ n chs/\(Om y).v θ=l7 θ y:=by
 rintro ⟨b,l⟩ c a;cases b with
 | true=>exact ⟨a,rfl⟩
 | false =>
  obtain ⟨x,rfl⟩:=List.length_eq_one_iff.1 (c rfl);exact ⟨a x (by simp),rfl⟩
theorem xD {id:Nat} {pre:List Nat} (a:id<n) {t:Ty} {d:t.den} {u:Value} (c:hv θ ⟨id,pre⟩=u) (f:re u=t.isProd) (h:St J w0 w (Ch.own t.rep (lO t.isProd u) d::C)) :
  (∀x∈(me id pre t d).2,x.ok P w0 J θ n)/\(me id pre t d).2.map (·.v θ)=lO t.isProd u/\l7 θ (me id pre t d)=u/\(∀g∈mX id pre t d,g.1.id=id)/\St J w0 w (((mX id pre t d).map fun g=>toCh P θ (g.1,m,g.2))++C):=by
 have c:vg (θ id) pre=u:=c;cases b:t.isProd with
 | true =>
  rw[b] at f h;cases u with
  | agg o =>
   have ⟨k,e,l,j⟩:=kt (P:=P) (m:=m) (θ:=θ) (pth:=Mu true pre) a t d 0 o.toList C (fun i v hv=>by
    show vg (θ id) (pre++ [0+i])=v;simp_all[KF,Nat.zero_add,UY]) h
   refine ⟨by grind[me],by unfold me;rw[b];exact e,?_,by grind[mX],by grind[mX]⟩;simp_all[me,l7,jm,Mu]
  | _=>cases f
 | false =>
  rw[b] at f h;have ⟨k,e,l,j⟩:=kt (P:=P) (m:=m) (θ:=θ) (pth:=Mu false pre) a t d 0 [u] C (fun i v hv=>by
   cases i with
   | zero=>exact c.trans (by grind)
   | succ i=>grind) h
  refine ⟨by grind[me],by unfold me;rw[b];exact e,?_,by grind[mX],by grind[mX]⟩;grind[me,l7,jm,Mu,undef,List.cons.inj]
theorem KG {id:Nat} (b:id<n) {vs:Array Value} (e:θ id= .tuple vs): ∀(ts:List Ty) (i:Nat) (d:kK ts) (C:List Ch),(∀j t,ts[j]? =some t->re (vs.getD (i+j) undef)=t.isProd)->St J w0 w (yY i ts d (.tuple vs)++C)->
  (∀y∈Hc id i ts d,∀x∈y.2,x.ok P w0 J θ n)/\(Hc id i ts d).map (l7 θ)=(List.range' i ts.length).map (fun j=>vs.getD j undef)/\(∀g∈zY id i ts d,g.1.id=id)/\St J w0 w (((zY id i ts d).map fun g=>toCh P θ (g.1,m,g.2))++C)
 | [],i,d,C,_,h=>⟨fun y c=>(by cases c),rfl,fun g a=>(by cases a),h⟩
 | t::ts,i,d,C,ha,h=>by
  obtain ⟨l,-,q,v,p⟩:=xD (P:=P) (m:=m) (θ:=θ) (pre:=[i]) (u:=vs.getD i undef) b (by show vg (θ id) [i] =_;rw[e];rfl) (ha 0 t rfl) h;have ⟨r,f,s,k⟩:=KG b e ts (i+1) d.2 (((mX id [i] t d.1).map fun g=>toCh P θ (g.1,m,g.2))++C) (fun j t o=>by
   have:=ha (j+1) t o
   grind) (p.perm (List.perm_append_comm_assoc _ _ _))
  refine ⟨fun y c=>?_,?_,fun g a=>?_,?_⟩
  ·rcases aG c with rfl | c
   ·exact l
   grind
  ·show l7 θ _::(Hc id (i+1) ts d.2).map _=_;rw[q,f];rfl
  ·rcases aE a with a | a
   ·grind
   grind
  ·show St J w0 w (((mX id [i] t d.1++zY id (i+1) ts d.2).map _)++C);refine k.perm ?_;grind[aC,List.perm_append_comm_assoc]
theorem KH {id:Nat} (f:id<n) {chs:List Ent} {v:Value} (s:θ id=v): ∀(ts:List Ty) (d:kK ts) (C:List Ch),resFa ts v->St J w0 w (resGv ts d v++C)->
  (I2 id ts d).ok P w0 J θ n chs/\(I2 id ts d).v θ=v/\(∀g∈sS id ts d,g.1.id=id)/\St J w0 w (((sS id ts d).map fun g=>toCh P θ (g.1,m,g.2))++C):=by
 intro ts d C c h;have a: ∀b,v= .tuple b->b.size=ts.length->(∀i t,ts[i]? =some t->re (b.getD i undef)=t.isProd)->St J w0 w (yY 0 ts d v++C)->
   (AV.tup (Hc id 0 ts d)).ok P w0 J θ n chs/\(AV.tup (Hc id 0 ts d)).v θ=v/\(∀g∈zY id 0 ts d,g.1.id=id)/\St J w0 w (((zY id 0 ts d).map fun g=>toCh P θ (g.1,m,g.2))++C):=by
  rintro b rfl z D h;have ⟨l,u,o,k⟩:=KG (P:=P) (m:=m) f s ts 0 d C (fun j t B=>by grind) h;refine ⟨l,?_,o,k⟩;show Value.tuple ((Hc id 0 ts d).map (l7 θ)).toArray=_;congr 1;apply Array.ext';apply List.ext_getElem?;intro i;by_cases A:i<ts.length
  ·simp_all
  ·grind
 match ts,d,c,h,a with
 | [t],d,c,h,_ =>
  obtain ⟨l,-,u,o,k⟩:=xD (P:=P) (m:=m) (θ:=θ) (pre:=[]) f (show hv θ ⟨id,[]⟩=v from s) c h;obtain ⟨x,y⟩:=Fa _ (fun e=>tK e) l;exact ⟨x,y.trans u,o,k⟩
 | [],d,c,h,a=>have ⟨b,q,p,r⟩:=c;exact a b q p r h
 | _::_::_,d,c,h,a=>have ⟨b,q,p,r⟩:=c;exact a b q p r h
end
section
variable {P:Program} {I:Hp} {w0 w:World} {o:Oper} {ev:Operand->Value}
theorem On {ls rn cs:List Ch} (h:St I w0 w (ls++(rn++cs))): ∃J,I.le J/\(∀ {α:Type} (R:Rep α) (v:List Value) (a:α),Ch.own R v a∈ls->R.rd J v a)/\(∀g l E,Ch.blk g l E∈ls->J g=some (.cells l.toArray E (0,0)))/\St J w0 w (rn++ [Ch.fr I cs]) /\
  ∀r m,Ch.deeps m->St J w0 r (m++ [Ch.fr I cs])->St I w0 r (m++(ls++cs)):=by
 have ⟨t,H,F,U,T,h3⟩:=h;obtain ⟨G,K,rfl,q,W⟩:=U.split;have ⟨n1,S,n3⟩:=List.nodup_append.1 T;let J:=fun b=>if b∈G then w.heap[b]? else I b;have i:I.le J:=fun b o f=>by
  grind
 have k: ∀b,b∈G->J b=w.heap[b]? :=fun b f=>if_pos f;have u: ∀b,b∉G->J b=I b:=fun b f=>if_neg f;have j: ∀ {ls:List Ch} {G:List Nat} {c:Ch},Sep I ls w G->c∈ls-> ∃p,(∀b,b∈p->b∈G)/\c.holds I w p:=by
  intro ls;induction ls with
  | nil=>grind
  | cons d ls ih =>
   rintro G c ⟨G1,z,rfl,e,e'⟩ hc;grind
 obtain ⟨z,C,rfl,V,X⟩:=W.split;refine ⟨J,i,fun R v a x=>?_,fun g l E x=>?_,⟨t,fun b o f=>?_,z++C,(V.mono i).append ⟨C,[],by simp,X,rfl⟩,S,fun b f=>?_⟩,?_⟩
 ·have ⟨p,A,B⟩:=j q x;exact R.own_rd B i fun b t=>k b (A b t)
 ·have ⟨p,A,B,f3⟩:=j q x;grind
 ·by_cases n:b∈G
  ·rw[k b n] at f;exact f
  ·rw[u b n] at f;exact H b o f
 ·grind
 ·rintro r m Z ⟨N,D,F',Q,k2,k3⟩;obtain ⟨M,F2,rfl,L,F3,F4,rfl,Y,rfl⟩:=Q.split;have s:=q.live;have y: ∀b,b∈G->r.heap[b]? =w.heap[b]? :=fun b n=>by
   have ⟨o,O⟩: ∃o,w.heap[b]? =some o:=⟨_,Array.getElem?_eq_getElem (s b n)⟩;rw[O];exact D b o (by grind)
  refine ⟨N,i.trans D,M++(G++F3),(L.deeps Z).append ((q.stay y).append Y),?_,fun b f=>?_⟩
  ·grind
  grind
theorem xE {ls rn:List Ch} {fact:Value->Prop} {gv:Value->List Ch} (i: ∀v,Ch.deeps (gv v))
  (h: ∀J,I.le J->(∀ {α:Type} (R:Rep α) (v:List Value) (a:α),Ch.own R v a∈ls->R.rd J v a)->(∀g l E,Ch.blk g l E∈ls->J g=some (.cells l.toArray E (0,0)))->OpT P J w0 o ev rn fact gv):OpT P I w0 o ev (ls++rn) fact (fun v=>ls++gv v):=by
 intro w C b;rw[aC] at b;have ⟨J,e,d,f,k,c⟩:=On b;refine (h J e d f w _ k).imp fun v j hv=>⟨hv.1,?_⟩
 have:=c j _ (i v) hv.2
 refine this.perm ?_;grind[aC,List.perm_append_comm_assoc]
end
def UZ (chs:List Ent) (E:TypeId) (t:Ty) (x:LV):Option (List t.den×List Hdr):=match x with
 | .own h=>(rowOf h chs).bind fun q=>(pc (.sl q.E q.t) (.sl E t) q.xs).bind fun d=>some (d,[h])
 | x=>(R7 E t x).bind fun d=>some (d,[])
structure TreeE where
 ver:Nat
 T:TypeId
 E:TypeId
 t:Ty
 d:Tr t.den
 rest:List Ent
def Hf (h:Hdr) (chs:List Ent):Option TreeE:=(pull h chs).bind fun r=>match r.1.2.2 with
 | .own (.tree T E t) d=>b8 (Df h r.2) (some ⟨r.1.2.1,T,E,t,d,r.2⟩)
 | _=>none
def TreeE.ent (r:TreeE) (h:Hdr):Ent:=(h,r.ver,.own (.tree r.T r.E r.t) r.d)
theorem Oo {h:Hdr} {chs:List Ent} {r:TreeE} (e:Hf h chs=some r):chs.Perm (r.ent h::r.rest)/\ ∀e∈r.rest,e.1≠h:=by
 have ⟨q,j,e⟩:=bind_some e;have ⟨p,k⟩:=gB j;have ⟨⟨a,i,c⟩,rest⟩:=q;obtain rfl:a=h:=k;cases c with
 | own f d =>
  cases f with
  | tree T E t =>
   have ⟨b,e⟩:=ai (show b8 (Df a rest) _=some r from e);cases ae e;exact ⟨p,fun e g=>qg b g⟩
  | _=>cases e
 | _=>cases e
def jn (chs:List Ent):(t:Ty)->List LV->Option (t.den×List LV×List Hdr)
 | .prod a b,l=>(jn chs a l).bind fun x=>(jn chs b x.2.1).bind fun y=>some ((x.1,y.1),y.2.1,x.2.2++y.2.2)
 | .sl E t,l=>match l with
  | x::r=>(UZ chs E t x).bind fun q=>some (q.1,r,q.2)
  | [] =>none
 | .fro t,l=>jn chs t l
 | .bag t,l=>jn chs t l
 | .wr t,l=>jn chs t l
 | .int k,l=>(eX (.int k) l).bind fun x=>some (x.1,x.2,[])
 | .bool,l=>(eX .bool l).bind fun x=>some (x.1,x.2,[])
 | .str,l=>(eX .str l).bind fun x=>some (x.1,x.2,[])
 | .raw,_=>none
 | .tree T E t,l=>match l with
  | .own h::r=>(Hf h chs).bind fun q=>(pc (.tree q.T q.E q.t) (.tree T E t) q.d).bind fun d=>some (d,r,[h])
  | l=>(eX (.tree T E t) l).bind fun x=>some (x.1,x.2,[])
def Y4 (h:Hdr) (chs:List Ent):Option Blk:=(rW h chs).bind fun b=>b8 (Df h b.rest) (some b)
theorem Oq {h:Hdr} {chs:List Ent} {b:Blk} (k:Y4 h chs=some b):rW h chs=some b/\ ∀e∈b.rest,e.1≠h:=by
 have ⟨f,d,k⟩:=bind_some k;have ⟨c,k⟩:=ai k;cases ae k;exact ⟨d,fun e a=>qg c a⟩
def Lent (J:Hp) (θ:Th) (chs:List Ent) (hs:List Hdr):Prop:= ∀h∈hs,(∀q,rowOf h chs=some q->(Ty.sl q.E q.t).rep.rd J [hv θ h] q.xs)/\(∀q,Hf h chs=some q->(Ty.tree q.T q.E q.t).rep.rd J [hv θ h] q.d)/\ ∀b,Y4 h chs=some b->J (bk (hv θ h))=some (.cells (b.cells.map (·.v θ)).toArray b.T (0,0))
theorem Lent.l {J:Hp} {θ:Th} {chs:List Ent} {a b:List Hdr} (h:Lent J θ chs (a++b)):Lent J θ chs a:=fun x c=>h x (bg _ c)
theorem Lent.r {J:Hp} {θ:Th} {chs:List Ent} {a b:List Hdr} (h:Lent J θ chs (a++b)):Lent J θ chs b:=fun x c=>h x (bj _ c)
theorem rX {P:Program} {w0:World} {J:Hp} {θ:Th} {n:Nat} {chs:List Ent} : ∀ {t:Ty} {cs:List LV} {r:t.den×List LV×List Hdr},jn chs t cs=some r->(∀x∈cs,x.ok P w0 J θ n)->Lent J θ chs r.2.2-> ∃i,cs=i++r.2.1/\t.rep.rd J (i.map (·.v θ)) r.1:=by
 intro t;induction t with
 | prod a b s p =>
  intro cs r h c f;have ⟨x,g,h⟩:=bind_some (show (jn chs a cs).bind _=some r from h);have ⟨y,C,h⟩:=bind_some h;cases ae h;obtain ⟨i,rfl,B⟩:=s g c f.l;have ⟨w,D,A⟩:=p C (fun z u=>c z (bj _ u)) f.r;exact ⟨i++w,by grind,i.map (·.v θ),w.map (·.v θ),by grind,B,A⟩
 | sl E t ih =>
  intro cs r h c f;cases cs with
  | nil=>cases h
  | cons x l =>
   have ⟨q,e,h⟩:=bind_some (show (UZ chs E t x).bind _=some r from h);cases ae h;refine ⟨[x],rfl,?_⟩;cases x with
   | own m =>
    have ⟨z,u,e⟩:=bind_some (show (rowOf m chs).bind _=some q from e);have ⟨d,j,e⟩:=bind_some e;cases ae e;exact jF j ((f m (by simp)).1 z u)
   | rd h2 t2 d2 =>
    have ⟨d,j,e⟩:=bind_some (show (R7 E t (.rd h2 t2 d2)).bind _=some q from e);cases ae e;exact Bq j (c _ (by simp))
   | val v =>
    have ⟨d,j,e⟩:=bind_some (show (R7 E t (.val v)).bind _=some q from e);cases ae e;exact Bq j (c _ (by simp))
   | nb _=>cases (show none=some q from e)
   | ptr _ _=>cases (show none=some q from e)
   | fn _ _ _ _=>cases (show none=some q from e)
   | fz _ _ _ _ _=>cases (show none=some q from e)
   | fzf _ _ _ _ _=>cases (show none=some q from e)
   | rdn _ _ _ _=>cases (show none=some q from e)
 | fro t ih =>
  intro cs r h c f;exact ih (show jn chs t cs=some r from h) c f
 | bag t ih =>
  intro cs r h c f;exact ih (show jn chs t cs=some r from h) c f
 | wr t ih =>
  intro cs r h c f;exact ih (show jn chs t cs=some r from h) c f
 | int k =>
  intro cs r h c f;have ⟨x,g,h⟩:=bind_some (show (eX _ cs).bind _=some r from h);cases ae h;exact jH g c
 | bool =>
  intro cs r h c f;have ⟨x,g,h⟩:=bind_some (show (eX _ cs).bind _=some r from h);cases ae h;exact jH g c
 | raw =>
  intro cs r h c f;cases (show none=some r from h)
 | str =>
  intro cs r h c f;have ⟨x,g,h⟩:=bind_some (show (eX _ cs).bind _=some r from h);cases ae h;exact jH g c
 | tree T E t ih =>
  intro cs r h c f;have o:((eX (.tree T E t) cs).bind fun x=>some (x.1,x.2,([] :List Hdr)))=some r-> ∃i,cs=i++r.2.1/\(Ty.tree T E t).rep.rd J (i.map (·.v θ)) r.1:=fun h=>by
   have ⟨x,g,h⟩:=bind_some h;cases ae h;exact jH g c
  cases cs with
  | nil=>exact o h
  | cons x l =>
   cases x with
   | own m =>
    have ⟨q,e,h⟩:=bind_some (show (Hf m chs).bind _=some r from h);have ⟨d,j,h⟩:=bind_some h;cases ae h;exact ⟨[.own m],rfl,jF j ((f m (by simp)).2.1 q e)⟩
   | _=>exact o h
def Bz (chs:List Ent) (t:Ty) (v:AV):Option (t.den×List Hdr):=match v,t.isProd with
 | .agg cs,true=>(jn chs t cs).bind fun r=>b8 r.2.1.isEmpty (some (r.1,r.2.2))
 | .one x,false=>(jn chs t [x]).bind fun r=>b8 r.2.1.isEmpty (some (r.1,r.2.2))
 | _,_=>none
theorem Hg {P:Program} {w0:World} {J:Hp} {θ:Th} {n:Nat} {chs:List Ent} {t:Ty} {v:AV} {r:t.den×List Hdr} (h:Bz chs t v=some r) (a:v.ok P w0 J θ n chs) (g:Lent J θ chs r.2): ∃f,Lds t.isProd f (v.v θ)/\t.rep.rd J f r.1:=by
 unfold Bz at h;split at h
 ·rename_i f c;have ⟨q,d,h⟩:=bind_some h;have ⟨b,h⟩:=ai h;cases ae h;have ⟨i,e,k⟩:=rX d a g;rw[List.isEmpty_iff.1 b,List.append_nil] at e;subst e;exact ⟨_,by rw[c];rfl,k⟩
 ·rename_i x c;have ⟨q,d,h⟩:=bind_some h;have ⟨b,h⟩:=ai h;cases ae h;have ⟨i,e,k⟩:=rX d (fun y j=>by cases al j;exact a) g;rw[List.isEmpty_iff.1 b,List.append_nil] at e;subst e;exact ⟨_,by rw[c];rfl,k⟩
 grind
def Hh (ps rs ps' rs':List Ty) (e:cur ps (Option (dens rs))):Option (cur ps' (Option (dens rs'))):=if h:ps=ps'/\rs=rs' then some (h.1 ▸ h.2 ▸ e) else none
theorem Hi {ps rs b a:List Ty} {e:cur ps (Option (dens rs))} {c:cur b (Option (dens a))} (h:Hh ps rs b a e=some c) {P:Program} {w0:World} {J:Hp} {v:Value} (d:FnOk P w0 J v ps rs e):FnOk P w0 J v b a c:=by
 grind[Hh,ae]
structure FnR (a b:List Ty) where
 e:cur a (Option (dens b))
 lent:List Hdr
structure CapR (p:PM) where
 d:p.den
 lent:List Hdr
section
variable (ft:FT) (chs:List Ent)
def WX (rec:(a b:List Ty)->LV->Option (FnR a b)):(p:PM)->LV->Option (CapR p)
 | .cap T t,x=>match x with
  | .ptr h off=>b8 (Nat.beq off 0) ((Y4 h chs).bind fun b=>b8 (Nat.beq b.T T) ((jn chs t b.cells).bind fun r=>b8 r.2.1.isEmpty (some ⟨r.1,h::r.2.2⟩)))
  | .fz h T' t' d off=>b8 (Nat.beq off 0&&Nat.beq T' T) ((pc t' t d).bind fun d=>some ⟨d,[]⟩)
  | _=>none
 | .capf T a b,x=>match x with
  | .ptr h off=>b8 (Nat.beq off 0) ((Y4 h chs).bind fun bl=>b8 (Nat.beq bl.T T) (match bl.cells with
   | [y] =>(rec a b y).bind fun r=>some ⟨r.e,h::r.lent⟩
   | _=>none))
  | .fzf h T' a' b' e=>b8 (Nat.beq T' T) ((Hh a' b' a b e).bind fun e=>some ⟨e,[]⟩)
  | _=>none
 | _,_=>none
def Ot (rec:(a b:List Ty)->LV->Option (FnR a b)):(qs:List PM)->List LV->Option (denP qs×List Hdr)
 | [],[] =>some ((),[])
 | q::qs,x::xs=>(WX chs rec q x).bind fun r=>(Ot rec qs xs).bind fun s=>some ((r.d,s.1),r.lent++s.2)
 | _,_=>none
def I3:(ts:List Ty)->List (Bool×List LV)->Option (kK ts×List Hdr)
 | [],[] =>some ((),[])
 | t::ts,y::ys=>b8 (y.1==t.isProd) ((jn chs t y.2).bind fun r=>b8 (r.2.1.isEmpty&&(y.1 || Nat.beq y.2.length 1)) ((I3 ts ys).bind fun q=>some ((r.1,q.1),r.2.2++q.2)))
 | _,_=>none
end
def WY:List PM->Option (List Ty)
 | [] =>some []
 | .rd t::ps=>(WY ps).bind fun ts=>some (t::ts)
 | _=>none
def rds:List Ty->List PM->List PM
 | [],qs=>qs
 | t::ts,qs=>.rd t::rds ts qs
def WZ:(ts:List Ty)->(qs:List PM)->kK ts->denP qs->denP (rds ts qs)
 | [],_,_,e=>e
 | _::ts,qs,d,e=>(d.1,WZ ts qs d.2 e)
def W0 {R:Type} :(a:List Ty)->(kK a->R)->cur a R
 | [],g=>g ()
 | _::a,g=>fun x=>W0 a fun d=>g (x,d)
theorem Hj {R:Type} : ∀(a:List Ty) (g:kK a->R) (d:kK a),app a (W0 a g) d=g d
 | [],_,_=>rfl
 | _::a,g,d=>Hj a (fun x=>g (d.1,x)) d.2
def Sb:PM->Bool
 | .cap _ _=>true
 | .capf _ _ _=>true
 | _=>false
def xF:List PM->Bool
 | [] =>true
 | p::ps=>Sb p&&xF ps
def ZD (chs:List Ent) (rec:(a b:List Ty)->LV->Option (FnR a b)) (a b:List Ty) (f:FS) (r1:List Ty) (qs:List PM) (first:List (Bool×List LV)) (capt:List LV):Option (FnR a b):=
 if h:f.ps=rds r1 (rds a qs)/\f.rs++outs f.ps=b then
  (I3 chs r1 first).bind fun d1=>(Ot chs rec qs capt).bind fun dc =>
   some ⟨W0 a fun x=>h.2 ▸ appP f.ps f.m (h.1 ▸ WZ r1 (rds a qs) d1.1 (WZ a qs x dc.1)),d1.2++dc.2⟩
 else none
def abr (ft:FT) (chs:List Ent) (rec:(a b:List Ty)->LV->Option (FnR a b)) (a b:List Ty) (k:FuncId) (first:List (Bool×List LV)) (capt:List LV):Option (FnR a b):=(fs ft k).bind fun f=>(WY (f.ps.take first.length)).bind fun r1 =>
 b8 (!f.ov&&xF (f.ps.drop (first.length+a.length))) (ZD chs rec a b f r1 (f.ps.drop (first.length+a.length)) first capt)
def Ou (h:Hdr) (chs:List Ent):Option (FuncId×List (Bool×List LV)×List LV):=(pull h chs).bind fun r=>match r.1.2.2 with
 | .clo k first capt=>some (k,first,capt)
 | _=>none
def W1 (ft:FT) (chs:List Ent):Nat->(a b:List Ty)->LV->Option (FnR a b)
 | 0,_,_,_=>none
 | n+1,a,b,x=>match x with
  | .fn h a' b' e=>(Hh a' b' a b e).bind fun e=>some ⟨e,[]⟩
  | .own h=>(Ou h chs).bind fun q=>abr ft chs (W1 ft chs n) a b q.1 q.2.1 q.2.2
  | .val v=>match v with
   | .func (.func k) f c=>b8 (f.toList.isEmpty&&c.toList.isEmpty) (abr ft chs (W1 ft chs n) a b k [] [])
   | _=>none
  | _=>none
section
variable {P:Program} {w0:World} {J J':Hp} {θ:Th} {n:Nat} {chs chs0:List Ent} {ft:FT}
theorem Hk: ∀(rs us:List Ty) (i:Nat) (d:kK (rs++us)) (v:Value),us= [] ->yY i (rs++us) d v=yY i rs (hFst rs us d) v
 | [],us,i,d,v,h=>by subst h;rfl
 | t::rs,us,i,d,v,h=>by
  show Ch.own _ _ _::yY (i+1) (rs++us) d.2 v=Ch.own _ _ _::yY (i+1) rs (hFst rs us d.2) v;rw[Hk rs us (i+1) d.2 v h];rfl
theorem Ov (rs us:List Ty) (d:kK (rs++us)) (v:Value) (h:us= []):resGv (rs++us) d v=resGv rs (hFst rs us d) v:=by
 match rs,d with
 | [],d=>subst h;rfl
 | [t],d=>subst h;rfl
 | t::u::rs,d=>exact Hk (t::u::rs) us 0 d v h
theorem Ow (rs us:List Ty) (v:Value) (h:us= []):resFa rs v->resFa (rs++us) v:=by
 grind
theorem Fb {a:List PM} : ∀ts:List Ty,outs (rds ts a)=outs a
 | [] =>rfl
 | _::ts=>Fb ts
theorem Sc {a:List PM} :xF a=true->outs a= []:=by
 induction a with
 | nil=>intro _;rfl
 | cons q a ih =>
  intro h;have h:(Sb q&&xF a)=true:=h;rw[ak] at h;cases q with
  | cap _ _=>exact ih h.2
  | capf _ _ _=>exact ih h.2
  | _=>cases h.1
theorem Fc {γ:Value} {a:List PM} : ∀(ts:List Ty) (vs us:List Value) (d:kK ts) (e:denP a),vs.length=ts.length->owCh γ (rds ts a) (vs++us) (WZ ts a d e)=owCh γ a us e
 | [],[],us,d,e,_=>rfl
 | _::ts,v::vs,us,d,e,h=>Fc ts vs us d.2 e (by grind)
 | [],_::_,_,_,_,h=>by cases h
 | _::_,[],_,_,_,h=>by cases h
theorem Sd {γ:Value} {a:List PM} : ∀(us:List Value) (e:denP a),xF a=true->owCh γ a us e= []:=by
 induction a with
 | nil=>intro us e _;rfl
 | cons q a ih =>
  intro us e h;cases us with
  | nil=>rfl
  | cons u us =>
   have h:(Sb q&&xF a)=true:=h;rw[ak] at h;cases q with
   | cap _ _=>exact ih us e.2 h.2
   | capf _ _ _=>exact ih us e.2 h.2
   | _=>cases h.1
theorem Hl {γ:Value} {a:List PM} {us:List Value} : ∀(ts:List Ty) (vs:List Value),vs.length=ts.length->xF a=true-> ∀d:kK (outs (rds ts a)),outCh γ (rds ts a) (vs++us) d= []
 | [],[],_,h=>fun d=>by
  have key: ∀ {a:List PM} (us:List Value) (d:kK (outs a)),xF a=true->outCh γ a us d= []:=by
   intro a;induction a with
   | nil=>intro us d _;rfl
   | cons q a ih =>
    intro us d h;cases us with
    | nil=>rfl
    | cons u us =>
     have h:(Sb q&&xF a)=true:=h;rw[ak] at h;cases q with
     | cap _ _=>exact ih us d h.2
     | capf _ _ _=>exact ih us d h.2
     | _=>cases h.1
  exact key us d h
 | _::ts,v::vs,hl,h=>fun d=>Hl ts vs (by grind) h d
 | [],_::_,h,_=>by cases h
 | _::_,[],h,_=>by cases h
theorem BA {γ:Value} {a:List PM} {us:List Value} {e:denP a} (h:PArgs P w0 J γ a us e): ∀ {ts:List Ty} {vs:List Value} {d:kK ts},NY J ts vs d->PArgs P w0 J γ (rds ts a) (vs++us) (WZ ts a d e)/\vs.length=ts.length
 | [],vs,d,hr=>by
  subst hr;exact ⟨h,rfl⟩
 | t::ts,vs,d,hr=>by
  obtain ⟨v,g,r,rfl,f,c,b⟩:=hr;have ⟨i,j⟩:=BA h b;exact ⟨⟨v,r++us,rfl,⟨g,f,c⟩,i⟩,by grind⟩
theorem KI {h:Hdr} {b:Blk} (k:Y4 h chs=some b) (a: ∀e∈chs,okE P w0 J θ n chs0 e):okE P w0 J θ n chs0 (b.ent h):=a _ ((ld (Oq k).1).mem_iff.2 (List.mem_cons_self ..))
theorem Se {rec:(a b:List Ty)->LV->Option (FnR a b)} (g: ∀a b x r,rec a b x=some r->x.ok P w0 J θ n->Lent J' θ chs r.lent->FnOk P w0 J' (x.v θ) a b r.e) (j:J.le J') (D: ∀e∈chs,okE P w0 J θ n chs0 e) {p:PM} {x:LV} {r:CapR p} (h:WX chs rec p x=some r) (s:x.ok P w0 J θ n) (o:Lent J' θ chs r.lent):ab3 P w0 J' undef p (x.v θ) r.d:=by
 cases p with
 | cap T t =>
  cases x with
  | ptr m off =>
   have ⟨c,h⟩:=ai (show b8 (Nat.beq off 0) _=some r from h);have ⟨b,l,h⟩:=bind_some h;have ⟨i,h⟩:=ai h;have ⟨q,A,h⟩:=bind_some h;have ⟨C,h⟩:=ai h;cases ae h;cases au c;have i:=au i;have M:=(o m (by simp)).2.2 b l;have f:=KI (P:=P) (w0:=w0) (J:=J) (n:=n) l D;have ⟨O,Q,k⟩:=rX (J:=J') A (fun x s=>LV.ok_same Same.rfl (aH _) (f.2.2 x s) j) (fun y E=>o y (by grind));exact ⟨_,rfl,_,by grind,k⟩
  | fz m T' t' d off =>
   have ⟨c,h⟩:=ai (show b8 (Nat.beq off 0&&Nat.beq T' T) _=some r from h);rw[ak] at c;have ⟨N,K,h⟩:=bind_some h;cases ae h;cases au c.1;cases au c.2;have ⟨G,cells,v,w⟩:=s;exact ⟨_,rfl,cells,j _ _ v,jF K (Rep.rd_mono _ w j)⟩
  | _=>cases h
 | capf T a b =>
  cases x with
  | ptr m off =>
   have ⟨c,H⟩:=ai (show b8 (Nat.beq off 0) _=some r from h);have ⟨F,l,I⟩:=bind_some H;have ⟨i,B⟩:=ai I;cases au c;have i:=au i;have f:=KI (P:=P) (w0:=w0) (J:=J) (n:=n) l D;split at B
   ·rename_i y E;have ⟨q,A,L⟩:=bind_some B;cases ae L;have M:=(o m (by simp)).2.2 F l;exact ⟨_,rfl,_,by grind,g a b y q A (f.2.2 y (by grind)) fun z R=>o z (by grind)⟩
   grind
  | fzf m T' a' b' e =>
   have ⟨c,h⟩:=ai (show b8 (Nat.beq T' T) _=some r from h);have ⟨S,C,h⟩:=bind_some h;cases ae h;cases au c;have ⟨G,u,v,w⟩:=s;exact ⟨_,rfl,u,j _ _ v,(Hi C w).mono j⟩
  | _=>cases h
 | _=>cases h
theorem Hm {rec:(a b:List Ty)->LV->Option (FnR a b)} (c: ∀a b x r,rec a b x=some r->x.ok P w0 J θ n->Lent J' θ chs r.lent->FnOk P w0 J' (x.v θ) a b r.e) (f:J.le J') (g: ∀e∈chs,okE P w0 J θ n chs0 e): ∀ {d:List PM} {xs:List LV} {r:denP d×List Hdr},Ot chs rec d xs=some r->(∀x∈xs,x.ok P w0 J θ n)->Lent J' θ chs r.2->PArgs P w0 J' undef d (xs.map (·.v θ)) r.1
 | [],[],r,h,_,_=>by rfl
 | q::d,x::xs,r,h,hx,hl=>by
  have ⟨a,i,h⟩:=bind_some (show (WX chs rec q x).bind _=some r from h);have ⟨s,j,h⟩:=bind_some h;cases ae h;exact ⟨_,_,rfl,Se c f g i (hx x (by simp)) hl.l,Hm c f g j (fun y k=>hx y (by grind)) hl.r⟩
 | [],_::_,r,h,_,_=>by cases h
 | _::_,[],r,h,_,_=>by cases h
theorem DR (d:J.le J'): ∀ {ts:List Ty} {ys:List (Bool×List LV)} {r:kK ts×List Hdr},I3 chs ts ys=some r->(∀y∈ys,∀x∈y.2,x.ok P w0 J θ n)->Lent J' θ chs r.2->NY J' ts (ys.map (l7 θ)) r.1
 | [],[],r,h,_,_=>by rfl
 | t::ts,y::ys,r,h,hy,hl=>by
  have ⟨c,h⟩:=ai (show b8 (y.1==t.isProd) _=some r from h);have ⟨a,e,h⟩:=bind_some h;have ⟨m,h⟩:=ai h;have ⟨q,f,h⟩:=bind_some h;cases ae h;have c:y.1=t.isProd:=by simpa using c
  have ⟨j,l,k⟩:=rX (J:=J') e (fun x i=>LV.ok_same Same.rfl (aH _) (hy y (by simp) x i) d) hl.l;refine ⟨_,y.2.map (·.v θ),_,rfl,?_,by grind,DR d f (fun z o=>hy z (by grind)) hl.r⟩;have ⟨s,g⟩:=y;subst c;cases p:t.isProd with
  | true=>rfl
  | false =>
   have b:g.length=1:=au (by grind);obtain ⟨x,rfl⟩:=List.length_eq_one_iff.1 b
   rfl
 | [],_::_,r,h,_,_=>by cases h
 | _::_,[],r,h,_,_=>by cases h
theorem Ox (hF:FTok P ft) (u:Lay P J) {rec:(a b:List Ty)->LV->Option (FnR a b)} (s: ∀a b x r,rec a b x=some r->x.ok P w0 J θ n-> ∀J',J.le J'->Lent J' θ chs r.lent->FnOk P w0 J' (x.v θ) a b r.e) (F:J.le J') (hc: ∀e∈chs,okE P w0 J θ n chs0 e) {a b:List Ty} {k:FuncId} {first:List (Bool×List LV)} {g:List LV} {r:FnR a b} (h:abr ft chs rec a b k first g=some r)
  (h1: ∀y∈first,∀x∈y.2,x.ok P w0 J θ n) (h2: ∀x∈g,x.ok P w0 J θ n) (L:Lent J' θ chs r.lent):FnOk P w0 J' (.func (.func k) (first.map (l7 θ)).toArray (g.map (·.v θ)).toArray) a b r.e:=by
 have ⟨f,Y,h⟩:=bind_some h;have ⟨o,hr1,h⟩:=bind_some h;have ⟨c,h⟩:=ai h;rw[ak] at c;have A:f.ov=false:=by simpa using c.1
 replace c:=c.2;have v:=hF.get Y;have N:=v.en A;have G:=v.con A;generalize f.ps.drop (first.length+a.length)=j at h c;unfold ZD at h;split at h
 ·rename_i hh;have ⟨Q,hd1,h⟩:=bind_some h;have ⟨T,M,h⟩:=bind_some h;cases ae h;obtain ⟨ps,rs,m⟩:=f;have ⟨R,V⟩:=hh;simp only at R V;subst R;subst V;refine ⟨k,_,_,rfl,N,fun H i args d p q U=>?_⟩;have B:Lent H θ chs (Q.2++T.2):=fun x E=>⟨fun z D=>Rep.rd_mono _ ((L x E).1 z D) i,fun z D=>Rep.rd_mono _ ((L x E).2.1 z D) i,fun z D=>i _ _ ((L x E).2.2 z D)⟩
  have k1:=DR (F.trans i) hd1 h1 B.l;have Z:=Hm (fun a b x r hr E K=>s a b x r hr E H (F.trans i) K) (F.trans i) hc M h2 B.r;have ⟨k3,k4⟩:=BA Z p;have ⟨k5,k6⟩:=BA k3 k1;rw[Hj] at U;have l:=G w0 H undef _ _ q (u.mono (F.trans i)) k5 U;have hou:outs (rds o (rds a j))= []:=by rw[Fb,Fb];exact Sc c
  have O:owCh undef (rds o (rds a j)) ((first.map (l7 θ))++(args++g.map (·.v θ))) (WZ o (rds a j) Q.1 (WZ a j d T.1))= []:=by
   rw[Fc _ _ _ _ _ k6,Fc _ _ _ _ _ k4];exact Sd _ _ c
  have S: ∀z,outCh undef (rds o (rds a j)) ((first.map (l7 θ))++(args++g.map (·.v θ))) z= []:=by
   intro z;have I: ∀(x y:List Ty),rds x (rds y j)=rds (x++y) j:=by
    intro x y;induction x with
    | nil=>rfl
    | cons t x ih=>exact congrArg (PM.rd t:: ·) ih
   have key: ∀(X:List PM),X=rds (o++a) j-> ∀z:kK (outs X),outCh undef X ((first.map (l7 θ))++(args++g.map (·.v θ))) z= []:=by
    rintro X rfl z;rw[<-aC];exact Hl (o++a) _ (by grind) c z
   exact key _ (I o a) z
  rw[O] at l;intro w C hS;have W:=l w C hS;grind[l7,Ow,Ov,outs,rds,toH]
 grind
theorem KJ {h:Hdr} {q:FuncId×List (Bool×List LV)×List LV} (k:Ou h chs=some q): ∃ver,(h,ver,Chk.clo q.1 q.2.1 q.2.2)∈chs:=by
 have ⟨r,a,k⟩:=bind_some k;have ⟨p,e⟩:=gB a;grind
theorem I4 (u:FTok P ft) (d:Lay P J) (o: ∀e∈chs,okE P w0 J θ n chs0 e): ∀ {m:Nat} {a b:List Ty} {x:LV} {r:FnR a b},W1 ft chs m a b x=some r->x.ok P w0 J θ n-> ∀J',J.le J'->Lent J' θ chs r.lent->FnOk P w0 J' (x.v θ) a b r.e
 | 0,_,_,_,_,h,_,_,_,_=>by cases h
 | m+1,a,b,x,r,h,t,J',i,l=>by
  have g: ∀a b x r,W1 ft chs m a b x=some r->x.ok P w0 J θ n-> ∀J',J.le J'->Lent J' θ chs r.lent->FnOk P w0 J' (x.v θ) a b r.e:=fun a b x r h t J' i l=>I4 u d o h t J' i l;cases x with
  | fn s z w e =>
   have ⟨I,j,h⟩:=bind_some (show (Hh z w a b e).bind _=some r from h);cases ae h;exact (Hi j t.2).mono i
  | own s =>
   have ⟨q,E,h⟩:=bind_some (show (Ou s chs).bind _=some r from h);have ⟨D,G⟩:=KJ E;obtain ⟨-,-,B,A,H⟩:=o _ G
   have:=Ox u d g i o h B A l
   show FnOk P w0 J' (hv θ s) a b r.e;grind
  | val v =>
   cases v with
   | func fk f c =>
    cases fk with
    | func k =>
     have ⟨j,h⟩:=ai (show b8 (f.toList.isEmpty&&c.toList.isEmpty) (abr ft chs (W1 ft chs m) a b k [] [])=some r from h);rw[ak,List.isEmpty_iff,List.isEmpty_iff] at j
     have:=Ox u d g i o h (fun y p=>by cases p) (fun y p=>by cases p) l
     have C:f= #[]:=by simpa using j.1
     have F:c= #[]:=by simpa using j.2
     subst C;subst F;exact this
    | _=>cases h
   | _=>cases h
  | _=>cases h
end
def Fe:List Hdr->List Ent->Option (List Ent×List Ent)
 | [],chs=>some ([],chs)
 | h::hs,chs=>(pull h chs).bind fun r=>(Fe hs r.2).bind fun q=>some (r.1::q.1,q.2)
theorem za: ∀ {hs:List Hdr} {chs:List Ent} {r:List Ent×List Ent},Fe hs chs=some r->chs.Perm (r.1++r.2)/\r.1.map (·.1)=hs
 | [],chs,r,h=>by cases ae (show some _=some r from h);simp_all
 | h'::hs,chs,r,h=>by
  have ⟨q,d,h⟩:=bind_some (show (pull h' chs).bind _=some r from h);have ⟨e,a,h⟩:=bind_some h;cases ae h;have ⟨b,g⟩:=gB d;have ⟨c,f⟩:=za a;exact ⟨b.trans (c.cons _),by grind⟩
def ade (h:Hdr) (l:List Hdr):Bool:=l.any fun x=>Hdr.beq x h
def I5:List Hdr->List Hdr->List Hdr
 | [],_=>[]
 | h::hs,acc=>if ade h acc then I5 hs acc else h::I5 hs (h::acc)
theorem BB {h:Hdr} : ∀ {hs acc:List Hdr},h∈hs->h∈I5 hs acc\/h∈acc
 | x::hs,acc,a=>by
  unfold I5;split
  ·rename_i c;rcases aG a with rfl | a
   ·have ⟨y,e,d⟩:=List.any_eq_true.1 c;grind[Hdr.beq_eq]
   ·exact BB a
  ·rcases aG a with rfl | a
   ·grind
   ·rcases BB (acc:=x::acc) a with b | b
    ·grind
    grind
def ph:AV->Bool
 | .agg _=>true
 | _=>false
theorem BC {v:AV} {cs:List LV} (h:mc v=some cs) {P:Program} {w0:World} {J:Hp} {θ:Th} {n:Nat} {chs:List Ent} (a:v.ok P w0 J θ n chs) {b:Bool} (e:ph v=b):lO b (v.v θ)=cs.map (·.v θ)/\re (v.v θ)=b:=by
 subst e;cases v with
 | agg d =>
  cases ae (show some d=some cs from h);exact ⟨rfl,rfl⟩
 | one x =>
  cases ae (show some [x] =some cs from h);refine ⟨rfl,?_⟩;have c:=LV.one (show LV.ok P w0 J θ n x from a);show re (x.v θ)=false;generalize x.v θ=u at c;cases u <;> first | rfl | cases c
 | _=>cases h
def tL (h:Hdr) (T:TypeId) (t:Ty) (chs:List Ent):Option (t.den×List Ent×List Ent):=(pull h chs).bind fun r=>match r.1.2.2 with
 | .box T' t' d=>b8 (Nat.beq T' T) ((pd t' t d).bind fun d=>some (d,[r.1],r.2))
 | .blk T' cells=>b8 (Nat.beq T' T) ((eO t cells r.2).bind fun q=>b8 q.cells.isEmpty (some (q.d,r.1::q.used,q.rest)))
 | _=>none
theorem W2 {I:Hp} {w:World} {F:List Nat} {ls:List Ch} {α:Type} {R:Rep α} {b:Nat} {T:TypeId} {cells:List Value} {d:α} (h:Sep I (Ch.blk b cells T::ls) w F) (k:Bun I ls R cells d):(Ch.box b T R d).holds I w F:=by
 obtain ⟨G,K,rfl,⟨rfl,c⟩,a⟩:=h;exact ⟨cells,K,rfl,c,k w K a⟩
section
variable {P:Program} {w0:World} {J J':Hp} {θ θ':Th} {n m:Nat} {chs chs0:List Ent}
theorem qi {h:Hdr} {T:TypeId} {t:Ty} {chs:List Ent} {q:t.den×List Ent×List Ent} (k:tL h T t chs=some q):chs.Perm (q.2.1++q.2.2):=by
 have ⟨r,i,k⟩:=bind_some k;have ⟨p,e⟩:=gB i;have ⟨⟨u,f,c⟩,rest⟩:=r;cases c with
 | box a l d =>
  have ⟨b,k⟩:=ai (show b8 (Nat.beq a T) _=some q from k);have ⟨j,v,k⟩:=bind_some k;grind
 | blk a cells =>
  have ⟨b,k⟩:=ai (show b8 (Nat.beq a T) _=some q from k);have ⟨s,g,k⟩:=bind_some k;have ⟨o,k⟩:=ai k;cases ae k;exact p.trans ((iH g).cons _)
 | _=>cases k
theorem uT {h:Hdr} {T:TypeId} {t:Ty} {q:t.den×List Ent×List Ent} (k:tL h T t chs=some q) (j:J.le J') (D: ∀e∈chs,okE P w0 J θ n chs0 e):chs.Perm (q.2.1++q.2.2)/\ ∀w F,Sep J' (q.2.1.map (toCh P θ)) w F->(Ch.box (bk (hv θ h)) T t.rep q.1).holds J' w F:=by
 have ⟨r,v,k⟩:=bind_some k;have ⟨p,e⟩:=gB v;have ⟨⟨y,s,c⟩,rest⟩:=r;obtain rfl:y=h:=e;cases c with
 | box g I d =>
  have ⟨b,k⟩:=ai (show b8 (Nat.beq g T) _=some q from k);have ⟨E,z,k⟩:=bind_some k;cases ae k;cases au b;obtain ⟨rfl,rfl⟩:=pe z;refine ⟨p,fun w F f=>?_⟩;obtain ⟨G,K,rfl,o,rfl⟩:=f;rw[List.append_nil];exact o
 | blk g cells =>
  have ⟨b,k⟩:=ai (show b8 (Nat.beq g T) _=some q from k);have ⟨L,u,k⟩:=bind_some k;have ⟨l,k⟩:=ai k;cases ae k;cases au b;have a:=D _ (p.mem_iff.2 (List.mem_cons_self ..));have ⟨C,H,i,A⟩:=lF (J:=J') (P:=P) (w0:=w0) (θ:=θ) (n:=n) u fun x B=>LV.ok_same Same.rfl (aH _) (a.2.2 x B) j;rw[List.isEmpty_iff.1 l,List.append_nil] at i;subst i;exact ⟨p.trans (C.cons _),fun w F f=>W2 f A⟩
 | _=>cases k
structure CurQ where
 g:Hdr
 d:List Int×Int×Int
 ent:Ent
 rest:List Ent
def wG (h:Hdr) (T E:TypeId) (chs:List Ent):Option CurQ:=(pull h chs).bind fun r=>match r.1.2.2 with
 | .blk T' [.rd g t xs,.val (.int .i64 x),.val (.int .i64 y)] =>b8 (Nat.beq T' T) ((pd t (.sl E (.int .u8)) xs).bind fun xs=>some ⟨g,(xs,x,y),r.1,r.2⟩)
 | _=>none
theorem o8 {h:Hdr} {T E:TypeId} {chs:List Ent} {q:CurQ} (k:wG h T E chs=some q):chs.Perm (q.ent::q.rest)/\ ∃ver,q.ent=(h,ver,.blk T [.rd q.g (.sl E (.int .u8)) q.d.1,.val (.int .i64 q.d.2.1),.val (.int .i64 q.d.2.2)]):=by
 have ⟨r,b,a⟩:=bind_some k;have ⟨p,e⟩:=gB b;split at a
 ·have ⟨f,d⟩:=ai a;have ⟨c,i,g⟩:=bind_some d;grind[ae,au,pe]
 grind
inductive GhQ
 | cur (h:Hdr) (xs:List Int)
 | box (h:Hdr)
def GhQ.v (θ:Th):GhQ->Value
 | .cur h _=>hv θ h
 | .box h=>.pointer (some ⟨bk (hv θ h),0,none⟩)
def ab4 (h:Hdr):Option GhQ->Bool
 | none=>true
 | some (.box h')=>Hdr.beq h' h
 | _=>false
theorem Ff {h:Hdr} {o:Option GhQ} (k:ab4 h o=true): ∀q,o=some q->q= .box h:=by
 rintro q rfl;cases q with
 | cur _ _=>cases k
 | box h'=>rw[Hdr.beq_eq k]
def abt (h:Hdr) (chs:List Ent):Option (FuncId×Hdr):=(Ou h chs).bind fun q=>match q with
 | (k,[],[.ptr hb off])=>if Nat.beq off 0 then some (k,hb) else none
 | _=>none
theorem Fg {h:Hdr} {chs:List Ent} {q:FuncId×Hdr} (k:abt h chs=some q): ∃ver,(h,ver,Chk.clo q.1 [] [.ptr q.2 0])∈chs:=by
 have ⟨⟨g,f,c⟩,a,k⟩:=bind_some k;grind[KJ,ae,au]
structure Args (ps:List PM) where
 d:denP ps
 lent:List Hdr
 own:List Ent
 rest:List Ent
 gh:Option GhQ
def eE (ft:FT) (s:Sg):(chs:List Ent)->(ps:List PM)->List AV->Option (Args ps)
 | chs,[],[] =>some ⟨(),[],[],chs,none⟩
 | chs,.rd t::ps,v::xs=>(Bz s.chs t v).bind fun a=>(eE ft s chs ps xs).bind fun r=>some ⟨(a.1,r.d),a.2++r.lent,r.own,r.rest,r.gh⟩
 | chs,.ow t::ps,v::xs=>b8 (ph v==t.isProd) ((mc v).bind fun cs=>(eO t cs chs).bind fun q=>b8 q.cells.isEmpty ((eE ft s q.rest ps xs).bind fun r=>some ⟨(q.d,r.d),r.lent,q.used++r.own,r.rest,r.gh⟩))
 | chs,.eat t::ps,v::xs=>b8 (ph v==t.isProd) ((mc v).bind fun cs=>(eO t cs chs).bind fun q=>b8 q.cells.isEmpty ((eE ft s q.rest ps xs).bind fun r=>some ⟨(q.d,r.d),r.lent,q.used++r.own,r.rest,r.gh⟩))
 | chs,.fn a b::ps,x::xs=>match x with
  | .one y=>(W1 ft s.chs 4 a b y).bind fun q=>(eE ft s chs ps xs).bind fun r=>some ⟨(q.e,r.d),q.lent++r.lent,r.own,r.rest,r.gh⟩
  | _=>none
 | chs,.fk g::ps,x::xs=>match x with
  | .one (.val (.func (.func k) f c))=>b8 (Nat.beq k g&&f.toList.isEmpty&&c.toList.isEmpty) ((eE ft s chs ps xs).bind fun r=>some ⟨((),r.d),r.lent,r.own,r.rest,r.gh⟩)
  | _=>none
 | chs,.ptr T t::ps,x::xs=>match x with
  | .one (.ptr h off)=>b8 (Nat.beq off 0) ((tL h T t chs).bind fun q=>(eE ft s q.2.2 ps xs).bind fun r=>some ⟨(q.1,r.d),r.lent,q.2.1++r.own,r.rest,r.gh⟩)
  | _=>none
 | chs,.crs T E::ps,x::xs=>match x with
  | .one (.ptr h off)=>b8 (Nat.beq off 0) ((wG h T E chs).bind fun q=>(eE ft s q.rest ps xs).bind fun r=>b8 r.gh.isNone (some ⟨(q.d,r.d),r.lent,q.ent::r.own,r.rest,some (.cur q.g q.d.1)⟩))
  | _=>none
 | chs,.kb g T t::ps,x::xs=>match x with
  | .one (.own h)=>(abt h s.chs).bind fun c=>b8 (Nat.beq c.1 g) ((tL c.2 T t chs).bind fun q=>(eE ft s q.2.2 ps xs).bind fun r=>b8 (ab4 c.2 r.gh) (some ⟨(q.1,r.d),r.lent,q.2.1++r.own,r.rest,some (.box c.2)⟩))
  | _=>none
 | chs,.kc g::ps,x::xs=>match x with
  | .one (.own h)=>(abt h s.chs).bind fun c=>b8 (Nat.beq c.1 g) ((eE ft s chs ps xs).bind fun r=>b8 (ab4 c.2 r.gh) (some ⟨((),r.d),r.lent,r.own,r.rest,some (.box c.2)⟩))
  | _=>none
 | _,_,_=>none
theorem gT {ft:FT} {s:Sg} (D:FTok P ft) (l:Fine P w0 J θ s) (o:J.le J'): ∀ {ps:List PM} {xs:List AV} {chs:List Ent} {r:Args ps},eE ft s chs ps xs=some r->(∀x∈xs,x.ok P w0 J θ s.nxt s.chs)->(∀e∈chs,e∈s.chs)->Lent J' θ s.chs r.lent-> ∀γ,(∀q,r.gh=some q->γ=q.v θ)->
  PArgs P w0 J' γ ps (xs.map (·.v θ)) r.d/\chs.Perm (r.own++r.rest)/\rb J' (r.own.map (toCh P θ)) (owCh γ ps (xs.map (·.v θ)) r.d)
 | [],[],chs,r,h,_,_,_,γ,hγ=>by
  cases ae (show some _=some r from h);exact ⟨Eq.refl _,List.Perm.refl _,xw⟩
 | .rd t::ps,x::xs,chs,r,h,hx,hc,hl,γ,hγ=>by
  have ⟨a,ha,h⟩:=bind_some (show (Bz s.chs t x).bind _=some r from h);have ⟨q,v,h⟩:=bind_some h;cases ae h;have ⟨k,i,f⟩:=gT D l o v (fun y hy=>hx y (by grind)) hc hl.r γ hγ;have ⟨cs,Q,N⟩:=Hg ha (AV.ok_same Same.rfl (aH _) Newer.rfl (hx x (by simp)) o) hl.l;exact ⟨⟨_,_,rfl,⟨cs,Q,N⟩,k⟩,i,f⟩
 | .ow t::ps,x::xs,chs,r,h,hx,hc,hl,γ,hγ=>by
  have ⟨j,h⟩:=ai (show b8 (ph x==t.isProd) _=some r from h);have j:ph x=t.isProd:=by simpa using j
  have ⟨cs,A,h⟩:=bind_some h;have ⟨q,v,h⟩:=bind_some h;have ⟨C,h⟩:=ai h;have ⟨H,u,h⟩:=bind_some h;cases ae h;have B:=hx x (by simp);have ⟨Q,N⟩:=BC A B j;have d:=(ko A (AV.ok_same Same.rfl (aH _) Newer.rfl B o)).1;have ⟨p,cc,R,e2⟩:=lF (J:=J') (θ:=θ) v d;rw[List.isEmpty_iff.1 C,List.append_nil] at R;subst R;have ⟨k,i,f⟩:=gT D l o u (fun y hy=>hx y (by grind)) (fun e h=>hc e (p.mem_iff.2 (by simp[h]))) hl γ hγ;refine ⟨⟨_,_,rfl,N,k⟩,by rw[aC];exact p.trans (i.append_left _),?_⟩;show rb J' ((q.used++H.own).map _) (Ch.own t.rep (lO t.isProd (x.v θ)) q.d::_);rw[aX,Q];exact tI e2 f
 | .eat t::ps,x::xs,chs,r,h,hx,hc,hl,γ,hγ=>by
  have ⟨j,h⟩:=ai (show b8 (ph x==t.isProd) _=some r from h);have j:ph x=t.isProd:=by simpa using j
  have ⟨cs,A,h⟩:=bind_some h;have ⟨q,v,h⟩:=bind_some h;have ⟨C,h⟩:=ai h;have ⟨H,u,h⟩:=bind_some h;cases ae h;have B:=hx x (by simp);have ⟨Q,N⟩:=BC A B j;have d:=(ko A (AV.ok_same Same.rfl (aH _) Newer.rfl B o)).1;have ⟨p,cc,R,e2⟩:=lF (J:=J') (θ:=θ) v d;rw[List.isEmpty_iff.1 C,List.append_nil] at R;subst R;have ⟨k,i,f⟩:=gT D l o u (fun y hy=>hx y (by grind)) (fun e h=>hc e (p.mem_iff.2 (by simp[h]))) hl γ hγ;refine ⟨⟨_,_,rfl,N,k⟩,by rw[aC];exact p.trans (i.append_left _),?_⟩;show rb J' ((q.used++H.own).map _) (Ch.own t.rep (lO t.isProd (x.v θ)) q.d::_);rw[aX,Q];exact tI e2 f
 | .fn a b::ps,x::xs,chs,r,h,hx,hc,hl,γ,hγ=>by
  unfold eE at h;split at h
  ·rename_i y;have ⟨q,v,h⟩:=bind_some h;have ⟨H,u,h⟩:=bind_some h;cases ae h;have ⟨k,i,f⟩:=gT D l o u (fun z X=>hx z (by grind)) hc hl.r γ hγ;exact ⟨⟨_,_,rfl,I4 D l.lay l.chs v (show LV.ok P w0 J θ s.nxt y from hx (.one y) (by simp)) J' o hl.l,k⟩,i,f⟩
  grind
 | .ptr T t::ps,x::xs,chs,r,h,hx,hc,hl,γ,hγ=>by
  unfold eE at h;split at h
  ·have ⟨Z,h⟩:=ai h;have ⟨q,v,h⟩:=bind_some h;have ⟨H,u,h⟩:=bind_some h;cases ae h;cases au Z;have ⟨p,hb⟩:=uT (P:=P) (w0:=w0) (J:=J) (J':=J') (θ:=θ) (n:=s.nxt) (chs0:=s.chs) v o fun e C=>l.chs e (hc e C);have ⟨k,i,f⟩:=gT D l o u (fun y hy=>hx y (by grind)) (fun e h=>hc e (p.mem_iff.2 (by simp[h]))) hl γ hγ;refine ⟨⟨_,_,rfl,⟨_,rfl⟩,k⟩,by rw[aC];exact p.trans (i.append_left _),?_⟩;rw[aX];intro w F S;obtain ⟨G,K,rfl,V,U⟩:=S.split;exact ⟨G,K,rfl,hb w G V,f w K U⟩
  grind
 | .fk g::ps,x::xs,chs,r,h,hx,hc,hl,γ,hγ=>by
  unfold eE at h;split at h
  ·have ⟨M,h⟩:=ai h;have ⟨H,u,h⟩:=bind_some h;cases ae h;have ⟨k,i,f⟩:=gT D l o u (fun z X=>hx z (by grind)) hc hl γ hγ;rw[ak,ak] at M;have ⟨⟨hk1,hk2⟩,hk3⟩:=M;cases au hk1;have ef:=Array.ext' (List.isEmpty_iff.1 hk2);have ec:=Array.ext' (List.isEmpty_iff.1 hk3);subst ef;subst ec;exact ⟨⟨_,_,rfl,rfl,k⟩,i,f⟩
  grind
 | .crs T E::ps,x::xs,chs,r,h,hx,hc,hl,γ,hγ=>by
  unfold eE at h;split at h
  ·have ⟨Z,h⟩:=ai h;have ⟨q,v,h⟩:=bind_some h;have ⟨H,u,h⟩:=bind_some h;have ⟨hn,h⟩:=ai h;cases ae h;cases au Z;have j:=hγ _ rfl;subst j;have ⟨p,W,C⟩:=o8 v;have d:=l.chs _ (hc _ (p.mem_iff.2 (List.mem_cons_self ..)));rw[C] at d;have Y:LV.ok P w0 J θ s.nxt (.rd q.g (.sl E (.int .u8)) q.d.1):=d.2.2 _ (by simp);have ⟨k,i,f⟩:=gT D l o u (fun z X=>hx z (by grind)) (fun e h=>hc e (p.mem_iff.2 (by simp[h]))) hl (hv θ q.g) (fun q' O=>by grind);refine ⟨⟨_,_,rfl,⟨⟨_,rfl⟩,Rep.rd_mono _ Y.2 o⟩,k⟩,p.trans (i.cons _),?_⟩;rw[C];intro w F S;obtain ⟨G,K,rfl,V,U⟩:=S;exact ⟨G,K,rfl,V,f w K U⟩
  grind
 | .kb g T t::ps,x::xs,chs,r,h,hx,hc,hl,γ,hγ=>by
  unfold eE at h;split at h
  ·have ⟨c,I,h⟩:=bind_some h;have ⟨M,h⟩:=ai h;have ⟨q,v,h⟩:=bind_some h;have ⟨H,u,h⟩:=bind_some h;have ⟨hn,h⟩:=ai h;cases ae h;cases au M;have j:=hγ _ rfl;have ⟨W,hm⟩:=Fg I;have d:=(l.chs _ hm).2.2;have L:=d.2.2;have ⟨p,hb⟩:=uT (P:=P) (w0:=w0) (J:=J) (J':=J') (θ:=θ) (n:=s.nxt) (chs0:=s.chs) v o fun e C=>l.chs e (hc e C);have ⟨k,i,f⟩:=gT D l o u (fun z X=>hx z (by grind)) (fun e h=>hc e (p.mem_iff.2 (by simp[h]))) hl γ (fun q' O=>by grind[Ff]);refine ⟨⟨_,_,rfl,⟨by rw[j];exact L,_,j⟩,k⟩,by rw[aC];exact p.trans (i.append_left _),?_⟩;rw[aX,j];intro w F S;obtain ⟨G,K,rfl,V,U⟩:=S.split;rw[j] at f;exact ⟨G,K,rfl,hb w G V,f w K U⟩
  grind
 | .kc g::ps,x::xs,chs,r,h,hx,hc,hl,γ,hγ=>by
  unfold eE at h;split at h
  ·have ⟨c,I,h⟩:=bind_some h;have ⟨M,h⟩:=ai h;have ⟨H,u,h⟩:=bind_some h;have ⟨hn,h⟩:=ai h;cases ae h;cases au M;have j:=hγ _ rfl;have ⟨W,hm⟩:=Fg I;have d:=(l.chs _ hm).2.2;have L:=d.2.2;have ⟨k,i,f⟩:=gT D l o u (fun z X=>hx z (by grind)) hc hl γ (fun q' O=>by grind[Ff]);exact ⟨⟨_,_,rfl,⟨by rw[j];exact L,_,j⟩,k⟩,i,f⟩
  grind
 | .cap _ _::_,_::_,_,_,h,_,_,_,_,_=>by cases h
 | .capf _ _ _::_,_::_,_,_,h,_,_,_,_,_=>by cases h
 | [],_::_,_,r,h,_,_,_,_,_=>by cases h
 | .rd _::_,[],_,r,h,_,_,_,_,_=>by cases h
 | .ow _::_,[],_,r,h,_,_,_,_,_=>by cases h
 | .eat _::_,[],_,r,h,_,_,_,_,_=>by cases h
 | .fn _ _::_,[],_,r,h,_,_,_,_,_=>by cases h
 | .ptr _ _::_,[],_,r,h,_,_,_,_,_=>by cases h
 | .cap _ _::_,[],_,_,h,_,_,_,_,_=>by cases h
 | .capf _ _ _::_,[],_,_,h,_,_,_,_,_=>by cases h
 | .fk _::_,[],_,_,h,_,_,_,_,_=>by cases h
 | .crs _ _::_,[],_,_,h,_,_,_,_,_=>by cases h
 | .kb _ _ _::_,[],_,_,h,_,_,_,_,_=>by cases h
 | .kc _::_,[],_,_,h,_,_,_,_,_=>by cases h
def zb:List PM->Bool
 | [] =>true
 | .ow t::ps=>t.dp&&zb ps
 | .ptr _ t::ps=>t.dp&&zb ps
 | .kb _ _ t::ps=>t.dp&&zb ps
 | _::ps=>zb ps
def AD:(t:Ty)->t.den->List LV->List (Hdr×Chk)
 | .prod a b,d,cs=>AD a d.1 (cs.take a.size)++AD b d.2 (cs.drop a.size)
 | .wr t,d,cs=>AD t d cs
 | .sl E t,d,cs=>match cs with
  | .own h::_=>[(h,.own (.sl E t) d)]
  | _=>[]
 | _,_,_=>[]
def ku (gh:Option GhQ):(ps:List PM)->List AV->kK (outs ps)->List (Hdr×Chk)
 | .ow t::ps,x::xs,d=>((mc x).elim [] fun cs=>AD t d.1 cs)++ku gh ps xs d.2
 | .ptr T t::ps,x::xs,d=>(match x with
  | .one (.ptr h _)=>[(h,.box T t d.1)]
  | _=>[])++ku gh ps xs d.2
 | .rd _::ps,_::xs,d=>ku gh ps xs d
 | .eat _::ps,_::xs,d=>ku gh ps xs d
 | .fn _ _::ps,_::xs,d=>ku gh ps xs d
 | .cap _ _::ps,_::xs,d=>ku gh ps xs d
 | .capf _ _ _::ps,_::xs,d=>ku gh ps xs d
 | .fk _::ps,_::xs,d=>ku gh ps xs d
 | .kc _::ps,_::xs,d=>ku gh ps xs d
 | .kb _ T t::ps,_::xs,d=>(match gh with
  | some (.box h)=>[(h,.box T t d.1)]
  | _=>[])++ku gh ps xs d.2
 | .crs T E::ps,x::xs,d=>(match x,gh with
  | .one (.ptr h _),some (.cur g l)=>[(h,.blk T [.rd g (.sl E (.int .u8)) l,.val (.int .i64 d.1.1),.val (.int .i64 d.1.2)])]
  | _,_=>[])++ku gh ps xs d.2
 | _,_,_=>[]
def Sf:Chk->Prop
 | .own _ _=>True
 | .box _ _ _=>True
 | _=>False
theorem tM {g:Hdr×Chk} {ver:Nat} (h:Sf g.2) (h1:g.1.id<n) (b:ver<n):okE P w0 J θ n chs (g.1,ver,g.2):=by
 have ⟨a,c⟩:=g;cases c with
 | own _ _=>exact ⟨h1,b,trivial⟩
 | box _ _ _=>exact ⟨h1,b,trivial⟩
 | _=>exact h.elim
def ZE (P:Program) (w0:World) (J:Hp) (θ:Th) (n:Nat) (c:Chk):Prop:=Sf c\/ ∃T cells,c= .blk T cells/\ ∀x∈cells,LV.ok P w0 J θ n x
theorem KK {g:Hdr×Chk} {ver m:Nat} (h:ZE P w0 J θ m g.2) (d:m<=n) (h1:g.1.id<n) (b:ver<n):okE P w0 J θ n chs (g.1,ver,g.2):=by
 rcases h with h | ⟨T,cells,h,f⟩
 ·exact tM h h1 b
 ·have ⟨a,c⟩:=g;obtain rfl:c=_:=h;exact ⟨h1,b,fun x e=>LV.ok_same Same.rfl d (f x e) Hp.le.rfl⟩
theorem Si {w:World} : ∀ {t:Ty} {d:t.den} {cs:List LV} {C:List Ch},St J w0 w (Ch.own t.rep (cs.map (·.v θ)) d::C)->(∀x∈cs,x.ok P w0 J θ' n)->(∀x∈cs,x.v θ'=x.v θ)->
  St J w0 w ((AD t d cs).map (fun g=>toCh P θ' (g.1,m,g.2))++C)/\ ∀g∈AD t d cs,Sf g.2/\g.1.id<n:=by
 intro t;induction t with
 | prod a b r q =>
  intro d cs C h j c;have ⟨u,s,e,z,h⟩:=KD h;rw[a.rep_size] at z;have y:u=(cs.take a.size).map (·.v θ):=by
   simp_all
  have D:s=(cs.drop a.size).map (·.v θ):=by
   grind[List.map_drop,List.drop_left]
  rw[y,D] at h;have ⟨v,I⟩:=r h (fun x i=>j x (List.mem_of_mem_take i)) fun x i=>c x (List.mem_of_mem_take i);have ⟨A,L⟩:=q (v.perm List.perm_middle) (fun x i=>j x (List.mem_of_mem_drop i)) fun x i=>c x (List.mem_of_mem_drop i);refine ⟨?_,fun g f=>?_⟩
  ·show St J w0 w ((AD a d.1 _++AD b d.2 _).map _++C);refine A.perm ?_;grind[aC,List.perm_append_comm_assoc]
  ·rcases aE f with f | f
   ·grind
   grind
 | wr t ih =>
  intro d cs C h j c;exact ih h j c
 | sl E t ih =>
  intro d cs C h j c;cases cs with
  | nil=>exact ⟨h.tail,fun g f=>by cases f⟩
  | cons x l =>
   cases x with
   | own o =>
    have p:l= []:=by
     obtain ⟨N,M,F,⟨G,K,rfl,k,e⟩,O,H⟩:=h
     have:=(Ty.sl E t).rep.own_len k
     have B:((LV.own o::l).map (·.v θ)).length=1:=this;simpa using B
    subst p;refine ⟨?_,fun g f=>?_⟩
    ·have:=c (.own o) (by simp)
     show St J w0 w (Ch.own _ [hv θ' o] d::C);rw[show hv θ' o=hv θ o from this];exact h
    ·cases al f;exact ⟨trivial,(j (.own o) (by simp)).1⟩
   | _=>exact ⟨h.tail,fun g f=>by cases f⟩
 | _ =>
  intro d cs C h j c;exact ⟨h.tail,fun g f=>by cases f⟩
theorem mf {w:World} {s:Sg} (B:Fine P w0 J θ s) (hs:Same s.nxt θ θ') (H:s.nxt<=m) {γ:Value} {gh:Option GhQ} : ∀ {ps:List PM} {xs:List AV} {v:FT} {chs:List Ent} {r:Args ps} (d:kK (outs ps)) {C:List Ch},eE v s chs ps xs=some r->(∀x∈xs,x.ok P w0 J θ s.nxt s.chs)->(∀e∈chs,e∈s.chs)->(∀q,r.gh=some q->gh=some q/\γ=q.v θ)->St J w0 w (outCh γ ps (xs.map (·.v θ)) d++C)->
  St J w0 w ((ku gh ps xs d).map (fun g=>toCh P θ' (g.1,m,g.2))++C)/\ ∀g∈ku gh ps xs d,ZE P w0 J θ' m g.2/\g.1.id<s.nxt
 | [],[],v,chs,r,d,C,h,j,hc,hγ,f=>⟨f,fun g i=>by cases i⟩
 | .rd t::ps,x::xs,v,chs,r,d,C,h,j,hc,hγ,f=>by
  have ⟨a,ha,h⟩:=bind_some (show (Bz s.chs t x).bind _=some r from h);have ⟨q,u,h⟩:=bind_some h;cases ae h;exact mf B hs H (ps:=ps) d u (fun y I=>j y (by grind)) hc hγ f
 | .ow t::ps,x::xs,v,chs,r,d,C,h,j,hc,hγ,f=>by
  have ⟨i,h⟩:=ai (show b8 (ph x==t.isProd) _=some r from h);have i:ph x=t.isProd:=by simpa using i
  have ⟨U,G,h⟩:=bind_some h;have ⟨q,u,h⟩:=bind_some h;have ⟨K,h⟩:=ai h;have ⟨N,o,h⟩:=bind_some h;cases ae h;have R:=j x (by simp);have ⟨c1,c2⟩:=BC G R i;have l:=(ko G R).1;have f:St J w0 w (Ch.own t.rep (lO t.isProd (x.v θ)) d.1::(outCh γ ps (xs.map (·.v θ)) d.2++C)):=f;rw[c1] at f;have ⟨k1,k2⟩:=Si (P:=P) (θ':=θ') (n:=s.nxt) (m:=m) f (fun x j=>LV.ok_same hs (aH _) (l x j) Hp.le.rfl) fun x j=>LV.v_same hs (l x j);have ⟨L,W⟩:=mf B hs H (ps:=ps) d.2 o (fun y I=>j y (by grind)) (fun e K=>hc e ((iH u).mem_iff.2 (by grind))) hγ (k1.perm (List.perm_append_comm_assoc _ _ _));have A:ku gh (.ow t::ps) (x::xs) d=AD t d.1 U++ku gh ps xs d.2:=by
   show ((mc x).elim [] fun U=>AD t d.1 U)++_=_;rw[G];rfl
  rw[A];refine ⟨?_,fun g i=>?_⟩
  ·refine L.perm ?_;grind[aC,List.perm_append_comm_assoc]
  ·rcases aE i with i | i
   ·exact ⟨.inl (k2 g i).1,(k2 g i).2⟩
   grind
 | .eat t::ps,x::xs,v,chs,r,d,C,h,j,hc,hγ,f=>by
  have ⟨i,h⟩:=ai (show b8 (ph x==t.isProd) _=some r from h);have ⟨U,G,h⟩:=bind_some h;have ⟨q,u,h⟩:=bind_some h;have ⟨K,h⟩:=ai h;have ⟨N,o,h⟩:=bind_some h;cases ae h;exact mf B hs H (ps:=ps) d o (fun y I=>j y (by grind)) (fun e K=>hc e ((iH u).mem_iff.2 (by grind))) hγ f
 | .fn a b::ps,x::xs,v,chs,r,d,C,h,j,hc,hγ,f=>by
  unfold eE at h;split at h
  ·have ⟨q,u,h⟩:=bind_some h;have ⟨N,o,h⟩:=bind_some h;cases ae h;exact mf B hs H (ps:=ps) d o (fun y I=>j y (by grind)) hc hγ f
  grind
 | .ptr T t::ps,x::xs,v,chs,r,d,C,h,j,hc,hγ,f=>by
  unfold eE at h;split at h
  ·rename_i D off;have ⟨Y,h⟩:=ai h;have ⟨q,u,h⟩:=bind_some h;have ⟨N,o,h⟩:=bind_some h;cases ae h;cases au Y;have k:=j (.one (.ptr D 0)) (by simp);have ⟨L,W⟩:=mf B hs H (ps:=ps) (C:=Ch.box (bk (hv θ D)) T t.rep d.1::C) d.2 o (fun y I=>j y (by grind)) (fun e K=>hc e ((qi u).mem_iff.2 (by grind))) hγ (f.perm List.perm_middle.symm);refine ⟨?_,fun g i=>?_⟩
   ·show St J w0 w (Ch.box (bk (hv θ' D)) T t.rep d.1::((ku gh ps xs d.2).map _++C));rw[bc hs k];exact L.perm List.perm_middle
   ·rcases aE i with i | i
    ·cases al i;exact ⟨.inl trivial,k⟩
    grind
  grind
 | .fk g::ps,x::xs,v,chs,r,d,C,h,j,hc,hγ,f=>by
  unfold eE at h;split at h
  ·have ⟨hk,h⟩:=ai h;have ⟨N,o,h⟩:=bind_some h;cases ae h;exact mf B hs H (ps:=ps) d o (fun y I=>j y (by grind)) hc hγ f
  grind
 | .crs T E::ps,x::xs,v,chs,r,d,C,h,j,hc,hγ,f=>by
  unfold eE at h;split at h
  ·rename_i D off;have ⟨Y,h⟩:=ai h;have ⟨q,u,h⟩:=bind_some h;have ⟨N,o,h⟩:=bind_some h;have ⟨hn,h⟩:=ai h;cases ae h;cases au Y;have ⟨M,i⟩:=hγ _ rfl;have ⟨p,ver,K⟩:=o8 u;have l:=B.chs _ (hc _ (p.mem_iff.2 (List.mem_cons_self ..)));rw[K] at l;have X:LV.ok P w0 J θ s.nxt (.rd q.g (.sl E (.int .u8)) q.d.1):=l.2.2 _ (by simp);have k:=j (.one (.ptr D 0)) (by simp);have ⟨L,W⟩:=mf B hs H (ps:=ps) (gh:=gh) (C:=Ch.blk (bk (hv θ D)) [γ,.int .i64 d.1.1,.int .i64 d.1.2] T::C) d.2 o (fun y I=>j y (by grind)) (fun e K=>hc e (p.mem_iff.2 (by grind))) (fun q' O=>by grind) (f.perm List.perm_middle.symm);have A:ku gh (.crs T E::ps) (.one (.ptr D 0)::xs) d= [(D,.blk T [.rd q.g (.sl E (.int .u8)) q.d.1,.val (.int .i64 d.1.1),.val (.int .i64 d.1.2)])] ++ku gh ps xs d.2:=by
    rw[M];rfl
   rw[A];refine ⟨?_,fun g F=>?_⟩
   ·show St J w0 w (Ch.blk (bk (hv θ' D)) [hv θ' q.g,.int .i64 d.1.1,.int .i64 d.1.2] T::((ku gh ps xs d.2).map _++C));rw[bc hs k,bc hs X.1,<-show γ=hv θ q.g from i];exact L.perm List.perm_middle
   ·rcases aE F with F | F
    ·cases al F;refine ⟨.inr ⟨_,_,rfl,fun z S=>?_⟩,k⟩;rcases aG S with rfl | S
     ·grind[LV.ok_same,Hp.le.rfl]
     ·rcases aG S with rfl | S
      ·rfl
      ·cases al S
       rfl
    grind
  grind
 | .kb g T t::ps,x::xs,v,chs,r,d,C,h,j,hc,hγ,f=>by
  unfold eE at h;split at h
  ·rename_i D;have ⟨c,Q,h⟩:=bind_some h;have ⟨hk,h⟩:=ai h;have ⟨q,u,h⟩:=bind_some h;have ⟨N,o,h⟩:=bind_some h;have ⟨hn,h⟩:=ai h;cases ae h;have ⟨M,i⟩:=hγ _ rfl;have ⟨ver,Z⟩:=Fg Q;have l:=(B.chs _ Z).2.2;have k:=l.2.1 (.ptr c.2 0) (by simp);have f:St J w0 w (Ch.box (bk γ) T t.rep d.1::(outCh γ ps (xs.map (·.v θ)) d.2++C)):=f;have V:bk γ=bk (hv θ c.2):=by rw[i];rfl
   rw[V] at f;have ⟨L,W⟩:=mf B hs H (ps:=ps) (gh:=gh) (C:=Ch.box (bk (hv θ c.2)) T t.rep d.1::C) d.2 o (fun y I=>j y (by grind)) (fun e K=>hc e ((qi u).mem_iff.2 (by grind))) (fun q' O=>by grind[Ff]) (f.perm List.perm_middle.symm);have A:ku gh (.kb g T t::ps) (.one (.own D)::xs) d= [(c.2,.box T t d.1)] ++ku gh ps xs d.2:=by
    rw[M];rfl
   rw[A];refine ⟨?_,fun g i=>?_⟩
   ·show St J w0 w (Ch.box (bk (hv θ' c.2)) T t.rep d.1::((ku gh ps xs d.2).map _++C));rw[bc hs k];exact L.perm List.perm_middle
   ·rcases aE i with i | i
    ·cases al i;exact ⟨.inl trivial,k⟩
    grind
  grind
 | .kc g::ps,x::xs,v,chs,r,d,C,h,j,hc,hγ,f=>by
  unfold eE at h;split at h
  ·have ⟨c,Q,h⟩:=bind_some h;have ⟨hk,h⟩:=ai h;have ⟨N,o,h⟩:=bind_some h;have ⟨hn,h⟩:=ai h;exact mf B hs H (ps:=ps) d o (fun y I=>j y (by grind)) hc (fun q' O=>by grind[Ff]) f
  grind
 | .cap _ _::_,_::_,_,_,_,_,_,h,_,_,_,_=>by cases h
 | .capf _ _ _::_,_::_,_,_,_,_,_,h,_,_,_,_=>by cases h
 | [],_::_,_,_,_,_,_,h,_,_,_,_=>by cases h
 | .rd _::_,[],_,_,_,_,_,h,_,_,_,_=>by cases h
 | .ow _::_,[],_,_,_,_,_,h,_,_,_,_=>by cases h
 | .eat _::_,[],_,_,_,_,_,h,_,_,_,_=>by cases h
 | .fn _ _::_,[],_,_,_,_,_,h,_,_,_,_=>by cases h
 | .ptr _ _::_,[],_,_,_,_,_,h,_,_,_,_=>by cases h
 | .cap _ _::_,[],_,_,_,_,_,h,_,_,_,_=>by cases h
 | .capf _ _ _::_,[],_,_,_,_,_,h,_,_,_,_=>by cases h
 | .fk _::_,[],_,_,_,_,_,h,_,_,_,_=>by cases h
 | .crs _ _::_,[],_,_,_,_,_,h,_,_,_,_=>by cases h
 | .kb _ _ _::_,[],_,_,_,_,_,h,_,_,_,_=>by cases h
 | .kc _::_,[],_,_,_,_,_,h,_,_,_,_=>by cases h
end
theorem zZ {l m:List Ch} (h:Ch.deeps l) (k:Ch.deeps m):Ch.deeps (l++m):=by
 induction l with
 | nil=>exact k
 | cons c l ih=>exact ⟨h.1,ih h.2⟩
theorem uU {v:Value} : ∀(ts:List Ty) (i:Nat) (d:kK ts),He ts=true->Ch.deeps (yY i ts d v)
 | [],_,_,_=>trivial
 | t::ts,i,d,h=>by
  have h:(t.dp&&He ts)=true:=h;rw[ak] at h;exact ⟨Bm (Ty.dp_ok h.1),uU ts (i+1) d.2 h.2⟩
theorem DS {v:Value} (ts:List Ty) (d:kK ts) (h:He ts=true):Ch.deeps (resGv ts d v):=by
 match ts,d,h with
 | [t],d,h =>
  have h:(t.dp&&true)=true:=h;rw[Bool.and_true] at h;exact ⟨Bm (Ty.dp_ok h),trivial⟩
 | [],d,h=>exact uU (v:=v) [] 0 d h
 | _::_::_,d,h=>exact uU (v:=v) _ 0 d h
def Ty.fin:Ty->Bool
 | .int _=>true
 | .bool=>true
 | .str=>true
 | .prod a b=>a.fin&&b.fin
 | .wr t=>t.fin
 | _=>false
theorem Ty.fin_ok: ∀ {t:Ty},t.fin=true->t.rep.Fin
 | .int _,_=>EW
 | .bool,_=>EW (h1:=fun _=>rfl)
 | .str,_=>EW (h1:=fun _=>rfl)
 | .raw,h=>by cases h
 | .prod a b,h=>by
  have h:(a.fin&&b.fin)=true:=h;rw[ak] at h;exact R2 (fin_ok h.1) (fin_ok h.2)
 | .wr t,h=>fin_ok (t:=t) h
 | .sl _ _,h=>by cases h
 | .fro _,h=>by cases h
 | .bag _,h=>by cases h
 | .tree _ _ _,h=>by cases h
def recT:Ty->Bool
 | .tree _ _ u=>u.fin
 | _=>false
theorem Oy {t:Ty} (h:recT t=true) {cs:List Value} {d:t.den} :(Ch.own t.rep cs d).recl:=by
 cases t with
 | tree T E u=>exact NW (Ty.fin_ok h)
 | _=>cases h
def Hn:List Ty->Bool
 | [] =>true
 | t::ts=>(t.dp&&Hn ts) || (recT t&&He ts)
theorem ze {v:Value} {D:List Ch} (a:Ch.deeps D): ∀(ts:List Ty) (i:Nat) (d:kK ts),Hn ts=true->Ch.back (yY i ts d v++D)
 | [],_,_,_=>Ch.back_deeps a
 | t::ts,i,d,h=>by
  have h:((t.dp&&Hn ts) || (recT t&&He ts))=true:=h;rw[Bool.or_eq_true,ak,ak] at h;rcases h with h | h
  ·exact .inl ⟨Bm (Ty.dp_ok h.1),ze a ts (i+1) d.2 h.2⟩
  ·exact .inr ⟨Oy h.1,zZ (uU ts (i+1) d.2 h.2) a⟩
theorem zf {v:Value} {D:List Ch} (a:Ch.deeps D) (ts:List Ty) (d:kK ts) (h:Hn ts=true):Ch.back (resGv ts d v++D):=by
 match ts,d,h with
 | [t],d,h =>
  have h:((t.dp&&true) || (recT t&&true))=true:=h;rw[Bool.and_true,Bool.and_true,Bool.or_eq_true] at h;rcases h with h | h
  ·exact .inl ⟨Bm (Ty.dp_ok h),Ch.back_deeps a⟩
  ·exact .inr ⟨Oy h,a⟩
 | [],d,h=>exact ze (v:=v) a [] 0 d h
 | _::_::_,d,h=>exact ze (v:=v) a _ 0 d h
theorem U0 {α:Type} {b:Nat} {T:TypeId} {R:Rep α} {d:α} (h:R.Dp):(Ch.box b T R d).deep:=by
 rintro I J w F ⟨cells,G,rfl,c,a⟩;exact ⟨cells,G,rfl,c,h a⟩
theorem eP {γ:Value} : ∀(ps:List PM) (vs:List Value) (d:kK (outs ps)),zb ps=true->Ch.deeps (outCh γ ps vs d)
 | [],vs,_,_=>by cases vs <;> trivial
 | .ow t::ps,[],d,h=>trivial
 | .ow t::ps,v::vs,d,h=>by
  have h:(t.dp&&zb ps)=true:=h;rw[ak] at h;exact ⟨Bm (Ty.dp_ok h.1),eP ps vs d.2 h.2⟩
 | .ptr T t::ps,[],d,h=>trivial
 | .ptr T t::ps,v::vs,d,h=>by
  have h:(t.dp&&zb ps)=true:=h;rw[ak] at h;exact ⟨U0 (Ty.dp_ok h.1),eP ps vs d.2 h.2⟩
 | .rd _::ps,[],d,h=>trivial
 | .rd _::ps,v::vs,d,h=>eP ps vs d h
 | .eat _::ps,[],d,h=>trivial
 | .eat _::ps,v::vs,d,h=>eP ps vs d h
 | .fn _ _::ps,[],d,h=>trivial
 | .fn _ _::ps,v::vs,d,h=>eP ps vs d h
 | .cap _ _::ps,[],d,h=>trivial
 | .cap _ _::ps,v::vs,d,h=>eP ps vs d h
 | .capf _ _ _::ps,[],d,h=>trivial
 | .fk _::ps,[],d,h=>trivial
 | .capf _ _ _::ps,v::vs,d,h=>eP ps vs d h
 | .fk _::ps,v::vs,d,h=>eP ps vs d h
 | .crs _ _::ps,[],d,h=>trivial
 | .kb _ _ _::ps,[],d,h=>trivial
 | .kc _::ps,[],d,h=>trivial
 | .kb _ T t::ps,v::vs,d,h=>by
  have h:(t.dp&&zb ps)=true:=h;rw[ak] at h;exact ⟨U0 (Ty.dp_ok h.1),eP ps vs d.2 h.2⟩
 | .kc _::ps,v::vs,d,h=>eP ps vs d h
 | .crs _ _::ps,v::vs,d,h=>⟨UI,eP ps vs d.2 h⟩
theorem jI {id:Nat} {pth:Nat->List Nat} : ∀(t:Ty) (d:t.den) (j:Nat),∀g∈sR id pth t d j,Sf g.2
 | .prod a b,d,j=>fun g c=>by
  rcases aE c with c | c
  ·exact jI a d.1 j g c
  ·exact jI b d.2 _ g c
 | .sl E t,d,j=>fun g c=>by obtain rfl:=al c;trivial
 | .wr t,d,j=>jI t d j
 | .int _,_,_=>fun g c=>by cases c
 | .bool,_,_=>fun g c=>by cases c
 | .str,_,_=>fun g c=>by cases c
 | .raw,_,_=>fun g c=>by cases c
 | .fro _,_,_=>fun g c=>by cases c
 | .bag _,_,_=>fun g c=>by cases c
 | .tree _ _ _,d,j=>fun g c=>by obtain rfl:=al c;trivial
theorem wH {id:Nat} : ∀(i:Nat) (ts:List Ty) (d:kK ts),∀g∈zY id i ts d,Sf g.2
 | _,[],_=>fun g a=>by cases a
 | i,t::ts,d=>fun g a=>by
  rcases aE a with a | a
  ·exact jI t d.1 0 g a
  ·exact wH (i+1) ts d.2 g a
theorem rY {id:Nat} (ts:List Ty) (d:kK ts): ∀g∈sS id ts d,Sf g.2:=by
 match ts,d with
 | [t],d=>exact jI t d.1 0
 | [],d=>exact wH (id:=id) 0 [] d
 | _::_::_,d=>exact wH (id:=id) 0 _ d
theorem xG {g:Hdr×Chk} {ver:Nat} {c:Chk} (h:Sf g.2) (k:SaysH g.2 ver c):False:=by
 obtain ⟨a,x⟩:=g;cases x <;> first | exact h.elim | exact k.elim
theorem Sj {h:Hdr} {chs:List Ent} {q:Row} (b:rowOf h chs=some q) {e:Ent} (a:e∈chs) (h1:e.1=h):e=q.ent h:=by
 obtain ⟨p,k⟩:=bU b;rcases aG (p.mem_iff.1 a) with rfl | a
 ·rfl
 ·exact absurd h1 (k e a)
theorem Oz {h:Hdr} {chs:List Ent} {q:TreeE} (b:Hf h chs=some q) {e:Ent} (a:e∈chs) (h1:e.1=h):e=q.ent h:=by
 obtain ⟨p,k⟩:=Oo b;rcases aG (p.mem_iff.1 a) with rfl | a
 ·rfl
 ·exact absurd h1 (k e a)
theorem Sk {h:Hdr} {chs:List Ent} {q:Blk} (b:Y4 h chs=some q) {e:Ent} (a:e∈chs) (h1:e.1=h):e=q.ent h:=by
 obtain ⟨p,k⟩:=Oq b;rcases aG ((ld p).mem_iff.1 a) with rfl | a
 ·rfl
 ·exact absurd h1 (k e a)
theorem OpT.post {P:Program} {w0:World} {o:Oper} {I:Hp} {ev:Operand->Value} {rn:List Ch} {fact a:Value->Prop} {gv b:Value->List Ch} (h:OpT P I w0 o ev rn fact gv) (hp: ∀v w C,fact v->St I w0 w (gv v++C)->a v/\St I w0 w (b v++C)):OpT P I w0 o ev rn a b :=
 fun w C c=>(h w C c).imp fun v w hv=>hp v w C hv.1 hv.2
theorem OpT.sepTo {P:Program} {w0:World} {o:Oper} {I:Hp} {ev:Operand->Value} {l a:List Ch} {fact:Value->Prop} {gv:Value->List Ch} (k:rb I l a) (h:OpT P I w0 o ev a fact gv):OpT P I w0 o ev l fact gv:=fun w C d=>by
 obtain ⟨f,e,F,g,j,b⟩:=d;obtain ⟨G,K,rfl,c,i⟩:=g.split;exact h w C ⟨f,e,G++K,(k w G c).append i,j,b⟩
section
variable {Y:Type} (ft:FT) (s:Sg) (k:Res->Option Y)
def I6 (s:Sg):List Operand->Option (List AV)
 | [] =>some []
 | x::xs=>(opd s x).bind fun v=>(I6 s xs).bind fun vs=>some (v::vs)
def KL (f:FS) (xs:List AV) (kx:List Ent->List Ent->List Ent->Option GhQ->dens (f.rs++outs f.ps)->Option Y):Option Y:=(eE ft s s.chs f.ps xs).bind fun a =>
 (Fe (I5 a.lent []) a.rest).bind fun pl=>match (He f.rs&&zb f.ps) || pl.1.isEmpty with
 | true=>(appP f.ps f.m a.d).bind fun r=>kx pl.1 a.own pl.2 a.gh r
 | false=>b8 (Hn f.rs&&zb f.ps) ((appP f.ps f.m a.d).bind fun r=>kx [] (a.own++pl.1) pl.2 a.gh r)
def W3 (f : FS) (xs : List AV) (L M R : List Ent) (gh : Option GhQ) (r : dens (f.rs ++ outs f.ps)) : Option Y :=
    k ⟨L, M, R, sS s.nxt f.rs (hFst f.rs (outs f.ps) (toH _ r)) ++ ku gh f.ps xs (hSnd f.rs (outs f.ps) (toH _ r)), I2 s.nxt f.rs (hFst f.rs (outs f.ps) (toH _ r))⟩
def U1 (g:FuncId) (xs:List Operand):Option Y:=(fs ft g).bind fun f=>b8 (!f.ov)<|(I6 s xs).bind fun vs=>KL ft s f vs (W3 s k f vs)
def adf:(ts:List Ty)->kK ts->Int
 | [.sl _ t],d=>((List.length (α:=t.den) d.1:Nat):Int)
 | _,_=>1
def OA (ts:List Ty) (d:kK ts):Bool:=decide (adf ts d=0)
def U2 (g : FuncId) (xs : List Operand) : Option Y := (fs ft g).bind fun f => b8 (!f.ov) <| (I6 s xs).bind fun vs => KL ft s f vs fun L M R gh r =>
    if OA f.rs (hFst f.rs (outs f.ps) (toH _ r)) then k ⟨L, M, R, ku gh f.ps vs (hSnd f.rs (outs f.ps) (toH _ r)), .one (.val (.slice none 0 0))⟩
    else W3 s k f vs L M R gh r
def ZF (f:FS) (n:Nat):Bool:=match f.ps.drop n with
 | [.ptr _ _] =>true
 | _=>false
def KM (t n:Nat):Option (FuncId×Hdr):=match look s.env t with
 | some (.one (.own h))=>(abt h s.chs).bind fun c=>(fs ft c.1).bind fun f=>match ZF f n with
  | true=>some c
  | false=>none
 | _=>none
def U3 (c:FuncId×Hdr) (xs:List Operand):Option Y:=(fs ft c.1).bind fun f=>b8 (!f.ov)<|(I6 s xs).bind fun vs=>KL ft s f (vs++ [.one (.ptr c.2 0)]) (W3 s k f (vs++ [.one (.ptr c.2 0)]))
def adL (n:Nat):LV->Option (List Ty×List Ty)
 | .fn _ a b _=>some (a,b)
 | .own h=>(Ou h s.chs).bind fun q=>(fs ft q.1).bind fun f=>(WY ((f.ps.drop q.2.1.length).take n)).bind fun a=>some (a,f.rs++outs f.ps)
 | _=>none
def W4:(ts:List Ty)->List Operand->Option (kK ts×List Hdr)
 | [],[] =>some ((),[])
 | t::ts,x::xs=>(opd s x).bind fun v=>(Bz s.chs t v).bind fun a=>(W4 ts xs).bind fun r=>some ((a.1,r.1),a.2++r.2)
 | _,_=>none
def OB (t:Nat) (xs:List Operand):Option Y:=(oneOf0 (look s.env t)).bind fun y=>(adL ft s xs.length y).bind fun ab=>(W1 ft s.chs 4 ab.1 ab.2 y).bind fun q=>(W4 s ab.1 xs).bind fun d =>
 (Fe (I5 (q.lent++d.2) []) s.chs).bind fun pl=>b8 (He ab.2) ((app ab.1 q.e d.1).bind fun r=>k ⟨pl.1,[],pl.2,sS s.nxt ab.2 (toH _ r),I2 s.nxt ab.2 (toH _ r)⟩)
where oneOf0:Option AV->Option LV
 | some (.one x)=>some x
 | _=>none
end
section
variable {Y:Type} {ft:FT} {s:Sg} {k:Res->Option Y} {P:Program} {w0:World} {o:Oper} {res:Y}
theorem Fh {J:Hp} {θ:Th} {hs:List Hdr} {l:List Ent} (n:l.map (·.1)=I5 hs []) (b: ∀e∈l,e∈s.chs) (j: ∀ {α:Type} (R:Rep α) (v:List Value) (a:α),Ch.own R v a∈l.map (toCh P θ)->R.rd J v a) (p: ∀g c E,Ch.blk g c E∈l.map (toCh P θ)->J g=some (.cells c.toArray E (0,0))):Lent J θ s.chs hs:=fun h r=>by
 have m:h∈l.map (·.1):=by
  rw[n];rcases BB (acc:=[]) r with d | d
  ·exact d
  ·cases d
 obtain ⟨e,f,d⟩:=List.mem_map.1 m;refine ⟨fun q i=>?_,fun q i=>?_,fun q i=>?_⟩
 ·have:=Sj i (b e f) d
  subst this;exact j _ _ _ (List.mem_map.2 ⟨_,f,rfl⟩)
 ·have:=Oz i (b e f) d
  subst this;exact j _ _ _ (List.mem_map.2 ⟨_,f,rfl⟩)
 ·have:=Sk i (b e f) d
  subst this;exact p _ _ _ (List.mem_map.2 ⟨_,f,rfl⟩)
theorem gC: ∀ {ps:List PM} {xs:List AV} {chs:List Ent} {r:Args ps},eE ft s chs ps xs=some r->chs.Perm (r.own++r.rest)
 | [],[],chs,r,h=>by obtain rfl:=ae (show some _=some r from h);exact List.Perm.refl _
 | .rd t::ps,x::xs,chs,r,h=>by
  obtain ⟨a,w,h⟩:=bind_some (show (Bz s.chs t x).bind _=some r from h);obtain ⟨q,f,h⟩:=bind_some h;obtain rfl:=ae h;exact gC (ps:=ps) f
 | .ow t::ps,x::xs,chs,r,h=>by
  obtain ⟨m,h⟩:=ai (show b8 (ph x==t.isProd) _=some r from h);obtain ⟨u,i,h⟩:=bind_some h;obtain ⟨q,f,h⟩:=bind_some h;obtain ⟨p,h⟩:=ai h;obtain ⟨e,d,h⟩:=bind_some h;obtain rfl:=ae h;show chs.Perm ((q.used++e.own)++e.rest);rw[aC];exact (iH f).trans ((gC d).append_left _)
 | .eat t::ps,x::xs,chs,r,h=>by
  obtain ⟨m,h⟩:=ai (show b8 (ph x==t.isProd) _=some r from h);obtain ⟨u,i,h⟩:=bind_some h;obtain ⟨q,f,h⟩:=bind_some h;obtain ⟨p,h⟩:=ai h;obtain ⟨e,d,h⟩:=bind_some h;obtain rfl:=ae h;show chs.Perm ((q.used++e.own)++e.rest);rw[aC];exact (iH f).trans ((gC d).append_left _)
 | .fn a b::ps,x::xs,chs,r,h=>by
  unfold eE at h;split at h
  ·obtain ⟨q,f,h⟩:=bind_some h;obtain ⟨e,d,h⟩:=bind_some h;obtain rfl:=ae h;exact gC (ps:=ps) d
  ·cases h
 | .ptr T t::ps,x::xs,chs,r,h=>by
  unfold eE at h;split at h
  ·obtain ⟨n,h⟩:=ai h;obtain ⟨q,f,h⟩:=bind_some h;obtain ⟨e,d,h⟩:=bind_some h;obtain rfl:=ae h;show chs.Perm ((q.2.1++e.own)++e.rest);rw[aC];exact (qi f).trans ((gC d).append_left _)
  ·cases h
 | .crs T E::ps,x::xs,chs,r,h=>by
  unfold eE at h;split at h
  ·obtain ⟨n,h⟩:=ai h;obtain ⟨q,f,h⟩:=bind_some h;obtain ⟨e,d,h⟩:=bind_some h;obtain ⟨j,h⟩:=ai h;obtain rfl:=ae h;exact (o8 f).1.trans ((gC d).cons _)
  ·cases h
 | .fk g::ps,x::xs,chs,r,h=>by
  unfold eE at h;split at h
  ·obtain ⟨l,h⟩:=ai h;obtain ⟨e,d,h⟩:=bind_some h;obtain rfl:=ae h;exact gC (ps:=ps) d
  ·cases h
 | .kb g T t::ps,x::xs,chs,r,h=>by
  unfold eE at h;split at h
  ·obtain ⟨c,v,h⟩:=bind_some h;obtain ⟨l,h⟩:=ai h;obtain ⟨q,f,h⟩:=bind_some h;obtain ⟨e,d,h⟩:=bind_some h;obtain ⟨j,h⟩:=ai h;obtain rfl:=ae h;show chs.Perm ((q.2.1++e.own)++e.rest);rw[aC];exact (qi f).trans ((gC d).append_left _)
  ·cases h
 | .kc g::ps,x::xs,chs,r,h=>by
  unfold eE at h;split at h
  ·obtain ⟨c,v,h⟩:=bind_some h;obtain ⟨l,h⟩:=ai h;obtain ⟨e,d,h⟩:=bind_some h;obtain ⟨j,h⟩:=ai h;obtain rfl:=ae h;exact gC (ps:=ps) d
  ·cases h
 | .kb _ _ _::_,[],_,_,h=>by cases h
 | .kc _::_,[],_,_,h=>by cases h
 | .cap _ _::_,_::_,_,_,h=>by cases h
 | .capf _ _ _::_,_::_,_,_,h=>by cases h
 | [],_::_,_,r,h=>by cases h
 | .rd _::_,[],_,r,h=>by cases h
 | .ow _::_,[],_,r,h=>by cases h
 | .eat _::_,[],_,r,h=>by cases h
 | .fn _ _::_,[],_,r,h=>by cases h
 | .ptr _ _::_,[],_,r,h=>by cases h
 | .cap _ _::_,[],_,_,h=>by cases h
 | .capf _ _ _::_,[],_,_,h=>by cases h
 | .fk _::_,[],_,_,h=>by cases h
 | .crs _ _::_,[],_,_,h=>by cases h
theorem Mv: ∀ {t:Ty} {d:t.den} {cs:List LV},∀g∈AD t d cs,Sf g.2:=by
 intro t;induction t with
 | prod a b f e =>
  intro d cs g c;rcases aE c with c | c
  ·exact f g c
  ·exact e g c
 | wr t i=>intro d cs g c;exact i g c
 | sl E t i =>
  intro d cs g c;cases cs with
  | nil=>cases c
  | cons x l =>
   cases x with
   | own h=>obtain rfl:=al c;trivial
   | _=>cases c
 | _=>intro d cs g c;cases c
theorem fl {gh:Option GhQ} : ∀ {ps:List PM} {xs:List AV} {d:kK (outs ps)},∀g∈ku gh ps xs d,∀b c,SaysH g.2 b c->False
 | [],xs,d=>fun g a=>by cases xs <;> cases a
 | .ow t::ps,[],d=>fun g a=>by cases a
 | .ow t::ps,x::xs,d=>fun g a=>by
  have a:g∈((mc x).elim [] fun f=>AD t d.1 f)++ku gh ps xs d.2:=a;rcases aE a with a | a
  ·cases e:mc x with
   | none=>rw[e] at a;cases a
   | some f=>rw[e] at a;exact fun b c k=>xG (Mv g a) k
  ·exact fl g a
 | .ptr T t::ps,[],d=>fun g a=>by cases a
 | .ptr T t::ps,x::xs,d=>fun g a=>by
  have a:g∈(match (generalizing:=false) x with | .one (.ptr h _)=>[(h,Chk.box T t d.1)] | _=>[])++ku gh ps xs d.2:=a;rcases aE a with a | a
  ·split at a
   ·obtain rfl:=al a;exact fun b c k=>k
   ·cases a
  ·exact fl g a
 | .rd _::ps,[],d=>fun g a=>by cases a
 | .rd _::ps,_::xs,d=>fl (ps:=ps)
 | .eat _::ps,[],d=>fun g a=>by cases a
 | .eat _::ps,_::xs,d=>fl (ps:=ps)
 | .fn _ _::ps,[],d=>fun g a=>by cases a
 | .fn _ _::ps,_::xs,d=>fl (ps:=ps)
 | .cap _ _::ps,[],d=>fun g a=>by cases a
 | .cap _ _::ps,_::xs,d=>fl (ps:=ps)
 | .capf _ _ _::ps,[],d=>fun g a=>by cases a
 | .fk _::ps,[],d=>fun g a=>by cases a
 | .capf _ _ _::ps,_::xs,d=>fl (ps:=ps)
 | .fk _::ps,_::xs,d=>fl (ps:=ps)
 | .kc _::ps,[],d=>fun g a=>by cases a
 | .kc _::ps,_::xs,d=>fl (ps:=ps)
 | .kb _ T t::ps,[],d=>fun g a=>by cases a
 | .kb _ T t::ps,x::xs,d=>fun g a=>by
  have a:g∈(match (generalizing:=false) gh with | some (.box h)=>[(h,Chk.box T t d.1)] | _=>[])++ku gh ps xs d.2:=a;rcases aE a with a | a
  ·split at a
   ·obtain rfl:=al a;exact fun b c k=>k
   ·cases a
  ·exact fl g a
 | .crs T E::ps,[],d=>fun g a=>by cases a
 | .crs T E::ps,x::xs,d=>fun g a=>by
  have a:g∈(match (generalizing:=false) x,gh with | .one (.ptr h _),some (.cur g l)=>[(h,Chk.blk T [.rd g (.sl E (.int .u8)) l,.val (.int .i64 d.1.1),.val (.int .i64 d.1.2)])] | _,_=>[])++ku gh ps xs d.2:=a;rcases aE a with a | a
  ·split at a
   ·obtain rfl:=al a;exact fun b c k=>k
   ·cases a
  ·exact fl g a
theorem Sl {α:Type} (A L O C:List α):(A++(L++(O++C))).Perm (O++(A++(L++C))):=by
 rw[<-aC A L (O++C),<-aC A L C];exact List.perm_append_comm_assoc _ _ _
theorem OC {α:Type} (B A L C:List α):(B++(A++(L++C))).Perm (L++(A++B)++C):=by
 have h:(B++(A++L)).Perm (L++(A++B)):=List.perm_append_comm.trans ((List.Perm.of_eq (aC ..)).trans (List.perm_append_comm_assoc _ _ _))
 have:=h.append_right C
 rwa [aC,aC] at this
theorem Sn {P:Program} {I:Hp} {w0:World} {o:Oper} {ev:Operand->Value} {ls rn:List Ch} {fact:Value->Prop} {gv:Value->List Ch} (f: ∀v,Ch.back (gv v))
  (h: ∀J,I.le J->(∀ {α:Type} (R:Rep α) (v:List Value) (a:α),Ch.own R v a∈ls->R.rd J v a)->(∀g l E,Ch.blk g l E∈ls->J g=some (.cells l.toArray E (0,0)))->OpT P J w0 o ev rn fact gv):OpT P I w0 o ev (ls++rn) fact gv:=by
 intro w C b;rw[aC] at b;obtain ⟨J,c,d,e,i,j⟩:=On b;exact (h J c d e w _ i).imp fun v m hv=>⟨hv.1,hv.2.back c (f v)⟩
theorem OD {α:Type} (L G O C:List α):(L++(G++O)++C).Perm (O++(L++C)++G):=by
 refine (List.Perm.append_right C List.perm_append_comm).trans ?_;rw[aC,aC];exact List.perm_append_comm
theorem OE {ts:List Ty} {d:kK ts} {v:Value} (h:OA ts d=true) (k:zX ts d v):v= .slice none 0 0:=by
 have h:=of_decide_eq_true h;unfold adf at h;split at h
 ·exact k (Int.ofNat.inj h)
 ·exact absurd h (by decide)
def ghV (θ:Th):Option GhQ->Value
 | some q=>q.v θ
 | none=>undef
theorem DT {θ:Th} {o:Option GhQ} : ∀q,o=some q->ghV θ o=q.v θ:=fun q h=>by rw[h];rfl
theorem Fi {J:Hp} {θ:Th} (d:Fine P w0 J θ s): ∀ {xs:List Operand} {vs:List AV},I6 s xs=some vs->xs.map (evL (envL θ s))=vs.map (·.v θ)/\ ∀x∈vs,x.ok P w0 J θ s.nxt s.chs
 | [],vs,h=>by obtain rfl:=ae (show some _=some vs from h);exact ⟨rfl,fun x f=>by cases f⟩
 | x::xs,vs,h=>by
  obtain ⟨v,a,h⟩:=bind_some (show (opd s x).bind _=some vs from h);obtain ⟨i,b,h⟩:=bind_some h;obtain rfl:=ae h;obtain ⟨e,g⟩:=Fi d b;refine ⟨by rw[List.map_cons,List.map_cons,e,aI (θ:=θ) a],fun y c=>?_⟩;rcases aG c with rfl | c
  ·exact b7 d a
  ·exact g y c
def KN (P:Program) (w0:World) (s:Sg) (cv:Operand) (g:FuncId) (xs:List Operand) (vs:List AV):Prop:= ∀J θ,Fine P w0 J θ s-> ∃cap:Array Value,evL (envL θ s) cv= .func (.func g) #[] cap/\xs.map (evL (envL θ s))++cap.toList=vs.map (·.v θ)/\ ∀x∈vs,x.ok P w0 J θ s.nxt s.chs
theorem KO {g:FuncId} {xs:List Operand} {vs:List AV} (h:I6 s xs=some vs):KN P w0 s (.func g) g xs vs:=fun J θ c=>by
 obtain ⟨b,a⟩:=Fi c h;exact ⟨#[],rfl,by rw[b];simp,a⟩
theorem So {t n:Nat} {c:FuncId×Hdr} {xs:List Operand} {vs:List AV} (hp:KM ft s t n=some c) (h:I6 s xs=some vs):KN P w0 s (.tmp t) c.1 xs (vs++ [.one (.ptr c.2 0)]):=fun J θ j=>by
 unfold KM at hp;split at hp
 ·rename_i q i;obtain ⟨b,u,hp⟩:=bind_some hp;obtain ⟨f,m,hp⟩:=bind_some hp;split at hp
  ·obtain rfl:=ae hp;obtain ⟨p,l⟩:=Fi j h;obtain ⟨r,v⟩:=Fg u;have a:=(j.chs _ v).2.2;have e:hv θ q= .func (.func b.1) #[] #[.pointer (some ⟨bk (hv θ b.2),0,none⟩)]:=a.2.2;have g:b.2.id<s.nxt:=a.2.1 (.ptr b.2 0) (by simp);refine ⟨#[.pointer (some ⟨bk (hv θ b.2),0,none⟩)],?_,?_,fun x d=>?_⟩
   ·rw[<-e];exact aI (x:=.tmp t) (θ:=θ) i
   ·rw[p,aX];rfl
   ·rcases aE d with d | d
    ·exact l x d
    ·obtain rfl:=al d;exact g
  ·cases hp
 ·cases hp
theorem BD (U:FTok P ft) {f:FS} {g:FuncId} (t:Enters P g) {fact:dens (f.rs++outs f.ps)->Value->Prop} (l: ∀w0 J γ vs (d:denP f.ps) r,Lay P J->PArgs P w0 J γ f.ps vs d->appP f.ps f.m d=some r->
  Con P g vs.toArray J w0 (owCh γ f.ps vs d) (fact r) (fun v=>resGv f.rs (hFst f.rs (outs f.ps) (toH _ r)) v++outCh γ f.ps vs (hSnd f.rs (outs f.ps) (toH _ r)))) {xs:Array Operand} {ts:Array TypeId} {W:Operand} {vs:List AV} (w:KN P w0 s W g xs.toList vs) (K:o.op= .call { callee:=.value W,args:=xs,argTypes:=ts }) {X:List Ent->List Ent->List Ent->Option GhQ->dens (f.rs++outs f.ps)->Option Y} (h:KL ft s f vs X=some res) :
  ∃L M R r a,X L M R a.gh r=some res/\s.chs.Perm (L++M++R)/\eE ft s s.chs f.ps vs=some a/\ ∀J θ,Fine P w0 J θ s->OpT P J w0 o (evL (envL θ s)) (L.map (toCh P θ)++M.map (toCh P θ)) (fact r) (fun v=>L.map (toCh P θ)++(resGv f.rs (hFst f.rs (outs f.ps) (toH _ r)) v++outCh (ghV θ a.gh) f.ps (vs.map (·.v θ)) (hSnd f.rs (outs f.ps) (toH _ r)))):=by
 obtain ⟨a,u,h⟩:=bind_some h;obtain ⟨D,j,h⟩:=bind_some h;obtain ⟨Z,Q⟩:=za j;have O:s.chs.Perm (a.own++a.rest):=gC u;have b:s.chs.Perm (D.1++a.own++D.2):=by
  refine O.trans ((Z.append_left a.own).trans ?_);rw[aC];exact List.perm_append_comm_assoc _ _ _
 split at h
 ·rename_i n;obtain ⟨r,G,h⟩:=bind_some h;rw[Bool.or_eq_true,ak] at n;refine ⟨_,_,_,r,a,h,b,u,fun J θ m=>?_⟩;obtain ⟨cap,B,C,F⟩:=w J θ m;rcases n with ⟨S,H⟩ | n
  ·refine xE (fun v=>zZ (DS _ _ S) (eP _ _ _ H)) fun N z p q=>?_;obtain ⟨y,V,A⟩:=gT U m z u F (fun e i=>i) (Fh Q (fun e i=>b.mem_iff.2 (by simp[i])) p q) (ghV θ a.gh) DT;exact OpT.sepTo A (qf t K B (by rw[List.nil_append,C]) (l w0 N (ghV θ a.gh) _ a.d r (m.lay.mono z) y G))
  ·have j:D.1= []:=List.isEmpty_iff.1 n;obtain ⟨y,V,A⟩:=gT U m Hp.le.rfl u F (fun e i=>i) (Fh (P:=P) Q (fun e i=>b.mem_iff.2 (by simp[i])) (by rw[j];intro α R v x T;cases T) (by rw[j];intro g c E T;cases T)) (ghV θ a.gh) DT;rw[j];exact OpT.sepTo A (qf t K B (by rw[List.nil_append,C]) (l w0 J (ghV θ a.gh) _ a.d r m.lay y G))
 ·obtain ⟨n,h⟩:=ai h;obtain ⟨r,G,h⟩:=bind_some h;rw[ak] at n;refine ⟨[],_,_,r,a,h,(by
   rw[List.nil_append];refine b.trans ?_;exact List.Perm.append_right _ List.perm_append_comm),u,fun J θ m=>?_⟩
  obtain ⟨cap,B,C,F⟩:=w J θ m
  have:=Sn (P:=P) (I:=J) (w0:=w0) (o:=o) (ev:=evL (envL θ s)) (ls:=D.1.map (toCh P θ)) (rn:=a.own.map (toCh P θ)) (fact:=fact r) (gv:=fun v=>resGv f.rs (hFst f.rs (outs f.ps) (toH _ r)) v++outCh (ghV θ a.gh) f.ps (vs.map (·.v θ)) (hSnd f.rs (outs f.ps) (toH _ r))) (fun v=>zf (eP _ _ _ n.2) _ _ n.1) fun N z p q=>by
    obtain ⟨y,V,A⟩:=gT U m z u F (fun e i=>i) (Fh Q (fun e i=>b.mem_iff.2 (by simp[i])) p q) (ghV θ a.gh) DT;exact OpT.sepTo A (qf t K B (by rw[List.nil_append,C]) (l w0 N (ghV θ a.gh) _ a.d r (m.lay.mono z) y G))
  rw[List.map_nil,List.nil_append,aX];exact OpT.permN List.perm_append_comm this
section
variable {f:FS} {vs:List AV} {L M R:List Ent} {r:dens (f.rs++outs f.ps)} {a:Args f.ps} (hvs: ∀J θ,Fine P w0 J θ s-> ∀x∈vs,x.ok P w0 J θ s.nxt s.chs)
include hvs
theorem BE (E:eE ft s s.chs f.ps vs=some a) (h:s.chs.Perm (L++M++R))
  (h1: ∀J θ,Fine P w0 J θ s->OpT P J w0 o (evL (envL θ s)) (L.map (toCh P θ)++M.map (toCh P θ)) (resFa f.rs) (fun v=>L.map (toCh P θ)++(resGv f.rs (hFst f.rs (outs f.ps) (toH _ r)) v++outCh (ghV θ a.gh) f.ps (vs.map (·.v θ)) (hSnd f.rs (outs f.ps) (toH _ r))))) :
  Good P w0 s o ⟨L,M,R,sS s.nxt f.rs (hFst f.rs (outs f.ps) (toH _ r))++ku a.gh f.ps vs (hSnd f.rs (outs f.ps) (toH _ r)),I2 s.nxt f.rs (hFst f.rs (outs f.ps) (toH _ r))⟩:=by
 have p: ∀g∈sS s.nxt f.rs (hFst f.rs (outs f.ps) (toH _ r))++ku a.gh f.ps vs (hSnd f.rs (outs f.ps) (toH _ r)),∀d c,SaysH g.2 d c->False:=fun g b=>by
  rcases aE b with b | b
  ·exact fun d c k=>xG (rY _ _ g b) k
  ·exact fl g b
 refine ⟨h,fun J θ l g b d c A=>(p g b d c A).elim,fun J θ l=>?_⟩;rw[aX];refine OpT.post (h1 J θ l) fun v w C t u=>?_;have j:St J w0 w (resGv f.rs (hFst f.rs (outs f.ps) (toH _ r)) v++(L.map (toCh P θ)++(outCh (ghV θ a.gh) f.ps (vs.map (·.v θ)) (hSnd f.rs (outs f.ps) (toH _ r))++C))):=by
  refine u.perm ?_;rw[aC,aC];exact List.perm_append_comm_assoc _ _ _
 obtain ⟨z,D,G,F⟩:=KH (P:=P) (m:=s.nxt) (θ:=upd θ s.nxt v) (n:=s.nxt+1) (chs:=Res.chs ⟨L,M,R,sS s.nxt f.rs (hFst f.rs (outs f.ps) (toH _ r))++ku a.gh f.ps vs (hSnd f.rs (outs f.ps) (toH _ r)),I2 s.nxt f.rs (hFst f.rs (outs f.ps) (toH _ r))⟩ s.nxt) (aA _) (iG (vs:=θ) (i:=s.nxt) (v:=v)) f.rs (hFst f.rs (outs f.ps) (toH _ r)) _ t j;have H:St J w0 w (outCh (ghV θ a.gh) f.ps (vs.map (·.v θ)) (hSnd f.rs (outs f.ps) (toH _ r))++(((sS s.nxt f.rs (hFst f.rs (outs f.ps) (toH _ r))).map fun g=>toCh P (upd θ s.nxt v) (g.1,s.nxt,g.2))++(L.map (toCh P θ)++C))):=F.perm (Sl _ _ _ _);obtain ⟨I,x⟩:=mf (P:=P) (θ:=θ) (θ':=upd θ s.nxt v) (m:=s.nxt) l Same.upd (aH _) (hSnd f.rs (outs f.ps) (toH _ r)) E (hvs J θ l) (fun e B=>B) (fun q y=>⟨y,DT q y⟩) H;refine ⟨⟨z,D,fun g b=>?_⟩,?_⟩
 ·rcases aE b with b | b
  ·exact tM (rY _ _ g b) (by rw[G g b];exact aA _) (aA _)
  ·exact KK (x g b).1 (Nat.le_succ _) (a8 (x g b).2) (aA _)
 ·show St J w0 w (L.map (toCh P θ)++((sS s.nxt f.rs (hFst f.rs (outs f.ps) (toH _ r))++ku a.gh f.ps vs (hSnd f.rs (outs f.ps) (toH _ r))).map _)++C);rw[aX];exact I.perm (OC _ _ _ _)
theorem Mw (y:eE ft s s.chs f.ps vs=some a) (b:s.chs.Perm (L++M++R)) (t:OA f.rs (hFst f.rs (outs f.ps) (toH _ r))=true)
  (h1: ∀J θ,Fine P w0 J θ s->OpT P J w0 o (evL (envL θ s)) (L.map (toCh P θ)++M.map (toCh P θ)) (fun v=>resFa f.rs v/\zX f.rs (hFst f.rs (outs f.ps) (toH _ r)) v) (fun v=>L.map (toCh P θ)++(resGv f.rs (hFst f.rs (outs f.ps) (toH _ r)) v++outCh (ghV θ a.gh) f.ps (vs.map (·.v θ)) (hSnd f.rs (outs f.ps) (toH _ r))))) :
  Good P w0 s o ⟨L,M,R,ku a.gh f.ps vs (hSnd f.rs (outs f.ps) (toH _ r)),.one (.val (.slice none 0 0))⟩:=by
 refine ⟨b,fun J θ d g h l c u=>(fl g h l c u).elim,fun J θ d=>?_⟩;rw[aX];refine OpT.post (h1 J θ d) fun v w C i j=>?_;have A:St J w0 w (outCh (ghV θ a.gh) f.ps (vs.map (·.v θ)) (hSnd f.rs (outs f.ps) (toH _ r))++(L.map (toCh P θ)++C)):=by
  refine St.left (ds:=resGv f.rs (hFst f.rs (outs f.ps) (toH _ r)) v) (j.perm ?_);exact OD _ _ _ _
 obtain ⟨z,n⟩:=mf (P:=P) (θ:=θ) (θ':=upd θ s.nxt v) (m:=s.nxt) d Same.upd (aH _) (hSnd f.rs (outs f.ps) (toH _ r)) y (hvs J θ d) (fun e x=>x) (fun q p=>⟨p,DT q p⟩) A;refine ⟨⟨Eq.refl true,(OE t i.2).symm,fun g h=>KK (n g h).1 (Nat.le_succ _) (a8 (n g h).2) (aA _)⟩,?_⟩;refine z.perm ?_;rw[aC];exact List.perm_append_comm_assoc _ _ _
end
theorem xH {b:Operand} {g:FuncId} {xs:List Operand} {vs:List AV} (h:KN P w0 s b g xs vs): ∀J θ,Fine P w0 J θ s-> ∀x∈vs,x.ok P w0 J θ s.nxt s.chs:=fun J θ a=>by
 obtain ⟨cap,-,-,h⟩:=h J θ a;exact h
theorem OF (j:FTok P ft) {g:FuncId} {xs:Array Operand} {ts:Array TypeId} (l:o.op= .call { callee:=.value (.func g),args:=xs,argTypes:=ts }) (h:U1 ft s k g xs.toList=some res):Oks P w0 s o k res:=by
 obtain ⟨f,d,h⟩:=bind_some h;obtain ⟨b,h⟩:=ai h;obtain ⟨p,e,h⟩:=bind_some h;have b:f.ov=false:=by simpa using b
 have c:=j.get d;have i:=KO (P:=P) (w0:=w0) (g:=g) e;obtain ⟨L,M,R,r,a,h,hp,n,m⟩:=BD (w0:=w0) j (c.en b) (fact:=fun _=>resFa f.rs) (c.con b) i l h;exact ⟨_,h,BE (xH i) n hp m⟩
theorem OG (l:FTok P ft) {t n:Nat} {c:FuncId×Hdr} (i:KM ft s t n=some c) {xs:Array Operand} {ts:Array TypeId} (m:o.op= .call { callee:=.value (.tmp t),args:=xs,argTypes:=ts }) (h:U3 ft s k c xs.toList=some res):Oks P w0 s o k res:=by
 obtain ⟨f,e,h⟩:=bind_some h;obtain ⟨b,h⟩:=ai h;obtain ⟨u,g,h⟩:=bind_some h;have b:f.ov=false:=by simpa using b
 have d:=l.get e;have j:=So (P:=P) (w0:=w0) i g;obtain ⟨L,M,R,r,a,h,hp,q,p⟩:=BD (w0:=w0) l (d.en b) (fact:=fun _=>resFa f.rs) (d.con b) j m h;exact ⟨_,h,BE (xH j) q hp p⟩
theorem OH (l:FTok P ft) {g:FuncId} {xs:Array Operand} {ts:Array TypeId} (d: ∀f,fs ft g=some f->NilOk P g f) (q:o.op= .call { callee:=.value (.func g),args:=xs,argTypes:=ts }) (h:U2 ft s k g xs.toList=some res):Oks P w0 s o k res:=by
 obtain ⟨f,c,h⟩:=bind_some h;obtain ⟨b,h⟩:=ai h;obtain ⟨t,i,h⟩:=bind_some h;have b:f.ov=false:=by simpa using b
 have e:=l.get c;have j:=KO (P:=P) (w0:=w0) (g:=g) i;obtain ⟨L,M,R,r,a,h,hp,n,m⟩:=BD (w0:=w0) l (e.en b) (fact:=fun r v=>resFa f.rs v/\zX f.rs (hFst f.rs (outs f.ps) (toH _ r)) v) (d f c) j q h;split at h
 ·exact ⟨_,h,Mw (xH j) n hp ‹_› m⟩
 ·exact ⟨_,h,BE (xH j) n hp fun J θ p=>OpT.weak (m J θ p) (fun v hv=>hv.1) fun v _=>rfl⟩
theorem KP {J J':Hp} {θ:Th} (d:Fine P w0 J θ s) (e:J.le J'): ∀ {ts:List Ty} {xs:List Operand} {r:kK ts×List Hdr},W4 s ts xs=some r->Lent J' θ s.chs r.2->NY J' ts (xs.map (evL (envL θ s))) r.1
 | [],[],r,h,_=>by obtain rfl:=ae (show some _=some r from h);exact Eq.refl _
 | t::ts,x::xs,r,h,hl=>by
  obtain ⟨v,b,h⟩:=bind_some (show (opd s x).bind _=some r from h);obtain ⟨a,g,h⟩:=bind_some h;obtain ⟨q,j,h⟩:=bind_some h;obtain rfl:=ae h;obtain ⟨i,c,f⟩:=Hg g (AV.ok_same Same.rfl (aH _) Newer.rfl (b7 d b) e) hl.l;rw[<-aI (θ:=θ) b] at c;exact ⟨_,i,_,rfl,c,f,KP d e j hl.r⟩
 | [],_::_,r,h,_=>by cases h
 | _::_,[],r,h,_=>by cases h
theorem OI (hF:FTok P ft) {t:Nat} {xs:Array Operand} {ts:Array TypeId} (S:o.op= .call { callee:=.value (.tmp t),args:=xs,argTypes:=ts }) (h:OB ft s k t xs.toList=some res):Oks P w0 s o k res:=by
 obtain ⟨y,a,h⟩:=bind_some h;obtain ⟨b,hab,h⟩:=bind_some h;obtain ⟨q,hq,h⟩:=bind_some h;obtain ⟨d,hd,h⟩:=bind_some h;obtain ⟨f,G,h⟩:=bind_some h;obtain ⟨I,h⟩:=ai h;obtain ⟨r,hr,h⟩:=bind_some h;have a:look s.env t=some (.one y):=by
  unfold OB.oneOf0 at a;split at a
  ·rename_i x hx;rw[hx,ae a]
  ·cases a
 obtain ⟨O,e2⟩:=za G;refine ⟨_,h,by simpa using O,fun J θ j g z Z c T=>(xG (rY _ _ g z) T).elim,fun J θ j=>?_⟩;have B:y.ok P w0 J θ s.nxt:=b7 (x:=.tmp t) j a;have N:OpT P J w0 o (evL (envL θ s)) (f.1.map (toCh P θ)++ []) (resFa b.2) (fun v=>f.1.map (toCh P θ)++resGv b.2 (toH _ r) v):=by
  refine xE (fun v=>DS _ _ I) fun K L D F=>?_;have M:=Fh (s:=s) e2 (fun e U=>O.mem_iff.2 (by simp[U])) D F;obtain ⟨kk,first,l,X,h4,Q⟩:=I4 hF j.lay j.chs hq B K L M.l;have p:=Q K Hp.le.rfl _ d.1 (KP j L hd M.r) r hr;have A:evL (envL θ s) (.tmp t)= .func (.func kk) first l:=(aI (x:=.tmp t) a).trans X
  exact qf h4 S A (by simp) p
 rw[List.append_nil] at N;show OpT P J w0 o _ ((f.1++ []).map (toCh P θ)) _ _;rw[List.append_nil];refine OpT.post N fun v w C E H=>?_;have u:St J w0 w (resGv b.2 (toH _ r) v++(f.1.map (toCh P θ)++C)):=by
  refine H.perm ?_;rw[aC];exact List.perm_append_comm_assoc _ _ _
 obtain ⟨R,V,q3,W⟩:=KH (P:=P) (m:=s.nxt) (θ:=upd θ s.nxt v) (n:=s.nxt+1) (chs:=Res.chs ⟨f.1,[],f.2,sS s.nxt b.2 (toH _ r),I2 s.nxt b.2 (toH _ r)⟩ s.nxt) (aA _) (iG (vs:=θ) (i:=s.nxt) (v:=v)) b.2 (toH _ r) _ E u;refine ⟨⟨R,V,fun g z=>tM (rY _ _ g z) (by rw[q3 g z];exact aA _) (aA _)⟩,?_⟩;show St J w0 w (f.1.map (toCh P θ)++((sS s.nxt b.2 (toH _ r)).map _)++C);refine W.perm ?_;rw[aC];exact List.perm_append_comm_assoc _ _ _
end
section
variable {Y:Type} (tt:TT) (s:Sg) (k:Res->Option Y)
def Sp:AV->Option (Bool×List LV)
 | .one x=>some (false,[x])
 | .agg xs=>some (true,xs)
 | _=>none
def Fj (s:Sg):List Operand->Option (List (Bool×List LV))
 | [] =>some []
 | x::xs=>(opd s x).bind fun v=>(Sp v).bind fun y=>(Fj s xs).bind fun ys=>some (y::ys)
def KQ (s:Sg):List Operand->Option (List LV)
 | [] =>some []
 | x::xs=>match opd s x with
  | some (.one y)=>(KQ s xs).bind fun ys=>some (y::ys)
  | _=>none
def U4 (fn:Fn) (first captured:Array Operand):Option Y:=match fn with
 | .func g=>(Fj s first.toList).bind fun ys=>(KQ s captured.toList).bind fun xs=>k ⟨[],[],s.chs,[(⟨s.nxt,[]⟩,.clo g ys xs)],.one (.own ⟨s.nxt,[]⟩)⟩
 | _=>none
def KR (T:TypeId) (x:Operand):Option Y:=(td tt T).bind fun d=>match opd s x with
 | some (.one (.fz h T' t a off))=>(y6 d.agg t off d.n).bind fun p=>b8 (p.ty.isProd==d.agg) (k (.pure s (N3 s.nxt p.ty (p.get a))))
 | some (.one (.fzf h T' ps rs e))=>b8 (Nat.beq d.n 1 && !d.agg) (k (.pure s (.one (.fn ⟨s.nxt,[]⟩ ps rs e))))
 | _=>none
def I7 (T:TypeId) (x:Operand) (f:Nat):Option Y:=(td tt T).bind fun d=>(d.fields[f]?).bind fun q=>match opd s x with
 | some (.one (.fz h T' t a off))=>k (.pure s (.one (.fz h T' t a (off+q.1))))
 | _=>none
end
section
variable {Y:Type} {tt:TT} {s:Sg} {k:Res->Option Y} {P:Program} {w0:World} {o:Oper} {res:Y} {x:Operand}
theorem DU {J:Hp} {θ:Th} (f:Fine P w0 J θ s): ∀ {l:List Operand} {ys:List (Bool×List LV)},Fj s l=some ys->l.map (evL (envL θ s))=ys.map (l7 θ)/\ ∀y∈ys,∀x∈y.2,x.ok P w0 J θ s.nxt
 | [],ys,h=>by obtain rfl:=ae (show some _=some ys from h);exact ⟨rfl,fun y a=>by cases a⟩
 | x::l,ys,h=>by
  obtain ⟨v,d,h⟩:=bind_some (show (opd s x).bind _=some ys from h);obtain ⟨y,a,h⟩:=bind_some h;obtain ⟨g,c,h⟩:=bind_some h;obtain rfl:=ae h;obtain ⟨j,i⟩:=DU f c;have b:=b7 f d;have e:=aI (θ:=θ) d;have key:v.v θ=l7 θ y/\ ∀x∈y.2,x.ok P w0 J θ s.nxt:=by
   cases v with
   | one z=>obtain rfl:=ae (show some _=some y from a);exact ⟨rfl,fun x m=>by obtain rfl:=al m;exact b⟩
   | agg g=>obtain rfl:=ae (show some _=some y from a);exact ⟨rfl,b⟩
   | _=>cases a
  refine ⟨by rw[List.map_cons,List.map_cons,j,e,key.1],fun z c=>?_⟩;rcases aG c with rfl | c
  ·exact key.2
  ·exact i z c
theorem Ho {J:Hp} {θ:Th} (d:Fine P w0 J θ s): ∀ {l:List Operand} {ys:List LV},KQ s l=some ys->l.map (evL (envL θ s))=ys.map (·.v θ)/\ ∀x∈ys,x.ok P w0 J θ s.nxt
 | [],ys,h=>by obtain rfl:=ae (show some _=some ys from h);exact ⟨rfl,fun y b=>by cases b⟩
 | x::l,ys,h=>by
  unfold KQ at h;split at h
  ·rename_i y b;obtain ⟨g,a,h⟩:=bind_some h;obtain rfl:=ae h;obtain ⟨e,f⟩:=Ho d a;have c:=b7 d b;refine ⟨by rw[List.map_cons,List.map_cons,e,aI (θ:=θ) b];rfl,fun z a=>?_⟩;rcases aG a with rfl | a
   ·exact c
   ·exact f z a
  ·cases h
theorem OJ {fn:Fn} {first captured:Array Operand} (p:o.op= .makeFunc fn first captured) (h:U4 s k fn first captured=some res):Oks P w0 s o k res:=by
 cases fn with
 | func g =>
  obtain ⟨u,f,h⟩:=bind_some (show (Fj s first.toList).bind _=some res from h);obtain ⟨t,c,h⟩:=bind_some h;refine ⟨_,h,List.Perm.refl _,aW rfl,fun J θ l=>?_⟩;obtain ⟨q,j⟩:=DU l f;obtain ⟨r,m⟩:=Ho l c;refine OpT.post (EL p rfl) fun v w C a e=>?_;rw[q,r] at a;have d:hv (upd θ s.nxt v) ⟨s.nxt,[]⟩=v:=iG;refine ⟨⟨⟨aA _,by rw[d,a];rfl⟩,d,fun g n=>?_⟩,?_⟩
  ·obtain rfl:=al n;refine ⟨aA _,aA _,fun y b x i=>LV.ok_same Same.upd (Nat.le_succ _) (j y b x i) Hp.le.rfl,fun x i=>LV.ok_same Same.upd (Nat.le_succ _) (m x i) Hp.le.rfl,?_⟩;rw[d,jb Same.upd m,List.map_congr_left fun y b=>yZ Same.upd (j y b)];exact a
  ·exact St.emp.2 e
 | _=>cases h
theorem Hq (H:TTok P tt) {T:TypeId} (E:o.op= .load T x) (h:KR tt s k T x=some res):Oks P w0 s o k res:=by
 unfold KR at h;obtain ⟨d,M,h⟩:=bind_some h;have f:=H.get M;split at h
 ·rename_i q K t a off m;obtain ⟨p,hp,h⟩:=bind_some h;obtain ⟨i,h⟩:=ai h;have i:p.ty.isProd=d.agg:=by simpa using i
  have hp:=AW _ _ _ _ hp;refine ⟨_,h,List.Perm.refl _,aW rfl,fun J θ w=>?_⟩;obtain ⟨L,cells,z,C⟩:=b7 w m;obtain ⟨c,I,G⟩:=hp.fld J cells a C;have F:c.length=d.n:=(p.ty.rep.rd_len G).trans (p.ty.rep_size.trans hp.size);have B:(cells.drop off).take d.n=c:=by rw[<-hp.size,<-p.ty.rep_size];exact I
  refine OpT.weak (zU z f.ti E (aI (θ:=θ) m) f.one B F rfl) (fun v b=>?_) (fun v b=>rfl);have l:Lds p.ty.isProd c v:=by
   rw[i];cases A:d.agg with
   | true=>rw[A] at b;exact b
   | false =>
    rw[A] at b;have D:d.n=1:=by
     have:=f.one
     rw[A] at this;simpa using this
    obtain ⟨u,rfl⟩:=List.length_eq_one_iff.1 (F.trans D);rw[show v=u from b];rfl
  have:=rf (P:=P) (w0:=w0) (J:=J) (θ:=upd θ s.nxt v) (id:=s.nxt) (n:=s.nxt+1) (chs:=(Res.pure s (N3 s.nxt p.ty (p.get a))).chs s.nxt) (aA _) iG p.ty (p.get a) c G l
  exact ⟨this.1,this.2,fun g i=>by cases i⟩
 ·rename_i q K N O e m;obtain ⟨r,h⟩:=ai h;rw[ak] at r;have j:=au r.1;have y:d.agg=false:=by simpa using r.2
  refine ⟨_,h,List.Perm.refl _,aW rfl,fun J θ w=>?_⟩;obtain ⟨L,u,z,C⟩:=b7 w m;refine OpT.weak (zU (d:=[u]) (u:=u) z f.ti E (aI (θ:=θ) m) f.one (by rw[j];rfl) (by rw[j];rfl) (by rw[y];rfl)) (fun v b=>?_) (fun v b=>rfl);subst b;have q:hv (upd θ s.nxt v) ⟨s.nxt,[]⟩=v:=iG;exact ⟨⟨aA _,by rw[q];exact C⟩,q,fun g i=>by cases i⟩
 ·cases h
theorem Mx (e:TTok P tt) {T:TypeId} {f:Nat} (i:o.op= .fieldAddr T x f) (h:I7 tt s k T x f=some res):Oks P w0 s o k res:=by
 unfold I7 at h;obtain ⟨d,g,h⟩:=bind_some h;obtain ⟨q,l,h⟩:=bind_some h;have j:=(e.get g).fld f q l;split at h
 ·rename_i m n t a off b;exact ⟨_,h,fI (fun J θ c=>nA j i (aI (θ:=θ) b)) fun J θ c=>(by have:=b7 c b;exact this)⟩
 ·cases h
end
end R
end Go.Proofs.YtodbpnpbhpeepaaGreatDoor
