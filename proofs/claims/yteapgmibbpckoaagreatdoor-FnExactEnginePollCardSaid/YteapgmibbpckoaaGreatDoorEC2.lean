/- FnExactEnginePoll: for every input the law returns true and changes nothing that was there. Part 3 of 9. -/
import Derived.Test.YteapgmibbpckoaaGreatDoorEC1
set_option synthInstance.maxSize 20000
set_option synthInstance.maxHeartbeats 2000000
set_option linter.unusedVariables false
set_option linter.unusedSimpArgs false
set_option linter.unnecessarySimpa false
set_option linter.unusedSectionVars false
set_option maxRecDepth 1000000
namespace Go.Proofs.YteapgmibbpckoaaGreatDoor
open Go.IntKind (i64)
namespace R
open Go.RowKit
open D
def one (v:Value):AV:=.one (.val v)
def asB:AV->Option (Bool×Bool)
 | .one (.val (.bool b))=>some (b,true)
 | .one (.nb b)=>some (b,false)
 | _=>none
def onB {Y:Type} (v:AV) (x y:Option Y):Option Y:=match v with
 | .one (.val (.bool b))=>if b then x else y
 | .one (.nb b)=>if b then y else x
 | _=>none
theorem aav {Y:Type} {v:AV} {x y:Option Y} {r:Y} (h:onB v x y=some r): ∃b:Bool,(∀θ,v.v θ= .bool b)/\(if b then x else y)=some r:=by
 unfold onB at h;split at h
 ·exact ⟨_,fun θ=>rfl,h⟩
 ·rename_i b;refine ⟨!b,fun θ=>rfl,?_⟩;grind
 grind
def bW {Y:Type} (b:Bool) (x:Option Y):Option Y:=match b with
 | true=>x
 | false=>none
theorem ak {Y:Type} {b:Bool} {x:Option Y} {r:Y} (h:bW b x=some r):b=true/\x=some r:=by
 cases b
 ·cases h
 ·exact ⟨rfl,h⟩
def isLit:Value->Bool
 | .int _ (.ofNat _)=>true
 | .int _ (.negSucc _)=>true
 | _=>false
def arith (b:BinOp) (k:IntKind) (m n:Int):Option Value:=match k,b with
 | .i64,.add=>some (.int .i64 (i64.wrap (m+n)))
 | .i64,.sub=>some (.int .i64 (i64.wrap (m - n)))
 | .i64,.mul=>some (.int .i64 (i64.wrap (m*n)))
 | .i64,.and=>some (.int .i64 (wE m n))
 | .i64,.or=>some (.int .i64 (orI m n))
 | .i64,.xor=>some (.int .i64 (aih m n))
 | .u64,.add=>some (.int .u64 (IntKind.u64.wrap (m+n)))
 | .u64,.sub=>some (.int .u64 (IntKind.u64.wrap (m - n)))
 | .u64,.mul=>some (.int .u64 (IntKind.u64.wrap (m*n)))
 | .u64,.and=>some (.int .u64 (Xc m n))
 | .u8,.sub=>some (.int .u8 (IntKind.u8.wrap (m - n)))
 | _,.eql=>some (.bool (m==n))
 | _,.neq=>some (.bool (m !=n))
 | _,.lss=>some (.bool (decide (m<n)))
 | _,.leq=>some (.bool (decide (m<=n)))
 | _,.gtr=>some (.bool (decide (m>n)))
 | _,.geq=>some (.bool (decide (m≥n)))
 | _,_=>none
def K6 (b:BinOp) (k:IntKind) (m n:Int):Option (Value×((p:Prop)×Decidable p)):=match k,b with
 | .i64,.quo=>some (.int .i64 (Hr m n),⟨n≠0,inferInstance⟩)
 | .i64,.rem=>some (.int .i64 (Int.tmod m n),⟨n≠0,inferInstance⟩)
 | .i64,.shl=>some (.int .i64 (AP m n),⟨0<=n,inferInstance⟩)
 | .i64,.shr=>some (.int .i64 (rq m n),⟨0<=n,inferInstance⟩)
 | .u64,.shr=>some (.int .u64 (rq m n),⟨0<=n,inferInstance⟩)
 | _,_=>none
def ail (k:IntKind) (m n:Int):Int:=k.wrap (m*2 ^ (min n.toNat k.bits))
def aim (k:IntKind) (m n:Int):Int:=m.fdiv (2 ^ (min n.toNat k.bits))
def K7 (b:BinOp) (k:IntKind) (m n:Int):Option Value:=match b,k with
 | .shl,.i64=>some (.int .i64 (AP m n))
 | .shr,.i64=>some (.int .i64 (rq m n))
 | .shr,.u64=>some (.int .u64 (rq m n))
 | .shl,k=>some (.int k (ail k m n))
 | .shr,k=>some (.int k (aim k m n))
 | _,_=>none
def agy {Y:Type} (c:Bool) (p:Prop) (d:Decidable p) (x:Option Y):Option Y:=match c with
 | true=> @ite _ p d x none
 | false=>(@chk p d).bind fun _=>x
theorem No {Y:Type} {c:Bool} {p:Prop} {d:Decidable p} {x:Option Y} {r:Y} (h:agy c p d x=some r):p/\x=some r:=by
 cases c with
 | true =>
  have h: @ite _ p d x none=some r:=h;grind
 | false =>
  have ⟨u,e,h⟩:=bind_some (show (@chk p d).bind _=some r from h);grind[bH]
def isConst:Operand->Bool
 | .const _=>true
 | _=>false
def eqB (b:BinOp) (m n:Bool):Option Value:=match b with
 | .eql=>some (.bool (m==n))
 | .neq=>some (.bool (m !=n))
 | _=>none
def eqS (b:BinOp) (m n:ByteArray):Option Value:=match b with
 | .eql=>some (.bool (m==n))
 | .neq=>some (.bool (m !=n))
 | _=>none
section
variable {P:Program} {I:Hp} {w0:World} {o:Oper} {ev:Operand->Value} {x y:Operand} {t u:TypeId}
theorem XC {b:BinOp} {k:IntKind} {m n:Int} {r:Value} (h:arith b k m n=some r) (a:o.op= .binOp b t x y u) (c:ev x= .int k m) (d:ev y= .int k n):OpT P I w0 o ev [] (· =r) (fun _=>[]):=by
 unfold arith at h;split at h <;> first | cases h | (cases ae h)
 ·exact abI a c d
 ·exact abJ a c d
 ·exact abK a c d
 ·exact abP a c d
 ·exact aeI a c d
 ·exact abQ a c d
 ·exact aca a c d
 ·exact acb a c d
 ·exact acd a c d
 ·exact ace a c d
 ·exact bt fun w=>by simp[execOp,a,c,d];rfl
 ·exact yg a c d rfl rfl
 ·exact yg a c d rfl rfl
 ·exact yg a c d rfl rfl
 ·exact yg a c d rfl rfl
 ·exact yg a c d rfl rfl
 ·exact yg a c d rfl rfl
theorem Tk {b:BinOp} {k:IntKind} {m n:Int} {r:Value×((p:Prop)×Decidable p)} (h:K6 b k m n=some r) (hp:r.2.1) (a:o.op= .binOp b t x y u) (c:ev x= .int k m) (d:ev y= .int k n):OpT P I w0 o ev [] (· =r.1) (fun _=>[]):=by
 unfold K6 at h;split at h <;> first | cases h | (cases ae h)
 ·grind[abL]
 ·grind[abM]
 ·grind[abN]
 ·grind[abO]
 grind[acf]
theorem Tl {b:BinOp} {k j:IntKind} {m n:Int} {r:Value} (h:K7 b k m n=some r) (hp:0<=n) (c:o.op= .binOp b t x y u) (d:ev x= .int k m) (e:ev y= .int j n):OpT P I w0 o ev [] (· =r) (fun _=>[]):=by
 have a: ¬n<0:=by omega
 unfold K7 at h;split at h <;> first | (cases ae h) | grind
 all_goals exact bt fun w=>by simp[execOp,c,d,e,eqGuard,binOp,Op.shift,a,Result.andThen,AP,rq,ail,aim,IntKind.bits]
theorem Q8 {b:BinOp} {k:IntKind} {m n:Int} {r:Value} (h:K7 b k m n=some r):r.oneCell'=true:=by
 unfold K7 at h;split at h <;> first | (cases ae h;rfl) | grind
theorem Tm {b:BinOp} {k:IntKind} {m n:Int} {r:Value} (h:arith b k m n=some r):r.oneCell'=true:=by
 unfold arith at h;split at h <;> cases h <;> rfl
theorem Q9 {b:BinOp} {k:IntKind} {m n:Int} {r:Value×((p:Prop)×Decidable p)} (h:K6 b k m n=some r):r.1.oneCell'=true:=by
 unfold K6 at h;split at h <;> cases h <;> rfl
theorem IM {b:BinOp} {m n:Bool} {r:Value} (h:eqB b m n=some r):r.oneCell'=true:=by
 unfold eqB at h;split at h <;> cases h <;> rfl
theorem acp {b:BinOp} {m n:ByteArray} {r:Value} (h:eqS b m n=some r):r.oneCell'=true:=by
 unfold eqS at h;split at h <;> cases h <;> rfl
theorem Pu {b:BinOp} {m n:Bool} {r:Value} (h:eqB b m n=some r) (e:P.underlying t=some .bool) (a:o.op= .binOp b t x y u) (c:ev x= .bool m) (d:ev y= .bool n):OpT P I w0 o ev [] (· =r) (fun _=>[]):=by
 unfold eqB at h;grind[ae,abR,abS]
theorem aeV {b:BinOp} {m n:ByteArray} {r:Value} (h:eqS b m n=some r) (a:o.op= .binOp b t x y u) (c:ev x= .string m) (d:ev y= .string n):OpT P I w0 o ev [] (· =r) (fun _=>[]):=by
 unfold eqS at h;grind[ae,ab2,ab3]
end
section
variable {Y:Type} (tt:TT) (s:Sg) (k:Res->Option Y)
def kv (v:Value):Option Y:=k (.pure s (.one (.val v)))
def acq (x:Operand):Option Y:=(opd s x).bind fun v=>k (.pure s v)
def aeW (c x y:Operand):Option Y:=(opd s c).bind fun c=>onB c ((opd s x).bind fun v=>k (.pure s v)) ((opd s y).bind fun v=>k (.pure s v))
def ag8 (x:Operand):Option Y:=match opd s x with
 | some (.one (.val (.bool b)))=>k (.pure s (.one (.nb b)))
 | some (.one (.nb b))=>kv s k (.bool b)
 | _=>none
def ag9 (x:Operand):Option Y:=match opd s x with
 | some (.one (.val (.int .i64 n)))=>kv s k (.int .i64 (i64.wrap (-n)))
 | _=>none
def agz (b:BinOp) (t:TypeId) (x y:Operand):Option Y:=match opd s x,opd s y with
 | some (.one (.val (.int j m))),some (.one (.val (.int j' n)))=>if j=j' then match arith b j m n with
   | some r=>kv s k r
   | none=>(K6 b j m n).bind fun r=>agy (isConst y) r.2.1 r.2.2 (kv s k r.1)
  else (K7 b j m n).bind fun r=>agy (isConst y) (0<=n) inferInstance (kv s k r)
 | some (.one (.val (.bool m))),some (.one (.val (.bool n)))=>(td tt t).bind fun d=>bW d.boo ((eqB b m n).bind fun r=>kv s k r)
 | some (.one (.nb m)),some (.one (.val (.bool n)))=>(td tt t).bind fun d=>bW d.boo ((eqB b (!m) n).bind fun r=>kv s k r)
 | some (.one (.val (.bool m))),some (.one (.nb n))=>(td tt t).bind fun d=>bW d.boo ((eqB b m (!n)).bind fun r=>kv s k r)
 | some (.one (.nb m)),some (.one (.nb n))=>(td tt t).bind fun d=>bW d.boo ((eqB b (!m) (!n)).bind fun r=>kv s k r)
 | some (.one (.val (.string m))),some (.one (.val (.string n)))=>(eqS b m n).bind fun r=>kv s k r
 | some (.agg xs),some (.agg ys)=>(td tt t).bind fun d=>d.eq.bind fun ks=>(ag7 ks xs ys).bind fun r=>match b with
  | .eql=>kv s k (.bool r)
  | .neq=>k (.pure s (.one (.nb r)))
  | _=>none
 | _,_=>none
def aeX (S D:TypeId) (x:Operand):Option Y:=(td tt S).bind fun a=>(td tt D).bind fun b=>a.ik.bind fun k1=>b.ik.bind fun k2=>match opd s x,k1,k2 with
 | some (.one (.val (.int j m))),some k1,some k2=>if j=k1 then kv s k (.int k2 (k2.wrap m)) else none
 | _,_,_=>none
def IN (x:Operand) (i:Nat):Option Y:=match opd s x with
 | some (.tup ys)=>(ys[i]?).bind fun y=>if y.1 then k (.pure s (.agg y.2)) else match y.2 with
  | [x] =>k (.pure s (.one x))
  | _=>none
 | _=>none
def sLen (T:TypeId) (x:Operand):Option Y:=(td tt T).bind fun d=>match d.el,opd s x with
 | some _,some (.one (.rd _ (.sl _ _) xs))=>kv s k (.int .i64 (xs.length:Int))
 | some _,some (.one (.val (.slice none 0 0)))=>kv s k (.int .i64 ((0:Nat):Int))
 | none,some (.one (.val (.string b)))=>d.ik.bind fun k1=>match k1 with
  | none=>kv s k (.int .i64 (b.size:Int))
  | _=>none
 | _,_=>none
def Tn (T:TypeId) (x i:Operand):Option Y:=(td tt T).bind fun d=>match d.el,opd s x,opd s i with
 | some E,some (.one (.rd h (.sl E' t) xs)),some (.one (.val (.int .i64 i)))=>(td tt E).bind fun e=>bW (Nat.beq e.n t.size) ((aK xs i).bind fun a=>k (.pure s (.elr h E' t xs a i 0)))
 | _,_,_=>none
def aaw (T:TypeId) (x:Operand) (f:Nat):Option Y:=(td tt T).bind fun d=>(d.fields[f]?).bind fun q=>match opd s x with
 | some (.elr h E t xs a i off)=>k (.pure s (.elr h E t xs a i (off+q.1)))
 | some (.elo h ver E t xs a i off)=>k (.pure s (.elo h ver E t xs a i (off+q.1)))
 | some (.one (.ptr h off))=>k (.pure s (.one (.ptr h (off+q.1))))
 | _=>none
def aax (T:TypeId) (x:Operand):Option Y:=(td tt T).bind fun d=>match opd s x with
 | some (.elr h E t xs a i off)=>(AU d.agg t off d.n).bind fun p=>bW (p.ty.isProd==d.agg) (k (.pure s (Tj s.nxt p.ty (p.get a))))
 | _=>none
end
section
variable {Y:Type} {tt:TT} {s:Sg} {k:Res->Option Y} {P:Program} {w0:World} {o:Oper} {res:Y} {x y:Operand}
def Oks (P:Program) (w0:World) (s:Sg) (o:Oper) (k:Res->Option Y) (res:Y):Prop:= ∃r,k r=some res/\Good P w0 s o r
theorem mw {v:Value} (h:kv s k v=some res) (h1:v.oneCell'=true) (a: ∀J θ,Fine P w0 J θ s->OpT P J w0 o (evL (envL θ s)) [] (· =v) (fun _=>[])):Oks P w0 s o k res:=
 ⟨_,h,fj a fun _ _ _=>h1⟩
theorem Pv (a:o.op= .move x\/o.op= .assign x) (h:acq s k x=some res):Oks P w0 s o k res:=by
 have ⟨v,hv,h⟩:=bind_some h;refine ⟨_,h,fj (fun J θ b=>?_) fun J θ b=>bQ b hv⟩;rcases a with a | a
 ·exact Xj a (aG hv)
 ·exact Q2 a (aG hv)
theorem XD {c:Operand} (f:o.op= .pick c x y) (h:aeW s k c x y=some res):Oks P w0 s o k res:=by
 have ⟨v,hv,h⟩:=bind_some h;have ⟨b,e,h⟩:=aav h;cases b with
 | true =>
  have ⟨u,a,h⟩:=bind_some (show (opd s x).bind _=some res from h);exact ⟨_,h,fj (fun J θ d=>Ph f ((aG hv).trans (e θ)) (aG a)) fun J θ d=>bQ d a⟩
 | false =>
  have ⟨u,a,h⟩:=bind_some (show (opd s y).bind _=some res from h);exact ⟨_,h,fj (fun J θ d=>Ph f ((aG hv).trans (e θ)) (aG a)) fun J θ d=>bQ d a⟩
theorem acr {t:TypeId} (c:o.op= .unOp .not t x) (h:ag8 s k x=some res):Oks P w0 s o k res:=by
 unfold ag8 at h;split at h
 ·rename_i b a;exact ⟨_,h,fj (fun J θ d=>SP c (aG a)) fun _ _ _=>trivial⟩
 ·rename_i b a;exact mw h rfl fun J θ d=>by
   have:=SP (P:=P) (I:=J) (w0:=w0) (b:= !b) c (aG (θ:=θ) a)
   grind
 grind
theorem acu {t:TypeId} (a:o.op= .unOp .neg t x) (h:ag9 s k x=some res):Oks P w0 s o k res:=by
 unfold ag9 at h;split at h
 ·rename_i b c;exact mw h rfl fun J θ d=>abH a (aG c)
 grind
theorem To (p:TTok P tt) {b:BinOp} {t u:TypeId} (f:o.op= .binOp b t x y u) (h:agz tt s k b t x y=some res):Oks P w0 s o k res:=by
 unfold agz at h;split at h
 ·rename_i j m D n e c;split at h
  ·rename_i A;subst A;split at h
   ·rename_i r a;exact mw h (Tm a) fun J θ g=>XC a f (aG e) (aG c)
   ·have ⟨r,a,h⟩:=bind_some h;have ⟨hp,h⟩:=No h;exact mw h (Q9 a) fun J θ g=>Tk a hp f (aG e) (aG c)
  ·have ⟨r,a,h⟩:=bind_some h;have ⟨hp,h⟩:=No h;exact mw h (Q8 a) fun J θ g=>Tl a hp f (aG e) (aG c)
 ·rename_i m n e c;have ⟨d,i,h⟩:=bind_some h;have ⟨l,h⟩:=ak h;have ⟨r,a,h⟩:=bind_some h;exact mw h (IM a) fun J θ g=>Pu a ((p.get i).boo l) f (aG e) (aG c)
 ·rename_i m n e c;have ⟨d,i,h⟩:=bind_some h;have ⟨l,h⟩:=ak h;have ⟨r,a,h⟩:=bind_some h;exact mw h (IM a) fun J θ g=>Pu a ((p.get i).boo l) f (aG e) (aG c)
 ·rename_i m n e c;have ⟨d,i,h⟩:=bind_some h;have ⟨l,h⟩:=ak h;have ⟨r,a,h⟩:=bind_some h;exact mw h (IM a) fun J θ g=>Pu a ((p.get i).boo l) f (aG e) (aG c)
 ·rename_i m n e c;have ⟨d,i,h⟩:=bind_some h;have ⟨l,h⟩:=ak h;have ⟨r,a,h⟩:=bind_some h;exact mw h (IM a) fun J θ g=>Pu a ((p.get i).boo l) f (aG e) (aG c)
 ·rename_i m n e c;have ⟨r,a,h⟩:=bind_some h;exact mw h (acp a) fun J θ g=>aeV a f (aG e) (aG c)
 ·rename_i v z e c;have ⟨d,i,h⟩:=bind_some h;have ⟨C,B,h⟩:=bind_some h;have ⟨r,a,h⟩:=bind_some h;have q: ∀(θ:Th) w,EqT P t (AV.v θ (.agg v)) (AV.v θ (.agg z)) r w:=fun θ w=>aco ((p.get i).eq _ B w) a;split at h
  ·exact mw h rfl fun J θ g=>ab4 (q θ) f (aG e) (aG c) rfl
  ·exact ⟨_,h,fj (fun J θ g=>ab5 (q θ) f (aG e) (aG c) rfl) fun _ _ _=>trivial⟩
  grind
 grind
theorem XE (d:TTok P tt) {S D:TypeId} (p:o.op= .convert S D x) (h:aeX tt s k S D x=some res):Oks P w0 s o k res:=by
 have ⟨a,q,f⟩:=bind_some h;have ⟨b,n,l⟩:=bind_some f;have ⟨u,g,i⟩:=bind_some l;have ⟨r,v,c⟩:=bind_some i;split at c
 ·rename_i j m u r t;split at c
  ·rename_i e;subst e;exact mw c rfl fun J θ w=>KX ((d.get q).ik _ g) ((d.get n).ik _ v) p (aG t)
  grind
 grind
theorem Np {i:Nat} (e:o.op= .extract x i) (h:IN s k x i=some res):Oks P w0 s o k res:=by
 unfold IN at h;split at h
 ·rename_i l b;have ⟨y,j,h⟩:=bind_some h;have f: ∀θ,((l.map (mu θ)).toArray)[i]? =some (mu θ y):=fun θ=>by grind
  have d:=List.mem_of_getElem? j;split at h
  ·rename_i c;exact ⟨_,h,fj (fun J θ a=>DA e (aG b) ((f θ).trans (by unfold mu;rw[if_pos c];rfl))) fun J θ a=>(bQ a b) y d⟩
  ·rename_i c;split at h
   ·rename_i z g;exact ⟨_,h,fj (fun J θ a=>DA e (aG b) ((f θ).trans (by unfold mu;rw[if_neg c,g];rfl))) fun J θ a=>(bQ a b) y d z (by grind)⟩
   grind
 grind
theorem acv (j:TTok P tt) {T:TypeId} (i:o.op= .call { callee:=.builtin .len,args:= #[x],argTypes:= #[T] }) (h:sLen tt s k T x=some res):Oks P w0 s o k res:=by
 have ⟨d,f,h⟩:=bind_some h;split at h
 ·rename_i E q p t n c a;exact mw h rfl fun J θ e=>Hs (Hd.of_rd (bQ e a).2) ((j.get f).el _ c) i (aG a)
 ·rename_i E c a;exact mw h rfl fun J θ e=>y8 ((j.get f).el _ c) i (aG a)
 ·rename_i b c a;have ⟨l,m,g⟩:=bind_some h;cases l with
  | none=>exact mw g rfl fun J θ e=>Nc ((j.get f).ik _ m) i (aG a)
  | some l=>cases g
 grind
theorem Ra (l:TTok P tt) {T:TypeId} {i:Operand} (q:o.op= .indexAddr T x i) (h:Tn tt s k T x i=some res):Oks P w0 s o k res:=by
 have ⟨d,m,h⟩:=bind_some h;split at h
 ·rename_i E w v t u j p c r;have ⟨e,n,h⟩:=bind_some h;have ⟨f,h⟩:=ak h;have ⟨a,g,h⟩:=bind_some h;have f:=aw f;refine ⟨_,h,fj (fun J θ b=>?_) fun J θ b=>⟨(bQ b c).1,g,(bQ b c).2⟩⟩
  have:=uY (I:=J) (w0:=w0) (Hd.of_rd (bQ b c).2) ((l.get m).el _ p) (l.get n).ti q (aG c) (aG r) (IC g)
  rw[f] at this;exact this
 grind
theorem Tp (r:TTok P tt) {T:TypeId} {f:Nat} (g:o.op= .fieldAddr T x f) (h:aaw tt s k T x f=some res):Oks P w0 s o k res:=by
 have ⟨d,l,h⟩:=bind_some h;have ⟨q,n,h⟩:=bind_some h;have e:=(r.get l).fld f q n;split at h
 ·rename_i j E t m a i off c;refine ⟨_,h,fj (fun J θ b=>?_) fun J θ b=>(by have:=bQ b c;exact this)⟩
  have:=BT (I:=J) (w0:=w0) e g (aG (θ:=θ) c)
  rw[Nat.add_assoc] at this;exact this
 ·rename_i j p E t m a i off c;refine ⟨_,h,fj (fun J θ b=>?_) fun J θ b=>(by have:=bQ b c;exact this)⟩
  have:=BT (I:=J) (w0:=w0) e g (aG (θ:=θ) c)
  rw[Nat.add_assoc] at this;exact this
 ·rename_i j off c;exact ⟨_,h,fj (fun J θ b=>oo e g (aG (θ:=θ) c)) fun J θ b=>(by have:=bQ b c;exact this)⟩
 grind
theorem Tq (z:TTok P tt) {T:TypeId} (w:o.op= .load T x) (h:aax tt s k T x=some res):Oks P w0 s o k res:=by
 have ⟨d,u,h⟩:=bind_some h;split at h
 ·rename_i B E t A a i off l;have ⟨p,hp,h⟩:=bind_some h;have ⟨j,h⟩:=ak h;have hp:=De _ _ _ _ hp;have b:=z.get u;refine ⟨_,h,List.Perm.refl _,aS rfl,fun J θ r=>?_⟩;have f:=bQ r l
  have:=Nd (P:=P) (w0:=w0) (o:=o) (T:=T) f.2.2 f.2.1 hp.fld b.ti (p.ty.rep_size.trans hp.size) b.one w (aG (θ:=θ) l) t.rep_size
  refine OpT.weak this (fun v hv=>?_) (fun v hv=>rfl);have ⟨c,q,m⟩:=hv;rw[<-show (p.ty.isProd==d.agg)=true->p.ty.isProd=d.agg from fun e=>by grind,] at m
  all_goals first | exact j | skip
  have:=sy (P:=P) (w0:=w0) (J:=J) (θ:=upd θ s.nxt v) (id:=s.nxt) (n:=s.nxt+1) (chs:=(Res.pure s (Tj s.nxt p.ty (p.get a))).chs s.nxt) (ay _) ix p.ty (p.get a) c q m
  exact ⟨this.1,this.2,fun g j=>by cases j⟩
 grind
end
def pull (h:Hdr):List Ent->Option (Ent×List Ent)
 | [] =>none
 | e::l=>if Hdr.beq e.1 h then some (e,l) else (pull h l).bind fun r=>some (r.1,e::r.2)
theorem gf {h:Hdr} : ∀ {l:List Ent} {r:Ent×List Ent},pull h l=some r->l.Perm (r.1::r.2)/\r.1.1=h
 | [],r,e=>by cases e
 | x::l,r,e=>by
  unfold pull at e;split at e
  ·rename_i b;obtain rfl:=ae e;exact ⟨List.Perm.refl _,Hdr.beq_eq b⟩
  ·obtain ⟨q,a,e⟩:=bind_some e;obtain rfl:=ae e;obtain ⟨p,k⟩:=gf a;exact ⟨(p.cons x).trans (List.Perm.swap _ _ _),k⟩
def Gt (h:Hdr) (l:List Ent):Bool:=l.all fun e=> !(Hdr.beq e.1 h)
theorem DG: ∀l:List Nat,aet l l=true
 | [] =>rfl
 | a::l=>by show (Nat.beq a a&&aet l l)=true;rw[Nat.beq_refl,DG l];rfl
theorem rv {h:Hdr} {l:List Ent} (k:Gt h l=true) {e:Ent} (b:e∈l):e.1≠h:=by
 intro a
 have:=(List.all_eq_true.1 k) e b
 rw[a] at this;unfold Hdr.beq at this;rw[Nat.beq_refl,DG] at this;cases this
structure Row where
 ver:Nat
 E:TypeId
 t:Ty
 xs:List t.den
 rest:List Ent
def rowOf (h:Hdr) (chs:List Ent):Option Row:=(pull h chs).bind fun r=>match r.1.2.2 with
 | .own (.sl E t) xs=>bW (Gt h r.2) (some ⟨r.1.2.1,E,t,xs,r.2⟩)
 | _=>none
def Row.ent (r:Row) (h:Hdr):Ent:=(h,r.ver,.own (.sl r.E r.t) r.xs)
theorem bK {h:Hdr} {chs:List Ent} {r:Row} (e:rowOf h chs=some r):chs.Perm (r.ent h::r.rest)/\ ∀e∈r.rest,e.1≠h:=by
 obtain ⟨q,f,e⟩:=bind_some e;obtain ⟨p,k⟩:=gf f;obtain ⟨⟨a,i,c⟩,rest⟩:=q;obtain rfl:a=h:=k;cases c with
 | own b d =>
  cases b with
  | sl E t =>
   obtain ⟨j,e⟩:=ak (show bW (Gt a rest) _=some r from e);obtain rfl:=ae e;exact ⟨p,fun e g=>rv j g⟩
  | _=>cases e
 | _=>cases e
theorem zi {h:Hdr} {chs:List Ent} {r:Row} (e:rowOf h chs=some r) {n:Nat} (hv:r.ver<n):Mem chs n h r.ver (.own (.sl r.E r.t) r.xs):=by
 obtain ⟨p,k⟩:=bK e;refine ⟨hv,fun x b c d=>?_⟩;rcases az (p.mem_iff.1 b) with rfl | b
 ·rcases d.2 with a | a
  ·exact a.2
  ·exact a.elim
 ·exact absurd d.1 (k x b)
structure Blk where
 ver:Nat
 T:TypeId
 cells:List LV
 rest:List Ent
def uS (h:Hdr) (chs:List Ent):Option Blk:=(pull h chs).bind fun r=>match r.1.2.2 with
 | .blk T cells=>some ⟨r.1.2.1,T,cells,r.2⟩
 | _=>none
def Blk.ent (r:Blk) (h:Hdr):Ent:=(h,r.ver,.blk r.T r.cells)
theorem mz {h:Hdr} {chs:List Ent} {r:Blk} (e:uS h chs=some r):chs.Perm (r.ent h::r.rest):=by
 obtain ⟨q,a,e⟩:=bind_some e;obtain ⟨p,k⟩:=gf a;obtain ⟨⟨b,d,c⟩,rest⟩:=q;obtain rfl:b=h:=k;cases c with
 | blk T cells =>
  obtain rfl:=ae (show some _=some r from e);exact p
 | _=>cases e
def nL:AV->Option (List LV)
 | .one x=>some [x]
 | .agg xs=>some xs
 | _=>none
theorem kj {v:AV} {cs:List LV} (h:nL v=some cs) {P:Program} {w0:World} {J:Hp} {θ:Th} {n:Nat} {chs:List Ent} (hv:v.ok P w0 J θ n chs):(∀x∈cs,x.ok P w0 J θ n)/\(v.v θ).cells=(cs.map (·.v θ)).toArray:=by
 unfold nL at h;split at h
 ·obtain rfl:=ae h;exact ⟨fun x a=>by obtain rfl:=ax a;exact hv,K4 (LV.one (show LV.ok P w0 J θ n _ from hv))⟩
 ·obtain rfl:=ae h;exact ⟨hv,rfl⟩
 ·cases h
theorem Nq {P:Program} {w0:World} {J:Hp} {θ:Th} {n:Nat} {cs:List LV} (h: ∀x∈cs,x.ok P w0 J θ n):(cs.map (·.v θ)).all (·.oneCell')=true:=List.all_eq_true.2 fun v hv=>by
 obtain ⟨x,a,rfl⟩:=List.mem_map.1 hv;exact LV.one (h x a)
def IP (k:IntKind):LV->Option Int
 | .val (.int k' n)=>if k'=k then some n else none
 | _=>none
def Hw:LV->Option Bool
 | .val (.bool b)=>some b
 | .nb b=>some (!b)
 | _=>none
def Rb:LV->Option ByteArray
 | .val (.string b)=>some b
 | _=>none
def isNil:Value->Bool
 | .slice none 0 0=>true
 | _=>false
theorem pO {v:Value} (h:isNil v=true):v= .slice none 0 0:=by
 unfold isNil at h;split at h
 ·rfl
 ·cases h
def XF (E:TypeId) (t:Ty):LV->Option (List t.den)
 | .rd _ t' d=>qq t' (.sl E t) d
 | .val v=>bW (isNil v) (some [])
 | _=>none
def Hx:Value->Bool
 | .pointer none=>true
 | _=>false
theorem DH {v:Value} (h:Hx v=true):v= .pointer none:=by
 unfold Hx at h;split at h
 ·rfl
 ·cases h
def aeu (T E:TypeId) (t:Ty):LV->Option (Tr t.den)
 | .rd _ t' d=>qq t' (.tree T E t) d
 | .val v=>bW (Hx v) (some .nil)
 | _=>none
def hd1 {α:Type} (f:LV->Option α):List LV->Option (α×List LV)
 | x::r=>(f x).bind fun d=>some (d,r)
 | [] =>none
def eK:(t:Ty)->List LV->Option (t.den×List LV)
 | .int k,l=>hd1 (IP k) l
 | .bool,l=>hd1 Hw l
 | .str,l=>hd1 Rb l
 | .raw,_=>none
 | .prod a b,l=>(eK a l).bind fun x=>(eK b x.2).bind fun y=>some ((x.1,y.1),y.2)
 | .sl E t,l=>hd1 (XF E t) l
 | .fro t,l=>eK t l
 | .bag t,l=>eK t l
 | .wr t,l=>eK t l
 | .tree T E t,l=>hd1 (aeu T E t) l
theorem IQ {k:IntKind} {x:LV} {n:Int} (h:IP k x=some n) (θ:Th):x.v θ= .int k n:=by
 unfold IP at h;split at h
 ·split at h
  ·rename_i a;subst a;obtain rfl:=ae h
   rfl
  ·cases h
 ·cases h
theorem K8 {x:LV} {n:Bool} (h:Hw x=some n) (θ:Th):x.v θ= .bool n:=by
 unfold Hw at h;split at h
 ·obtain rfl:=ae h;rfl
 ·obtain rfl:=ae h;rfl
 ·cases h
theorem Pw {x:LV} {n:ByteArray} (h:Rb x=some n) (θ:Th):x.v θ= .string n:=by
 unfold Rb at h;split at h
 ·obtain rfl:=ae h;rfl
 ·cases h
theorem DI {E:TypeId} {t:Ty} {x:LV} {d:List t.den} (h:XF E t x=some d) {P:Program} {w0:World} {J:Hp} {θ:Th} {n:Nat} (e:x.ok P w0 J θ n):(Ty.sl E t).rep.rd J [x.v θ] d:=by
 cases x with
 | rd f a c=>exact jB (show qq a (.sl E t) c=some d from h) e.2
 | val v =>
  obtain ⟨b,h⟩:=ak (show bW (isNil v) (some [])=some d from h);obtain rfl:=ae h;show (Ty.sl E t).rep.rd J [v] [];rw[pO b];exact aao
 | _=>cases h
theorem Nr {T E:TypeId} {t:Ty} {x:LV} {d:Tr t.den} (h:aeu T E t x=some d) {P:Program} {w0:World} {J:Hp} {θ:Th} {n:Nat} (e:x.ok P w0 J θ n):(Ty.tree T E t).rep.rd J [x.v θ] d:=by
 cases x with
 | rd f a c=>exact jB (show qq a (.tree T E t) c=some d from h) e.2
 | val v =>
  obtain ⟨b,h⟩:=ak (show bW (Hx v) (some .nil)=some d from h);obtain rfl:=ae h;show (Ty.tree T E t).rep.rd J [v] .nil;rw[DH b];exact ⟨_,rfl,.nil⟩
 | _=>cases h
theorem K9 {α:Type} {f:LV->Option α} {cs:List LV} {r:α×List LV} (h:hd1 f cs=some r): ∃x,cs=x::r.2/\f x=some r.1:=by
 cases cs with
 | nil=>cases h
 | cons x l =>
  obtain ⟨d,a,h⟩:=bind_some (show (f x).bind _=some r from h);obtain rfl:=ae h;exact ⟨x,rfl,a⟩
theorem jD {P:Program} {w0:World} {J:Hp} {θ:Th} {n:Nat} : ∀ {t:Ty} {cs:List LV} {r:t.den×List LV},eK t cs=some r->(∀x∈cs,x.ok P w0 J θ n)-> ∃e,cs=e++r.2/\t.rep.rd J (e.map (·.v θ)) r.1:=by
 intro t;induction t with
 | int k =>
  intro cs r h c;obtain ⟨x,rfl,d⟩:=K9 (show hd1 _ _=some r from h);exact ⟨[x],rfl,congrArg (fun v=>[v]) (IQ d θ)⟩
 | bool =>
  intro cs r h c;obtain ⟨x,rfl,d⟩:=K9 (show hd1 _ _=some r from h);exact ⟨[x],rfl,congrArg (fun v=>[v]) (K8 d θ)⟩
 | str =>
  intro cs r h c;obtain ⟨x,rfl,d⟩:=K9 (show hd1 _ _=some r from h);exact ⟨[x],rfl,congrArg (fun v=>[v]) (Pw d θ)⟩
 | raw =>
  intro cs r h c;cases (show none=some r from h)
 | prod a b iha ihb =>
  intro cs r h c;obtain ⟨x,d,h⟩:=bind_some (show (eK a cs).bind _=some r from h);obtain ⟨y,g,h⟩:=bind_some h;obtain rfl:=ae h;obtain ⟨e,rfl,m⟩:=iha d c;obtain ⟨f,l,i⟩:=ihb g fun z j=>c z (bw _ j);exact ⟨e++f,by rw[l,aD],e.map (·.v θ),f.map (·.v θ),by rw[aU],m,i⟩
 | sl E t ih =>
  intro cs r h c;obtain ⟨x,rfl,d⟩:=K9 (show hd1 _ _=some r from h);exact ⟨[x],rfl,DI d (c x (by simp))⟩
 | fro t ih =>
  intro cs r h c;exact ih (show eK t cs=some r from h) c
 | bag t ih =>
  intro cs r h c;exact ih (show eK t cs=some r from h) c
 | wr t ih =>
  intro cs r h c;exact ih (show eK t cs=some r from h) c
 | tree T E t ih =>
  intro cs r h c;obtain ⟨x,rfl,d⟩:=K9 (show hd1 _ _=some r from h);exact ⟨[x],rfl,Nr d (c x (by simp))⟩
section
variable {P:Program} {I J:Hp} {w0 w w':World} {C:List Ch} {o:Oper} {ev:Operand->Value} {α β:Type} {R:Rep α} {S:Rep β} {E T:TypeId}
theorem DJ {v:Value} {xs:List α} {i:Nat} {x:α} {F:List Nat} (h:(ah E R).own I w [v] xs F) (r:xs[i]? =some x) :
  ∃g a cap cur f c b cell d G,v= .slice (some ⟨g,a,none⟩) xs.length cap/\xs.length<=lim/\w.heap[g]? =some (.cells cur E (0,0))/\xs.length<=cap/\cap<=maxLen/\a+cap*R.size<=cur.size/\F=g::(f++(G++c)) /\
   cur.toList.drop a=b++(cell++d)/\b.length=i*R.size/\cell.length=R.size/\OwnEls R I w b (xs.take i) f/\R.own I w cell x G/\OwnEls R I w d (xs.drop (i+1)) c:=by
 have y:=(List.getElem?_eq_some_iff.1 r).1;obtain ⟨m,⟨-,rfl,-⟩ | ⟨g,a,cap,cur,K,hv,u,q,t,p,rfl,j⟩⟩:=h
 ·grind
 obtain rfl:v= .slice (some ⟨g,a,none⟩) xs.length cap:=by grind
 have e:xs=xs.take i++(x::xs.drop (i+1)):=by
  grind[List.drop_eq_getElem_cons,List.take_append_drop]
 rw[e] at j;obtain ⟨b,H,f,D,l,k,rfl,z,cells,d,G,c,rfl,B,rfl,n,s⟩:=j.cut2;have A:(xs.take i).length=i:=by rw[aB];omega
 rw[A] at k;exact ⟨g,a,cap,cur,f,c,b,cells,d,G,rfl,m,u,q,t,p,rfl,l,k,B,z,n,s⟩
theorem IR {off n k:Nat} {f:α->β} {u:α->β->α} {x:Operand} {v:Value} {xs:List α} {a:α} {i:Int} {agg:Bool} (X:S.Sh) (D:aK xs i=some a) (t:Lens R off S f u) (M:TI P T agg n) (h:S.size=n) (hn:(agg || n==1)=true) (B:o.op= .load T x) (L:ev x=pt v (i.toNat*k+off)) (U:R.size=k) :
  OpT P I w0 o ev [Ch.own (ah E R) [v] xs] (fun u=> ∃d,S.rd I d (f a)/\Lds agg d u) (fun _=>[Ch.own (ah E R) [v] xs]):=by
 intro w C q;obtain ⟨hb,hi,F,⟨G,K,rfl,O,e3⟩,h2,h3⟩:=id q;obtain ⟨g,c,cap,cur,K1,Y,c1,cell,Z,H,rfl,hl,V,k2,k3,k4,rfl,s,Q,f3,-,y,-⟩:=DJ O (yh D);obtain ⟨d,G2,K2,p,A,N,-⟩:=t I w cell a H y;obtain ⟨-,m⟩:=X N;have l:=(S.rd_len m).trans h;have ⟨u,W,z⟩:=SQ (P:=P) (w:=w) (b:=g) (off:=c+(i.toNat*k+off)) M l (fun e=>by grind) (fun j u r=>by
  rw[<-A,List.getElem?_take] at r;split at r
  ·simp[World.cell?,V];rw[<-Array.getElem?_toList,show c+(i.toNat*k+off)+j=c+(i.toNat*k+off+j) from Nat.add_assoc _ _ _,<-List.getElem?_drop,s,List.getElem?_append_right (by grind),List.getElem?_append_left (by grind),Q,U];grind
  grind)
 simp[execOp,B,L,pt,ptB,ptO,Sem.run_bind,W,Result.andThen_ok];exact ⟨⟨d,m,z⟩,q⟩
theorem aeY {off:Nat} {u:α->β->α} {xs:List α} {i:Nat} {a:α} {g ofs cap:Nat} {cur:Array Value} {f K2 e:List Nat} {l cell j:List Value} {v0:Value}
  (t:i<xs.length) (U:xs.length<=lim) (B:w.heap[g]? =some (.cells cur E (0,0))) (W:xs.length<=cap) (M:cap<=maxLen) (V:ofs+cap*R.size<=cur.size) (x:cur.toList.drop ofs=l++(cell++j)) (A:l.length=i*R.size) (L:cell.length=R.size)
  (D:OwnEls R I w l (xs.take i) f) (G:OwnEls R I w j (xs.drop (i+1)) e) (hv:cell[off]? =some v0) (v: ∀b,b∈f++(K2++e)->b≠g) (H: ∀b,b∈K2->b<w.heap.size) (X:S.size=1)
  (K: ∀J w' d' y k,I.le J->(∀b,b∈K2->w'.heap[b]? =w.heap[b]?)->S.own J w' d' y k-> ∃F,F.Perm (k++K2)/\R.own J w' (spl cell off d') (u a y) F) :
  (Ch.gap (ah E R) [.slice (some ⟨g,ofs,none⟩) xs.length cap] S (fun y=>xs.set i (u a y)) g (ofs+(i*R.size+off)) v0).holds I w (g::(f++(K2++e))):=by
 have z:=(List.getElem?_eq_some_iff.1 hv).1;refine ⟨by simp,⟨cur,E,B,?_⟩,fun b c=>?_,fun J w' m y k n N O Q=>?_⟩
 ·rw[<-Array.getElem?_toList,<-List.getElem?_drop (i:=ofs),x,List.getElem?_append_right (by omega),List.getElem?_append_left (by omega),A];grind
 ·rcases az c with rfl | c
  ·grind
  ·rcases aN c with c | c
   ·exact D.live b c
   ·rcases aN c with c | c
    ·grind
    ·exact G.live b c
 ·have s:=fun b c=>N b (bp _ c) (v b c);have ⟨r,p,q⟩:=K J w' [m] y k n (fun b c=>s b (bw _ (bq _ c))) Q;have h:=O cur E B;have d:(cur.setIfInBounds (ofs+(i*R.size+off)) m).toList.drop ofs=l++(spl cell off [m] ++j):=by
   rw[Array.toList_setIfInBounds,List.drop_set,if_neg (by omega),Nat.add_sub_cancel_left,x,List.set_append_right _ _ (by omega),List.set_append_left _ _ (by omega),A];rw[show i*R.size+off - i*R.size=off from by omega];rfl
  refine ⟨g::(f++(r++e)),?_,by grind,.inr ⟨g,ofs,cap,_,f++(r++e),by grind,h,by grind,M,by grind,rfl,?_⟩⟩
  ·grind
  ·show OwnEls R J w' _ (xs.set i (u a y)) _;rw[List.set_eq_take_append_cons_drop,if_pos t,d];exact OwnEls.glue (ys:=xs.take i) (zs:=u a y::xs.drop (i+1)) (by grind) ((D.mono n).stay fun b c=>s b (bq _ c))
    ⟨spl cell off [m],j,r,e,rfl,by rw[AQ];exact L,rfl,q,(G.mono n).stay fun b c=>s b (bw _ (bw _ c))⟩
theorem IS {off k:Nat} {f:α->β} {u:α->β->α} {x:Operand} {v:Value} {xs:List α} {a:α} {i:Int} (O:aK xs i=some a) (X:Lens R off S f u) (hT:TI P T false 1) (D:S.size=1) (ho:o.op= .load T x) (hx:ev x=pt v (i.toNat*k+off)) (hk:R.size=k) :
  OpT P I w0 o ev [Ch.own (ah E R) [v] xs] (fun u=>u.oneCell'=true) (fun c=>[Ch.own S [c] (f a),Ch.gap (ah E R) [v] S (fun y=>xs.set i.toNat (u a y)) (ptB v) (ptO v+(i.toNat*k+off)) c]):=by
 intro w C hs;obtain ⟨n,hi,F,⟨G,K,rfl,e2,e3⟩,h2,Y⟩:=hs;have B:=(List.getElem?_eq_some_iff.1 (yh O)).1;obtain ⟨g,m,cap,cur,r,q,c1,cell,c3,Q,rfl,Z,V,k2,k3,k4,rfl,L,U,f3,f4,M,f6⟩:=DJ e2 (yh O);have ⟨d,s,K2,p,e1,A,W⟩:=X I w cell a Q M;have z:=(S.own_len A).trans D;obtain ⟨c,rfl⟩:=List.length_eq_one_iff.1 z;have hc:cell[off]? =some c:=by
  have:=congrArg (fun l:List Value=>l[0]?) e1
  simpa [List.getElem?_take,List.getElem?_drop,D] using this
 have ⟨N,hr,hu⟩:=SQ (P:=P) (w:=w) (b:=g) (off:=m+(i.toNat*k+off)) (d:=[c]) hT rfl (fun _=>rfl) (fun j u hj=>by
  have H:j=0:=by have:=(List.getElem?_eq_some_iff.1 hj).1;simpa using this
  subst H;simp only[World.cell?,V];rw[<-Array.getElem?_toList,show m+(i.toNat*k+off)+0=m+(i.toNat*k+off+0) from Nat.add_assoc _ _ _,<-List.getElem?_drop,L,List.getElem?_append_right (by grind),List.getElem?_append_left (by grind),U,hk];simp_all)
 obtain rfl:c=N:=by simpa using (show [c] = [N] from hu)
 simp[execOp,ho,hx,pt,ptB,ptO,Sem.run_bind,hr,Result.andThen_ok];have h:((g::(r++(Q++q)))++K).Perm (s++((g::(r++(K2++q)))++K)):=by
  grind
 have t:=h.nodup_iff.1 h2;refine ⟨S.own_one A c (by simp),n,hi,s++((g::(r++(K2++q)))++K),⟨s,_,rfl,A,g::(r++(K2++q)),K,rfl,?_,e3⟩,t,fun b n=>Y b (h.mem_iff.2 n)⟩
 have:=aeY (u:=u) (a:=a) (v0:=c) B Z V k2 k3 k4 L U f3 f4 f6 hc (K2:=K2) (S:=S) (fun b n e=>by
  grind) (fun b n=>R.own_live M b (p.mem_iff.2 (bw _ n))) D W
 grind
theorem St.settle {cs:List Value} {f:β->α} {b off:Nat} {v:Value} {y:β} (h:St I w0 w (Ch.own S [v] y::Ch.gap R cs S f b off v::C)):St I w0 w (Ch.own R cs (f y)::C):=by
 obtain ⟨g,x,F,⟨G,K,rfl,k,i,c,rfl,⟨A,⟨cur,E,n,s⟩,z,m⟩,u⟩,e,t⟩:=h;have ⟨F,p,q⟩:=m I w v y G Hp.le.rfl (fun _ _ _=>rfl) (fun a r l=>by
  rw[n] at l⊢;obtain ⟨rfl,rfl⟩:cur=a/\E=r:=by grind
  congr 2;grind) k
 have d:(F++c).Perm (G++(i++c)):=by rw[<-aD];exact p.append_right _
 exact ⟨g,x,F++c,⟨F,c,rfl,q,u⟩,d.nodup_iff.2 e,fun b j=>t b (d.mem_iff.1 j)⟩
theorem IU {cs:List Value} {f:β->α} {b off:Nat} {v u:Value} {x y:Operand} (Q:TI P T false 1) (s:o.op= .store T x y) (L:ev x= .pointer (some ⟨b,off,none⟩)) (q:ev y=u) (h1:u.oneCell'=true) :
  OpT P I w0 o ev [Ch.gap R cs S f b off v] (fun _=>True) (fun _=>[Ch.gap R cs S f b off u]):=by
 intro w C n;obtain ⟨M,hi,F,⟨K,Z,rfl,⟨k1,⟨cur,E,B,U⟩,k3,k4⟩,e3⟩,h4,h5⟩:=id n;have W:=Pi (P:=P) (w:=w) Q (g:=b) (o:=off) (l:=[u]) (K4 h1) rfl (fun j hj=>by
  simp_all[World.cell?,Option.isSome_none,Bool.false_eq_true,ite_false,Nat.add_zero]) (fun j=>by simp[World.frozen?,B]) (fun v hv=>by grind)
 simp only[execOp,s,L,q,Sem.run_bind,W,Result.andThen_ok];refine ⟨trivial,?_⟩;refine St.step (w:=w) (c:=[Ch.gap R cs S f b off v]) (c':=[Ch.gap R cs S f b off u]) (w':=w.setCell ⟨b,off,none⟩ u) n rfl rfl rfl (by simp_all) ?_;rintro F ⟨K,K',rfl,⟨k,⟨i,N,t,X⟩,q3,p⟩,rfl⟩ h H;rw[List.append_nil] at *;refine ⟨fun c a A=>Below.heap_setCell _ _ _ _ fun e=>A (e ▸ k),K,⟨K,[],by simp,⟨k,⟨_,N,gH t,?_⟩,fun c a=>by simp_all,fun J d V D G r s1 O=>p J d V D G r (fun c a Y=>by grind[Below.heap_setCell]) fun m z a=>?_⟩,rfl⟩,h,fun c a=>.inl a⟩
 ·grind
 ·have:=O _ z (gH (v:=u) (o:=off) a)
  simp_all
end
def zj (E:TypeId) (t:Ty) (x:LV) (chs:List Ent):Option (List t.den×List Ent×List Ent):=match x with
 | .own h=>(pull h chs).bind fun r=>match r.1.2.2 with
  | .own t' d=>(qu t' (.sl E t) d).bind fun d=>some (d,[r.1],r.2)
  | _=>none
 | .val v=>bW (isNil v) (some ([],[],chs))
 | _=>none
def DK (T E:TypeId) (t:Ty) (x:LV) (chs:List Ent):Option (Tr t.den×List Ent×List Ent):=match x with
 | .own h=>(pull h chs).bind fun r=>match r.1.2.2 with
  | .own t' d=>(qu t' (.tree T E t) d).bind fun d=>some (d,[r.1],r.2)
  | _=>none
 | x=>(aeu T E t x).bind fun d=>some (d,[],chs)
structure Took (t:Ty) where
 d:t.den
 cells:List LV
 used:List Ent
 rest:List Ent
def eC:(t:Ty)->List LV->List Ent->Option (Took t)
 | .prod a b,l,chs=>(eC a l chs).bind fun x=>(eC b x.cells x.rest).bind fun y=>some ⟨(x.d,y.d),y.cells,x.used++y.used,y.rest⟩
 | .sl E t,l,chs=>match l with
  | x::r=>(zj E t x chs).bind fun q=>some ⟨q.1,r,q.2.1,q.2.2⟩
  | [] =>none
 | .int k,l,chs=>(eK (.int k) l).bind fun x=>some ⟨x.1,x.2,[],chs⟩
 | .bool,l,chs=>(eK .bool l).bind fun x=>some ⟨x.1,x.2,[],chs⟩
 | .str,l,chs=>(eK .str l).bind fun x=>some ⟨x.1,x.2,[],chs⟩
 | .raw,_,_=>none
 | .fro t,l,chs=>(eK t l).bind fun x=>some ⟨x.1,x.2,[],chs⟩
 | .bag t,l,chs=>(eC t l chs).bind fun x=>some ⟨x.d,x.cells,x.used,x.rest⟩
 | .wr t,l,chs=>(eC t l chs).bind fun x=>some ⟨x.d,x.cells,x.used,x.rest⟩
 | .tree T E t,l,chs=>match l with
  | x::r=>(DK T E t x chs).bind fun q=>some ⟨q.1,r,q.2.1,q.2.2⟩
  | [] =>none
theorem DL {E:TypeId} {t:Ty} {x:LV} {chs:List Ent} {q:List t.den×List Ent×List Ent} (h:zj E t x chs=some q) (P:Program) (J:Hp) (θ:Th):chs.Perm (q.2.1++q.2.2)/\Bun J (q.2.1.map (toCh P θ)) (Ty.sl E t).rep [x.v θ] q.1:=by
 cases x with
 | own a =>
  have ⟨r,j,h⟩:=bind_some (show (pull a chs).bind _=some q from h);have ⟨p,k⟩:=gf j;have ⟨⟨l,i,c⟩,rest⟩:=r;obtain rfl:l=a:=k;cases c with
  | own b d =>
   have ⟨m,g,h⟩:=bind_some (show (qu b (.sl E t) d).bind _=some q from h);obtain ⟨e,rfl⟩:=qv g;cases ae h;subst e;exact ⟨p,S6⟩
  | _=>cases h
 | val v =>
  have ⟨f,h⟩:=ak (show bW (isNil v) _=some q from h);cases ae h;refine ⟨List.Perm.refl _,?_⟩;rw[pO f];exact ab6
 | _=>cases h
theorem DM {E:TypeId} {t:Ty} {x:LV} {chs:List Ent} {q:List t.den×List Ent×List Ent} (h:zj E t x chs=some q):chs.Perm (q.2.1++q.2.2):=by
 cases x with
 | own a =>
  have ⟨r,c,h⟩:=bind_some (show (pull a chs).bind _=some q from h);grind[gf,bind_some,qu,bind,ae]
 | val v =>
  have ⟨b,h⟩:=ak (show bW (isNil v) _=some q from h);grind[ae,List.Perm.refl]
 | _=>cases h
theorem DN {T E:TypeId} {t:Ty} {x:LV} {chs:List Ent} {q:Tr t.den×List Ent×List Ent} (h:DK T E t x chs=some q):chs.Perm (q.2.1++q.2.2):=by
 unfold DK at h;split at h
 ·have ⟨r,a,h⟩:=bind_some h;have ⟨p,k⟩:=gf a;split at h
  ·have ⟨c,b,h⟩:=bind_some h;grind
  grind
 ·have ⟨d,b,h⟩:=bind_some h;grind[ae,List.Perm.refl]
theorem zk {J:Hp} {α:Type} {R:Rep α} (a:Cpy R R) {c:List Value} {x:α} (h:R.rd J c x):Bun J [] R c x:=fun w F k=>by
 rw[show F= [] from k];exact a h
theorem Ts {T E:TypeId} {t:Ty} {x:LV} {chs:List Ent} {q:Tr t.den×List Ent×List Ent} (h:DK T E t x chs=some q) {P:Program} {w0:World} {J:Hp} {θ:Th} {n:Nat} (g:x.ok P w0 J θ n):Bun J (q.2.1.map (toCh P θ)) (Ty.tree T E t).rep [x.v θ] q.1:=by
 unfold DK at h;split at h
 ·rename_i i;have ⟨r,j,h⟩:=bind_some h;have ⟨p,k⟩:=gf j;have ⟨⟨l,f,c⟩,rest⟩:=r;obtain rfl:l=i:=k;cases c with
  | own b d =>
   have ⟨m,a,h⟩:=bind_some (show (qu b (.tree T E t) d).bind _=some q from h);obtain ⟨e,rfl⟩:=qv a;cases ae h;subst e;exact S6
  | _=>cases h
 ·have ⟨d,a,h⟩:=bind_some h;cases ae h;exact zk Xx (Nr a g)
theorem lX {P:Program} {w0:World} {J:Hp} {θ:Th} {n:Nat} : ∀ {t:Ty} {cs:List LV} {chs:List Ent} {r:Took t},eC t cs chs=some r->(∀x∈cs,x.ok P w0 J θ n)->
  chs.Perm (r.used++r.rest)/\ ∃d,cs=d++r.cells/\Bun J (r.used.map (toCh P θ)) t.rep (d.map (·.v θ)) r.d:=by
 intro t;induction t with
 | prod a b j i =>
  intro cs chs r h c;have ⟨x,f,h⟩:=bind_some (show (eC a cs chs).bind _=some r from h);have ⟨y,m,h⟩:=bind_some h;cases ae h;obtain ⟨o,d,rfl,A⟩:=j f c;have ⟨u,s,B,v⟩:=i m fun z w=>c z (bw _ w);refine ⟨by rw[aD];exact o.trans (u.append_left _),d++s,by grind,?_⟩;rw[aU,aU];exact Xs A v
 | sl E t ih =>
  intro cs chs r h c;cases cs with
  | nil=>cases h
  | cons x l =>
   have ⟨q,g,h⟩:=bind_some (show (zj E t x chs).bind _=some r from h);cases ae h;have ⟨p,k⟩:=DL g P J θ;exact ⟨p,[x],rfl,k⟩
 | fro t ih =>
  intro cs chs r h c;have ⟨x,f,h⟩:=bind_some (show (eK t cs).bind _=some r from h);cases ae h;have ⟨d,e,k⟩:=jD f c;exact ⟨List.Perm.refl _,d,e,aeQ k⟩
 | wr t ih =>
  intro cs chs r h c;have ⟨x,f,h⟩:=bind_some (show (eC t cs chs).bind _=some r from h);cases ae h;exact ih f c
 | bag t ih =>
  intro cs chs r h c;have ⟨x,f,h⟩:=bind_some (show (eC t cs chs).bind _=some r from h);cases ae h;have ⟨p,d,e,k⟩:=ih f c;exact ⟨p,d,e,aci k⟩
 | tree T E t ih =>
  intro cs chs r h c;cases cs with
  | nil=>cases h
  | cons x l =>
   have ⟨q,g,h⟩:=bind_some (show (DK T E t x chs).bind _=some r from h);cases ae h;exact ⟨DN g,[x],rfl,Ts g (c x (by simp))⟩
 | int k =>
  intro cs chs r h c;have ⟨x,f,h⟩:=bind_some (show (eK _ cs).bind _=some r from h);cases ae h;have ⟨d,e,k⟩:=jD f c;exact ⟨List.Perm.refl _,d,e,zk za k⟩
 | bool =>
  intro cs chs r h c;have ⟨x,f,h⟩:=bind_some (show (eK _ cs).bind _=some r from h);cases ae h;have ⟨d,e,k⟩:=jD f c;exact ⟨List.Perm.refl _,d,e,zk Pn k⟩
 | str =>
  intro cs chs r h c;have ⟨x,f,h⟩:=bind_some (show (eK _ cs).bind _=some r from h);cases ae h;have ⟨d,e,k⟩:=jD f c;exact ⟨List.Perm.refl _,d,e,zk SV k⟩
 | raw =>
  intro cs chs r h c;cases (show none=some r from h)
theorem iy: ∀ {t:Ty} {cs:List LV} {chs:List Ent} {r:Took t},eC t cs chs=some r->chs.Perm (r.used++r.rest):=by
 intro t;induction t with
 | prod a b e d =>
  intro cs chs r h;have ⟨x,c,h⟩:=bind_some (show (eC a cs chs).bind _=some r from h);have ⟨y,g,h⟩:=bind_some h;cases ae h;exact (by rw[aD];exact (e c).trans ((d g).append_left _))
 | sl E t ih =>
  intro cs chs r h;cases cs with
  | nil=>cases h
  | cons x l =>
   have ⟨q,f,h⟩:=bind_some (show (zj E t x chs).bind _=some r from h);grind[ae,DM]
 | fro t ih =>
  intro cs chs r h;have ⟨x,c,h⟩:=bind_some (show (eK t cs).bind _=some r from h);grind[ae,List.Perm.refl]
 | wr t ih =>
  intro cs chs r h;have ⟨x,c,h⟩:=bind_some (show (eC t cs chs).bind _=some r from h);grind
 | bag t ih =>
  intro cs chs r h;have ⟨x,c,h⟩:=bind_some (show (eC t cs chs).bind _=some r from h);grind
 | tree T E t ih =>
  intro cs chs r h;cases cs with
  | nil=>cases h
  | cons x l =>
   have ⟨q,f,h⟩:=bind_some (show (DK T E t x chs).bind _=some r from h);grind[ae,DN]
 | int k =>
  intro cs chs r h;have ⟨x,c,h⟩:=bind_some (show (eK _ cs).bind _=some r from h);grind[ae,List.Perm.refl]
 | bool =>
  intro cs chs r h;have ⟨x,c,h⟩:=bind_some (show (eK _ cs).bind _=some r from h);grind[ae,List.Perm.refl]
 | str =>
  intro cs chs r h;have ⟨x,c,h⟩:=bind_some (show (eK _ cs).bind _=some r from h);grind[ae,List.Perm.refl]
 | raw =>
  intro cs chs r h;cases (show none=some r from h)
section
variable {Y:Type} (tt:TT) (s:Sg) (k:Res->Option Y)
def ain (T:TypeId) (x:Operand):Option Y:=(opd s x).bind fun v=>(nL v).bind fun cs=>k ⟨[],[],s.chs,[(⟨s.nxt,[]⟩,.blk T cs)],.one (.ptr ⟨s.nxt,[]⟩ 0)⟩
def aay (T:TypeId):Option Y:=(td tt T).bind fun d=>match d.fz with
 | true=>k ⟨[],[],s.chs,[(⟨s.nxt,[]⟩,.blk T [.val .nilFunc])],.one (.ptr ⟨s.nxt,[]⟩ 0)⟩
 | false=>d.bytes.bind fun _=>k ⟨[],[],s.chs,[(⟨s.nxt,[]⟩,.blk T ((zeroCells d.ty).map .val))],.one (.ptr ⟨s.nxt,[]⟩ 0)⟩
def aha (agg:Bool) (cs:List LV):Option AV:=match agg with
 | true=>some (.agg cs)
 | false=>match cs with
  | [x] =>some (.one x)
  | _=>none
def aaz (T:TypeId) (x:Operand):Option Y:=(td tt T).bind fun d=>match opd s x with
 | some (.one (.ptr h off))=>(uS h s.chs).bind fun b=>bW (Nat.beq ((b.cells.drop off).take d.n).length d.n) ((aha d.agg ((b.cells.drop off).take d.n)).bind fun v=>k ⟨[b.ent h],[],b.rest,[],v⟩)
 | _=>none
def Tt (T:TypeId) (x y:Operand):Option Y:=(td tt T).bind fun d=>match opd s x with
 | some (.one (.ptr h off))=>(opd s y).bind fun v=>(nL v).bind fun cs=>(uS h s.chs).bind fun b=>bW (Nat.beq cs.length d.n&&Nat.ble (off+d.n) b.cells.length) (k ⟨[],[b.ent h],b.rest,[(h,.blk b.T (b.cells.take off++cs++b.cells.drop (off+cs.length)))],.any ⟨s.nxt,[]⟩⟩)
 | _=>none
def aeZ (T:TypeId) (x:Operand):Option Y:=(td tt T).bind fun d=>match d.el,opd s x with
 | some _,some (.one (.own h))=>(rowOf h s.chs).bind fun r=>k ⟨[r.ent h],[],r.rest,[],.one (.val (.int .i64 (r.xs.length:Int)))⟩
 | _,_=>none
def Tu (T:TypeId) (x i:Operand):Option Y:=(td tt T).bind fun d=>match d.el,opd s x,opd s i with
 | some E,some (.one (.own h)),some (.one (.val (.int .i64 i)))=>(rowOf h s.chs).bind fun r=>(td tt E).bind fun e=>bW (Nat.beq e.n r.t.size) ((aK r.xs i).bind fun a=>k ⟨[r.ent h],[],r.rest,[],.elo h r.ver r.E r.t r.xs a i 0⟩)
 | _,_,_=>none
def aaA (T:TypeId) (x:Operand):Option Y:=(td tt T).bind fun d=>match opd s x with
 | some (.elo h ver E t xs a i off)=>(rowOf h s.chs).bind fun r=>bW (Nat.beq r.ver ver) ((AU d.agg t off d.n).bind fun p=>match p.ty.sh with
  | true=>bW (p.ty.isProd==d.agg) (k ⟨[r.ent h],[],r.rest,[],Tj s.nxt p.ty (p.get a)⟩)
  | false=>bW (Nat.beq p.ty.size 1 && !d.agg) (k ⟨[],[r.ent h],r.rest,[(⟨s.nxt,[]⟩,.own p.ty (p.get a)),(h,.hole ver (.sl E t) xs p.ty (p.get a) (fun y=>xs.set i.toNat (p.set a y)) i t.size off (.own ⟨s.nxt,[]⟩))],.one (.own ⟨s.nxt,[]⟩)⟩))
 | _=>none
def Tv (T:TypeId) (x y:Operand):Option Y:=(td tt T).bind fun d=>match opd s x with
 | some (.elo h ver E t xs a i off)=>(opd s y).bind fun v=>(nL v).bind fun cs=>(rowOf h s.chs).bind fun r=>bW (Nat.beq r.ver ver&&Nat.beq cs.length d.n) ((AU d.agg t off d.n).bind fun p=>match t.sh with
  | true=>(eK p.ty cs).bind fun b=>bW b.2.isEmpty (k ⟨[],[r.ent h],r.rest,[(h,.own (.sl E t) (xs.set i.toNat (p.set a b.1)))],.any ⟨s.nxt,[]⟩⟩)
  | false=>(eC p.ty cs r.rest).bind fun q=>bW q.cells.isEmpty (k ⟨[],r.ent h::q.used,q.rest,[(h,.own (.sl E t) (xs.set i.toNat (p.set a q.d)))],.any ⟨s.nxt,[]⟩⟩))
 | _=>none
end
section
variable {Y:Type} {tt:TT} {s:Sg} {k:Res->Option Y} {P:Program} {w0:World} {o:Oper} {res:Y} {x y:Operand}
theorem ym {I:Hp} {ev:Operand->Value} {α:Type} {R:Rep α} {E:TypeId} {v:Value} {xs:List α} {fact:Value->Prop} (h:Hd v xs.length->OpT P I w0 o ev [] fact (fun _=>[])):OpT P I w0 o ev [Ch.own (ah E R) [v] xs] fact (fun _=>[Ch.own (ah E R) [v] xs]):=
 fun w C a=>h (a.hd 0 rfl).1 w (Ch.own (ah E R) [v] xs::C) a
theorem dQ {θ:Th} {n:Nat} {v:Value} :hv (upd θ n v) ⟨n,[]⟩=v:=ix
theorem acw {T:TypeId} (j:o.op= .box T x) (h:ain s k T x=some res):Oks P w0 s o k res:=by
 have ⟨v,a,h⟩:=bind_some h;have ⟨d,b,h⟩:=bind_some h;refine ⟨_,h,by simp,aS rfl,fun J θ i=>?_⟩;have ⟨e,n⟩:=kj b (bQ i a);refine OpT.weak (abT (l:=d.map (·.v θ)) (aG a) n j) (fun v c=>⟨ay _,?_,fun g f=>?_⟩) (fun v c=>?_)
 ·show Value.pointer (some ⟨bk (hv _ ⟨s.nxt,[]⟩),0,none⟩)=v;grind[dQ,Nj]
 ·cases ax f;exact ⟨ay _,ay _,fun x m=>LV.ok_same Same.upd (Nat.le_succ _) (e x m) Hp.le.rfl⟩
 ·show [Ch.blk (bk v) _ T] = [Ch.blk (bk (hv _ ⟨s.nxt,[]⟩)) (d.map _) T];rw[dQ,jc Same.upd e]
theorem Tw (p:TTok P tt) {T:TypeId} (n:o.op= .alloc T) (h:aay tt s k T=some res):Oks P w0 s o k res:=by
 have ⟨d,m,h⟩:=bind_some h;split at h
 ·rename_i i;have ⟨b,t⟩:=(p.get m).fz i;refine ⟨_,h,by simp,aS rfl,fun J θ q=>?_⟩;refine OpT.weak (KQ (l:=[.nilFunc]) t rfl n) (fun v a=>⟨ay _,?_,fun g j=>?_⟩) (fun v a=>?_)
  ·show Value.pointer (some ⟨bk (hv _ ⟨s.nxt,[]⟩),0,none⟩)=v;grind[dQ,Nj]
  ·cases ax j;refine ⟨ay _,ay _,fun x f=>?_⟩;cases ax f
   rfl
  ·show [Ch.blk (bk v) _ T] = [Ch.blk (bk (hv _ ⟨s.nxt,[]⟩)) _ T];rw[dQ];rfl
 have ⟨z,w,h⟩:=bind_some h;obtain ⟨A,c,e,-⟩:=(p.get m).zero z w;refine ⟨_,h,by simp,aS rfl,fun J θ q=>?_⟩;refine OpT.weak (KQ (l:=zeroCells d.ty) c e n) (fun v a=>⟨ay _,?_,fun g j=>?_⟩) (fun v a=>?_)
 ·show Value.pointer (some ⟨bk (hv _ ⟨s.nxt,[]⟩),0,none⟩)=v;grind[dQ,Nj]
 ·cases ax j;refine ⟨ay _,ay _,fun x f=>?_⟩;obtain ⟨u,r,rfl⟩:=List.mem_map.1 f;exact Pt _ u r
 ·show [Ch.blk (bk v) _ T] = [Ch.blk (bk (hv _ ⟨s.nxt,[]⟩)) (((zeroCells d.ty).map LV.val).map _) T];rw[dQ,List.map_map];congr 2;exact (List.map_id' _).symm
theorem Tx {agg:Bool} {cs:List LV} {v:AV} (h:aha agg cs=some v) {P:Program} {w0:World} {J:Hp} {θ:Th} {n:Nat} {chs:List Ent} (a: ∀x∈cs,x.ok P w0 J θ n):v.ok P w0 J θ n chs/\(if agg then Value.agg (cs.map (·.v θ)).toArray else (cs.map (·.v θ)).getD 0 undef)=v.v θ:=by
 cases agg with
 | true =>
  cases ae (show some (AV.agg cs)=some v from h);exact ⟨a,rfl⟩
 | false =>
  cases cs with
  | nil=>cases h
  | cons x l =>
   cases l with
   | nil =>
    cases ae (show some (AV.one x)=some v from h);exact ⟨a x (by simp),rfl⟩
   | cons _ _=>cases h
theorem ma {e:Ent} {r:List Ent} {J:Hp} {θ:Th} (a:Fine P w0 J θ s) (hp:s.chs.Perm (e::r)):okE P w0 J θ s.nxt s.chs e:=a.chs e (hp.mem_iff.2 (by simp))
theorem qy {e:Ent} {r l:List Ent} (hp:l.Perm (e::r)):l.Perm ([e] ++ [] ++r):=hp
theorem Gu {e:Ent} {r l:List Ent} (hp:l.Perm (e::r)):l.Perm ([] ++ [e] ++r):=hp
theorem Tz (A:TTok P tt) {T:TypeId} (q:o.op= .load T x) (h:aaz tt s k T x=some res):Oks P w0 s o k res:=by
 have ⟨d,m,h⟩:=bind_some h;split at h
 ·rename_i C off w;have ⟨b,n,h⟩:=bind_some h;have ⟨f,h⟩:=ak h;have ⟨v,c,h⟩:=bind_some h;have hp:=mz n;have f:=aw f;refine ⟨_,h,qy hp,aS rfl,fun J θ e=>?_⟩;have p: ∀z∈(b.cells.drop off).take d.n,z.ok P w0 J θ s.nxt:=fun z t=>(ma e hp).2.2 z (List.mem_of_mem_drop (List.mem_of_mem_take t));have ⟨j,r⟩:=Tx (chs:=s.chs) c p;have a:=A.get m;refine OpT.weak (KR (l:=b.cells.map (·.v θ)) (E:=b.T) a.ti q (aG w) a.one (by simp_all) (by grind) r) (fun u i=>?_) (fun u i=>rfl);subst i;exact ⟨AV.ok_same Same.upd (Nat.le_succ _) (Res.newer (qy hp) (aS rfl J θ e)) j Hp.le.rfl,AV.v_same Same.upd j,fun g B=>by cases B⟩
 grind
theorem Rc (H:TTok P tt) {T:TypeId} (B:o.op= .store T x y) (h:Tt tt s k T x y=some res):Oks P w0 s o k res:=by
 have ⟨d,r,h⟩:=bind_some h;split at h
 ·rename_i i off G;have ⟨v,f,h⟩:=bind_some h;have ⟨p,j,h⟩:=bind_some h;have ⟨b,A,h⟩:=bind_some h;have ⟨m,h⟩:=ak h;rw[al] at m;have t:=aw m.1;have D:=bd m.2;have hp:=mz A;refine ⟨_,h,Gu hp,aS rfl,fun J θ q=>?_⟩;have ⟨F,C⟩:=kj j (bQ q f);have c:=ma q hp;have n:=H.get r;have e: ∀z∈b.cells.take off++p++b.cells.drop (off+p.length),z.ok P w0 J θ s.nxt:=fun z a=>by
   rcases aN a with a | a
   ·rcases aN a with a | a
    ·exact c.2.2 z (List.mem_of_mem_take a)
    grind
   ·exact c.2.2 z (List.mem_of_mem_drop a)
  refine OpT.weak (IE (l:=b.cells.map (·.v θ)) (E:=b.T) n.ti B (aG G) (aG f) C (by grind) (Nq F) (by grind)) (fun u w=>⟨ay _,dQ,fun g I=>?_⟩) (fun u w=>?_)
  ·cases ax I;exact ⟨aW c.1,ay _,fun z a=>LV.ok_same Same.upd (Nat.le_succ _) (e z a) Hp.le.rfl⟩
  ·show [Ch.blk (bk (hv θ i)) _ b.T] = [Ch.blk (bk (hv (upd θ s.nxt u) i)) _ b.T];rw[show hv (upd θ s.nxt u) i=hv θ i from a7 Same.upd c.1,Hu _ _ _ (by grind),jc Same.upd e,aU,aU,List.map_take,List.map_drop,List.length_map]
 grind
theorem XG (j:TTok P tt) {T:TypeId} (e:o.op= .call { callee:=.builtin .len,args:= #[x],argTypes:= #[T] }) (h:aeZ tt s k T x=some res):Oks P w0 s o k res:=by
 have ⟨d,b,h⟩:=bind_some h;split at h
 ·rename_i E p c i;have ⟨r,m,h⟩:=bind_some h;obtain ⟨hp,-⟩:=bK m;refine ⟨_,h,qy hp,aS rfl,fun J θ n=>OpT.weak (ym fun f=>Hs f ((j.get b).el _ c) e (aG i)) (fun u a=>?_) (fun u a=>rfl)⟩;subst a;exact ⟨Eq.refl true,rfl,fun g l=>by cases l⟩
 grind
theorem Re (p:TTok P tt) {T:TypeId} {i:Operand} (A:o.op= .indexAddr T x i) (h:Tu tt s k T x i=some res):Oks P w0 s o k res:=by
 have ⟨d,t,h⟩:=bind_some h;split at h
 ·rename_i E c j z C F;have ⟨r,q,h⟩:=bind_some h;have ⟨e,w,h⟩:=bind_some h;have ⟨f,h⟩:=ak h;have ⟨a,n,h⟩:=bind_some h;have f:=aw f;have ⟨hp,v⟩:=bK q;refine ⟨_,h,qy hp,aS rfl,fun J θ l=>OpT.weak (ym (fact:=(· =pt (hv θ c) (j.toNat*r.t.size+0))) fun B=>?_) (fun u m=>?_) (fun u m=>rfl)⟩
  ·have:=uY (I:=J) (w0:=w0) B ((p.get t).el _ z) (p.get w).ti A (aG C) (aG F) (IC n)
   rw[f] at this;exact this
  ·have b:=ma l hp;refine ⟨⟨aW b.1,n,(zi q b.2.1).newer (Res.newer (qy hp) (aS rfl J θ l)) (Nat.le_succ _)⟩,?_,fun g D=>by cases D⟩;rw[m];show pt (hv (upd θ s.nxt _) c) _=pt (hv θ c) _;rw[show hv (upd θ s.nxt _) c=hv θ c from a7 Same.upd b.1]
 grind
theorem DO {h:Hdr} {ver:Nat} {E:TypeId} {t:Ty} {xs:List t.den} {a:t.den} {i:Int} {off:Nat} {J:Hp} {θ:Th} {r:Row} (c:rowOf h s.chs=some r) (hv:r.ver=ver) (b:AV.ok P w0 J θ s.nxt s.chs (.elo h ver E t xs a i off)):r.ent h=(h,ver,.own (.sl E t) xs):=by
 obtain ⟨hp,-⟩:=bK c
 have:=b.2.2.2 (r.ent h) (hp.mem_iff.2 (by simp)) _ ⟨rfl,.inl ⟨hv,rfl⟩⟩
 show (h,r.ver,Chk.own (.sl r.E r.t) r.xs)=_;rw[hv,show Chk.own (.sl r.E r.t) r.xs=_ from this]
theorem TA (hT:TTok P tt) {T:TypeId} (X:o.op= .load T x) (h:aaA tt s k T x=some res):Oks P w0 s o k res:=by
 have ⟨d,hd,h⟩:=bind_some h;split at h
 ·rename_i m Q E t V a i off H;have ⟨r,M,h⟩:=bind_some h;have ⟨f,h⟩:=ak h;have f:=aw f;have ⟨p,N,h⟩:=bind_some h;have q:=De _ _ _ _ N;obtain ⟨hp,-⟩:=bK M;have A:=hT.get hd;split at h
  ·rename_i S;have ⟨b,h⟩:=ak h;have b:p.ty.isProd=d.agg:=by simpa using b
   refine ⟨_,h,qy hp,aS rfl,fun J θ z=>?_⟩;have j:=bQ z H;have v:=DO M f j
   have:=IR (P:=P) (I:=J) (w0:=w0) (o:=o) (T:=T) (E:=E) (Ty.sh_ok S) j.2.1 q.lens A.ti (p.ty.rep_size.trans q.size) A.one X (aG (θ:=θ) H) t.rep_size
   rw[v];refine OpT.weak this (fun u B=>?_) (fun u B=>rfl);have ⟨c,L,Z⟩:=B;rw[<-b] at Z
   have:=sy (P:=P) (w0:=w0) (J:=J) (θ:=upd θ s.nxt u) (id:=s.nxt) (n:=s.nxt+1) (chs:=Res.chs ⟨[r.ent m],[],r.rest,[],Tj s.nxt p.ty (p.get a)⟩ s.nxt) (ay _) ix p.ty (p.get a) c L Z
   grind
  ·have ⟨b,h⟩:=ak h;rw[al] at b;have G:=aw b.1;have R:d.agg=false:=by simpa using b.2
   refine ⟨_,h,Gu hp,fun J θ z g b W c C=>?_,fun J θ z=>?_⟩
   ·rcases az b with rfl | b
    ·exact C.elim
    ·cases ax b;obtain ⟨rfl,rfl⟩:=C;exact ⟨r.ent m,hp.mem_iff.2 (by simp),by rw[DO M f (bQ z H)];exact ⟨rfl,.inl ⟨rfl,rfl⟩⟩⟩
   have j:=bQ z H;have v:=DO M f j;have w:=ma z hp;have K:=A.ti;rw[R,<-q.size,G] at K
   have:=IS (P:=P) (I:=J) (w0:=w0) (o:=o) (T:=T) (E:=E) j.2.1 q.lens K (p.ty.rep_size.trans G) X (aG (θ:=θ) H) t.rep_size
   rw[v];have F:V.set i.toNat (p.set a (p.get a))=V:=by
    have ⟨U,e⟩:=List.getElem?_eq_some_iff.1 (yh j.2.1);rw[q.eta,<-e];exact List.set_getElem_self U
   have D:Q<s.nxt:=by rw[<-f];exact w.2.1
   refine OpT.weak this (fun u B=>⟨⟨ay _,by rw[dQ];exact B⟩,dQ,fun g b=>?_⟩) (fun u B=>?_)
   ·rcases az b with rfl | b
    ·exact ⟨ay _,ay _,trivial⟩
    ·cases ax b;refine ⟨aW w.1,ay _,⟨ay _,by rw[dQ];exact B⟩,D,F,fun l hl=>?_⟩;cases LV.own.inj hl;refine ⟨ay _,fun e v c C=>?_⟩;rcases aN v with v | v
     ·obtain ⟨g,b,rfl⟩:=List.mem_map.1 v;rcases az b with rfl | b
      ·rcases C.2 with L | L
       ·grind
       ·exact L.elim
      ·cases ax b
       have:=w.1
       rw[show m=(⟨s.nxt,[]⟩:Hdr) from C.1] at this;exact absurd this (Nat.lt_irrefl _)
     ·have v:e∈s.chs:=hp.mem_iff.2 (bp _ (by grind));have O:=z.chs e v
      have:=O.1
      rw[C.1] at this;grind
   ·show [Ch.own p.ty.rep [u] (p.get a),Ch.gap _ [hv θ m] p.ty.rep _ (ptB (hv θ m)) (ptO (hv θ m)+_) u] = [Ch.own p.ty.rep [hv (upd θ s.nxt u) ⟨s.nxt,[]⟩] (p.get a),Ch.gap _ [hv (upd θ s.nxt u) m] p.ty.rep _ (ptB (hv (upd θ s.nxt u) m)) (ptO (hv (upd θ s.nxt u) m)+_) (hv (upd θ s.nxt u) ⟨s.nxt,[]⟩)];rw[dQ,show hv (upd θ s.nxt u) m=hv θ m from a7 Same.upd w.1];rfl
 grind
theorem Rf (X:TTok P tt) {T:TypeId} (R:o.op= .store T x y) (h:Tv tt s k T x y=some res):Oks P w0 s o k res:=by
 have ⟨d,U,h⟩:=bind_some h;split at h
 ·rename_i m W E t xs a i off G;have ⟨v,j,h⟩:=bind_some h;have ⟨cs,A,h⟩:=bind_some h;have ⟨r,O,h⟩:=bind_some h;have ⟨z,h⟩:=ak h;rw[al] at z;have l:=aw z.1;have S:=aw z.2;have ⟨p,H,h⟩:=bind_some h;have c:=De _ _ _ _ H;obtain ⟨hp,-⟩:=bK O;have C:=X.get U;split at h
  ·rename_i F;have ⟨b,V,h⟩:=bind_some h;have ⟨w,h⟩:=ak h;refine ⟨_,h,Gu hp,aS rfl,fun J θ n=>?_⟩;have e:=bQ n G;have L:=DO O l e;have f:=ma n hp;have ⟨D,M⟩:=kj A (bQ n j);have ⟨Z,B,N⟩:=jD (J:=J) V D;rw[List.isEmpty_iff.1 w,List.append_nil] at B;subst B
   have:=KU (P:=P) (I:=J) (w0:=w0) (o:=o) (T:=T) (E:=E) (Ty.sh_ok F) (Ty.cpy F) e.2.1 c.upd C.ti R (aG (θ:=θ) G) (aG j) M (Nq D) (by grind) t.rep_size c.fit N
   rw[L];refine OpT.weak this (fun u K=>⟨ay _,dQ,fun g z=>?_⟩) (fun u K=>?_)
   ·cases ax z;exact ⟨aW f.1,ay _,trivial⟩
   ·show [Ch.own _ [hv θ m] _] = [Ch.own _ [hv (upd θ s.nxt u) m] _];rw[show hv (upd θ s.nxt u) m=hv θ m from a7 Same.upd f.1];rfl
  ·have ⟨q,Q,h⟩:=bind_some h;have ⟨w,h⟩:=ak h;refine ⟨_,h,(hp.trans ((iy Q).cons _)),aS rfl,fun J θ n=>?_⟩;have e:=bQ n G;have L:=DO O l e;have f:=ma n hp;have ⟨D,M⟩:=kj A (bQ n j);obtain ⟨-,Z,B,N⟩:=lX (J:=J) (θ:=θ) Q D;rw[List.isEmpty_iff.1 w,List.append_nil] at B;subst B
   have:=IG (P:=P) (I:=J) (w0:=w0) (o:=o) (T:=T) (E:=E) N e.2.1 c.updO C.ti R (aG (θ:=θ) G) (aG j) M (Nq D) (by grind) (p.ty.rep_size.trans c.size) t.rep_size c.fit
   rw[L];refine OpT.weak this (fun u K=>⟨ay _,dQ,fun g z=>?_⟩) (fun u K=>?_)
   ·cases ax z;exact ⟨aW f.1,ay _,trivial⟩
   ·show [Ch.own _ [hv θ m] _] = [Ch.own _ [hv (upd θ s.nxt u) m] _];rw[show hv (upd θ s.nxt u) m=hv θ m from a7 Same.upd f.1];rfl
 grind
end
def XH (pl:List (Nat×Nat)) (cells:List LV):List (Nat×List LV)->Option (List LV)
 | [] =>some cells
 | (i,l)::rest=>(pl[i]?).bind fun q=>bW (Nat.beq l.length q.2&&Nat.ble (q.1+q.2) cells.length) (XH pl (cells.take q.1++l++cells.drop (q.1+q.2)) rest)
theorem Px {a:List (Nat×Nat)} {θ:Th} : ∀ {ps:List (Nat×List LV)} {cells r:List LV},XH a cells ps=some r->Nh (a[·]?) (cells.map (·.v θ)) (ps.map fun p=>(p.1,p.2.map (·.v θ)))=some (r.map (·.v θ))
 | [],cells,r,h=>by cases ae (show some cells=some r from h);rfl
 | (i,l)::ps,cells,r,h=>by
  have ⟨q,b,h⟩:=bind_some (show (a[i]?).bind _=some r from h);have ⟨c,h⟩:=ak h
  have:=Px (θ:=θ) h
  simp_all[List.map_cons,Nh,List.length_map,if_pos,aU,List.map_take,List.map_drop]
theorem La {b:List (Nat×Nat)} {Q:LV->Prop} : ∀ {ps:List (Nat×List LV)} {cells r:List LV},XH b cells ps=some r->(∀x∈cells,Q x)->(∀p∈ps,∀x∈p.2,Q x)-> ∀x∈r,Q x
 | [],cells,r,h,hc,hp=>by cases ae (show some cells=some r from h);exact hc
 | (i,l)::ps,cells,r,h,hc,hp=>by
  have ⟨q,d,h⟩:=bind_some (show (b[i]?).bind _=some r from h);obtain ⟨-,h⟩:=ak h;refine La h (fun x a=>?_) fun p c=>hp p (by grind);rcases aN a with a | a
  ·rcases aN a with a | a
   ·grind
   simp_all
  grind
def partsOf (s:Sg):List (Nat×Operand)->Option (List (Nat×List LV))
 | [] =>some []
 | (i,x)::l=>(opd s x).bind fun v=>(nL v).bind fun cs=>(partsOf s l).bind fun r=>some ((i,cs)::r)
theorem sA {P:Program} {w0:World} {s:Sg} {J:Hp} {θ:Th} (c:Fine P w0 J θ s): ∀ {l:List (Nat×Operand)} {ps:List (Nat×List LV)},partsOf s l=some ps->
  peq (l.map fun p=>(p.1,evL (envL θ s) p.2)) (ps.map fun p=>(p.1,p.2.map (·.v θ)))/\ ∀p∈ps,∀x∈p.2,x.ok P w0 J θ s.nxt
 | [],ps,h=>by cases ae (show some [] =some ps from h);exact ⟨trivial,fun p hp=>by cases hp⟩
 | (i,x)::l,ps,h=>by
  have ⟨v,b,h⟩:=bind_some (show (opd s x).bind _=some ps from h);have ⟨f,a,h⟩:=bind_some h;have ⟨r,e,h⟩:=bind_some h;cases ae h;have ⟨d,k⟩:=sA c e;have ⟨j,g⟩:=kj a (bQ c b);refine ⟨⟨rfl,by grind[aG],d⟩,fun p hp=>?_⟩;grind
structure Lits (t:Ty) where
 xs:List t.den
 used:List Ent
 rest:List Ent
def acx (t:Ty):List (Nat×List LV)->Nat->Option (List t.den)
 | [],_=>some []
 | (i,cs)::l,j=>bW (Nat.beq i j) ((eK t cs).bind fun d=>bW d.2.isEmpty ((acx t l (j+1)).bind fun r=>some (d.1::r)))
def Py (t:Ty):List (Nat×List LV)->Nat->List Ent->Option (Lits t)
 | [],_,chs=>some ⟨[],[],chs⟩
 | (i,cs)::l,j,chs=>bW (Nat.beq i j&&Nat.beq cs.length t.size) ((eC t cs chs).bind fun d=>bW d.cells.isEmpty ((Py t l (j+1) d.rest).bind fun r=>some ⟨d.d::r.xs,d.used++r.used,r.rest⟩))
section
variable {P:Program} {w0:World} {J:Hp} {θ:Th} {n:Nat} {t:Ty}
theorem Pz: ∀ {l:List (Nat×List LV)} {j:Nat} {xs:List t.den},acx t l j=some xs->(∀p∈l,∀x∈p.2,x.ok P w0 J θ n)->l.map (·.1)=(List.range' j l.length)/\xs.length=l.length/\(∀p∈l,p.2.length=t.size)/\ ∀p,p∈(l.map fun p=>p.2.map (·.v θ)).zip xs->t.rep.rd J p.1 p.2
 | [],j,xs,h,hc=>by cases ae (show some [] =some xs from h);simp_all
 | (i,cs)::l,j,xs,h,hc=>by
  have ⟨a,h⟩:=ak (show bW (Nat.beq i j) _=some xs from h);have ⟨d,g,h⟩:=bind_some h;have ⟨k,h⟩:=ak h;have ⟨r,m,h⟩:=bind_some h;cases ae h;have a:=aw a;subst a;have ⟨q,b,c⟩:=jD (J:=J) g (hc (i,cs) (by simp));rw[List.isEmpty_iff.1 k,List.append_nil] at b;subst b;have ⟨f,s,o,e⟩:=Pz m fun p hp=>hc p (by grind);refine ⟨by rw[List.map_cons,f];rfl,by grind,fun p hp=>?_,fun p hp=>?_⟩
  ·rcases az hp with rfl | hp
   ·have:=Rep.rd_len _ c
    rw[List.length_map,t.rep_size] at this;omega
   grind
  ·rcases az hp with rfl | hp
   ·exact c
   ·exact e p hp
theorem DP: ∀ {l:List (Nat×List LV)} {j:Nat} {chs:List Ent} {r:Lits t},Py t l j chs=some r->chs.Perm (r.used++r.rest)
 | [],j,chs,r,h=>by cases ae (show some _=some r from h);rfl
 | (i,cs)::l,j,chs,r,h=>by
  have ⟨e,h⟩:=ak (show bW (Nat.beq i j&&Nat.beq cs.length t.size) _=some r from h);have ⟨d,b,h⟩:=bind_some h;have ⟨c,h⟩:=ak h;have ⟨q,a,h⟩:=bind_some h;cases ae h;rw[aD];exact (iy b).trans ((DP a).append_left _)
theorem Lb: ∀ {l:List (Nat×List LV)} {j:Nat} {chs:List Ent} {r:Lits t},Py t l j chs=some r->(∀p∈l,∀x∈p.2,x.ok P w0 J θ n)->l.map (·.1)=(List.range' j l.length)/\r.xs.length=l.length/\(∀p∈l,p.2.length=t.size)/\vd J (r.used.map (toCh P θ)) (KT t.rep (l.map fun p=>p.2.map (·.v θ)) r.xs)
 | [],j,chs,r,h,hc=>by cases ae (show some _=some r from h);exact ⟨rfl,rfl,fun p hp=>(by cases hp),zf⟩
 | (i,cs)::l,j,chs,r,h,hc=>by
  have ⟨a,h⟩:=ak (show bW (Nat.beq i j&&Nat.beq cs.length t.size) _=some r from h);have ⟨d,g,h⟩:=bind_some h;have ⟨m,h⟩:=ak h;have ⟨q,k,h⟩:=bind_some h;cases ae h;rw[al] at a;have f:=aw a.2;have a:=aw a.1;subst a;obtain ⟨-,u,b,o⟩:=lX (J:=J) (θ:=θ) g (hc (i,cs) (by simp));rw[List.isEmpty_iff.1 m,List.append_nil] at b;subst b;have ⟨e,v,s,c⟩:=Lb k fun p hp=>hc p (by grind);refine ⟨by rw[List.map_cons,e];rfl,by grind,fun p hp=>?_,?_⟩
  ·grind
  ·rw[aU];exact ve o c
end
section
variable {P:Program} {w0:World} {I:Hp} {o:Oper} {ev:Operand->Value} {s:Sg}
def aaB (ev:Operand->Value) (θ:Th):List (Nat×Operand)->List (Nat×List LV)->List (Value×List Value)
 | p::l,q::m=>(ev p.2,q.2.map (·.v θ))::aaB ev θ l m
 | _,_=>[]
theorem Ns {θ:Th} : ∀ {l:List (Nat×Operand)} {ps:List (Nat×List LV)} {j:Nat},peq (l.map fun p=>(p.1,ev p.2)) (ps.map fun p=>(p.1,p.2.map (·.v θ)))->ps.map (·.1)=List.range' j ps.length->
  l.map (fun p=>(p.1,ev p.2))=((aaB ev θ l ps).zipIdx j).map (fun p=>(p.2,p.1.1))/\(aaB ev θ l ps).length=ps.length/\(aaB ev θ l ps).map (·.2)=ps.map (fun p=>p.2.map (·.v θ))/\ ∀u∈aaB ev θ l ps,u.1.cells=u.2.toArray/\ ∃p∈ps,u.2.length=p.2.length
 | [],[],j,_,_=>⟨rfl,rfl,rfl,fun u a=>by cases a⟩
 | (i,x)::l,(i',cs)::ps,j,h,hj=>by
  have ⟨k,e,h⟩:=(show i=i'/\(ev x).cells=(cs.map (·.v θ)).toArray/\peq _ _ from h);have c:i'=j:=by
   have:=congrArg (fun l:List Nat=>l.head?) hj
   simpa [List.range'] using this
  have b:ps.map (·.1)=List.range' (j+1) ps.length:=by
   have:=congrArg List.tail hj
   simpa [List.range'] using this
  have ⟨g,m,d,f⟩:=Ns h b;refine ⟨?_,by grind[aaB],by show _::_=_::_;rw[d],fun u a=>?_⟩
  ·show (i,ev x)::_=(j,ev x)::_;grind
  ·rcases az a with rfl | a
   ·simp_all
   grind
 | [],_::_,j,h,_=>h.elim
 | _::_,[],j,h,_=>h.elim
theorem acy {α:Type} {R:Rep α} {E:TypeId} {xs:List α} {rn:List Ch} {fact:Value->Prop} {gv:Value->List Ch} (h:OpT P I w0 o ev rn fact (fun v=>Ch.own (ah E R) [v] xs::gv v)):OpT P I w0 o ev rn (fun v=>fact v/\v.oneCell'=true) (fun v=>Ch.own (ah E R) [v] xs::gv v):=
 OpT.weak (OpT.hdk (fun v=>v) 0 (fun v=>rfl) h) (fun v hv=>⟨hv.1,Hd.one hv.2⟩) fun v hv=>rfl
theorem good_row {rs ns rest:List Ent} {E:TypeId} {t:Ty} {xs:List t.den} (hp:s.chs.Perm (rs++ns++rest)) (b: ∀J θ,Fine P w0 J θ s->OpT P J w0 o (evL (envL θ s)) ((rs++ns).map (toCh P θ)) (fun _=>True) (fun v=>Ch.own (Ty.sl E t).rep [v] xs::rs.map (toCh P θ))):Good P w0 s o ⟨rs,ns,rest,[(⟨s.nxt,[]⟩,.own (.sl E t) xs)],.one (.own ⟨s.nxt,[]⟩)⟩:=
 ⟨hp,aS rfl,fun J θ d=>by
  have c:=acy (b J θ d);have h:OpT P J w0 o (evL (envL θ s)) ((rs++ns).map (toCh P θ)) (fun v=>True/\v.oneCell'=true) (fun v=>rs.map (toCh P θ)++ [Ch.own (Ty.sl E t).rep [v] xs]):=
   fun w C e=>(c w C e).imp fun v w hv=>⟨hv.1,hv.2.perm (List.Perm.append_right C (List.perm_append_comm (l₁:=[_])))⟩
  refine OpT.weak h (fun v a=>⟨⟨ay _,by grind[dQ]⟩,dQ,fun g f=>?_⟩) (fun v a=>?_)
  ·cases ax f;exact ⟨ay _,ay _,trivial⟩
  ·show _=_++ [Ch.own _ [hv (upd θ s.nxt v) ⟨s.nxt,[]⟩] _];rw[dQ]⟩
end
section
variable {Y:Type} (tt:TT) (an:List (Nat×Ty)) (s:Sg) (k:Res->Option Y)
def aaC (T:TypeId) (parts:Array (Nat×Operand)):Option Y:=(td tt T).bind fun d=>d.place.bind fun pl=>d.bytes.bind fun _=>(partsOf s parts.toList).bind fun ps=>(XH pl ((zeroCells d.ty).map .val) ps).bind fun r=>k (.pure s (.agg r))
def aio:List (Nat×Ty)->Nat->Ty->Ty
 | [],_,t=>t
 | (u,t')::l,d,t=>if Nat.beq u d then t' else aio l d t
def Xe (d:Option Nat) (t:Ty):Ty:=match d with
 | none=>t
 | some d=>aio an d t
def newRow (E:TypeId) (t:Ty) (ns rest:List Ent) (xs:List t.den):Option Y:=k ⟨[],ns,rest,[(⟨s.nxt,[]⟩,.own (.sl E t) xs)],.one (.own ⟨s.nxt,[]⟩)⟩
def ahb (E : TypeId) (n : Nat) (t : Ty) (m : Nat) (l : List (Nat × Operand)) : Option Y := (partsOf s l).bind fun ps => bW (Nat.beq ps.length (m + 1) && Nat.beq t.size n && Nat.ble ((m + 1) * n) 16777216) (match t.sh with
    | true => (acx t ps 0).bind fun xs => newRow s k E t [] s.chs xs
    | false => (Py t ps 0 s.chs).bind fun r => newRow s k E t r.used r.rest r.xs)
def aip (dst:Option Nat) (T:TypeId) (m:Nat) (parts:Array (Nat×Operand)):Option Y:=(td tt T).bind fun d=>d.el.bind fun E=>(td tt E).bind fun e=>match m with
 | 0=>bW parts.toList.isEmpty (newRow s k E (Xe an dst e.ty) [] s.chs [])
 | m+1=>e.bytes.bind fun _=>ahb s k E e.n (Xe an dst e.ty) m parts.toList
def Nt:Operand->Operand->Bool
 | .tmp t,.tmp u=>Nat.beq t u
 | .const (.int .i64 m),.const (.int .i64 n)=>match m,n with
  | .ofNat a,.ofNat b=>Nat.beq a b
  | _,_=>false
 | _,_=>false
def ae0 (dst:Option Nat) (T:TypeId) (x y:Operand):Option Y:=(td tt T).bind fun d=>d.el.bind fun E=>(td tt E).bind fun e=>e.bytes.bind fun b=>match opd s x with
 | some (.one (.val (.int .i64 l)))=>bW (Nt x y&&Nat.beq e.ty.size e.n&&decide ((Xe an dst e.ty).erase=e.ty.erase)) ((mkI b l (IL (Xe an dst e.ty))).bind fun xs=>newRow s k E (Xe an dst e.ty) [] s.chs xs)
 | _=>none
end
section
variable {Y:Type} {tt:TT} {an:List (Nat×Ty)} {s:Sg} {k:Res->Option Y} {P:Program} {w0:World} {o:Oper} {res:Y} {x y:Operand}
theorem TC (B:TTok P tt) {T:TypeId} {parts:Array (Nat×Operand)} (v:o.op= .build T parts) (h:aaC tt s k T parts=some res):Oks P w0 s o k res:=by
 have ⟨d,p,h⟩:=bind_some h;have ⟨w,f,h⟩:=bind_some h;have ⟨b,t,h⟩:=bind_some h;have ⟨C,c,h⟩:=bind_some h;have ⟨r,m,h⟩:=bind_some h;have a:=B.get p;obtain ⟨z,g,i,-⟩:=a.zero b t;refine ⟨_,h,fj (fun J θ e=>?_) fun J θ e=>?_⟩
 ·have ⟨j,n⟩:=sA e c;have l:=Px (θ:=θ) m;rw[List.map_map,show (zeroCells d.ty).map ((fun x:LV=>x.v θ) ∘ LV.val)=zeroCells d.ty from List.map_id' _] at l;exact SZ _ (a.place w f) g i v j l
 ·have ⟨j,n⟩:=sA e c;exact La m (fun x A=>by
   obtain ⟨u,q,rfl⟩:=List.mem_map.1 A;exact Pt _ u q) n
theorem acz (O:TTok P tt) {T:TypeId} {m:Nat} {parts:Array (Nat×Operand)} (B:o.op= .buildSlice T m parts) (h:aip tt an s k o.dst T m parts=some res):Oks P w0 s o k res:=by
 have ⟨d,S,h⟩:=bind_some h;have ⟨E,A,h⟩:=bind_some h;have ⟨e,X,h⟩:=bind_some h;have f:=O.get S;have i:=O.get X;cases m with
 | zero =>
  have ⟨hp,h⟩:=ak (show bW parts.toList.isEmpty _=some res from h);have C:parts= #[]:=by simpa using hp
  subst C;exact ⟨_,h,good_row (rs:=[]) (by simp) fun J θ n=>Xk (f.el E A) i.ti B⟩
 | succ m =>
  have ⟨b,W,h⟩:=bind_some (show e.bytes.bind _=some res from h);have ⟨Q,l,h⟩:=bind_some h;have ⟨p,h⟩:=ak h;rw[al,al] at p;have a:=aw p.1.1;have c:=aw p.1.2;have g:=bd p.2;obtain ⟨z,j,Z,-⟩:=i.zero b W;have N:0<e.n:=by rw[<-c];exact Ty.size_pos _
  split at h
  ·rename_i I;have ⟨U,K,h⟩:=bind_some h;refine ⟨_,h,good_row (rs:=[]) (by simp) fun J θ n=>?_⟩;have ⟨t,L⟩:=sA n l;have ⟨F,D,V,G⟩:=Pz (J:=J) K L;have ⟨q,H,M,v⟩:=Ns t F;exact Nf (aaB (evL (envL θ s)) θ parts.toList Q) U (Ty.cpy I) (by grind) (f.el E A) j N ((Ty.rep_size _).trans c) (Nat.succ_pos _) g B q (H.trans a) (D.trans a) fun u w=>⟨(v u w).1,by
    grind⟩
  ·have ⟨r,R,h⟩:=bind_some h;refine ⟨_,h,good_row (rs:=[]) (DP R) fun J θ n=>?_⟩;have ⟨t,L⟩:=sA n l;have ⟨F,D,V,G⟩:=Lb (J:=J) R L;have ⟨q,H,M,v⟩:=Ns t F;rw[<-M] at G;exact OpT.pre G rfl (SU (aaB (evL (envL θ s)) θ parts.toList Q) r.xs (f.el E A) j N ((Ty.rep_size _).trans c) (Nat.succ_pos _) g B q (H.trans a) (D.trans a) fun u w=>⟨(v u w).1,by
    grind⟩)
theorem Rg {x y:Operand} (h:Nt x y=true):x=y:=by
 unfold Nt at h;split at h
 ·simp_all
 ·split at h
  ·simp_all
  grind
 grind
theorem XI (q:TTok P tt) {T:TypeId} (A:o.op= .makeSlice T x y) (h:ae0 tt an s k o.dst T x y=some res):Oks P w0 s o k res:=by
 have ⟨d,t,h⟩:=bind_some h;have ⟨E,u,h⟩:=bind_some h;have ⟨e,w,h⟩:=bind_some h;have ⟨b,v,h⟩:=bind_some h;have g:=q.get t;have f:=q.get w;split at h
 ·rename_i l p;have ⟨n,h⟩:=ak h;rw[al,al] at n;have ⟨⟨a,c⟩,r⟩:=n;have ⟨F,m,h⟩:=bind_some h;have a:=Rg a;have c:=aw c;have ⟨z,i,B,j⟩:=f.zero b v;have G:z.cells.toList=zeroCells (Xe an o.dst e.ty):=by grind[nK,Xe]
  have C:(Xe an o.dst e.ty).size=e.n:=by grind[zh,nK]
  refine ⟨_,h,good_row (rs:=[]) (by simp) fun J θ D=>?_⟩;exact aeR (by grind[Dd]) (g.el E u) i A ((Ty.rep_size _).trans C) (by grind[Ty.size_pos]) j (aG p) (by rw[<-a];exact aG p) m
 grind
end
section
variable {Y:Type} (tt:TT) (an:List (Nat×Ty)) (s:Sg) (k:Res->Option Y)
def agA (E:TypeId) (b:Nat) (t:Ty) (xs:List t.den) (nsx rest:List Ent) (y:AV):Option Y:=match y with
 | .one (.own h)=>(rowOf h rest).bind fun r=>(qu (.sl r.E r.t) (.sl E t) r.xs).bind fun ys=>(cr b xs ys).bind fun zs=>match t.sh with
  | true=>k ⟨[r.ent h],nsx,r.rest,[(⟨s.nxt,[]⟩,.own (.sl E t) zs)],.one (.own ⟨s.nxt,[]⟩)⟩
  | false=>k ⟨[],nsx++ [r.ent h],r.rest,[(⟨s.nxt,[]⟩,.own (.sl E t) zs)],.one (.own ⟨s.nxt,[]⟩)⟩
 | .one (.rd h t' d)=>bW t.sh ((qq t' (.sl E t) d).bind fun ys=>(cr b xs ys).bind fun zs=>k ⟨[],nsx,rest,[(⟨s.nxt,[]⟩,.own (.sl E t) zs)],.one (.own ⟨s.nxt,[]⟩)⟩)
 | .one (.rdn h _ t' d)=>bW t.sh ((qq t' (.sl E t) d).bind fun ys=>(cr b xs ys).bind fun zs=>k ⟨[],nsx,rest,[(⟨s.nxt,[]⟩,.own (.sl E t) zs)],.one (.own ⟨s.nxt,[]⟩)⟩)
 | _=>none
def ae1 (y:AV) (t:Ty):Ty:=match y with
 | .one (.own h)=>match rowOf h s.chs with
  | some r=>r.t
  | none=>t
 | _=>t
def aiq (dst:Option Nat) (T:TypeId) (x y:Operand):Option Y:=(td tt T).bind fun d=>d.el.bind fun E=>(td tt E).bind fun e=>e.bytes.bind fun b=>(opd s y).bind fun yv=>match opd s x with
 | some (.one (.own h))=>(rowOf h s.chs).bind fun r=>bW (Nat.beq r.E E&&Nat.beq r.t.size e.n) (agA s k r.E b r.t r.xs [r.ent h] r.rest yv)
 | some (.one (.val v))=>bW (isNil v&&Nat.beq (ae1 s yv (Xe an dst e.ty)).size e.n) (agA s k E b (ae1 s yv (Xe an dst e.ty)) [] [] s.chs yv)
 | _=>none
end
section
variable {Y:Type} {tt:TT} {an:List (Nat×Ty)} {s:Sg} {k:Res->Option Y} {P:Program} {w0:World} {o:Oper} {res:Y} {x y:Operand}
theorem OpT.nilrow {I:Hp} {ev:Operand->Value} {α:Type} {E:TypeId} {R:Rep α} {rn:List Ch} {fact:Value->Prop} {gv:Value->List Ch} (h:OpT P I w0 o ev (Ch.own (ah E R) [.slice none 0 0] ([] :List α)::rn) fact gv):OpT P I w0 o ev rn fact gv:=fun w C a=>h w C a.nil
theorem OpT.permN {I:Hp} {ev:Operand->Value} {rn a:List Ch} {fact:Value->Prop} {gv:Value->List Ch} (hp:a.Perm rn) (h:OpT P I w0 o ev rn fact gv):OpT P I w0 o ev a fact gv:=fun w C b=>h w C (b.perm (hp.append_right C))
theorem AW {r:Row} {E:TypeId} {t:Ty} {ys:List t.den} {h:Hdr} (b:qu (.sl r.E r.t) (.sl E t) r.xs=some ys):r.ent h=(h,r.ver,.own (.sl E t) ys):=by
 have ⟨e,a⟩:=qv b;obtain ⟨rfl,rfl⟩:=Ty.sl.inj e;rw[a];rfl
theorem TE {T E:TypeId} {z:Value} {n b:Nat} {t:Ty} {xs:List t.den} {nsx rest:List Ent} {D:AV} (hp:s.chs.Perm (nsx++rest)) (B:P.underlying T=some (.slice E)) (u:TZ P E z n b) (i:z.cells.size=n) (A:0<n) (p:t.size=n) (j:1<=b) (w:o.op= .call { callee:=.builtin .append,args:= #[x,y],argTypes:= #[T,T] }) (m:opd s y=some D)
  (e: ∀J θ,Fine P w0 J θ s-> ∃v,evL (envL θ s) x=v/\ ∀(rn:List Ch) (fact:Value->Prop) (F:Value->List Ch),OpT P J w0 o (evL (envL θ s)) (Ch.own (ah E t.rep) [v] xs::rn) fact F->OpT P J w0 o (evL (envL θ s)) (nsx.map (toCh P θ)++rn) fact F)
  (h:agA s k E b t xs nsx rest D=some res):Oks P w0 s o k res:=by
 unfold agA at h;split at h
 ·rename_i K;have ⟨r,L,h⟩:=bind_some h;have ⟨H,f,h⟩:=bind_some h;have ⟨C,a,h⟩:=bind_some h;obtain ⟨q,-⟩:=bK L;have G:=AW (h:=K) f;split at h
  ·rename_i d;refine ⟨_,h,good_row (hp.trans ((q.append_left nsx).trans List.perm_middle)) fun J θ g=>?_⟩;have ⟨v,c,e⟩:=e J θ g;rw[G]
   have:=KV (P:=P) (I:=J) (w0:=w0) (R:=t.rep) a (Ty.sh_ok d) (Ty.cpy d) B u i A (t.rep_size.trans p) j w c (aG (θ:=θ) m)
   exact OpT.permN (List.perm_append_comm (l₁:=[_])) (e _ _ _ this)
  ·refine ⟨_,h,good_row (rs:=[]) (by
    have:=hp.trans (q.append_left nsx)
    grind) fun J θ g=>?_⟩
   have ⟨v,c,e⟩:=e J θ g;rw[G]
   have:=ab1 (P:=P) (I:=J) (w0:=w0) (R:=t.rep) a B u i A (t.rep_size.trans p) j w c (aG (θ:=θ) m)
   have:=e _ _ _ this
   rw[List.nil_append,aU];exact this
 ·have ⟨d,h⟩:=ak h;have ⟨H,f,h⟩:=bind_some h;have ⟨C,a,h⟩:=bind_some h;refine ⟨_,h,good_row (rs:=[]) hp fun J θ g=>?_⟩;have ⟨v,c,e⟩:=e J θ g;have l:=jB f (bQ g m).2
  have:=yi (P:=P) (I:=J) (w0:=w0) (R:=t.rep) (S:=t.rep) (E':=E) a (Ty.cpy d) (t.rep_size.trans p) l B u i A (t.rep_size.trans p) j w c (aG (θ:=θ) m)
  have:=e _ _ _ this
  rw[List.append_nil] at this;exact this
 ·have ⟨d,h⟩:=ak h;have ⟨H,f,h⟩:=bind_some h;have ⟨C,a,h⟩:=bind_some h;refine ⟨_,h,good_row (rs:=[]) hp fun J θ g=>?_⟩;have ⟨v,c,e⟩:=e J θ g;have l:=jB f (bQ g m).2.1
  have:=yi (P:=P) (I:=J) (w0:=w0) (R:=t.rep) (S:=t.rep) (E':=E) a (Ty.cpy d) (t.rep_size.trans p) l B u i A (t.rep_size.trans p) j w c (aG (θ:=θ) m)
  have:=e _ _ _ this
  rw[List.append_nil] at this;exact this
 grind
theorem acA (w:TTok P tt) {T:TypeId} (u:o.op= .call { callee:=.builtin .append,args:= #[x,y],argTypes:= #[T,T] }) (h:aiq tt an s k o.dst T x y=some res):Oks P w0 s o k res:=by
 have ⟨d,B,h⟩:=bind_some h;have ⟨E,t,h⟩:=bind_some h;have ⟨e,F,h⟩:=bind_some h;have ⟨b,D,h⟩:=bind_some h;have ⟨I,q,h⟩:=bind_some h;have j:=w.get B;have g:=w.get F;have ⟨z,m,n,l⟩:=g.zero b D;have i:z.cells.size=e.n:=by rw[n,List.size_toArray,zh,g.sz]
 split at h
 ·rename_i G p;have ⟨r,H,h⟩:=bind_some h;have ⟨c,h⟩:=ak h;rw[al] at c;have f:=aw c.1;have a:=aw c.2;obtain ⟨hp,-⟩:=bK H;exact TE (nsx:=[r.ent G]) hp ((j.el E t).trans (by rw[f])) (by grind) i (by grind[Ty.size_pos]) a l u q (fun J θ A=>⟨_,aG p,fun rn fact C h=>h⟩) h
 ·rename_i v p;have ⟨c,h⟩:=ak h;rw[al] at c;have f:=pO c.1;have a:=aw c.2;refine TE (nsx:=[]) (List.Perm.refl _) (j.el E t) m i (by grind[Ty.size_pos]) a l u q (fun J θ A=>⟨_,aG p,fun rn fact C h=>?_⟩) h;rw[show (AV.one (LV.val v)).v θ= .slice none 0 0 from f] at h;exact OpT.nilrow h
 grind
end
structure Hol where
 ver:Nat
 over:Nat
 t:Ty
 d:t.den
 u:Ty
 y:u.den
 f:u.den->t.den
 i:Int
 k:Nat
 off:Nat
 lv:LV
 rest:List Ent
def Nu (h:Hdr) (chs:List Ent):Option Hol:=(pull h chs).bind fun r=>match r.1.2.2 with
 | .hole over t d u y f i k off lv=>some ⟨r.1.2.1,over,t,d,u,y,f,i,k,off,lv,r.2⟩
 | _=>none
def Hol.ent (r:Hol) (h:Hdr):Ent:=(h,r.ver,.hole r.over r.t r.d r.u r.y r.f r.i r.k r.off r.lv)
theorem Df {h:Hdr} {chs:List Ent} {r:Hol} (e:Nu h chs=some r):chs.Perm (r.ent h::r.rest):=by
 have ⟨q,a,e⟩:=bind_some e;have ⟨p,k⟩:=gf a;have ⟨⟨g,b,c⟩,rest⟩:=q;obtain rfl:g=h:=k;cases c with
 | hole over t d u y f i k off j =>
  cases ae (show some _=some r from e);exact p
 | _=>cases e
def partOf (r:Hol):Option (Bool×r.u.den×List Ent):=match r.lv with
 | .own l=>(pull l r.rest).bind fun q=>match q.1.2.2 with
  | .own u' d=>(qu u' r.u d).bind fun d=>some (Nat.beq q.1.2.1 r.ver,d,q.2)
  | _=>none
 | _=>none
theorem Lc {r:Hol} {q:Bool×r.u.den×List Ent} (h:partOf r=some q): ∃l a,r.lv= .own l/\r.rest.Perm ((l,a,.own r.u q.2.1)::q.2.2)/\(q.1=true->a=r.ver):=by
 have ⟨a,over,t,d,u,y,f,i,k,off,b,rest⟩:=r;cases b with
 | own l =>
  have ⟨e,c,h⟩:=bind_some (show (pull l rest).bind _=some q from h);grind[gf,bind_some,qu,bind,ae,qv,aw]
 | _=>cases h
def Nv (h:Hdr) (s:Sg):Option Sg:=(Nu h s.chs).bind fun r=>(partOf r).bind fun q=>match q.1 with
 | true=>some ⟨s.env,(h,r.over,.own r.t r.d)::q.2.2,s.nxt+1⟩
 | false=>some ⟨s.env,(h,s.nxt,.own r.t (r.f q.2.1))::q.2.2,s.nxt+1⟩
section
variable {P:Program} {I J:Hp} {w0 w:World} {F:Ch} {n:Nat} {θ:Th} {s s':Sg} {a:Act} {o:Oper}
theorem Sim.chs (c:Sim P I w0 F n J θ s a w) {b:List Ent} (d:St J w0 w (b.map (toCh P θ)++ [F])) (h:Newer s.nxt s.chs b) (g: ∀e∈b,okE P w0 J θ (s.nxt+1) b e):Sim P I w0 F n J θ ⟨s.env,b,s.nxt+1⟩ a w:=
 ⟨c.le,c.agr,d,fun e f=>AV.ok_same Same.rfl (Nat.le_succ _) h (c.fine.env e f) Hp.le.rfl,fun e f=>aW (c.fine.ver e f),c.fine.nd,g,c.fine.lay⟩
theorem Rh {h:Hdr} (hs:Nv h s=some s') (m:Sim P I w0 F n J θ s a w):Sim P I w0 F n J θ s' a w:=by
 have ⟨r,H,hs⟩:=bind_some hs;have ⟨q,E,hs⟩:=bind_some hs;have hp:=Df H;have ⟨l,v,A,y,D⟩:=Lc E;have k:=hp.trans (y.cons _);have g:=m.fine.chs (r.ent h) (hp.mem_iff.2 (by simp));have j:St J w0 w (Ch.own r.t.rep [hv θ h] (r.f q.2.1)::(q.2.2.map (toCh P θ)++ [F])):=by
  have C:=m.st.perm ((k.map (toCh P θ)).append_right [F]);have z:St J w0 w (Ch.own r.u.rep [hv θ l] q.2.1::Ch.gap r.t.rep [hv θ h] r.u.rep r.f (ptB (hv θ h)) (ptO (hv θ h)+(r.i.toNat*r.k+r.off)) (r.lv.v θ)::(q.2.2.map (toCh P θ)++ [F])):=C.perm (List.Perm.swap _ _ _);rw[A] at z;exact St.settle z
 have i: ∀e,e∈q.2.2->e∈s.chs:=fun e f=>k.mem_iff.2 (by grind);cases u:q.1 with
 | true =>
  rw[u] at hs;cases ae (show some _=some s' from hs);have p:=D u;have B:q.2.1=r.y:=by
   have:=(g.2.2.2.2.2 l A).2 (l,v,.own r.u q.2.1) (k.mem_iff.2 (by simp)) _ ⟨rfl,.inl ⟨p,rfl⟩⟩
   injection this with _ K
  have x:r.f q.2.1=r.d:=by rw[B];exact g.2.2.2.2.1
  rw[x] at j;have d:Newer s.nxt s.chs ((h,r.over,.own r.t r.d)::q.2.2):=fun e f G t c b=>by
   rcases az f with rfl | f
   ·obtain ⟨rfl,b⟩:=b;rcases b with ⟨rfl,rfl⟩ | b
    ·exact .inr ⟨r.ent h,hp.mem_iff.2 (by simp),rfl,.inr ⟨rfl,rfl⟩⟩
    ·exact b.elim
   grind
  refine m.chs j d fun e f=>?_;rcases az f with rfl | f
  ·exact ⟨aW g.1,aW (Nat.lt_trans g.2.2.2.1 g.2.1),trivial⟩
  ·exact gx Same.rfl (Nat.le_succ _) d (m.fine.chs e (i e f)) Hp.le.rfl
 | false =>
  rw[u] at hs;cases ae (show some _=some s' from hs);have d:Newer s.nxt s.chs ((h,s.nxt,.own r.t (r.f q.2.1))::q.2.2):=fun e f G t c b=>by
   rcases az f with rfl | f
   ·obtain ⟨rfl,b⟩:=b;rcases b with ⟨rfl,rfl⟩ | b
    ·grind
    ·exact b.elim
   grind
  refine m.chs j d fun e f=>?_;rcases az f with rfl | f
  ·exact ⟨aW g.1,ay _,trivial⟩
  ·exact gx Same.rfl (Nat.le_succ _) d (m.fine.chs e (i e f)) Hp.le.rfl
def settle:Nat->Hdr->Sg->Sg
 | 0,_,s=>s
 | m+1,h,s=>match Nu h s.chs with
  | some r=>match r.lv with
   | .own l=>match Nv h (settle m l s) with
    | some s'=>s'
    | none=>s
   | _=>s
  | none=>s
theorem DQ: ∀ {m:Nat} {h:Hdr} {s:Sg},Sim P I w0 F n J θ s a w->Sim P I w0 F n J θ (settle m h s) a w
 | 0,_,_,hS=>hS
 | m+1,h,s,hS=>by
  unfold settle;split
  ·split
   ·split
    ·rename_i b;exact Rh b (DQ hS)
    omega
   omega
  omega
end
section
variable {Y:Type} (tt:TT) (s:Sg) (k:Res->Option Y)
def TG (T:TypeId) (x y:Operand):Option Y:=(td tt T).bind fun d=>match opd s x,opd s y with
 | some (.elo h ver E t xs a i off),some (.one lv)=>(Nu h s.chs).bind fun r=>bW (Nat.beq r.k t.size&&Nat.beq r.off off && !d.agg&&Nat.beq d.n 1&&(match lv with | .own l=> !(Hdr.beq l h) | _=>true)) ((chk (i=r.i)).bind fun _=>k ⟨[],[r.ent h],r.rest,[(h,.hole r.over r.t r.d r.u r.y r.f r.i r.k r.off lv)],.any ⟨s.nxt,[]⟩⟩)
 | _,_=>none
end
theorem IV (h:Hdr):Hdr.beq h h=true:=by grind[Hdr.beq,Nat.beq_refl,DG]
section
variable {Y:Type} {tt:TT} {s:Sg} {k:Res->Option Y} {P:Program} {w0:World} {o:Oper} {res:Y} {x y:Operand}
theorem Ri (hT:TTok P tt) {T:TypeId} (X:o.op= .store T x y) (h:TG tt s k T x y=some res):Oks P w0 s o k res:=by
 have ⟨d,V,h⟩:=bind_some h;split at h
 ·rename_i b Z E t xs a i off N hx O;have ⟨r,hr,h⟩:=bind_some h;have ⟨U,h⟩:=ak h;rw[al,al,al,al] at U;have ⟨⟨⟨⟨w,q⟩,m⟩,z⟩,hc5⟩:=U;have ⟨u,L,h⟩:=bind_some h;have L:=bH L;have w:=aw w;have q:=aw q;have m:d.agg=false:=by simpa using m
  have z:=aw z;have hp:=Df hr;have B:=(hT.get V).ti;rw[m,z] at B;refine ⟨_,h,Gu hp,fun J θ D g C Q c F=>?_,fun J θ D=>?_⟩
  ·cases ax C;exact ⟨r.ent b,hp.mem_iff.2 (by simp),rfl,.inr F⟩
  ·have j:=ma D hp;have n:=bQ D O;have K:evL (envL θ s) x= .pointer (some ⟨ptB (hv θ b),ptO (hv θ b)+(r.i.toNat*r.k+r.off),none⟩):=by
    rw[aG (θ:=θ) hx,w,q,<-L];rfl
   have W: ∀u,hv (upd θ s.nxt u) b=hv θ b:=fun u=>a7 Same.upd j.1
   have:=IU (P:=P) (I:=J) (w0:=w0) (R:=r.t.rep) (S:=r.u.rep) (cs:=[hv θ b]) (f:=r.f) (v:=r.lv.v θ) B X K (aG (θ:=θ) O) (LV.one n)
   refine OpT.weak this (fun v H=>⟨ay _,dQ,fun g C=>?_⟩) (fun v H=>?_)
   ·cases ax C;refine ⟨aW j.1,ay _,LV.ok_same Same.upd (Nat.le_succ _) n Hp.le.rfl,Nat.lt_trans j.2.2.2.1 j.2.1,j.2.2.2.2.1,fun l hl=>?_⟩;have M:l≠b:=fun e=>by
     grind[Hdr.beq,IV]
    refine ⟨ay _,fun e A c F=>?_⟩;rcases aN A with A | A
    ·obtain ⟨g,C,rfl⟩:=List.mem_map.1 A;cases ax C;exact absurd F.1.symm M
    ·have A:e∈s.chs:=hp.mem_iff.2 (bp _ (by grind));have p:=D.chs e A;have ⟨h',v',c'⟩:=e;rcases F.2 with ⟨G,h2⟩ | G
     ·have:=p.2.1
      grind
     ·cases c' with
      | hole over _ _ _ _ _ _ _ _ _ =>
       have:=Nat.lt_trans p.2.2.2.1 p.2.1
       rw[G.1] at this;grind
      | _=>exact G.elim
   ·show [Ch.gap _ [hv θ b] _ _ (ptB (hv θ b)) (ptO (hv θ b)+_) (N.v θ)] = [Ch.gap _ [hv (upd θ s.nxt v) b] _ _ (ptB (hv (upd θ s.nxt v) b)) (ptO (hv (upd θ s.nxt v) b)+_) (N.v (upd θ s.nxt v))];rw[W,LV.v_same Same.upd n]
 grind
end
inductive PM
 | rd (t:Ty)
 | ow (t:Ty)
 | fn (ps rs:List Ty)
 | cap (T:TypeId) (t:Ty)
 | capf (T:TypeId) (ps rs:List Ty)
 | ptr (T:TypeId) (t:Ty)
 | eat (t:Ty)
 | fk (g:Nat)
 | crs (T:TypeId) (E:TypeId)
 | kb (g:Nat) (T:TypeId) (t:Ty)
 | kc (g:Nat)
 deriving DecidableEq
def PM.den:PM->Type
 | .rd t=>t.den
 | .ow t=>t.den
 | .fn ps rs=>cur ps (Option (dens rs))
 | .cap _ t=>t.den
 | .capf _ ps rs=>cur ps (Option (dens rs))
 | .ptr _ t=>t.den
 | .eat t=>t.den
 | .fk _=>Unit
 | .crs _ _=>List Int×Int×Int
 | .kb _ _ t=>t.den
 | .kc _=>Unit
def denP:List PM->Type
 | [] =>Unit
 | p::ps=>p.den×denP ps
def curP:List PM->Type->Type
 | [],R=>R
 | p::ps,R=>p.den->curP ps R
def appP {R:Type} :(ps:List PM)->curP ps R->denP ps->R
 | [],f,_=>f
 | _::ps,f,d=>appP ps (f d.1) d.2
def PM.out:PM->List Ty
 | .ow t=>[t]
 | .ptr _ t=>[t]
 | .crs _ _=>[.prod (.int .i64) (.int .i64)]
 | .kb _ _ t=>[t]
 | _=>[]
def outs:List PM->List Ty
 | [] =>[]
 | p::ps=>match p with
  | .ow t=>t::outs ps
  | .ptr _ t=>t::outs ps
  | .crs _ _=>.prod (.int .i64) (.int .i64)::outs ps
  | .kb _ _ t=>t::outs ps
  | _=>outs ps
def hFst:(ts us:List Ty)->kN (ts++us)->kN ts
 | [],_,_=>()
 | _::ts,us,d=>(d.1,hFst ts us d.2)
def hSnd:(ts us:List Ty)->kN (ts++us)->kN us
 | [],_,d=>d
 | _::ts,us,d=>hSnd ts us d.2
structure FS where
 ps:List PM
 rs:List Ty
 m:curP ps (Option (dens (rs++outs ps)))
 cl:Option (TypeId×Nat)
theorem ae2:M6.Dp:=DD
def AX (P:Program) (k:FuncId) (E b:Nat):Prop:=Enters P k/\ ∀(E':TypeId) (I:Hp) (w0:World) (v:Value) (xs zs:List Raw),Lay P I->(ah E' M6).rd I [v] xs->cr b [] xs=some zs->Con P k #[v] I w0 [] (fun _=>True) (fun r=>[Ch.own (ah E M6) [r] zs])
abbrev FT:=List (Nat×FS)
def fs (ft:FT) (k:Nat):Option FS:=match ft with
 | [] =>none
 | (j,f)::l=>if Nat.beq j k then some f else fs l k
def ahc (P:Program) (w0:World) (J:Hp) (γ:Value):(p:PM)->Value->p.den->Prop
 | .rd t,v,d=> ∃cs,Lds t.isProd cs v/\t.rep.rd J cs d
 | .ow t,v,_=>qw v=t.isProd
 | .fn a b,v,d=>FnOk P w0 J v a b d
 | .cap T t,v,d=> ∃b,v= .pointer (some ⟨b,0,none⟩)/\ ∃cells:List Value,J b=some (.cells cells.toArray T (0,0))/\t.rep.rd J cells d
 | .capf T x y,v,d=> ∃b,v= .pointer (some ⟨b,0,none⟩)/\ ∃u:Value,J b=some (.cells [u].toArray T (0,0))/\FnOk P w0 J u x y d
 | .ptr T t,v,_=> ∃b,v= .pointer (some ⟨b,0,none⟩)
 | .eat t,v,_=>qw v=t.isProd
 | .fk g,v,_=>v= .func (.func g) #[] #[]
 | .crs _ E,v,d=>(∃b,v= .pointer (some ⟨b,0,none⟩))/\(Ty.sl E (.int .u8)).rep.rd J [γ] d.1
 | .kb g _ _,v,_=>v= .func (.func g) #[] #[γ] /\ ∃b,γ= .pointer (some ⟨b,0,none⟩)
 | .kc g,v,_=>v= .func (.func g) #[] #[γ] /\ ∃b,γ= .pointer (some ⟨b,0,none⟩)
def PArgs (P:Program) (w0:World) (J:Hp) (γ:Value):(ps:List PM)->List Value->denP ps->Prop
 | [],vs,_=>vs= []
 | p::ps,vs,d=> ∃v r,vs=v::r/\ahc P w0 J γ p v d.1/\PArgs P w0 J γ ps r d.2
def owCh (γ:Value):(ps:List PM)->List Value->denP ps->List Ch
 | p::ps,v::vs,d=>match p,d with
  | .ow t,d=>Ch.own t.rep (nG t.isProd v) d.1::owCh γ ps vs d.2
  | .ptr T t,d=>Ch.box (bk v) T t.rep d.1::owCh γ ps vs d.2
  | .eat t,d=>Ch.own t.rep (nG t.isProd v) d.1::owCh γ ps vs d.2
  | .rd _,d=>owCh γ ps vs d.2
  | .fn _ _,d=>owCh γ ps vs d.2
  | .cap _ _,d=>owCh γ ps vs d.2
  | .capf _ _ _,d=>owCh γ ps vs d.2
  | .fk _,d=>owCh γ ps vs d.2
  | .crs T _,d=>Ch.blk (bk v) [γ,.int .i64 d.1.2.1,.int .i64 d.1.2.2] T::owCh γ ps vs d.2
  | .kb _ T t,d=>Ch.box (bk γ) T t.rep d.1::owCh γ ps vs d.2
  | .kc _,d=>owCh γ ps vs d.2
 | _,_,_=>[]
def outCh (γ:Value):(ps:List PM)->List Value->kN (outs ps)->List Ch
 | p::ps,v::vs,d=>match p,d with
  | .ow t,d=>Ch.own t.rep (nG t.isProd v) d.1::outCh γ ps vs d.2
  | .ptr T t,d=>Ch.box (bk v) T t.rep d.1::outCh γ ps vs d.2
  | .eat _,d=>outCh γ ps vs d
  | .rd _,d=>outCh γ ps vs d
  | .fn _ _,d=>outCh γ ps vs d
  | .cap _ _,d=>outCh γ ps vs d
  | .capf _ _ _,d=>outCh γ ps vs d
  | .fk _,d=>outCh γ ps vs d
  | .crs T _,d=>Ch.blk (bk v) [γ,.int .i64 d.1.1,.int .i64 d.1.2] T::outCh γ ps vs d.2
  | .kb _ T t,d=>Ch.box (bk γ) T t.rep d.1::outCh γ ps vs d.2
  | .kc _,d=>outCh γ ps vs d
 | _,_,_=>[]
def air (P:Program) (k:FuncId):Prop:= ∀(w:World) (g h oa ob la lb ca cb:Nat) (curA curB:Array Value) (tA tB:TypeId),g≠h->w.heap[g]? =some (.cells curA tA (0,0))->w.heap[h]? =some (.cells curB tB (0,0))->0<curB.size->(callFunc k #[.slice (some ⟨g,oa,none⟩) la ca,.slice (some ⟨h,ob,none⟩) lb cb]).run P w= .ok (.value (.bool false)) w
def ae3 (P:Program) (k:FuncId) (T f:Nat):Prop:=Enters P k/\ ∀(I:Hp) (w0:World) (c d:List Value),Con P k #[.agg c.toArray,.agg d.toArray] I w0 []
 (fun v=> ∃b1 b2,v= .func (.func f) #[] #[.pointer (some ⟨b1,0,none⟩),.pointer (some ⟨b2,0,none⟩)]) (fun v=>[Ch.emp,Ch.blk (bk (vg v [0])) c T,Ch.blk (bk (vg v [1])) d T])
def FS.ov (f:FS):Bool:=match f.cl with
 | some q=>Nat.beq q.2 0 || Nat.beq q.2 9
 | none=>false
def ClOk (P:Program) (k:FuncId) (E b:Nat):Prop:=(Nat.beq b 0=true->air P k)/\(Nat.beq b 0=false->Nat.beq b 7=false->Nat.ble 1000 b=false->Nat.beq b 9=false->AX P k E b)/\(Nat.ble 1000 b=true->ae3 P k E (b - 1000))
def BV:(ts:List Ty)->kN ts->Value->Prop
 | [.sl _ t],d,v=>List.length (α:=t.den) d.1=0->v= .slice none 0 0
 | _,_,_=>True
def NilOk (P : Program) (k : FuncId) (f : FS) : Prop := ∀ w0 J γ vs (d : denP f.ps) r, Lay P J -> PArgs P w0 J γ f.ps vs d -> appP f.ps f.m d = some r ->
    Con P k vs.toArray J w0 (owCh γ f.ps vs d) (fun v => resFa f.rs v /\ BV f.rs (hFst f.rs (outs f.ps) (toH _ r)) v) (fun v => resGv f.rs (hFst f.rs (outs f.ps) (toH _ r)) v ++ outCh γ f.ps vs (hSnd f.rs (outs f.ps) (toH _ r)))
def acB:(ts:List Ty)->kN ts->Option (List Int)
 | [],_=>some []
 | .int .i64::ts,d=>(acB ts d.2).map fun l=>d.1::l
 | _::_,_=>none
def NewOk (P : Program) (k : FuncId) (T : Nat) (f : FS) : Prop := Enters P k /\ ∀ w0 J γ vs (d : denP f.ps) r ns, Lay P J -> PArgs P w0 J γ f.ps vs d -> appP f.ps f.m d = some r -> acB (f.rs ++ outs f.ps) (toH _ r) = some ns ->
    Con P k vs.toArray J w0 [] (fun v => ∃ b, v = .pointer (some ⟨b, 0, none⟩)) (fun v => [Ch.blk (bk v) (vs ++ ns.map (Value.int .i64)) T])
structure FOk (P:Program) (k:FuncId) (f:FS):Prop where
 cl: ∀q,f.cl=some q->ClOk P k q.1 q.2/\(Nat.beq q.2 7=true->NilOk P k f)/\(Nat.beq q.2 9=true->NewOk P k q.1 f)
 en:f.ov=false->Enters P k
 con:f.ov=false-> ∀w0 J γ vs (d:denP f.ps) r,Lay P J->PArgs P w0 J γ f.ps vs d->appP f.ps f.m d=some r->
  Con P k vs.toArray J w0 (owCh γ f.ps vs d) (resFa f.rs) (fun v=>resGv f.rs (hFst f.rs (outs f.ps) (toH _ r)) v++outCh γ f.ps vs (hSnd f.rs (outs f.ps) (toH _ r)))
def FTok (P:Program):FT->Prop
 | [] =>True
 | (k,f)::l=>FOk P k f/\FTok P l
theorem FTok.get {P:Program} {k:Nat} {f:FS} : ∀ {a:FT},FTok P a->fs a k=some f->FOk P k f
 | (j,x)::l,⟨h1,h2⟩,h=>by
  unfold fs at h;split at h
  ·rename_i b
   have:=aw b
   subst this;rw[<-ae h];exact h1
  ·exact FTok.get h2 h
def Ty.dp:Ty->Bool
 | .prod a b=>a.dp&&b.dp
 | .sl _ t=>t.dp
 | .fro _=>false
 | .bag _=>false
 | .wr t=>t.dp
 | .tree _ _ _=>false
 | _=>true
theorem Ty.dp_ok: ∀ {t:Ty},t.dp=true->t.rep.Dp
 | .int _,_=>DD
 | .bool,_=>abW
 | .str,_=>aeM
 | .raw,_=>DD (α:=Raw) (enc:=(·.1)) (h1:=(·.2))
 | .prod a b,h=>by
  have h:(a.dp&&b.dp)=true:=h;rw[al] at h;exact abX (dp_ok h.1) (dp_ok h.2)
 | .sl _ t,h=>IF (dp_ok (show t.dp=true from h))
 | .fro _,h=>by cases h
 | .bag _,h=>by cases h
 | .wr t,h=>dp_ok (t:=t) h
 | .tree _ _ _,h=>by cases h
def oq (id:Nat) (pth:Nat->List Nat):(t:Ty)->t.den->Nat->List LV
 | .int k,d,_=>[.val (.int k d)]
 | .bool,d,_=>[.val (.bool d)]
 | .str,d,_=>[.val (.string d)]
 | .raw,d,_=>[.val d.1]
 | .prod a b,d,j=>oq id pth a d.1 j++oq id pth b d.2 (j+a.size)
 | .sl E t,d,j=>[.rd ⟨id,pth j⟩ (.sl E t) d]
 | .fro t,d,j=>oq id pth t d j
 | .bag t,d,j=>oq id pth t d j
 | .wr t,d,j=>oq id pth t d j
 | .tree T E t,d,j=>[.rd ⟨id,pth j⟩ (.tree T E t) d]
theorem kl {P:Program} {w0:World} {J:Hp} {θ:Th} {id n:Nat} {pth:Nat->List Nat} (e:id<n): ∀(t:Ty) (d:t.den) (j:Nat) (cs:List Value),t.rep.rd J cs d->(∀i v,cs[i]? =some v->vg (θ id) (pth (j+i))=v)->
  (∀x∈oq id pth t d j,x.ok P w0 J θ n)/\(oq id pth t d j).map (·.v θ)=cs
 | .int k,d,j,cs,h,_=>⟨fun x c=>by cases ax c;rfl,h.symm⟩
 | .bool,d,j,cs,h,_=>⟨fun x c=>by cases ax c;rfl,h.symm⟩
 | .str,d,j,cs,h,_=>⟨fun x c=>by cases ax c;rfl,h.symm⟩
 | .raw,d,j,cs,h,_=>⟨fun x c=>by cases ax c;exact d.2,h.symm⟩
 | .prod a b,d,j,cs,h,hc=>by
  obtain ⟨o,m,rfl,g,q⟩:=h;have r:=(Rep.rd_len _ g).trans a.rep_size;obtain ⟨l,w⟩:=kl e a d.1 j o g fun i v hv=>hc i v (by grind);obtain ⟨p,s⟩:=kl e b d.2 (j+a.size) m q fun i v hv=>by
   have:=hc (a.size+i) v (by grind)
   rwa [show j+a.size+i=j+(a.size+i) from by omega]
  refine ⟨fun x c=>?_,?_⟩
  ·rcases aN c with c | c
   ·exact l x c
   ·exact p x c
  grind[oq]
 | .sl E t,d,j,cs,h,hc=>by
  obtain ⟨u,rfl⟩:=List.length_eq_one_iff.1 (Rep.rd_len _ h);have f:hv θ ⟨id,pth j⟩=u:=by
   have:=hc 0 u rfl
   rwa [Nat.add_zero] at this
  refine ⟨fun x c=>?_,?_⟩
  ·cases ax c;exact ⟨e,by grind⟩
  ·show [hv θ ⟨id,pth j⟩] = [u];rw[f]
 | .fro t,d,j,cs,h,hc=>kl e t d j cs h hc
 | .bag t,d,j,cs,h,hc=>kl e t d j cs h hc
 | .wr t,d,j,cs,h,hc=>kl e t d j cs h hc
 | .tree T E t,d,j,cs,h,hc=>by
  obtain ⟨u,rfl⟩:=List.length_eq_one_iff.1 (Rep.rd_len _ h);have f:hv θ ⟨id,pth j⟩=u:=by
   have:=hc 0 u rfl
   rwa [Nat.add_zero] at this
  refine ⟨fun x c=>?_,?_⟩
  ·cases ax c;exact ⟨e,by grind⟩
  ·show [hv θ ⟨id,pth j⟩] = [u];rw[f]
def jl (id:Nat) (pth:Nat->List Nat):(t:Ty)->t.den->Nat->List LV
 | .int k,d,_=>[.val (.int k d)]
 | .bool,d,_=>[.val (.bool d)]
 | .str,d,_=>[.val (.string d)]
 | .raw,d,_=>[.val d.1]
 | .prod a b,d,j=>jl id pth a d.1 j++jl id pth b d.2 (j+a.size)
 | .sl _ _,_,j=>[.own ⟨id,pth j⟩]
 | .fro t,d,j=>oq id pth t d j
 | .bag t,_,j=>(List.range t.size).map fun i=>.own ⟨id,pth (j+i)⟩
 | .wr t,d,j=>jl id pth t d j
 | .tree _ _ _,_,j=>[.own ⟨id,pth j⟩]
def ug (id:Nat) (pth:Nat->List Nat):(t:Ty)->t.den->Nat->List (Hdr×Chk)
 | .prod a b,d,j=>ug id pth a d.1 j++ug id pth b d.2 (j+a.size)
 | .wr t,d,j=>ug id pth t d j
 | .tree T E t,d,j=>[(⟨id,pth j⟩,.own (.tree T E t) d)]
 | .sl E t,d,j=>[(⟨id,pth j⟩,.own (.sl E t) d)]
 | _,_,_=>[]
section
variable {P:Program} {I J:Hp} {w0 w:World} {C:List Ch} {θ:Th} {n m:Nat}
theorem PA {α β:Type} {A:Rep α} {B:Rep β} {cs:List Value} {x:α×β} (h:St I w0 w (Ch.own (aL A B) cs x::C)): ∃c d,cs=c++d/\c.length=A.size/\St I w0 w (Ch.own A c x.1::Ch.own B d x.2::C):=by
 obtain ⟨i,k,F,⟨G,K,rfl,⟨c,d,f,a,rfl,rfl,b,j⟩,e⟩,g,l⟩:=h;exact ⟨c,d,rfl,A.own_len b,i,k,(f++a)++K,⟨f,a++K,by grind,b,a,K,rfl,j,e⟩,g,l⟩
theorem zm {α:Type} {enc:α->Value} {h1: ∀a,(enc a).oneCell'=true} {cs:List Value} {x:α} (h:St I w0 w (Ch.own (nA α enc h1) cs x::C)):cs= [enc x] /\St I w0 w C:=by
 obtain ⟨h1,d,F,⟨G,K,rfl,⟨rfl,k⟩,e⟩,b,c⟩:=h;exact ⟨k,h1,d,K,e,b,c⟩
theorem km {id:Nat} {pth:Nat->List Nat} (l:id<n): ∀(t:Ty) (d:t.den) (j:Nat) (cs:List Value) (C:List Ch),(∀i v,cs[i]? =some v->vg (θ id) (pth (j+i))=v)->St J w0 w (Ch.own t.rep cs d::C)->
  (∀x∈jl id pth t d j,x.ok P w0 J θ n)/\(jl id pth t d j).map (·.v θ)=cs/\(∀g∈ug id pth t d j,g.1.id=id)/\St J w0 w (((ug id pth t d j).map fun g=>toCh P θ (g.1,m,g.2))++C)
 | .int k,d,j,cs,C,_,h=>by
  obtain ⟨rfl,p⟩:=zm h;exact ⟨fun x f=>by cases ax f;rfl,rfl,fun g c=>(by cases c),p⟩
 | .bool,d,j,cs,C,_,h=>by
  obtain ⟨rfl,p⟩:=zm (h1:=fun _=>rfl) h;exact ⟨fun x f=>by cases ax f;rfl,rfl,fun g c=>(by cases c),p⟩
 | .str,d,j,cs,C,_,h=>by
  obtain ⟨rfl,p⟩:=zm (h1:=fun _=>rfl) h;exact ⟨fun x f=>by cases ax f;rfl,rfl,fun g c=>(by cases c),p⟩
 | .raw,d,j,cs,C,_,h=>by
  obtain ⟨rfl,p⟩:=zm (α:=Raw) (enc:=(·.1)) (h1:=(·.2)) h;exact ⟨fun x f=>by cases ax f;exact d.2,rfl,fun g c=>(by cases c),p⟩
 | .prod a b,d,j,cs,C,hc,h=>by
  obtain ⟨Q,O,rfl,q,h⟩:=PA h;rw[a.rep_size] at q;have ⟨H,L,X,R⟩:=km l a d.1 j Q _ (fun i v hv=>hc i v (by grind)) h;obtain ⟨W,U,V,N⟩:=km l b d.2 (j+a.size) O _ (fun i v hv=>by
   have:=hc (a.size+i) v (by grind)
   rwa [show j+a.size+i=j+(a.size+i) from by omega]) (R.perm List.perm_middle)
  refine ⟨fun x f=>?_,?_,fun g c=>?_,?_⟩
  ·rcases aN f with f | f
   ·grind
   grind
  ·grind[jl]
  ·rcases aN c with c | c
   ·grind
   grind
  ·show St J w0 w (((ug id pth a d.1 j++ug id pth b d.2 (j+a.size)).map _)++C);refine N.perm ?_;grind[aD,List.perm_append_comm_assoc]
 | .sl E t,d,j,cs,C,hc,h=>by
  have o: ∃u,cs= [u] /\u.oneCell'=true:=by
   obtain ⟨h1,r,F,⟨G,K,rfl,k,e⟩,s,y⟩:=h;have q:=(Ty.sl E t).rep.own_len k;obtain ⟨u,rfl⟩:=List.length_eq_one_iff.1 q;exact ⟨u,rfl,(Ty.sl E t).rep.own_one k u (by simp)⟩
  obtain ⟨u,rfl,h1⟩:=o;have B:hv θ ⟨id,pth j⟩=u:=by
   have:=hc 0 u rfl
   rwa [Nat.add_zero] at this
  refine ⟨fun x f=>?_,?_,fun g c=>?_,?_⟩
  ·cases ax f;exact ⟨l,by grind⟩
  ·show [hv θ ⟨id,pth j⟩] = [u];rw[B]
  ·cases ax c;rfl
  ·show St J w0 w (Ch.own _ [hv θ ⟨id,pth j⟩] d::C);grind
 | .fro t,d,j,cs,C,hc,h=>by
  obtain ⟨h1,r,F,⟨G,K,rfl,⟨rfl,k⟩,e⟩,s,y⟩:=h;obtain ⟨H,L⟩:=kl (J:=J) l t d j cs k hc;exact ⟨H,L,fun g c=>(by cases c),h1,r,K,e,s,y⟩
 | .wr t,d,j,cs,C,hc,hs=>km l t d j cs C hc hs
 | .bag t,d,j,cs,C,hc,h=>by
  obtain ⟨h1,r,F,⟨G,K,rfl,k,e⟩,s,y⟩:=h;have q:=((Ty.bag t).rep.own_len k).trans t.rep_size;have S:=(Ty.bag t).rep.own_one k;have z:St J w0 w C:=⟨h1,r,K,e,(List.nodup_append.1 s).2.1,fun b M=>y b (bw _ M)⟩;have A: ∀i (D:i<cs.length),hv θ ⟨id,pth (j+i)⟩=cs[i]:=fun i D=>hc i _ (List.getElem?_eq_getElem D);refine ⟨fun x f=>?_,?_,fun g c=>(by cases c),z⟩
  ·obtain ⟨i,D,rfl⟩:=List.mem_map.1 f;exact ⟨l,by grind⟩
  ·show ((List.range t.size).map fun i=>LV.own ⟨id,pth (j+i)⟩).map (·.v θ)=cs;rw[List.map_map,<-q];refine List.ext_getElem (by simp) fun i h1 r=>?_;rw[List.getElem_map,List.getElem_range];exact A i r
 | .tree T E t,d,j,cs,C,hc,h=>by
  have o: ∃u,cs= [u] /\u.oneCell'=true:=by
   obtain ⟨h1,r,F,⟨G,K,rfl,k,e⟩,s,y⟩:=h;have q:=(Ty.tree T E t).rep.own_len k;obtain ⟨u,rfl⟩:=List.length_eq_one_iff.1 q;exact ⟨u,rfl,(Ty.tree T E t).rep.own_one k u (by simp)⟩
  obtain ⟨u,rfl,h1⟩:=o;have B:hv θ ⟨id,pth j⟩=u:=by
   have:=hc 0 u rfl
   rwa [Nat.add_zero] at this
  refine ⟨fun x f=>?_,?_,fun g c=>?_,?_⟩
  ·cases ax f;exact ⟨l,by grind⟩
  ·show [hv θ ⟨id,pth j⟩] = [u];rw[B]
  ·cases ax c;rfl
  ·show St J w0 w (Ch.own _ [hv θ ⟨id,pth j⟩] d::C);grind
end
def Rj (agg:Bool) (pre:List Nat):Nat->List Nat:=match agg with
 | true=>fun j=>pre++ [j]
 | false=>fun _=>pre
def mA (id:Nat) (pre:List Nat) (t:Ty) (d:t.den):Bool×List LV:=(t.isProd,jl id (Rj t.isProd pre) t d 0)
def nM (id:Nat) (pre:List Nat) (t:Ty) (d:t.den):List (Hdr×Chk):=ug id (Rj t.isProd pre) t d 0
def Ld (id:Nat):(i:Nat)->(ts:List Ty)->kN ts->List (Bool×List LV)
 | _,[],_=>[]
 | i,t::ts,d=>mA id [i] t d.1::Ld id (i+1) ts d.2
def BW (id:Nat):(i:Nat)->(ts:List Ty)->kN ts->List (Hdr×Chk)
 | _,[],_=>[]
 | i,t::ts,d=>nM id [i] t d.1++BW id (i+1) ts d.2
def TH (y:Bool×List LV):AV:=match y with
 | (true,l)=>.agg l
 | (false,[x])=>.one x
 | _=>.und
def Nw (id:Nat):(ts:List Ty)->kN ts->AV
 | [t],d=>TH (mA id [] t d.1)
 | ts,d=>.tup (Ld id 0 ts d)
def zn (id:Nat):(ts:List Ty)->kN ts->List (Hdr×Chk)
 | [t],d=>nM id [] t d.1
 | ts,d=>BW id 0 ts d
theorem PB: ∀p:List Nat,vg undef p=undef
 | [] =>rfl
 | i::l=>by
  exact PB l
theorem PC: ∀(p q:List Nat) (v:Value),vg v (p++q)=vg (vg v p) q
 | [],q,v=>by rfl
 | i::p,q,v=>by
  cases v with
  | tuple a=>exact PC p q _
  | agg cs=>exact PC p q _
  | func _ _ cs=>exact PC p q _
  | _=>exact (PB q).symm
theorem aaD {cs:Array Value} {j:Nat} {v:Value} (h:cs.toList[j]? =some v):vg (.agg cs) [j] =v:=by
 show cs.getD j undef=v;simp_all
theorem Ty.size_one: ∀ {t:Ty},t.isProd=false->t.size=1
 | .int _,_=>rfl
 | .bool,_=>rfl
 | .str,_=>rfl
 | .raw,_=>rfl
 | .prod _ _,h=>by cases h
 | .sl _ _,_=>rfl
 | .fro t,h=>Ty.size_one (t:=t) h
 | .wr _,h=>by cases h
 | .tree _ _ _,_=>rfl
 | .bag t,h=>Ty.size_one (t:=t) h
theorem vf {id:Nat} {pth:Nat->List Nat} : ∀ {t:Ty} {d:t.den} {j:Nat},t.isProd=false->(oq id pth t d j).length=1
 | .int _,_,_,_=>rfl
 | .bool,_,_,_=>rfl
 | .str,_,_,_=>rfl
 | .raw,_,_,_=>rfl
 | .prod _ _,_,_,h=>by cases h
 | .sl _ _,_,_,_=>rfl
 | .fro t,d,j,h=>vf (t:=t) h
 | .bag t,d,j,h=>vf (t:=t) h
 | .wr _,_,_,h=>by cases h
 | .tree _ _ _,_,_,_=>rfl
theorem vh {id:Nat} {pth:Nat->List Nat} {t:Ty} {d:t.den} {j:Nat} (h1:t.isProd=false):(jl id pth t d j).length=1:=by
 cases t with
 | prod a b=>cases h1
 | fro t=>exact vf (t:=t) h1
 | wr t=>cases h1
 | bag t =>
  show ((List.range t.size).map _).length=1;rw[List.length_map,List.length_range];exact Ty.size_one h1
 | _=>rfl
def Le:List Ty->Bool
 | [] =>true
 | t::ts=>t.dp&&Le ts
section
variable {P:Program} {I J:Hp} {w0 w:World} {C:List Ch} {θ:Th} {n m:Nat}
theorem IW {chs:List Ent} : ∀y:Bool×List LV,(y.1=false->y.2.length=1)->(∀x∈y.2,x.ok P w0 J θ n)->(TH y).ok P w0 J θ n chs/\(TH y).v θ=mu θ y:=by
 rintro ⟨b,l⟩ c a;cases b with
 | true=>exact ⟨a,rfl⟩
 | false =>
  obtain ⟨x,rfl⟩:=List.length_eq_one_iff.1 (c rfl);exact ⟨a x (by simp),rfl⟩
theorem zo {id:Nat} {pre:List Nat} (a:id<n) {t:Ty} {d:t.den} {u:Value} (c:hv θ ⟨id,pre⟩=u) (f:qw u=t.isProd) (h:St J w0 w (Ch.own t.rep (nG t.isProd u) d::C)) :
  (∀x∈(mA id pre t d).2,x.ok P w0 J θ n)/\(mA id pre t d).2.map (·.v θ)=nG t.isProd u/\mu θ (mA id pre t d)=u/\(∀g∈nM id pre t d,g.1.id=id)/\St J w0 w (((nM id pre t d).map fun g=>toCh P θ (g.1,m,g.2))++C):=by
 have c:vg (θ id) pre=u:=c;cases b:t.isProd with
 | true =>
  rw[b] at f h;cases u with
  | agg j =>
   have ⟨o,e,l,k⟩:=km (P:=P) (m:=m) (θ:=θ) (pth:=Rj true pre) a t d 0 j.toList C (fun i v hv=>by
    show vg (θ id) (pre++ [0+i])=v;simp_all[PC,Nat.zero_add,aaD]) h
   refine ⟨by grind[mA],by unfold mA;rw[b];exact e,?_,by grind[nM],by grind[nM]⟩;simp_all[mA,mu,jl,Rj]
  | _=>cases f
 | false =>
  rw[b] at f h;have ⟨o,e,l,k⟩:=km (P:=P) (m:=m) (θ:=θ) (pth:=Rj false pre) a t d 0 [u] C (fun i v hv=>by
   cases i with
   | zero=>exact c.trans (by grind)
   | succ i=>grind) h
  refine ⟨by grind[mA],by unfold mA;rw[b];exact e,?_,by grind[nM],by grind[nM]⟩;grind[mA,mu,jl,Rj,undef,List.cons.inj]
theorem PD {id:Nat} (a:id<n) {vs:Array Value} (e:θ id= .tuple vs): ∀(ts:List Ty) (i:Nat) (d:kN ts) (C:List Ch),(∀j t,ts[j]? =some t->qw (vs.getD (i+j) undef)=t.isProd)->St J w0 w (AS i ts d (.tuple vs)++C)->
  (∀y∈Ld id i ts d,∀x∈y.2,x.ok P w0 J θ n)/\(Ld id i ts d).map (mu θ)=(List.range' i ts.length).map (fun j=>vs.getD j undef)/\(∀g∈BW id i ts d,g.1.id=id)/\St J w0 w (((BW id i ts d).map fun g=>toCh P θ (g.1,m,g.2))++C)
 | [],i,d,C,_,h=>⟨fun y c=>(by cases c),rfl,fun g b=>(by cases b),h⟩
 | t::ts,i,d,C,ha,h=>by
  obtain ⟨f,-,p,v,o⟩:=zo (P:=P) (m:=m) (θ:=θ) (pre:=[i]) (u:=vs.getD i undef) a (by show vg (θ id) [i] =_;rw[e];rfl) (ha 0 t rfl) h;have ⟨s,l,r,k⟩:=PD a e ts (i+1) d.2 (((nM id [i] t d.1).map fun g=>toCh P θ (g.1,m,g.2))++C) (fun j t q=>by
   have:=ha (j+1) t q
   grind) (o.perm (List.perm_append_comm_assoc _ _ _))
  refine ⟨fun y c=>?_,?_,fun g b=>?_,?_⟩
  ·rcases az c with rfl | c
   ·exact f
   grind
  ·show mu θ _::(Ld id (i+1) ts d.2).map _=_;rw[p,l];rfl
  ·rcases aN b with b | b
   ·grind
   grind
  ·show St J w0 w (((nM id [i] t d.1++BW id (i+1) ts d.2).map _)++C);refine k.perm ?_;grind[aD,List.perm_append_comm_assoc]
theorem PE {id:Nat} (f:id<n) {chs:List Ent} {v:Value} (s:θ id=v): ∀(ts:List Ty) (d:kN ts) (C:List Ch),resFa ts v->St J w0 w (resGv ts d v++C)->
  (Nw id ts d).ok P w0 J θ n chs/\(Nw id ts d).v θ=v/\(∀g∈zn id ts d,g.1.id=id)/\St J w0 w (((zn id ts d).map fun g=>toCh P θ (g.1,m,g.2))++C):=by
 intro ts d C c h;have a: ∀b,v= .tuple b->b.size=ts.length->(∀i t,ts[i]? =some t->qw (b.getD i undef)=t.isProd)->St J w0 w (AS 0 ts d v++C)->
   (AV.tup (Ld id 0 ts d)).ok P w0 J θ n chs/\(AV.tup (Ld id 0 ts d)).v θ=v/\(∀g∈BW id 0 ts d,g.1.id=id)/\St J w0 w (((BW id 0 ts d).map fun g=>toCh P θ (g.1,m,g.2))++C):=by
  rintro b rfl y A h;have ⟨q,u,p,o⟩:=PD (P:=P) (m:=m) f s ts 0 d C (fun j t B=>by grind) h;refine ⟨q,?_,p,o⟩;show Value.tuple ((Ld id 0 ts d).map (mu θ)).toArray=_;congr 1;apply Array.ext';apply List.ext_getElem?;intro i;by_cases D:i<ts.length
  ·simp_all
  ·grind
 match ts,d,c,h,a with
 | [t],d,c,h,_ =>
  obtain ⟨q,-,u,p,o⟩:=zo (P:=P) (m:=m) (θ:=θ) (pre:=[]) f (show hv θ ⟨id,[]⟩=v from s) c h;obtain ⟨z,x⟩:=IW _ (fun e=>vh e) q;exact ⟨z,x.trans u,p,o⟩
 | [],d,c,h,a=>have ⟨b,k,r,l⟩:=c;exact a b k r l h
 | _::_::_,d,c,h,a=>have ⟨b,k,r,l⟩:=c;exact a b k r l h
end
section
variable {P:Program} {I:Hp} {w0 w:World} {o:Oper} {ev:Operand->Value}
theorem TJ {ls rn cs:List Ch} (h:St I w0 w (ls++(rn++cs))): ∃J,I.le J/\(∀ {α:Type} (R:Rep α) (v:List Value) (a:α),Ch.own R v a∈ls->R.rd J v a)/\(∀g l E,Ch.blk g l E∈ls->J g=some (.cells l.toArray E (0,0)))/\St J w0 w (rn++ [Ch.fr I cs]) /\
  ∀n r,Ch.deeps r->St J w0 n (r++ [Ch.fr I cs])->St I w0 n (r++(ls++cs)):=by
 have ⟨t,Y,F,L,h2,h3⟩:=h;obtain ⟨G,K,rfl,p,Z⟩:=L.split;have ⟨n1,W,n3⟩:=List.nodup_append.1 h2;let J:=fun b=>if b∈G then w.heap[b]? else I b;have i:I.le J:=fun b o f=>by
  grind
 have k: ∀b,b∈G->J b=w.heap[b]? :=fun b f=>if_pos f;have u: ∀b,b∉G->J b=I b:=fun b f=>if_neg f;have j: ∀ {ls:List Ch} {G:List Nat} {c:Ch},Sep I ls w G->c∈ls-> ∃m,(∀b,b∈m->b∈G)/\c.holds I w m:=by
  intro ls;induction ls with
  | nil=>grind
  | cons d ls ih =>
   rintro G c ⟨G1,D,rfl,e,e'⟩ hc;grind
 obtain ⟨D,z,rfl,H,Q⟩:=Z.split;refine ⟨J,i,fun R v a y=>?_,fun g l E y=>?_,⟨t,fun b o f=>?_,D++z,(H.mono i).append ⟨z,[],by simp,Q,rfl⟩,W,fun b f=>?_⟩,?_⟩
 ·have ⟨m,A,C⟩:=j p y;exact R.own_rd C i fun b t=>k b (A b t)
 ·have ⟨m,A,C,f3⟩:=j p y;grind
 ·by_cases q:b∈G
  ·rw[k b q] at f;exact f
  ·rw[u b q] at f;exact Y b o f
 ·grind
 ·rintro n r N ⟨O,B,F',X,k2,k3⟩;obtain ⟨U,F2,rfl,V,T,F4,rfl,M,rfl⟩:=X.split;have x:=p.live;have s: ∀b,b∈G->n.heap[b]? =w.heap[b]? :=fun b q=>by
   have ⟨o,S⟩: ∃o,w.heap[b]? =some o:=⟨_,Array.getElem?_eq_getElem (x b q)⟩;rw[S];exact B b o (by grind)
  refine ⟨O,i.trans B,U++(G++T),(V.deeps N).append ((p.stay s).append M),?_,fun b f=>?_⟩
  ·grind
  grind
theorem zp {ls rn:List Ch} {fact:Value->Prop} {gv:Value->List Ch} (e: ∀v,Ch.deeps (gv v))
  (h: ∀J,I.le J->(∀ {α:Type} (R:Rep α) (v:List Value) (a:α),Ch.own R v a∈ls->R.rd J v a)->(∀g l E,Ch.blk g l E∈ls->J g=some (.cells l.toArray E (0,0)))->OpT P J w0 o ev rn fact gv):OpT P I w0 o ev (ls++rn) fact (fun v=>ls++gv v):=by
 intro w C b;rw[aD] at b;have ⟨J,d,k,f,c,j⟩:=TJ b;refine (h J d k f w _ c).imp fun v i hv=>⟨hv.1,?_⟩
 have:=j i _ (e v) hv.2
 refine this.perm ?_;grind[aD,List.perm_append_comm_assoc]
end
def aaE (chs:List Ent) (E:TypeId) (t:Ty) (x:LV):Option (List t.den×List Hdr):=match x with
 | .own h=>(rowOf h chs).bind fun q=>(qq (.sl q.E q.t) (.sl E t) q.xs).bind fun d=>some (d,[h])
 | x=>(XF E t x).bind fun d=>some (d,[])
structure TreeE where
 ver:Nat
 T:TypeId
 E:TypeId
 t:Ty
 d:Tr t.den
 rest:List Ent
def Lf (h:Hdr) (chs:List Ent):Option TreeE:=(pull h chs).bind fun r=>match r.1.2.2 with
 | .own (.tree T E t) d=>bW (Gt h r.2) (some ⟨r.1.2.1,T,E,t,d,r.2⟩)
 | _=>none
def TreeE.ent (r:TreeE) (h:Hdr):Ent:=(h,r.ver,.own (.tree r.T r.E r.t) r.d)
theorem TK {h:Hdr} {chs:List Ent} {r:TreeE} (e:Lf h chs=some r):chs.Perm (r.ent h::r.rest)/\ ∀e∈r.rest,e.1≠h:=by
 have ⟨q,f,e⟩:=bind_some e;have ⟨p,k⟩:=gf f;have ⟨⟨a,i,c⟩,rest⟩:=q;obtain rfl:a=h:=k;cases c with
 | own b d =>
  cases b with
  | tree T E t =>
   have ⟨j,e⟩:=ak (show bW (Gt a rest) _=some r from e);cases ae e;exact ⟨p,fun e g=>rv j g⟩
  | _=>cases e
 | _=>cases e
def jm (chs:List Ent):(t:Ty)->List LV->Option (t.den×List LV×List Hdr)
 | .prod a b,l=>(jm chs a l).bind fun x=>(jm chs b x.2.1).bind fun y=>some ((x.1,y.1),y.2.1,x.2.2++y.2.2)
 | .sl E t,l=>match l with
  | x::r=>(aaE chs E t x).bind fun q=>some (q.1,r,q.2)
  | [] =>none
 | .fro t,l=>jm chs t l
 | .bag t,l=>jm chs t l
 | .wr t,l=>jm chs t l
 | .int k,l=>(eK (.int k) l).bind fun x=>some (x.1,x.2,[])
 | .bool,l=>(eK .bool l).bind fun x=>some (x.1,x.2,[])
 | .str,l=>(eK .str l).bind fun x=>some (x.1,x.2,[])
 | .raw,_=>none
 | .tree T E t,l=>match l with
  | .own h::r=>(Lf h chs).bind fun q=>(qq (.tree q.T q.E q.t) (.tree T E t) q.d).bind fun d=>some (d,r,[h])
  | l=>(eK (.tree T E t) l).bind fun x=>some (x.1,x.2,[])
def aev (h:Hdr) (chs:List Ent):Option Blk:=(uS h chs).bind fun b=>bW (Gt h b.rest) (some b)
theorem TL {h:Hdr} {chs:List Ent} {b:Blk} (k:aev h chs=some b):uS h chs=some b/\ ∀e∈b.rest,e.1≠h:=by
 have ⟨f,c,k⟩:=bind_some k;have ⟨a,k⟩:=ak k;cases ae k;exact ⟨c,fun e d=>rv a d⟩
def Lent (J:Hp) (θ:Th) (chs:List Ent) (hs:List Hdr):Prop:= ∀h∈hs,(∀q,rowOf h chs=some q->(Ty.sl q.E q.t).rep.rd J [hv θ h] q.xs)/\(∀q,Lf h chs=some q->(Ty.tree q.T q.E q.t).rep.rd J [hv θ h] q.d)/\ ∀b,aev h chs=some b->J (bk (hv θ h))=some (.cells (b.cells.map (·.v θ)).toArray b.T (0,0))
theorem Lent.l {J:Hp} {θ:Th} {chs:List Ent} {a b:List Hdr} (h:Lent J θ chs (a++b)):Lent J θ chs a:=fun x c=>h x (bq _ c)
theorem Lent.r {J:Hp} {θ:Th} {chs:List Ent} {a b:List Hdr} (h:Lent J θ chs (a++b)):Lent J θ chs b:=fun x c=>h x (bw _ c)
theorem tl {P:Program} {w0:World} {J:Hp} {θ:Th} {n:Nat} {chs:List Ent} : ∀ {t:Ty} {cs:List LV} {r:t.den×List LV×List Hdr},jm chs t cs=some r->(∀x∈cs,x.ok P w0 J θ n)->Lent J θ chs r.2.2-> ∃i,cs=i++r.2.1/\t.rep.rd J (i.map (·.v θ)) r.1:=by
 intro t;induction t with
 | prod a b s p =>
  intro cs r h c f;have ⟨x,g,h⟩:=bind_some (show (jm chs a cs).bind _=some r from h);have ⟨y,A,h⟩:=bind_some h;cases ae h;obtain ⟨i,rfl,C⟩:=s g c f.l;have ⟨w,D,B⟩:=p A (fun z u=>c z (bw _ u)) f.r;exact ⟨i++w,by grind,i.map (·.v θ),w.map (·.v θ),by grind,C,B⟩
 | sl E t ih =>
  intro cs r h c f;cases cs with
  | nil=>cases h
  | cons x l =>
   have ⟨q,e,h⟩:=bind_some (show (aaE chs E t x).bind _=some r from h);cases ae h;refine ⟨[x],rfl,?_⟩;cases x with
   | own m =>
    have ⟨z,u,e⟩:=bind_some (show (rowOf m chs).bind _=some q from e);have ⟨d,j,e⟩:=bind_some e;cases ae e;exact jB j ((f m (by simp)).1 z u)
   | rd h2 t2 d2 =>
    have ⟨d,j,e⟩:=bind_some (show (XF E t (.rd h2 t2 d2)).bind _=some q from e);cases ae e;exact DI j (c _ (by simp))
   | val v =>
    have ⟨d,j,e⟩:=bind_some (show (XF E t (.val v)).bind _=some q from e);cases ae e;exact DI j (c _ (by simp))
   | nb _=>cases (show none=some q from e)
   | ptr _ _=>cases (show none=some q from e)
   | fn _ _ _ _=>cases (show none=some q from e)
   | fz _ _ _ _ _=>cases (show none=some q from e)
   | fzf _ _ _ _ _=>cases (show none=some q from e)
   | rdn _ _ _ _=>cases (show none=some q from e)
 | fro t ih =>
  intro cs r h c f;exact ih (show jm chs t cs=some r from h) c f
 | bag t ih =>
  intro cs r h c f;exact ih (show jm chs t cs=some r from h) c f
 | wr t ih =>
  intro cs r h c f;exact ih (show jm chs t cs=some r from h) c f
 | int k =>
  intro cs r h c f;have ⟨x,g,h⟩:=bind_some (show (eK _ cs).bind _=some r from h);cases ae h;exact jD g c
 | bool =>
  intro cs r h c f;have ⟨x,g,h⟩:=bind_some (show (eK _ cs).bind _=some r from h);cases ae h;exact jD g c
 | raw =>
  intro cs r h c f;cases (show none=some r from h)
 | str =>
  intro cs r h c f;have ⟨x,g,h⟩:=bind_some (show (eK _ cs).bind _=some r from h);cases ae h;exact jD g c
 | tree T E t ih =>
  intro cs r h c f;have o:((eK (.tree T E t) cs).bind fun x=>some (x.1,x.2,([] :List Hdr)))=some r-> ∃i,cs=i++r.2.1/\(Ty.tree T E t).rep.rd J (i.map (·.v θ)) r.1:=fun h=>by
   have ⟨x,g,h⟩:=bind_some h;cases ae h;exact jD g c
  cases cs with
  | nil=>exact o h
  | cons x l =>
   cases x with
   | own m =>
    have ⟨q,e,h⟩:=bind_some (show (Lf m chs).bind _=some r from h);have ⟨d,j,h⟩:=bind_some h;cases ae h;exact ⟨[.own m],rfl,jB j ((f m (by simp)).2.1 q e)⟩
   | _=>exact o h
def DR (chs:List Ent) (t:Ty) (v:AV):Option (t.den×List Hdr):=match v,t.isProd with
 | .agg cs,true=>(jm chs t cs).bind fun r=>bW r.2.1.isEmpty (some (r.1,r.2.2))
 | .one x,false=>(jm chs t [x]).bind fun r=>bW r.2.1.isEmpty (some (r.1,r.2.2))
 | _,_=>none
theorem Lg {P:Program} {w0:World} {J:Hp} {θ:Th} {n:Nat} {chs:List Ent} {t:Ty} {v:AV} {r:t.den×List Hdr} (h:DR chs t v=some r) (a:v.ok P w0 J θ n chs) (g:Lent J θ chs r.2): ∃b,Lds t.isProd b (v.v θ)/\t.rep.rd J b r.1:=by
 unfold DR at h;split at h
 ·rename_i b d;have ⟨q,c,h⟩:=bind_some h;have ⟨f,h⟩:=ak h;cases ae h;have ⟨j,e,k⟩:=tl c a g;rw[List.isEmpty_iff.1 f,List.append_nil] at e;subst e;exact ⟨_,by rw[d];rfl,k⟩
 ·rename_i x d;have ⟨q,c,h⟩:=bind_some h;have ⟨f,h⟩:=ak h;cases ae h;have ⟨j,e,k⟩:=tl c (fun y i=>by cases ax i;exact a) g;rw[List.isEmpty_iff.1 f,List.append_nil] at e;subst e;exact ⟨_,by rw[d];rfl,k⟩
 grind
def Lh (ps rs ps' rs':List Ty) (e:cur ps (Option (dens rs))):Option (cur ps' (Option (dens rs'))):=if h:ps=ps'/\rs=rs' then some (h.1 ▸ h.2 ▸ e) else none
theorem Li {ps rs b a:List Ty} {e:cur ps (Option (dens rs))} {c:cur b (Option (dens a))} (h:Lh ps rs b a e=some c) {P:Program} {w0:World} {J:Hp} {v:Value} (d:FnOk P w0 J v ps rs e):FnOk P w0 J v b a c:=by
 grind[Lh,ae]
structure FnR (a b:List Ty) where
 e:cur a (Option (dens b))
 lent:List Hdr
structure CapR (p:PM) where
 d:p.den
 lent:List Hdr
section
variable (ft:FT) (chs:List Ent)
def acC (rec:(a b:List Ty)->LV->Option (FnR a b)):(p:PM)->LV->Option (CapR p)
 | .cap T t,x=>match x with
  | .ptr h off=>bW (Nat.beq off 0) ((aev h chs).bind fun b=>bW (Nat.beq b.T T) ((jm chs t b.cells).bind fun r=>bW r.2.1.isEmpty (some ⟨r.1,h::r.2.2⟩)))
  | .fz h T' t' d off=>bW (Nat.beq off 0&&Nat.beq T' T) ((qq t' t d).bind fun d=>some ⟨d,[]⟩)
  | _=>none
 | .capf T a b,x=>match x with
  | .ptr h off=>bW (Nat.beq off 0) ((aev h chs).bind fun bl=>bW (Nat.beq bl.T T) (match bl.cells with
   | [y] =>(rec a b y).bind fun r=>some ⟨r.e,h::r.lent⟩
   | _=>none))
  | .fzf h T' a' b' e=>bW (Nat.beq T' T) ((Lh a' b' a b e).bind fun e=>some ⟨e,[]⟩)
  | _=>none
 | _,_=>none
def TM (rec:(a b:List Ty)->LV->Option (FnR a b)):(qs:List PM)->List LV->Option (denP qs×List Hdr)
 | [],[] =>some ((),[])
 | q::qs,x::xs=>(acC chs rec q x).bind fun r=>(TM rec qs xs).bind fun s=>some ((r.d,s.1),r.lent++s.2)
 | _,_=>none
def Nx:(ts:List Ty)->List (Bool×List LV)->Option (kN ts×List Hdr)
 | [],[] =>some ((),[])
 | t::ts,y::ys=>bW (y.1==t.isProd) ((jm chs t y.2).bind fun r=>bW (r.2.1.isEmpty&&(y.1 || Nat.beq y.2.length 1)) ((Nx ts ys).bind fun q=>some ((r.1,q.1),r.2.2++q.2)))
 | _,_=>none
end
def acD:List PM->Option (List Ty)
 | [] =>some []
 | .rd t::ps=>(acD ps).bind fun ts=>some (t::ts)
 | _=>none
def rds:List Ty->List PM->List PM
 | [],qs=>qs
 | t::ts,qs=>.rd t::rds ts qs
def acE:(ts:List Ty)->(qs:List PM)->kN ts->denP qs->denP (rds ts qs)
 | [],_,_,e=>e
 | _::ts,qs,d,e=>(d.1,acE ts qs d.2 e)
def acF {R:Type} :(a:List Ty)->(kN a->R)->cur a R
 | [],g=>g ()
 | _::a,g=>fun x=>acF a fun d=>g (x,d)
theorem Lj {R:Type} : ∀(a:List Ty) (g:kN a->R) (d:kN a),app a (acF a g) d=g d
 | [],_,_=>rfl
 | _::a,g,d=>Lj a (fun x=>g (d.1,x)) d.2
def XJ:PM->Bool
 | .cap _ _=>true
 | .capf _ _ _=>true
 | _=>false
def zq:List PM->Bool
 | [] =>true
 | p::ps=>XJ p&&zq ps
def ae4 (chs:List Ent) (rec:(a b:List Ty)->LV->Option (FnR a b)) (a b:List Ty) (f:FS) (r1:List Ty) (qs:List PM) (first:List (Bool×List LV)) (capt:List LV):Option (FnR a b):=
 if h:f.ps=rds r1 (rds a qs)/\f.rs++outs f.ps=b then
  (Nx chs r1 first).bind fun d1=>(TM chs rec qs capt).bind fun dc =>
   some ⟨acF a fun x=>h.2 ▸ appP f.ps f.m (h.1 ▸ acE r1 (rds a qs) d1.1 (acE a qs x dc.1)),d1.2++dc.2⟩
 else none
def agB (ft:FT) (chs:List Ent) (rec:(a b:List Ty)->LV->Option (FnR a b)) (a b:List Ty) (k:FuncId) (first:List (Bool×List LV)) (capt:List LV):Option (FnR a b):=(fs ft k).bind fun f=>(acD (f.ps.take first.length)).bind fun r1 =>
 bW (!f.ov&&zq (f.ps.drop (first.length+a.length))) (ae4 chs rec a b f r1 (f.ps.drop (first.length+a.length)) first capt)
def TN (h:Hdr) (chs:List Ent):Option (FuncId×List (Bool×List LV)×List LV):=(pull h chs).bind fun r=>match r.1.2.2 with
 | .clo k first capt=>some (k,first,capt)
 | _=>none
def acG (ft:FT) (chs:List Ent):Nat->(a b:List Ty)->LV->Option (FnR a b)
 | 0,_,_,_=>none
 | n+1,a,b,x=>match x with
  | .fn h a' b' e=>(Lh a' b' a b e).bind fun e=>some ⟨e,[]⟩
  | .own h=>(TN h chs).bind fun q=>agB ft chs (acG ft chs n) a b q.1 q.2.1 q.2.2
  | .val v=>match v with
   | .func (.func k) f c=>bW (f.toList.isEmpty&&c.toList.isEmpty) (agB ft chs (acG ft chs n) a b k [] [])
   | _=>none
  | _=>none
section
variable {P:Program} {w0:World} {J J':Hp} {θ:Th} {n:Nat} {chs chs0:List Ent} {ft:FT}
theorem Lk: ∀(rs us:List Ty) (i:Nat) (d:kN (rs++us)) (v:Value),us= [] ->AS i (rs++us) d v=AS i rs (hFst rs us d) v
 | [],us,i,d,v,h=>by subst h;rfl
 | t::rs,us,i,d,v,h=>by
  show Ch.own _ _ _::AS (i+1) (rs++us) d.2 v=Ch.own _ _ _::AS (i+1) rs (hFst rs us d.2) v;rw[Lk rs us (i+1) d.2 v h];rfl
theorem TO (rs us:List Ty) (d:kN (rs++us)) (v:Value) (h:us= []):resGv (rs++us) d v=resGv rs (hFst rs us d) v:=by
 match rs,d with
 | [],d=>subst h;rfl
 | [t],d=>subst h;rfl
 | t::u::rs,d=>exact Lk (t::u::rs) us 0 d v h
theorem TP (rs us:List Ty) (v:Value) (h:us= []):resFa rs v->resFa (rs++us) v:=by
 grind
theorem IX {a:List PM} : ∀ts:List Ty,outs (rds ts a)=outs a
 | [] =>rfl
 | _::ts=>IX ts
theorem XK {a:List PM} :zq a=true->outs a= []:=by
 induction a with
 | nil=>intro _;rfl
 | cons q a ih =>
  intro h;have h:(XJ q&&zq a)=true:=h;rw[al] at h;cases q with
  | cap _ _=>exact ih h.2
  | capf _ _ _=>exact ih h.2
  | _=>cases h.1
theorem IY {γ:Value} {a:List PM} : ∀(ts:List Ty) (vs us:List Value) (d:kN ts) (e:denP a),vs.length=ts.length->owCh γ (rds ts a) (vs++us) (acE ts a d e)=owCh γ a us e
 | [],[],us,d,e,_=>rfl
 | _::ts,v::vs,us,d,e,h=>IY ts vs us d.2 e (by grind)
 | [],_::_,_,_,_,h=>by cases h
 | _::_,[],_,_,_,h=>by cases h
theorem XL {γ:Value} {a:List PM} : ∀(us:List Value) (e:denP a),zq a=true->owCh γ a us e= []:=by
 induction a with
 | nil=>intro us e _;rfl
 | cons q a ih =>
  intro us e h;cases us with
  | nil=>rfl
  | cons u us =>
   have h:(XJ q&&zq a)=true:=h;rw[al] at h;cases q with
   | cap _ _=>exact ih us e.2 h.2
   | capf _ _ _=>exact ih us e.2 h.2
   | _=>cases h.1
theorem Ll {γ:Value} {a:List PM} {us:List Value} : ∀(ts:List Ty) (vs:List Value),vs.length=ts.length->zq a=true-> ∀d:kN (outs (rds ts a)),outCh γ (rds ts a) (vs++us) d= []
 | [],[],_,h=>fun d=>by
  have key: ∀ {a:List PM} (us:List Value) (d:kN (outs a)),zq a=true->outCh γ a us d= []:=by
   intro a;induction a with
   | nil=>intro us d _;rfl
   | cons q a ih =>
    intro us d h;cases us with
    | nil=>rfl
    | cons u us =>
     have h:(XJ q&&zq a)=true:=h;rw[al] at h;cases q with
     | cap _ _=>exact ih us d h.2
     | capf _ _ _=>exact ih us d h.2
     | _=>cases h.1
  exact key us d h
 | _::ts,v::vs,hl,h=>fun d=>Ll ts vs (by grind) h d
 | [],_::_,h,_=>by cases h
 | _::_,[],h,_=>by cases h
theorem DS {γ:Value} {a:List PM} {us:List Value} {e:denP a} (h:PArgs P w0 J γ a us e): ∀ {ts:List Ty} {vs:List Value} {d:kN ts},Te J ts vs d->PArgs P w0 J γ (rds ts a) (vs++us) (acE ts a d e)/\vs.length=ts.length
 | [],vs,d,hr=>by
  subst hr;exact ⟨h,rfl⟩
 | t::ts,vs,d,hr=>by
  obtain ⟨v,b,r,rfl,f,c,i⟩:=hr;have ⟨g,j⟩:=DS h i;exact ⟨⟨v,r++us,rfl,⟨b,f,c⟩,g⟩,by grind⟩
theorem PF {h:Hdr} {b:Blk} (k:aev h chs=some b) (a: ∀e∈chs,okE P w0 J θ n chs0 e):okE P w0 J θ n chs0 (b.ent h):=a _ ((mz (TL k).1).mem_iff.2 (List.mem_cons_self ..))
theorem XM {rec:(a b:List Ty)->LV->Option (FnR a b)} (m: ∀a b x r,rec a b x=some r->x.ok P w0 J θ n->Lent J' θ chs r.lent->FnOk P w0 J' (x.v θ) a b r.e) (g:J.le J') (D: ∀e∈chs,okE P w0 J θ n chs0 e) {p:PM} {x:LV} {r:CapR p} (h:acC chs rec p x=some r) (s:x.ok P w0 J θ n) (o:Lent J' θ chs r.lent):ahc P w0 J' undef p (x.v θ) r.d:=by
 cases p with
 | cap T t =>
  cases x with
  | ptr j off =>
   have ⟨c,h⟩:=ak (show bW (Nat.beq off 0) _=some r from h);have ⟨b,i,h⟩:=bind_some h;have ⟨l,h⟩:=ak h;have ⟨q,w,h⟩:=bind_some h;have ⟨C,h⟩:=ak h;cases ae h;cases aw c;have l:=aw l;have M:=(o j (by simp)).2.2 b i;have f:=PF (P:=P) (w0:=w0) (J:=J) (n:=n) i D;have ⟨R,O,k⟩:=tl (J:=J') w (fun x s=>LV.ok_same Same.rfl (aH _) (f.2.2 x s) g) (fun y G=>o y (by grind));exact ⟨_,rfl,_,by grind,k⟩
  | fz j T' t' d off =>
   have ⟨c,h⟩:=ak (show bW (Nat.beq off 0&&Nat.beq T' T) _=some r from h);rw[al] at c;have ⟨N,H,h⟩:=bind_some h;cases ae h;cases aw c.1;cases aw c.2;have ⟨F,cells,A,v⟩:=s;exact ⟨_,rfl,cells,g _ _ A,jB H (Rep.rd_mono _ v g)⟩
  | _=>cases h
 | capf T a b =>
  cases x with
  | ptr j off =>
   have ⟨c,E⟩:=ak (show bW (Nat.beq off 0) _=some r from h);have ⟨K,i,I⟩:=bind_some E;have ⟨l,B⟩:=ak I;cases aw c;have l:=aw l;have f:=PF (P:=P) (w0:=w0) (J:=J) (n:=n) i D;split at B
   ·rename_i y G;have ⟨q,w,L⟩:=bind_some B;cases ae L;have M:=(o j (by simp)).2.2 K i;exact ⟨_,rfl,_,by grind,m a b y q w (f.2.2 y (by grind)) fun z S=>o z (by grind)⟩
   grind
  | fzf j T' a' b' e =>
   have ⟨c,h⟩:=ak (show bW (Nat.beq T' T) _=some r from h);have ⟨Q,C,h⟩:=bind_some h;cases ae h;cases aw c;have ⟨F,u,A,v⟩:=s;exact ⟨_,rfl,u,g _ _ A,(Li C v).mono g⟩
  | _=>cases h
 | _=>cases h
theorem Lm {rec:(a b:List Ty)->LV->Option (FnR a b)} (c: ∀a b x r,rec a b x=some r->x.ok P w0 J θ n->Lent J' θ chs r.lent->FnOk P w0 J' (x.v θ) a b r.e) (g:J.le J') (f: ∀e∈chs,okE P w0 J θ n chs0 e): ∀ {d:List PM} {xs:List LV} {r:denP d×List Hdr},TM chs rec d xs=some r->(∀x∈xs,x.ok P w0 J θ n)->Lent J' θ chs r.2->PArgs P w0 J' undef d (xs.map (·.v θ)) r.1
 | [],[],r,h,_,_=>by rfl
 | q::d,x::xs,r,h,hx,hl=>by
  have ⟨a,j,h⟩:=bind_some (show (acC chs rec q x).bind _=some r from h);have ⟨s,i,h⟩:=bind_some h;cases ae h;exact ⟨_,_,rfl,XM c g f j (hx x (by simp)) hl.l,Lm c g f i (fun y k=>hx y (by grind)) hl.r⟩
 | [],_::_,r,h,_,_=>by cases h
 | _::_,[],r,h,_,_=>by cases h
theorem Hy (d:J.le J'): ∀ {ts:List Ty} {ys:List (Bool×List LV)} {r:kN ts×List Hdr},Nx chs ts ys=some r->(∀y∈ys,∀x∈y.2,x.ok P w0 J θ n)->Lent J' θ chs r.2->Te J' ts (ys.map (mu θ)) r.1
 | [],[],r,h,_,_=>by rfl
 | t::ts,y::ys,r,h,hy,hl=>by
  have ⟨c,h⟩:=ak (show bW (y.1==t.isProd) _=some r from h);have ⟨a,f,h⟩:=bind_some h;have ⟨l,h⟩:=ak h;have ⟨q,e,h⟩:=bind_some h;cases ae h;have c:y.1=t.isProd:=by simpa using c
  have ⟨p,m,k⟩:=tl (J:=J') f (fun x i=>LV.ok_same Same.rfl (aH _) (hy y (by simp) x i) d) hl.l;refine ⟨_,y.2.map (·.v θ),_,rfl,?_,by grind,Hy d e (fun z o=>hy z (by grind)) hl.r⟩;have ⟨s,g⟩:=y;subst c;cases j:t.isProd with
  | true=>rfl
  | false =>
   have b:g.length=1:=aw (by grind);obtain ⟨x,rfl⟩:=List.length_eq_one_iff.1 b
   rfl
 | [],_::_,r,h,_,_=>by cases h
 | _::_,[],r,h,_,_=>by cases h
theorem TQ (Y:FTok P ft) (B:Lay P J) {rec:(a b:List Ty)->LV->Option (FnR a b)} (E: ∀a b x r,rec a b x=some r->x.ok P w0 J θ n-> ∀J',J.le J'->Lent J' θ chs r.lent->FnOk P w0 J' (x.v θ) a b r.e) (F:J.le J') (Z: ∀e∈chs,okE P w0 J θ n chs0 e) {a b:List Ty} {k:FuncId} {first:List (Bool×List LV)} {g:List LV} {r:FnR a b} (h:agB ft chs rec a b k first g=some r)
  (h1: ∀y∈first,∀x∈y.2,x.ok P w0 J θ n) (h2: ∀x∈g,x.ok P w0 J θ n) (H:Lent J' θ chs r.lent):FnOk P w0 J' (.func (.func k) (first.map (mu θ)).toArray (g.map (·.v θ)).toArray) a b r.e:=by
 have ⟨f,W,h⟩:=bind_some h;have ⟨o,hr1,h⟩:=bind_some h;have ⟨c,h⟩:=ak h;rw[al] at c;have D:f.ov=false:=by simpa using c.1
 replace c:=c.2;have s:=Y.get W;have K:=s.en D;have M:=s.con D;generalize f.ps.drop (first.length+a.length)=j at h c;unfold ae4 at h;split at h
 ·rename_i hh;have ⟨T,hd1,h⟩:=bind_some h;have ⟨R,N,h⟩:=bind_some h;cases ae h;obtain ⟨ps,rs,m⟩:=f;have ⟨S,U⟩:=hh;simp only at S U;subst S;subst U;refine ⟨k,_,_,rfl,K,fun G i args d p q Q=>?_⟩;have u:Lent G θ chs (T.2++R.2):=fun x A=>⟨fun z v=>Rep.rd_mono _ ((H x A).1 z v) i,fun z v=>Rep.rd_mono _ ((H x A).2.1 z v) i,fun z v=>i _ _ ((H x A).2.2 z v)⟩
  have k1:=Hy (F.trans i) hd1 h1 u.l;have k2:=Lm (fun a b x r hr A O=>E a b x r hr A G (F.trans i) O) (F.trans i) Z N h2 u.r;have ⟨k3,k4⟩:=DS k2 p;have ⟨k5,k6⟩:=DS k3 k1;rw[Lj] at Q;have l:=M w0 G undef _ _ q (B.mono (F.trans i)) k5 Q;have hou:outs (rds o (rds a j))= []:=by rw[IX,IX];exact XK c
  have I:owCh undef (rds o (rds a j)) ((first.map (mu θ))++(args++g.map (·.v θ))) (acE o (rds a j) T.1 (acE a j d R.1))= []:=by
   rw[IY _ _ _ _ _ k6,IY _ _ _ _ _ k4];exact XL _ _ c
  have V: ∀z,outCh undef (rds o (rds a j)) ((first.map (mu θ))++(args++g.map (·.v θ))) z= []:=by
   intro z;have L: ∀(x y:List Ty),rds x (rds y j)=rds (x++y) j:=by
    intro x y;induction x with
    | nil=>rfl
    | cons t x ih=>exact congrArg (PM.rd t:: ·) ih
   have key: ∀(X:List PM),X=rds (o++a) j-> ∀z:kN (outs X),outCh undef X ((first.map (mu θ))++(args++g.map (·.v θ))) z= []:=by
    rintro X rfl z;rw[<-aD];exact Ll (o++a) _ (by grind) c z
   exact key _ (L o a) z
  rw[I] at l;intro w C hS;have hS':=l w C hS;grind[mu,TP,TO,outs,rds,toH]
 grind
theorem PG {h:Hdr} {q:FuncId×List (Bool×List LV)×List LV} (k:TN h chs=some q): ∃ver,(h,ver,Chk.clo q.1 q.2.1 q.2.2)∈chs:=by
 have ⟨r,a,k⟩:=bind_some k;have ⟨p,e⟩:=gf a;grind
theorem Ny (s:FTok P ft) (d:Lay P J) (o: ∀e∈chs,okE P w0 J θ n chs0 e): ∀ {m:Nat} {a b:List Ty} {x:LV} {r:FnR a b},acG ft chs m a b x=some r->x.ok P w0 J θ n-> ∀J',J.le J'->Lent J' θ chs r.lent->FnOk P w0 J' (x.v θ) a b r.e
 | 0,_,_,_,_,h,_,_,_,_=>by cases h
 | m+1,a,b,x,r,h,u,J',i,l=>by
  have g: ∀a b x r,acG ft chs m a b x=some r->x.ok P w0 J θ n-> ∀J',J.le J'->Lent J' θ chs r.lent->FnOk P w0 J' (x.v θ) a b r.e:=fun a b x r h u J' i l=>Ny s d o h u J' i l;cases x with
  | fn t A w e =>
   have ⟨H,j,h⟩:=bind_some (show (Lh A w a b e).bind _=some r from h);cases ae h;exact (Li j u.2).mono i
  | own t =>
   have ⟨q,z,h⟩:=bind_some (show (TN t chs).bind _=some r from h);have ⟨C,F⟩:=PG z;obtain ⟨-,-,G,D,I⟩:=o _ F
   have:=TQ s d g i o h G D l
   show FnOk P w0 J' (hv θ t) a b r.e;grind
  | val v =>
   cases v with
   | func fk f c =>
    cases fk with
    | func k =>
     have ⟨j,h⟩:=ak (show bW (f.toList.isEmpty&&c.toList.isEmpty) (agB ft chs (acG ft chs m) a b k [] [])=some r from h);rw[al,List.isEmpty_iff,List.isEmpty_iff] at j
     have:=TQ s d g i o h (fun y p=>by cases p) (fun y p=>by cases p) l
     have B:f= #[]:=by simpa using j.1
     have E:c= #[]:=by simpa using j.2
     subst B;subst E;exact this
    | _=>cases h
   | _=>cases h
  | _=>cases h
end
def IZ:List Hdr->List Ent->Option (List Ent×List Ent)
 | [],chs=>some ([],chs)
 | h::hs,chs=>(pull h chs).bind fun r=>(IZ hs r.2).bind fun q=>some (r.1::q.1,q.2)
theorem AY: ∀ {hs:List Hdr} {chs:List Ent} {r:List Ent×List Ent},IZ hs chs=some r->chs.Perm (r.1++r.2)/\r.1.map (·.1)=hs
 | [],chs,r,h=>by cases ae (show some _=some r from h);simp_all
 | h'::hs,chs,r,h=>by
  have ⟨q,b,h⟩:=bind_some (show (pull h' chs).bind _=some r from h);have ⟨g,a,h⟩:=bind_some h;cases ae h;have ⟨d,f⟩:=gf b;have ⟨c,e⟩:=AY a;exact ⟨d.trans (c.cons _),by grind⟩
def ais (h:Hdr) (l:List Hdr):Bool:=l.any fun x=>Hdr.beq x h
def Nz:List Hdr->List Hdr->List Hdr
 | [],_=>[]
 | h::hs,acc=>if ais h acc then Nz hs acc else h::Nz hs (h::acc)
theorem DT {h:Hdr} : ∀ {hs acc:List Hdr},h∈hs->h∈Nz hs acc\/h∈acc
 | x::hs,acc,a=>by
  unfold Nz;split
  ·rename_i b;rcases az a with rfl | a
   ·have ⟨y,e,d⟩:=List.any_eq_true.1 b;grind[Hdr.beq_eq]
   ·exact DT a
  ·rcases az a with rfl | a
   ·grind
   ·rcases DT (acc:=x::acc) a with c | c
    ·grind
    grind
def qz:AV->Bool
 | .agg _=>true
 | _=>false
theorem DU {v:AV} {cs:List LV} (h:nL v=some cs) {P:Program} {w0:World} {J:Hp} {θ:Th} {n:Nat} {chs:List Ent} (a:v.ok P w0 J θ n chs) {b:Bool} (d:qz v=b):nG b (v.v θ)=cs.map (·.v θ)/\qw (v.v θ)=b:=by
 subst d;cases v with
 | agg e =>
  cases ae (show some e=some cs from h);exact ⟨rfl,rfl⟩
 | one x =>
  cases ae (show some [x] =some cs from h);refine ⟨rfl,?_⟩;have c:=LV.one (show LV.ok P w0 J θ n x from a);show qw (x.v θ)=false;generalize x.v θ=u at c;cases u <;> first | rfl | cases c
 | _=>cases h
def vi (h:Hdr) (T:TypeId) (t:Ty) (chs:List Ent):Option (t.den×List Ent×List Ent):=(pull h chs).bind fun r=>match r.1.2.2 with
 | .box T' t' d=>bW (Nat.beq T' T) ((qu t' t d).bind fun d=>some (d,[r.1],r.2))
 | .blk T' cells=>bW (Nat.beq T' T) ((eC t cells r.2).bind fun q=>bW q.cells.isEmpty (some (q.d,r.1::q.used,q.rest)))
 | _=>none
theorem acH {I:Hp} {w:World} {F:List Nat} {ls:List Ch} {α:Type} {R:Rep α} {b:Nat} {T:TypeId} {cells:List Value} {d:α} (h:Sep I (Ch.blk b cells T::ls) w F) (k:Bun I ls R cells d):(Ch.box b T R d).holds I w F:=by
 obtain ⟨G,K,rfl,⟨rfl,a⟩,c⟩:=h;exact ⟨cells,K,rfl,a,k w K c⟩
section
variable {P:Program} {w0:World} {J J':Hp} {θ θ':Th} {n m:Nat} {chs chs0:List Ent}
theorem ry {h:Hdr} {T:TypeId} {t:Ty} {chs:List Ent} {q:t.den×List Ent×List Ent} (k:vi h T t chs=some q):chs.Perm (q.2.1++q.2.2):=by
 have ⟨r,i,k⟩:=bind_some k;have ⟨p,e⟩:=gf i;have ⟨⟨v,f,c⟩,rest⟩:=r;cases c with
 | box a j d =>
  have ⟨g,k⟩:=ak (show bW (Nat.beq a T) _=some q from k);have ⟨o,l,k⟩:=bind_some k;grind
 | blk a cells =>
  have ⟨g,k⟩:=ak (show bW (Nat.beq a T) _=some q from k);have ⟨u,b,k⟩:=bind_some k;have ⟨s,k⟩:=ak k;cases ae k;exact p.trans ((iy b).cons _)
 | _=>cases k
theorem wH {h:Hdr} {T:TypeId} {t:Ty} {q:t.den×List Ent×List Ent} (k:vi h T t chs=some q) (o:J.le J') (v: ∀e∈chs,okE P w0 J θ n chs0 e):chs.Perm (q.2.1++q.2.2)/\ ∀w F,Sep J' (q.2.1.map (toCh P θ)) w F->(Ch.box (bk (hv θ h)) T t.rep q.1).holds J' w F:=by
 have ⟨r,D,k⟩:=bind_some k;have ⟨p,e⟩:=gf D;have ⟨⟨C,y,c⟩,rest⟩:=r;obtain rfl:C=h:=e;cases c with
 | box a E d =>
  have ⟨b,k⟩:=ak (show bW (Nat.beq a T) _=some q from k);have ⟨H,l,k⟩:=bind_some k;cases ae k;cases aw b;obtain ⟨rfl,rfl⟩:=qv l;refine ⟨p,fun w F f=>?_⟩;obtain ⟨G,K,rfl,j,rfl⟩:=f;rw[List.append_nil];exact j
 | blk a cells =>
  have ⟨b,k⟩:=ak (show bW (Nat.beq a T) _=some q from k);have ⟨L,s,k⟩:=bind_some k;have ⟨u,k⟩:=ak k;cases ae k;cases aw b;have g:=v _ (p.mem_iff.2 (List.mem_cons_self ..));have ⟨z,I,i,B⟩:=lX (J:=J') (P:=P) (w0:=w0) (θ:=θ) (n:=n) s fun x A=>LV.ok_same Same.rfl (aH _) (g.2.2 x A) o;rw[List.isEmpty_iff.1 u,List.append_nil] at i;subst i;exact ⟨p.trans (z.cons _),fun w F f=>acH f B⟩
 | _=>cases k
structure CurQ where
 g:Hdr
 d:List Int×Int×Int
 ent:Ent
 rest:List Ent
def yn (h:Hdr) (T E:TypeId) (chs:List Ent):Option CurQ:=(pull h chs).bind fun r=>match r.1.2.2 with
 | .blk T' [.rd g t xs,.val (.int .i64 x),.val (.int .i64 y)] =>bW (Nat.beq T' T) ((qu t (.sl E (.int .u8)) xs).bind fun xs=>some ⟨g,(xs,x,y),r.1,r.2⟩)
 | _=>none
theorem qn {h:Hdr} {T E:TypeId} {chs:List Ent} {q:CurQ} (k:yn h T E chs=some q):chs.Perm (q.ent::q.rest)/\ ∃ver,q.ent=(h,ver,.blk T [.rd q.g (.sl E (.int .u8)) q.d.1,.val (.int .i64 q.d.2.1),.val (.int .i64 q.d.2.2)]):=by
 have ⟨r,b,a⟩:=bind_some k;have ⟨p,e⟩:=gf b;split at a
 ·have ⟨i,d⟩:=ak a;have ⟨c,g,f⟩:=bind_some d;grind[ae,aw,qv]
 grind
inductive GhQ
 | cur (h:Hdr) (xs:List Int)
 | box (h:Hdr)
def GhQ.v (θ:Th):GhQ->Value
 | .cur h _=>hv θ h
 | .box h=>.pointer (some ⟨bk (hv θ h),0,none⟩)
def ahe (h:Hdr):Option GhQ->Bool
 | none=>true
 | some (.box h')=>Hdr.beq h' h
 | _=>false
theorem I0 {h:Hdr} {o:Option GhQ} (k:ahe h o=true): ∀q,o=some q->q= .box h:=by
 rintro q rfl;cases q with
 | cur _ _=>cases k
 | box h'=>rw[Hdr.beq_eq k]
def agC (h:Hdr) (chs:List Ent):Option (FuncId×Hdr):=(TN h chs).bind fun q=>match q with
 | (k,[],[.ptr hb off])=>if Nat.beq off 0 then some (k,hb) else none
 | _=>none
theorem I1 {h:Hdr} {chs:List Ent} {q:FuncId×Hdr} (k:agC h chs=some q): ∃ver,(h,ver,Chk.clo q.1 [] [.ptr q.2 0])∈chs:=by
 have ⟨⟨g,f,c⟩,a,k⟩:=bind_some k;grind[PG,ae,aw]
structure Args (ps:List PM) where
 d:denP ps
 lent:List Hdr
 own:List Ent
 rest:List Ent
 gh:Option GhQ
def dV (ft:FT) (s:Sg):(chs:List Ent)->(ps:List PM)->List AV->Option (Args ps)
 | chs,[],[] =>some ⟨(),[],[],chs,none⟩
 | chs,.rd t::ps,v::xs=>(DR s.chs t v).bind fun a=>(dV ft s chs ps xs).bind fun r=>some ⟨(a.1,r.d),a.2++r.lent,r.own,r.rest,r.gh⟩
 | chs,.ow t::ps,v::xs=>bW (qz v==t.isProd) ((nL v).bind fun cs=>(eC t cs chs).bind fun q=>bW q.cells.isEmpty ((dV ft s q.rest ps xs).bind fun r=>some ⟨(q.d,r.d),r.lent,q.used++r.own,r.rest,r.gh⟩))
 | chs,.eat t::ps,v::xs=>bW (qz v==t.isProd) ((nL v).bind fun cs=>(eC t cs chs).bind fun q=>bW q.cells.isEmpty ((dV ft s q.rest ps xs).bind fun r=>some ⟨(q.d,r.d),r.lent,q.used++r.own,r.rest,r.gh⟩))
 | chs,.fn a b::ps,x::xs=>match x with
  | .one y=>(acG ft s.chs 4 a b y).bind fun q=>(dV ft s chs ps xs).bind fun r=>some ⟨(q.e,r.d),q.lent++r.lent,r.own,r.rest,r.gh⟩
  | _=>none
 | chs,.fk g::ps,x::xs=>match x with
  | .one (.val (.func (.func k) f c))=>bW (Nat.beq k g&&f.toList.isEmpty&&c.toList.isEmpty) ((dV ft s chs ps xs).bind fun r=>some ⟨((),r.d),r.lent,r.own,r.rest,r.gh⟩)
  | _=>none
 | chs,.ptr T t::ps,x::xs=>match x with
  | .one (.ptr h off)=>bW (Nat.beq off 0) ((vi h T t chs).bind fun q=>(dV ft s q.2.2 ps xs).bind fun r=>some ⟨(q.1,r.d),r.lent,q.2.1++r.own,r.rest,r.gh⟩)
  | _=>none
 | chs,.crs T E::ps,x::xs=>match x with
  | .one (.ptr h off)=>bW (Nat.beq off 0) ((yn h T E chs).bind fun q=>(dV ft s q.rest ps xs).bind fun r=>bW r.gh.isNone (some ⟨(q.d,r.d),r.lent,q.ent::r.own,r.rest,some (.cur q.g q.d.1)⟩))
  | _=>none
 | chs,.kb g T t::ps,x::xs=>match x with
  | .one (.own h)=>(agC h s.chs).bind fun c=>bW (Nat.beq c.1 g) ((vi c.2 T t chs).bind fun q=>(dV ft s q.2.2 ps xs).bind fun r=>bW (ahe c.2 r.gh) (some ⟨(q.1,r.d),r.lent,q.2.1++r.own,r.rest,some (.box c.2)⟩))
  | _=>none
 | chs,.kc g::ps,x::xs=>match x with
  | .one (.own h)=>(agC h s.chs).bind fun c=>bW (Nat.beq c.1 g) ((dV ft s chs ps xs).bind fun r=>bW (ahe c.2 r.gh) (some ⟨((),r.d),r.lent,r.own,r.rest,some (.box c.2)⟩))
  | _=>none
 | _,_,_=>none
theorem gI {ft:FT} {s:Sg} (C:FTok P ft) (l:Fine P w0 J θ s) (o:J.le J'): ∀ {ps:List PM} {xs:List AV} {chs:List Ent} {r:Args ps},dV ft s chs ps xs=some r->(∀x∈xs,x.ok P w0 J θ s.nxt s.chs)->(∀e∈chs,e∈s.chs)->Lent J' θ s.chs r.lent-> ∀γ,(∀q,r.gh=some q->γ=q.v θ)->
  PArgs P w0 J' γ ps (xs.map (·.v θ)) r.d/\chs.Perm (r.own++r.rest)/\vd J' (r.own.map (toCh P θ)) (owCh γ ps (xs.map (·.v θ)) r.d)
 | [],[],chs,r,h,_,_,_,γ,hγ=>by
  cases ae (show some _=some r from h);exact ⟨Eq.refl _,List.Perm.refl _,zf⟩
 | .rd t::ps,x::xs,chs,r,h,hx,hc,hl,γ,hγ=>by
  have ⟨a,ha,h⟩:=bind_some (show (DR s.chs t x).bind _=some r from h);have ⟨q,v,h⟩:=bind_some h;cases ae h;have ⟨k,i,f⟩:=gI C l o v (fun y Z=>hx y (by grind)) hc hl.r γ hγ;have ⟨Y,U,R⟩:=Lg ha (AV.ok_same Same.rfl (aH _) Newer.rfl (hx x (by simp)) o) hl.l;exact ⟨⟨_,_,rfl,⟨Y,U,R⟩,k⟩,i,f⟩
 | .ow t::ps,x::xs,chs,r,h,hx,hc,hl,γ,hγ=>by
  have ⟨j,h⟩:=ak (show bW (qz x==t.isProd) _=some r from h);have j:qz x=t.isProd:=by simpa using j
  have ⟨Y,A,h⟩:=bind_some h;have ⟨q,v,h⟩:=bind_some h;have ⟨D,h⟩:=ak h;have ⟨H,u,h⟩:=bind_some h;cases ae h;have B:=hx x (by simp);have ⟨U,R⟩:=DU A B j;have d:=(kj A (AV.ok_same Same.rfl (aH _) Newer.rfl B o)).1;have ⟨p,cc,O,e2⟩:=lX (J:=J') (θ:=θ) v d;rw[List.isEmpty_iff.1 D,List.append_nil] at O;subst O;have ⟨k,i,f⟩:=gI C l o u (fun y Z=>hx y (by grind)) (fun e h=>hc e (p.mem_iff.2 (by simp[h]))) hl γ hγ;refine ⟨⟨_,_,rfl,R,k⟩,by rw[aD];exact p.trans (i.append_left _),?_⟩;show vd J' ((q.used++H.own).map _) (Ch.own t.rep (nG t.isProd (x.v θ)) q.d::_);rw[aU,U];exact ve e2 f
 | .eat t::ps,x::xs,chs,r,h,hx,hc,hl,γ,hγ=>by
  have ⟨j,h⟩:=ak (show bW (qz x==t.isProd) _=some r from h);have j:qz x=t.isProd:=by simpa using j
  have ⟨Y,A,h⟩:=bind_some h;have ⟨q,v,h⟩:=bind_some h;have ⟨D,h⟩:=ak h;have ⟨H,u,h⟩:=bind_some h;cases ae h;have B:=hx x (by simp);have ⟨U,R⟩:=DU A B j;have d:=(kj A (AV.ok_same Same.rfl (aH _) Newer.rfl B o)).1;have ⟨p,cc,O,e2⟩:=lX (J:=J') (θ:=θ) v d;rw[List.isEmpty_iff.1 D,List.append_nil] at O;subst O;have ⟨k,i,f⟩:=gI C l o u (fun y Z=>hx y (by grind)) (fun e h=>hc e (p.mem_iff.2 (by simp[h]))) hl γ hγ;refine ⟨⟨_,_,rfl,R,k⟩,by rw[aD];exact p.trans (i.append_left _),?_⟩;show vd J' ((q.used++H.own).map _) (Ch.own t.rep (nG t.isProd (x.v θ)) q.d::_);rw[aU,U];exact ve e2 f
 | .fn a b::ps,x::xs,chs,r,h,hx,hc,hl,γ,hγ=>by
  unfold dV at h;split at h
  ·rename_i y;have ⟨q,v,h⟩:=bind_some h;have ⟨H,u,h⟩:=bind_some h;cases ae h;have ⟨k,i,f⟩:=gI C l o u (fun z X=>hx z (by grind)) hc hl.r γ hγ;exact ⟨⟨_,_,rfl,Ny C l.lay l.chs v (show LV.ok P w0 J θ s.nxt y from hx (.one y) (by simp)) J' o hl.l,k⟩,i,f⟩
  grind
 | .ptr T t::ps,x::xs,chs,r,h,hx,hc,hl,γ,hγ=>by
  unfold dV at h;split at h
  ·have ⟨ho,h⟩:=ak h;have ⟨q,v,h⟩:=bind_some h;have ⟨H,u,h⟩:=bind_some h;cases ae h;cases aw ho;have ⟨p,hb⟩:=wH (P:=P) (w0:=w0) (J:=J) (J':=J') (θ:=θ) (n:=s.nxt) (chs0:=s.chs) v o fun e D=>l.chs e (hc e D);have ⟨k,i,f⟩:=gI C l o u (fun y Z=>hx y (by grind)) (fun e h=>hc e (p.mem_iff.2 (by simp[h]))) hl γ hγ;refine ⟨⟨_,_,rfl,⟨_,rfl⟩,k⟩,by rw[aD];exact p.trans (i.append_left _),?_⟩;rw[aU];intro w F V;obtain ⟨G,K,rfl,N,W⟩:=V.split;exact ⟨G,K,rfl,hb w G N,f w K W⟩
  grind
 | .fk g::ps,x::xs,chs,r,h,hx,hc,hl,γ,hγ=>by
  unfold dV at h;split at h
  ·have ⟨M,h⟩:=ak h;have ⟨H,u,h⟩:=bind_some h;cases ae h;have ⟨k,i,f⟩:=gI C l o u (fun z X=>hx z (by grind)) hc hl γ hγ;rw[al,al] at M;have ⟨⟨hk1,hk2⟩,hk3⟩:=M;cases aw hk1;have ef:=Array.ext' (List.isEmpty_iff.1 hk2);have ec:=Array.ext' (List.isEmpty_iff.1 hk3);subst ef;subst ec;exact ⟨⟨_,_,rfl,rfl,k⟩,i,f⟩
  grind
 | .crs T E::ps,x::xs,chs,r,h,hx,hc,hl,γ,hγ=>by
  unfold dV at h;split at h
  ·have ⟨ho,h⟩:=ak h;have ⟨q,v,h⟩:=bind_some h;have ⟨H,u,h⟩:=bind_some h;have ⟨hn,h⟩:=ak h;cases ae h;cases aw ho;have j:=hγ _ rfl;subst j;have ⟨p,Q,D⟩:=qn v;have d:=l.chs _ (hc _ (p.mem_iff.2 (List.mem_cons_self ..)));rw[D] at d;have hrd:LV.ok P w0 J θ s.nxt (.rd q.g (.sl E (.int .u8)) q.d.1):=d.2.2 _ (by simp);have ⟨k,i,f⟩:=gI C l o u (fun z X=>hx z (by grind)) (fun e h=>hc e (p.mem_iff.2 (by simp[h]))) hl (hv θ q.g) (fun q' S=>by grind);refine ⟨⟨_,_,rfl,⟨⟨_,rfl⟩,Rep.rd_mono _ hrd.2 o⟩,k⟩,p.trans (i.cons _),?_⟩;rw[D];intro w F V;obtain ⟨G,K,rfl,N,W⟩:=V;exact ⟨G,K,rfl,N,f w K W⟩
  grind
 | .kb g T t::ps,x::xs,chs,r,h,hx,hc,hl,γ,hγ=>by
  unfold dV at h;split at h
  ·have ⟨c,I,h⟩:=bind_some h;have ⟨M,h⟩:=ak h;have ⟨q,v,h⟩:=bind_some h;have ⟨H,u,h⟩:=bind_some h;have ⟨hn,h⟩:=ak h;cases ae h;cases aw M;have j:=hγ _ rfl;have ⟨Q,hm⟩:=I1 I;have d:=(l.chs _ hm).2.2;have L:=d.2.2;have ⟨p,hb⟩:=wH (P:=P) (w0:=w0) (J:=J) (J':=J') (θ:=θ) (n:=s.nxt) (chs0:=s.chs) v o fun e D=>l.chs e (hc e D);have ⟨k,i,f⟩:=gI C l o u (fun z X=>hx z (by grind)) (fun e h=>hc e (p.mem_iff.2 (by simp[h]))) hl γ (fun q' S=>by grind[I0]);refine ⟨⟨_,_,rfl,⟨by rw[j];exact L,_,j⟩,k⟩,by rw[aD];exact p.trans (i.append_left _),?_⟩;rw[aU,j];intro w F V;obtain ⟨G,K,rfl,N,W⟩:=V.split;rw[j] at f;exact ⟨G,K,rfl,hb w G N,f w K W⟩
  grind
 | .kc g::ps,x::xs,chs,r,h,hx,hc,hl,γ,hγ=>by
  unfold dV at h;split at h
  ·have ⟨c,I,h⟩:=bind_some h;have ⟨M,h⟩:=ak h;have ⟨H,u,h⟩:=bind_some h;have ⟨hn,h⟩:=ak h;cases ae h;cases aw M;have j:=hγ _ rfl;have ⟨Q,hm⟩:=I1 I;have d:=(l.chs _ hm).2.2;have L:=d.2.2;have ⟨k,i,f⟩:=gI C l o u (fun z X=>hx z (by grind)) hc hl γ (fun q' S=>by grind[I0]);exact ⟨⟨_,_,rfl,⟨by rw[j];exact L,_,j⟩,k⟩,i,f⟩
  grind
 | .cap _ _::_,_::_,_,_,h,_,_,_,_,_=>by cases h
 | .capf _ _ _::_,_::_,_,_,h,_,_,_,_,_=>by cases h
 | [],_::_,_,r,h,_,_,_,_,_=>by cases h
 | .rd _::_,[],_,r,h,_,_,_,_,_=>by cases h
 | .ow _::_,[],_,r,h,_,_,_,_,_=>by cases h
 | .eat _::_,[],_,r,h,_,_,_,_,_=>by cases h
 | .fn _ _::_,[],_,r,h,_,_,_,_,_=>by cases h
 | .ptr _ _::_,[],_,r,h,_,_,_,_,_=>by cases h
 | .cap _ _::_,[],_,_,h,_,_,_,_,_=>by cases h
 | .capf _ _ _::_,[],_,_,h,_,_,_,_,_=>by cases h
 | .fk _::_,[],_,_,h,_,_,_,_,_=>by cases h
 | .crs _ _::_,[],_,_,h,_,_,_,_,_=>by cases h
 | .kb _ _ _::_,[],_,_,h,_,_,_,_,_=>by cases h
 | .kc _::_,[],_,_,h,_,_,_,_,_=>by cases h
def zr:List PM->Bool
 | [] =>true
 | .ow t::ps=>t.dp&&zr ps
 | .ptr _ t::ps=>t.dp&&zr ps
 | .kb _ _ t::ps=>t.dp&&zr ps
 | _::ps=>zr ps
def DV:(t:Ty)->t.den->List LV->List (Hdr×Chk)
 | .prod a b,d,cs=>DV a d.1 (cs.take a.size)++DV b d.2 (cs.drop a.size)
 | .wr t,d,cs=>DV t d cs
 | .sl E t,d,cs=>match cs with
  | .own h::_=>[(h,.own (.sl E t) d)]
  | _=>[]
 | _,_,_=>[]
def mB (gh:Option GhQ):(ps:List PM)->List AV->kN (outs ps)->List (Hdr×Chk)
 | .ow t::ps,x::xs,d=>((nL x).elim [] fun cs=>DV t d.1 cs)++mB gh ps xs d.2
 | .ptr T t::ps,x::xs,d=>(match x with
  | .one (.ptr h _)=>[(h,.box T t d.1)]
  | _=>[])++mB gh ps xs d.2
 | .rd _::ps,_::xs,d=>mB gh ps xs d
 | .eat _::ps,_::xs,d=>mB gh ps xs d
 | .fn _ _::ps,_::xs,d=>mB gh ps xs d
 | .cap _ _::ps,_::xs,d=>mB gh ps xs d
 | .capf _ _ _::ps,_::xs,d=>mB gh ps xs d
 | .fk _::ps,_::xs,d=>mB gh ps xs d
 | .kc _::ps,_::xs,d=>mB gh ps xs d
 | .kb _ T t::ps,_::xs,d=>(match gh with
  | some (.box h)=>[(h,.box T t d.1)]
  | _=>[])++mB gh ps xs d.2
 | .crs T E::ps,x::xs,d=>(match x,gh with
  | .one (.ptr h _),some (.cur g l)=>[(h,.blk T [.rd g (.sl E (.int .u8)) l,.val (.int .i64 d.1.1),.val (.int .i64 d.1.2)])]
  | _,_=>[])++mB gh ps xs d.2
 | _,_,_=>[]
def XN:Chk->Prop
 | .own _ _=>True
 | .box _ _ _=>True
 | _=>False
theorem vj {g:Hdr×Chk} {ver:Nat} (h:XN g.2) (h1:g.1.id<n) (b:ver<n):okE P w0 J θ n chs (g.1,ver,g.2):=by
 have ⟨a,c⟩:=g;cases c with
 | own _ _=>exact ⟨h1,b,trivial⟩
 | box _ _ _=>exact ⟨h1,b,trivial⟩
 | _=>exact h.elim
def ae5 (P:Program) (w0:World) (J:Hp) (θ:Th) (n:Nat) (c:Chk):Prop:=XN c\/ ∃T cells,c= .blk T cells/\ ∀x∈cells,LV.ok P w0 J θ n x
theorem PH {g:Hdr×Chk} {ver m:Nat} (h:ae5 P w0 J θ m g.2) (d:m<=n) (h1:g.1.id<n) (b:ver<n):okE P w0 J θ n chs (g.1,ver,g.2):=by
 rcases h with h | ⟨T,cells,h,e⟩
 ·exact vj h h1 b
 ·have ⟨a,c⟩:=g;obtain rfl:c=_:=h;exact ⟨h1,b,fun x f=>LV.ok_same Same.rfl d (e x f) Hp.le.rfl⟩
theorem XO {w:World} : ∀ {t:Ty} {d:t.den} {cs:List LV} {C:List Ch},St J w0 w (Ch.own t.rep (cs.map (·.v θ)) d::C)->(∀x∈cs,x.ok P w0 J θ' n)->(∀x∈cs,x.v θ'=x.v θ)->
  St J w0 w ((DV t d cs).map (fun g=>toCh P θ' (g.1,m,g.2))++C)/\ ∀g∈DV t d cs,XN g.2/\g.1.id<n:=by
 intro t;induction t with
 | prod a b r q =>
  intro d cs C h i c;have ⟨z,y,e,u,h⟩:=PA h;rw[a.rep_size] at u;have v:z=(cs.take a.size).map (·.v θ):=by
   simp_all
  have B:y=(cs.drop a.size).map (·.v θ):=by
   grind[List.map_drop,List.drop_left]
  rw[v,B] at h;have ⟨D,M⟩:=r h (fun x j=>i x (List.mem_of_mem_take j)) fun x j=>c x (List.mem_of_mem_take j);have ⟨A,L⟩:=q (D.perm List.perm_middle) (fun x j=>i x (List.mem_of_mem_drop j)) fun x j=>c x (List.mem_of_mem_drop j);refine ⟨?_,fun g f=>?_⟩
  ·show St J w0 w ((DV a d.1 _++DV b d.2 _).map _++C);refine A.perm ?_;grind[aD,List.perm_append_comm_assoc]
  ·rcases aN f with f | f
   ·grind
   grind
 | wr t ih =>
  intro d cs C h i c;exact ih h i c
 | sl E t ih =>
  intro d cs C h i c;cases cs with
  | nil=>exact ⟨h.tail,fun g f=>by cases f⟩
  | cons x l =>
   cases x with
   | own o =>
    have p:l= []:=by
     obtain ⟨I,O,F,⟨G,K,rfl,k,e⟩,H,N⟩:=h
     have:=(Ty.sl E t).rep.own_len k
     have s:((LV.own o::l).map (·.v θ)).length=1:=this;simpa using s
    subst p;refine ⟨?_,fun g f=>?_⟩
    ·have:=c (.own o) (by simp)
     show St J w0 w (Ch.own _ [hv θ' o] d::C);rw[show hv θ' o=hv θ o from this];exact h
    ·cases ax f;exact ⟨trivial,(i (.own o) (by simp)).1⟩
   | _=>exact ⟨h.tail,fun g f=>by cases f⟩
 | _ =>
  intro d cs C h i c;exact ⟨h.tail,fun g f=>by cases f⟩
theorem mC {w:World} {s:Sg} (v:Fine P w0 J θ s) (hs:Same s.nxt θ θ') (H:s.nxt<=m) {γ:Value} {gh:Option GhQ} : ∀ {ps:List PM} {xs:List AV} {D:FT} {chs:List Ent} {r:Args ps} (d:kN (outs ps)) {C:List Ch},dV D s chs ps xs=some r->(∀x∈xs,x.ok P w0 J θ s.nxt s.chs)->(∀e∈chs,e∈s.chs)->(∀q,r.gh=some q->gh=some q/\γ=q.v θ)->St J w0 w (outCh γ ps (xs.map (·.v θ)) d++C)->
  St J w0 w ((mB gh ps xs d).map (fun g=>toCh P θ' (g.1,m,g.2))++C)/\ ∀g∈mB gh ps xs d,ae5 P w0 J θ' m g.2/\g.1.id<s.nxt
 | [],[],D,chs,r,d,C,h,j,hc,hγ,f=>⟨f,fun g i=>by cases i⟩
 | .rd t::ps,x::xs,D,chs,r,d,C,h,j,hc,hγ,f=>by
  have ⟨a,ha,h⟩:=bind_some (show (DR s.chs t x).bind _=some r from h);have ⟨q,u,h⟩:=bind_some h;cases ae h;exact mC v hs H (ps:=ps) d u (fun y I=>j y (by grind)) hc hγ f
 | .ow t::ps,x::xs,D,chs,r,d,C,h,j,hc,hγ,f=>by
  have ⟨i,h⟩:=ak (show bW (qz x==t.isProd) _=some r from h);have i:qz x=t.isProd:=by simpa using i
  have ⟨U,F,h⟩:=bind_some h;have ⟨q,u,h⟩:=bind_some h;have ⟨K,h⟩:=ak h;have ⟨L,l,h⟩:=bind_some h;cases ae h;have Q:=j x (by simp);have ⟨c1,c2⟩:=DU F Q i;have o:=(kj F Q).1;have f:St J w0 w (Ch.own t.rep (nG t.isProd (x.v θ)) d.1::(outCh γ ps (xs.map (·.v θ)) d.2++C)):=f;rw[c1] at f;have ⟨k1,k2⟩:=XO (P:=P) (θ':=θ') (n:=s.nxt) (m:=m) f (fun x j=>LV.ok_same hs (aH _) (o x j) Hp.le.rfl) fun x j=>LV.v_same hs (o x j);have ⟨N,W⟩:=mC v hs H (ps:=ps) d.2 l (fun y I=>j y (by grind)) (fun e K=>hc e ((iy u).mem_iff.2 (by grind))) hγ (k1.perm (List.perm_append_comm_assoc _ _ _));have B:mB gh (.ow t::ps) (x::xs) d=DV t d.1 U++mB gh ps xs d.2:=by
   show ((nL x).elim [] fun U=>DV t d.1 U)++_=_;rw[F];rfl
  rw[B];refine ⟨?_,fun g i=>?_⟩
  ·refine N.perm ?_;grind[aD,List.perm_append_comm_assoc]
  ·rcases aN i with i | i
   ·exact ⟨.inl (k2 g i).1,(k2 g i).2⟩
   grind
 | .eat t::ps,x::xs,D,chs,r,d,C,h,j,hc,hγ,f=>by
  have ⟨i,h⟩:=ak (show bW (qz x==t.isProd) _=some r from h);have ⟨U,F,h⟩:=bind_some h;have ⟨q,u,h⟩:=bind_some h;have ⟨K,h⟩:=ak h;have ⟨L,l,h⟩:=bind_some h;cases ae h;exact mC v hs H (ps:=ps) d l (fun y I=>j y (by grind)) (fun e K=>hc e ((iy u).mem_iff.2 (by grind))) hγ f
 | .fn a b::ps,x::xs,D,chs,r,d,C,h,j,hc,hγ,f=>by
  unfold dV at h;split at h
  ·have ⟨q,u,h⟩:=bind_some h;have ⟨L,l,h⟩:=bind_some h;cases ae h;exact mC v hs H (ps:=ps) d l (fun y I=>j y (by grind)) hc hγ f
  grind
 | .ptr T t::ps,x::xs,D,chs,r,d,C,h,j,hc,hγ,f=>by
  unfold dV at h;split at h
  ·rename_i A off;have ⟨V,h⟩:=ak h;have ⟨q,u,h⟩:=bind_some h;have ⟨L,l,h⟩:=bind_some h;cases ae h;cases aw V;have k:=j (.one (.ptr A 0)) (by simp);have ⟨N,W⟩:=mC v hs H (ps:=ps) (C:=Ch.box (bk (hv θ A)) T t.rep d.1::C) d.2 l (fun y I=>j y (by grind)) (fun e K=>hc e ((ry u).mem_iff.2 (by grind))) hγ (f.perm List.perm_middle.symm);refine ⟨?_,fun g i=>?_⟩
   ·show St J w0 w (Ch.box (bk (hv θ' A)) T t.rep d.1::((mB gh ps xs d.2).map _++C));rw[a7 hs k];exact N.perm List.perm_middle
   ·rcases aN i with i | i
    ·cases ax i;exact ⟨.inl trivial,k⟩
    grind
  grind
 | .fk g::ps,x::xs,D,chs,r,d,C,h,j,hc,hγ,f=>by
  unfold dV at h;split at h
  ·have ⟨hk,h⟩:=ak h;have ⟨L,l,h⟩:=bind_some h;cases ae h;exact mC v hs H (ps:=ps) d l (fun y I=>j y (by grind)) hc hγ f
  grind
 | .crs T E::ps,x::xs,D,chs,r,d,C,h,j,hc,hγ,f=>by
  unfold dV at h;split at h
  ·rename_i A off;have ⟨V,h⟩:=ak h;have ⟨q,u,h⟩:=bind_some h;have ⟨L,l,h⟩:=bind_some h;have ⟨hn,h⟩:=ak h;cases ae h;cases aw V;have ⟨M,i⟩:=hγ _ rfl;have ⟨p,X,K⟩:=qn u;have o:=v.chs _ (hc _ (p.mem_iff.2 (List.mem_cons_self ..)));rw[K] at o;have Y:LV.ok P w0 J θ s.nxt (.rd q.g (.sl E (.int .u8)) q.d.1):=o.2.2 _ (by simp);have k:=j (.one (.ptr A 0)) (by simp);have ⟨N,W⟩:=mC v hs H (ps:=ps) (gh:=gh) (C:=Ch.blk (bk (hv θ A)) [γ,.int .i64 d.1.1,.int .i64 d.1.2] T::C) d.2 l (fun y I=>j y (by grind)) (fun e K=>hc e (p.mem_iff.2 (by grind))) (fun q' R=>by grind) (f.perm List.perm_middle.symm);have B:mB gh (.crs T E::ps) (.one (.ptr A 0)::xs) d= [(A,.blk T [.rd q.g (.sl E (.int .u8)) q.d.1,.val (.int .i64 d.1.1),.val (.int .i64 d.1.2)])] ++mB gh ps xs d.2:=by
    rw[M];rfl
   rw[B];refine ⟨?_,fun g G=>?_⟩
   ·show St J w0 w (Ch.blk (bk (hv θ' A)) [hv θ' q.g,.int .i64 d.1.1,.int .i64 d.1.2] T::((mB gh ps xs d.2).map _++C));rw[a7 hs k,a7 hs Y.1,<-show γ=hv θ q.g from i];exact N.perm List.perm_middle
   ·rcases aN G with G | G
    ·cases ax G;refine ⟨.inr ⟨_,_,rfl,fun z S=>?_⟩,k⟩;rcases az S with rfl | S
     ·grind[LV.ok_same,Hp.le.rfl]
     ·rcases az S with rfl | S
      ·rfl
      ·cases ax S
       rfl
    grind
  grind
 | .kb g T t::ps,x::xs,D,chs,r,d,C,h,j,hc,hγ,f=>by
  unfold dV at h;split at h
  ·rename_i A;have ⟨c,O,h⟩:=bind_some h;have ⟨hk,h⟩:=ak h;have ⟨q,u,h⟩:=bind_some h;have ⟨L,l,h⟩:=bind_some h;have ⟨hn,h⟩:=ak h;cases ae h;have ⟨M,i⟩:=hγ _ rfl;have ⟨X,hm'⟩:=I1 O;have o:=(v.chs _ hm').2.2;have k:=o.2.1 (.ptr c.2 0) (by simp);have f:St J w0 w (Ch.box (bk γ) T t.rep d.1::(outCh γ ps (xs.map (·.v θ)) d.2++C)):=f;have Z:bk γ=bk (hv θ c.2):=by rw[i];rfl
   rw[Z] at f;have ⟨N,W⟩:=mC v hs H (ps:=ps) (gh:=gh) (C:=Ch.box (bk (hv θ c.2)) T t.rep d.1::C) d.2 l (fun y I=>j y (by grind)) (fun e K=>hc e ((ry u).mem_iff.2 (by grind))) (fun q' R=>by grind[I0]) (f.perm List.perm_middle.symm);have B:mB gh (.kb g T t::ps) (.one (.own A)::xs) d= [(c.2,.box T t d.1)] ++mB gh ps xs d.2:=by
    rw[M];rfl
   rw[B];refine ⟨?_,fun g i=>?_⟩
   ·show St J w0 w (Ch.box (bk (hv θ' c.2)) T t.rep d.1::((mB gh ps xs d.2).map _++C));rw[a7 hs k];exact N.perm List.perm_middle
   ·rcases aN i with i | i
    ·cases ax i;exact ⟨.inl trivial,k⟩
    grind
  grind
 | .kc g::ps,x::xs,D,chs,r,d,C,h,j,hc,hγ,f=>by
  unfold dV at h;split at h
  ·have ⟨c,O,h⟩:=bind_some h;have ⟨hk,h⟩:=ak h;have ⟨L,l,h⟩:=bind_some h;have ⟨hn,h⟩:=ak h;exact mC v hs H (ps:=ps) d l (fun y I=>j y (by grind)) hc (fun q' R=>by grind[I0]) f
  grind
 | .cap _ _::_,_::_,_,_,_,_,_,h,_,_,_,_=>by cases h
 | .capf _ _ _::_,_::_,_,_,_,_,_,h,_,_,_,_=>by cases h
 | [],_::_,_,_,_,_,_,h,_,_,_,_=>by cases h
 | .rd _::_,[],_,_,_,_,_,h,_,_,_,_=>by cases h
 | .ow _::_,[],_,_,_,_,_,h,_,_,_,_=>by cases h
 | .eat _::_,[],_,_,_,_,_,h,_,_,_,_=>by cases h
 | .fn _ _::_,[],_,_,_,_,_,h,_,_,_,_=>by cases h
 | .ptr _ _::_,[],_,_,_,_,_,h,_,_,_,_=>by cases h
 | .cap _ _::_,[],_,_,_,_,_,h,_,_,_,_=>by cases h
 | .capf _ _ _::_,[],_,_,_,_,_,h,_,_,_,_=>by cases h
 | .fk _::_,[],_,_,_,_,_,h,_,_,_,_=>by cases h
 | .crs _ _::_,[],_,_,_,_,_,h,_,_,_,_=>by cases h
 | .kb _ _ _::_,[],_,_,_,_,_,h,_,_,_,_=>by cases h
 | .kc _::_,[],_,_,_,_,_,h,_,_,_,_=>by cases h
end
theorem BX {l m:List Ch} (h:Ch.deeps l) (k:Ch.deeps m):Ch.deeps (l++m):=by
 induction l with
 | nil=>exact k
 | cons c l ih=>exact ⟨h.1,ih h.2⟩
theorem wI {v:Value} : ∀(ts:List Ty) (i:Nat) (d:kN ts),Le ts=true->Ch.deeps (AS i ts d v)
 | [],_,_,_=>trivial
 | t::ts,i,d,h=>by
  have h:(t.dp&&Le ts)=true:=h;rw[al] at h;exact ⟨DE (Ty.dp_ok h.1),wI ts (i+1) d.2 h.2⟩
theorem Hz {v:Value} (ts:List Ty) (d:kN ts) (h:Le ts=true):Ch.deeps (resGv ts d v):=by
 match ts,d,h with
 | [t],d,h =>
  have h:(t.dp&&true)=true:=h;rw[Bool.and_true] at h;exact ⟨DE (Ty.dp_ok h),trivial⟩
 | [],d,h=>exact wI (v:=v) [] 0 d h
 | _::_::_,d,h=>exact wI (v:=v) _ 0 d h
def Ty.fin:Ty->Bool
 | .int _=>true
 | .bool=>true
 | .str=>true
 | .prod a b=>a.fin&&b.fin
 | .wr t=>t.fin
 | _=>false
theorem Ty.fin_ok: ∀ {t:Ty},t.fin=true->t.rep.Fin
 | .int _,_=>IJ
 | .bool,_=>IJ (h1:=fun _=>rfl)
 | .str,_=>IJ (h1:=fun _=>rfl)
 | .raw,h=>by cases h
 | .prod a b,h=>by
  have h:(a.fin&&b.fin)=true:=h;rw[al] at h;exact XA (fin_ok h.1) (fin_ok h.2)
 | .wr t,h=>fin_ok (t:=t) h
 | .sl _ _,h=>by cases h
 | .fro _,h=>by cases h
 | .bag _,h=>by cases h
 | .tree _ _ _,h=>by cases h
def recT:Ty->Bool
 | .tree _ _ u=>u.fin
 | _=>false
theorem TS {t:Ty} (h:recT t=true) {cs:List Value} {d:t.den} :(Ch.own t.rep cs d).recl:=by
 cases t with
 | tree T E u=>exact Tc (Ty.fin_ok h)
 | _=>cases h
def I2:List Ty->Bool
 | [] =>true
 | t::ts=>(t.dp&&I2 ts) || (recT t&&Le ts)
theorem AZ {v:Value} {D:List Ch} (a:Ch.deeps D): ∀(ts:List Ty) (i:Nat) (d:kN ts),I2 ts=true->Ch.back (AS i ts d v++D)
 | [],_,_,_=>Ch.back_deeps a
 | t::ts,i,d,h=>by
  have h:((t.dp&&I2 ts) || (recT t&&Le ts))=true:=h;rw[Bool.or_eq_true,al,al] at h;rcases h with h | h
  ·exact .inl ⟨DE (Ty.dp_ok h.1),AZ a ts (i+1) d.2 h.2⟩
  ·exact .inr ⟨TS h.1,BX (wI ts (i+1) d.2 h.2) a⟩
theorem A0 {v:Value} {D:List Ch} (a:Ch.deeps D) (ts:List Ty) (d:kN ts) (h:I2 ts=true):Ch.back (resGv ts d v++D):=by
 match ts,d,h with
 | [t],d,h =>
  have h:((t.dp&&true) || (recT t&&true))=true:=h;rw[Bool.and_true,Bool.and_true,Bool.or_eq_true] at h;rcases h with h | h
  ·exact .inl ⟨DE (Ty.dp_ok h),Ch.back_deeps a⟩
  ·exact .inr ⟨TS h,a⟩
 | [],d,h=>exact AZ (v:=v) a [] 0 d h
 | _::_::_,d,h=>exact AZ (v:=v) a _ 0 d h
theorem aaF {α:Type} {b:Nat} {T:TypeId} {R:Rep α} {d:α} (h:R.Dp):(Ch.box b T R d).deep:=by
 rintro I J w F ⟨cells,G,rfl,a,c⟩;exact ⟨cells,G,rfl,a,h c⟩
theorem eD {γ:Value} : ∀(ps:List PM) (vs:List Value) (d:kN (outs ps)),zr ps=true->Ch.deeps (outCh γ ps vs d)
 | [],vs,_,_=>by cases vs <;> trivial
 | .ow t::ps,[],d,h=>trivial
 | .ow t::ps,v::vs,d,h=>by
  have h:(t.dp&&zr ps)=true:=h;rw[al] at h;exact ⟨DE (Ty.dp_ok h.1),eD ps vs d.2 h.2⟩
 | .ptr T t::ps,[],d,h=>trivial
 | .ptr T t::ps,v::vs,d,h=>by
  have h:(t.dp&&zr ps)=true:=h;rw[al] at h;exact ⟨aaF (Ty.dp_ok h.1),eD ps vs d.2 h.2⟩
 | .rd _::ps,[],d,h=>trivial
 | .rd _::ps,v::vs,d,h=>eD ps vs d h
 | .eat _::ps,[],d,h=>trivial
 | .eat _::ps,v::vs,d,h=>eD ps vs d h
 | .fn _ _::ps,[],d,h=>trivial
 | .fn _ _::ps,v::vs,d,h=>eD ps vs d h
 | .cap _ _::ps,[],d,h=>trivial
 | .cap _ _::ps,v::vs,d,h=>eD ps vs d h
 | .capf _ _ _::ps,[],d,h=>trivial
 | .fk _::ps,[],d,h=>trivial
 | .capf _ _ _::ps,v::vs,d,h=>eD ps vs d h
 | .fk _::ps,v::vs,d,h=>eD ps vs d h
 | .crs _ _::ps,[],d,h=>trivial
 | .kb _ _ _::ps,[],d,h=>trivial
 | .kc _::ps,[],d,h=>trivial
 | .kb _ T t::ps,v::vs,d,h=>by
  have h:(t.dp&&zr ps)=true:=h;rw[al] at h;exact ⟨aaF (Ty.dp_ok h.1),eD ps vs d.2 h.2⟩
 | .kc _::ps,v::vs,d,h=>eD ps vs d h
 | .crs _ _::ps,v::vs,d,h=>⟨aeN,eD ps vs d.2 h⟩
theorem jE {id:Nat} {pth:Nat->List Nat} : ∀(t:Ty) (d:t.den) (j:Nat),∀g∈ug id pth t d j,XN g.2
 | .prod a b,d,j=>fun g c=>by
  rcases aN c with c | c
  ·exact jE a d.1 j g c
  ·exact jE b d.2 _ g c
 | .sl E t,d,j=>fun g c=>by cases ax c;trivial
 | .wr t,d,j=>jE t d j
 | .int _,_,_=>fun g c=>by cases c
 | .bool,_,_=>fun g c=>by cases c
 | .str,_,_=>fun g c=>by cases c
 | .raw,_,_=>fun g c=>by cases c
 | .fro _,_,_=>fun g c=>by cases c
 | .bag _,_,_=>fun g c=>by cases c
 | .tree _ _ _,d,j=>fun g c=>by cases ax c;trivial
theorem yo {id:Nat} : ∀(i:Nat) (ts:List Ty) (d:kN ts),∀g∈BW id i ts d,XN g.2
 | _,[],_=>fun g a=>by cases a
 | i,t::ts,d=>fun g a=>by
  rcases aN a with a | a
  ·exact jE t d.1 0 g a
  ·exact yo (i+1) ts d.2 g a
theorem tm {id:Nat} (ts:List Ty) (d:kN ts): ∀g∈zn id ts d,XN g.2:=by
 match ts,d with
 | [t],d=>exact jE t d.1 0
 | [],d=>exact yo (id:=id) 0 [] d
 | _::_::_,d=>exact yo (id:=id) 0 _ d
theorem zt {g:Hdr×Chk} {ver:Nat} {c:Chk} (h:XN g.2) (k:SaysH g.2 ver c):False:=by
 have ⟨a,x⟩:=g;cases x <;> first | exact h.elim | exact k.elim
theorem XP {h:Hdr} {chs:List Ent} {q:Row} (a:rowOf h chs=some q) {e:Ent} (b:e∈chs) (h1:e.1=h):e=q.ent h:=by
 have ⟨p,k⟩:=bK a;grind
theorem TU {h:Hdr} {chs:List Ent} {q:TreeE} (a:Lf h chs=some q) {e:Ent} (b:e∈chs) (h1:e.1=h):e=q.ent h:=by
 have ⟨p,k⟩:=TK a;grind
theorem XQ {h:Hdr} {chs:List Ent} {q:Blk} (b:aev h chs=some q) {e:Ent} (a:e∈chs) (h1:e.1=h):e=q.ent h:=by
 have ⟨p,k⟩:=TL b;rcases az ((mz p).mem_iff.1 a) with rfl | a
 ·rfl
 grind
theorem OpT.post {P:Program} {w0:World} {o:Oper} {I:Hp} {ev:Operand->Value} {rn:List Ch} {fact a:Value->Prop} {gv b:Value->List Ch} (h:OpT P I w0 o ev rn fact gv) (hp: ∀v w C,fact v->St I w0 w (gv v++C)->a v/\St I w0 w (b v++C)):OpT P I w0 o ev rn a b :=
 fun w C c=>(h w C c).imp fun v w hv=>hp v w C hv.1 hv.2
theorem OpT.sepTo {P:Program} {w0:World} {o:Oper} {I:Hp} {ev:Operand->Value} {l a:List Ch} {fact:Value->Prop} {gv:Value->List Ch} (k:vd I l a) (h:OpT P I w0 o ev a fact gv):OpT P I w0 o ev l fact gv:=fun w C f=>by
 have ⟨c,j,F,d,b,i⟩:=f;obtain ⟨G,K,rfl,e,g⟩:=d.split;exact h w C ⟨c,j,G++K,(k w G e).append g,b,i⟩
section
variable {Y:Type} (ft:FT) (s:Sg) (k:Res->Option Y)
def NA (s:Sg):List Operand->Option (List AV)
 | [] =>some []
 | x::xs=>(opd s x).bind fun v=>(NA s xs).bind fun vs=>some (v::vs)
def PI (f:FS) (xs:List AV) (kx:List Ent->List Ent->List Ent->Option GhQ->dens (f.rs++outs f.ps)->Option Y):Option Y:=(dV ft s s.chs f.ps xs).bind fun a =>
 (IZ (Nz a.lent []) a.rest).bind fun pl=>match (Le f.rs&&zr f.ps) || pl.1.isEmpty with
 | true=>(appP f.ps f.m a.d).bind fun r=>kx pl.1 a.own pl.2 a.gh r
 | false=>bW (I2 f.rs&&zr f.ps) ((appP f.ps f.m a.d).bind fun r=>kx [] (a.own++pl.1) pl.2 a.gh r)
def acI (f : FS) (xs : List AV) (L M R : List Ent) (gh : Option GhQ) (r : dens (f.rs ++ outs f.ps)) : Option Y :=
    k ⟨L, M, R, zn s.nxt f.rs (hFst f.rs (outs f.ps) (toH _ r)) ++ mB gh f.ps xs (hSnd f.rs (outs f.ps) (toH _ r)), Nw s.nxt f.rs (hFst f.rs (outs f.ps) (toH _ r))⟩
def aaG (g:FuncId) (xs:List Operand):Option Y:=(fs ft g).bind fun f=>bW (!f.ov)<|(NA s xs).bind fun vs=>PI ft s f vs (acI s k f vs)
def ait:(ts:List Ty)->kN ts->Int
 | [.sl _ t],d=>((List.length (α:=t.den) d.1:Nat):Int)
 | _,_=>1
def TV (ts:List Ty) (d:kN ts):Bool:=decide (ait ts d=0)
def aaH (g : FuncId) (xs : List Operand) : Option Y := (fs ft g).bind fun f => bW (!f.ov) <| (NA s xs).bind fun vs => PI ft s f vs fun L M R gh r =>
    if TV f.rs (hFst f.rs (outs f.ps) (toH _ r)) then k ⟨L, M, R, mB gh f.ps vs (hSnd f.rs (outs f.ps) (toH _ r)), .one (.val (.slice none 0 0))⟩
    else acI s k f vs L M R gh r
def ae6 (f:FS) (n:Nat):Bool:=match f.ps.drop n with
 | [.ptr _ _] =>true
 | _=>false
def PJ (t n:Nat):Option (FuncId×Hdr):=match look s.env t with
 | some (.one (.own h))=>(agC h s.chs).bind fun c=>(fs ft c.1).bind fun f=>match ae6 f n with
  | true=>some c
  | false=>none
 | _=>none
def aaI (c:FuncId×Hdr) (xs:List Operand):Option Y:=(fs ft c.1).bind fun f=>bW (!f.ov)<|(NA s xs).bind fun vs=>PI ft s f (vs++ [.one (.ptr c.2 0)]) (acI s k f (vs++ [.one (.ptr c.2 0)]))
def aiV (n:Nat):LV->Option (List Ty×List Ty)
 | .fn _ a b _=>some (a,b)
 | .own h=>(TN h s.chs).bind fun q=>(fs ft q.1).bind fun f=>(acD ((f.ps.drop q.2.1.length).take n)).bind fun a=>some (a,f.rs++outs f.ps)
 | _=>none
def acJ:(ts:List Ty)->List Operand->Option (kN ts×List Hdr)
 | [],[] =>some ((),[])
 | t::ts,x::xs=>(opd s x).bind fun v=>(DR s.chs t v).bind fun a=>(acJ ts xs).bind fun r=>some ((a.1,r.1),a.2++r.2)
 | _,_=>none
def TW (t:Nat) (xs:List Operand):Option Y:=(oneOf0 (look s.env t)).bind fun y=>(aiV ft s xs.length y).bind fun ab=>(acG ft s.chs 4 ab.1 ab.2 y).bind fun q=>(acJ s ab.1 xs).bind fun d =>
 (IZ (Nz (q.lent++d.2) []) s.chs).bind fun pl=>bW (Le ab.2) ((app ab.1 q.e d.1).bind fun r=>k ⟨pl.1,[],pl.2,zn s.nxt ab.2 (toH _ r),Nw s.nxt ab.2 (toH _ r)⟩)
where oneOf0:Option AV->Option LV
 | some (.one x)=>some x
 | _=>none
end
section
variable {Y:Type} {ft:FT} {s:Sg} {k:Res->Option Y} {P:Program} {w0:World} {o:Oper} {res:Y}
theorem I3 {J:Hp} {θ:Th} {hs:List Hdr} {l:List Ent} (m:l.map (·.1)=Nz hs []) (b: ∀e∈l,e∈s.chs) (j: ∀ {α:Type} (R:Rep α) (v:List Value) (a:α),Ch.own R v a∈l.map (toCh P θ)->R.rd J v a) (p: ∀g c E,Ch.blk g c E∈l.map (toCh P θ)->J g=some (.cells c.toArray E (0,0))):Lent J θ s.chs hs:=fun h n=>by
 have r:h∈l.map (·.1):=by
  rw[m];rcases DT (acc:=[]) n with d | d
  ·exact d
  ·cases d
 have ⟨e,f,d⟩:=List.mem_map.1 r;refine ⟨fun q i=>?_,fun q i=>?_,fun q i=>?_⟩
 ·have:=XP i (b e f) d
  subst this;exact j _ _ _ (List.mem_map.2 ⟨_,f,rfl⟩)
 ·have:=TU i (b e f) d
  subst this;exact j _ _ _ (List.mem_map.2 ⟨_,f,rfl⟩)
 ·have:=XQ i (b e f) d
  subst this;exact p _ _ _ (List.mem_map.2 ⟨_,f,rfl⟩)
theorem gg: ∀ {ps:List PM} {xs:List AV} {chs:List Ent} {r:Args ps},dV ft s chs ps xs=some r->chs.Perm (r.own++r.rest)
 | [],[],chs,r,h=>by cases ae (show some _=some r from h);rfl
 | .rd t::ps,x::xs,chs,r,h=>by
  have ⟨a,w,h⟩:=bind_some (show (DR s.chs t x).bind _=some r from h);have ⟨q,e,h⟩:=bind_some h;cases ae h;exact gg (ps:=ps) e
 | .ow t::ps,x::xs,chs,r,h=>by
  have ⟨v,h⟩:=ak (show bW (qz x==t.isProd) _=some r from h);have ⟨m,i,h⟩:=bind_some h;have ⟨q,e,h⟩:=bind_some h;have ⟨n,h⟩:=ak h;have ⟨f,d,h⟩:=bind_some h;cases ae h;show chs.Perm ((q.used++f.own)++f.rest);rw[aD];exact (iy e).trans ((gg d).append_left _)
 | .eat t::ps,x::xs,chs,r,h=>by
  have ⟨v,h⟩:=ak (show bW (qz x==t.isProd) _=some r from h);have ⟨m,i,h⟩:=bind_some h;have ⟨q,e,h⟩:=bind_some h;have ⟨n,h⟩:=ak h;have ⟨f,d,h⟩:=bind_some h;cases ae h;rw[aD];exact (iy e).trans ((gg d).append_left _)
 | .fn a b::ps,x::xs,chs,r,h=>by
  unfold dV at h;split at h
  ·have ⟨q,e,h⟩:=bind_some h;have ⟨f,d,h⟩:=bind_some h;cases ae h;exact gg (ps:=ps) d
  grind
 | .ptr T t::ps,x::xs,chs,r,h=>by
  unfold dV at h;split at h
  ·have ⟨p,h⟩:=ak h;have ⟨q,e,h⟩:=bind_some h;have ⟨f,d,h⟩:=bind_some h;cases ae h;rw[aD];exact (ry e).trans ((gg d).append_left _)
  grind
 | .crs T E::ps,x::xs,chs,r,h=>by
  unfold dV at h;split at h
  ·have ⟨p,h⟩:=ak h;have ⟨q,e,h⟩:=bind_some h;have ⟨f,d,h⟩:=bind_some h;have ⟨j,h⟩:=ak h;cases ae h;exact (qn e).1.trans ((gg d).cons _)
  grind
 | .fk g::ps,x::xs,chs,r,h=>by
  unfold dV at h;split at h
  ·have ⟨l,h⟩:=ak h;have ⟨f,d,h⟩:=bind_some h;cases ae h;exact gg (ps:=ps) d
  grind
 | .kb g T t::ps,x::xs,chs,r,h=>by
  unfold dV at h;split at h
  ·have ⟨c,u,h⟩:=bind_some h;have ⟨l,h⟩:=ak h;have ⟨q,e,h⟩:=bind_some h;have ⟨f,d,h⟩:=bind_some h;have ⟨j,h⟩:=ak h;cases ae h;rw[aD];exact (ry e).trans ((gg d).append_left _)
  grind
 | .kc g::ps,x::xs,chs,r,h=>by
  unfold dV at h;split at h
  ·have ⟨c,u,h⟩:=bind_some h;have ⟨l,h⟩:=ak h;have ⟨f,d,h⟩:=bind_some h;have ⟨j,h⟩:=ak h;cases ae h;exact gg (ps:=ps) d
  grind
 | .kb _ _ _::_,[],_,_,h=>by cases h
 | .kc _::_,[],_,_,h=>by cases h
 | .cap _ _::_,_::_,_,_,h=>by cases h
 | .capf _ _ _::_,_::_,_,_,h=>by cases h
 | [],_::_,_,r,h=>by cases h
 | .rd _::_,[],_,r,h=>by cases h
 | .ow _::_,[],_,r,h=>by cases h
 | .eat _::_,[],_,r,h=>by cases h
 | .fn _ _::_,[],_,r,h=>by cases h
 | .ptr _ _::_,[],_,r,h=>by cases h
 | .cap _ _::_,[],_,_,h=>by cases h
 | .capf _ _ _::_,[],_,_,h=>by cases h
 | .fk _::_,[],_,_,h=>by cases h
 | .crs _ _::_,[],_,_,h=>by cases h
theorem Rk: ∀ {t:Ty} {d:t.den} {cs:List LV},∀g∈DV t d cs,XN g.2:=by
 intro t;induction t with
 | prod a b i f =>
  intro d cs g c;rcases aN c with c | c
  ·grind
  grind
 | wr t e=>intro d cs g c;exact e g c
 | sl E t e =>
  intro d cs g c;cases cs with
  | nil=>cases c
  | cons x l =>
   cases x with
   | own h=>cases ax c;trivial
   | _=>cases c
 | _=>intro d cs g c;cases c
theorem eU {gh:Option GhQ} : ∀ {ps:List PM} {xs:List AV} {d:kN (outs ps)},∀g∈mB gh ps xs d,∀b c,SaysH g.2 b c->False
 | [],xs,d=>fun g a=>by cases xs <;> cases a
 | .ow t::ps,[],d=>fun g a=>by cases a
 | .ow t::ps,x::xs,d=>fun g a=>by
  rcases aN a with a | a
  ·cases e:nL x with
   | none=>grind
   | some cs=>grind[zt,Rk]
  ·exact eU g a
 | .ptr T t::ps,[],d=>fun g a=>by cases a
 | .ptr T t::ps,x::xs,d=>fun g a=>by
  rcases aN a with a | a
  ·split at a
   ·cases ax a;exact fun b c k=>k
   grind
  ·exact eU g a
 | .rd _::ps,[],d=>fun g a=>by cases a
 | .rd _::ps,_::xs,d=>eU (ps:=ps)
 | .eat _::ps,[],d=>fun g a=>by cases a
 | .eat _::ps,_::xs,d=>eU (ps:=ps)
 | .fn _ _::ps,[],d=>fun g a=>by cases a
 | .fn _ _::ps,_::xs,d=>eU (ps:=ps)
 | .cap _ _::ps,[],d=>fun g a=>by cases a
 | .cap _ _::ps,_::xs,d=>eU (ps:=ps)
 | .capf _ _ _::ps,[],d=>fun g a=>by cases a
 | .fk _::ps,[],d=>fun g a=>by cases a
 | .capf _ _ _::ps,_::xs,d=>eU (ps:=ps)
 | .fk _::ps,_::xs,d=>eU (ps:=ps)
 | .kc _::ps,[],d=>fun g a=>by cases a
 | .kc _::ps,_::xs,d=>eU (ps:=ps)
 | .kb _ T t::ps,[],d=>fun g a=>by cases a
 | .kb _ T t::ps,x::xs,d=>fun g a=>by
  rcases aN a with a | a
  ·split at a
   ·cases ax a;exact fun b c k=>k
   grind
  ·exact eU g a
 | .crs T E::ps,[],d=>fun g a=>by cases a
 | .crs T E::ps,x::xs,d=>fun g a=>by
  rcases aN a with a | a
  ·split at a
   ·cases ax a;exact fun b c k=>k
   grind
  ·exact eU g a
theorem XR {α:Type} (A L O C:List α):(A++(L++(O++C))).Perm (O++(A++(L++C))):=by
 grind[aD,List.perm_append_comm_assoc]
theorem TX {α:Type} (B A L C:List α):(B++(A++(L++C))).Perm (L++(A++B)++C):=by
 have h:(B++(A++L)).Perm (L++(A++B)):=List.perm_append_comm.trans ((List.Perm.of_eq (aD ..)).trans (List.perm_append_comm_assoc _ _ _))
 have:=h.append_right C
 grind
theorem XS {P:Program} {I:Hp} {w0:World} {o:Oper} {ev:Operand->Value} {ls rn:List Ch} {fact:Value->Prop} {gv:Value->List Ch} (e: ∀v,Ch.back (gv v))
  (h: ∀J,I.le J->(∀ {α:Type} (R:Rep α) (v:List Value) (a:α),Ch.own R v a∈ls->R.rd J v a)->(∀g l E,Ch.blk g l E∈ls->J g=some (.cells l.toArray E (0,0)))->OpT P J w0 o ev rn fact gv):OpT P I w0 o ev (ls++rn) fact gv:=by
 intro w C c;rw[aD] at c;have ⟨J,b,i,f,d,m⟩:=TJ c;exact (h J b i f w _ d).imp fun v j hv=>⟨hv.1,hv.2.back b (e v)⟩
theorem TY {α:Type} (L G O C:List α):(L++(G++O)++C).Perm (O++(L++C)++G):=by
 refine (List.Perm.append_right C List.perm_append_comm).trans ?_;grind[aD,List.perm_append_comm]
theorem T0 {ts:List Ty} {d:kN ts} {v:Value} (h:TV ts d=true) (k:BV ts d v):v= .slice none 0 0:=by
 have h:=of_decide_eq_true h;unfold ait at h;split at h
 ·exact k (Int.ofNat.inj h)
 omega
def ghV (θ:Th):Option GhQ->Value
 | some q=>q.v θ
 | none=>undef
theorem HA {θ:Th} {o:Option GhQ} : ∀q,o=some q->ghV θ o=q.v θ:=fun q h=>by rw[h];rfl
theorem I4 {J:Hp} {θ:Th} (d:Fine P w0 J θ s): ∀ {xs:List Operand} {vs:List AV},NA s xs=some vs->xs.map (evL (envL θ s))=vs.map (·.v θ)/\ ∀x∈vs,x.ok P w0 J θ s.nxt s.chs
 | [],vs,h=>by cases ae (show some _=some vs from h);grind
 | x::xs,vs,h=>by
  have ⟨v,a,h⟩:=bind_some (show (opd s x).bind _=some vs from h);have ⟨g,b,h⟩:=bind_some h;cases ae h;have ⟨e,f⟩:=I4 d b;refine ⟨by rw[List.map_cons,List.map_cons,e,aG (θ:=θ) a],fun y c=>?_⟩;rcases az c with rfl | c
  ·exact bQ d a
  ·exact f y c
def PK (P:Program) (w0:World) (s:Sg) (cv:Operand) (g:FuncId) (xs:List Operand) (vs:List AV):Prop:= ∀J θ,Fine P w0 J θ s-> ∃cap:Array Value,evL (envL θ s) cv= .func (.func g) #[] cap/\xs.map (evL (envL θ s))++cap.toList=vs.map (·.v θ)/\ ∀x∈vs,x.ok P w0 J θ s.nxt s.chs
theorem PL {g:FuncId} {xs:List Operand} {vs:List AV} (h:NA s xs=some vs):PK P w0 s (.func g) g xs vs:=fun J θ b=>by
 have ⟨c,a⟩:=I4 b h;exact ⟨#[],rfl,by grind,a⟩
theorem XT {t n:Nat} {c:FuncId×Hdr} {xs:List Operand} {vs:List AV} (hp:PJ ft s t n=some c) (h:NA s xs=some vs):PK P w0 s (.tmp t) c.1 xs (vs++ [.one (.ptr c.2 0)]):=fun J θ j=>by
 unfold PJ at hp;split at hp
 ·rename_i q i;obtain ⟨b,l,hp⟩:=bind_some hp;obtain ⟨f,m,hp⟩:=bind_some hp;split at hp
  ·obtain rfl:=ae hp;obtain ⟨v,r⟩:=I4 j h;obtain ⟨p,u⟩:=I1 l;have d:=(j.chs _ u).2.2;have g:hv θ q= .func (.func b.1) #[] #[.pointer (some ⟨bk (hv θ b.2),0,none⟩)]:=d.2.2;have e:b.2.id<s.nxt:=d.2.1 (.ptr b.2 0) (by simp);refine ⟨#[.pointer (some ⟨bk (hv θ b.2),0,none⟩)],?_,?_,fun x a=>?_⟩
   ·rw[<-g];exact aG (x:=.tmp t) (θ:=θ) i
   ·rw[v,aU];rfl
   ·rcases aN a with a | a
    ·exact r x a
    ·obtain rfl:=ax a;exact e
  ·cases hp
 ·cases hp
theorem DW (N:FTok P ft) {f:FS} {g:FuncId} (q:Enters P g) {fact:dens (f.rs++outs f.ps)->Value->Prop} (l: ∀w0 J γ vs (d:denP f.ps) r,Lay P J->PArgs P w0 J γ f.ps vs d->appP f.ps f.m d=some r->
  Con P g vs.toArray J w0 (owCh γ f.ps vs d) (fact r) (fun v=>resGv f.rs (hFst f.rs (outs f.ps) (toH _ r)) v++outCh γ f.ps vs (hSnd f.rs (outs f.ps) (toH _ r)))) {xs:Array Operand} {ts:Array TypeId} {X:Operand} {vs:List AV} (w:PK P w0 s X g xs.toList vs) (O:o.op= .call { callee:=.value X,args:=xs,argTypes:=ts }) {V:List Ent->List Ent->List Ent->Option GhQ->dens (f.rs++outs f.ps)->Option Y} (h:PI ft s f vs V=some res) :
  ∃L M R r a,V L M R a.gh r=some res/\s.chs.Perm (L++M++R)/\dV ft s s.chs f.ps vs=some a/\ ∀J θ,Fine P w0 J θ s->OpT P J w0 o (evL (envL θ s)) (L.map (toCh P θ)++M.map (toCh P θ)) (fact r) (fun v=>L.map (toCh P θ)++(resGv f.rs (hFst f.rs (outs f.ps) (toH _ r)) v++outCh (ghV θ a.gh) f.ps (vs.map (·.v θ)) (hSnd f.rs (outs f.ps) (toH _ r)))):=by
 obtain ⟨a,u,h⟩:=bind_some h;obtain ⟨C,i,h⟩:=bind_some h;obtain ⟨Z,T⟩:=AY i;have K:s.chs.Perm (a.own++a.rest):=gg u;have b:s.chs.Perm (C.1++a.own++C.2):=by
  refine K.trans ((Z.append_left a.own).trans ?_);rw[aD];exact List.perm_append_comm_assoc _ _ _
 split at h
 ·rename_i n;obtain ⟨r,G,h⟩:=bind_some h;rw[Bool.or_eq_true,al] at n;refine ⟨_,_,_,r,a,h,b,u,fun J θ m=>?_⟩;obtain ⟨cap,F,B,D⟩:=w J θ m;rcases n with ⟨Q,H⟩ | n
  ·refine zp (fun v=>BX (Hz _ _ Q) (eD _ _ _ H)) fun S y t p=>?_;obtain ⟨A,W,z⟩:=gI N m y u D (fun e j=>j) (I3 T (fun e j=>b.mem_iff.2 (by simp[j])) t p) (ghV θ a.gh) HA;exact OpT.sepTo z (ru q O F (by rw[List.nil_append,B]) (l w0 S (ghV θ a.gh) _ a.d r (m.lay.mono y) A G))
  ·have i:C.1= []:=List.isEmpty_iff.1 n;obtain ⟨A,W,z⟩:=gI N m Hp.le.rfl u D (fun e j=>j) (I3 (P:=P) T (fun e j=>b.mem_iff.2 (by simp[j])) (by rw[i];intro α R v x U;cases U) (by rw[i];intro g c E U;cases U)) (ghV θ a.gh) HA;rw[i];exact OpT.sepTo z (ru q O F (by rw[List.nil_append,B]) (l w0 J (ghV θ a.gh) _ a.d r m.lay A G))
 ·obtain ⟨n,h⟩:=ak h;obtain ⟨r,G,h⟩:=bind_some h;rw[al] at n;refine ⟨[],_,_,r,a,h,(by
   rw[List.nil_append];refine b.trans ?_;exact List.Perm.append_right _ List.perm_append_comm),u,fun J θ m=>?_⟩
  obtain ⟨cap,F,B,D⟩:=w J θ m
  have:=XS (P:=P) (I:=J) (w0:=w0) (o:=o) (ev:=evL (envL θ s)) (ls:=C.1.map (toCh P θ)) (rn:=a.own.map (toCh P θ)) (fact:=fact r) (gv:=fun v=>resGv f.rs (hFst f.rs (outs f.ps) (toH _ r)) v++outCh (ghV θ a.gh) f.ps (vs.map (·.v θ)) (hSnd f.rs (outs f.ps) (toH _ r))) (fun v=>A0 (eD _ _ _ n.2) _ _ n.1) fun S y t p=>by
    obtain ⟨A,W,z⟩:=gI N m y u D (fun e j=>j) (I3 T (fun e j=>b.mem_iff.2 (by simp[j])) t p) (ghV θ a.gh) HA;exact OpT.sepTo z (ru q O F (by rw[List.nil_append,B]) (l w0 S (ghV θ a.gh) _ a.d r (m.lay.mono y) A G))
  rw[List.map_nil,List.nil_append,aU];exact OpT.permN List.perm_append_comm this
section
variable {f:FS} {vs:List AV} {L M R:List Ent} {r:dens (f.rs++outs f.ps)} {a:Args f.ps} (hvs: ∀J θ,Fine P w0 J θ s-> ∀x∈vs,x.ok P w0 J θ s.nxt s.chs)
include hvs
theorem DX (F:dV ft s s.chs f.ps vs=some a) (h:s.chs.Perm (L++M++R))
  (h1: ∀J θ,Fine P w0 J θ s->OpT P J w0 o (evL (envL θ s)) (L.map (toCh P θ)++M.map (toCh P θ)) (resFa f.rs) (fun v=>L.map (toCh P θ)++(resGv f.rs (hFst f.rs (outs f.ps) (toH _ r)) v++outCh (ghV θ a.gh) f.ps (vs.map (·.v θ)) (hSnd f.rs (outs f.ps) (toH _ r))))) :
  Good P w0 s o ⟨L,M,R,zn s.nxt f.rs (hFst f.rs (outs f.ps) (toH _ r))++mB a.gh f.ps vs (hSnd f.rs (outs f.ps) (toH _ r)),Nw s.nxt f.rs (hFst f.rs (outs f.ps) (toH _ r))⟩:=by
 have u: ∀g∈zn s.nxt f.rs (hFst f.rs (outs f.ps) (toH _ r))++mB a.gh f.ps vs (hSnd f.rs (outs f.ps) (toH _ r)),∀d c,SaysH g.2 d c->False:=fun g b=>by
  rcases aN b with b | b
  ·exact fun d c k=>zt (tm _ _ g b) k
  ·exact eU g b
 refine ⟨h,fun J θ l g b d c H=>(u g b d c H).elim,fun J θ l=>?_⟩;rw[aU];refine OpT.post (h1 J θ l) fun v w C p t=>?_;have j:St J w0 w (resGv f.rs (hFst f.rs (outs f.ps) (toH _ r)) v++(L.map (toCh P θ)++(outCh (ghV θ a.gh) f.ps (vs.map (·.v θ)) (hSnd f.rs (outs f.ps) (toH _ r))++C))):=by
  refine t.perm ?_;rw[aD,aD];exact List.perm_append_comm_assoc _ _ _
 have ⟨G,E,I,A⟩:=PE (P:=P) (m:=s.nxt) (θ:=upd θ s.nxt v) (n:=s.nxt+1) (chs:=Res.chs ⟨L,M,R,zn s.nxt f.rs (hFst f.rs (outs f.ps) (toH _ r))++mB a.gh f.ps vs (hSnd f.rs (outs f.ps) (toH _ r)),Nw s.nxt f.rs (hFst f.rs (outs f.ps) (toH _ r))⟩ s.nxt) (ay _) (ix (vs:=θ) (i:=s.nxt) (v:=v)) f.rs (hFst f.rs (outs f.ps) (toH _ r)) _ p j;have z:=A.perm (XR _ _ _ _);have ⟨B,y⟩:=mC (P:=P) (θ:=θ) (θ':=upd θ s.nxt v) (m:=s.nxt) l Same.upd (aH _) (hSnd f.rs (outs f.ps) (toH _ r)) F (hvs J θ l) (fun e D=>D) (fun q x=>⟨x,HA q x⟩) z;refine ⟨⟨G,E,fun g b=>?_⟩,?_⟩
 ·rcases aN b with b | b
  ·exact vj (tm _ _ g b) (by grind) (ay _)
  ·exact PH (y g b).1 (Nat.le_succ _) (aW (y g b).2) (ay _)
 ·rw[aU];exact B.perm (TX _ _ _ _)
theorem Rl (y:dV ft s s.chs f.ps vs=some a) (b:s.chs.Perm (L++M++R)) (z:TV f.rs (hFst f.rs (outs f.ps) (toH _ r))=true)
  (h1: ∀J θ,Fine P w0 J θ s->OpT P J w0 o (evL (envL θ s)) (L.map (toCh P θ)++M.map (toCh P θ)) (fun v=>resFa f.rs v/\BV f.rs (hFst f.rs (outs f.ps) (toH _ r)) v) (fun v=>L.map (toCh P θ)++(resGv f.rs (hFst f.rs (outs f.ps) (toH _ r)) v++outCh (ghV θ a.gh) f.ps (vs.map (·.v θ)) (hSnd f.rs (outs f.ps) (toH _ r))))) :
  Good P w0 s o ⟨L,M,R,mB a.gh f.ps vs (hSnd f.rs (outs f.ps) (toH _ r)),.one (.val (.slice none 0 0))⟩:=by
 refine ⟨b,fun J θ d g h l c A=>(eU g h l c A).elim,fun J θ d=>?_⟩;rw[aU];refine OpT.post (h1 J θ d) fun v w C i j=>?_;have t:St J w0 w (outCh (ghV θ a.gh) f.ps (vs.map (·.v θ)) (hSnd f.rs (outs f.ps) (toH _ r))++(L.map (toCh P θ)++C)):=by
  refine St.left (ds:=resGv f.rs (hFst f.rs (outs f.ps) (toH _ r)) v) (j.perm ?_);exact TY _ _ _ _
 have ⟨u,p⟩:=mC (P:=P) (θ:=θ) (θ':=upd θ s.nxt v) (m:=s.nxt) d Same.upd (aH _) (hSnd f.rs (outs f.ps) (toH _ r)) y (hvs J θ d) (fun e x=>x) (fun q n=>⟨n,HA q n⟩) t;refine ⟨⟨Eq.refl true,(T0 z i.2).symm,fun g h=>PH (p g h).1 (Nat.le_succ _) (aW (p g h).2) (ay _)⟩,?_⟩;refine u.perm ?_;grind[aD,List.perm_append_comm_assoc]
end
theorem zu {a:Operand} {g:FuncId} {xs:List Operand} {vs:List AV} (h:PK P w0 s a g xs vs): ∀J θ,Fine P w0 J θ s-> ∀x∈vs,x.ok P w0 J θ s.nxt s.chs:=fun J θ b=>by
 obtain ⟨cap,-,-,h⟩:=h J θ b;exact h
theorem T1 (i:FTok P ft) {g:FuncId} {xs:Array Operand} {ts:Array TypeId} (m:o.op= .call { callee:=.value (.func g),args:=xs,argTypes:=ts }) (h:aaG ft s k g xs.toList=some res):Oks P w0 s o k res:=by
 have ⟨f,e,h⟩:=bind_some h;have ⟨b,h⟩:=ak h;have ⟨p,d,h⟩:=bind_some h;have b:f.ov=false:=by simpa using b
 have c:=i.get e;have j:=PL (P:=P) (w0:=w0) (g:=g) d;have ⟨L,M,R,r,a,h,hp,n,l⟩:=DW (w0:=w0) i (c.en b) (fact:=fun _=>resFa f.rs) (c.con b) j m h;exact ⟨_,h,DX (zu j) n hp l⟩
theorem T2 (j:FTok P ft) {t n:Nat} {c:FuncId×Hdr} (i:PJ ft s t n=some c) {xs:Array Operand} {ts:Array TypeId} (p:o.op= .call { callee:=.value (.tmp t),args:=xs,argTypes:=ts }) (h:aaI ft s k c xs.toList=some res):Oks P w0 s o k res:=by
 have ⟨f,g,h⟩:=bind_some h;have ⟨b,h⟩:=ak h;have ⟨u,e,h⟩:=bind_some h;have b:f.ov=false:=by simpa using b
 have d:=j.get g;have l:=XT (P:=P) (w0:=w0) i e;have ⟨L,M,R,r,a,h,hp,q,m⟩:=DW (w0:=w0) j (d.en b) (fact:=fun _=>resFa f.rs) (d.con b) l p h;exact ⟨_,h,DX (zu l) q hp m⟩
theorem T3 (m:FTok P ft) {g:FuncId} {xs:Array Operand} {ts:Array TypeId} (e: ∀f,fs ft g=some f->NilOk P g f) (q:o.op= .call { callee:=.value (.func g),args:=xs,argTypes:=ts }) (h:aaH ft s k g xs.toList=some res):Oks P w0 s o k res:=by
 have ⟨f,c,h⟩:=bind_some h;have ⟨b,h⟩:=ak h;have ⟨t,d,h⟩:=bind_some h;have b:f.ov=false:=by simpa using b
 have i:=m.get c;have j:=PL (P:=P) (w0:=w0) (g:=g) d;have ⟨L,M,R,r,a,h,hp,n,l⟩:=DW (w0:=w0) m (i.en b) (fact:=fun r v=>resFa f.rs v/\BV f.rs (hFst f.rs (outs f.ps) (toH _ r)) v) (e f c) j q h;split at h
 ·exact ⟨_,h,Rl (zu j) n hp ‹_› l⟩
 ·exact ⟨_,h,DX (zu j) n hp fun J θ p=>OpT.weak (l J θ p) (fun v hv=>hv.1) fun v _=>rfl⟩
theorem PN {J J':Hp} {θ:Th} (c:Fine P w0 J θ s) (e:J.le J'): ∀ {ts:List Ty} {xs:List Operand} {r:kN ts×List Hdr},acJ s ts xs=some r->Lent J' θ s.chs r.2->Te J' ts (xs.map (evL (envL θ s))) r.1
 | [],[],r,h,_=>by rfl
 | t::ts,x::xs,r,h,hl=>by
  have ⟨v,b,h⟩:=bind_some (show (opd s x).bind _=some r from h);have ⟨a,i,h⟩:=bind_some h;have ⟨q,f,h⟩:=bind_some h;cases ae h;have ⟨g,d,j⟩:=Lg i (AV.ok_same Same.rfl (aH _) Newer.rfl (bQ c b) e) hl.l;rw[<-aG (θ:=θ) b] at d;exact ⟨_,g,_,rfl,d,j,PN c e f hl.r⟩
 | [],_::_,r,h,_=>by cases h
 | _::_,[],r,h,_=>by cases h
theorem T4 (U:FTok P ft) {t:Nat} {xs:Array Operand} {ts:Array TypeId} (W:o.op= .call { callee:=.value (.tmp t),args:=xs,argTypes:=ts }) (h:TW ft s k t xs.toList=some res):Oks P w0 s o k res:=by
 have ⟨y,a,h⟩:=bind_some h;have ⟨b,V,h⟩:=bind_some h;have ⟨q,T,h⟩:=bind_some h;have ⟨d,R,h⟩:=bind_some h;have ⟨l,u,h⟩:=bind_some h;have ⟨F,h⟩:=ak h;have ⟨r,hr,h⟩:=bind_some h;have a:look s.env t=some (.one y):=by
  unfold TW.oneOf0 at a;split at a
  ·grind
  ·cases a
 have ⟨p2,e2⟩:=AY u;refine ⟨_,h,by grind,fun J θ f g G Z c hs=>(zt (tm _ _ g G) hs).elim,fun J θ f=>?_⟩;have H:=bQ (x:=.tmp t) f a;have I:OpT P J w0 o (evL (envL θ s)) (l.1.map (toCh P θ)++ []) (resFa b.2) (fun v=>l.1.map (toCh P θ)++resGv b.2 (toH _ r) v):=by
  refine zp (fun v=>Hz _ _ F) fun M K E D=>?_;have L:=I3 (s:=s) e2 (fun e he=>p2.mem_iff.2 (by grind)) E D;have ⟨kk,first,N,S,O,h5⟩:=Ny U f.lay f.chs T H M K L.l;have p:=h5 M Hp.le.rfl _ d.1 (PN f K R L.r) r hr;have A:=(aG (x:=.tmp t) a).trans S;exact ru O W A (by simp) p
 rw[List.append_nil] at I;rw[List.append_nil];refine OpT.post I fun v w C z B=>?_;have j:St J w0 w (resGv b.2 (toH _ r) v++(l.1.map (toCh P θ)++C)):=by
  refine B.perm ?_;rw[aD];exact List.perm_append_comm_assoc _ _ _
 have ⟨q1,X,q3,Q⟩:=PE (P:=P) (m:=s.nxt) (θ:=upd θ s.nxt v) (n:=s.nxt+1) (chs:=Res.chs ⟨l.1,[],l.2,zn s.nxt b.2 (toH _ r),Nw s.nxt b.2 (toH _ r)⟩ s.nxt) (ay _) (ix (vs:=θ) (i:=s.nxt) (v:=v)) b.2 (toH _ r) _ z j;refine ⟨⟨q1,X,fun g G=>vj (tm _ _ g G) (by grind) (ay _)⟩,?_⟩;refine Q.perm ?_;grind[aD,List.perm_append_comm_assoc]
end
section
variable {Y:Type} (tt:TT) (s:Sg) (k:Res->Option Y)
def XU:AV->Option (Bool×List LV)
 | .one x=>some (false,[x])
 | .agg xs=>some (true,xs)
 | _=>none
def I5 (s:Sg):List Operand->Option (List (Bool×List LV))
 | [] =>some []
 | x::xs=>(opd s x).bind fun v=>(XU v).bind fun y=>(I5 s xs).bind fun ys=>some (y::ys)
def PO (s:Sg):List Operand->Option (List LV)
 | [] =>some []
 | x::xs=>match opd s x with
  | some (.one y)=>(PO s xs).bind fun ys=>some (y::ys)
  | _=>none
def aaJ (fn:Fn) (first captured:Array Operand):Option Y:=match fn with
 | .func g=>(I5 s first.toList).bind fun ys=>(PO s captured.toList).bind fun xs=>k ⟨[],[],s.chs,[(⟨s.nxt,[]⟩,.clo g ys xs)],.one (.own ⟨s.nxt,[]⟩)⟩
 | _=>none
def T5 (T:TypeId) (x:Operand):Option Y:=(td tt T).bind fun d=>match opd s x with
 | some (.one (.fz h T' t a off))=>(AU d.agg t off d.n).bind fun p=>bW (p.ty.isProd==d.agg) (k (.pure s (Tj s.nxt p.ty (p.get a))))
 | some (.one (.fzf h T' ps rs e))=>bW (Nat.beq d.n 1 && !d.agg) (k (.pure s (.one (.fn ⟨s.nxt,[]⟩ ps rs e))))
 | _=>none
def T6 (T:TypeId) (x:Operand) (f:Nat):Option Y:=(td tt T).bind fun d=>(d.fields[f]?).bind fun q=>match opd s x with
 | some (.one (.fz h T' t a off))=>k (.pure s (.one (.fz h T' t a (off+q.1))))
 | _=>none
end
section
variable {Y:Type} {tt:TT} {s:Sg} {k:Res->Option Y} {P:Program} {w0:World} {o:Oper} {res:Y} {x:Operand}
theorem HB {J:Hp} {θ:Th} (d:Fine P w0 J θ s): ∀ {l:List Operand} {ys:List (Bool×List LV)},I5 s l=some ys->l.map (evL (envL θ s))=ys.map (mu θ)/\ ∀y∈ys,∀x∈y.2,x.ok P w0 J θ s.nxt
 | [],ys,h=>by cases ae (show some _=some ys from h);grind
 | x::l,ys,h=>by
  have ⟨v,b,h⟩:=bind_some (show (opd s x).bind _=some ys from h);have ⟨y,c,h⟩:=bind_some h;have ⟨f,e,h⟩:=bind_some h;have ⟨m,j⟩:=HB d e;have a:=bQ d b;have g:=aG (θ:=θ) b;have key:v.v θ=mu θ y/\ ∀x∈y.2,x.ok P w0 J θ s.nxt:=by
   cases v with
   | one z=>cases ae (show some _=some y from c);exact ⟨rfl,fun x i=>by cases ax i;exact a⟩
   | agg f=>cases ae (show some _=some y from c);exact ⟨rfl,a⟩
   | _=>cases c
  refine ⟨by grind,fun z e=>?_⟩;grind
theorem Ln {J:Hp} {θ:Th} (c:Fine P w0 J θ s): ∀ {l:List Operand} {ys:List LV},PO s l=some ys->l.map (evL (envL θ s))=ys.map (·.v θ)/\ ∀x∈ys,x.ok P w0 J θ s.nxt
 | [],ys,h=>by cases ae (show some _=some ys from h);grind
 | x::l,ys,h=>by
  unfold PO at h;split at h
  ·rename_i y d;have ⟨f,a,h⟩:=bind_some h;cases ae h;have ⟨e,g⟩:=Ln c a;have b:=bQ c d;refine ⟨by rw[List.map_cons,List.map_cons,e,aG (θ:=θ) d];rfl,fun z a=>?_⟩;rcases az a with rfl | a
   ·exact b
   grind
  grind
theorem T7 {fn:Fn} {first captured:Array Operand} (n:o.op= .makeFunc fn first captured) (h:aaJ s k fn first captured=some res):Oks P w0 s o k res:=by
 cases fn with
 | func g =>
  have ⟨u,e,h⟩:=bind_some (show (I5 s first.toList).bind _=some res from h);have ⟨t,i,h⟩:=bind_some h;refine ⟨_,h,List.Perm.refl _,aS rfl,fun J θ j=>?_⟩;have ⟨r,m⟩:=HB j e;have ⟨p,l⟩:=Ln j i;refine OpT.post (IA n rfl) fun v w C a c=>?_;rw[r,p] at a;have d:hv (upd θ s.nxt v) ⟨s.nxt,[]⟩=v:=ix;refine ⟨⟨⟨ay _,by rw[d,a];rfl⟩,d,fun g q=>?_⟩,?_⟩
  ·cases ax q;refine ⟨ay _,ay _,fun y b x f=>LV.ok_same Same.upd (Nat.le_succ _) (m y b x f) Hp.le.rfl,fun x f=>LV.ok_same Same.upd (Nat.le_succ _) (l x f) Hp.le.rfl,?_⟩;rw[d,jc Same.upd l,List.map_congr_left fun y b=>AT Same.upd (m y b)];omega
  ·exact St.emp.2 c
 | _=>cases h
theorem Lo (L:TTok P tt) {T:TypeId} (C:o.op= .load T x) (h:T5 tt s k T x=some res):Oks P w0 s o k res:=by
 have ⟨d,G,h⟩:=bind_some h;have f:=L.get G;split at h
 ·rename_i r H t a off l;have ⟨p,hp,h⟩:=bind_some h;have ⟨i,h⟩:=ak h;have i:p.ty.isProd=d.agg:=by simpa using i
  have hp:=De _ _ _ _ hp;refine ⟨_,h,List.Perm.refl _,aS rfl,fun J θ m=>?_⟩;have ⟨F,cells,z,A⟩:=bQ m l;have ⟨c,I,E⟩:=hp.fld J cells a A;have B:=(p.ty.rep.rd_len E).trans (p.ty.rep_size.trans hp.size);have y:(cells.drop off).take d.n=c:=by rw[<-hp.size,<-p.ty.rep_size];exact I
  refine OpT.weak (BS z f.ti C (aG (θ:=θ) l) f.one y B rfl) (fun v b=>?_) (fun v b=>rfl);have j:Lds p.ty.isProd c v:=by
   rw[i];cases q:d.agg with
   | true=>rw[q] at b;exact b
   | false =>
    rw[q] at b;have w:d.n=1:=by
     have:=f.one
     rw[q] at this;simpa using this
    obtain ⟨u,rfl⟩:=List.length_eq_one_iff.1 (B.trans w);rw[show v=u from b];rfl
  have:=sy (P:=P) (w0:=w0) (J:=J) (θ:=upd θ s.nxt v) (id:=s.nxt) (n:=s.nxt+1) (chs:=(Res.pure s (Tj s.nxt p.ty (p.get a))).chs s.nxt) (ay _) ix p.ty (p.get a) c E j
  exact ⟨this.1,this.2,fun g i=>by cases i⟩
 ·rename_i r H N M e l;have ⟨D,h⟩:=ak h;rw[al] at D;have K:=aw D.1;refine ⟨_,h,List.Perm.refl _,aS rfl,fun J θ m=>?_⟩;have ⟨F,u,z,A⟩:=bQ m l;refine OpT.weak (BS (d:=[u]) (u:=u) z f.ti C (aG (θ:=θ) l) f.one (by grind) (by grind) (by grind)) (fun v b=>?_) (fun v b=>rfl);have r:hv (upd θ s.nxt v) ⟨s.nxt,[]⟩=v:=ix;exact ⟨⟨ay _,by grind⟩,r,fun g i=>by cases i⟩
 grind
theorem Rm (i:TTok P tt) {T:TypeId} {f:Nat} (j:o.op= .fieldAddr T x f) (h:T6 tt s k T x f=some res):Oks P w0 s o k res:=by
 have ⟨d,l,h⟩:=bind_some h;have ⟨q,e,h⟩:=bind_some h;have g:=(i.get l).fld f q e;split at h
 ·rename_i m n t a off c;exact ⟨_,h,fj (fun J θ b=>oo g j (aG (θ:=θ) c)) fun J θ b=>(by have:=bQ b c;exact this)⟩
 grind
end
end R
end Go.Proofs.YteapgmibbpckoaaGreatDoor
