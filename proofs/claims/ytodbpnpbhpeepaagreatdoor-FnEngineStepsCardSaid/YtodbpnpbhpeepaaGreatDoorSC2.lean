/- FnEngineSteps: for every input the law returns true and changes nothing that was there. Part 3 of 9. -/
import Derived.Test.YtodbpnpbhpeepaaGreatDoorSC1
set_option synthInstance.maxSize 20000
set_option synthInstance.maxHeartbeats 2000000
set_option linter.unusedVariables false
set_option linter.unusedSimpArgs false
set_option linter.unnecessarySimpa false
set_option linter.unusedSectionVars false
set_option maxRecDepth 1000000
namespace Go.Proofs.YtodbpnpbhpeepaaGreatDoor
open Go.IntKind (i64)
namespace R
open Go.RowKit
open D
def one (v:Value):AV:=.one (.val v)
def asB:AV->Option (Bool×Bool)
 | .one (.val (.bool b))=>some (b,true)
 | .one (.nb b)=>some (b,false)
 | _=>none
def onB {Y:Type} (v:AV) (x y:Option Y):Option Y:=match v with
 | .one (.val (.bool b))=>if b then x else y
 | .one (.nb b)=>if b then y else x
 | _=>none
theorem Uy {Y:Type} {v:AV} {x y:Option Y} {r:Y} (h:onB v x y=some r): ∃b:Bool,(∀θ,v.v θ= .bool b)/\(if b then x else y)=some r:=by
 unfold onB at h;split at h
 ·exact ⟨_,fun θ=>rfl,h⟩
 ·rename_i b;refine ⟨!b,fun θ=>rfl,?_⟩;grind
 grind
def cg {Y:Type} (b:Bool) (x:Option Y):Option Y:=match b with
 | true=>x
 | false=>none
theorem ai {Y:Type} {b:Bool} {x:Option Y} {r:Y} (h:cg b x=some r):b=true/\x=some r:=by
 cases b
 ·cases h
 ·exact ⟨rfl,h⟩
def isLit:Value->Bool
 | .int _ (.ofNat _)=>true
 | .int _ (.negSucc _)=>true
 | _=>false
def arith (b:BinOp) (k:IntKind) (m n:Int):Option Value:=match k,b with
 | .i64,.add=>some (.int .i64 (i64.wrap (m+n)))
 | .i64,.sub=>some (.int .i64 (i64.wrap (m - n)))
 | .i64,.mul=>some (.int .i64 (i64.wrap (m*n)))
 | .i64,.and=>some (.int .i64 (rM m n))
 | .i64,.or=>some (.int .i64 (orI m n))
 | .i64,.xor=>some (.int .i64 (aaY m n))
 | .u64,.add=>some (.int .u64 (IntKind.u64.wrap (m+n)))
 | .u64,.sub=>some (.int .u64 (IntKind.u64.wrap (m - n)))
 | .u64,.mul=>some (.int .u64 (IntKind.u64.wrap (m*n)))
 | .u64,.and=>some (.int .u64 (Rh m n))
 | .u8,.sub=>some (.int .u8 (IntKind.u8.wrap (m - n)))
 | _,.eql=>some (.bool (m==n))
 | _,.neq=>some (.bool (m !=n))
 | _,.lss=>some (.bool (decide (m<n)))
 | _,.leq=>some (.bool (decide (m<=n)))
 | _,.gtr=>some (.bool (decide (m>n)))
 | _,.geq=>some (.bool (decide (m≥n)))
 | _,_=>none
def GH (b:BinOp) (k:IntKind) (m n:Int):Option (Value×((p:Prop)×Decidable p)):=match k,b with
 | .i64,.quo=>some (.int .i64 (Gp m n),⟨n≠0,inferInstance⟩)
 | .i64,.rem=>some (.int .i64 (Int.tmod m n),⟨n≠0,inferInstance⟩)
 | .i64,.shl=>some (.int .i64 (C7 m n),⟨0<=n,inferInstance⟩)
 | .i64,.shr=>some (.int .i64 (pU m n),⟨0<=n,inferInstance⟩)
 | .u64,.shr=>some (.int .u64 (pU m n),⟨0<=n,inferInstance⟩)
 | _,_=>none
def acB (k:IntKind) (m n:Int):Int:=k.wrap (m*2 ^ (min n.toNat k.bits))
def acC (k:IntKind) (m n:Int):Int:=m.fdiv (2 ^ (min n.toNat k.bits))
def GI (b:BinOp) (k:IntKind) (m n:Int):Option Value:=match b,k with
 | .shl,.i64=>some (.int .i64 (C7 m n))
 | .shr,.i64=>some (.int .i64 (pU m n))
 | .shr,.u64=>some (.int .u64 (pU m n))
 | .shl,k=>some (.int k (acB k m n))
 | .shr,k=>some (.int k (acC k m n))
 | _,_=>none
def aaZ {Y:Type} (c:Bool) (p:Prop) (d:Decidable p) (x:Option Y):Option Y:=match c with
 | true=> @ite _ p d x none
 | false=>(@chk p d).bind fun _=>x
theorem IA {Y:Type} {c:Bool} {p:Prop} {d:Decidable p} {x:Option Y} {r:Y} (h:aaZ c p d x=some r):p/\x=some r:=by
 cases c with
 | true =>
  have h: @ite _ p d x none=some r:=h;grind
 | false =>
  have ⟨u,e,h⟩:=bind_some (show (@chk p d).bind _=some r from h);grind[bM]
def isConst:Operand->Bool
 | .const _=>true
 | _=>false
def eqB (b:BinOp) (m n:Bool):Option Value:=match b with
 | .eql=>some (.bool (m==n))
 | .neq=>some (.bool (m !=n))
 | _=>none
def eqS (b:BinOp) (m n:ByteArray):Option Value:=match b with
 | .eql=>some (.bool (m==n))
 | .neq=>some (.bool (m !=n))
 | _=>none
section
variable {P:Program} {I:Hp} {w0:World} {o:Oper} {ev:Operand->Value} {x y:Operand} {t u:TypeId}
theorem RI {b:BinOp} {k:IntKind} {m n:Int} {r:Value} (h:arith b k m n=some r) (c:o.op= .binOp b t x y u) (a:ev x= .int k m) (d:ev y= .int k n):OpT P I w0 o ev [] (· =r) (fun _=>[]):=by
 unfold arith at h;split at h <;> first | cases h | (cases ae h)
 ·exact VO c a d
 ·exact VP c a d
 ·exact VQ c a d
 ·exact VV c a d
 ·exact YW c a d
 ·exact VW c a d
 ·exact Wh c a d
 ·exact Wi c a d
 ·exact Wj c a d
 ·exact Wk c a d
 ·exact bB fun w=>by simp[execOp,c,a,d];rfl
 ·exact wx c a d rfl rfl
 ·exact wx c a d rfl rfl
 ·exact wx c a d rfl rfl
 ·exact wx c a d rfl rfl
 ·exact wx c a d rfl rfl
 ·exact wx c a d rfl rfl
theorem NI {b:BinOp} {k:IntKind} {m n:Int} {r:Value×((p:Prop)×Decidable p)} (h:GH b k m n=some r) (hp:r.2.1) (c:o.op= .binOp b t x y u) (a:ev x= .int k m) (d:ev y= .int k n):OpT P I w0 o ev [] (· =r.1) (fun _=>[]):=by
 unfold GH at h;split at h <;> first | cases h | (cases ae h)
 ·grind[VR]
 ·grind[VS]
 ·grind[VT]
 ·grind[VU]
 grind[Wl]
theorem NJ {b:BinOp} {k j:IntKind} {m n:Int} {r:Value} (h:GI b k m n=some r) (hp:0<=n) (d:o.op= .binOp b t x y u) (a:ev x= .int k m) (e:ev y= .int j n):OpT P I w0 o ev [] (· =r) (fun _=>[]):=by
 have c: ¬n<0:=by omega
 unfold GI at h;split at h <;> first | (cases ae h) | grind
 all_goals exact bB fun w=>by simp[execOp,d,a,e,eqGuard,binOp,Op.shift,c,Result.andThen,C7,pU,acB,acC,IntKind.bits]
theorem LW {b:BinOp} {k:IntKind} {m n:Int} {r:Value} (h:GI b k m n=some r):r.oneCell'=true:=by
 unfold GI at h;split at h <;> first | (cases ae h;rfl) | grind
theorem NK {b:BinOp} {k:IntKind} {m n:Int} {r:Value} (h:arith b k m n=some r):r.oneCell'=true:=by
 unfold arith at h;split at h <;> cases h <;> rfl
theorem LX {b:BinOp} {k:IntKind} {m n:Int} {r:Value×((p:Prop)×Decidable p)} (h:GH b k m n=some r):r.1.oneCell'=true:=by
 unfold GH at h;split at h <;> cases h <;> rfl
theorem EJ {b:BinOp} {m n:Bool} {r:Value} (h:eqB b m n=some r):r.oneCell'=true:=by
 unfold eqB at h;split at h <;> cases h <;> rfl
theorem Wu {b:BinOp} {m n:ByteArray} {r:Value} (h:eqS b m n=some r):r.oneCell'=true:=by
 unfold eqS at h;split at h <;> cases h <;> rfl
theorem Ka {b:BinOp} {m n:Bool} {r:Value} (h:eqB b m n=some r) (a:P.underlying t=some .bool) (d:o.op= .binOp b t x y u) (c:ev x= .bool m) (e:ev y= .bool n):OpT P I w0 o ev [] (· =r) (fun _=>[]):=by
 unfold eqB at h;grind[ae,VX,VY]
theorem Y9 {b:BinOp} {m n:ByteArray} {r:Value} (h:eqS b m n=some r) (c:o.op= .binOp b t x y u) (a:ev x= .string m) (d:ev y= .string n):OpT P I w0 o ev [] (· =r) (fun _=>[]):=by
 unfold eqS at h;grind[ae,V8,V9]
end
section
variable {Y:Type} (tt:TT) (s:Sg) (k:Res->Option Y)
def kv (v:Value):Option Y:=k (.pure s (.one (.val v)))
def Wv (x:Operand):Option Y:=(opd s x).bind fun v=>k (.pure s v)
def Za (c x y:Operand):Option Y:=(opd s c).bind fun c=>onB c ((opd s x).bind fun v=>k (.pure s v)) ((opd s y).bind fun v=>k (.pure s v))
def abB (x:Operand):Option Y:=match opd s x with
 | some (.one (.val (.bool b)))=>k (.pure s (.one (.nb b)))
 | some (.one (.nb b))=>kv s k (.bool b)
 | _=>none
def abC (x:Operand):Option Y:=match opd s x with
 | some (.one (.val (.int .i64 n)))=>kv s k (.int .i64 (i64.wrap (-n)))
 | _=>none
def aa0 (b:BinOp) (t:TypeId) (x y:Operand):Option Y:=match opd s x,opd s y with
 | some (.one (.val (.int j m))),some (.one (.val (.int j' n)))=>if j=j' then match arith b j m n with
   | some r=>kv s k r
   | none=>(GH b j m n).bind fun r=>aaZ (isConst y) r.2.1 r.2.2 (kv s k r.1)
  else (GI b j m n).bind fun r=>aaZ (isConst y) (0<=n) inferInstance (kv s k r)
 | some (.one (.val (.bool m))),some (.one (.val (.bool n)))=>(td tt t).bind fun d=>cg d.boo ((eqB b m n).bind fun r=>kv s k r)
 | some (.one (.nb m)),some (.one (.val (.bool n)))=>(td tt t).bind fun d=>cg d.boo ((eqB b (!m) n).bind fun r=>kv s k r)
 | some (.one (.val (.bool m))),some (.one (.nb n))=>(td tt t).bind fun d=>cg d.boo ((eqB b m (!n)).bind fun r=>kv s k r)
 | some (.one (.nb m)),some (.one (.nb n))=>(td tt t).bind fun d=>cg d.boo ((eqB b (!m) (!n)).bind fun r=>kv s k r)
 | some (.one (.val (.string m))),some (.one (.val (.string n)))=>(eqS b m n).bind fun r=>kv s k r
 | some (.agg xs),some (.agg ys)=>(td tt t).bind fun d=>d.eq.bind fun ks=>(abA ks xs ys).bind fun r=>match b with
  | .eql=>kv s k (.bool r)
  | .neq=>k (.pure s (.one (.nb r)))
  | _=>none
 | _,_=>none
def Zb (S D:TypeId) (x:Operand):Option Y:=(td tt S).bind fun a=>(td tt D).bind fun b=>a.ik.bind fun k1=>b.ik.bind fun k2=>match opd s x,k1,k2 with
 | some (.one (.val (.int j m))),some k1,some k2=>if j=k1 then kv s k (.int k2 (k2.wrap m)) else none
 | _,_,_=>none
def EK (x:Operand) (i:Nat):Option Y:=match opd s x with
 | some (.tup ys)=>(ys[i]?).bind fun y=>if y.1 then k (.pure s (.agg y.2)) else match y.2 with
  | [x] =>k (.pure s (.one x))
  | _=>none
 | _=>none
def sLen (T:TypeId) (x:Operand):Option Y:=(td tt T).bind fun d=>match d.el,opd s x with
 | some _,some (.one (.rd _ (.sl _ _) xs))=>kv s k (.int .i64 (xs.length:Int))
 | some _,some (.one (.val (.slice none 0 0)))=>kv s k (.int .i64 ((0:Nat):Int))
 | none,some (.one (.val (.string b)))=>d.ik.bind fun k1=>match k1 with
  | none=>kv s k (.int .i64 (b.size:Int))
  | _=>none
 | _,_=>none
def NL (T:TypeId) (x i:Operand):Option Y:=(td tt T).bind fun d=>match d.el,opd s x,opd s i with
 | some E,some (.one (.rd h (.sl E' t) xs)),some (.one (.val (.int .i64 i)))=>(td tt E).bind fun e=>cg (Nat.beq e.n t.size) ((aU xs i).bind fun a=>k (.pure s (.elr h E' t xs a i 0)))
 | _,_,_=>none
def Uz (T:TypeId) (x:Operand) (f:Nat):Option Y:=(td tt T).bind fun d=>(d.fields[f]?).bind fun q=>match opd s x with
 | some (.elr h E t xs a i off)=>k (.pure s (.elr h E t xs a i (off+q.1)))
 | some (.elo h ver E t xs a i off)=>k (.pure s (.elo h ver E t xs a i (off+q.1)))
 | some (.one (.ptr h off))=>k (.pure s (.one (.ptr h (off+q.1))))
 | _=>none
def UA (T:TypeId) (x:Operand):Option Y:=(td tt T).bind fun d=>match opd s x with
 | some (.elr h E t xs a i off)=>(yW d.agg t off d.n).bind fun p=>cg (p.ty.isProd==d.agg) (k (.pure s (NH s.nxt p.ty (p.get a))))
 | _=>none
end
section
variable {Y:Type} {tt:TT} {s:Sg} {k:Res->Option Y} {P:Program} {w0:World} {o:Oper} {res:Y} {x y:Operand}
def Oks (P:Program) (w0:World) (s:Sg) (o:Oper) (k:Res->Option Y) (res:Y):Prop:= ∃r,k r=some res/\Good P w0 s o r
theorem ma {v:Value} (h:kv s k v=some res) (h1:v.oneCell'=true) (a: ∀J θ,Fine P w0 J θ s->OpT P J w0 o (evL (envL θ s)) [] (· =v) (fun _=>[])):Oks P w0 s o k res:=
 ⟨_,h,fQ a fun _ _ _=>h1⟩
theorem Kb (a:o.op= .move x\/o.op= .assign x) (h:Wv s k x=some res):Oks P w0 s o k res:=by
 have ⟨v,hv,h⟩:=bind_some h;refine ⟨_,h,fQ (fun J θ b=>?_) fun J θ b=>cf b hv⟩;rcases a with a | a
 ·exact Rp a (aH hv)
 ·exact LO a (aH hv)
theorem RJ {c:Operand} (f:o.op= .pick c x y) (h:Za s k c x y=some res):Oks P w0 s o k res:=by
 have ⟨v,hv,h⟩:=bind_some h;have ⟨b,e,h⟩:=Uy h;cases b with
 | true =>
  have ⟨u,a,h⟩:=bind_some (show (opd s x).bind _=some res from h);exact ⟨_,h,fQ (fun J θ d=>JV f ((aH hv).trans (e θ)) (aH a)) fun J θ d=>cf d a⟩
 | false =>
  have ⟨u,a,h⟩:=bind_some (show (opd s y).bind _=some res from h);exact ⟨_,h,fQ (fun J θ d=>JV f ((aH hv).trans (e θ)) (aH a)) fun J θ d=>cf d a⟩
theorem Ww {t:TypeId} (c:o.op= .unOp .not t x) (h:abB s k x=some res):Oks P w0 s o k res:=by
 unfold abB at h;split at h
 ·rename_i b a;exact ⟨_,h,fQ (fun J θ d=>Nk c (aH a)) fun _ _ _=>trivial⟩
 ·rename_i b a;exact ma h rfl fun J θ d=>by
   have:=Nk (P:=P) (I:=J) (w0:=w0) (b:= !b) c (aH (θ:=θ) a)
   grind
 grind
theorem Wx {t:TypeId} (c:o.op= .unOp .neg t x) (h:abC s k x=some res):Oks P w0 s o k res:=by
 unfold abC at h;split at h
 ·rename_i b a;exact ma h rfl fun J θ d=>VN c (aH a)
 grind
theorem NM (p:TTok P tt) {b:BinOp} {t u:TypeId} (f:o.op= .binOp b t x y u) (h:aa0 tt s k b t x y=some res):Oks P w0 s o k res:=by
 unfold aa0 at h;split at h
 ·rename_i j m D n e c;split at h
  ·rename_i v;subst v;split at h
   ·rename_i r a;exact ma h (NK a) fun J θ i=>RI a f (aH e) (aH c)
   ·have ⟨r,a,h⟩:=bind_some h;have ⟨hp,h⟩:=IA h;exact ma h (LX a) fun J θ i=>NI a hp f (aH e) (aH c)
  ·have ⟨r,a,h⟩:=bind_some h;have ⟨hp,h⟩:=IA h;exact ma h (LW a) fun J θ i=>NJ a hp f (aH e) (aH c)
 ·rename_i m n e c;have ⟨d,g,h⟩:=bind_some h;have ⟨l,h⟩:=ai h;have ⟨r,a,h⟩:=bind_some h;exact ma h (EJ a) fun J θ i=>Ka a ((p.get g).boo l) f (aH e) (aH c)
 ·rename_i m n e c;have ⟨d,g,h⟩:=bind_some h;have ⟨l,h⟩:=ai h;have ⟨r,a,h⟩:=bind_some h;exact ma h (EJ a) fun J θ i=>Ka a ((p.get g).boo l) f (aH e) (aH c)
 ·rename_i m n e c;have ⟨d,g,h⟩:=bind_some h;have ⟨l,h⟩:=ai h;have ⟨r,a,h⟩:=bind_some h;exact ma h (EJ a) fun J θ i=>Ka a ((p.get g).boo l) f (aH e) (aH c)
 ·rename_i m n e c;have ⟨d,g,h⟩:=bind_some h;have ⟨l,h⟩:=ai h;have ⟨r,a,h⟩:=bind_some h;exact ma h (EJ a) fun J θ i=>Ka a ((p.get g).boo l) f (aH e) (aH c)
 ·rename_i m n e c;have ⟨r,a,h⟩:=bind_some h;exact ma h (Wu a) fun J θ i=>Y9 a f (aH e) (aH c)
 ·rename_i z B e c;have ⟨d,g,h⟩:=bind_some h;have ⟨C,A,h⟩:=bind_some h;have ⟨r,a,h⟩:=bind_some h;have q: ∀(θ:Th) w,EqT P t (AV.v θ (.agg z)) (AV.v θ (.agg B)) r w:=fun θ w=>Wt ((p.get g).eq _ A w) a;split at h
  ·exact ma h rfl fun J θ i=>Wa (q θ) f (aH e) (aH c) rfl
  ·exact ⟨_,h,fQ (fun J θ i=>Wb (q θ) f (aH e) (aH c) rfl) fun _ _ _=>trivial⟩
  grind
 grind
theorem RK (d:TTok P tt) {S D:TypeId} (i:o.op= .convert S D x) (h:Zb tt s k S D x=some res):Oks P w0 s o k res:=by
 have ⟨a,v,l⟩:=bind_some h;have ⟨b,n,r⟩:=bind_some l;have ⟨q,u,f⟩:=bind_some r;have ⟨p,g,c⟩:=bind_some f;split at c
 ·rename_i j m q p t;split at c
  ·rename_i e;subst e;exact ma c rfl fun J θ w=>GC ((d.get v).ik _ u) ((d.get n).ik _ g) i (aH t)
  grind
 grind
theorem IB {i:Nat} (d:o.op= .extract x i) (h:EK s k x i=some res):Oks P w0 s o k res:=by
 unfold EK at h;split at h
 ·rename_i l b;have ⟨y,j,h⟩:=bind_some h;have f: ∀θ,((l.map (l9 θ)).toArray)[i]? =some (l9 θ y):=fun θ=>by grind
  have e:=List.mem_of_getElem? j;split at h
  ·rename_i c;exact ⟨_,h,fQ (fun J θ a=>Bf d (aH b) ((f θ).trans (by unfold l9;rw[if_pos c];rfl))) fun J θ a=>(cf a b) y e⟩
  ·rename_i c;split at h
   ·rename_i z g;exact ⟨_,h,fQ (fun J θ a=>Bf d (aH b) ((f θ).trans (by unfold l9;rw[if_neg c,g];rfl))) fun J θ a=>(cf a b) y e z (by grind)⟩
   grind
 grind
theorem Wy (i:TTok P tt) {T:TypeId} (e:o.op= .call { callee:=.builtin .len,args:= #[x],argTypes:= #[T] }) (h:sLen tt s k T x=some res):Oks P w0 s o k res:=by
 have ⟨d,f,h⟩:=bind_some h;split at h
 ·rename_i E q p t n c a;exact ma h rfl fun J θ j=>DC (Hd.of_rd (cf j a).2) ((i.get f).el _ c) e (aH a)
 ·rename_i E c a;exact ma h rfl fun J θ j=>xl ((i.get f).el _ c) e (aH a)
 ·rename_i b c a;have ⟨l,m,g⟩:=bind_some h;cases l with
  | none=>exact ma g rfl fun J θ j=>Ip ((i.get f).ik _ m) e (aH a)
  | some l=>cases g
 grind
theorem LY (g:TTok P tt) {T:TypeId} {i:Operand} (m:o.op= .indexAddr T x i) (h:NL tt s k T x i=some res):Oks P w0 s o k res:=by
 have ⟨d,n,h⟩:=bind_some h;split at h
 ·rename_i E w v t u j q b p;have ⟨e,r,h⟩:=bind_some h;have ⟨f,h⟩:=ai h;have ⟨a,l,h⟩:=bind_some h;have f:=au f;refine ⟨_,h,fQ (fun J θ c=>?_) fun J θ c=>⟨(cf c b).1,l,(cf c b).2⟩⟩
  have:=tv (I:=J) (w0:=w0) (Hd.of_rd (cf c b).2) ((g.get n).el _ q) (g.get r).ti m (aH b) (aH p) (Ey l)
  rw[f] at this;exact this
 grind
theorem NN (p:TTok P tt) {T:TypeId} {f:Nat} (e:o.op= .fieldAddr T x f) (h:Uz tt s k T x f=some res):Oks P w0 s o k res:=by
 have ⟨d,m,h⟩:=bind_some h;have ⟨q,r,h⟩:=bind_some h;have g:=(p.get m).fld f q r;split at h
 ·rename_i j E t l a i off b;refine ⟨_,h,fQ (fun J θ c=>?_) fun J θ c=>(by have:=cf c b;exact this)⟩
  have:=zX (I:=J) (w0:=w0) g e (aH (θ:=θ) b)
  rw[Nat.add_assoc] at this;exact this
 ·rename_i j n E t l a i off b;refine ⟨_,h,fQ (fun J θ c=>?_) fun J θ c=>(by have:=cf c b;exact this)⟩
  have:=zX (I:=J) (w0:=w0) g e (aH (θ:=θ) b)
  rw[Nat.add_assoc] at this;exact this
 ·rename_i j off b;exact ⟨_,h,fQ (fun J θ c=>nr g e (aH (θ:=θ) b)) fun J θ c=>(by have:=cf c b;exact this)⟩
 grind
theorem NO (u:TTok P tt) {T:TypeId} (r:o.op= .load T x) (h:UA tt s k T x=some res):Oks P w0 s o k res:=by
 have ⟨d,q,h⟩:=bind_some h;split at h
 ·rename_i B E t A a i off m;have ⟨p,hp,h⟩:=bind_some h;have ⟨j,h⟩:=ai h;have hp:=AW _ _ _ _ hp;have b:=u.get q;refine ⟨_,h,List.Perm.refl _,aX rfl,fun J θ w=>?_⟩;have f:=cf w m
  have:=Iq (P:=P) (w0:=w0) (o:=o) (T:=T) f.2.2 f.2.1 hp.fld b.ti (p.ty.rep_size.trans hp.size) b.one r (aH (θ:=θ) m) t.rep_size
  refine OpT.weak this (fun v hv=>?_) (fun v hv=>rfl);have ⟨c,z,l⟩:=hv;rw[<-show (p.ty.isProd==d.agg)=true->p.ty.isProd=d.agg from fun e=>by grind,] at l
  all_goals first | exact j | skip
  have:=qZ (P:=P) (w0:=w0) (J:=J) (θ:=upd θ s.nxt v) (id:=s.nxt) (n:=s.nxt+1) (chs:=(Res.pure s (NH s.nxt p.ty (p.get a))).chs s.nxt) (aB _) iF p.ty (p.get a) c z l
  exact ⟨this.1,this.2,fun g j=>by cases j⟩
 grind
end
def pull (h:Hdr):List Ent->Option (Ent×List Ent)
 | [] =>none
 | e::l=>if Hdr.beq e.1 h then some (e,l) else (pull h l).bind fun r=>some (r.1,e::r.2)
theorem gC {h:Hdr} : ∀ {l:List Ent} {r:Ent×List Ent},pull h l=some r->l.Perm (r.1::r.2)/\r.1.1=h
 | [],r,e=>by cases e
 | x::l,r,e=>by
  unfold pull at e;split at e
  ·rename_i a;obtain rfl:=ae e;exact ⟨List.Perm.refl _,Hdr.beq_eq a⟩
  ·obtain ⟨q,b,e⟩:=bind_some e;obtain rfl:=ae e;obtain ⟨p,k⟩:=gC b;exact ⟨(p.cons x).trans (List.Perm.swap _ _ _),k⟩
def Da (h:Hdr) (l:List Ent):Bool:=l.all fun e=> !(Hdr.beq e.1 h)
theorem Bl: ∀l:List Nat,YG l l=true
 | [] =>rfl
 | a::l=>by show (Nat.beq a a&&YG l l)=true;rw[Nat.beq_refl,Bl l];rfl
theorem pY {h:Hdr} {l:List Ent} (k:Da h l=true) {e:Ent} (b:e∈l):e.1≠h:=by
 intro a
 have:=(List.all_eq_true.1 k) e b
 rw[a] at this;unfold Hdr.beq at this;rw[Nat.beq_refl,Bl] at this;cases this
structure Row where
 ver:Nat
 E:TypeId
 t:Ty
 xs:List t.den
 rest:List Ent
def rowOf (h:Hdr) (chs:List Ent):Option Row:=(pull h chs).bind fun r=>match r.1.2.2 with
 | .own (.sl E t) xs=>cg (Da h r.2) (some ⟨r.1.2.1,E,t,xs,r.2⟩)
 | _=>none
def Row.ent (r:Row) (h:Hdr):Ent:=(h,r.ver,.own (.sl r.E r.t) r.xs)
theorem bY {h:Hdr} {chs:List Ent} {r:Row} (e:rowOf h chs=some r):chs.Perm (r.ent h::r.rest)/\ ∀e∈r.rest,e.1≠h:=by
 obtain ⟨q,j,e⟩:=bind_some e;obtain ⟨p,k⟩:=gC j;obtain ⟨⟨a,f,c⟩,rest⟩:=q;obtain rfl:a=h:=k;cases c with
 | own i d =>
  cases i with
  | sl E t =>
   obtain ⟨b,e⟩:=ai (show cg (Da a rest) _=some r from e);obtain rfl:=ae e;exact ⟨p,fun e g=>pY b g⟩
  | _=>cases e
 | _=>cases e
theorem xt {h:Hdr} {chs:List Ent} {r:Row} (e:rowOf h chs=some r) {n:Nat} (hv:r.ver<n):Mem chs n h r.ver (.own (.sl r.E r.t) r.xs):=by
 obtain ⟨p,k⟩:=bY e;refine ⟨hv,fun x a c d=>?_⟩;rcases aE (p.mem_iff.1 a) with rfl | a
 ·rcases d.2 with b | b
  ·exact b.2
  ·exact b.elim
 ·exact absurd d.1 (k x a)
structure Blk where
 ver:Nat
 T:TypeId
 cells:List LV
 rest:List Ent
def rO (h:Hdr) (chs:List Ent):Option Blk:=(pull h chs).bind fun r=>match r.1.2.2 with
 | .blk T cells=>some ⟨r.1.2.1,T,cells,r.2⟩
 | _=>none
def Blk.ent (r:Blk) (h:Hdr):Ent:=(h,r.ver,.blk r.T r.cells)
theorem lf {h:Hdr} {chs:List Ent} {r:Blk} (e:rO h chs=some r):chs.Perm (r.ent h::r.rest):=by
 obtain ⟨q,d,e⟩:=bind_some e;obtain ⟨p,k⟩:=gC d;obtain ⟨⟨b,a,c⟩,rest⟩:=q;obtain rfl:b=h:=k;cases c with
 | blk T cells =>
  obtain rfl:=ae (show some _=some r from e);exact p
 | _=>cases e
def mf:AV->Option (List LV)
 | .one x=>some [x]
 | .agg xs=>some xs
 | _=>none
theorem kg {v:AV} {cs:List LV} (h:mf v=some cs) {P:Program} {w0:World} {J:Hp} {θ:Th} {n:Nat} {chs:List Ent} (hv:v.ok P w0 J θ n chs):(∀x∈cs,x.ok P w0 J θ n)/\(v.v θ).cells=(cs.map (·.v θ)).toArray:=by
 unfold mf at h;split at h
 ·obtain rfl:=ae h;exact ⟨fun x a=>by obtain rfl:=ak a;exact hv,GF (LV.one (show LV.ok P w0 J θ n _ from hv))⟩
 ·obtain rfl:=ae h;exact ⟨hv,rfl⟩
 ·cases h
theorem IC {P:Program} {w0:World} {J:Hp} {θ:Th} {n:Nat} {cs:List LV} (h: ∀x∈cs,x.ok P w0 J θ n):(cs.map (·.v θ)).all (·.oneCell')=true:=List.all_eq_true.2 fun v hv=>by
 obtain ⟨x,a,rfl⟩:=List.mem_map.1 hv;exact LV.one (h x a)
def EL (k:IntKind):LV->Option Int
 | .val (.int k' n)=>if k'=k then some n else none
 | _=>none
def DH:LV->Option Bool
 | .val (.bool b)=>some b
 | .nb b=>some (!b)
 | _=>none
def LZ:LV->Option ByteArray
 | .val (.string b)=>some b
 | _=>none
def isNil:Value->Bool
 | .slice none 0 0=>true
 | _=>false
theorem oA {v:Value} (h:isNil v=true):v= .slice none 0 0:=by
 unfold isNil at h;split at h
 ·rfl
 ·cases h
def RL (E:TypeId) (t:Ty):LV->Option (List t.den)
 | .rd _ t' d=>oX t' (.sl E t) d
 | .val v=>cg (isNil v) (some [])
 | _=>none
def DI:Value->Bool
 | .pointer none=>true
 | _=>false
theorem Bm {v:Value} (h:DI v=true):v= .pointer none:=by
 unfold DI at h;split at h
 ·rfl
 ·cases h
def YH (T E:TypeId) (t:Ty):LV->Option (Tr t.den)
 | .rd _ t' d=>oX t' (.tree T E t) d
 | .val v=>cg (DI v) (some .nil)
 | _=>none
def hd1 {α:Type} (f:LV->Option α):List LV->Option (α×List LV)
 | x::r=>(f x).bind fun d=>some (d,r)
 | [] =>none
def fl:(t:Ty)->List LV->Option (t.den×List LV)
 | .int k,l=>hd1 (EL k) l
 | .bool,l=>hd1 DH l
 | .str,l=>hd1 LZ l
 | .raw,_=>none
 | .prod a b,l=>(fl a l).bind fun x=>(fl b x.2).bind fun y=>some ((x.1,y.1),y.2)
 | .sl E t,l=>hd1 (RL E t) l
 | .fro t,l=>fl t l
 | .bag t,l=>fl t l
 | .wr t,l=>fl t l
 | .tree T E t,l=>hd1 (YH T E t) l
theorem EM {k:IntKind} {x:LV} {n:Int} (h:EL k x=some n) (θ:Th):x.v θ= .int k n:=by
 unfold EL at h;split at h
 ·split at h
  ·rename_i a;subst a;obtain rfl:=ae h
   rfl
  ·cases h
 ·cases h
theorem GJ {x:LV} {n:Bool} (h:DH x=some n) (θ:Th):x.v θ= .bool n:=by
 unfold DH at h;split at h
 ·obtain rfl:=ae h;rfl
 ·obtain rfl:=ae h;rfl
 ·cases h
theorem Kc {x:LV} {n:ByteArray} (h:LZ x=some n) (θ:Th):x.v θ= .string n:=by
 unfold LZ at h;split at h
 ·obtain rfl:=ae h;rfl
 ·cases h
theorem Bn {E:TypeId} {t:Ty} {x:LV} {d:List t.den} (h:RL E t x=some d) {P:Program} {w0:World} {J:Hp} {θ:Th} {n:Nat} (b:x.ok P w0 J θ n):(Ty.sl E t).rep.rd J [x.v θ] d:=by
 cases x with
 | rd f c a=>exact jE (show oX c (.sl E t) a=some d from h) b.2
 | val v =>
  obtain ⟨e,h⟩:=ai (show cg (isNil v) (some [])=some d from h);obtain rfl:=ae h;show (Ty.sl E t).rep.rd J [v] [];rw[oA e];exact Us
 | _=>cases h
theorem ID {T E:TypeId} {t:Ty} {x:LV} {d:Tr t.den} (h:YH T E t x=some d) {P:Program} {w0:World} {J:Hp} {θ:Th} {n:Nat} (b:x.ok P w0 J θ n):(Ty.tree T E t).rep.rd J [x.v θ] d:=by
 cases x with
 | rd f c a=>exact jE (show oX c (.tree T E t) a=some d from h) b.2
 | val v =>
  obtain ⟨e,h⟩:=ai (show cg (DI v) (some .nil)=some d from h);obtain rfl:=ae h;show (Ty.tree T E t).rep.rd J [v] .nil;rw[Bm e];exact ⟨_,rfl,.nil⟩
 | _=>cases h
theorem GK {α:Type} {f:LV->Option α} {cs:List LV} {r:α×List LV} (h:hd1 f cs=some r): ∃x,cs=x::r.2/\f x=some r.1:=by
 cases cs with
 | nil=>cases h
 | cons x l =>
  obtain ⟨d,a,h⟩:=bind_some (show (f x).bind _=some r from h);obtain rfl:=ae h;exact ⟨x,rfl,a⟩
theorem jG {P:Program} {w0:World} {J:Hp} {θ:Th} {n:Nat} : ∀ {t:Ty} {cs:List LV} {r:t.den×List LV},fl t cs=some r->(∀x∈cs,x.ok P w0 J θ n)-> ∃e,cs=e++r.2/\t.rep.rd J (e.map (·.v θ)) r.1:=by
 intro t;induction t with
 | int k =>
  intro cs r h c;obtain ⟨x,rfl,d⟩:=GK (show hd1 _ _=some r from h);exact ⟨[x],rfl,congrArg (fun v=>[v]) (EM d θ)⟩
 | bool =>
  intro cs r h c;obtain ⟨x,rfl,d⟩:=GK (show hd1 _ _=some r from h);exact ⟨[x],rfl,congrArg (fun v=>[v]) (GJ d θ)⟩
 | str =>
  intro cs r h c;obtain ⟨x,rfl,d⟩:=GK (show hd1 _ _=some r from h);exact ⟨[x],rfl,congrArg (fun v=>[v]) (Kc d θ)⟩
 | raw =>
  intro cs r h c;cases (show none=some r from h)
 | prod a b iha ihb =>
  intro cs r h c;obtain ⟨x,d,h⟩:=bind_some (show (fl a cs).bind _=some r from h);obtain ⟨y,g,h⟩:=bind_some h;obtain rfl:=ae h;obtain ⟨e,rfl,l⟩:=iha d c;obtain ⟨f,m,j⟩:=ihb g fun z i=>c z (bp _ i);exact ⟨e++f,by rw[m,aC],e.map (·.v θ),f.map (·.v θ),by rw[aZ],l,j⟩
 | sl E t ih =>
  intro cs r h c;obtain ⟨x,rfl,d⟩:=GK (show hd1 _ _=some r from h);exact ⟨[x],rfl,Bn d (c x (by simp))⟩
 | fro t ih =>
  intro cs r h c;exact ih (show fl t cs=some r from h) c
 | bag t ih =>
  intro cs r h c;exact ih (show fl t cs=some r from h) c
 | wr t ih =>
  intro cs r h c;exact ih (show fl t cs=some r from h) c
 | tree T E t ih =>
  intro cs r h c;obtain ⟨x,rfl,d⟩:=GK (show hd1 _ _=some r from h);exact ⟨[x],rfl,ID d (c x (by simp))⟩
section
variable {P:Program} {I J:Hp} {w0 w w':World} {C:List Ch} {o:Oper} {ev:Operand->Value} {α β:Type} {R:Rep α} {S:Rep β} {E T:TypeId}
theorem Bo {v:Value} {xs:List α} {i:Nat} {x:α} {F:List Nat} (h:(ax E R).own I w [v] xs F) (B:xs[i]? =some x) :
  ∃g a cap cur c d b cell f G,v= .slice (some ⟨g,a,none⟩) xs.length cap/\xs.length<=lim/\w.heap[g]? =some (.cells cur E (0,0))/\xs.length<=cap/\cap<=maxLen/\a+cap*R.size<=cur.size/\F=g::(c++(G++d)) /\
   cur.toList.drop a=b++(cell++f)/\b.length=i*R.size/\cell.length=R.size/\OwnEls R I w b (xs.take i) c/\R.own I w cell x G/\OwnEls R I w f (xs.drop (i+1)) d:=by
 have y:=(List.getElem?_eq_some_iff.1 B).1;obtain ⟨q,⟨-,rfl,-⟩ | ⟨g,a,cap,cur,K,hv,u,t,p,l,rfl,j⟩⟩:=h
 ·grind
 obtain rfl:v= .slice (some ⟨g,a,none⟩) xs.length cap:=by grind
 have e:xs=xs.take i++(x::xs.drop (i+1)):=by
  grind[List.drop_eq_getElem_cons,List.take_append_drop]
 rw[e] at j;obtain ⟨b,H,c,D,n,k,rfl,z,cells,f,G,d,rfl,m,rfl,s,r⟩:=j.cut2;have A:(xs.take i).length=i:=by rw[aq];omega
 rw[A] at k;exact ⟨g,a,cap,cur,c,d,b,cells,f,G,rfl,q,u,t,p,l,rfl,n,k,m,z,s,r⟩
theorem EN {off n k:Nat} {f:α->β} {u:α->β->α} {x:Operand} {v:Value} {xs:List α} {a:α} {i:Int} {agg:Bool} (t:S.Sh) (U:aU xs i=some a) (X:Lens R off S f u) (N:TI P T agg n) (h:S.size=n) (hn:(agg || n==1)=true) (y:o.op= .load T x) (V:ev x=pt v (i.toNat*k+off)) (s:R.size=k) :
  OpT P I w0 o ev [Ch.own (ax E R) [v] xs] (fun u=> ∃d,S.rd I d (f a)/\Lds agg d u) (fun _=>[Ch.own (ax E R) [v] xs]):=by
 intro w C r;obtain ⟨hb,hi,F,⟨G,K,rfl,Q,e3⟩,Z,h3⟩:=id r;obtain ⟨g,c,cap,cur,K1,K3,c1,cell,c3,O,rfl,hl,M,k2,k3,Y,rfl,z,D,f3,-,H,-⟩:=Bo Q (wz U);obtain ⟨d,G2,K2,p,A,L,-⟩:=X I w cell a O H;obtain ⟨-,q⟩:=t L;have l:=(S.rd_len q).trans h;have ⟨u,W,B⟩:=Nl (P:=P) (w:=w) (b:=g) (off:=c+(i.toNat*k+off)) N l (fun e=>by grind) (fun j u m=>by
  rw[<-A,List.getElem?_take] at m;split at m
  ·simp[World.cell?,M];rw[<-Array.getElem?_toList,show c+(i.toNat*k+off)+j=c+(i.toNat*k+off+j) from Nat.add_assoc _ _ _,<-List.getElem?_drop,z,List.getElem?_append_right (by grind),List.getElem?_append_left (by grind),D,s];grind
  grind)
 simp[execOp,y,V,pt,ptB,ptO,Sem.run_bind,W,Result.andThen_ok];exact ⟨⟨d,q,B⟩,r⟩
theorem Zc {off:Nat} {u:α->β->α} {xs:List α} {i:Nat} {a:α} {g ofs cap:Nat} {cur:Array Value} {f K2 e:List Nat} {j cell l:List Value} {v0:Value}
  (t:i<xs.length) (W:xs.length<=lim) (D:w.heap[g]? =some (.cells cur E (0,0))) (X:xs.length<=cap) (K:cap<=maxLen) (U:ofs+cap*R.size<=cur.size) (z:cur.toList.drop ofs=j++(cell++l)) (B:j.length=i*R.size) (O:cell.length=R.size)
  (G:OwnEls R I w j (xs.take i) f) (x:OwnEls R I w l (xs.drop (i+1)) e) (hv:cell[off]? =some v0) (n: ∀b,b∈f++(K2++e)->b≠g) (Q: ∀b,b∈K2->b<w.heap.size) (V:S.size=1)
  (H: ∀J w' d' y m,I.le J->(∀b,b∈K2->w'.heap[b]? =w.heap[b]?)->S.own J w' d' y m-> ∃F,F.Perm (m++K2)/\R.own J w' (spl cell off d') (u a y) F) :
  (Ch.gap (ax E R) [.slice (some ⟨g,ofs,none⟩) xs.length cap] S (fun y=>xs.set i (u a y)) g (ofs+(i*R.size+off)) v0).holds I w (g::(f++(K2++e))):=by
 have A:=(List.getElem?_eq_some_iff.1 hv).1;refine ⟨by simp,⟨cur,E,D,?_⟩,fun b c=>?_,fun J w' k y m s N M L=>?_⟩
 ·rw[<-Array.getElem?_toList,<-List.getElem?_drop (i:=ofs),z,List.getElem?_append_right (by omega),List.getElem?_append_left (by omega),B];grind
 ·rcases aE c with rfl | c
  ·grind
  ·rcases aG c with c | c
   ·exact G.live b c
   ·rcases aG c with c | c
    ·grind
    ·exact x.live b c
 ·have v:=fun b c=>N b (bF _ c) (n b c);have ⟨r,p,q⟩:=H J w' [k] y m s (fun b c=>v b (bp _ (bj _ c))) L;have h:=M cur E D;have d:(cur.setIfInBounds (ofs+(i*R.size+off)) k).toList.drop ofs=j++(spl cell off [k] ++l):=by
   rw[Array.toList_setIfInBounds,List.drop_set,if_neg (by omega),Nat.add_sub_cancel_left,z,List.set_append_right _ _ (by omega),List.set_append_left _ _ (by omega),B];rw[show i*R.size+off - i*R.size=off from by omega];rfl
  refine ⟨g::(f++(r++e)),?_,by grind,.inr ⟨g,ofs,cap,_,f++(r++e),by grind,h,by grind,K,by grind,rfl,?_⟩⟩
  ·grind
  ·show OwnEls R J w' _ (xs.set i (u a y)) _;rw[List.set_eq_take_append_cons_drop,if_pos t,d];exact OwnEls.glue (ys:=xs.take i) (zs:=u a y::xs.drop (i+1)) (by grind) ((G.mono s).stay fun b c=>v b (bj _ c))
    ⟨spl cell off [k],l,r,e,rfl,by rw[yR];exact O,rfl,q,(x.mono s).stay fun b c=>v b (bp _ (bp _ c))⟩
theorem EO {off k:Nat} {f:α->β} {u:α->β->α} {x:Operand} {v:Value} {xs:List α} {a:α} {i:Int} (V:aU xs i=some a) (hf:Lens R off S f u) (hT:TI P T false 1) (t:S.size=1) (ho:o.op= .load T x) (hx:ev x=pt v (i.toNat*k+off)) (hk:R.size=k) :
  OpT P I w0 o ev [Ch.own (ax E R) [v] xs] (fun u=>u.oneCell'=true) (fun c=>[Ch.own S [c] (f a),Ch.gap (ax E R) [v] S (fun y=>xs.set i.toNat (u a y)) (ptB v) (ptO v+(i.toNat*k+off)) c]):=by
 intro w C hs;obtain ⟨n,hi,F,⟨G,K,rfl,e2,e3⟩,Z,h3⟩:=hs;have B:=(List.getElem?_eq_some_iff.1 (wz V)).1;obtain ⟨g,m,cap,cur,q,r,c1,cell,c3,U,rfl,hl,Q,k2,k3,X,rfl,M,N,f3,f4,O,Y⟩:=Bo e2 (wz V);have ⟨d,H,K2,p,e1,A,e5⟩:=hf I w cell a U O;have D:=(S.own_len A).trans t;obtain ⟨c,rfl⟩:=List.length_eq_one_iff.1 D;have hc:cell[off]? =some c:=by
  have:=congrArg (fun l:List Value=>l[0]?) e1
  simpa [List.getElem?_take,List.getElem?_drop,t] using this
 have ⟨L,hr,hu⟩:=Nl (P:=P) (w:=w) (b:=g) (off:=m+(i.toNat*k+off)) (d:=[c]) hT rfl (fun _=>rfl) (fun j u W=>by
  have s:j=0:=by have:=(List.getElem?_eq_some_iff.1 W).1;simpa using this
  subst s;simp only[World.cell?,Q];rw[<-Array.getElem?_toList,show m+(i.toNat*k+off)+0=m+(i.toNat*k+off+0) from Nat.add_assoc _ _ _,<-List.getElem?_drop,M,List.getElem?_append_right (by grind),List.getElem?_append_left (by grind),N,hk];simp_all)
 obtain rfl:c=L:=by simpa using (show [c] = [L] from hu)
 simp[execOp,ho,hx,pt,ptB,ptO,Sem.run_bind,hr,Result.andThen_ok];have h:((g::(q++(U++r)))++K).Perm (H++((g::(q++(K2++r)))++K)):=by
  grind
 have z:=h.nodup_iff.1 Z;refine ⟨S.own_one A c (by simp),n,hi,H++((g::(q++(K2++r)))++K),⟨H,_,rfl,A,g::(q++(K2++r)),K,rfl,?_,e3⟩,z,fun b n=>h3 b (h.mem_iff.2 n)⟩
 have:=Zc (u:=u) (a:=a) (v0:=c) B hl Q k2 k3 X M N f3 f4 Y hc (K2:=K2) (S:=S) (fun b n e=>by
  grind) (fun b n=>R.own_live O b (p.mem_iff.2 (bp _ n))) t e5
 grind
theorem St.settle {cs:List Value} {f:β->α} {b off:Nat} {v:Value} {y:β} (h:St I w0 w (Ch.own S [v] y::Ch.gap R cs S f b off v::C)):St I w0 w (Ch.own R cs (f y)::C):=by
 obtain ⟨x,g,F,⟨G,K,rfl,j,m,c,rfl,⟨A,⟨cur,E,r,u⟩,z,e⟩,i⟩,k,s⟩:=h;have ⟨F,p,q⟩:=e I w v y G Hp.le.rfl (fun _ _ _=>rfl) (fun a l t=>by
  rw[r] at t⊢;obtain ⟨rfl,rfl⟩:cur=a/\E=l:=by grind
  congr 2;grind) j
 have d:(F++c).Perm (G++(m++c)):=by rw[<-aC];exact p.append_right _
 exact ⟨x,g,F++c,⟨F,c,rfl,q,i⟩,d.nodup_iff.2 k,fun b n=>s b (d.mem_iff.1 n)⟩
theorem EP {cs:List Value} {f:β->α} {b off:Nat} {v u:Value} {x y:Operand} (H:TI P T false 1) (q:o.op= .store T x y) (U:ev x= .pointer (some ⟨b,off,none⟩)) (s:ev y=u) (h1:u.oneCell'=true) :
  OpT P I w0 o ev [Ch.gap R cs S f b off v] (fun _=>True) (fun _=>[Ch.gap R cs S f b off u]):=by
 intro w C n;obtain ⟨N,hi,F,⟨K,K2,rfl,⟨k1,⟨cur,E,D,Y⟩,k3,k4⟩,e3⟩,h4,h5⟩:=id n;have V:=JW (P:=P) (w:=w) H (g:=b) (o:=off) (l:=[u]) (GF h1) rfl (fun j Z=>by
  simp_all[World.cell?,Option.isSome_none,Bool.false_eq_true,ite_false,Nat.add_zero]) (fun j=>by simp[World.frozen?,D]) (fun v hv=>by grind)
 simp only[execOp,q,U,s,Sem.run_bind,V,Result.andThen_ok];refine ⟨trivial,?_⟩;refine St.step (w:=w) (c:=[Ch.gap R cs S f b off v]) (c':=[Ch.gap R cs S f b off u]) (w':=w.setCell ⟨b,off,none⟩ u) n rfl rfl rfl (by simp_all) ?_;rintro F ⟨K,K',rfl,⟨m,⟨i,z,B,W⟩,q3,M⟩,rfl⟩ h L;rw[List.append_nil] at *;refine ⟨fun c a t=>Below.heap_setCell _ _ _ _ fun e=>t (e ▸ m),K,⟨K,[],by simp,⟨m,⟨_,z,gS B,?_⟩,fun c a=>by simp_all,fun J d O Q G r s1 A=>M J d O Q G r (fun c a p=>by grind[Below.heap_setCell]) fun k X a=>?_⟩,rfl⟩,h,fun c a=>.inl a⟩
 ·grind
 ·have:=A _ X (gS (v:=u) (o:=off) a)
  simp_all
end
def xu (E:TypeId) (t:Ty) (x:LV) (chs:List Ent):Option (List t.den×List Ent×List Ent):=match x with
 | .own h=>(pull h chs).bind fun r=>match r.1.2.2 with
  | .own t' d=>(oY t' (.sl E t) d).bind fun d=>some (d,[r.1],r.2)
  | _=>none
 | .val v=>cg (isNil v) (some ([],[],chs))
 | _=>none
def Bp (T E:TypeId) (t:Ty) (x:LV) (chs:List Ent):Option (Tr t.den×List Ent×List Ent):=match x with
 | .own h=>(pull h chs).bind fun r=>match r.1.2.2 with
  | .own t' d=>(oY t' (.tree T E t) d).bind fun d=>some (d,[r.1],r.2)
  | _=>none
 | x=>(YH T E t x).bind fun d=>some (d,[],chs)
structure Took (t:Ty) where
 d:t.den
 cells:List LV
 used:List Ent
 rest:List Ent
def eX:(t:Ty)->List LV->List Ent->Option (Took t)
 | .prod a b,l,chs=>(eX a l chs).bind fun x=>(eX b x.cells x.rest).bind fun y=>some ⟨(x.d,y.d),y.cells,x.used++y.used,y.rest⟩
 | .sl E t,l,chs=>match l with
  | x::r=>(xu E t x chs).bind fun q=>some ⟨q.1,r,q.2.1,q.2.2⟩
  | [] =>none
 | .int k,l,chs=>(fl (.int k) l).bind fun x=>some ⟨x.1,x.2,[],chs⟩
 | .bool,l,chs=>(fl .bool l).bind fun x=>some ⟨x.1,x.2,[],chs⟩
 | .str,l,chs=>(fl .str l).bind fun x=>some ⟨x.1,x.2,[],chs⟩
 | .raw,_,_=>none
 | .fro t,l,chs=>(fl t l).bind fun x=>some ⟨x.1,x.2,[],chs⟩
 | .bag t,l,chs=>(eX t l chs).bind fun x=>some ⟨x.d,x.cells,x.used,x.rest⟩
 | .wr t,l,chs=>(eX t l chs).bind fun x=>some ⟨x.d,x.cells,x.used,x.rest⟩
 | .tree T E t,l,chs=>match l with
  | x::r=>(Bp T E t x chs).bind fun q=>some ⟨q.1,r,q.2.1,q.2.2⟩
  | [] =>none
theorem Bq {E:TypeId} {t:Ty} {x:LV} {chs:List Ent} {q:List t.den×List Ent×List Ent} (h:xu E t x chs=some q) (P:Program) (J:Hp) (θ:Th):chs.Perm (q.2.1++q.2.2)/\Bun J (q.2.1.map (toCh P θ)) (Ty.sl E t).rep [x.v θ] q.1:=by
 cases x with
 | own a =>
  have ⟨r,i,h⟩:=bind_some (show (pull a chs).bind _=some q from h);have ⟨p,k⟩:=gC i;have ⟨⟨b,g,c⟩,rest⟩:=r;obtain rfl:b=a:=k;cases c with
  | own j d =>
   have ⟨m,f,h⟩:=bind_some (show (oY j (.sl E t) d).bind _=some q from h);obtain ⟨e,rfl⟩:=oZ f;cases ae h;subst e;exact ⟨p,Nu⟩
  | _=>cases h
 | val v =>
  have ⟨l,h⟩:=ai (show cg (isNil v) _=some q from h);cases ae h;refine ⟨List.Perm.refl _,?_⟩;rw[oA l];exact Wd
 | _=>cases h
theorem Br {E:TypeId} {t:Ty} {x:LV} {chs:List Ent} {q:List t.den×List Ent×List Ent} (h:xu E t x chs=some q):chs.Perm (q.2.1++q.2.2):=by
 cases x with
 | own a =>
  have ⟨r,b,h⟩:=bind_some (show (pull a chs).bind _=some q from h);grind[gC,bind_some,oY,bind,ae]
 | val v =>
  have ⟨c,h⟩:=ai (show cg (isNil v) _=some q from h);grind[ae,List.Perm.refl]
 | _=>cases h
theorem Bs {T E:TypeId} {t:Ty} {x:LV} {chs:List Ent} {q:Tr t.den×List Ent×List Ent} (h:Bp T E t x chs=some q):chs.Perm (q.2.1++q.2.2):=by
 unfold Bp at h;split at h
 ·have ⟨r,a,h⟩:=bind_some h;have ⟨p,k⟩:=gC a;split at h
  ·have ⟨c,b,h⟩:=bind_some h;grind
  grind
 ·have ⟨d,b,h⟩:=bind_some h;grind[ae,List.Perm.refl]
theorem xw {J:Hp} {α:Type} {R:Rep α} (a:Cpy R R) {c:List Value} {x:α} (h:R.rd J c x):Bun J [] R c x:=fun w F k=>by
 rw[show F= [] from k];exact a h
theorem NP {T E:TypeId} {t:Ty} {x:LV} {chs:List Ent} {q:Tr t.den×List Ent×List Ent} (h:Bp T E t x chs=some q) {P:Program} {w0:World} {J:Hp} {θ:Th} {n:Nat} (i:x.ok P w0 J θ n):Bun J (q.2.1.map (toCh P θ)) (Ty.tree T E t).rep [x.v θ] q.1:=by
 unfold Bp at h;split at h
 ·rename_i g;have ⟨r,j,h⟩:=bind_some h;have ⟨p,k⟩:=gC j;have ⟨⟨b,f,c⟩,rest⟩:=r;obtain rfl:b=g:=k;cases c with
  | own l d =>
   have ⟨m,a,h⟩:=bind_some (show (oY l (.tree T E t) d).bind _=some q from h);obtain ⟨e,rfl⟩:=oZ a;cases ae h;subst e;exact Nu
  | _=>cases h
 ·have ⟨d,a,h⟩:=bind_some h;cases ae h;exact xw RD (ID a i)
theorem lG {P:Program} {w0:World} {J:Hp} {θ:Th} {n:Nat} : ∀ {t:Ty} {cs:List LV} {chs:List Ent} {r:Took t},eX t cs chs=some r->(∀x∈cs,x.ok P w0 J θ n)->
  chs.Perm (r.used++r.rest)/\ ∃d,cs=d++r.cells/\Bun J (r.used.map (toCh P θ)) t.rep (d.map (·.v θ)) r.d:=by
 intro t;induction t with
 | prod a b j i =>
  intro cs chs r h c;have ⟨x,f,h⟩:=bind_some (show (eX a cs chs).bind _=some r from h);have ⟨y,m,h⟩:=bind_some h;cases ae h;obtain ⟨s,d,rfl,v⟩:=j f c;have ⟨A,u,B,w⟩:=i m fun z o=>c z (bp _ o);refine ⟨by rw[aC];exact s.trans (A.append_left _),d++u,by grind,?_⟩;rw[aZ,aZ];exact Ry v w
 | sl E t ih =>
  intro cs chs r h c;cases cs with
  | nil=>cases h
  | cons x l =>
   have ⟨q,g,h⟩:=bind_some (show (xu E t x chs).bind _=some r from h);cases ae h;have ⟨p,k⟩:=Bq g P J θ;exact ⟨p,[x],rfl,k⟩
 | fro t ih =>
  intro cs chs r h c;have ⟨x,f,h⟩:=bind_some (show (fl t cs).bind _=some r from h);cases ae h;have ⟨d,e,k⟩:=jG f c;exact ⟨List.Perm.refl _,d,e,Y3 k⟩
 | wr t ih =>
  intro cs chs r h c;have ⟨x,f,h⟩:=bind_some (show (eX t cs chs).bind _=some r from h);cases ae h;exact ih f c
 | bag t ih =>
  intro cs chs r h c;have ⟨x,f,h⟩:=bind_some (show (eX t cs chs).bind _=some r from h);cases ae h;have ⟨p,d,e,k⟩:=ih f c;exact ⟨p,d,e,Wo k⟩
 | tree T E t ih =>
  intro cs chs r h c;cases cs with
  | nil=>cases h
  | cons x l =>
   have ⟨q,g,h⟩:=bind_some (show (Bp T E t x chs).bind _=some r from h);cases ae h;exact ⟨Bs g,[x],rfl,NP g (c x (by simp))⟩
 | int k =>
  intro cs chs r h c;have ⟨x,f,h⟩:=bind_some (show (fl _ cs).bind _=some r from h);cases ae h;have ⟨d,e,k⟩:=jG f c;exact ⟨List.Perm.refl _,d,e,xw xm k⟩
 | bool =>
  intro cs chs r h c;have ⟨x,f,h⟩:=bind_some (show (fl _ cs).bind _=some r from h);cases ae h;have ⟨d,e,k⟩:=jG f c;exact ⟨List.Perm.refl _,d,e,xw JZ k⟩
 | str =>
  intro cs chs r h c;have ⟨x,f,h⟩:=bind_some (show (fl _ cs).bind _=some r from h);cases ae h;have ⟨d,e,k⟩:=jG f c;exact ⟨List.Perm.refl _,d,e,xw Np k⟩
 | raw =>
  intro cs chs r h c;cases (show none=some r from h)
theorem iG: ∀ {t:Ty} {cs:List LV} {chs:List Ent} {r:Took t},eX t cs chs=some r->chs.Perm (r.used++r.rest):=by
 intro t;induction t with
 | prod a b e d =>
  intro cs chs r h;have ⟨x,c,h⟩:=bind_some (show (eX a cs chs).bind _=some r from h);have ⟨y,f,h⟩:=bind_some h;cases ae h;exact (by rw[aC];exact (e c).trans ((d f).append_left _))
 | sl E t ih =>
  intro cs chs r h;cases cs with
  | nil=>cases h
  | cons x l =>
   have ⟨q,g,h⟩:=bind_some (show (xu E t x chs).bind _=some r from h);grind[ae,Br]
 | fro t ih =>
  intro cs chs r h;have ⟨x,c,h⟩:=bind_some (show (fl t cs).bind _=some r from h);grind[ae,List.Perm.refl]
 | wr t ih =>
  intro cs chs r h;have ⟨x,c,h⟩:=bind_some (show (eX t cs chs).bind _=some r from h);grind
 | bag t ih =>
  intro cs chs r h;have ⟨x,c,h⟩:=bind_some (show (eX t cs chs).bind _=some r from h);grind
 | tree T E t ih =>
  intro cs chs r h;cases cs with
  | nil=>cases h
  | cons x l =>
   have ⟨q,g,h⟩:=bind_some (show (Bp T E t x chs).bind _=some r from h);grind[ae,Bs]
 | int k =>
  intro cs chs r h;have ⟨x,c,h⟩:=bind_some (show (fl _ cs).bind _=some r from h);grind[ae,List.Perm.refl]
 | bool =>
  intro cs chs r h;have ⟨x,c,h⟩:=bind_some (show (fl _ cs).bind _=some r from h);grind[ae,List.Perm.refl]
 | str =>
  intro cs chs r h;have ⟨x,c,h⟩:=bind_some (show (fl _ cs).bind _=some r from h);grind[ae,List.Perm.refl]
 | raw =>
  intro cs chs r h;cases (show none=some r from h)
section
variable {Y:Type} (tt:TT) (s:Sg) (k:Res->Option Y)
def acD (T:TypeId) (x:Operand):Option Y:=(opd s x).bind fun v=>(mf v).bind fun cs=>k ⟨[],[],s.chs,[(⟨s.nxt,[]⟩,.blk T cs)],.one (.ptr ⟨s.nxt,[]⟩ 0)⟩
def UB (T:TypeId):Option Y:=(td tt T).bind fun d=>match d.fz with
 | true=>k ⟨[],[],s.chs,[(⟨s.nxt,[]⟩,.blk T [.val .nilFunc])],.one (.ptr ⟨s.nxt,[]⟩ 0)⟩
 | false=>d.bytes.bind fun _=>k ⟨[],[],s.chs,[(⟨s.nxt,[]⟩,.blk T ((zeroCells d.ty).map .val))],.one (.ptr ⟨s.nxt,[]⟩ 0)⟩
def abD (agg:Bool) (cs:List LV):Option AV:=match agg with
 | true=>some (.agg cs)
 | false=>match cs with
  | [x] =>some (.one x)
  | _=>none
def UC (T:TypeId) (x:Operand):Option Y:=(td tt T).bind fun d=>match opd s x with
 | some (.one (.ptr h off))=>(rO h s.chs).bind fun b=>cg (Nat.beq ((b.cells.drop off).take d.n).length d.n) ((abD d.agg ((b.cells.drop off).take d.n)).bind fun v=>k ⟨[b.ent h],[],b.rest,[],v⟩)
 | _=>none
def NQ (T:TypeId) (x y:Operand):Option Y:=(td tt T).bind fun d=>match opd s x with
 | some (.one (.ptr h off))=>(opd s y).bind fun v=>(mf v).bind fun cs=>(rO h s.chs).bind fun b=>cg (Nat.beq cs.length d.n&&Nat.ble (off+d.n) b.cells.length) (k ⟨[],[b.ent h],b.rest,[(h,.blk b.T (b.cells.take off++cs++b.cells.drop (off+cs.length)))],.any ⟨s.nxt,[]⟩⟩)
 | _=>none
def Zd (T:TypeId) (x:Operand):Option Y:=(td tt T).bind fun d=>match d.el,opd s x with
 | some _,some (.one (.own h))=>(rowOf h s.chs).bind fun r=>k ⟨[r.ent h],[],r.rest,[],.one (.val (.int .i64 (r.xs.length:Int)))⟩
 | _,_=>none
def NR (T:TypeId) (x i:Operand):Option Y:=(td tt T).bind fun d=>match d.el,opd s x,opd s i with
 | some E,some (.one (.own h)),some (.one (.val (.int .i64 i)))=>(rowOf h s.chs).bind fun r=>(td tt E).bind fun e=>cg (Nat.beq e.n r.t.size) ((aU r.xs i).bind fun a=>k ⟨[r.ent h],[],r.rest,[],.elo h r.ver r.E r.t r.xs a i 0⟩)
 | _,_,_=>none
def UD (T:TypeId) (x:Operand):Option Y:=(td tt T).bind fun d=>match opd s x with
 | some (.elo h ver E t xs a i off)=>(rowOf h s.chs).bind fun r=>cg (Nat.beq r.ver ver) ((yW d.agg t off d.n).bind fun p=>match p.ty.sh with
  | true=>cg (p.ty.isProd==d.agg) (k ⟨[r.ent h],[],r.rest,[],NH s.nxt p.ty (p.get a)⟩)
  | false=>cg (Nat.beq p.ty.size 1 && !d.agg) (k ⟨[],[r.ent h],r.rest,[(⟨s.nxt,[]⟩,.own p.ty (p.get a)),(h,.hole ver (.sl E t) xs p.ty (p.get a) (fun y=>xs.set i.toNat (p.set a y)) i t.size off (.own ⟨s.nxt,[]⟩))],.one (.own ⟨s.nxt,[]⟩)⟩))
 | _=>none
def NS (T:TypeId) (x y:Operand):Option Y:=(td tt T).bind fun d=>match opd s x with
 | some (.elo h ver E t xs a i off)=>(opd s y).bind fun v=>(mf v).bind fun cs=>(rowOf h s.chs).bind fun r=>cg (Nat.beq r.ver ver&&Nat.beq cs.length d.n) ((yW d.agg t off d.n).bind fun p=>match t.sh with
  | true=>(fl p.ty cs).bind fun b=>cg b.2.isEmpty (k ⟨[],[r.ent h],r.rest,[(h,.own (.sl E t) (xs.set i.toNat (p.set a b.1)))],.any ⟨s.nxt,[]⟩⟩)
  | false=>(eX p.ty cs r.rest).bind fun q=>cg q.cells.isEmpty (k ⟨[],r.ent h::q.used,q.rest,[(h,.own (.sl E t) (xs.set i.toNat (p.set a q.d)))],.any ⟨s.nxt,[]⟩⟩))
 | _=>none
end
section
variable {Y:Type} {tt:TT} {s:Sg} {k:Res->Option Y} {P:Program} {w0:World} {o:Oper} {res:Y} {x y:Operand}
theorem wD {I:Hp} {ev:Operand->Value} {α:Type} {R:Rep α} {E:TypeId} {v:Value} {xs:List α} {fact:Value->Prop} (h:Hd v xs.length->OpT P I w0 o ev [] fact (fun _=>[])):OpT P I w0 o ev [Ch.own (ax E R) [v] xs] fact (fun _=>[Ch.own (ax E R) [v] xs]):=
 fun w C a=>h (a.hd 0 rfl).1 w (Ch.own (ax E R) [v] xs::C) a
theorem eH {θ:Th} {n:Nat} {v:Value} :hv (upd θ n v) ⟨n,[]⟩=v:=iF
theorem Wz {T:TypeId} (m:o.op= .box T x) (h:acD s k T x=some res):Oks P w0 s o k res:=by
 have ⟨v,a,h⟩:=bind_some h;have ⟨d,c,h⟩:=bind_some h;refine ⟨_,h,by simp,aX rfl,fun J θ i=>?_⟩;have ⟨e,j⟩:=kg c (cf i a);refine OpT.weak (VZ (l:=d.map (·.v θ)) (aH a) j m) (fun v b=>⟨aB _,?_,fun g n=>?_⟩) (fun v b=>?_)
 ·show Value.pointer (some ⟨bk (hv _ ⟨s.nxt,[]⟩),0,none⟩)=v;grind[eH,Iv]
 ·cases ak n;exact ⟨aB _,aB _,fun x f=>LV.ok_same Same.upd (Nat.le_succ _) (e x f) Hp.le.rfl⟩
 ·show [Ch.blk (bk v) _ T] = [Ch.blk (bk (hv _ ⟨s.nxt,[]⟩)) (d.map _) T];rw[eH,jc Same.upd e]
theorem NT (p:TTok P tt) {T:TypeId} (m:o.op= .alloc T) (h:UB tt s k T=some res):Oks P w0 s o k res:=by
 have ⟨d,n,h⟩:=bind_some h;split at h
 ·rename_i f;have ⟨b,t⟩:=(p.get n).fz f;refine ⟨_,h,by simp,aX rfl,fun J θ w=>?_⟩;refine OpT.weak (Gu (l:=[.nilFunc]) t rfl m) (fun v a=>⟨aB _,?_,fun g e=>?_⟩) (fun v a=>?_)
  ·show Value.pointer (some ⟨bk (hv _ ⟨s.nxt,[]⟩),0,none⟩)=v;grind[eH,Iv]
  ·cases ak e;refine ⟨aB _,aB _,fun x j=>?_⟩;cases ak j
   rfl
  ·show [Ch.blk (bk v) _ T] = [Ch.blk (bk (hv _ ⟨s.nxt,[]⟩)) _ T];rw[eH];rfl
 have ⟨z,r,h⟩:=bind_some h;obtain ⟨A,i,c,-⟩:=(p.get n).zero z r;refine ⟨_,h,by simp,aX rfl,fun J θ w=>?_⟩;refine OpT.weak (Gu (l:=zeroCells d.ty) i c m) (fun v a=>⟨aB _,?_,fun g e=>?_⟩) (fun v a=>?_)
 ·show Value.pointer (some ⟨bk (hv _ ⟨s.nxt,[]⟩),0,none⟩)=v;grind[eH,Iv]
 ·cases ak e;refine ⟨aB _,aB _,fun x j=>?_⟩;obtain ⟨u,q,rfl⟩:=List.mem_map.1 j;exact J9 _ u q
 ·show [Ch.blk (bk v) _ T] = [Ch.blk (bk (hv _ ⟨s.nxt,[]⟩)) (((zeroCells d.ty).map LV.val).map _) T];rw[eH,List.map_map];congr 2;exact (List.map_id' _).symm
theorem NU {agg:Bool} {cs:List LV} {v:AV} (h:abD agg cs=some v) {P:Program} {w0:World} {J:Hp} {θ:Th} {n:Nat} {chs:List Ent} (a: ∀x∈cs,x.ok P w0 J θ n):v.ok P w0 J θ n chs/\(if agg then Value.agg (cs.map (·.v θ)).toArray else (cs.map (·.v θ)).getD 0 undef)=v.v θ:=by
 cases agg with
 | true =>
  cases ae (show some (AV.agg cs)=some v from h);exact ⟨a,rfl⟩
 | false =>
  cases cs with
  | nil=>cases h
  | cons x l =>
   cases l with
   | nil =>
    cases ae (show some (AV.one x)=some v from h);exact ⟨a x (by simp),rfl⟩
   | cons _ _=>cases h
theorem lQ {e:Ent} {r:List Ent} {J:Hp} {θ:Th} (a:Fine P w0 J θ s) (hp:s.chs.Perm (e::r)):okE P w0 J θ s.nxt s.chs e:=a.chs e (hp.mem_iff.2 (by simp))
theorem o6 {e:Ent} {r l:List Ent} (hp:l.Perm (e::r)):l.Perm ([e] ++ [] ++r):=hp
theorem Db {e:Ent} {r l:List Ent} (hp:l.Perm (e::r)):l.Perm ([] ++ [e] ++r):=hp
theorem NV (t:TTok P tt) {T:TypeId} (m:o.op= .load T x) (h:UC tt s k T x=some res):Oks P w0 s o k res:=by
 have ⟨d,n,h⟩:=bind_some h;split at h
 ·rename_i C off A;have ⟨b,q,h⟩:=bind_some h;have ⟨f,h⟩:=ai h;have ⟨v,c,h⟩:=bind_some h;have hp:=lf q;have f:=au f;refine ⟨_,h,o6 hp,aX rfl,fun J θ j=>?_⟩;have B: ∀z∈(b.cells.drop off).take d.n,z.ok P w0 J θ s.nxt:=fun z p=>(lQ j hp).2.2 z (List.mem_of_mem_drop (List.mem_of_mem_take p));have ⟨i,r⟩:=NU (chs:=s.chs) c B;have a:=t.get n;refine OpT.weak (Gv (l:=b.cells.map (·.v θ)) (E:=b.T) a.ti m (aH A) a.one (by simp_all) (by grind) r) (fun u e=>?_) (fun u e=>rfl);subst e;exact ⟨AV.ok_same Same.upd (Nat.le_succ _) (Res.newer (o6 hp) (aX rfl J θ j)) i Hp.le.rfl,AV.v_same Same.upd i,fun g w=>by cases w⟩
 grind
theorem L4 (D:TTok P tt) {T:TypeId} (t:o.op= .store T x y) (h:NQ tt s k T x y=some res):Oks P w0 s o k res:=by
 have ⟨d,r,h⟩:=bind_some h;split at h
 ·rename_i i off I;have ⟨v,f,h⟩:=bind_some h;have ⟨p,m,h⟩:=bind_some h;have ⟨b,A,h⟩:=bind_some h;have ⟨j,h⟩:=ai h;rw[aj] at j;have F:=au j.1;have H:=bC j.2;have hp:=lf A;refine ⟨_,h,Db hp,aX rfl,fun J θ q=>?_⟩;have ⟨B,C⟩:=kg m (cf q f);have c:=lQ q hp;have n:=D.get r;have e: ∀z∈b.cells.take off++p++b.cells.drop (off+p.length),z.ok P w0 J θ s.nxt:=fun z a=>by
   rcases aG a with a | a
   ·rcases aG a with a | a
    ·exact c.2.2 z (List.mem_of_mem_take a)
    grind
   ·exact c.2.2 z (List.mem_of_mem_drop a)
  refine OpT.weak (EA (l:=b.cells.map (·.v θ)) (E:=b.T) n.ti t (aH I) (aH f) C (by grind) (IC B) (by grind)) (fun u w=>⟨aB _,eH,fun g G=>?_⟩) (fun u w=>?_)
  ·cases ak G;exact ⟨bc c.1,aB _,fun z a=>LV.ok_same Same.upd (Nat.le_succ _) (e z a) Hp.le.rfl⟩
  ·show [Ch.blk (bk (hv θ i)) _ b.T] = [Ch.blk (bk (hv (upd θ s.nxt u) i)) _ b.T];rw[show hv (upd θ s.nxt u) i=hv θ i from be Same.upd c.1,DE _ _ _ (by grind),jc Same.upd e,aZ,aZ,List.map_take,List.map_drop,List.length_map]
 grind
theorem RM (e:TTok P tt) {T:TypeId} (b:o.op= .call { callee:=.builtin .len,args:= #[x],argTypes:= #[T] }) (h:Zd tt s k T x=some res):Oks P w0 s o k res:=by
 have ⟨d,c,h⟩:=bind_some h;split at h
 ·rename_i E n f l;have ⟨r,m,h⟩:=bind_some h;obtain ⟨hp,-⟩:=bY m;refine ⟨_,h,o6 hp,aX rfl,fun J θ p=>OpT.weak (wD fun i=>DC i ((e.get c).el _ f) b (aH l)) (fun u a=>?_) (fun u a=>rfl)⟩;subst a;exact ⟨Eq.refl true,rfl,fun g j=>by cases j⟩
 grind
theorem L5 (m:TTok P tt) {T:TypeId} {i:Operand} (v:o.op= .indexAddr T x i) (h:NR tt s k T x i=some res):Oks P w0 s o k res:=by
 have ⟨d,w,h⟩:=bind_some h;split at h
 ·rename_i E c j A D z;have ⟨r,n,h⟩:=bind_some h;have ⟨e,F,h⟩:=bind_some h;have ⟨f,h⟩:=ai h;have ⟨a,q,h⟩:=bind_some h;have f:=au f;have ⟨hp,t⟩:=bY n;refine ⟨_,h,o6 hp,aX rfl,fun J θ p=>OpT.weak (wD (fact:=(· =pt (hv θ c) (j.toNat*r.t.size+0))) fun B=>?_) (fun u l=>?_) (fun u l=>rfl)⟩
  ·have:=tv (I:=J) (w0:=w0) B ((m.get w).el _ A) (m.get F).ti v (aH D) (aH z) (Ey q)
   rw[f] at this;exact this
  ·have b:=lQ p hp;refine ⟨⟨bc b.1,q,(xt n b.2.1).newer (Res.newer (o6 hp) (aX rfl J θ p)) (Nat.le_succ _)⟩,?_,fun g C=>by cases C⟩;rw[l];show pt (hv (upd θ s.nxt _) c) _=pt (hv θ c) _;rw[show hv (upd θ s.nxt _) c=hv θ c from be Same.upd b.1]
 grind
theorem Bt {h:Hdr} {ver:Nat} {E:TypeId} {t:Ty} {xs:List t.den} {a:t.den} {i:Int} {off:Nat} {J:Hp} {θ:Th} {r:Row} (b:rowOf h s.chs=some r) (hv:r.ver=ver) (c:AV.ok P w0 J θ s.nxt s.chs (.elo h ver E t xs a i off)):r.ent h=(h,ver,.own (.sl E t) xs):=by
 obtain ⟨hp,-⟩:=bY b
 have:=c.2.2.2 (r.ent h) (hp.mem_iff.2 (by simp)) _ ⟨rfl,.inl ⟨hv,rfl⟩⟩
 show (h,r.ver,Chk.own (.sl r.E r.t) r.xs)=_;rw[hv,show Chk.own (.sl r.E r.t) r.xs=_ from this]
theorem NW (hT:TTok P tt) {T:TypeId} (X:o.op= .load T x) (h:UD tt s k T x=some res):Oks P w0 s o k res:=by
 have ⟨d,hd,h⟩:=bind_some h;split at h
 ·rename_i m R E t V a i off H;have ⟨r,L,h⟩:=bind_some h;have ⟨f,h⟩:=ai h;have f:=au f;have ⟨p,S,h⟩:=bind_some h;have q:=AW _ _ _ _ S;obtain ⟨hp,-⟩:=bY L;have z:=hT.get hd;split at h
  ·rename_i N;have ⟨b,h⟩:=ai h;have b:p.ty.isProd=d.agg:=by simpa using b
   refine ⟨_,h,o6 hp,aX rfl,fun J θ A=>?_⟩;have j:=cf A H;have v:=Bt L f j
   have:=EN (P:=P) (I:=J) (w0:=w0) (o:=o) (T:=T) (E:=E) (Ty.sh_ok N) j.2.1 q.lens z.ti (p.ty.rep_size.trans q.size) z.one X (aH (θ:=θ) H) t.rep_size
   rw[v];refine OpT.weak this (fun u B=>?_) (fun u B=>rfl);have ⟨c,M,W⟩:=B;rw[<-b] at W
   have:=qZ (P:=P) (w0:=w0) (J:=J) (θ:=upd θ s.nxt u) (id:=s.nxt) (n:=s.nxt+1) (chs:=Res.chs ⟨[r.ent m],[],r.rest,[],NH s.nxt p.ty (p.get a)⟩ s.nxt) (aB _) iF p.ty (p.get a) c M W
   grind
  ·have ⟨b,h⟩:=ai h;rw[aj] at b;have G:=au b.1;have Q:d.agg=false:=by simpa using b.2
   refine ⟨_,h,Db hp,fun J θ A g b Z c C=>?_,fun J θ A=>?_⟩
   ·rcases aE b with rfl | b
    ·exact C.elim
    ·cases ak b;obtain ⟨rfl,rfl⟩:=C;exact ⟨r.ent m,hp.mem_iff.2 (by simp),by rw[Bt L f (cf A H)];exact ⟨rfl,.inl ⟨rfl,rfl⟩⟩⟩
   have j:=cf A H;have v:=Bt L f j;have w:=lQ A hp;have D:=z.ti;rw[Q,<-q.size,G] at D
   have:=EO (P:=P) (I:=J) (w0:=w0) (o:=o) (T:=T) (E:=E) j.2.1 q.lens D (p.ty.rep_size.trans G) X (aH (θ:=θ) H) t.rep_size
   rw[v];have K:V.set i.toNat (p.set a (p.get a))=V:=by
    have ⟨U,e⟩:=List.getElem?_eq_some_iff.1 (wz j.2.1);rw[q.eta,<-e];exact List.set_getElem_self U
   have F:R<s.nxt:=by rw[<-f];exact w.2.1
   refine OpT.weak this (fun u B=>⟨⟨aB _,by rw[eH];exact B⟩,eH,fun g b=>?_⟩) (fun u B=>?_)
   ·rcases aE b with rfl | b
    ·exact ⟨aB _,aB _,trivial⟩
    ·cases ak b;refine ⟨bc w.1,aB _,⟨aB _,by rw[eH];exact B⟩,F,K,fun l hl=>?_⟩;cases LV.own.inj hl;refine ⟨aB _,fun e v c C=>?_⟩;rcases aG v with v | v
     ·obtain ⟨g,b,rfl⟩:=List.mem_map.1 v;rcases aE b with rfl | b
      ·rcases C.2 with M | M
       ·grind
       ·exact M.elim
      ·cases ak b
       have:=w.1
       rw[show m=(⟨s.nxt,[]⟩:Hdr) from C.1] at this;exact absurd this (Nat.lt_irrefl _)
     ·have v:e∈s.chs:=hp.mem_iff.2 (bF _ (by grind));have O:=A.chs e v
      have:=O.1
      rw[C.1] at this;grind
   ·show [Ch.own p.ty.rep [u] (p.get a),Ch.gap _ [hv θ m] p.ty.rep _ (ptB (hv θ m)) (ptO (hv θ m)+_) u] = [Ch.own p.ty.rep [hv (upd θ s.nxt u) ⟨s.nxt,[]⟩] (p.get a),Ch.gap _ [hv (upd θ s.nxt u) m] p.ty.rep _ (ptB (hv (upd θ s.nxt u) m)) (ptO (hv (upd θ s.nxt u) m)+_) (hv (upd θ s.nxt u) ⟨s.nxt,[]⟩)];rw[eH,show hv (upd θ s.nxt u) m=hv θ m from be Same.upd w.1];rfl
 grind
theorem L6 (X:TTok P tt) {T:TypeId} (Q:o.op= .store T x y) (h:NS tt s k T x y=some res):Oks P w0 s o k res:=by
 have ⟨d,S,h⟩:=bind_some h;split at h
 ·rename_i l W E t xs a i off G;have ⟨v,j,h⟩:=bind_some h;have ⟨cs,C,h⟩:=bind_some h;have ⟨r,O,h⟩:=bind_some h;have ⟨w,h⟩:=ai h;rw[aj] at w;have m:=au w.1;have Z:=au w.2;have ⟨p,L,h⟩:=bind_some h;have e:=AW _ _ _ _ L;obtain ⟨hp,-⟩:=bY O;have F:=X.get S;split at h
  ·rename_i B;have ⟨b,V,h⟩:=bind_some h;have ⟨n,h⟩:=ai h;refine ⟨_,h,Db hp,aX rfl,fun J θ z=>?_⟩;have f:=cf z G;have M:=Bt O m f;have c:=lQ z hp;have ⟨D,K⟩:=kg C (cf z j);have ⟨U,A,N⟩:=jG (J:=J) V D;rw[List.isEmpty_iff.1 n,List.append_nil] at A;subst A
   have:=Gy (P:=P) (I:=J) (w0:=w0) (o:=o) (T:=T) (E:=E) (Ty.sh_ok B) (Ty.cpy B) f.2.1 e.upd F.ti Q (aH (θ:=θ) G) (aH j) K (IC D) (by grind) t.rep_size e.fit N
   rw[M];refine OpT.weak this (fun u H=>⟨aB _,eH,fun g w=>?_⟩) (fun u H=>?_)
   ·cases ak w;exact ⟨bc c.1,aB _,trivial⟩
   ·show [Ch.own _ [hv θ l] _] = [Ch.own _ [hv (upd θ s.nxt u) l] _];rw[show hv (upd θ s.nxt u) l=hv θ l from be Same.upd c.1];rfl
  ·have ⟨q,R,h⟩:=bind_some h;have ⟨n,h⟩:=ai h;refine ⟨_,h,(hp.trans ((iG R).cons _)),aX rfl,fun J θ z=>?_⟩;have f:=cf z G;have M:=Bt O m f;have c:=lQ z hp;have ⟨D,K⟩:=kg C (cf z j);obtain ⟨-,U,A,N⟩:=lG (J:=J) (θ:=θ) R D;rw[List.isEmpty_iff.1 n,List.append_nil] at A;subst A
   have:=ED (P:=P) (I:=J) (w0:=w0) (o:=o) (T:=T) (E:=E) N f.2.1 e.updO F.ti Q (aH (θ:=θ) G) (aH j) K (IC D) (by grind) (p.ty.rep_size.trans e.size) t.rep_size e.fit
   rw[M];refine OpT.weak this (fun u H=>⟨aB _,eH,fun g w=>?_⟩) (fun u H=>?_)
   ·cases ak w;exact ⟨bc c.1,aB _,trivial⟩
   ·show [Ch.own _ [hv θ l] _] = [Ch.own _ [hv (upd θ s.nxt u) l] _];rw[show hv (upd θ s.nxt u) l=hv θ l from be Same.upd c.1];rfl
 grind
end
def RN (pl:List (Nat×Nat)) (cells:List LV):List (Nat×List LV)->Option (List LV)
 | [] =>some cells
 | (i,l)::rest=>(pl[i]?).bind fun q=>cg (Nat.beq l.length q.2&&Nat.ble (q.1+q.2) cells.length) (RN pl (cells.take q.1++l++cells.drop (q.1+q.2)) rest)
theorem Ke {a:List (Nat×Nat)} {θ:Th} : ∀ {ps:List (Nat×List LV)} {cells r:List LV},RN a cells ps=some r->Iu (a[·]?) (cells.map (·.v θ)) (ps.map fun p=>(p.1,p.2.map (·.v θ)))=some (r.map (·.v θ))
 | [],cells,r,h=>by cases ae (show some cells=some r from h);rfl
 | (i,l)::ps,cells,r,h=>by
  have ⟨q,c,h⟩:=bind_some (show (a[i]?).bind _=some r from h);have ⟨b,h⟩:=ai h
  have:=Ke (θ:=θ) h
  simp_all[List.map_cons,Iu,List.length_map,if_pos,aZ,List.map_take,List.map_drop]
theorem GL {b:List (Nat×Nat)} {Q:LV->Prop} : ∀ {ps:List (Nat×List LV)} {cells r:List LV},RN b cells ps=some r->(∀x∈cells,Q x)->(∀p∈ps,∀x∈p.2,Q x)-> ∀x∈r,Q x
 | [],cells,r,h,hc,hp=>by cases ae (show some cells=some r from h);exact hc
 | (i,l)::ps,cells,r,h,hc,hp=>by
  have ⟨q,d,h⟩:=bind_some (show (b[i]?).bind _=some r from h);obtain ⟨-,h⟩:=ai h;refine GL h (fun x a=>?_) fun p c=>hp p (by grind);rcases aG a with a | a
  ·rcases aG a with a | a
   ·grind
   simp_all
  grind
def partsOf (s:Sg):List (Nat×Operand)->Option (List (Nat×List LV))
 | [] =>some []
 | (i,x)::l=>(opd s x).bind fun v=>(mf v).bind fun cs=>(partsOf s l).bind fun r=>some ((i,cs)::r)
theorem q7 {P:Program} {w0:World} {s:Sg} {J:Hp} {θ:Th} (c:Fine P w0 J θ s): ∀ {l:List (Nat×Operand)} {ps:List (Nat×List LV)},partsOf s l=some ps->
  peq (l.map fun p=>(p.1,evL (envL θ s) p.2)) (ps.map fun p=>(p.1,p.2.map (·.v θ)))/\ ∀p∈ps,∀x∈p.2,x.ok P w0 J θ s.nxt
 | [],ps,h=>by cases ae (show some [] =some ps from h);exact ⟨trivial,fun p hp=>by cases hp⟩
 | (i,x)::l,ps,h=>by
  have ⟨v,a,h⟩:=bind_some (show (opd s x).bind _=some ps from h);have ⟨f,b,h⟩:=bind_some h;have ⟨r,d,h⟩:=bind_some h;cases ae h;have ⟨e,g⟩:=q7 c d;have ⟨j,k⟩:=kg b (cf c a);refine ⟨⟨rfl,by grind[aH],e⟩,fun p hp=>?_⟩;grind
structure Lits (t:Ty) where
 xs:List t.den
 used:List Ent
 rest:List Ent
def WA (t:Ty):List (Nat×List LV)->Nat->Option (List t.den)
 | [],_=>some []
 | (i,cs)::l,j=>cg (Nat.beq i j) ((fl t cs).bind fun d=>cg d.2.isEmpty ((WA t l (j+1)).bind fun r=>some (d.1::r)))
def Kf (t:Ty):List (Nat×List LV)->Nat->List Ent->Option (Lits t)
 | [],_,chs=>some ⟨[],[],chs⟩
 | (i,cs)::l,j,chs=>cg (Nat.beq i j&&Nat.beq cs.length t.size) ((eX t cs chs).bind fun d=>cg d.cells.isEmpty ((Kf t l (j+1) d.rest).bind fun r=>some ⟨d.d::r.xs,d.used++r.used,r.rest⟩))
section
variable {P:Program} {w0:World} {J:Hp} {θ:Th} {n:Nat} {t:Ty}
theorem Kg: ∀ {l:List (Nat×List LV)} {j:Nat} {xs:List t.den},WA t l j=some xs->(∀p∈l,∀x∈p.2,x.ok P w0 J θ n)->l.map (·.1)=(List.range' j l.length)/\xs.length=l.length/\(∀p∈l,p.2.length=t.size)/\ ∀p,p∈(l.map fun p=>p.2.map (·.v θ)).zip xs->t.rep.rd J p.1 p.2
 | [],j,xs,h,hc=>by cases ae (show some [] =some xs from h);simp_all
 | (i,cs)::l,j,xs,h,hc=>by
  have ⟨a,h⟩:=ai (show cg (Nat.beq i j) _=some xs from h);have ⟨d,e,h⟩:=bind_some h;have ⟨g,h⟩:=ai h;have ⟨r,k,h⟩:=bind_some h;cases ae h;have a:=au a;subst a;have ⟨q,b,c⟩:=jG (J:=J) e (hc (i,cs) (by simp));rw[List.isEmpty_iff.1 g,List.append_nil] at b;subst b;have ⟨m,o,s,f⟩:=Kg k fun p hp=>hc p (by grind);refine ⟨by rw[List.map_cons,m];rfl,by grind,fun p hp=>?_,fun p hp=>?_⟩
  ·rcases aE hp with rfl | hp
   ·have:=Rep.rd_len _ c
    rw[List.length_map,t.rep_size] at this;omega
   grind
  ·rcases aE hp with rfl | hp
   ·exact c
   ·exact f p hp
theorem Bu: ∀ {l:List (Nat×List LV)} {j:Nat} {chs:List Ent} {r:Lits t},Kf t l j chs=some r->chs.Perm (r.used++r.rest)
 | [],j,chs,r,h=>by cases ae (show some _=some r from h);rfl
 | (i,cs)::l,j,chs,r,h=>by
  have ⟨c,h⟩:=ai (show cg (Nat.beq i j&&Nat.beq cs.length t.size) _=some r from h);have ⟨d,a,h⟩:=bind_some h;have ⟨e,h⟩:=ai h;have ⟨q,b,h⟩:=bind_some h;cases ae h;rw[aC];exact (iG a).trans ((Bu b).append_left _)
theorem GM: ∀ {l:List (Nat×List LV)} {j:Nat} {chs:List Ent} {r:Lits t},Kf t l j chs=some r->(∀p∈l,∀x∈p.2,x.ok P w0 J θ n)->l.map (·.1)=(List.range' j l.length)/\r.xs.length=l.length/\(∀p∈l,p.2.length=t.size)/\qX J (r.used.map (toCh P θ)) (Gx t.rep (l.map fun p=>p.2.map (·.v θ)) r.xs)
 | [],j,chs,r,h,hc=>by cases ae (show some _=some r from h);exact ⟨rfl,rfl,fun p hp=>(by cases hp),xp⟩
 | (i,cs)::l,j,chs,r,h,hc=>by
  have ⟨a,h⟩:=ai (show cg (Nat.beq i j&&Nat.beq cs.length t.size) _=some r from h);have ⟨d,c,h⟩:=bind_some h;have ⟨g,h⟩:=ai h;have ⟨q,m,h⟩:=bind_some h;cases ae h;rw[aj] at a;have f:=au a.2;have a:=au a.1;subst a;obtain ⟨-,u,b,k⟩:=lG (J:=J) (θ:=θ) c (hc (i,cs) (by simp));rw[List.isEmpty_iff.1 g,List.append_nil] at b;subst b;have ⟨o,s,v,e⟩:=GM m fun p hp=>hc p (by grind);refine ⟨by rw[List.map_cons,o];rfl,by grind,fun p hp=>?_,?_⟩
  ·grind
  ·rw[aZ];exact tz k e
end
section
variable {P:Program} {w0:World} {I:Hp} {o:Oper} {ev:Operand->Value} {s:Sg}
def UE (ev:Operand->Value) (θ:Th):List (Nat×Operand)->List (Nat×List LV)->List (Value×List Value)
 | p::l,q::m=>(ev p.2,q.2.map (·.v θ))::UE ev θ l m
 | _,_=>[]
theorem IE {θ:Th} : ∀ {l:List (Nat×Operand)} {ps:List (Nat×List LV)} {j:Nat},peq (l.map fun p=>(p.1,ev p.2)) (ps.map fun p=>(p.1,p.2.map (·.v θ)))->ps.map (·.1)=List.range' j ps.length->
  l.map (fun p=>(p.1,ev p.2))=((UE ev θ l ps).zipIdx j).map (fun p=>(p.2,p.1.1))/\(UE ev θ l ps).length=ps.length/\(UE ev θ l ps).map (·.2)=ps.map (fun p=>p.2.map (·.v θ))/\ ∀u∈UE ev θ l ps,u.1.cells=u.2.toArray/\ ∃p∈ps,u.2.length=p.2.length
 | [],[],j,_,_=>⟨rfl,rfl,rfl,fun u a=>by cases a⟩
 | (i,x)::l,(i',cs)::ps,j,h,hj=>by
  have ⟨k,m,h⟩:=(show i=i'/\(ev x).cells=(cs.map (·.v θ)).toArray/\peq _ _ from h);have d:i'=j:=by
   have:=congrArg (fun l:List Nat=>l.head?) hj
   simpa [List.range'] using this
  have b:ps.map (·.1)=List.range' (j+1) ps.length:=by
   have:=congrArg List.tail hj
   simpa [List.range'] using this
  have ⟨g,f,c,e⟩:=IE h b;refine ⟨?_,by grind[UE],by show _::_=_::_;rw[c],fun u a=>?_⟩
  ·show (i,ev x)::_=(j,ev x)::_;grind
  ·rcases aE a with rfl | a
   ·simp_all
   grind
 | [],_::_,j,h,_=>h.elim
 | _::_,[],j,h,_=>h.elim
theorem WB {α:Type} {R:Rep α} {E:TypeId} {xs:List α} {rn:List Ch} {fact:Value->Prop} {gv:Value->List Ch} (h:OpT P I w0 o ev rn fact (fun v=>Ch.own (ax E R) [v] xs::gv v)):OpT P I w0 o ev rn (fun v=>fact v/\v.oneCell'=true) (fun v=>Ch.own (ax E R) [v] xs::gv v):=
 OpT.weak (OpT.hdk (fun v=>v) 0 (fun v=>rfl) h) (fun v hv=>⟨hv.1,Hd.one hv.2⟩) fun v hv=>rfl
theorem good_row {rs ns rest:List Ent} {E:TypeId} {t:Ty} {xs:List t.den} (hp:s.chs.Perm (rs++ns++rest)) (a: ∀J θ,Fine P w0 J θ s->OpT P J w0 o (evL (envL θ s)) ((rs++ns).map (toCh P θ)) (fun _=>True) (fun v=>Ch.own (Ty.sl E t).rep [v] xs::rs.map (toCh P θ))):Good P w0 s o ⟨rs,ns,rest,[(⟨s.nxt,[]⟩,.own (.sl E t) xs)],.one (.own ⟨s.nxt,[]⟩)⟩:=
 ⟨hp,aX rfl,fun J θ e=>by
  have h:=WB (a J θ e);have c:OpT P J w0 o (evL (envL θ s)) ((rs++ns).map (toCh P θ)) (fun v=>True/\v.oneCell'=true) (fun v=>rs.map (toCh P θ)++ [Ch.own (Ty.sl E t).rep [v] xs]):=
   fun w C f=>(h w C f).imp fun v w hv=>⟨hv.1,hv.2.perm (List.Perm.append_right C (List.perm_append_comm (l₁:=[_])))⟩
  refine OpT.weak c (fun v b=>⟨⟨aB _,by grind[eH]⟩,eH,fun g d=>?_⟩) (fun v b=>?_)
  ·cases ak d;exact ⟨aB _,aB _,trivial⟩
  ·show _=_++ [Ch.own _ [hv (upd θ s.nxt v) ⟨s.nxt,[]⟩] _];rw[eH]⟩
end
section
variable {Y:Type} (tt:TT) (an:List (Nat×Ty)) (s:Sg) (k:Res->Option Y)
def UF (T:TypeId) (parts:Array (Nat×Operand)):Option Y:=(td tt T).bind fun d=>d.place.bind fun pl=>d.bytes.bind fun _=>(partsOf s parts.toList).bind fun ps=>(RN pl ((zeroCells d.ty).map .val) ps).bind fun r=>k (.pure s (.agg r))
def acE:List (Nat×Ty)->Nat->Ty->Ty
 | [],_,t=>t
 | (u,t')::l,d,t=>if Nat.beq u d then t' else acE l d t
def Rj (d:Option Nat) (t:Ty):Ty:=match d with
 | none=>t
 | some d=>acE an d t
def newRow (E:TypeId) (t:Ty) (ns rest:List Ent) (xs:List t.den):Option Y:=k ⟨[],ns,rest,[(⟨s.nxt,[]⟩,.own (.sl E t) xs)],.one (.own ⟨s.nxt,[]⟩)⟩
def abE (E : TypeId) (n : Nat) (t : Ty) (m : Nat) (l : List (Nat × Operand)) : Option Y := (partsOf s l).bind fun ps => cg (Nat.beq ps.length (m + 1) && Nat.beq t.size n && Nat.ble ((m + 1) * n) 16777216) (match t.sh with
    | true => (WA t ps 0).bind fun xs => newRow s k E t [] s.chs xs
    | false => (Kf t ps 0 s.chs).bind fun r => newRow s k E t r.used r.rest r.xs)
def acF (dst:Option Nat) (T:TypeId) (m:Nat) (parts:Array (Nat×Operand)):Option Y:=(td tt T).bind fun d=>d.el.bind fun E=>(td tt E).bind fun e=>match m with
 | 0=>cg parts.toList.isEmpty (newRow s k E (Rj an dst e.ty) [] s.chs [])
 | m+1=>e.bytes.bind fun _=>abE s k E e.n (Rj an dst e.ty) m parts.toList
def IF:Operand->Operand->Bool
 | .tmp t,.tmp u=>Nat.beq t u
 | .const (.int .i64 m),.const (.int .i64 n)=>match m,n with
  | .ofNat a,.ofNat b=>Nat.beq a b
  | _,_=>false
 | _,_=>false
def Ze (dst:Option Nat) (T:TypeId) (x y:Operand):Option Y:=(td tt T).bind fun d=>d.el.bind fun E=>(td tt E).bind fun e=>e.bytes.bind fun b=>match opd s x with
 | some (.one (.val (.int .i64 l)))=>cg (IF x y&&Nat.beq e.ty.size e.n&&decide ((Rj an dst e.ty).erase=e.ty.erase)) ((mkI b l (EH (Rj an dst e.ty))).bind fun xs=>newRow s k E (Rj an dst e.ty) [] s.chs xs)
 | _=>none
end
section
variable {Y:Type} {tt:TT} {an:List (Nat×Ty)} {s:Sg} {k:Res->Option Y} {P:Program} {w0:World} {o:Oper} {res:Y} {x y:Operand}
theorem NX (w:TTok P tt) {T:TypeId} {parts:Array (Nat×Operand)} (q:o.op= .build T parts) (h:UF tt s k T parts=some res):Oks P w0 s o k res:=by
 have ⟨d,p,h⟩:=bind_some h;have ⟨B,i,h⟩:=bind_some h;have ⟨b,v,h⟩:=bind_some h;have ⟨C,c,h⟩:=bind_some h;have ⟨r,m,h⟩:=bind_some h;have a:=w.get p;obtain ⟨z,f,e,-⟩:=a.zero b v;refine ⟨_,h,fQ (fun J θ g=>?_) fun J θ g=>?_⟩
 ·have ⟨n,j⟩:=q7 g c;have l:=Ke (θ:=θ) m;rw[List.map_map,show (zeroCells d.ty).map ((fun x:LV=>x.v θ) ∘ LV.val)=zeroCells d.ty from List.map_id' _] at l;exact Ns _ (a.place B i) f e q n l
 ·have ⟨n,j⟩:=q7 g c;exact GL m (fun x A=>by
   obtain ⟨u,t,rfl⟩:=List.mem_map.1 A;exact J9 _ u t) j
theorem WC (O:TTok P tt) {T:TypeId} {m:Nat} {parts:Array (Nat×Operand)} (v:o.op= .buildSlice T m parts) (h:acF tt an s k o.dst T m parts=some res):Oks P w0 s o k res:=by
 have ⟨d,U,h⟩:=bind_some h;have ⟨E,K,h⟩:=bind_some h;have ⟨e,Z,h⟩:=bind_some h;have c:=O.get U;have i:=O.get Z;cases m with
 | zero =>
  have ⟨hp,h⟩:=ai (show cg parts.toList.isEmpty _=some res from h);have H:parts= #[]:=by simpa using hp
  subst H;exact ⟨_,h,good_row (rs:=[]) (by simp) fun J θ p=>Rq (c.el E K) i.ti v⟩
 | succ m =>
  have ⟨b,X,h⟩:=bind_some (show e.bytes.bind _=some res from h);have ⟨N,l,h⟩:=bind_some h;have ⟨n,h⟩:=ai h;rw[aj,aj] at n;have a:=au n.1.1;have f:=au n.1.2;have g:=bC n.2;obtain ⟨z,j,V,-⟩:=i.zero b X;have M:0<e.n:=by rw[<-f];exact Ty.size_pos _
  split at h
  ·rename_i A;have ⟨S,t,h⟩:=bind_some h;refine ⟨_,h,good_row (rs:=[]) (by simp) fun J θ p=>?_⟩;have ⟨L,q⟩:=q7 p l;have ⟨w,C,W,I⟩:=Kg (J:=J) t q;have ⟨F,G,R,D⟩:=IE L w;exact Ir (UE (evL (envL θ s)) θ parts.toList N) S (Ty.cpy A) (by grind) (c.el E K) j M ((Ty.rep_size _).trans f) (Nat.succ_pos _) g v F (G.trans a) (C.trans a) fun u B=>⟨(D u B).1,by
    grind⟩
  ·have ⟨r,Q,h⟩:=bind_some h;refine ⟨_,h,good_row (rs:=[]) (Bu Q) fun J θ p=>?_⟩;have ⟨L,q⟩:=q7 p l;have ⟨w,C,W,I⟩:=GM (J:=J) Q q;have ⟨F,G,R,D⟩:=IE L w;rw[<-R] at I;exact OpT.pre I rfl (No (UE (evL (envL θ s)) θ parts.toList N) r.xs (c.el E K) j M ((Ty.rep_size _).trans f) (Nat.succ_pos _) g v F (G.trans a) (C.trans a) fun u B=>⟨(D u B).1,by
    grind⟩)
theorem L7 {x y:Operand} (h:IF x y=true):x=y:=by
 unfold IF at h;split at h
 ·simp_all
 ·split at h
  ·simp_all
  grind
 grind
theorem RO (n:TTok P tt) {T:TypeId} (t:o.op= .makeSlice T x y) (h:Ze tt an s k o.dst T x y=some res):Oks P w0 s o k res:=by
 have ⟨d,r,h⟩:=bind_some h;have ⟨E,C,h⟩:=bind_some h;have ⟨e,B,h⟩:=bind_some h;have ⟨b,A,h⟩:=bind_some h;have j:=n.get r;have i:=n.get B;split at h
 ·rename_i l p;have ⟨q,h⟩:=ai h;rw[aj,aj] at q;have ⟨⟨a,c⟩,v⟩:=q;have ⟨D,f,h⟩:=bind_some h;have a:=L7 a;have c:=au c;have ⟨z,m,u,g⟩:=i.zero b A;have F:z.cells.toList=zeroCells (Rj an o.dst e.ty):=by grind[mV,Rj]
  have w:(Rj an o.dst e.ty).size=e.n:=by grind[xr,mV]
  refine ⟨_,h,good_row (rs:=[]) (by simp) fun J θ G=>?_⟩;exact Y4 (by grind[AU]) (j.el E C) m t ((Ty.rep_size _).trans w) (by grind[Ty.size_pos]) g (aH p) (by rw[<-a];exact aH p) f
 grind
end
section
variable {Y:Type} (tt:TT) (an:List (Nat×Ty)) (s:Sg) (k:Res->Option Y)
def aa1 (E:TypeId) (b:Nat) (t:Ty) (xs:List t.den) (nsx rest:List Ent) (y:AV):Option Y:=match y with
 | .one (.own h)=>(rowOf h rest).bind fun r=>(oY (.sl r.E r.t) (.sl E t) r.xs).bind fun ys=>(bA b xs ys).bind fun zs=>match t.sh with
  | true=>k ⟨[r.ent h],nsx,r.rest,[(⟨s.nxt,[]⟩,.own (.sl E t) zs)],.one (.own ⟨s.nxt,[]⟩)⟩
  | false=>k ⟨[],nsx++ [r.ent h],r.rest,[(⟨s.nxt,[]⟩,.own (.sl E t) zs)],.one (.own ⟨s.nxt,[]⟩)⟩
 | .one (.rd h t' d)=>cg t.sh ((oX t' (.sl E t) d).bind fun ys=>(bA b xs ys).bind fun zs=>k ⟨[],nsx,rest,[(⟨s.nxt,[]⟩,.own (.sl E t) zs)],.one (.own ⟨s.nxt,[]⟩)⟩)
 | .one (.rdn h _ t' d)=>cg t.sh ((oX t' (.sl E t) d).bind fun ys=>(bA b xs ys).bind fun zs=>k ⟨[],nsx,rest,[(⟨s.nxt,[]⟩,.own (.sl E t) zs)],.one (.own ⟨s.nxt,[]⟩)⟩)
 | _=>none
def Zf (y:AV) (t:Ty):Ty:=match y with
 | .one (.own h)=>match rowOf h s.chs with
  | some r=>r.t
  | none=>t
 | _=>t
def acG (dst:Option Nat) (T:TypeId) (x y:Operand):Option Y:=(td tt T).bind fun d=>d.el.bind fun E=>(td tt E).bind fun e=>e.bytes.bind fun b=>(opd s y).bind fun yv=>match opd s x with
 | some (.one (.own h))=>(rowOf h s.chs).bind fun r=>cg (Nat.beq r.E E&&Nat.beq r.t.size e.n) (aa1 s k r.E b r.t r.xs [r.ent h] r.rest yv)
 | some (.one (.val v))=>cg (isNil v&&Nat.beq (Zf s yv (Rj an dst e.ty)).size e.n) (aa1 s k E b (Zf s yv (Rj an dst e.ty)) [] [] s.chs yv)
 | _=>none
end
section
variable {Y:Type} {tt:TT} {an:List (Nat×Ty)} {s:Sg} {k:Res->Option Y} {P:Program} {w0:World} {o:Oper} {res:Y} {x y:Operand}
theorem OpT.nilrow {I:Hp} {ev:Operand->Value} {α:Type} {E:TypeId} {R:Rep α} {rn:List Ch} {fact:Value->Prop} {gv:Value->List Ch} (h:OpT P I w0 o ev (Ch.own (ax E R) [.slice none 0 0] ([] :List α)::rn) fact gv):OpT P I w0 o ev rn fact gv:=fun w C a=>h w C a.nil
theorem OpT.permN {I:Hp} {ev:Operand->Value} {rn a:List Ch} {fact:Value->Prop} {gv:Value->List Ch} (hp:a.Perm rn) (h:OpT P I w0 o ev rn fact gv):OpT P I w0 o ev a fact gv:=fun w C b=>h w C (b.perm (hp.append_right C))
theorem yX {r:Row} {E:TypeId} {t:Ty} {ys:List t.den} {h:Hdr} (a:oY (.sl r.E r.t) (.sl E t) r.xs=some ys):r.ent h=(h,r.ver,.own (.sl E t) ys):=by
 have ⟨e,b⟩:=oZ a;obtain ⟨rfl,rfl⟩:=Ty.sl.inj e;rw[b];rfl
theorem NY {T E:TypeId} {z:Value} {n b:Nat} {t:Ty} {xs:List t.den} {nsx rest:List Ent} {C:AV} (hp:s.chs.Perm (nsx++rest)) (A:P.underlying T=some (.slice E)) (B:TZ P E z n b) (j:z.cells.size=n) (w:0<n) (p:t.size=n) (g:1<=b) (u:o.op= .call { callee:=.builtin .append,args:= #[x,y],argTypes:= #[T,T] }) (m:opd s y=some C)
  (e: ∀J θ,Fine P w0 J θ s-> ∃v,evL (envL θ s) x=v/\ ∀(rn:List Ch) (fact:Value->Prop) (D:Value->List Ch),OpT P J w0 o (evL (envL θ s)) (Ch.own (ax E t.rep) [v] xs::rn) fact D->OpT P J w0 o (evL (envL θ s)) (nsx.map (toCh P θ)++rn) fact D)
  (h:aa1 s k E b t xs nsx rest C=some res):Oks P w0 s o k res:=by
 unfold aa1 at h;split at h
 ·rename_i K;have ⟨r,L,h⟩:=bind_some h;have ⟨F,f,h⟩:=bind_some h;have ⟨H,a,h⟩:=bind_some h;obtain ⟨q,-⟩:=bY L;have G:=yX (h:=K) f;split at h
  ·rename_i d;refine ⟨_,h,good_row (hp.trans ((q.append_left nsx).trans List.perm_middle)) fun J θ i=>?_⟩;have ⟨v,c,e⟩:=e J θ i;rw[G]
   have:=Gz (P:=P) (I:=J) (w0:=w0) (R:=t.rep) a (Ty.sh_ok d) (Ty.cpy d) A B j w (t.rep_size.trans p) g u c (aH (θ:=θ) m)
   exact OpT.permN (List.perm_append_comm (l₁:=[_])) (e _ _ _ this)
  ·refine ⟨_,h,good_row (rs:=[]) (by
    have:=hp.trans (q.append_left nsx)
    grind) fun J θ i=>?_⟩
   have ⟨v,c,e⟩:=e J θ i;rw[G]
   have:=V7 (P:=P) (I:=J) (w0:=w0) (R:=t.rep) a A B j w (t.rep_size.trans p) g u c (aH (θ:=θ) m)
   have:=e _ _ _ this
   rw[List.nil_append,aZ];exact this
 ·have ⟨d,h⟩:=ai h;have ⟨F,f,h⟩:=bind_some h;have ⟨H,a,h⟩:=bind_some h;refine ⟨_,h,good_row (rs:=[]) hp fun J θ i=>?_⟩;have ⟨v,c,e⟩:=e J θ i;have l:=jE f (cf i m).2
  have:=wA (P:=P) (I:=J) (w0:=w0) (R:=t.rep) (S:=t.rep) (E':=E) a (Ty.cpy d) (t.rep_size.trans p) l A B j w (t.rep_size.trans p) g u c (aH (θ:=θ) m)
  have:=e _ _ _ this
  rw[List.append_nil] at this;exact this
 ·have ⟨d,h⟩:=ai h;have ⟨F,f,h⟩:=bind_some h;have ⟨H,a,h⟩:=bind_some h;refine ⟨_,h,good_row (rs:=[]) hp fun J θ i=>?_⟩;have ⟨v,c,e⟩:=e J θ i;have l:=jE f (cf i m).2.1
  have:=wA (P:=P) (I:=J) (w0:=w0) (R:=t.rep) (S:=t.rep) (E':=E) a (Ty.cpy d) (t.rep_size.trans p) l A B j w (t.rep_size.trans p) g u c (aH (θ:=θ) m)
  have:=e _ _ _ this
  rw[List.append_nil] at this;exact this
 grind
theorem WD (u:TTok P tt) {T:TypeId} (q:o.op= .call { callee:=.builtin .append,args:= #[x,y],argTypes:= #[T,T] }) (h:acG tt an s k o.dst T x y=some res):Oks P w0 s o k res:=by
 have ⟨d,A,h⟩:=bind_some h;have ⟨E,w,h⟩:=bind_some h;have ⟨e,F,h⟩:=bind_some h;have ⟨b,D,h⟩:=bind_some h;have ⟨I,t,h⟩:=bind_some h;have j:=u.get A;have i:=u.get F;have ⟨z,n,m,g⟩:=i.zero b D;have l:z.cells.size=e.n:=by rw[m,List.size_toArray,xr,i.sz]
 split at h
 ·rename_i B p;have ⟨r,G,h⟩:=bind_some h;have ⟨f,h⟩:=ai h;rw[aj] at f;have a:=au f.1;have c:=au f.2;obtain ⟨hp,-⟩:=bY G;exact NY (nsx:=[r.ent B]) hp ((j.el E w).trans (by rw[a])) (by grind) l (by grind[Ty.size_pos]) c g q t (fun J θ H=>⟨_,aH p,fun rn fact C h=>h⟩) h
 ·rename_i v p;have ⟨f,h⟩:=ai h;rw[aj] at f;have a:=oA f.1;have c:=au f.2;refine NY (nsx:=[]) (List.Perm.refl _) (j.el E w) n l (by grind[Ty.size_pos]) c g q t (fun J θ H=>⟨_,aH p,fun rn fact C h=>?_⟩) h;rw[show (AV.one (LV.val v)).v θ= .slice none 0 0 from a] at h;exact OpT.nilrow h
 grind
end
structure Hol where
 ver:Nat
 over:Nat
 t:Ty
 d:t.den
 u:Ty
 y:u.den
 f:u.den->t.den
 i:Int
 k:Nat
 off:Nat
 lv:LV
 rest:List Ent
def IG (h:Hdr) (chs:List Ent):Option Hol:=(pull h chs).bind fun r=>match r.1.2.2 with
 | .hole over t d u y f i k off lv=>some ⟨r.1.2.1,over,t,d,u,y,f,i,k,off,lv,r.2⟩
 | _=>none
def Hol.ent (r:Hol) (h:Hdr):Ent:=(h,r.ver,.hole r.over r.t r.d r.u r.y r.f r.i r.k r.off r.lv)
theorem AX {h:Hdr} {chs:List Ent} {r:Hol} (e:IG h chs=some r):chs.Perm (r.ent h::r.rest):=by
 have ⟨q,g,e⟩:=bind_some e;have ⟨p,k⟩:=gC g;have ⟨⟨b,a,c⟩,rest⟩:=q;obtain rfl:b=h:=k;cases c with
 | hole over t d u y f i k off j =>
  cases ae (show some _=some r from e);exact p
 | _=>cases e
def partOf (r:Hol):Option (Bool×r.u.den×List Ent):=match r.lv with
 | .own l=>(pull l r.rest).bind fun q=>match q.1.2.2 with
  | .own u' d=>(oY u' r.u d).bind fun d=>some (Nat.beq q.1.2.1 r.ver,d,q.2)
  | _=>none
 | _=>none
theorem GN {r:Hol} {q:Bool×r.u.den×List Ent} (h:partOf r=some q): ∃l a,r.lv= .own l/\r.rest.Perm ((l,a,.own r.u q.2.1)::q.2.2)/\(q.1=true->a=r.ver):=by
 have ⟨a,over,t,d,u,y,f,i,k,off,b,rest⟩:=r;cases b with
 | own l =>
  have ⟨e,c,h⟩:=bind_some (show (pull l rest).bind _=some q from h);grind[gC,bind_some,oY,bind,ae,oZ,au]
 | _=>cases h
def II (h:Hdr) (s:Sg):Option Sg:=(IG h s.chs).bind fun r=>(partOf r).bind fun q=>match q.1 with
 | true=>some ⟨s.env,(h,r.over,.own r.t r.d)::q.2.2,s.nxt+1⟩
 | false=>some ⟨s.env,(h,s.nxt,.own r.t (r.f q.2.1))::q.2.2,s.nxt+1⟩
section
variable {P:Program} {I J:Hp} {w0 w:World} {F:Ch} {n:Nat} {θ:Th} {s s':Sg} {a:Act} {o:Oper}
theorem Sim.chs (c:Sim P I w0 F n J θ s a w) {b:List Ent} (f:St J w0 w (b.map (toCh P θ)++ [F])) (h:Newer s.nxt s.chs b) (d: ∀e∈b,okE P w0 J θ (s.nxt+1) b e):Sim P I w0 F n J θ ⟨s.env,b,s.nxt+1⟩ a w:=
 ⟨c.le,c.agr,f,fun e g=>AV.ok_same Same.rfl (Nat.le_succ _) h (c.fine.env e g) Hp.le.rfl,fun e g=>bc (c.fine.ver e g),c.fine.nd,d,c.fine.lay⟩
theorem L8 {h:Hdr} (hs:II h s=some s') (m:Sim P I w0 F n J θ s a w):Sim P I w0 F n J θ s' a w:=by
 have ⟨r,G,hs⟩:=bind_some hs;have ⟨q,H,hs⟩:=bind_some hs;have hp:=AX G;have ⟨l,x,z,y,C⟩:=GN H;have k:=hp.trans (y.cons _);have g:=m.fine.chs (r.ent h) (hp.mem_iff.2 (by simp));have j:St J w0 w (Ch.own r.t.rep [hv θ h] (r.f q.2.1)::(q.2.2.map (toCh P θ)++ [F])):=by
  have D:=m.st.perm ((k.map (toCh P θ)).append_right [F]);have A:St J w0 w (Ch.own r.u.rep [hv θ l] q.2.1::Ch.gap r.t.rep [hv θ h] r.u.rep r.f (ptB (hv θ h)) (ptO (hv θ h)+(r.i.toNat*r.k+r.off)) (r.lv.v θ)::(q.2.2.map (toCh P θ)++ [F])):=D.perm (List.Perm.swap _ _ _);rw[z] at A;exact St.settle A
 have i: ∀e,e∈q.2.2->e∈s.chs:=fun e f=>k.mem_iff.2 (by grind);cases v:q.1 with
 | true =>
  rw[v] at hs;cases ae (show some _=some s' from hs);have p:=C v;have B:q.2.1=r.y:=by
   have:=(g.2.2.2.2.2 l z).2 (l,x,.own r.u q.2.1) (k.mem_iff.2 (by simp)) _ ⟨rfl,.inl ⟨p,rfl⟩⟩
   injection this with _ K
  have u:r.f q.2.1=r.d:=by rw[B];exact g.2.2.2.2.1
  rw[u] at j;have d:Newer s.nxt s.chs ((h,r.over,.own r.t r.d)::q.2.2):=fun e f E t c b=>by
   rcases aE f with rfl | f
   ·obtain ⟨rfl,b⟩:=b;rcases b with ⟨rfl,rfl⟩ | b
    ·exact .inr ⟨r.ent h,hp.mem_iff.2 (by simp),rfl,.inr ⟨rfl,rfl⟩⟩
    ·exact b.elim
   grind
  refine m.chs j d fun e f=>?_;rcases aE f with rfl | f
  ·exact ⟨bc g.1,bc (Nat.lt_trans g.2.2.2.1 g.2.1),trivial⟩
  ·exact gL Same.rfl (Nat.le_succ _) d (m.fine.chs e (i e f)) Hp.le.rfl
 | false =>
  rw[v] at hs;cases ae (show some _=some s' from hs);have d:Newer s.nxt s.chs ((h,s.nxt,.own r.t (r.f q.2.1))::q.2.2):=fun e f E t c b=>by
   rcases aE f with rfl | f
   ·obtain ⟨rfl,b⟩:=b;rcases b with ⟨rfl,rfl⟩ | b
    ·grind
    ·exact b.elim
   grind
  refine m.chs j d fun e f=>?_;rcases aE f with rfl | f
  ·exact ⟨bc g.1,aB _,trivial⟩
  ·exact gL Same.rfl (Nat.le_succ _) d (m.fine.chs e (i e f)) Hp.le.rfl
def settle:Nat->Hdr->Sg->Sg
 | 0,_,s=>s
 | m+1,h,s=>match IG h s.chs with
  | some r=>match r.lv with
   | .own l=>match II h (settle m l s) with
    | some s'=>s'
    | none=>s
   | _=>s
  | none=>s
theorem Bv: ∀ {m:Nat} {h:Hdr} {s:Sg},Sim P I w0 F n J θ s a w->Sim P I w0 F n J θ (settle m h s) a w
 | 0,_,_,hS=>hS
 | m+1,h,s,hS=>by
  unfold settle;split
  ·split
   ·split
    ·rename_i b;exact L8 b (Bv hS)
    omega
   omega
  omega
end
section
variable {Y:Type} (tt:TT) (s:Sg) (k:Res->Option Y)
def NZ (T:TypeId) (x y:Operand):Option Y:=(td tt T).bind fun d=>match opd s x,opd s y with
 | some (.elo h ver E t xs a i off),some (.one lv)=>(IG h s.chs).bind fun r=>cg (Nat.beq r.k t.size&&Nat.beq r.off off && !d.agg&&Nat.beq d.n 1&&(match lv with | .own l=> !(Hdr.beq l h) | _=>true)) ((chk (i=r.i)).bind fun _=>k ⟨[],[r.ent h],r.rest,[(h,.hole r.over r.t r.d r.u r.y r.f r.i r.k r.off lv)],.any ⟨s.nxt,[]⟩⟩)
 | _,_=>none
end
theorem ER (h:Hdr):Hdr.beq h h=true:=by grind[Hdr.beq,Nat.beq_refl,Bl]
section
variable {Y:Type} {tt:TT} {s:Sg} {k:Res->Option Y} {P:Program} {w0:World} {o:Oper} {res:Y} {x y:Operand}
theorem L9 (hT:TTok P tt) {T:TypeId} (V:o.op= .store T x y) (h:NZ tt s k T x y=some res):Oks P w0 s o k res:=by
 have ⟨d,W,h⟩:=bind_some h;split at h
 ·rename_i b Z E t xs a i off N hx O;have ⟨r,hr,h⟩:=bind_some h;have ⟨U,h⟩:=ai h;rw[aj,aj,aj,aj] at U;have ⟨⟨⟨⟨p,q⟩,m⟩,w⟩,hc5⟩:=U;have ⟨u,K,h⟩:=bind_some h;have K:=bM K;have p:=au p;have q:=au q;have m:d.agg=false:=by simpa using m
  have w:=au w;have hp:=AX hr;have B:=(hT.get W).ti;rw[m,w] at B;refine ⟨_,h,Db hp,fun J θ D g C Q c F=>?_,fun J θ D=>?_⟩
  ·cases ak C;exact ⟨r.ent b,hp.mem_iff.2 (by simp),rfl,.inr F⟩
  ·have j:=lQ D hp;have z:=cf D O;have H:evL (envL θ s) x= .pointer (some ⟨ptB (hv θ b),ptO (hv θ b)+(r.i.toNat*r.k+r.off),none⟩):=by
    rw[aH (θ:=θ) hx,p,q,<-K];rfl
   have X: ∀u,hv (upd θ s.nxt u) b=hv θ b:=fun u=>be Same.upd j.1
   have:=EP (P:=P) (I:=J) (w0:=w0) (R:=r.t.rep) (S:=r.u.rep) (cs:=[hv θ b]) (f:=r.f) (v:=r.lv.v θ) B V H (aH (θ:=θ) O) (LV.one z)
   refine OpT.weak this (fun v L=>⟨aB _,eH,fun g C=>?_⟩) (fun v L=>?_)
   ·cases ak C;refine ⟨bc j.1,aB _,LV.ok_same Same.upd (Nat.le_succ _) z Hp.le.rfl,Nat.lt_trans j.2.2.2.1 j.2.1,j.2.2.2.2.1,fun l hl=>?_⟩;have G:l≠b:=fun e=>by
     grind[Hdr.beq,ER]
    refine ⟨aB _,fun e A c F=>?_⟩;rcases aG A with A | A
    ·obtain ⟨g,C,rfl⟩:=List.mem_map.1 A;cases ak C;exact absurd F.1.symm G
    ·have A:e∈s.chs:=hp.mem_iff.2 (bF _ (by grind));have n:=D.chs e A;have ⟨h',v',c'⟩:=e;rcases F.2 with ⟨M,h2⟩ | M
     ·have:=n.2.1
      grind
     ·cases c' with
      | hole over _ _ _ _ _ _ _ _ _ =>
       have:=Nat.lt_trans n.2.2.2.1 n.2.1
       rw[M.1] at this;grind
      | _=>exact M.elim
   ·show [Ch.gap _ [hv θ b] _ _ (ptB (hv θ b)) (ptO (hv θ b)+_) (N.v θ)] = [Ch.gap _ [hv (upd θ s.nxt v) b] _ _ (ptB (hv (upd θ s.nxt v) b)) (ptO (hv (upd θ s.nxt v) b)+_) (N.v (upd θ s.nxt v))];rw[X,LV.v_same Same.upd z]
 grind
end
inductive PM
 | rd (t:Ty)
 | ow (t:Ty)
 | fn (ps rs:List Ty)
 | cap (T:TypeId) (t:Ty)
 | capf (T:TypeId) (ps rs:List Ty)
 | ptr (T:TypeId) (t:Ty)
 | eat (t:Ty)
 | fk (g:Nat)
 | crs (T:TypeId) (E:TypeId)
 | kb (g:Nat) (T:TypeId) (t:Ty)
 | kc (g:Nat)
 deriving DecidableEq
def PM.den:PM->Type
 | .rd t=>t.den
 | .ow t=>t.den
 | .fn ps rs=>cur ps (Option (dens rs))
 | .cap _ t=>t.den
 | .capf _ ps rs=>cur ps (Option (dens rs))
 | .ptr _ t=>t.den
 | .eat t=>t.den
 | .fk _=>Unit
 | .crs _ _=>List Int×Int×Int
 | .kb _ _ t=>t.den
 | .kc _=>Unit
def denP:List PM->Type
 | [] =>Unit
 | p::ps=>p.den×denP ps
def curP:List PM->Type->Type
 | [],R=>R
 | p::ps,R=>p.den->curP ps R
def appP {R:Type} :(ps:List PM)->curP ps R->denP ps->R
 | [],f,_=>f
 | _::ps,f,d=>appP ps (f d.1) d.2
def PM.out:PM->List Ty
 | .ow t=>[t]
 | .ptr _ t=>[t]
 | .crs _ _=>[.prod (.int .i64) (.int .i64)]
 | .kb _ _ t=>[t]
 | _=>[]
def outs:List PM->List Ty
 | [] =>[]
 | p::ps=>match p with
  | .ow t=>t::outs ps
  | .ptr _ t=>t::outs ps
  | .crs _ _=>.prod (.int .i64) (.int .i64)::outs ps
  | .kb _ _ t=>t::outs ps
  | _=>outs ps
def hFst:(ts us:List Ty)->kN (ts++us)->kN ts
 | [],_,_=>()
 | _::ts,us,d=>(d.1,hFst ts us d.2)
def hSnd:(ts us:List Ty)->kN (ts++us)->kN us
 | [],_,d=>d
 | _::ts,us,d=>hSnd ts us d.2
structure FS where
 ps:List PM
 rs:List Ty
 m:curP ps (Option (dens (rs++outs ps)))
 cl:Option (TypeId×Nat)
theorem Zg:Ik.Dp:=Bi
def yY (P:Program) (k:FuncId) (E b:Nat):Prop:=Enters P k/\ ∀(E':TypeId) (I:Hp) (w0:World) (v:Value) (xs zs:List Raw),Lay P I->(ax E' Ik).rd I [v] xs->bA b [] xs=some zs->Con P k #[v] I w0 [] (fun _=>True) (fun r=>[Ch.own (ax E Ik) [r] zs])
abbrev FT:=List (Nat×FS)
def fs (ft:FT) (k:Nat):Option FS:=match ft with
 | [] =>none
 | (j,f)::l=>if Nat.beq j k then some f else fs l k
def abF (P:Program) (w0:World) (J:Hp) (γ:Value):(p:PM)->Value->p.den->Prop
 | .rd t,v,d=> ∃cs,Lds t.isProd cs v/\t.rep.rd J cs d
 | .ow t,v,_=>qY v=t.isProd
 | .fn a b,v,d=>FnOk P w0 J v a b d
 | .cap T t,v,d=> ∃b,v= .pointer (some ⟨b,0,none⟩)/\ ∃cells:List Value,J b=some (.cells cells.toArray T (0,0))/\t.rep.rd J cells d
 | .capf T x y,v,d=> ∃b,v= .pointer (some ⟨b,0,none⟩)/\ ∃u:Value,J b=some (.cells [u].toArray T (0,0))/\FnOk P w0 J u x y d
 | .ptr T t,v,_=> ∃b,v= .pointer (some ⟨b,0,none⟩)
 | .eat t,v,_=>qY v=t.isProd
 | .fk g,v,_=>v= .func (.func g) #[] #[]
 | .crs _ E,v,d=>(∃b,v= .pointer (some ⟨b,0,none⟩))/\(Ty.sl E (.int .u8)).rep.rd J [γ] d.1
 | .kb g _ _,v,_=>v= .func (.func g) #[] #[γ] /\ ∃b,γ= .pointer (some ⟨b,0,none⟩)
 | .kc g,v,_=>v= .func (.func g) #[] #[γ] /\ ∃b,γ= .pointer (some ⟨b,0,none⟩)
def PArgs (P:Program) (w0:World) (J:Hp) (γ:Value):(ps:List PM)->List Value->denP ps->Prop
 | [],vs,_=>vs= []
 | p::ps,vs,d=> ∃v r,vs=v::r/\abF P w0 J γ p v d.1/\PArgs P w0 J γ ps r d.2
def owCh (γ:Value):(ps:List PM)->List Value->denP ps->List Ch
 | p::ps,v::vs,d=>match p,d with
  | .ow t,d=>Ch.own t.rep (lP t.isProd v) d.1::owCh γ ps vs d.2
  | .ptr T t,d=>Ch.box (bk v) T t.rep d.1::owCh γ ps vs d.2
  | .eat t,d=>Ch.own t.rep (lP t.isProd v) d.1::owCh γ ps vs d.2
  | .rd _,d=>owCh γ ps vs d.2
  | .fn _ _,d=>owCh γ ps vs d.2
  | .cap _ _,d=>owCh γ ps vs d.2
  | .capf _ _ _,d=>owCh γ ps vs d.2
  | .fk _,d=>owCh γ ps vs d.2
  | .crs T _,d=>Ch.blk (bk v) [γ,.int .i64 d.1.2.1,.int .i64 d.1.2.2] T::owCh γ ps vs d.2
  | .kb _ T t,d=>Ch.box (bk γ) T t.rep d.1::owCh γ ps vs d.2
  | .kc _,d=>owCh γ ps vs d.2
 | _,_,_=>[]
def outCh (γ:Value):(ps:List PM)->List Value->kN (outs ps)->List Ch
 | p::ps,v::vs,d=>match p,d with
  | .ow t,d=>Ch.own t.rep (lP t.isProd v) d.1::outCh γ ps vs d.2
  | .ptr T t,d=>Ch.box (bk v) T t.rep d.1::outCh γ ps vs d.2
  | .eat _,d=>outCh γ ps vs d
  | .rd _,d=>outCh γ ps vs d
  | .fn _ _,d=>outCh γ ps vs d
  | .cap _ _,d=>outCh γ ps vs d
  | .capf _ _ _,d=>outCh γ ps vs d
  | .fk _,d=>outCh γ ps vs d
  | .crs T _,d=>Ch.blk (bk v) [γ,.int .i64 d.1.1,.int .i64 d.1.2] T::outCh γ ps vs d.2
  | .kb _ T t,d=>Ch.box (bk γ) T t.rep d.1::outCh γ ps vs d.2
  | .kc _,d=>outCh γ ps vs d
 | _,_,_=>[]
def aa2 (P:Program) (k:FuncId):Prop:= ∀(w:World) (g h oa ob la lb ca cb:Nat) (curA curB:Array Value) (tA tB:TypeId),g≠h->w.heap[g]? =some (.cells curA tA (0,0))->w.heap[h]? =some (.cells curB tB (0,0))->0<curB.size->(callFunc k #[.slice (some ⟨g,oa,none⟩) la ca,.slice (some ⟨h,ob,none⟩) lb cb]).run P w= .ok (.value (.bool false)) w
def Zh (P:Program) (k:FuncId) (T f:Nat):Prop:=Enters P k/\ ∀(I:Hp) (w0:World) (c d:List Value),Con P k #[.agg c.toArray,.agg d.toArray] I w0 []
 (fun v=> ∃b1 b2,v= .func (.func f) #[] #[.pointer (some ⟨b1,0,none⟩),.pointer (some ⟨b2,0,none⟩)]) (fun v=>[Ch.emp,Ch.blk (bk (vg v [0])) c T,Ch.blk (bk (vg v [1])) d T])
def FS.ov (f:FS):Bool:=match f.cl with
 | some q=>Nat.beq q.2 0 || Nat.beq q.2 9
 | none=>false
def ClOk (P:Program) (k:FuncId) (E b:Nat):Prop:=(Nat.beq b 0=true->aa2 P k)/\(Nat.beq b 0=false->Nat.beq b 7=false->Nat.ble 1000 b=false->Nat.beq b 9=false->yY P k E b)/\(Nat.ble 1000 b=true->Zh P k E (b - 1000))
def xx:(ts:List Ty)->kN ts->Value->Prop
 | [.sl _ t],d,v=>List.length (α:=t.den) d.1=0->v= .slice none 0 0
 | _,_,_=>True
def NilOk (P : Program) (k : FuncId) (f : FS) : Prop := ∀ w0 J γ vs (d : denP f.ps) r, Lay P J -> PArgs P w0 J γ f.ps vs d -> appP f.ps f.m d = some r ->
    Con P k vs.toArray J w0 (owCh γ f.ps vs d) (fun v => resFa f.rs v /\ xx f.rs (hFst f.rs (outs f.ps) (toH _ r)) v) (fun v => resGv f.rs (hFst f.rs (outs f.ps) (toH _ r)) v ++ outCh γ f.ps vs (hSnd f.rs (outs f.ps) (toH _ r)))
def WE:(ts:List Ty)->kN ts->Option (List Int)
 | [],_=>some []
 | .int .i64::ts,d=>(WE ts d.2).map fun l=>d.1::l
 | _::_,_=>none
def NewOk (P : Program) (k : FuncId) (T : Nat) (f : FS) : Prop := Enters P k /\ ∀ w0 J γ vs (d : denP f.ps) r ns, Lay P J -> PArgs P w0 J γ f.ps vs d -> appP f.ps f.m d = some r -> WE (f.rs ++ outs f.ps) (toH _ r) = some ns ->
    Con P k vs.toArray J w0 [] (fun v => ∃ b, v = .pointer (some ⟨b, 0, none⟩)) (fun v => [Ch.blk (bk v) (vs ++ ns.map (Value.int .i64)) T])
structure FOk (P:Program) (k:FuncId) (f:FS):Prop where
 cl: ∀q,f.cl=some q->ClOk P k q.1 q.2/\(Nat.beq q.2 7=true->NilOk P k f)/\(Nat.beq q.2 9=true->NewOk P k q.1 f)
 en:f.ov=false->Enters P k
 con:f.ov=false-> ∀w0 J γ vs (d:denP f.ps) r,Lay P J->PArgs P w0 J γ f.ps vs d->appP f.ps f.m d=some r->
  Con P k vs.toArray J w0 (owCh γ f.ps vs d) (resFa f.rs) (fun v=>resGv f.rs (hFst f.rs (outs f.ps) (toH _ r)) v++outCh γ f.ps vs (hSnd f.rs (outs f.ps) (toH _ r)))
def FTok (P:Program):FT->Prop
 | [] =>True
 | (k,f)::l=>FOk P k f/\FTok P l
theorem FTok.get {P:Program} {k:Nat} {f:FS} : ∀ {a:FT},FTok P a->fs a k=some f->FOk P k f
 | (j,x)::l,⟨h1,h2⟩,h=>by
  unfold fs at h;split at h
  ·rename_i b
   have:=au b
   subst this;rw[<-ae h];exact h1
  ·exact FTok.get h2 h
def Ty.dp:Ty->Bool
 | .prod a b=>a.dp&&b.dp
 | .sl _ t=>t.dp
 | .fro _=>false
 | .bag _=>false
 | .wr t=>t.dp
 | .tree _ _ _=>false
 | _=>true
theorem Ty.dp_ok: ∀ {t:Ty},t.dp=true->t.rep.Dp
 | .int _,_=>Bi
 | .bool,_=>V2
 | .str,_=>Y0
 | .raw,_=>Bi (α:=Raw) (enc:=(·.1)) (h1:=(·.2))
 | .prod a b,h=>by
  have h:(a.dp&&b.dp)=true:=h;rw[aj] at h;exact V3 (dp_ok h.1) (dp_ok h.2)
 | .sl _ t,h=>EB (dp_ok (show t.dp=true from h))
 | .fro _,h=>by cases h
 | .bag _,h=>by cases h
 | .wr t,h=>dp_ok (t:=t) h
 | .tree _ _ _,h=>by cases h
def nt (id:Nat) (pth:Nat->List Nat):(t:Ty)->t.den->Nat->List LV
 | .int k,d,_=>[.val (.int k d)]
 | .bool,d,_=>[.val (.bool d)]
 | .str,d,_=>[.val (.string d)]
 | .raw,d,_=>[.val d.1]
 | .prod a b,d,j=>nt id pth a d.1 j++nt id pth b d.2 (j+a.size)
 | .sl E t,d,j=>[.rd ⟨id,pth j⟩ (.sl E t) d]
 | .fro t,d,j=>nt id pth t d j
 | .bag t,d,j=>nt id pth t d j
 | .wr t,d,j=>nt id pth t d j
 | .tree T E t,d,j=>[.rd ⟨id,pth j⟩ (.tree T E t) d]
theorem kh {P:Program} {w0:World} {J:Hp} {θ:Th} {id n:Nat} {pth:Nat->List Nat} (e:id<n): ∀(t:Ty) (d:t.den) (j:Nat) (cs:List Value),t.rep.rd J cs d->(∀i v,cs[i]? =some v->vg (θ id) (pth (j+i))=v)->
  (∀x∈nt id pth t d j,x.ok P w0 J θ n)/\(nt id pth t d j).map (·.v θ)=cs
 | .int k,d,j,cs,h,_=>⟨fun x c=>by cases ak c;rfl,h.symm⟩
 | .bool,d,j,cs,h,_=>⟨fun x c=>by cases ak c;rfl,h.symm⟩
 | .str,d,j,cs,h,_=>⟨fun x c=>by cases ak c;rfl,h.symm⟩
 | .raw,d,j,cs,h,_=>⟨fun x c=>by cases ak c;exact d.2,h.symm⟩
 | .prod a b,d,j,cs,h,hc=>by
  obtain ⟨p,q,rfl,g,l⟩:=h;have r:=(Rep.rd_len _ g).trans a.rep_size;obtain ⟨o,w⟩:=kh e a d.1 j p g fun i v hv=>hc i v (by grind);obtain ⟨m,s⟩:=kh e b d.2 (j+a.size) q l fun i v hv=>by
   have:=hc (a.size+i) v (by grind)
   rwa [show j+a.size+i=j+(a.size+i) from by omega]
  refine ⟨fun x c=>?_,?_⟩
  ·rcases aG c with c | c
   ·exact o x c
   ·exact m x c
  grind[nt]
 | .sl E t,d,j,cs,h,hc=>by
  obtain ⟨u,rfl⟩:=List.length_eq_one_iff.1 (Rep.rd_len _ h);have f:hv θ ⟨id,pth j⟩=u:=by
   have:=hc 0 u rfl
   rwa [Nat.add_zero] at this
  refine ⟨fun x c=>?_,?_⟩
  ·cases ak c;exact ⟨e,by grind⟩
  ·show [hv θ ⟨id,pth j⟩] = [u];rw[f]
 | .fro t,d,j,cs,h,hc=>kh e t d j cs h hc
 | .bag t,d,j,cs,h,hc=>kh e t d j cs h hc
 | .wr t,d,j,cs,h,hc=>kh e t d j cs h hc
 | .tree T E t,d,j,cs,h,hc=>by
  obtain ⟨u,rfl⟩:=List.length_eq_one_iff.1 (Rep.rd_len _ h);have f:hv θ ⟨id,pth j⟩=u:=by
   have:=hc 0 u rfl
   rwa [Nat.add_zero] at this
  refine ⟨fun x c=>?_,?_⟩
  ·cases ak c;exact ⟨e,by grind⟩
  ·show [hv θ ⟨id,pth j⟩] = [u];rw[f]
def jo (id:Nat) (pth:Nat->List Nat):(t:Ty)->t.den->Nat->List LV
 | .int k,d,_=>[.val (.int k d)]
 | .bool,d,_=>[.val (.bool d)]
 | .str,d,_=>[.val (.string d)]
 | .raw,d,_=>[.val d.1]
 | .prod a b,d,j=>jo id pth a d.1 j++jo id pth b d.2 (j+a.size)
 | .sl _ _,_,j=>[.own ⟨id,pth j⟩]
 | .fro t,d,j=>nt id pth t d j
 | .bag t,_,j=>(List.range t.size).map fun i=>.own ⟨id,pth (j+i)⟩
 | .wr t,d,j=>jo id pth t d j
 | .tree _ _ _,_,j=>[.own ⟨id,pth j⟩]
def sJ (id:Nat) (pth:Nat->List Nat):(t:Ty)->t.den->Nat->List (Hdr×Chk)
 | .prod a b,d,j=>sJ id pth a d.1 j++sJ id pth b d.2 (j+a.size)
 | .wr t,d,j=>sJ id pth t d j
 | .tree T E t,d,j=>[(⟨id,pth j⟩,.own (.tree T E t) d)]
 | .sl E t,d,j=>[(⟨id,pth j⟩,.own (.sl E t) d)]
 | _,_,_=>[]
section
variable {P:Program} {I J:Hp} {w0 w:World} {C:List Ch} {θ:Th} {n m:Nat}
theorem Kh {α β:Type} {A:Rep α} {B:Rep β} {cs:List Value} {x:α×β} (h:St I w0 w (Ch.own (tf A B) cs x::C)): ∃c d,cs=c++d/\c.length=A.size/\St I w0 w (Ch.own A c x.1::Ch.own B d x.2::C):=by
 obtain ⟨l,g,F,⟨G,K,rfl,⟨c,d,f,a,rfl,rfl,b,j⟩,e⟩,i,k⟩:=h;exact ⟨c,d,rfl,A.own_len b,l,g,(f++a)++K,⟨f,a++K,by grind,b,a,K,rfl,j,e⟩,i,k⟩
theorem xy {α:Type} {enc:α->Value} {h1: ∀a,(enc a).oneCell'=true} {cs:List Value} {x:α} (h:St I w0 w (Ch.own (me α enc h1) cs x::C)):cs= [enc x] /\St I w0 w C:=by
 obtain ⟨h1,c,F,⟨G,K,rfl,⟨rfl,k⟩,e⟩,b,d⟩:=h;exact ⟨k,h1,c,K,e,b,d⟩
theorem kj {id:Nat} {pth:Nat->List Nat} (l:id<n): ∀(t:Ty) (d:t.den) (j:Nat) (cs:List Value) (C:List Ch),(∀i v,cs[i]? =some v->vg (θ id) (pth (j+i))=v)->St J w0 w (Ch.own t.rep cs d::C)->
  (∀x∈jo id pth t d j,x.ok P w0 J θ n)/\(jo id pth t d j).map (·.v θ)=cs/\(∀g∈sJ id pth t d j,g.1.id=id)/\St J w0 w (((sJ id pth t d j).map fun g=>toCh P θ (g.1,m,g.2))++C)
 | .int k,d,j,cs,C,_,h=>by
  obtain ⟨rfl,r⟩:=xy h;exact ⟨fun x f=>by cases ak f;rfl,rfl,fun g c=>(by cases c),r⟩
 | .bool,d,j,cs,C,_,h=>by
  obtain ⟨rfl,r⟩:=xy (h1:=fun _=>rfl) h;exact ⟨fun x f=>by cases ak f;rfl,rfl,fun g c=>(by cases c),r⟩
 | .str,d,j,cs,C,_,h=>by
  obtain ⟨rfl,r⟩:=xy (h1:=fun _=>rfl) h;exact ⟨fun x f=>by cases ak f;rfl,rfl,fun g c=>(by cases c),r⟩
 | .raw,d,j,cs,C,_,h=>by
  obtain ⟨rfl,r⟩:=xy (α:=Raw) (enc:=(·.1)) (h1:=(·.2)) h;exact ⟨fun x f=>by cases ak f;exact d.2,rfl,fun g c=>(by cases c),r⟩
 | .prod a b,d,j,cs,C,hc,h=>by
  obtain ⟨Q,R,rfl,q,h⟩:=Kh h;rw[a.rep_size] at q;have ⟨H,L,S,N⟩:=kj l a d.1 j Q _ (fun i v hv=>hc i v (by grind)) h;obtain ⟨X,W,V,M⟩:=kj l b d.2 (j+a.size) R _ (fun i v hv=>by
   have:=hc (a.size+i) v (by grind)
   rwa [show j+a.size+i=j+(a.size+i) from by omega]) (N.perm List.perm_middle)
  refine ⟨fun x f=>?_,?_,fun g c=>?_,?_⟩
  ·rcases aG f with f | f
   ·grind
   grind
  ·grind[jo]
  ·rcases aG c with c | c
   ·grind
   grind
  ·show St J w0 w (((sJ id pth a d.1 j++sJ id pth b d.2 (j+a.size)).map _)++C);refine M.perm ?_;grind[aC,List.perm_append_comm_assoc]
 | .sl E t,d,j,cs,C,hc,h=>by
  have o: ∃u,cs= [u] /\u.oneCell'=true:=by
   obtain ⟨h1,p,F,⟨G,K,rfl,k,e⟩,s,y⟩:=h;have q:=(Ty.sl E t).rep.own_len k;obtain ⟨u,rfl⟩:=List.length_eq_one_iff.1 q;exact ⟨u,rfl,(Ty.sl E t).rep.own_one k u (by simp)⟩
  obtain ⟨u,rfl,h1⟩:=o;have z:hv θ ⟨id,pth j⟩=u:=by
   have:=hc 0 u rfl
   rwa [Nat.add_zero] at this
  refine ⟨fun x f=>?_,?_,fun g c=>?_,?_⟩
  ·cases ak f;exact ⟨l,by grind⟩
  ·show [hv θ ⟨id,pth j⟩] = [u];rw[z]
  ·cases ak c;rfl
  ·show St J w0 w (Ch.own _ [hv θ ⟨id,pth j⟩] d::C);grind
 | .fro t,d,j,cs,C,hc,h=>by
  obtain ⟨h1,p,F,⟨G,K,rfl,⟨rfl,k⟩,e⟩,s,y⟩:=h;obtain ⟨H,L⟩:=kh (J:=J) l t d j cs k hc;exact ⟨H,L,fun g c=>(by cases c),h1,p,K,e,s,y⟩
 | .wr t,d,j,cs,C,hc,hs=>kj l t d j cs C hc hs
 | .bag t,d,j,cs,C,hc,h=>by
  obtain ⟨h1,p,F,⟨G,K,rfl,k,e⟩,s,y⟩:=h;have q:=((Ty.bag t).rep.own_len k).trans t.rep_size;have U:=(Ty.bag t).rep.own_one k;have A:St J w0 w C:=⟨h1,p,K,e,(List.nodup_append.1 s).2.1,fun b O=>y b (bp _ O)⟩;have D: ∀i (B:i<cs.length),hv θ ⟨id,pth (j+i)⟩=cs[i]:=fun i B=>hc i _ (List.getElem?_eq_getElem B);refine ⟨fun x f=>?_,?_,fun g c=>(by cases c),A⟩
  ·obtain ⟨i,B,rfl⟩:=List.mem_map.1 f;exact ⟨l,by grind⟩
  ·show ((List.range t.size).map fun i=>LV.own ⟨id,pth (j+i)⟩).map (·.v θ)=cs;rw[List.map_map,<-q];refine List.ext_getElem (by simp) fun i h1 p=>?_;rw[List.getElem_map,List.getElem_range];exact D i p
 | .tree T E t,d,j,cs,C,hc,h=>by
  have o: ∃u,cs= [u] /\u.oneCell'=true:=by
   obtain ⟨h1,p,F,⟨G,K,rfl,k,e⟩,s,y⟩:=h;have q:=(Ty.tree T E t).rep.own_len k;obtain ⟨u,rfl⟩:=List.length_eq_one_iff.1 q;exact ⟨u,rfl,(Ty.tree T E t).rep.own_one k u (by simp)⟩
  obtain ⟨u,rfl,h1⟩:=o;have z:hv θ ⟨id,pth j⟩=u:=by
   have:=hc 0 u rfl
   rwa [Nat.add_zero] at this
  refine ⟨fun x f=>?_,?_,fun g c=>?_,?_⟩
  ·cases ak f;exact ⟨l,by grind⟩
  ·show [hv θ ⟨id,pth j⟩] = [u];rw[z]
  ·cases ak c;rfl
  ·show St J w0 w (Ch.own _ [hv θ ⟨id,pth j⟩] d::C);grind
end
def Ma (agg:Bool) (pre:List Nat):Nat->List Nat:=match agg with
 | true=>fun j=>pre++ [j]
 | false=>fun _=>pre
def mg (id:Nat) (pre:List Nat) (t:Ty) (d:t.den):Bool×List LV:=(t.isProd,jo id (Ma t.isProd pre) t d 0)
def mW (id:Nat) (pre:List Nat) (t:Ty) (d:t.den):List (Hdr×Chk):=sJ id (Ma t.isProd pre) t d 0
def GO (id:Nat):(i:Nat)->(ts:List Ty)->kN ts->List (Bool×List LV)
 | _,[],_=>[]
 | i,t::ts,d=>mg id [i] t d.1::GO id (i+1) ts d.2
def zZ (id:Nat):(i:Nat)->(ts:List Ty)->kN ts->List (Hdr×Chk)
 | _,[],_=>[]
 | i,t::ts,d=>mW id [i] t d.1++zZ id (i+1) ts d.2
def N1 (y:Bool×List LV):AV:=match y with
 | (true,l)=>.agg l
 | (false,[x])=>.one x
 | _=>.und
def IJ (id:Nat):(ts:List Ty)->kN ts->AV
 | [t],d=>N1 (mg id [] t d.1)
 | ts,d=>.tup (GO id 0 ts d)
def sK (id:Nat):(ts:List Ty)->kN ts->List (Hdr×Chk)
 | [t],d=>mW id [] t d.1
 | ts,d=>zZ id 0 ts d
theorem Ki: ∀p:List Nat,vg undef p=undef
 | [] =>rfl
 | i::l=>by
  exact Ki l
theorem Kj: ∀(p q:List Nat) (v:Value),vg v (p++q)=vg (vg v p) q
 | [],q,v=>by rfl
 | i::p,q,v=>by
  cases v with
  | tuple a=>exact Kj p q _
  | agg cs=>exact Kj p q _
  | func _ _ cs=>exact Kj p q _
  | _=>exact (Ki q).symm
theorem UG {cs:Array Value} {j:Nat} {v:Value} (h:cs.toList[j]? =some v):vg (.agg cs) [j] =v:=by
 show cs.getD j undef=v;simp_all
theorem Ty.size_one: ∀ {t:Ty},t.isProd=false->t.size=1
 | .int _,_=>rfl
 | .bool,_=>rfl
 | .str,_=>rfl
 | .raw,_=>rfl
 | .prod _ _,h=>by cases h
 | .sl _ _,_=>rfl
 | .fro t,h=>Ty.size_one (t:=t) h
 | .wr _,h=>by cases h
 | .tree _ _ _,_=>rfl
 | .bag t,h=>Ty.size_one (t:=t) h
theorem tC {id:Nat} {pth:Nat->List Nat} : ∀ {t:Ty} {d:t.den} {j:Nat},t.isProd=false->(nt id pth t d j).length=1
 | .int _,_,_,_=>rfl
 | .bool,_,_,_=>rfl
 | .str,_,_,_=>rfl
 | .raw,_,_,_=>rfl
 | .prod _ _,_,_,h=>by cases h
 | .sl _ _,_,_,_=>rfl
 | .fro t,d,j,h=>tC (t:=t) h
 | .bag t,d,j,h=>tC (t:=t) h
 | .wr _,_,_,h=>by cases h
 | .tree _ _ _,_,_,_=>rfl
theorem tD {id:Nat} {pth:Nat->List Nat} {t:Ty} {d:t.den} {j:Nat} (h1:t.isProd=false):(jo id pth t d j).length=1:=by
 cases t with
 | prod a b=>cases h1
 | fro t=>exact tC (t:=t) h1
 | wr t=>cases h1
 | bag t =>
  show ((List.range t.size).map _).length=1;rw[List.length_map,List.length_range];exact Ty.size_one h1
 | _=>rfl
def GP:List Ty->Bool
 | [] =>true
 | t::ts=>t.dp&&GP ts
section
variable {P:Program} {I J:Hp} {w0 w:World} {C:List Ch} {θ:Th} {n m:Nat}
theorem ES {chs:List Ent} : ∀y:Bool×List LV,(y.1=false->y.2.length=1)->(∀x∈y.2,x.ok P w0 J θ n)->(N1 y).ok P w0 J θ n chs/\(N1 y).v θ=l9 θ y:=by
 rintro ⟨b,l⟩ c a;cases b with
 | true=>exact ⟨a,rfl⟩
 | false =>
  obtain ⟨x,rfl⟩:=List.length_eq_one_iff.1 (c rfl);exact ⟨a x (by simp),rfl⟩
theorem xz {id:Nat} {pre:List Nat} (a:id<n) {t:Ty} {d:t.den} {u:Value} (c:hv θ ⟨id,pre⟩=u) (f:qY u=t.isProd) (h:St J w0 w (Ch.own t.rep (lP t.isProd u) d::C)) :
  (∀x∈(mg id pre t d).2,x.ok P w0 J θ n)/\(mg id pre t d).2.map (·.v θ)=lP t.isProd u/\l9 θ (mg id pre t d)=u/\(∀g∈mW id pre t d,g.1.id=id)/\St J w0 w (((mW id pre t d).map fun g=>toCh P θ (g.1,m,g.2))++C):=by
 have c:vg (θ id) pre=u:=c;cases b:t.isProd with
 | true =>
  rw[b] at f h;cases u with
  | agg j =>
   have ⟨o,e,l,k⟩:=kj (P:=P) (m:=m) (θ:=θ) (pth:=Ma true pre) a t d 0 j.toList C (fun i v hv=>by
    show vg (θ id) (pre++ [0+i])=v;simp_all[Kj,Nat.zero_add,UG]) h
   refine ⟨by grind[mg],by unfold mg;rw[b];exact e,?_,by grind[mW],by grind[mW]⟩;simp_all[mg,l9,jo,Ma]
  | _=>cases f
 | false =>
  rw[b] at f h;have ⟨o,e,l,k⟩:=kj (P:=P) (m:=m) (θ:=θ) (pth:=Ma false pre) a t d 0 [u] C (fun i v hv=>by
   cases i with
   | zero=>exact c.trans (by grind)
   | succ i=>grind) h
  refine ⟨by grind[mg],by unfold mg;rw[b];exact e,?_,by grind[mW],by grind[mW]⟩;grind[mg,l9,jo,Ma,undef,List.cons.inj]
theorem Kk {id:Nat} (a:id<n) {vs:Array Value} (e:θ id= .tuple vs): ∀(ts:List Ty) (i:Nat) (d:kN ts) (C:List Ch),(∀j t,ts[j]? =some t->qY (vs.getD (i+j) undef)=t.isProd)->St J w0 w (yU i ts d (.tuple vs)++C)->
  (∀y∈GO id i ts d,∀x∈y.2,x.ok P w0 J θ n)/\(GO id i ts d).map (l9 θ)=(List.range' i ts.length).map (fun j=>vs.getD j undef)/\(∀g∈zZ id i ts d,g.1.id=id)/\St J w0 w (((zZ id i ts d).map fun g=>toCh P θ (g.1,m,g.2))++C)
 | [],i,d,C,_,h=>⟨fun y c=>(by cases c),rfl,fun g b=>(by cases b),h⟩
 | t::ts,i,d,C,ha,h=>by
  obtain ⟨l,-,q,r,o⟩:=xz (P:=P) (m:=m) (θ:=θ) (pre:=[i]) (u:=vs.getD i undef) a (by show vg (θ id) [i] =_;rw[e];rfl) (ha 0 t rfl) h;have ⟨v,p,s,k⟩:=Kk a e ts (i+1) d.2 (((mW id [i] t d.1).map fun g=>toCh P θ (g.1,m,g.2))++C) (fun j t f=>by
   have:=ha (j+1) t f
   grind) (o.perm (List.perm_append_comm_assoc _ _ _))
  refine ⟨fun y c=>?_,?_,fun g b=>?_,?_⟩
  ·rcases aE c with rfl | c
   ·exact l
   grind
  ·show l9 θ _::(GO id (i+1) ts d.2).map _=_;rw[q,p];rfl
  ·rcases aG b with b | b
   ·grind
   grind
  ·show St J w0 w (((mW id [i] t d.1++zZ id (i+1) ts d.2).map _)++C);refine k.perm ?_;grind[aC,List.perm_append_comm_assoc]
theorem Kl {id:Nat} (f:id<n) {chs:List Ent} {v:Value} (s:θ id=v): ∀(ts:List Ty) (d:kN ts) (C:List Ch),resFa ts v->St J w0 w (resGv ts d v++C)->
  (IJ id ts d).ok P w0 J θ n chs/\(IJ id ts d).v θ=v/\(∀g∈sK id ts d,g.1.id=id)/\St J w0 w (((sK id ts d).map fun g=>toCh P θ (g.1,m,g.2))++C):=by
 intro ts d C c h;have a: ∀b,v= .tuple b->b.size=ts.length->(∀i t,ts[i]? =some t->qY (b.getD i undef)=t.isProd)->St J w0 w (yU 0 ts d v++C)->
   (AV.tup (GO id 0 ts d)).ok P w0 J θ n chs/\(AV.tup (GO id 0 ts d)).v θ=v/\(∀g∈zZ id 0 ts d,g.1.id=id)/\St J w0 w (((zZ id 0 ts d).map fun g=>toCh P θ (g.1,m,g.2))++C):=by
  rintro b rfl x D h;have ⟨p,u,o,k⟩:=Kk (P:=P) (m:=m) f s ts 0 d C (fun j t A=>by grind) h;refine ⟨p,?_,o,k⟩;show Value.tuple ((GO id 0 ts d).map (l9 θ)).toArray=_;congr 1;apply Array.ext';apply List.ext_getElem?;intro i;by_cases B:i<ts.length
  ·simp_all
  ·grind
 match ts,d,c,h,a with
 | [t],d,c,h,_ =>
  obtain ⟨p,-,u,o,k⟩:=xz (P:=P) (m:=m) (θ:=θ) (pre:=[]) f (show hv θ ⟨id,[]⟩=v from s) c h;obtain ⟨z,y⟩:=ES _ (fun e=>tD e) p;exact ⟨z,y.trans u,o,k⟩
 | [],d,c,h,a=>have ⟨b,r,l,q⟩:=c;exact a b r l q h
 | _::_::_,d,c,h,a=>have ⟨b,r,l,q⟩:=c;exact a b r l q h
end
section
variable {P:Program} {I:Hp} {w0 w:World} {o:Oper} {ev:Operand->Value}
theorem N2 {ls rn cs:List Ch} (h:St I w0 w (ls++(rn++cs))): ∃J,I.le J/\(∀ {α:Type} (R:Rep α) (v:List Value) (a:α),Ch.own R v a∈ls->R.rd J v a)/\(∀g l E,Ch.blk g l E∈ls->J g=some (.cells l.toArray E (0,0)))/\St J w0 w (rn++ [Ch.fr I cs]) /\
  ∀q m,Ch.deeps m->St J w0 q (m++ [Ch.fr I cs])->St I w0 q (m++(ls++cs)):=by
 have ⟨t,X,F,h1,H,h3⟩:=h;obtain ⟨G,K,rfl,n,L⟩:=h1.split;have ⟨n1,S,n3⟩:=List.nodup_append.1 H;let J:=fun b=>if b∈G then w.heap[b]? else I b;have i:I.le J:=fun b o f=>by
  grind
 have k: ∀b,b∈G->J b=w.heap[b]? :=fun b f=>if_pos f;have u: ∀b,b∉G->J b=I b:=fun b f=>if_neg f;have j: ∀ {ls:List Ch} {G:List Nat} {c:Ch},Sep I ls w G->c∈ls-> ∃r,(∀b,b∈r->b∈G)/\c.holds I w r:=by
  intro ls;induction ls with
  | nil=>grind
  | cons d ls ih =>
   rintro G c ⟨G1,C,rfl,e,e'⟩ hc;grind
 obtain ⟨C,A,rfl,T,W⟩:=L.split;refine ⟨J,i,fun R v a s=>?_,fun g l E s=>?_,⟨t,fun b o f=>?_,C++A,(T.mono i).append ⟨A,[],by simp,W,rfl⟩,S,fun b f=>?_⟩,?_⟩
 ·have ⟨r,z,B⟩:=j n s;exact R.own_rd B i fun b t=>k b (z b t)
 ·have ⟨r,z,B,f3⟩:=j n s;grind
 ·by_cases p:b∈G
  ·rw[k b p] at f;exact f
  ·rw[u b p] at f;exact X b o f
 ·grind
 ·rintro q m M ⟨N,D,F',U,k2,k3⟩;obtain ⟨O,F2,rfl,Y,Z,F4,rfl,V,rfl⟩:=U.split;have x:=n.live;have y: ∀b,b∈G->q.heap[b]? =w.heap[b]? :=fun b p=>by
   have ⟨o,Q⟩: ∃o,w.heap[b]? =some o:=⟨_,Array.getElem?_eq_getElem (x b p)⟩;rw[Q];exact D b o (by grind)
  refine ⟨N,i.trans D,O++(G++Z),(Y.deeps M).append ((n.stay y).append V),?_,fun b f=>?_⟩
  ·grind
  grind
theorem xA {ls rn:List Ch} {fact:Value->Prop} {gv:Value->List Ch} (d: ∀v,Ch.deeps (gv v))
  (h: ∀J,I.le J->(∀ {α:Type} (R:Rep α) (v:List Value) (a:α),Ch.own R v a∈ls->R.rd J v a)->(∀g l E,Ch.blk g l E∈ls->J g=some (.cells l.toArray E (0,0)))->OpT P J w0 o ev rn fact gv):OpT P I w0 o ev (ls++rn) fact (fun v=>ls++gv v):=by
 intro w C b;rw[aC] at b;have ⟨J,k,c,f,e,i⟩:=N2 b;refine (h J k c f w _ e).imp fun v j hv=>⟨hv.1,?_⟩
 have:=i j _ (d v) hv.2
 refine this.perm ?_;grind[aC,List.perm_append_comm_assoc]
end
def UH (chs:List Ent) (E:TypeId) (t:Ty) (x:LV):Option (List t.den×List Hdr):=match x with
 | .own h=>(rowOf h chs).bind fun q=>(oX (.sl q.E q.t) (.sl E t) q.xs).bind fun d=>some (d,[h])
 | x=>(RL E t x).bind fun d=>some (d,[])
structure TreeE where
 ver:Nat
 T:TypeId
 E:TypeId
 t:Ty
 d:Tr t.den
 rest:List Ent
def GQ (h:Hdr) (chs:List Ent):Option TreeE:=(pull h chs).bind fun r=>match r.1.2.2 with
 | .own (.tree T E t) d=>cg (Da h r.2) (some ⟨r.1.2.1,T,E,t,d,r.2⟩)
 | _=>none
def TreeE.ent (r:TreeE) (h:Hdr):Ent:=(h,r.ver,.own (.tree r.T r.E r.t) r.d)
theorem N3 {h:Hdr} {chs:List Ent} {r:TreeE} (e:GQ h chs=some r):chs.Perm (r.ent h::r.rest)/\ ∀e∈r.rest,e.1≠h:=by
 have ⟨q,j,e⟩:=bind_some e;have ⟨p,k⟩:=gC j;have ⟨⟨a,f,c⟩,rest⟩:=q;obtain rfl:a=h:=k;cases c with
 | own i d =>
  cases i with
  | tree T E t =>
   have ⟨b,e⟩:=ai (show cg (Da a rest) _=some r from e);cases ae e;exact ⟨p,fun e g=>pY b g⟩
  | _=>cases e
 | _=>cases e
def jq (chs:List Ent):(t:Ty)->List LV->Option (t.den×List LV×List Hdr)
 | .prod a b,l=>(jq chs a l).bind fun x=>(jq chs b x.2.1).bind fun y=>some ((x.1,y.1),y.2.1,x.2.2++y.2.2)
 | .sl E t,l=>match l with
  | x::r=>(UH chs E t x).bind fun q=>some (q.1,r,q.2)
  | [] =>none
 | .fro t,l=>jq chs t l
 | .bag t,l=>jq chs t l
 | .wr t,l=>jq chs t l
 | .int k,l=>(fl (.int k) l).bind fun x=>some (x.1,x.2,[])
 | .bool,l=>(fl .bool l).bind fun x=>some (x.1,x.2,[])
 | .str,l=>(fl .str l).bind fun x=>some (x.1,x.2,[])
 | .raw,_=>none
 | .tree T E t,l=>match l with
  | .own h::r=>(GQ h chs).bind fun q=>(oX (.tree q.T q.E q.t) (.tree T E t) q.d).bind fun d=>some (d,r,[h])
  | l=>(fl (.tree T E t) l).bind fun x=>some (x.1,x.2,[])
def YI (h:Hdr) (chs:List Ent):Option Blk:=(rO h chs).bind fun b=>cg (Da h b.rest) (some b)
theorem N4 {h:Hdr} {chs:List Ent} {b:Blk} (k:YI h chs=some b):rO h chs=some b/\ ∀e∈b.rest,e.1≠h:=by
 have ⟨f,c,k⟩:=bind_some k;have ⟨a,k⟩:=ai k;cases ae k;exact ⟨c,fun e d=>pY a d⟩
def Lent (J:Hp) (θ:Th) (chs:List Ent) (hs:List Hdr):Prop:= ∀h∈hs,(∀q,rowOf h chs=some q->(Ty.sl q.E q.t).rep.rd J [hv θ h] q.xs)/\(∀q,GQ h chs=some q->(Ty.tree q.T q.E q.t).rep.rd J [hv θ h] q.d)/\ ∀b,YI h chs=some b->J (bk (hv θ h))=some (.cells (b.cells.map (·.v θ)).toArray b.T (0,0))
theorem Lent.l {J:Hp} {θ:Th} {chs:List Ent} {a b:List Hdr} (h:Lent J θ chs (a++b)):Lent J θ chs a:=fun x c=>h x (bj _ c)
theorem Lent.r {J:Hp} {θ:Th} {chs:List Ent} {a b:List Hdr} (h:Lent J θ chs (a++b)):Lent J θ chs b:=fun x c=>h x (bp _ c)
theorem rP {P:Program} {w0:World} {J:Hp} {θ:Th} {n:Nat} {chs:List Ent} : ∀ {t:Ty} {cs:List LV} {r:t.den×List LV×List Hdr},jq chs t cs=some r->(∀x∈cs,x.ok P w0 J θ n)->Lent J θ chs r.2.2-> ∃i,cs=i++r.2.1/\t.rep.rd J (i.map (·.v θ)) r.1:=by
 intro t;induction t with
 | prod a b u p =>
  intro cs r h c f;have ⟨x,g,h⟩:=bind_some (show (jq chs a cs).bind _=some r from h);have ⟨y,A,h⟩:=bind_some h;cases ae h;obtain ⟨i,rfl,B⟩:=u g c f.l;have ⟨w,D,C⟩:=p A (fun z s=>c z (bp _ s)) f.r;exact ⟨i++w,by grind,i.map (·.v θ),w.map (·.v θ),by grind,B,C⟩
 | sl E t ih =>
  intro cs r h c f;cases cs with
  | nil=>cases h
  | cons x l =>
   have ⟨q,e,h⟩:=bind_some (show (UH chs E t x).bind _=some r from h);cases ae h;refine ⟨[x],rfl,?_⟩;cases x with
   | own m =>
    have ⟨z,s,e⟩:=bind_some (show (rowOf m chs).bind _=some q from e);have ⟨d,j,e⟩:=bind_some e;cases ae e;exact jE j ((f m (by simp)).1 z s)
   | rd h2 t2 d2 =>
    have ⟨d,j,e⟩:=bind_some (show (RL E t (.rd h2 t2 d2)).bind _=some q from e);cases ae e;exact Bn j (c _ (by simp))
   | val v =>
    have ⟨d,j,e⟩:=bind_some (show (RL E t (.val v)).bind _=some q from e);cases ae e;exact Bn j (c _ (by simp))
   | nb _=>cases (show none=some q from e)
   | ptr _ _=>cases (show none=some q from e)
   | fn _ _ _ _=>cases (show none=some q from e)
   | fz _ _ _ _ _=>cases (show none=some q from e)
   | fzf _ _ _ _ _=>cases (show none=some q from e)
   | rdn _ _ _ _=>cases (show none=some q from e)
 | fro t ih =>
  intro cs r h c f;exact ih (show jq chs t cs=some r from h) c f
 | bag t ih =>
  intro cs r h c f;exact ih (show jq chs t cs=some r from h) c f
 | wr t ih =>
  intro cs r h c f;exact ih (show jq chs t cs=some r from h) c f
 | int k =>
  intro cs r h c f;have ⟨x,g,h⟩:=bind_some (show (fl _ cs).bind _=some r from h);cases ae h;exact jG g c
 | bool =>
  intro cs r h c f;have ⟨x,g,h⟩:=bind_some (show (fl _ cs).bind _=some r from h);cases ae h;exact jG g c
 | raw =>
  intro cs r h c f;cases (show none=some r from h)
 | str =>
  intro cs r h c f;have ⟨x,g,h⟩:=bind_some (show (fl _ cs).bind _=some r from h);cases ae h;exact jG g c
 | tree T E t ih =>
  intro cs r h c f;have o:((fl (.tree T E t) cs).bind fun x=>some (x.1,x.2,([] :List Hdr)))=some r-> ∃i,cs=i++r.2.1/\(Ty.tree T E t).rep.rd J (i.map (·.v θ)) r.1:=fun h=>by
   have ⟨x,g,h⟩:=bind_some h;cases ae h;exact jG g c
  cases cs with
  | nil=>exact o h
  | cons x l =>
   cases x with
   | own m =>
    have ⟨q,e,h⟩:=bind_some (show (GQ m chs).bind _=some r from h);have ⟨d,j,h⟩:=bind_some h;cases ae h;exact ⟨[.own m],rfl,jE j ((f m (by simp)).2.1 q e)⟩
   | _=>exact o h
def Bw (chs:List Ent) (t:Ty) (v:AV):Option (t.den×List Hdr):=match v,t.isProd with
 | .agg cs,true=>(jq chs t cs).bind fun r=>cg r.2.1.isEmpty (some (r.1,r.2.2))
 | .one x,false=>(jq chs t [x]).bind fun r=>cg r.2.1.isEmpty (some (r.1,r.2.2))
 | _,_=>none
theorem GR {P:Program} {w0:World} {J:Hp} {θ:Th} {n:Nat} {chs:List Ent} {t:Ty} {v:AV} {r:t.den×List Hdr} (h:Bw chs t v=some r) (a:v.ok P w0 J θ n chs) (g:Lent J θ chs r.2): ∃b,Lds t.isProd b (v.v θ)/\t.rep.rd J b r.1:=by
 unfold Bw at h;split at h
 ·rename_i b c;have ⟨q,f,h⟩:=bind_some h;have ⟨d,h⟩:=ai h;cases ae h;have ⟨j,e,k⟩:=rP f a g;rw[List.isEmpty_iff.1 d,List.append_nil] at e;subst e;exact ⟨_,by rw[c];rfl,k⟩
 ·rename_i x c;have ⟨q,f,h⟩:=bind_some h;have ⟨d,h⟩:=ai h;cases ae h;have ⟨j,e,k⟩:=rP f (fun y i=>by cases ak i;exact a) g;rw[List.isEmpty_iff.1 d,List.append_nil] at e;subst e;exact ⟨_,by rw[c];rfl,k⟩
 grind
def GS (ps rs ps' rs':List Ty) (e:cur ps (Option (dens rs))):Option (cur ps' (Option (dens rs'))):=if h:ps=ps'/\rs=rs' then some (h.1 ▸ h.2 ▸ e) else none
theorem GT {ps rs a b:List Ty} {e:cur ps (Option (dens rs))} {c:cur a (Option (dens b))} (h:GS ps rs a b e=some c) {P:Program} {w0:World} {J:Hp} {v:Value} (d:FnOk P w0 J v ps rs e):FnOk P w0 J v a b c:=by
 grind[GS,ae]
structure FnR (a b:List Ty) where
 e:cur a (Option (dens b))
 lent:List Hdr
structure CapR (p:PM) where
 d:p.den
 lent:List Hdr
section
variable (ft:FT) (chs:List Ent)
def WG (rec:(a b:List Ty)->LV->Option (FnR a b)):(p:PM)->LV->Option (CapR p)
 | .cap T t,x=>match x with
  | .ptr h off=>cg (Nat.beq off 0) ((YI h chs).bind fun b=>cg (Nat.beq b.T T) ((jq chs t b.cells).bind fun r=>cg r.2.1.isEmpty (some ⟨r.1,h::r.2.2⟩)))
  | .fz h T' t' d off=>cg (Nat.beq off 0&&Nat.beq T' T) ((oX t' t d).bind fun d=>some ⟨d,[]⟩)
  | _=>none
 | .capf T a b,x=>match x with
  | .ptr h off=>cg (Nat.beq off 0) ((YI h chs).bind fun bl=>cg (Nat.beq bl.T T) (match bl.cells with
   | [y] =>(rec a b y).bind fun r=>some ⟨r.e,h::r.lent⟩
   | _=>none))
  | .fzf h T' a' b' e=>cg (Nat.beq T' T) ((GS a' b' a b e).bind fun e=>some ⟨e,[]⟩)
  | _=>none
 | _,_=>none
def N5 (rec:(a b:List Ty)->LV->Option (FnR a b)):(qs:List PM)->List LV->Option (denP qs×List Hdr)
 | [],[] =>some ((),[])
 | q::qs,x::xs=>(WG chs rec q x).bind fun r=>(N5 rec qs xs).bind fun s=>some ((r.d,s.1),r.lent++s.2)
 | _,_=>none
def IK:(ts:List Ty)->List (Bool×List LV)->Option (kN ts×List Hdr)
 | [],[] =>some ((),[])
 | t::ts,y::ys=>cg (y.1==t.isProd) ((jq chs t y.2).bind fun r=>cg (r.2.1.isEmpty&&(y.1 || Nat.beq y.2.length 1)) ((IK ts ys).bind fun q=>some ((r.1,q.1),r.2.2++q.2)))
 | _,_=>none
end
def WH:List PM->Option (List Ty)
 | [] =>some []
 | .rd t::ps=>(WH ps).bind fun ts=>some (t::ts)
 | _=>none
def rds:List Ty->List PM->List PM
 | [],qs=>qs
 | t::ts,qs=>.rd t::rds ts qs
def WI:(ts:List Ty)->(qs:List PM)->kN ts->denP qs->denP (rds ts qs)
 | [],_,_,e=>e
 | _::ts,qs,d,e=>(d.1,WI ts qs d.2 e)
def WJ {R:Type} :(a:List Ty)->(kN a->R)->cur a R
 | [],g=>g ()
 | _::a,g=>fun x=>WJ a fun d=>g (x,d)
theorem GU {R:Type} : ∀(a:List Ty) (g:kN a->R) (d:kN a),app a (WJ a g) d=g d
 | [],_,_=>rfl
 | _::a,g,d=>GU a (fun x=>g (d.1,x)) d.2
def RP:PM->Bool
 | .cap _ _=>true
 | .capf _ _ _=>true
 | _=>false
def xB:List PM->Bool
 | [] =>true
 | p::ps=>RP p&&xB ps
def Zi (chs:List Ent) (rec:(a b:List Ty)->LV->Option (FnR a b)) (a b:List Ty) (f:FS) (r1:List Ty) (qs:List PM) (first:List (Bool×List LV)) (capt:List LV):Option (FnR a b):=
 if h:f.ps=rds r1 (rds a qs)/\f.rs++outs f.ps=b then
  (IK chs r1 first).bind fun d1=>(N5 chs rec qs capt).bind fun dc =>
   some ⟨WJ a fun x=>h.2 ▸ appP f.ps f.m (h.1 ▸ WI r1 (rds a qs) d1.1 (WI a qs x dc.1)),d1.2++dc.2⟩
 else none
def aa3 (ft:FT) (chs:List Ent) (rec:(a b:List Ty)->LV->Option (FnR a b)) (a b:List Ty) (k:FuncId) (first:List (Bool×List LV)) (capt:List LV):Option (FnR a b):=(fs ft k).bind fun f=>(WH (f.ps.take first.length)).bind fun r1 =>
 cg (!f.ov&&xB (f.ps.drop (first.length+a.length))) (Zi chs rec a b f r1 (f.ps.drop (first.length+a.length)) first capt)
def N6 (h:Hdr) (chs:List Ent):Option (FuncId×List (Bool×List LV)×List LV):=(pull h chs).bind fun r=>match r.1.2.2 with
 | .clo k first capt=>some (k,first,capt)
 | _=>none
def WK (ft:FT) (chs:List Ent):Nat->(a b:List Ty)->LV->Option (FnR a b)
 | 0,_,_,_=>none
 | n+1,a,b,x=>match x with
  | .fn h a' b' e=>(GS a' b' a b e).bind fun e=>some ⟨e,[]⟩
  | .own h=>(N6 h chs).bind fun q=>aa3 ft chs (WK ft chs n) a b q.1 q.2.1 q.2.2
  | .val v=>match v with
   | .func (.func k) f c=>cg (f.toList.isEmpty&&c.toList.isEmpty) (aa3 ft chs (WK ft chs n) a b k [] [])
   | _=>none
  | _=>none
section
variable {P:Program} {w0:World} {J J':Hp} {θ:Th} {n:Nat} {chs chs0:List Ent} {ft:FT}
theorem GV: ∀(rs us:List Ty) (i:Nat) (d:kN (rs++us)) (v:Value),us= [] ->yU i (rs++us) d v=yU i rs (hFst rs us d) v
 | [],us,i,d,v,h=>by subst h;rfl
 | t::rs,us,i,d,v,h=>by
  show Ch.own _ _ _::yU (i+1) (rs++us) d.2 v=Ch.own _ _ _::yU (i+1) rs (hFst rs us d.2) v;rw[GV rs us (i+1) d.2 v h];rfl
theorem N7 (rs us:List Ty) (d:kN (rs++us)) (v:Value) (h:us= []):resGv (rs++us) d v=resGv rs (hFst rs us d) v:=by
 match rs,d with
 | [],d=>subst h;rfl
 | [t],d=>subst h;rfl
 | t::u::rs,d=>exact GV (t::u::rs) us 0 d v h
theorem N8 (rs us:List Ty) (v:Value) (h:us= []):resFa rs v->resFa (rs++us) v:=by
 grind
theorem ET {a:List PM} : ∀ts:List Ty,outs (rds ts a)=outs a
 | [] =>rfl
 | _::ts=>ET ts
theorem RQ {a:List PM} :xB a=true->outs a= []:=by
 induction a with
 | nil=>intro _;rfl
 | cons q a ih =>
  intro h;have h:(RP q&&xB a)=true:=h;rw[aj] at h;cases q with
  | cap _ _=>exact ih h.2
  | capf _ _ _=>exact ih h.2
  | _=>cases h.1
theorem EU {γ:Value} {a:List PM} : ∀(ts:List Ty) (vs us:List Value) (d:kN ts) (e:denP a),vs.length=ts.length->owCh γ (rds ts a) (vs++us) (WI ts a d e)=owCh γ a us e
 | [],[],us,d,e,_=>rfl
 | _::ts,v::vs,us,d,e,h=>EU ts vs us d.2 e (by grind)
 | [],_::_,_,_,_,h=>by cases h
 | _::_,[],_,_,_,h=>by cases h
theorem RR {γ:Value} {a:List PM} : ∀(us:List Value) (e:denP a),xB a=true->owCh γ a us e= []:=by
 induction a with
 | nil=>intro us e _;rfl
 | cons q a ih =>
  intro us e h;cases us with
  | nil=>rfl
  | cons u us =>
   have h:(RP q&&xB a)=true:=h;rw[aj] at h;cases q with
   | cap _ _=>exact ih us e.2 h.2
   | capf _ _ _=>exact ih us e.2 h.2
   | _=>cases h.1
theorem GW {γ:Value} {a:List PM} {us:List Value} : ∀(ts:List Ty) (vs:List Value),vs.length=ts.length->xB a=true-> ∀d:kN (outs (rds ts a)),outCh γ (rds ts a) (vs++us) d= []
 | [],[],_,h=>fun d=>by
  have key: ∀ {a:List PM} (us:List Value) (d:kN (outs a)),xB a=true->outCh γ a us d= []:=by
   intro a;induction a with
   | nil=>intro us d _;rfl
   | cons q a ih =>
    intro us d h;cases us with
    | nil=>rfl
    | cons u us =>
     have h:(RP q&&xB a)=true:=h;rw[aj] at h;cases q with
     | cap _ _=>exact ih us d h.2
     | capf _ _ _=>exact ih us d h.2
     | _=>cases h.1
  exact key us d h
 | _::ts,v::vs,hl,h=>fun d=>GW ts vs (by grind) h d
 | [],_::_,h,_=>by cases h
 | _::_,[],h,_=>by cases h
theorem Bx {γ:Value} {a:List PM} {us:List Value} {e:denP a} (h:PArgs P w0 J γ a us e): ∀ {ts:List Ty} {vs:List Value} {d:kN ts},NC J ts vs d->PArgs P w0 J γ (rds ts a) (vs++us) (WI ts a d e)/\vs.length=ts.length
 | [],vs,d,hr=>by
  subst hr;exact ⟨h,rfl⟩
 | t::ts,vs,d,hr=>by
  obtain ⟨v,c,r,rfl,b,f,g⟩:=hr;have ⟨i,j⟩:=Bx h g;exact ⟨⟨v,r++us,rfl,⟨c,b,f⟩,i⟩,by grind⟩
theorem Km {h:Hdr} {b:Blk} (k:YI h chs=some b) (a: ∀e∈chs,okE P w0 J θ n chs0 e):okE P w0 J θ n chs0 (b.ent h):=a _ ((lf (N4 k).1).mem_iff.2 (List.mem_cons_self ..))
theorem RS {rec:(a b:List Ty)->LV->Option (FnR a b)} (m: ∀a b x r,rec a b x=some r->x.ok P w0 J θ n->Lent J' θ chs r.lent->FnOk P w0 J' (x.v θ) a b r.e) (g:J.le J') (D: ∀e∈chs,okE P w0 J θ n chs0 e) {p:PM} {x:LV} {r:CapR p} (h:WG chs rec p x=some r) (s:x.ok P w0 J θ n) (o:Lent J' θ chs r.lent):abF P w0 J' undef p (x.v θ) r.d:=by
 cases p with
 | cap T t =>
  cases x with
  | ptr i off =>
   have ⟨c,h⟩:=ai (show cg (Nat.beq off 0) _=some r from h);have ⟨b,j,h⟩:=bind_some h;have ⟨l,h⟩:=ai h;have ⟨q,A,h⟩:=bind_some h;have ⟨C,h⟩:=ai h;cases ae h;cases au c;have l:=au l;have E:=(o i (by simp)).2.2 b j;have f:=Km (P:=P) (w0:=w0) (J:=J) (n:=n) j D;have ⟨R,O,k⟩:=rP (J:=J') A (fun x s=>LV.ok_same Same.rfl (aF _) (f.2.2 x s) g) (fun y I=>o y (by grind));exact ⟨_,rfl,_,by grind,k⟩
  | fz i T' t' d off =>
   have ⟨c,h⟩:=ai (show cg (Nat.beq off 0&&Nat.beq T' T) _=some r from h);rw[aj] at c;have ⟨N,G,h⟩:=bind_some h;cases ae h;cases au c.1;cases au c.2;have ⟨M,cells,v,w⟩:=s;exact ⟨_,rfl,cells,g _ _ v,jE G (Rep.rd_mono _ w g)⟩
  | _=>cases h
 | capf T a b =>
  cases x with
  | ptr i off =>
   have ⟨c,K⟩:=ai (show cg (Nat.beq off 0) _=some r from h);have ⟨H,j,L⟩:=bind_some K;have ⟨l,B⟩:=ai L;cases au c;have l:=au l;have f:=Km (P:=P) (w0:=w0) (J:=J) (n:=n) j D;split at B
   ·rename_i y I;have ⟨q,A,F⟩:=bind_some B;cases ae F;have E:=(o i (by simp)).2.2 H j;exact ⟨_,rfl,_,by grind,m a b y q A (f.2.2 y (by grind)) fun z Q=>o z (by grind)⟩
   grind
  | fzf i T' a' b' e =>
   have ⟨c,h⟩:=ai (show cg (Nat.beq T' T) _=some r from h);have ⟨S,C,h⟩:=bind_some h;cases ae h;cases au c;have ⟨M,u,v,w⟩:=s;exact ⟨_,rfl,u,g _ _ v,(GT C w).mono g⟩
  | _=>cases h
 | _=>cases h
theorem GX {rec:(a b:List Ty)->LV->Option (FnR a b)} (c: ∀a b x r,rec a b x=some r->x.ok P w0 J θ n->Lent J' θ chs r.lent->FnOk P w0 J' (x.v θ) a b r.e) (g:J.le J') (f: ∀e∈chs,okE P w0 J θ n chs0 e): ∀ {d:List PM} {xs:List LV} {r:denP d×List Hdr},N5 chs rec d xs=some r->(∀x∈xs,x.ok P w0 J θ n)->Lent J' θ chs r.2->PArgs P w0 J' undef d (xs.map (·.v θ)) r.1
 | [],[],r,h,_,_=>by rfl
 | q::d,x::xs,r,h,hx,hl=>by
  have ⟨a,j,h⟩:=bind_some (show (WG chs rec q x).bind _=some r from h);have ⟨s,i,h⟩:=bind_some h;cases ae h;exact ⟨_,_,rfl,RS c g f j (hx x (by simp)) hl.l,GX c g f i (fun y k=>hx y (by grind)) hl.r⟩
 | [],_::_,r,h,_,_=>by cases h
 | _::_,[],r,h,_,_=>by cases h
theorem DJ (d:J.le J'): ∀ {ts:List Ty} {ys:List (Bool×List LV)} {r:kN ts×List Hdr},IK chs ts ys=some r->(∀y∈ys,∀x∈y.2,x.ok P w0 J θ n)->Lent J' θ chs r.2->NC J' ts (ys.map (l9 θ)) r.1
 | [],[],r,h,_,_=>by rfl
 | t::ts,y::ys,r,h,hy,hl=>by
  have ⟨c,h⟩:=ai (show cg (y.1==t.isProd) _=some r from h);have ⟨a,i,h⟩:=bind_some h;have ⟨s,h⟩:=ai h;have ⟨q,g,h⟩:=bind_some h;cases ae h;have c:y.1=t.isProd:=by simpa using c
  have ⟨p,l,k⟩:=rP (J:=J') i (fun x f=>LV.ok_same Same.rfl (aF _) (hy y (by simp) x f) d) hl.l;refine ⟨_,y.2.map (·.v θ),_,rfl,?_,by grind,DJ d g (fun z m=>hy z (by grind)) hl.r⟩;have ⟨j,e⟩:=y;subst c;cases o:t.isProd with
  | true=>rfl
  | false =>
   have b:e.length=1:=au (by grind);obtain ⟨x,rfl⟩:=List.length_eq_one_iff.1 b
   rfl
 | [],_::_,r,h,_,_=>by cases h
 | _::_,[],r,h,_,_=>by cases h
theorem N9 (hF:FTok P ft) (v:Lay P J) {rec:(a b:List Ty)->LV->Option (FnR a b)} (E: ∀a b x r,rec a b x=some r->x.ok P w0 J θ n-> ∀J',J.le J'->Lent J' θ chs r.lent->FnOk P w0 J' (x.v θ) a b r.e) (F:J.le J') (hc: ∀e∈chs,okE P w0 J θ n chs0 e) {a b:List Ty} {k:FuncId} {first:List (Bool×List LV)} {g:List LV} {r:FnR a b} (h:aa3 ft chs rec a b k first g=some r)
  (h1: ∀y∈first,∀x∈y.2,x.ok P w0 J θ n) (Z: ∀x∈g,x.ok P w0 J θ n) (M:Lent J' θ chs r.lent):FnOk P w0 J' (.func (.func k) (first.map (l9 θ)).toArray (g.map (·.v θ)).toArray) a b r.e:=by
 have ⟨f,hf,h⟩:=bind_some h;have ⟨p,hr1,h⟩:=bind_some h;have ⟨c,h⟩:=ai h;rw[aj] at c;have s:f.ov=false:=by simpa using c.1
 replace c:=c.2;have A:=hF.get hf;have H:=A.en s;have G:=A.con s;generalize f.ps.drop (first.length+a.length)=j at h c;unfold Zi at h;split at h
 ·rename_i hh;have ⟨T,hd1,h⟩:=bind_some h;have ⟨S,K,h⟩:=bind_some h;cases ae h;obtain ⟨ps,rs,m⟩:=f;have ⟨R,U⟩:=hh;simp only at R U;subst R;subst U;refine ⟨k,_,_,rfl,H,fun N i args d o q V=>?_⟩;have B:Lent N θ chs (T.2++S.2):=fun x D=>⟨fun z u=>Rep.rd_mono _ ((M x D).1 z u) i,fun z u=>Rep.rd_mono _ ((M x D).2.1 z u) i,fun z u=>i _ _ ((M x D).2.2 z u)⟩
  have k1:=DJ (F.trans i) hd1 h1 B.l;have k2:=GX (fun a b x r hr D I=>E a b x r hr D N (F.trans i) I) (F.trans i) hc K Z B.r;have ⟨k3,W⟩:=Bx k2 o;have ⟨k5,k6⟩:=Bx k3 k1;rw[GU] at V;have l:=G w0 N undef _ _ q (v.mono (F.trans i)) k5 V;have hou:outs (rds p (rds a j))= []:=by rw[ET,ET];exact RQ c
  have L:owCh undef (rds p (rds a j)) ((first.map (l9 θ))++(args++g.map (·.v θ))) (WI p (rds a j) T.1 (WI a j d S.1))= []:=by
   rw[EU _ _ _ _ _ k6,EU _ _ _ _ _ W];exact RR _ _ c
  have Q: ∀z,outCh undef (rds p (rds a j)) ((first.map (l9 θ))++(args++g.map (·.v θ))) z= []:=by
   intro z;have O: ∀(x y:List Ty),rds x (rds y j)=rds (x++y) j:=by
    intro x y;induction x with
    | nil=>rfl
    | cons t x ih=>exact congrArg (PM.rd t:: ·) ih
   have key: ∀(X:List PM),X=rds (p++a) j-> ∀z:kN (outs X),outCh undef X ((first.map (l9 θ))++(args++g.map (·.v θ))) z= []:=by
    rintro X rfl z;rw[<-aC];exact GW (p++a) _ (by grind) c z
   exact key _ (O p a) z
  rw[L] at l;intro w C Y;have hS':=l w C Y;grind[l9,N8,N7,outs,rds,toH]
 grind
theorem Kn {h:Hdr} {q:FuncId×List (Bool×List LV)×List LV} (k:N6 h chs=some q): ∃ver,(h,ver,Chk.clo q.1 q.2.1 q.2.2)∈chs:=by
 have ⟨r,a,k⟩:=bind_some k;have ⟨p,e⟩:=gC a;grind
theorem IL (u:FTok P ft) (d:Lay P J) (o: ∀e∈chs,okE P w0 J θ n chs0 e): ∀ {m:Nat} {a b:List Ty} {x:LV} {r:FnR a b},WK ft chs m a b x=some r->x.ok P w0 J θ n-> ∀J',J.le J'->Lent J' θ chs r.lent->FnOk P w0 J' (x.v θ) a b r.e
 | 0,_,_,_,_,h,_,_,_,_=>by cases h
 | m+1,a,b,x,r,h,t,J',i,l=>by
  have g: ∀a b x r,WK ft chs m a b x=some r->x.ok P w0 J θ n-> ∀J',J.le J'->Lent J' θ chs r.lent->FnOk P w0 J' (x.v θ) a b r.e:=fun a b x r h t J' i l=>IL u d o h t J' i l;cases x with
  | fn s z B e =>
   have ⟨I,j,h⟩:=bind_some (show (GS z B a b e).bind _=some r from h);cases ae h;exact (GT j t.2).mono i
  | own s =>
   have ⟨q,G,h⟩:=bind_some (show (N6 s chs).bind _=some r from h);have ⟨D,A⟩:=Kn G;obtain ⟨-,-,E,C,H⟩:=o _ A
   have:=N9 u d g i o h E C l
   show FnOk P w0 J' (hv θ s) a b r.e;grind
  | val v =>
   cases v with
   | func fk f c =>
    cases fk with
    | func k =>
     have ⟨j,h⟩:=ai (show cg (f.toList.isEmpty&&c.toList.isEmpty) (aa3 ft chs (WK ft chs m) a b k [] [])=some r from h);rw[aj,List.isEmpty_iff,List.isEmpty_iff] at j
     have:=N9 u d g i o h (fun y p=>by cases p) (fun y p=>by cases p) l
     have w:f= #[]:=by simpa using j.1
     have F:c= #[]:=by simpa using j.2
     subst w;subst F;exact this
    | _=>cases h
   | _=>cases h
  | _=>cases h
end
def EW:List Hdr->List Ent->Option (List Ent×List Ent)
 | [],chs=>some ([],chs)
 | h::hs,chs=>(pull h chs).bind fun r=>(EW hs r.2).bind fun q=>some (r.1::q.1,q.2)
theorem yZ: ∀ {hs:List Hdr} {chs:List Ent} {r:List Ent×List Ent},EW hs chs=some r->chs.Perm (r.1++r.2)/\r.1.map (·.1)=hs
 | [],chs,r,h=>by cases ae (show some _=some r from h);simp_all
 | h'::hs,chs,r,h=>by
  have ⟨q,c,h⟩:=bind_some (show (pull h' chs).bind _=some r from h);have ⟨e,a,h⟩:=bind_some h;cases ae h;have ⟨b,f⟩:=gC c;have ⟨d,g⟩:=yZ a;exact ⟨b.trans (d.cons _),by grind⟩
def acH (h:Hdr) (l:List Hdr):Bool:=l.any fun x=>Hdr.beq x h
def IM:List Hdr->List Hdr->List Hdr
 | [],_=>[]
 | h::hs,acc=>if acH h acc then IM hs acc else h::IM hs (h::acc)
theorem By {h:Hdr} : ∀ {hs acc:List Hdr},h∈hs->h∈IM hs acc\/h∈acc
 | x::hs,acc,a=>by
  unfold IM;split
  ·rename_i b;rcases aE a with rfl | a
   ·have ⟨y,d,e⟩:=List.any_eq_true.1 b;grind[Hdr.beq_eq]
   ·exact By a
  ·rcases aE a with rfl | a
   ·grind
   ·rcases By (acc:=x::acc) a with c | c
    ·grind
    grind
def o7:AV->Bool
 | .agg _=>true
 | _=>false
theorem Bz {v:AV} {cs:List LV} (h:mf v=some cs) {P:Program} {w0:World} {J:Hp} {θ:Th} {n:Nat} {chs:List Ent} (a:v.ok P w0 J θ n chs) {b:Bool} (e:o7 v=b):lP b (v.v θ)=cs.map (·.v θ)/\qY (v.v θ)=b:=by
 subst e;cases v with
 | agg d =>
  cases ae (show some d=some cs from h);exact ⟨rfl,rfl⟩
 | one x =>
  cases ae (show some [x] =some cs from h);refine ⟨rfl,?_⟩;have c:=LV.one (show LV.ok P w0 J θ n x from a);show qY (x.v θ)=false;generalize x.v θ=u at c;cases u <;> first | rfl | cases c
 | _=>cases h
def tE (h:Hdr) (T:TypeId) (t:Ty) (chs:List Ent):Option (t.den×List Ent×List Ent):=(pull h chs).bind fun r=>match r.1.2.2 with
 | .box T' t' d=>cg (Nat.beq T' T) ((oY t' t d).bind fun d=>some (d,[r.1],r.2))
 | .blk T' cells=>cg (Nat.beq T' T) ((eX t cells r.2).bind fun q=>cg q.cells.isEmpty (some (q.d,r.1::q.used,q.rest)))
 | _=>none
theorem WL {I:Hp} {w:World} {F:List Nat} {ls:List Ch} {α:Type} {R:Rep α} {b:Nat} {T:TypeId} {cells:List Value} {d:α} (h:Sep I (Ch.blk b cells T::ls) w F) (k:Bun I ls R cells d):(Ch.box b T R d).holds I w F:=by
 obtain ⟨G,K,rfl,⟨rfl,c⟩,a⟩:=h;exact ⟨cells,K,rfl,c,k w K a⟩
section
variable {P:Program} {w0:World} {J J':Hp} {θ θ':Th} {n m:Nat} {chs chs0:List Ent}
theorem pZ {h:Hdr} {T:TypeId} {t:Ty} {chs:List Ent} {q:t.den×List Ent×List Ent} (k:tE h T t chs=some q):chs.Perm (q.2.1++q.2.2):=by
 have ⟨r,g,k⟩:=bind_some k;have ⟨p,e⟩:=gC g;have ⟨⟨s,b,c⟩,rest⟩:=r;cases c with
 | box a v d =>
  have ⟨f,k⟩:=ai (show cg (Nat.beq a T) _=some q from k);have ⟨j,l,k⟩:=bind_some k;grind
 | blk a cells =>
  have ⟨f,k⟩:=ai (show cg (Nat.beq a T) _=some q from k);have ⟨o,i,k⟩:=bind_some k;have ⟨u,k⟩:=ai k;cases ae k;exact p.trans ((iG i).cons _)
 | _=>cases k
theorem uP {h:Hdr} {T:TypeId} {t:Ty} {q:t.den×List Ent×List Ent} (k:tE h T t chs=some q) (l:J.le J') (A: ∀e∈chs,okE P w0 J θ n chs0 e):chs.Perm (q.2.1++q.2.2)/\ ∀w F,Sep J' (q.2.1.map (toCh P θ)) w F->(Ch.box (bk (hv θ h)) T t.rep q.1).holds J' w F:=by
 have ⟨r,B,k⟩:=bind_some k;have ⟨p,e⟩:=gC B;have ⟨⟨s,o,c⟩,rest⟩:=r;obtain rfl:s=h:=e;cases c with
 | box g L d =>
  have ⟨b,k⟩:=ai (show cg (Nat.beq g T) _=some q from k);have ⟨E,j,k⟩:=bind_some k;cases ae k;cases au b;obtain ⟨rfl,rfl⟩:=oZ j;refine ⟨p,fun w F f=>?_⟩;obtain ⟨G,K,rfl,D,rfl⟩:=f;rw[List.append_nil];exact D
 | blk g cells =>
  have ⟨b,k⟩:=ai (show cg (Nat.beq g T) _=some q from k);have ⟨H,C,k⟩:=bind_some k;have ⟨u,k⟩:=ai k;cases ae k;cases au b;have a:=A _ (p.mem_iff.2 (List.mem_cons_self ..));have ⟨v,I,i,y⟩:=lG (J:=J') (P:=P) (w0:=w0) (θ:=θ) (n:=n) C fun x z=>LV.ok_same Same.rfl (aF _) (a.2.2 x z) l;rw[List.isEmpty_iff.1 u,List.append_nil] at i;subst i;exact ⟨p.trans (v.cons _),fun w F f=>WL f y⟩
 | _=>cases k
structure CurQ where
 g:Hdr
 d:List Int×Int×Int
 ent:Ent
 rest:List Ent
def wE (h:Hdr) (T E:TypeId) (chs:List Ent):Option CurQ:=(pull h chs).bind fun r=>match r.1.2.2 with
 | .blk T' [.rd g t xs,.val (.int .i64 x),.val (.int .i64 y)] =>cg (Nat.beq T' T) ((oY t (.sl E (.int .u8)) xs).bind fun xs=>some ⟨g,(xs,x,y),r.1,r.2⟩)
 | _=>none
theorem oR {h:Hdr} {T E:TypeId} {chs:List Ent} {q:CurQ} (k:wE h T E chs=some q):chs.Perm (q.ent::q.rest)/\ ∃ver,q.ent=(h,ver,.blk T [.rd q.g (.sl E (.int .u8)) q.d.1,.val (.int .i64 q.d.2.1),.val (.int .i64 q.d.2.2)]):=by
 have ⟨r,b,a⟩:=bind_some k;have ⟨p,e⟩:=gC b;split at a
 ·have ⟨f,c⟩:=ai a;have ⟨d,g,i⟩:=bind_some c;grind[ae,au,oZ]
 grind
inductive GhQ
 | cur (h:Hdr) (xs:List Int)
 | box (h:Hdr)
def GhQ.v (θ:Th):GhQ->Value
 | .cur h _=>hv θ h
 | .box h=>.pointer (some ⟨bk (hv θ h),0,none⟩)
def abG (h:Hdr):Option GhQ->Bool
 | none=>true
 | some (.box h')=>Hdr.beq h' h
 | _=>false
theorem EX {h:Hdr} {o:Option GhQ} (k:abG h o=true): ∀q,o=some q->q= .box h:=by
 rintro q rfl;cases q with
 | cur _ _=>cases k
 | box h'=>rw[Hdr.beq_eq k]
def aa4 (h:Hdr) (chs:List Ent):Option (FuncId×Hdr):=(N6 h chs).bind fun q=>match q with
 | (k,[],[.ptr hb off])=>if Nat.beq off 0 then some (k,hb) else none
 | _=>none
theorem EY {h:Hdr} {chs:List Ent} {q:FuncId×Hdr} (k:aa4 h chs=some q): ∃ver,(h,ver,Chk.clo q.1 [] [.ptr q.2 0])∈chs:=by
 have ⟨⟨g,f,c⟩,a,k⟩:=bind_some k;grind[Kn,ae,au]
structure Args (ps:List PM) where
 d:denP ps
 lent:List Hdr
 own:List Ent
 rest:List Ent
 gh:Option GhQ
def eO (ft:FT) (s:Sg):(chs:List Ent)->(ps:List PM)->List AV->Option (Args ps)
 | chs,[],[] =>some ⟨(),[],[],chs,none⟩
 | chs,.rd t::ps,v::xs=>(Bw s.chs t v).bind fun a=>(eO ft s chs ps xs).bind fun r=>some ⟨(a.1,r.d),a.2++r.lent,r.own,r.rest,r.gh⟩
 | chs,.ow t::ps,v::xs=>cg (o7 v==t.isProd) ((mf v).bind fun cs=>(eX t cs chs).bind fun q=>cg q.cells.isEmpty ((eO ft s q.rest ps xs).bind fun r=>some ⟨(q.d,r.d),r.lent,q.used++r.own,r.rest,r.gh⟩))
 | chs,.eat t::ps,v::xs=>cg (o7 v==t.isProd) ((mf v).bind fun cs=>(eX t cs chs).bind fun q=>cg q.cells.isEmpty ((eO ft s q.rest ps xs).bind fun r=>some ⟨(q.d,r.d),r.lent,q.used++r.own,r.rest,r.gh⟩))
 | chs,.fn a b::ps,x::xs=>match x with
  | .one y=>(WK ft s.chs 4 a b y).bind fun q=>(eO ft s chs ps xs).bind fun r=>some ⟨(q.e,r.d),q.lent++r.lent,r.own,r.rest,r.gh⟩
  | _=>none
 | chs,.fk g::ps,x::xs=>match x with
  | .one (.val (.func (.func k) f c))=>cg (Nat.beq k g&&f.toList.isEmpty&&c.toList.isEmpty) ((eO ft s chs ps xs).bind fun r=>some ⟨((),r.d),r.lent,r.own,r.rest,r.gh⟩)
  | _=>none
 | chs,.ptr T t::ps,x::xs=>match x with
  | .one (.ptr h off)=>cg (Nat.beq off 0) ((tE h T t chs).bind fun q=>(eO ft s q.2.2 ps xs).bind fun r=>some ⟨(q.1,r.d),r.lent,q.2.1++r.own,r.rest,r.gh⟩)
  | _=>none
 | chs,.crs T E::ps,x::xs=>match x with
  | .one (.ptr h off)=>cg (Nat.beq off 0) ((wE h T E chs).bind fun q=>(eO ft s q.rest ps xs).bind fun r=>cg r.gh.isNone (some ⟨(q.d,r.d),r.lent,q.ent::r.own,r.rest,some (.cur q.g q.d.1)⟩))
  | _=>none
 | chs,.kb g T t::ps,x::xs=>match x with
  | .one (.own h)=>(aa4 h s.chs).bind fun c=>cg (Nat.beq c.1 g) ((tE c.2 T t chs).bind fun q=>(eO ft s q.2.2 ps xs).bind fun r=>cg (abG c.2 r.gh) (some ⟨(q.1,r.d),r.lent,q.2.1++r.own,r.rest,some (.box c.2)⟩))
  | _=>none
 | chs,.kc g::ps,x::xs=>match x with
  | .one (.own h)=>(aa4 h s.chs).bind fun c=>cg (Nat.beq c.1 g) ((eO ft s chs ps xs).bind fun r=>cg (abG c.2 r.gh) (some ⟨((),r.d),r.lent,r.own,r.rest,some (.box c.2)⟩))
  | _=>none
 | _,_,_=>none
theorem gT {ft:FT} {s:Sg} (D:FTok P ft) (o:Fine P w0 J θ s) (l:J.le J'): ∀ {ps:List PM} {xs:List AV} {chs:List Ent} {r:Args ps},eO ft s chs ps xs=some r->(∀x∈xs,x.ok P w0 J θ s.nxt s.chs)->(∀e∈chs,e∈s.chs)->Lent J' θ s.chs r.lent-> ∀γ,(∀q,r.gh=some q->γ=q.v θ)->
  PArgs P w0 J' γ ps (xs.map (·.v θ)) r.d/\chs.Perm (r.own++r.rest)/\qX J' (r.own.map (toCh P θ)) (owCh γ ps (xs.map (·.v θ)) r.d)
 | [],[],chs,r,h,_,_,_,γ,hγ=>by
  cases ae (show some _=some r from h);exact ⟨Eq.refl _,List.Perm.refl _,xp⟩
 | .rd t::ps,x::xs,chs,r,h,hx,hc,hl,γ,hγ=>by
  have ⟨a,ha,h⟩:=bind_some (show (Bw s.chs t x).bind _=some r from h);have ⟨q,v,h⟩:=bind_some h;cases ae h;have ⟨j,i,f⟩:=gT D o l v (fun y hy=>hx y (by grind)) hc hl.r γ hγ;have ⟨Y,Q,R⟩:=GR ha (AV.ok_same Same.rfl (aF _) Newer.rfl (hx x (by simp)) l) hl.l;exact ⟨⟨_,_,rfl,⟨Y,Q,R⟩,j⟩,i,f⟩
 | .ow t::ps,x::xs,chs,r,h,hx,hc,hl,γ,hγ=>by
  have ⟨k,h⟩:=ai (show cg (o7 x==t.isProd) _=some r from h);have k:o7 x=t.isProd:=by simpa using k
  have ⟨Y,B,h⟩:=bind_some h;have ⟨q,v,h⟩:=bind_some h;have ⟨C,h⟩:=ai h;have ⟨H,u,h⟩:=bind_some h;cases ae h;have A:=hx x (by simp);have ⟨Q,R⟩:=Bz B A k;have d:=(kg B (AV.ok_same Same.rfl (aF _) Newer.rfl A l)).1;have ⟨p,cc,O,e2⟩:=lG (J:=J') (θ:=θ) v d;rw[List.isEmpty_iff.1 C,List.append_nil] at O;subst O;have ⟨j,i,f⟩:=gT D o l u (fun y hy=>hx y (by grind)) (fun e h=>hc e (p.mem_iff.2 (by simp[h]))) hl γ hγ;refine ⟨⟨_,_,rfl,R,j⟩,by rw[aC];exact p.trans (i.append_left _),?_⟩;show qX J' ((q.used++H.own).map _) (Ch.own t.rep (lP t.isProd (x.v θ)) q.d::_);rw[aZ,Q];exact tz e2 f
 | .eat t::ps,x::xs,chs,r,h,hx,hc,hl,γ,hγ=>by
  have ⟨k,h⟩:=ai (show cg (o7 x==t.isProd) _=some r from h);have k:o7 x=t.isProd:=by simpa using k
  have ⟨Y,B,h⟩:=bind_some h;have ⟨q,v,h⟩:=bind_some h;have ⟨C,h⟩:=ai h;have ⟨H,u,h⟩:=bind_some h;cases ae h;have A:=hx x (by simp);have ⟨Q,R⟩:=Bz B A k;have d:=(kg B (AV.ok_same Same.rfl (aF _) Newer.rfl A l)).1;have ⟨p,cc,O,e2⟩:=lG (J:=J') (θ:=θ) v d;rw[List.isEmpty_iff.1 C,List.append_nil] at O;subst O;have ⟨j,i,f⟩:=gT D o l u (fun y hy=>hx y (by grind)) (fun e h=>hc e (p.mem_iff.2 (by simp[h]))) hl γ hγ;refine ⟨⟨_,_,rfl,R,j⟩,by rw[aC];exact p.trans (i.append_left _),?_⟩;show qX J' ((q.used++H.own).map _) (Ch.own t.rep (lP t.isProd (x.v θ)) q.d::_);rw[aZ,Q];exact tz e2 f
 | .fn a b::ps,x::xs,chs,r,h,hx,hc,hl,γ,hγ=>by
  unfold eO at h;split at h
  ·rename_i y;have ⟨q,v,h⟩:=bind_some h;have ⟨H,u,h⟩:=bind_some h;cases ae h;have ⟨j,i,f⟩:=gT D o l u (fun z X=>hx z (by grind)) hc hl.r γ hγ;exact ⟨⟨_,_,rfl,IL D o.lay o.chs v (show LV.ok P w0 J θ s.nxt y from hx (.one y) (by simp)) J' l hl.l,j⟩,i,f⟩
  grind
 | .ptr T t::ps,x::xs,chs,r,h,hx,hc,hl,γ,hγ=>by
  unfold eO at h;split at h
  ·have ⟨Z,h⟩:=ai h;have ⟨q,v,h⟩:=bind_some h;have ⟨H,u,h⟩:=bind_some h;cases ae h;cases au Z;have ⟨p,hb⟩:=uP (P:=P) (w0:=w0) (J:=J) (J':=J') (θ:=θ) (n:=s.nxt) (chs0:=s.chs) v l fun e C=>o.chs e (hc e C);have ⟨j,i,f⟩:=gT D o l u (fun y hy=>hx y (by grind)) (fun e h=>hc e (p.mem_iff.2 (by simp[h]))) hl γ hγ;refine ⟨⟨_,_,rfl,⟨_,rfl⟩,j⟩,by rw[aC];exact p.trans (i.append_left _),?_⟩;rw[aZ];intro w F V;obtain ⟨G,K,rfl,W,N⟩:=V.split;exact ⟨G,K,rfl,hb w G W,f w K N⟩
  grind
 | .fk g::ps,x::xs,chs,r,h,hx,hc,hl,γ,hγ=>by
  unfold eO at h;split at h
  ·have ⟨M,h⟩:=ai h;have ⟨H,u,h⟩:=bind_some h;cases ae h;have ⟨j,i,f⟩:=gT D o l u (fun z X=>hx z (by grind)) hc hl γ hγ;rw[aj,aj] at M;have ⟨⟨hk1,hk2⟩,hk3⟩:=M;cases au hk1;have ef:=Array.ext' (List.isEmpty_iff.1 hk2);have ec:=Array.ext' (List.isEmpty_iff.1 hk3);subst ef;subst ec;exact ⟨⟨_,_,rfl,rfl,j⟩,i,f⟩
  grind
 | .crs T E::ps,x::xs,chs,r,h,hx,hc,hl,γ,hγ=>by
  unfold eO at h;split at h
  ·have ⟨Z,h⟩:=ai h;have ⟨q,v,h⟩:=bind_some h;have ⟨H,u,h⟩:=bind_some h;have ⟨hn,h⟩:=ai h;cases ae h;cases au Z;have k:=hγ _ rfl;subst k;have ⟨p,S,C⟩:=oR v;have d:=o.chs _ (hc _ (p.mem_iff.2 (List.mem_cons_self ..)));rw[C] at d;have hrd:LV.ok P w0 J θ s.nxt (.rd q.g (.sl E (.int .u8)) q.d.1):=d.2.2 _ (by simp);have ⟨j,i,f⟩:=gT D o l u (fun z X=>hx z (by grind)) (fun e h=>hc e (p.mem_iff.2 (by simp[h]))) hl (hv θ q.g) (fun q' U=>by grind);refine ⟨⟨_,_,rfl,⟨⟨_,rfl⟩,Rep.rd_mono _ hrd.2 l⟩,j⟩,p.trans (i.cons _),?_⟩;rw[C];intro w F V;obtain ⟨G,K,rfl,W,N⟩:=V;exact ⟨G,K,rfl,W,f w K N⟩
  grind
 | .kb g T t::ps,x::xs,chs,r,h,hx,hc,hl,γ,hγ=>by
  unfold eO at h;split at h
  ·have ⟨c,I,h⟩:=bind_some h;have ⟨M,h⟩:=ai h;have ⟨q,v,h⟩:=bind_some h;have ⟨H,u,h⟩:=bind_some h;have ⟨hn,h⟩:=ai h;cases ae h;cases au M;have k:=hγ _ rfl;have ⟨S,hm⟩:=EY I;have d:=(o.chs _ hm).2.2;have L:=d.2.2;have ⟨p,hb⟩:=uP (P:=P) (w0:=w0) (J:=J) (J':=J') (θ:=θ) (n:=s.nxt) (chs0:=s.chs) v l fun e C=>o.chs e (hc e C);have ⟨j,i,f⟩:=gT D o l u (fun z X=>hx z (by grind)) (fun e h=>hc e (p.mem_iff.2 (by simp[h]))) hl γ (fun q' U=>by grind[EX]);refine ⟨⟨_,_,rfl,⟨by rw[k];exact L,_,k⟩,j⟩,by rw[aC];exact p.trans (i.append_left _),?_⟩;rw[aZ,k];intro w F V;obtain ⟨G,K,rfl,W,N⟩:=V.split;rw[k] at f;exact ⟨G,K,rfl,hb w G W,f w K N⟩
  grind
 | .kc g::ps,x::xs,chs,r,h,hx,hc,hl,γ,hγ=>by
  unfold eO at h;split at h
  ·have ⟨c,I,h⟩:=bind_some h;have ⟨M,h⟩:=ai h;have ⟨H,u,h⟩:=bind_some h;have ⟨hn,h⟩:=ai h;cases ae h;cases au M;have k:=hγ _ rfl;have ⟨S,hm⟩:=EY I;have d:=(o.chs _ hm).2.2;have L:=d.2.2;have ⟨j,i,f⟩:=gT D o l u (fun z X=>hx z (by grind)) hc hl γ (fun q' U=>by grind[EX]);exact ⟨⟨_,_,rfl,⟨by rw[k];exact L,_,k⟩,j⟩,i,f⟩
  grind
 | .cap _ _::_,_::_,_,_,h,_,_,_,_,_=>by cases h
 | .capf _ _ _::_,_::_,_,_,h,_,_,_,_,_=>by cases h
 | [],_::_,_,r,h,_,_,_,_,_=>by cases h
 | .rd _::_,[],_,r,h,_,_,_,_,_=>by cases h
 | .ow _::_,[],_,r,h,_,_,_,_,_=>by cases h
 | .eat _::_,[],_,r,h,_,_,_,_,_=>by cases h
 | .fn _ _::_,[],_,r,h,_,_,_,_,_=>by cases h
 | .ptr _ _::_,[],_,r,h,_,_,_,_,_=>by cases h
 | .cap _ _::_,[],_,_,h,_,_,_,_,_=>by cases h
 | .capf _ _ _::_,[],_,_,h,_,_,_,_,_=>by cases h
 | .fk _::_,[],_,_,h,_,_,_,_,_=>by cases h
 | .crs _ _::_,[],_,_,h,_,_,_,_,_=>by cases h
 | .kb _ _ _::_,[],_,_,h,_,_,_,_,_=>by cases h
 | .kc _::_,[],_,_,h,_,_,_,_,_=>by cases h
def y6:List PM->Bool
 | [] =>true
 | .ow t::ps=>t.dp&&y6 ps
 | .ptr _ t::ps=>t.dp&&y6 ps
 | .kb _ _ t::ps=>t.dp&&y6 ps
 | _::ps=>y6 ps
def AB:(t:Ty)->t.den->List LV->List (Hdr×Chk)
 | .prod a b,d,cs=>AB a d.1 (cs.take a.size)++AB b d.2 (cs.drop a.size)
 | .wr t,d,cs=>AB t d cs
 | .sl E t,d,cs=>match cs with
  | .own h::_=>[(h,.own (.sl E t) d)]
  | _=>[]
 | _,_,_=>[]
def kl (gh:Option GhQ):(ps:List PM)->List AV->kN (outs ps)->List (Hdr×Chk)
 | .ow t::ps,x::xs,d=>((mf x).elim [] fun cs=>AB t d.1 cs)++kl gh ps xs d.2
 | .ptr T t::ps,x::xs,d=>(match x with
  | .one (.ptr h _)=>[(h,.box T t d.1)]
  | _=>[])++kl gh ps xs d.2
 | .rd _::ps,_::xs,d=>kl gh ps xs d
 | .eat _::ps,_::xs,d=>kl gh ps xs d
 | .fn _ _::ps,_::xs,d=>kl gh ps xs d
 | .cap _ _::ps,_::xs,d=>kl gh ps xs d
 | .capf _ _ _::ps,_::xs,d=>kl gh ps xs d
 | .fk _::ps,_::xs,d=>kl gh ps xs d
 | .kc _::ps,_::xs,d=>kl gh ps xs d
 | .kb _ T t::ps,_::xs,d=>(match gh with
  | some (.box h)=>[(h,.box T t d.1)]
  | _=>[])++kl gh ps xs d.2
 | .crs T E::ps,x::xs,d=>(match x,gh with
  | .one (.ptr h _),some (.cur g l)=>[(h,.blk T [.rd g (.sl E (.int .u8)) l,.val (.int .i64 d.1.1),.val (.int .i64 d.1.2)])]
  | _,_=>[])++kl gh ps xs d.2
 | _,_,_=>[]
def RT:Chk->Prop
 | .own _ _=>True
 | .box _ _ _=>True
 | _=>False
theorem tF {g:Hdr×Chk} {ver:Nat} (h:RT g.2) (h1:g.1.id<n) (b:ver<n):okE P w0 J θ n chs (g.1,ver,g.2):=by
 have ⟨a,c⟩:=g;cases c with
 | own _ _=>exact ⟨h1,b,trivial⟩
 | box _ _ _=>exact ⟨h1,b,trivial⟩
 | _=>exact h.elim
def Zj (P:Program) (w0:World) (J:Hp) (θ:Th) (n:Nat) (c:Chk):Prop:=RT c\/ ∃T cells,c= .blk T cells/\ ∀x∈cells,LV.ok P w0 J θ n x
theorem Ko {g:Hdr×Chk} {ver m:Nat} (h:Zj P w0 J θ m g.2) (f:m<=n) (h1:g.1.id<n) (b:ver<n):okE P w0 J θ n chs (g.1,ver,g.2):=by
 rcases h with h | ⟨T,cells,h,e⟩
 ·exact tF h h1 b
 ·have ⟨a,c⟩:=g;obtain rfl:c=_:=h;exact ⟨h1,b,fun x d=>LV.ok_same Same.rfl f (e x d) Hp.le.rfl⟩
theorem RU {w:World} : ∀ {t:Ty} {d:t.den} {cs:List LV} {C:List Ch},St J w0 w (Ch.own t.rep (cs.map (·.v θ)) d::C)->(∀x∈cs,x.ok P w0 J θ' n)->(∀x∈cs,x.v θ'=x.v θ)->
  St J w0 w ((AB t d cs).map (fun g=>toCh P θ' (g.1,m,g.2))++C)/\ ∀g∈AB t d cs,RT g.2/\g.1.id<n:=by
 intro t;induction t with
 | prod a b r q =>
  intro d cs C h j c;have ⟨y,z,e,v,h⟩:=Kh h;rw[a.rep_size] at v;have s:y=(cs.take a.size).map (·.v θ):=by
   simp_all
  have D:z=(cs.drop a.size).map (·.v θ):=by
   grind[List.map_drop,List.drop_left]
  rw[s,D] at h;have ⟨A,M⟩:=r h (fun x i=>j x (List.mem_of_mem_take i)) fun x i=>c x (List.mem_of_mem_take i);have ⟨u,H⟩:=q (A.perm List.perm_middle) (fun x i=>j x (List.mem_of_mem_drop i)) fun x i=>c x (List.mem_of_mem_drop i);refine ⟨?_,fun g f=>?_⟩
  ·show St J w0 w ((AB a d.1 _++AB b d.2 _).map _++C);refine u.perm ?_;grind[aC,List.perm_append_comm_assoc]
  ·rcases aG f with f | f
   ·grind
   grind
 | wr t ih =>
  intro d cs C h j c;exact ih h j c
 | sl E t ih =>
  intro d cs C h j c;cases cs with
  | nil=>exact ⟨h.tail,fun g f=>by cases f⟩
  | cons x l =>
   cases x with
   | own o =>
    have p:l= []:=by
     obtain ⟨O,I,F,⟨G,K,rfl,k,e⟩,L,N⟩:=h
     have:=(Ty.sl E t).rep.own_len k
     have B:((LV.own o::l).map (·.v θ)).length=1:=this;simpa using B
    subst p;refine ⟨?_,fun g f=>?_⟩
    ·have:=c (.own o) (by simp)
     show St J w0 w (Ch.own _ [hv θ' o] d::C);rw[show hv θ' o=hv θ o from this];exact h
    ·cases ak f;exact ⟨trivial,(j (.own o) (by simp)).1⟩
   | _=>exact ⟨h.tail,fun g f=>by cases f⟩
 | _ =>
  intro d cs C h j c;exact ⟨h.tail,fun g f=>by cases f⟩
theorem mi {w:World} {s:Sg} (B:Fine P w0 J θ s) (hs:Same s.nxt θ θ') (G:s.nxt<=m) {γ:Value} {gh:Option GhQ} : ∀ {ps:List PM} {xs:List AV} {D:FT} {chs:List Ent} {r:Args ps} (d:kN (outs ps)) {C:List Ch},eO D s chs ps xs=some r->(∀x∈xs,x.ok P w0 J θ s.nxt s.chs)->(∀e∈chs,e∈s.chs)->(∀q,r.gh=some q->gh=some q/\γ=q.v θ)->St J w0 w (outCh γ ps (xs.map (·.v θ)) d++C)->
  St J w0 w ((kl gh ps xs d).map (fun g=>toCh P θ' (g.1,m,g.2))++C)/\ ∀g∈kl gh ps xs d,Zj P w0 J θ' m g.2/\g.1.id<s.nxt
 | [],[],D,chs,r,d,C,h,j,hc,hγ,f=>⟨f,fun g i=>by cases i⟩
 | .rd t::ps,x::xs,D,chs,r,d,C,h,j,hc,hγ,f=>by
  have ⟨a,ha,h⟩:=bind_some (show (Bw s.chs t x).bind _=some r from h);have ⟨q,u,h⟩:=bind_some h;cases ae h;exact mi B hs G (ps:=ps) d u (fun y I=>j y (by grind)) hc hγ f
 | .ow t::ps,x::xs,D,chs,r,d,C,h,j,hc,hγ,f=>by
  have ⟨i,h⟩:=ai (show cg (o7 x==t.isProd) _=some r from h);have i:o7 x=t.isProd:=by simpa using i
  have ⟨U,F,h⟩:=bind_some h;have ⟨q,u,h⟩:=bind_some h;have ⟨K,h⟩:=ai h;have ⟨N,o,h⟩:=bind_some h;cases ae h;have O:=j x (by simp);have ⟨c1,c2⟩:=Bz F O i;have l:=(kg F O).1;have f:St J w0 w (Ch.own t.rep (lP t.isProd (x.v θ)) d.1::(outCh γ ps (xs.map (·.v θ)) d.2++C)):=f;rw[c1] at f;have ⟨k1,k2⟩:=RU (P:=P) (θ':=θ') (n:=s.nxt) (m:=m) f (fun x j=>LV.ok_same hs (aF _) (l x j) Hp.le.rfl) fun x j=>LV.v_same hs (l x j);have ⟨L,V⟩:=mi B hs G (ps:=ps) d.2 o (fun y I=>j y (by grind)) (fun e K=>hc e ((iG u).mem_iff.2 (by grind))) hγ (k1.perm (List.perm_append_comm_assoc _ _ _));have A:kl gh (.ow t::ps) (x::xs) d=AB t d.1 U++kl gh ps xs d.2:=by
   show ((mf x).elim [] fun U=>AB t d.1 U)++_=_;rw[F];rfl
  rw[A];refine ⟨?_,fun g i=>?_⟩
  ·refine L.perm ?_;grind[aC,List.perm_append_comm_assoc]
  ·rcases aG i with i | i
   ·exact ⟨.inl (k2 g i).1,(k2 g i).2⟩
   grind
 | .eat t::ps,x::xs,D,chs,r,d,C,h,j,hc,hγ,f=>by
  have ⟨i,h⟩:=ai (show cg (o7 x==t.isProd) _=some r from h);have ⟨U,F,h⟩:=bind_some h;have ⟨q,u,h⟩:=bind_some h;have ⟨K,h⟩:=ai h;have ⟨N,o,h⟩:=bind_some h;cases ae h;exact mi B hs G (ps:=ps) d o (fun y I=>j y (by grind)) (fun e K=>hc e ((iG u).mem_iff.2 (by grind))) hγ f
 | .fn a b::ps,x::xs,D,chs,r,d,C,h,j,hc,hγ,f=>by
  unfold eO at h;split at h
  ·have ⟨q,u,h⟩:=bind_some h;have ⟨N,o,h⟩:=bind_some h;cases ae h;exact mi B hs G (ps:=ps) d o (fun y I=>j y (by grind)) hc hγ f
  grind
 | .ptr T t::ps,x::xs,D,chs,r,d,C,h,j,hc,hγ,f=>by
  unfold eO at h;split at h
  ·rename_i v off;have ⟨W,h⟩:=ai h;have ⟨q,u,h⟩:=bind_some h;have ⟨N,o,h⟩:=bind_some h;cases ae h;cases au W;have k:=j (.one (.ptr v 0)) (by simp);have ⟨L,V⟩:=mi B hs G (ps:=ps) (C:=Ch.box (bk (hv θ v)) T t.rep d.1::C) d.2 o (fun y I=>j y (by grind)) (fun e K=>hc e ((pZ u).mem_iff.2 (by grind))) hγ (f.perm List.perm_middle.symm);refine ⟨?_,fun g i=>?_⟩
   ·show St J w0 w (Ch.box (bk (hv θ' v)) T t.rep d.1::((kl gh ps xs d.2).map _++C));rw[be hs k];exact L.perm List.perm_middle
   ·rcases aG i with i | i
    ·cases ak i;exact ⟨.inl trivial,k⟩
    grind
  grind
 | .fk g::ps,x::xs,D,chs,r,d,C,h,j,hc,hγ,f=>by
  unfold eO at h;split at h
  ·have ⟨hk,h⟩:=ai h;have ⟨N,o,h⟩:=bind_some h;cases ae h;exact mi B hs G (ps:=ps) d o (fun y I=>j y (by grind)) hc hγ f
  grind
 | .crs T E::ps,x::xs,D,chs,r,d,C,h,j,hc,hγ,f=>by
  unfold eO at h;split at h
  ·rename_i v off;have ⟨W,h⟩:=ai h;have ⟨q,u,h⟩:=bind_some h;have ⟨N,o,h⟩:=bind_some h;have ⟨hn,h⟩:=ai h;cases ae h;cases au W;have ⟨M,i⟩:=hγ _ rfl;have ⟨p,Y,K⟩:=oR u;have l:=B.chs _ (hc _ (p.mem_iff.2 (List.mem_cons_self ..)));rw[K] at l;have hrd:LV.ok P w0 J θ s.nxt (.rd q.g (.sl E (.int .u8)) q.d.1):=l.2.2 _ (by simp);have k:=j (.one (.ptr v 0)) (by simp);have ⟨L,V⟩:=mi B hs G (ps:=ps) (gh:=gh) (C:=Ch.blk (bk (hv θ v)) [γ,.int .i64 d.1.1,.int .i64 d.1.2] T::C) d.2 o (fun y I=>j y (by grind)) (fun e K=>hc e (p.mem_iff.2 (by grind))) (fun q' R=>by grind) (f.perm List.perm_middle.symm);have A:kl gh (.crs T E::ps) (.one (.ptr v 0)::xs) d= [(v,.blk T [.rd q.g (.sl E (.int .u8)) q.d.1,.val (.int .i64 d.1.1),.val (.int .i64 d.1.2)])] ++kl gh ps xs d.2:=by
    rw[M];rfl
   rw[A];refine ⟨?_,fun g H=>?_⟩
   ·show St J w0 w (Ch.blk (bk (hv θ' v)) [hv θ' q.g,.int .i64 d.1.1,.int .i64 d.1.2] T::((kl gh ps xs d.2).map _++C));rw[be hs k,be hs hrd.1,<-show γ=hv θ q.g from i];exact L.perm List.perm_middle
   ·rcases aG H with H | H
    ·cases ak H;refine ⟨.inr ⟨_,_,rfl,fun z Q=>?_⟩,k⟩;rcases aE Q with rfl | Q
     ·grind[LV.ok_same,Hp.le.rfl]
     ·rcases aE Q with rfl | Q
      ·rfl
      ·cases ak Q
       rfl
    grind
  grind
 | .kb g T t::ps,x::xs,D,chs,r,d,C,h,j,hc,hγ,f=>by
  unfold eO at h;split at h
  ·rename_i v;have ⟨c,S,h⟩:=bind_some h;have ⟨hk,h⟩:=ai h;have ⟨q,u,h⟩:=bind_some h;have ⟨N,o,h⟩:=bind_some h;have ⟨hn,h⟩:=ai h;cases ae h;have ⟨M,i⟩:=hγ _ rfl;have ⟨Y,Z⟩:=EY S;have l:=(B.chs _ Z).2.2;have k:=l.2.1 (.ptr c.2 0) (by simp);have f:St J w0 w (Ch.box (bk γ) T t.rep d.1::(outCh γ ps (xs.map (·.v θ)) d.2++C)):=f;have X:bk γ=bk (hv θ c.2):=by rw[i];rfl
   rw[X] at f;have ⟨L,V⟩:=mi B hs G (ps:=ps) (gh:=gh) (C:=Ch.box (bk (hv θ c.2)) T t.rep d.1::C) d.2 o (fun y I=>j y (by grind)) (fun e K=>hc e ((pZ u).mem_iff.2 (by grind))) (fun q' R=>by grind[EX]) (f.perm List.perm_middle.symm);have A:kl gh (.kb g T t::ps) (.one (.own v)::xs) d= [(c.2,.box T t d.1)] ++kl gh ps xs d.2:=by
    rw[M];rfl
   rw[A];refine ⟨?_,fun g i=>?_⟩
   ·show St J w0 w (Ch.box (bk (hv θ' c.2)) T t.rep d.1::((kl gh ps xs d.2).map _++C));rw[be hs k];exact L.perm List.perm_middle
   ·rcases aG i with i | i
    ·cases ak i;exact ⟨.inl trivial,k⟩
    grind
  grind
 | .kc g::ps,x::xs,D,chs,r,d,C,h,j,hc,hγ,f=>by
  unfold eO at h;split at h
  ·have ⟨c,S,h⟩:=bind_some h;have ⟨hk,h⟩:=ai h;have ⟨N,o,h⟩:=bind_some h;have ⟨hn,h⟩:=ai h;exact mi B hs G (ps:=ps) d o (fun y I=>j y (by grind)) hc (fun q' R=>by grind[EX]) f
  grind
 | .cap _ _::_,_::_,_,_,_,_,_,h,_,_,_,_=>by cases h
 | .capf _ _ _::_,_::_,_,_,_,_,_,h,_,_,_,_=>by cases h
 | [],_::_,_,_,_,_,_,h,_,_,_,_=>by cases h
 | .rd _::_,[],_,_,_,_,_,h,_,_,_,_=>by cases h
 | .ow _::_,[],_,_,_,_,_,h,_,_,_,_=>by cases h
 | .eat _::_,[],_,_,_,_,_,h,_,_,_,_=>by cases h
 | .fn _ _::_,[],_,_,_,_,_,h,_,_,_,_=>by cases h
 | .ptr _ _::_,[],_,_,_,_,_,h,_,_,_,_=>by cases h
 | .cap _ _::_,[],_,_,_,_,_,h,_,_,_,_=>by cases h
 | .capf _ _ _::_,[],_,_,_,_,_,h,_,_,_,_=>by cases h
 | .fk _::_,[],_,_,_,_,_,h,_,_,_,_=>by cases h
 | .crs _ _::_,[],_,_,_,_,_,h,_,_,_,_=>by cases h
 | .kb _ _ _::_,[],_,_,_,_,_,h,_,_,_,_=>by cases h
 | .kc _::_,[],_,_,_,_,_,h,_,_,_,_=>by cases h
end
theorem Aa {l m:List Ch} (h:Ch.deeps l) (k:Ch.deeps m):Ch.deeps (l++m):=by
 induction l with
 | nil=>exact k
 | cons c l ih=>exact ⟨h.1,ih h.2⟩
theorem uQ {v:Value} : ∀(ts:List Ty) (i:Nat) (d:kN ts),GP ts=true->Ch.deeps (yU i ts d v)
 | [],_,_,_=>trivial
 | t::ts,i,d,h=>by
  have h:(t.dp&&GP ts)=true:=h;rw[aj] at h;exact ⟨Bj (Ty.dp_ok h.1),uQ ts (i+1) d.2 h.2⟩
theorem DK {v:Value} (ts:List Ty) (d:kN ts) (h:GP ts=true):Ch.deeps (resGv ts d v):=by
 match ts,d,h with
 | [t],d,h =>
  have h:(t.dp&&true)=true:=h;rw[Bool.and_true] at h;exact ⟨Bj (Ty.dp_ok h),trivial⟩
 | [],d,h=>exact uQ (v:=v) [] 0 d h
 | _::_::_,d,h=>exact uQ (v:=v) _ 0 d h
def Ty.fin:Ty->Bool
 | .int _=>true
 | .bool=>true
 | .str=>true
 | .prod a b=>a.fin&&b.fin
 | .wr t=>t.fin
 | _=>false
theorem Ty.fin_ok: ∀ {t:Ty},t.fin=true->t.rep.Fin
 | .int _,_=>EF
 | .bool,_=>EF (h1:=fun _=>rfl)
 | .str,_=>EF (h1:=fun _=>rfl)
 | .raw,h=>by cases h
 | .prod a b,h=>by
  have h:(a.fin&&b.fin)=true:=h;rw[aj] at h;exact RG (fin_ok h.1) (fin_ok h.2)
 | .wr t,h=>fin_ok (t:=t) h
 | .sl _ _,h=>by cases h
 | .fro _,h=>by cases h
 | .bag _,h=>by cases h
 | .tree _ _ _,h=>by cases h
def recT:Ty->Bool
 | .tree _ _ u=>u.fin
 | _=>false
theorem Oa {t:Ty} (h:recT t=true) {cs:List Value} {d:t.den} :(Ch.own t.rep cs d).recl:=by
 cases t with
 | tree T E u=>exact NA (Ty.fin_ok h)
 | _=>cases h
def EZ:List Ty->Bool
 | [] =>true
 | t::ts=>(t.dp&&EZ ts) || (recT t&&GP ts)
theorem y7 {v:Value} {D:List Ch} (a:Ch.deeps D): ∀(ts:List Ty) (i:Nat) (d:kN ts),EZ ts=true->Ch.back (yU i ts d v++D)
 | [],_,_,_=>Ch.back_deeps a
 | t::ts,i,d,h=>by
  have h:((t.dp&&EZ ts) || (recT t&&GP ts))=true:=h;rw[Bool.or_eq_true,aj,aj] at h;rcases h with h | h
  ·exact .inl ⟨Bj (Ty.dp_ok h.1),y7 a ts (i+1) d.2 h.2⟩
  ·exact .inr ⟨Oa h.1,Aa (uQ ts (i+1) d.2 h.2) a⟩
theorem uR {v:Value} {D:List Ch} (a:Ch.deeps D) (ts:List Ty) (d:kN ts) (h:EZ ts=true):Ch.back (resGv ts d v++D):=by
 match ts,d,h with
 | [t],d,h =>
  have h:((t.dp&&true) || (recT t&&true))=true:=h;rw[Bool.and_true,Bool.and_true,Bool.or_eq_true] at h;rcases h with h | h
  ·exact .inl ⟨Bj (Ty.dp_ok h),Ch.back_deeps a⟩
  ·exact .inr ⟨Oa h,a⟩
 | [],d,h=>exact y7 (v:=v) a [] 0 d h
 | _::_::_,d,h=>exact y7 (v:=v) a _ 0 d h
theorem UI {α:Type} {b:Nat} {T:TypeId} {R:Rep α} {d:α} (h:R.Dp):(Ch.box b T R d).deep:=by
 rintro I J w F ⟨cells,G,rfl,c,a⟩;exact ⟨cells,G,rfl,c,h a⟩
theorem eY {γ:Value} : ∀(ps:List PM) (vs:List Value) (d:kN (outs ps)),y6 ps=true->Ch.deeps (outCh γ ps vs d)
 | [],vs,_,_=>by cases vs <;> trivial
 | .ow t::ps,[],d,h=>trivial
 | .ow t::ps,v::vs,d,h=>by
  have h:(t.dp&&y6 ps)=true:=h;rw[aj] at h;exact ⟨Bj (Ty.dp_ok h.1),eY ps vs d.2 h.2⟩
 | .ptr T t::ps,[],d,h=>trivial
 | .ptr T t::ps,v::vs,d,h=>by
  have h:(t.dp&&y6 ps)=true:=h;rw[aj] at h;exact ⟨UI (Ty.dp_ok h.1),eY ps vs d.2 h.2⟩
 | .rd _::ps,[],d,h=>trivial
 | .rd _::ps,v::vs,d,h=>eY ps vs d h
 | .eat _::ps,[],d,h=>trivial
 | .eat _::ps,v::vs,d,h=>eY ps vs d h
 | .fn _ _::ps,[],d,h=>trivial
 | .fn _ _::ps,v::vs,d,h=>eY ps vs d h
 | .cap _ _::ps,[],d,h=>trivial
 | .cap _ _::ps,v::vs,d,h=>eY ps vs d h
 | .capf _ _ _::ps,[],d,h=>trivial
 | .fk _::ps,[],d,h=>trivial
 | .capf _ _ _::ps,v::vs,d,h=>eY ps vs d h
 | .fk _::ps,v::vs,d,h=>eY ps vs d h
 | .crs _ _::ps,[],d,h=>trivial
 | .kb _ _ _::ps,[],d,h=>trivial
 | .kc _::ps,[],d,h=>trivial
 | .kb _ T t::ps,v::vs,d,h=>by
  have h:(t.dp&&y6 ps)=true:=h;rw[aj] at h;exact ⟨UI (Ty.dp_ok h.1),eY ps vs d.2 h.2⟩
 | .kc _::ps,v::vs,d,h=>eY ps vs d h
 | .crs _ _::ps,v::vs,d,h=>⟨Uq,eY ps vs d.2 h⟩
theorem jH {id:Nat} {pth:Nat->List Nat} : ∀(t:Ty) (d:t.den) (j:Nat),∀g∈sJ id pth t d j,RT g.2
 | .prod a b,d,j=>fun g c=>by
  rcases aG c with c | c
  ·exact jH a d.1 j g c
  ·exact jH b d.2 _ g c
 | .sl E t,d,j=>fun g c=>by obtain rfl:=ak c;trivial
 | .wr t,d,j=>jH t d j
 | .int _,_,_=>fun g c=>by cases c
 | .bool,_,_=>fun g c=>by cases c
 | .str,_,_=>fun g c=>by cases c
 | .raw,_,_=>fun g c=>by cases c
 | .fro _,_,_=>fun g c=>by cases c
 | .bag _,_,_=>fun g c=>by cases c
 | .tree _ _ _,d,j=>fun g c=>by obtain rfl:=ak c;trivial
theorem wF {id:Nat} : ∀(i:Nat) (ts:List Ty) (d:kN ts),∀g∈zZ id i ts d,RT g.2
 | _,[],_=>fun g a=>by cases a
 | i,t::ts,d=>fun g a=>by
  rcases aG a with a | a
  ·exact jH t d.1 0 g a
  ·exact wF (i+1) ts d.2 g a
theorem rQ {id:Nat} (ts:List Ty) (d:kN ts): ∀g∈sK id ts d,RT g.2:=by
 match ts,d with
 | [t],d=>exact jH t d.1 0
 | [],d=>exact wF (id:=id) 0 [] d
 | _::_::_,d=>exact wF (id:=id) 0 _ d
theorem xC {g:Hdr×Chk} {ver:Nat} {c:Chk} (h:RT g.2) (k:SaysH g.2 ver c):False:=by
 obtain ⟨a,x⟩:=g;cases x <;> first | exact h.elim | exact k.elim
theorem RV {h:Hdr} {chs:List Ent} {q:Row} (b:rowOf h chs=some q) {e:Ent} (a:e∈chs) (h1:e.1=h):e=q.ent h:=by
 obtain ⟨p,k⟩:=bY b;rcases aE (p.mem_iff.1 a) with rfl | a
 ·rfl
 ·exact absurd h1 (k e a)
theorem Ob {h:Hdr} {chs:List Ent} {q:TreeE} (b:GQ h chs=some q) {e:Ent} (a:e∈chs) (h1:e.1=h):e=q.ent h:=by
 obtain ⟨p,k⟩:=N3 b;rcases aE (p.mem_iff.1 a) with rfl | a
 ·rfl
 ·exact absurd h1 (k e a)
theorem RW {h:Hdr} {chs:List Ent} {q:Blk} (b:YI h chs=some q) {e:Ent} (a:e∈chs) (h1:e.1=h):e=q.ent h:=by
 obtain ⟨p,k⟩:=N4 b;rcases aE ((lf p).mem_iff.1 a) with rfl | a
 ·rfl
 ·exact absurd h1 (k e a)
theorem OpT.post {P:Program} {w0:World} {o:Oper} {I:Hp} {ev:Operand->Value} {rn:List Ch} {fact a:Value->Prop} {gv b:Value->List Ch} (h:OpT P I w0 o ev rn fact gv) (hp: ∀v w C,fact v->St I w0 w (gv v++C)->a v/\St I w0 w (b v++C)):OpT P I w0 o ev rn a b :=
 fun w C c=>(h w C c).imp fun v w hv=>hp v w C hv.1 hv.2
theorem OpT.sepTo {P:Program} {w0:World} {o:Oper} {I:Hp} {ev:Operand->Value} {l a:List Ch} {fact:Value->Prop} {gv:Value->List Ch} (k:qX I l a) (h:OpT P I w0 o ev a fact gv):OpT P I w0 o ev l fact gv:=fun w C i=>by
 obtain ⟨j,b,F,e,d,f⟩:=i;obtain ⟨G,K,rfl,c,g⟩:=e.split;exact h w C ⟨j,b,G++K,(k w G c).append g,d,f⟩
section
variable {Y:Type} (ft:FT) (s:Sg) (k:Res->Option Y)
def IN (s:Sg):List Operand->Option (List AV)
 | [] =>some []
 | x::xs=>(opd s x).bind fun v=>(IN s xs).bind fun vs=>some (v::vs)
def Kp (f:FS) (xs:List AV) (kx:List Ent->List Ent->List Ent->Option GhQ->dens (f.rs++outs f.ps)->Option Y):Option Y:=(eO ft s s.chs f.ps xs).bind fun a =>
 (EW (IM a.lent []) a.rest).bind fun pl=>match (GP f.rs&&y6 f.ps) || pl.1.isEmpty with
 | true=>(appP f.ps f.m a.d).bind fun r=>kx pl.1 a.own pl.2 a.gh r
 | false=>cg (EZ f.rs&&y6 f.ps) ((appP f.ps f.m a.d).bind fun r=>kx [] (a.own++pl.1) pl.2 a.gh r)
def WM (f : FS) (xs : List AV) (L M R : List Ent) (gh : Option GhQ) (r : dens (f.rs ++ outs f.ps)) : Option Y :=
    k ⟨L, M, R, sK s.nxt f.rs (hFst f.rs (outs f.ps) (toH _ r)) ++ kl gh f.ps xs (hSnd f.rs (outs f.ps) (toH _ r)), IJ s.nxt f.rs (hFst f.rs (outs f.ps) (toH _ r))⟩
def UJ (g:FuncId) (xs:List Operand):Option Y:=(fs ft g).bind fun f=>cg (!f.ov)<|(IN s xs).bind fun vs=>Kp ft s f vs (WM s k f vs)
def acI:(ts:List Ty)->kN ts->Int
 | [.sl _ t],d=>((List.length (α:=t.den) d.1:Nat):Int)
 | _,_=>1
def Oc (ts:List Ty) (d:kN ts):Bool:=decide (acI ts d=0)
def UK (g : FuncId) (xs : List Operand) : Option Y := (fs ft g).bind fun f => cg (!f.ov) <| (IN s xs).bind fun vs => Kp ft s f vs fun L M R gh r =>
    if Oc f.rs (hFst f.rs (outs f.ps) (toH _ r)) then k ⟨L, M, R, kl gh f.ps vs (hSnd f.rs (outs f.ps) (toH _ r)), .one (.val (.slice none 0 0))⟩
    else WM s k f vs L M R gh r
def Zk (f:FS) (n:Nat):Bool:=match f.ps.drop n with
 | [.ptr _ _] =>true
 | _=>false
def Kq (t n:Nat):Option (FuncId×Hdr):=match look s.env t with
 | some (.one (.own h))=>(aa4 h s.chs).bind fun c=>(fs ft c.1).bind fun f=>match Zk f n with
  | true=>some c
  | false=>none
 | _=>none
def UL (c:FuncId×Hdr) (xs:List Operand):Option Y:=(fs ft c.1).bind fun f=>cg (!f.ov)<|(IN s xs).bind fun vs=>Kp ft s f (vs++ [.one (.ptr c.2 0)]) (WM s k f (vs++ [.one (.ptr c.2 0)]))
def adf (n:Nat):LV->Option (List Ty×List Ty)
 | .fn _ a b _=>some (a,b)
 | .own h=>(N6 h s.chs).bind fun q=>(fs ft q.1).bind fun f=>(WH ((f.ps.drop q.2.1.length).take n)).bind fun a=>some (a,f.rs++outs f.ps)
 | _=>none
def WN:(ts:List Ty)->List Operand->Option (kN ts×List Hdr)
 | [],[] =>some ((),[])
 | t::ts,x::xs=>(opd s x).bind fun v=>(Bw s.chs t v).bind fun a=>(WN ts xs).bind fun r=>some ((a.1,r.1),a.2++r.2)
 | _,_=>none
def Od (t:Nat) (xs:List Operand):Option Y:=(oneOf0 (look s.env t)).bind fun y=>(adf ft s xs.length y).bind fun ab=>(WK ft s.chs 4 ab.1 ab.2 y).bind fun q=>(WN s ab.1 xs).bind fun d =>
 (EW (IM (q.lent++d.2) []) s.chs).bind fun pl=>cg (GP ab.2) ((app ab.1 q.e d.1).bind fun r=>k ⟨pl.1,[],pl.2,sK s.nxt ab.2 (toH _ r),IJ s.nxt ab.2 (toH _ r)⟩)
where oneOf0:Option AV->Option LV
 | some (.one x)=>some x
 | _=>none
end
section
variable {Y:Type} {ft:FT} {s:Sg} {k:Res->Option Y} {P:Program} {w0:World} {o:Oper} {res:Y}
theorem E3 {J:Hp} {θ:Th} {hs:List Hdr} {l:List Ent} (r:l.map (·.1)=IM hs []) (b: ∀e∈l,e∈s.chs) (j: ∀ {α:Type} (R:Rep α) (v:List Value) (a:α),Ch.own R v a∈l.map (toCh P θ)->R.rd J v a) (p: ∀g c E,Ch.blk g c E∈l.map (toCh P θ)->J g=some (.cells c.toArray E (0,0))):Lent J θ s.chs hs:=fun h n=>by
 have m:h∈l.map (·.1):=by
  rw[r];rcases By (acc:=[]) n with d | d
  ·exact d
  ·cases d
 obtain ⟨e,f,d⟩:=List.mem_map.1 m;refine ⟨fun q i=>?_,fun q i=>?_,fun q i=>?_⟩
 ·have:=RV i (b e f) d
  subst this;exact j _ _ _ (List.mem_map.2 ⟨_,f,rfl⟩)
 ·have:=Ob i (b e f) d
  subst this;exact j _ _ _ (List.mem_map.2 ⟨_,f,rfl⟩)
 ·have:=RW i (b e f) d
  subst this;exact p _ _ _ (List.mem_map.2 ⟨_,f,rfl⟩)
theorem gD: ∀ {ps:List PM} {xs:List AV} {chs:List Ent} {r:Args ps},eO ft s chs ps xs=some r->chs.Perm (r.own++r.rest)
 | [],[],chs,r,h=>by obtain rfl:=ae (show some _=some r from h);exact List.Perm.refl _
 | .rd t::ps,x::xs,chs,r,h=>by
  obtain ⟨a,w,h⟩:=bind_some (show (Bw s.chs t x).bind _=some r from h);obtain ⟨q,f,h⟩:=bind_some h;obtain rfl:=ae h;exact gD (ps:=ps) f
 | .ow t::ps,x::xs,chs,r,h=>by
  obtain ⟨u,h⟩:=ai (show cg (o7 x==t.isProd) _=some r from h);obtain ⟨m,i,h⟩:=bind_some h;obtain ⟨q,f,h⟩:=bind_some h;obtain ⟨p,h⟩:=ai h;obtain ⟨e,d,h⟩:=bind_some h;obtain rfl:=ae h;show chs.Perm ((q.used++e.own)++e.rest);rw[aC];exact (iG f).trans ((gD d).append_left _)
 | .eat t::ps,x::xs,chs,r,h=>by
  obtain ⟨u,h⟩:=ai (show cg (o7 x==t.isProd) _=some r from h);obtain ⟨m,i,h⟩:=bind_some h;obtain ⟨q,f,h⟩:=bind_some h;obtain ⟨p,h⟩:=ai h;obtain ⟨e,d,h⟩:=bind_some h;obtain rfl:=ae h;show chs.Perm ((q.used++e.own)++e.rest);rw[aC];exact (iG f).trans ((gD d).append_left _)
 | .fn a b::ps,x::xs,chs,r,h=>by
  unfold eO at h;split at h
  ·obtain ⟨q,f,h⟩:=bind_some h;obtain ⟨e,d,h⟩:=bind_some h;obtain rfl:=ae h;exact gD (ps:=ps) d
  ·cases h
 | .ptr T t::ps,x::xs,chs,r,h=>by
  unfold eO at h;split at h
  ·obtain ⟨n,h⟩:=ai h;obtain ⟨q,f,h⟩:=bind_some h;obtain ⟨e,d,h⟩:=bind_some h;obtain rfl:=ae h;show chs.Perm ((q.2.1++e.own)++e.rest);rw[aC];exact (pZ f).trans ((gD d).append_left _)
  ·cases h
 | .crs T E::ps,x::xs,chs,r,h=>by
  unfold eO at h;split at h
  ·obtain ⟨n,h⟩:=ai h;obtain ⟨q,f,h⟩:=bind_some h;obtain ⟨e,d,h⟩:=bind_some h;obtain ⟨l,h⟩:=ai h;obtain rfl:=ae h;exact (oR f).1.trans ((gD d).cons _)
  ·cases h
 | .fk g::ps,x::xs,chs,r,h=>by
  unfold eO at h;split at h
  ·obtain ⟨j,h⟩:=ai h;obtain ⟨e,d,h⟩:=bind_some h;obtain rfl:=ae h;exact gD (ps:=ps) d
  ·cases h
 | .kb g T t::ps,x::xs,chs,r,h=>by
  unfold eO at h;split at h
  ·obtain ⟨c,v,h⟩:=bind_some h;obtain ⟨j,h⟩:=ai h;obtain ⟨q,f,h⟩:=bind_some h;obtain ⟨e,d,h⟩:=bind_some h;obtain ⟨l,h⟩:=ai h;obtain rfl:=ae h;show chs.Perm ((q.2.1++e.own)++e.rest);rw[aC];exact (pZ f).trans ((gD d).append_left _)
  ·cases h
 | .kc g::ps,x::xs,chs,r,h=>by
  unfold eO at h;split at h
  ·obtain ⟨c,v,h⟩:=bind_some h;obtain ⟨j,h⟩:=ai h;obtain ⟨e,d,h⟩:=bind_some h;obtain ⟨l,h⟩:=ai h;obtain rfl:=ae h;exact gD (ps:=ps) d
  ·cases h
 | .kb _ _ _::_,[],_,_,h=>by cases h
 | .kc _::_,[],_,_,h=>by cases h
 | .cap _ _::_,_::_,_,_,h=>by cases h
 | .capf _ _ _::_,_::_,_,_,h=>by cases h
 | [],_::_,_,r,h=>by cases h
 | .rd _::_,[],_,r,h=>by cases h
 | .ow _::_,[],_,r,h=>by cases h
 | .eat _::_,[],_,r,h=>by cases h
 | .fn _ _::_,[],_,r,h=>by cases h
 | .ptr _ _::_,[],_,r,h=>by cases h
 | .cap _ _::_,[],_,_,h=>by cases h
 | .capf _ _ _::_,[],_,_,h=>by cases h
 | .fk _::_,[],_,_,h=>by cases h
 | .crs _ _::_,[],_,_,h=>by cases h
theorem Mb: ∀ {t:Ty} {d:t.den} {cs:List LV},∀g∈AB t d cs,RT g.2:=by
 intro t;induction t with
 | prod a b f e =>
  intro d cs g c;rcases aG c with c | c
  ·exact f g c
  ·exact e g c
 | wr t i=>intro d cs g c;exact i g c
 | sl E t i =>
  intro d cs g c;cases cs with
  | nil=>cases c
  | cons x l =>
   cases x with
   | own h=>obtain rfl:=ak c;trivial
   | _=>cases c
 | _=>intro d cs g c;cases c
theorem fA {gh:Option GhQ} : ∀ {ps:List PM} {xs:List AV} {d:kN (outs ps)},∀g∈kl gh ps xs d,∀b c,SaysH g.2 b c->False
 | [],xs,d=>fun g a=>by cases xs <;> cases a
 | .ow t::ps,[],d=>fun g a=>by cases a
 | .ow t::ps,x::xs,d=>fun g a=>by
  have a:g∈((mf x).elim [] fun e=>AB t d.1 e)++kl gh ps xs d.2:=a;rcases aG a with a | a
  ·cases f:mf x with
   | none=>rw[f] at a;cases a
   | some e=>rw[f] at a;exact fun b c k=>xC (Mb g a) k
  ·exact fA g a
 | .ptr T t::ps,[],d=>fun g a=>by cases a
 | .ptr T t::ps,x::xs,d=>fun g a=>by
  have a:g∈(match (generalizing:=false) x with | .one (.ptr h _)=>[(h,Chk.box T t d.1)] | _=>[])++kl gh ps xs d.2:=a;rcases aG a with a | a
  ·split at a
   ·obtain rfl:=ak a;exact fun b c k=>k
   ·cases a
  ·exact fA g a
 | .rd _::ps,[],d=>fun g a=>by cases a
 | .rd _::ps,_::xs,d=>fA (ps:=ps)
 | .eat _::ps,[],d=>fun g a=>by cases a
 | .eat _::ps,_::xs,d=>fA (ps:=ps)
 | .fn _ _::ps,[],d=>fun g a=>by cases a
 | .fn _ _::ps,_::xs,d=>fA (ps:=ps)
 | .cap _ _::ps,[],d=>fun g a=>by cases a
 | .cap _ _::ps,_::xs,d=>fA (ps:=ps)
 | .capf _ _ _::ps,[],d=>fun g a=>by cases a
 | .fk _::ps,[],d=>fun g a=>by cases a
 | .capf _ _ _::ps,_::xs,d=>fA (ps:=ps)
 | .fk _::ps,_::xs,d=>fA (ps:=ps)
 | .kc _::ps,[],d=>fun g a=>by cases a
 | .kc _::ps,_::xs,d=>fA (ps:=ps)
 | .kb _ T t::ps,[],d=>fun g a=>by cases a
 | .kb _ T t::ps,x::xs,d=>fun g a=>by
  have a:g∈(match (generalizing:=false) gh with | some (.box h)=>[(h,Chk.box T t d.1)] | _=>[])++kl gh ps xs d.2:=a;rcases aG a with a | a
  ·split at a
   ·obtain rfl:=ak a;exact fun b c k=>k
   ·cases a
  ·exact fA g a
 | .crs T E::ps,[],d=>fun g a=>by cases a
 | .crs T E::ps,x::xs,d=>fun g a=>by
  have a:g∈(match (generalizing:=false) x,gh with | .one (.ptr h _),some (.cur g l)=>[(h,Chk.blk T [.rd g (.sl E (.int .u8)) l,.val (.int .i64 d.1.1),.val (.int .i64 d.1.2)])] | _,_=>[])++kl gh ps xs d.2:=a;rcases aG a with a | a
  ·split at a
   ·obtain rfl:=ak a;exact fun b c k=>k
   ·cases a
  ·exact fA g a
theorem RX {α:Type} (A L O C:List α):(A++(L++(O++C))).Perm (O++(A++(L++C))):=by
 rw[<-aC A L (O++C),<-aC A L C];exact List.perm_append_comm_assoc _ _ _
theorem Oe {α:Type} (B A L C:List α):(B++(A++(L++C))).Perm (L++(A++B)++C):=by
 have h:(B++(A++L)).Perm (L++(A++B)):=List.perm_append_comm.trans ((List.Perm.of_eq (aC ..)).trans (List.perm_append_comm_assoc _ _ _))
 have:=h.append_right C
 rwa [aC,aC] at this
theorem RY {P:Program} {I:Hp} {w0:World} {o:Oper} {ev:Operand->Value} {ls rn:List Ch} {fact:Value->Prop} {gv:Value->List Ch} (e: ∀v,Ch.back (gv v))
  (h: ∀J,I.le J->(∀ {α:Type} (R:Rep α) (v:List Value) (a:α),Ch.own R v a∈ls->R.rd J v a)->(∀g l E,Ch.blk g l E∈ls->J g=some (.cells l.toArray E (0,0)))->OpT P J w0 o ev rn fact gv):OpT P I w0 o ev (ls++rn) fact gv:=by
 intro w C b;rw[aC] at b;obtain ⟨J,c,d,i,f,j⟩:=N2 b;exact (h J c d i w _ f).imp fun v m hv=>⟨hv.1,hv.2.back c (e v)⟩
theorem Of {α:Type} (L G O C:List α):(L++(G++O)++C).Perm (O++(L++C)++G):=by
 refine (List.Perm.append_right C List.perm_append_comm).trans ?_;rw[aC,aC];exact List.perm_append_comm
theorem Og {ts:List Ty} {d:kN ts} {v:Value} (h:Oc ts d=true) (k:xx ts d v):v= .slice none 0 0:=by
 have h:=of_decide_eq_true h;unfold acI at h;split at h
 ·exact k (Int.ofNat.inj h)
 ·exact absurd h (by decide)
def ghV (θ:Th):Option GhQ->Value
 | some q=>q.v θ
 | none=>undef
theorem DL {θ:Th} {o:Option GhQ} : ∀q,o=some q->ghV θ o=q.v θ:=fun q h=>by rw[h];rfl
theorem E4 {J:Hp} {θ:Th} (d:Fine P w0 J θ s): ∀ {xs:List Operand} {vs:List AV},IN s xs=some vs->xs.map (evL (envL θ s))=vs.map (·.v θ)/\ ∀x∈vs,x.ok P w0 J θ s.nxt s.chs
 | [],vs,h=>by obtain rfl:=ae (show some _=some vs from h);exact ⟨rfl,fun x f=>by cases f⟩
 | x::xs,vs,h=>by
  obtain ⟨v,a,h⟩:=bind_some (show (opd s x).bind _=some vs from h);obtain ⟨i,c,h⟩:=bind_some h;obtain rfl:=ae h;obtain ⟨e,g⟩:=E4 d c;refine ⟨by rw[List.map_cons,List.map_cons,e,aH (θ:=θ) a],fun y b=>?_⟩;rcases aE b with rfl | b
  ·exact cf d a
  ·exact g y b
def Kr (P:Program) (w0:World) (s:Sg) (cv:Operand) (g:FuncId) (xs:List Operand) (vs:List AV):Prop:= ∀J θ,Fine P w0 J θ s-> ∃cap:Array Value,evL (envL θ s) cv= .func (.func g) #[] cap/\xs.map (evL (envL θ s))++cap.toList=vs.map (·.v θ)/\ ∀x∈vs,x.ok P w0 J θ s.nxt s.chs
theorem Ks {g:FuncId} {xs:List Operand} {vs:List AV} (h:IN s xs=some vs):Kr P w0 s (.func g) g xs vs:=fun J θ b=>by
 obtain ⟨a,c⟩:=E4 b h;exact ⟨#[],rfl,by rw[a];simp,c⟩
theorem RZ {t n:Nat} {c:FuncId×Hdr} {xs:List Operand} {vs:List AV} (hp:Kq ft s t n=some c) (h:IN s xs=some vs):Kr P w0 s (.tmp t) c.1 xs (vs++ [.one (.ptr c.2 0)]):=fun J θ j=>by
 unfold Kq at hp;split at hp
 ·rename_i m e;obtain ⟨d,v,hp⟩:=bind_some hp;obtain ⟨f,l,hp⟩:=bind_some hp;split at hp
  ·obtain rfl:=ae hp;obtain ⟨u,q⟩:=E4 j h;obtain ⟨r,p⟩:=EY v;have a:=(j.chs _ p).2.2;have i:hv θ m= .func (.func d.1) #[] #[.pointer (some ⟨bk (hv θ d.2),0,none⟩)]:=a.2.2;have g:d.2.id<s.nxt:=a.2.1 (.ptr d.2 0) (by simp);refine ⟨#[.pointer (some ⟨bk (hv θ d.2),0,none⟩)],?_,?_,fun x b=>?_⟩
   ·rw[<-i];exact aH (x:=.tmp t) (θ:=θ) e
   ·rw[u,aZ];rfl
   ·rcases aG b with b | b
    ·exact q x b
    ·obtain rfl:=ak b;exact g
  ·cases hp
 ·cases hp
theorem BA (U:FTok P ft) {f:FS} {g:FuncId} (p:Enters P g) {fact:dens (f.rs++outs f.ps)->Value->Prop} (i: ∀w0 J γ vs (d:denP f.ps) r,Lay P J->PArgs P w0 J γ f.ps vs d->appP f.ps f.m d=some r->
  Con P g vs.toArray J w0 (owCh γ f.ps vs d) (fact r) (fun v=>resGv f.rs (hFst f.rs (outs f.ps) (toH _ r)) v++outCh γ f.ps vs (hSnd f.rs (outs f.ps) (toH _ r)))) {xs:Array Operand} {ts:Array TypeId} {V:Operand} {vs:List AV} (z:Kr P w0 s V g xs.toList vs) (H:o.op= .call { callee:=.value V,args:=xs,argTypes:=ts }) {X:List Ent->List Ent->List Ent->Option GhQ->dens (f.rs++outs f.ps)->Option Y} (h:Kp ft s f vs X=some res) :
  ∃L M R r a,X L M R a.gh r=some res/\s.chs.Perm (L++M++R)/\eO ft s s.chs f.ps vs=some a/\ ∀J θ,Fine P w0 J θ s->OpT P J w0 o (evL (envL θ s)) (L.map (toCh P θ)++M.map (toCh P θ)) (fact r) (fun v=>L.map (toCh P θ)++(resGv f.rs (hFst f.rs (outs f.ps) (toH _ r)) v++outCh (ghV θ a.gh) f.ps (vs.map (·.v θ)) (hSnd f.rs (outs f.ps) (toH _ r)))):=by
 obtain ⟨a,u,h⟩:=bind_some h;obtain ⟨G,l,h⟩:=bind_some h;obtain ⟨Z,T⟩:=yZ l;have Q:s.chs.Perm (a.own++a.rest):=gD u;have b:s.chs.Perm (G.1++a.own++G.2):=by
  refine Q.trans ((Z.append_left a.own).trans ?_);rw[aC];exact List.perm_append_comm_assoc _ _ _
 split at h
 ·rename_i n;obtain ⟨r,F,h⟩:=bind_some h;rw[Bool.or_eq_true,aj] at n;refine ⟨_,_,_,r,a,h,b,u,fun J θ m=>?_⟩;obtain ⟨cap,D,B,C⟩:=z J θ m;rcases n with ⟨N,S⟩ | n
  ·refine xA (fun v=>Aa (DK _ _ N) (eY _ _ _ S)) fun O w t q=>?_;obtain ⟨A,W,y⟩:=gT U m w u C (fun e j=>j) (E3 T (fun e j=>b.mem_iff.2 (by simp[j])) t q) (ghV θ a.gh) DL;exact OpT.sepTo y (pX p H D (by rw[List.nil_append,B]) (i w0 O (ghV θ a.gh) _ a.d r (m.lay.mono w) A F))
  ·have l:G.1= []:=List.isEmpty_iff.1 n;obtain ⟨A,W,y⟩:=gT U m Hp.le.rfl u C (fun e j=>j) (E3 (P:=P) T (fun e j=>b.mem_iff.2 (by simp[j])) (by rw[l];intro α R v x K;cases K) (by rw[l];intro g c E K;cases K)) (ghV θ a.gh) DL;rw[l];exact OpT.sepTo y (pX p H D (by rw[List.nil_append,B]) (i w0 J (ghV θ a.gh) _ a.d r m.lay A F))
 ·obtain ⟨n,h⟩:=ai h;obtain ⟨r,F,h⟩:=bind_some h;rw[aj] at n;refine ⟨[],_,_,r,a,h,(by
   rw[List.nil_append];refine b.trans ?_;exact List.Perm.append_right _ List.perm_append_comm),u,fun J θ m=>?_⟩
  obtain ⟨cap,D,B,C⟩:=z J θ m
  have:=RY (P:=P) (I:=J) (w0:=w0) (o:=o) (ev:=evL (envL θ s)) (ls:=G.1.map (toCh P θ)) (rn:=a.own.map (toCh P θ)) (fact:=fact r) (gv:=fun v=>resGv f.rs (hFst f.rs (outs f.ps) (toH _ r)) v++outCh (ghV θ a.gh) f.ps (vs.map (·.v θ)) (hSnd f.rs (outs f.ps) (toH _ r))) (fun v=>uR (eY _ _ _ n.2) _ _ n.1) fun O w t q=>by
    obtain ⟨A,W,y⟩:=gT U m w u C (fun e j=>j) (E3 T (fun e j=>b.mem_iff.2 (by simp[j])) t q) (ghV θ a.gh) DL;exact OpT.sepTo y (pX p H D (by rw[List.nil_append,B]) (i w0 O (ghV θ a.gh) _ a.d r (m.lay.mono w) A F))
  rw[List.map_nil,List.nil_append,aZ];exact OpT.permN List.perm_append_comm this
section
variable {f:FS} {vs:List AV} {L M R:List Ent} {r:dens (f.rs++outs f.ps)} {a:Args f.ps} (hvs: ∀J θ,Fine P w0 J θ s-> ∀x∈vs,x.ok P w0 J θ s.nxt s.chs)
include hvs
theorem BB (I:eO ft s s.chs f.ps vs=some a) (h:s.chs.Perm (L++M++R))
  (h1: ∀J θ,Fine P w0 J θ s->OpT P J w0 o (evL (envL θ s)) (L.map (toCh P θ)++M.map (toCh P θ)) (resFa f.rs) (fun v=>L.map (toCh P θ)++(resGv f.rs (hFst f.rs (outs f.ps) (toH _ r)) v++outCh (ghV θ a.gh) f.ps (vs.map (·.v θ)) (hSnd f.rs (outs f.ps) (toH _ r))))) :
  Good P w0 s o ⟨L,M,R,sK s.nxt f.rs (hFst f.rs (outs f.ps) (toH _ r))++kl a.gh f.ps vs (hSnd f.rs (outs f.ps) (toH _ r)),IJ s.nxt f.rs (hFst f.rs (outs f.ps) (toH _ r))⟩:=by
 have p: ∀g∈sK s.nxt f.rs (hFst f.rs (outs f.ps) (toH _ r))++kl a.gh f.ps vs (hSnd f.rs (outs f.ps) (toH _ r)),∀d c,SaysH g.2 d c->False:=fun g b=>by
  rcases aG b with b | b
  ·exact fun d c k=>xC (rQ _ _ g b) k
  ·exact fA g b
 refine ⟨h,fun J θ l g b d c H=>(p g b d c H).elim,fun J θ l=>?_⟩;rw[aZ];refine OpT.post (h1 J θ l) fun v w C u t=>?_;have j:St J w0 w (resGv f.rs (hFst f.rs (outs f.ps) (toH _ r)) v++(L.map (toCh P θ)++(outCh (ghV θ a.gh) f.ps (vs.map (·.v θ)) (hSnd f.rs (outs f.ps) (toH _ r))++C))):=by
  refine t.perm ?_;rw[aC,aC];exact List.perm_append_comm_assoc _ _ _
 obtain ⟨F,B,E,D⟩:=Kl (P:=P) (m:=s.nxt) (θ:=upd θ s.nxt v) (n:=s.nxt+1) (chs:=Res.chs ⟨L,M,R,sK s.nxt f.rs (hFst f.rs (outs f.ps) (toH _ r))++kl a.gh f.ps vs (hSnd f.rs (outs f.ps) (toH _ r)),IJ s.nxt f.rs (hFst f.rs (outs f.ps) (toH _ r))⟩ s.nxt) (aB _) (iF (vs:=θ) (i:=s.nxt) (v:=v)) f.rs (hFst f.rs (outs f.ps) (toH _ r)) _ u j;have A:St J w0 w (outCh (ghV θ a.gh) f.ps (vs.map (·.v θ)) (hSnd f.rs (outs f.ps) (toH _ r))++(((sK s.nxt f.rs (hFst f.rs (outs f.ps) (toH _ r))).map fun g=>toCh P (upd θ s.nxt v) (g.1,s.nxt,g.2))++(L.map (toCh P θ)++C))):=D.perm (RX _ _ _ _);obtain ⟨z,x⟩:=mi (P:=P) (θ:=θ) (θ':=upd θ s.nxt v) (m:=s.nxt) l Same.upd (aF _) (hSnd f.rs (outs f.ps) (toH _ r)) I (hvs J θ l) (fun e G=>G) (fun q y=>⟨y,DL q y⟩) A;refine ⟨⟨F,B,fun g b=>?_⟩,?_⟩
 ·rcases aG b with b | b
  ·exact tF (rQ _ _ g b) (by rw[E g b];exact aB _) (aB _)
  ·exact Ko (x g b).1 (Nat.le_succ _) (bc (x g b).2) (aB _)
 ·show St J w0 w (L.map (toCh P θ)++((sK s.nxt f.rs (hFst f.rs (outs f.ps) (toH _ r))++kl a.gh f.ps vs (hSnd f.rs (outs f.ps) (toH _ r))).map _)++C);rw[aZ];exact z.perm (Oe _ _ _ _)
theorem Mc (A:eO ft s s.chs f.ps vs=some a) (b:s.chs.Perm (L++M++R)) (x:Oc f.rs (hFst f.rs (outs f.ps) (toH _ r))=true)
  (h1: ∀J θ,Fine P w0 J θ s->OpT P J w0 o (evL (envL θ s)) (L.map (toCh P θ)++M.map (toCh P θ)) (fun v=>resFa f.rs v/\xx f.rs (hFst f.rs (outs f.ps) (toH _ r)) v) (fun v=>L.map (toCh P θ)++(resGv f.rs (hFst f.rs (outs f.ps) (toH _ r)) v++outCh (ghV θ a.gh) f.ps (vs.map (·.v θ)) (hSnd f.rs (outs f.ps) (toH _ r))))) :
  Good P w0 s o ⟨L,M,R,kl a.gh f.ps vs (hSnd f.rs (outs f.ps) (toH _ r)),.one (.val (.slice none 0 0))⟩:=by
 refine ⟨b,fun J θ h g d j c z=>(fA g d j c z).elim,fun J θ h=>?_⟩;rw[aZ];refine OpT.post (h1 J θ h) fun v w C l i=>?_;have u:St J w0 w (outCh (ghV θ a.gh) f.ps (vs.map (·.v θ)) (hSnd f.rs (outs f.ps) (toH _ r))++(L.map (toCh P θ)++C)):=by
  refine St.left (ds:=resGv f.rs (hFst f.rs (outs f.ps) (toH _ r)) v) (i.perm ?_);exact Of _ _ _ _
 obtain ⟨t,n⟩:=mi (P:=P) (θ:=θ) (θ':=upd θ s.nxt v) (m:=s.nxt) h Same.upd (aF _) (hSnd f.rs (outs f.ps) (toH _ r)) A (hvs J θ h) (fun e y=>y) (fun q p=>⟨p,DL q p⟩) u;refine ⟨⟨Eq.refl true,(Og x l.2).symm,fun g d=>Ko (n g d).1 (Nat.le_succ _) (bc (n g d).2) (aB _)⟩,?_⟩;refine t.perm ?_;rw[aC];exact List.perm_append_comm_assoc _ _ _
end
theorem xD {b:Operand} {g:FuncId} {xs:List Operand} {vs:List AV} (h:Kr P w0 s b g xs vs): ∀J θ,Fine P w0 J θ s-> ∀x∈vs,x.ok P w0 J θ s.nxt s.chs:=fun J θ a=>by
 obtain ⟨cap,-,-,h⟩:=h J θ a;exact h
theorem Oh (j:FTok P ft) {g:FuncId} {xs:Array Operand} {ts:Array TypeId} (l:o.op= .call { callee:=.value (.func g),args:=xs,argTypes:=ts }) (h:UJ ft s k g xs.toList=some res):Oks P w0 s o k res:=by
 obtain ⟨f,d,h⟩:=bind_some h;obtain ⟨b,h⟩:=ai h;obtain ⟨p,e,h⟩:=bind_some h;have b:f.ov=false:=by simpa using b
 have c:=j.get d;have i:=Ks (P:=P) (w0:=w0) (g:=g) e;obtain ⟨L,M,R,r,a,h,hp,n,m⟩:=BA (w0:=w0) j (c.en b) (fact:=fun _=>resFa f.rs) (c.con b) i l h;exact ⟨_,h,BB (xD i) n hp m⟩
theorem Oi (l:FTok P ft) {t n:Nat} {c:FuncId×Hdr} (g:Kq ft s t n=some c) {xs:Array Operand} {ts:Array TypeId} (m:o.op= .call { callee:=.value (.tmp t),args:=xs,argTypes:=ts }) (h:UL ft s k c xs.toList=some res):Oks P w0 s o k res:=by
 obtain ⟨f,e,h⟩:=bind_some h;obtain ⟨b,h⟩:=ai h;obtain ⟨u,i,h⟩:=bind_some h;have b:f.ov=false:=by simpa using b
 have d:=l.get e;have j:=RZ (P:=P) (w0:=w0) g i;obtain ⟨L,M,R,r,a,h,hp,q,p⟩:=BA (w0:=w0) l (d.en b) (fact:=fun _=>resFa f.rs) (d.con b) j m h;exact ⟨_,h,BB (xD j) q hp p⟩
theorem Oj (l:FTok P ft) {g:FuncId} {xs:Array Operand} {ts:Array TypeId} (e: ∀f,fs ft g=some f->NilOk P g f) (p:o.op= .call { callee:=.value (.func g),args:=xs,argTypes:=ts }) (h:UK ft s k g xs.toList=some res):Oks P w0 s o k res:=by
 obtain ⟨f,c,h⟩:=bind_some h;obtain ⟨b,h⟩:=ai h;obtain ⟨t,j,h⟩:=bind_some h;have b:f.ov=false:=by simpa using b
 have d:=l.get c;have i:=Ks (P:=P) (w0:=w0) (g:=g) j;obtain ⟨L,M,R,r,a,h,hp,n,m⟩:=BA (w0:=w0) l (d.en b) (fact:=fun r v=>resFa f.rs v/\xx f.rs (hFst f.rs (outs f.ps) (toH _ r)) v) (e f c) i p h;split at h
 ·exact ⟨_,h,Mc (xD i) n hp ‹_› m⟩
 ·exact ⟨_,h,BB (xD i) n hp fun J θ q=>OpT.weak (m J θ q) (fun v hv=>hv.1) fun v _=>rfl⟩
theorem Kt {J J':Hp} {θ:Th} (d:Fine P w0 J θ s) (e:J.le J'): ∀ {ts:List Ty} {xs:List Operand} {r:kN ts×List Hdr},WN s ts xs=some r->Lent J' θ s.chs r.2->NC J' ts (xs.map (evL (envL θ s))) r.1
 | [],[],r,h,_=>by obtain rfl:=ae (show some _=some r from h);exact Eq.refl _
 | t::ts,x::xs,r,h,hl=>by
  obtain ⟨v,b,h⟩:=bind_some (show (opd s x).bind _=some r from h);obtain ⟨a,f,h⟩:=bind_some h;obtain ⟨q,i,h⟩:=bind_some h;obtain rfl:=ae h;obtain ⟨g,c,j⟩:=GR f (AV.ok_same Same.rfl (aF _) Newer.rfl (cf d b) e) hl.l;rw[<-aH (θ:=θ) b] at c;exact ⟨_,g,_,rfl,c,j,Kt d e i hl.r⟩
 | [],_::_,r,h,_=>by cases h
 | _::_,[],r,h,_=>by cases h
theorem Ok (hF:FTok P ft) {t:Nat} {xs:Array Operand} {ts:Array TypeId} (Q:o.op= .call { callee:=.value (.tmp t),args:=xs,argTypes:=ts }) (h:Od ft s k t xs.toList=some res):Oks P w0 s o k res:=by
 obtain ⟨y,a,h⟩:=bind_some h;obtain ⟨b,X,h⟩:=bind_some h;obtain ⟨q,hq,h⟩:=bind_some h;obtain ⟨d,R,h⟩:=bind_some h;obtain ⟨f,H,h⟩:=bind_some h;obtain ⟨E,h⟩:=ai h;obtain ⟨r,hr,h⟩:=bind_some h;have a:look s.env t=some (.one y):=by
  unfold Od.oneOf0 at a;split at a
  ·rename_i x hx;rw[hx,ae a]
  ·cases a
 obtain ⟨N,e2⟩:=yZ H;refine ⟨_,h,by simpa using N,fun J θ l g z V c hs=>(xC (rQ _ _ g z) hs).elim,fun J θ l=>?_⟩;have D:y.ok P w0 J θ s.nxt:=cf (x:=.tmp t) l a;have O:OpT P J w0 o (evL (envL θ s)) (f.1.map (toCh P θ)++ []) (resFa b.2) (fun v=>f.1.map (toCh P θ)++resGv b.2 (toH _ r) v):=by
  refine xA (fun v=>DK _ _ E) fun M K G A=>?_;have L:=E3 (s:=s) e2 (fun e he=>N.mem_iff.2 (by simp[he])) G A;obtain ⟨S,first,j,Z,T,h5⟩:=IL hF l.lay l.chs hq D M K L.l;have p:=h5 M Hp.le.rfl _ d.1 (Kt l K R L.r) r hr;have F:evL (envL θ s) (.tmp t)= .func (.func S) first j:=(aH (x:=.tmp t) a).trans Z
  exact pX T Q F (by simp) p
 rw[List.append_nil] at O;show OpT P J w0 o _ ((f.1++ []).map (toCh P θ)) _ _;rw[List.append_nil];refine OpT.post O fun v w C I B=>?_;have u:St J w0 w (resGv b.2 (toH _ r) v++(f.1.map (toCh P θ)++C)):=by
  refine B.perm ?_;rw[aC];exact List.perm_append_comm_assoc _ _ _
 obtain ⟨q1,U,q3,W⟩:=Kl (P:=P) (m:=s.nxt) (θ:=upd θ s.nxt v) (n:=s.nxt+1) (chs:=Res.chs ⟨f.1,[],f.2,sK s.nxt b.2 (toH _ r),IJ s.nxt b.2 (toH _ r)⟩ s.nxt) (aB _) (iF (vs:=θ) (i:=s.nxt) (v:=v)) b.2 (toH _ r) _ I u;refine ⟨⟨q1,U,fun g z=>tF (rQ _ _ g z) (by rw[q3 g z];exact aB _) (aB _)⟩,?_⟩;show St J w0 w (f.1.map (toCh P θ)++((sK s.nxt b.2 (toH _ r)).map _)++C);refine W.perm ?_;rw[aC];exact List.perm_append_comm_assoc _ _ _
end
section
variable {Y:Type} (tt:TT) (s:Sg) (k:Res->Option Y)
def R0:AV->Option (Bool×List LV)
 | .one x=>some (false,[x])
 | .agg xs=>some (true,xs)
 | _=>none
def E5 (s:Sg):List Operand->Option (List (Bool×List LV))
 | [] =>some []
 | x::xs=>(opd s x).bind fun v=>(R0 v).bind fun y=>(E5 s xs).bind fun ys=>some (y::ys)
def Ku (s:Sg):List Operand->Option (List LV)
 | [] =>some []
 | x::xs=>match opd s x with
  | some (.one y)=>(Ku s xs).bind fun ys=>some (y::ys)
  | _=>none
def UM (fn:Fn) (first captured:Array Operand):Option Y:=match fn with
 | .func g=>(E5 s first.toList).bind fun ys=>(Ku s captured.toList).bind fun xs=>k ⟨[],[],s.chs,[(⟨s.nxt,[]⟩,.clo g ys xs)],.one (.own ⟨s.nxt,[]⟩)⟩
 | _=>none
def Kv (T:TypeId) (x:Operand):Option Y:=(td tt T).bind fun d=>match opd s x with
 | some (.one (.fz h T' t a off))=>(yW d.agg t off d.n).bind fun p=>cg (p.ty.isProd==d.agg) (k (.pure s (NH s.nxt p.ty (p.get a))))
 | some (.one (.fzf h T' ps rs e))=>cg (Nat.beq d.n 1 && !d.agg) (k (.pure s (.one (.fn ⟨s.nxt,[]⟩ ps rs e))))
 | _=>none
def IP (T:TypeId) (x:Operand) (f:Nat):Option Y:=(td tt T).bind fun d=>(d.fields[f]?).bind fun q=>match opd s x with
 | some (.one (.fz h T' t a off))=>k (.pure s (.one (.fz h T' t a (off+q.1))))
 | _=>none
end
section
variable {Y:Type} {tt:TT} {s:Sg} {k:Res->Option Y} {P:Program} {w0:World} {o:Oper} {res:Y} {x:Operand}
theorem DM {J:Hp} {θ:Th} (f:Fine P w0 J θ s): ∀ {l:List Operand} {ys:List (Bool×List LV)},E5 s l=some ys->l.map (evL (envL θ s))=ys.map (l9 θ)/\ ∀y∈ys,∀x∈y.2,x.ok P w0 J θ s.nxt
 | [],ys,h=>by obtain rfl:=ae (show some _=some ys from h);exact ⟨rfl,fun y c=>by cases c⟩
 | x::l,ys,h=>by
  obtain ⟨v,a,h⟩:=bind_some (show (opd s x).bind _=some ys from h);obtain ⟨y,c,h⟩:=bind_some h;obtain ⟨m,d,h⟩:=bind_some h;obtain rfl:=ae h;obtain ⟨i,g⟩:=DM f d;have b:=cf f a;have e:=aH (θ:=θ) a;have key:v.v θ=l9 θ y/\ ∀x∈y.2,x.ok P w0 J θ s.nxt:=by
   cases v with
   | one z=>obtain rfl:=ae (show some _=some y from c);exact ⟨rfl,fun x j=>by obtain rfl:=ak j;exact b⟩
   | agg m=>obtain rfl:=ae (show some _=some y from c);exact ⟨rfl,b⟩
   | _=>cases c
  refine ⟨by rw[List.map_cons,List.map_cons,i,e,key.1],fun z d=>?_⟩;rcases aE d with rfl | d
  ·exact key.2
  ·exact g z d
theorem GY {J:Hp} {θ:Th} (d:Fine P w0 J θ s): ∀ {l:List Operand} {ys:List LV},Ku s l=some ys->l.map (evL (envL θ s))=ys.map (·.v θ)/\ ∀x∈ys,x.ok P w0 J θ s.nxt
 | [],ys,h=>by obtain rfl:=ae (show some _=some ys from h);exact ⟨rfl,fun y b=>by cases b⟩
 | x::l,ys,h=>by
  unfold Ku at h;split at h
  ·rename_i y b;obtain ⟨g,a,h⟩:=bind_some h;obtain rfl:=ae h;obtain ⟨e,f⟩:=GY d a;have c:=cf d b;refine ⟨by rw[List.map_cons,List.map_cons,e,aH (θ:=θ) b];rfl,fun z a=>?_⟩;rcases aE a with rfl | a
   ·exact c
   ·exact f z a
  ·cases h
theorem Ol {fn:Fn} {first captured:Array Operand} (n:o.op= .makeFunc fn first captured) (h:UM s k fn first captured=some res):Oks P w0 s o k res:=by
 cases fn with
 | func g =>
  obtain ⟨u,i,h⟩:=bind_some (show (E5 s first.toList).bind _=some res from h);obtain ⟨t,b,h⟩:=bind_some h;refine ⟨_,h,List.Perm.refl _,aX rfl,fun J θ m=>?_⟩;obtain ⟨q,l⟩:=DM m i;obtain ⟨p,j⟩:=GY m b;refine OpT.post (Ew n rfl) fun v w C a e=>?_;rw[q,p] at a;have d:hv (upd θ s.nxt v) ⟨s.nxt,[]⟩=v:=iF;refine ⟨⟨⟨aB _,by rw[d,a];rfl⟩,d,fun g r=>?_⟩,?_⟩
  ·obtain rfl:=ak r;refine ⟨aB _,aB _,fun y c x f=>LV.ok_same Same.upd (Nat.le_succ _) (l y c x f) Hp.le.rfl,fun x f=>LV.ok_same Same.upd (Nat.le_succ _) (j x f) Hp.le.rfl,?_⟩;rw[d,jc Same.upd j,List.map_congr_left fun y c=>yV Same.upd (l y c)];exact a
  ·exact St.emp.2 e
 | _=>cases h
theorem GZ (K:TTok P tt) {T:TypeId} (E:o.op= .load T x) (h:Kv tt s k T x=some res):Oks P w0 s o k res:=by
 unfold Kv at h;obtain ⟨d,H,h⟩:=bind_some h;have f:=K.get H;split at h
 ·rename_i q M t a off m;obtain ⟨p,hp,h⟩:=bind_some h;obtain ⟨i,h⟩:=ai h;have i:p.ty.isProd=d.agg:=by simpa using i
  have hp:=AW _ _ _ _ hp;refine ⟨_,h,List.Perm.refl _,aX rfl,fun J θ D=>?_⟩;obtain ⟨L,cells,r,B⟩:=cf D m;obtain ⟨c,I,G⟩:=hp.fld J cells a B;have F:c.length=d.n:=(p.ty.rep.rd_len G).trans (p.ty.rep_size.trans hp.size);have C:(cells.drop off).take d.n=c:=by rw[<-hp.size,<-p.ty.rep_size];exact I
  refine OpT.weak (zW r f.ti E (aH (θ:=θ) m) f.one C F rfl) (fun v b=>?_) (fun v b=>rfl);have j:Lds p.ty.isProd c v:=by
   rw[i];cases A:d.agg with
   | true=>rw[A] at b;exact b
   | false =>
    rw[A] at b;have y:d.n=1:=by
     have:=f.one
     rw[A] at this;simpa using this
    obtain ⟨u,rfl⟩:=List.length_eq_one_iff.1 (F.trans y);rw[show v=u from b];rfl
  have:=qZ (P:=P) (w0:=w0) (J:=J) (θ:=upd θ s.nxt v) (id:=s.nxt) (n:=s.nxt+1) (chs:=(Res.pure s (NH s.nxt p.ty (p.get a))).chs s.nxt) (aB _) iF p.ty (p.get a) c G j
  exact ⟨this.1,this.2,fun g i=>by cases i⟩
 ·rename_i q M N O e m;obtain ⟨z,h⟩:=ai h;rw[aj] at z;have l:=au z.1;have w:d.agg=false:=by simpa using z.2
  refine ⟨_,h,List.Perm.refl _,aX rfl,fun J θ D=>?_⟩;obtain ⟨L,u,r,B⟩:=cf D m;refine OpT.weak (zW (d:=[u]) (u:=u) r f.ti E (aH (θ:=θ) m) f.one (by rw[l];rfl) (by rw[l];rfl) (by rw[w];rfl)) (fun v b=>?_) (fun v b=>rfl);subst b;have q:hv (upd θ s.nxt v) ⟨s.nxt,[]⟩=v:=iF;exact ⟨⟨aB _,by rw[q];exact B⟩,q,fun g i=>by cases i⟩
 ·cases h
theorem Md (e:TTok P tt) {T:TypeId} {f:Nat} (j:o.op= .fieldAddr T x f) (h:IP tt s k T x f=some res):Oks P w0 s o k res:=by
 unfold IP at h;obtain ⟨d,i,h⟩:=bind_some h;obtain ⟨q,l,h⟩:=bind_some h;have g:=(e.get i).fld f q l;split at h
 ·rename_i m n t a off b;exact ⟨_,h,fQ (fun J θ c=>nr g j (aH (θ:=θ) b)) fun J θ c=>(by have:=cf c b;exact this)⟩
 ·cases h
end
end R
end Go.Proofs.YtodbpnpbhpeepaaGreatDoor
