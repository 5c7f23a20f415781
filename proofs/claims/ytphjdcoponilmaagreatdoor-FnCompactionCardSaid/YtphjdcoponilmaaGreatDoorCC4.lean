/- FnCompaction: for every input the law returns true and changes nothing that was there. Part 5 of 9. -/
import Derived.Test.YtphjdcoponilmaaGreatDoorCC3
set_option synthInstance.maxSize 20000
set_option synthInstance.maxHeartbeats 2000000
set_option linter.unusedVariables false
set_option linter.unusedSimpArgs false
set_option linter.unnecessarySimpa false
set_option linter.unusedSectionVars false
set_option maxRecDepth 1000000
namespace Go.Proofs.YtphjdcoponilmaaGreatDoor
open Go.IntKind (i64)
namespace R
open Go.RowKit
open D
def yh (t:Nat):List Nat->Bool
 | [] =>false
 | u::l=>Nat.beq u t || yh t l
theorem qc {t:Nat} : ∀ {l:List Nat},yh t l=true↔t∈l
 | [] =>by simp[yh]
 | u::l=>by
  unfold yh;rw[Bool.or_eq_true,qc (l:=l),List.mem_cons];grind[ax,Nat.beq_refl]
theorem KH {t:Nat} {l:List Nat} :yh t l=false↔t∉l:=by
 grind[qc]
def CW:List Nat->Bool
 | [] =>true
 | u::l=> !yh u l&&CW l
theorem uK: ∀ {l:List Nat},CW l=true->l.Nodup
 | [],_=>List.nodup_nil
 | u::l,h=>by
  unfold CW at h;rw[aj,Bool.not_eq_true',KH] at h;exact List.nodup_cons.2 ⟨h.1,uK h.2⟩
structure OpK where
 reads:List Nat
 needs:List Nat
 gives:List Nat
 src:List (Nat×Option Nat)
structure Skel where
 ops:List OpK
 nres:Nat
 base:List Nat
 pre:List (List Nat)
 fin:List (Nat×Option Nat)
 left:List Nat
structure Sm where
 fact:Nat->(Nat->Value)->Prop
 chunk:Nat->(Nat->Value)->Ch
namespace Skel
def op (p:Skel) (i:Nat):OpK:=p.ops.getD i ⟨[],[],[],[]⟩
def before (p:Skel) (i:Nat):List Nat:=p.pre.getD i []
def srcOf (t:Nat):List (Nat×Option Nat)->Option (Option Nat)
 | [] =>none
 | (u,x)::l=>if Nat.beq u t then some x else srcOf t l
def ev (p:Skel) (L:List (Nat×Value)) (i:Nat) (vs:Nat->Value):Operand->Value
 | .tmp t=>match srcOf t (p.op i).src with
  | some (some j)=>vs j
  | _=>(L.lookup t).getD undef
 | x=>evL L x
end Skel
structure Loc (p:Skel) (q:Sm) (m:Nat):Prop where
 fact: ∀i,i<m-> ∀vs vs',(∀j,j=i\/j∈p.before i->vs' j=vs j)->q.fact i vs->q.fact i vs'
 chB: ∀x,x∈p.base-> ∀vs vs',q.chunk x vs'=q.chunk x vs
 chG: ∀i,i<m-> ∀x,x∈(p.op i).gives-> ∀vs vs',(∀j,j=i\/j∈p.before i->vs' j=vs j)->q.chunk x vs'=q.chunk x vs
def Skel.goal (p:Skel) (q:Sm) (P:Program) (I:Hp) (w0:World) (L:List (Nat×Value)) (i:Nat) (o:Oper):Prop:=
 ∀vs,(∀j,j∈p.before i->q.fact j vs)->
  match NG o vs with
  | some true=>OpT P I w0 o (p.ev L i vs) (((p.op i).reads++(p.op i).needs).map (q.chunk · vs)) (fun v=>q.fact i (upd vs i v)) (fun v=>((p.op i).reads++(p.op i).gives).map (q.chunk · (upd vs i v)))
  | some false=>q.fact i (upd vs i undef)/\(p.op i).needs= [] /\(p.op i).gives= []
  | none=>False
def isDst (ops:List Oper) (j t:Nat):Bool:=match ops[j]? with
 | some o=>match o.dst with
  | some u=>Nat.beq u t
  | none=>false
 | none=>false
theorem yD {ops:List Oper} {j t:Nat} :isDst ops j t=true↔(ops.toArray[j]?).bind (·.dst)=some t:=by
 unfold isDst;rw[List.getElem?_toArray];cases ops[j]? with
 | none=>simp
 | some o =>
  simp[aa];cases o.dst with
  | none=>simp
  | some u=>simp
def Xd (l:List Nat) (f:Nat->Bool):Bool:=match l with
 | [] =>false
 | x::l=>f x || Xd l f
def En (l:List Nat) (f:Nat->Bool):Bool:=match l with
 | [] =>true
 | x::l=>f x&&En l f
theorem KI {f:Nat->Bool} : ∀ {l:List Nat},Xd l f=true↔ ∃x,x∈l/\f x=true
 | [] =>by simp[Xd]
 | x::l=>by unfold Xd;rw[Bool.or_eq_true,KI (l:=l)];simp
theorem uL {f:Nat->Bool} : ∀ {l:List Nat},En l f=true↔ ∀x,x∈l->f x=true
 | [] =>by simp[En]
 | x::l=>by unfold En;rw[aj,uL (l:=l)];simp
def adr (l:List Oper) (k:Nat) (f:Nat->Oper->Bool):Bool:=match l with
 | [] =>true
 | o::l=>f k o&&adr l (k+1) f
theorem Rb {f:Nat->Oper->Bool} : ∀ {l:List Oper} {k:Nat},adr l k f=true-> ∀i o,l[i]? =some o->f (k+i) o=true
 | [],_,_,i,o,h=>by grind
 | x::l,k,h,i,o,hi=>by
  unfold adr at h;rw[aj] at h;cases i with
  | zero=>grind
  | succ i =>
   have:=Rb h.2 i o (by grind)
   grind
def Skel.okOp (p:Skel) (n:Nat) (kn:Nat->Bool) (ops:List Oper) (all:List Nat) (i:Nat) (o:Oper) (b:List Nat) (r:OpK):Bool:=
 noSelect o&&(dstOk n o.dst&&(En (edgesOf o) (fun j=>Nat.blt j i) &&
 (En b (fun j=>Nat.blt j i&&(yh j (edgesOf o) || Xd (edgesOf o) fun k=>yh j (p.before k))) &&
 (En (slotsOf ops.toArray o) (fun t=>match srcOf t r.src with
  | none=>false
  | some none=>kn t&&En all fun j=> !isDst ops j t || (Nat.beq j i || yh i (p.before j))
  | some (some j)=>isDst ops j t&&(yh j b&&En all fun k=> !isDst ops k t || (Nat.beq k j || (Nat.beq k i || (yh k (p.before j) || yh i (p.before k)))))) &&
 ((match o.guard with
  | none=>true
  | some (g,_)=>match ops[g]? with
   | none=>false
   | some og=>match og.dst with
    | none=>false
    | some t=>match srcOf t r.src with
     | some (some j)=>Nat.beq j g
     | _=>false) &&
 (En (r.reads++r.needs) (fun x=>Nat.blt x p.nres&&(yh x p.base || Xd b fun j=>yh x (p.op j).gives)) &&
 (En r.reads (fun x=>En all fun k=>Nat.beq k i || (!yh x (p.op k).needs || yh i (p.before k))) &&
 (En r.needs (fun x=>En all fun k=>Nat.beq k i || !yh x (p.op k).needs) &&
 (En r.gives (fun x=>Nat.blt x p.nres&&(!yh x p.base&&(!yh x (r.reads++r.needs)&&En all (fun k=>Nat.beq k i || !yh x (p.op k).gives)))) &&
 (CW (r.reads++r.needs)&&CW (r.reads++r.gives)))))))))))
def Skel.ok (p:Skel) (n:Nat) (kn:Nat->Bool) (ops:List Oper):Bool:=
 adr ops 0 fun i o=>p.okOp n kn ops (List.range ops.length) i o (p.before i) (p.op i)
def Skel.okB (p:Skel) (kn:Nat->Bool) (ops:List Oper):Bool:=
 let all:=List.range ops.length
 CW p.base&&(CW p.left&&(En p.left (fun x=>(yh x p.base || Xd all fun j=>yh x (p.op j).gives)&&En all fun j=> !yh x (p.op j).needs) &&
 (En (p.base++all.flatMap fun j=>(p.op j).gives) (fun x=>yh x p.left || Xd all fun j=>yh x (p.op j).needs) &&
 p.fin.all fun (t,s)=>match s with
  | none=>kn t&&En all fun j=> !isDst ops j t
  | some j=>Nat.blt j ops.length&&(isDst ops j t&&En all fun k=> !isDst ops k t || (Nat.beq k j || yh k (p.before j))))))
def Skel.out (p:Skel) (L:List (Nat×Value)) (vs:Nat->Value):List (Nat×Value):=
 p.fin.map fun (t,s)=>(t,match s with | some j=>vs j | none=>(L.lookup t).getD undef)
structure Inv (p:Skel) (q:Sm) (C:List Ch) (I:Hp) (w0:World) (n:Nat) (L:List (Nat×Value)) (ops:Array Oper) (S:Nat->Bool) (vs:Nat->Value) (a:Act) (w:World):Prop where
 closed: ∀i,S i=true-> ∀j,j∈p.before i->S j=true
 lt: ∀i,S i=true->i<ops.size
 defers:a.defers= []
 size:a.tmps.size=n
 old: ∀t v,L.lookup t=some v->(∀j,S j=true->(ops[j]?).bind (·.dst)≠some t)->a.tmps.getD t undef=v
 new: ∀j t,S j=true->(ops[j]?).bind (·.dst)=some t->(∀k,S k=true->(ops[k]?).bind (·.dst)=some t->k=j\/k∈p.before j)->a.tmps.getD t undef=vs j
 facts: ∀i,S i=true->q.fact i vs
 st: ∃l:List Nat,l.Nodup/\(∀x,x∈l↔(x∈p.base\/ ∃j,S j=true/\x∈(p.op j).gives)/\ ¬ ∃j,S j=true/\x∈(p.op j).needs)/\St I w0 w (l.map (q.chunk · vs)++C)
structure Skel.Good (p:Skel) (n:Nat) (L:List (Nat×Value)) (ops:Array Oper) (i:Nat) (o:Oper):Prop where
 sel:noSelect o=true
 dst:dstOk n o.dst=true
 edges: ∀j,j∈edgesOf o->j<i
 bef: ∀j,j∈p.before i->j<i/\(j∈edgesOf o\/ ∃k,k∈edgesOf o/\j∈p.before k)
 slots: ∀t,t∈slotsOf ops o->(Skel.srcOf t (p.op i).src=some none/\(L.lookup t).isSome=true/\ ∀j,j<ops.size->(ops[j]?).bind (·.dst)=some t->j=i\/i∈p.before j) \/
  ∃j,Skel.srcOf t (p.op i).src=some (some j)/\(ops[j]?).bind (·.dst)=some t/\j∈p.before i/\ ∀k,k<ops.size->(ops[k]?).bind (·.dst)=some t->k=j\/k=i\/k∈p.before j\/i∈p.before k
 guard: ∀g want,o.guard=some (g,want)-> ∃t,(ops[g]?).bind (·.dst)=some t/\Skel.srcOf t (p.op i).src=some (some g)
 have_: ∀x,x∈(p.op i).reads++(p.op i).needs->x<p.nres/\(x∈p.base\/ ∃j,j∈p.before i/\x∈(p.op j).gives)
 keep: ∀x,x∈(p.op i).reads-> ∀k,k<ops.size->x∈(p.op k).needs->k=i\/i∈p.before k
 once: ∀x,x∈(p.op i).needs-> ∀k,k<ops.size->x∈(p.op k).needs->k=i
 give: ∀x,x∈(p.op i).gives->x<p.nres/\x∉p.base/\x∉(p.op i).reads++(p.op i).needs/\ ∀k,k<ops.size->x∈(p.op k).gives->k=i
 nd1:((p.op i).reads++(p.op i).needs).Nodup
 nd2:((p.op i).reads++(p.op i).gives).Nodup
theorem aaX {a b:Nat} :Nat.beq a b=true↔a=b:=⟨ax,fun h=>by simp_all⟩
theorem aaY {a b:Nat} :Nat.blt a b=true↔a<b:=by rw[Nat.blt_eq]
theorem Skel.good_of_ok {p:Skel} {n:Nat} {m:Nat->Bool} {L:List (Nat×Value)} {ops:List Oper} (B: ∀t,m t=true->(L.lookup t).isSome=true) (h:p.ok n m ops=true) {i:Nat} {o:Oper} (hi:ops[i]? =some o):p.Good n L ops.toArray i o:=by
 have h:=Rb h i o hi;rw[Nat.zero_add] at h;unfold Skel.okOp at h;simp only[aj,uL,KI,qc,aaY,aaX,Bool.or_eq_true,Bool.not_eq_true',KH] at h;have ⟨z,r,f,G,w,a,y,E,C,s,l,c⟩:=h;refine ⟨z,r,f,fun j q=>?_,fun t e=>?_,fun g want v=>?_,fun x b=>y x b,fun x b k A u=>?_,fun x b k A u=>?_,fun x b=>?_,uK l,uK c⟩
 ·grind
 ·have:=w t e
  split at this
  ·grind
  ·simp[aj,uL,Bool.or_eq_true,Bool.not_eq_true',aaX,qc] at this;grind[yD]
  ·rename_i j D;simp[aj,uL,Bool.or_eq_true,Bool.not_eq_true',aaX,qc] at this;grind[yD]
 ·rw[v] at a;simp only at a;split at a
  ·cases a
  ·rename_i F d;split at a
   ·cases a
   ·rename_i t e;split at a
    ·rename_i j q;refine ⟨t,by rw[List.getElem?_toArray,d];exact e,?_⟩;rw[<-ax a];exact q
    ·cases a
 ·grind
 ·grind
 grind
section
variable {p:Skel} {q:Sm} {kn:Nat->Bool} {C:List Ch} {P:Program} {I:Hp} {w0:World} {n:Nat} {L:List (Nat×Value)} {ops:List Oper} {S:Nat->Bool} {vs:Nat->Value} {a:Act} {w:World} {i:Nat} {o:Oper}
theorem Inv.step (hkn: ∀t,kn t=true->(L.lookup t).isSome=true) (hl:Loc p q ops.length) (hok:p.ok n kn ops=true) (hg:p.goal q P I w0 L i o) (hi:ops[i]? =some o) (h:Inv p q C I w0 n L ops.toArray S vs a w) (hn:S i=false) (A: ∀j,j∈p.before i->S j=true) {K:Act->World->Prop} {Q:Exit->Act->World->Prop}
  (hK: ∀vs a w,Inv p q C I w0 n L ops.toArray (fun j=>S j || j==i) vs a w->K a w):wpOp P ops.toArray Q i K a w:=by
 have G:=Skel.good_of_ok hkn hok hi;have him:i<ops.toArray.size:=by have:=(List.getElem?_eq_some_iff.1 hi).1;simpa using this
 have hcl: ∀j,S j=true->i∉p.before j:=fun j c hb=>by rw[h.closed j c i hb] at hn;cases hn
 have slot: ∀t,t∈slotsOf ops.toArray o->a.tmps.getD t undef=p.ev L i vs (.tmp t):=by
  intro t X;rcases G.slots t X with ⟨z,s,e3⟩ | ⟨j,z,s,e3,e4⟩
  ·have ⟨v,hv⟩:=Option.isSome_iff_exists.1 s;simp only[Skel.ev,z,hv,Option.getD_some];refine h.old t v hv fun j c F=>?_;grind
  ·simp only[Skel.ev,z];refine h.new j t (A j e3) s fun k m F=>?_;grind
 have hev: ∀x,x∈o.op.operands->a.eval x=p.ev L i vs x:=by
  intro x f;cases x with
  | tmp t =>
   refine slot t ?_;refine bj _ (List.mem_filterMap.2 ⟨.tmp t,by grind,rfl⟩)
  | _=>rfl
 have H:=fun j c=>h.facts j (A j c);have goal:=hg vs H;have main: ∀v w',q.fact i (upd vs i v)->(∃l:List Nat,l.Nodup/\(∀x,x∈l↔(x∈p.base\/ ∃j,(S j || j==i)=true/\x∈(p.op j).gives)/\ ¬ ∃j,(S j || j==i)=true/\x∈(p.op j).needs)/\St I w0 w' (l.map (q.chunk · (upd vs i v))++C))->K (a.put o.dst v) w':=by
  intro v w' hf hst;refine hK (upd vs i v) _ _ ⟨?_,?_,?_,?_,?_,?_,?_,hst⟩
  ·intro j c k m;simp[Bool.or_eq_true,beq_iff_eq] at c⊢;rcases c with c | rfl
   ·exact .inl (h.closed j c k m)
   grind
  ·intro j c;simp[Bool.or_eq_true,beq_iff_eq] at c;rcases c with c | rfl
   ·exact h.lt j c
   omega
  ·cases F:o.dst <;> simp[Act.put,h.defers]
  ·cases F:o.dst <;> simp[Act.put,h.size]
  ·intro t u hu c;have hne:o.dst≠some t:=by
    grind
   have h0:=h.old t u hu fun j hS=>c j (by grind);cases F:o.dst with
   | none=>exact h0
   | some d =>
    show (a.tmps.setIfInBounds d v).getD t undef=u;simp_all
  ·intro j t c F m;simp[Bool.or_eq_true,beq_iff_eq] at c;by_cases N:o.dst=some t
   ·have B:j=i:=by
     rcases c with c | rfl
     ·grind
     ·rfl
    subst B;have R:=G.dst;rw[N] at R;have R:t<n:=by simpa [dstOk] using R
    rw[N,kU];exact D.yi (by rw[h.size];omega)
   ·have B:j≠i:=by
     rintro rfl;rw[show (ops.toArray[j]?)=some o from by grind] at F;exact N F
    have E:S j=true:=by rcases c with c | e;exact c;exact absurd e B
    rw[LJ B];have h0:=h.new j t E F fun k hk'=>m k (by grind);cases F:o.dst with
    | none=>exact h0
    | some d =>
     show (a.tmps.setIfInBounds d v).getD t undef=_;simp_all
  ·intro j c;simp[Bool.or_eq_true,beq_iff_eq] at c;by_cases e:j=i
   ·grind
   ·have E:S j=true:=by rcases c with c | J;exact c;exact absurd J e
    refine hl.fact j (by simpa using h.lt j E) vs _ (fun k m=>LJ fun J=>?_) (h.facts j E);grind
 have ⟨l,l1,U,l3⟩:=h.st;have O: ∀v x,x∈l->q.chunk x (upd vs i v)=q.chunk x vs:=by
  intro v x f;rcases ((U x).1 f).1 with hb | ⟨j,c,hxj⟩
  ·exact hl.chB x hb vs _
  ·refine hl.chG j (by simpa using h.lt j c) x hxj vs _ fun k m=>LJ fun J=>?_;grind
 unfold wpOp;rw[show (ops.toArray[i]?)=some o from by grind];simp only;have hwant:Region.wanted o (yielded ops.toArray a.tmps)=true↔NG o vs=some true:=by
  unfold Region.wanted NG;cases hgd:o.guard with
  | none=>simp
  | some q =>
   have ⟨g,want⟩:=q;have ⟨t,z,s⟩:=G.guard g want hgd;have X:t∈slotsOf ops.toArray o:=by
    unfold slotsOf Oper.looksAt;rw[hgd];simp only;rw[z];simp
   have hv:=slot t X;simp only[Skel.ev,s] at hv;have Y:yielded ops.toArray a.tmps g=match vs g with | .bool b=>some b | _=>none:=by
    unfold yielded;rw[z];simp[aa];rw[Array.getD_eq_getD_getElem?] at hv;cases X:a.tmps[t]? with
    | none =>
     rw[X] at hv;rw[<-hv];rfl
    | some u =>
     grind
   grind
 cases hw:NG o vs with
 | none=>grind
 | some b =>
  cases b with
  | false =>
   rw[hw] at goal;rw[if_neg (by grind)];refine main undef w goal.1 ⟨l,l1,fun x=>?_,?_⟩
   ·grind
   grind[List.map_congr_left,undef]
  | true =>
   rw[hw] at goal;rw[if_pos (by grind)];refine .inl ?_;have hin: ∀x,x∈(p.op i).reads++(p.op i).needs->x∈l:=by
    intro x f;rw[U];refine ⟨(G.have_ x f).2.imp id fun ⟨j,c,e⟩=>⟨j,A j c,e⟩,fun ⟨k,m,e⟩=>?_⟩;rcases aI f with f | f
    ·rcases G.keep x f k (h.lt k m) e with rfl | J
     ·grind
     grind
    ·have:=G.once x f k (h.lt k m) e
     grind
   let r:=l.filter fun x=> !((p.op i).reads++(p.op i).needs).contains x;have V: ∀x,x∈r↔x∈l/\x∉(p.op i).reads++(p.op i).needs:=by
    simp[r,List.mem_filter]
   have hrn:r.Nodup:=l1.filter _;have M:l.Perm (((p.op i).reads++(p.op i).needs)++r):=by
    refine (List.perm_ext_iff_of_nodup l1 (List.nodup_append.2 ⟨G.nd1,hrn,fun x f y Y e=>?_⟩)).2 fun x=>?_
    ·subst e;exact ((V x).1 Y).2 f
    ·rw[List.mem_append,V];constructor
     ·intro f;by_cases e:x∈(p.op i).reads++(p.op i).needs
      ·exact .inl e
      ·exact .inr ⟨f,e⟩
     ·rintro (e | e)
      ·exact hin x e
      ·exact e.1
   have hs:=l3.perm ((M.map (q.chunk · vs)).append_right C);rw[aX,aH] at hs;have T:=sZ G.sel hev;have hu:=goal w _ hs;rw[<-T] at hu;refine hu.wp fun v w' hv=>main v w' hv.1 ⟨((p.op i).reads++(p.op i).gives)++r,?_,fun x=>?_,?_⟩
   ·refine List.nodup_append.2 ⟨G.nd2,hrn,fun x f y Y e=>?_⟩;subst e;rcases aI f with f | f
    ·exact ((V x).1 Y).2 (bj _ f)
    ·obtain ⟨-,Z,g2,g3⟩:=G.give x f;rcases ((U x).1 ((V x).1 Y).1).1 with e | ⟨j,c,e⟩
     ·exact Z e
     ·have:=g3 j (h.lt j c) e
      subst this;rw[hn] at c;cases c
   ·have hgx:x∈(p.op i).gives->x∉p.base/\(∀k,S k=true->x∉(p.op k).needs)/\x∉(p.op i).needs:=by
     intro f;obtain ⟨-,Z,g2,g3⟩:=G.give x f;refine ⟨Z,fun k m e=>?_,fun e=>g2 (bt _ e)⟩;have hkm:k<ops.length:=by simpa using h.lt k m
     rcases ((Skel.good_of_ok (L:=L) hkn hok (List.getElem?_eq_getElem hkm)).have_ x (bt _ e)).2 with J | ⟨j,c,J⟩
     ·exact Z J
     ·have:=g3 j (h.lt j (h.closed k m j c)) J
      subst this;exact hcl k m c
    rw[List.mem_append,V];constructor
    ·rintro (f | ⟨f,hx2⟩)
     ·rcases aI f with f | f
      ·have ⟨z,s⟩:=(U x).1 (hin x (bj _ f));refine ⟨z.imp id fun ⟨j,c,e⟩=>⟨j,by simp[c],e⟩,fun ⟨j,c,e⟩=>?_⟩;simp[Bool.or_eq_true,beq_iff_eq] at c;rcases c with c | rfl
       ·exact s ⟨j,c,e⟩
       ·exact (List.nodup_append.1 G.nd1).2.2 x f x e rfl
      ·have ⟨Z,g2,g3⟩:=hgx f;refine ⟨.inr ⟨i,by simp,f⟩,fun ⟨j,c,e⟩=>?_⟩;simp[Bool.or_eq_true,beq_iff_eq] at c;rcases c with c | rfl
       ·exact g2 j c e
       ·exact g3 e
     ·have ⟨z,s⟩:=(U x).1 f;refine ⟨z.imp id fun ⟨j,c,e⟩=>⟨j,by simp[c],e⟩,fun ⟨j,c,e⟩=>?_⟩;simp[Bool.or_eq_true,beq_iff_eq] at c;rcases c with c | rfl
      ·exact s ⟨j,c,e⟩
      ·exact hx2 (bt _ e)
    ·rintro ⟨z,s⟩;have e2': ¬ ∃j,S j=true/\x∈(p.op j).needs:=fun ⟨j,c,e⟩=>s ⟨j,by simp[c],e⟩;have e2i:=fun e=>s ⟨i,by simp,e⟩;by_cases W:x∈(p.op i).gives
     ·exact .inl (bt _ W)
     ·have hxl:x∈l:=by
       rw[U];refine ⟨z.imp id fun ⟨j,c,e⟩=>?_,e2'⟩;simp[Bool.or_eq_true,beq_iff_eq] at c;rcases c with c | rfl
       ·exact ⟨j,c,e⟩
       ·exact absurd e W
      by_cases e:x∈(p.op i).reads++(p.op i).needs
      ·rcases aI e with e | e
       ·exact .inl (bj _ e)
       ·exact absurd e e2i
      ·exact .inr ⟨hxl,e⟩
   ·rw[aX,aH]
    have:=List.map_congr_left fun x f=>O v x ((V x).1 f).1
    rw[this];exact hv.2
theorem Zu (d: ∀t,kn t=true->(L.lookup t).isSome=true) (u:Loc p q ops.length) (f:p.ok n kn ops=true) (G: ∀i o,ops[i]? =some o->p.goal q P I w0 L i o) {Q:Exit->Act->World->Prop}
  (N: ∀vs a w,Inv p q C I w0 n L ops.toArray (fun j=>decide (j<ops.length)) vs a w->Q .normal a w): ∀(fuel:Nat) (listed:Array Bool) (vs:Nat->Value) (a:Act) (w:World),listed.size=ops.length->D.leftOf ops.length listed<=fuel->
   Inv p q C I w0 n L ops.toArray (fun j=>listed.getD j false) vs a w->wpAny P .any ops.toArray Q fuel listed a w:=by
 have done: ∀(listed:Array Bool) (vs:Nat->Value) (a:Act) (w:World),(∀i,i<ops.length->listed.getD i false=true)->Inv p q C I w0 n L ops.toArray (fun j=>listed.getD j false) vs a w->Q .normal a w:=by
  intro listed vs a w b h;refine N vs a w ?_;have e:(fun j=>listed.getD j false)=fun j=>decide (j<ops.length):=by
   funext j;by_cases m:j<ops.length
   ·grind
   ·cases u:listed.getD j false with
    | false=>grind
    | true=>exact absurd (by simpa using h.lt j u) m
  rw[<-e];exact h
 have nil: ∀(listed:Array Bool) (vs:Nat->Value) (a:Act) (w:World),listed.size=ops.length->Inv p q C I w0 n L ops.toArray (fun j=>listed.getD j false) vs a w->Region.ready .any ops.toArray listed= [] ->Q .normal a w:=by
  intro listed vs a w g h B;refine done listed vs a w (fun i=>?_) h;induction i using Nat.strongRecOn with
  | _ i A =>
   intro x;cases u:listed.getD i false with
   | true=>rfl
   | false =>
    have:i∈Region.ready .any ops.toArray listed:=by
     refine D.mem_ready.2 ⟨by omega,?_,fun o O j m=>?_⟩
     ·grind
     ·have F:=(Skel.good_of_ok (L:=L) d f (show ops[i]? =some o by grind)).edges j m;grind
    grind
 intro fuel;induction fuel with
 | zero =>
  intro listed vs a w g z h;have b: ∀i,i<ops.length->listed.getD i false=true:=by
   intro i x;cases u:listed.getD i false with
   | true=>rfl
   | false =>
    have R:=List.eq_nil_of_length_eq_zero (Nat.le_zero.1 z);simp_all
  refine ⟨?_,done listed vs a w b h⟩;cases B:Region.ready .any ops.toArray listed with
  | nil=>rfl
  | cons i l =>
   have:i∈Region.ready .any ops.toArray listed:=by rw[B];simp
   grind[D.mem_ready,Array.getD_eq_getD_getElem?,Array.getElem?_eq_getElem]
 | succ fuel A =>
  intro listed vs a w g z h;refine ⟨nil listed vs a w g h,fun i x=>?_⟩;have ⟨J,y,K⟩:=D.mem_ready.1 x;have r:i<ops.length:=by simpa using J
  have c:=List.getElem?_eq_getElem r;have E:listed.getD i false=false:=by
   rw[Array.getD_eq_getD_getElem?,Array.getElem?_eq_getElem (by omega)] at y⊢;simpa using y
  have v:=G i _ c;refine h.step d u f v c E (fun j m=>?_) fun vs a w T=>?_
  ·rcases ((Skel.good_of_ok (L:=L) d f c).bef j m).2 with e | ⟨k,M,e⟩
   ·grind
   ·exact h.closed k (K _ (by grind) k M) j e
  ·refine A _ vs a w (by grind) ?_ ?_
   ·have H:D.leftOf ops.length (listed.setIfInBounds i true)<D.leftOf ops.length listed:=by
     unfold D.leftOf;have s:(List.range ops.length).filter (fun j=> !(listed.setIfInBounds i true).getD j false)=((List.range ops.length).filter (fun j=> !listed.getD j false)).filter (fun j=>j !=i):=by
      rw[List.filter_filter];refine List.filter_congr fun j m=>?_;by_cases e:i=j
      ·simp_all
      ·rw[Array.getD_eq_getD_getElem?,Array.getElem?_setIfInBounds_ne e,<-Array.getD_eq_getD_getElem?];grind
     rw[s];refine List.length_filter_lt_length_iff_exists.2 ⟨i,List.mem_filter.2 ⟨List.mem_range.2 r,by grind⟩,by simp⟩
    omega
   ·have e:(fun j=>(listed.setIfInBounds i true).getD j false)=fun j=>(listed.getD j false || j==i):=by
     funext j;by_cases e:i=j
     ·simp_all
     ·rw[Array.getD_eq_getD_getElem?,Array.getElem?_setIfInBounds_ne e,<-Array.getD_eq_getD_getElem?];grind
    grind
theorem Vc {id:Nat} {H:List Ch} {Q:Exit->Act->World->Prop} (p:Skel) (q:Sm) (m: ∀t,kn t=true->(L.lookup t).isSome=true) (Z:Loc p q ops.length) (N:P.follows .mixedOrders=true) (y:Agr n a L) (hs:St I w0 w H) (hp:H.Perm (p.base.map (q.chunk · fun _=>undef)++C))
  (E:p.ok n kn ops=true) (z:p.okB kn ops=true) (U: ∀i o,ops[i]? =some o->p.goal q P I w0 L i o)
  (k: ∀vs a w,(∀i,i<ops.length->q.fact i vs)->Agr n a (p.out L vs)->St I w0 w (p.left.map (q.chunk · vs)++C)->Q .normal a w):(Code.region id ops.toArray true).wp P Q a w:=by
 unfold Skel.okB at z;simp only[aj,uL,KI,qc,Bool.or_eq_true,Bool.not_eq_true',KH,List.all_eq_true] at z;have ⟨g,f,R,X,A⟩:=z;have F:=uK g;have r:=uK f;refine wp_region_any N (Zu (C:=C) m Z E U (fun vs a w h=>k vs a w (fun i d=>h.facts i (by grind)) ?_ ?_) _ _ (fun _=>undef) a _ (by simp) ?_ ?_)
 ·refine ⟨h.defers,h.size,fun t v hv=>?_⟩;have key: ∀(M:List (Nat×Option Nat)),(∀q∈M,q∈p.fin)->(M.map fun (t,s)=>(t,match s with | some j=>vs j | none=>(L.lookup t).getD undef)).lookup t=some v->a.tmps.getD t undef=v:=by
   intro M;induction M with
   | nil=>grind
   | cons q M ih =>
    intro T hv;have ⟨W,K⟩:=q;by_cases e:t=W
    ·subst e;simp[BEq.rfl,Option.some.injEq] at hv;have b:=A (t,K) (T _ (by simp));cases K with
     | none =>
      simp only[aj,uL,Bool.not_eq_true'] at b hv;have ⟨u,G⟩:=Option.isSome_iff_exists.1 (m _ b.1);rw[G] at hv;subst hv;refine h.old t u G fun j c J=>?_;have c:j<ops.length:=by simpa using c
      have:=b.2 j (List.mem_range.2 c)
      grind[yD]
     | some j =>
      simp only[aj,uL,aaY,aaX,Bool.or_eq_true,Bool.not_eq_true',qc] at b hv;rw[<-hv];refine h.new j t (by grind) (yD.1 b.2.1) fun k B J=>?_;have B:k<ops.length:=by simpa using B
      rcases b.2.2 k (List.mem_range.2 B) with e | e
      ·rw[yD.2 J] at e;cases e
      ·exact e
    grind
  exact key _ (fun _ h=>h) hv
 ·have ⟨l,O,l2,l3⟩:=h.st;refine l3.perm (List.Perm.append_right C (List.Perm.map _ ((List.perm_ext_iff_of_nodup O r).2 fun x=>?_)));grind
 ·grind[D.leftOf,Nat.le_trans,List.length_filter_le]
 ·have b: ∀j,(Array.replicate ops.toArray.size false).getD j false=false:=by
   intro j;rw[Array.getD_eq_getD_getElem?,Array.getElem?_replicate];split <;> rfl
  refine ⟨fun i d=>?_,fun i d=>?_,y.1,y.2.1,fun t v hv _=>y.2.2 t v hv,fun j t c=>?_,fun i d=>?_,p.base,F,fun x=>?_,?_⟩
  ·rw[b] at d;cases d
  ·rw[b] at d;cases d
  ·rw[b] at c;cases c
  ·rw[b] at d;cases d
  ·constructor
   ·intro V;refine ⟨.inl V,fun ⟨j,c,_⟩=>?_⟩;rw[b] at c;cases c
   ·rintro ⟨Y | ⟨j,c,_⟩,_⟩
    ·exact Y
    ·rw[b] at c;cases c
  ·exact (hs.drawn (w':= { w with drawn:=w.drawn+1 }) rfl rfl rfl rfl).perm hp
end
end R
namespace R
open Go.RowKit
open D
def LV.ids:LV->List Nat
 | .val _=>[]
 | .nb _=>[]
 | .rd h _ _=>[h.id]
 | .own h=>[h.id]
 | .ptr h _=>[h.id]
 | .fn h _ _ _=>[h.id]
 | .fz h _ _ _ _=>[h.id]
 | .fzf h _ _ _ _=>[h.id]
 | .rdn h _ _ _=>[h.id]
def Rc:List LV->List Nat
 | [] =>[]
 | x::l=>x.ids++Rc l
def ads:List (Bool×List LV)->List Nat
 | [] =>[]
 | y::l=>Rc y.2++ads l
def AV.ids:AV->List Nat
 | .one x=>x.ids
 | .agg xs=>Rc xs
 | .tup ys=>ads ys
 | .elr h _ _ _ _ _ _=>[h.id]
 | .elo h _ _ _ _ _ _ _=>[h.id]
 | .sub h _ _ _ _ _=>[h.id]
 | .pre h _ _ _ _ _=>[h.id]
 | .vw u h _ _ _ _=>[u.id,h.id]
 | .xv _ u h _ _ _ _=>[u.id,h.id]
 | .capv h _=>[h.id]
 | .any h=>[h.id]
 | .und=>[]
def Chk.ids:Chk->List Nat
 | .own _ _=>[]
 | .blk _ cs=>Rc cs
 | .hole _ _ _ _ _ _ _ _ _ lv=>lv.ids
 | .box _ _ _=>[]
 | .map _ _ _ _ _=>[]
 | .clo _ first capt=>ads first++Rc capt
def Fm (h:Hdr) (c:Chk):List Nat:=h.id::c.ids
theorem tl {x:LV} {i:Nat} : ∀ {l:List LV},x∈l->i∈x.ids->i∈Rc l
 | y::l,h,hi=>by
  rcases aB h with rfl | h
  ·exact bj _ hi
  ·exact bt _ (tl h hi)
theorem B7 {y:Bool×List LV} {i:Nat} : ∀ {l:List (Bool×List LV)},y∈l->i∈Rc y.2->i∈ads l
 | z::l,h,hi=>by
  rcases aB h with rfl | h
  ·exact bj _ hi
  ·exact bt _ (B7 h hi)
section
variable {P:Program} {w0:World} {J:Hp} {θ θ':Th} {n m:Nat} {chs chs':List Ent}
theorem iw {h:Hdr} (k:θ' h.id=θ h.id):hv θ' h=hv θ h:=by unfold hv;rw[k]
theorem LV.v_loc {x:LV} (h: ∀i∈x.ids,θ' i=θ i):x.v θ'=x.v θ:=by
 cases x with
 | val _=>rfl
 | nb _=>rfl
 | rd k t d=>exact iw (h _ (by simp[LV.ids]))
 | own k=>exact iw (h _ (by simp[LV.ids]))
 | ptr k off=>show Value.pointer (some ⟨bk (hv θ' k),off,none⟩)=_;rw[iw (h _ (by simp[LV.ids]))];rfl
 | fn k ps rs e=>exact iw (h _ (by simp[LV.ids]))
 | fz k T t d off=>show Value.pointer (some ⟨bk (hv θ' k),off,none⟩)=_;rw[iw (h _ (by simp[LV.ids]))];rfl
 | fzf k T ps rs e=>show Value.pointer (some ⟨bk (hv θ' k),0,none⟩)=_;rw[iw (h _ (by simp[LV.ids]))];rfl
 | rdn k b t d=>exact iw (h _ (by simp[LV.ids]))
theorem LV.ok_loc {x:LV} (h: ∀i∈x.ids,θ' i=θ i) (k:x.ok P w0 J θ n):x.ok P w0 J θ' n:=by
 cases x with
 | val _=>exact k
 | nb _=>trivial
 | rd g t d=>exact ⟨k.1,by rw[iw (h _ (by simp[LV.ids]))];exact k.2⟩
 | own g=>exact ⟨k.1,by rw[iw (h _ (by simp[LV.ids]))];exact k.2⟩
 | ptr g off=>exact k
 | fn g ps rs e=>exact ⟨k.1,by rw[iw (h _ (by simp[LV.ids]))];exact k.2⟩
 | fz g T t d off=>exact ⟨k.1,by rw[iw (h _ (by simp[LV.ids]))];exact k.2⟩
 | fzf g T ps rs e=>exact ⟨k.1,by rw[iw (h _ (by simp[LV.ids]))];exact k.2⟩
 | rdn g b t d=>exact ⟨k.1,by rw[iw (h _ (by simp[LV.ids]))];exact k.2⟩
theorem GU {xs:List LV} (h: ∀i∈Rc xs,θ' i=θ i):xs.map (·.v θ')=xs.map (·.v θ):=List.map_congr_left fun x a=>LV.v_loc fun i b=>h i (tl a b)
theorem IV {y:Bool×List LV} (a: ∀i∈Rc y.2,θ' i=θ i):mR θ' y=mR θ y:=by
 unfold mR;rw[GU a];split
 ·rfl
 ·cases b:y.2 with
  | nil=>rfl
  | cons x l=>exact LV.v_loc fun i c=>a i (by rw[b];exact bj _ c)
theorem AV.v_loc {x:AV} (h: ∀i∈x.ids,θ' i=θ i):x.v θ'=x.v θ:=by
 cases x with
 | one x=>exact LV.v_loc h
 | agg xs=>show Value.agg _=Value.agg _;rw[GU h]
 | tup ys =>
  show Value.tuple _=Value.tuple _;congr 2;refine List.map_congr_left fun y a=>?_;exact IV fun i b=>h i (B7 a b)
 | elr k E t xs x i off=>show pt (hv θ' k) _=_;rw[iw (h _ (by simp[AV.ids]))];rfl
 | elo k ver E t xs x i off=>show pt (hv θ' k) _=_;rw[iw (h _ (by simp[AV.ids]))];rfl
 | sub k ver E t xs l=>show tQ (hv θ' k) _ _ _=_;rw[iw (h _ (by simp[AV.ids]))];rfl
 | pre k ver E t xs l=>show tQ (hv θ' k) _ _ _=_;rw[iw (h _ (by simp[AV.ids]))];rfl
 | vw u k kk N l m=>exact iw (h _ (by simp[AV.ids]))
 | xv top u k kk N l m=>exact iw (h _ (by simp[AV.ids]))
 | capv k c=>rfl
 | any k=>exact iw (h _ (by simp[AV.ids]))
 | und=>rfl
theorem AV.ok_loc {x:AV} (h: ∀i∈x.ids,θ' i=θ i) (k:x.ok P w0 J θ n chs):x.ok P w0 J θ' n chs:=by
 cases x with
 | one x=>exact LV.ok_loc h k
 | agg xs=>exact fun x a=>LV.ok_loc (fun i b=>h i (tl a b)) (k x a)
 | tup ys=>exact fun y d x a=>LV.ok_loc (fun i b=>h i (B7 d (tl a b))) (k y d x a)
 | elr g E t xs x i off=>exact ⟨k.1,k.2.1,by rw[iw (h _ (by simp[AV.ids]))];exact k.2.2⟩
 | elo g ver E t xs x i off=>exact k
 | sub g ver E t xs l=>exact k
 | pre g ver E t xs l=>exact k
 | vw u g kk N l m=>exact ⟨k.1,k.2.1,by rw[iw (h _ (by simp[AV.ids])),iw (h _ (by simp[AV.ids]))];exact k.2.2⟩
 | xv top u g kk N l m=>exact ⟨k.1,k.2.1,by rw[iw (h _ (by simp[AV.ids])),iw (h _ (by simp[AV.ids]))];exact k.2.2⟩
 | capv g c=>exact ⟨k.1,by rw[iw (h _ (by simp[AV.ids]))];exact k.2⟩
 | any g=>exact k
 | und=>trivial
theorem Vd {e:Ent} (h: ∀i∈Fm e.1 e.2.2,θ' i=θ i):toCh P θ' e=toCh P θ e:=by
 obtain ⟨k,g,c⟩:=e;have a:hv θ' k=hv θ k:=iw (h _ (by simp[Fm]));cases c with
 | own t d=>show Ch.own _ [hv θ' k] d=_;rw[a];rfl
 | blk T cells=>show Ch.blk (bk (hv θ' k)) (cells.map (·.v θ')) T=_;rw[a,GU fun i b=>h i (br _ b)];rfl
 | hole over t d u y f i kk off lv=>show Ch.gap _ [hv θ' k] _ f (ptB (hv θ' k)) (ptO (hv θ' k)+(i.toNat*kk+off)) (lv.v θ')=_;rw[a,LV.v_loc fun i b=>h i (br _ b)];rfl
 | box T t d=>show Ch.box (bk (hv θ' k)) T _ d=_;rw[a];rfl
 | map K E kk e m=>show @Ch.mp P K E kk.den e.den kk.dec kk.lit kk.ok e.lit e.z (hv θ' k) m=_;rw[a];rfl
 | clo _ _ _=>rfl
theorem Zv {e:Ent} (h: ∀i∈Fm e.1 e.2.2,θ' i=θ i) (k:okE P w0 J θ n chs e):okE P w0 J θ' n chs e:=by
 obtain ⟨g,r,c⟩:=e;cases c with
 | own t d=>exact k
 | blk T cells=>exact ⟨k.1,k.2.1,fun x b=>LV.ok_loc (fun i a=>h i (br _ (tl b a))) (k.2.2 x b)⟩
 | hole over t d u y f i kk off lv=>exact ⟨k.1,k.2.1,LV.ok_loc (fun i a=>h i (br _ a)) k.2.2.1,k.2.2.2⟩
 | box T t d=>exact k
 | map K E kk e m=>exact k
 | clo f first capt =>
  obtain ⟨v,q,w,s,p⟩:=k;have l: ∀y∈first,∀i∈Rc y.2,θ' i=θ i:=fun y j i a=>h i (br _ (bj _ (B7 j a)))
  have o: ∀i∈Rc capt,θ' i=θ i:=fun i a=>h i (br _ (bt _ a));refine ⟨v,q,fun y j x b=>LV.ok_loc (fun i a=>l y j i (tl b a)) (w y j x b),fun x b=>LV.ok_loc (fun i a=>o i (tl b a)) (s x b),?_⟩;show hv θ' g=_;rw[iw (h _ (by simp[Fm])),GU o,List.map_congr_left fun y j=>IV (l y j)];exact p
def AV.elos:AV->List (Hdr×Nat)
 | .elo h ver _ _ _ _ _ _=>[(h,ver)]
 | .sub h ver _ _ _ _=>[(h,ver)]
 | .pre h ver _ _ _ _=>[(h,ver)]
 | _=>[]
def Chk.elos (ver:Nat):Chk->List (Hdr×Nat)
 | .hole _ _ _ _ _ _ _ _ _ (.own l)=>[(l,ver)]
 | _=>[]
theorem LV.ok_le {x:LV} (a:n<=m) (h:x.ok P w0 J θ n):x.ok P w0 J θ m:=LV.ok_same Same.rfl' a h Hp.le.rfl
where Same.rfl' {n:Nat} {θ:Th} :Same n θ θ:=fun i hi=>Eq.refl _
theorem AV.ok_move {x:AV} (a:n<=m) (b: ∀h ver c,(h,ver)∈x.elos->Mem chs n h ver c-> ∀e∈chs',∀c',Says e h ver c'->c'=c) (k:x.ok P w0 J θ n chs):x.ok P w0 J θ m chs':=by
 cases x with
 | one x=>exact LV.ok_le a k
 | agg xs=>exact fun x d=>LV.ok_le a (k x d)
 | tup ys=>exact fun y f x d=>LV.ok_le a (k y f x d)
 | elr g E t xs x i off=>exact ⟨aG k.1 a,k.2⟩
 | elo g ver E t xs x i off=>exact ⟨aG k.1 a,k.2.1,aG k.2.2.1 a,b _ _ _ (by simp[AV.elos]) k.2.2⟩
 | sub g ver E t xs l=>exact ⟨aG k.1 a,k.2.1,aG k.2.2.1 a,b _ _ _ (by simp[AV.elos]) k.2.2⟩
 | pre g ver E t xs l=>exact ⟨aG k.1 a,k.2.1,aG k.2.2.1 a,b _ _ _ (by simp[AV.elos]) k.2.2⟩
 | vw u g kk N l m=>exact ⟨aG k.1 a,aG k.2.1 a,k.2.2⟩
 | xv top u g kk N l m=>exact ⟨aG k.1 a,aG k.2.1 a,k.2.2⟩
 | capv g c=>exact ⟨aG k.1 a,k.2⟩
 | any g=>exact aG k a
 | und=>trivial
theorem Mx {e:Ent} (a:n<=m) (p: ∀h b c,(h,b)∈e.2.2.elos e.2.1->Mem chs n h b c-> ∀e∈chs',∀c',Says e h b c'->c'=c) (k:okE P w0 J θ n chs e):okE P w0 J θ m chs' e:=by
 obtain ⟨g,b,c⟩:=e;cases c with
 | own t d=>exact ⟨aG k.1 a,aG k.2.1 a,trivial⟩
 | blk T cells=>exact ⟨aG k.1 a,aG k.2.1 a,fun x j=>LV.ok_le a (k.2.2 x j)⟩
 | hole over t d u y f i kk off lv =>
  refine ⟨aG k.1 a,aG k.2.1 a,LV.ok_le a k.2.2.1,k.2.2.2.1,k.2.2.2.2.1,fun l o=>?_⟩
  have:=k.2.2.2.2.2 l o
  exact ⟨aG this.1 a,p _ _ _ (by subst o;simp[Chk.elos]) this⟩
 | box T t d=>exact ⟨aG k.1 a,aG k.2.1 a,trivial⟩
 | map K E kk e m=>exact ⟨aG k.1 a,aG k.2.1 a,trivial⟩
 | clo f first capt=>exact ⟨aG k.1 a,aG k.2.1 a,fun y q x j=>LV.ok_le a (k.2.2.1 y q x j),fun x j=>LV.ok_le a (k.2.2.2.1 x j),k.2.2.2.2⟩
end
structure TR where
 i:Nat
 o:Oper
 b:List Nat
 s:Sg
 r:Res
 run:Bool
def mW (n0:Nat) (x:TR):List Ent:=x.r.gives.map fun g=>(g.1,n0+x.i,g.2)
def CX (n0:Nat) (env:List (Nat×Nat×AV)):List TR->List (Nat×Nat×AV)
 | [] =>env
 | x::l=>PE x.o.dst (n0+x.i) x.r.av (CX n0 env l)
def j9 (n0:Nat) (chs:List Ent):List TR->List Ent
 | [] =>chs
 | x::l=>mW n0 x++j9 n0 chs l
def sameKey (a b:Ent):Bool:=Nat.beq a.2.1 b.2.1&&Hdr.beq a.1 b.1
def abM (e:Ent) (l:List TR):Bool:=l.any fun x=>x.r.ns.any fun e'=>sameKey e' e
def inB (n0:Nat) (b:List Nat) (v:Nat):Bool:=Nat.blt v n0 || yh (v - n0) b
def subS (s0:Sg) (l:List TR) (i:Nat) (b:List Nat):Sg:=
 ⟨(CX s0.nxt s0.env l).filter fun e=>inB s0.nxt b e.2.1,(j9 s0.nxt s0.chs l).filter fun e=>inB s0.nxt b e.2.1 && !abM e l,s0.nxt+i⟩
def Ve (s0:Sg) (l:List TR):Sg:=subS s0 l l.length (List.range l.length)
def recAt (i:Nat):List TR->Option TR
 | [] =>none
 | x::l=>if Nat.beq x.i i then some x else recAt i l
def adt (t:Nat) (l:List Nat):List Nat:=if yh t l then l else t::l
def IW:List Nat->List Nat->List Nat
 | [],acc=>acc
 | t::l,acc=>IW l (adt t acc)
def bOf (l:List TR):List Nat->List Nat->List Nat
 | [],acc=>acc
 | j::js,acc=>bOf l js (IW (match recAt j l with | some y=>y.b | none=>[]) (adt j acc))
def splitB {Y:Type} (g:Bool) (av:AV) (k:AV->Option Y):Option Y:=match g with
 | false=>k av
 | true=>match av with
  | .one (.val (.bool b))=>if b then k (.one (.val (.bool true))) else k (.one (.val (.bool false)))
  | .one (.nb b)=>if b then k (.one (.val (.bool false))) else k (.one (.val (.bool true)))
  | _=>none
def Re (ops:List Oper) (i:Nat):Bool:=match ops with
 | [] =>false
 | o::ops=>(match o.guard with | some (g,_)=>Nat.beq g i | none=>false) || Re ops i
section
variable {Y:Type} (V:Env) (ops:List Oper) (s0:Sg) (k:List TR->Option Y)
def ad7 (o:Oper) (i:Nat) (l:List TR) (b:List Nat) (s:Sg):Option Y:=
 cz (okO V.n s o) (step V s (fun r=>splitB (Re ops i) r.av fun av=>k (⟨i,o,b,s,⟨r.rs,r.ns,r.rest,r.gives,av⟩,true⟩::l)) o)
def Zw (o:Oper) (i:Nat) (l:List TR) (b:List Nat) (s:Sg):Option Y:=
 k (⟨i,o,b,s,⟨[],[],s.chs,[],.und⟩,false⟩::l)
def opD (o:Oper) (i:Nat) (l:List TR) (b:List Nat) (s:Sg):Option Y:=match o.guard with
 | none=>ad7 V ops k o i l b s
 | some (g,want)=>match recAt g l with
  | some y=>match y.r.av with
   | .one (.val (.bool c))=>match c==want with
    | true=>ad7 V ops k o i l b s
    | false=>Zw k o i l b s
   | .und=>Zw k o i l b s
   | _=>none
  | none=>none
def goD:List Oper->Nat->List TR->Option Y
 | [],_,l=>k l
 | o::os,i,l=>(fun b=>opD V ops (goD os (i+1)) o i l b (subS s0 l i b)) (bOf l (edgesOf o) [])
end
def GdOk (l:List TR) (x:TR):Prop:=match x.o.guard with
 | none=>x.run=true
 | some (g,want)=> ∃y∈l,y.i=g/\((∃c:Bool,y.r.av= .one (.val (.bool c))/\x.run=(c==want))\/(y.r.av= .und/\x.run=false))
structure RecOk (P:Program) (w0:World) (n:Nat) (s0:Sg) (ops:List Oper) (l:List TR) (x:TR):Prop where
 hi:x.i=l.length
 ho:ops[x.i]? =some x.o
 hb:x.b=bOf l (edgesOf x.o) []
 hs:x.s=subS s0 l x.i x.b
 good:x.run=true->Good P w0 x.s x.o x.r/\okO n x.s x.o=true
 skip:x.run=false->x.r=⟨[],[],x.s.chs,[],.und⟩
 gd:GdOk l x
def AllOk (P:Program) (w0:World) (n:Nat) (s0:Sg) (ops:List Oper):List TR->Prop
 | [] =>True
 | x::l=>RecOk P w0 n s0 ops l x/\AllOk P w0 n s0 ops l
section
variable {Y:Type} {V:Env} {P:Program} {w0:World} {ops:List Oper} {s0:Sg} {k:List TR->Option Y} {res:Y}
theorem B8 {i:Nat} {y:TR} : ∀ {l:List TR},recAt i l=some y->y∈l/\y.i=i
 | x::l,h=>by
  unfold recAt at h;split at h
  ·rename_i c;obtain rfl:=ad h;exact ⟨by simp,ax c⟩
  ·obtain ⟨a,b⟩:=B8 h;exact ⟨by simp[a],b⟩
theorem vP {s:Sg} {o:Oper} {r:Res} {av:AV} (h:Good P w0 s o r) (hv: ∀θ,av.v θ=r.av.v θ) (b: ∀(J:Hp) (θ:Th) n chs,av.ok P w0 J θ n chs):Good P w0 s o ⟨r.rs,r.ns,r.rest,r.gives,av⟩:=
 ⟨h.perm,h.says,fun J θ c=>OpT.weak (h.op J θ c) (fun v a=>⟨b _ _ _ _,(hv _).trans a.2.1,a.2.2⟩) (fun v _=>rfl)⟩
theorem Rf {g:Bool} {s:Sg} {o:Oper} {r:Res} {f:AV->Option Y} (h:splitB g r.av f=some res) (c:Good P w0 s o r): ∃av,f av=some res/\Good P w0 s o ⟨r.rs,r.ns,r.rest,r.gives,av⟩:=by
 unfold splitB at h;split at h
 ·exact ⟨r.av,h,c⟩
 ·split at h
  ·rename_i b a;cases b with
   | true=>exact ⟨_,h,vP c (fun θ=>by rw[a]) fun _ _ _ _=>Eq.refl true⟩
   | false=>exact ⟨_,h,vP c (fun θ=>by rw[a]) fun _ _ _ _=>Eq.refl true⟩
  ·rename_i b a;cases b with
   | true=>exact ⟨_,h,vP c (fun θ=>by rw[a];rfl) fun _ _ _ _=>Eq.refl true⟩
   | false=>exact ⟨_,h,vP c (fun θ=>by rw[a];rfl) fun _ _ _ _=>Eq.refl true⟩
  ·cases h
theorem Rg (p:TTok P V.tt) (q:FTok P V.ft): ∀ {os:List Oper} {i:Nat} {l:List TR},goD V ops s0 k os i l=some res->i=l.length->ops.drop i=os->AllOk P w0 V.n s0 ops l-> ∃l',k l'=some res/\AllOk P w0 V.n s0 ops l'/\l'.length=ops.length
 | [],i,l,h,hi,hd,ha=>⟨l,h,ha,by
  have B:=List.drop_eq_nil_iff.1 hd
  have: ∀ {l:List TR},AllOk P w0 V.n s0 ops l->l.length<=ops.length:=by
   intro l;induction l with
   | nil=>intro _;exact Nat.zero_le _
   | cons x l ih =>
    rintro ⟨u,C⟩
    have:=(List.getElem?_eq_some_iff.1 u.ho).1
    rw[u.hi] at this;exact this
  have:=this ha
  omega⟩
 | o::os,i,l,h,hi,hd,ha=>by
  have t:ops[i]? =some o:=by
   have:=congrArg (·[0]?) hd
   simpa using this
  have m:ops.drop (i+1)=os:=by
   rw[<-List.drop_drop,hd];rfl
  have h:opD V ops (goD V ops s0 k os (i+1)) o i l (bOf l (edgesOf o) []) (subS s0 l i (bOf l (edgesOf o) []))=some res:=h;have run:(GdOk l ⟨i,o,bOf l (edgesOf o) [],subS s0 l i (bOf l (edgesOf o) []),⟨[],[],[],[],.und⟩,true⟩)->ad7 V ops (goD V ops s0 k os (i+1)) o i l (bOf l (edgesOf o) []) (subS s0 l i (bOf l (edgesOf o) []))=some res-> ∃l',k l'=some res/\AllOk P w0 V.n s0 ops l'/\l'.length=ops.length:=by
   intro a h;obtain ⟨v,h⟩:=ak h;obtain ⟨r,z,s⟩:=Q4 (w0:=w0) p q h;obtain ⟨A,h,s⟩:=Rf z s;exact Rg p q h (by rw[hi];rfl) m ⟨⟨hi,t,rfl,rfl,fun _=>⟨s,v⟩,fun e=>(by cases e),a⟩,ha⟩
  have j:(GdOk l ⟨i,o,bOf l (edgesOf o) [],subS s0 l i (bOf l (edgesOf o) []),⟨[],[],[],[],.und⟩,false⟩)->Zw (goD V ops s0 k os (i+1)) o i l (bOf l (edgesOf o) []) (subS s0 l i (bOf l (edgesOf o) []))=some res-> ∃l',k l'=some res/\AllOk P w0 V.n s0 ops l'/\l'.length=ops.length:=by
   intro a h;exact Rg p q h (by rw[hi];rfl) m ⟨⟨hi,t,rfl,rfl,fun e=>(by cases e),fun _=>rfl,a⟩,ha⟩
  unfold opD at h;split at h
  ·rename_i a;exact run (by unfold GdOk;simp only[a]) h
  ·rename_i g want a;split at h
   ·rename_i y w;obtain ⟨b,d⟩:=B8 w;split at h
    ·rename_i c n;split at h
     ·rename_i f;exact run (by unfold GdOk;simp only[a];exact ⟨y,b,d,.inl ⟨c,n,f.symm⟩⟩) h
     ·rename_i f;exact j (by unfold GdOk;simp only[a];exact ⟨y,b,d,.inl ⟨c,n,f.symm⟩⟩) h
    ·rename_i n;exact j (by unfold GdOk;simp only[a];exact ⟨y,b,d,.inr ⟨n,trivial⟩⟩) h
    ·cases h
   ·cases h
end
def CY (l:List (Nat×Nat×AV)) (t:Nat):Option Nat:=match l with
 | [] =>none
 | (u,k,_)::l=>if Nat.beq u t then some k else CY l t
def numOf (e:Ent):List Ent->Nat
 | [] =>0
 | x::l=>if sameKey x e then 0 else numOf e l+1
def Xe (n0 v:Nat):Option Nat:=if Nat.blt v n0 then none else some (v - n0)
def IX (n0:Nat) (env:List (Nat×Nat×AV)):List Nat->List (Nat×Option Nat)
 | [] =>[]
 | t::l=>match CY env t with
  | some v=>(t,Xe n0 v)::IX n0 env l
  | none=>IX n0 env l
def opK (n0:Nat) (T:List Ent) (ops:Array Oper) (x:TR):OpK:=⟨x.r.rs.map (numOf · T),x.r.ns.map (numOf · T),(mW n0 x).map (numOf · T),IX n0 x.s.env (slotsOf ops x.o)⟩
def Rh (n0:Nat):List (Nat×Nat×AV)->List Nat->List (Nat×Option Nat)
 | [],_=>[]
 | e::l,seen=>match yh e.1 seen with
  | true=>Rh n0 l seen
  | false=>(e.1,Xe n0 e.2.1)::Rh n0 l (e.1::seen)
def qX (s0:Sg) (ops:List Oper) (l:List TR) (T:List Ent):Skel:=
 ⟨(l.map (opK s0.nxt T ops.toArray)).reverse,T.length,s0.chs.map (numOf · T),(l.map (·.b)).reverse,Rh s0.nxt (Ve s0 l).env [],(Ve s0 l).chs.map (numOf · T)⟩
def km:List Ent->Bool
 | [] =>true
 | e::l=> !(l.any fun x=>sameKey x e)&&km l
def oL:List Ent->Bool
 | [] =>true
 | e::l=>Ev e.1 l&&oL l
def Zx (h:Hdr) (ver:Nat) (e:Ent):Bool:=Hdr.beq e.1 h&&(Nat.beq e.2.1 ver || match e.2.2 with
 | .hole over _ _ _ _ _ _ _ _ _=>Nat.beq over ver
 | _=>false)
def allowed (n0:Nat) (x:TR) (v:Nat):Bool:=Nat.blt v n0 || (Nat.beq (v - n0) x.i || yh (v - n0) x.b)
def Xf (n0:Nat) (x:TR):List (Hdr×Nat):=x.r.av.elos++x.r.gives.flatMap fun g=>g.2.elos (n0+x.i)
def Vf (x:TR):List Nat:=x.r.av.ids++x.r.gives.flatMap fun g=>Fm g.1 g.2
def CZ (n0:Nat) (x:TR):Bool:=En (Vf x) (allowed n0 x)&&(Xf n0 x).all fun q=>(x.r.chs (n0+x.i)).any (Zx q.1 q.2) || (Nat.beq q.2 (n0+x.i) && !(x.r.gives.any fun g=>Hdr.beq g.1 q.1))
def knS (s0:Sg) (t:Nat):Bool:=(look s0.env t).isSome
def Xg (n:Nat) (s0:Sg) (ops:List Oper) (l:List TR) (T:List Ent):Bool:=oL s0.chs&&(km T&&(l.all (CZ s0.nxt)&&((qX s0 ops l T).ok n (knS s0) ops&&(qX s0 ops l T).okB (knS s0) ops)))
section
variable {Y:Type} (V:Env)
def C1 (s0:Sg):List Oper->List Hdr
 | [] =>[]
 | o::os=>Fk s0 o.op.operands.toList++C1 s0 os
def My (ops:List Oper) (k:Sg->Option Y) (s0:Sg):Option Y:=goD V ops s0 (fun l=>cz (Xg V.n s0 ops l (j9 s0.nxt s0.chs l)) (k (Ve s0 l))) ops 0 []
def Xh (tr:Trs) (s0:Sg):List Oper->List (Bool×Hdr)
 | [] =>[]
 | o::os=>ldF tr s0 o++(ae4 tr s0 o++Xh tr s0 os)
def abN (o:Oper):Bool:=match o.op with
 | .indexAddr _ _ _=>true
 | _=>false
def abO (tr:Trs) (ops:List Oper):Trs:=match ops.any abN with
 | true=>tr
 | false=>Q7 tr
def Mz (tr:Trs) (ops:List Oper) (s:Sg):Sg:=match tr with
 | [] =>s
 | _=>UA (abO tr ops) (Xh (abO tr ops) s ops) s
def isApp (o:Oper):Bool:=match o.op with
 | .buildSlice _ _ _=>true
 | _=>false
def adu (s:Sg):List Oper->List Hdr
 | [] =>[]
 | o::os=>match o.op with
  | .move x=>match opd s x with
   | some (.one (.own h))=>h::adu s os
   | _=>adu s os
  | _=>adu s os
def GV:List Hdr->Sg->Sg
 | [],s=>s
 | h::hs,s=>GV hs (Ah h s)
def yE (ops:List Oper) (s:Sg):Sg:=match ops.any abN && !ops.any isApp with
 | true=>GV (adu s ops) s
 | false=>s
def Vg (tr:Trs) (ops:List Oper) (s0:Sg):Sg:=match yE ops (tj s0) with
 | s=>Mz tr ops (yA (C1 s ops) s)
def abP (ops:List Oper) (k:Sg->Option Y) (s:Sg):Option Y:=My V ops k (Vg V.tr ops s)
end
theorem Aj {a b:Ent} :sameKey a b=true↔a.2.1=b.2.1/\a.1=b.1:=by
 unfold sameKey;rw[aj,aaX];grind[Hdr.beq_eq,Gz]
theorem A5 {l:List Ent} :km l=true-> ∀a∈l,∀b∈l,a.2.1=b.2.1->a.1=b.1->a=b:=by
 induction l with
 | nil=>grind
 | cons e l ih =>
  intro h a j b i;unfold km at h;rw[aj,Bool.not_eq_true'] at h;have ⟨k,m⟩:=h;have key: ∀x∈l,¬(x.2.1=e.2.1/\x.1=e.1):=fun x n o=>by
   have:(l.any fun x=>sameKey x e)=true:=List.any_eq_true.2 ⟨x,n,Aj.2 o⟩
   rw[k] at this;cases this
  intro f g;rcases aB j with d | d
  ·rcases aB i with c | c
   ·rw[d,c]
   ·rw[d] at f g;exact absurd ⟨f.symm,g.symm⟩ (key b c)
  ·rcases aB i with c | c
   ·rw[c] at f g;exact absurd ⟨f,g⟩ (key a d)
   ·exact ih m a d b c f g
theorem IY {l:List Ent} :oL l=true-> ∀a∈l,∀b∈l,a.1=b.1->a=b:=by
 induction l with
 | nil=>grind
 | cons e l ih =>
  intro h a i b g;unfold oL at h;rw[aj] at h;have ⟨f,j⟩:=h;intro k;rcases aB i with d | d
  ·rcases aB g with c | c
   ·rw[d,c]
   ·rw[d] at k;exact absurd k.symm (qW f c)
  ·rcases aB g with c | c
   ·rw[c] at k;exact absurd k (qW f d)
   ·exact ih j a d b c k
theorem vQ {e:Ent} : ∀ {T:List Ent},km T=true->e∈T->T[numOf e T]? =some e
 | x::T,hd,b=>by
  unfold numOf;split
  ·rename_i c;have ⟨d,f⟩:=Aj.1 c;exact congrArg some (A5 hd x (by simp) e b d f)
  ·have a:=hd;unfold km at a;rw[aj] at a;rcases aB b with rfl | b
   ·grind[absurd,Aj]
   ·exact vQ a.2 b
theorem Vh {h:Hdr} {ver:Nat} {e:Ent} (k:Zx h ver e=true): ∃c,Says e h ver c:=by
 unfold Zx at k;rw[aj,Bool.or_eq_true] at k;have ⟨b,a⟩:=k;have b:=Hdr.beq_eq b;have ⟨g,v,c⟩:=e;rcases a with a | a
 ·exact ⟨c,b,.inl ⟨ax a,rfl⟩⟩
 ·cases c with
  | hole over t d u y f i j off l=>exact ⟨.own t d,b,.inr ⟨ax a,rfl⟩⟩
  | _=>cases a
section
variable {P:Program} {w0:World} {n:Nat} {s0:Sg} {ops:List Oper} {l:List TR}
theorem AllOk.lt:AllOk P w0 n s0 ops l-> ∀y∈l,y.i<l.length:=by
 induction l with
 | nil=>grind
 | cons w l ih =>
  rintro ⟨b,c⟩ y a;rcases aB a with rfl | a
  ·rw[b.hi,aw];omega
  grind
theorem AllOk.uniq:AllOk P w0 n s0 ops l-> ∀x∈l,∀y∈l,x.i=y.i->x=y:=by
 induction l with
 | nil=>grind
 | cons w l ih =>
  rintro ⟨d,c⟩ x b y a h;have e:=d.hi;rcases aB b with b | b
  ·rcases aB a with a | a
   ·grind
   ·have:=c.lt y a
    grind
  ·rcases aB a with a | a
   ·have:=c.lt x b
    grind
   grind
theorem AllOk.get {x:TR} :AllOk P w0 n s0 ops l->x∈l-> ∃a,RecOk P w0 n s0 ops a x/\AllOk P w0 n s0 ops a/\(∀y∈a,y∈l)/\ ∀y∈l,y.i<x.i->y∈a:=by
 induction l with
 | nil=>grind
 | cons z l ih =>
  rintro ⟨e,d⟩ b;rcases aB b with b | b
  ·grind
  ·have ⟨a,g,h,i,m⟩:=ih d b;refine ⟨a,g,h,fun y c=>by grind,fun y c f=>?_⟩;rcases aB c with c | c
   ·have j:=d.lt x b;have k:=e.hi;grind
   grind
theorem AllOk.at {α:Type} (f:TR->α):AllOk P w0 n s0 ops l-> ∀i,i<l.length-> ∃x∈l,x.i=i/\(l.map f).reverse[i]? =some (f x):=by
 induction l with
 | nil=>grind
 | cons w l ih =>
  rintro ⟨b,d⟩ i c;by_cases h:i<l.length
  ·grind
  ·have a:i=l.length:=by rw[aw] at c;omega
   subst a;refine ⟨w,by simp,b.hi,?_⟩;grind
theorem AllOk.opAt (a:AllOk P w0 n s0 ops l) {x:TR} (c:x∈l) (T:List Ent):(qX s0 ops l T).op x.i=opK s0.nxt T ops.toArray x/\(qX s0 ops l T).before x.i=x.b:=by
 have b:=a.lt x c;have ⟨y,g,d,h⟩:=a.at (opK s0.nxt T ops.toArray) x.i b;have ⟨z,f,e,i⟩:=a.at (·.b) x.i b;obtain rfl:=a.uniq y g x c d;obtain rfl:=a.uniq z f y c e;constructor
 ·show (l.map (opK s0.nxt T ops.toArray)).reverse.getD z.i _=_;grind
 ·show (l.map (·.b)).reverse.getD z.i [] =_;grind
theorem mX {n0:Nat} {chs:List Ent} {e:Ent} : ∀ {l:List TR},e∈j9 n0 chs l↔e∈chs\/ ∃x∈l,e∈mW n0 x
 | [] =>by simp[j9]
 | y::l=>by
  unfold j9;rw[List.mem_append,mX (l:=l)];grind
theorem lG {n0:Nat} {x:TR} {e:Ent} (h:e∈mW n0 x):e.2.1=n0+x.i/\(e.1,e.2.2)∈x.r.gives:=by
 obtain ⟨g,a,rfl⟩:=List.mem_map.1 h;grind
theorem xz {n0:Nat} {env:List (Nat×Nat×AV)} {e:Nat×Nat×AV} : ∀ {l:List TR},e∈CX n0 env l->e∈env\/ ∃x∈l,x.o.dst=some e.1/\e.2.1=n0+x.i/\e.2.2=x.r.av
 | [],h=>.inl h
 | y::l,h=>by
  unfold CX PE at h;split at h
  ·rcases aB h with rfl | h
   ·grind
   ·exact (xz h).imp id fun ⟨x,a,k⟩=>⟨x,by grind,k⟩
  ·exact (xz h).imp id fun ⟨x,a,k⟩=>⟨x,by grind,k⟩
theorem Ri {n0:Nat} {b:List Nat} {v:Nat} :inB n0 b v=true↔v<n0\/v - n0∈b:=by unfold inB;rw[Bool.or_eq_true,aaY,qc]
theorem Ak {i:Nat} {b:List Nat} {e:Ent} (h:e∈(subS s0 l i b).chs):e∈j9 s0.nxt s0.chs l/\(e.2.1<s0.nxt\/e.2.1 - s0.nxt∈b):=by
 have ⟨a,c⟩:=List.mem_filter.1 h;simp_all[aj,Ri]
theorem GW {i:Nat} {b:List Nat} {e:Nat×Nat×AV} (h:e∈(subS s0 l i b).env):e∈CX s0.nxt s0.env l/\(e.2.1<s0.nxt\/e.2.1 - s0.nxt∈b):=by
 have ⟨a,c⟩:=List.mem_filter.1 h;grind[Ri]
def uu (θ:Th) (n0:Nat) (vs:Nat->Value):Th:=fun id=>if id<n0 then θ id else vs (id - n0)
theorem qd {θ:Th} {n0:Nat} {vs:Nat->Value} :Same n0 θ (uu θ n0 vs):=fun i a=>if_pos a
theorem Vi {θ:Th} {n0 i:Nat} {vs:Nat->Value} {v:Value} :uu θ n0 (upd vs i v)=upd (uu θ n0 vs) (n0+i) v:=by
 funext id;show (if id<n0 then θ id else if id - n0=i then v else vs (id - n0))=if id=n0+i then v else if id<n0 then θ id else vs (id - n0);grind
def aaZ (P:Program) (w0:World) (J:Hp) (θ:Th) (n0:Nat) (x:TR) (v:Value):Prop:=
 x.r.av.ok P w0 J θ (n0+x.i+1) (x.r.chs (n0+x.i))/\x.r.av.v θ=v/\ ∀g∈x.r.gives,okE P w0 J θ (n0+x.i+1) (x.r.chs (n0+x.i)) (g.1,n0+x.i,g.2)
end
section
variable {P:Program} {w0:World} {n:Nat} {s0:Sg} {ops:List Oper} {l:List TR} {J:Hp} {θ:Th} {vs:Nat->Value}
def Pd (s0:Sg) (l:List TR) (h:Hdr) (ver:Nat) (c:Chk):Prop:=(∃e0∈s0.chs,Says e0 h ver c)\/ ∃x∈l,(h,ver,c)∈mW s0.nxt x
theorem KJ {e:Ent} {h:Hdr} {ver:Nat} {c:Chk} {chs:List Ent} {m:Nat} (k:okE P w0 J θ m chs e) (hs:Says e h ver c):ver<m:=by
 have ⟨g,v,x⟩:=e;obtain ⟨-,hs⟩:=hs;rcases hs with ⟨a,-⟩ | hs
 ·rw[<-a];exact k.2.1
 ·cases x with
  | hole over t d u y f i b off j =>
   rw[<-hs.1];exact Nat.lt_trans k.2.2.2.1 k.2.1
  | _=>exact hs.elim
theorem Zy (C:oL s0.chs=true) (E:km (j9 s0.nxt s0.chs l)=true) (r:Fine P w0 J θ s0) {h:Hdr} {ver:Nat} {c c':Chk} (h1:Pd s0 l h ver c) (w:Pd s0 l h ver c'):c=c':=by
 have base: ∀p∈s0.chs,∀m∈s0.chs,∀c c',Says p h ver c->Says m h ver c'->c=c':=by
  intro p j m k c c' o e;cases IY C p j m k (o.1.trans e.1.symm);have q:=r.chs p j;have ⟨g,v,x⟩:=p;rcases o.2 with ⟨G,H⟩ | a
  ·rcases e.2 with ⟨D,F⟩ | b
   ·grind
   ·cases x with
    | hole over t d u y f i s off z =>
     have:=q.2.2.2.1
     have m:=b.1;omega
    | _=>exact b.elim
  ·rcases e.2 with ⟨D,F⟩ | b
   ·cases x with
    | hole over t d u y f i s off z =>
     have:=q.2.2.2.1
     have m:=a.1;omega
    | _=>exact a.elim
   ·cases x with
    | hole over t d u y f i s off z=>rw[a.2,b.2]
    | _=>exact a.elim
 rcases h1 with ⟨p,j,o⟩ | ⟨x,B,o⟩
 ·rcases w with ⟨m,k,e⟩ | ⟨y,A,e⟩
  ·grind
  ·have:=KJ (r.chs p j) o
   have:=(lG e).1
   grind
 ·rcases w with ⟨m,k,e⟩ | ⟨y,A,e⟩
  ·have:=KJ (r.chs m k) e
   have:=(lG o).1
   grind
  ·have:=A5 E _ (mX.2 (.inr ⟨x,B,o⟩)) _ (mX.2 (.inr ⟨y,A,e⟩)) rfl rfl
   grind
theorem MA (Y:oL s0.chs=true) (hK:km (j9 s0.nxt s0.chs l)=true) (D:Fine P w0 J θ s0) (ha:AllOk P w0 n s0 ops l) (Z: ∀x∈l,CZ s0.nxt x=true)
  (L1:List TR) (H: ∀y∈L1,y∈l) (b:List Nat) (i:Nat) (C: ∀j∈b,j<i)
  (r: ∀y∈l,y.i∈b->aaZ P w0 J (uu θ s0.nxt vs) s0.nxt y (vs y.i))
  (L: ∀y∈l,y.i∈b-> ∀e∈mW s0.nxt y,∀h d c,Says e h d c->Pd s0 l h d c)
  (B: ∀y∈l,y.i∈b-> ∀e∈y.r.chs (s0.nxt+y.i),∀h d c,Says e h d c->Pd s0 l h d c)
  (O:(CX s0.nxt s0.env L1).Pairwise fun a b=>a.2.1≠b.2.1):Fine P w0 J (uu θ s0.nxt vs) (subS s0 L1 i b):=by
 have own: ∀e∈(subS s0 L1 i b).chs,∀h d c,Says e h d c->Pd s0 l h d c:=by
  intro e p h d c E;have ⟨g,m⟩:=Ak p;rcases mX.1 g with g | ⟨y,s,g⟩
  ·exact .inl ⟨e,g,E⟩
  ·grind[hv,lG,Nat.add_sub_cancel_left]
 have v: ∀h d c,Mem s0.chs s0.nxt h d c-> ∀e∈(subS s0 L1 i b).chs,∀q,Says e h d q->q=c:=by
  intro h d c o e p q E;rcases own e p h d q E with ⟨I,w,k⟩ | ⟨y,s,k⟩
  ·exact o.2 I w q k
  ·have:=(lG k).1
   have:=o.1
   grind
 have u: ∀y∈l,y.i∈b-> ∀h d,(h,d)∈Xf s0.nxt y-> ∀c,Mem (y.r.chs (s0.nxt+y.i)) (s0.nxt+y.i+1) h d c-> ∀e∈(subS s0 L1 i b).chs,∀q,Says e h d q->q=c:=by
  intro y s f h d t c o e p q E;have A:=Z y s;unfold CZ at A;rw[aj] at A
  have:=(List.all_eq_true.1 A.2) (h,d) t
  rcases Bool.or_eq_true_iff.1 this with this | this
  rotate_left
  ·rw[aj,Bool.not_eq_true'] at this;have T:=ax this.1;rcases own e p h d q E with ⟨I,w,k⟩ | ⟨z,hz,k⟩
   ·have:=KJ (D.chs I w) k
    omega
   ·have ⟨S,K⟩:=lG k;grind[AllOk.uniq,Hdr.beq,List.any_eq_true,Gz]
  have ⟨V,F,Q⟩:=List.any_eq_true.1 this;have ⟨W,G⟩:=Vh Q;have M:=o.2 V F W G;subst M;exact Zy Y hK D (own e p h d q E) (B y s f V F h d W G)
 refine ⟨fun e p=>?_,fun e p=>?_,List.Pairwise.filter _ O,fun e p=>?_,D.lay⟩
 ·have ⟨g,m⟩:=GW p;rcases xz g with g | ⟨y,s,S,K,X⟩
  ·have:=D.env e g
   refine AV.ok_move (n:=s0.nxt) (Nat.le_add_right _ _) (fun h d c _ o=>v h d c o) ?_;exact AV.ok_same qd (ay _) Newer.rfl this Hp.le.rfl
  ·rcases m with m | m
   ·omega
   ·have f:y.i∈b:=by rw[K,Nat.add_sub_cancel_left] at m;exact m
    have R:=r y (H y s) f
    have:=C _ f
    rw[X];refine AV.ok_move (n:=s0.nxt+y.i+1) (by show s0.nxt+y.i+1<=s0.nxt+i;omega) (fun h d c t o=>u y (H y s) f h d (bj _ t) c o) R.1
 ·have ⟨g,m⟩:=GW p;rcases xz g with g | ⟨y,s,S,K,X⟩
  ·exact aG (D.ver e g) (Nat.le_add_right _ _)
  ·rcases m with m | m
   ·omega
   ·have:=C _ m
    show e.2.1<s0.nxt+i;omega
 ·have ⟨g,m⟩:=Ak p;rcases mX.1 g with g | ⟨y,s,g⟩
  ·refine Mx (n:=s0.nxt) (Nat.le_add_right _ _) (fun h d c _ o=>v h d c o) ?_;exact iy qd (ay _) Newer.rfl (D.chs e g) Hp.le.rfl
  ·have ⟨hv,U⟩:=lG g;rcases m with m | m
   ·omega
   ·have f:y.i∈b:=by rw[hv,Nat.add_sub_cancel_left] at m;exact m
    have R:=r y (H y s) f
    have:=C _ f
    have Q:=R.2.2 _ U;have N:e=(e.1,s0.nxt+y.i,e.2.2):=by grind
    rw[N];refine Mx (n:=s0.nxt+y.i+1) (by show s0.nxt+y.i+1<=s0.nxt+i;omega) (fun h d c t o=>?_) Q;exact u y (H y s) f h d (bt _ (List.mem_flatMap.2 ⟨_,U,t⟩)) c o
end
theorem Rj {t j:Nat} {l:List Nat} :j∈adt t l↔j=t\/j∈l:=by
 unfold adt;split
 ·rename_i h
  have:=qc.1 h
  constructor
  ·exact fun h=>.inr h
  ·rintro (rfl | h)
   ·exact this
   ·exact h
 ·exact List.mem_cons
theorem IZ {j:Nat} : ∀ {l acc:List Nat},j∈IW l acc↔j∈l\/j∈acc
 | [],acc=>by simp[IW]
 | t::l,acc=>by
  unfold IW;rw[IZ (l:=l),Rj,List.mem_cons];constructor
  ·rintro (h | h | h) <;> simp[h]
  ·rintro ((h | h) | h) <;> simp[h]
def bAt (l:List TR) (k:Nat):List Nat:=match recAt k l with
 | some y=>y.b
 | none=>[]
theorem Xi {l:List TR} {j:Nat} : ∀ {js acc:List Nat},j∈bOf l js acc↔j∈acc\/ ∃k∈js,j=k\/j∈bAt l k
 | [],acc=>by simp[bOf]
 | k::js,acc=>by
  unfold bOf;rw[Xi (js:=js),IZ,Rj];show (j∈bAt l k\/j=k\/j∈acc)\/_↔_;constructor
  ·rintro ((h | h | h) | ⟨b,a,h⟩)
   ·exact .inr ⟨k,by simp,.inr h⟩
   ·exact .inr ⟨k,by simp,.inl h⟩
   ·exact .inl h
   ·exact .inr ⟨b,by simp[a],h⟩
  ·rintro (h | ⟨b,a,h⟩)
   ·exact .inl (.inr (.inr h))
   ·rcases aB a with a | a
    ·subst a;rcases h with h | h
     ·exact .inl (.inr (.inl h))
     ·exact .inl (.inl h)
    ·exact .inr ⟨b,a,h⟩
theorem Fo {y:TR} : ∀ {l:List TR},y∈l-> ∃z,recAt y.i l=some z
 | x::l,h=>by
  unfold recAt;split
  ·exact ⟨_,rfl⟩
  ·rename_i a;rcases aB h with h | h
   ·rw[h] at a;exact absurd (Nat.beq_refl _) a
   ·exact Fo h
section
variable {P:Program} {w0:World} {n:Nat} {s0:Sg} {ops:List Oper} {l:List TR} {J:Hp} {θ:Th} {vs:Nat->Value}
theorem AllOk.closed (p:AllOk P w0 n s0 ops l) (h: ∀x∈l,∀j∈x.b,j<x.i): ∀x∈l,∀y∈l,y.i∈x.b-> ∀k∈y.b,k∈x.b:=by
 have main: ∀m,∀x∈l,x.i=m-> ∀y∈l,y.i∈x.b-> ∀k∈y.b,k∈x.b:=by
  intro m;induction m using Nat.strongRecOn with
  | _ m A =>
   intro x d B y o a k u;obtain ⟨C,s,v,t,w⟩:=p.get d;have i:=h x d _ a;have g:=w y o i;rw[s.hb,Xi] at a⊢;rcases a with a | ⟨q,r,a | a⟩
   ·cases a
   ·refine .inr ⟨q,r,.inr ?_⟩;subst a;obtain ⟨z,e⟩:=Fo g;unfold bAt;rw[e];obtain ⟨b,c⟩:=B8 e;obtain rfl:=p.uniq z (t z b) y o c;exact u
   ·refine .inr ⟨q,r,.inr ?_⟩;unfold bAt at a⊢;split at a
    ·rename_i z e;obtain ⟨b,c⟩:=B8 e;have f:=v.lt z b;rw[<-s.hi] at f;exact A z.i (by omega) z (t z b) rfl y o a k u
    ·cases a
 exact fun x d=>main x.i x d rfl
theorem Xj (d:Fine P w0 J θ s0):AllOk P w0 n s0 ops l->(CX s0.nxt s0.env l).Pairwise fun a b=>a.2.1≠b.2.1:=by
 induction l with
 | nil=>intro _;exact d.nd
 | cons x l ih =>
  rintro ⟨f,c⟩;refine nd_go x.o.dst (ih c) fun e i=>?_;rcases xz i with h | ⟨y,g,k,m,j⟩
  ·have:=d.ver e h;omega
  ·have:=c.lt y g
   have:=f.hi
   omega
where nd_go {env:List (Nat×Nat×AV)} {k:Nat} {av:AV} (d:Option Nat) (h:env.Pairwise fun a b=>a.2.1≠b.2.1) (hv: ∀e∈env,e.2.1<k):(PE d k av env).Pairwise fun a b=>a.2.1≠b.2.1:=Ig h hv
theorem words (O:oL s0.chs=true) (T:km (j9 s0.nxt s0.chs l)=true) (E:Fine P w0 J θ s0) (F:AllOk P w0 n s0 ops l) (S: ∀x∈l,CZ s0.nxt x=true) (u: ∀x∈l,∀j∈x.b,j<x.i)
  (B:List Nat) (D: ∀y∈l,y.i∈B-> ∀k∈y.b,k∈B) (r: ∀y∈l,y.i∈B->aaZ P w0 J (uu θ s0.nxt vs) s0.nxt y (vs y.i)) :
  ∀x∈l,(∀k∈x.b,k∈B)->Fine P w0 J (uu θ s0.nxt vs) x.s/\(∀e∈mW s0.nxt x,∀h a c,Says e h a c->Pd s0 l h a c)/\ ∀e∈x.r.chs (s0.nxt+x.i),∀h a c,Says e h a c->Pd s0 l h a c:=by
 have main: ∀m,∀x∈l,x.i=m->(∀k∈x.b,k∈B)->Fine P w0 J (uu θ s0.nxt vs) x.s/\(∀e∈mW s0.nxt x,∀h a c,Says e h a c->Pd s0 l h a c)/\ ∀e∈x.r.chs (s0.nxt+x.i),∀h a c,Says e h a c->Pd s0 l h a c:=by
  intro m;induction m using Nat.strongRecOn with
  | _ m Q =>
   intro x s R o;obtain ⟨K,t,I,H,V⟩:=F.get s;have A: ∀y∈l,y.i∈x.b->_:=fun y g d=>Q y.i (by have:=u x s _ d;omega) y g rfl (D y g (o _ d));have G:Fine P w0 J (uu θ s0.nxt vs) x.s:=by
    rw[t.hs];exact MA O T E F S K H x.b x.i (u x s) (fun y g d=>r y g (o _ d)) (fun y g d=>(A y g d).2.1) (fun y g d=>(A y g d).2.2) (Xj E I)
   have p: ∀e∈x.s.chs,∀h a c,Says e h a c->Pd s0 l h a c:=by
    intro e b h a c q;rw[t.hs] at b;obtain ⟨i,f⟩:=Ak b;rcases mX.1 i with i | ⟨y,g,i⟩
    ·exact .inl ⟨e,i,q⟩
    ·have hv:=(lG i).1;rcases f with f | f
     ·omega
     ·rw[hv,Nat.add_sub_cancel_left] at f;exact (A y (H y g) f).2.1 e i h a c q
   have w: ∀e∈mW s0.nxt x,∀h a c,Says e h a c->Pd s0 l h a c:=by
    intro e b h a c q;cases v:x.run with
    | true =>
     obtain ⟨z,M⟩:=t.good v;obtain ⟨hv,N⟩:=lG b;obtain ⟨i,f⟩:=q;rcases f with ⟨f,U⟩ | f
     ·refine .inr ⟨x,s,?_⟩
      have:e=(h,a,c):=by rw[U,<-i,<-f]
      rw[<-this];exact b
     ·obtain ⟨L,C,k⟩:=z.says J _ G _ N a c f;simp only at k;rw[i] at k;exact p L C h a c k
    | false =>
     have:=t.skip v
     unfold mW at b;rw[this] at b;cases b
   refine ⟨G,w,fun e b h a c q=>?_⟩;unfold Res.chs at b;rcases aI b with b | b
   ·exact w e b h a c q
   ·refine p e ?_ h a c q;cases v:x.run with
    | true =>
     obtain ⟨z,M⟩:=t.good v;exact z.perm.mem_iff.2 (by rcases aI b with b | b <;> simp[b])
    | false =>
     rw[t.skip v] at b;simpa using b
 exact fun x s o=>main x.i x s rfl o
theorem vR {t:Nat} {av:AV} : ∀ {env:List (Nat×Nat×AV)},look env t=some av-> ∃v,CY env t=some v/\(t,v,av)∈env
 | (u,k,x)::l,h=>by
  unfold look at h;unfold CY;split at h
  ·rename_i a;obtain rfl:=ad h;rw[if_pos a,ax a];exact ⟨k,rfl,by simp⟩
  ·rename_i a;rw[if_neg a];obtain ⟨v,b,c⟩:=vR h;exact ⟨v,b,by simp[c]⟩
theorem Rk {t v:Nat} {av:AV} {f:Nat×Nat×AV->Bool} (j: ∀e∈s0.env,f e=true):look ((CX s0.nxt s0.env l).filter f) t=some av->CY ((CX s0.nxt s0.env l).filter f) t=some v->v<s0.nxt->look s0.env t=some av:=by
 induction l with
 | nil =>
  intro b a c;rw[show (CX s0.nxt s0.env []).filter f=s0.env from List.filter_eq_self.2 j] at b;exact b
 | cons x l ih =>
  intro b a c;unfold CX PE at b a;split at b
  ·rename_i d h;rw[h] at a;simp only at a;rw[List.filter_cons] at b a;split at b
   ·rename_i g;rw[if_pos g] at a;unfold look at b;unfold CY at a;split at b
    ·rename_i i;rw[if_pos i] at a
     have:=ad a
     omega
    ·rename_i i;rw[if_neg i] at a;exact ih b a c
   ·rename_i g;rw[if_neg g] at a;exact ih b a c
  ·rename_i h;rw[h] at a;exact ih b a c
theorem abQ (g:Fine P w0 J θ s0) {b:List Nat} {i:Nat} {L1:List TR} (u: ∀y∈L1,y∈l) (c: ∀y∈l,y.i∈b->aaZ P w0 J (uu θ s0.nxt vs) s0.nxt y (vs y.i)) {t v:Nat} {av:AV}
  (h1:look (subS s0 L1 i b).env t=some av) (o:CY (subS s0 L1 i b).env t=some v):(match Xe s0.nxt v with | some j=>vs j | none=>((envL θ s0).lookup t).getD undef)=av.v (uu θ s0.nxt vs):=by
 obtain ⟨x,r,q⟩:=vR h1;obtain rfl:=ad (o.symm.trans r);unfold Xe;by_cases hv:v<s0.nxt
 ·rw[if_pos (aaY.2 hv)];have p:=Rk (fun e k=>Ri.2 (.inl (g.ver e k))) h1 o hv;obtain ⟨e,k,rfl⟩:=vL p;rw[AV.v_same (qd (vs:=vs)) (g.env e k)];simp only;rw[show (envL θ s0).lookup t=_ from jG p];rfl
 ·rw[if_neg (fun h=>hv (aaY.1 h))];obtain ⟨f,a⟩:=GW q;rcases xz f with f | ⟨y,s,w,d,m⟩
  ·exact absurd (g.ver _ f) hv
  ·rcases a with a | a
   ·exact absurd a hv
   ·have d:v=s0.nxt+y.i:=d;have m:av=y.r.av:=m;have a:v - s0.nxt∈b:=a;rw[d,Nat.add_sub_cancel_left] at a;rw[d,Nat.add_sub_cancel_left,m];exact (c y (u y s) a).2.1.symm
end
def Vj (P:Program) (w0:World) (J:Hp) (θ:Th) (n0:Nat) (l:List TR) (T:List Ent):Sm where
 fact i vs:= ∀x∈l,x.i=i->aaZ P w0 J (uu θ n0 vs) n0 x (vs i)
 chunk k vs:=match T[k]? with
  | some e=>toCh P (uu θ n0 vs) e
  | none=>Ch.fr (fun _=>none) []
theorem KK {n0 t v:Nat} {env:List (Nat×Nat×AV)} : ∀ {ts:List Nat},t∈ts->CY env t=some v->Skel.srcOf t (IX n0 env ts)=some (Xe n0 v)
 | u::ts,h,hv=>by
  unfold IX;by_cases a:u=t
  ·subst a;rw[hv];simp only;unfold Skel.srcOf;rw[if_pos (Nat.beq_refl u)]
  ·have b:t∈ts:=(aB h).resolve_left fun e=>a e.symm;cases c:CY env u with
   | none=>exact KK b hv
   | some w =>
    simp only;unfold Skel.srcOf;rw[if_neg fun e=>a (ax e)];exact KK b hv
theorem fin_ok {n0 t v:Nat} {f:Option Nat->Value} : ∀ {env:List (Nat×Nat×AV)} {seen:List Nat},t∉seen->CY env t=some v->((Rh n0 env seen).map fun q=>(q.1,f q.2)).lookup t=some (f (Xe n0 v))
 | (u,k,x)::l,seen,hs,hv=>by
  unfold Rh;unfold CY at hv;split
  ·rename_i a;have a:=qc.1 a;have c:u≠t:=fun e=>hs (e ▸ a);rw[if_neg fun e=>c (ax e)] at hv;exact fin_ok hs hv
  ·rename_i a;rw[List.map_cons,List.lookup_cons];by_cases b:u=t
   ·subst b;rw[if_pos (Nat.beq_refl u)] at hv;obtain rfl:=ad hv;simp
   ·rw[if_neg fun e=>b (ax e)] at hv
    have:(t==u)=false:=by simpa using fun e=>b e.symm
    rw[this];refine fin_ok (fun h=>?_) hv;rcases aB h with h | h
    ·exact b h.symm
    ·exact hs h
section
variable {V:Env} {P:Program} {I:Hp} {w0 w:World} {F:Ch} {J:Hp} {θ:Th} {s0:Sg} {ops:List Oper} {l:List TR} {a:Act}
theorem MB {x:TR} {i:Nat} (h:i∈x.r.av.ids):i∈Vf x:=bj _ h
theorem MC {x:TR} {g:Hdr×Chk} {i:Nat} (b:g∈x.r.gives) (h:i∈Fm g.1 g.2):i∈Vf x:=bt _ (List.mem_flatMap.2 ⟨g,b,h⟩)
theorem abR (y:Fine P w0 J θ s0) {n:Nat} (s:AllOk P w0 n s0 ops l) (q:l.length=ops.length) (A:km (j9 s0.nxt s0.chs l)=true) (C: ∀x∈l,CZ s0.nxt x=true) :
  Loc (qX s0 ops l (j9 s0.nxt s0.chs l)) (Vj P w0 J θ s0.nxt l (j9 s0.nxt s0.chs l)) ops.length:=by
 have agree: ∀x∈l,∀m b:Nat->Value,(∀j,j=x.i\/j∈x.b->b j=m j)-> ∀i∈Vf x,uu θ s0.nxt b i=uu θ s0.nxt m i:=by
  intro x f m b hv i c
  have:=C x f
  unfold CZ at this;rw[aj,uL] at this;have r:=this.1 i c;unfold allowed at r;rw[Bool.or_eq_true,Bool.or_eq_true,aaY,aaX,qc] at r;unfold uu;by_cases d:i<s0.nxt
  ·rw[if_pos d,if_pos d]
  ·rw[if_neg d,if_neg d];exact hv _ (r.resolve_left d)
 refine ⟨fun i c m b hv h x f o=>?_,fun k t m b=>?_,fun i c k t m b hv=>?_⟩
 ·subst o;rw[(s.opAt f _).2] at hv;have v:=agree x f m b hv;obtain ⟨r,B,D⟩:=h x f rfl;refine ⟨AV.ok_loc (fun i c=>v i (MB c)) r,?_,fun g z=>Zv (fun i c=>v i (MC z c)) (D g z)⟩;rw[AV.v_loc fun i c=>v i (MB c),B,hv _ (.inl rfl)]
 ·obtain ⟨e,p,rfl⟩:=List.mem_map.1 t;have u:=vQ A (mX.2 (.inl p));show (match _ with | some e=>toCh P (uu θ s0.nxt b) e | none=>_)=match _ with | some e=>toCh P (uu θ s0.nxt m) e | none=>_
  rw[u];simp only;rw[qa qd (y.chs e p),qa qd (y.chs e p)]
 ·obtain ⟨x,f,o,-⟩:=s.at (fun x=>x) i (by rw[q];exact c);subst o;rw[(s.opAt f _).2] at hv;rw[(s.opAt f _).1] at t;obtain ⟨e,p,rfl⟩:=List.mem_map.1 t;have u:=vQ A (mX.2 (.inr ⟨x,f,p⟩));show (match _ with | some e=>toCh P (uu θ s0.nxt b) e | none=>_)=match _ with | some e=>toCh P (uu θ s0.nxt m) e | none=>_
  rw[u];simp only;exact Vd fun i c=>agree x f m b hv i (MC (lG p).2 c)
theorem Zz (hf:Fine P w0 J θ s0) {n:Nat} (L:AllOk P w0 n s0 ops l) (hlen:l.length=ops.length) (hB:oL s0.chs=true) (hK:km (j9 s0.nxt s0.chs l)=true) (hc: ∀x∈l,CZ s0.nxt x=true)
  (hok:(qX s0 ops l (j9 s0.nxt s0.chs l)).ok n (knS s0) ops=true) (hkn: ∀t,knS s0 t=true->((envL θ s0).lookup t).isSome=true) (hlt: ∀x∈l,∀j∈x.b,j<x.i) :
  ∀i o,ops[i]? =some o->(qX s0 ops l (j9 s0.nxt s0.chs l)).goal (Vj P w0 J θ s0.nxt l (j9 s0.nxt s0.chs l)) P J w0 (envL θ s0) i o:=by
 intro i o ho d p;obtain ⟨x,S,hxi,-⟩:=L.at (fun x=>x) i (by rw[hlen];exact (List.getElem?_eq_some_iff.1 ho).1);subst hxi;obtain ⟨l1,G,h2,h3,h4⟩:=L.get S;obtain rfl:x.o=o:=ad (G.ho.symm.trans ho);obtain ⟨e1,e2⟩:=L.opAt S (j9 s0.nxt s0.chs l);have hG:=Skel.good_of_ok hkn hok ho;rw[e2] at p;have m: ∀y∈l,y.i∈x.b->aaZ P w0 J (uu θ s0.nxt d) s0.nxt y (d y.i):=fun y r R=>p y.i R y r rfl;have A:=(words hB hK hf L hc hlt x.b (fun y r R k N=>L.closed hlt x S y r R k N) m x S fun k N=>N).1;have O:x.s.nxt=s0.nxt+x.i:=by rw[G.hs];rfl
 have hw:NG x.o d=some x.run:=by
  have f:=G.gd;unfold GdOk at f;unfold NG;cases D:x.o.guard with
  | none=>rw[D] at f;simp only at f⊢;rw[f]
  | some gw =>
   obtain ⟨g,want⟩:=gw;rw[D] at f;simp only at f⊢;obtain ⟨y,r,hyg,q⟩:=f;obtain ⟨t,k1,k2⟩:=hG.guard g want D;have hgb:g∈x.b:=by
    have ht:t∈slotsOf ops.toArray x.o:=by
     unfold slotsOf Oper.looksAt;refine bt _ ?_;rw[D];simp only;rw[k1];simp
    rcases hG.slots t ht with ⟨E,-,-⟩ | ⟨j,E,-,q3,-⟩
    ·rw[k2] at E;cases E
    ·rw[k2] at E;obtain rfl:g=j:=by simpa using E
     rwa [e2] at q3
   subst hyg;have hv:=(m y (h3 y r) hgb).2.1;rcases q with ⟨c,q,U⟩ | ⟨q,U⟩
   ·rw[q] at hv;rw[<-hv,U];rfl
   ·rw[q] at hv;rw[<-hv,U];rfl
 rw[hw];have s: ∀v,uu θ s0.nxt (upd d x.i v)=upd (uu θ s0.nxt d) (s0.nxt+x.i) v:=fun v=>Vi;have Q: ∀B:Nat->Value,∀e∈j9 s0.nxt s0.chs l,(Vj P w0 J θ s0.nxt l (j9 s0.nxt s0.chs l)).chunk (numOf e (j9 s0.nxt s0.chs l)) B=toCh P (uu θ s0.nxt B) e:=by
  intro B e H;show (match _ with | some e=>toCh P (uu θ s0.nxt B) e | none=>_)=_;rw[vQ hK H]
 cases U:x.run with
 | false =>
  have T:=G.skip U;refine ⟨fun y r K=>?_,by rw[e1];show (x.r.ns.map _)= [];rw[T];rfl,by rw[e1];show (mW _ x).map _= [];unfold mW;rw[T];rfl⟩;obtain rfl:=L.uniq y r x S K;refine ⟨?_,?_,fun g hg=>?_⟩
  ·rw[T];trivial
  ·rw[T,kU];rfl
  ·rw[T] at hg;cases hg
 | true =>
  obtain ⟨hGd,N⟩:=G.good U;have base:=hGd.op J _ A;have Z: ∀e,e∈x.r.rs++x.r.ns->e∈j9 s0.nxt s0.chs l/\e∈x.s.chs:=by
   intro e H;have M:e∈x.s.chs:=hGd.perm.mem_iff.2 (bj _ H);refine ⟨?_,M⟩;rw[G.hs] at M;rcases mX.1 (Ak M).1 with h | ⟨y,r,h⟩
   ·exact mX.2 (.inl h)
   ·exact mX.2 (.inr ⟨y,h3 y r,h⟩)
  have hev: ∀u∈x.o.op.operands,(qX s0 ops l (j9 s0.nxt s0.chs l)).ev (envL θ s0) x.i d u=evL (envL (uu θ s0.nxt d) x.s) u:=by
   intro u hu;cases u with
   | tmp t =>
    unfold okO at N;rw[aj,aj] at N;have hx1:=List.all_eq_true.1 N.1.1 (.tmp t) (by simpa using hu);simp only[Bool.or_false] at hx1;obtain ⟨av,z⟩:=Option.isSome_iff_exists.1 hx1;have z:look x.s.env t=some av:=z;rw[aK (x:=.tmp t) z];obtain ⟨v,hv,hm⟩:=vR z;have ht:t∈slotsOf ops.toArray x.o:=by
     unfold slotsOf Oper.looksAt;exact bj _ (List.mem_filterMap.2 ⟨.tmp t,by simpa using hu,rfl⟩)
    have hsrc:Skel.srcOf t ((qX s0 ops l (j9 s0.nxt s0.chs l)).op x.i).src=some (Xe s0.nxt v):=by
     rw[e1];exact KK ht hv
    have hval:=abQ (L1:=l1) (b:=x.b) (i:=x.i) hf h3 m (t:=t) (v:=v) (av:=av) (by rw[<-G.hs];exact z) (by rw[<-G.hs];exact hv);rw[<-hval];show (match Skel.srcOf t _ with | some (some j)=>d j | _=>_)=_;rw[hsrc];cases Xe s0.nxt v <;> rfl
   | _=>rfl
  have hpre:((((qX s0 ops l (j9 s0.nxt s0.chs l)).op x.i).reads++((qX s0 ops l (j9 s0.nxt s0.chs l)).op x.i).needs).map ((Vj P w0 J θ s0.nxt l (j9 s0.nxt s0.chs l)).chunk · d))=(x.r.rs++x.r.ns).map (toCh P (uu θ s0.nxt d)):=by
   rw[e1];show ((x.r.rs.map _)++(x.r.ns.map _)).map _=_;rw[<-aX,List.map_map];exact List.map_congr_left fun e H=>Q d e (Z e H).1
  intro wd C T;have Y:=T;rw[hpre] at Y;have hb:=base wd C Y;have W:noSelect x.o=true:=hG.sel;rw[<-sZ W hev] at hb;refine hb.imp fun v w' hv=>⟨fun y r K=>?_,?_⟩
  ·obtain rfl:=L.uniq y r x S K;rw[s,kU];obtain ⟨E,q2,q3⟩:=hv.1;rw[O] at E q2 q3;exact ⟨E,q2,q3⟩
  ·have X:=hv.2;rw[O] at X;have hgv:((((qX s0 ops l (j9 s0.nxt s0.chs l)).op x.i).reads++((qX s0 ops l (j9 s0.nxt s0.chs l)).op x.i).gives).map ((Vj P w0 J θ s0.nxt l (j9 s0.nxt s0.chs l)).chunk · (upd d x.i v)))=x.r.rs.map (toCh P (uu θ s0.nxt d))++x.r.gives.map fun g=>toCh P (upd (uu θ s0.nxt d) (s0.nxt+x.i) v) (g.1,s0.nxt+x.i,g.2):=by
    rw[e1];show ((x.r.rs.map _)++((mW s0.nxt x).map _)).map _=_;rw[aX,List.map_map,List.map_map];congr 1
    ·refine List.map_congr_left fun e H=>?_;show (Vj P w0 J θ s0.nxt l (j9 s0.nxt s0.chs l)).chunk (numOf e _) (upd d x.i v)=_;obtain ⟨m1,m2⟩:=Z e (bj _ H);rw[Q _ e m1,s]
     have:=A.chs e m2
     rw[O] at this;exact qa Same.upd this
    ·unfold mW;rw[List.map_map];refine List.map_congr_left fun g hg=>?_;show (Vj P w0 J θ s0.nxt l (j9 s0.nxt s0.chs l)).chunk (numOf (g.1,s0.nxt+x.i,g.2) _) (upd d x.i v)=_;rw[Q _ _ (mX.2 (.inr ⟨x,S,List.mem_map.2 ⟨g,hg,rfl⟩⟩)),s]
   exact Eq.mp (congrArg (fun cs=>St J w0 w' (cs++C)) hgv.symm) X
theorem Rl {Y:Type} {id:Nat} {k:Sg->Option Y} {res:Y} {Q:Exit->Act->World->Prop} (hT:TTok P V.tt) (hF:FTok P V.ft) (hm:P.follows .mixedOrders=true) (h:My V ops k s0=some res) (r:Sim P I w0 F V.n J θ s0 a w)
  (K: ∀s' θ' a' w',k s'=some res->Sim P I w0 F V.n J θ' s' a' w'->Fr s0 θ s' θ'->Q .normal a' w'):(Code.region id ops.toArray true).wp P Q a w:=by
 unfold My at h;obtain ⟨l,h,p,o⟩:=Rg (w0:=w0) hT hF h rfl rfl trivial;obtain ⟨O,h⟩:=ak h;unfold Xg at O;simp only[aj,List.all_eq_true] at O;obtain ⟨hB,T,hc,L,W⟩:=O;have G:=r.fine;have R: ∀t,knS s0 t=true->((envL θ s0).lookup t).isSome=true:=by
  intro t ht;obtain ⟨av,hav⟩:=Option.isSome_iff_exists.1 ht;rw[show (envL θ s0).lookup t=_ from jG hav];rfl
 have A: ∀x∈l,∀j∈x.b,j<x.i:=by
  intro x U j hj;obtain ⟨l1,h1,-⟩:=p.get U;have hG:=Skel.good_of_ok R L h1.ho
  have:=hG.bef j (by rw[(p.opAt U _).2];exact hj)
  exact this.1
 refine Vc (C:=[F]) (qX s0 ops l (j9 s0.nxt s0.chs l)) (Vj P w0 J θ s0.nxt l (j9 s0.nxt s0.chs l)) R (abR G p o T hc) hm r.agr r.st ?_ L W (Zz G p o hB T hc L R A) ?_
 ·refine (List.Perm.of_eq ?_);congr 1;show _=(s0.chs.map _).map _;rw[List.map_map];refine List.map_congr_left fun e D=>?_;show _=match _ with | some e=>toCh P (uu θ s0.nxt fun _=>undef) e | none=>_
  rw[vQ T (mX.2 (.inl D))];exact (qa qd (G.chs e D)).symm
 ·intro n a' w' B hA hst;have m: ∀y∈l,aaZ P w0 J (uu θ s0.nxt n) s0.nxt y (n y.i):=fun y d=>B y.i (by rw[<-o];exact p.lt y d) y d rfl;have X:=words hB T G p hc A (List.range l.length) (fun y d _ k H=>List.mem_range.2 (Nat.lt_trans (A y d k H) (p.lt y d))) (fun y d _=>m y d);have g: ∀x∈l,_:=fun x U=>X x U fun k H=>List.mem_range.2 (Nat.lt_trans (A x U k H) (p.lt x U));have S:Fine P w0 J (uu θ s0.nxt n) (Ve s0 l):=MA hB T G p hc l (fun y d=>d) (List.range l.length) l.length (fun j hj=>List.mem_range.1 hj) (fun y d _=>m y d) (fun y d _=>(g y d).2.1) (fun y d _=>(g y d).2.2) (Xj G p);refine K (Ve s0 l) (uu θ s0.nxt n) a' w' h ⟨r.le,hA.sub fun t v hv=>?_,?_,S⟩ (Fr.rfl.trans ⟨Nat.le_add_right _ _,qd,fun e D hv=>?_,fun e D h' u c hs=>?_⟩)
  ·
   cases hl:look (Ve s0 l).env t with
   | none =>
    exfalso
    have: ∀ {env:List (Nat×Nat×AV)} {θ:Th},look env t=none->(env.map fun e=>(e.1,e.2.2.v θ)).lookup t=none:=by
     intro env θ;induction env with
     | nil=>intro _;rfl
     | cons e env ih =>
      intro hh;unfold look at hh;split at hh
      ·cases hh
      ·rename_i hu;rw[List.map_cons,List.lookup_cons];have hne:(t==e.1)=false:=by
        simp only[beq_eq_false_iff_ne];intro e';subst e';exact hu (Nat.beq_refl _)
       rw[show (t==(e.1,AV.v θ e.2.2).1)=false from hne];exact ih hh
    rw[show (envL (uu θ s0.nxt n) (Ve s0 l)).lookup t=none from this hl] at hv;cases hv
   | some av =>
    have hv2:=jG (θ:=uu θ s0.nxt n) hl;obtain rfl:=ad (hv2.symm.trans hv);obtain ⟨u,E,-⟩:=vR hl;have Z:=abQ (L1:=l) (b:=List.range l.length) (i:=l.length) G (fun y d=>d) (fun y d _=>m y d) (t:=t) (v:=u) (av:=av) hl E
    have:=fin_ok (n0:=s0.nxt) (seen:=[]) (f:=fun s=>match s with | some j=>n j | none=>((envL θ s0).lookup t).getD undef) (by simp) E
    have key: ∀M:List (Nat×Option Nat),(M.map fun q=>(q.1,match q.2 with | some j=>n j | none=>((envL θ s0).lookup q.1).getD undef)).lookup t=(M.map fun q=>(q.1,(fun s=>match s with | some j=>n j | none=>((envL θ s0).lookup t).getD undef) q.2)).lookup t:=by
     intro M;induction M with
     | nil=>rfl
     | cons q M ih =>
      rw[List.map_cons,List.map_cons,List.lookup_cons,List.lookup_cons];by_cases e:t=q.1
      ·subst e;simp
      ·rw[show (t==q.1)=false from by simpa using e];exact ih
    exact (key _).trans (this.trans (congrArg some Z))
  ·have e:((Ve s0 l).chs.map (numOf · (j9 s0.nxt s0.chs l))).map ((Vj P w0 J θ s0.nxt l (j9 s0.nxt s0.chs l)).chunk · n)=(Ve s0 l).chs.map (toCh P (uu θ s0.nxt n)):=by
    rw[List.map_map];refine List.map_congr_left fun e D=>?_;show (match _ with | some e=>toCh P (uu θ s0.nxt n) e | none=>_)=_;rw[vQ T (Ak D).1]
   rw[<-e];exact hst
  ·obtain ⟨z,h6⟩:=GW D;rcases xz z with z | ⟨y,d,k1,k2,k3⟩
   ·exact z
   ·omega
  ·obtain ⟨z,h6⟩:=Ak D;have N:Pd s0 l h' u c:=by
    rcases mX.1 z with z | ⟨y,d,z⟩
    ·exact .inl ⟨e,z,hs⟩
    ·exact (g y d).2.1 e z h' u c hs
   rcases N with ⟨e0,he0,H⟩ | ⟨y,d,H⟩
   ·exact .inr ⟨e0,he0,H⟩
   ·have:=(lG H).1
    exact .inl (by simp only at this;omega)
theorem Ol {hs:List Hdr} : ∀ {s:Sg} {J:Hp},Sim P I w0 F V.n J θ s a w-> ∃J',J.le J'/\Sim P I w0 F V.n J' θ (GV hs s) a w/\Fr s θ (GV hs s) θ:=by
 induction hs with
 | nil=>exact fun b=>⟨_,Hp.le.rfl,b,Fr.rfl⟩
 | cons h hs ih =>
  intro s J b;have e: ∃J',J.le J'/\Sim P I w0 F V.n J' θ (Ah h s) a w/\Fr s θ (Ah h s) θ:=by
   unfold Ah;split
   ·exact IK ‹_› b
   ·exact ⟨J,Hp.le.rfl,b,Fr.rfl⟩
  obtain ⟨m,d,i,k⟩:=e;obtain ⟨g,c,f,j⟩:=ih i;exact ⟨g,d.trans c,f,k.trans j⟩
theorem Rm {s:Sg} (b:Sim P I w0 F V.n J θ s a w): ∃J',J.le J'/\Sim P I w0 F V.n J' θ (yE ops s) a w/\Fr s θ (yE ops s) θ:=by
 unfold yE;split
 ·exact Ol b
 ·exact ⟨J,Hp.le.rfl,b,Fr.rfl⟩
theorem Vk {tr:Trs} {s:Sg} (n:Sim P I w0 F V.n J θ s a w): ∃b θ',J.le b/\Sim P I w0 F V.n b θ' (Vg tr ops s) a w/\Fr s θ (Vg tr ops s) θ':=by
 obtain ⟨θ1,g,i⟩:=B2 n;obtain ⟨h,c,m,o⟩:=Rm (ops:=ops) g;obtain ⟨e,d⟩:=vN (hs:=C1 (yE ops (tj s)) ops) m;have d:=(i.trans o).trans d
 show∃b θ',J.le b/\Sim P I w0 F V.n b θ' (Mz tr ops (yA (C1 (yE ops (tj s)) ops) (yE ops (tj s)))) a w/\Fr s θ (Mz tr ops (yA (C1 (yE ops (tj s)) ops) (yE ops (tj s)))) θ'
 unfold Mz;split
 ·exact ⟨h,θ1,c,e,d⟩
 ·obtain ⟨b,θ',f,j,k⟩:=xy e;exact ⟨b,θ',c.trans f,j,d.trans k⟩
theorem Vl {Y:Type} {id:Nat} {k:Sg->Option Y} {res:Y} {Q:Exit->Act->World->Prop} (j:TTok P V.tt) (m:FTok P V.ft) (g:P.follows .mixedOrders=true) {s:Sg} (h:abP V ops k s=some res) (o:Sim P I w0 F V.n J θ s a w)
  (K: ∀b J' θ' d c,k b=some res->Sim P I w0 F V.n J' θ' b d c->J.le J'->Fr s θ b θ'->Q .normal d c):(Code.region id ops.toArray true).wp P Q a w:=by
 obtain ⟨i,θ1,p,n,r⟩:=Vk (tr:=V.tr) (ops:=ops) o;exact Rl j m g (show My V ops k (Vg V.tr ops s)=some res from h) n fun b θ' d c q f e=>K b i θ' d c q f p (r.trans e)
end
inductive Ann
 | no
 | two (a b:Ann)
 | loop (sh:List It) (a:Ann)
 | join (sh:List It) (a b:Ann)
 | joinX (sh:List It) (a b:Ann)
 | at (sh:List It) (a:Ann)
 | atX (sh:List It) (a:Ann)
def Ann.t (a:Ann):Ann:=.two .no a
def Ann.l:Ann->Ann
 | .two a _=>a
 | _=>.no
def Ann.r:Ann->Ann
 | .two _ b=>b
 | _=>.no
def I0:Code->List Nat
 | .region _ ops _=>ops.toList.filterMap (·.dst)
 | .seq a b=>I0 a++I0 b
 | .cond _ a b=>I0 a++I0 b
 | .block _ a=>I0 a
 | .loop a=>I0 a
 | .scope a=>I0 a
 | _=>[]
def Rn:List It->List Nat
 | [] =>[]
 | .slot t _::is=>t::Rn is
 | _::is=>Rn is
def Ey (c:Code) (is:List It):List Nat:=I0 c++Rn is
def abS {Y:Type} (i:Nat) (kb:Sg->Option Y) (kx:Nat->Sg->Option Y):Nat->Sg->Option Y:=fun j s=>if Nat.beq j i then kb s else kx j s
def abT (V:Env) {R Y:Type} (c:Code) (n:Ann) (kr:R->Option Y) (kx:Nat->Sg->Option Y) (kn:Sg->Option Y) (s:Sg) (run:(Z:Type)->Ann->(R->Option Z)->(Nat->Sg->Option Z)->(Sg->Option Z)->Sg->Option Z):Option Y:=match n with
 | .at sh n=>(CT (Ey c sh) sh s).bind fun q=>Option.bind (run (Xa (ur q.its)) n (fun _=>none) (fun _ _=>none) (fun s'=>(q.of s').bind fun d=>some (ofN _ d)) s) fun d=>kn (q.at (toN _ d))
 | .atX sh n=>(CT (Ey c sh) sh s).bind fun q=>zW (run (Y ⊕ Xa (ur q.its)) n (fun r=>(kr r).bind fun t=>some (.inl t)) (fun i s'=>(kx i s').bind fun t=>some (.inl t)) (fun s'=>(q.of s').bind fun d=>some (.inr (ofN _ d))) s) fun d=>kn (q.at (toN _ d))
 | n=>run Y n kr kx kn s
noncomputable def mY (V:Env) {R:Type} (rt:Sg->Option R):(c:Code)-> {Y:Type} ->Ann->(R->Option Y)->(Nat->Sg->Option Y)->(Sg->Option Y)->Sg->Option Y
 | .skip,_,_,kr,kx,kn,s=>kn s
 | .ret,_,_,kr,kx,kn,s=>(rt s).bind kr
 | .region id ops dr,_,n,kr,kx,kn,s=>abT V (.region id ops dr) n kr kx kn s fun Z n kr kx kn s=>match dr with
  | false=>Mr V ops.toList (fun s=>kn (aaT s)) ops.toList s
  | true=>abP V ops.toList (fun s=>kn (aaT s)) s
 | .seq a b,Y,n,kr,kx,kn,s=>match n with
  | .join sh n1 n2=>(CT (Ey a sh) sh s).bind fun q=>Option.bind (mY V rt a n1 (Y:=Xa (ur q.its)) (fun _=>none) (fun _ _=>none) (fun s'=>(q.of s').bind fun d=>some (ofN _ d)) s) fun d=>mY V rt b n2 kr kx kn (q.at (toN _ d))
  | .joinX sh n1 n2=>(CT (Ey a sh) sh s).bind fun q=>zW (mY V rt a n1 (Y:=Y ⊕ Xa (ur q.its)) (fun r=>(kr r).bind fun t=>some (.inl t)) (fun i s'=>(kx i s').bind fun t=>some (.inl t)) (fun s'=>(q.of s').bind fun d=>some (.inr (ofN _ d))) s) fun d=>mY V rt b n2 kr kx kn (q.at (toN _ d))
  | n=>mY V rt a n.l kr kx (fun s'=>mY V rt b n.r kr kx kn s') s
 | .cond c a b,_,n,kr,kx,kn,s=>abT V (.cond c a b) n kr kx kn s fun Z n kr kx kn s=>(opd s c).bind fun v=>onB v (mY V rt a n.l kr kx kn s) (mY V rt b n.r kr kx kn s)
 | .block i (.loop c),_,n,kr,kx,kn,s=>abT V (.block i (.loop c)) n kr kx kn s fun Z n kr kx kn s=>match n with
  | .loop sh n=>(CT (Ey c sh) sh s).bind fun q=>(q.of s).bind fun d0 =>
    aM (ah (fun d=>mY V rt c n (Y:=Out R (Xa (ur q.its))) (fun r=>some (.ret r)) (abS i (fun s'=>(q.of s').bind fun d=>some (.brk (ofN _ d))) fun _ _=>none) (fun s'=>(q.of s').bind fun d=>some (.nxt (ofN _ d))) (q.at (toN _ d))) aR (ofN _ d0)) kr (fun d=>kn (q.at (toN _ d)))
  | _=>none
 | .block i c,_,n,kr,kx,kn,s=>abT V (.block i c) n kr kx kn s fun Z n kr kx kn s=>mY V rt c n kr (abS i kn kx) kn s
 | .exit i,_,_,kr,kx,kn,s=>kx i s
 | _,_,_,_,_,_,_=>none
section
variable {V:Env} {P:Program} {I:Hp} {w0:World} {F:Ch} {R:Type} {rt:Sg->Option R}
def IOk (V : Env) (P : Program) (I : Hp) (w0 : World) (F : Ch) {R : Type} (rt : Sg -> Option R) (c : Code) : Prop := ∀ {Y : Type} (n : Ann) {kr : R -> Option Y} {kx : Nat -> Sg -> Option Y} {kn : Sg -> Option Y} {s : Sg} {y : Y} {Q : Exit -> Act -> World -> Prop} {J : Hp} {θ : Th} {a : Act} {w : World},
    mY V rt c n kr kx kn s = some y -> Sim P I w0 F V.n J θ s a w ->
    (∀ J' θ' s' a' w', kn s' = some y -> Sim P I w0 F V.n J' θ' s' a' w' -> J.le J' -> Fr s θ s' θ' -> Q .normal a' w') ->
    (∀ i J' θ' s' a' w', kx i s' = some y -> Sim P I w0 F V.n J' θ' s' a' w' -> J.le J' -> Fr s θ s' θ' -> Q (.exit i) a' w') ->
    (∀ r J' θ' s' a' w', rt s' = some r -> kr r = some y -> Sim P I w0 F V.n J' θ' s' a' w' -> J.le J' -> Fr s θ s' θ' -> Q .ret a' w') -> c.wp P Q a w
def ROk (V : Env) (P : Program) (I : Hp) (w0 : World) (F : Ch) {R : Type} (rt : Sg -> Option R) (c : Code) (run : (Z : Type) -> Ann -> (R -> Option Z) -> (Nat -> Sg -> Option Z) -> (Sg -> Option Z) -> Sg -> Option Z) : Prop := ∀ {Y : Type} (n : Ann) {kr : R -> Option Y} {kx : Nat -> Sg -> Option Y} {kn : Sg -> Option Y} {s : Sg} {y : Y} {Q : Exit -> Act -> World -> Prop} {J : Hp} {θ : Th} {a : Act} {w : World},
    run Y n kr kx kn s = some y -> Sim P I w0 F V.n J θ s a w ->
    (∀ J' θ' s' a' w', kn s' = some y -> Sim P I w0 F V.n J' θ' s' a' w' -> J.le J' -> Fr s θ s' θ' -> Q .normal a' w') ->
    (∀ i J' θ' s' a' w', kx i s' = some y -> Sim P I w0 F V.n J' θ' s' a' w' -> J.le J' -> Fr s θ s' θ' -> Q (.exit i) a' w') ->
    (∀ r J' θ' s' a' w', rt s' = some r -> kr r = some y -> Sim P I w0 F V.n J' θ' s' a' w' -> J.le J' -> Fr s θ s' θ' -> Q .ret a' w') -> c.wp P Q a w
theorem GX {c:Code} {run:(Z:Type)->Ann->(R->Option Z)->(Nat->Sg->Option Z)->(Sg->Option Z)->Sg->Option Z} (A:ROk V P I w0 F rt c run) {Y:Type} (n:Ann) {C:R->Option Y} {D:Nat->Sg->Option Y} {B:Sg->Option Y} {s:Sg} {y:Y} {Q:Exit->Act->World->Prop} {J:Hp} {θ:Th} {a:Act} {w:World}
  (h:abT V c n C D B s run=some y) (m:Sim P I w0 F V.n J θ s a w)
  (G: ∀g θ' b f e,B b=some y->Sim P I w0 F V.n g θ' b f e->J.le g->Fr s θ b θ'->Q .normal f e)
  (O: ∀i g θ' b f e,D i b=some y->Sim P I w0 F V.n g θ' b f e->J.le g->Fr s θ b θ'->Q (.exit i) f e)
  (H: ∀r g θ' b f e,rt b=some r->C r=some y->Sim P I w0 F V.n g θ' b f e->J.le g->Fr s θ b θ'->Q .ret f e):c.wp P Q a w:=by
 have plain:=fun n h=>A n h m G O H;cases n with
 | «at» u n =>
  have ⟨q,v,h⟩:=bind_some (show (CT (Ey c u) u s).bind _=some y from h);have ⟨d,z,E⟩:=bind_some h;have M:=yC v m.fine;refine A n z m (fun g θ' b f e l k p j=>?_) (fun i g θ' b f e l k p j=>by cases l) (fun r g θ' b f e S x k p j=>by cases x);have ⟨K,N,l⟩:=bind_some l;grind[ad,CV,rG]
 | atX u n =>
  have ⟨q,v,h⟩:=bind_some (show (CT (Ey c u) u s).bind _=some y from h);have ⟨o,z,E⟩:=E4 h;have M:=yC v m.fine;refine A n z m (fun g θ' b f e l k p j=>?_) (fun i g θ' b f e l k p j=>?_) (fun r g θ' b f e S x k p j=>?_)
  ·have ⟨K,N,l⟩:=bind_some l;grind[ad,CV,Sum.inr.inj,rG]
  ·have ⟨t,L,l⟩:=bind_some l;grind
  ·have ⟨t,L,l⟩:=bind_some x;grind
 | no=>exact plain _ h
 | two _ _=>exact plain _ h
 | loop _ _=>exact plain _ h
 | join _ _ _=>exact plain _ h
 | joinX _ _ _=>exact plain _ h
theorem xA (hT:TTok P V.tt) (hF:FTok P V.ft) (hm:P.follows .mixedOrders=true): ∀c:Code,IOk V P I w0 F rt c/\ ∀c',c= .loop c'->IOk V P I w0 F rt c':=by
 intro c;induction c with
 | skip =>
  refine ⟨?_,fun c' e=>(by cases e)⟩;intro Y n L O M s y Q J θ a w h p A E G;exact wp_skip (A J θ s a w h p Hp.le.rfl Fr.rfl)
 | ret =>
  refine ⟨?_,fun c' e=>(by cases e)⟩;intro Y n L O M s y Q J θ a w h p A E G;have ⟨r,h1,T⟩:=bind_some (show (rt s).bind L=some y from h);grind[wp_ret,Hp.le.rfl,Fr.rfl]
 | exit i =>
  refine ⟨?_,fun c' e=>(by cases e)⟩;intro Y n L O M s y Q J θ a w h p A E G;exact wp_exit (E i J θ s a w h p Hp.le.rfl Fr.rfl)
 | region id ops dr =>
  refine ⟨?_,fun c' e=>(by cases e)⟩;intro Y n L O M s y Q J θ a w h p A E G;refine GX (fun {Y} n {L O M s y Q J θ a w} h p A E G=>?_) n h p A E G;cases dr with
  | true =>
   have h:=h
   have:=Vl (id:=id) hT hF hm h p fun D u θ' C B k g m f=>by
    have ⟨θ2,K,H⟩:=Q0 g;exact A u θ2 (aaT D) C B k K m (f.trans H)
   omega
  | false =>
   have h:=h;exact wp_region_lit (l:=ops.toList) (IM hT hF h p fun D u θ' C B k g m f=>by
    have ⟨θ2,K,H⟩:=Q0 g;exact A u θ2 (aaT D) C B k K m (f.trans H))
 | cond c x y ihx ihy =>
  refine ⟨?_,fun c' e=>(by cases e)⟩;intro Y n L O M s r Q J θ a w h p A E G;refine GX (fun {Y} n {L O M s r Q J θ a w} h p A E G=>?_) n h p A E G;have ⟨v,hv',h⟩:=bind_some (show (opd s c).bind _=some r from h);have ⟨b,hb,h⟩:=WN h;have k:Pg (envL θ s) c=true:=by
   cases c with
   | tmp t =>
    have:=jG (θ:=θ) (show look s.env t=some v from hv')
    show ((envL θ s).lookup t).isSome=true;grind[envL]
   | _=>rfl
  have hev:=(aK hv').trans (hb θ);cases b with
  | true=>exact TS p.agr k hev rfl (ihx.1 n.l h p A E G)
  | false=>exact Pp p.agr k hev rfl (ihy.1 n.r h p A E G)
 | seq x z ihx ihz =>
  refine ⟨?_,fun c' e=>(by cases e)⟩;intro Y n L O M s y Q J θ a w h p A E G;have plain:=fun h =>
   wp_seq (ihx.1 n.l h p (fun u θ' D C B k g m f=>ihz.1 n.r k g (fun J2 θ2 s2 a2 w2 k2 K L2 H=>A J2 θ2 s2 a2 w2 k2 K (m.trans L2) (f.trans H)) (fun i J2 θ2 s2 a2 w2 k2 K L2 H=>E i J2 θ2 s2 a2 w2 k2 K (m.trans L2) (f.trans H)) (fun r J2 θ2 s2 a2 w2 S N K L2 H=>G r J2 θ2 s2 a2 w2 S N K (m.trans L2) (f.trans H)))
    (fun i u θ' D C B k g m f=>Yh (E i u θ' D C B k g m f)) (fun r u θ' D C B S N g m f=>Yi (G r u θ' D C B S N g m f)))
  cases n with
  | join sh n1 n2 =>
   have ⟨q,hq,h⟩:=bind_some (show (CT (Ey x sh) sh s).bind _=some y from h);have ⟨d,h1,T⟩:=bind_some h;have hC:=yC hq p.fine;refine wp_seq (ihx.1 n1 h1 p (fun u θ' D C B k g m f=>?_) (fun i u θ' D C B k g m f=>by cases k) (fun r u θ' D C B S N g m f=>by cases N));have ⟨d',hd,k⟩:=bind_some k;cases ad k;have ⟨θ2,K,H⟩:=CV hC g f m hd;rw[rG] at T;exact ihz.1 n2 T K (fun J3 θ3 s3 a3 w3 k3 S3 U W=>A J3 θ3 s3 a3 w3 k3 S3 (m.trans U) (H.trans W)) (fun i J3 θ3 s3 a3 w3 k3 S3 U W=>E i J3 θ3 s3 a3 w3 k3 S3 (m.trans U) (H.trans W)) (fun r J3 θ3 s3 a3 w3 S N S3 U W=>G r J3 θ3 s3 a3 w3 S N S3 (m.trans U) (H.trans W))
  | joinX sh n1 n2 =>
   have ⟨q,hq,h⟩:=bind_some (show (CT (Ey x sh) sh s).bind _=some y from h);have ⟨o,h1,T⟩:=E4 h;have hC:=yC hq p.fine;refine wp_seq (ihx.1 n1 h1 p (fun u θ' D C B k g m f=>?_) (fun i u θ' D C B k g m f=>?_) (fun r u θ' D C B S N g m f=>?_))
   ·have ⟨d',hd,k⟩:=bind_some k;cases ad k;have ⟨θ2,K,H⟩:=CV hC g f m hd;rcases T with ⟨d,e,T⟩ | T
    ·cases Sum.inr.inj e;rw[rG] at T;exact ihz.1 n2 T K (fun J3 θ3 s3 a3 w3 k3 S3 U W=>A J3 θ3 s3 a3 w3 k3 S3 (m.trans U) (H.trans W)) (fun i J3 θ3 s3 a3 w3 k3 S3 U W=>E i J3 θ3 s3 a3 w3 k3 S3 (m.trans U) (H.trans W)) (fun r J3 θ3 s3 a3 w3 S N S3 U W=>G r J3 θ3 s3 a3 w3 S N S3 (m.trans U) (H.trans W))
    grind
   ·have ⟨t,ht,k⟩:=bind_some k;grind[ad,Sum.inl.inj,Yh]
   ·have ⟨t,ht,k⟩:=bind_some N;cases ad k;rcases T with ⟨d,e,T⟩ | T
    ·cases e
    grind[Sum.inl.inj,Yi]
  | no=>exact plain h
  | two _ _=>exact plain h
  | loop _ _=>exact plain h
  | «at» _ _=>exact plain h
  | atX _ _=>exact plain h
 | block i x ih =>
  refine ⟨?_,fun c' e=>(by cases e)⟩;intro Y n L O M s y Q J θ a w h p A E G;have plain:ROk V P I w0 F rt (.block i x) (fun Z n L O M s=>mY V rt x n L (abS i M O) M s):=fun {Y} n {L O M s y Q J θ a w} h p A E G =>
   wp_block (ih.1 n h p (fun u θ' D C B k g m f=>afs (A u θ' D C B k g m f))
    (fun j u θ' D C B k g m f=>by
     unfold abS at k;split at k
     ·rename_i hj
      have:=ax hj
      subst this;exact abb (A u θ' D C B k g m f)
     ·rename_i hj;exact abc (fun e=>hj (by rw[e];exact Nat.beq_refl i)) (E j u θ' D C B k g m f))
    (fun r u θ' D C B S N g m f=>aeP (G r u θ' D C B S N g m f)))
  cases x with
  | loop x =>
   refine GX (fun {Y} n {L O M s y Q J θ a w} h p A E G=>?_) n h p A E G;cases n with
   | loop sh n =>
    have ⟨q,hq,h⟩:=bind_some (show (CT (Ey x sh) sh s).bind _=some y from h);have ⟨d0,hd0,h⟩:=bind_some h;have ⟨o,ho,hc⟩:=NJ h;have hC:=yC hq p.fine;have hx:IOk V P I w0 F rt x:=ih.2 x rfl;refine wp_block (TU (fun d a w=> ∃u θ',J.le u/\Sim P I w0 F V.n u θ' (q.at (toN _ d)) a w/\Fr s θ (q.at (toN _ d)) θ') ho ?_ ?_)
    ·have ⟨θ1,S1,F1⟩:=CV hC p Fr.rfl Hp.le.rfl hd0;exact ⟨J,θ1,Hp.le.rfl,by rw[rG];exact S1,by rw[rG];exact F1⟩
    ·rintro d o' hf X a w ⟨J1,θ1,L1,S1,F1⟩;refine hx n hf S1 (fun u θ' D C B k g m f=>?_) (fun j u θ' D C B k g m f=>?_) (fun r u θ' D C B S N g m f=>?_)
     ·have ⟨d',hd,k⟩:=bind_some k;cases ad k;have ⟨θ2,K,H⟩:=CV hC g (F1.trans f) (L1.trans m) hd;exact nrm ⟨_,rfl,u,θ2,L1.trans m,by rw[rG];exact K,by rw[rG];exact H⟩
     ·unfold abS at k;split at k
      ·rename_i hj
       have:=ax hj
       subst this;have ⟨d',hd,k⟩:=bind_some k;cases ad k;have ho2:=X (by simp);have ⟨θ2,K,H⟩:=CV hC g (F1.trans f) (L1.trans m) hd;rcases hc with ⟨d2,e,hc⟩ | ⟨r,e,hc⟩
       ·cases Out.brk.inj (ho2.trans e);rw[rG] at hc;exact Yh (abb (A u θ2 _ C B hc K (L1.trans m) H))
       ·cases ho2.trans e
      ·cases k
     ·cases ad N;have ho2:=X (by simp);rcases hc with ⟨d2,e,hc⟩ | ⟨r',e,hc⟩
      ·cases ho2.trans e
      ·cases Out.ret.inj (ho2.trans e);exact Yi (aeP (G r u θ' D C B S hc g (L1.trans m) (F1.trans f)))
   | _=>cases h
  | _=>exact GX plain n h p A E G
 | loop x ih =>
  refine ⟨?_,fun c' e=>?_⟩
  ·intro Y n L O M s y Q J θ a w h p A E G;cases h
  ·cases e;exact ih.1
 | _ =>
  refine ⟨?_,fun c' e=>(by cases e)⟩;intro Y n L O M s y Q J θ a w h p A E G;cases h
end
def Ro (i:Nat):(p:PM)->p.den->AV
 | .rd t,d=>PG i t d
 | .ow t,d=>P1 (mV i [] t d)
 | .fn a b,d=>.one (.fn ⟨i,[]⟩ a b d)
 | .cap T t,d=>.one (.fz ⟨i,[]⟩ T t d 0)
 | .capf T a b,d=>.one (.fzf ⟨i,[]⟩ T a b d)
 | .ptr _ _,_=>.one (.ptr ⟨i,[]⟩ 0)
 | .eat t,d=>P1 (mV i [] t d)
 | .fk g,_=>.one (.val (.func (.func g) #[] #[]))
 | .crs _ _,_=>.one (.ptr ⟨i,[]⟩ 0)
def MF (q i:Nat):(p:PM)->p.den->List (Hdr×Chk)
 | .ow t,d=>nR i [] t d
 | .ptr T t,d=>[(⟨i,[]⟩,.box T t d)]
 | .eat t,d=>nR i [] t d
 | .crs T E,d=>[(⟨i,[]⟩,.blk T [.rd ⟨q,[]⟩ (.sl E (.int .u8)) d.1,.val (.int .i64 d.2.1),.val (.int .i64 d.2.2)])]
 | _,_=>[]
def MG:(i:Nat)->(ps:List PM)->denP ps->List (Nat×Nat×AV)
 | _,[],_=>[]
 | i,p::ps,d=>(i,i,Ro i p d.1)::MG (i+1) ps d.2
def I1 (q:Nat):(i:Nat)->(ps:List PM)->denP ps->List Ent
 | _,[],_=>[]
 | i,p::ps,d=>(MF q i p d.1).map (fun g=>(g.1,i,g.2))++I1 q (i+1) ps d.2
def A6 (ps:List PM) (d:denP ps):Sg:=⟨MG 0 ps d,I1 ps.length 0 ps d,ps.length+1⟩
def ae6 (P:Program) (w0:World) (J:Hp) (θ:Th) (n i:Nat):(p:PM)->Value->p.den->Prop
 | .ow t,v,d=>(mV i [] t d).2.map (·.v θ)=mD t.isProd v/\ ∀x∈(mV i [] t d).2,x.ok P w0 J θ n
 | .ptr _ _,v,_=>hv θ ⟨i,[]⟩=v/\i<n
 | .crs _ _,v,_=>hv θ ⟨i,[]⟩=v/\i<n
 | _,_,_=>True
def StF (P:Program) (w0:World) (J:Hp) (θ:Th) (n:Nat):(i:Nat)->(ps:List PM)->List Value->denP ps->Prop
 | i,p::ps,v::vs,d=>ae6 P w0 J θ n i p v d.1/\StF P w0 J θ n (i+1) ps vs d.2
 | _,_,_,_=>True
section
variable {P:Program} {w0 w:World} {J:Hp} {θ:Th} {n:Nat} {C:List Ch}
theorem A7 {id:Nat} {pre:List Nat} {t:Ty} {d:t.den} : ∀g∈nR id pre t d,Uk g.2:=kj t d 0
theorem Rp {p:PM} {i:Nat} {v:Value} {d:p.den} {ps:List PM} {vs:List Value} {e:denP ps} {γ:Value} {q:Nat} (hi:i<n) (M:q<n) (B:θ q=γ) (f:θ i=v) (h:adS P w0 J γ p v d) (k:St J w0 w (owCh γ (p::ps) (v::vs) (d,e)++C)) :
  (∀chs,(Ro i p d).ok P w0 J θ n chs)/\(Ro i p d).v θ=v/\St J w0 w ((MF q i p d).map (fun g=>toCh P θ (g.1,i,g.2))++(owCh γ ps vs e++C))/\(∀g∈MF q i p d,∀chs,okE P w0 J θ n chs (g.1,i,g.2))/\ae6 P w0 J θ n i p v d:=by
 cases p with
 | rd t =>
  have ⟨L,r,l⟩:=h;have s:=fun chs=>sj (P:=P) (w0:=w0) (J:=J) (chs:=chs) hi f t d L l r;exact ⟨fun chs=>(s chs).1,(s []).2,k,fun g c=>(by cases c),trivial⟩
 | fn a b =>
  have j:hv θ ⟨i,[]⟩=v:=f;exact ⟨fun chs=>⟨hi,by rw[j];exact h⟩,j,k,fun g c=>(by cases c),trivial⟩
 | cap T t =>
  obtain ⟨b,rfl,cells,r,l⟩:=h;have j:hv θ ⟨i,[]⟩= .pointer (some ⟨b,0,none⟩):=f;refine ⟨fun chs=>⟨hi,cells,by rw[j];exact r,l⟩,?_,k,fun g c=>(by cases c),trivial⟩;show Value.pointer (some ⟨bk (hv θ ⟨i,[]⟩),0,none⟩)=_;rw[j];rfl
 | capf T x y =>
  obtain ⟨b,rfl,u,r,l⟩:=h;have j:hv θ ⟨i,[]⟩= .pointer (some ⟨b,0,none⟩):=f;refine ⟨fun chs=>⟨hi,u,by rw[j];exact r,l⟩,?_,k,fun g c=>(by cases c),trivial⟩;show Value.pointer (some ⟨bk (hv θ ⟨i,[]⟩),0,none⟩)=_;rw[j];rfl
 | ptr T t =>
  obtain ⟨b,rfl⟩:=h;have j:hv θ ⟨i,[]⟩= .pointer (some ⟨b,0,none⟩):=f;refine ⟨fun chs=>hi,?_,?_,fun g c chs=>by cases aq c;exact xw trivial hi hi,j,hi⟩
  ·show Value.pointer (some ⟨bk (hv θ ⟨i,[]⟩),0,none⟩)=_;rw[j];rfl
  ·show St J w0 w (Ch.box (bk (hv θ ⟨i,[]⟩)) T t.rep d::_);rw[j];exact k
 | ow t =>
  have ⟨A,I,H,D,F⟩:=yw (P:=P) (m:=i) (pre:=[]) (id:=i) (n:=n) hi (show hv θ ⟨i,[]⟩=v from f) h k;have q:=fun chs=>GA (P:=P) (w0:=w0) (J:=J) (θ:=θ) (n:=n) (chs:=chs) (mV i [] t d) (fun e=>uG e) A;exact ⟨fun chs=>(q chs).1,(q []).2.trans H,F,fun g c chs=>xw (A7 g c) (by rw[D g c];exact hi) hi,I,A⟩
 | eat t =>
  have ⟨A,I,H,D,F⟩:=yw (P:=P) (m:=i) (pre:=[]) (id:=i) (n:=n) hi (show hv θ ⟨i,[]⟩=v from f) h k;have q:=fun chs=>GA (P:=P) (w0:=w0) (J:=J) (θ:=θ) (n:=n) (chs:=chs) (mV i [] t d) (fun e=>uG e) A;exact ⟨fun chs=>(q chs).1,(q []).2.trans H,F,fun g c chs=>xw (A7 g c) (by rw[D g c];exact hi) hi,trivial⟩
 | fk g =>
  cases h;exact ⟨fun chs=>rfl,rfl,k,fun g c=>(by cases c),trivial⟩
 | crs T E =>
  obtain ⟨⟨b,rfl⟩,K⟩:=h;have j:hv θ ⟨i,[]⟩= .pointer (some ⟨b,0,none⟩):=f;have G:hv θ ⟨q,[]⟩=γ:=B;refine ⟨fun chs=>hi,?_,?_,fun g c chs=>?_,j,hi⟩
  ·show Value.pointer (some ⟨bk (hv θ ⟨i,[]⟩),0,none⟩)=_;rw[j];rfl
  ·show St J w0 w (Ch.blk (bk (hv θ ⟨i,[]⟩)) [hv θ ⟨q,[]⟩,.int .i64 d.2.1,.int .i64 d.2.2] T::_);rw[j,G];exact k
  ·cases aq c;refine ⟨hi,hi,fun z o=>?_⟩;rcases aB o with rfl | o
   ·exact ⟨M,by grind⟩
   ·rcases aB o with rfl | o
    ·rfl
    ·cases aq o
     rfl
theorem MH {γ:Value} {q:Nat} (l:q<n) (k:θ q=γ): ∀ {ps:List PM} {i:Nat} {vs:List Value} {d:denP ps} {C:List Ch},PArgs P w0 J γ ps vs d->(∀j v,vs[j]? =some v->θ (i+j)=v)->i+ps.length<=n->St J w0 w (owCh γ ps vs d++C)->
  (∀e∈MG i ps d,(∀f,e.2.2.ok P w0 J θ n f)/\i<=e.1/\e.2.1=e.1/\e.1<i+ps.length/\vs[e.1 - i]? =some (e.2.2.v θ))/\((MG i ps d).Pairwise fun a b=>a.2.1≠b.2.1)/\St J w0 w ((I1 q i ps d).map (toCh P θ)++C)/\(∀e∈I1 q i ps d,∀f,okE P w0 J θ n f e)/\StF P w0 J θ n i ps vs d
 | [],i,vs,d,C,h,_,_,hS=>by
  exact ⟨fun e c=>(by cases c),List.Pairwise.nil,hS,fun e c=>(by cases c),trivial⟩
 | p::ps,i,vs,d,C,h,hθ,hn,hS=>by
  obtain ⟨v,r,rfl,y,z⟩:=h;rw[aw] at hn;have ⟨B,H,o,G,t⟩:=Rp (n:=n) (i:=i) (θ:=θ) (e:=d.2) (show i<n by omega) l k (hθ 0 v rfl) y hS;have ⟨D,m,x,F,s⟩:=MH l k (i:=i+1) z (fun j u A=>by
   have:=hθ (j+1) u A
   grind) (by omega) (o.perm (List.perm_append_comm_assoc _ _ _))
  refine ⟨fun e c=>?_,List.pairwise_cons.2 ⟨fun e c I=>?_,m⟩,?_,fun e c f=>?_,t,s⟩
  ·rcases aB c with rfl | c
   ·grind
   grind
  ·grind
  ·show St J w0 w (((MF q i p d.1).map _++I1 q (i+1) ps d.2).map (toCh P θ)++C);rw[aX,List.map_map];refine x.perm ?_;rw[aH];exact List.perm_append_comm_assoc _ _ _
  ·rcases aI c with c | c
   ·obtain ⟨g,E,rfl⟩:=List.mem_map.1 c;grind
   grind
theorem I2 {γ:Value} : ∀ {ps:List PM} {vs:List Value} {d:denP ps},PArgs P w0 J γ ps vs d->vs.length=ps.length
 | [],vs,d,h=>by
  have h:vs= []:=h;grind
 | p::ps,vs,d,h=>by
  obtain ⟨v,r,rfl,b,a⟩:=h;simpa using I2 a
end
def ZA (tt:TT) (s:Sg):ResultVar->Option AV
 | .tmp t=>look s.env t
 | .cell p T=>(TG (look s.env p)).bind fun h=>(td tt T).bind fun d=>(tf h s.chs).bind fun b=>cz (Nat.beq b.cells.length d.n) (adQ d.agg b.cells)
theorem ZB {v:Option AV} {h:Hdr} (k:TG v=some h):v=some (.one (.ptr h 0)):=by
 unfold TG at k;grind[ax,ad]
section
variable {P:Program} {I:Hp} {w0 w:World} {F:Ch} {J:Hp} {θ:Th} {n:Nat} {s:Sg} {a:Act} {tt:TT}
theorem ZC (b:Agr n a (envL θ s)) {t g:Nat} {T E:TypeId} {v:Value} {cs:List Ch} (h:(envL θ s).lookup t=some (.pointer (some ⟨g,0,none⟩))) (hs:St J w0 w cs) (i:Nat) (hi:cs[i]? =some (Ch.blk g [v] E)) (d:TI P T false 1):J5 P a w (.cell t T) v:=by
 refine ⟨_,b.2.2 t _ h,?_⟩;have c:=hs.heap i hi;have e:w.cell? ⟨g,0,none⟩=some v:=by simp[World.cell?,c]
 simp[loadVar,Sem.run_bind,d.run_agg,load,Sem.run,e,Result.andThen]
theorem Vm (y:TTok P tt) (f:Sim P I w0 F n J θ s a w) {r:ResultVar} {v:AV} (h:ZA tt s r=some v):J5 P a w r (v.v θ)/\v.ok P w0 J θ s.nxt s.chs:=by
 cases r with
 | tmp t=>exact ⟨Yg f.agr (jG h),cg (x:=.tmp t) f.fine h⟩
 | cell p T =>
  have ⟨g,C,h⟩:=bind_some (show (TG (look s.env p)).bind _=some v from h);have ⟨d,z,h⟩:=bind_some h;have ⟨b,A,h⟩:=bind_some h;have ⟨o,h⟩:=ak h;have o:=ax o;have hp:=lW A;have q:=f.fine.chs _ (hp.mem_iff.2 (List.mem_cons_self ..));have ⟨B,i⟩:=PV (chs:=s.chs) h q.2.2;refine ⟨?_,B⟩;have l:(envL θ s).lookup p=some (.pointer (some ⟨bk (hv θ g),0,none⟩)):=jG (ZB C);have j:=f.st.perm ((hp.map (toCh P θ)).append_right [F]);have e:=(y.get z).ti;cases c:d.agg with
  | true =>
   rw[c] at i e;rw[<-i];exact TQ f.agr l j 0 rfl e (by grind)
  | false =>
   rw[c] at i e h;have k:d.n=1:=by
    have:=(y.get z).one
    rw[c] at this;simpa using this
   have ⟨x,u⟩:=List.length_eq_one_iff.1 (o.trans k);rw[k] at e;rw[u] at i;rw[<-i];have m:St J w0 w (Ch.blk (bk (hv θ g)) [x.v θ] b.T::(b.rest.map (toCh P θ)++ [F])):=by
    have:(toCh P θ (b.ent g))=Ch.blk (bk (hv θ g)) (b.cells.map (·.v θ)) b.T:=rfl
    rw[u] at this;rw[<-show toCh P θ (b.ent g)=Ch.blk (bk (hv θ g)) [x.v θ] b.T from this];exact j
   exact ZC f.agr l m 0 rfl e
end
def KL:(ts:List Ty)->List AV->List Ent->Option (lE ts×List Ent×List Ent)
 | [],[],chs=>some ((),[],chs)
 | t::ts,v::vs,chs=>cz (qb v==t.isProd) ((nQ v).bind fun cs=>(fe t cs chs).bind fun q=>cz q.cells.isEmpty ((KL ts vs q.rest).bind fun r=>some ((q.d,r.1),q.used++r.2.1,r.2.2)))
 | _,_,_=>none
def Al:(ts:List Ty)->List Value->lE ts->List Ch
 | t::ts,v::vs,d=>Ch.own t.rep (mD t.isProd v) d.1::Al ts vs d.2
 | _,_,_=>[]
theorem Fp {P:Program} {w0:World} {J:Hp} {θ:Th} {n:Nat} {chs0:List Ent} : ∀ {ts:List Ty} {vs:List AV} {chs:List Ent} {r:lE ts×List Ent×List Ent},KL ts vs chs=some r->(∀v∈vs,v.ok P w0 J θ n chs0)->
  chs.Perm (r.2.1++r.2.2)/\vs.length=ts.length/\uC J (r.2.1.map (toCh P θ)) (Al ts (vs.map (·.v θ)) r.1)/\ ∀(i:Nat) t v,ts[i]? =some t->vs[i]? =some v->p9 (v.v θ)=t.isProd
 | [],[],chs,r,h,_=>by
  cases ad (show some _=some r from h);exact ⟨List.Perm.refl _,rfl,yo,fun i t v s=>by grind⟩
 | t::ts,v::vs,chs,r,h,hv'=>by
  have ⟨d,h⟩:=ak (show cz (qb v==t.isProd) _=some r from h);have d:qb v=t.isProd:=by simpa using d
  have ⟨c,a,h⟩:=bind_some h;have ⟨q,m,h⟩:=bind_some h;have ⟨j,h⟩:=ak h;have ⟨e,A,h⟩:=bind_some h;cases ad h;have ⟨o,B⟩:=kX a (hv' v (by simp));have ⟨p,G,f,y⟩:=mo (J:=J) (θ:=θ) m o;rw[List.isEmpty_iff.1 j,List.append_nil] at f;subst f;have ⟨k,C,w,E⟩:=Fp A fun x D=>hv' x (by grind);have b:mD t.isProd (v.v θ)=c.map (·.v θ)/\p9 (v.v θ)=t.isProd:=by
   rw[<-d];cases v with
   | agg z =>
    cases ad (show some z=some c from a);exact ⟨rfl,rfl⟩
   | one x =>
    cases ad (show some [x] =some c from a);refine ⟨rfl,?_⟩;have g:=LV.one (show LV.ok P w0 J θ n x from hv' (.one x) (by simp));show p9 (x.v θ)=false;generalize x.v θ=u at g;cases u <;> first | rfl | cases g
   | _=>cases a
  refine ⟨by rw[aH];exact p.trans (k.append_left _),by grind,?_,fun i F H s l=>?_⟩
  ·show uC J ((q.used++e.2.1).map _) (Ch.own t.rep (mD t.isProd (v.v θ)) q.d::Al ts (vs.map _) e.1);rw[aX,b.1];exact uD y w
  grind
 | [],_::_,chs,r,h,_=>by cases h
 | _::_,[],chs,r,h,_=>by cases h
def adv:List Value->Value
 | [v] =>v
 | vs=>.tuple vs.toArray
def MI (P:Program) (a:Act) (w:World):List ResultVar->List Value->Prop
 | [],vs=>vs= []
 | r::rs,vs=> ∃v us,vs=v::us/\J5 P a w r v/\MI P a w rs us
theorem A8 {P:Program} {a:Act} {w:World} {f:ResultVar->Sem Value} (b: ∀r v,J5 P a w r v->(f r).run P w= .ok v w): ∀ {l:List ResultVar} {vs:List Value},MI P a w l vs->(l.mapM f).run P w= .ok vs w
 | [],vs,h=>by
  have h:vs= []:=h;simp_all
 | r::l,vs,h=>by
  obtain ⟨v,e,rfl,c,d⟩:=h;rw[List.mapM_cons,Sem.run_bind,b r v c];simp only[Result.andThen_ok,Sem.run_bind,A8 b d]
  rfl
def adw (a:Act) (r:ResultVar):Sem Value:=match r with
 | .tmp t=>pure (a.tmps.getD t undef)
 | .cell p t=>do loadVar t (<-asAddr (a.tmps.getD p undef))
theorem ZD {P:Program} {a:Act} {w:World} {r:ResultVar} {v:Value} (h:J5 P a w r v):(adw a r).run P w= .ok v w:=by
 cases r with
 | tmp t =>
  have h:a.tmps.getD t undef=v:=h;show (pure (a.tmps.getD t undef):Sem Value).run P w=_;simp_all
 | cell p T =>
  have ⟨A,b,c⟩:=h;show ((asAddr (a.tmps.getD p undef)) >>=fun x=>loadVar T x).run P w=_;rw[b,Sem.run_bind];show Result.andThen (.ok A w) _=_;simp_all
theorem abU {P:Program} {n:Nat} {a:Act} {w:World} {L:List (Nat×Value)} {fn:Func} {R:Ending->World->Prop} {vs:List Value} (b:Agr n a L) (h:MI P a w fn.results.toList vs) (c:R (.returned (adv vs)) w):bodyPost P fn R .ret a w:=by
 refine ⟨b.1,adv vs,?_,c⟩;have d:((fn.results.mapM (adw a)):Sem (Array Value)).run P w= .ok vs.toArray w:=by
  rw[Array.mapM_eq_mapM_toList]
  have:=A8 (f:=adw a) (fun r v=>ZD) h
  simp[this,Sem.run_map]
 show ((fn.results.mapM (adw a)) >>=fun vs=>pure (if h:vs.size=1 then vs[0] else .tuple vs):Sem Value).run P w=_;rw[Sem.run_bind,d,Result.andThen_ok]
 match vs with
 | [] =>rfl
 | [v] =>rfl
 | _::_::_=>rfl
def gG (g0:Nat):(i:Nat)->(ps:List PM)->denP ps->List Ent->Option (lE (outs ps)×List Ent×List Ent)
 | _,[],_,chs=>some ((),[],chs)
 | i,.ow t::ps,d,chs=>(fe t (mV i [] t d.1).2 chs).bind fun q=>cz q.cells.isEmpty ((gG g0 (i+1) ps d.2 q.rest).bind fun r=>some ((q.d,r.1),q.used++r.2.1,r.2.2))
 | i,.ptr T t::ps,d,chs=>(CH ⟨i,[]⟩ T t chs).bind fun q=>(gG g0 (i+1) ps d.2 q.2.2).bind fun r=>some ((q.1,r.1),q.2.1++r.2.1,r.2.2)
 | i,.rd _::ps,d,chs=>gG g0 (i+1) ps d.2 chs
 | i,.fn _ _::ps,d,chs=>gG g0 (i+1) ps d.2 chs
 | i,.eat _::ps,d,chs=>gG g0 (i+1) ps d.2 chs
 | i,.cap _ _::ps,d,chs=>gG g0 (i+1) ps d.2 chs
 | i,.capf _ _ _::ps,d,chs=>gG g0 (i+1) ps d.2 chs
 | i,.fk _::ps,d,chs=>gG g0 (i+1) ps d.2 chs
 | i,.crs T E::ps,d,chs=>(xu ⟨i,[]⟩ T E chs).bind fun q=>cz (Hdr.beq q.g ⟨g0,[]⟩) ((gG g0 (i+1) ps d.2 q.rest).bind fun r=>some ((q.d.2,r.1),q.ent::r.2.1,r.2.2))
theorem hZ {P:Program} {w0:World} {J J':Hp} {θ θ':Th} {n n':Nat} {chs0:List Ent} (f:J.le J') (hs:Same n θ θ') {γ:Value} {c:Nat} (b:c<n) (a:θ c=γ): ∀ {ps:List PM} {i:Nat} {d:denP ps} {chs:List Ent} {vs:List Value} {r:lE (outs ps)×List Ent×List Ent},gG c i ps d chs=some r->vs.length=ps.length->StF P w0 J θ n i ps vs d->(∀e∈chs,okE P w0 J' θ' n' chs0 e)->
  chs.Perm (r.2.1++r.2.2)/\uC J' (r.2.1.map (toCh P θ')) (outCh γ ps vs r.1)
 | [],i,d,chs,vs,r,h,_,_,_=>by
  cases ad (show some _=some r from h);exact ⟨List.Perm.refl _,yo⟩
 | p::ps,i,d,chs,[],r,h,hl,_,_=>by cases hl
 | .ow t::ps,i,d,chs,v::vs,r,h,hl,hF,hc=>by
  have ⟨q,o,h⟩:=bind_some (show (fe t (mV i [] t d.1).2 chs).bind _=some r from h);have ⟨j,h⟩:=ak h;have ⟨B,y,h⟩:=bind_some h;cases ad h;have ⟨⟨m,k⟩,u⟩:=hF;have ⟨p,O,H,I⟩:=mo (P:=P) (w0:=w0) (J:=J') (θ:=θ') (n:=n) o fun x N=>LV.ok_same hs (ay _) (k x N) f;rw[List.isEmpty_iff.1 j,List.append_nil] at H;subst H;rw[mE hs k,m] at I;have ⟨z,s⟩:=hZ f hs b a y (by grind) u fun e j=>hc e (p.mem_iff.2 (by grind));refine ⟨by rw[aH];exact p.trans (z.append_left _),?_⟩;show uC J' ((q.used++B.2.1).map _) (Ch.own t.rep (mD t.isProd v) q.d::outCh γ ps vs B.1);rw[aX];exact uD I s
 | .ptr T t::ps,i,d,chs,v::vs,r,h,hl,hF,hc=>by
  have ⟨q,o,h⟩:=bind_some (show (CH ⟨i,[]⟩ T t chs).bind _=some r from h);have ⟨B,y,h⟩:=bind_some h;cases ad h;have ⟨⟨m,k⟩,u⟩:=hF;have ⟨p,A⟩:=Fc (P:=P) (w0:=w0) (J:=J') (J':=J') (θ:=θ') o Hp.le.rfl hc;have ⟨z,s⟩:=hZ f hs b a y (by grind) u fun e j=>hc e (p.mem_iff.2 (by grind));refine ⟨by rw[aH];exact p.trans (z.append_left _),?_⟩;rw[aX];have D:=(bh hs (show (⟨i,[]⟩:Hdr).id<n from k)).trans m;rw[D] at A;intro w F g;obtain ⟨G,K,rfl,l,C⟩:=g.split;exact ⟨G,K,rfl,A w G l,s w K C⟩
 | .rd t::ps,i,d,chs,v::vs,r,h,hl,hF,hc=>hZ (ps:=ps) f hs b a (show gG c (i+1) ps d.2 chs=some r from h) (by grind) hF.2 hc
 | .fn _ _::ps,i,d,chs,v::vs,r,h,hl,hF,hc=>hZ (ps:=ps) f hs b a (show gG c (i+1) ps d.2 chs=some r from h) (by grind) hF.2 hc
 | .eat _::ps,i,d,chs,v::vs,r,h,hl,hF,hc=>hZ (ps:=ps) f hs b a (show gG c (i+1) ps d.2 chs=some r from h) (by grind) hF.2 hc
 | .cap _ _::ps,i,d,chs,v::vs,r,h,hl,hF,hc=>hZ (ps:=ps) f hs b a (show gG c (i+1) ps d.2 chs=some r from h) (by grind) hF.2 hc
 | .capf _ _ _::ps,i,d,chs,v::vs,r,h,hl,hF,hc=>hZ (ps:=ps) f hs b a (show gG c (i+1) ps d.2 chs=some r from h) (by grind) hF.2 hc
 | .fk _::ps,i,d,chs,v::vs,r,h,hl,hF,hc=>hZ (ps:=ps) f hs b a (show gG c (i+1) ps d.2 chs=some r from h) (by grind) hF.2 hc
 | .crs T E::ps,i,d,chs,v::vs,r,h,hl,hF,hc=>by
  have ⟨q,o,h⟩:=bind_some (show (xu ⟨i,[]⟩ T E chs).bind _=some r from h);have ⟨A,h⟩:=ak h;have ⟨B,y,h⟩:=bind_some h;cases ad h;have ⟨⟨m,k⟩,u⟩:=hF;have ⟨p,L,j⟩:=pV o;have ⟨z,s⟩:=hZ f hs b a y (by grind) u fun e j=>hc e (p.mem_iff.2 (by grind));refine ⟨p.trans (z.cons _),?_⟩;have D:=(bh hs (show (⟨i,[]⟩:Hdr).id<n from k)).trans m;have M:hv θ' q.g=γ:=by
   rw[Hdr.beq_eq A];show vg (θ' c) [] =γ;rw[hs c b,a];rfl
  rw[j];intro w F g;obtain ⟨G,K,rfl,l,C⟩:=g;have l:(Ch.blk (bk (hv θ' ⟨i,[]⟩)) [hv θ' q.g,.int .i64 q.d.2.1,.int .i64 q.d.2.2] T).holds J' w G:=l;rw[D,M] at l;exact ⟨G,K,rfl,l,s w K C⟩
def ofH:(ts:List Ty)->lE ts->dens ts
 | [],_=>()
 | [_],d=>d.1
 | _::u::ts,d=>(d.1,ofH (u::ts) d.2)
theorem KM: ∀(ts:List Ty) (d:lE ts),toH ts (ofH ts d)=d
 | [],_=>rfl
 | [_],_=>rfl
 | _::u::ts,d=>congrArg (Prod.mk d.1) (KM (u::ts) d.2)
def so:(ts us:List Ty)->lE ts->lE us->lE (ts++us)
 | [],_,_,e=>e
 | _::ts,us,d,e=>(d.1,so ts us d.2 e)
theorem GY: ∀(ts us:List Ty) (d:lE ts) (e:lE us),hFst ts us (so ts us d e)=d
 | [],_,_,_=>rfl
 | _::ts,us,d,e=>congrArg (Prod.mk d.1) (GY ts us d.2 e)
theorem MJ: ∀(ts us:List Ty) (d:lE ts) (e:lE us),hSnd ts us (so ts us d e)=e
 | [],_,_,_=>rfl
 | _::ts,us,d,e=>MJ ts us d.2 e
def C2 (tt:TT) (s:Sg):List ResultVar->Option (List AV)
 | [] =>some []
 | r::rs=>(ZA tt s r).bind fun v=>(C2 tt s rs).bind fun vs=>some (v::vs)
def KN (s:Sg):List AV->List Hdr
 | [] =>[]
 | v::vs=>CR v++KN s vs
def B9:List Ent->List Hdr
 | [] =>[]
 | e::l=>match e.2.2 with
  | .hole _ _ _ _ _ _ _ _ _ _=>e.1::B9 l
  | _=>B9 l
def abV:List AV->List (Bool×Hdr)
 | [] =>[]
 | v::vs=>ae3 true v++abV vs
def I3 (tr:Trs) (vs:List AV) (s:Sg):Sg:=match tr with
 | [] =>s
 | _=>UA (Q6 tr) (abV vs) s
def Vn (tr:Trs) (vs:List AV) (s0:Sg):Sg:=match I3 tr vs s0 with
 | s=>yA (KN s0 vs++B9 s.chs) s
def nlN:List AV->(ts:List Ty)->lE ts->Int
 | [.one (.own _)],[.sl _ t],d=>((List.length (α:=t.den) d.1:Nat):Int)
 | [.one (.val v)],[.sl _ _],_=>match isNil v with
  | true=>1
  | false=>0
 | _,_,_=>0
def abW (an:List (Nat×Ty)) (vs:List AV) (ts:List Ty) (d:lE ts):Option Unit:=match CQ 1000000 an with
 | true=>chk (0<nlN vs ts d)
 | false=>some ()
theorem abX {vs:List AV} {ts:List Ty} {d:lE ts} {θ:Th} (h:0<nlN vs ts d) {v:Value} (hv:vs.map (·.v θ)= [v]):AW ts d v:=by
 unfold nlN at h;split at h
 ·intro a;omega
 ·split at h
  ·intro _;grind[pB,AV.v,LV.v]
  ·omega
 ·omega
def Om (V:Env) (rvs:List ResultVar) (rs:List Ty) (ps:List PM) (d:denP ps) (s00:Sg):Option (dens (rs++outs ps)):=(C2 V.tt s00 rvs).bind fun vs00=>UJ vs00 s00 fun s0=>(C2 V.tt s0 rvs).bind fun vs0=>match Vn V.tr vs0 s0 with
 | s=>(C2 V.tt s rvs).bind fun vs=>(KL rs vs s.chs).bind fun r=>(gG ps.length 0 ps d r.2.2).bind fun o=>(abW V.an vs rs r.1).bind fun _=>some (ofH _ (so rs (outs ps) r.1 o.1))
theorem Fq {vs:List Value} : ∀ {ts:List Ty} {i:Nat} {us:List Value} {d:lE ts},us.length=ts.length->(∀j v,us[j]? =some v->vs[i+j]? =some v)->zY i ts d (.tuple vs.toArray)=Al ts us d
 | [],i,us,d,h,_=>by
  rfl
 | t::ts,i,[],d,h,_=>by cases h
 | t::ts,i,u::us,d,h,k=>by
  have a:vg (.tuple vs.toArray) [i] =u:=by
   show vs.toArray.getD i undef=u
   have:=k 0 u rfl
   rw[Nat.add_zero] at this;simp[Array.getD_eq_getD_getElem?,this]
  show Ch.own t.rep (mD t.isProd (vg (.tuple vs.toArray) [i])) d.1::zY (i+1) ts d.2 _=Ch.own t.rep (mD t.isProd u) d.1::Al ts us d.2;rw[a,Fq (us:=us) (by grind) fun j v b=>by
   have:=k (j+1) v (by grind)
   grind]
theorem On {ts:List Ty} {vs:List Value} {d:lE ts} (h:vs.length=ts.length):resGv ts d (adv vs)=Al ts vs d:=by
 match ts,vs,d,h with
 | [],[],d,_=>rfl
 | [t],[v],d,_=>rfl
 | t::u::ts,v::w::vs,d,h =>
  show zY 0 _ d (.tuple (v::w::vs).toArray)=_;grind[Fq]
theorem Vo {ts:List Ty} {vs:List Value} (h:vs.length=ts.length) (k: ∀(i:Nat) t v,ts[i]? =some t->vs[i]? =some v->p9 v=t.isProd):resFa ts (adv vs):=by
 match ts,vs,h with
 | [],[],_=>exact ⟨#[],rfl,rfl,fun i t b=>by grind⟩
 | [t],[v],_=>exact k 0 t v rfl rfl
 | t::u::ts,v::w::vs,h =>
  refine ⟨(v::w::vs).toArray,rfl,by omega,fun i c b=>?_⟩;have a:i<(v::w::vs).length:=by rw[h];exact (List.getElem?_eq_some_iff.1 b).1
  have:=k i c ((v::w::vs)[i]) b (List.getElem?_eq_getElem a)
  rw[<-this,Array.getD_eq_getD_getElem?,List.getElem?_toArray,List.getElem?_eq_getElem a];rfl
theorem yF {P:Program} {I:Hp} {w0 w:World} {F:Ch} {J:Hp} {θ:Th} {n:Nat} {s:Sg} {a:Act} {tt:TT} (d:TTok P tt) (e:Sim P I w0 F n J θ s a w): ∀ {rs:List ResultVar} {vs:List AV},C2 tt s rs=some vs->MI P a w rs (vs.map (·.v θ))/\ ∀v∈vs,v.ok P w0 J θ s.nxt s.chs
 | [],vs,h=>by
  cases ad (show some [] =some vs from h);exact ⟨rfl,fun v hv=>by cases hv⟩
 | r::rs,vs,h=>by
  have ⟨v,c,h⟩:=bind_some (show (ZA tt s r).bind _=some vs from h);have ⟨l,b,h⟩:=bind_some h;cases ad h;have ⟨f,i⟩:=Vm d e c;have ⟨g,k⟩:=yF d e b;refine ⟨⟨_,_,rfl,f,g⟩,fun x j=>?_⟩;grind
theorem Rq {J:Hp} {a b c d:List Ch} (h:uC J a b) (k:uC J c d):uC J (a++c) (b++d):=fun w F g=>by
 obtain ⟨G,K,rfl,e,f⟩:=g.split;exact (h w G e).append (k w K f)
theorem St.sepTo {J:Hp} {w0 w:World} {a b C:List Ch} (h:St J w0 w (a++C)) (k:uC J a b):St J w0 w (b++C):=by
 have ⟨g,d,F,i,e,c⟩:=h;obtain ⟨G,K,rfl,f,j⟩:=i.split;exact ⟨g,d,G++K,(k w G f).append j,e,c⟩
theorem Am {P:Program} {n:Nat} {I:Hp} {w0:World} {k:FuncId} {fn:Func} {c:Code} {args:Array Value} {rn:List Ch} {fact:Value->Prop} {gv:Value->List Ch} (L:List (Nat×Value)) (j:P.funcs[k]? =some fn) (b:fn.body=some c) (y:fn.ntmps=n) (x:args.size<=n) (t: ∀p∈L,args[p.1]? =some p.2)
  (h: ∀F w a,Agr n a L->St I w0 w (rn++ [F])->c.wp P (bodyPost P fn fun e g=> ∃v,e= .returned v/\fact v/\ ∃J,I.le J/\St J w0 g (gv v++ [F])) a w) (r: ∀v,Ch.back (gv v)):Con P k args I w0 rn fact gv:=by
 intro w C f;have d:St I w0 w (rn++ [Ch.fr I C]):=by
  have ⟨b,u,F,o,i,q⟩:=f;obtain ⟨G,K,rfl,l,s⟩:=o.split;exact ⟨b,u,G++K,l.append ⟨K,[],by simp,s,rfl⟩,i,q⟩
 have:=h (Ch.fr I C) w { tmps:=args++Array.replicate (fn.ntmps - args.size) undef,defers:=[] } (Agr.start L (by omega) t) d
 refine (calls_of_wp j b this).mono ?_;rintro e g ⟨v,rfl,hv,J,m,f⟩;exact ⟨v,rfl,hv,f.back m (r v)⟩
theorem Vp {P:Program} {I:Hp} {w0 w:World} {F:Ch} {n:Nat} {J:Hp} {θ:Th} {s:Sg} {a:Act} {tr:Trs} {vs:List AV} (e:Sim P I w0 F n J θ s a w): ∃b θ',J.le b/\Sim P I w0 F n b θ' (Vn tr vs s) a w/\Fr s θ (Vn tr vs s) θ':=by
 have key: ∃b θ',J.le b/\Sim P I w0 F n b θ' (I3 tr vs s) a w/\Fr s θ (I3 tr vs s) θ':=by
  unfold I3;split
  ·grind[Hp.le.rfl,Fr.rfl]
  ·exact xy e
 have ⟨b,θ',f,c,g⟩:=key;have ⟨h,d⟩:=vN (V:=⟨[],[],[],n,[]⟩) (hs:=KN s vs++B9 (I3 tr vs s).chs) c;exact ⟨b,θ',f,h,g.trans d⟩
theorem Xk {V:Env} {P:Program} {w0:World} {F:Ch} {J:Hp} {θ:Th} (H:TTok P V.tt) {fn:Func} {rs:List Ty} {ps:List PM} {d:denP ps} {vs:List Value} {s0:Sg} (Q:vs.length=ps.length) (W:StF P w0 J θ (ps.length+1) 0 ps vs d) (X:ps.length+1<=s0.nxt) {γ:Value} (w:θ ps.length=γ): ∀r J' θ' l C h,Om V fn.results.toList rs ps d l=some r->Sim P J w0 F V.n J' θ' l C h->J.le J'->Fr s0 θ l θ'->
  bodyPost P fn (fun e h=> ∃v,e= .returned v/\(resFa rs v/\(CQ 1000000 V.an=true->AW rs (hFst rs (outs ps) (toH _ r)) v))/\ ∃J2,J.le J2/\St J2 w0 h ((resGv rs (hFst rs (outs ps) (toH _ r)) v++outCh γ ps vs (hSnd rs (outs ps) (toH _ r)))++ [F])) .ret C h:=by
 intro r J' θ' l C h a g p f;have ⟨I,m,a⟩:=bind_some (show (C2 V.tt l fn.results.toList).bind _=some r from a);have ⟨B,a,G,N0⟩:=Mn a (yF H g m).2 g;have ⟨k,hv0,a⟩:=bind_some a;have ⟨R,θ1,s,j,D⟩:=Vp (tr:=V.tr) (vs:=k) G;generalize Vn V.tr k B=E at a j D;have T:=f.1;have c:Same (ps.length+1) θ θ1:=fun i hi=>(D.same i (by omega)).trans (f.same i (by omega));replace p:=p.trans s;clear s D g G f;revert R θ1;intro J' θ' j c p;have ⟨u,A,a⟩:=bind_some a;have ⟨q,U,a⟩:=bind_some a;have ⟨o,S,a⟩:=bind_some a;have ⟨u0,b,a⟩:=bind_some a;cases ad a;have ⟨Y,r2⟩:=yF H j A;have ⟨K,Z,t3,t4⟩:=Fp (J:=J') (θ:=θ') U r2;have ⟨o1,M⟩:=hZ (P:=P) (J:=J) (J':=J') (θ:=θ) (θ':=θ') (vs:=vs) (n:=ps.length+1) (n':=E.nxt) (chs0:=E.chs) p c (aJ _) w S Q W fun e he=>j.fine.chs e (K.mem_iff.2 (by grind));have L:(u.map (·.v θ')).length=rs.length:=by rw[List.length_map];exact Z
 refine abU j.agr Y ⟨_,rfl,⟨Vo L fun i t v ht O=>?_,fun z=>?_⟩,J',p,?_⟩
 ·grind
 ·rw[KM,GY];unfold abW at b;rw[z] at b;have b:=cG b;rcases u with _ | ⟨x,u⟩
  ·cases b
  ·cases u with
   | nil=>exact abX (θ:=θ') b rfl
   | cons y u=>grind[nlN]
 ·rw[KM,GY,MJ,On L];have hp:=K.trans (o1.append_left _);have h1:=j.st.perm ((hp.map (toCh P θ')).append_right [F]);have N:St J' w0 h ((q.2.1.map (toCh P θ')++o.2.1.map (toCh P θ'))++(o.2.2.map (toCh P θ')++ [F])):=by
   simpa [aX,aH] using h1
  have h3:=St.sepTo N (Rq t3 M);refine St.left (ds:=o.2.2.map (toCh P θ')) (h3.perm ?_);grind[aH,List.Perm.append_left,List.perm_append_comm]
theorem KO {V:Env} {P:Program} (Y:TTok P V.tt) (hF:FTok P V.ft) (R:P.follows .mixedOrders=true) {k:FuncId} {fn:Func} {c:Code} {f:FS} (hf:P.funcs[k]? =some fn) (hb:fn.body=some c) (hn:fn.ntmps=V.n) (hen:Enters P k) (hm:f.ps.length<=V.n) (u:(GE f.rs&&By f.ps)=true) (B:Ann)
  (A: ∀d,appP f.ps f.m d=mY V (Om V fn.results.toList f.rs f.ps d) c B (fun r=>some r) (fun _ _=>none) (Om V fn.results.toList f.rs f.ps d) (tj (A6 f.ps d))): ∀w0 J γ b (d:denP f.ps) r,Lay P J->PArgs P w0 J γ f.ps b d->appP f.ps f.m d=some r->Con P k b.toArray J w0 (owCh γ f.ps b d) (fun v=>resFa f.rs v/\(CQ 1000000 V.an=true->AW f.rs (hFst f.rs (outs f.ps) (toH _ r)) v)) (fun v=>resGv f.rs (hFst f.rs (outs f.ps) (toH _ r)) v++outCh γ f.ps b (hSnd f.rs (outs f.ps) (toH _ r))):=by
 rw[aj] at u;intro w0 J γ b d r y X Z;rw[A] at Z;have k0:=I2 X;let θ:=fun i=>if i=b.length then γ else b.getD i undef;have O: ∀j v,b[j]? =some v->θ (0+j)=v:=fun j v hj=>by
  grind
 have m:θ f.ps.length=γ:=by
  grind
 have z: ∀p∈(b.zipIdx.map fun q=>(q.2,q.1)),b.toArray[p.1]? =some p.2:=fun p hp=>by
  grind
 refine Am (n:=V.n) (b.zipIdx.map fun q=>(q.2,q.1)) hf hb hn (by grind) z (fun F w a hA Q=>?_) (fun v=>Ae (gl _ _ _ u.2) _ _ u.1)
 ·have ⟨M,k2,k3,k4,k5⟩:=MH (n:=f.ps.length+1) (q:=f.ps.length) (C:=[F]) (aJ _) m X O (by omega) Q;have o:Fine P w0 J θ (A6 f.ps d):=⟨fun e s=>(M e s).1 _,fun e s=>by have:=M e s;show e.2.1<f.ps.length+1;omega,k2,fun e s=>k4 e s _,y⟩;have W:Agr V.n a (envL θ (A6 f.ps d)):=hA.pick _ fun p hp=>by
   obtain ⟨e,s,rfl⟩:=List.mem_map.1 hp;have h5:=(M e s).2.2.2.2;have key: ∀(l:List Value) (k:Nat) (i:Nat) (v:Value),k<=i->l[i - k]? =some v->((l.zipIdx k).map fun q=>(q.2,q.1)).lookup i=some v:=by
    intro l;induction l with
    | nil=>grind
    | cons x l ih =>
     intro k i v H h;simp[List.zipIdx_cons,List.map_cons,List.lookup_cons];by_cases e:i=k
     ·simp_all
     ·rw[show i - k=(i - (k+1))+1 from by omega] at h;grind
   grind
  have hS:Sim P J w0 F V.n J θ (A6 f.ps d) a w:=⟨Hp.le.rfl,W,k3,o⟩;have fin:=Xk (rs:=f.rs) (fn:=fn) (F:=F) Y k0 k5 (ay (A6 f.ps d).nxt) m;have ⟨θ0,N,g⟩:=B2 hS;exact (xA (I:=J) (w0:=w0) (F:=F) Y hF R c).1 B Z N (fun K θ' D G E H S' T t=>fin r K θ' D G E H S' T (g.trans t)) (fun i K θ' D G E H=>by cases H) (fun r' K θ' D G E L U S T t=>by
   cases ad U;exact fin _ K θ' D G E L S T (g.trans t))
theorem fok {V:Env} {P:Program} (u:TTok P V.tt) (y:FTok P V.ft) (i:P.follows .mixedOrders=true) {k:FuncId} {fn:Func} {c:Code} {f:FS} (o:P.funcs[k]? =some fn) (p:fn.body=some c) (n:fn.ntmps=V.n) (b:Enters P k) (D:f.cl=none) (l:f.ps.length<=V.n) (j:(GE f.rs&&By f.ps)=true) (h:Ann)
  (g: ∀d,appP f.ps f.m d=mY V (Om V fn.results.toList f.rs f.ps d) c h (fun r=>some r) (fun _ _=>none) (Om V fn.results.toList f.rs f.ps d) (tj (A6 f.ps d))):FOk P k f:=
 ⟨fun q G=>by grind,fun _=>b,fun _ s J γ x d r a t E w C z=>(KO u y i o p n b l j h g s J γ x d r a t E w C z).mono fun e F ⟨v,A,m,B⟩=>⟨v,A,m.1,B⟩⟩
theorem afD {V:Env} {P:Program} (D:TTok P V.tt) (E:FTok P V.ft) (i:P.follows .mixedOrders=true) {k:FuncId} {fn:Func} {c:Code} {f:FS} (A:P.funcs[k]? =some fn) (B:fn.body=some c) (z:fn.ntmps=V.n) (g:Enters P k) (l:f.cl=some (0,7)/\CQ 1000000 V.an=true) (y:f.ps.length<=V.n) (j:(GE f.rs&&By f.ps)=true) (h:Ann)
  (b: ∀d,appP f.ps f.m d=mY V (Om V fn.results.toList f.rs f.ps d) c h (fun r=>some r) (fun _ _=>none) (Om V fn.results.toList f.rs f.ps d) (tj (A6 f.ps d))):FOk P k f:=
 ⟨fun q F=>by
  rw[l.1] at F;cases ad F;exact ⟨⟨fun e=>(by cases e),fun _ e=>(by cases e),fun e=>(by cases e)⟩,(fun _ n J γ p d r a o x w C s=>(KO D E i A B z g y j h b n J γ p d r a o x w C s).mono fun e G ⟨v,t,m,u⟩=>⟨v,t,⟨m.1,m.2 l.2⟩,u⟩),fun e=>(by cases e)⟩,fun _=>g,fun _ n J γ p d r a o x w C s=>(KO D E i A B z g y j h b n J γ p d r a o x w C s).mono fun e G ⟨v,t,m,u⟩=>⟨v,t,m.1,u⟩⟩
theorem ML {V:Env} {P:Program} (S:TTok P V.tt) (hF:FTok P V.ft) (K:P.follows .mixedOrders=true) {k:FuncId} {fn:Func} {c:Code} {E b:Nat} (W:P.funcs[k]? =some fn) (Y:fn.body=some c) (U:fn.ntmps=V.n) (M:Enters P k) (T:1<=V.n) (j:Ann)
  (x: ∀(E':TypeId) (f:Bool) (xs:List Raw),(match f with | true=>some ([] :List Raw) | false=>(bC b [] xs).bind fun l=>some l)=mY V (Om V fn.results.toList [.sl E .raw] [] ()) c j (fun r=>some r) (fun _ _=>none) (Om V fn.results.toList [.sl E .raw] [] ()) ⟨[(0,0,.one (.rdn ⟨0,[]⟩ f (.sl E' .raw) xs))],[],1⟩):Ab P k E b:=by
 refine ⟨M,fun E' J w0 v xs l m o so=>?_⟩;have ⟨f,q⟩: ∃f,Ie v=f:=⟨_,rfl⟩;have hr:mY V (Om V fn.results.toList [.sl E .raw] [] ()) c j (fun r=>some r) (fun _ _=>none) (Om V fn.results.toList [.sl E .raw] [] ()) ⟨[(0,0,.one (.rdn ⟨0,[]⟩ f (.sl E' .raw) xs))],[],1⟩=some l:=by
  rw[<-x E' f xs];cases f with
  | false =>
   rw[so];rfl
  | true =>
   obtain ⟨O,-⟩:=GI so;obtain ⟨ao,cap,e,-,Z⟩:=o;obtain rfl:v= .slice ao xs.length cap:=by grind
   rcases Z with rfl | ⟨b,off,ccs,t,fr,rfl,-⟩
   ·rw[O];rfl
   ·cases q
 let θ:Th:=fun _=>v;have key:Con P k #[v] J w0 [] (fun v=>resFa [.sl E .raw] v/\(CQ 1000000 V.an=true->AW [.sl E .raw] (l,()) v)) (fun v=>resGv [.sl E .raw] (l,()) v++ []):=by
  refine Am (n:=V.n) [(0,v)] W Y U T (fun p hp=>by grind) (fun F w a X H=>?_) (fun u=>Ae (D:=[]) trivial [.sl E .raw] (l,()) rfl);have g:Fine P w0 J θ ⟨[(0,0,.one (.rdn ⟨0,[]⟩ f (.sl E' .raw) xs))],[],1⟩:=⟨fun e y=>by cases aq y;exact ⟨Nat.one_pos,o,q⟩,fun e y=>by grind,List.pairwise_singleton _ _,fun e y=>(by cases y),m⟩;have hS:Sim P J w0 F V.n J θ ⟨[(0,0,.one (.rdn ⟨0,[]⟩ f (.sl E' .raw) xs))],[],1⟩ a w:=⟨Hp.le.rfl,X,H,g⟩;have fin:=Xk (V:=V) (θ:=θ) (J:=J) (w0:=w0) (rs:=[.sl E .raw]) (ps:=[]) (d:=()) (vs:=[]) (s0:=⟨[(0,0,.one (.rdn ⟨0,[]⟩ f (.sl E' .raw) xs))],[],1⟩) (fn:=fn) (F:=F) S rfl trivial (ay _) (γ:=θ 0) rfl;exact (xA (I:=J) (w0:=w0) (F:=F) S hF K c).1 j hr hS (fun B θ' z A s R S' N h=>fin _ B θ' z A s R S' N h) (fun i B θ' z A s R=>by cases R) (fun r' B θ' z A s G Q L N h=>by
   cases ad Q;exact fin _ B θ' z A s G L N h)
 exact fun w C hs=>(key w C hs).mono fun e s ⟨v,O,h2,h3⟩=>⟨v,O,trivial,h3⟩
def Bz:Nat->Ty
 | 0=>.raw
 | n+1=>.prod .raw (Bz n)
def sp:(n:Nat)->(Bz n).den->List Value
 | 0,p=>[p.1]
 | n+1,p=>p.1.1::sp n p.2
theorem I4: ∀n,(Bz n).rep.size=n+1
 | 0=>rfl
 | n+1=>by
  show 1+(Bz n).rep.size=_;rw[I4 n];omega
theorem KP {I:Hp} : ∀(n:Nat) {cs:List Value} {p:(Bz n).den},(Bz n).rep.rd I cs p↔cs=sp n p
 | 0,cs,p=>Iff.rfl
 | n+1,cs,p=>by
  constructor
  ·rintro ⟨c,d,rfl,a,b⟩;obtain rfl:c= [p.1.1]:=a;rw[(KP n).1 b];rfl
  ·rintro rfl;exact ⟨[p.1.1],sp n p.2,rfl,rfl,(KP n).2 rfl⟩
theorem MM {I:Hp} {w:World} : ∀(n:Nat) {cs:List Value} {p:(Bz n).den} {F:List Nat},(Bz n).rep.own I w cs p F->F= [] /\cs=sp n p
 | 0,cs,p,F,h=>by
  have ⟨a,b⟩:=h;exact ⟨a,b⟩
 | n+1,cs,p,F,⟨c,d,G,K,a,b,h3,h4⟩=>by
  obtain ⟨rfl,e⟩:=h3;obtain ⟨rfl,f⟩:=MM n h4;subst a;subst b;subst e;exact ⟨rfl,by rw[f];rfl⟩
theorem Rr: ∀(n:Nat) (cs:List Value),cs.length=n+1->(∀u∈cs,u.oneCell'=true)-> ∃p:(Bz n).den,sp n p=cs
 | 0,cs,hl,h1=>by
  obtain ⟨u,rfl⟩:=List.length_eq_one_iff.1 hl;exact ⟨⟨u,h1 u (by simp)⟩,rfl⟩
 | n+1,u::cs,hl,h1=>by
  have ⟨p,hp⟩:=Rr n cs (by grind) (fun v hv=>h1 v (by grind));exact ⟨(⟨u,h1 u (by simp)⟩,p),by grind[sp]⟩
theorem ZE {n:Nat} {E:TypeId} {α:Type} {R:Rep α} (h1:R.size=n+1) {I:Hp} {v:Value} {xs:List α} (h:(aA E R).rd I [v] xs): ∃a:List (Bz n).den,All2 (fun p x=>R.rd I (sp n p) x) a xs/\(aA E (Bz n).rep).rd I [v] a:=by
 obtain ⟨l,cap,e,s,h⟩:=h;obtain rfl:v= .slice l xs.length cap:=by grind
 rcases h with rfl | ⟨b,off,d,t,w,rfl,o,B⟩
 ·exact ⟨[],.nil,l,cap,rfl,s,.inl rfl⟩
 ·have key: ∀(xs:List α) (f:Nat),(∀i x,xs[i]? =some x-> ∃c:List Value,c.length=R.size/\(∀j,j<R.size->d.toList[off+(f+i)*R.size+j]? =c[j]?)/\R.rd I c x)-> ∃a:List (Bz n).den,All2 (fun p x=>R.rd I (sp n p) x) a xs/\ ∀i p,a[i]? =some p->(sp n p).length=R.size/\ ∀j,j<R.size->d.toList[off+(f+i)*R.size+j]? =(sp n p)[j]? :=by
   intro xs;induction xs with
   | nil=>intro f _;exact ⟨[],.nil,fun i p hp=>by grind⟩
   | cons x xs ih =>
    intro f h;have ⟨c,q,C,m⟩:=h 0 x rfl;obtain ⟨p,rfl⟩:=Rr n c (q.trans h1) (R.rd_one m);have ⟨a,g,r⟩:=ih (f+1) fun i y D=>by
     have:=h (i+1) y (by grind)
     grind
    refine ⟨p::a,.cons m g,fun i u z=>?_⟩;grind
  have ⟨a,g,r⟩:=key xs 0 (fun i x A=>by grind);have k:=g.length_eq;refine ⟨a,g,_,cap,by grind,by omega,.inr ⟨b,off,d,t,w,rfl,o,fun i p hp=>?_⟩⟩;grind[sp,I4,KP]
theorem lX {P:Program} {k:FuncId} {f:FS} (h:Enters P k) (c:f.cl=none) (a: ∀d,appP f.ps f.m d=none):FOk P k f:=
 ⟨fun q e=>by grind,fun _=>h,fun _ _ _ _ _ d r _ _ b=>by grind⟩
theorem I5 {P:Program} {k:FuncId} {f:FS} {E b:Nat} (h:FOk P k ⟨f.ps,f.rs,f.m,none⟩) (a:Ab P k E b) (i:Nat.beq b 0=false:=by rfl) (j:Nat.beq b 7=false:=by rfl) (d:Nat.ble 1000 b=false:=by rfl) (g:Nat.beq b 9=false:=by rfl):FOk P k ⟨f.ps,f.rs,f.m,some (E,b)⟩:=
 ⟨fun q c=>by cases ad c;exact ⟨⟨fun e=>(by grind),fun _ _ _ _=>a,fun e=>(by grind)⟩,fun e=>(by grind),fun e=>(by grind)⟩,fun _=>h.en rfl,fun _=>h.con rfl⟩
theorem MN {α β:Type} {R:α->β->Prop} : ∀ {ps:List α} {xs:List β} {k:Nat} {x:β},All2 R ps xs->xs[k]? =some x-> ∃p,ps[k]? =some p/\R p x
 | _,_,k,x,.nil,h=>by simp at h
 | _,_,0,x,.cons h1 _,h=>by
  obtain rfl:=ad h;exact ⟨_,rfl,h1⟩
 | _,_,k+1,x,.cons _ h2,h=>MN (k:=k) h2 h
theorem Vq {P:Program} {k:FuncId} {E:TypeId} {a b R:Ty} (h1:a.size=1) (h2:b.size=1) (h:FOk P k ⟨[.rd (.prod (.prod (.int .i64) (.sl E (.prod .raw .raw))) R)],[.prod .raw .raw],fun e=>(aO e.1.2 (i64.wrap ((e.1.2.length:Int) - 1))).bind fun x=>some (x.1,x.2),none⟩):FOk P k ⟨[.rd (.prod (.prod (.int .i64) (.sl E (.prod a b))) R)],[.fro (.prod a b)],fun e=>(aO e.1.2 (i64.wrap ((e.1.2.length:Int) - 1))).bind fun x=>some (x.1,x.2),none⟩:=by
 refine ⟨fun q Y=>(by cases Y),fun _=>h.en rfl,fun _ N J γ vs d r f T so=>?_⟩;obtain ⟨v,m,rfl,hd,g⟩:=T;obtain rfl:m= []:=g;obtain ⟨I,t,l⟩:=hd;obtain ⟨c,O,W,⟨c3,c4,e2,r1,B⟩,U⟩:=l;obtain ⟨u,rfl⟩:=List.length_eq_one_iff.1 (Rep.rd_len _ B);have A:(Ty.prod a b).rep.size=1+1:=by
  rw[Ty.rep_size];show a.size+b.size=_;omega
 obtain ⟨i,hp,s⟩:=ZE (n:=1) A B;have so:(aO d.1.1.2 (i64.wrap ((d.1.1.2.length:Int) - 1))).bind (fun x=>some (x.1,x.2))=some r:=so;obtain ⟨x,j,hr⟩:=bind_some so;have hl:=hp.length_eq;have o: ∃p,aO i (i64.wrap ((i.length:Int) - 1))=some p/\(Ty.prod a b).rep.rd J (sp 1 p) x:=by
  rw[hl];unfold aO at j⊢;split at j
  ·rename_i c;rw[if_pos c];exact MN hp j
  ·cases j
 obtain ⟨p,L,Q⟩:=o;have key:=h.con rfl N J undef [v] (((d.1.1.1,i),d.1.2),()) (show dens ([Ty.prod .raw .raw] ++ []) from (p.1,p.2)) f ⟨v,[],rfl,⟨I,t,⟨c,O,W,⟨c3,[u],e2,r1,s⟩,U⟩⟩,rfl⟩ (by
  show (aO i (i64.wrap ((i.length:Int) - 1))).bind (fun x=>some (x.1,x.2))=_;rw[L];rfl)
 refine fun w C X=>(key w C X).mono fun e w' ⟨z,M,a2,V⟩=>⟨z,M,a2,?_⟩
 obtain ⟨H,D,F,⟨G,K,rfl,q,Z⟩,s4,S⟩:=V;obtain ⟨rfl,y⟩:=MM 1 q;refine ⟨H,D,[] ++K,⟨[],K,rfl,⟨rfl,?_⟩,Z⟩,s4,S⟩;obtain rfl:(x.1,x.2)=r:=ad hr;have y:mD true z=sp 1 p:=y;show (Ty.prod a b).rep.rd J (mD true z) (x.1,x.2);rw[y];exact Q
def rtN (V:Env) (rvs:List ResultVar) (T:TypeId) (s:Sg):Option (Int×Int):=(C2 V.tt s rvs).bind fun vs=>match vs with
 | [.one (.ptr h off)] =>cz (Nat.beq off 0) ((tf h s.chs).bind fun b=>cz (Nat.beq b.T T) (match b.cells with
  | [.rd g _ _,.val (.int .i64 x),.val (.int .i64 y)] =>cz (Hdr.beq g ⟨0,[]⟩) (some (x,y))
  | _=>none))
 | _=>none
theorem abY {V:Env} {P:Program} (hT:TTok P V.tt) (hF:FTok P V.ft) (W:P.follows .mixedOrders=true) {k:FuncId} {fn:Func} {c:Code} {E T:Nat} {t:Ty} {m:List t.den->Option (Int×Int)} (hf:P.funcs[k]? =some fn) (hb:fn.body=some c) (hn:fn.ntmps=V.n) (hen:Enters P k) (hm:1<=V.n) (K:Ann)
  (M: ∀A:List t.den,m A=mY V (rtN V fn.results.toList T) c K (fun r=>some r) (fun _ _=>none) (rtN V fn.results.toList T) ⟨[(0,0,.one (.rd ⟨0,[]⟩ (.sl E t) A))],[],1⟩):NewOk P k T ⟨[.rd (.sl E t)],[.int .i64,.int .i64],m,some (T,9)⟩:=by
 refine ⟨hen,fun w0 J γ vs d r ns G ha so hns=>?_⟩;obtain ⟨v,S,rfl,hd,N⟩:=ha;obtain rfl:S= []:=N;obtain ⟨A,u⟩:=d;obtain ⟨cs,hcs,Q⟩:=hd;obtain rfl:cs= [v]:=hcs;obtain ⟨x,y⟩:=r;have hr:=M A;rw[show m A=some (x,y) from so] at hr;obtain rfl: [x,y] =ns:=ad hns;let θ:Th:=fun _=>v;refine Am (n:=V.n) [(0,v)] hf hb hn hm (fun p hp=>by obtain rfl:=aq hp;rfl) (fun F w a hA U=>?_) (fun u=>Ch.back_deeps ⟨WG,trivial⟩);have C:Fine P w0 J θ ⟨[(0,0,.one (.rd ⟨0,[]⟩ (.sl E t) A))],[],1⟩:=⟨fun e H=>by obtain rfl:=aq H;exact ⟨Nat.one_pos,Q⟩,fun e H=>by obtain rfl:=aq H;exact Nat.one_pos,List.pairwise_singleton _ _,fun e H=>(by cases H),G⟩;have hS:Sim P J w0 F V.n J θ ⟨[(0,0,.one (.rd ⟨0,[]⟩ (.sl E t) A))],[],1⟩ a w:=⟨Hp.le.rfl,hA,U,C⟩;have fin: ∀r o θ' z B j,rtN V fn.results.toList T z=some r->Sim P J w0 F V.n o θ' z B j->J.le o->Fr ⟨[(0,0,.one (.rd ⟨0,[]⟩ (.sl E t) A))],[],1⟩ θ z θ'->
   bodyPost P fn (fun e j=> ∃u,e= .returned u/\(∃b,u= .pointer (some ⟨b,0,none⟩))/\ ∃J2,J.le J2/\St J2 w0 j ([Ch.blk (bk u) ([v] ++ [r.1,r.2].map (Value.int .i64)) T] ++ [F])) .ret B j:=by
  intro r o θ' z B j f L O l;obtain ⟨us,X,f⟩:=bind_some f;obtain ⟨r1,r2⟩:=yF hT L X;split at f
  ·rename_i h off;obtain ⟨ho,f⟩:=ak f;obtain rfl:off=0:=ax ho;obtain ⟨b,Z,f⟩:=bind_some f;obtain ⟨D,f⟩:=ak f;have D:b.T=T:=ax D;split at f
   ·rename_i g ty d p q s;obtain ⟨hg,f⟩:=ak f;obtain rfl:=Hdr.beq_eq hg;obtain rfl:=ad f;refine abU L.agr r1 ⟨_,rfl,⟨bk (hv θ' h),rfl⟩,o,O,?_⟩;have h1:=L.st.perm (((lW Z).map (toCh P θ')).append_right [F]);have e0:hv θ' ⟨0,[]⟩=v:=by
     show vg (θ' 0) [] =v;rw[l.same 0 Nat.one_pos];rfl
    have h2:St o w0 j (Ch.blk (bk (hv θ' h)) (b.cells.map (·.v θ')) b.T::(b.rest.map (toCh P θ')++ [F])):=h1;rw[s,D] at h2;have h3:St o w0 j ([Ch.blk (bk (hv θ' h)) [hv θ' ⟨0,[]⟩,.int .i64 p,.int .i64 q] T] ++ [F] ++b.rest.map (toCh P θ')):=h2.perm ((List.perm_append_comm).cons _);rw[e0] at h3;exact h3.left
   ·cases f
  ·cases f
 exact (xA (I:=J) (w0:=w0) (F:=F) hT hF W c).1 K hr.symm hS (fun o θ' z B j Y L O l=>fin _ o θ' z B j Y L O l) (fun i o θ' z B j Y=>by cases Y) (fun r' o θ' z B j f hrr R O l=>by
  obtain rfl:=ad hrr;exact fin _ o θ' z B j f R O l)
theorem ZF {P:Program} {k:FuncId} {f:FS} {T:Nat} (d:NewOk P k T f) (a:f.cl=some (T,9)):FOk P k f:=by
 have b:f.ov=true:=by unfold FS.ov;rw[a];rfl
 refine ⟨fun q c=>?_,fun e=>(by rw[b] at e;cases e),fun e=>(by rw[b] at e;cases e)⟩;rw[a] at c;obtain rfl:=ad c;exact ⟨⟨fun e=>(by cases e),fun _ _ _ e=>(by cases e),fun e=>(by cases e)⟩,fun e=>(by cases e),fun _=>d⟩
end R
namespace R
open Go.RowKit Go.Shelf Go.Sort
open D
abbrev PT:Ty:=.prod (.int .i64) (.int .i64)
def BA (x:Int×Int):List Value:=[.int .i64 x.1,.int .i64 x.2]
theorem MO (x:Int×Int):(BA x).length=2:=rfl
theorem Vr (x:Int×Int): ∀v∈BA x,v.oneCell'=true:=by
 intro v hv;simp only[BA,List.mem_cons,List.not_mem_nil,or_false] at hv;rcases hv with rfl | rfl <;> rfl
def Oo (cf:Int×Int->Int×Int->Int) (xs:List (Int×Int)):List (Int×Int):=xs.mergeSort fun x y=> !(ltOf cf) y x
def Vs (cf:Int×Int->Int×Int->Int) (xs:List (Int×Int)):Option (List (Int×Int)):=(chk (xs.length<4611686018427387904)).bind fun _=>some (Oo cf xs)
theorem I6 (a:Int×Int->Int×Int->Int) (xs:List (Int×Int)):(Oo a xs).length=xs.length:=List.length_mergeSort _
theorem St.grown {I:Hp} {w0 w:World} {cs:List Ch} (h:St I w0 w cs) (os:Array Obj):St I w0 (grow w os) cs:=by
 refine St.step (w:=w) (c:=[]) (c':=[]) h rfl rfl rfl (by simp[grow]) ?_;rintro F rfl - -;exact ⟨fun b a _=>heap_grow_old w os a,[],rfl,List.nodup_nil,by simp⟩
theorem Rs (d:Array (Int×Int)) {i j:Nat} {z:Int×Int} (h:d.toList[i]? =some z) (k:j<2):(flatK BA 2 d)[i*2+j]? =(BA z)[j]? :=by
 have f:i<d.size:=by
  rcases Nat.lt_or_ge i d.size with c | c
  ·exact c
  ·rw[List.getElem?_eq_none (by simpa using c)] at h;cases h
 have a:i*2+j<d.size*2:=by omega
 have e:=get_flatK BA 2 d (i*2+j) a;have b:i*2+j<(flatK BA 2 d).size:=by rw[size_flatK];exact a
 rw[getElem!_pos (flatK BA 2 d) _ b] at e;rw[Array.getElem?_eq_getElem b,e,show (i*2+j) / 2=i from by omega,show (i*2+j) % 2=j from by omega];have g:d[i]! =z:=by
  rw[getElem!_pos d _ f];rw[List.getElem?_eq_getElem (by simpa using f)] at h;simpa using ad h
 rw[g,getElem!_pos (BA z) _ (by rw[MO];exact k),List.getElem?_eq_getElem]
theorem ZG {I:Hp} {c:List Value} {x:Int×Int} (h:PT.rep.rd I c x):c=BA x:=by
 obtain ⟨d,e,rfl,a,b⟩:=h;obtain rfl:d= [_]:=a;obtain rfl:e= [_]:=b
 rfl
theorem ZH {I:Hp} (x:Int×Int):PT.rep.rd I (BA x) x:=⟨[_],[_],rfl,rfl,rfl⟩
theorem Rt {P:Program} {ρ:Ren} (L:SlLaysF0.n6 P ρ) (aE: ∀w,(isAgg (ρ.t 24)).run P w= .ok true w) (zE: ∀w,(Go.sizeOf (ρ.t 24)).run P w= .ok 2 w) {u:Int×Int->Int×Int->Int} (hO:SWO (ltOf u)) (hT: ∀x y,(ltOf u) x y=false->(ltOf u) y x=false->x=y) {g:FuncId} (eg:Enters P g) (U: ∀blk off size w,CmpLays P g #[] BA 2 u blk off size w) (en:Enters P (ρ.f 6)) (E:TypeId) :
  FOk P (ρ.f 6) ⟨[.ow (.sl E PT),.fk g],[],fun a _=>Vs u a,none⟩:=by
 refine ⟨fun q hq=>(by cases hq),fun _=>en,fun _ Q J γ vs d r hlay ha so=>?_⟩;obtain ⟨v,vs1,rfl,hd,v2,vs2,rfl,rfl,Y⟩:=ha;obtain rfl:vs2= []:=Y;obtain ⟨xs0,u1,un⟩:=d;let a:List (Int×Int):=xs0;let zs:List (Int×Int):=r;have so:Vs u a=some zs:=so;obtain ⟨u1,hc,T⟩:=Option.bind_eq_some_iff.1 so;have hc:=cG hc;have T:=ad T;intro w C f;have f:St J Q w (Ch.own (aA E PT.rep) [v] a::C):=f;clear so;rename_i M;clear M hd
 clear_value a
 have A: ∀ {e:Ending} {S:World},(∃W,e= .returned (.tuple #[])/\S=W/\St J Q W (Ch.own (aA E PT.rep) [v] zs::C))-> ∃v':Value,e= .returned v'/\(∃vs:Array Value,v'= .tuple vs/\vs.size=0/\ ∀(i:Nat) (t:Ty),([] :List Ty)[i]? =some t->p9 (vs.getD i undef)=t.isProd)/\St J Q S (Ch.own (aA E PT.rep) [v] zs::C):=by
  rintro e S ⟨W,rfl,rfl,h⟩;exact ⟨_,rfl,⟨#[],rfl,rfl,fun i t h=>(by simp at h)⟩,h⟩
 have I:(v= .slice none 0 0/\a= [])\/ ∃s b n cap,v= .slice (some ⟨s,b,none⟩) n cap:=by
  obtain ⟨hb,o,F,⟨G,K,rfl,⟨hl,e2⟩,e3⟩,h4,h5⟩:=f;rcases e2 with ⟨hv,h1,_⟩ | ⟨s,ofs',cap',cur,K1,hv,_⟩
  ·exact .inl ⟨List.cons.inj hv |>.1,h1⟩
  ·exact .inr ⟨_,_,_,_,List.cons.inj hv |>.1⟩
 rcases I with ⟨rfl,hx⟩ | ⟨s,b,n,cap,rfl⟩
 ·refine (AnyF.slices_SortFunc_none L none 0 (.func (.func g) #[] #[]) w).mono fun e S ⟨he,hw⟩=>A ⟨_,he,hw,?_⟩;rw[<-T,hx,show Oo u [] = [] from List.mergeSort_nil ..];rw[hx] at f;exact f
 ·obtain ⟨hn,h1,h2,cur,Z,hroom,hat⟩:=Ml (R:=PT.rep) (k:=2) (Ty.sh_ok (t:=PT) rfl) rfl f;obtain rfl:=hn;have hH:HoldsK BA 2 w s b a.toArray:=by
   intro j N;rw[size_flatK] at N;have N:j<a.length*2:=by simpa using N
   have o:j / 2<a.length:=by omega
   obtain ⟨c,e1,e2,e3⟩:=hat (j / 2) _ (List.getElem?_eq_getElem o);have H:=e2 (j % 2) (Nat.mod_lt _ (by omega));rw[show j / 2*2+j % 2=j from by omega,ZG e3] at H;have hf:=Rs a.toArray (i:=j / 2) (j:=j % 2) (z:=a[j / 2]) (by simpa using List.getElem?_eq_getElem o) (Nat.mod_lt _ (by omega));rw[show j / 2*2+j % 2=j from by omega] at hf;have hs:j<(flatK BA 2 a.toArray).size:=by rw[size_flatK];simpa using N
   refine ⟨?_,?_⟩
   ·unfold World.cell?;simp only[Z];rw[List.getElem?_drop] at H;rw[getElem!_pos (flatK BA 2 a.toArray) _ hs,<-Array.getElem?_toList,H,<-hf,Array.getElem?_eq_getElem hs]
    rfl
   ·unfold World.frozen?;simp only[Z];simp
  have O:s<w.heap.size:=by
   rcases Nat.lt_or_ge s w.heap.size with c | c
   ·exact c
   ·rw[Array.getElem?_eq_none c] at Z;cases Z
  have key:=AnyQ.slices_SortFunc_total L 2 aE zE BA MO Vr u hO g #[] s b cap a.toArray w eg (U _ _ _ _) hH O (by simpa using hc) hT;rw[show a.toArray.size=a.length from List.size_toArray] at key;refine key.mono ?_;rintro e S ⟨he,m,os,rfl⟩;refine A ⟨_,he,rfl,?_⟩;show St J Q (grow (putRow id (Sort.ahead w m) s b (flatK BA 2 (Oo u a).toArray)) os) _;rw[T];have l:zs.length=a.length:=by rw[<-T];exact I6 _ _
  have V:(flatK BA 2 zs.toArray).toList.length=(flatK BA 2 a.toArray).size:=by rw[Array.length_toList,size_flatK,size_flatK];simp[l]
  have hq:=Go.Lib.putRow_eq_setCells id w s b (flatK BA 2 a.toArray) (flatK BA 2 zs.toArray).toList m hH V;rw[Array.toArray_toList] at hq;rw[hq,List.map_id];refine St.grown ?_ os;have X:St J Q (w.drewN m) (Ch.own (aA E PT.rep) [.slice (some ⟨s,b,none⟩) a.length cap] a::C):=f.drawn rfl rfl rfl rfl;have D:zs.length<=cap:=by rw[l];exact h1
  have B:zs.length<=lim:=by
   have:lim=2 ^ 63 - 1:=rfl
   have:maxLen=2 ^ 63 - 1:=rfl
   omega
  have hlt: ∀(i:Nat) (z:Int×Int),zs[i]? =some z->i<a.length:=fun i z o=>by
   rcases Nat.lt_or_ge i zs.length with c | c
   ·omega
   ·rw[List.getElem?_eq_none c] at o;cases o
  have hnw: ∀(i:Nat) (z:Int×Int),zs[i]? =some z-> ∀j,j<2->(flatK BA 2 zs.toArray).toList[(i - 0)*2+j]? =(BA z)[j]? :=fun i z o j N=>by
   rw[Nat.sub_zero,Array.getElem?_toList];exact Rs zs.toArray (by simpa using o) N
  have h3:=GK (p:=0) (cnt:=a.length) (zs:=zs) (news:=(flatK BA 2 zs.toArray).toList) (Ty.sh_ok (t:=PT) rfl) (Ty.cpy (t:=PT) rfl) (k:=2) rfl (by rw[V,size_flatK];simp) (by omega) D B (fun i z o=>.inl ⟨Nat.zero_le _,(by have:=hlt i z o;omega),BA z,rfl,hnw i z o,ZH z⟩) X;rw[Nat.zero_mul,Nat.add_zero,show @List.length PT.den zs=a.length from l] at h3;exact h3
def cmpI (a b:Int):Int:=if a<b then -1 else if b<a then 1 else 0
def Oq (x y:Int×Int):Int:=if x.1=y.1 then cmpI x.2 y.2 else cmpI x.1 y.1
theorem Ru {a b:Int} :cmpI a b<0↔a<b:=by
 unfold cmpI;split
 ·simp_all
 ·split <;> simp_all
theorem Rv {x y:Int×Int} :ltOf Oq x y=true↔x.1<y.1\/x.1=y.1/\x.2<y.2:=by
 unfold ltOf Oq;rw[decide_eq_true_iff];split
 ·rw[Ru];omega
 ·rw[Ru];omega
theorem Ca {x y:Int×Int} :ltOf Oq x y=false↔ ¬(x.1<y.1\/x.1=y.1/\x.2<y.2):=by
 rw[<-Rv,Bool.not_eq_true]
theorem Vt:SWO (ltOf Oq) where
 irrefl x:=by rw[Ca];omega
 trans x y z h k:=by rw[Rv] at *;omega
 ntrans x y z h k:=by rw[Ca] at *;omega
theorem Vu (x y:Int×Int) (h:ltOf Oq x y=false) (k:ltOf Oq y x=false):x=y:=by
 rw[Ca] at h k;exact Prod.ext (by omega) (by omega)
end R
namespace R
open Go.Shelf
def yG:Go.Shelf.Ren:=⟨fun | 6=>263 | 15=>258 | 14=>310 | 28=>309 | 29=>291 | 20=>332 | 21=>333 | 22=>334 | 23=>335 | 24=>336 | 25=>337 | 26=>338 | 27=>339 | 46=>346 | 47=>327 | 48=>328 | 49=>347 | 50=>348 | 57=>349 | n=>n,fun | 22=>39 | 24=>83 | 25=>292 | 3=>3 | 39=>140 | 0=>0 | 53=>316 | 55=>270 | 4=>4 | 46=>323 | 45=>322 | 50=>146 | 5=>5 | 9=>9 | 66=>352 | 70=>356 | 76=>370 | 77=>371 | n=>n,fun | n=>n⟩
theorem Ez:Go.Proofs.SlLaysF0.n6 Tryz.prog yG:= {
 mixed:=by kernel_rfl
 f6:=⟨Tryz.f263.name,by decide,Tryz.func263.trans (congrArg some (by kernel_rfl))⟩
 f14:=⟨Tryz.f310.name,by decide,Tryz.func310.trans (congrArg some (by kernel_rfl))⟩
 f15:=Tryz.func258.trans (congrArg some (by kernel_rfl))
 f20:=⟨Tryz.f332.name,by decide,Tryz.func332.trans (congrArg some (by kernel_rfl))⟩
 f21:=⟨Tryz.f333.name,by decide,Tryz.func333.trans (congrArg some (by kernel_rfl))⟩
 f22:=⟨Tryz.f334.name,by decide,Tryz.func334.trans (congrArg some (by kernel_rfl))⟩
 f23:=⟨Tryz.f335.name,by decide,Tryz.func335.trans (congrArg some (by kernel_rfl))⟩
 f24:=⟨Tryz.f336.name,by decide,Tryz.func336.trans (congrArg some (by kernel_rfl))⟩
 f25:=⟨Tryz.f337.name,by decide,Tryz.func337.trans (congrArg some (by kernel_rfl))⟩
 f26:=⟨Tryz.f338.name,by decide,Tryz.func338.trans (congrArg some (by kernel_rfl))⟩
 f27:=⟨Tryz.f339.name,by decide,Tryz.func339.trans (congrArg some (by kernel_rfl))⟩
 f28:=Tryz.func309.trans (congrArg some (by kernel_rfl))
 f29:=Tryz.func291.trans (congrArg some (by kernel_rfl))
 f46:=⟨Tryz.f346.name,by decide,Tryz.func346.trans (congrArg some (by kernel_rfl))⟩
 f47:=Tryz.func327.trans (congrArg some (by kernel_rfl))
 f48:=Tryz.func328.trans (congrArg some (by kernel_rfl))
 f49:=⟨Tryz.f347.name,by decide,Tryz.func347.trans (congrArg some (by kernel_rfl))⟩
 f50:=⟨Tryz.f348.name,by decide,Tryz.func348.trans (congrArg some (by kernel_rfl))⟩
 f57:=⟨Tryz.f349.name,by decide,Tryz.func349.trans (congrArg some (by kernel_rfl))⟩
 t0:=Tryz.underlying0
 a0:=Tryz.isAgg0
 z0:=Tryz.sizeOf0
 v0:=Tryz.zeroValue0
 t3:=Tryz.underlying3
 a3:=Tryz.isAgg3
 z3:=Tryz.sizeOf3
 v3:=Tryz.zeroValue3
 t4:=Tryz.underlying4
 a4:=Tryz.isAgg4
 z4:=Tryz.sizeOf4
 v4:=Tryz.zeroValue4
 t5:=Tryz.underlying5
 a5:=Tryz.isAgg5
 z5:=Tryz.sizeOf5
 v5:=Tryz.zeroValue5
 t9:=Tryz.underlying9
 a9:=Tryz.isAgg9
 z9:=Tryz.sizeOf9
 v9:=Tryz.zeroValue9
 t22:=Tryz.underlying39
 a22:=Tryz.isAgg39
 z22:=Tryz.sizeOf39
 v22:=Tryz.zeroValue39
 t25:=Tryz.underlying292
 a25:=Tryz.isAgg292
 z25:=Tryz.sizeOf292
 v25:=Tryz.zeroValue292
 t39:=Tryz.underlying140
 a39:=Tryz.isAgg140
 z39:=Tryz.sizeOf140
 v39:=Tryz.zeroValue140
 t45:=Tryz.underlying322
 a45:=Tryz.isAgg322
 z45:=Tryz.sizeOf322
 v45:=Tryz.zeroValue322
 t46:=Tryz.underlying323
 a46:=Tryz.isAgg323
 z46:=Tryz.sizeOf323
 v46:=Tryz.zeroValue323
 t50:=Tryz.underlying146
 a50:=Tryz.isAgg146
 z50:=Tryz.sizeOf146
 v50:=Tryz.zeroValue146
 t53:=Tryz.underlying316
 a53:=Tryz.isAgg316
 z53:=Tryz.sizeOf316
 v53:=Tryz.zeroValue316
 t55:=Tryz.underlying270
 a55:=Tryz.isAgg270
 z55:=Tryz.sizeOf270
 v55:=Tryz.zeroValue270
 t66:=Tryz.underlying352
 a66:=Tryz.isAgg352
 z66:=Tryz.sizeOf352
 v66:=Tryz.zeroValue352
 t70:=Tryz.underlying356
 a70:=Tryz.isAgg356
 z70:=Tryz.sizeOf356
 v70:=Tryz.zeroValue356
 t76:=Tryz.underlying370
 a76:=Tryz.isAgg370
 z76:=Tryz.sizeOf370
 v76:=Tryz.zeroValue370
 t77:=Tryz.underlying371
 a77:=Tryz.isAgg371
 z77:=Tryz.sizeOf371
 v77:=Tryz.zeroValue371 }
end R
namespace R
open Go.RowKit Go.Shelf Go.Sort
open D
abbrev IT:Ty:=.int .i64
def Vv (xs:List Int):Option (List Int):=(chk (xs.length<4611686018427387904)).bind fun _=>some (xs.mergeSort fun x y=>decide (x<=y))
theorem St.grownI {I:Hp} {w0 w:World} {cs:List Ch} (h:St I w0 w cs) (os:Array Obj):St I w0 (grow w os) cs:=by
 refine St.step (w:=w) (c:=[]) (c':=[]) h rfl rfl rfl (by simp[grow]) ?_;rintro F rfl - -;exact ⟨fun b a _=>heap_grow_old w os a,[],rfl,List.nodup_nil,by simp⟩
theorem Rw {P:Program} {ρ:Ren} (L:Lays.n189 P ρ) (en:Enters P (ρ.f 189)) (E:TypeId) :
  FOk P (ρ.f 189) ⟨[.ow (.sl E IT)],[],fun a=>Vv a,none⟩:=by
 refine ⟨fun q hq=>(by cases hq),fun _=>en,fun _ S J γ T d r hlay ha so=>?_⟩;obtain ⟨v,vs1,rfl,hd,N⟩:=ha;obtain rfl:vs1= []:=N;obtain ⟨Z,un⟩:=d;let a:List Int:=Z;let zs:List Int:=r;have so:Vv a=some zs:=so;obtain ⟨u1,V,D⟩:=Option.bind_eq_some_iff.1 so;have V:=cG V;have D:=ad D;intro w C b;have b:St J S w (Ch.own (aA E IT.rep) [v] a::C):=b;clear so;rename_i y;clear y hd
 clear_value a
 have o: ∀ {e:Ending} {B:World},(∃W,e= .returned (.tuple #[])/\B=W/\St J S W (Ch.own (aA E IT.rep) [v] zs::C))-> ∃v':Value,e= .returned v'/\(∃T:Array Value,v'= .tuple T/\T.size=0/\ ∀(i:Nat) (t:Ty),([] :List Ty)[i]? =some t->p9 (T.getD i undef)=t.isProd)/\St J S B (Ch.own (aA E IT.rep) [v] zs::C):=by
  rintro e B ⟨W,rfl,rfl,h⟩;exact ⟨_,rfl,⟨#[],rfl,rfl,fun i t h=>(by simp at h)⟩,h⟩
 have x:(v= .slice none 0 0/\a= [])\/ ∃l g n cap,v= .slice (some ⟨l,g,none⟩) n cap:=by
  obtain ⟨hb,O,F,⟨G,K,rfl,⟨hl,e2⟩,e3⟩,h4,h5⟩:=b;rcases e2 with ⟨hv,h1,_⟩ | ⟨l,ofs',cap',cur,K1,hv,_⟩
  ·exact .inl ⟨List.cons.inj hv |>.1,h1⟩
  ·exact .inr ⟨_,_,_,_,List.cons.inj hv |>.1⟩
 rcases x with ⟨rfl,hx⟩ | ⟨l,g,n,cap,rfl⟩
 ·refine (Any.slices_Sort_int_none L none 0 w).mono fun e B ⟨U,hw⟩=>o ⟨_,U,hw,?_⟩;rw[<-D,hx,List.mergeSort_nil];rw[hx] at b;exact b
 ·obtain ⟨hn,h1,h2,cur,Q,X,Y⟩:=Ml (R:=IT.rep) (k:=1) (Ty.sh_ok (t:=IT) rfl) rfl b;obtain rfl:=hn;have hH:Holds (Value.int .i64) w l g a.toArray:=by
   intro j H;have H:j<a.length:=by simpa using H
   obtain ⟨c,e1,e2,e3⟩:=Y j _ (List.getElem?_eq_getElem H);have I:=e2 0 Nat.one_pos;obtain rfl:c= [.int .i64 a[j]]:=e3;rw[Nat.mul_one,Nat.add_zero,List.getElem?_drop] at I;refine ⟨?_,?_⟩
   ·unfold World.cell?;simp only[Q];rw[<-Array.getElem?_toList,I,getElem!_pos a.toArray _ (by simpa using H)];simp
   ·unfold World.frozen?;simp only[Q];simp
  have A:l<w.heap.size:=by
   rcases Nat.lt_or_ge l w.heap.size with c | c
   ·exact c
   ·rw[Array.getElem?_eq_none c] at Q;cases Q
  refine (Any.slices_Sort_int L l g cap a w hH A V).mono ?_;rintro e B ⟨U,m,os,rfl⟩;refine o ⟨_,U,rfl,?_⟩;have f:zs.length=a.length:=by rw[<-D];exact List.length_mergeSort _
  rw[D,Go.Lib.sorted_world (Value.int .i64) w l g m a.toArray zs os hH (by simpa using f)];refine St.grownI ?_ os;have M:St J S (w.drewN m) (Ch.own (aA E IT.rep) [.slice (some ⟨l,g,none⟩) a.length cap] a::C):=b.drawn rfl rfl rfl rfl;have u:zs.length<=cap:=by rw[f];exact h1
  have s:zs.length<=lim:=by
   have:lim=2 ^ 63 - 1:=rfl
   have:maxLen=2 ^ 63 - 1:=rfl
   omega
  have h3:=GK (p:=0) (cnt:=a.length) (zs:=zs) (news:=zs.map (Value.int .i64)) (Ty.sh_ok (t:=IT) rfl) (Ty.cpy (t:=IT) rfl) (k:=1) rfl (by simp[f]) (by omega) u s (fun i z O=>.inl ⟨Nat.zero_le _,(by
   have:=(List.getElem?_eq_some_iff.1 O).1
   have:i<zs.length:=this
   omega),[.int .i64 z],rfl,fun j H=>by
    obtain rfl:j=0:=by omega
    rw[Nat.sub_zero,Nat.mul_one,Nat.add_zero,List.getElem?_map];have O:zs[i]? =some z:=O;rw[O];rfl,rfl⟩) M
  rw[Nat.zero_mul,Nat.add_zero,show @List.length IT.den zs=a.length from f] at h3;exact h3
end R
namespace R
open Go.Shelf
def C3:Go.Shelf.Ren:=⟨fun | 189=>204 | 125=>258 | 257=>257 | 128=>309 | 129=>291 | 294=>300 | 295=>301 | 296=>302 | 297=>303 | 298=>304 | 299=>305 | 216=>306 | 300=>307 | 301=>308 | 328=>326 | 329=>327 | 330=>328 | 331=>329 | 332=>330 | 215=>331 | 343=>345 | n=>n,fun | 28=>65 | 3=>3 | 46=>140 | 0=>0 | 51=>316 | 53=>270 | 4=>4 | 183=>323 | 182=>322 | 131=>146 | 5=>5 | 9=>9 | 218=>352 | 222=>356 | 228=>370 | 229=>371 | n=>n,fun | n=>n⟩
theorem KQ:Go.Proofs.Lays.n189 Tryz.prog C3:= {
 mixed:=by kernel_rfl
 f125:=Tryz.func258.trans (congrArg some (by kernel_rfl))
 f128:=Tryz.func309.trans (congrArg some (by kernel_rfl))
 f129:=Tryz.func291.trans (congrArg some (by kernel_rfl))
 f189:=Tryz.func204.trans (congrArg some (by kernel_rfl))
 f215:=Tryz.func331.trans (congrArg some (by kernel_rfl))
 f216:=Tryz.func306.trans (congrArg some (by kernel_rfl))
 f257:=Tryz.func257.trans (congrArg some (by kernel_rfl))
 f294:=Tryz.func300.trans (congrArg some (by kernel_rfl))
 f295:=Tryz.func301.trans (congrArg some (by kernel_rfl))
 f296:=Tryz.func302.trans (congrArg some (by kernel_rfl))
 f297:=Tryz.func303.trans (congrArg some (by kernel_rfl))
 f298:=Tryz.func304.trans (congrArg some (by kernel_rfl))
 f299:=Tryz.func305.trans (congrArg some (by kernel_rfl))
 f300:=Tryz.func307.trans (congrArg some (by kernel_rfl))
 f301:=Tryz.func308.trans (congrArg some (by kernel_rfl))
 f328:=Tryz.func326.trans (congrArg some (by kernel_rfl))
 f329:=Tryz.func327.trans (congrArg some (by kernel_rfl))
 f330:=Tryz.func328.trans (congrArg some (by kernel_rfl))
 f331:=Tryz.func329.trans (congrArg some (by kernel_rfl))
 f332:=Tryz.func330.trans (congrArg some (by kernel_rfl))
 f343:=Tryz.func345.trans (congrArg some (by kernel_rfl))
 t0:=Tryz.underlying0
 a0:=Tryz.isAgg0
 z0:=Tryz.sizeOf0
 v0:=Tryz.zeroValue0
 t3:=Tryz.underlying3
 a3:=Tryz.isAgg3
 z3:=Tryz.sizeOf3
 v3:=Tryz.zeroValue3
 t4:=Tryz.underlying4
 a4:=Tryz.isAgg4
 z4:=Tryz.sizeOf4
 v4:=Tryz.zeroValue4
 t5:=Tryz.underlying5
 a5:=Tryz.isAgg5
 z5:=Tryz.sizeOf5
 v5:=Tryz.zeroValue5
 t9:=Tryz.underlying9
 a9:=Tryz.isAgg9
 z9:=Tryz.sizeOf9
 v9:=Tryz.zeroValue9
 t28:=Tryz.underlying65
 a28:=Tryz.isAgg65
 z28:=Tryz.sizeOf65
 v28:=Tryz.zeroValue65
 t46:=Tryz.underlying140
 a46:=Tryz.isAgg140
 z46:=Tryz.sizeOf140
 v46:=Tryz.zeroValue140
 t51:=Tryz.underlying316
 a51:=Tryz.isAgg316
 z51:=Tryz.sizeOf316
 v51:=Tryz.zeroValue316
 t53:=Tryz.underlying270
 a53:=Tryz.isAgg270
 z53:=Tryz.sizeOf270
 v53:=Tryz.zeroValue270
 t131:=Tryz.underlying146
 a131:=Tryz.isAgg146
 z131:=Tryz.sizeOf146
 v131:=Tryz.zeroValue146
 t182:=Tryz.underlying322
 a182:=Tryz.isAgg322
 z182:=Tryz.sizeOf322
 v182:=Tryz.zeroValue322
 t183:=Tryz.underlying323
 a183:=Tryz.isAgg323
 z183:=Tryz.sizeOf323
 v183:=Tryz.zeroValue323
 t218:=Tryz.underlying352
 a218:=Tryz.isAgg352
 z218:=Tryz.sizeOf352
 v218:=Tryz.zeroValue352
 t222:=Tryz.underlying356
 a222:=Tryz.isAgg356
 z222:=Tryz.sizeOf356
 v222:=Tryz.zeroValue356
 t228:=Tryz.underlying370
 a228:=Tryz.isAgg370
 z228:=Tryz.sizeOf370
 v228:=Tryz.zeroValue370
 t229:=Tryz.underlying371
 a229:=Tryz.isAgg371
 z229:=Tryz.sizeOf371
 v229:=Tryz.zeroValue371 }
end R
namespace R
open Go.RowKit Go.Shelf Go.Sort
open D
def Vx (xs:List ByteArray) (sep:ByteArray):Option ByteArray:=(chk (xs.length<=140737488355328/\(Lib.join (xs.map (·.data.toList)) sep.data.toList).length<=140737488355328)).bind fun _=>some ⟨(Lib.join (xs.map (·.data.toList)) sep.data.toList).toArray⟩
def Vy (n:Int):Option ByteArray:=(chk (-9223372036854775808<=n/\n<=9223372036854775807)).bind fun _=>some ⟨(Lib.itoa n).toArray⟩
section
variable {P:Program} {ρ:Ren}
theorem St.grownS {I:Hp} {w0 w:World} {cs:List Ch} (h:St I w0 w cs) (os:Array Obj):St I w0 (grow w os) cs:=by
 refine St.step (w:=w) (c:=[]) (c':=[]) h rfl rfl rfl (by simp[grow]) ?_;rintro F rfl - -;exact ⟨fun b a _=>heap_grow_old w os a,[],rfl,List.nodup_nil,by simp⟩
theorem St.belowS {I:Hp} {w0 w w':World} {cs:List Ch} (h:St I w0 w cs) (a:Below w.heap.size w w'):St I w0 w' cs:=by
 refine St.step (w:=w) (c:=[]) (c':=[]) h a.os a.tape a.output a.size ?_;rintro F rfl - -;exact ⟨fun b d _=>a.block b d,[],rfl,List.nodup_nil,by simp⟩
theorem Vz (L:LaysM.n171 P ρ) (u:Enters P (ρ.f 171)):FOk P (ρ.f 171) ⟨[.rd (.int .i64)],[.str],fun n=>Vy n,none⟩:=by
 refine ⟨fun q o=>(by cases o),fun _=>u,fun _ i J γ B d r b l so=>?_⟩;obtain ⟨v,h,rfl,⟨s,j,p⟩,f⟩:=l;obtain rfl:h= []:=f;obtain ⟨x,E⟩:=d;let n:Int:=x;obtain rfl:s= [v]:=j;obtain rfl:v= .int .i64 n:=(List.cons.inj p).1;obtain ⟨A,g,m⟩:=Option.bind_eq_some_iff.1 (show Vy n=some r from so);have g:=cG g;obtain rfl:=ad m;intro w C a;have a:St J i w C:=a;refine (Any.strconv_Itoa L n g.1 g.2 w (b w a.2.1).tab).mono ?_;rintro e z ⟨rfl,k,t,rfl⟩;have y:St J i (w.drewN k) C:=a.drawn rfl rfl rfl rfl;exact ⟨_,rfl,rfl,D.St.free (R:=Pb) (c:=[.string _]) (St.grownS y t) ⟨rfl,rfl⟩⟩
theorem VB (L:Lays.n156 P ρ) (X:Builder.Extra P ρ) (E:TypeId) (W:Enters P (ρ.f 156)):FOk P (ρ.f 156) ⟨[.rd (.sl E .str),.rd .str],[.str],fun f s=>Vx f s,none⟩:=by
 refine ⟨fun q Q=>(by cases Q),fun _=>W,fun _ F J γ vs d r u I so=>?_⟩;obtain ⟨v,O,rfl,⟨T,A,S⟩,y,n,rfl,⟨G,H,V⟩,h⟩:=I;obtain rfl:n= []:=h;obtain ⟨o,sep,un⟩:=d;let f:List ByteArray:=o;obtain rfl:T= [v]:=A;obtain rfl:G= [y]:=H;obtain rfl:y= .string sep:=(List.cons.inj V).1;obtain ⟨u1,l,M⟩:=Option.bind_eq_some_iff.1 (show Vx f sep=some r from so);have l:=cG l;obtain rfl:=ad M;obtain ⟨U,cap,hv,⟨hl,g⟩,i⟩:((aA E Pb).rd J [v] f):=S;obtain rfl:=(List.cons.inj hv).1;intro w C a;have a:St J F w C:=a;rcases i with i | ⟨b,off,p,t,fr,rfl,z,N⟩
 ·have i:f= []:=i;rw[i] at l⊢;refine (Any.strings_Join_none L X U cap sep w).mono ?_;rintro e K ⟨rfl,rfl⟩;refine ⟨_,rfl,rfl,?_⟩;exact D.St.free (R:=Pb) (c:=[.string _]) a ⟨rfl,rfl⟩
 ·have m:=a.2.1 _ _ z;have k:b<w.heap.size:=(Array.getElem?_eq_some_iff.1 m).1;refine (Any.strings_Join L X b off cap f sep w (fun j x hj=>?_) k l.1 g l.2).mono ?_
  ·obtain ⟨c,e1,Y,Z⟩:=N j x hj;obtain rfl:c= [.string x]:=Z
   have:=Y 0 Nat.one_pos
   have e:off+j*Pb.size+0=off+j:=by show off+j*1+0=_;omega
   rw[e] at this;unfold World.cell?;have m:w.heap[b]? =some (.cells p t fr):=m;simp only[m];rw[<-Array.getElem?_toList,this]
   rfl
  ·rintro e K ⟨rfl,B⟩;exact ⟨_,rfl,rfl,D.St.free (R:=Pb) (c:=[.string _]) (St.belowS a B) ⟨rfl,rfl⟩⟩
end
end R
namespace D
open Go.RowKit Go.Shelf
theorem ZI {I:Hp} {w0 w:World} {cs:List Ch} {α:Type} {E:TypeId} {enc:α->Value} {h1: ∀a,(enc a).oneCell'=true} {b:Nat} {xs:List α} (c:xs.length<=lim) (h:St I w0 w (Ch.blk b (xs.map enc) E::cs)):St I w0 w (Ch.own (aA E (mT α enc h1)) [.slice (some ⟨b,0,none⟩) xs.length xs.length] xs::cs):=by
 obtain ⟨f,j,F,⟨G,K,rfl,⟨rfl,g⟩,e⟩,i,d⟩:=h;refine ⟨f,j,[b] ++K,⟨[b],K,rfl,⟨c,.inr ⟨b,0,xs.length,_,[],rfl,g,ay _,c,?_,rfl,?_⟩⟩,e⟩,i,d⟩
 ·show 0+xs.length*1<=_;simp
 ·refine mn.2 ⟨rfl,[],?_⟩;simp
end D
namespace R
open Go.RowKit Go.Shelf Go.Sort
open D
def MP (s sep:ByteArray):Option (List ByteArray):=(chk (s.size<4294967281/\1<=sep.size)).bind fun _=>some (Lib.splitB sep 0 (Lib.countB s sep) s)
def abZ (s sep:ByteArray):Option (ByteArray×ByteArray×Bool):=(chk (s.size<4294967281)).bind fun _=>some (⟨(Lib.cut s.data.toList sep.data.toList).1.toArray⟩,⟨(Lib.cut s.data.toList sep.data.toList).2.1.toArray⟩,(Lib.cut s.data.toList sep.data.toList).2.2)
def An (s:ByteArray) (c:Int):Option Int:=some (Lib.indexByte s.data.toList c.toNat.toUInt8)
def uM (s:ByteArray):Option (Int×Bool):=
 if 10<s.size then some (0,false) else
 match Lib.atoi s.data.toList with
 | none=>some (0,false)
 | some n=>if (⟨(Lib.itoa n).toArray⟩:ByteArray)=s/\ -999999999<=n/\n<=999999999 then some (n,true) else some (0,false)
section
variable {P:Program} {ρ:Ren}
theorem Rx (L:Lays.n146 P ρ) (n:(P.info? (ρ.t 9)).map (fun i=>(i.zero,i.size,i.bytes))=some (some (.string ByteArray.empty),1,16)) (R:P.globalNamed "internal/bytealg.MaxLen" =some (ρ.g 1)) (Q:Enters P (ρ.f 146)):FOk P (ρ.f 146) ⟨[.rd .str,.rd .str],[.sl (ρ.t 9) .str],fun s sep=>MP s sep,none⟩:=by
 refine ⟨fun q K=>(by cases K),fun _=>Q,fun _ x J γ U d r h A so=>?_⟩;obtain ⟨v,G,rfl,⟨N,u,M⟩,p,l,rfl,⟨y,z,O⟩,j⟩:=A;obtain rfl:l= []:=j;obtain ⟨H,k,V⟩:=d;let s:ByteArray:=H;let sep:ByteArray:=k;obtain rfl:N= [v]:=u;obtain rfl:y= [p]:=z;obtain rfl:v= .string s:=(List.cons.inj M).1;obtain rfl:p= .string sep:=(List.cons.inj O).1;obtain ⟨T,f,B⟩:=Option.bind_eq_some_iff.1 (show MP s sep=some r from so);have f:=cG f;obtain rfl:=ad B;intro w C a;have a:St J x w C:=a;obtain ⟨g,m,F,t⟩:=(h w a.2.1).len;obtain rfl:=ad (R.symm.trans F);refine (Any.strings_Split L n s sep m w f.1 t f.2).mono ?_;rintro e S ⟨rfl,rfl⟩;refine ⟨_,rfl,rfl,?_⟩;have c:(Lib.splitB sep 0 (Lib.countB s sep) s).length=Lib.countB s sep+1:=Lib.splitB_all sep f.2 0 _ s rfl;have I:=Lib.countB_le sep f.2 s.size s (ay _);have o:=D.ZI (E:=ρ.t 9) (enc:=Value.string) (h1:=fun _=>rfl) (b:=w.heap.size) (xs:=Lib.splitB sep 0 (Lib.countB s sep) s) (by rw[c];have:lim=9223372036854775807:=rfl;omega) (a.alloc _ _);rw[c] at o;exact o
theorem ZJ (L:Lays.n145 P ρ) (O:P.globalNamed "internal/bytealg.MaxLen" =some (ρ.g 1)) (N:Enters P (ρ.f 145)):FOk P (ρ.f 145) ⟨[.rd .str,.rd .str],[.str,.str,.bool],fun s sep=>abZ s sep,none⟩:=by
 refine ⟨fun q H=>(by cases H),fun _=>N,fun _ l J γ U d r b A so=>?_⟩;obtain ⟨v,F,rfl,⟨K,x,I⟩,p,j,rfl,⟨y,z,M⟩,f⟩:=A;obtain rfl:j= []:=f;obtain ⟨G,h,V⟩:=d;let s:ByteArray:=G;let sep:ByteArray:=h;obtain rfl:K= [v]:=x;obtain rfl:y= [p]:=z;obtain rfl:v= .string s:=(List.cons.inj I).1;obtain rfl:p= .string sep:=(List.cons.inj M).1;obtain ⟨T,k,B⟩:=Option.bind_eq_some_iff.1 (show abZ s sep=some r from so);have k:=cG k;obtain rfl:=ad B;intro w C a;have a:St J l w C:=a;obtain ⟨g,m,E,u⟩:=(b w a.2.1).len;obtain rfl:=ad (O.symm.trans E);refine (Any.strings_Cut L s sep m w k u).mono ?_;rintro e S ⟨rfl,n,rfl⟩;refine ⟨_,rfl,⟨_,rfl,rfl,fun i t o=>?_⟩,?_⟩
 ·rcases i with _ | _ | _ | i
  all_goals first | (obtain rfl:=ad o;rfl) | cases o
 ·have Q:St J l (w.drewN n) C:=a.drawn rfl rfl rfl rfl;exact D.St.free (R:=Pb) (c:=[.string _]) (D.St.free (R:=Pb) (c:=[.string _]) (D.St.free (R:=JX) (c:=[.bool _]) Q ⟨rfl,rfl⟩) ⟨rfl,rfl⟩) ⟨rfl,rfl⟩
theorem GZ (L:Lays.n137 P ρ) (z:Enters P (ρ.f 137)):FOk P (ρ.f 137) ⟨[.rd .str,.rd (.int .u8)],[.int .i64],fun s c=>An s c,none⟩:=by
 refine ⟨fun q p=>(by cases p),fun _=>z,fun _ j J γ B d r g m so=>?_⟩;obtain ⟨v,n,rfl,⟨x,i,u⟩,h,f,rfl,⟨k,l,y⟩,b⟩:=m;obtain rfl:f= []:=b;obtain ⟨o,t,E⟩:=d;let s:ByteArray:=o;let c:Int:=t;obtain rfl:x= [v]:=i;obtain rfl:k= [h]:=l;obtain rfl:v= .string s:=(List.cons.inj u).1;obtain rfl:h= .int .u8 c:=(List.cons.inj y).1;obtain rfl:=ad (show An s c=some r from so);intro w C a;have a:St J j w C:=a;refine (Any.strings_IndexByte L s c w).mono ?_;rintro e A ⟨rfl,rfl⟩;exact ⟨_,rfl,rfl,D.St.free (R:=aeO) (c:=[.int .i64 _]) a ⟨rfl,rfl⟩⟩
theorem ZK {α:Type} {E:TypeId} {R:Rep α} {I:Hp} {w0 w:World} {v:List Value} {xs:List α} {C:List Ch} (h:St I w0 w (Ch.own (aA E R) v xs::C)):St I w0 w (Ch.own (aA E (Pc R)) v xs::C):=by
 obtain ⟨d,j,F,⟨G,K,rfl,⟨f,s⟩,i⟩,e,b⟩:=h;rcases s with ⟨rfl,rfl,rfl⟩ | ⟨g,a,cap,cur,r,hv,l,m,q,o,k,p⟩
 ·exact ⟨d,j,_,⟨_,K,rfl,⟨f,.inl ⟨rfl,rfl,rfl⟩⟩,i⟩,e,b⟩
 ·exact ⟨d,j,_,⟨_,K,rfl,⟨f,.inr ⟨g,a,cap,cur,r,hv,l,m,q,o,k,OwnEls.turn (R:=R) (S:=Pc R) rfl (fun c x G n=>Pw n) p⟩⟩,i⟩,e,b⟩
theorem MQ {P:Program} {k:FuncId} {ps:List PM} {A B t:Ty} {E:TypeId} {m:curP ps (Option (dens ([A,.sl E t,B] ++outs ps)))} (h:FOk P k ⟨ps,[A,.sl E t,B],m,none⟩):FOk P k ⟨ps,[A,.sl E (.bag t),B],m,none⟩:=by
 refine ⟨fun q e=>(by cases e),fun e=>h.en e,fun _ f J γ j d r a g so=>?_⟩;refine (h.con rfl f J γ j d r a g so).imp (fun v hv=>?_) (fun v _ w C l=>?_)
 ·obtain ⟨o,rfl,n,c⟩:=hv;refine ⟨o,rfl,n,fun i u b=>?_⟩;rcases i with _ | _ | _ | i
  ·obtain rfl:=ad b;exact c 0 _ rfl
  ·obtain rfl:=ad b;exact c 1 (.sl E t) rfl
  ·obtain rfl:=ad b;exact c 2 _ rfl
  ·cases b
 ·exact ((ZK (l.perm (List.Perm.swap ..))).perm (List.Perm.swap ..))
theorem Ry {k:FuncId} {m:ByteArray->Option (Int×Bool)} (B:Enters P k) (h: ∀s r w,m s=some r->LayW P w->Calls P k #[.string s] w fun e j=>e= .returned (.tuple #[.int .i64 r.1,.bool r.2])/\Below w.heap.size w j):FOk P k ⟨[.rd .str],[.int .i64,.bool],fun s=>m s,none⟩:=by
 refine ⟨fun q y=>(by cases y),fun _=>B,fun _ p J γ E d r b u so=>?_⟩;obtain ⟨v,g,rfl,⟨A,n,z⟩,f⟩:=u;obtain rfl:g= []:=f;obtain ⟨x,F⟩:=d;let s:ByteArray:=x;obtain rfl:A= [v]:=n;obtain rfl:v= .string s:=(List.cons.inj z).1;intro w C a;have a:St J p w C:=a;refine (h s r w so (b w a.2.1)).mono ?_;rintro e j ⟨rfl,o⟩;refine ⟨_,rfl,⟨_,rfl,rfl,fun i t l=>?_⟩,?_⟩
 ·rcases i with _ | _ | i
  all_goals first | (obtain rfl:=ad l;rfl) | cases l
 ·exact D.St.free (R:=aeO) (c:=[.int .i64 _]) (D.St.free (R:=JX) (c:=[.bool _]) (St.belowS a o) ⟨rfl,rfl⟩) ⟨rfl,rfl⟩
end
end R
namespace R
open Go.Shelf
def A9:Go.Shelf.Ren:=⟨fun | 156=>103 | 165=>149 | 166=>150 | 169=>151 | 240=>194 | 241=>195 | 276=>243 | 277=>244 | n=>n,fun | 31=>144 | 9=>9 | 3=>3 | 4=>4 | 0=>0 | 20=>20 | 72=>195 | 76=>189 | 70=>193 | 37=>22 | 75=>188 | 127=>227 | 164=>266 | 5=>5 | 80=>197 | n=>n,fun | n=>n⟩
theorem VC:Go.Proofs.Lays.n156 Tryz.prog A9:= {
 mixed:=by kernel_rfl
 f156:=Tryz.func103.trans (congrArg some (by kernel_rfl))
 f165:=Tryz.func149.trans (congrArg some (by kernel_rfl))
 f166:=Tryz.func150.trans (congrArg some (by kernel_rfl))
 f169:=Tryz.func151.trans (congrArg some (by kernel_rfl))
 f240:=Tryz.func194.trans (congrArg some (by kernel_rfl))
 f241:=Tryz.func195.trans (congrArg some (by kernel_rfl))
 f276:=Tryz.func243.trans (congrArg some (by kernel_rfl))
 f277:=Tryz.func244.trans (congrArg some (by kernel_rfl))
 t0:=Tryz.underlying0
 a0:=Tryz.isAgg0
 z0:=Tryz.sizeOf0
 v0:=Tryz.zeroValue0
 t3:=Tryz.underlying3
 a3:=Tryz.isAgg3
 z3:=Tryz.sizeOf3
 v3:=Tryz.zeroValue3
 t4:=Tryz.underlying4
 a4:=Tryz.isAgg4
 z4:=Tryz.sizeOf4
 v4:=Tryz.zeroValue4
 t9:=Tryz.underlying9
 a9:=Tryz.isAgg9
 z9:=Tryz.sizeOf9
 v9:=Tryz.zeroValue9
 t20:=Tryz.underlying20
 a20:=Tryz.isAgg20
 z20:=Tryz.sizeOf20
 v20:=Tryz.zeroValue20
 t31:=Tryz.underlying144
 a31:=Tryz.isAgg144
 z31:=Tryz.sizeOf144
 v31:=Tryz.zeroValue144
 t37:=Tryz.underlying22
 a37:=Tryz.isAgg22
 z37:=Tryz.sizeOf22
 v37:=Tryz.zeroValue22
 t70:=Tryz.underlying193
 a70:=Tryz.isAgg193
 z70:=Tryz.sizeOf193
 v70:=Tryz.zeroValue193
 t72:=Tryz.underlying195
 a72:=Tryz.isAgg195
 z72:=Tryz.sizeOf195
 v72:=Tryz.zeroValue195
 t75:=Tryz.underlying188
 a75:=Tryz.isAgg188
 z75:=Tryz.sizeOf188
 v75:=Tryz.zeroValue188
 t76:=Tryz.underlying189
 a76:=Tryz.isAgg189
 z76:=Tryz.sizeOf189
 v76:=Tryz.zeroValue189
 t127:=Tryz.underlying227
 a127:=Tryz.isAgg227
 z127:=Tryz.sizeOf227
 v127:=Tryz.zeroValue227
 t164:=Tryz.underlying266
 a164:=Tryz.isAgg266
 z164:=Tryz.sizeOf266
 v164:=Tryz.zeroValue266 }
def I7:Go.Shelf.Ren:=⟨fun | 171=>104 | 243=>152 | 246=>196 | 283=>245 | 284=>246 | 285=>247 | 286=>248 | 129=>291 | 317=>290 | 318=>292 | 319=>293 | 320=>294 | 337=>322 | 338=>323 | n=>n,fun | 3=>3 | 9=>9 | 2=>2 | 4=>4 | 171=>269 | 0=>0 | 53=>270 | 37=>22 | 5=>5 | 173=>273 | 212=>315 | 51=>316 | 20=>20 | 213=>317 | 46=>140 | 232=>368 | 233=>369 | n=>n,fun | 17=>3 | 18=>6 | 19=>7 | n=>n⟩
theorem MR:Go.Proofs.LaysM.n171 Tryz.prog I7:= {
 mixed:=by kernel_rfl
 f129:=Tryz.func291.trans (congrArg some (by kernel_rfl))
 f171:=Tryz.func104.trans (congrArg some (by kernel_rfl))
 f243:=Tryz.func152.trans (congrArg some (by kernel_rfl))
 f246:=Tryz.func196.trans (congrArg some (by kernel_rfl))
 f283:=Tryz.func245.trans (congrArg some (by kernel_rfl))
 f284:=Tryz.func246.trans (congrArg some (by kernel_rfl))
 f285:=Tryz.func247.trans (congrArg some (by kernel_rfl))
 f286:=Tryz.func248.trans (congrArg some (by kernel_rfl))
 f317:=Tryz.func290.trans (congrArg some (by kernel_rfl))
 f318:=Tryz.func292.trans (congrArg some (by kernel_rfl))
 f319:=Tryz.func293.trans (congrArg some (by kernel_rfl))
 f320:=Tryz.func294.trans (congrArg some (by kernel_rfl))
 f337:=Tryz.func322.trans (congrArg some (by kernel_rfl))
 f338:=Tryz.func323.trans (congrArg some (by kernel_rfl))
 t0:=Tryz.underlying0
 a0:=Tryz.isAgg0
 z0:=Tryz.sizeOf0
 v0:=Tryz.zeroValue0
 t2:=Tryz.underlying2
 a2:=Tryz.isAgg2
 z2:=Tryz.sizeOf2
 v2:=Tryz.zeroValue2
 t3:=Tryz.underlying3
 a3:=Tryz.isAgg3
 z3:=Tryz.sizeOf3
 v3:=Tryz.zeroValue3
 t4:=Tryz.underlying4
 a4:=Tryz.isAgg4
 z4:=Tryz.sizeOf4
 v4:=Tryz.zeroValue4
 t5:=Tryz.underlying5
 a5:=Tryz.isAgg5
 z5:=Tryz.sizeOf5
 v5:=Tryz.zeroValue5
 t9:=Tryz.underlying9
 a9:=Tryz.isAgg9
 z9:=Tryz.sizeOf9
 v9:=Tryz.zeroValue9
 t20:=Tryz.underlying20
 a20:=Tryz.isAgg20
 z20:=Tryz.sizeOf20
 v20:=Tryz.zeroValue20
 t37:=Tryz.underlying22
 a37:=Tryz.isAgg22
 z37:=Tryz.sizeOf22
 v37:=Tryz.zeroValue22
 t46:=Tryz.underlying140
 a46:=Tryz.isAgg140
 z46:=Tryz.sizeOf140
 v46:=Tryz.zeroValue140
 t51:=Tryz.underlying316
 a51:=Tryz.isAgg316
 z51:=Tryz.sizeOf316
 v51:=Tryz.zeroValue316
 t53:=Tryz.underlying270
 a53:=Tryz.isAgg270
 z53:=Tryz.sizeOf270
 v53:=Tryz.zeroValue270
 t171:=Tryz.underlying269
 a171:=Tryz.isAgg269
 z171:=Tryz.sizeOf269
 v171:=Tryz.zeroValue269
 t173:=Tryz.underlying273
 a173:=Tryz.isAgg273
 z173:=Tryz.sizeOf273
 v173:=Tryz.zeroValue273
 t212:=Tryz.underlying315
 a212:=Tryz.isAgg315
 z212:=Tryz.sizeOf315
 v212:=Tryz.zeroValue315
 t213:=Tryz.underlying317
 a213:=Tryz.isAgg317
 z213:=Tryz.sizeOf317
 t232:=Tryz.underlying368
 a232:=Tryz.isAgg368
 z232:=Tryz.sizeOf368
 v232:=Tryz.zeroValue368
 t233:=Tryz.underlying369
 a233:=Tryz.isAgg369
 z233:=Tryz.sizeOf369
 v233:=Tryz.zeroValue369
 g17:=by kernel_rfl
 g18:=by kernel_rfl
 g19:=by kernel_rfl
 i0:=by kernel_rfl
 i2:=by kernel_rfl
 i3:=by kernel_rfl
 i4:=by kernel_rfl
 i5:=by kernel_rfl
 i9:=by kernel_rfl
 i20:=by kernel_rfl
 i37:=by kernel_rfl
 i46:=by kernel_rfl
 i51:=by kernel_rfl
 i53:=by kernel_rfl
 i171:=by kernel_rfl
 i173:=by kernel_rfl
 i212:=by kernel_rfl
 i232:=by kernel_rfl
 i233:=by kernel_rfl
 m17:=by kernel_rfl
 m18:=by kernel_rfl
 m19:=by kernel_rfl }
def G0:Go.Shelf.Ren:=⟨fun | 146=>99 | 221=>146 | 268=>188 | 138=>189 | 143=>190 | 195=>233 | 197=>234 | 218=>235 | 219=>236 | 260=>283 | 217=>98 | 225=>284 | 224=>285 | 267=>286 | 266=>145 | 314=>319 | n=>n,fun | 9=>9 | 31=>144 | 3=>3 | 4=>4 | 0=>0 | 105=>258 | 21=>21 | 5=>5 | 46=>140 | 119=>338 | 139=>341 | 138=>340 | 146=>342 | 51=>316 | n=>n,fun | 1=>0 | 3=>4 | 4=>5 | n=>n⟩
theorem Rz:Go.Proofs.Lays.n146 Tryz.prog G0:= {
 mixed:=by kernel_rfl
 f138:=Tryz.func189.trans (congrArg some (by kernel_rfl))
 f143:=Tryz.func190.trans (congrArg some (by kernel_rfl))
 f146:=Tryz.func99.trans (congrArg some (by kernel_rfl))
 f195:=Tryz.func233.trans (congrArg some (by kernel_rfl))
 f197:=Tryz.func234.trans (congrArg some (by kernel_rfl))
 f217:=Tryz.func98.trans (congrArg some (by kernel_rfl))
 f218:=Tryz.func235.trans (congrArg some (by kernel_rfl))
 f219:=Tryz.func236.trans (congrArg some (by kernel_rfl))
 f221:=Tryz.func146.trans (congrArg some (by kernel_rfl))
 f224:=Tryz.func285.trans (congrArg some (by kernel_rfl))
 f225:=Tryz.func284.trans (congrArg some (by kernel_rfl))
 f260:=Tryz.func283.trans (congrArg some (by kernel_rfl))
 f266:=Tryz.func145.trans (congrArg some (by kernel_rfl))
 f267:=Tryz.func286.trans (congrArg some (by kernel_rfl))
 f268:=Tryz.func188.trans (congrArg some (by kernel_rfl))
 f314:=Tryz.func319.trans (congrArg some (by kernel_rfl))
 t0:=Tryz.underlying0
 a0:=Tryz.isAgg0
 z0:=Tryz.sizeOf0
 v0:=Tryz.zeroValue0
 t3:=Tryz.underlying3
 a3:=Tryz.isAgg3
 z3:=Tryz.sizeOf3
 v3:=Tryz.zeroValue3
 t4:=Tryz.underlying4
 a4:=Tryz.isAgg4
 z4:=Tryz.sizeOf4
 v4:=Tryz.zeroValue4
 t5:=Tryz.underlying5
 a5:=Tryz.isAgg5
 z5:=Tryz.sizeOf5
 v5:=Tryz.zeroValue5
 t9:=Tryz.underlying9
 a9:=Tryz.isAgg9
 z9:=Tryz.sizeOf9
 v9:=Tryz.zeroValue9
 t21:=Tryz.underlying21
 a21:=Tryz.isAgg21
 z21:=Tryz.sizeOf21
 v21:=Tryz.zeroValue21
 t31:=Tryz.underlying144
 a31:=Tryz.isAgg144
 z31:=Tryz.sizeOf144
 v31:=Tryz.zeroValue144
 t46:=Tryz.underlying140
 a46:=Tryz.isAgg140
 z46:=Tryz.sizeOf140
 v46:=Tryz.zeroValue140
 t51:=Tryz.underlying316
 a51:=Tryz.isAgg316
 z51:=Tryz.sizeOf316
 v51:=Tryz.zeroValue316
 t105:=Tryz.underlying258
 a105:=Tryz.isAgg258
 z105:=Tryz.sizeOf258
 v105:=Tryz.zeroValue258
 t119:=Tryz.underlying338
 a119:=Tryz.isAgg338
 z119:=Tryz.sizeOf338
 t138:=Tryz.underlying340
 a138:=Tryz.isAgg340
 z138:=Tryz.sizeOf340
 v138:=Tryz.zeroValue340
 t139:=Tryz.underlying341
 a139:=Tryz.isAgg341
 z139:=Tryz.sizeOf341
 v139:=Tryz.zeroValue341
 t146:=Tryz.underlying342
 a146:=Tryz.isAgg342
 z146:=Tryz.sizeOf342
 v146:=Tryz.zeroValue342
 g1:=by kernel_rfl
 g3:=by kernel_rfl
 g4:=by kernel_rfl }
def KR:Go.Shelf.Ren:=⟨fun | 145=>193 | 220=>242 | 219=>236 | 217=>98 | 225=>284 | 224=>285 | 267=>286 | 266=>145 | 314=>319 | n=>n,fun | 9=>9 | 4=>4 | 59=>225 | 3=>3 | 5=>5 | 46=>140 | 146=>342 | 51=>316 | n=>n,fun | 1=>0 | n=>n⟩
theorem ZL:Go.Proofs.Lays.n145 Tryz.prog KR:= {
 mixed:=by kernel_rfl
 f145:=Tryz.func193.trans (congrArg some (by kernel_rfl))
 f217:=Tryz.func98.trans (congrArg some (by kernel_rfl))
 f219:=Tryz.func236.trans (congrArg some (by kernel_rfl))
 f220:=Tryz.func242.trans (congrArg some (by kernel_rfl))
 f224:=Tryz.func285.trans (congrArg some (by kernel_rfl))
 f225:=Tryz.func284.trans (congrArg some (by kernel_rfl))
 f266:=Tryz.func145.trans (congrArg some (by kernel_rfl))
 f267:=Tryz.func286.trans (congrArg some (by kernel_rfl))
 f314:=Tryz.func319.trans (congrArg some (by kernel_rfl))
 t3:=Tryz.underlying3
 a3:=Tryz.isAgg3
 z3:=Tryz.sizeOf3
 v3:=Tryz.zeroValue3
 t4:=Tryz.underlying4
 a4:=Tryz.isAgg4
 z4:=Tryz.sizeOf4
 v4:=Tryz.zeroValue4
 t5:=Tryz.underlying5
 a5:=Tryz.isAgg5
 z5:=Tryz.sizeOf5
 v5:=Tryz.zeroValue5
 t9:=Tryz.underlying9
 a9:=Tryz.isAgg9
 z9:=Tryz.sizeOf9
 v9:=Tryz.zeroValue9
 t46:=Tryz.underlying140
 a46:=Tryz.isAgg140
 z46:=Tryz.sizeOf140
 v46:=Tryz.zeroValue140
 t51:=Tryz.underlying316
 a51:=Tryz.isAgg316
 z51:=Tryz.sizeOf316
 v51:=Tryz.zeroValue316
 t59:=Tryz.underlying225
 a59:=Tryz.isAgg225
 z59:=Tryz.sizeOf225
 v59:=Tryz.zeroValue225
 t146:=Tryz.underlying342
 a146:=Tryz.isAgg342
 z146:=Tryz.sizeOf342
 v146:=Tryz.zeroValue342
 g1:=by kernel_rfl }
def Ao:Go.Shelf.Ren:=⟨fun | 137=>48 | 217=>98 | 266=>145 | n=>n,fun | 9=>9 | 5=>5 | 3=>3 | n=>n,fun | n=>n⟩
theorem G5:Go.Proofs.Lays.n137 Tryz.prog Ao:= {
 mixed:=by kernel_rfl
 f137:=Tryz.func48.trans (congrArg some (by kernel_rfl))
 f217:=Tryz.func98.trans (congrArg some (by kernel_rfl))
 f266:=Tryz.func145.trans (congrArg some (by kernel_rfl))
 t3:=Tryz.underlying3
 a3:=Tryz.isAgg3
 z3:=Tryz.sizeOf3
 v3:=Tryz.zeroValue3
 t5:=Tryz.underlying5
 a5:=Tryz.isAgg5
 z5:=Tryz.sizeOf5
 v5:=Tryz.zeroValue5
 t9:=Tryz.underlying9
 a9:=Tryz.isAgg9
 z9:=Tryz.sizeOf9
 v9:=Tryz.zeroValue9 }
def I8:Go.Shelf.Ren:=⟨fun | 172=>147 | 244=>191 | 245=>192 | 247=>237 | 279=>238 | 280=>239 | 281=>240 | 282=>241 | 287=>287 | 316=>288 | 171=>104 | 205=>289 | 321=>320 | 322=>321 | 243=>152 | 246=>196 | 283=>245 | 284=>246 | 285=>247 | 286=>248 | 129=>291 | 317=>290 | 318=>292 | 319=>293 | 320=>294 | 337=>322 | 338=>323 | n=>n,fun | 9=>9 | 3=>3 | 75=>188 | 76=>189 | 4=>4 | 5=>5 | 167=>260 | 37=>22 | 0=>0 | 85=>261 | 2=>2 | 168=>263 | 53=>270 | 175=>308 | 46=>140 | 210=>312 | 127=>227 | 145=>348 | 143=>346 | 21=>21 | 171=>269 | 173=>273 | 212=>315 | 51=>316 | 20=>20 | 213=>317 | 232=>368 | 233=>369 | 80=>197 | n=>n,fun | 15=>1 | 16=>2 | 17=>3 | 18=>6 | 19=>7 | n=>n⟩
theorem MS:Go.Proofs.LaysC.n172 Tryz.prog I8:= {
 mixed:=by kernel_rfl
 f129:=Tryz.func291.trans (congrArg some (by kernel_rfl))
 f171:=Tryz.func104.trans (congrArg some (by kernel_rfl))
 f172:=Tryz.func147.trans (congrArg some (by kernel_rfl))
 f205:=Tryz.func289.trans (congrArg some (by kernel_rfl))
 f243:=Tryz.func152.trans (congrArg some (by kernel_rfl))
 f244:=Tryz.func191.trans (congrArg some (by kernel_rfl))
 f245:=Tryz.func192.trans (congrArg some (by kernel_rfl))
 f246:=Tryz.func196.trans (congrArg some (by kernel_rfl))
 f247:=Tryz.func237.trans (congrArg some (by kernel_rfl))
 f279:=Tryz.func238.trans (congrArg some (by kernel_rfl))
 f280:=Tryz.func239.trans (congrArg some (by kernel_rfl))
 f281:=Tryz.func240.trans (congrArg some (by kernel_rfl))
 f282:=Tryz.func241.trans (congrArg some (by kernel_rfl))
 f283:=Tryz.func245.trans (congrArg some (by kernel_rfl))
 f284:=Tryz.func246.trans (congrArg some (by kernel_rfl))
 f285:=Tryz.func247.trans (congrArg some (by kernel_rfl))
 f286:=Tryz.func248.trans (congrArg some (by kernel_rfl))
 f287:=Tryz.func287.trans (congrArg some (by kernel_rfl))
 f316:=Tryz.func288.trans (congrArg some (by kernel_rfl))
 f317:=Tryz.func290.trans (congrArg some (by kernel_rfl))
 f318:=Tryz.func292.trans (congrArg some (by kernel_rfl))
 f319:=Tryz.func293.trans (congrArg some (by kernel_rfl))
 f320:=Tryz.func294.trans (congrArg some (by kernel_rfl))
 f321:=Tryz.func320.trans (congrArg some (by kernel_rfl))
 f322:=Tryz.func321.trans (congrArg some (by kernel_rfl))
 f337:=Tryz.func322.trans (congrArg some (by kernel_rfl))
 f338:=Tryz.func323.trans (congrArg some (by kernel_rfl))
 t0:=Tryz.underlying0
 a0:=Tryz.isAgg0
 z0:=Tryz.sizeOf0
 v0:=Tryz.zeroValue0
 t2:=Tryz.underlying2
 a2:=Tryz.isAgg2
 z2:=Tryz.sizeOf2
 v2:=Tryz.zeroValue2
 t3:=Tryz.underlying3
 a3:=Tryz.isAgg3
 z3:=Tryz.sizeOf3
 v3:=Tryz.zeroValue3
 t4:=Tryz.underlying4
 a4:=Tryz.isAgg4
 z4:=Tryz.sizeOf4
 v4:=Tryz.zeroValue4
 t5:=Tryz.underlying5
 a5:=Tryz.isAgg5
 z5:=Tryz.sizeOf5
 v5:=Tryz.zeroValue5
 t9:=Tryz.underlying9
 a9:=Tryz.isAgg9
 z9:=Tryz.sizeOf9
 v9:=Tryz.zeroValue9
 t20:=Tryz.underlying20
 a20:=Tryz.isAgg20
 z20:=Tryz.sizeOf20
 v20:=Tryz.zeroValue20
 t21:=Tryz.underlying21
 a21:=Tryz.isAgg21
 z21:=Tryz.sizeOf21
 v21:=Tryz.zeroValue21
 t37:=Tryz.underlying22
 a37:=Tryz.isAgg22
 z37:=Tryz.sizeOf22
 v37:=Tryz.zeroValue22
 t46:=Tryz.underlying140
 a46:=Tryz.isAgg140
 z46:=Tryz.sizeOf140
 v46:=Tryz.zeroValue140
 t51:=Tryz.underlying316
 a51:=Tryz.isAgg316
 z51:=Tryz.sizeOf316
 v51:=Tryz.zeroValue316
 t53:=Tryz.underlying270
 a53:=Tryz.isAgg270
 z53:=Tryz.sizeOf270
 v53:=Tryz.zeroValue270
 t75:=Tryz.underlying188
 a75:=Tryz.isAgg188
 z75:=Tryz.sizeOf188
 v75:=Tryz.zeroValue188
 t76:=Tryz.underlying189
 a76:=Tryz.isAgg189
 z76:=Tryz.sizeOf189
 v76:=Tryz.zeroValue189
 t85:=Tryz.underlying261
 a85:=Tryz.isAgg261
 z85:=Tryz.sizeOf261
 v85:=Tryz.zeroValue261
 t127:=Tryz.underlying227
 a127:=Tryz.isAgg227
 z127:=Tryz.sizeOf227
 v127:=Tryz.zeroValue227
 t143:=Tryz.underlying346
 a143:=Tryz.isAgg346
 z143:=Tryz.sizeOf346
 v143:=Tryz.zeroValue346
 t145:=Tryz.underlying348
 a145:=Tryz.isAgg348
 z145:=Tryz.sizeOf348
 v145:=Tryz.zeroValue348
 t167:=Tryz.underlying260
 a167:=Tryz.isAgg260
 z167:=Tryz.sizeOf260
 v167:=Tryz.zeroValue260
 t168:=Tryz.underlying263
 a168:=Tryz.isAgg263
 z168:=Tryz.sizeOf263
 v168:=Tryz.zeroValue263
 t171:=Tryz.underlying269
 a171:=Tryz.isAgg269
 z171:=Tryz.sizeOf269
 v171:=Tryz.zeroValue269
 t173:=Tryz.underlying273
 a173:=Tryz.isAgg273
 z173:=Tryz.sizeOf273
 v173:=Tryz.zeroValue273
 t175:=Tryz.underlying308
 a175:=Tryz.isAgg308
 z175:=Tryz.sizeOf308
 v175:=Tryz.zeroValue308
 t210:=Tryz.underlying312
 a210:=Tryz.isAgg312
 z210:=Tryz.sizeOf312
 v210:=Tryz.zeroValue312
 t212:=Tryz.underlying315
 a212:=Tryz.isAgg315
 z212:=Tryz.sizeOf315
 v212:=Tryz.zeroValue315
 t213:=Tryz.underlying317
 a213:=Tryz.isAgg317
 z213:=Tryz.sizeOf317
 t232:=Tryz.underlying368
 a232:=Tryz.isAgg368
 z232:=Tryz.sizeOf368
 v232:=Tryz.zeroValue368
 t233:=Tryz.underlying369
 a233:=Tryz.isAgg369
 z233:=Tryz.sizeOf369
 v233:=Tryz.zeroValue369
 g15:=by kernel_rfl
 g16:=by kernel_rfl
 g17:=by kernel_rfl
 g18:=by kernel_rfl
 g19:=by kernel_rfl
 t80:=Tryz.underlying197
 a80:=Tryz.isAgg197
 z80:=Tryz.sizeOf197
 v80:=Tryz.zeroValue197
 i0:=by kernel_rfl
 i2:=by kernel_rfl
 i3:=by kernel_rfl
 i4:=by kernel_rfl
 i5:=by kernel_rfl
 i9:=by kernel_rfl
 i20:=by kernel_rfl
 i21:=by kernel_rfl
 i37:=by kernel_rfl
 i46:=by kernel_rfl
 i51:=by kernel_rfl
 i53:=by kernel_rfl
 i75:=by kernel_rfl
 i76:=by kernel_rfl
 i80:=by kernel_rfl
 i85:=by kernel_rfl
 i127:=by kernel_rfl
 i143:=by kernel_rfl
 i145:=by kernel_rfl
 i167:=by kernel_rfl
 i168:=by kernel_rfl
 i171:=by kernel_rfl
 i173:=by kernel_rfl
 i175:=by kernel_rfl
 i210:=by kernel_rfl
 i212:=by kernel_rfl
 i232:=by kernel_rfl
 i233:=by kernel_rfl
 m15:=by kernel_rfl
 m16:=by kernel_rfl
 m17:=by kernel_rfl
 m18:=by kernel_rfl
 m19:=by kernel_rfl
 c0:=by kernel_rfl
 c2:=by kernel_rfl
 c3:=by kernel_rfl
 c4:=by kernel_rfl
 c5:=by kernel_rfl
 c9:=by kernel_rfl
 c20:=by kernel_rfl
 c21:=by kernel_rfl
 c37:=by kernel_rfl
 c46:=by kernel_rfl
 c51:=by kernel_rfl
 c53:=by kernel_rfl
 c75:=by kernel_rfl
 c76:=by kernel_rfl
 c80:=by kernel_rfl
 c85:=by kernel_rfl
 c127:=by kernel_rfl
 c143:=by kernel_rfl
 c145:=by kernel_rfl
 c167:=by kernel_rfl
 c168:=by kernel_rfl
 c171:=by kernel_rfl
 c173:=by kernel_rfl
 c175:=by kernel_rfl
 c210:=by kernel_rfl
 c212:=by kernel_rfl
 c213:=by kernel_rfl
 c232:=by kernel_rfl
 c233:=by kernel_rfl }
theorem RA:Go.Proofs.Builder.Extra Tryz.prog A9 where
 sizeBuilder:=by kernel_rfl
 liesBuilder:=by kernel_rfl
 t5:=Tryz.underlying5
 a5:=Tryz.isAgg5
 z5:=Tryz.sizeOf5
 v5:=Tryz.zeroValue5
 infoByte:=by kernel_rfl
 cellsByte:=by kernel_rfl
 sizeByte:=by kernel_rfl
 neB5:=by decide
end R
namespace R
open Go.RowKit
open D
def FldAll (P:Program) (T:TypeId):Nat->List (Nat×Nat)->Prop
 | _,[] =>True
 | i,q::l=>TF P T i q.1 q.2/\FldAll P T (i+1) l
theorem FldAll.get {P:Program} {T:TypeId} : ∀ {l:List (Nat×Nat)} {i:Nat},FldAll P T i l-> ∀f q,l[f]? =some q->TF P T (i+f) q.1 q.2
 | [],_,_,f,q,h=>by simp at h
 | x::l,i,⟨h1,h2⟩,f,q,h=>by
  cases f with
  | zero=>simp at h;subst h;exact h1
  | succ f =>
   have:=FldAll.get h2 f q (by simpa using h)
   rwa [show i+1+f=i+(f+1) from by omega] at this
section
variable {P:Program} {T:TypeId}
theorem xB {n b:Nat} {ty:Ty} {z:Value} {a:Bool} {c:Option (Option IntKind)} (h1:TI P T false 1) (g:ty.size=1) (l:TZ P T z 1 b) (i:z.cells=(zeroCells ty).toArray) (d:1<=b) (o:a=true->P.underlying T=some .bool) (j: ∀k,c=some k->P.underlying T=some (ikD k)):TDok P T ⟨false,1,none,ty,[],some b,none,a,none,none,c,false,none⟩:=
 ⟨h1,rfl,g,fun E h=>by simp at h,fun f q h=>by simp at h,fun p h=>by obtain rfl:=ad h;exact ⟨z,l,i,d⟩,fun s h=>by simp at h,o,(fun r h=>by cases h),(fun m h=>by cases h),j,(fun h=>by cases h),fun e h=>by cases h⟩
theorem tm {E:TypeId} {t:Ty} (h1:TI P T false 1) (a:P.underlying T=some (.slice E)) (b:TZ P T (.slice none 0 0) 1 24):TDok P T ⟨false,1,some E,.sl E t,[],some 24,none,false,none,none,none,false,none⟩:=
 ⟨h1,rfl,rfl,fun i h=>by obtain rfl:=ad h;exact a,fun f q h=>by simp at h,fun g h=>by obtain rfl:=ad h;exact ⟨_,b,rfl,by decide⟩,fun d h=>by simp at h,(fun h=>by cases h),(fun c h=>by cases h),(fun m h=>by cases h),(fun k h=>by cases h),(fun h=>by cases h),fun e h=>by cases h⟩
theorem qe {n b:Nat} {ty:Ty} {fs a:List (Nat×Nat)} {z:Value} {c:Option (List (Option IntKind))} (h1:TI P T true n) (i:ty.size=n) (s:FldAll P T 0 fs) (l:TZ P T z n b) (d:z.cells=(zeroCells ty).toArray) (t:1<=b) (o:TB P T a) (j: ∀ks,c=some ks-> ∀w,Curq ks fun u p r=>EqT P T (.agg u.toArray) (.agg p.toArray) r w):TDok P T ⟨true,n,none,ty,fs,some b,some a,false,c,none,none,false,none⟩:=
 ⟨h1,rfl,i,fun E h=>by simp at h,fun f q h=>by have:=s.get f q h;rwa [Nat.zero_add] at this,fun v h=>by obtain rfl:=ad h;exact ⟨z,l,d,t⟩,fun g h=>by obtain rfl:=ad h;exact o,(fun h=>by cases h),j,(fun m h=>by cases h),(fun k h=>by cases h),(fun h=>by cases h),fun e h=>by cases h⟩
theorem Ap {ty:Ty} {b:Nat} (h1:TI P T false 1) (c:ty.size=1) (a:TZ P T .nilFunc 1 b):TDok P T ⟨false,1,none,ty,[],none,none,false,none,none,none,true,none⟩:=
 ⟨h1,rfl,c,fun E h=>by simp at h,fun f q h=>by simp at h,(fun i h=>by cases h),(fun g h=>by cases h),(fun h=>by cases h),(fun d h=>by cases h),(fun j h=>by cases h),(fun k h=>by cases h),(fun _=>⟨b,a⟩),fun e h=>by cases h⟩
theorem ad8 {m:MD} {ty:Ty} (h1:TI P T false 1) (a:ty.size=1) (b:MDok P T m):TDok P T ⟨false,1,none,ty,[],none,none,false,none,some m,none,false,none⟩:=
 ⟨h1,rfl,a,fun E h=>by simp at h,fun f q h=>by simp at h,(fun g h=>by cases h),(fun d h=>by cases h),(fun h=>by cases h),(fun c h=>by cases h),(fun i h=>by obtain rfl:=ad h;exact b),(fun k h=>by cases h),(fun h=>by cases h),fun e h=>by cases h⟩
theorem ad9 {e E:TypeId} {u:Ty} (h1:TI P T false 1) (a:P.underlying T=some (.pointer e)) (b:TZ P T (.pointer none) 1 8):TDok P T ⟨false,1,none,.fro (.tree e E u),[],some 8,none,false,none,none,none,false,some e⟩:=
 ⟨h1,rfl,rfl,fun j h=>by simp at h,fun f q h=>by simp at h,fun i h=>by obtain rfl:=ad h;exact ⟨_,b,rfl,by decide⟩,fun d h=>by simp at h,(fun h=>by cases h),(fun c h=>by cases h),(fun m h=>by cases h),(fun k h=>by cases h),(fun h=>by cases h),fun g h=>by obtain rfl:=ad h;exact a⟩
end
end R
end Go.Proofs.YtphjdcoponilmaaGreatDoor
