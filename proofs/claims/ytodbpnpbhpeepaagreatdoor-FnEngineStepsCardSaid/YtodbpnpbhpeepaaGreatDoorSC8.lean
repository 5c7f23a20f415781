/- FnEngineSteps: for every input the law returns true and changes nothing that was there. Part 9 of 9. -/
import Derived.Test.YtodbpnpbhpeepaaGreatDoorSC7
import Derived.Test.YtodbpnpbhpeepaaGreatDoorSKFnEngineSteps
set_option synthInstance.maxSize 20000
set_option synthInstance.maxHeartbeats 2000000
set_option linter.unusedVariables false
set_option linter.unusedSimpArgs false
set_option linter.unnecessarySimpa false
set_option linter.unusedSectionVars false
set_option maxRecDepth 1000000
namespace Go.Proofs.YtodbpnpbhpeepaaGreatDoor
open Go.IntKind (i64)
namespace D
open Go.RowKit
theorem Gc (s:ByteArray):iB s=lS s:=by
 have e:hZ s=pd s:=by
  funext p;unfold hZ pd;rw[Int.mul_comm p.1 257]
 unfold iB lS;rw[e]
theorem Ic (s:ByteArray) (h:s.size<=9223372036854775806): ∃r:Int,iB s=some r/\lS s=some r/\0<=r/\r<=9972:=by
 obtain ⟨p,e,a,d,g⟩:=fO (f:=hZ s) (fun i p=>p.2=(i:Int)/\0<=p.1/\p.1<=9972) s.size (fun i p l c=>by
  obtain ⟨n,j⟩:=p;obtain ⟨a,d,g⟩:=c;simp only at a d g;subst a;unfold hZ;simp only[];rw[if_pos (decide_eq_true (by omega)),Bd l];simp only[aa];generalize s.data.toList[i] =b;have m:b.toNat<256:=b.toNat_lt;rw[bQ (n:=((b.toNat:Nat):Int)) (by omega) (by omega),bQ (n:=n*257) (by omega) (by omega),bQ (n:=n*257+(b.toNat:Int)) (by omega) (by omega),bQ (n:=n*257+(b.toNat:Int)+1) (by omega) (by omega),af (by omega)];refine ⟨_,rfl,rfl,?_,?_⟩
  ·exact Int.tmod_nonneg _ (by omega)
  ·have:Int.tmod (n*257+(b.toNat:Int)+1) 9973<9973:=Int.tmod_lt_of_pos _ (by decide)
   show Int.tmod (n*257+(b.toNat:Int)+1) 9973<=9972;omega) (fun p c=>by
  obtain ⟨n,j⟩:=p;obtain ⟨a,-⟩:=c;simp only at a;subst a;unfold hZ;simp only[];rw[if_neg (by simp)]) (s:=(1,0)) ⟨rfl,by decide,by decide⟩ (de _ (by omega))
 have k:iB s=some p.1:=by
  unfold iB;rw[ah e]
 exact ⟨p.1,k,by rw[<-Gc];exact k,d,g⟩
def edOk (e:Int×Int×Int×Int):Prop:=(1<=e.1/\e.1<=99)/\(0<=e.2.1/\e.2.1<=4)/\(0<=e.2.2.1/\e.2.2.1<=4)/\(0<=e.2.2.2/\e.2.2.2<=2)
instance (e:Int×Int×Int×Int):Decidable (edOk e):=inferInstanceAs (Decidable (_/\_))
def uK (e:Int×Int×Int×Int):List UInt8:=Lib.itoa e.1++ [58] ++Lib.itoa e.2.1++ [UInt8.ofNat (97+e.2.2.2.toNat)] ++Lib.itoa e.2.2.1
theorem Ud: ∀k:Fin 3,ga (i64.wrap (2*(k.val:Int)))=some (mkB [UInt8.ofNat (97+k.val)]):=by
 intro k
 match k with
 | ⟨0,_⟩=>rfl
 | ⟨1,_⟩=>rfl
 | ⟨2,_⟩=>rfl
theorem Ue: ∀k:Fin 3,tL (⟨#[97,98,99]⟩) (k.val:Int) (i64.wrap ((k.val:Int)+1))=some (mkB [UInt8.ofNat (97+k.val)]):=by
 intro k
 match k with
 | ⟨0,_⟩=>rfl
 | ⟨1,_⟩=>rfl
 | ⟨2,_⟩=>rfl
theorem QS (e:Int×Int×Int×Int):kT e=some (if edOk e then mkB (uK e) else mkB []):=by
 unfold kT;rw[AO,AO,AO,AO];simp only[aa];by_cases h:edOk e
 ·obtain ⟨o,f,m,i⟩:=h;rw[if_pos (decide_eq_true o),if_pos (decide_eq_true f),if_pos (decide_eq_true m),if_pos (decide_eq_true i),if_pos ⟨o,f,m,i⟩];have n:I64 e.1:=by unfold I64;omega
  have g:I64 e.2.1:=by unfold I64;omega
  have l:I64 e.2.2.1:=by unfold I64;omega
  have s:=wv n;have r:=wv g;have t:=wv l;obtain ⟨k,p,j⟩: ∃k:Nat,k<3/\e.2.2.2=(k:Int):=⟨e.2.2.2.toNat,by omega,by omega⟩;rw[vB n,vB g,vB l,j,Ud ⟨k,p⟩];simp only[aa];have q:mc (mkB (Lib.itoa e.1)) (⟨#[58]⟩)=some (mkB (Lib.itoa e.1++ [58])):=C6 _ [58] (by simp;omega);rw[q];simp only[aa];rw[C6 _ _ (by simp;omega)];simp only[aa];rw[C6 _ _ (by simp;omega)];simp only[aa];rw[C6 _ _ (by simp;omega)];simp only[aa];unfold uK;rw[j];rfl
 ·rw[if_neg h];split
  ·split
   ·split
    ·split
     ·rename_i a b c d;exact absurd ⟨of_decide_eq_true a,of_decide_eq_true b,of_decide_eq_true c,of_decide_eq_true d⟩ h
     ·rfl
    ·rfl
   ·rfl
  ·rfl
theorem QU (e:Int×Int×Int×Int):kP e=some (if edOk e then mkB (uK e) else mkB []):=by
 have o:i64.wrap (5 - 1)=4:=by decide
 have d:km (e.1,e.2.1,e.2.2.1,e.2.2.2) 5=some (decide (edOk e)):=by
  unfold km;rw[o,Il,Il,Il,Il];simp only[aa];by_cases c:1<=e.1/\e.1<=99
  ·rw[if_pos (decide_eq_true c)];by_cases a:0<=e.2.1/\e.2.1<=4
   ·rw[if_pos (decide_eq_true a)];by_cases b:0<=e.2.2.1/\e.2.2.1<=4
    ·rw[if_pos (decide_eq_true b)];congr 1;exact decide_eq_decide.2 ⟨fun g=>⟨c,a,b,g⟩,fun h=>h.2.2.2⟩
    ·rw[if_neg (by simpa using b),decide_eq_false (fun h:edOk e=>b h.2.2.1)]
   ·rw[if_neg (by simpa using a),decide_eq_false (fun h:edOk e=>a h.2.1)]
  ·rw[if_neg (by simpa using c),decide_eq_false (fun h:edOk e=>c h.1)]
 unfold kP;rw[d];simp only[aa];by_cases h:edOk e
 ·rw[if_pos (decide_eq_true h),if_pos h];obtain ⟨c,a,b,g⟩:=h;have l:I64 e.1:=by unfold I64;omega
  have f:I64 e.2.1:=by unfold I64;omega
  have j:I64 e.2.2.1:=by unfold I64;omega
  have q:=wv l;have p:=wv f;have r:=wv j;obtain ⟨k,m,i⟩: ∃k:Nat,k<3/\e.2.2.2=(k:Int):=⟨e.2.2.2.toNat,by omega,by omega⟩;rw[yL l,yL f,yL j,i,Ue ⟨k,m⟩];simp only[aa];have n:mc (mkB (Lib.itoa e.1)) (⟨#[58]⟩)=some (mkB (Lib.itoa e.1++ [58])):=C6 _ [58] (by simp;omega);rw[n];simp only[aa];rw[C6 _ _ (by simp;omega)];simp only[aa];rw[C6 _ _ (by simp;omega)];simp only[aa];rw[C6 _ _ (by simp;omega)];simp only[aa];unfold uK;rw[i];rfl
 ·rw[if_neg (by simpa using h),if_neg h];rfl
abbrev ChT:Type:=Bool×Int×Int×Int×Int
def vK (c:ChT):List UInt8:=(if c.1 then 43 else 45)::uK c.2
def btx (l:List ChT):List UInt8:=Lib.join (l.map vK) [32]
def Be (l:List ChT):Prop:= ∀c,c∈l->edOk c.2
theorem yM {e:Int×Int×Int×Int} (h:edOk e):(uK e).length<=70:=by
 have ⟨d,b,c,a⟩:=h;grind[wv,I64,uK,az,ay,aD]
theorem QV (e:Int×Int×Int×Int):(mkB (uK e)==(⟨#[]⟩:ByteArray))=false:=by
 rw[beq_eq_false_iff_ne];intro k
 have:=congrArg ByteArray.size k
 rw[bE] at this;unfold uK at this;simp[az,ay,aD] at this;have a:(⟨#[]⟩:ByteArray).size=0:=rfl;omega
theorem QW: ∀(r:List ChT),Be r->(Lib.joinTail [32] (r.map vK)).length<=72*r.length
 | [],_=>by simp[Lib.joinTail]
 | c::r,h=>by
  have d:=QW r fun q a=>h q (bF _ a);have b:=yM (h c (by simp));grind[Lib.joinTail,vK,az,ay,aD]
theorem Ge {l:List ChT} (h:Be l):(btx l).length<=72*l.length:=by
 cases l with
 | nil=>simp[btx,Lib.join_nil]
 | cons c r =>
  have d:=QW r fun q a=>h q (bF _ a);have b:=yM (h c (by simp));unfold btx;rw[List.map_cons,Lib.join_cons,az,ay]
  have:(vK c).length=(uK c.2).length+1:=by unfold vK;rw[ay]
  omega
theorem Uf {l:List ChT} {i:Nat} (hi:i<l.length):btx (l.take (i+1))=if i=0 then vK l[i] else btx (l.take i)++ [32] ++vK l[i]:=by
 unfold btx;rw[List.take_succ_eq_append_getElem hi,aZ,List.map_cons,List.map_nil,QL];by_cases h:i=0
 ·grind
 ·rw[if_neg (by
   intro e;simp_all),if_neg h]
theorem Ie {l:List ChT} {i:Nat} (hi:i<l.length) (h:Be (l.take i)) (k:edOk l[i].2):Be (l.take (i+1)):=by
 rw[List.take_succ_eq_append_getElem hi];intro c a;rcases aG a with a | a
 ·exact h c a
 grind
theorem Yr {l:List ChT} (p:l.length<=6):(Be l/\al (gq l) aW (([] :List ByteArray),0)=some (.brk (l.map (fun c=>mkB (vK c)),(l.length:Int))))\/(¬Be l/\al (gq l) aW (([] :List ByteArray),0)=some (.ret (mkB []))):=by
 have ⟨o,e,w⟩:=b8 (f:=gq l) (fun i s=>s=((l.take i).map (fun c=>mkB (vK c)),(i:Int))/\Be (l.take i)) (fun o=>(Be l/\o= .brk (l.map (fun c=>mkB (vK c)),(l.length:Int)))\/(¬Be l/\o= .ret (mkB []))) l.length (fun i s r m=>by
  obtain ⟨rfl,d⟩:=m;unfold gq;by_cases a:i<l.length
  ·rw[bT a,if_pos rfl,aK a];simp only[aa];rw[QU];simp only[aa];by_cases k:edOk l[i].2
   ·have q:=yM k;have g:mc (⟨#[43]⟩) (mkB (uK l[i].2))=some (mkB (43::uK l[i].2)):=C6 [43] _ (by grind);have j:mc (⟨#[45]⟩) (mkB (uK l[i].2))=some (mkB (45::uK l[i].2)):=C6 [45] _ (by grind);have b: ∀z:ByteArray,bA 16 ((l.take i).map (fun c=>mkB (vK c))) [z] =some ((l.take i).map (fun c=>mkB (vK c))++ [z]):=fun z=>aw (by grind);refine .inl ⟨a,((l.take (i+1)).map (fun c=>mkB (vK c)),((i+1:Nat):Int)),?_,rfl,Ie a d k⟩;rw[if_pos k,if_neg (by rw[QV];decide),g,j];simp only[aa];rw[b,b,List.take_succ_eq_append_getElem a,aZ,List.map_cons,List.map_nil,<-af (show i<9223372036854775807 by omega)];have n:vK l[i] =(if l[i].1=true then 43 else 45)::uK l[i].2:=rfl;rw[n];generalize l[i].1=t;cases t <;> rfl
   ·refine .inr ⟨.ret (mkB []),?_,fun u h=>(by grind),.inr ⟨fun h=>k (h _ (List.getElem_mem a)),rfl⟩⟩;rw[if_neg k];rfl
  ·obtain rfl:i=l.length:=by omega
   grind) (s:=([],0)) ⟨rfl,fun c v=>by grind⟩ (de _ (by omega))
 grind
theorem Ys {l:List ChT} (E:l.length<=6):(Be l/\al (gu l) aW ((⟨#[]⟩:ByteArray),0)=some (.brk (mkB (btx l),(l.length:Int))))\/(¬Be l/\al (gu l) aW ((⟨#[]⟩:ByteArray),0)=some (.ret (mkB []))):=by
 have ⟨o,e,J⟩:=b8 (f:=gu l) (fun i s=>s=(mkB (btx (l.take i)),(i:Int))/\Be (l.take i)) (fun o=>(Be l/\o= .brk (mkB (btx l),(l.length:Int)))\/(¬Be l/\o= .ret (mkB []))) l.length (fun i s G A=>by
  obtain ⟨rfl,w⟩:=A;have y:=Ge w;rw[aq] at y;unfold gu;by_cases d:i<l.length
  ·rw[bT d,if_pos rfl,aK d];simp only[aa];rw[QS];simp only[aa];by_cases k:edOk l[i].2
   ·have F:=yM k;refine .inl ⟨d,(mkB (btx (l.take (i+1))),((i+1:Nat):Int)),?_,rfl,Ie d w k⟩;rw[if_pos k,if_neg (by rw[QV];decide),Uf d,<-af (show i<9223372036854775807 by omega)];have B:vK l[i] =(if l[i].1=true then 43 else 45)::uK l[i].2:=rfl;rw[B];generalize l[i].1=t;have g: ∀(a:List UInt8) (b:UInt8),a.length<=1000->mc (mkB a) (mkB [b])=some (mkB (a++ [b])):=fun a b D=>C6 _ _ (by grind);have j: ∀(a:List UInt8) (b:UInt8),a.length<=1000->mc (mkB (a++ [b])) (mkB (uK l[i].2))=some (mkB (a++b::uK l[i].2)):=fun a b D=>by
     grind[C6,aC]
    by_cases v:i=0
    ·subst v;have x:btx (l.take 0)= []:=rfl;have u:=g [] 43 (by simp);have p:=g [] 45 (by simp);have r:=j [] 43 (by simp);have q:=j [] 45 (by simp);have m:(⟨#[43]⟩:ByteArray)=mkB [43]:=rfl;have n:(⟨#[45]⟩:ByteArray)=mkB [45]:=rfl;rw[x,if_pos rfl,if_neg (by simp)];simp[aa];rw[m,n,u,p];simp only[aa];rw[r,q];cases t <;> rfl
    ·have C:=g (btx (l.take i)) 32 (by omega);have u:=g (btx (l.take i)++ [32]) 43 (by grind);have p:=g (btx (l.take i)++ [32]) 45 (by grind);have r:=j (btx (l.take i)++ [32]) 43 (by grind);have q:=j (btx (l.take i)++ [32]) 45 (by grind);have m:(⟨#[43]⟩:ByteArray)=mkB [43]:=rfl;have n:(⟨#[45]⟩:ByteArray)=mkB [45]:=rfl;have z:(⟨#[32]⟩:ByteArray)=mkB [32]:=rfl;rw[if_neg v,if_pos (decide_eq_true (by omega)),m,n,z,C];simp only[aa];rw[u,p];simp only[aa];rw[r,q];cases t <;> rfl
   ·refine .inr ⟨.ret (mkB []),?_,fun H h=>(by grind),.inr ⟨fun h=>k (h _ (List.getElem_mem d)),rfl⟩⟩;rw[if_neg k];rfl
  ·obtain rfl:i=l.length:=by omega
   grind) (s:=((⟨#[]⟩:ByteArray),0)) ⟨rfl,fun c I=>by grind⟩ (de _ (by omega))
 grind
open Classical in
theorem vC (l:List ChT):dK l=some (if l.length<=6/\Be l then mkB (btx l) else mkB [])/\fJ l=some (if l.length<=6/\Be l then mkB (btx l) else mkB []):=by
 unfold dK fJ;by_cases a:l.length<=6
 ·have b: ¬decide ((l.length:Int)>6)=true:=by rw[decide_eq_true_eq];omega
  constructor
  ·rw[if_neg b];rcases Ys a with ⟨h,e⟩ | ⟨h,e⟩
   ·rw[ah e,if_pos ⟨a,h⟩]
   ·rw[bI e,if_neg fun k=>h k.2]
  ·rw[if_neg b];rcases Yr a with ⟨h,e⟩ | ⟨h,e⟩
   ·have c:=Ge h;rw[ah e,if_pos ⟨a,h⟩];show (lj (l.map fun p=>mkB (vK p)) (mkB [32])).bind _=_;unfold lj R.Te chk;have e:(l.map fun p=>mkB (vK p)).map (·.data.toList)=l.map vK:=by
     rw[List.map_map];exact List.map_congr_left fun p _=>gB _
    rw[e,gB,List.length_map,if_pos ⟨by omega,by show (btx l).length<=_;omega⟩];rfl
   ·rw[bI e,if_neg fun k=>h k.2]
 ·have b:decide ((l.length:Int)>6)=true:=decide_eq_true (by omega);constructor
  ·rw[if_pos b,if_neg fun k=>a k.1];rfl
  ·rw[if_pos b,if_neg fun k=>a k.1];rfl
theorem CZ (v:Int) (l:List ChT): ∃r:ByteArray,dQ v l=some r/\iX v l=some r/\r.size<=1000:=by
 obtain ⟨f,g⟩:=vC l;obtain ⟨t,k,y⟩: ∃t:List UInt8,(dK l=some (mkB t)/\fJ l=some (mkB t))/\t.length<=432:=by
  by_cases h:l.length<=6/\Be l
  ·have:=Ge h.2
   refine ⟨btx l,⟨?_,?_⟩,by omega⟩
   ·rw[f,if_pos h]
   ·rw[g,if_pos h]
  ·refine ⟨[],⟨?_,?_⟩,by simp⟩
   ·rw[f,if_neg h]
   ·rw[g,if_neg h]
 obtain ⟨j,w⟩:=k;unfold dQ iX;rw[j,w,AO,Il];simp only[aa];by_cases hv:1<=v/\v<=999
 ·have d:I64 v:=by unfold I64;omega
  have B:=wv d;have o:mc (mkB (Lib.itoa v)) (⟨#[59]⟩)=some (mkB (Lib.itoa v++ [59])):=C6 _ [59] (by simp;omega);have s:mc (mkB (Lib.itoa v++ [59])) (mkB t)=some (mkB (Lib.itoa v++ [59] ++t)):=C6 _ _ (by simp;omega);have x:mc (mkB (Lib.itoa v++ [59] ++t)) (⟨#[59]⟩)=some (mkB (Lib.itoa v++ [59] ++t++ [59])):=C6 _ [59] (by simp;omega);obtain ⟨q,u,p,A,z⟩:=Ic (mkB (Lib.itoa v++ [59] ++t++ [59])) (by rw[bE];simp;omega);have c:I64 q:=by unfold I64;omega
  have C:=wv c;have i:mc (mkB (Lib.itoa v++ [59] ++t++ [59])) (mkB (Lib.itoa q))=some (mkB (Lib.itoa v++ [59] ++t++ [59] ++Lib.itoa q)):=C6 _ _ (by simp;omega);have n:mc (mkB (Lib.itoa v++ [59] ++t++ [59] ++Lib.itoa q)) (⟨#[10]⟩)=some (mkB (Lib.itoa v++ [59] ++t++ [59] ++Lib.itoa q++ [10])):=C6 _ [10] (by simp;omega);have e:(mkB (Lib.itoa v++ [59] ++t++ [59] ++Lib.itoa q++ [10])).size<=1000:=by rw[bE];simp;omega
  have m:((⟨#[]⟩:ByteArray)).size<=1000:=by decide
  rw[decide_eq_true hv];simp only[if_true,vB d,yL d,vB c,yL c,o,s,x,u,p,i,n,aa];by_cases a:decide ((l.length:Int)>0)=true
  ·by_cases b:(mkB t==(⟨#[]⟩:ByteArray))=true
   ·simp only[if_pos a,if_pos b];exact ⟨_,rfl,rfl,m⟩
   ·simp only[if_pos a,if_neg b];exact ⟨_,rfl,rfl,e⟩
  ·by_cases b:(mkB t==(⟨#[]⟩:ByteArray))=true
   ·simp only[if_neg a,if_pos b];exact ⟨_,rfl,rfl,e⟩
   ·simp only[if_neg a,if_neg b];exact ⟨_,rfl,rfl,e⟩
 ·rw[decide_eq_false hv];exact ⟨_,rfl,rfl,by decide⟩
def qV (c:UInt8) (cur:List UInt8):List UInt8->List (List UInt8)
 | [] =>[cur]
 | b::l=>if b=c then cur::qV c [] l else qV c (cur++ [b]) l
theorem pT {c:UInt8} : ∀ {l cur:List UInt8},c∉l->qV c cur l= [cur++l]
 | [],cur,_=>by simp[qV]
 | b::l,cur,h=>by
  have a:b≠c:=fun e=>h (by simp[e]);rw[qV,if_neg a,pT fun k=>h (bF _ k)];simp
theorem sG {c:UInt8} : ∀ {a cur r:List UInt8},c∉a->qV c cur (a++c::r)=(cur++a)::qV c [] r
 | [],cur,r,_=>by simp[qV]
 | b::a,cur,r,h=>by
  have d:b≠c:=fun e=>h (by simp[e]);rw[List.cons_append,qV,if_neg d,sG fun k=>h (bF _ k)];simp
theorem Gf (c:UInt8): ∀(l cur:List UInt8),(qV c cur l).length<=l.length+1
 | [],cur=>by simp[qV]
 | b::l,cur=>by
  rw[qV];split
  ·have:=Gf c l [];simp only[ay];omega
  ·have:=Gf c l (cur++ [b]);simp only[ay];omega
theorem uL (c:UInt8): ∀(l cur:List UInt8),∀x∈qV c cur l,x.length<=cur.length+l.length
 | [],cur,x,h=>by simp[qV] at h;subst h;simp
 | b::l,cur,x,h=>by
  rw[qV] at h;split at h
  ·rcases aE h with rfl | h
   ·simp
   ·have:=uL c l [] x h;simp at this;simp;omega
  ·have:=uL c l _ x h;simp at this;simp;omega
theorem vD (c:UInt8) (l:List UInt8):c∉l\/ ∃a r,l=a++c::r/\c∉a:=by
 by_cases h:c∈l
 ·obtain ⟨a,r,e,k⟩:=List.eq_append_cons_of_mem h;exact .inr ⟨a,r,e,k⟩
 ·exact .inl h
theorem Gg (s:ByteArray):mkB s.data.toList=s:=by simp[mkB]
theorem If (s:ByteArray): ∃l:List UInt8,s=mkB l:=⟨_,(Gg s).symm⟩
theorem zT {a b:List UInt8} (h:mkB a=mkB b):a=b:=by rw[<-gB a,h,gB]
theorem slB {l:List UInt8} {a b:Nat} (h1:a<=b) (c:b<=l.length):tL (mkB l) (a:Int) (b:Int)=some (mkB ((l.take b).drop a)):=by
 unfold tL chk;rw[bE,if_pos ⟨by omega,by omega,by omega⟩,aa];congr 1;refine ByteArray.ext ?_;simp[mkB,List.drop_take]
theorem atB {l:List UInt8} {i:Nat} (h:i<l.length):kL (mkB l) (i:Int)=some ((l[i].toNat:Nat):Int):=by
 rw[Bd (by rw[bE];exact h)];simp[mkB]
theorem yN (l:List UInt8) (c:UInt8) (n:l.length<=1000000):iZ (mkB l) ((c.toNat:Nat):Int)=some ((qV c [] l).map mkB):=by
 obtain ⟨s,e,a,done,rfl,d,m,b⟩:=fO (f:=qc (mkB l) ((c.toNat:Nat):Int)) (fun i s=> ∃(a:Nat) (done:List (List UInt8)),s=(done.map mkB,(a:Int),(i:Int))/\a<=i/\done.length<=i/\done++qV c ((l.take i).drop a) (l.drop i)=qV c [] l) l.length (fun i s j h=>by
  obtain ⟨a,done,rfl,d,m,b⟩:=h;unfold qc;simp only[];rw[if_pos (decide_eq_true (by rw[bE];omega)),atB j];simp only[aa];rw[List.drop_eq_getElem_cons j,qV] at b;by_cases k:l[i] =c
  ·rw[if_pos k] at b;rw[if_pos (by rw[k];simp),slB d (by omega)];simp only[aa];have g:bA 16 (done.map mkB) [mkB ((l.take i).drop a)] =some (done.map mkB++ [mkB ((l.take i).drop a)]):=aw (by rw[List.length_map];simp only[ay,aD];omega);rw[g];simp only[aa];refine ⟨_,rfl,i+1,done++ [(l.take i).drop a],?_,aF _,by simp;omega,?_⟩
   ·rw[aZ,List.map_cons,List.map_nil,af (by omega)]
   ·rw[<-b,aC,List.drop_of_length_le (l:=l.take (i+1)) (by rw[aq];omega)];rfl
  ·rw[if_neg k] at b;rw[if_neg (fun e=>k (UInt8.toNat_inj.1 (by have:=eq_of_beq e;omega)))];simp only[aa];refine ⟨_,rfl,a,done,?_,by omega,by omega,?_⟩
   ·rw[af (by omega)]
   ·rw[<-b,List.take_succ_eq_append_getElem j,List.drop_append_of_le_length (by rw[aq];omega)]) (fun s h=>by
  obtain ⟨a,done,rfl,d,m,b⟩:=h;unfold qc;simp only[];rw[if_neg (by rw[bE];simp)]) (s:=(([] :List ByteArray),0,0)) ⟨0,[],rfl,aF _,aF _,by simp⟩ (de _ (by omega))
 unfold iZ;rw[ah e,bE];simp only[];rw[slB d (aF _)];simp only[aa];have g:bA 16 (done.map mkB) [mkB ((l.take l.length).drop a)] =some (done.map mkB++ [mkB ((l.take l.length).drop a)]):=aw (by rw[List.length_map];simp only[ay,aD];omega);rw[g,<-b,List.drop_length,qV];simp
theorem Gh {c:UInt8} : ∀ {l:List UInt8},c∉l->Lib.index l [c] = -1
 | [],_=>rfl
 | b::l,h=>by
  have a:c≠b:=fun e=>h (by simp[e]);have k:([c] :List UInt8).isPrefixOf (b::l)=false:=by simp[List.isPrefixOf,a]
  rw[Lib.index,k,Gh fun k=>h (bF _ k)];rfl
theorem Gi {c:UInt8} : ∀ {a r:List UInt8},c∉a->Lib.index (a++c::r) [c] =(a.length:Int)
 | [],r,_=>by simp[Lib.index,List.isPrefixOf]
 | b::a,r,h=>by
  have d:c≠b:=fun e=>h (by simp[e]);have k:([c] :List UInt8).isPrefixOf (b::(a++c::r))=false:=by simp[List.isPrefixOf,d]
  rw[List.cons_append,Lib.index,k,Gi fun k=>h (bF _ k)];rw[if_neg (by decide),if_neg (by rw[beq_iff_eq];omega),ay];omega
theorem Ig (c:UInt8): ∀(n:Nat) (l:List UInt8),l.length<=n->Lib.splitK [c] 0 (Lib.count l [c]) l=qV c [] l
 | n,l,h=>by
  rcases vD c l with k | ⟨a,r,rfl,k⟩
  ·have e:=Gh k;rw[Lib.count_miss e,pT k];rfl
  ·have e:=Gi (r:=r) k;have b:(a++c::r).drop (a.length+1)=r:=by
    rw[<-List.drop_drop,List.drop_left];rfl
   rw[Lib.count_hit (by simp) e,sG k,Nat.add_comm 1,Lib.splitK,e,if_neg (by rw[beq_iff_eq];omega)];show List.take (a.length+0) _::Lib.splitK [c] 0 (Lib.count ((a++c::r).drop (a.length+1)) [c]) ((a++c::r).drop (a.length+1))=_;rw[b,Nat.add_zero,List.take_left];cases n with
   | zero=>simp at h
   | succ n=>rw[Ig c n r (by simp at h;omega)];rfl
theorem Gj (l:List UInt8) (c:UInt8) (b:l.length<=1000000):dx (mkB l) (mkB [c])=some ((qV c [] l).map mkB):=by
 unfold dx R.K4 chk;rw[bE,bE,if_pos ⟨by omega,by simp⟩,aa];congr 1;have e:=Lib.splitB_data (mkB [c]) 0 (Lib.countB (mkB l) (mkB [c])) (mkB l);rw[gB,gB] at e;have a:Lib.countB (mkB l) (mkB [c])=Lib.count l [c]:=by unfold Lib.countB;rw[gB,gB]
 rw[a,Ig c l.length l (aF _)] at e;rw[a,<-e,List.map_map]
 conv=>lhs;rw[<-List.map_id (Lib.splitB _ _ _ _)]
 exact List.map_congr_left fun x _=>(Gg x).symm
theorem Ug {l:List UInt8} {c:UInt8} (a:l.length<=1000000) (h:c∉l):dH (mkB l) (mkB [c])=some (mkB l,mkB [],false):=by
 unfold dH R.ZR chk;rw[bE,if_pos (by omega),aa,gB,gB]
 have:Lib.cut l [c] =(l,[],false):=by unfold Lib.cut;rw[Gh h,if_neg (by decide)]
 rw[this];rfl
theorem VD {a r:List UInt8} {c:UInt8} (d:(a++c::r).length<=1000000) (h:c∉a):dH (mkB (a++c::r)) (mkB [c])=some (mkB a,mkB r,true):=by
 unfold dH R.ZR chk;rw[bE,if_pos (by omega),aa,gB,gB]
 have:Lib.cut (a++c::r) [c] =(a,r,true):=by
  unfold Lib.cut;rw[Gi h,if_pos (by omega)];have b:(a++c::r).drop (a.length+1)=r:=by
   rw[<-List.drop_drop,List.drop_left];rfl
  show (List.take a.length _,List.drop (a.length+1) _,true)=_;rw[List.take_left,b]
 rw[this];rfl
theorem LC {c:UInt8} : ∀ {l:List UInt8},c∉l->Lib.indexByte l c= -1
 | [],_=>rfl
 | b::l,h=>by
  have a:b≠c:=fun e=>h (by simp[e]);rw[Lib.indexByte,if_neg (by simpa using a),LC fun k=>h (bF _ k)];rfl
theorem VE {c:UInt8} : ∀ {a r:List UInt8},c∉a->Lib.indexByte (a++c::r) c=(a.length:Int)
 | [],r,_=>by simp[Lib.indexByte]
 | b::a,r,h=>by
  have d:b≠c:=fun e=>h (by simp[e]);rw[List.cons_append,Lib.indexByte,if_neg (by simpa using d),VE fun k=>h (bF _ k),if_neg (by rw[beq_iff_eq];omega),ay];omega
theorem acu {α:Type} {l:List α} (h:l.length=3): ∃a b c,l= [a,b,c]:=by
 match l,h with
 | [a,b,c],_=>grind
abbrev EgT:Type:=Int×Int×Int×Int
theorem Uh (c:UInt8) (cur l:List UInt8):1<=(qV c cur l).length:=by
 grind[vD,pT,sG]
theorem Ih (u:Nat): ∀b∈Lib.decDigits u,48<=b.toNat/\b.toNat<=57:=by
 induction u using Nat.strongRecOn with
 | _ u c =>
  intro b a;have k: ∀d,d<10->48<=(UInt8.ofNat (48+d)).toNat/\(UInt8.ofNat (48+d)).toNat<=57:=fun d f=>by
   have e:(UInt8.ofNat (48+d)).toNat=48+d:=by simp;omega
   omega
  by_cases h:u<10
  ·grind[Lib.decDigits_one,List.mem_singleton]
  ·rw[Bc h] at a;rcases aG a with a | a
   ·exact c (u / 10) (by omega) b a
   ·cases ak a;exact k _ (Nat.mod_lt _ (by omega))
theorem Ui (n:Int): ∀b∈Lib.itoa n,b.toNat=45\/48<=b.toNat/\b.toNat<=57:=by
 intro b a;unfold Lib.itoa at a;split at a
 ·rcases aE a with rfl | a
  ·grind
  grind[Ih]
 grind[Ih]
theorem VF {n:Int} {c:UInt8} (h1:c.toNat≠45) (a:c.toNat<48\/57<c.toNat):c∉Lib.itoa n:=fun h=>by
 grind[Ui]
theorem aaP {n:Int} (h:0<=n/\n<=9):Lib.itoa n= [UInt8.ofNat (48+n.toNat)]:=by
 unfold Lib.itoa;rw[if_neg (by omega),Lib.decDigits_one (by omega)]
theorem JQ {e:EgT} (h:edOk e):uK e=Lib.itoa e.1++58:: [UInt8.ofNat (48+e.2.1.toNat),UInt8.ofNat (97+e.2.2.2.toNat),UInt8.ofNat (48+e.2.2.1.toNat)]:=by
 obtain ⟨-,b,a,-⟩:=h;grind[uK,aaP]
theorem aaQ: ∀k:Fin 9,∃x,ga (k.val:Int)=some x:=by
 intro k
 match k with
 | ⟨0,_⟩=>exact ⟨_,rfl⟩
 | ⟨1,_⟩=>exact ⟨_,rfl⟩
 | ⟨2,_⟩=>exact ⟨_,rfl⟩
 | ⟨3,_⟩=>exact ⟨_,rfl⟩
 | ⟨4,_⟩=>exact ⟨_,rfl⟩
 | ⟨5,_⟩=>exact ⟨_,rfl⟩
 | ⟨6,_⟩=>exact ⟨_,rfl⟩
 | ⟨7,_⟩=>exact ⟨_,rfl⟩
 | ⟨8,_⟩=>exact ⟨_,rfl⟩
theorem Na (z:ByteArray): ∃r,ic z=some r:=by
 have ⟨o,e,h⟩:=b8 (f:=mu z) (fun i s=>s=(i:Int)) (fun o=> ∀s,o≠ .nxt s) 9 (fun i s g a=>by
  subst a;unfold mu;by_cases d:i<9
  ·have ⟨x,b⟩:=aaQ ⟨i,d⟩;rw[if_pos (decide_eq_true (by omega)),b];simp only[aa];by_cases c:(x==z)=true
   ·simp_all
   ·rw[if_neg c];grind[af]
  ·obtain rfl:i=9:=by omega
   grind) (s:=(0:Int)) rfl (de _ (by omega))
 unfold ic;rw[e];cases o with
 | nxt s=>grind
 | brk s=>exact ⟨_,rfl⟩
 | ret r=>exact ⟨_,rfl⟩
theorem QX: ∀k:Fin 3,ic (mkB [UInt8.ofNat (97+k.val)])=some (2*(k.val:Int),true):=by
 intro k
 match k with
 | ⟨0,_⟩=>rfl
 | ⟨1,_⟩=>rfl
 | ⟨2,_⟩=>rfl
theorem ac5: ∀d:Fin 5,i64.wrap ((i64.wrap (((UInt8.ofNat (48+d.val)).toNat:Nat):Int)) - 48)=(d.val:Int):=by decide
theorem adt: ∀d:Fin 3,i64.wrap ((i64.wrap (((UInt8.ofNat (97+d.val)).toNat:Nat):Int)) - 97)=(d.val:Int):=by decide
theorem adu: ∀d:Fin 3,Gp (2*(d.val:Int)) 2=(d.val:Int):=by decide
def abu (s:List UInt8) (r:EgT×Bool):Prop:=r=((0,0,0,0),false)\/r.2=true/\edOk r.1/\s=uK r.1
theorem VG {e:EgT} {s:List UInt8} (h:s≠ []): ∃r:EgT×Bool,(if (if edOk e then mkB (uK e) else mkB []) !=mkB s then (some ((0,0,0,0),false)) else (some (e,true)):Option (EgT×Bool))=some r/\abu s r:=by
 by_cases k:edOk e
 ·rw[if_pos k];by_cases c:mkB (uK e)=mkB s
  ·rw[if_neg (by simp[c])];exact ⟨_,rfl,.inr ⟨rfl,k,(zT c).symm⟩⟩
  ·rw[if_pos (by grind)];exact ⟨_,rfl,.inl rfl⟩
 ·rw[if_neg k,if_pos (by
   grind[zT])]
  exact ⟨_,rfl,.inl rfl⟩
theorem adv (l:List UInt8) (h:l.length<=1000000): ∃r,iL (mkB l)=some r/\abu l r:=by
 unfold iL;have m:iZ (mkB l) 58=some ((qV 58 [] l).map mkB):=yN l 58 h;rw[m];simp only[aa];rcases vD 58 l with k | ⟨a,r,rfl,k⟩
 ·rw[pT k];exact ⟨_,rfl,.inl rfl⟩
 ·rw[sG k];rcases vD 58 r with c | ⟨b,q,rfl,c⟩
  ·rw[pT c];simp only[List.nil_append,List.map_cons,List.map_nil];have o:aU [mkB a,mkB r] 0=some (mkB a):=rfl;have g:aU [mkB a,mkB r] 1=some (mkB r):=rfl;rw[if_neg (by simp)];simp only[o,g,aa,bE];by_cases p:r.length=3
   ·obtain ⟨x,y,z,rfl⟩:=acu p;obtain ⟨n,e,-,-⟩:=sF (mkB a);have ⟨t,f⟩:=Na (mkB [y]);have j:tL (mkB [x,y,z]) 1 2=some (mkB [y]):=slB (l:=[x,y,z]) (a:=1) (b:=2) (by decide) (by simp);have d:kL (mkB [x,y,z]) 0=some ((x.toNat:Nat):Int):=atB (l:=[x,y,z]) (i:=0) (by simp);have s:kL (mkB [x,y,z]) 2=some ((z.toNat:Nat):Int):=atB (l:=[x,y,z]) (i:=2) (by simp);rw[if_neg (by simp),e,j];simp only[aa];rw[f,d,s];simp only[aa];rw[QS];exact VG (by simp)
   ·rw[if_pos (by grind)];exact ⟨_,rfl,.inl rfl⟩
  ·rw[sG c]
   have:=Uh 58 [] q
   rw[if_pos (by grind)];exact ⟨_,rfl,.inl rfl⟩
theorem adw (l:List UInt8) (c:l.length<=1000000): ∃r,iJ (mkB l)=some r/\abu l r:=by
 unfold iJ;rcases vD 58 l with k | ⟨a,r,rfl,k⟩
 ·have b:dH (mkB l) (⟨#[58]⟩)=some (mkB l,mkB [],false):=Ug c k;rw[b];exact ⟨_,rfl,.inl rfl⟩
 ·have b:dH (mkB (a++58::r)) (⟨#[58]⟩)=some (mkB a,mkB r,true):=VD c k;rw[b];simp only[aa,bE];by_cases g:r.length=3
  ·obtain ⟨x,y,z,rfl⟩:=acu g;obtain ⟨n,-,d,-⟩:=sF (mkB a);have f:kL (mkB [x,y,z]) 0=some ((x.toNat:Nat):Int):=atB (l:=[x,y,z]) (i:=0) (by simp);have h:kL (mkB [x,y,z]) 1=some ((y.toNat:Nat):Int):=atB (l:=[x,y,z]) (i:=1) (by simp);have e:kL (mkB [x,y,z]) 2=some ((z.toNat:Nat):Int):=atB (l:=[x,y,z]) (i:=2) (by simp);rw[if_neg (by simp),d,f,h,e];simp only[aa];rw[QU];exact VG (by simp)
  ·rw[if_pos (by grind)];exact ⟨_,rfl,.inl rfl⟩
theorem Yt {e:EgT} (h:edOk e):iL (mkB (uK e))=some (e,true)/\iJ (mkB (uK e))=some (e,true):=by
 have E:=yM h;have u:=JQ h;have d:(uK e).length<=1000000:=by omega
 have ⟨T,y,K,D⟩:=id h;have ⟨I,M⟩:=LB (n:=e.1) (by omega);have k:(58:UInt8)∉Lib.itoa e.1:=VF (by decide) (by decide);have ⟨f,w,r⟩: ∃k:Nat,k<5/\e.2.1=(k:Int):=⟨e.2.1.toNat,by omega,by omega⟩;have ⟨t,p,o⟩: ∃k:Nat,k<5/\e.2.2.1=(k:Int):=⟨e.2.2.1.toNat,by omega,by omega⟩;have ⟨q,j,v⟩: ∃k:Nat,k<3/\e.2.2.2=(k:Int):=⟨e.2.2.2.toNat,by omega,by omega⟩;have m:uK e=Lib.itoa e.1++58:: [UInt8.ofNat (48+f),UInt8.ofNat (97+q),UInt8.ofNat (48+t)]:=by
  rw[u,r,o,v];rfl
 have s:(58:UInt8) ∉ [UInt8.ofNat (48+f),UInt8.ofNat (97+q),UInt8.ofNat (48+t)]:=by
  have C:(UInt8.ofNat (48+f)).toNat=48+f:=by simp;omega
  have N:(UInt8.ofNat (97+q)).toNat=97+q:=by simp;omega
  have z:(UInt8.ofNat (48+t)).toNat=48+t:=by simp;omega
  have H:(58:UInt8).toNat=58:=rfl;intro c;simp only[List.mem_cons,List.not_mem_nil,or_false] at c;rcases c with c | c | c <;> (have:=congrArg UInt8.toNat c;omega)
 have B:=atB (l:=[UInt8.ofNat (48+f),UInt8.ofNat (97+q),UInt8.ofNat (48+t)]) (i:=0) (by simp);have O:=atB (l:=[UInt8.ofNat (48+f),UInt8.ofNat (97+q),UInt8.ofNat (48+t)]) (i:=1) (by simp);have Q:=atB (l:=[UInt8.ofNat (48+f),UInt8.ofNat (97+q),UInt8.ofNat (48+t)]) (i:=2) (by simp);have J:=slB (l:=[UInt8.ofNat (48+f),UInt8.ofNat (97+q),UInt8.ofNat (48+t)]) (a:=1) (b:=2) (by decide) (by simp);have x:=ac5 ⟨f,w⟩;have G:=ac5 ⟨t,p⟩;have R:=adt ⟨q,j⟩;have A:=adu ⟨q,j⟩;have S:=QX ⟨q,j⟩;have P:(e.1,(f:Int),(t:Int),(q:Int))=e:=by grind
 constructor
 ·unfold iL;have g:iZ (mkB (uK e)) 58=some ((qV 58 [] (uK e)).map mkB):=yN _ 58 d;rw[g];rw[m,sG k,pT s];have L: ∀a b:ByteArray,aU [a,b] 0=some a:=fun a b=>rfl;have F: ∀a b:ByteArray,aU [a,b] 1=some b:=fun a b=>rfl;simp_all[aa,bE,if_neg,QS,if_pos]
 ·unfold iJ;have g:dH (mkB (uK e)) (⟨#[58]⟩)=some (mkB (Lib.itoa e.1),mkB [UInt8.ofNat (48+f),UInt8.ofNat (97+q),UInt8.ofNat (48+t)],true):=by
   rw[m] at d⊢;exact VD d k
  rw[g];simp[aa,bE];simp_all[if_neg,aa,QU,if_pos]
theorem QY (l:List UInt8) (d:l.length<=1000000): ∃r,iL (mkB l)=some r/\iJ (mkB l)=some r/\abu l r:=by
 by_cases h: ∃e:EgT,edOk e/\l=uK e
 ·obtain ⟨e,c,rfl⟩:=h;exact ⟨_,(Yt c).1,(Yt c).2,.inr ⟨rfl,c,rfl⟩⟩
 ·have ⟨m,i,f⟩:=adv l d;have ⟨k,j,g⟩:=adw l d;rcases f with rfl | ⟨-,a,b⟩
  ·rcases g with rfl | ⟨-,a,b⟩
   ·exact ⟨_,i,j,.inl rfl⟩
   grind
  grind
theorem Uj {e:EgT} (h:edOk e) {c:UInt8} (h1:c.toNat≠45) (d:c.toNat<48):c∉uK e:=by
 obtain ⟨-,-,-,b⟩:=id h;rw[JQ h];intro a;rcases aG a with a | a
 ·grind[VF]
 ·have i:(UInt8.ofNat (48+e.2.1.toNat)).toNat=48+e.2.1.toNat:=by have:=h.2.1;simp;omega
  have j:(UInt8.ofNat (97+e.2.2.2.toNat)).toNat=97+e.2.2.2.toNat:=by simp;omega
  have f:(UInt8.ofNat (48+e.2.2.1.toNat)).toNat=48+e.2.2.1.toNat:=by have:=h.2.2.1;simp;omega
  have g:(58:UInt8).toNat=58:=rfl;simp only[List.mem_cons,List.not_mem_nil,or_false] at a;rcases a with a | a | a | a <;> (have:=congrArg UInt8.toNat a;omega)
theorem LD {c:ChT} (h:edOk c.2) {b:UInt8} (h1:b.toNat≠45) (d:b.toNat<48) (e:b.toNat≠43):b∉vK c:=by
 intro a;rcases aE a with a | a
 ·have:=congrArg UInt8.toNat a
  split at this
  ·grind
  grind
 grind[Uj]
theorem AA {c:UInt8} : ∀ {r:List (List UInt8)} {x:List UInt8},c∉x->(∀y∈r,c∉y)->qV c [] (x++Lib.joinTail [c] r)=x::r
 | [],x,hx,_=>by
  have:Lib.joinTail [c] [] = []:=by simp[Lib.joinTail]
  rw[this,List.append_nil,pT hx];rfl
 | y::r,x,hx,hr=>by
  have:Lib.joinTail [c] (y::r)=c::(y++Lib.joinTail [c] r):=by simp[Lib.joinTail]
  rw[this,sG hx,AA (hr y (by simp)) fun z a=>hr z (bF _ a)];rfl
theorem QZ {l:List ChT} (h:Be l) (e:l≠ []):qV 32 [] (btx l)=l.map vK:=by
 cases l with
 | nil=>grind
 | cons c r =>
  unfold btx;rw[List.map_cons,Lib.join_cons];refine AA (LD (h c (by simp)) (by decide) (by decide) (by decide)) fun y b=>?_;obtain ⟨d,a,rfl⟩:=List.mem_map.1 b;exact LD (h d (bF _ a)) (by decide) (by decide) (by decide)
theorem Yu:btx [] = []:=by simp[btx,Lib.join_nil]
theorem VH {l:List ChT} (a:l≠ []):btx l≠ []:=by
 cases l with
 | nil=>grind
 | cons c r=>unfold btx;rw[List.map_cons,Lib.join_cons];simp[vK]
def abv (s:List UInt8) (r:(List ChT)×Bool):Prop:=r=([],false)\/r.2=true/\r.1.length<=6/\Be r.1/\s=btx r.1
theorem Q0 {p:List UInt8} (h:1<=p.length):tL (mkB p) 1 (p.length:Int)=some (mkB (p.drop 1)):=by
 have:=slB (l:=p) (a:=1) (b:=p.length) h (aF _)
 grind
theorem uM (p:List UInt8):(mkB p==(⟨#[]⟩:ByteArray))=decide (p= []):=by
 by_cases h:p= []
 ·subst h;rfl
 ·rw[decide_eq_false h,beq_eq_false_iff_ne];intro k;exact h (zT (b:=[]) k)
open Classical in
theorem VI {f:List ChT->Option ByteArray} (d: ∀l,f l=some (if l.length<=6/\Be l then mkB (btx l) else mkB [])) {b:List ChT} {s:List UInt8} (h:s≠ []): ∃r:(List ChT)×Bool,((f b).bind fun a=>if a !=mkB s then (some (([] :List ChT),false)) else (some (b,true)):Option ((List ChT)×Bool))=some r/\abv s r:=by
 rw[d];simp only[aa];by_cases k:b.length<=6/\Be b
 ·rw[if_pos k];by_cases c:mkB (btx b)=mkB s
  ·rw[if_neg (by simp[c])];exact ⟨_,rfl,.inr ⟨rfl,k.1,k.2,(zT c).symm⟩⟩
  ·rw[if_pos (by simpa using c)];exact ⟨_,rfl,.inl rfl⟩
 ·rw[if_neg k,if_pos (by
   rw[bne_iff_ne];exact fun c=>h (zT c).symm)]
  exact ⟨_,rfl,.inl rfl⟩
theorem adx (l:List UInt8) (g:l.length<=1000000): ∃r,gF (mkB l)=some r/\(l= [] \/abv l r):=by
 unfold gF;by_cases h:l= []
 ·simp_all[uM,if_pos,decide_eq_true]
 rw[uM,if_neg (by grind)];have m:iZ (mkB l) 32=some ((qV 32 [] l).map mkB):=yN l 32 g;rw[m];simp only[aa];have ⟨o,e,t⟩:=b8 (f:=eC ((qV 32 [] l).map mkB)) (fun i s=> ∃b:List ChT,s=((i:Int),b)/\b.length=i) (fun o=>o= .ret (([] :List ChT),false)\/ ∃s,o= .brk s) 7 (fun i s x j=>by
  obtain ⟨b,rfl,v⟩:=j;unfold eC;by_cases a:i<((qV 32 [] l).map mkB).length
  ·rw[bT a,if_pos rfl];by_cases w:i<=6
   ·rw[if_pos (decide_eq_true (by omega)),aK a];simp only[aa];rw[List.length_map] at a;have hp:=uL 32 l [] _ (List.getElem_mem a);rw[List.getElem_map];generalize (qV 32 [] l)[i] =p at hp⊢;rw[bE];by_cases u:p.length<2
    ·grind
    ·rw[if_neg (by grind),Q0 (by omega)];simp only[aa];obtain ⟨r,c,-,-⟩:=QY (p.drop 1) (by grind);rw[c];simp only[aa];have d:kL (mkB p) 0=some ((p[0].toNat:Nat):Int):=atB (l:=p) (i:=0) (by omega);by_cases n:r.2=true
     ·rw[if_pos n,d];simp only[aa];have q: ∀z:ChT,bA 40 b [z] =some (b++ [z]):=fun z=>aw (by grind);rw[q];exact .inl ⟨by omega,_,rfl,_,by rw[af (by omega)],by simp;omega⟩
     grind
   ·rw[if_neg (by grind)];grind
  simp_all[if_neg,decide_eq_true_eq]) (s:=(0,([] :List ChT))) ⟨[],rfl,rfl⟩ (de _ (by omega))
 rcases t with rfl | ⟨s,rfl⟩
 ·rw[bI e];exact ⟨_,rfl,.inr (.inl rfl)⟩
 ·rw[ah e];have ⟨r,c,k⟩:=VI (f:=dK) (fun l=>(vC l).1) (b:=s.2) h;grind
theorem ady (l:List UInt8) (j:l.length<=1000000): ∃r,gE (mkB l)=some r/\(l= [] \/abv l r):=by
 unfold gE;by_cases m:l= []
 ·simp_all[uM,if_pos,decide_eq_true]
 rw[uM,if_neg (by grind)];have q:dx (mkB l) (⟨#[32]⟩)=some ((qV 32 [] l).map mkB):=Gj l 32 j;rw[q];simp only[aa];have w:=Gf 32 l [];have ⟨o,e,v⟩:=b8 (f:=eB ((qV 32 [] l).map mkB)) (fun i s=> ∃b:List ChT,s=((i:Int),b)/\b.length=i) (fun o=>o= .ret (([] :List ChT),false)\/ ∃s,o= .brk s) (qV 32 [] l).length (fun i s y n=>by
  obtain ⟨b,rfl,x⟩:=n;unfold eB;by_cases a:i<((qV 32 [] l).map mkB).length
  ·rw[bT a,if_pos rfl,aK a];simp only[aa];rw[List.length_map] at a;have hp:=uL 32 l [] _ (List.getElem_mem a);rw[List.getElem_map];generalize (qV 32 [] l)[i] =p at hp⊢;rw[uM,bE];by_cases g:p= []
   ·grind
   ·have c:=List.length_pos_iff.2 g;rw[if_neg (by grind),Q0 c];simp only[aa];obtain ⟨r,-,d,-⟩:=QY (p.drop 1) (by grind);rw[d];simp only[aa];have h:kL (mkB p) 0=some ((p[0].toNat:Nat):Int):=atB (l:=p) (i:=0) (by omega);by_cases t:r.2=true
    ·rw[if_pos t,h];simp only[aa];have u: ∀z:ChT,bA 40 b [z] =some (b++ [z]):=fun z=>aw (by grind);rw[u];exact .inl ⟨by omega,_,rfl,_,by rw[af (by omega)],by simp;omega⟩
    grind
  simp_all[if_neg,decide_eq_true_eq]) (s:=(0,([] :List ChT))) ⟨[],rfl,rfl⟩ (de _ (by omega))
 rcases v with rfl | ⟨s,rfl⟩
 ·rw[bI e];exact ⟨_,rfl,.inr (.inl rfl)⟩
 ·rw[ah e];have ⟨r,d,k⟩:=VI (f:=fJ) (fun l=>(vC l).2) (b:=s.2) m;grind
theorem Q1 {L:List ChT} (h:Be L) (q:L.length<=6) {i:Nat} (hi:i<L.length):eC ((L.map vK).map mkB) ((i:Int),L.take i)=some (.nxt (((i+1:Nat):Int),L.take (i+1)))/\eB ((L.map vK).map mkB) ((i:Int),L.take i)=some (.nxt (((i+1:Nat):Int),L.take (i+1))):=by
 have a:i<((L.map vK).map mkB).length:=by rw[List.length_map,List.length_map];exact hi
 have b:=h _ (List.getElem_mem hi);have d:((L.map vK).map mkB)[i] =mkB (vK L[i]):=by simp
 have ⟨m,n⟩:=Yt b;have r:(vK L[i]).length=(uK L[i].2).length+1:=by rfl
 have o:4<=(uK L[i].2).length:=by rw[JQ b];simp
 have g:(vK L[i]).drop 1=uK L[i].2:=rfl;have c:kL (mkB (vK L[i])) 0=some (((if L[i].1 then (43:UInt8) else 45).toNat:Nat):Int):=atB (l:=vK L[i]) (i:=0) (by omega);have f:((((if L[i].1 then (43:UInt8) else 45).toNat:Nat):Int)==43)=L[i].1:=by
  generalize L[i].1=t;cases t <;> rfl
 have j: ∀z:ChT,bA 40 (L.take i) [z] =some (L.take i++ [z]):=fun z=>aw (by grind);have e:=List.take_succ_eq_append_getElem hi;have k:=Q0 (p:=vK L[i]) (by omega);constructor
 ·unfold eC;rw[bT a,if_pos rfl,if_pos (decide_eq_true (by omega)),aK a,d];simp[aa];rw[bE,if_neg (by grind),k,g];simp[aa];rw[m];simp only[aa];rw[if_pos trivial,c];simp[aa];rw[f,j,af (by omega),e];rfl
 ·unfold eB;rw[bT a,if_pos rfl,aK a,d];simp only[aa];rw[uM,if_neg (by grind),bE,k,g];simp[aa];rw[n];simp only[aa];rw[if_pos trivial,c];simp[aa];rw[f,j,af (by omega),e];rfl
theorem aaR {L:List ChT} (h:Be L) (e:L.length<=6):gF (mkB (btx L))=some (L,true)/\gE (mkB (btx L))=some (L,true):=by
 by_cases a:L= []
 ·subst a;exact ⟨rfl,rfl⟩
 have j:=Ge h;have d:(btx L).length<=1000000:=by omega
 have ⟨g,l⟩:=vC L;have k:=aY (f:=eC ((L.map vK).map mkB)) (fun i=>((i:Int),L.take i)) L.length (fun i b=>(Q1 h e b).1) (by
  simp_all[eC,if_neg]) (de _ (by omega))
 have b:=aY (f:=eB ((L.map vK).map mkB)) (fun i=>((i:Int),L.take i)) L.length (fun i b=>(Q1 h e b).2) (by
  simp_all[eB,if_neg]) (de _ (by omega))
 constructor
 ·unfold gF;have c:iZ (mkB (btx L)) 32=some ((qV 32 [] (btx L)).map mkB):=yN _ 32 d;rw[uM,if_neg (by simpa using VH a),c,QZ h a];grind[ah]
 ·unfold gE;have c:dx (mkB (btx L)) (⟨#[32]⟩)=some ((qV 32 [] (btx L)).map mkB):=Gj _ 32 d;rw[uM,if_neg (by simpa using VH a),c,QZ h a];grind[ah]
theorem Yv (l:List UInt8) (g:l.length<=1000000): ∃r,gF (mkB l)=some r/\gE (mkB l)=some r/\abv l r:=by
 by_cases h: ∃L:List ChT,L.length<=6/\Be L/\l=btx L
 ·obtain ⟨L,f,d,rfl⟩:=h;exact ⟨_,(aaR d f).1,(aaR d f).2,.inr ⟨rfl,f,d,rfl⟩⟩
 ·have i:l≠ []:=fun e=>h ⟨[],by simp,fun c q=>by grind,by rw[e,Yu]⟩;have ⟨p,j,n⟩:=adx l g;have ⟨s,o,m⟩:=ady l g;rcases n with k | rfl | ⟨-,a,b,c⟩
  ·grind
  ·rcases m with k | rfl | ⟨-,a,b,c⟩
   ·grind
   ·exact ⟨_,j,o,.inl rfl⟩
   grind
  grind
def recT (v:Int) (b:List ChT):List UInt8:=((dQ v b).getD ByteArray.empty).data.toList
theorem Ii (v:Int) (b:List ChT):dQ v b=some (mkB (recT v b))/\iX v b=some (mkB (recT v b))/\(recT v b).length<=1000:=by
 have ⟨r,a,c,h⟩:=CZ v b;grind[mkB,recT,Gg,bE]
def totL (r:List Int) (q:List (List ChT)):Nat->Nat
 | 0=>0
 | i+1=>totL r q i+(recT (nth r (i:Int)) (nth q (i:Int))).length
theorem LF {r:List Int} {q:List (List ChT)} (h:q.length=r.length) (x:List Int) (y:List (List ChT)): ∀i,i<=r.length->totL (r++x) (q++y) i=totL r q i
 | 0,_=>rfl
 | i+1,hi=>by
  rw[totL,totL,LF h x y i (by omega),j8 (by omega) (by omega),j8 (by omega) (by omega)]
theorem Q2 {r:List Int} {q:List (List ChT)} (h:q.length=r.length) (v:Int) (b:List ChT):totL (r++ [v]) (q++ [b]) (r++ [v]).length=totL r q r.length+(recT v b).length:=by
 have a:nth (r++ [v]) ((r.length:Nat):Int)=v:=by rw[cB (by simp)];simp
 have c:nth (q++ [b]) ((r.length:Nat):Int)=b:=by rw[<-h,cB (by simp)];simp
 simp_all[az,ay,aD,Nat.zero_add,totL,LF,aF]
theorem Q3 (l:List UInt8) (d:l.length<=1000000): ∃r:Int×List ChT×Bool,lr (mkB l)=some r/\ln (mkB l)=some r/\r.2.1.length<=6/\(-999999999<=r.1/\r.1<=999999999)/\(r.2.2=true->recT r.1 r.2.1=l):=by
 unfold lr ln;have j:iZ (mkB l) 59=some ((qV 59 [] l).map mkB):=yN l 59 d;have i:dx (mkB l) (⟨#[59]⟩)=some ((qV 59 [] l).map mkB):=Gj l 59 d;rw[j,i];by_cases m:(qV 59 [] l).length=3
 ·have hp:=uL 59 l [];have ⟨a,b,c,e⟩:=acu m;rw[e] at hp⊢;have f:=hp b (by simp);rw[aD] at f;have x:aU [mkB a,mkB b,mkB c] 0=some (mkB a):=rfl;have s:aU [mkB a,mkB b,mkB c] 1=some (mkB b):=rfl;have ⟨v,p,u,kv⟩:=sF (mkB a);have ⟨q,z,w,k⟩:=Yv b (by omega);obtain ⟨t,o,y,-⟩:=CZ v.1 q.1;have A:q.1.length<=6:=by
   rcases k with rfl | ⟨-,k,-⟩
   ·simp
   ·exact k
  by_cases g:v.2=true
  ·by_cases h:q.2=true
   ·by_cases n:(t !=mkB l)=true
    ·simp_all
    ·simp[if_pos g,if_pos h,if_neg n];grind[mkB,Ii,zT,ae]
   simp_all
  simp_all
 ·have k:(((List.map mkB (qV 59 [] l)).length:Int) !=3)=true:=by
   rw[bne_iff_ne,List.length_map];omega
  simp_all
def ScOk (vs:List Int) (bs:List (List ChT)):Prop:=bs.length=vs.length/\(∀b∈bs,b.length<=6)/\ ∀v∈vs,(-999999999<=v/\v<=999999999)/\v<=nth vs ((vs.length:Int) - 1)
theorem Uk (vs:List Int) (v:Int):nth (vs++ [v]) (((vs++ [v]).length:Int) - 1)=v:=by
 simp_all[cB]
theorem ScOk.push {vs:List Int} {c:List (List ChT)} (h:ScOk vs c) {v:Int} {b:List ChT} (g:b.length<=6) (hv: -999999999<=v/\v<=999999999) (e:0<vs.length->v=i64.wrap (nth vs ((vs.length:Int) - 1)+1)):ScOk (vs++ [v]) (c++ [b]):=by
 have ⟨j,f,i⟩:=h;refine ⟨by grind,fun d a=>?_,fun d a=>?_⟩
 ·grind
 ·rw[Uk];rcases aG a with q | q
  ·grind[List.length_pos_of_mem,cZ,bQ]
  grind
theorem Gk {l:List UInt8} (f:l.length<=4000) {vs:List Int} {c:List (List ChT)} {u:Int} : ∀(a r:List UInt8) (i k:Nat),(10:UInt8)∉a->l.drop i=a++r->i<=l.length->al (bu (mkB l)) (k+a.length) (vs,c,u,(i:Int))=al (bu (mkB l)) k (vs,c,u,((i+a.length:Nat):Int))
 | [],r,i,k,_,_,_=>rfl
 | x::a,r,i,k,hx,e,hi=>by
  have b:i<l.length:=by
   have:=congrArg List.length e
   rw[a7,az,ay] at this;omega
  have g:=List.drop_eq_getElem_cons b;rw[g,List.cons_append] at e;have ⟨h,j⟩:=List.cons.inj e;have m:x.toNat≠10:=fun q=>hx (by
   have:x=10:=UInt8.toNat_inj.1 q
   grind)
  have d:bu (mkB l) (vs,c,u,(i:Int))=some (.nxt (vs,c,u,((i+1:Nat):Int))):=by
   unfold bu;rw[bE,bT b,if_pos rfl,if_pos (decide_eq_true (by omega)),atB b,h];simp only[aa];rw[if_pos (by grind),af (by omega)];rfl
  rw[ay,show k+(a.length+1)=(k+a.length)+1 by omega,al,d];show al _ (k+a.length) _=_;rw[Gk f a r (i+1) k (fun q=>hx (bF _ q)) j b,show i+1+a.length=i+(a.length+1) by omega]
theorem Yw {l:List UInt8} (B:l.length<=4000): ∀(m p:Nat) (vs:List Int) (b:List (List ChT)),l.length - p<m->p<=l.length->vs.length<=p->ScOk vs b->totL vs b vs.length<=p-> ∃(r:List Int) (q:List (List ChT)) (n:Nat),(∀k,l.length - p+1<=k->(al (bu (mkB l)) k (vs,b,(p:Int),(p:Int))=some (.ret (r,q,(n:Int)))\/ ∃i,al (bu (mkB l)) k (vs,b,(p:Int),(p:Int))=some (.brk (r,q,(n:Int),i)))/\al (di (mkB l)) k (vs,b,(p:Int))=some (.brk (r,q,(n:Int))))/\n<=l.length/\r.length<=n/\ScOk r q/\totL r q r.length<=n:=by
 intro m;induction m with
 | zero=>omega
 | succ m ih =>
  intro p vs b Y hp hv o A;have u:=o.1;have g:tL (mkB l) (p:Int) (l.length:Int)=some (mkB (l.drop p)):=by
   rw[slB hp (aF _),List.take_length]
  rcases vD 10 (l.drop p) with k | ⟨a,t,e,k⟩
  ·refine ⟨vs,b,p,fun j x=>⟨.inr ⟨(l.length:Int),?_⟩,?_⟩,hp,hv,o,A⟩
   ·have H:(l.drop p).length=l.length - p:=a7 ..;obtain ⟨j,rfl⟩: ∃j',j=(j'+1)+(l.drop p).length:=⟨j - 1 - (l.length - p),by omega⟩;rw[Gk B (l.drop p) [] p (j+1) k (by simp) hp,al,H,show p+(l.length - p)=l.length by omega]
    have:bu (mkB l) (vs,b,(p:Int),(l.length:Int))=some (.brk (vs,b,(p:Int),(l.length:Int))):=by
     unfold bu;simp only[];rw[bE,if_neg (by simp)]
    grind
   ·obtain ⟨j,rfl⟩: ∃j',j=j'+1:=⟨j - 1,by omega⟩
    have:di (mkB l) (vs,b,(p:Int))=some (.brk (vs,b,(p:Int))):=by
     unfold di;simp only[];have w:gp (mkB (l.drop p)) 10=some (-1):=by
      show some (Lib.indexByte _ 10)=_;rw[gB,LC k]
     rw[bE,if_pos (decide_eq_true (by omega)),g];simp only[aa];rw[w];simp only[aa]
     rfl
    rw[al,this]
  ·have f:(l.drop p).length=l.length - p:=a7 ..;rw[e,az,ay] at f;have v:p+a.length<l.length:=by omega
   have S:l[p+a.length] =10:=by
    have:(l.drop p)[a.length]? =some 10:=by rw[e];simp
    rw[List.getElem?_drop,List.getElem?_eq_getElem v] at this;exact ae this
   have ⟨r,L,U,N,I,W⟩:=Q3 ((l.take (p+a.length+1)).drop p) (by grind);have y:tL (mkB l) (p:Int) ((p+a.length+1:Nat):Int)=some (mkB ((l.take (p+a.length+1)).drop p)):=slB (by omega) (by omega);have w:gp (mkB (l.drop p)) 10=some (a.length:Int):=by
    show some (Lib.indexByte _ 10)=_;rw[gB,e,VE k]
   have F:i64.wrap ((i64.wrap ((p:Int)+(a.length:Int)))+1)=((p+a.length+1:Nat):Int):=by
    rw[bQ (n:=(p:Int)+(a.length:Int)) (by omega) (by omega),bQ (by omega) (by omega)];omega
   have O:i64.wrap ((p:Int)+(i64.wrap ((a.length:Int)+1)))=((p+a.length+1:Nat):Int):=by
    rw[bQ (n:=(a.length:Int)+1) (by omega) (by omega),bQ (by omega) (by omega)];omega
   have step:(bu (mkB l) (vs,b,(p:Int),((p+a.length:Nat):Int))=some (.ret (vs,b,(p:Int)))/\di (mkB l) (vs,b,(p:Int))=some (.brk (vs,b,(p:Int))))\/(bu (mkB l) (vs,b,(p:Int),((p+a.length:Nat):Int))=some (.nxt (vs++ [r.1],b++ [r.2.1],((p+a.length+1:Nat):Int),((p+a.length+1:Nat):Int)))/\di (mkB l) (vs,b,(p:Int))=some (.nxt (vs++ [r.1],b++ [r.2.1],((p+a.length+1:Nat):Int)))/\(0<vs.length->r.1=i64.wrap (nth vs ((vs.length:Int) - 1)+1))/\r.2.2=true):=by
    have z:bA 8 vs [r.1] =some (vs++ [r.1]):=aw (by grind);have E:bA 24 b [r.2.1] =some (b++ [r.2.1]):=aw (by grind);unfold bu di;simp only[];rw[bE,bT v,if_pos rfl,if_pos (decide_eq_true (by omega)),if_pos (decide_eq_true (by omega)),atB v,S,g];simp only[aa];rw[if_neg (by decide),w,af (show p+a.length<9223372036854775807 by omega),y];simp only[aa];rw[L,if_neg (by simp),F,O,y];simp only[aa];rw[U];simp only[aa];by_cases c:r.2.2=true
    ·rw[if_pos c,if_pos c];by_cases d:decide ((vs.length:Int)>0)=true
     ·rw[if_pos d,if_pos d];have X:0<vs.length:=by simpa using d
      rw[j7 (by omega),aA (xs:=vs) (by omega) (by omega)];simp only[aa];by_cases s:(r.1 !=i64.wrap (nth vs ((vs.length:Int) - 1)+1))=true
      ·rw[if_pos s,if_pos s];exact .inl ⟨rfl,rfl⟩
      ·rw[if_neg s,if_neg s,z,E];exact .inr ⟨rfl,rfl,(fun _=>by grind),c⟩
     ·rw[if_neg d,if_neg d,z,E];exact .inr ⟨rfl,rfl,(fun h=>absurd (decide_eq_true (show (vs.length:Int)>0 by omega)) d),c⟩
    ·rw[if_neg c,if_neg c];exact .inl ⟨rfl,rfl⟩
   rcases step with ⟨D,C⟩ | ⟨D,C,T,P⟩
   ·refine ⟨vs,b,p,fun j x=>⟨.inl ?_,?_⟩,hp,hv,o,A⟩
    ·obtain ⟨j,rfl⟩: ∃j',j=(j'+1)+a.length:=⟨j - 1 - a.length,by omega⟩;simp_all[Gk,al]
    ·obtain ⟨j,rfl⟩: ∃j',j=j'+1:=⟨j - 1,by omega⟩;rw[al,C]
   ·have K:totL (vs++ [r.1]) (b++ [r.2.1]) (vs++ [r.1]).length<=p+a.length+1:=by
     rw[Q2 u,W P,a7,aq];omega
    have ⟨R,Q,n,V,G,M,J⟩:=ih (p+a.length+1) (vs++ [r.1]) (b++ [r.2.1]) (by omega) (by omega) (by grind) (o.push N I T) K;refine ⟨R,Q,n,fun j x=>⟨?_,?_⟩,G,M,J⟩
    ·obtain ⟨j,rfl⟩: ∃j',j=(j'+1)+a.length:=⟨j - 1 - a.length,by omega⟩;rw[Gk B a (10::t) p (j+1) k e hp,al,D];exact (V j (by omega)).1
    ·obtain ⟨j,rfl⟩: ∃j',j=j'+1:=⟨j - 1,by omega⟩;grind[al]
theorem uN (l:List UInt8) (o:l.length<=1000000000): ∃(r:List Int) (q:List (List ChT)) (n:Nat),m_s_ScanLog (mkB l)=some (r,q,(n:Int))/\m_i_ScanLog (mkB l)=some (r,q,(n:Int))/\n<=l.length/\r.length<=4000/\ScOk r q/\totL r q r.length<=n:=by
 unfold m_s_ScanLog m_i_ScanLog;by_cases h:l.length<=4000
 ·have ⟨r,q,n,j,g,p,f⟩:=Yw h (l.length+1) 0 [] [] (by omega) (by omega) (by simp) ⟨rfl,fun b c=>(by cases c),fun b c=>(by cases c)⟩ (Nat.zero_le _);have ⟨a,d⟩:=j aW (de _ (by omega));have d:al (di (mkB l)) aW (([] :List Int),([] :List (List ChT)),0)=some (.brk (r,q,(n:Int))):=d;refine ⟨r,q,n,?_,?_,g,by omega,f⟩
  ·rcases a with a | ⟨i,a⟩
   ·have a:al (bu (mkB l)) aW (([] :List Int),([] :List (List ChT)),0,0)=_:=a;rw[bI a]
   ·have a:al (bu (mkB l)) aW (([] :List Int),([] :List (List ChT)),0,0)=_:=a;rw[ah a]
  ·rw[ah d]
 ·have m:=de 100 (by omega);have ⟨k,e⟩: ∃k,aW=k+1:=⟨aW - 1,by omega⟩;have a:al (bu (mkB l)) aW (([] :List Int),([] :List (List ChT)),0,0)=some (.brk ([],[],0,0)):=by
   rw[e,al]
   have:bu (mkB l) (([] :List Int),([] :List (List ChT)),0,0)=some (.brk ([],[],0,0)):=by
    unfold bu;simp only[];rw[bE,if_pos (decide_eq_true (by omega)),if_neg (by grind)]
   grind
  have d:al (di (mkB l)) aW (([] :List Int),([] :List (List ChT)),0)=some (.brk ([],[],0)):=by
   rw[e,al]
   have:di (mkB l) (([] :List Int),([] :List (List ChT)),0)=some (.brk ([],[],0)):=by
    unfold di;rw[bE,if_neg (by grind)]
   grind
  rw[ah a,ah d];exact ⟨[],[],0,rfl,rfl,by omega,by simp,⟨rfl,fun b c=>(by cases c),fun b c=>(by cases c)⟩,aF _⟩
abbrev EngT:=vJ×oV×List rK×ByteArray
theorem LG {h:vJ} {r:oV} {ss:List rK} {lg:ByteArray} {v:Int} (hs:aV h=some v) (d:r.2.length<=1048576) (f:ss.length<=1048576) {i:Nat} (h1:i<ss.length) :
  cY (h,r,ss,lg) v (i:Int)=cr (h,r,ss,lg) (i:Int)/\(cr (h,r,ss,lg) (i:Int)=some (.nxt ((i+1:Nat):Int))\/cr (h,r,ss,lg) (i:Int)=some (.ret false)):=by
 obtain ⟨k,a,e,-⟩:=oc r ss[i].2.1 d;have b:i64.wrap ((i:Int)+1)=((i+1:Nat):Int):=af (by omega);unfold cY cr;simp only[gJ,bT h1,if_true,aK h1,aa,AO,Il,a,e,hs,b];by_cases c:decide ((i:Int)>0)=true
 ·have g:aU ss (i64.wrap ((i:Int) - 1))=some (nth ss ((i:Int) - 1)):=by
   have:(i:Int)>0:=of_decide_eq_true c
   rw[j7 (by omega),aA (by omega) (by omega)]
  simp only[if_pos c,g,aa];refine ⟨trivial,?_⟩
  repeat' split
  all_goals first | exact .inr rfl | exact .inl rfl
 ·simp only[if_neg c];refine ⟨trivial,?_⟩
  repeat' split
  all_goals first | exact .inr rfl | exact .inl rfl
theorem Ul {h:vJ} {r:oV} {ss:List rK} {lg:ByteArray} {v:Int} (hs:aV h=some v) (q:r.2.length<=1048576) (p:ss.length<=1048576): ∃o,al (cr (h,r,ss,lg)) aW 0=some o/\al (cY (h,r,ss,lg) v) aW 0=some o/\(o= .ret false\/ ∃s,o= .brk s):=by
 have d:cr (h,r,ss,lg) (ss.length:Int)=some (.brk (ss.length:Int)):=by
  unfold cr;simp only[];rw[bS];rfl
 have j:cY (h,r,ss,lg) v (ss.length:Int)=some (.brk (ss.length:Int)):=by
  unfold cY;simp only[];rw[bS];rfl
 obtain ⟨o,e,u⟩:=b8 (f:=cr (h,r,ss,lg)) (fun i s=>s=(i:Int)) (fun o=>o= .ret false\/ ∃s,o= .brk s) ss.length (fun i s t m=>by
  subst m;by_cases l:i<ss.length
  ·rcases (LG (lg:=lg) hs q p l).2 with k | k
   ·exact .inl ⟨l,_,k,rfl⟩
   ·exact .inr ⟨_,k,fun n h=>(by simp at h),.inl rfl⟩
  ·obtain rfl:i=ss.length:=by omega
   exact .inr ⟨_,d,fun n h=>(by simp at h),.inr ⟨_,rfl⟩⟩) (s:=(0:Int)) rfl (de _ (by omega))
 refine ⟨o,e,?_,u⟩;rw[<-e];refine vz (f:=cr (h,r,ss,lg)) (g:=cY (h,r,ss,lg) v) (fun i s=>s=(i:Int)/\i<=ss.length) (fun i s m=>?_) aW 0 0 ⟨rfl,Nat.zero_le _⟩;obtain ⟨rfl,t⟩:=m;by_cases l:i<ss.length
 ·obtain ⟨a,b⟩:=LG (lg:=lg) hs q p l;refine ⟨a,fun n c=>?_⟩;rcases b with b | b
  ·rw[b] at c;obtain rfl:=ae c |> Out.nxt.inj;exact ⟨rfl,l⟩
  ·rw[b] at c;simp at c
 ·obtain rfl:i=ss.length:=by omega
  exact ⟨by rw[d,j],fun n c=>by rw[d] at c;simp at c⟩
structure EngOk (e:EngT):Prop where
 hs:m_s_IsValidHistory e.1=some true
 hi:m_i_IsValidHistory e.1=some true
 hb:(1<=e.1.2.length/\e.1.2.length<=8)/\1<=e.1.1/\e.1.1<=1000 - (e.1.2.length:Int)
 reg:RegOk e.2.1
 sub:e.2.2.1.length<=4
 log:e.2.2.2.size<=4000
 sc: ∃(r:List Int) (q:List (List ChT)) (n:Nat),m_s_ScanLog e.2.2.2=some (r,q,(n:Int))/\m_i_ScanLog e.2.2.2=some (r,q,(n:Int))/\r.length<=4000/\ScOk r q/\totL r q r.length<=4000/\(r.length=0\/nth r ((r.length:Int) - 1)=latV e.1)
theorem yO (e:EngT) (M:Data.sm e): ∃b,bW e=some b/\aN e=some b/\(b=true->EngOk e):=by
 obtain ⟨h,r,ss,lg⟩:=e;obtain ⟨F,z,v,d⟩:=M;obtain ⟨H,k,m,u⟩:=n9 h F;obtain ⟨L,G,J,A⟩:=kG z;have d:lg.size<=1048576:=d;obtain ⟨l,rfl⟩:=If lg;have f:(mkB l).size=l.length:=bE l;have P:l.length<=1048576:=by rw[<-f];exact d
 unfold bW aN rZ vc;simp only[gJ,k,m,G,J,aa,f];cases H with
 | false=>exact ⟨false,rfl,rfl,fun c=>by cases c⟩
 | true =>
  cases L with
  | false=>exact ⟨false,rfl,rfl,fun c=>by cases c⟩
  | true =>
   obtain ⟨y,I⟩:=pR k m (u rfl);obtain ⟨o,N,K,p⟩:=Ul (h:=h) (r:=r) (ss:=ss) (lg:=mkB l) y (aQ z.2).1 (aQ v).1;obtain ⟨a,E,n,t,w,O,x,D,Q⟩:=uN l (by omega);simp only[if_true,y,I,t,w,aa,N,K];by_cases B:(ss.length:Int)<=4
   ·rw[if_neg (show¬decide ((ss.length:Int)>4)=true by rw[decide_eq_true_eq];omega),decide_eq_true B];by_cases C:(l.length:Int)<=4000
    ·rw[if_neg (show¬decide ((l.length:Int)>4000)=true by rw[decide_eq_true_eq];omega)];rcases p with rfl | ⟨s,rfl⟩
     ·exact ⟨false,rfl,rfl,fun c=>by cases c⟩
     ·simp only[aO,if_true,aa];by_cases g:((n:Int)==(l.length:Int))=true
      ·simp only[if_pos g,if_pos (decide_eq_true C)];by_cases j:((a.length:Int)==0)=true
       ·simp only[if_pos j,aa];exact ⟨true,rfl,rfl,fun _=>⟨k,m,u rfl,A rfl,by show ss.length<=4;omega,by show (mkB l).size<=4000;omega,a,E,n,t,w,x,D,by omega,.inl (by have:=eq_of_beq j;omega)⟩⟩
       ·have hp:0<a.length:=by
         rcases Nat.eq_zero_or_pos a.length with q | q
         ·exact absurd (by rw[q];rfl) j
         ·exact q
        simp only[if_neg j,j7 (show a.length<=9223372036854775807 by omega),aA (xs:=a) (i:=(a.length:Int) - 1) (by omega) (by omega),aa];refine ⟨_,rfl,rfl,fun c=>⟨k,m,u rfl,A rfl,by show ss.length<=4;omega,by show (mkB l).size<=4000;omega,a,E,n,t,w,x,D,by omega,.inr (eq_of_beq c)⟩⟩
      ·simp only[if_neg g,aa];exact ⟨false,rfl,rfl,fun c=>by cases c⟩
    ·rw[if_pos (decide_eq_true (show (l.length:Int)>4000 by omega))];rcases p with rfl | ⟨s,rfl⟩
     ·exact ⟨false,rfl,rfl,fun c=>by cases c⟩
     ·simp only[aO,if_true,aa];by_cases g:((n:Int)==(l.length:Int))=true
      ·simp only[if_pos g,if_neg (show¬decide ((l.length:Int)<=4000)=true by rw[decide_eq_true_eq];exact C),aa];exact ⟨false,rfl,rfl,fun c=>by cases c⟩
      ·simp only[if_neg g,aa];exact ⟨false,rfl,rfl,fun c=>by cases c⟩
   ·rw[if_pos (decide_eq_true (show (ss.length:Int)>4 by omega)),decide_eq_false B];rcases p with rfl | ⟨s,rfl⟩
    ·exact ⟨false,rfl,rfl,fun c=>by cases c⟩
    ·exact ⟨false,rfl,rfl,fun c=>by cases c⟩
def SubP (r:oV) (L:Int) (ss:List rK) (i:Nat):Prop:=(1<=(nth ss (i:Int)).1/\(nth ss (i:Int)).1<=99)/\(0<i->(nth ss ((i:Int) - 1)).1<(nth ss (i:Int)).1)/\(∃q∈r.2,q.1=(nth ss (i:Int)).2.1)/\0<=(nth ss (i:Int)).2.2/\(nth ss (i:Int)).2.2<=L
theorem Q4 (r:oV) (id:Int) (b:r.2.length<=1048576): ∃k,aS r id=some k/\(k<0↔ ¬ ∃q∈r.2,q.1=id):=by
 rcases Vu r id b with ⟨e,h⟩ | ⟨i,f,e,h⟩
 ·exact ⟨_,e,fun _ ⟨q,d,a⟩=>h q d a,fun _=>by decide⟩
 ·exact ⟨_,e,fun c=>by omega,fun c=>absurd ⟨_,List.getElem_mem f,h⟩ c⟩
open Classical in
theorem Q5 {h:vJ} {r:oV} {ss:List rK} (lg:ByteArray) {L:Int} (hs:aV h=some L) (o:r.2.length<=1048576) (p:ss.length<=1048576) {i:Nat} (h1:i<ss.length):cr (h,r,ss,lg) (i:Int)=some (if SubP r L ss i then .nxt ((i+1:Nat):Int) else .ret false):=by
 obtain ⟨k,m,e⟩:=Q4 r (nth ss (i:Int)).2.1 o;have n:aU ss (i:Int)=some (nth ss (i:Int)):=aA (by omega) (by omega);have j:i64.wrap ((i:Int)+1)=((i+1:Nat):Int):=af (by omega);have tail: ∀c:(1<=(nth ss (i:Int)).1/\(nth ss (i:Int)).1<=99)/\(0<i->(nth ss ((i:Int) - 1)).1<(nth ss (i:Int)).1),(if decide (k<0)=true then some (Out.ret false) else ((some (decide (0<=(nth ss (i:Int)).2.2/\(nth ss (i:Int)).2.2<=L))).bind fun x=>if x=true then some (Out.nxt ((i+1:Nat):Int)) else some (Out.ret false)):Option (Out Bool Int))=some (if SubP r L ss i then .nxt ((i+1:Nat):Int) else .ret false):=by
  intro c;by_cases b:k<0
  ·rw[if_pos (decide_eq_true b),if_neg (fun hp=>e.1 b hp.2.2.1)]
  ·rw[if_neg (by simpa using b)];by_cases d:0<=(nth ss (i:Int)).2.2/\(nth ss (i:Int)).2.2<=L
   ·simp only[decide_eq_true d,aa,if_true];rw[if_pos ⟨c.1,c.2,Classical.not_not.1 (mt e.2 b),d⟩]
   ·simp only[decide_eq_false d,aa,Bool.false_eq_true,if_false];rw[if_neg (fun hp=>d hp.2.2.2)]
 unfold cr;simp only[gJ,bT h1,if_true,n,aa,AO,m,hs,j];by_cases a:1<=(nth ss (i:Int)).1/\(nth ss (i:Int)).1<=99
 ·simp only[decide_eq_true a,if_true];by_cases f:(i:Int)>0
  ·have l:aU ss (i64.wrap ((i:Int) - 1))=some (nth ss ((i:Int) - 1)):=by
    rw[j7 (by omega),aA (by omega) (by omega)]
   simp only[decide_eq_true f,if_true,l,aa];by_cases g:(nth ss ((i:Int) - 1)).1≥(nth ss (i:Int)).1
   ·simp only[decide_eq_true g,if_true];rw[if_neg (fun hp=>by have:=hp.2.1 (by omega);omega)]
   ·simp only[decide_eq_false g,Bool.false_eq_true,if_false];exact tail ⟨a,fun _=>by omega⟩
  ·simp only[decide_eq_false f,Bool.false_eq_true,if_false];exact tail ⟨a,fun h=>absurd h (by omega)⟩
 ·simp only[decide_eq_false a,Bool.false_eq_true,if_false];rw[if_neg (fun hp=>a hp.1)]
structure EV (e:EngT):Prop where
 his:m_s_IsValidHistory e.1=some true
 reg:m_s_IsValidRegistry e.2.1=some true
 len:e.2.2.1.length<=4
 sub: ∀i,i<e.2.2.1.length->SubP e.2.1 (latV e.1) e.2.2.1 i
 log: ∃r q,m_s_ScanLog e.2.2.2=some (r,q,(e.2.2.2.size:Int))/\e.2.2.2.size<=4000/\(r.length=0\/nth r ((r.length:Int) - 1)=latV e.1)
open Classical in
theorem C1 (e:EngT) (Q:Data.sm e): ∃b,bW e=some b/\(b=true↔EV e):=by
 obtain ⟨h,r,j,d⟩:=e;obtain ⟨H,C,z,o⟩:=Q;obtain ⟨J,m,A,M⟩:=n9 h H;obtain ⟨N,t,U,W⟩:=kG C;have o:d.size<=1048576:=o;obtain ⟨l,p⟩:=If d;have O:d.size=l.length:=by rw[p];exact bE l
 unfold bW rZ vc;simp only[gJ,m,t,aa];cases J with
 | false=>exact ⟨false,rfl,fun c=>(by cases c),fun V=>by have:=V.his;rw[m] at this;cases this⟩
 | true =>
  cases N with
  | false=>exact ⟨false,rfl,fun c=>(by cases c),fun V=>by have:=V.reg;rw[t] at this;cases this⟩
  | true =>
   obtain ⟨B,-⟩:=pR m A (M rfl);have K:j.length<=1048576:=(aQ z).1;have L:=TM (f:=cr (h,r,j,d)) j.length (SubP r (latV h) j) false (by omega) (fun i P=>Q5 d B (aQ C.2).1 K P) (by
    unfold cr;simp only[];rw[bS];rfl)
   obtain ⟨g,G,n,k,-,T,S,X,Y⟩:=uN l (by omega);rw[<-p] at k;simp only[if_true,B,k,aa];rcases L with ⟨y,x⟩ | ⟨y,x⟩
   ·rw[ah y];simp only[aa];by_cases E:(j.length:Int)<=4
    ·rw[if_pos (decide_eq_true E)];by_cases w:((n:Int)==(d.size:Int))=true
     ·have s:n=d.size:=by have:=eq_of_beq w;omega
      rw[if_pos w];by_cases F:(d.size:Int)<=4000
      ·rw[if_pos (decide_eq_true F)];by_cases u:((g.length:Int)==0)=true
       ·rw[if_pos u];exact ⟨true,rfl,fun _=>⟨m,t,(by show j.length<=4;omega),x,g,G,(by rw[<-s];exact k),(by show d.size<=4000;omega),.inl (by have:=eq_of_beq u;omega)⟩,fun _=>rfl⟩
       ·have hp:0<g.length:=by
         rcases Nat.eq_zero_or_pos g.length with q | q
         ·exact absurd (by rw[q];rfl) u
         ·exact q
        rw[if_neg u,j7 (show g.length<=9223372036854775807 by omega),aA (xs:=g) (i:=(g.length:Int) - 1) (by omega) (by omega)];simp only[aa];refine ⟨_,rfl,fun c=>⟨m,t,(by show j.length<=4;omega),x,g,G,(by rw[<-s];exact k),(by show d.size<=4000;omega),.inr (eq_of_beq c)⟩,fun V=>?_⟩;obtain ⟨R,I,a,-,v⟩:=V.log;have a:m_s_ScanLog d=_:=a;rw[k] at a;have a:=ae a;simp only[Prod.mk.injEq] at a;obtain ⟨rfl,-,-⟩:=a;rcases v with v | v
        ·omega
        ·exact beq_iff_eq.2 v
      ·rw[if_neg (by simpa using F)];exact ⟨false,rfl,fun c=>(by cases c),fun V=>by
        obtain ⟨-,-,-,D,-⟩:=V.log;have D:d.size<=4000:=D;omega⟩
     ·rw[if_neg w];exact ⟨false,rfl,fun c=>(by cases c),fun V=>by
       obtain ⟨R,I,a,-,-⟩:=V.log;have a:m_s_ScanLog d=_:=a;rw[k] at a;have a:=ae a;simp only[Prod.mk.injEq] at a;exact absurd (beq_iff_eq.2 a.2.2) w⟩
    ·rw[if_neg (by simpa using E)];exact ⟨false,rfl,fun c=>(by cases c),fun V=>by
      have:j.length<=4:=V.len
      omega⟩
   ·rw[bI y];exact ⟨false,rfl,fun c=>(by cases c),fun V=>absurd V.sub x⟩
theorem adz {e:EngT} (f:Data.sm e) (V:EV e):bW e=some true/\aN e=some true:=by
 obtain ⟨b,d,k⟩:=C1 e f;obtain ⟨c,a,g,-⟩:=yO e f;rw[d] at a;obtain rfl:=ae a;obtain rfl:=k.2 V;exact ⟨d,g⟩
theorem LH (h:vJ) (v:Data.sm h):m_s_IsValidHistory h=some true↔(∀g∈h.2,YP g/\g.1=(nth h.2 0).1)/\(1<=h.2.length/\h.2.length<=8)/\1<=h.1/\h.1<=1000 - (h.2.length:Int):=by
 obtain ⟨z,s⟩:=aQ v.2;have t:i64.wrap ((i64.wrap (999 - (h.2.length:Int)))+1)=1000 - (h.2.length:Int):=by
  rw[bQ (n:=999 - (h.2.length:Int)) (by omega) (by omega),bQ (by omega) (by omega)];omega
 have j: ∀g∈h.2,(okG h g↔YP g/\g.1=(nth h.2 0).1):=fun g d=>by
  have o:=s g d;obtain ⟨b,e,k⟩:=qw g (aQ o.1).1 (aQ o.2).1;unfold okG;rw[e];constructor
  ·rintro ⟨a,c⟩;exact ⟨k.1 (ae a),c⟩
  ·rintro ⟨a,c⟩;rw[k.2 a];exact ⟨rfl,c⟩
 have w:=scan (f:=bH h) h.2 (okG h) false (by omega) (fun i A=>by
  have d:=s _ (cZ (xs:=h.2) (i:=(i:Int)) (by omega) (by omega));obtain ⟨b,e⟩:=vA d;obtain ⟨r,u,q⟩:=zS (nth h.2 (i:Int)).1 (nth h.2 0).1 (aQ d.1).1;have x:aT ((nth h.2 (i:Int)).1,(nth h.2 (i:Int)).2)=some b:=by rw[mP];exact e
  have l:okG h (nth h.2 (i:Int))↔b=true/\(nth h.2 (i:Int)).1=(nth h.2 0).1:=by unfold okG;rw[e];simp
  unfold bH;rw[if_pos (by simp;omega),aA (by omega) (by omega)];simp only[aa];rw[x,aA (xs:=h.2) (i:=0) (by omega) (by omega)];simp only[aa];rw[u,af (by omega)];simp only[aa];cases b with
  | false=>rw[if_neg (by decide),if_neg (fun c=>by cases (l.1 c).1)]
  | true =>
   rw[if_pos rfl];by_cases c:r=0
   ·rw[if_neg (by simp[c]),if_pos (l.2 ⟨rfl,q.1 c⟩)]
   ·rw[if_pos (by simpa using c),if_neg (fun k=>c (q.2 (l.1 k).2))]) (by unfold bH;simp)
 unfold m_s_IsValidHistory;rw[AO,AO,t];simp only[aa];rcases w with ⟨m,k⟩ | ⟨m,k⟩
 ·rw[ah m];have y: ∀g∈h.2,YP g/\g.1=(nth h.2 0).1:=fun g d=>(j g d).1 (k g d);by_cases p:(1:Int)<=(h.2.length:Int)/\(h.2.length:Int)<=8
  ·rw[if_pos (decide_eq_true p)];simp only[Option.some.injEq,decide_eq_true_eq];exact ⟨fun c=>⟨y,by omega,c⟩,fun c=>c.2.2⟩
  ·rw[if_neg (by simpa using p)];exact ⟨fun c=>(by cases c),fun c=>absurd c.2.1 (by omega)⟩
 ·rw[bI m];exact ⟨fun c=>(by cases c),fun c=>absurd (fun g d=>(j g d).2 (c.1 g d)) k⟩
theorem Yx (h:vJ) (d:Data.sm h):lU h=some h:=by
 obtain ⟨g,c⟩:=aQ d.2;have e:=aY (f:=fv h) (fun i=>((i:Int),h.1,h.2.take i)) h.2.length (fun i a=>by
  have e:cy (h.2[i].1,h.2[i].2)=some h.2[i]:=qU h.2[i] (c _ (List.getElem_mem a));have b: ∀z:GrT,bA 48 (h.2.take i) [z] =some (h.2.take i++ [z]):=fun z=>aw (by rw[aq];simp only[ay,aD];omega);unfold fv;simp only[];rw[bT a,if_pos rfl,aK a];simp only[aa];rw[e];simp only[aa];rw[b,af (by omega),List.take_succ_eq_append_getElem a];rfl) (by
  unfold fv;simp only[];rw[bS];rfl) (de _ (by omega))
 rw[List.take_length] at e;have e:al (fv h) aW (0,h.1,[])=_:=e;unfold lU;rw[ah e]
theorem Yy (h:vJ) (d:Data.sm h):mC h=some h:=by
 obtain ⟨g,c⟩:=aQ d.2;have e:=aY (f:=gx h) (fun i=>((i:Int),h.1,h.2.take i)) h.2.length (fun i a=>by
  have e:kA (h.2[i].1,h.2[i].2)=some h.2[i]:=Qw h.2[i] (c _ (List.getElem_mem a));have b: ∀z:GrT,bA 48 (h.2.take i) [z] =some (h.2.take i++ [z]):=fun z=>aw (by rw[aq];simp only[ay,aD];omega);unfold gx;simp only[];rw[bT a,if_pos rfl,aK a];simp only[aa];rw[e];simp only[aa];rw[b,af (by omega),List.take_succ_eq_append_getElem a];rfl) (by
  unfold gx;simp only[];rw[bS];rfl) (de _ (by omega))
 rw[List.take_length] at e;have e:al (gx h) aW (0,h.1,[])=_:=e;unfold mC;rw[ah e]
theorem sH (e:EngT) (d:Data.sm e):iN e=some e:=by
 obtain ⟨b,c,a,g⟩:=d;have f:=(aQ a).1;unfold iN;simp only[gJ,Yx e.1 b,xg e.2.1 c,aa];rw[aw (by simp;omega)];rfl
theorem JR (e:EngT) (d:Data.sm e):jg e=some e:=by
 obtain ⟨b,c,a,g⟩:=d;have f:=(aQ a).1;unfold jg;simp only[gJ,Yy e.1 b,F6 e.2.1 c,aa];rw[aw (by simp;omega)];rfl
def Ni (v:Int) (r:List Int) (q:List (List ChT)):Nat->List UInt8
 | 0=>[]
 | i+1=>Ni v r q i++if nth r (i:Int)>v then recT (nth r (i:Int)) (nth q (i:Int)) else []
theorem Gl (v:Int) (r:List Int) (q:List (List ChT)): ∀i,(Ni v r q i).length<=totL r q i
 | 0=>aF _
 | i+1=>by
  have:=Gl v r q i
  rw[Ni,totL,az];split
  ·omega
  ·simp;omega
theorem Q6 (r:List Int) (q:List (List ChT)): ∀i,totL r q i<=1000*i
 | 0=>aF _
 | i+1=>by
  have:=Q6 r q i
  have:=(Ii (nth r (i:Int)) (nth q (i:Int))).2.2
  rw[totL];omega
theorem acv {v:Int} {r:List Int} {q:List (List ChT)} {n:Int} (h:q.length=r.length) (d:r.length<=4000):al (mz v (r,q,n)) aW ((⟨#[]⟩:ByteArray),0,q)=some (.brk (mkB (Ni v r q r.length),(r.length:Int),q)):=by
 refine aY (f:=mz v (r,q,n)) (fun i=>(mkB (Ni v r q i),(i:Int),q)) r.length (fun i b=>?_) ?_ (de _ (by omega))
 ·have a:=(Ii (nth r (i:Int)) (nth q (i:Int))).1;have j:=(Ii (nth r (i:Int)) (nth q (i:Int))).2.2;have e:=Gl v r q i;have g:=Q6 r q i;unfold mz;simp only[];rw[bT b,if_pos rfl,aA (xs:=r) (i:=(i:Int)) (by omega) (by omega)];simp only[aa];by_cases c:nth r (i:Int)>v
  ·rw[if_pos (decide_eq_true c),aA (xs:=q) (i:=(i:Int)) (by omega) (by omega)];simp only[aa];rw[a];simp only[aa];rw[C6 _ _ (by omega),af (by omega),Ni,if_pos c];rfl
  ·rw[if_neg (by simpa using c),af (by omega),Ni,if_neg c,List.append_nil];rfl
 ·unfold mz;simp only[];rw[bS];rfl
theorem LI {l:List rK} {d:rK->Bool} {f:rK->Option Bool} (c: ∀x,f x=some (d x)) (h:l.length<=1073741824) :
  (∃(i:Nat) (hi:i<l.length),d l[i] =true/\(∀j (g:j<i),d (l[j]'(by omega))=false)/\aP l f=some (i:Int))\/((∀x,x∈l->d x=false)/\aP l f=some (-1)):=by
 unfold aP;rcases xf (f:=bw l f) l d (fun i=>(i:Int)) (by omega) (fun i hi=>by
   unfold bw;rw[bT hi,if_pos rfl,aK hi];simp only[aa,gJ,c,af (show i<9223372036854775807 by omega)];split <;> rfl) (by
   unfold bw;rw[bS];rfl) with ⟨i,hi,a,b,e⟩ | ⟨a,e⟩
 ·exact .inl ⟨i,hi,a,b,bI e⟩
 ·exact .inr ⟨a,ah e⟩
theorem Yz {d:rK->Bool} {f:rK->Option Bool} (A: ∀x,f x=some (d x)) (xs:List rK) (E:xs.length<=1073741824):bD xs f=some (xs.filter fun x=> !d x):=by
 unfold bD;rcases LI (l:=xs) (d:=d) (f:=f) A E with ⟨r,G,u,B,e⟩ | ⟨u,e⟩
 ·rw[e];simp only[aa];have o:(((r:Nat):Int) == -1)=false:=beq_eq_false_iff_ne.2 (by omega);rw[o];simp only[Bool.false_eq_true,if_false];rw[af (by omega)];have c:(xs.take (r+1)).filter (fun x=> !d x)=xs.take r:=by
   rw[List.take_succ_eq_append_getElem G,List.filter_append];rw[show [xs[r]].filter (fun x=> !d x)= [] from by simp[u],List.append_nil,List.filter_eq_self];intro a v;obtain ⟨j,h,rfl⟩:=List.getElem_of_mem v;rw[aq] at h;rw[List.getElem_take,B j (by omega)];rfl
  obtain ⟨s,C,b,rfl,m,g,k,n⟩:=fO (f:=br f) (fun t s=> ∃b:List rK,s=((((xs.take (r+1+t)).filter (fun x=> !d x)).length:Int),((r+1+t:Nat):Int),b)/\b.length=xs.length/\b.take ((xs.take (r+1+t)).filter (fun x=> !d x)).length=(xs.take (r+1+t)).filter (fun x=> !d x)/\b.drop (r+1+t)=xs.drop (r+1+t)/\((xs.take (r+1+t)).filter (fun x=> !d x)).length<=r+t) (xs.length - (r+1)) (fun t s I q=>by
   obtain ⟨b,rfl,m,g,k,n⟩:=q;have h:r+1+t<xs.length:=by omega
   unfold br;rw[show ((b.length:Nat):Int)=(xs.length:Int) from by rw[m],bT h,if_pos rfl,aK (xs:=b) (by omega),T5 k (aF _) (by omega) h];simp only[aa,gJ,A];have p:(xs.take (r+1+(t+1))).filter (fun x=> !d x)=(xs.take (r+1+t)).filter (fun x=> !d x)++ [xs[r+1+t]].filter (fun x=> !d x):=by
    rw[<-List.filter_append,<-List.take_succ_eq_append_getElem h];rfl
   generalize (xs.take (r+1+t)).filter (fun x=> !d x)=K at *;rw[p];cases w:d xs[r+1+t] with
   | true =>
    rw[if_pos rfl];simp only[aa];rw[af (by omega),show [xs[r+1+t]].filter (fun x=> !d x)= [] from by simp[w],List.append_nil];exact ⟨_,rfl,b,rfl,m,g,Ia k,by omega⟩
   | false =>
    rw[if_neg (by simp),aK (xs:=b) (by omega)];simp only[aa];rw[af (by omega),af (by omega),show [xs[r+1+t]].filter (fun x=> !d x)= [xs[r+1+t]] from by simp[w]];refine ⟨_,rfl,b.set K.length xs[r+1+t],?_,by simpa using m,?_,?_,?_⟩
    ·rw[az,List.length_singleton];rfl
    ·rw[az,List.length_singleton,T4 (by omega),g]
    ·rw[set_drop (by omega)];exact Ia k
    ·rw[az,List.length_singleton];omega) (fun s q=>by
   obtain ⟨b,rfl,m,g,k,n⟩:=q;unfold br;rw[if_neg (by simp;omega)]) (s:=(((r:Nat):Int),((r+1:Nat):Int),xs)) ⟨xs,by rw[Nat.add_zero,c,aq,Nat.min_eq_left (by omega)],rfl,by rw[Nat.add_zero,c,aq,Nat.min_eq_left (by omega)],rfl,by rw[Nat.add_zero,c,aq];omega⟩ (de _ (by omega))
  rw[ah C];have i:xs.take (r+1+(xs.length - (r+1)))=xs:=List.take_of_length_le (by omega);rw[i] at g n⊢;generalize (xs.filter fun x=> !d x)=K at *;have y:K.length<=b.length:=by omega
  have F:((0:Int)+((K.length:Nat):Int)).toNat=K.length:=by omega
  have D:((0:Int)+(((b.length:Nat):Int) - 0)).toNat=b.length:=by omega
  simp only[F,D];have H:=QG (z:=((0,0,0):rK)) y;rw[Yk (by omega),aa,Yk (by omega),aa,Yk (by rw[H];omega),aa,M9 y,g,List.drop_zero]
 ·rw[e];simp only[aa];rw[if_pos (by rfl)];congr 1;exact (List.filter_eq_self.2 fun a v=>by rw[u a v];rfl).symm
theorem Q7 (e:EngT) (a:Data.sm e) (id:Int) (x:List Tok) (d:Data.sm x): ∃y:EngT×Bool,c7 e id x=some y/\jx e id x=some y/\Data.sm y.1:=by
 obtain ⟨b,f,h,-⟩:=yO e a;have ⟨r,j,i,g,k⟩:=M6 a.2.1 id d;unfold c7 jx;simp only[gJ,sH e a,JR e a,f,h,j,i,aa];cases b with
 | false=>grind
 | true =>
  have ⟨r,c⟩:=r;cases c with
  | true=>exact ⟨_,rfl,rfl,a.1,g,a.2.2.1,a.2.2.2⟩
  | false =>
   grind
def Um (id:Int) (u:rK):Bool:= !(u.2.1==id)
theorem Q8 {l:List rK} {p:rK->Bool} {i:Nat} (h:i<l.length):(l.take (i+1)).filter p=(l.take i).filter p++if p l[i] =true then [l[i]] else []:=by
 rw[List.take_succ_eq_append_getElem h,List.filter_append];grind
theorem LJ (e:EngT) (id:Int) (h:e.2.2.1.length<=1048576) (f:Int) (g:List GrT) (a:List AutT) (q:List QT) (lg:ByteArray):al (dM e id) aW (0,f,g,a,q,[],lg)=some (.brk ((e.2.2.1.length:Int),f,g,a,q,e.2.2.1.filter (Um id),lg)):=by
 have k:=aY (f:=dM e id) (fun i=>((i:Int),f,g,a,q,(e.2.2.1.take i).filter (Um id),lg)) e.2.2.1.length (fun i b=>by
  have d:=List.length_filter_le (Um id) (e.2.2.1.take i);rw[aq] at d;unfold dM;rw[bT b,if_pos rfl,aK b,Q8 b];simp only[aa];by_cases c:e.2.2.1[i].2.1=id
  ·rw[if_neg (by simp[c]),if_neg (by simp[Um,c])];simp only[aa];rw[af (by omega),List.append_nil]
  ·rw[if_pos (by grind),if_pos (by simpa [Um] using c)];rw[aw (by simp[ay,aD];omega)];simp only[aa,gJ];rw[af (by omega)]) (by
  simp_all[dM,bS]) (de _ (by omega))
 grind
theorem JS (e:EngT) (a:Data.sm e) (id:Int): ∃y:EngT×Bool,dP e id=some y/\gR e id=some y/\Data.sm y.1:=by
 obtain ⟨b,h,j,-⟩:=yO e a;have ⟨r,m,l,i⟩:=M7 a.2.1 id;have n:=(aQ a.2.2.1).1;have o:=Yz (d:=fun u:rK=>u.2.1==id) (f:=fun u=>jk u id) (fun u=>rfl) e.2.2.1 (by omega);unfold dP gR;simp only[gJ,sH e a,JR e a,h,j,m,l,aa];cases b with
 | false=>grind
 | true =>
  by_cases c:r.2=true
  ·have k:=LJ e id n e.1.1 e.1.2 r.1.1 r.1.2 e.2.2.2;simp only[if_pos c,k,o,aO,aa,gJ];refine ⟨_,rfl,rfl,a.1,i,⟨?_,fun x g=>(aQ a.2.2.1).2 x (List.mem_filter.1 g).1⟩,a.2.2.2⟩;grind
  simp_all
theorem Q9 (l:List rK) (id:Int) (e:l.length<=1048576): ∃k:Int,lI l id=some k/\aP l (fun a=>lz a id)=some k:=by
 have c:=xf (f:=gG l id) l (fun u=>u.1==id) (fun i=>(i:Int)) (by omega) (fun i b=>by
  unfold gG;rw[bT b,if_pos rfl,aK b];simp[aa,af (show i<9223372036854775807 by omega)];split <;> rfl) (by
  simp_all[gG,bS])
 have b:=LI (l:=l) (d:=fun u=>u.1==id) (f:=fun a=>lz a id) (fun u=>rfl) (by omega);grind[lI,Nat.lt_trichotomy,bI,List.getElem_mem,ah]
theorem Ra (e:EngT) (a:Data.sm e) (id query:Int): ∃y:EngT×Bool,cP e id query=some y/\iP e id query=some y/\Data.sm y.1:=by
 have ⟨b,g,C,l⟩:=yO e a;have D:=(aQ a.2.2.1).1;have ⟨k,A,w⟩:=Q9 e.2.2.1 id D;obtain ⟨j,u,h,-⟩:=oc e.2.1 query (aQ a.2.1.2).1;unfold cP iP qL;simp only[gJ,sH e a,JR e a,g,C,A,w,u,h,AO,Il,aa];cases b with
 | false=>grind
 | true =>
  have K:=(l rfl).sub;by_cases x:decide (1<=id/\id<=99)=true
  ·by_cases z:decide (k≥0)=true
   ·simp_all
   ·by_cases I:decide (j<0)=true
    ·simp_all
    ·by_cases p:((e.2.2.1.length:Int)==4)=true
     ·simp_all
     ·simp only[if_pos x,if_neg z,if_neg I,if_neg p];have v: ∃i:Nat,i<=e.2.2.1.length/\al (cF e id) aW 0=some (.brk (i:Int)):=by
       obtain ⟨o,m,i,c,rfl⟩:=b8 (f:=cF e id) (fun i s=>s=(i:Int)) (fun o=> ∃i:Nat,i<=e.2.2.1.length/\o= .brk (i:Int)) e.2.2.1.length (fun i s c B=>by
        subst B;unfold cF;by_cases d:i<e.2.2.1.length
        ·simp[bT d,if_true,aK d,aa,af (show i<9223372036854775807 by omega)];grind
        grind) (s:=0) rfl (de _ (by omega))
       exact ⟨i,c,m⟩
      have ⟨i,c,n⟩:=v;have t:al (mQ id e) aW 0=some (.brk (i:Int)):=by
       congr 1
      simp only[n,t,aO];have r:Data.sm ((id,query,(0:Int)):rK):=⟨trivial,trivial,trivial⟩;have J:=CX (y:=((id,query,(0:Int)):rK)) a.2.2.1 r i (by omega);have E:(chk (0<=(i:Int)/\(i:Int)<=(e.2.2.1.length:Int)))=some ():=if_pos (by omega);have F:bA 24 ([] :List rK) (e.2.2.1.take i)=some (e.2.2.1.take i):=by rw[aw (by grind)];rfl
      have G:bA 24 (e.2.2.1.take i) [((id,query,(0:Int)):rK)] =some (e.2.2.1.take i++ [(id,query,0)]):=aw (by grind);have q:bA 24 (e.2.2.1.take i++ [((id,query,(0:Int)):rK)]) (e.2.2.1.drop i)=some (e.2.2.1.take i++([(id,query,0)] ++e.2.2.1.drop i)):=by
       grind[aw,az,aq,a7,ay,aD,aC]
      have H:bO e.2.2.1 (i:Int) [((id,query,(0:Int)):rK)] =some (e.2.2.1.take i++([(id,query,0)] ++e.2.2.1.drop i),[(id,query,0)]):=by
       unfold bO R.Rm
       have:(chk (0<=(i:Int)/\(i:Int)<=(e.2.2.1.length:Int)/\ [((id,query,(0:Int)):rK)].length=1/\1<=24/\(e.2.2.1.length+1)*24<=140737488355328))=some ():=if_pos ⟨by omega,by omega,rfl,by omega,by omega⟩
       rw[this];rfl
      simp only[E,aa,Int.toNat_natCast,F,G,q,H];exact ⟨_,rfl,rfl,a.1,a.2.1,J,a.2.2.2⟩
  simp_all[if_neg]
def ac6 (r:oV) (L:Int) (s:rK):Prop:=(1<=s.1/\s.1<=99)/\(∃q∈r.2,q.1=s.2.1)/\0<=s.2.2/\s.2.2<=L
def ac7 (ss:List rK):Prop:=ss.Pairwise fun a b=>a.1<b.1
theorem VJ {r:oV} {L:Int} {ss:List rK} (h: ∀i,i<ss.length->SubP r L ss i):ac7 ss/\ ∀s∈ss,ac6 r L s:=by
 constructor
 ·have key: ∀j (b:j<ss.length) i (a:i<j),(ss[i]'(by omega)).1<ss[j].1:=by
   intro j;induction j with
   | zero=>intro _ i a;omega
   | succ j ih =>
    intro b i a;have e:=(h (j+1) b).2.1 (by omega);rw[show (((j+1:Nat):Int) - 1)=((j:Nat):Int) by omega,cB (show j<ss.length by omega),cB b] at e;by_cases c:i=j
    ·subst c;exact e
    ·have:=ih (by omega) i (by omega);omega
  exact List.pairwise_iff_getElem.2 fun i j a b d=>key j b i d
 ·intro s f;obtain ⟨i,a,rfl⟩:=List.getElem_of_mem f
  have:=h i a
  unfold SubP at this;rw[cB a] at this;exact ⟨this.1,this.2.2⟩
theorem VK {r:oV} {L:Int} {ss:List rK} (h1:ac7 ss) (d: ∀s∈ss,ac6 r L s): ∀i,i<ss.length->SubP r L ss i:=fun i c=>by
 obtain ⟨a,b⟩:=d _ (List.getElem_mem c);unfold SubP;rw[cB c];refine ⟨a,fun e=>?_,b⟩;rw[show ((i:Int) - 1)=((i - 1:Nat):Int) by omega,cB (show i - 1<ss.length by omega)];exact List.pairwise_iff_getElem.1 h1 (i - 1) i (by omega) c (by omega)
theorem Rb (e:EngT) (a:Data.sm e) (id:Int) (x:List Tok) (o:Data.sm x): ∃y:EngT×Bool,c7 e id x=some y/\Data.sm y.1/\(y.1.1=e.1/\y.1.2.2.2=e.2.2.2)/\(y.2=true->EV y.1):=by
 obtain ⟨b,s,t⟩:=C1 e a;obtain ⟨r,D,m,B,J⟩:=QF a.2.1 id o;unfold c7;simp only[gJ,sH e a,s,D,aa];cases b with
 | false=>exact ⟨(e,false),rfl,a,⟨rfl,rfl⟩,fun h=>by cases h⟩
 | true =>
  have V:=t.1 rfl;simp only[if_true];obtain ⟨r,c⟩:=r;cases c with
  | false=>exact ⟨(e,false),rfl,a,⟨rfl,rfl⟩,fun h=>by cases h⟩
  | true =>
   obtain ⟨w,i,K,v⟩:=B rfl;have I:=(F5 a.2.1.2 w).1;have g:=CX (y:=((id,x,(0:Int)):QT)) a.2.1.2 ⟨trivial,o,trivial⟩ i (by omega);obtain ⟨z,L,C⟩:=F7 g v;refine ⟨_,rfl,⟨a.1,m,a.2.2.1,a.2.2.2⟩,⟨rfl,rfl⟩,fun _=>⟨V.his,(pS m).2 C,V.len,fun j p=>?_,V.log⟩⟩;obtain ⟨F,G,⟨q,d,k⟩,H⟩:=V.sub j p;refine ⟨F,G,?_,H⟩;have A:q∈e.2.1.2.take i++([((id,x,(0:Int)):QT)] ++e.2.1.2.drop i):=by
    rw[<-List.take_append_drop i e.2.1.2] at d;rcases aG d with d | d
    ·exact bj _ d
    ·exact bp _ (bp _ d)
   have n:=List.mem_map_of_mem (f:=prQ) A;rw[<-z] at n;obtain ⟨u,l,E⟩:=List.mem_map.1 n;exact ⟨u,l,(congrArg Prod.fst E).trans k⟩
theorem YA {r:oV} (a:Data.sm r) (id:Int): ∃x:oV×Bool,eE r id=some x/\Data.sm x.1/\(x.2=true-> ∃(i:Nat) (hi:i<r.2.length),r.2[i].1=id/\bR (r.2.take i++r.2.drop (i+1))=some (x.1,true)):=by
 obtain ⟨m,A⟩:=aQ a.2;obtain ⟨b,g,n,hv⟩:=kG a;unfold eE;rcases Vu r id m with ⟨d,-⟩ | ⟨i,hi,d,f⟩
 ·refine ⟨(r,false),?_,a,fun h=>by cases h⟩;simp only[d,g,aa,gJ,xg r a];cases b <;> rfl
 ·simp only[d,g,aa,gJ,xg r a];have j:decide ((i:Int)<0)=false:=by simp
  cases b with
  | false=>exact ⟨(r,false),by simp,a,fun h=>by cases h⟩
  | true =>
   have w:=uI a n;have l:i64.wrap ((i:Int)+1)=((i+1:Nat):Int):=af (by omega);have v:=QE a.2 i (i+1) (by omega);have y:(r.2.take i++r.2.drop (i+1)).length<=3:=by simp only[az,aq,a7];omega
   obtain ⟨x,c,e,z,s⟩:=qx v;have k: ¬((r.2.take i++r.2.drop (i+1)).length:Int)>4:=by omega
   rw[if_neg k] at e;have p:(chk (0<=(i:Int)/\(i:Int)<=(r.2.length:Int)))=some ():=if_pos (by omega);have o:(chk (0<=((i+1:Nat):Int)/\((i+1:Nat):Int)<=(r.2.length:Int)))=some ():=if_pos (by omega);have q:bA 40 ([] :List QT) (r.2.take i)=some (r.2.take i):=by rw[aw (by simp only[aD,aq];omega)];rfl
   have u:bA 40 (r.2.take i) (r.2.drop (i+1))=some (r.2.take i++r.2.drop (i+1)):=aw (by simp only[aq,a7];omega);simp only[if_true,j,Bool.false_eq_true,if_false,l,p,o,aa,Int.toNat_natCast,q,u,e];exact ⟨_,rfl,s.1,fun t=>⟨i,hi,f,by rw[e];exact congrArg some (Prod.ext rfl t)⟩⟩
theorem aaS (e:EngT) (a:Data.sm e) (id:Int): ∃y:EngT×Bool,dP e id=some y/\Data.sm y.1/\(y.2=true->EV y.1):=by
 obtain ⟨b,z,A⟩:=C1 e a;obtain ⟨r,J,u,G⟩:=YA a.2.1 id;have I:=(aQ a.2.2.1).1;unfold dP;simp only[gJ,sH e a,z,J,aa];cases b with
 | false=>exact ⟨(e,false),rfl,a,fun h=>by cases h⟩
 | true =>
  have V:=A.1 rfl;simp only[if_true];by_cases c:r.2=true
  ·have k:=LJ e id I e.1.1 e.1.2 r.1.1 r.1.2 e.2.2.2;obtain ⟨i,R,n,D⟩:=G c;have t:=QE a.2.1.2 i (i+1) (by omega);obtain ⟨E,S,H⟩:=F7 t D;simp only[if_pos c,k,aO,aa,gJ];have P:=List.length_filter_le (Um id) e.2.2.1;obtain ⟨w,K⟩:=VJ V.sub;refine ⟨_,rfl,⟨a.1,u,⟨?_,fun x N=>(aQ a.2.2.1).2 x (List.mem_filter.1 N).1⟩,a.2.2.2⟩,fun _=>⟨V.his,(pS u).2 H,?_,VK (w.sublist List.filter_sublist) fun s t=>?_,V.log⟩⟩
   ·show (e.2.2.1.filter (Um id)).length<=1048576;omega
   ·have:=V.len
    show (e.2.2.1.filter (Um id)).length<=4;omega
   ·obtain ⟨o,l⟩:=List.mem_filter.1 t;obtain ⟨M,⟨q,O,d⟩,C⟩:=K s o;refine ⟨M,?_,C⟩;have g:s.2.1≠id:=by simpa [Um] using l
    have F:q∈e.2.1.2.take i++e.2.1.2.drop (i+1):=by
     obtain ⟨j,Q,rfl⟩:=List.getElem_of_mem O;rcases Nat.lt_trichotomy j i with m | m | m
     ·exact bj _ (List.mem_take_iff_getElem.2 ⟨j,by omega,rfl⟩)
     ·subst m;exact absurd (d.symm.trans n) g
     ·exact bp _ (List.mem_drop_iff_getElem.2 ⟨j - (i+1),by omega,by congr 1;omega⟩)
    have v:=List.mem_map_of_mem (f:=prQ) F;rw[<-E] at v;obtain ⟨B,p,L⟩:=List.mem_map.1 v;exact ⟨B,p,(congrArg Prod.fst L).trans d⟩
  ·simp only[if_neg c];exact ⟨(e,false),rfl,a,fun h=>by cases h⟩
theorem VL (l:List rK) (id:Int) (j:l.length<=1048576): ∃k:Int,lI l id=some k/\(k<0-> ∀s∈l,s.1≠id)/\(0<=k->k<(l.length:Int)):=by
 have a:=xf (f:=gG l id) l (fun u=>u.1==id) (fun i=>(i:Int)) (by omega) (fun i e=>by
  unfold gG;rw[bT e,if_pos rfl,aK e];simp only[aa,af (show i<9223372036854775807 by omega)];split <;> rfl) (by
  unfold gG;rw[bS];rfl)
 unfold lI;rcases a with ⟨i,g,d,h,b⟩ | ⟨d,b⟩
 ·exact ⟨_,bI b,fun c=>by omega,fun _=>by omega⟩
 ·exact ⟨_,ah b,fun _ s a=>by simpa using d s a,fun c=>absurd c (by decide)⟩
theorem Rc (e:EngT) (c:Data.sm e) (id query:Int): ∃y:EngT×Bool,cP e id query=some y/\Data.sm y.1/\(y.1.1=e.1/\y.1.2.2.2=e.2.2.2)/\(y.2=true->EV y.1/\ ∃q∈y.1.2.1.2,q.1=query):=by
 obtain ⟨b,J,L⟩:=C1 e c;have X:=(aQ c.2.2.1).1;obtain ⟨k,W,U,-⟩:=VL e.2.2.1 id X;obtain ⟨j,S,K⟩:=Q4 e.2.1 query (aQ c.2.1.2).1;unfold cP;simp only[gJ,sH e c,J,W,S,AO,aa];cases b with
 | false=>exact ⟨(e,false),rfl,c,⟨rfl,rfl⟩,fun h=>by cases h⟩
 | true =>
  have V:=L.1 rfl;have h4:=V.len;simp only[if_true];by_cases p:decide (1<=id/\id<=99)=true
  ·by_cases v:decide (k≥0)=true
   ·simp only[if_pos p,if_pos v];exact ⟨(e,false),rfl,c,⟨rfl,rfl⟩,fun h=>by cases h⟩
   ·by_cases A:decide (j<0)=true
    ·simp only[if_pos p,if_neg v,if_pos A];exact ⟨(e,false),rfl,c,⟨rfl,rfl⟩,fun h=>by cases h⟩
    ·by_cases D:((e.2.2.1.length:Int)==4)=true
     ·simp only[if_pos p,if_neg v,if_neg A,if_pos D];exact ⟨(e,false),rfl,c,⟨rfl,rfl⟩,fun h=>by cases h⟩
     ·simp only[if_pos p,if_neg v,if_neg A,if_neg D];have T: ∃i:Nat,i<=e.2.2.1.length/\(∀j (d:j<e.2.2.1.length),j<i->e.2.2.1[j].1<id)/\(∀d:i<e.2.2.1.length,¬e.2.2.1[i].1<id)/\al (cF e id) aW 0=some (.brk (i:Int)):=by
       obtain ⟨o,M,i,x,m,l,rfl⟩:=b8 (f:=cF e id) (fun i s=>s=(i:Int)/\ ∀j (d:j<e.2.2.1.length),j<i->e.2.2.1[j].1<id) (fun o=> ∃i:Nat,i<=e.2.2.1.length/\(∀j (d:j<e.2.2.1.length),j<i->e.2.2.1[j].1<id)/\(∀d:i<e.2.2.1.length,¬e.2.2.1[i].1<id)/\o= .brk (i:Int)) e.2.2.1.length (fun i s x w=>by
        obtain ⟨rfl,w⟩:=w;unfold cF;by_cases B:i<e.2.2.1.length
        ·simp only[bT B,if_true,aK B,aa,af (show i<9223372036854775807 by omega)];by_cases z:e.2.2.1[i].1<id
         ·refine .inl ⟨B,_,by simp[z],rfl,fun j d R=>?_⟩;by_cases t:j=i
          ·subst t;exact z
          ·exact w j d (by omega)
         ·exact .inr ⟨.brk (i:Int),by simp[z],(fun s' e=>by cases e),i,x,w,fun _=>z,rfl⟩
        ·obtain rfl:i=e.2.2.1.length:=by omega
         exact .inr ⟨.brk (e.2.2.1.length:Int),by simp only[bS,Bool.false_eq_true,if_false],(fun s' e=>by cases e),_,x,w,fun h=>absurd h B,rfl⟩) (s:=0) ⟨rfl,fun j d h=>absurd h (Nat.not_lt_zero _)⟩ (de _ (by omega))
       exact ⟨i,x,m,l,M⟩
      obtain ⟨i,x,m,l,N⟩:=T;simp only[N,aO];have P:Data.sm ((id,query,(0:Int)):rK):=⟨trivial,trivial,trivial⟩;have hs:=CX (y:=((id,query,(0:Int)):rK)) c.2.2.1 P i (by omega);have Y:(chk (0<=(i:Int)/\(i:Int)<=(e.2.2.1.length:Int)))=some ():=if_pos (by omega);have Z:bA 24 ([] :List rK) (e.2.2.1.take i)=some (e.2.2.1.take i):=by rw[aw (by simp only[aD,aq];omega)];rfl
      have a2:bA 24 (e.2.2.1.take i) [((id,query,(0:Int)):rK)] =some (e.2.2.1.take i++ [(id,query,0)]):=aw (by simp only[aq,ay,aD];omega);have O:bA 24 (e.2.2.1.take i++ [((id,query,(0:Int)):rK)]) (e.2.2.1.drop i)=some (e.2.2.1.take i++([(id,query,0)] ++e.2.2.1.drop i)):=by
       rw[aw (by simp only[az,aq,a7,ay,aD];omega),aC]
      simp only[Y,aa,Int.toNat_natCast,Z,a2,O];have I:=Classical.not_not.1 (mt K.2 (by simpa using A));have r:=U (by simpa using v);have E:0<=latV e.1:=by
       obtain ⟨-,n⟩:=(LH e.1 c.1).1 V.his;unfold latV;omega
      obtain ⟨C,H⟩:=VJ V.sub;have Q: ∀u∈e.2.2.1.take i,u.1<id:=fun u g=>by
       obtain ⟨j,d,rfl⟩:=List.getElem_of_mem g;rw[aq] at d;rw[List.getElem_take];exact m j (by omega) (by omega)
      have G: ∀u∈e.2.2.1.drop i,id<u.1:=fun u g=>by
       obtain ⟨j,d,rfl⟩:=List.getElem_of_mem g;rw[a7] at d;rw[List.getElem_drop];have a:=l (by omega);have n0:=r _ (List.getElem_mem (show i<e.2.2.1.length by omega));rcases Nat.eq_zero_or_pos j with rfl | h0
       ·simp only[Nat.add_zero];omega
       ·have b:=List.pairwise_iff_getElem.1 C i (i+j) (by omega) (by omega) (by omega);omega
      refine ⟨_,rfl,⟨c.1,c.2.1,hs,c.2.2.2⟩,⟨rfl,rfl⟩,fun _=>⟨⟨V.his,V.reg,?_,VK ?_ fun s F=>?_,V.log⟩,I⟩⟩
      ·have c4':(e.2.2.1.length:Int)≠4:=by simpa using D
       show (e.2.2.1.take i++([(id,query,(0:Int))] ++e.2.2.1.drop i)).length<=4;simp only[az,aq,ay,aD,a7];omega
      ·show (e.2.2.1.take i++([(id,query,(0:Int))] ++e.2.2.1.drop i)).Pairwise fun a b=>a.1<b.1;rw[List.pairwise_append];refine ⟨C.sublist (List.take_sublist _ _),?_,fun a ha b n=>?_⟩
       ·rw[List.singleton_append,List.pairwise_cons];exact ⟨G,C.sublist (List.drop_sublist _ _)⟩
       ·have:=Q a ha
        rcases aG n with n | n
        ·rw[ak n];exact this
        ·have:=G b n;omega
      ·rcases aG F with g | g
       ·exact H s (List.mem_of_mem_take g)
       ·rcases aG g with g | g
        ·rw[ak g];exact ⟨of_decide_eq_true p,I,Int.le_refl _,E⟩
        ·exact H s (List.mem_of_mem_drop g)
  ·simp only[if_neg p];exact ⟨(e,false),rfl,c,⟨rfl,rfl⟩,fun h=>by cases h⟩
def EI (e:EngT):Prop:=Data.sm e/\1<=e.1.2.length/\e.2.2.2.size<=4000
theorem YB {e:EngT} (a:EI e) (id:Int): ∃y:EngT×abr×Bool,ld e id=some y/\EI y.1:=by
 obtain ⟨a,d,f⟩:=a;obtain ⟨b,l,-⟩:=C1 e a;have j:=(aQ a.2.2.1).1;obtain ⟨k,n,-,h⟩:=VL e.2.2.1 id j;unfold ld;simp only[gJ,sH e a,l,n,aa];cases b with
 | false=>exact ⟨_,rfl,a,d,f⟩
 | true =>
  simp only[if_true];by_cases c:k<0
  ·rw[if_pos (decide_eq_true c)];exact ⟨_,rfl,a,d,f⟩
  ·rw[if_neg (by simpa using c)];have h:=h (by omega);have g:aU e.2.2.1 k=some (nth e.2.2.1 k):=aA (by omega) h;obtain ⟨x,m,-⟩:=acq e.1 a.1 a.2.1 (nth e.2.2.1 k);simp only[g,aa,gJ,m];by_cases i:x.2.2=true
   ·rw[if_pos i];refine ⟨_,rfl,⟨a.1,a.2.1,⟨?_,fun u o=>⟨trivial,trivial,trivial⟩⟩,a.2.2.2⟩,d,f⟩;show (e.2.2.1.set k.toNat x.2.1).length<=1048576;rw[List.length_set];exact j
   ·rw[if_neg i];exact ⟨_,rfl,a,d,f⟩
theorem YC {e:EngT} (a:EI e) (v:Int): ∃y:EngT×Bool,ir e v=some y/\EI y.1:=by
 obtain ⟨a,f,h⟩:=a;obtain ⟨b,j,-⟩:=C1 e a;obtain ⟨x,k,u,z⟩:=T0 e.1 a.1 v;obtain ⟨l,g⟩:=If e.2.2.2;have t:e.2.2.2.size=l.length:=by rw[g];exact bE l
 obtain ⟨r,q,n,m,-,A,i,p,B⟩:=uN l (by omega);have o:=acv (v:=v) (n:=(n:Int)) p.1 i;have s:=Gl v r q r.length;have d:vh e.2.2.2 v=some (mkB (Ni v r q r.length)):=by
  unfold vh;rw[g,m];simp only[aa];rw[ah o]
 have w:(mkB (Ni v r q r.length)).size=(Ni v r q r.length).length:=bE _;unfold ir;simp only[gJ,sH e a,j,k,d,aa];cases b with
 | false=>exact ⟨_,rfl,a,f,h⟩
 | true =>
  simp only[if_true];by_cases c:x.2=true
  ·rw[if_pos c];refine ⟨_,rfl,⟨u,a.2.1,a.2.2.1,?_⟩,z f,?_⟩
   ·show (mkB (Ni v r q r.length)).size<=1048576;omega
   ·show (mkB (Ni v r q r.length)).size<=4000;omega
  ·rw[if_neg c];exact ⟨_,rfl,a,f,h⟩
theorem aaT {e:EngT} (a:EI e) (b:List ChT): ∃y:EngT×Bool,jT e b=some y/\EI y.1:=by
 obtain ⟨a,d,f⟩:=a;obtain ⟨v,m,-⟩:=C1 e a;obtain ⟨r,p,h,o⟩:=Qz e.1 ⟨a.1,d⟩ b;obtain ⟨w,j⟩:=ac1 r.1 h;obtain ⟨i,-,t⟩:=Ii w b;obtain ⟨l,g⟩:=If e.2.2.2;have q:e.2.2.2.size=l.length:=by rw[g];exact bE l
 unfold jT;simp only[gJ,sH e a,m,p,aa];cases v with
 | false=>exact ⟨_,rfl,a,d,f⟩
 | true =>
  simp only[if_true];by_cases c:r.2=true
  ·simp only[if_pos c,j,i,aa,g,bE];rw[bQ (n:=(l.length:Int)+((recT w b).length:Int)) (by omega) (by omega)];by_cases s:l.length+(recT w b).length>4000
   ·rw[if_pos (decide_eq_true (by omega))];exact ⟨_,rfl,a,d,f⟩
   ·rw[if_neg (by rw[decide_eq_true_eq];omega),C6 _ _ (by omega)];simp only[aa];have k:(mkB (l++recT w b)).size=l.length+(recT w b).length:=by rw[bE,az]
    refine ⟨_,rfl,⟨h,a.2.1,a.2.2.1,?_⟩,o,?_⟩
    ·show (mkB (l++recT w b)).size<=1048576;omega
    ·show (mkB (l++recT w b)).size<=4000;omega
  ·rw[if_neg c];exact ⟨_,rfl,a,d,f⟩
section
variable {xs:List Int} {i h:Int}
theorem LK (c:xs.length<=1048576) {p:List Int×Int×Int} (hp:p.1=xs): ∀(n:Nat) (f:Nat) {i h:Int} {e:EngT},n<900->n<f->iE xs i->EI e-> ∃s:Int×Int×EngT,al (gf p) f ((n:Int),i,h,e.1.1,e.1.2,e.2.1.1,e.2.1.2,e.2.2.1,e.2.2.2)=some (.brk (0,s.1,s.2.1,s.2.2.1.1,s.2.2.1.2,s.2.2.2.1.1,s.2.2.2.1.2,s.2.2.2.2.1,s.2.2.2.2.2))/\iE xs s.1/\EI s.2.2
 | 0,f+1,i,h,e,_,_,hc,hr=>by
  refine ⟨(i,h,e),?_,hc,hr⟩
  have:gf p (((0:Nat):Int),i,h,e.1.1,e.1.2,e.2.1.1,e.2.1.2,e.2.2.1,e.2.2.2)=some (.brk (0,i,h,e.1.1,e.1.2,e.2.1.1,e.2.1.2,e.2.2.1,e.2.2.2)):=by
   unfold gf;simp only;rw[if_neg (by simp)];rfl
  rw[al,this]
 | n+1,f+1,i,h,e,hn,hf,hc,hr=>by
  obtain ⟨a,d,r,k⟩:=JI (h:=h) c hc;obtain ⟨y,b,j,⟨l,q⟩,-⟩:=Rb e hr.1 ((n+1:Nat):Int) a.1 (uJ (by omega));have b:c7 ((e.1.1,e.1.2),(e.2.1.1,e.2.1.2),e.2.2.1,e.2.2.2) ((n+1:Nat):Int) a.1=_:=b;obtain ⟨t,o,g,m⟩:=LK c hp n f (h:=a.2.2) (e:=y.1) (by omega) (by omega) k ⟨j,by rw[l];exact hr.2.1,by rw[q];exact hr.2.2⟩;refine ⟨t,?_,g,m⟩
  have:gf p (((n+1:Nat):Int),i,h,e.1.1,e.1.2,e.2.1.1,e.2.1.2,e.2.2.1,e.2.2.2)=some (.nxt ((n:Int),a.2.1,a.2.2,y.1.1.1,y.1.1.2,y.1.2.1.1,y.1.2.1.2,y.1.2.2.1,y.1.2.2.2)):=by
   unfold gf;simp only;rw[if_pos (decide_eq_true (show ((n+1:Nat):Int)>0 by omega)),hp,d];simp only[aa];rw[b];simp only[aa];rw[show i64.wrap (((n+1:Nat):Int) - 1)=(n:Int) from by rw[bQ (by omega) (by omega)];omega]
  rw[al,this];exact o
abbrev ac8:=Int×Int×Int×List GrT×List AutT×List QT×List rK×ByteArray
theorem Rd (l:xs.length<=1048576) (J:iE xs i) {p:List Int×Int×Int} (hp:p.1=xs) {e:EngT} (g:EI e) {n:Nat} (L:n+1<1000): ∃s:Int×Int×EngT,gg p (((n+1:Nat):Int),i,h,e.1.1,e.1.2,e.2.1.1,e.2.1.2,e.2.2.1,e.2.2.2)=some (.nxt ((n:Int),s.1,s.2.1,s.2.2.1.1,s.2.2.1.2,s.2.2.2.1.1,s.2.2.2.1.2,s.2.2.2.2.1,s.2.2.2.2.2))/\iE xs s.1/\EI s.2.2:=by
 subst hp;unfold gg;simp only;rw[if_pos (decide_eq_true (show ((n+1:Nat):Int)>0 by omega)),show i64.wrap (((n+1:Nat):Int) - 1)=(n:Int) from by rw[bQ (by omega) (by omega)];omega];obtain ⟨c,x,-,j⟩:=bz (h:=h) l J (n:=6) (by omega);rw[x];simp only[aa]
 suffices z: ∀(o:Option ac8),(∃s:Int×Int×EngT,o=some (s.1,s.2.1,s.2.2.1.1,s.2.2.1.2,s.2.2.2.1.1,s.2.2.2.1.2,s.2.2.2.2.1,s.2.2.2.2.2)/\iE p.1 s.1/\EI s.2.2)-> ∃s:Int×Int×EngT,(o.bind fun d=>some (Out.nxt ((n:Int),d.1,d.2.1,d.2.2.1,d.2.2.2.1,d.2.2.2.2.1,d.2.2.2.2.2.1,d.2.2.2.2.2.2.1,d.2.2.2.2.2.2.2):Out (EngT×Int×Int) (Int×ac8)))=some (.nxt ((n:Int),s.1,s.2.1,s.2.2.1.1,s.2.2.1.2,s.2.2.2.1.1,s.2.2.2.1.2,s.2.2.2.2.1,s.2.2.2.2.2))/\iE p.1 s.1/\EI s.2.2 by
  refine z _ ?_;by_cases C:(c.1==0)=true
  ·rw[if_pos C];obtain ⟨a,u,-,q⟩:=bz (h:=c.2.2) l j (n:=4) (by omega);rw[u];simp only[aa];obtain ⟨b,k,-,r⟩:=bz (h:=a.2.2) l q (n:=2) (by omega);rw[k];simp only[aa];obtain ⟨y,f,G,⟨H,K⟩,-⟩:=Rc e g.1 (i64.wrap (1+a.1)) (i64.wrap (1+b.1));have f:cP ((e.1.1,e.1.2),(e.2.1.1,e.2.1.2),e.2.2.1,e.2.2.2) (i64.wrap (1+a.1)) (i64.wrap (1+b.1))=_:=f;rw[f];exact ⟨(b.2.1,b.2.2,y.1),rfl,r,G,by rw[H];exact g.2.1,by rw[K];exact g.2.2⟩
  ·rw[if_neg C];by_cases A:(c.1==1)=true
   ·rw[if_pos A];obtain ⟨a,u,-,q⟩:=bz (h:=c.2.2) l j (n:=4) (by omega);rw[u];simp only[aa];obtain ⟨y,f,t⟩:=YB g (i64.wrap (1+a.1));have f:ld ((e.1.1,e.1.2),(e.2.1.1,e.2.1.2),e.2.2.1,e.2.2.2) (i64.wrap (1+a.1))=_:=f;rw[f];exact ⟨(a.2.1,a.2.2,y.1),rfl,q,t⟩
   ·rw[if_neg A];by_cases B:(c.1==2)=true
    ·rw[if_pos B];obtain ⟨a,u,q⟩:=wt (h:=c.2.2) l j (n:=3) (by omega);rw[u];simp only[aa];by_cases D:a.1=true
     ·rw[if_pos D];obtain ⟨w,v⟩:=ac1 e.1 g.1.1;have v:aV (e.1.1,e.1.2)=_:=v;rw[v];simp only[aa];obtain ⟨b,k,-,r⟩:=bz (h:=a.2.2) l q (n:=2) (by omega);rw[k];simp only[aa];obtain ⟨y,f,t⟩:=YC g (i64.wrap (w - b.1));have f:ir ((e.1.1,e.1.2),(e.2.1.1,e.2.1.2),e.2.2.1,e.2.2.2) (i64.wrap (w - b.1))=_:=f;rw[f];exact ⟨(b.2.1,b.2.2,y.1),rfl,r,t⟩
     ·rw[if_neg D];exact ⟨(a.2.1,a.2.2,e),rfl,q,g⟩
    ·rw[if_neg B];obtain ⟨M,F⟩:=aQ g.1.1.2;have E:=g.2.1;have I:=F _ (cZ (xs:=e.1.2) (i:=(e.1.2.length:Int) - 1) (by omega) (by omega));rw[bQ (n:=(e.1.2.length:Int) - 1) (by omega) (by omega),aA (by omega) (by omega)];simp only[aa];obtain ⟨b,k,-,r⟩:=QA (h:=c.2.2) l j I (m:=3) (by decide);have k:lJ (p.1,c.2.1,c.2.2) ((nth e.1.2 ((e.1.2.length:Int) - 1)).1,(nth e.1.2 ((e.1.2.length:Int) - 1)).2) 3=_:=k;rw[k];simp only[aa];obtain ⟨y,f,t⟩:=aaT g b.1;have f:jT ((e.1.1,e.1.2),(e.2.1.1,e.2.1.2),e.2.2.1,e.2.2.2) b.1=_:=f;rw[f];exact ⟨(b.2.1,b.2.2,y.1),rfl,r,t⟩
 rintro o ⟨s,rfl,z⟩;exact ⟨s,rfl,z⟩
theorem Ij (a:xs.length<=1048576) {p:List Int×Int×Int} (hp:p.1=xs): ∀(n:Nat) (f:Nat) {i h:Int} {e:EngT},n<900->n<f->iE xs i->EI e-> ∃s:Int×Int×EngT,al (gg p) f ((n:Int),i,h,e.1.1,e.1.2,e.2.1.1,e.2.1.2,e.2.2.1,e.2.2.2)=some (.brk (0,s.1,s.2.1,s.2.2.1.1,s.2.2.1.2,s.2.2.2.1.1,s.2.2.2.1.2,s.2.2.2.2.1,s.2.2.2.2.2))/\iE xs s.1/\EI s.2.2
 | 0,f+1,i,h,e,_,_,hc,hr=>by
  refine ⟨(i,h,e),?_,hc,hr⟩
  have:gg p (((0:Nat):Int),i,h,e.1.1,e.1.2,e.2.1.1,e.2.1.2,e.2.2.1,e.2.2.2)=some (.brk (0,i,h,e.1.1,e.1.2,e.2.1.1,e.2.1.2,e.2.2.1,e.2.2.2)):=by
   unfold gg;simp only;rw[if_neg (by simp)];rfl
  rw[al,this]
 | n+1,f+1,i,h,e,hn,hf,hc,hr=>by
  obtain ⟨s,g,b,k⟩:=Rd (h:=h) a hc hp hr (n:=n) (by omega);obtain ⟨t,j,c,d⟩:=Ij a hp n f (h:=s.2.1) (e:=s.2.2) (by omega) (by omega) b k;refine ⟨t,?_,c,d⟩;rw[al,g];exact j
theorem Un (b:xs.length<=1048576) (F:iE xs i): ∃r:EngT×Int×Int,oF (xs,i,h)=some r/\EI r.1/\iE xs r.2.1:=by
 unfold oF;simp only;obtain ⟨a,q,⟨j,G⟩,A⟩:=Lq (h:=h) b F;rw[q];simp only[aa];have u:oC (a.1.1,a.1.2)=some (((1,[a.1]),([],[]),[],⟨#[]⟩),true):=by
  have c:=ac2 j G (v:=1) (by omega);unfold oC;have c:gI (a.1.1,a.1.2) 1=_:=c;simp only[c,aa,if_true]
 rw[u];simp only[aa];obtain ⟨d,c,K,B⟩:=bz (h:=a.2.2) b A (n:=2) (by omega);rw[c];simp only[aa];have I:EI (((1,[a.1]),([],[]),[],⟨#[]⟩):EngT):=⟨⟨yK (by simp) (fun g D=>by rw[ak D];exact j),⟨⟨Nat.zero_le _,fun _ h=>by cases h⟩,Nat.zero_le _,fun _ h=>by cases h⟩,⟨Nat.zero_le _,fun _ h=>by cases h⟩,by show (0:Nat)<=1048576;omega⟩,aF _,by show (0:Nat)<=4000;omega⟩;obtain ⟨k,J⟩: ∃k:Nat,d.1=(k:Int):=⟨d.1.toNat,by omega⟩;rw[show i64.wrap (1+d.1)=((k+1:Nat):Int) from by rw[bQ (by omega) (by omega)];omega];obtain ⟨s,o,E,H⟩:=LK b (p:=(xs,i,h)) rfl (k+1) aW (h:=d.2.2) (e:=(((1,[a.1]),([],[]),[],⟨#[]⟩):EngT)) (by omega) (by unfold aW;omega) B I;rw[ah o];obtain ⟨f,y,L,l⟩:=bz (h:=s.2.1) b E (n:=10) (by omega);rw[y];simp only[aa];obtain ⟨m,z⟩: ∃m:Nat,f.1=(m:Int):=⟨f.1.toNat,by omega⟩;obtain ⟨t,w,x,C⟩:=Ij b (p:=(xs,i,h)) rfl m aW (h:=f.2.2) (e:=s.2.2) (by omega) (by unfold aW;omega) l H;rw[z,ah w];exact ⟨(t.2.2,t.1,t.2.1),rfl,C,x⟩
theorem Gn (e:xs.length<=1048576) (G:iE xs i): ∃r:EngT×Int×Int,oU (xs,i,h)=some r/\(Data.sm r.1/\r.1.2.2.2.size<=4001)/\iE xs r.2.1:=by
 unfold oU;simp only;obtain ⟨a,v,F,z⟩:=Un (h:=h) e G;rw[v];simp only[aa];obtain ⟨b,w,-,c⟩:=bz (h:=a.2.2) e z (n:=18) (by omega);rw[w];simp only[aa];obtain ⟨⟨k,f,d,m⟩,J,L⟩:=F;by_cases q:(b.1==0)=true
 ·rw[if_pos q];obtain ⟨l,j⟩:=If a.1.2.2.2;have E:a.1.2.2.2.size=l.length:=by rw[j];exact bE l
  have C:mc a.1.2.2.2 (⟨#[120]⟩)=some (mkB (l++ [120])):=by rw[j];exact C6 l [120] (by simp;omega)
  have M:(mkB (l++ [120])).size=l.length+1:=by rw[bE,az];rfl
  rw[C];exact ⟨_,rfl,⟨⟨k,f,d,by show (mkB (l++ [120])).size<=1048576;omega⟩,by show (mkB (l++ [120])).size<=4001;omega⟩,c⟩
 ·rw[if_neg q];by_cases o:(b.1==1)=true
  ·rw[if_pos o];by_cases g:(a.1.2.2.1.length:Int)>0
   ·rw[if_pos (decide_eq_true g)];obtain ⟨K,x,-,y⟩:=ep (h:=b.2.2) e c (l:=[(-1),0,50]) (by simp);rw[x];simp only[aa];rw[aA (by omega) (by omega)];exact ⟨_,rfl,⟨⟨k,f,⟨by rw[List.length_set];exact (aQ d).1,fun u I=>⟨trivial,trivial,trivial⟩⟩,m⟩,by show a.1.2.2.2.size<=4001;omega⟩,y⟩
   ·rw[if_neg (by simpa using g)];exact ⟨_,rfl,⟨⟨k,f,d,m⟩,by show a.1.2.2.2.size<=4001;omega⟩,c⟩
  ·rw[if_neg o];by_cases g:(b.1==2)=true
   ·rw[if_pos g];obtain ⟨N,B,D,t⟩:=aaG (h:=b.2.2) e c;rw[B];exact ⟨_,rfl,⟨⟨k,D,d,m⟩,by show a.1.2.2.2.size<=4001;omega⟩,t⟩
   ·rw[if_neg g];by_cases p:(b.1==3)=true
    ·rw[if_pos p];obtain ⟨O,s,H,A⟩:=Yn (h:=b.2.2) e c;rw[s];exact ⟨_,rfl,⟨⟨H,f,d,m⟩,by show a.1.2.2.2.size<=4001;omega⟩,A⟩
    ·rw[if_neg p];exact ⟨_,rfl,⟨⟨k,f,d,m⟩,by show a.1.2.2.2.size<=4001;omega⟩,c⟩
end
theorem Uo (x y:List Yq1) (b:x.length<=1048576):dA x y=some (decide (x=y)):=by
 unfold dA;exact eqL (f:=cR x y) x y (by omega) (fun i h a=>by
  simp only[cR,bT h,if_true,aK h,aK a,aa,gJ,af (show i<9223372036854775807 by omega)];refine PO ?_;simp only[Bool.and_true,aj,beq_iff_eq];exact adk) (by simp only[cR,bS];rfl)
theorem Re (x y:GrT) (a:Data.sm x):jJ x y=some (decide (x=y)):=by
 unfold jJ;rw[yC x.1 y.1 (by have:=(aQ a.1).1;omega),Uo x.2 y.2 (aQ a.2).1];simp only[aa];by_cases c:x.1=y.1 <;> by_cases b:x.2=y.2 <;> simp[Prod.ext_iff,c,b]
theorem YD (x y:vJ) (a:Data.sm x):jr x y=some (decide (x=y)):=by
 obtain ⟨l,c⟩:=aQ a.2;unfold jr;have e:bZ x.2 y.2 (fun g k=>jJ g k)=some (decide (x.2=y.2)):=
  eqL (f:=bf x.2 y.2 _) x.2 y.2 (by omega) (fun i h d=>by
   simp only[bf,bT h,if_true,aK h,aK d,aa,gJ,af (show i<9223372036854775807 by omega),Re x.2[i] y.2[i] (c _ (List.getElem_mem h))];exact PO (by simp)) (by simp only[bf,bS];rfl)
 rw[e];simp only[aa];by_cases j:x.1=y.1 <;> by_cases b:x.2=y.2 <;> simp[Prod.ext_iff,j,b]
theorem YE (x y:List rK) (b:x.length<=1048576):bU x y=some (decide (x=y)):=by
 unfold bU;exact eqL (f:=bG x y) x y (by omega) (fun i h a=>by
  simp only[bG,bT h,if_true,aK h,aK a,aa,gJ,af (show i<9223372036854775807 by omega)];refine PO ?_;simp only[Bool.and_true,aj,beq_iff_eq];exact adj) (by simp only[bG,bS];rfl)
theorem Rf (x:EngT) (a:Data.sm x):fX x x=some true:=by
 unfold fX;simp only[gJ,YD x.1 x.1 a.1,yJ x.2.1 x.2.1 a.2.1,YE x.2.2.1 x.2.2.1 (aQ a.2.2.1).1,aa,decide_true,if_true,beq_self_eq_true]
theorem newE (g:GrT) (j:Data.sm g): ∃(b:Bool) (e:EngT),aT g=some b/\dN g=some (e,b)/\Data.sm e/\(b=true->EV e/\e.1.1=1):=by
 obtain ⟨b,p,o⟩:=qw g (aQ j.1).1 (aQ j.2).1;have k:Data.sm ((1,[g]):vJ):=⟨trivial,by simp,fun x d=>by rw[ak d];exact j⟩;obtain ⟨c,m,q,-⟩:=n9 ((1,[g]):vJ) k;have l:c=b:=by
  have h:=LH ((1,[g]):vJ) k;rw[m] at h;cases b with
  | true =>
   have G:=o.1 rfl
   have:=h.2 ⟨fun x d=>by
    have d:x ∈ [g]:=d;rw[ak d];exact ⟨G,rfl⟩,⟨aF _,by show 1<=8;omega⟩,by show (1:Int)<=1;omega,by show (1:Int)<=1000 - ((1:Nat):Int);omega⟩
   exact ae this
  | false =>
   cases c with
   | false=>rfl
   | true =>
    have:=((h.1 rfl).1 g (by show g ∈ [g];simp)).1
    exact absurd (o.2 this) (by decide)
 subst l;have n:Data.sm (((1,[g]),([],[]),[],⟨#[]⟩):EngT):=⟨k,⟨⟨Nat.zero_le _,fun _ h=>by cases h⟩,Nat.zero_le _,fun _ h=>by cases h⟩,⟨Nat.zero_le _,fun _ h=>by cases h⟩,by show (0:Nat)<=1048576;omega⟩;have r:Data.sm (((0,[]),([],[]),[],⟨#[]⟩):EngT):=⟨⟨trivial,Nat.zero_le _,fun _ h=>by cases h⟩,⟨⟨Nat.zero_le _,fun _ h=>by cases h⟩,Nat.zero_le _,fun _ h=>by cases h⟩,⟨Nat.zero_le _,fun _ h=>by cases h⟩,by show (0:Nat)<=1048576;omega⟩;refine ⟨c,if c=true then ((1,[g]),([],[]),[],⟨#[]⟩) else ((0,[]),([],[]),[],⟨#[]⟩),by rw[mP];exact p,?_,?_,fun s=>?_⟩
 ·unfold dN qM;simp only[gJ,Qw g j,q,aa];cases c <;> rfl
 ·cases c
  ·exact r
  ·exact n
 ·subst s;rw[if_pos rfl];refine ⟨⟨m,(pS n.2.1).2 ?_,by show (0:Nat)<=4;omega,fun i a=>absurd a (Nat.not_lt_zero i),[],[],?_,by show (0:Nat)<=4000;omega,.inl rfl⟩,rfl⟩
  ·have:=aY (f:=bq []) (fun _=>((0:Int),([] :List AutT),([] :List QT))) 0 (fun i a=>absurd a (Nat.not_lt_zero _)) (by unfold bq;rfl) (by unfold aW;omega)
   unfold bR;show (if decide (((0:Nat):Int)>4)=true then _ else _)=_;rw[if_neg (by decide),ah this]
  ·have:=aY (f:=bu (⟨#[]⟩:ByteArray)) (fun _=>(([] :List Int),([] :List (List ChT)),(0:Int),(0:Int))) 0 (fun i a=>absurd a (Nat.not_lt_zero _)) (by unfold bu;rfl) (by unfold aW;omega)
   unfold m_s_ScanLog;rw[ah this];rfl
theorem aaU {xs:List Int} (a:xs.length<=1048576): ∃r:EngT×Int×List Tok,fT xs=some r/\Data.sm r.1/\Data.sm r.2.2:=by
 unfold fT;obtain ⟨d,l,k⟩:=To a;rw[l];simp only[aa];obtain ⟨j,m,f,b⟩:=Gn (h:=d.2) a k;rw[m];simp only[aa];obtain ⟨i,o,-,c⟩:=bz (h:=j.2.2) a b (n:=6) (by omega);rw[o];simp only[aa];obtain ⟨p,g,e,-⟩:=aaF (h:=i.2.2) a c;rw[g];exact ⟨_,rfl,f.1,e⟩
theorem aaV {xs:List Int} (a:xs.length<=1048576): ∃r:EngT×Int×Int,fw xs=some r/\Data.sm r.1:=by
 unfold fw;obtain ⟨d,k,j⟩:=To a;rw[k];simp only[aa];obtain ⟨i,m,e,b⟩:=Gn (h:=d.2) a j;rw[m];simp only[aa];obtain ⟨g,o,-,c⟩:=ep (h:=i.2.2) a b (l:=[1,2,3,4,5,0,100]) (by simp);rw[o];simp only[aa];obtain ⟨p,f,-,-⟩:=bz (h:=g.2.2) a c (n:=4) (by omega);rw[f];exact ⟨_,rfl,e.1⟩
theorem acw {xs:List Int} (a:xs.length<=1048576): ∃r:EngT×Int,fc xs=some r/\Data.sm r.1:=by
 unfold fc;obtain ⟨c,g,f⟩:=To a;rw[g];simp only[aa];obtain ⟨e,i,d,b⟩:=Gn (h:=c.2) a f;rw[i];simp only[aa];obtain ⟨k,j,-,-⟩:=bz (h:=e.2.2) a b (n:=4) (by omega);rw[j];exact ⟨_,rfl,d.1⟩
theorem aaW {xs:List Int} (a:xs.length<=1048576): ∃g:GrT,cm xs=some g/\Data.sm g:=by
 unfold cm;obtain ⟨b,e,d⟩:=To a;rw[e];simp only[aa];obtain ⟨i,f,c,-⟩:=Vo (h:=b.2) a d;rw[f];exact ⟨_,rfl,c⟩
theorem LL {e:EngT} (d:Data.sm e) {b:Bool} (h:b=true->EV e): ∃c,aN e=some c/\(b=true->c=true):=by
 obtain ⟨c,g,a,-⟩:=yO e d;refine ⟨c,a,fun f=>?_⟩
 have:=(adz d (h f)).2
 rw[a] at this;exact ae this
theorem AQ (x:List Int) (hx:Data.lim x):kC x=some true:=by
 unfold kC Jj;simp only[aa];by_cases c:(x.length:Int)>1048576
 ·rw[if_pos (decide_eq_true c)]
 rw[if_neg (by simpa using c)];have i:x.length<=1048576:=by omega
 obtain ⟨⟨e,id,q⟩,F,v,I⟩:=aaU i;obtain ⟨⟨f,sub,query⟩,N,R⟩:=aaV i;obtain ⟨⟨g,gone⟩,B,u⟩:=acw i;obtain ⟨w,s,W⟩:=aaW i;obtain ⟨⟨y1,Z⟩,o,T,b⟩:=Q7 e v id q I;obtain ⟨⟨U,L⟩,m,A,a⟩:=Ra f R sub query;obtain ⟨⟨y3,b3⟩,p,G,d⟩:=JS g u gone;obtain ⟨z1,r,-,-,y⟩:=Rb e v id q I;rw[o] at r;obtain rfl:=ae r;obtain ⟨z2,P,-,-,l⟩:=Rc f R sub query;rw[m] at P;obtain rfl:=ae P;obtain ⟨z3,H,-,S⟩:=aaS g u gone;rw[p] at H;obtain rfl:=ae H;obtain ⟨V,n,C,K,sn,k⟩:=newE w W;obtain ⟨c1,t,k1⟩:=LL b y;obtain ⟨c2,O,k2⟩:=LL a (fun h=>(l h).1);obtain ⟨c3,J,k3⟩:=LL d S;obtain ⟨c4,z,X⟩:=LL sn (fun h=>(k h).1);obtain ⟨j,D,Y⟩:=Q4 U.2.1 query (aQ a.2.1.2).1;have j3:L=true->decide (j≥0)=true:=fun h=>by
  have:=mt Y.1 (Classical.not_not.2 (l h).2)
  simpa using this
 have Q:=Rf y1 b;have E:=Rf U a;have M:=Rf y3 d;simp only[F,N,B,s,o,T,m,A,p,G,C,K,t,O,J,z,D,Q,E,M,aa,gJ,if_true,bne_self_eq_false,Bool.false_eq_true,if_false];have n1:V=true->(n.1.1 !=1)=false:=fun h=>by rw[(k h).2];rfl
 clear F N B s o T m A p G C K t O J z D Q E M y l S k;cases Z <;> cases L <;> cases b3 <;> cases V <;> simp only[k1,k2,k3,X,j3,n1,if_true,Bool.false_eq_true,if_false]
end D
namespace R
open Go.Shelf
def JT:Go.Shelf.Ren:=⟨fun | 146=>191 | 221=>245 | 268=>299 | 138=>300 | 143=>301 | 195=>344 | 197=>345 | 218=>346 | 219=>347 | 260=>375 | 217=>190 | 225=>376 | 224=>377 | 267=>378 | 266=>244 | 314=>397 | n=>n,fun | 9=>9 | 31=>199 | 3=>3 | 4=>4 | 0=>0 | 105=>344 | 21=>21 | 5=>5 | 46=>232 | 119=>399 | 139=>402 | 138=>401 | 146=>403 | 51=>391 | n=>n,fun | 1=>0 | 3=>4 | 4=>5 | n=>n⟩
theorem YF:Go.Proofs.LaysM.n146 Tryz.prog JT:= {
 mixed:=by kernel_rfl
 f138:=Tryz.func300.trans (congrArg some (by kernel_rfl))
 f143:=Tryz.func301.trans (congrArg some (by kernel_rfl))
 f146:=Tryz.func191.trans (congrArg some (by kernel_rfl))
 f195:=Tryz.func344.trans (congrArg some (by kernel_rfl))
 f197:=Tryz.func345.trans (congrArg some (by kernel_rfl))
 f217:=Tryz.func190.trans (congrArg some (by kernel_rfl))
 f218:=Tryz.func346.trans (congrArg some (by kernel_rfl))
 f219:=Tryz.func347.trans (congrArg some (by kernel_rfl))
 f221:=Tryz.func245.trans (congrArg some (by kernel_rfl))
 f224:=Tryz.func377.trans (congrArg some (by kernel_rfl))
 f225:=Tryz.func376.trans (congrArg some (by kernel_rfl))
 f260:=Tryz.func375.trans (congrArg some (by kernel_rfl))
 f266:=Tryz.func244.trans (congrArg some (by kernel_rfl))
 f267:=Tryz.func378.trans (congrArg some (by kernel_rfl))
 f268:=Tryz.func299.trans (congrArg some (by kernel_rfl))
 f314:=Tryz.func397.trans (congrArg some (by kernel_rfl))
 t0:=Tryz.underlying0
 a0:=Tryz.isAgg0
 z0:=Tryz.sizeOf0
 v0:=Tryz.zeroValue0
 t3:=Tryz.underlying3
 a3:=Tryz.isAgg3
 z3:=Tryz.sizeOf3
 v3:=Tryz.zeroValue3
 t4:=Tryz.underlying4
 a4:=Tryz.isAgg4
 z4:=Tryz.sizeOf4
 v4:=Tryz.zeroValue4
 t5:=Tryz.underlying5
 a5:=Tryz.isAgg5
 z5:=Tryz.sizeOf5
 v5:=Tryz.zeroValue5
 t9:=Tryz.underlying9
 a9:=Tryz.isAgg9
 z9:=Tryz.sizeOf9
 v9:=Tryz.zeroValue9
 t21:=Tryz.underlying21
 a21:=Tryz.isAgg21
 z21:=Tryz.sizeOf21
 v21:=Tryz.zeroValue21
 t31:=Tryz.underlying199
 a31:=Tryz.isAgg199
 z31:=Tryz.sizeOf199
 v31:=Tryz.zeroValue199
 t46:=Tryz.underlying232
 a46:=Tryz.isAgg232
 z46:=Tryz.sizeOf232
 v46:=Tryz.zeroValue232
 t51:=Tryz.underlying391
 a51:=Tryz.isAgg391
 z51:=Tryz.sizeOf391
 v51:=Tryz.zeroValue391
 t105:=Tryz.underlying344
 a105:=Tryz.isAgg344
 z105:=Tryz.sizeOf344
 v105:=Tryz.zeroValue344
 t119:=Tryz.underlying399
 a119:=Tryz.isAgg399
 z119:=Tryz.sizeOf399
 t138:=Tryz.underlying401
 a138:=Tryz.isAgg401
 z138:=Tryz.sizeOf401
 v138:=Tryz.zeroValue401
 t139:=Tryz.underlying402
 a139:=Tryz.isAgg402
 z139:=Tryz.sizeOf402
 v139:=Tryz.zeroValue402
 t146:=Tryz.underlying403
 a146:=Tryz.isAgg403
 z146:=Tryz.sizeOf403
 v146:=Tryz.zeroValue403
 g1:=by kernel_rfl
 g3:=by kernel_rfl
 g4:=by kernel_rfl
 i0:=by kernel_rfl
 i3:=by kernel_rfl
 i4:=by kernel_rfl
 i5:=by kernel_rfl
 i9:=by kernel_rfl
 i21:=by kernel_rfl
 i31:=by kernel_rfl
 i46:=by kernel_rfl
 i51:=by kernel_rfl
 i105:=by kernel_rfl
 i138:=by kernel_rfl
 i139:=by kernel_rfl
 i146:=by kernel_rfl
 m1:=by kernel_rfl
 s1_3:=fun w h=>Go.Proofs.cell_of_shapedOpen_int (zero:= #[.int .i64 0]) (t:=3) h (of_decide_eq_true (by kernel_rfl)) (by kernel_rfl) rfl (by kernel_rfl) (by kernel_rfl) Tryz.underlying3
 m3:=by kernel_rfl
 m4:=by kernel_rfl }
end R
open Go.ChangeShapes Go.WideShapes Go.ChangeAt Go.RowKit
namespace D
theorem op5:Opens Tryz.prog 5 rU8:=Tm Tryz.underlying5
theorem adA:Opens Tryz.prog 22 (ax 5 rU8):=Jx Tryz.underlying22 (by kernel_rfl) (by decide) op5
theorem acx {W:World} {base:Nat} {z:Value} {H:Type} {enc:TypeId×Value->H} {d:DataW H} {p:List MemPlace} (hv:Value.okWide Tryz.prog W .any base 22 z) (h:DataW.Trod enc Tryz.prog W 0 (fun _=>true) true 22 z d p) :
  ∃(x:List Int) (v0:Value),z=v0/\Data.lim x/\(ax 5 rU8).rd (hp W) [v0] x:=by
 obtain ⟨fuel,f⟩:=h;obtain ⟨a,l,c,rfl⟩:=okWide_slice Tryz.underlying22 hv;obtain ⟨x,e,b⟩:=adA.out enc W _ _ _ f;exact ⟨x,_,rfl,b,e⟩
end D
open D (Data)
theorem zU {H:Type} {enc:TypeId×Value->H} {a:Assume} {C:Checked} {os:Os} {f:FuncId} {fn:Func} {s:ChangeSpec} {conds:List PathCond} {apart fresh handsOn again:Bool} {X:World->Array Value->Prop}
  (y: ∀(w w':World) (args:Array Value),w.heap=w'.heap->X w args->X w' args)
  (own:ownKnob C.prog.godebug=none) (started:os.Started) (c:C.prog.inits.idxOf? f=none) (l:C.prog.funcs[f]? =some fn)
  (witness: ∃(w:World) (tape:Tape) (i:Input),w.os=os/\(w.forCall tape i).Shaped C.prog/\i.vars= [] /\Input.okWide C.prog (w.forCall tape i) .any w.heap.size f i /\
   ((s.pre enc C.prog fn conds apart (w.forCall tape i).memory i.args/\X (w.forCall tape i).memory i.args)/\sizedMet enc C.prog fn (OpenSpec.ofChange s) apart (w.forCall tape i).memory i.args)/\a.holds C.prog (lone (Frame.enter C.prog f i.args .normal) [] (w.forCall tape i)))
  (b: ∀(W:World) (base:Nat) (args:Array Value) (ds m:List (DataW H)) (before:List MemPlace),
   (∀(j:Nat) t v,fn.params[j]? =some t->args[j]? =some v->Value.okWide C.prog W .any base t v)->
   DataW.Whole enc C.prog fn.params.toList s.vars apart W args.toList ds m before->X W args->W.ShapedOpen C.prog->
   Calls C.prog f args W fun e q=> ∃v,e= .returned v/\s.post enc C.prog fn apart fresh handsOn again W args v q) :
  ReturnsInHanded a C os f .any (fun w args=>(s.pre enc C.prog fn conds apart w args/\X w args)/\sizedMet enc C.prog fn (OpenSpec.ofChange s) apart w args) (s.post enc C.prog fn apart fresh handsOn again):=by
 refine returnsInHanded_of_calls own started c witness ?_;intro w tape i _ o _ k d _;obtain ⟨_,_,_,p,h,_,_,_,_,g⟩:=k;have e:p=fn:=ae (h.symm.trans l);subst e;obtain ⟨⟨⟨ds,m,before,r,z⟩,x⟩,_⟩:=d;have n:=DataW.Whole.of_heap (w':=w.forCall tape i) (by rfl) r;refine (b (w.forCall tape i) w.heap.size i.args ds m before g n (y (w.forCall tape i).memory (w.forCall tape i) _ rfl x) o).mono fun e q ⟨v,u,hp⟩=>?_;subst u;exact ChangeSpec.post_blind hp
theorem VM (u:TypeId) (h:Tryz.prog.typeName? 3 u=some "*errors.errorString"):u=407:=
 typeName_ptr_named (nm:= "errors.errorString") (by kernel_rfl) (by kernel_rfl) (by decide) u h
theorem AR {W:World} (h:laidMetH Tryz.prog Rows.fnEngineStepsRow.laid W) (a:W.ShapedOpen Tryz.prog):D.LayW Tryz.prog W:=by
 rw[MakeChecks.laidMetH_plain _ _ _ (by kernel_rfl)] at h;obtain ⟨f,i,c,-⟩:=laid_sentinel (g:=2) (ti:=264) (tp:=407) (te:=409) (ts:=9) (h.tail.tail.tail.tail) (by kernel_rfl) (by kernel_rfl) Tryz.underlying264 VM Tryz.underlying407 Tryz.underlying409 rfl rfl Tryz.underlying9 (by kernel_rfl) (by kernel_rfl);obtain ⟨k,j,b,-⟩:=laid_sentinel (g:=1) (ti:=264) (tp:=407) (te:=409) (ts:=9) (h.tail.tail.tail.tail.tail) (by kernel_rfl) (by kernel_rfl) Tryz.underlying264 VM Tryz.underlying407 Tryz.underlying409 rfl rfl Tryz.underlying9 (by kernel_rfl) (by kernel_rfl);have d:Lib.TabIs Tryz.prog W "internal/strconv.uint64pow10" .u64 Lib.pow10Tab:=Lib.tabIs_of_head (g:=3) (by kernel_rfl) (by kernel_rfl) Tryz.underlying390 Tryz.underlying363 (by kernel_rfl) (by kernel_rfl) (h.tail.tail);exact ⟨⟨0,(R.YF.s1_3 W a).imp fun m e=>⟨by kernel_rfl,e⟩⟩,d,⟨_,_,b⟩,⟨_,_,c⟩⟩
theorem zV (W:World) (y:laidMetH Tryz.prog Rows.fnEngineStepsRow.laid W) (c:W.ShapedOpen Tryz.prog) (args:Array Value) (H:Type) (enc:TypeId×Value->H) (base:Nat) (ds u:List (DataW H)) (before:List MemPlace)
  (a: ∀(j:Nat) t v,Tryz.f5.params[j]? =some t->args[j]? =some v->Value.okWide Tryz.prog W .any base t v)
  (i:DataW.Whole enc Tryz.prog Tryz.f5.params.toList Rows.fnEngineStepsSpec.vars false W args.toList ds u before) :
  Calls Tryz.prog 5 args W fun e k=> ∃v,e= .returned v/\Rows.fnEngineStepsSpec.post enc Tryz.prog Tryz.f5 false true false false W args v k:=by
 have g:=i;obtain ⟨p,q,l,z,rfl,C,w⟩:=i;rw[Tryz.params5] at l a;obtain ⟨h,r,L,A,J,K,d,rfl,rfl,x,E⟩:=trodAll_cons l;obtain ⟨rfl,rfl,rfl⟩:=trodAll_nil E;obtain rfl:args= #[h]:=by cases args;simp_all
 obtain ⟨rfl,rfl⟩:=trodVars_none z;obtain ⟨m,n,rfl,o,b⟩:=D.acx (a 0 _ _ rfl rfl) x;have F:=D.zL m true (D.AQ m o) (I:=D.hp W) (w0:=W) h b (D.Lay.of (AR y c)) W [] (D.St.init W);refine F.mono fun e k ⟨v,B,hv,G⟩=>?_;subst B;subst hv;exact ⟨_,rfl,TV (f:=Tryz.f5) (s:=Rows.fnEngineStepsSpec) 4 Tryz.underlying4 rfl (by kernel_rfl) rfl g rfl rfl rfl (D.St.below G)⟩
set_option maxRecDepth 100000 in
theorem vL (os:Os) (started:os.Started) (H:Type) (enc:TypeId×Value->H) :
  ReturnsInHanded {} Tryz.checked os 5 .any (fun w args=>(Rows.fnEngineStepsSpec.pre enc Tryz.prog Tryz.f5 [] false w args/\laidMetH Tryz.prog Rows.fnEngineStepsRow.laid w)/\sizedMet enc Tryz.prog Tryz.f5 (OpenSpec.ofChange Rows.fnEngineStepsSpec) false w args) (Rows.fnEngineStepsSpec.post enc Tryz.prog Tryz.f5 false true false false):=by
 refine zU (C:=Tryz.checked) (X:=fun w _=>laidMetH Tryz.prog Rows.fnEngineStepsRow.laid w) (fun _ _ _ e h=>h.of_heap e) own started (by kernel_rfl) Tryz.func5
  (ChangeSpec.witness_shaped (enc:=enc) (C:=Tryz.checked) (os:=os) (X:=fun w _=>laidMetH Tryz.prog Rows.fnEngineStepsRow.laid w) false (World.laidAll Tryz.prog os Rows.fnEngineStepsRow.laid) #[.slice none 0 0] 8 (World.laidAll_os _ _ _) (World.shaped_of_ZipB (by kernel_rfl) (by kernel_rfl)) (by kernel_rfl) (by kernel_rfl) (by kernel_rfl) (by rw[MakeChecks.laidMetH_plain _ _ _ (by kernel_rfl)];exact laidMet_laidAll _ (by kernel_rfl) (by kernel_rfl))) ?_
 intro W base args c f before a d g b;exact zV W g b args H enc base c f before a d
theorem xh:Rows.FnEngineStepsSaid:=
 OpenClaim.holds_of_wide 5 Tryz.f5 rfl rfl rfl rfl rfl rfl rfl ⟨rfl,rfl,rfl,rfl,rfl⟩ rfl rfl rfl rfl rfl (by kernel_rfl) Tryz.func5 closedLFnEngineSteps
  (of_decide_eq_true (by kernel_rfl)) (by unfold Func.isWrapper;first | (rw[if_pos (by decide +kernel)];kernel_rfl) | (rw[if_neg (by decide +kernel)];exact ⟨rfl,rfl⟩))
  (fun b started H a _=>vL b started H a)
theorem cardLFnEngineSteps:Rows.FnEngineStepsCardSaid:=
 Claim7.holds_tied_plain_at .later [] [.data,.data,.data,.data,.sentinel,.sentinel,.pinned] true (true,"3c499cde14a55990d2571a198b88511f35a3bcefb865e8a21ba7b894b258559b") true
  xh (fun _ h=>by cases h) (by kernel_rfl) (fun _ h=>by cases h) fnEngineSteps_row_tie rfl ⟨rfl,rfl⟩ kf4FnEngineSteps rfl
  (fun f e d b=>by
   obtain rfl:f=5:=ae (kf1FnEngineSteps.symm.trans d) |>.symm;obtain rfl:e=Tryz.f5:=(ae (Tryz.func5.symm.trans b)).symm;exact ⟨kf2FnEngineSteps,fun j t c=>by
    rw[Tryz.params5] at c;have g:t ∈ [22]:=by simpa using Array.mem_of_getElem? c
    have a:([22].all fun u=> !Tryz.prog.wantsStandIn u)=true:=by kernel_rfl
    exact (show Tryz.prog.wantsStandIn t=false by simpa using List.all_eq_true.1 a t g)⟩)
  kf3FnEngineSteps
end Go.Proofs.YtodbpnpbhpeepaaGreatDoor
