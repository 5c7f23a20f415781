/- FnRecovery: for every input the law returns true and changes nothing that was there. Part 9 of 9. -/
import Derived.Test.YtodbpnpbhpeepaaGreatDoorFC7
import Derived.Test.YtodbpnpbhpeepaaGreatDoorFKFnRecovery
set_option synthInstance.maxSize 20000
set_option synthInstance.maxHeartbeats 2000000
set_option linter.unusedVariables false
set_option linter.unusedSimpArgs false
set_option linter.unnecessarySimpa false
set_option linter.unusedSectionVars false
set_option maxRecDepth 1000000
namespace Go.Proofs.YtodbpnpbhpeepaaGreatDoor
open Go.IntKind (i64)
namespace D
open Go.RowKit
def qI (c:UInt8) (cur:List UInt8):List UInt8->List (List UInt8)
 | [] =>[cur]
 | b::l=>if b=c then cur::qI c [] l else qI c (cur++ [b]) l
theorem oo {c:UInt8} : ∀ {l cur:List UInt8},c∉l->qI c cur l= [cur++l]
 | [],cur,_=>by simp[qI]
 | b::l,cur,h=>by
  have a:b≠c:=fun e=>h (by simp[e]);rw[qI,if_neg a,oo fun k=>h (bq _ k)];simp
theorem o7 {c:UInt8} : ∀ {a cur r:List UInt8},c∉a->qI c cur (a++c::r)=(cur++a)::qI c [] r
 | [],cur,r,_=>by simp[qI]
 | b::a,cur,r,h=>by
  have d:b≠c:=fun e=>h (by simp[e]);rw[List.cons_append,qI,if_neg d,o7 fun k=>h (bq _ k)];simp
theorem Gt (c:UInt8): ∀(l cur:List UInt8),(qI c cur l).length<=l.length+1
 | [],cur=>by simp[qI]
 | b::l,cur=>by
  rw[qI];split
  ·have:=Gt c l [];simp only[aq];omega
  ·have:=Gt c l (cur++ [b]);simp only[aq];omega
theorem uR (c:UInt8): ∀(l cur:List UInt8),∀x∈qI c cur l,x.length<=cur.length+l.length
 | [],cur,x,h=>by simp[qI] at h;subst h;simp
 | b::l,cur,x,h=>by
  rw[qI] at h;split at h
  ·rcases aG h with rfl | h
   ·simp
   ·have:=uR c l [] x h;simp at this;simp;omega
  ·have:=uR c l _ x h;simp at this;simp;omega
theorem vE (c:UInt8) (l:List UInt8):c∉l\/ ∃a r,l=a++c::r/\c∉a:=by
 by_cases h:c∈l
 ·obtain ⟨a,r,e,k⟩:=List.eq_append_cons_of_mem h;exact .inr ⟨a,r,e,k⟩
 ·exact .inl h
theorem Gu (s:ByteArray):mkB s.data.toList=s:=by simp[mkB]
theorem yT (s:ByteArray): ∃l:List UInt8,s=mkB l:=⟨_,(Gu s).symm⟩
theorem sN {a b:List UInt8} (h:mkB a=mkB b):a=b:=by rw[<-gA a,h,gA]
theorem slB {l:List UInt8} {a b:Nat} (h1:a<=b) (c:b<=l.length):lG (mkB l) (a:Int) (b:Int)=some (mkB ((l.take b).drop a)):=by
 unfold lG chk;rw[aV,if_pos ⟨by omega,by omega,by omega⟩,aa];congr 1;refine ByteArray.ext ?_;simp[mkB,List.drop_take]
theorem atB {l:List UInt8} {i:Nat} (h:i<l.length):jB (mkB l) (i:Int)=some ((l[i].toNat:Nat):Int):=by
 rw[Bg (by rw[aV];exact h)];simp[mkB]
theorem vF (l:List UInt8) (c:UInt8) (n:l.length<=1000000):hY (mkB l) ((c.toNat:Nat):Int)=some ((qI c [] l).map mkB):=by
 obtain ⟨s,e,a,done,rfl,d,m,b⟩:=gz (f:=qn (mkB l) ((c.toNat:Nat):Int)) (fun i s=> ∃(a:Nat) (done:List (List UInt8)),s=(done.map mkB,(a:Int),(i:Int))/\a<=i/\done.length<=i/\done++qI c ((l.take i).drop a) (l.drop i)=qI c [] l) l.length (fun i s g j=>by
  obtain ⟨a,done,rfl,d,m,b⟩:=j;unfold qn;simp only[];rw[if_pos (decide_eq_true (by rw[aV];omega)),atB g];simp only[aa];rw[List.drop_eq_getElem_cons g,qI] at b;by_cases k:l[i] =c
  ·rw[if_pos k] at b;rw[if_pos (by rw[k];simp),slB d (by omega)];simp only[aa];have h:bw 16 (done.map mkB) [mkB ((l.take i).drop a)] =some (done.map mkB++ [mkB ((l.take i).drop a)]):=ax (by rw[List.length_map];simp only[aq,aD];omega);rw[h];simp only[aa];refine ⟨_,rfl,i+1,done++ [(l.take i).drop a],?_,aH _,by simp;omega,?_⟩
   ·rw[aX,List.map_cons,List.map_nil,af (by omega)]
   ·rw[<-b,aC,List.drop_of_length_le (l:=l.take (i+1)) (by rw[aB];omega)];rfl
  ·rw[if_neg k] at b;rw[if_neg (fun e=>k (UInt8.toNat_inj.1 (by have:=eq_of_beq e;omega)))];simp only[aa];refine ⟨_,rfl,a,done,?_,by omega,by omega,?_⟩
   ·rw[af (by omega)]
   ·rw[<-b,List.take_succ_eq_append_getElem g,List.drop_append_of_le_length (by rw[aB];omega)]) (fun s j=>by
  obtain ⟨a,done,rfl,d,m,b⟩:=j;unfold qn;simp only[];rw[if_neg (by rw[aV];simp)]) (s:=(([] :List ByteArray),0,0)) ⟨0,[],rfl,aH _,aH _,by simp⟩ (dq _ (by omega))
 unfold hY;rw[aj e,aV];simp only[];rw[slB d (aH _)];simp only[aa];have h:bw 16 (done.map mkB) [mkB ((l.take l.length).drop a)] =some (done.map mkB++ [mkB ((l.take l.length).drop a)]):=ax (by rw[List.length_map];simp only[aq,aD];omega);rw[h,<-b,List.drop_length,qI];simp
theorem Gv {c:UInt8} : ∀ {l:List UInt8},c∉l->Lib.index l [c] = -1
 | [],_=>rfl
 | b::l,h=>by
  have a:c≠b:=fun e=>h (by simp[e]);have k:([c] :List UInt8).isPrefixOf (b::l)=false:=by simp[List.isPrefixOf,a]
  rw[Lib.index,k,Gv fun k=>h (bq _ k)];rfl
theorem Gw {c:UInt8} : ∀ {a r:List UInt8},c∉a->Lib.index (a++c::r) [c] =(a.length:Int)
 | [],r,_=>by simp[Lib.index,List.isPrefixOf]
 | b::a,r,h=>by
  have d:c≠b:=fun e=>h (by simp[e]);have k:([c] :List UInt8).isPrefixOf (b::(a++c::r))=false:=by simp[List.isPrefixOf,d]
  rw[List.cons_append,Lib.index,k,Gw fun k=>h (bq _ k)];rw[if_neg (by decide),if_neg (by rw[beq_iff_eq];omega),aq];omega
theorem Iz (c:UInt8): ∀(n:Nat) (l:List UInt8),l.length<=n->Lib.splitK [c] 0 (Lib.count l [c]) l=qI c [] l
 | n,l,h=>by
  rcases vE c l with k | ⟨a,r,rfl,k⟩
  ·have e:=Gv k;rw[Lib.count_miss e,oo k];rfl
  ·have e:=Gw (r:=r) k;have b:(a++c::r).drop (a.length+1)=r:=by
    rw[<-List.drop_drop,List.drop_left];rfl
   rw[Lib.count_hit (by simp) e,o7 k,Nat.add_comm 1,Lib.splitK,e,if_neg (by rw[beq_iff_eq];omega)];show List.take (a.length+0) _::Lib.splitK [c] 0 (Lib.count ((a++c::r).drop (a.length+1)) [c]) ((a++c::r).drop (a.length+1))=_;rw[b,Nat.add_zero,List.take_left];cases n with
   | zero=>simp at h
   | succ n=>rw[Iz c n r (by simp at h;omega)];rfl
theorem Gy (l:List UInt8) (c:UInt8) (b:l.length<=1000000):dy (mkB l) (mkB [c])=some ((qI c [] l).map mkB):=by
 unfold dy R.Lo chk;rw[aV,aV,if_pos ⟨by omega,by simp⟩,aa];congr 1;have e:=Lib.splitB_data (mkB [c]) 0 (Lib.countB (mkB l) (mkB [c])) (mkB l);rw[gA,gA] at e;have a:Lib.countB (mkB l) (mkB [c])=Lib.count l [c]:=by unfold Lib.countB;rw[gA,gA]
 rw[a,Iz c l.length l (aH _)] at e;rw[a,<-e,List.map_map]
 conv=>lhs;rw[<-List.map_id (Lib.splitB _ _ _ _)]
 exact List.map_congr_left fun x _=>(Gu x).symm
theorem Uw {l:List UInt8} {c:UInt8} (a:l.length<=1000000) (h:c∉l):dI (mkB l) (mkB [c])=some (mkB l,mkB [],false):=by
 unfold dI R.aac chk;rw[aV,if_pos (by omega),aa,gA,gA]
 have:Lib.cut l [c] =(l,[],false):=by unfold Lib.cut;rw[Gv h,if_neg (by decide)]
 rw[this];rfl
theorem VS {a r:List UInt8} {c:UInt8} (d:(a++c::r).length<=1000000) (h:c∉a):dI (mkB (a++c::r)) (mkB [c])=some (mkB a,mkB r,true):=by
 unfold dI R.aac chk;rw[aV,if_pos (by omega),aa,gA,gA]
 have:Lib.cut (a++c::r) [c] =(a,r,true):=by
  unfold Lib.cut;rw[Gw h,if_pos (by omega)];have b:(a++c::r).drop (a.length+1)=r:=by
   rw[<-List.drop_drop,List.drop_left];rfl
  show (List.take a.length _,List.drop (a.length+1) _,true)=_;rw[List.take_left,b]
 rw[this];rfl
theorem L4 {c:UInt8} : ∀ {l:List UInt8},c∉l->Lib.indexByte l c= -1
 | [],_=>rfl
 | b::l,h=>by
  have a:b≠c:=fun e=>h (by simp[e]);rw[Lib.indexByte,if_neg (by simpa using a),L4 fun k=>h (bq _ k)];rfl
theorem VT {c:UInt8} : ∀ {a r:List UInt8},c∉a->Lib.indexByte (a++c::r) c=(a.length:Int)
 | [],r,_=>by simp[Lib.indexByte]
 | b::a,r,h=>by
  have d:b≠c:=fun e=>h (by simp[e]);rw[List.cons_append,Lib.indexByte,if_neg (by simpa using d),VT fun k=>h (bq _ k),if_neg (by rw[beq_iff_eq];omega),aq];omega
theorem acW {α:Type} {l:List α} (h:l.length=3): ∃a b c,l= [a,b,c]:=by
 match l,h with
 | [a,b,c],_=>grind
abbrev EgT:Type:=Int×Int×Int×Int
theorem Ux (c:UInt8) (cur l:List UInt8):1<=(qI c cur l).length:=by
 grind[vE,oo,o7]
theorem IA (u:Nat): ∀b∈Lib.decDigits u,48<=b.toNat/\b.toNat<=57:=by
 induction u using Nat.strongRecOn with
 | _ u c =>
  intro b a;have k: ∀d,d<10->48<=(UInt8.ofNat (48+d)).toNat/\(UInt8.ofNat (48+d)).toNat<=57:=fun d f=>by
   have e:(UInt8.ofNat (48+d)).toNat=48+d:=by simp;omega
   omega
  by_cases h:u<10
  ·grind[Lib.decDigits_one,List.mem_singleton]
  ·rw[Bf h] at a;rcases aE a with a | a
   ·exact c (u / 10) (by omega) b a
   ·cases al a;exact k _ (Nat.mod_lt _ (by omega))
theorem Uy (n:Int): ∀b∈Lib.itoa n,b.toNat=45\/48<=b.toNat/\b.toNat<=57:=by
 intro b a;unfold Lib.itoa at a;split at a
 ·rcases aG a with rfl | a
  ·grind
  grind[IA]
 grind[IA]
theorem C5 {n:Int} {c:UInt8} (h1:c.toNat≠45) (a:c.toNat<48\/57<c.toNat):c∉Lib.itoa n:=fun h=>by
 grind[Uy]
theorem aba {n:Int} (h:0<=n/\n<=9):Lib.itoa n= [UInt8.ofNat (48+n.toNat)]:=by
 unfold Lib.itoa;rw[if_neg (by omega),Lib.decDigits_one (by omega)]
theorem Gz {e:EgT} (h:edOk e):uQ e=Lib.itoa e.1++58:: [UInt8.ofNat (48+e.2.1.toNat),UInt8.ofNat (97+e.2.2.2.toNat),UInt8.ofNat (48+e.2.2.1.toNat)]:=by
 obtain ⟨-,b,a,-⟩:=h;grind[uQ,aba]
theorem abb: ∀k:Fin 9,∃x,fS (k.val:Int)=some x:=by
 intro k
 match k with
 | ⟨0,_⟩=>exact ⟨_,rfl⟩
 | ⟨1,_⟩=>exact ⟨_,rfl⟩
 | ⟨2,_⟩=>exact ⟨_,rfl⟩
 | ⟨3,_⟩=>exact ⟨_,rfl⟩
 | ⟨4,_⟩=>exact ⟨_,rfl⟩
 | ⟨5,_⟩=>exact ⟨_,rfl⟩
 | ⟨6,_⟩=>exact ⟨_,rfl⟩
 | ⟨7,_⟩=>exact ⟨_,rfl⟩
 | ⟨8,_⟩=>exact ⟨_,rfl⟩
theorem Nw (z:ByteArray): ∃r,hZ z=some r:=by
 have ⟨o,e,h⟩:=b9 (f:=mj z) (fun i s=>s=(i:Int)) (fun o=> ∀s,o≠ .nxt s) 9 (fun i s g d=>by
  subst d;unfold mj;by_cases a:i<9
  ·have ⟨x,b⟩:=abb ⟨i,a⟩;rw[if_pos (decide_eq_true (by omega)),b];simp only[aa];by_cases c:(x==z)=true
   ·simp_all
   ·rw[if_neg c];grind[af]
  ·obtain rfl:i=9:=by omega
   grind) (s:=(0:Int)) rfl (dq _ (by omega))
 unfold hZ;rw[e];cases o with
 | nxt s=>grind
 | brk s=>exact ⟨_,rfl⟩
 | ret r=>exact ⟨_,rfl⟩
theorem Rg: ∀k:Fin 3,hZ (mkB [UInt8.ofNat (97+k.val)])=some (2*(k.val:Int),true):=by
 intro k
 match k with
 | ⟨0,_⟩=>rfl
 | ⟨1,_⟩=>rfl
 | ⟨2,_⟩=>rfl
theorem adC: ∀d:Fin 5,i64.wrap ((i64.wrap (((UInt8.ofNat (48+d.val)).toNat:Nat):Int)) - 48)=(d.val:Int):=by decide
theorem adY: ∀d:Fin 3,i64.wrap ((i64.wrap (((UInt8.ofNat (97+d.val)).toNat:Nat):Int)) - 97)=(d.val:Int):=by decide
theorem adZ: ∀d:Fin 3,GH (2*(d.val:Int)) 2=(d.val:Int):=by decide
def abS (s:List UInt8) (r:EgT×Bool):Prop:=r=((0,0,0,0),false)\/r.2=true/\edOk r.1/\s=uQ r.1
theorem VU {e:EgT} {s:List UInt8} (h:s≠ []): ∃r:EgT×Bool,(if (if edOk e then mkB (uQ e) else mkB []) !=mkB s then (some ((0,0,0,0),false)) else (some (e,true)):Option (EgT×Bool))=some r/\abS s r:=by
 by_cases k:edOk e
 ·rw[if_pos k];by_cases c:mkB (uQ e)=mkB s
  ·rw[if_neg (by simp[c])];exact ⟨_,rfl,.inr ⟨rfl,k,(sN c).symm⟩⟩
  ·rw[if_pos (by grind)];exact ⟨_,rfl,.inl rfl⟩
 ·rw[if_neg k,if_pos (by
   grind[sN])]
  exact ⟨_,rfl,.inl rfl⟩
theorem ad0 (l:List UInt8) (j:l.length<=1000000): ∃r,iJ (mkB l)=some r/\abS l r:=by
 unfold iJ;have e:hY (mkB l) 58=some ((qI 58 [] l).map mkB):=vF l 58 j;rw[e];simp only[aa];rcases vE 58 l with k | ⟨a,r,rfl,k⟩
 ·rw[oo k];exact ⟨_,rfl,.inl rfl⟩
 ·rw[o7 k];rcases vE 58 r with c | ⟨b,q,rfl,c⟩
  ·rw[oo c];simp only[List.nil_append,List.map_cons,List.map_nil];have g:aS [mkB a,mkB r] 0=some (mkB a):=rfl;have p:aS [mkB a,mkB r] 1=some (mkB r):=rfl;rw[if_neg (by simp)];simp only[g,p,aa,aV];by_cases s:r.length=3
   ·obtain ⟨x,y,z,rfl⟩:=acW s;obtain ⟨n,h,-,-⟩:=sM (mkB a);have ⟨t,m⟩:=Nw (mkB [y]);have o:lG (mkB [x,y,z]) 1 2=some (mkB [y]):=slB (l:=[x,y,z]) (a:=1) (b:=2) (by decide) (by simp);have d:jB (mkB [x,y,z]) 0=some ((x.toNat:Nat):Int):=atB (l:=[x,y,z]) (i:=0) (by simp);have f:jB (mkB [x,y,z]) 2=some ((z.toNat:Nat):Int):=atB (l:=[x,y,z]) (i:=2) (by simp);rw[if_neg (by simp),h,o];simp only[aa];rw[m,d,f];simp only[aa];rw[Rc];exact VU (by simp)
   ·rw[if_pos (by grind)];exact ⟨_,rfl,.inl rfl⟩
  ·rw[o7 c]
   have:=Ux 58 [] q
   rw[if_pos (by grind)];exact ⟨_,rfl,.inl rfl⟩
theorem ad1 (l:List UInt8) (c:l.length<=1000000): ∃r,iO (mkB l)=some r/\abS l r:=by
 unfold iO;rcases vE 58 l with k | ⟨a,r,rfl,k⟩
 ·have b:dI (mkB l) (⟨#[58]⟩)=some (mkB l,mkB [],false):=Uw c k;rw[b];exact ⟨_,rfl,.inl rfl⟩
 ·have b:dI (mkB (a++58::r)) (⟨#[58]⟩)=some (mkB a,mkB r,true):=VS c k;rw[b];simp only[aa,aV];by_cases e:r.length=3
  ·obtain ⟨x,y,z,rfl⟩:=acW e;obtain ⟨n,-,h,-⟩:=sM (mkB a);have d:jB (mkB [x,y,z]) 0=some ((x.toNat:Nat):Int):=atB (l:=[x,y,z]) (i:=0) (by simp);have f:jB (mkB [x,y,z]) 1=some ((y.toNat:Nat):Int):=atB (l:=[x,y,z]) (i:=1) (by simp);have g:jB (mkB [x,y,z]) 2=some ((z.toNat:Nat):Int):=atB (l:=[x,y,z]) (i:=2) (by simp);rw[if_neg (by simp),h,d,f,g];simp only[aa];rw[Rd];exact VU (by simp)
  ·rw[if_pos (by grind)];exact ⟨_,rfl,.inl rfl⟩
theorem YJ {e:EgT} (h:edOk e):iJ (mkB (uQ e))=some (e,true)/\iO (mkB (uQ e))=some (e,true):=by
 have B:=yS h;have u:=Gz h;have g:(uQ e).length<=1000000:=by omega
 have ⟨H,G,M,T⟩:=id h;have ⟨F,S⟩:=Gr (n:=e.1) (by omega);have k:(58:UInt8)∉Lib.itoa e.1:=C5 (by decide) (by decide);have ⟨f,p,w⟩: ∃k:Nat,k<5/\e.2.1=(k:Int):=⟨e.2.1.toNat,by omega,by omega⟩;have ⟨t,s,v⟩: ∃k:Nat,k<5/\e.2.2.1=(k:Int):=⟨e.2.2.1.toNat,by omega,by omega⟩;have ⟨q,j,o⟩: ∃k:Nat,k<3/\e.2.2.2=(k:Int):=⟨e.2.2.2.toNat,by omega,by omega⟩;have m:uQ e=Lib.itoa e.1++58:: [UInt8.ofNat (48+f),UInt8.ofNat (97+q),UInt8.ofNat (48+t)]:=by
  rw[u,w,v,o];rfl
 have r:(58:UInt8) ∉ [UInt8.ofNat (48+f),UInt8.ofNat (97+q),UInt8.ofNat (48+t)]:=by
  have E:(UInt8.ofNat (48+f)).toNat=48+f:=by simp;omega
  have Q:(UInt8.ofNat (97+q)).toNat=97+q:=by simp;omega
  have L:(UInt8.ofNat (48+t)).toNat=48+t:=by simp;omega
  have J:(58:UInt8).toNat=58:=rfl;intro c;simp only[List.mem_cons,List.not_mem_nil,or_false] at c;rcases c with c | c | c <;> (have:=congrArg UInt8.toNat c;omega)
 have x:=atB (l:=[UInt8.ofNat (48+f),UInt8.ofNat (97+q),UInt8.ofNat (48+t)]) (i:=0) (by simp);have z:=atB (l:=[UInt8.ofNat (48+f),UInt8.ofNat (97+q),UInt8.ofNat (48+t)]) (i:=1) (by simp);have A:=atB (l:=[UInt8.ofNat (48+f),UInt8.ofNat (97+q),UInt8.ofNat (48+t)]) (i:=2) (by simp);have I:=slB (l:=[UInt8.ofNat (48+f),UInt8.ofNat (97+q),UInt8.ofNat (48+t)]) (a:=1) (b:=2) (by decide) (by simp);have O:=adC ⟨f,p⟩;have N:=adC ⟨t,s⟩;have P:=adY ⟨q,j⟩;have y:=adZ ⟨q,j⟩;have D:=Rg ⟨q,j⟩;have R:(e.1,(f:Int),(t:Int),(q:Int))=e:=by grind
 constructor
 ·unfold iJ;have d:hY (mkB (uQ e)) 58=some ((qI 58 [] (uQ e)).map mkB):=vF _ 58 g;rw[d];rw[m,o7 k,oo r];have C: ∀a b:ByteArray,aS [a,b] 0=some a:=fun a b=>rfl;have K: ∀a b:ByteArray,aS [a,b] 1=some b:=fun a b=>rfl;simp_all[aa,aV,if_neg,Rc,if_pos]
 ·unfold iO;have d:dI (mkB (uQ e)) (⟨#[58]⟩)=some (mkB (Lib.itoa e.1),mkB [UInt8.ofNat (48+f),UInt8.ofNat (97+q),UInt8.ofNat (48+t)],true):=by
   rw[m] at g⊢;exact VS g k
  rw[d];simp[aa,aV];simp_all[if_neg,aa,Rd,if_pos]
theorem Rh (l:List UInt8) (d:l.length<=1000000): ∃r,iJ (mkB l)=some r/\iO (mkB l)=some r/\abS l r:=by
 by_cases h: ∃e:EgT,edOk e/\l=uQ e
 ·obtain ⟨e,c,rfl⟩:=h;exact ⟨_,(YJ c).1,(YJ c).2,.inr ⟨rfl,c,rfl⟩⟩
 ·have ⟨m,i,g⟩:=ad0 l d;have ⟨k,f,j⟩:=ad1 l d;rcases g with rfl | ⟨-,a,b⟩
  ·rcases j with rfl | ⟨-,a,b⟩
   ·exact ⟨_,i,f,.inl rfl⟩
   grind
  grind
theorem Uz {e:EgT} (h:edOk e) {c:UInt8} (h1:c.toNat≠45) (b:c.toNat<48):c∉uQ e:=by
 obtain ⟨-,-,-,j⟩:=id h;rw[Gz h];intro a;rcases aE a with a | a
 ·grind[C5]
 ·have f:(UInt8.ofNat (48+e.2.1.toNat)).toNat=48+e.2.1.toNat:=by have:=h.2.1;simp;omega
  have d:(UInt8.ofNat (97+e.2.2.2.toNat)).toNat=97+e.2.2.2.toNat:=by simp;omega
  have i:(UInt8.ofNat (48+e.2.2.1.toNat)).toNat=48+e.2.2.1.toNat:=by have:=h.2.2.1;simp;omega
  have g:(58:UInt8).toNat=58:=rfl;simp only[List.mem_cons,List.not_mem_nil,or_false] at a;rcases a with a | a | a | a <;> (have:=congrArg UInt8.toNat a;omega)
theorem GB {c:ChT} (h:edOk c.2) {b:UInt8} (h1:b.toNat≠45) (e:b.toNat<48) (d:b.toNat≠43):b∉q9 c:=by
 intro a;rcases aG a with a | a
 ·have:=congrArg UInt8.toNat a
  split at this
  ·grind
  grind
 grind[Uz]
theorem AA {c:UInt8} : ∀ {r:List (List UInt8)} {x:List UInt8},c∉x->(∀y∈r,c∉y)->qI c [] (x++Lib.joinTail [c] r)=x::r
 | [],x,hx,_=>by
  have:Lib.joinTail [c] [] = []:=by simp[Lib.joinTail]
  rw[this,List.append_nil,oo hx];rfl
 | y::r,x,hx,hr=>by
  have:Lib.joinTail [c] (y::r)=c::(y++Lib.joinTail [c] r):=by simp[Lib.joinTail]
  rw[this,o7 hx,AA (hr y (by simp)) fun z a=>hr z (bq _ a)];rfl
theorem Ri {l:List ChT} (h:zR l) (e:l≠ []):qI 32 [] (btx l)=l.map q9:=by
 cases l with
 | nil=>grind
 | cons c r =>
  unfold btx;rw[List.map_cons,Lib.join_cons];refine AA (GB (h c (by simp)) (by decide) (by decide) (by decide)) fun y b=>?_;obtain ⟨d,a,rfl⟩:=List.mem_map.1 b;exact GB (h d (bq _ a)) (by decide) (by decide) (by decide)
theorem Rj:btx [] = []:=by simp[btx,Lib.join_nil]
theorem Rk {l:List ChT} (a:l≠ []):btx l≠ []:=by
 cases l with
 | nil=>grind
 | cons c r=>unfold btx;rw[List.map_cons,Lib.join_cons];simp[q9]
def abT (s:List UInt8) (r:(List ChT)×Bool):Prop:=r=([],false)\/r.2=true/\r.1.length<=6/\zR r.1/\s=btx r.1
theorem Rl {p:List UInt8} (h:1<=p.length):lG (mkB p) 1 (p.length:Int)=some (mkB (p.drop 1)):=by
 have:=slB (l:=p) (a:=1) (b:=p.length) h (aH _)
 grind
theorem sO (p:List UInt8):(mkB p==(⟨#[]⟩:ByteArray))=decide (p= []):=by
 by_cases h:p= []
 ·subst h;rfl
 ·rw[decide_eq_false h,beq_eq_false_iff_ne];intro k;exact h (sN (b:=[]) k)
open Classical in
theorem VV {f:List ChT->Option ByteArray} (d: ∀l,f l=some (if l.length<=6/\zR l then mkB (btx l) else mkB [])) {b:List ChT} {s:List UInt8} (h:s≠ []): ∃r:(List ChT)×Bool,((f b).bind fun a=>if a !=mkB s then (some (([] :List ChT),false)) else (some (b,true)):Option ((List ChT)×Bool))=some r/\abT s r:=by
 rw[d];simp only[aa];by_cases k:b.length<=6/\zR b
 ·rw[if_pos k];by_cases c:mkB (btx b)=mkB s
  ·rw[if_neg (by simp[c])];exact ⟨_,rfl,.inr ⟨rfl,k.1,k.2,(sN c).symm⟩⟩
  ·rw[if_pos (by simpa using c)];exact ⟨_,rfl,.inl rfl⟩
 ·rw[if_neg k,if_pos (by
   rw[bne_iff_ne];exact fun c=>h (sN c).symm)]
  exact ⟨_,rfl,.inl rfl⟩
theorem ad2 (l:List UInt8) (m:l.length<=1000000): ∃r,gD (mkB l)=some r/\(l= [] \/abT l r):=by
 unfold gD;by_cases h:l= []
 ·simp_all[sO,if_pos,decide_eq_true]
 rw[sO,if_neg (by grind)];have g:hY (mkB l) 32=some ((qI 32 [] l).map mkB):=vF l 32 m;rw[g];simp only[aa];have ⟨o,e,n⟩:=b9 (f:=dR ((qI 32 [] l).map mkB)) (fun i s=> ∃b:List ChT,s=((i:Int),b)/\b.length=i) (fun o=>o= .ret (([] :List ChT),false)\/ ∃s,o= .brk s) 7 (fun i s u j=>by
  obtain ⟨b,rfl,w⟩:=j;unfold dR;by_cases a:i<((qI 32 [] l).map mkB).length
  ·rw[bL a,if_pos rfl];by_cases x:i<=6
   ·rw[if_pos (decide_eq_true (by omega)),aM a];simp only[aa];rw[List.length_map] at a;have hp:=uR 32 l [] _ (List.getElem_mem a);rw[List.getElem_map];generalize (qI 32 [] l)[i] =p at hp⊢;rw[aV];by_cases v:p.length<2
    ·grind
    ·rw[if_neg (by grind),Rl (by omega)];simp only[aa];obtain ⟨r,c,-,-⟩:=Rh (p.drop 1) (by grind);rw[c];simp only[aa];have d:jB (mkB p) 0=some ((p[0].toNat:Nat):Int):=atB (l:=p) (i:=0) (by omega);by_cases q:r.2=true
     ·rw[if_pos q,d];simp only[aa];have t: ∀z:ChT,bw 40 b [z] =some (b++ [z]):=fun z=>ax (by grind);rw[t];exact .inl ⟨by omega,_,rfl,_,by rw[af (by omega)],by simp;omega⟩
     grind
   ·rw[if_neg (by grind)];grind
  simp_all[if_neg,decide_eq_true_eq]) (s:=(0,([] :List ChT))) ⟨[],rfl,rfl⟩ (dq _ (by omega))
 rcases n with rfl | ⟨s,rfl⟩
 ·rw[bD e];exact ⟨_,rfl,.inr (.inl rfl)⟩
 ·rw[aj e];have ⟨r,c,k⟩:=VV (f:=dF) (fun l=>(rS l).1) (b:=s.2) h;grind
theorem ad3 (l:List UInt8) (n:l.length<=1000000): ∃r,gI (mkB l)=some r/\(l= [] \/abT l r):=by
 unfold gI;by_cases j:l= []
 ·simp_all[sO,if_pos,decide_eq_true]
 rw[sO,if_neg (by grind)];have h:dy (mkB l) (⟨#[32]⟩)=some ((qI 32 [] l).map mkB):=Gy l 32 n;rw[h];simp only[aa];have w:=Gt 32 l [];have ⟨o,e,t⟩:=b9 (f:=ej ((qI 32 [] l).map mkB)) (fun i s=> ∃b:List ChT,s=((i:Int),b)/\b.length=i) (fun o=>o= .ret (([] :List ChT),false)\/ ∃s,o= .brk s) (qI 32 [] l).length (fun i s x m=>by
  obtain ⟨b,rfl,y⟩:=m;unfold ej;by_cases a:i<((qI 32 [] l).map mkB).length
  ·rw[bL a,if_pos rfl,aM a];simp only[aa];rw[List.length_map] at a;have hp:=uR 32 l [] _ (List.getElem_mem a);rw[List.getElem_map];generalize (qI 32 [] l)[i] =p at hp⊢;rw[sO,aV];by_cases q:p= []
   ·grind
   ·have c:=List.length_pos_iff.2 q;rw[if_neg (by grind),Rl c];simp only[aa];obtain ⟨r,-,d,-⟩:=Rh (p.drop 1) (by grind);rw[d];simp only[aa];have g:jB (mkB p) 0=some ((p[0].toNat:Nat):Int):=atB (l:=p) (i:=0) (by omega);by_cases u:r.2=true
    ·rw[if_pos u,g];simp only[aa];have v: ∀z:ChT,bw 40 b [z] =some (b++ [z]):=fun z=>ax (by grind);rw[v];exact .inl ⟨by omega,_,rfl,_,by rw[af (by omega)],by simp;omega⟩
    grind
  simp_all[if_neg,decide_eq_true_eq]) (s:=(0,([] :List ChT))) ⟨[],rfl,rfl⟩ (dq _ (by omega))
 rcases t with rfl | ⟨s,rfl⟩
 ·rw[bD e];exact ⟨_,rfl,.inr (.inl rfl)⟩
 ·rw[aj e];have ⟨r,d,k⟩:=VV (f:=fA) (fun l=>(rS l).2) (b:=s.2) j;grind
theorem Rm {L:List ChT} (h:zR L) (o:L.length<=6) {i:Nat} (hi:i<L.length):dR ((L.map q9).map mkB) ((i:Int),L.take i)=some (.nxt (((i+1:Nat):Int),L.take (i+1)))/\ej ((L.map q9).map mkB) ((i:Int),L.take i)=some (.nxt (((i+1:Nat):Int),L.take (i+1))):=by
 have a:i<((L.map q9).map mkB).length:=by rw[List.length_map,List.length_map];exact hi
 have g:=h _ (List.getElem_mem hi);have k:((L.map q9).map mkB)[i] =mkB (q9 L[i]):=by simp
 have ⟨m,n⟩:=YJ g;have q:(q9 L[i]).length=(uQ L[i].2).length+1:=by rfl
 have r:4<=(uQ L[i].2).length:=by rw[Gz g];simp
 have f:(q9 L[i]).drop 1=uQ L[i].2:=rfl;have b:jB (mkB (q9 L[i])) 0=some (((if L[i].1 then (43:UInt8) else 45).toNat:Nat):Int):=atB (l:=q9 L[i]) (i:=0) (by omega);have d:((((if L[i].1 then (43:UInt8) else 45).toNat:Nat):Int)==43)=L[i].1:=by
  generalize L[i].1=t;cases t <;> rfl
 have j: ∀z:ChT,bw 40 (L.take i) [z] =some (L.take i++ [z]):=fun z=>ax (by grind);have e:=List.take_succ_eq_append_getElem hi;have c:=Rl (p:=q9 L[i]) (by omega);constructor
 ·unfold dR;rw[bL a,if_pos rfl,if_pos (decide_eq_true (by omega)),aM a,k];simp[aa];rw[aV,if_neg (by grind),c,f];simp[aa];rw[m];simp only[aa];rw[if_pos trivial,b];simp[aa];rw[d,j,af (by omega),e];rfl
 ·unfold ej;rw[bL a,if_pos rfl,aM a,k];simp only[aa];rw[sO,if_neg (by grind),aV,c,f];simp[aa];rw[n];simp only[aa];rw[if_pos trivial,b];simp[aa];rw[d,j,af (by omega),e];rfl
theorem YK {L:List ChT} (h:zR L) (d:L.length<=6):gD (mkB (btx L))=some (L,true)/\gI (mkB (btx L))=some (L,true):=by
 by_cases a:L= []
 ·subst a;exact ⟨rfl,rfl⟩
 have k:=C3 h;have e:(btx L).length<=1000000:=by omega
 have ⟨g,j⟩:=rS L;have l:=aY (f:=dR ((L.map q9).map mkB)) (fun i=>((i:Int),L.take i)) L.length (fun i b=>(Rm h d b).1) (by
  simp_all[dR,if_neg]) (dq _ (by omega))
 have b:=aY (f:=ej ((L.map q9).map mkB)) (fun i=>((i:Int),L.take i)) L.length (fun i b=>(Rm h d b).2) (by
  simp_all[ej,if_neg]) (dq _ (by omega))
 constructor
 ·unfold gD;have c:hY (mkB (btx L)) 32=some ((qI 32 [] (btx L)).map mkB):=vF _ 32 e;rw[sO,if_neg (by simpa using Rk a),c,Ri h a];grind[aj]
 ·unfold gI;have c:dy (mkB (btx L)) (⟨#[32]⟩)=some ((qI 32 [] (btx L)).map mkB):=Gy _ 32 e;rw[sO,if_neg (by simpa using Rk a),c,Ri h a];grind[aj]
theorem YL (l:List UInt8) (g:l.length<=1000000): ∃r,gD (mkB l)=some r/\gI (mkB l)=some r/\abT l r:=by
 by_cases h: ∃L:List ChT,L.length<=6/\zR L/\l=btx L
 ·obtain ⟨L,d,f,rfl⟩:=h;exact ⟨_,(YK f d).1,(YK f d).2,.inr ⟨rfl,d,f,rfl⟩⟩
 ·have j:l≠ []:=fun e=>h ⟨[],by simp,fun c s=>by grind,by rw[e,Rj]⟩;have ⟨p,n,m⟩:=ad2 l g;have ⟨q,o,i⟩:=ad3 l g;rcases m with k | rfl | ⟨-,a,b,c⟩
  ·grind
  ·rcases i with k | rfl | ⟨-,a,b,c⟩
   ·grind
   ·exact ⟨_,n,o,.inl rfl⟩
   grind
  grind
def recT (v:Int) (b:List ChT):List UInt8:=((di v b).getD ByteArray.empty).data.toList
theorem wz (v:Int) (b:List ChT):di v b=some (mkB (recT v b))/\fY v b=some (mkB (recT v b))/\(recT v b).length<=1000:=by
 have ⟨r,c,a,h⟩:=C4 v b;grind[mkB,recT,Gu,aV]
def totL (r:List Int) (q:List (List ChT)):Nat->Nat
 | 0=>0
 | i+1=>totL r q i+(recT (nth r (i:Int)) (nth q (i:Int))).length
theorem L5 {r:List Int} {q:List (List ChT)} (h:q.length=r.length) (x:List Int) (y:List (List ChT)): ∀i,i<=r.length->totL (r++x) (q++y) i=totL r q i
 | 0,_=>rfl
 | i+1,hi=>by
  rw[totL,totL,L5 h x y i (by omega),ke (by omega) (by omega),ke (by omega) (by omega)]
theorem Rn {r:List Int} {q:List (List ChT)} (h:q.length=r.length) (v:Int) (b:List ChT):totL (r++ [v]) (q++ [b]) (r++ [v]).length=totL r q r.length+(recT v b).length:=by
 have c:nth (r++ [v]) ((r.length:Nat):Int)=v:=by rw[bH (by simp)];simp
 have a:nth (q++ [b]) ((r.length:Nat):Int)=b:=by rw[<-h,bH (by simp)];simp
 simp_all[az,aq,aD,Nat.zero_add,totL,L5,aH]
theorem IB (l:List UInt8) (d:l.length<=1000000): ∃r:Int×List ChT×Bool,fT (mkB l)=some r/\lr (mkB l)=some r/\r.2.1.length<=6/\(-999999999<=r.1/\r.1<=999999999)/\(r.2.2=true->recT r.1 r.2.1=l):=by
 unfold fT lr;have g:hY (mkB l) 59=some ((qI 59 [] l).map mkB):=vF l 59 d;have j:dy (mkB l) (⟨#[59]⟩)=some ((qI 59 [] l).map mkB):=Gy l 59 d;rw[g,j];by_cases n:(qI 59 [] l).length=3
 ·have hp:=uR 59 l [];have ⟨a,b,c,e⟩:=acW n;rw[e] at hp⊢;have m:=hp b (by simp);rw[aD] at m;have p:aS [mkB a,mkB b,mkB c] 0=some (mkB a):=rfl;have x:aS [mkB a,mkB b,mkB c] 1=some (mkB b):=rfl;have ⟨v,A,y,kv⟩:=sM (mkB a);have ⟨q,s,w,k⟩:=YL b (by omega);obtain ⟨t,u,o,-⟩:=C4 v.1 q.1;have z:q.1.length<=6:=by
   rcases k with rfl | ⟨-,k,-⟩
   ·simp
   ·exact k
  by_cases i:v.2=true
  ·by_cases f:q.2=true
   ·by_cases h:(t !=mkB l)=true
    ·simp_all
    ·simp[if_pos i,if_pos f,if_neg h];grind[mkB,wz,sN,ae]
   simp_all
  simp_all
 ·have k:(((List.map mkB (qI 59 [] l)).length:Int) !=3)=true:=by
   rw[bne_iff_ne,List.length_map];omega
  simp_all
def ScOk (vs:List Int) (bs:List (List ChT)):Prop:=bs.length=vs.length/\(∀b∈bs,b.length<=6)/\ ∀v∈vs,(-999999999<=v/\v<=999999999)/\v<=nth vs ((vs.length:Int) - 1)
theorem L6 (vs:List Int) (v:Int):nth (vs++ [v]) (((vs++ [v]).length:Int) - 1)=v:=by
 simp_all[bH]
theorem ScOk.push {vs:List Int} {bs:List (List ChT)} (h:ScOk vs bs) {v:Int} {b:List ChT} (f:b.length<=6) (hv: -999999999<=v/\v<=999999999) (g:0<vs.length->v=i64.wrap (nth vs ((vs.length:Int) - 1)+1)):ScOk (vs++ [v]) (bs++ [b]):=by
 have ⟨e,c,i⟩:=h;refine ⟨by grind,fun d a=>?_,fun d a=>?_⟩
 ·grind
 ·rw[L6];rcases aE a with q | q
  ·grind[List.length_pos_of_mem,cw,br]
  grind
theorem C6 {l:List UInt8} (h:l.length<=4000) {vs:List Int} {bs:List (List ChT)} {u:Int} : ∀(a r:List UInt8) (i k:Nat),(10:UInt8)∉a->l.drop i=a++r->i<=l.length->ah (aN (mkB l)) (k+a.length) (vs,bs,u,(i:Int))=ah (aN (mkB l)) k (vs,bs,u,((i+a.length:Nat):Int))
 | [],r,i,k,_,_,_=>rfl
 | x::a,r,i,k,hx,e,hi=>by
  have b:i<l.length:=by
   have:=congrArg List.length e
   rw[aZ,az,aq] at this;omega
  have c:=List.drop_eq_getElem_cons b;rw[c,List.cons_append] at e;have ⟨g,f⟩:=List.cons.inj e;have j:x.toNat≠10:=fun q=>hx (by
   have:x=10:=UInt8.toNat_inj.1 q
   grind)
  have d:aN (mkB l) (vs,bs,u,(i:Int))=some (.nxt (vs,bs,u,((i+1:Nat):Int))):=by
   unfold aN;rw[aV,bL b,if_pos rfl,if_pos (decide_eq_true (by omega)),atB b,g];simp only[aa];rw[if_pos (by grind),af (by omega)];rfl
  rw[aq,show k+(a.length+1)=(k+a.length)+1 by omega,ah,d];show ah _ (k+a.length) _=_;rw[C6 h a r (i+1) k (fun q=>hx (bq _ q)) f b,show i+1+a.length=i+(a.length+1) by omega]
theorem YM {l:List UInt8} (z:l.length<=4000): ∀(m p:Nat) (vs:List Int) (bs:List (List ChT)),l.length - p<m->p<=l.length->vs.length<=p->ScOk vs bs->totL vs bs vs.length<=p-> ∃(r:List Int) (q:List (List ChT)) (n:Nat),(∀k,l.length - p+1<=k->(ah (aN (mkB l)) k (vs,bs,(p:Int),(p:Int))=some (.ret (r,q,(n:Int)))\/ ∃i,ah (aN (mkB l)) k (vs,bs,(p:Int),(p:Int))=some (.brk (r,q,(n:Int),i)))/\ah (df (mkB l)) k (vs,bs,(p:Int))=some (.brk (r,q,(n:Int))))/\n<=l.length/\r.length<=n/\ScOk r q/\totL r q r.length<=n:=by
 intro m;induction m with
 | zero=>omega
 | succ m ih =>
  intro p vs bs X hp hv o x;have v:=o.1;have d:lG (mkB l) (p:Int) (l.length:Int)=some (mkB (l.drop p)):=by
   rw[slB hp (aH _),List.take_length]
  rcases vE 10 (l.drop p) with k | ⟨a,t,e,k⟩
  ·refine ⟨vs,bs,p,fun j A=>⟨.inr ⟨(l.length:Int),?_⟩,?_⟩,hp,hv,o,x⟩
   ·have S:(l.drop p).length=l.length - p:=aZ ..;obtain ⟨j,rfl⟩: ∃j',j=(j'+1)+(l.drop p).length:=⟨j - 1 - (l.length - p),by omega⟩;rw[C6 z (l.drop p) [] p (j+1) k (by simp) hp,ah,S,show p+(l.length - p)=l.length by omega]
    have:aN (mkB l) (vs,bs,(p:Int),(l.length:Int))=some (.brk (vs,bs,(p:Int),(l.length:Int))):=by
     unfold aN;simp only[];rw[aV,if_neg (by simp)]
    grind
   ·obtain ⟨j,rfl⟩: ∃j',j=j'+1:=⟨j - 1,by omega⟩
    have:df (mkB l) (vs,bs,(p:Int))=some (.brk (vs,bs,(p:Int))):=by
     unfold df;simp only[];have u:gm (mkB (l.drop p)) 10=some (-1):=by
      show some (Lib.indexByte _ 10)=_;rw[gA,L4 k]
     rw[aV,if_pos (decide_eq_true (by omega)),d];simp only[aa];rw[u];simp only[aa]
     rfl
    rw[ah,this]
  ·have f:(l.drop p).length=l.length - p:=aZ ..;rw[e,az,aq] at f;have s:p+a.length<l.length:=by omega
   have U:l[p+a.length] =10:=by
    have:(l.drop p)[a.length]? =some 10:=by rw[e];simp
    rw[List.getElem?_drop,List.getElem?_eq_getElem s] at this;exact ae this
   have ⟨r,E,P,G,F,O⟩:=IB ((l.take (p+a.length+1)).drop p) (by grind);have C:lG (mkB l) (p:Int) ((p+a.length+1:Nat):Int)=some (mkB ((l.take (p+a.length+1)).drop p)):=slB (by omega) (by omega);have u:gm (mkB (l.drop p)) 10=some (a.length:Int):=by
    show some (Lib.indexByte _ 10)=_;rw[gA,e,VT k]
   have J:i64.wrap ((i64.wrap ((p:Int)+(a.length:Int)))+1)=((p+a.length+1:Nat):Int):=by
    rw[br (n:=(p:Int)+(a.length:Int)) (by omega) (by omega),br (by omega) (by omega)];omega
   have T:i64.wrap ((p:Int)+(i64.wrap ((a.length:Int)+1)))=((p+a.length+1:Nat):Int):=by
    rw[br (n:=(a.length:Int)+1) (by omega) (by omega),br (by omega) (by omega)];omega
   have step:(aN (mkB l) (vs,bs,(p:Int),((p+a.length:Nat):Int))=some (.ret (vs,bs,(p:Int)))/\df (mkB l) (vs,bs,(p:Int))=some (.brk (vs,bs,(p:Int))))\/(aN (mkB l) (vs,bs,(p:Int),((p+a.length:Nat):Int))=some (.nxt (vs++ [r.1],bs++ [r.2.1],((p+a.length+1:Nat):Int),((p+a.length+1:Nat):Int)))/\df (mkB l) (vs,bs,(p:Int))=some (.nxt (vs++ [r.1],bs++ [r.2.1],((p+a.length+1:Nat):Int)))/\(0<vs.length->r.1=i64.wrap (nth vs ((vs.length:Int) - 1)+1))/\r.2.2=true):=by
    have w:bw 8 vs [r.1] =some (vs++ [r.1]):=ax (by grind);have y:bw 24 bs [r.2.1] =some (bs++ [r.2.1]):=ax (by grind);unfold aN df;simp only[];rw[aV,bL s,if_pos rfl,if_pos (decide_eq_true (by omega)),if_pos (decide_eq_true (by omega)),atB s,U,d];simp only[aa];rw[if_neg (by decide),u,af (show p+a.length<9223372036854775807 by omega),C];simp only[aa];rw[E,if_neg (by simp),J,T,C];simp only[aa];rw[P];simp only[aa];by_cases c:r.2.2=true
    ·rw[if_pos c,if_pos c];by_cases b:decide ((vs.length:Int)>0)=true
     ·rw[if_pos b,if_pos b];have W:0<vs.length:=by simpa using b
      rw[fG (by omega),aw (xs:=vs) (by omega) (by omega)];simp only[aa];by_cases g:(r.1 !=i64.wrap (nth vs ((vs.length:Int) - 1)+1))=true
      ·rw[if_pos g,if_pos g];exact .inl ⟨rfl,rfl⟩
      ·rw[if_neg g,if_neg g,w,y];exact .inr ⟨rfl,rfl,(fun _=>by grind),c⟩
     ·rw[if_neg b,if_neg b,w,y];exact .inr ⟨rfl,rfl,(fun h=>absurd (decide_eq_true (show (vs.length:Int)>0 by omega)) b),c⟩
    ·rw[if_neg c,if_neg c];exact .inl ⟨rfl,rfl⟩
   rcases step with ⟨B,D⟩ | ⟨B,D,K,H⟩
   ·refine ⟨vs,bs,p,fun j A=>⟨.inl ?_,?_⟩,hp,hv,o,x⟩
    ·obtain ⟨j,rfl⟩: ∃j',j=(j'+1)+a.length:=⟨j - 1 - a.length,by omega⟩;simp_all[C6,ah]
    ·obtain ⟨j,rfl⟩: ∃j',j=j'+1:=⟨j - 1,by omega⟩;rw[ah,D]
   ·have I:totL (vs++ [r.1]) (bs++ [r.2.1]) (vs++ [r.1]).length<=p+a.length+1:=by
     rw[Rn v,O H,aZ,aB];omega
    have ⟨R,Q,n,M,L,N,V⟩:=ih (p+a.length+1) (vs++ [r.1]) (bs++ [r.2.1]) (by omega) (by omega) (by grind) (o.push G F K) I;refine ⟨R,Q,n,fun j A=>⟨?_,?_⟩,L,N,V⟩
    ·obtain ⟨j,rfl⟩: ∃j',j=(j'+1)+a.length:=⟨j - 1 - a.length,by omega⟩;rw[C6 z a (10::t) p (j+1) k e hp,ah,B];exact (M j (by omega)).1
    ·obtain ⟨j,rfl⟩: ∃j',j=j'+1:=⟨j - 1,by omega⟩;grind[ah]
theorem l6 (l:List UInt8) (p:l.length<=1000000000): ∃(r:List Int) (q:List (List ChT)) (n:Nat),m_s_ScanLog (mkB l)=some (r,q,(n:Int))/\m_i_ScanLog (mkB l)=some (r,q,(n:Int))/\n<=l.length/\r.length<=4000/\ScOk r q/\totL r q r.length<=n:=by
 unfold m_s_ScanLog m_i_ScanLog;by_cases h:l.length<=4000
 ·have ⟨r,q,n,g,f,o,j⟩:=YM h (l.length+1) 0 [] [] (by omega) (by omega) (by simp) ⟨rfl,fun b c=>(by cases c),fun b c=>(by cases c)⟩ (Nat.zero_le _);have ⟨a,d⟩:=g aU (dq _ (by omega));have d:ah (df (mkB l)) aU (([] :List Int),([] :List (List ChT)),0)=some (.brk (r,q,(n:Int))):=d;refine ⟨r,q,n,?_,?_,f,by omega,j⟩
  ·rcases a with a | ⟨i,a⟩
   ·have a:ah (aN (mkB l)) aU (([] :List Int),([] :List (List ChT)),0,0)=_:=a;rw[bD a]
   ·have a:ah (aN (mkB l)) aU (([] :List Int),([] :List (List ChT)),0,0)=_:=a;rw[aj a]
  ·rw[aj d]
 ·have m:=dq 100 (by omega);have ⟨k,e⟩: ∃k,aU=k+1:=⟨aU - 1,by omega⟩;have a:ah (aN (mkB l)) aU (([] :List Int),([] :List (List ChT)),0,0)=some (.brk ([],[],0,0)):=by
   rw[e,ah]
   have:aN (mkB l) (([] :List Int),([] :List (List ChT)),0,0)=some (.brk ([],[],0,0)):=by
    unfold aN;simp only[];rw[aV,if_pos (decide_eq_true (by omega)),if_neg (by grind)]
   grind
  have d:ah (df (mkB l)) aU (([] :List Int),([] :List (List ChT)),0)=some (.brk ([],[],0)):=by
   rw[e,ah]
   have:df (mkB l) (([] :List Int),([] :List (List ChT)),0)=some (.brk ([],[],0)):=by
    unfold df;rw[aV,if_neg (by grind)]
   grind
  rw[aj a,aj d];exact ⟨[],[],0,rfl,rfl,by omega,by simp,⟨rfl,fun b c=>(by cases c),fun b c=>(by cases c)⟩,aH _⟩
abbrev EngT:=q8×sL×List CY×ByteArray
theorem L7 {h:q8} {r:sL} {ss:List CY} {lg:ByteArray} {v:Int} (hs:aF h=some v) (a:r.2.length<=1048576) (f:ss.length<=1048576) {i:Nat} (h1:i<ss.length) :
  cZ (h,r,ss,lg) v (i:Int)=cj (h,r,ss,lg) (i:Int)/\(cj (h,r,ss,lg) (i:Int)=some (.nxt ((i+1:Nat):Int))\/cj (h,r,ss,lg) (i:Int)=some (.ret false)):=by
 obtain ⟨k,d,e,-⟩:=yP r ss[i].2.1 a;have b:i64.wrap ((i:Int)+1)=((i+1:Nat):Int):=af (by omega);unfold cZ cj;simp only[fM,bL h1,if_true,aM h1,aa,AP,JP,d,e,hs,b];by_cases c:decide ((i:Int)>0)=true
 ·have g:aS ss (i64.wrap ((i:Int) - 1))=some (nth ss ((i:Int) - 1)):=by
   have:(i:Int)>0:=of_decide_eq_true c
   rw[fG (by omega),aw (by omega) (by omega)]
  simp only[if_pos c,g,aa];refine ⟨trivial,?_⟩
  repeat' split
  all_goals first | exact .inr rfl | exact .inl rfl
 ·simp only[if_neg c];refine ⟨trivial,?_⟩
  repeat' split
  all_goals first | exact .inr rfl | exact .inl rfl
theorem UA {h:q8} {r:sL} {ss:List CY} {lg:ByteArray} {v:Int} (hs:aF h=some v) (q:r.2.length<=1048576) (p:ss.length<=1048576): ∃o,ah (cj (h,r,ss,lg)) aU 0=some o/\ah (cZ (h,r,ss,lg) v) aU 0=some o/\(o= .ret false\/ ∃s,o= .brk s):=by
 have d:cj (h,r,ss,lg) (ss.length:Int)=some (.brk (ss.length:Int)):=by
  unfold cj;simp only[];rw[bG];rfl
 have j:cZ (h,r,ss,lg) v (ss.length:Int)=some (.brk (ss.length:Int)):=by
  unfold cZ;simp only[];rw[bG];rfl
 obtain ⟨o,e,u⟩:=b9 (f:=cj (h,r,ss,lg)) (fun i s=>s=(i:Int)) (fun o=>o= .ret false\/ ∃s,o= .brk s) ss.length (fun i s t m=>by
  subst m;by_cases l:i<ss.length
  ·rcases (L7 (lg:=lg) hs q p l).2 with k | k
   ·exact .inl ⟨l,_,k,rfl⟩
   ·exact .inr ⟨_,k,fun n h=>(by simp at h),.inl rfl⟩
  ·obtain rfl:i=ss.length:=by omega
   exact .inr ⟨_,d,fun n h=>(by simp at h),.inr ⟨_,rfl⟩⟩) (s:=(0:Int)) rfl (dq _ (by omega))
 refine ⟨o,e,?_,u⟩;rw[<-e];refine rQ (f:=cj (h,r,ss,lg)) (g:=cZ (h,r,ss,lg) v) (fun i s=>s=(i:Int)/\i<=ss.length) (fun i s m=>?_) aU 0 0 ⟨rfl,Nat.zero_le _⟩;obtain ⟨rfl,t⟩:=m;by_cases l:i<ss.length
 ·obtain ⟨a,b⟩:=L7 (lg:=lg) hs q p l;refine ⟨a,fun n c=>?_⟩;rcases b with b | b
  ·rw[b] at c;obtain rfl:=ae c |> Out.nxt.inj;exact ⟨rfl,l⟩
  ·rw[b] at c;simp at c
 ·obtain rfl:i=ss.length:=by omega
  exact ⟨by rw[d,j],fun n c=>by rw[d] at c;simp at c⟩
structure EngOk (e:EngT):Prop where
 hs:m_s_IsValidHistory e.1=some true
 hi:m_i_IsValidHistory e.1=some true
 hb:(1<=e.1.2.length/\e.1.2.length<=8)/\1<=e.1.1/\e.1.1<=1000 - (e.1.2.length:Int)
 reg:RegOk e.2.1
 sub:e.2.2.1.length<=4
 log:e.2.2.2.size<=4000
 sc: ∃(r:List Int) (q:List (List ChT)) (n:Nat),m_s_ScanLog e.2.2.2=some (r,q,(n:Int))/\m_i_ScanLog e.2.2.2=some (r,q,(n:Int))/\r.length<=4000/\ScOk r q/\totL r q r.length<=4000/\(r.length=0\/nth r ((r.length:Int) - 1)=latV e.1)
theorem Bh (e:EngT) (J:Data.sm e): ∃b,bh e=some b/\cQ e=some b/\(b=true->EngOk e):=by
 obtain ⟨h,r,ss,lg⟩:=e;obtain ⟨G,z,u,d⟩:=J;obtain ⟨L,j,m,t⟩:=kh h G;obtain ⟨F,I,N,A⟩:=rR z;have d:lg.size<=1048576:=d;obtain ⟨l,rfl⟩:=yT lg;have f:(mkB l).size=l.length:=aV l;have P:l.length<=1048576:=by rw[<-f];exact d
 unfold bh cQ si vd;simp only[fM,j,m,I,N,aa,f];cases L with
 | false=>exact ⟨false,rfl,rfl,fun c=>by cases c⟩
 | true =>
  cases F with
  | false=>exact ⟨false,rfl,rfl,fun c=>by cases c⟩
  | true =>
   obtain ⟨y,K⟩:=kj j m (t rfl);obtain ⟨o,H,M,p⟩:=UA (h:=h) (r:=r) (ss:=ss) (lg:=mkB l) y (aR z.2).1 (aR u).1;obtain ⟨a,D,n,v,w,O,E,C,Q⟩:=l6 l (by omega);simp only[if_true,y,K,v,w,aa,H,M];by_cases B:(ss.length:Int)<=4
   ·rw[if_neg (show¬decide ((ss.length:Int)>4)=true by rw[decide_eq_true_eq];omega),decide_eq_true B];by_cases x:(l.length:Int)<=4000
    ·rw[if_neg (show¬decide ((l.length:Int)>4000)=true by rw[decide_eq_true_eq];omega)];rcases p with rfl | ⟨s,rfl⟩
     ·exact ⟨false,rfl,rfl,fun c=>by cases c⟩
     ·simp only[aO,if_true,aa];by_cases g:((n:Int)==(l.length:Int))=true
      ·simp only[if_pos g,if_pos (decide_eq_true x)];by_cases k:((a.length:Int)==0)=true
       ·simp only[if_pos k,aa];exact ⟨true,rfl,rfl,fun _=>⟨j,m,t rfl,A rfl,by show ss.length<=4;omega,by show (mkB l).size<=4000;omega,a,D,n,v,w,E,C,by omega,.inl (by have:=eq_of_beq k;omega)⟩⟩
       ·have hp:0<a.length:=by
         rcases Nat.eq_zero_or_pos a.length with q | q
         ·exact absurd (by rw[q];rfl) k
         ·exact q
        simp only[if_neg k,fG (show a.length<=9223372036854775807 by omega),aw (xs:=a) (i:=(a.length:Int) - 1) (by omega) (by omega),aa];refine ⟨_,rfl,rfl,fun c=>⟨j,m,t rfl,A rfl,by show ss.length<=4;omega,by show (mkB l).size<=4000;omega,a,D,n,v,w,E,C,by omega,.inr (eq_of_beq c)⟩⟩
      ·simp only[if_neg g,aa];exact ⟨false,rfl,rfl,fun c=>by cases c⟩
    ·rw[if_pos (decide_eq_true (show (l.length:Int)>4000 by omega))];rcases p with rfl | ⟨s,rfl⟩
     ·exact ⟨false,rfl,rfl,fun c=>by cases c⟩
     ·simp only[aO,if_true,aa];by_cases g:((n:Int)==(l.length:Int))=true
      ·simp only[if_pos g,if_neg (show¬decide ((l.length:Int)<=4000)=true by rw[decide_eq_true_eq];exact x),aa];exact ⟨false,rfl,rfl,fun c=>by cases c⟩
      ·simp only[if_neg g,aa];exact ⟨false,rfl,rfl,fun c=>by cases c⟩
   ·rw[if_pos (decide_eq_true (show (ss.length:Int)>4 by omega)),decide_eq_false B];rcases p with rfl | ⟨s,rfl⟩
    ·exact ⟨false,rfl,rfl,fun c=>by cases c⟩
    ·exact ⟨false,rfl,rfl,fun c=>by cases c⟩
def SubP (r:sL) (L:Int) (ss:List CY) (i:Nat):Prop:=(1<=(nth ss (i:Int)).1/\(nth ss (i:Int)).1<=99)/\(0<i->(nth ss ((i:Int) - 1)).1<(nth ss (i:Int)).1)/\(∃q∈r.2,q.1=(nth ss (i:Int)).2.1)/\0<=(nth ss (i:Int)).2.2/\(nth ss (i:Int)).2.2<=L
theorem VW (r:sL) (id:Int) (a:r.2.length<=1048576): ∃k,cD r id=some k/\(k<0↔ ¬ ∃q∈r.2,q.1=id):=by
 rcases aa0 r id a with ⟨e,h⟩ | ⟨i,d,e,h⟩
 ·exact ⟨_,e,fun _ ⟨q,f,b⟩=>h q f b,fun _=>by decide⟩
 ·exact ⟨_,e,fun c=>by omega,fun c=>absurd ⟨_,List.getElem_mem d,h⟩ c⟩
open Classical in
theorem Ro {h:q8} {r:sL} {ss:List CY} (lg:ByteArray) {L:Int} (hs:aF h=some L) (o:r.2.length<=1048576) (p:ss.length<=1048576) {i:Nat} (h1:i<ss.length):cj (h,r,ss,lg) (i:Int)=some (if SubP r L ss i then .nxt ((i+1:Nat):Int) else .ret false):=by
 obtain ⟨k,l,g⟩:=VW r (nth ss (i:Int)).2.1 o;have j:aS ss (i:Int)=some (nth ss (i:Int)):=aw (by omega) (by omega);have m:i64.wrap ((i:Int)+1)=((i+1:Nat):Int):=af (by omega);have tail: ∀c:(1<=(nth ss (i:Int)).1/\(nth ss (i:Int)).1<=99)/\(0<i->(nth ss ((i:Int) - 1)).1<(nth ss (i:Int)).1),(if decide (k<0)=true then some (Out.ret false) else ((some (decide (0<=(nth ss (i:Int)).2.2/\(nth ss (i:Int)).2.2<=L))).bind fun x=>if x=true then some (Out.nxt ((i+1:Nat):Int)) else some (Out.ret false)):Option (Out Bool Int))=some (if SubP r L ss i then .nxt ((i+1:Nat):Int) else .ret false):=by
  intro c;by_cases d:k<0
  ·rw[if_pos (decide_eq_true d),if_neg (fun hp=>g.1 d hp.2.2.1)]
  ·rw[if_neg (by simpa using d)];by_cases b:0<=(nth ss (i:Int)).2.2/\(nth ss (i:Int)).2.2<=L
   ·simp only[decide_eq_true b,aa,if_true];rw[if_pos ⟨c.1,c.2,Classical.not_not.1 (mt g.2 d),b⟩]
   ·simp only[decide_eq_false b,aa,Bool.false_eq_true,if_false];rw[if_neg (fun hp=>b hp.2.2.2)]
 unfold cj;simp only[fM,bL h1,if_true,j,aa,AP,l,hs,m];by_cases a:1<=(nth ss (i:Int)).1/\(nth ss (i:Int)).1<=99
 ·simp only[decide_eq_true a,if_true];by_cases e:(i:Int)>0
  ·have n:aS ss (i64.wrap ((i:Int) - 1))=some (nth ss ((i:Int) - 1)):=by
    rw[fG (by omega),aw (by omega) (by omega)]
   simp only[decide_eq_true e,if_true,n,aa];by_cases f:(nth ss ((i:Int) - 1)).1≥(nth ss (i:Int)).1
   ·simp only[decide_eq_true f,if_true];rw[if_neg (fun hp=>by have:=hp.2.1 (by omega);omega)]
   ·simp only[decide_eq_false f,Bool.false_eq_true,if_false];exact tail ⟨a,fun _=>by omega⟩
  ·simp only[decide_eq_false e,Bool.false_eq_true,if_false];exact tail ⟨a,fun h=>absurd h (by omega)⟩
 ·simp only[decide_eq_false a,Bool.false_eq_true,if_false];rw[if_neg (fun hp=>a hp.1)]
structure EV (e:EngT):Prop where
 his:m_s_IsValidHistory e.1=some true
 reg:m_s_IsValidRegistry e.2.1=some true
 len:e.2.2.1.length<=4
 sub: ∀i,i<e.2.2.1.length->SubP e.2.1 (latV e.1) e.2.2.1 i
 log: ∃r q,m_s_ScanLog e.2.2.2=some (r,q,(e.2.2.2.size:Int))/\e.2.2.2.size<=4000/\(r.length=0\/nth r ((r.length:Int) - 1)=latV e.1)
open Classical in
theorem AB (e:EngT) (N:Data.sm e): ∃b,bh e=some b/\(b=true↔EV e):=by
 obtain ⟨h,r,g,d⟩:=e;obtain ⟨K,D,y,m⟩:=N;obtain ⟨P,p,z,M⟩:=kh h K;obtain ⟨H,v,X,T⟩:=rR D;have m:d.size<=1048576:=m;obtain ⟨l,s⟩:=yT d;have L:d.size=l.length:=by rw[s];exact aV l
 unfold bh si vd;simp only[fM,p,v,aa];cases P with
 | false=>exact ⟨false,rfl,fun c=>(by cases c),fun V=>by have:=V.his;rw[p] at this;cases this⟩
 | true =>
  cases H with
  | false=>exact ⟨false,rfl,fun c=>(by cases c),fun V=>by have:=V.reg;rw[v] at this;cases this⟩
  | true =>
   obtain ⟨C,-⟩:=kj p z (M rfl);have I:g.length<=1048576:=(aR y).1;have R:=T8 (f:=cj (h,r,g,d)) g.length (SubP r (latV h) g) false (by omega) (fun i J=>Ro d C (aR D.2).1 I J) (by
    unfold cj;simp only[];rw[bG];rfl)
   obtain ⟨j,F,n,k,-,S,Y,U,W⟩:=l6 l (by omega);rw[<-s] at k;simp only[if_true,C,k,aa];rcases R with ⟨A,x⟩ | ⟨A,x⟩
   ·rw[aj A];simp only[aa];by_cases E:(g.length:Int)<=4
    ·rw[if_pos (decide_eq_true E)];by_cases t:((n:Int)==(d.size:Int))=true
     ·have o:n=d.size:=by have:=eq_of_beq t;omega
      rw[if_pos t];by_cases B:(d.size:Int)<=4000
      ·rw[if_pos (decide_eq_true B)];by_cases w:((j.length:Int)==0)=true
       ·rw[if_pos w];exact ⟨true,rfl,fun _=>⟨p,v,(by show g.length<=4;omega),x,j,F,(by rw[<-o];exact k),(by show d.size<=4000;omega),.inl (by have:=eq_of_beq w;omega)⟩,fun _=>rfl⟩
       ·have hp:0<j.length:=by
         rcases Nat.eq_zero_or_pos j.length with q | q
         ·exact absurd (by rw[q];rfl) w
         ·exact q
        rw[if_neg w,fG (show j.length<=9223372036854775807 by omega),aw (xs:=j) (i:=(j.length:Int) - 1) (by omega) (by omega)];simp only[aa];refine ⟨_,rfl,fun c=>⟨p,v,(by show g.length<=4;omega),x,j,F,(by rw[<-o];exact k),(by show d.size<=4000;omega),.inr (eq_of_beq c)⟩,fun V=>?_⟩;obtain ⟨Q,O,a,-,u⟩:=V.log;have a:m_s_ScanLog d=_:=a;rw[k] at a;have a:=ae a;simp only[Prod.mk.injEq] at a;obtain ⟨rfl,-,-⟩:=a;rcases u with u | u
        ·omega
        ·exact beq_iff_eq.2 u
      ·rw[if_neg (by simpa using B)];exact ⟨false,rfl,fun c=>(by cases c),fun V=>by
        obtain ⟨-,-,-,G,-⟩:=V.log;have G:d.size<=4000:=G;omega⟩
     ·rw[if_neg t];exact ⟨false,rfl,fun c=>(by cases c),fun V=>by
       obtain ⟨Q,O,a,-,-⟩:=V.log;have a:m_s_ScanLog d=_:=a;rw[k] at a;have a:=ae a;simp only[Prod.mk.injEq] at a;exact absurd (beq_iff_eq.2 a.2.2) t⟩
    ·rw[if_neg (by simpa using E)];exact ⟨false,rfl,fun c=>(by cases c),fun V=>by
      have:g.length<=4:=V.len
      omega⟩
   ·rw[bD A];exact ⟨false,rfl,fun c=>(by cases c),fun V=>absurd V.sub x⟩
theorem acX {e:EngT} (a:Data.sm e) (V:EV e):bh e=some true/\cQ e=some true:=by
 obtain ⟨b,f,k⟩:=AB e a;obtain ⟨c,d,g,-⟩:=Bh e a;rw[f] at d;obtain rfl:=ae d;obtain rfl:=k.2 V;exact ⟨f,g⟩
theorem yU (h:q8) (w:Data.sm h):m_s_IsValidHistory h=some true↔(∀g∈h.2,Gh g/\g.1=(nth h.2 0).1)/\(1<=h.2.length/\h.2.length<=8)/\1<=h.1/\h.1<=1000 - (h.2.length:Int):=by
 obtain ⟨A,p⟩:=aR w.2;have v:i64.wrap ((i64.wrap (999 - (h.2.length:Int)))+1)=1000 - (h.2.length:Int):=by
  rw[br (n:=999 - (h.2.length:Int)) (by omega) (by omega),br (by omega) (by omega)];omega
 have j: ∀g∈h.2,(okG h g↔Gh g/\g.1=(nth h.2 0).1):=fun g d=>by
  have q:=p g d;obtain ⟨b,e,k⟩:=nQ g (aR q.1).1 (aR q.2).1;unfold okG;rw[e];constructor
  ·rintro ⟨a,c⟩;exact ⟨k.1 (ae a),c⟩
  ·rintro ⟨a,c⟩;rw[k.2 a];exact ⟨rfl,c⟩
 have y:=scan (f:=bC h) h.2 (okG h) false (by omega) (fun i z=>by
  have d:=p _ (cw (xs:=h.2) (i:=(i:Int)) (by omega) (by omega));obtain ⟨b,e⟩:=vD d;obtain ⟨r,x,s⟩:=xi (nth h.2 (i:Int)).1 (nth h.2 0).1 (aR d.1).1;have u:bI ((nth h.2 (i:Int)).1,(nth h.2 (i:Int)).2)=some b:=by rw[kg];exact e
  have m:okG h (nth h.2 (i:Int))↔b=true/\(nth h.2 (i:Int)).1=(nth h.2 0).1:=by unfold okG;rw[e];simp
  unfold bC;rw[if_pos (by simp;omega),aw (by omega) (by omega)];simp only[aa];rw[u,aw (xs:=h.2) (i:=0) (by omega) (by omega)];simp only[aa];rw[x,af (by omega)];simp only[aa];cases b with
  | false=>rw[if_neg (by decide),if_neg (fun c=>by cases (m.1 c).1)]
  | true =>
   rw[if_pos rfl];by_cases c:r=0
   ·rw[if_neg (by simp[c]),if_pos (m.2 ⟨rfl,s.1 c⟩)]
   ·rw[if_pos (by simpa using c),if_neg (fun k=>c (s.2 (m.1 k).2))]) (by unfold bC;simp)
 unfold m_s_IsValidHistory;rw[AP,AP,v];simp only[aa];rcases y with ⟨l,k⟩ | ⟨l,k⟩
 ·rw[aj l];have t: ∀g∈h.2,Gh g/\g.1=(nth h.2 0).1:=fun g d=>(j g d).1 (k g d);by_cases o:(1:Int)<=(h.2.length:Int)/\(h.2.length:Int)<=8
  ·rw[if_pos (decide_eq_true o)];simp only[Option.some.injEq,decide_eq_true_eq];exact ⟨fun c=>⟨t,by omega,c⟩,fun c=>c.2.2⟩
  ·rw[if_neg (by simpa using o)];exact ⟨fun c=>(by cases c),fun c=>absurd c.2.1 (by omega)⟩
 ·rw[bD l];exact ⟨fun c=>(by cases c),fun c=>absurd (fun g d=>(j g d).2 (c.1 g d)) k⟩
theorem C7 (h:q8) (b:Data.sm h):kB h=some h:=by
 obtain ⟨g,c⟩:=aR b.2;have e:=aY (f:=fb h) (fun i=>((i:Int),h.1,h.2.take i)) h.2.length (fun i a=>by
  have e:cn (h.2[i].1,h.2[i].2)=some h.2[i]:=mS h.2[i] (c _ (List.getElem_mem a));have d: ∀z:GrT,bw 48 (h.2.take i) [z] =some (h.2.take i++ [z]):=fun z=>ax (by rw[aB];simp only[aq,aD];omega);unfold fb;simp only[];rw[bL a,if_pos rfl,aM a];simp only[aa];rw[e];simp only[aa];rw[d,af (by omega),List.take_succ_eq_append_getElem a];rfl) (by
  unfold fb;simp only[];rw[bG];rfl) (dq _ (by omega))
 rw[List.take_length] at e;have e:ah (fb h) aU (0,h.1,[])=_:=e;unfold kB;rw[aj e]
theorem Kf (h:q8) (b:Data.sm h):j4 h=some h:=by
 obtain ⟨g,c⟩:=aR b.2;have e:=aY (f:=gq h) (fun i=>((i:Int),h.1,h.2.take i)) h.2.length (fun i a=>by
  have e:ff (h.2[i].1,h.2[i].2)=some h.2[i]:=CZ h.2[i] (c _ (List.getElem_mem a));have d: ∀z:GrT,bw 48 (h.2.take i) [z] =some (h.2.take i++ [z]):=fun z=>ax (by rw[aB];simp only[aq,aD];omega);unfold gq;simp only[];rw[bL a,if_pos rfl,aM a];simp only[aa];rw[e];simp only[aa];rw[d,af (by omega),List.take_succ_eq_append_getElem a];rfl) (by
  unfold gq;simp only[];rw[bG];rfl) (dq _ (by omega))
 rw[List.take_length] at e;have e:ah (gq h) aU (0,h.1,[])=_:=e;unfold j4;rw[aj e]
theorem qb (e:EngT) (a:Data.sm e):gE e=some e:=by
 obtain ⟨c,d,b,f⟩:=a;have g:=(aR b).1;unfold gE;simp only[fM,C7 e.1 c,QY e.2.1 d,aa];rw[ax (by simp;omega)];rfl
theorem Rp (e:EngT) (a:Data.sm e):kY e=some e:=by
 obtain ⟨c,d,b,f⟩:=a;have g:=(aR b).1;unfold kY;simp only[fM,Kf e.1 c,Yz e.2.1 d,aa];rw[ax (by simp;omega)];rfl
theorem Rq {α:Type} [Data α] {l:List α} (h:Data.sm l) (n:Nat):Data.sm (l.drop n):=
 ⟨by have:=(aR h).1;rw[aZ];omega,fun x a=>(aR h).2 x (List.mem_of_mem_drop a)⟩
def ND (v:Int) (r:List Int) (q:List (List ChT)):Nat->List UInt8
 | 0=>[]
 | i+1=>ND v r q i++if nth r (i:Int)>v then recT (nth r (i:Int)) (nth q (i:Int)) else []
theorem GC (v:Int) (r:List Int) (q:List (List ChT)): ∀i,(ND v r q i).length<=totL r q i
 | 0=>aH _
 | i+1=>by
  have:=GC v r q i
  rw[ND,totL,az];split
  ·omega
  ·simp;omega
theorem Rr (r:List Int) (q:List (List ChT)): ∀i,totL r q i<=1000*i
 | 0=>aH _
 | i+1=>by
  have:=Rr r q i
  have:=(wz (nth r (i:Int)) (nth q (i:Int))).2.2
  rw[totL];omega
theorem acY {v:Int} {r:List Int} {q:List (List ChT)} {n:Int} (j:q.length=r.length) (d:r.length<=4000):ah (mq v (r,q,n)) aU ((⟨#[]⟩:ByteArray),0,q)=some (.brk (mkB (ND v r q r.length),(r.length:Int),q)):=by
 refine aY (f:=mq v (r,q,n)) (fun i=>(mkB (ND v r q i),(i:Int),q)) r.length (fun i b=>?_) ?_ (dq _ (by omega))
 ·have a:=(wz (nth r (i:Int)) (nth q (i:Int))).1;have e:=(wz (nth r (i:Int)) (nth q (i:Int))).2.2;have h:=GC v r q i;have g:=Rr r q i;unfold mq;simp only[];rw[bL b,if_pos rfl,aw (xs:=r) (i:=(i:Int)) (by omega) (by omega)];simp only[aa];by_cases c:nth r (i:Int)>v
  ·rw[if_pos (decide_eq_true c),aw (xs:=q) (i:=(i:Int)) (by omega) (by omega)];simp only[aa];rw[a];simp only[aa];rw[yQ _ _ (by omega),af (by omega),ND,if_pos c];rfl
  ·rw[if_neg (by simpa using c),af (by omega),ND,if_neg c,List.append_nil];rfl
 ·unfold mq;simp only[];rw[bG];rfl
def adD (r:sL) (L:Int) (s:CY):Prop:=(1<=s.1/\s.1<=99)/\(∃q∈r.2,q.1=s.2.1)/\0<=s.2.2/\s.2.2<=L
def adE (ss:List CY):Prop:=ss.Pairwise fun a b=>a.1<b.1
theorem abc {r:sL} {L:Int} {ss:List CY} (h: ∀i,i<ss.length->SubP r L ss i):adE ss/\ ∀s∈ss,adD r L s:=by
 constructor
 ·have key: ∀j (b:j<ss.length) i (a:i<j),(ss[i]'(by omega)).1<ss[j].1:=by
   intro j;induction j with
   | zero=>intro _ i a;omega
   | succ j ih =>
    intro b i a;have e:=(h (j+1) b).2.1 (by omega);rw[show (((j+1:Nat):Int) - 1)=((j:Nat):Int) by omega,bH (show j<ss.length by omega),bH b] at e;by_cases c:i=j
    ·subst c;exact e
    ·have:=ih (by omega) i (by omega);omega
  exact List.pairwise_iff_getElem.2 fun i j a b d=>key j b i d
 ·intro s f;obtain ⟨i,a,rfl⟩:=List.getElem_of_mem f
  have:=h i a
  unfold SubP at this;rw[bH a] at this;exact ⟨this.1,this.2.2⟩
theorem abd {r:sL} {L:Int} {ss:List CY} (h1:adE ss) (d: ∀s∈ss,adD r L s): ∀i,i<ss.length->SubP r L ss i:=fun i c=>by
 obtain ⟨a,b⟩:=d _ (List.getElem_mem c);unfold SubP;rw[bH c];refine ⟨a,fun e=>?_,b⟩;rw[show ((i:Int) - 1)=((i - 1:Nat):Int) by omega,bH (show i - 1<ss.length by omega)];exact List.pairwise_iff_getElem.1 h1 (i - 1) i (by omega) c (by omega)
theorem YN (e:EngT) (a:Data.sm e) (id:Int) (x:List Tok) (o:Data.sm x): ∃y:EngT×Bool,gf e id x=some y/\Data.sm y.1/\(y.1.1=e.1/\y.1.2.2.2=e.2.2.2)/\(y.2=true->EV y.1):=by
 obtain ⟨b,G,w⟩:=AB e a;obtain ⟨r,t,m,v,I⟩:=Q0 a.2.1 id o;unfold gf;simp only[fM,qb e a,G,t,aa];cases b with
 | false=>exact ⟨(e,false),rfl,a,⟨rfl,rfl⟩,fun h=>by cases h⟩
 | true =>
  have V:=w.1 rfl;simp only[if_true];obtain ⟨r,c⟩:=r;cases c with
  | false=>exact ⟨(e,false),rfl,a,⟨rfl,rfl⟩,fun h=>by cases h⟩
  | true =>
   obtain ⟨E,i,J,z⟩:=v rfl;have L:=(Gn a.2.1.2 E).1;have g:=LU (y:=((id,x,(0:Int)):QT)) a.2.1.2 ⟨trivial,o,trivial⟩ i (by omega);obtain ⟨A,K,H⟩:=LW g z;refine ⟨_,rfl,⟨a.1,m,a.2.2.1,a.2.2.2⟩,⟨rfl,rfl⟩,fun _=>⟨V.his,(C1 m).2 H,V.len,fun j D=>?_,V.log⟩⟩;obtain ⟨s,u,⟨q,d,l⟩,p⟩:=V.sub j D;refine ⟨s,u,?_,p⟩;have F:q∈e.2.1.2.take i++([((id,x,(0:Int)):QT)] ++e.2.1.2.drop i):=by
    rw[<-List.take_append_drop i e.2.1.2] at d;rcases aE d with d | d
    ·exact bg _ d
    ·exact bj _ (bj _ d)
   have n:=List.mem_map_of_mem (f:=prQ) F;rw[<-A] at n;obtain ⟨B,k,C⟩:=List.mem_map.1 n;exact ⟨B,k,(congrArg Prod.fst C).trans l⟩
theorem VX (l:List CY) (id:Int) (h:l.length<=1048576): ∃k:Int,pA l id=some k/\(k<0-> ∀s∈l,s.1≠id)/\(0<=k->k<(l.length:Int)):=by
 have b:=xk (f:=nG l id) l (fun u=>u.1==id) (fun i=>(i:Int)) (by omega) (fun i e=>by
  unfold nG;rw[bL e,if_pos rfl,aM e];simp only[aa,af (show i<9223372036854775807 by omega)];split <;> rfl) (by
  unfold nG;rw[bG];rfl)
 unfold pA;rcases b with ⟨i,g,d,j,a⟩ | ⟨d,a⟩
 ·exact ⟨_,bD a,fun c=>by omega,fun _=>by omega⟩
 ·exact ⟨_,aj a,fun _ s b=>by simpa using d s b,fun c=>absurd c (by decide)⟩
theorem YO (e:EngT) (c:Data.sm e) (id query:Int): ∃y:EngT×Bool,fv e id query=some y/\Data.sm y.1/\(y.1.1=e.1/\y.1.2.2.2=e.2.2.2)/\(y.2=true->EV y.1/\ ∃q∈y.1.2.1.2,q.1=query):=by
 obtain ⟨b,es,Q⟩:=AB e c;have h3:=(aR c.2.2.1).1;obtain ⟨k,R,O,-⟩:=VX e.2.2.1 id h3;obtain ⟨j,S,j2⟩:=VW e.2.1 query (aR c.2.1.2).1;unfold fv;simp only[fM,qb e c,es,R,S,AP,aa];cases b with
 | false=>exact ⟨(e,false),rfl,c,⟨rfl,rfl⟩,fun h=>by cases h⟩
 | true =>
  have V:=Q.1 rfl;have h4:=V.len;simp only[if_true];by_cases n:decide (1<=id/\id<=99)=true
  ·by_cases r:decide (k≥0)=true
   ·simp only[if_pos n,if_pos r];exact ⟨(e,false),rfl,c,⟨rfl,rfl⟩,fun h=>by cases h⟩
   ·by_cases z:decide (j<0)=true
    ·simp only[if_pos n,if_neg r,if_pos z];exact ⟨(e,false),rfl,c,⟨rfl,rfl⟩,fun h=>by cases h⟩
    ·by_cases E:((e.2.2.1.length:Int)==4)=true
     ·simp only[if_pos n,if_neg r,if_neg z,if_pos E];exact ⟨(e,false),rfl,c,⟨rfl,rfl⟩,fun h=>by cases h⟩
     ·simp only[if_pos n,if_neg r,if_neg z,if_neg E];have X: ∃i:Nat,i<=e.2.2.1.length/\(∀j (g:j<e.2.2.1.length),j<i->e.2.2.1[j].1<id)/\(∀g:i<e.2.2.1.length,¬e.2.2.1[i].1<id)/\ah (fL e id) aU 0=some (.brk (i:Int)):=by
       obtain ⟨o,Y,i,t,m,l,rfl⟩:=b9 (f:=fL e id) (fun i s=>s=(i:Int)/\ ∀j (g:j<e.2.2.1.length),j<i->e.2.2.1[j].1<id) (fun o=> ∃i:Nat,i<=e.2.2.1.length/\(∀j (g:j<e.2.2.1.length),j<i->e.2.2.1[j].1<id)/\(∀g:i<e.2.2.1.length,¬e.2.2.1[i].1<id)/\o= .brk (i:Int)) e.2.2.1.length (fun i s t v=>by
        obtain ⟨rfl,v⟩:=v;unfold fL;by_cases B:i<e.2.2.1.length
        ·simp only[bL B,if_true,aM B,aa,af (show i<9223372036854775807 by omega)];by_cases A:e.2.2.1[i].1<id
         ·refine .inl ⟨B,_,by simp[A],rfl,fun j g L=>?_⟩;by_cases x:j=i
          ·subst x;exact A
          ·exact v j g (by omega)
         ·exact .inr ⟨.brk (i:Int),by simp[A],(fun W e=>by cases e),i,t,v,fun _=>A,rfl⟩
        ·obtain rfl:i=e.2.2.1.length:=by omega
         exact .inr ⟨.brk (e.2.2.1.length:Int),by simp only[bG,Bool.false_eq_true,if_false],(fun W e=>by cases e),_,t,v,fun h=>absurd h B,rfl⟩) (s:=0) ⟨rfl,fun j g h=>absurd h (Nat.not_lt_zero _)⟩ (dq _ (by omega))
       exact ⟨i,t,m,l,Y⟩
      obtain ⟨i,t,m,l,M⟩:=X;simp only[M,aO];have T:Data.sm ((id,query,(0:Int)):CY):=⟨trivial,trivial,trivial⟩;have U:=LU (y:=((id,query,(0:Int)):CY)) c.2.2.1 T i (by omega);have N:(chk (0<=(i:Int)/\(i:Int)<=(e.2.2.1.length:Int)))=some ():=if_pos (by omega);have J:bw 24 ([] :List CY) (e.2.2.1.take i)=some (e.2.2.1.take i):=by rw[ax (by simp only[aD,aB];omega)];rfl
      have K:bw 24 (e.2.2.1.take i) [((id,query,(0:Int)):CY)] =some (e.2.2.1.take i++ [(id,query,0)]):=ax (by simp only[aB,aq,aD];omega);have a3:bw 24 (e.2.2.1.take i++ [((id,query,(0:Int)):CY)]) (e.2.2.1.drop i)=some (e.2.2.1.take i++([(id,query,0)] ++e.2.2.1.drop i)):=by
       rw[ax (by simp only[az,aB,aZ,aq,aD];omega),aC]
      simp only[N,aa,Int.toNat_natCast,J,K,a3];have G:=Classical.not_not.1 (mt j2.2 (by simpa using z));have w:=O (by simpa using r);have F:0<=latV e.1:=by
       obtain ⟨-,p⟩:=(yU e.1 c.1).1 V.his;unfold latV;omega
      obtain ⟨C,I⟩:=abc V.sub;have P: ∀u∈e.2.2.1.take i,u.1<id:=fun u d=>by
       obtain ⟨j,g,rfl⟩:=List.getElem_of_mem d;rw[aB] at g;rw[List.getElem_take];exact m j (by omega) (by omega)
      have H: ∀u∈e.2.2.1.drop i,id<u.1:=fun u d=>by
       obtain ⟨j,g,rfl⟩:=List.getElem_of_mem d;rw[aZ] at g;rw[List.getElem_drop];have a:=l (by omega);have n0:=w _ (List.getElem_mem (show i<e.2.2.1.length by omega));rcases Nat.eq_zero_or_pos j with rfl | h0
       ·simp only[Nat.add_zero];omega
       ·have b:=List.pairwise_iff_getElem.1 C i (i+j) (by omega) (by omega) (by omega);omega
      refine ⟨_,rfl,⟨c.1,c.2.1,U,c.2.2.2⟩,⟨rfl,rfl⟩,fun _=>⟨⟨V.his,V.reg,?_,abd ?_ fun s D=>?_,V.log⟩,G⟩⟩
      ·have c4':(e.2.2.1.length:Int)≠4:=by simpa using E
       show (e.2.2.1.take i++([(id,query,(0:Int))] ++e.2.2.1.drop i)).length<=4;simp only[az,aB,aq,aD,aZ];omega
      ·show (e.2.2.1.take i++([(id,query,(0:Int))] ++e.2.2.1.drop i)).Pairwise fun a b=>a.1<b.1;rw[List.pairwise_append];refine ⟨C.sublist (List.take_sublist _ _),?_,fun a Z b p=>?_⟩
       ·rw[List.singleton_append,List.pairwise_cons];exact ⟨H,C.sublist (List.drop_sublist _ _)⟩
       ·have:=P a Z
        rcases aE p with p | p
        ·rw[al p];exact this
        ·have:=H b p;omega
      ·rcases aE D with d | d
       ·exact I s (List.mem_of_mem_take d)
       ·rcases aE d with d | d
        ·rw[al d];exact ⟨of_decide_eq_true n,G,Int.le_refl _,F⟩
        ·exact I s (List.mem_of_mem_drop d)
  ·simp only[if_neg n];exact ⟨(e,false),rfl,c,⟨rfl,rfl⟩,fun h=>by cases h⟩
def EI (e:EngT):Prop:=Data.sm e/\1<=e.1.2.length/\e.2.2.2.size<=4000
theorem YP {e:EngT} (a:EI e) (id:Int): ∃y:EngT×abQ×Bool,kW e id=some y/\EI y.1:=by
 obtain ⟨a,d,f⟩:=a;obtain ⟨b,m,-⟩:=AB e a;have j:=(aR a.2.2.1).1;obtain ⟨k,l,-,h⟩:=VX e.2.2.1 id j;unfold kW;simp only[fM,qb e a,m,l,aa];cases b with
 | false=>exact ⟨_,rfl,a,d,f⟩
 | true =>
  simp only[if_true];by_cases c:k<0
  ·rw[if_pos (decide_eq_true c)];exact ⟨_,rfl,a,d,f⟩
  ·rw[if_neg (by simpa using c)];have h:=h (by omega);have g:aS e.2.2.1 k=some (nth e.2.2.1 k):=aw (by omega) h;obtain ⟨x,n,-⟩:=acU e.1 a.1 a.2.1 (nth e.2.2.1 k);simp only[g,aa,fM,n];by_cases i:x.2.2=true
   ·rw[if_pos i];refine ⟨_,rfl,⟨a.1,a.2.1,⟨?_,fun u o=>⟨trivial,trivial,trivial⟩⟩,a.2.2.2⟩,d,f⟩;show (e.2.2.1.set k.toNat x.2.1).length<=1048576;rw[List.length_set];exact j
   ·rw[if_neg i];exact ⟨_,rfl,a,d,f⟩
theorem YQ {e:EngT} (a:EI e) (v:Int): ∃y:EngT×Bool,im e v=some y/\EI y.1:=by
 obtain ⟨a,f,h⟩:=a;obtain ⟨b,z,-⟩:=AB e a;obtain ⟨x,i,o,s⟩:=LR e.1 a.1 v;obtain ⟨l,g⟩:=yT e.2.2.2;have k:e.2.2.2.size=l.length:=by rw[g];exact aV l
 obtain ⟨r,q,n,t,-,A,w,u,B⟩:=l6 l (by omega);have m:=acY (v:=v) (n:=(n:Int)) u.1 w;have j:=GC v r q r.length;have d:vi e.2.2.2 v=some (mkB (ND v r q r.length)):=by
  unfold vi;rw[g,t];simp only[aa];rw[aj m]
 have p:(mkB (ND v r q r.length)).size=(ND v r q r.length).length:=aV _;unfold im;simp only[fM,qb e a,z,i,d,aa];cases b with
 | false=>exact ⟨_,rfl,a,f,h⟩
 | true =>
  simp only[if_true];by_cases c:x.2=true
  ·rw[if_pos c];refine ⟨_,rfl,⟨o,a.2.1,a.2.2.1,?_⟩,s f,?_⟩
   ·show (mkB (ND v r q r.length)).size<=1048576;omega
   ·show (mkB (ND v r q r.length)).size<=4000;omega
  ·rw[if_neg c];exact ⟨_,rfl,a,f,h⟩
theorem VY {e:EngT} (a:EI e) (b:List ChT): ∃y:EngT×Bool,bV e b=some y/\EI y.1:=by
 obtain ⟨a,d,f⟩:=a;obtain ⟨v,q,-⟩:=AB e a;obtain ⟨r,i,h,o⟩:=QU e.1 ⟨a.1,d⟩ b;obtain ⟨w,m⟩:=acM r.1 h;obtain ⟨k,-,t⟩:=wz w b;obtain ⟨l,g⟩:=yT e.2.2.2;have j:e.2.2.2.size=l.length:=by rw[g];exact aV l
 unfold bV;simp only[fM,qb e a,q,i,aa];cases v with
 | false=>exact ⟨_,rfl,a,d,f⟩
 | true =>
  simp only[if_true];by_cases c:r.2=true
  ·simp only[if_pos c,m,k,aa,g,aV];rw[br (n:=(l.length:Int)+((recT w b).length:Int)) (by omega) (by omega)];by_cases s:l.length+(recT w b).length>4000
   ·rw[if_pos (decide_eq_true (by omega))];exact ⟨_,rfl,a,d,f⟩
   ·rw[if_neg (by rw[decide_eq_true_eq];omega),yQ _ _ (by omega)];simp only[aa];have p:(mkB (l++recT w b)).size=l.length+(recT w b).length:=by rw[aV,az]
    refine ⟨_,rfl,⟨h,a.2.1,a.2.2.1,?_⟩,o,?_⟩
    ·show (mkB (l++recT w b)).size<=1048576;omega
    ·show (mkB (l++recT w b)).size<=4000;omega
  ·rw[if_neg c];exact ⟨_,rfl,a,d,f⟩
section
variable {xs:List Int} {i h:Int}
theorem L8 (c:xs.length<=1048576) {p:List Int×Int×Int} (hp:p.1=xs): ∀(n:Nat) (f:Nat) {i h:Int} {e:EngT},n<900->n<f->gJ xs i->EI e-> ∃s:Int×Int×EngT,ah (fU p) f ((n:Int),i,h,e.1.1,e.1.2,e.2.1.1,e.2.1.2,e.2.2.1,e.2.2.2)=some (.brk (0,s.1,s.2.1,s.2.2.1.1,s.2.2.1.2,s.2.2.2.1.1,s.2.2.2.1.2,s.2.2.2.2.1,s.2.2.2.2.2))/\gJ xs s.1/\EI s.2.2
 | 0,f+1,i,h,e,_,_,hc,hr=>by
  refine ⟨(i,h,e),?_,hc,hr⟩
  have:fU p (((0:Nat):Int),i,h,e.1.1,e.1.2,e.2.1.1,e.2.1.2,e.2.2.1,e.2.2.2)=some (.brk (0,i,h,e.1.1,e.1.2,e.2.1.1,e.2.1.2,e.2.2.1,e.2.2.2)):=by
   unfold fU;simp only;rw[if_neg (by simp)];rfl
  rw[ah,this]
 | n+1,f+1,i,h,e,hn,hf,hc,hr=>by
  obtain ⟨a,d,r,k⟩:=J4 (h:=h) c hc;obtain ⟨y,b,m,⟨j,l⟩,-⟩:=YN e hr.1 ((n+1:Nat):Int) a.1 (Ka (by omega));have b:gf ((e.1.1,e.1.2),(e.2.1.1,e.2.1.2),e.2.2.1,e.2.2.2) ((n+1:Nat):Int) a.1=_:=b;obtain ⟨t,o,q,g⟩:=L8 c hp n f (h:=a.2.2) (e:=y.1) (by omega) (by omega) k ⟨m,by rw[j];exact hr.2.1,by rw[l];exact hr.2.2⟩;refine ⟨t,?_,q,g⟩
  have:fU p (((n+1:Nat):Int),i,h,e.1.1,e.1.2,e.2.1.1,e.2.1.2,e.2.2.1,e.2.2.2)=some (.nxt ((n:Int),a.2.1,a.2.2,y.1.1.1,y.1.1.2,y.1.2.1.1,y.1.2.1.2,y.1.2.2.1,y.1.2.2.2)):=by
   unfold fU;simp only;rw[if_pos (decide_eq_true (show ((n+1:Nat):Int)>0 by omega)),hp,d];simp only[aa];rw[b];simp only[aa];rw[show i64.wrap (((n+1:Nat):Int) - 1)=(n:Int) from by rw[br (by omega) (by omega)];omega]
  rw[ah,this];exact o
abbrev adF:=Int×Int×Int×List GrT×List AutT×List QT×List CY×ByteArray
theorem Rs (k:xs.length<=1048576) (K:gJ xs i) {p:List Int×Int×Int} (hp:p.1=xs) {e:EngT} (g:EI e) {n:Nat} (L:n+1<1000): ∃s:Int×Int×EngT,fV p (((n+1:Nat):Int),i,h,e.1.1,e.1.2,e.2.1.1,e.2.1.2,e.2.2.1,e.2.2.2)=some (.nxt ((n:Int),s.1,s.2.1,s.2.2.1.1,s.2.2.1.2,s.2.2.2.1.1,s.2.2.2.1.2,s.2.2.2.2.1,s.2.2.2.2.2))/\gJ xs s.1/\EI s.2.2:=by
 subst hp;unfold fV;simp only;rw[if_pos (decide_eq_true (show ((n+1:Nat):Int)>0 by omega)),show i64.wrap (((n+1:Nat):Int) - 1)=(n:Int) from by rw[br (by omega) (by omega)];omega];obtain ⟨c,z,-,j⟩:=bp (h:=h) k K (n:=6) (by omega);rw[z];simp only[aa]
 suffices v: ∀(o:Option adF),(∃s:Int×Int×EngT,o=some (s.1,s.2.1,s.2.2.1.1,s.2.2.1.2,s.2.2.2.1.1,s.2.2.2.1.2,s.2.2.2.2.1,s.2.2.2.2.2)/\gJ p.1 s.1/\EI s.2.2)-> ∃s:Int×Int×EngT,(o.bind fun d=>some (Out.nxt ((n:Int),d.1,d.2.1,d.2.2.1,d.2.2.2.1,d.2.2.2.2.1,d.2.2.2.2.2.1,d.2.2.2.2.2.2.1,d.2.2.2.2.2.2.2):Out (EngT×Int×Int) (Int×adF)))=some (.nxt ((n:Int),s.1,s.2.1,s.2.2.1.1,s.2.2.1.2,s.2.2.2.1.1,s.2.2.2.1.2,s.2.2.2.2.1,s.2.2.2.2.2))/\gJ p.1 s.1/\EI s.2.2 by
  refine v _ ?_;by_cases D:(c.1==0)=true
  ·rw[if_pos D];obtain ⟨a,u,-,q⟩:=bp (h:=c.2.2) k j (n:=4) (by omega);rw[u];simp only[aa];obtain ⟨b,l,-,r⟩:=bp (h:=a.2.2) k q (n:=2) (by omega);rw[l];simp only[aa];obtain ⟨y,f,J,⟨G,H⟩,-⟩:=YO e g.1 (i64.wrap (1+a.1)) (i64.wrap (1+b.1));have f:fv ((e.1.1,e.1.2),(e.2.1.1,e.2.1.2),e.2.2.1,e.2.2.2) (i64.wrap (1+a.1)) (i64.wrap (1+b.1))=_:=f;rw[f];exact ⟨(b.2.1,b.2.2,y.1),rfl,r,J,by rw[G];exact g.2.1,by rw[H];exact g.2.2⟩
  ·rw[if_neg D];by_cases C:(c.1==1)=true
   ·rw[if_pos C];obtain ⟨a,u,-,q⟩:=bp (h:=c.2.2) k j (n:=4) (by omega);rw[u];simp only[aa];obtain ⟨y,f,t⟩:=YP g (i64.wrap (1+a.1));have f:kW ((e.1.1,e.1.2),(e.2.1.1,e.2.1.2),e.2.2.1,e.2.2.2) (i64.wrap (1+a.1))=_:=f;rw[f];exact ⟨(a.2.1,a.2.2,y.1),rfl,q,t⟩
   ·rw[if_neg C];by_cases A:(c.1==2)=true
    ·rw[if_pos A];obtain ⟨a,u,q⟩:=wv (h:=c.2.2) k j (n:=3) (by omega);rw[u];simp only[aa];by_cases B:a.1=true
     ·rw[if_pos B];obtain ⟨w,x⟩:=acM e.1 g.1.1;have x:aF (e.1.1,e.1.2)=_:=x;rw[x];simp only[aa];obtain ⟨b,l,-,r⟩:=bp (h:=a.2.2) k q (n:=2) (by omega);rw[l];simp only[aa];obtain ⟨y,f,t⟩:=YQ g (i64.wrap (w - b.1));have f:im ((e.1.1,e.1.2),(e.2.1.1,e.2.1.2),e.2.2.1,e.2.2.2) (i64.wrap (w - b.1))=_:=f;rw[f];exact ⟨(b.2.1,b.2.2,y.1),rfl,r,t⟩
     ·rw[if_neg B];exact ⟨(a.2.1,a.2.2,e),rfl,q,g⟩
    ·rw[if_neg A];obtain ⟨M,I⟩:=aR g.1.1.2;have F:=g.2.1;have E:=I _ (cw (xs:=e.1.2) (i:=(e.1.2.length:Int) - 1) (by omega) (by omega));rw[br (n:=(e.1.2.length:Int) - 1) (by omega) (by omega),aw (by omega) (by omega)];simp only[aa];obtain ⟨b,l,-,r⟩:=J9 (h:=c.2.2) k j E (m:=3) (by decide);have l:iK (p.1,c.2.1,c.2.2) ((nth e.1.2 ((e.1.2.length:Int) - 1)).1,(nth e.1.2 ((e.1.2.length:Int) - 1)).2) 3=_:=l;rw[l];simp only[aa];obtain ⟨y,f,t⟩:=VY g b.1;have f:bV ((e.1.1,e.1.2),(e.2.1.1,e.2.1.2),e.2.2.1,e.2.2.2) b.1=_:=f;rw[f];exact ⟨(b.2.1,b.2.2,y.1),rfl,r,t⟩
 rintro o ⟨s,rfl,v⟩;exact ⟨s,rfl,v⟩
theorem IC (a:xs.length<=1048576) {p:List Int×Int×Int} (hp:p.1=xs): ∀(n:Nat) (f:Nat) {i h:Int} {e:EngT},n<900->n<f->gJ xs i->EI e-> ∃s:Int×Int×EngT,ah (fV p) f ((n:Int),i,h,e.1.1,e.1.2,e.2.1.1,e.2.1.2,e.2.2.1,e.2.2.2)=some (.brk (0,s.1,s.2.1,s.2.2.1.1,s.2.2.1.2,s.2.2.2.1.1,s.2.2.2.1.2,s.2.2.2.2.1,s.2.2.2.2.2))/\gJ xs s.1/\EI s.2.2
 | 0,f+1,i,h,e,_,_,hc,hr=>by
  refine ⟨(i,h,e),?_,hc,hr⟩
  have:fV p (((0:Nat):Int),i,h,e.1.1,e.1.2,e.2.1.1,e.2.1.2,e.2.2.1,e.2.2.2)=some (.brk (0,i,h,e.1.1,e.1.2,e.2.1.1,e.2.1.2,e.2.2.1,e.2.2.2)):=by
   unfold fV;simp only;rw[if_neg (by simp)];rfl
  rw[ah,this]
 | n+1,f+1,i,h,e,hn,hf,hc,hr=>by
  obtain ⟨s,d,c,k⟩:=Rs (h:=h) a hc hp hr (n:=n) (by omega);obtain ⟨t,b,g,j⟩:=IC a hp n f (h:=s.2.1) (e:=s.2.2) (by omega) (by omega) c k;refine ⟨t,?_,g,j⟩;rw[ah,d];exact b
theorem L9 (b:xs.length<=1048576) (H:gJ xs i): ∃r:EngT×Int×Int,mr (xs,i,h)=some r/\EI r.1/\gJ xs r.2.1:=by
 unfold mr;simp only;obtain ⟨a,C,⟨j,G⟩,l⟩:=LK (h:=h) b H;rw[C];simp only[aa];have z:oO (a.1.1,a.1.2)=some (((1,[a.1]),([],[]),[],⟨#[]⟩),true):=by
  have c:=adz j G (v:=1) (by omega);unfold oO;have c:gH (a.1.1,a.1.2) 1=_:=c;simp only[c,aa,if_true]
 rw[z];simp only[aa];obtain ⟨d,c,J,w⟩:=bp (h:=a.2.2) b l (n:=2) (by omega);rw[c];simp only[aa];have F:EI (((1,[a.1]),([],[]),[],⟨#[]⟩):EngT):=⟨⟨yO (by simp) (fun g x=>by rw[al x];exact j),⟨⟨Nat.zero_le _,fun _ h=>by cases h⟩,Nat.zero_le _,fun _ h=>by cases h⟩,⟨Nat.zero_le _,fun _ h=>by cases h⟩,by show (0:Nat)<=1048576;omega⟩,aH _,by show (0:Nat)<=4000;omega⟩;obtain ⟨k,L⟩: ∃k:Nat,d.1=(k:Int):=⟨d.1.toNat,by omega⟩;rw[show i64.wrap (1+d.1)=((k+1:Nat):Int) from by rw[br (by omega) (by omega)];omega];obtain ⟨s,E,q,u⟩:=L8 b (p:=(xs,i,h)) rfl (k+1) aU (h:=d.2.2) (e:=(((1,[a.1]),([],[]),[],⟨#[]⟩):EngT)) (by omega) (by unfold aU;omega) w F;rw[aj E];obtain ⟨f,B,K,y⟩:=bp (h:=s.2.1) b q (n:=10) (by omega);rw[B];simp only[aa];obtain ⟨m,I⟩: ∃m:Nat,f.1=(m:Int):=⟨f.1.toNat,by omega⟩;obtain ⟨t,A,D,o⟩:=IC b (p:=(xs,i,h)) rfl m aU (h:=f.2.2) (e:=s.2.2) (by omega) (by unfold aU;omega) y u;rw[I,aj A];exact ⟨(t.2.2,t.1,t.2.1),rfl,o,D⟩
theorem UB (g:xs.length<=1048576) (H:gJ xs i): ∃r:EngT×Int×Int,rq (xs,i,h)=some r/\(Data.sm r.1/\r.1.2.2.2.size<=4001)/\gJ xs r.2.1:=by
 unfold rq;simp only;obtain ⟨a,F,C,v⟩:=L9 (h:=h) g H;rw[F];simp only[aa];obtain ⟨b,z,-,d⟩:=bp (h:=a.2.2) g v (n:=18) (by omega);rw[z];simp only[aa];obtain ⟨⟨j,m,c,f⟩,K,O⟩:=C;by_cases q:(b.1==0)=true
 ·rw[if_pos q];obtain ⟨l,k⟩:=yT a.1.2.2.2;have y:a.1.2.2.2.size=l.length:=by rw[k];exact aV l
  have x:jA a.1.2.2.2 (⟨#[120]⟩)=some (mkB (l++ [120])):=by rw[k];exact yQ l [120] (by simp;omega)
  have M:(mkB (l++ [120])).size=l.length+1:=by rw[aV,az];rfl
  rw[x];exact ⟨_,rfl,⟨⟨j,m,c,by show (mkB (l++ [120])).size<=1048576;omega⟩,by show (mkB (l++ [120])).size<=4001;omega⟩,d⟩
 ·rw[if_neg q];by_cases p:(b.1==1)=true
  ·rw[if_pos p];by_cases e:(a.1.2.2.1.length:Int)>0
   ·rw[if_pos (decide_eq_true e)];obtain ⟨J,w,-,D⟩:=eN (h:=b.2.2) g d (l:=[(-1),0,50]) (by simp);rw[w];simp only[aa];rw[aw (by omega) (by omega)];exact ⟨_,rfl,⟨⟨j,m,⟨by rw[List.length_set];exact (aR c).1,fun u I=>⟨trivial,trivial,trivial⟩⟩,f⟩,by show a.1.2.2.2.size<=4001;omega⟩,D⟩
   ·rw[if_neg (by simpa using e)];exact ⟨_,rfl,⟨⟨j,m,c,f⟩,by show a.1.2.2.2.size<=4001;omega⟩,d⟩
  ·rw[if_neg p];by_cases e:(b.1==2)=true
   ·rw[if_pos e];obtain ⟨N,B,G,t⟩:=aa1 (h:=b.2.2) g d;rw[B];exact ⟨_,rfl,⟨⟨j,G,c,f⟩,by show a.1.2.2.2.size<=4001;omega⟩,t⟩
   ·rw[if_neg e];by_cases o:(b.1==3)=true
    ·rw[if_pos o];obtain ⟨L,s,E,A⟩:=YD (h:=b.2.2) g d;rw[s];exact ⟨_,rfl,⟨⟨E,m,c,f⟩,by show a.1.2.2.2.size<=4001;omega⟩,A⟩
    ·rw[if_neg o];exact ⟨_,rfl,⟨⟨j,m,c,f⟩,by show a.1.2.2.2.size<=4001;omega⟩,d⟩
end
theorem ID {a b:ByteArray} (h:a.size+b.size<=1000000): ∃z,jA a b=some z/\z.size=a.size+b.size:=by
 unfold jA;rw[show chk (a.size+b.size<=9223372036854775807)=some () from if_pos (by omega)];exact ⟨_,rfl,ByteArray.size_append⟩
theorem UC {s:ByteArray} {l h:Int} (a:0<=l/\l<=h/\h<=(s.size:Int)): ∃z,lG s l h=some z/\z.size<=s.size:=by
 unfold lG;rw[show chk (0<=l/\l<=h/\h<=(s.size:Int))=some () from if_pos a];refine ⟨_,rfl,?_⟩;rw[ByteArray.size_extract];omega
theorem acZ {s:ByteArray} {i:Int} (h:0<=i/\i<(s.size:Int)): ∃z,jB s i=some z:=by
 unfold jB;rw[show chk (0<=i/\i<(s.size:Int))=some () from if_pos h];exact ⟨_,rfl⟩
theorem sP (l:List Int):(nR l).size=l.length:=by
 have key: ∀(l:List Int) (r:ByteArray),(l.foldl (fun r n=>r.push (UInt8.ofNat n.toNat)) r).size=r.size+l.length:=by
  intro l;induction l with
  | nil=>intro r;rfl
  | cons x l a=>intro r;rw[List.foldl_cons,a,ByteArray.size_push,aq];omega
 have:=key l ByteArray.empty
 simpa [nR] using this
section
variable {xs:List Int} {i h:Int}
theorem EH (e:xs.length<=1048576) {p r:Int×Int×Int} {q:List Int×Int×Int} (g:q.1=xs): ∀(n:Nat) (f:Nat) {i h:Int} {o:List Int},n<900->n<f->gJ xs i->o.length+n<=900-> ∃s:List Int×Int×Int,ah (kD q r) f (o,(n:Int),i,h)=some (.brk (s.1,0,s.2.1,s.2.2))/\s.1.length<=o.length+n/\gJ xs s.2.1
 | 0,f+1,i,h,o,_,_,hc,_=>by
  refine ⟨(o,i,h),?_,aH _,hc⟩
  have:kD q r (o,((0:Nat):Int),i,h)=some (.brk (o,0,i,h)):=by
   unfold kD;simp only;rw[if_neg (by simp)];rfl
  rw[ah,this]
 | n+1,f+1,i,h,o,hn,hf,hc,ho=>by
  obtain ⟨b,m,-,l⟩:=CH (h:=h) e hc;have j: ∃v:Int,kD q r (o,((n+1:Nat):Int),i,h)=some (.nxt (o++ [v],(n:Int),b.2.1,b.2.2)):=by
   unfold kD;simp only;rw[if_pos (decide_eq_true (show ((n+1:Nat):Int)>0 by omega)),g,m];simp only[aa];rw[show i64.wrap (((n+1:Nat):Int) - 1)=(n:Int) from by rw[br (by omega) (by omega)];omega];have c: ∀v:Int,bw 1 o [v] =some (o++ [v]):=fun v=>ax (by simp only[aq,aD];omega);by_cases d:(r.1==1)=true
   ·rw[if_pos d];simp only[aa];by_cases a:(r.1==2)=true
    ·rw[if_pos a];simp only[aa,c];exact ⟨_,rfl⟩
    ·rw[if_neg a];simp only[aa,c];exact ⟨_,rfl⟩
   ·rw[if_neg d];simp only[aa];by_cases a:(r.1==2)=true
    ·rw[if_pos a];simp only[aa,c];exact ⟨_,rfl⟩
    ·rw[if_neg a];simp only[aa,c];exact ⟨_,rfl⟩
  obtain ⟨v,ev⟩:=j;obtain ⟨t,u,w,k⟩:=EH e (p:=p) g n f (h:=b.2.2) (o:=o++ [v]) (by omega) (by omega) l (by simp;omega);refine ⟨t,?_,by simp at w;omega,k⟩;rw[ah,ev];exact u
theorem abe (c:xs.length<=1048576) (t:gJ xs i): ∃r:ByteArray×Int×Int,vm (xs,i,h) 3=some r/\r.1.size<=3/\gJ xs r.2.1:=by
 unfold vm;simp only;obtain ⟨b,d,-,e⟩:=bp (h:=h) c t (n:=4) (by omega);rw[d];simp only[aa];rw[br (n:=3+1) (by omega) (by omega)];obtain ⟨a,k,u,g⟩:=bp (h:=b.2.2) c e (n:=3+1) (by omega);rw[k];simp only[aa];obtain ⟨n,l⟩: ∃n:Nat,a.1=(n:Int):=⟨a.1.toNat,by omega⟩;obtain ⟨s,j,f,m⟩:=EH c (p:=b) (r:=b) (q:=(xs,i,h)) rfl n aU (h:=a.2.2) (o:=[]) (by omega) (by unfold aU;omega) g (by simp;omega);rw[l,aj j];exact ⟨_,rfl,by show (nR s.1).size<=3;rw[sP];simp at f;omega,m⟩
theorem YR (j:xs.length<=1048576) (E:gJ xs i) {s:ByteArray} (hs:s.size<=5000): ∃r:ByteArray×Int×Int,sp (xs,i,h) s=some r/\r.1.size<=20000/\gJ xs r.2.1:=by
 unfold sp;simp only;by_cases c:(((s.size:Nat):Int)==0)=true
 ·rw[if_pos c];obtain ⟨r,e,P,k⟩:=abe (h:=h) j E;rw[e];exact ⟨_,rfl,by show r.1.size<=20000;omega,k⟩
 ·rw[if_neg c];have hp:0<(s.size:Int):=by
   have: ¬((s.size:Nat):Int)=0:=by simpa using c
   omega
  obtain ⟨f,I,P,H⟩:=bp (h:=h) j E (n:=(s.size:Int)) hp;rw[I];simp only[aa];obtain ⟨o,T,-,p⟩:=bp (h:=f.2.2) j H (n:=4) (by omega);rw[T];simp only[aa];obtain ⟨q,d,U⟩:=UC (s:=s) (l:=0) (h:=f.1) (by omega);have x:i64.wrap (f.1+1)=f.1+1:=br (by omega) (by omega);obtain ⟨C,g,R⟩:=UC (s:=s) (l:=f.1+1) (h:=(s.size:Int)) (by omega);obtain ⟨L,u,G⟩:=UC (s:=s) (l:=f.1) (h:=(s.size:Int)) (by omega);by_cases D:(o.1==0)=true
  ·rw[if_pos D,d];simp only[aa];obtain ⟨z,m,A⟩:=ID (a:=q) (b:=C) (by omega);rw[x,g];simp only[aa];rw[m];exact ⟨_,rfl,by show z.size<=20000;omega,p⟩
  ·rw[if_neg D];by_cases w:(o.1==1)=true
   ·rw[if_pos w,d];simp only[aa];obtain ⟨b,O,-,F⟩:=CH (h:=o.2.2) j p;rw[O];simp only[aa];obtain ⟨z,m,A⟩:=ID (a:=q) (b:=nR [IntKind.u8.wrap b.1]) (by rw[sP];simp;omega);have Q:(nR [IntKind.u8.wrap b.1]).size=1:=sP _;obtain ⟨y,t,J⟩:=ID (a:=z) (b:=L) (by omega);rw[m];simp only[aa];rw[u];simp only[aa];rw[t];exact ⟨_,rfl,by show y.size<=20000;omega,F⟩
   ·rw[if_neg w];by_cases v:(o.1==2)=true
    ·rw[if_pos v,d];exact ⟨_,rfl,by show q.size<=20000;omega,p⟩
    ·rw[if_neg v,d];simp only[aa];obtain ⟨a,M⟩:=acZ (s:=s) (i:=f.1) (by omega);rw[M];simp only[aa];obtain ⟨K,S,-,N⟩:=bp (h:=o.2.2) j p (n:=255) (by omega);rw[S];simp only[aa];generalize V:nR [IntKind.u8.wrap (Y1 (i64.wrap a) (i64.wrap (1+K.1)))] =B;have Q:B.size=1:=by rw[<-V];exact sP _
     obtain ⟨z,m,A⟩:=ID (a:=q) (b:=B) (by omega);obtain ⟨y,t,J⟩:=ID (a:=z) (b:=C) (by omega);rw[m,x,g];simp only[aa];rw[t];exact ⟨_,rfl,by show y.size<=20000;omega,N⟩
theorem YS {e:EngT} (a:EI e): ∃y:EngT×Bool,gR e=some y/\Data.sm y.1:=by
 obtain ⟨a,k,j⟩:=a;obtain ⟨b,f,-⟩:=AB e a;obtain ⟨w,g⟩:=acM e.1 a.1;obtain ⟨x,c,d,-⟩:=LR e.1 a.1 w;unfold gR;simp only[fM,qb e a,f,g,c,aa];cases b with
 | false=>exact ⟨_,rfl,⟨trivial,Nat.zero_le _,fun _ h=>by cases h⟩,⟨⟨Nat.zero_le _,fun _ h=>by cases h⟩,Nat.zero_le _,fun _ h=>by cases h⟩,⟨Nat.zero_le _,fun _ h=>by cases h⟩,by show (0:Nat)<=1048576;omega⟩
 | true=>exact ⟨_,rfl,d,a.2.1,a.2.2.1,by show (0:Nat)<=1048576;omega⟩
theorem EJ (d:xs.length<=1048576): ∀(n:Nat) (f:Nat) {i h:Int} {e:EngT},n<900->n<f->gJ xs i->EI e-> ∃s:Int×Int×EngT,ah (ji xs) f ((n:Int),i,h,e.1.1,e.1.2,e.2.1.1,e.2.1.2,e.2.2.1,e.2.2.2)=some (.brk (0,s.1,s.2.1,s.2.2.1.1,s.2.2.1.2,s.2.2.2.1.1,s.2.2.2.1.2,s.2.2.2.2.1,s.2.2.2.2.2))/\gJ xs s.1/\EI s.2.2
 | 0,f+1,i,h,e,_,_,hc,hr=>by
  refine ⟨(i,h,e),?_,hc,hr⟩
  have:ji xs (((0:Nat):Int),i,h,e.1.1,e.1.2,e.2.1.1,e.2.1.2,e.2.2.1,e.2.2.2)=some (.brk (0,i,h,e.1.1,e.1.2,e.2.1.1,e.2.1.2,e.2.2.1,e.2.2.2)):=by
   unfold ji;simp only;rw[if_neg (by simp)];rfl
  rw[ah,this]
 | n+1,f+1,i,h,e,hn,hf,hc,he=>by
  obtain ⟨u,p⟩:=aR he.1.1.2;have l:=he.2.1;have j:=p _ (cw (xs:=e.1.2) (i:=(e.1.2.length:Int) - 1) (by omega) (by omega));obtain ⟨b,c,-,k⟩:=J9 (h:=h) d hc j (m:=3) (by decide);have c:iK (xs,i,h) ((nth e.1.2 ((e.1.2.length:Int) - 1)).1,(nth e.1.2 ((e.1.2.length:Int) - 1)).2) 3=_:=c;obtain ⟨y,a,o⟩:=VY he b.1;have a:bV ((e.1.1,e.1.2),(e.2.1.1,e.2.1.2),e.2.2.1,e.2.2.2) b.1=_:=a;obtain ⟨t,q,r,g⟩:=EJ d n f (h:=b.2.2) (e:=y.1) (by omega) (by omega) k o;refine ⟨t,?_,r,g⟩
  have:ji xs (((n+1:Nat):Int),i,h,e.1.1,e.1.2,e.2.1.1,e.2.1.2,e.2.2.1,e.2.2.2)=some (.nxt ((n:Int),b.2.1,b.2.2,y.1.1.1,y.1.1.2,y.1.2.1.1,y.1.2.1.2,y.1.2.2.1,y.1.2.2.2)):=by
   unfold ji;simp only;rw[if_pos (decide_eq_true (show ((n+1:Nat):Int)>0 by omega)),br (n:=(e.1.2.length:Int) - 1) (by omega) (by omega),aw (by omega) (by omega)];simp only[aa];rw[c];simp only[aa];rw[a];simp only[aa];rw[show i64.wrap (((n+1:Nat):Int) - 1)=(n:Int) from by rw[br (by omega) (by omega)];omega]
  rw[ah,this];exact q
abbrev ad4:=Int×Int×Int×List GrT×List AutT×List QT×List CY×ByteArray
theorem YT (f:xs.length<=1048576): ∃r:EngT×ByteArray,gi xs=some r/\Data.sm r.1/\r.2.size<=20000:=by
 unfold gi wN;obtain ⟨L,U,B⟩:=acx f;rw[U];simp only[aa];obtain ⟨p,K,x,J⟩:=L9 (h:=L.2) f B;rw[K];simp only[aa,fM];obtain ⟨g,V,O⟩:=YS x;rw[V];simp only[aa];obtain ⟨d,S,w⟩:=wv (h:=p.2.2) f J (n:=8) (by omega);rw[S];simp only[aa];have j: ∃b:Int×Int×EngT,(if d.1=true then ((rq (xs,d.2.1,d.2.2)).bind fun a=>some (a.2.1,a.2.2,a.1.1.1,a.1.1.2,a.1.2.1.1,a.1.2.1.2,a.1.2.2.1,a.1.2.2.2)) else (some (d.2.1,d.2.2,g.1.1.1,g.1.1.2,g.1.2.1.1,g.1.2.1.2,g.1.2.2.1,g.1.2.2.2)):Option ad4)=some (b.1,b.2.1,b.2.2.1.1,b.2.2.1.2,b.2.2.2.1.1,b.2.2.2.1.2,b.2.2.2.2.1,b.2.2.2.2.2)/\gJ xs b.1/\Data.sm b.2.2:=by
  by_cases c:d.1=true
  ·rw[if_pos c];obtain ⟨a,Q,⟨E,-⟩,H⟩:=UB (h:=d.2.2) f w;rw[Q];exact ⟨(a.2.1,a.2.2,a.1),rfl,H,E⟩
  ·rw[if_neg c];exact ⟨(d.2.1,d.2.2,g.1),rfl,w,O⟩
 obtain ⟨b,C,T,j⟩:=j;rw[C];simp only[aa];obtain ⟨m,N,X,R⟩:=bp (h:=b.2.1) f T (n:=5) (by omega);rw[N];simp only[aa];obtain ⟨n,G⟩: ∃n:Nat,m.1=(n:Int):=⟨m.1.toNat,by omega⟩;obtain ⟨s,W,D,F⟩:=EJ f n aU (h:=m.2.2) (e:=p.1) (by omega) (by unfold aU;omega) R x;rw[G,aj W];obtain ⟨k,A,-,v⟩:=bp (h:=s.2.1) f D (n:=4) (by omega);rw[A];simp only[aa];have Y:=F.2.2;by_cases y:(k.1==0)=true
 ·rw[if_pos y,br (n:=((s.2.2.2.2.2.size:Nat):Int)+1) (by omega) (by omega)];obtain ⟨u,o,q,M⟩:=bp (h:=k.2.2) f v (n:=((s.2.2.2.2.2.size:Nat):Int)+1) (by omega);rw[o];simp only[aa];obtain ⟨z,P,I⟩:=UC (s:=s.2.2.2.2.2) (l:=0) (h:=u.1) (by omega);rw[P];exact ⟨_,rfl,j,by show z.size<=20000;omega⟩
 ·rw[if_neg y];by_cases t:(k.1==1)=true
  ·rw[if_pos t];obtain ⟨u,o,q,M⟩:=YR (h:=k.2.2) f v (s:=s.2.2.2.2.2) (by omega);rw[o];exact ⟨_,rfl,j,q⟩
  ·rw[if_neg t];exact ⟨_,rfl,j,by show s.2.2.2.2.2.size<=20000;omega⟩
end
theorem UD (x y:List Yq1) (b:x.length<=1048576):dz x y=some (decide (x=y)):=by
 unfold dz;exact eqL (f:=cV x y) x y (by omega) (fun i h a=>by
  simp only[cV,bL h,if_true,aM h,aM a,aa,fM,af (show i<9223372036854775807 by omega)];refine P9 ?_;simp only[Bool.and_true,ak,beq_iff_eq];exact adQ) (by simp only[cV,bG];rfl)
theorem Rt (x y:GrT) (a:Data.sm x):j7 x y=some (decide (x=y)):=by
 unfold j7;rw[yG x.1 y.1 (by have:=(aR a.1).1;omega),UD x.2 y.2 (aR a.2).1];simp only[aa];by_cases c:x.1=y.1 <;> by_cases b:x.2=y.2 <;> simp[Prod.ext_iff,c,b]
theorem YU (x y:q8) (k:Data.sm x):jt x y=some (decide (x=y)):=by
 obtain ⟨l,j⟩:=aR k.2;unfold jt;have e:bY x.2 y.2 (fun a d=>j7 a d)=some (decide (x.2=y.2)):=
  eqL (f:=be x.2 y.2 _) x.2 y.2 (by omega) (fun i h b=>by
   simp only[be,bL h,if_true,aM h,aM b,aa,fM,af (show i<9223372036854775807 by omega),Rt x.2[i] y.2[i] (j _ (List.getElem_mem h))];exact P9 (by simp)) (by simp only[be,bG];rfl)
 rw[e];simp only[aa];by_cases g:x.1=y.1 <;> by_cases c:x.2=y.2 <;> simp[Prod.ext_iff,g,c]
theorem YV (x y:List CY) (b:x.length<=1048576):bP x y=some (decide (x=y)):=by
 unfold bP;exact eqL (f:=bB x y) x y (by omega) (fun i h a=>by
  simp only[bB,bL h,if_true,aM h,aM a,aa,fM,af (show i<9223372036854775807 by omega)];refine P9 ?_;simp only[Bool.and_true,ak,beq_iff_eq];exact adP) (by simp only[bB,bG];rfl)
theorem abf (x:EngT) (a:Data.sm x):lx x x=some true:=by
 unfold lx;simp only[fM,YU x.1 x.1 a.1,yN x.2.1 x.2.1 a.2.1,YV x.2.2.1 x.2.2.1 (aR a.2.2.1).1,aa,decide_true,if_true,beq_self_eq_true]
theorem ac0 (g:GrT) (id:Int) (n:g.2.length<=1048576): ∃k:Int,cM g id=some k/\mC g id=some k/\((k= -1/\ ∀e∈g.2,e.1≠id)\/ ∃(i:Nat) (hi:i<g.2.length),k=(i:Int)/\g.2[i].1=id):=by
 have l:=xk (f:=cL g id) g.2 (fun u=>u.1==id) (fun i=>(i:Int)) (by omega) (fun i hi=>by
  unfold cL;rw[bL hi,if_pos rfl,aM hi];simp only[aa,af (show i<9223372036854775807 by omega)];split <;> rfl) (by
  unfold cL;rw[bG];rfl)
 have j:fE g.2 (fun d=>pG d id)=cL g id:=by
  funext s;rfl
 unfold cM mC dN;rw[j];rcases l with ⟨i,a,b,m,c⟩ | ⟨b,c⟩
 ·rw[bD c];exact ⟨_,rfl,rfl,.inr ⟨i,a,rfl,by simpa using b⟩⟩
 ·rw[aj c];exact ⟨_,rfl,rfl,.inl ⟨rfl,fun e h=>by simpa using b e h⟩⟩
theorem abg {α:Type} [Data α] {xs:List α} (h:Data.sm xs) (i:Nat):Data.sm (xs.take i++xs.drop (i+1)):=by
 obtain ⟨c,b⟩:=aR h;refine ⟨by rw[az,aB,aZ];omega,fun x a=>?_⟩;rcases aE a with a | a
 ·exact b x (List.mem_of_mem_take a)
 ·exact b x (List.mem_of_mem_drop a)
theorem cut_ok {g:GrT} (G:Gh g) (i:Nat):Gh (g.1,g.2.take i++g.2.drop (i+1)):=by
 have c:(g.2.take i++g.2.drop (i+1)).Sublist g.2:=by
  rw[<-List.eraseIdx_eq_take_drop_succ];exact List.eraseIdx_sublist g.2 i
 have hp:g.2.Pairwise (fun a b=>a.1<b.1):=by
  rw[List.pairwise_iff_getElem];intro p q hp l h
  have:=G.1.lt h l
  rwa [bH hp,bH l] at this
 have k:=hp.sublist c;refine ⟨⟨G.1.n1,G.1.n5,?_,G.1.val,fun e f=>G.1.edge e (c.subset f),fun j d=>?_⟩,fun e f=>G.2 e (c.subset f)⟩
 ·have:=c.length_le
  have:=G.1.m
  show (g.2.take i++g.2.drop (i+1)).length<=12;omega
 ·have d:j+1<(g.2.take i++g.2.drop (i+1)).length:=d
  have:=List.pairwise_iff_getElem.1 k j (j+1) (by omega) d (by omega)
  show (nth (g.2.take i++g.2.drop (i+1)) (j:Int)).1<(nth (g.2.take i++g.2.drop (i+1)) ((j+1:Nat):Int)).1;rw[bH (by omega),bH d];exact this
def ad5 (h g:GrT):Prop:=h.1=g.1/\ ∀e∈h.2,e∈g.2
theorem UE (x:GrT) (a:Data.sm x) (id:Int): ∃r:GrT×Bool,je x id=some r/\nM x id=some r/\Data.sm r.1/\(r.2=true->Gh r.1/\ad5 r.1 x):=by
 obtain ⟨z,C⟩:=aR a.1;obtain ⟨g,B⟩:=aR a.2;obtain ⟨b,ev,kv⟩:=nQ x z g;obtain ⟨k,v,s,f⟩:=ac0 x id g;have D:k= -1\/ ∃(i:Nat) (p:i<x.2.length),k=(i:Int):=f.imp And.left fun ⟨i,h,e,_⟩=>⟨i,h,e⟩
 unfold je nM;simp only[fM,kg,ev,mS x a,CZ x a,v,s,aa];by_cases c:decide (k<0)=true
 ·simp only[if_pos c];cases b with
  | false=>exact ⟨(x,false),rfl,rfl,a,fun h=>by cases h⟩
  | true=>exact ⟨(x,false),rfl,rfl,a,fun h=>by cases h⟩
 ·simp only[if_neg c];cases b with
  | false=>exact ⟨(x,false),rfl,rfl,a,fun h=>by cases h⟩
  | true =>
   rcases D with rfl | ⟨i,p,rfl⟩
   ·exact absurd rfl c
   ·have w:i64.wrap ((i:Int)+1)=((i+1:Nat):Int):=af (by omega);have u:(0:Int)<=(i:Int)/\(i:Int)<=(x.2.length:Int):=by omega
    have l:(0:Int)<=((i+1:Nat):Int)/\((i+1:Nat):Int)<=(x.2.length:Int):=by omega
    have t:(0:Int)<=(i:Int)/\(i:Int)<=((i+1:Nat):Int)/\((i+1:Nat):Int)<=(x.2.length:Int):=by omega
    have q:(chk (0<=(i:Int)/\(i:Int)<=(x.2.length:Int)))=some ():=if_pos u;have y:(chk (0<=((i+1:Nat):Int)/\((i+1:Nat):Int)<=(x.2.length:Int)))=some ():=if_pos l;have A:(chk (0<=(i:Int)/\(i:Int)<=((i+1:Nat):Int)/\((i+1:Nat):Int)<=(x.2.length:Int)))=some ():=if_pos t;have m:bw 8 ([] :List Int) x.1=some x.1:=by rw[ax (by simp only[aD];omega)];rfl
    have n:bw 32 ([] :List Yq1) (x.2.take i)=some (x.2.take i):=by rw[ax (by simp only[aD,aB];omega)];rfl
    have o:bw 32 (x.2.take i) (x.2.drop (i+1))=some (x.2.take i++x.2.drop (i+1)):=ax (by simp only[aB,aZ];omega);have j:dm x.2 (i:Int) ((i+1:Nat):Int)=some (x.2.take i++x.2.drop (i+1)):=by
     unfold dm R.abG;rw[A];rfl
    simp only[if_true,w,q,y,aa,Int.toNat_natCast,m,n,o,j];refine ⟨_,rfl,rfl,⟨a.1,abg a.2 i⟩,fun _=>⟨cut_ok (kv.1 rfl) i,rfl,fun e d=>?_⟩⟩;rcases aE d with d | d
    ·exact List.mem_of_mem_take d
    ·exact List.mem_of_mem_drop d
theorem ac1 (l:List RK) (e:RK) (v:l.length<=1048576):cR l e=some (decide (e∈l)):=by
 have k: ∀x:RK,((e.1==x.1)&&((e.2.1==x.2.1)&&((e.2.2.1==x.2.2.1)&&((e.2.2.2==x.2.2.2)&&true))))=decide (e=x):=fun x=>by
  obtain ⟨a,b,c,d⟩:=e;obtain ⟨t,r,s,q⟩:=x;rw[Bool.eq_iff_iff];simp
 have o:=xk (f:=bE l e) l (fun u=>decide (e=u)) (fun i=>(i:Int)) (by omega) (fun i n=>by
  unfold bE;rw[bL n,if_pos rfl,aM n];simp only[aa,k,af (show i<9223372036854775807 by omega)];split <;> rfl) (by
  unfold bE;rw[bG];rfl)
 unfold cR fg;have p:bE l (e.1,e.2.1,e.2.2.1,e.2.2.2)=bE l e:=rfl;rw[p];rcases o with ⟨i,g,m,w,j⟩ | ⟨m,j⟩
 ·rw[bD j];simp only[aa]
  have:e∈l:=by
   have:=of_decide_eq_true m
   rw[this];exact List.getElem_mem g
  rw[decide_eq_true this];simp
 ·rw[aj j];simp only[aa]
  have: ¬e∈l:=fun h=>by simpa using m e h
  rw[decide_eq_false this];rfl
theorem abh {g:GrT} (G:GOk g):g.2.Pairwise (fun a b=>a.1<b.1):=by
 rw[List.pairwise_iff_getElem];intro p q hp d c
 have:=G.lt c d
 rwa [bH hp,bH d] at this
theorem abi {g:GrT} (G:Gh g) {e:RK} (l:edgeP e (g.1.length:Int)) (r:g.2.length<12) {i:Nat} (hi:i<=g.2.length) (h1: ∀j (d:j<g.2.length),j<i->g.2[j].1<e.1) (m: ∀(d:i<g.2.length),e.1<g.2[i].1):Gh (g.1,g.2.take i++([e] ++g.2.drop i)):=by
 have hp:=abh G.1;have f: ∀u∈g.2.take i++([e] ++g.2.drop i),u=e\/u∈g.2:=fun u c=>by
  rcases aE c with c | c
  ·exact .inr (List.mem_of_mem_take c)
  ·rcases aE c with c | c
   ·exact .inl (al c)
   ·exact .inr (List.mem_of_mem_drop c)
 have o: ∀u∈g.2.take i,u.1<e.1:=fun u c=>by
  obtain ⟨j,d,rfl⟩:=List.getElem_of_mem c;rw[aB] at d;rw[List.getElem_take];exact h1 j (by omega) (by omega)
 have n: ∀u∈g.2.drop i,e.1<u.1:=fun u c=>by
  obtain ⟨j,d,rfl⟩:=List.getElem_of_mem c;rw[aZ] at d;rw[List.getElem_drop];rcases Nat.eq_zero_or_pos j with rfl | q
  ·exact m (by omega)
  ·have a:=m (by omega);have b:=List.pairwise_iff_getElem.1 hp i (i+j) (by omega) (by omega) (by omega);omega
 have k:(g.2.take i++([e] ++g.2.drop i)).Pairwise (fun a b=>a.1<b.1):=by
  rw[List.pairwise_append];refine ⟨hp.sublist (List.take_sublist _ _),?_,fun a p b h=>?_⟩
  ·rw[List.singleton_append,List.pairwise_cons];exact ⟨n,hp.sublist (List.drop_sublist _ _)⟩
  ·have:=o a p
   rcases aE h with h | h
   ·rw[al h];exact this
   ·have:=n b h;omega
 refine ⟨⟨G.1.n1,G.1.n5,?_,G.1.val,fun u c=>?_,fun j d=>?_⟩,fun u c=>?_⟩
 ·show (g.2.take i++([e] ++g.2.drop i)).length<=12;simp only[az,aB,aq,aD,aZ];omega
 ·rcases f u c with rfl | c
  ·unfold edgeP at l;show (0<=u.2.1/\u.2.1<(g.1.length:Int))/\(0<=u.2.2.1/\u.2.2.1<(g.1.length:Int))/\0<=u.2.2.2/\u.2.2.2<=2;omega
  ·exact G.1.edge u c
 ·have d:j+1<(g.2.take i++([e] ++g.2.drop i)).length:=d
  have:=List.pairwise_iff_getElem.1 k j (j+1) (by omega) d (by omega)
  show (nth (g.2.take i++([e] ++g.2.drop i)) (j:Int)).1<(nth (g.2.take i++([e] ++g.2.drop i)) ((j+1:Nat):Int)).1;rw[bH (by omega),bH d];exact this
 ·rcases f u c with rfl | c
  ·exact l.1
  ·exact G.2 u c
theorem UF (x:GrT) (c:Data.sm x) (e:RK): ∃r:GrT×Bool,jd x e=some r/\nL x e=some r/\Data.sm r.1/\(r.2=true->(Gh r.1/\r.1.1=x.1)/\edgeP e 5):=by
 obtain ⟨p,T⟩:=aR c.1;obtain ⟨m,S⟩:=aR c.2;obtain ⟨b,ev,kv⟩:=nQ x p m;obtain ⟨k,L,K,V⟩:=ac0 x e.1 m;have B:=QH e (n:=x.1.length) p;unfold jd nL;simp only[fM,kg,ev,mS x c,CZ x c,ady,B,L,K,aa];cases b with
 | false=>exact ⟨(x,false),rfl,rfl,c,fun h=>by cases h⟩
 | true =>
  have G:=kv.1 rfl;have P:=G.1.m;simp only[if_true];by_cases q:decide (edgeP e (x.1.length:Int))=true
  ·by_cases w:decide (k≥0)=true
   ·simp only[if_pos q,if_pos w];exact ⟨(x,false),rfl,rfl,c,fun h=>by cases h⟩
   ·by_cases z:((x.2.length:Int)==12)=true
    ·simp only[if_pos q,if_neg w,if_pos z];exact ⟨(x,false),rfl,rfl,c,fun h=>by cases h⟩
    ·simp only[if_pos q,if_neg w,if_neg z];have A: ∀u∈x.2,u.1≠e.1:=by
      rcases V with ⟨-,h⟩ | ⟨i,g,rfl,-⟩
      ·exact h
      ·exact absurd (decide_eq_true (by omega)) w
     have O: ∃i:Nat,i<=x.2.length/\(∀j (a:j<x.2.length),j<i->x.2[j].1<e.1)/\(∀a:i<x.2.length,¬x.2[i].1<e.1)/\ah (dS x e) aU 0=some (.brk (i:Int)):=by
      obtain ⟨o,B,i,g,l,d,rfl⟩:=b9 (f:=dS x e) (fun i s=>s=(i:Int)/\ ∀j (a:j<x.2.length),j<i->x.2[j].1<e.1) (fun o=> ∃i:Nat,i<=x.2.length/\(∀j (a:j<x.2.length),j<i->x.2[j].1<e.1)/\(∀a:i<x.2.length,¬x.2[i].1<e.1)/\o= .brk (i:Int)) x.2.length (fun i s g v=>by
       obtain ⟨rfl,v⟩:=v;unfold dS;by_cases p:i<x.2.length
       ·simp only[bL p,if_true,aM p,aa,af (show i<9223372036854775807 by omega)];by_cases m:x.2[i].1<e.1
        ·refine .inl ⟨p,_,by simp[m],rfl,fun j a I=>?_⟩;by_cases t:j=i
         ·subst t;exact m
         ·exact v j a (by omega)
        ·exact .inr ⟨.brk (i:Int),by simp[m],(fun N e=>by cases e),i,g,v,fun _=>m,rfl⟩
       ·obtain rfl:i=x.2.length:=by omega
        exact .inr ⟨.brk (x.2.length:Int),by simp only[bG,Bool.false_eq_true,if_false],(fun N e=>by cases e),_,g,v,fun h=>absurd h p,rfl⟩) (s:=0) ⟨rfl,fun j a h=>absurd h (Nat.not_lt_zero _)⟩ (dq _ (by omega))
      exact ⟨i,g,l,d,B⟩
     obtain ⟨i,g,l,d,C⟩:=O;have Q:ah (ru e x) aU 0=some (.brk (i:Int)):=by
      rw[<-C];congr 1
     simp only[C,Q,aO];have M:=VK (y:=e) c.2 ⟨trivial,trivial,trivial,trivial⟩ i (by omega);have J:(chk (0<=(i:Int)/\(i:Int)<=(x.2.length:Int)))=some ():=if_pos (by omega);have D:bw 8 ([] :List Int) x.1=some x.1:=by rw[ax (by simp only[aD];omega)];rfl
     have F:bw 32 ([] :List Yq1) (x.2.take i)=some (x.2.take i):=by rw[ax (by simp only[aD,aB];omega)];rfl
     have H:bw 32 (x.2.take i) [e] =some (x.2.take i++ [e]):=ax (by simp only[aB,aq,aD];omega);have U:bw 32 (x.2.take i++ [e]) (x.2.drop i)=some (x.2.take i++([e] ++x.2.drop i)):=by
      rw[ax (by simp only[az,aB,aZ,aq,aD];omega),aC]
     have E:dk x.2 (i:Int) [e] =some (x.2.take i++([e] ++x.2.drop i),[e]):=by
      unfold dk R.XR
      have:(chk (0<=(i:Int)/\(i:Int)<=(x.2.length:Int)/\ [e].length=1/\1<=32/\(x.2.length+1)*32<=140737488355328))=some ():=if_pos ⟨by omega,by omega,rfl,by omega,by omega⟩
      rw[this];rfl
     simp only[J,aa,Int.toNat_natCast,D,F,H,U,E];refine ⟨_,rfl,rfl,⟨c.1,M⟩,fun _=>⟨⟨abi G (of_decide_eq_true q) ?_ g l fun a=>?_,rfl⟩,?_⟩⟩
     ·have: ¬(x.2.length:Int)=12:=by simpa using z
      omega
     ·have:=A _ (List.getElem_mem a)
      have:=d a
      omega
     ·have hp:edgeP e (x.1.length:Int):=of_decide_eq_true q;have W:=G.1.n5;unfold edgeP at hp⊢;omega
  ·simp only[if_neg q];exact ⟨(x,false),rfl,rfl,c,fun h=>by cases h⟩
theorem abj (g:GrT) (C:Data.sm g) (b:List Nu) (hb:b.length<=6) {i:Nat} (hi:i<b.length) (x:GrT) (A:Data.sm x) (G:Gh x) (B:x.1=g.1):eA g b ((i:Int),x)=cB g b ((i:Int),x)/\(cB g b ((i:Int),x)=some (.ret (g,false))\/ ∃y:GrT,Data.sm y/\((Gh y/\y.1=g.1)/\edgeP b[i].2 5)/\cB g b ((i:Int),x)=some (.nxt (((i+1:Nat):Int),y))):=by
 have F:=(aR A.2).1;obtain ⟨r,J,R,N,v⟩:=UF x A b[i].2;obtain ⟨d,M,Q,K,E⟩:=UE x A b[i].2.1;obtain ⟨k,L,k2,T⟩:=ac0 x b[i].2.1 F;have S:=ac1 x.2 b[i].2 F;have O:i64.wrap ((i:Int)+1)=((i+1:Nat):Int):=af (by omega);unfold eA cB;simp only[fM,bL hi,if_true,aM hi,aa,if_pos (decide_eq_true (show (i:Int)<=6 by omega)),J,R,L,M,Q,S,mS g C,CZ g C,O];generalize b[i] =f at *;by_cases c:f.1=true
 ·simp only[if_pos c];by_cases l:r.2=true
  ·simp only[if_pos l,aa,fO];exact ⟨trivial,.inr ⟨_,N,⟨⟨(v l).1.1,(v l).1.2.trans B⟩,(v l).2⟩,rfl⟩⟩
  ·simp only[if_neg l,aa,fO];exact ⟨trivial,.inl trivial⟩
 ·simp only[if_neg c];rcases T with ⟨rfl,z⟩ | ⟨j,s,rfl,n⟩
  ·have o: ¬f.2∈x.2:=fun h=>z _ h rfl;rw[if_pos (by decide),if_neg (by simpa using o)];simp only[aa,fO];exact ⟨rfl,.inl rfl⟩
  ·rw[if_neg (by simp),aM s];simp only[aa];have P:((x.2[j].1==f.2.1)&&((x.2[j].2.1==f.2.2.1)&&((x.2[j].2.2.1==f.2.2.2.1)&&((x.2[j].2.2.2==f.2.2.2.2)&&true))))=decide (x.2[j] =f.2):=by
    generalize x.2[j] =u;obtain ⟨a,b,c,d⟩:=u;obtain ⟨t,Z,V,W,U⟩:=f;rw[Bool.eq_iff_iff];simp
   rw[P];by_cases p:x.2[j] =f.2
   ·have e:f.2∈x.2:=p ▸ List.getElem_mem s;rw[if_pos (decide_eq_true p),if_pos (decide_eq_true e)];by_cases l:d.2=true
    ·simp only[if_pos l,aa,fO];refine ⟨trivial,.inr ⟨_,K,⟨⟨(E l).1,(E l).2.1.trans B⟩,?_⟩,rfl⟩⟩;have Y:=G.1.n5;have X:=G.1.edge _ e;have h7:=G.2 _ e;unfold edgeP;omega
    ·simp only[if_neg l,aa,fO];exact ⟨trivial,.inl trivial⟩
   ·rw[if_neg (by simpa using p)];have e: ¬f.2∈x.2:=fun e=>by
     obtain ⟨m,I,w⟩:=List.getElem_of_mem e;have D:nth x.2 (m:Int)=x.2[m]:=bH I;have H:nth x.2 (j:Int)=x.2[j]:=bH s;rcases Nat.lt_trichotomy m j with q | q | q
     ·have:=G.1.lt q s
      rw[D,H,w,n] at this;omega
     ·subst q;exact p w
     ·have:=G.1.lt q I
      rw[D,H,w,n] at this;omega
    rw[if_neg (by simpa using e)];simp only[aa,fO];exact ⟨rfl,.inl rfl⟩
theorem VZ (g:GrT) (k:Data.sm g) (b:List Nu): ∃r:GrT×Bool,gF g b=some r/\kZ g b=some r/\Data.sm r.1/\(r.2=true->(Gh r.1/\r.1.1=g.1)/\b.length<=6/\ ∀c∈b,edgeP c.2 5):=by
 obtain ⟨K,M⟩:=aR k.1;obtain ⟨v,ev,kv⟩:=nQ g K (aR k.2).1;unfold gF kZ dU;simp only[fM,kg,ev,mS g k,CZ g k,aa];cases v with
 | false=>exact ⟨(g,false),rfl,rfl,k,fun h=>by cases h⟩
 | true =>
  have D:=kv.1 rfl;simp only[if_true];by_cases c:decide ((b.length:Int)>6)=true
  ·simp only[if_pos c];exact ⟨(g,false),rfl,rfl,k,fun h=>by cases h⟩
  ·simp only[if_neg c];have C:b.length<=6:=by
    rw[decide_eq_true_eq] at c;omega
   have l: ∀x:GrT,cB g b ((b.length:Int),x)=some (.brk ((b.length:Int),x)):=fun x=>by
    unfold cB;simp only[];rw[bG];rfl
   have p: ∀x:GrT,eA g b ((b.length:Int),x)=some (.brk ((b.length:Int),x)):=fun x=>by
    unfold eA;simp only[];rw[bG];rfl
   have same:ah (eA g b) aU (0,g)=ah (cB g b) aU (0,g):=by
    refine rQ (f:=cB g b) (g:=eA g b) (fun i s=> ∃x:GrT,s=((i:Int),x)/\Data.sm x/\(Gh x/\x.1=g.1)/\i<=b.length) (fun i s z=>?_) aU 0 (0,g) ⟨g,rfl,k,⟨D,rfl⟩,Nat.zero_le _⟩;obtain ⟨x,rfl,t,⟨w,u⟩,I⟩:=z;by_cases h:i<b.length
    ·obtain ⟨G,d⟩:=abj g k b C h x t w u;refine ⟨G,fun B a=>?_⟩;rcases d with d | ⟨y,A,m,d⟩
     ·rw[d] at a;simp at a
     ·rw[d] at a;obtain rfl:=ae a |> Out.nxt.inj;exact ⟨y,rfl,A,m.1,h⟩
    ·obtain rfl:i=b.length:=by omega
     exact ⟨by rw[l,p],fun B a=>by rw[l] at a;simp at a⟩
   obtain ⟨o,e,J⟩:=b9 (f:=cB g b) (fun i s=> ∃x:GrT,s=((i:Int),x)/\Data.sm x/\(Gh x/\x.1=g.1)/\ ∀j (q:j<b.length),j<i->edgeP b[j].2 5) (fun o=>o= .ret (g,false)\/ ∃(n:Int) (x:GrT),o= .brk (n,x)/\Data.sm x/\(Gh x/\x.1=g.1)/\ ∀c∈b,edgeP c.2 5) b.length (fun i s I z=>by
    obtain ⟨x,rfl,t,⟨w,u⟩,F⟩:=z;by_cases h:i<b.length
    ·obtain ⟨-,d⟩:=abj g k b C h x t w u;rcases d with d | ⟨y,A,m,d⟩
     ·exact .inr ⟨_,d,fun B h=>(by simp at h),.inl rfl⟩
     ·refine .inl ⟨h,_,d,y,rfl,A,m.1,fun j q H=>?_⟩;by_cases c:j=i
      ·subst c;exact m.2
      ·exact F j q (by omega)
    ·obtain rfl:i=b.length:=by omega
     exact .inr ⟨_,l x,fun B h=>(by simp at h),.inr ⟨_,x,rfl,t,⟨w,u⟩,fun c L=>by
      obtain ⟨j,q,rfl⟩:=List.getElem_of_mem L;exact F j q q⟩⟩) (s:=(0,g)) ⟨g,rfl,k,⟨D,rfl⟩,fun j q h=>absurd h (Nat.not_lt_zero _)⟩ (dq _ (by omega))
   rw[same,e];rcases J with rfl | ⟨n,x,rfl,t,E⟩
   ·exact ⟨_,rfl,rfl,k,fun h=>by cases h⟩
   ·exact ⟨_,rfl,rfl,t,fun _=>⟨E.1,C,E.2⟩⟩
theorem Nx (g:GrT) (e:Data.sm g) (b:List ChT): ∃r:GrT×Bool,gF g b=some r/\kZ g b=some r/\Data.sm r.1:=by
 obtain ⟨r,c,a,d,-⟩:=VZ g e b;exact ⟨r,c,a,d⟩
theorem xl (h:q8) (a:Data.sm h) (b:List ChT): ∃r:q8×Bool,bM h b=some r/\j5 h b=some r/\Data.sm r.1/\(r.2=false->r.1=h):=by
 obtain ⟨v,f,l,k⟩:=kh h a;cases v with
 | false =>
  unfold bM j5 bS;simp only[fM,C7 h a,Kf h a,f,l,aa];exact ⟨(h,false),rfl,rfl,a,fun _=>rfl⟩
 | true =>
  have w:=k rfl;obtain ⟨n,s⟩:=kj f l w;have d: ¬(latV h==0)=true:=by
   rw[beq_iff_eq];unfold latV;omega
  unfold bM j5;simp only[fM,C7 h a,Kf h a,f,n,s,aa,if_true,if_neg d];by_cases c:(latV h==999)=true
  ·simp only[if_pos c];exact ⟨(h,false),rfl,rfl,a,fun _=>rfl⟩
  ·simp only[if_neg c];have y:=(aR a.2).2 _ (cw (xs:=h.2) (i:=(h.2.length:Int) - 1) (by omega) (by omega));obtain ⟨r,m,t,p⟩:=Nx _ y b;rw[fG (by omega),aw (xs:=h.2) (by omega) (by omega)];simp only[aa,fM,m,t];by_cases g:r.2=true
   ·simp only[if_pos g];rw[ax (by simp only[aq,aD];omega)];simp only[aa];have j:Data.sm (h.2++ [r.1]):=⟨by rw[az];simp only[aq,aD];omega,fun x u=>by
     rcases aE u with q | q
     ·exact (aR a.2).2 x q
     ·obtain rfl:=al q;exact p⟩
    by_cases e:decide (((h.2++ [r.1]).length:Int)>8)=true
    ·have o:(chk ((0:Int)<=1/\1<=((h.2++ [r.1]).length:Int)))=some ():=if_pos ⟨by omega,by rw[decide_eq_true_eq] at e;omega⟩;simp only[if_pos e,o,aa];exact ⟨_,rfl,rfl,⟨trivial,Rq j 1⟩,fun h=>by cases h⟩
    ·simp only[if_neg e,aa];exact ⟨_,rfl,rfl,⟨trivial,j⟩,fun h=>by cases h⟩
   ·simp only[if_neg g];exact ⟨(h,false),rfl,rfl,a,fun _=>rfl⟩
theorem yV (h:q8) (c:Data.sm h): ∃v:Int,aF h=some v/\bS h=some v:=by
 obtain ⟨v,b,a,k⟩:=kh h c;cases v with
 | false =>
  unfold aF bS;simp only[fM,b,a,aa];exact ⟨0,rfl,rfl⟩
 | true=>exact ⟨_,kj b a (k rfl)⟩
theorem Kg (e:EngT) (a:Data.sm e) (b:List ChT): ∃y:EngT×Bool,bV e b=some y/\j6 e b=some y/\Data.sm y.1/\(y.2=false->y.1=e):=by
 obtain ⟨v,s,o,k⟩:=Bh e a;obtain ⟨r,i,p,f,-⟩:=xl e.1 a.1 b;obtain ⟨w,m,q⟩:=yV r.1 f;obtain ⟨j,g,x⟩:=wz w b;obtain ⟨l,d⟩:=yT e.2.2.2;have u:e.2.2.2.size=l.length:=by rw[d];exact aV l
 unfold bV j6;simp only[fM,qb e a,Rp e a,s,o,i,p,aa];cases v with
 | false=>exact ⟨(e,false),rfl,rfl,a,fun _=>rfl⟩
 | true =>
  have z:e.2.2.2.size<=4000:=(k rfl).log;simp only[if_true];by_cases c:r.2=true
  ·simp only[if_pos c,m,q,j,g,aa,d,aV];rw[yQ _ _ (by omega),br (n:=(l.length:Int)+((recT w b).length:Int)) (by omega) (by omega)];simp only[aa,aV,az];by_cases t:l.length+(recT w b).length>4000
   ·rw[if_pos (decide_eq_true (by omega)),if_pos (decide_eq_true (by omega))];exact ⟨(e,false),rfl,rfl,a,fun _=>rfl⟩
   ·rw[if_neg (by rw[decide_eq_true_eq];omega),if_neg (by rw[decide_eq_true_eq];omega)];refine ⟨_,rfl,rfl,⟨f,a.2.1,a.2.2.1,?_⟩,fun h=>by cases h⟩;show (mkB (l++recT w b)).size<=1048576;rw[aV,az];omega
  ·simp only[if_neg c];exact ⟨(e,false),rfl,rfl,a,fun _=>rfl⟩
theorem GD {r:List Int×List (List ChT)×Int} (E:r.2.1.length=r.1.length) (D:r.1.length<=4000): ∀(d k f:Nat) (n:Int) (e:EngT),r.1.length=k+d->d<f->Data.sm e->
  ∃(n':Int) (j:EngT),Data.sm j/\aO (ah (aJ r) f (n,(k:Int),r.2.1,e.1.1,e.1.2,e.2.1.1,e.2.1.2,e.2.2.1,e.2.2.2)) (fun x=>some x) (fun s=>some (((s.2.2.2.1,s.2.2.2.2.1),(s.2.2.2.2.2.1,s.2.2.2.2.2.2.1),s.2.2.2.2.2.2.2.1,s.2.2.2.2.2.2.2.2),s.1))=some (j,n')/\aO (ah (cT r) f (n,(k:Int),r.2.1,e.1.1,e.1.2,e.2.1.1,e.2.1.2,e.2.2.1,e.2.2.2)) (fun x=>some x) (fun s=>some (s.1,((s.2.2.2.1,s.2.2.2.2.1),(s.2.2.2.2.2.1,s.2.2.2.2.2.2.1),s.2.2.2.2.2.2.2.1,s.2.2.2.2.2.2.2.2)))=some (n',j)
 | d,k,f+1,n,e,C,hf,he=>by
  obtain ⟨L,i,A⟩:=yV e.1 he.1;have i:aF (e.1.1,e.1.2)=_:=i;have A:bS (e.1.1,e.1.2)=_:=A;have p:fD ((e.1.1,e.1.2),(e.2.1.1,e.2.1.2),e.2.2.1,e.2.2.2)=some (L,e):=by
   unfold fD;simp only;rw[A];rfl
  match d,C with
  | 0,C =>
   refine ⟨n,e,he,?_,?_⟩
   ·have:aJ r (n,(k:Int),r.2.1,e.1.1,e.1.2,e.2.1.1,e.2.1.2,e.2.2.1,e.2.2.2)=some (.brk (n,(k:Int),r.2.1,e.1.1,e.1.2,e.2.1.1,e.2.1.2,e.2.2.1,e.2.2.2)):=by
     unfold aJ;simp only;rw[if_neg (by simp;omega)]
    rw[ah,this];rfl
   ·have:cT r (n,(k:Int),r.2.1,e.1.1,e.1.2,e.2.1.1,e.2.1.2,e.2.2.1,e.2.2.2)=some (.brk (n,(k:Int),r.2.1,e.1.1,e.1.2,e.2.1.1,e.2.1.2,e.2.2.1,e.2.2.2)):=by
     unfold cT;simp only;rw[if_neg (by simp;omega)]
    rw[ah,this];rfl
  | d+1,C =>
   have q:i64.wrap ((k:Int)+1)=((k+1:Nat):Int):=af (by omega);have g:decide ((k:Int)<(r.1.length:Int))=true:=decide_eq_true (by omega);have c:aS r.1 (k:Int)=some (nth r.1 (k:Int)):=aw (by omega) (by omega);have l:aS r.2.1 (k:Int)=some (nth r.2.1 (k:Int)):=aw (by omega) (by omega);generalize nth r.1 (k:Int)=v at c;generalize nth r.2.1 (k:Int)=b at l;obtain ⟨x,m,t,G,H⟩:=Kg e he b;have m:bV ((e.1.1,e.1.2),(e.2.1.1,e.2.1.2),e.2.2.1,e.2.2.2) b=_:=m;have t:j6 ((e.1.1,e.1.2),(e.2.1.1,e.2.1.2),e.2.2.1,e.2.2.2) b=_:=t;have F:iP b ((e.1.1,e.1.2),(e.2.1.1,e.2.1.2),e.2.2.1,e.2.2.2)=some (x.2,x.1):=by
    unfold iP;simp only;rw[t];rfl
   by_cases u:v<=L
   ·obtain ⟨n',j,y,w,z⟩:=GD E D d (k+1) f n e (by omega) (by omega) he;refine ⟨n',j,y,?_,?_⟩
    ·have:aJ r (n,(k:Int),r.2.1,e.1.1,e.1.2,e.2.1.1,e.2.1.2,e.2.2.1,e.2.2.2)=some (.nxt (n,((k+1:Nat):Int),r.2.1,e.1.1,e.1.2,e.2.1.1,e.2.1.2,e.2.2.1,e.2.2.2)):=by
      unfold aJ;simp only[g,if_true,c,i,aa,decide_eq_true u,fO,q]
     rw[ah,this];exact w
    ·have:cT r (n,(k:Int),r.2.1,e.1.1,e.1.2,e.2.1.1,e.2.1.2,e.2.2.1,e.2.2.2)=some (.nxt (n,((k+1:Nat):Int),r.2.1,e.1.1,e.1.2,e.2.1.1,e.2.1.2,e.2.2.1,e.2.2.2)):=by
      unfold cT;simp only[g,if_true,c,p,aa,decide_eq_true u,fO,q]
     rw[ah,this];exact z
   ·have a: ¬decide (v<=L)=true:=by simpa using u
    by_cases o:(v !=i64.wrap (L+1))=true
    ·refine ⟨n,e,he,?_,?_⟩
     ·have:aJ r (n,(k:Int),r.2.1,e.1.1,e.1.2,e.2.1.1,e.2.1.2,e.2.2.1,e.2.2.2)=some (.ret (e,n)):=by
       unfold aJ;by_cases h:x.2=true
       ·simp only[g,if_true,c,i,aa,if_neg a,l,m,if_pos h,if_pos o,fO]
       ·simp only[g,if_true,c,i,aa,if_neg a,l,m,if_neg h,fO]
      rw[ah,this];rfl
     ·have:cT r (n,(k:Int),r.2.1,e.1.1,e.1.2,e.2.1.1,e.2.1.2,e.2.2.1,e.2.2.2)=some (.brk (n,(k:Int),r.2.1,e.1.1,e.1.2,e.2.1.1,e.2.1.2,e.2.2.1,e.2.2.2)):=by
       unfold cT;simp only[g,if_true,c,p,aa,if_neg a,if_pos o,fO]
      rw[ah,this];rfl
    ·by_cases h:x.2=true
     ·obtain ⟨n',j,y,w,z⟩:=GD E D d (k+1) f (i64.wrap (n+1)) x.1 (by omega) (by omega) G;refine ⟨n',j,y,?_,?_⟩
      ·have:aJ r (n,(k:Int),r.2.1,e.1.1,e.1.2,e.2.1.1,e.2.1.2,e.2.2.1,e.2.2.2)=some (.nxt (i64.wrap (n+1),((k+1:Nat):Int),r.2.1,x.1.1.1,x.1.1.2,x.1.2.1.1,x.1.2.1.2,x.1.2.2.1,x.1.2.2.2)):=by
        unfold aJ;simp only[g,if_true,c,i,aa,if_neg a,l,m,if_neg o,if_pos h,fO,q]
       rw[ah,this];exact w
      ·have:cT r (n,(k:Int),r.2.1,e.1.1,e.1.2,e.2.1.1,e.2.1.2,e.2.2.1,e.2.2.2)=some (.nxt (i64.wrap (n+1),((k+1:Nat):Int),r.2.1,x.1.1.1,x.1.1.2,x.1.2.1.1,x.1.2.1.2,x.1.2.2.1,x.1.2.2.2)):=by
        unfold cT;simp only[g,if_true,c,p,aa,if_neg a,l,F,if_neg o,if_pos h,fO,q]
       rw[ah,this];exact z
     ·have B:=H (by simpa using h);refine ⟨n,e,he,?_,?_⟩
      ·have:aJ r (n,(k:Int),r.2.1,e.1.1,e.1.2,e.2.1.1,e.2.1.2,e.2.2.1,e.2.2.2)=some (.ret (e,n)):=by
        unfold aJ;simp only[g,if_true,c,i,aa,if_neg a,l,m,if_neg h,fO]
       rw[ah,this];rfl
      ·have:cT r (n,(k:Int),r.2.1,e.1.1,e.1.2,e.2.1.1,e.2.1.2,e.2.2.1,e.2.2.2)=some (.brk (n,(k:Int),r.2.1,x.1.1.1,x.1.1.2,x.1.2.1.1,x.1.2.1.2,x.1.2.2.1,x.1.2.2.2)):=by
        unfold cT;simp only[g,if_true,c,p,aa,if_neg a,l,F,if_neg o,if_neg h,fO]
       rw[ah,this,B];rfl
theorem EK (e:EngT) (a:Data.sm e) (y:ByteArray) (h:y.size<=1048576): ∃x:EngT×Int,cU e y=some x/\iu e y=some x/\Data.sm x.1:=by
 obtain ⟨v,o,i,-⟩:=Bh e a;obtain ⟨l,rfl⟩:=yT y;rw[aV] at h;obtain ⟨r,q,n,k,p,-,m,b,-⟩:=l6 l (by omega);obtain ⟨g,j,d,c,f⟩:=GD (r:=(r,q,(n:Int))) b.1 m r.length 0 aU 0 e (by show r.length=0+r.length;omega) (by unfold aU;omega) a;have c:aO (ah (aJ (r,q,(n:Int))) aU (0,0,q,e.1.1,e.1.2,e.2.1.1,e.2.1.2,e.2.2.1,e.2.2.2)) _ _=_:=c;have f:aO (ah (cT (r,q,(n:Int))) aU (0,0,q,e.1.1,e.1.2,e.2.1.1,e.2.1.2,e.2.2.1,e.2.2.2)) _ _=_:=f;unfold cU iu zy;simp only[fM];rw[qb e a,Rp e a,o,i,k,p];simp only[aa];cases v with
 | false=>exact ⟨(e,0),rfl,rfl,a⟩
 | true =>
  refine ⟨(j,g),?_,?_,d⟩
  ·rw[if_pos rfl];exact c
  ·rw[if_pos rfl,f];rfl
theorem Ru (e:EngT) (a:Data.sm e) (y:ByteArray) (j:y.size<=1048576): ∃k:Int,dK e y=some k/\dJ e y=some k:=by
 obtain ⟨v,h,c,-⟩:=Bh e a;obtain ⟨x,d,g,b⟩:=EK e a y j;obtain ⟨L,i,f⟩:=yV x.1.1 b.1;unfold dK dJ;simp only[fM,h,c,d,g,i,f,aa];cases v with
 | false=>exact ⟨_,rfl,rfl⟩
 | true=>exact ⟨_,rfl,rfl⟩
theorem YW {c:ChT} (h:edOk c.2):(59:UInt8)∉q9 c:=by
 obtain ⟨t,e⟩:=c;rw[q9,Gz h];have h:edOk e:=h;obtain ⟨-,l,m,n⟩:=h;have b: ∀k:Fin 5,UInt8.ofNat (48+k.val)≠59:=by decide
 have i: ∀k:Fin 3,UInt8.ofNat (97+k.val)≠59:=by decide
 have d:=b ⟨e.2.1.toNat,by omega⟩;have f:=i ⟨e.2.2.2.toNat,by omega⟩;have j:=b ⟨e.2.2.1.toNat,by omega⟩;have g:(59:UInt8)∉Lib.itoa e.1:=C5 (by decide) (by decide);intro a;rcases aG a with a | a
 ·revert a;cases t
  ·show (59:UInt8)=45->False
   decide
  ·show (59:UInt8)=43->False
   decide
 ·rcases aE a with a | a
  ·exact g a
  ·simp only[List.mem_cons,List.not_mem_nil,or_false] at a;rcases a with a | a | a | a
   ·revert a;decide
   ·exact d a.symm
   ·exact f a.symm
   ·exact j a.symm
theorem Rv {c:UInt8} (h32:c≠32) {l:List ChT} (h: ∀x∈l,c∉q9 x):c∉btx l:=by
 have key: ∀r:List ChT,(∀x∈r,c∉q9 x)->c∉Lib.joinTail [32] (r.map q9):=by
  intro r
  induction r with
  | nil=>intro _ hm;simp[Lib.joinTail] at hm
  | cons x r ih =>
   intro hr hm
   have e:Lib.joinTail [32] (q9 x::r.map q9)=32::(q9 x++Lib.joinTail [32] (r.map q9)):=by simp[Lib.joinTail]
   rw[List.map_cons,e] at hm
   rcases aG hm with hm | hm
   ·exact h32 hm
   ·rcases aE hm with hm | hm
    ·exact hr x (by simp) hm
    ·exact ih (fun y hy=>hr y (bq _ hy)) hm
 cases l with
 | nil=>rw[Rj];simp
 | cons x r =>
  unfold btx
  rw[List.map_cons,Lib.join_cons]
  intro hm
  rcases aE hm with hm | hm
  ·exact h x (by simp) hm
  ·exact key r (fun y hy=>h y (bq _ hy)) hm
def adG (v:Int) (b:List ChT):Prop:=(1<=v/\v<=999)/\b.length<=6/\zR b
theorem UG {v:Int} {b:List ChT} (h:adG v b): ∃a:List UInt8,(10:UInt8)∉a/\recT v b=a++ [10] /\fT (mkB (recT v b))=some (v,b,true):=by
 obtain ⟨hv,r,i⟩:=h;obtain ⟨u,P⟩:=rS b;rw[if_pos ⟨r,i⟩] at u;have F:=C3 i;have o:I64 v:=by unfold I64;omega
 have N:=tu o;have B:jA (mkB (Lib.itoa v)) (⟨#[59]⟩)=some (mkB (Lib.itoa v++ [59])):=yQ _ [59] (by simp;omega);have w:jA (mkB (Lib.itoa v++ [59])) (mkB (btx b))=some (mkB (Lib.itoa v++ [59] ++btx b)):=yQ _ _ (by simp;omega);have A:jA (mkB (Lib.itoa v++ [59] ++btx b)) (⟨#[59]⟩)=some (mkB (Lib.itoa v++ [59] ++btx b++ [59])):=yQ _ [59] (by simp;omega);obtain ⟨q,D,-,O,Q⟩:=Az (mkB (Lib.itoa v++ [59] ++btx b++ [59])) (by rw[aV];simp;omega);have s:I64 q:=by unfold I64;omega
 have M:=tu s;have I:jA (mkB (Lib.itoa v++ [59] ++btx b++ [59])) (mkB (Lib.itoa q))=some (mkB (Lib.itoa v++ [59] ++btx b++ [59] ++Lib.itoa q)):=yQ _ _ (by simp;omega);have C:jA (mkB (Lib.itoa v++ [59] ++btx b++ [59] ++Lib.itoa q)) (⟨#[10]⟩)=some (mkB (Lib.itoa v++ [59] ++btx b++ [59] ++Lib.itoa q++ [10])):=yQ _ [10] (by simp;omega);have t:recT v b=Lib.itoa v++ [59] ++btx b++ [59] ++Lib.itoa q++ [10]:=by
  have e:=(wz v b).1;unfold di at e;rw[u,AP] at e;rw[decide_eq_true hv] at e;simp only[if_true,qH o,qH s,B,w,A,D,I,C,aa] at e;have l:decide ((b.length:Int)>0)=true-> ¬(mkB (btx b)==(⟨#[]⟩:ByteArray))=true:=fun hp=>by
   rw[sO,decide_eq_true_eq];rw[decide_eq_true_eq] at hp;exact Rk (fun J=>by rw[J] at hp;simp at hp)
  by_cases a:decide ((b.length:Int)>0)=true
  ·simp only[if_pos a,if_neg (l a)] at e;exact (sN (ae e)).symm
  ·simp only[if_neg a] at e
   first
    | exact (sN (ae e)).symm
    | (split at e <;> exact (sN (ae e)).symm)
 have k:(10:UInt8)∉Lib.itoa v:=C5 (by decide) (by decide);have c:(10:UInt8)∉Lib.itoa q:=C5 (by decide) (by decide);have g:(10:UInt8)∉btx b:=Rv (by decide) fun x m=>GB (i x m) (by decide) (by decide) (by decide);have d:(59:UInt8)∉Lib.itoa v:=C5 (by decide) (by decide);have f:(59:UInt8)∉Lib.itoa q:=C5 (by decide) (by decide);have j:(59:UInt8)∉btx b:=Rv (by decide) fun x m=>YW (i x m);refine ⟨Lib.itoa v++ [59] ++btx b++ [59] ++Lib.itoa q,?_,t,?_⟩
 ·simp only[List.mem_append,List.mem_singleton,not_or];exact ⟨⟨⟨⟨k,by decide⟩,g⟩,by decide⟩,c⟩
 ·have p:=(wz v b).2.2;have y:hY (mkB (recT v b)) 59=some ((qI 59 [] (recT v b)).map mkB):=vF (recT v b) 59 (by omega);have K:qI 59 [] (recT v b)= [Lib.itoa v,btx b,Lib.itoa q++ [10]]:=by
   rw[t,show Lib.itoa v++ [59] ++btx b++ [59] ++Lib.itoa q++ [10] =Lib.itoa v++59::(btx b++59::(Lib.itoa q++ [10])) by simp];rw[o7 d,o7 j,oo (by simp only[List.mem_append,List.mem_singleton,not_or];exact ⟨f,by decide⟩)];simp
  have E:=(Gr (n:=v) ⟨by omega,by omega⟩).1;have L:=(YK i r).1;have H:=(wz v b).1;unfold fT;rw[y,K];have z:aS [mkB (Lib.itoa v),mkB (btx b),mkB (Lib.itoa q++ [10])] 0=some (mkB (Lib.itoa v)):=rfl;have G:aS [mkB (Lib.itoa v),mkB (btx b),mkB (Lib.itoa q++ [10])] 1=some (mkB (btx b)):=rfl;simp only[List.map_cons,List.map_nil,aa];rw[if_neg (by simp)];simp only[z,G,E,L,H,aa,if_true];simp
theorem YX {l t:List UInt8} (d:(l++t).length<=4000) {i u:Nat} (hi:i<l.length) (b:u<=i) (vs:List Int) (bs:List (List ChT)):aN (mkB (l++t)) (vs,bs,(u:Int),(i:Int))=aN (mkB l) (vs,bs,(u:Int),(i:Int)):=by
 have c:(l++t).length=l.length+t.length:=az;have a:lG (mkB (l++t)) (u:Int) ((i+1:Nat):Int)=lG (mkB l) (u:Int) ((i+1:Nat):Int):=by
  rw[slB (by omega) (by omega),slB (by omega) (by omega),List.take_append_of_le_length (by omega)]
 unfold aN;simp only[];rw[aV,aV,bL (show i<(l++t).length by omega),bL hi,if_pos rfl,if_pos rfl,if_pos (decide_eq_true (by omega)),if_pos (decide_eq_true (show (l.length:Int)<=4000 by omega)),atB (show i<(l++t).length by omega),atB hi,List.getElem_append_left hi,af (show i<9223372036854775807 by omega),a]
theorem YY {l:List UInt8} (q:l.length<=4000) {i u:Nat} (hi:i<l.length) (n:u<=i) (vs:List Int) (bs:List (List ChT)) (hv:vs.length<=i) (p:bs.length<=i):aN (mkB l) (vs,bs,(u:Int),(i:Int))=some (.ret (vs,bs,(u:Int)))\/ ∃(a:List Int) (b:List (List ChT)) (h:Nat),h<=i+1/\a.length<=i+1/\b.length<=i+1/\aN (mkB l) (vs,bs,(u:Int),(i:Int))=some (.nxt (a,b,(h:Int),((i+1:Nat):Int))):=by
 have m:lG (mkB l) (u:Int) ((i+1:Nat):Int)=some (mkB ((l.take (i+1)).drop u)):=slB (by omega) (by omega);obtain ⟨r,k,-⟩:=IB ((l.take (i+1)).drop u) (by rw[aZ,aB];omega);have e:bw 8 vs [r.1] =some (vs++ [r.1]):=ax (by simp only[aq,aD];omega);have j:bw 24 bs [r.2.1] =some (bs++ [r.2.1]):=ax (by simp only[aq,aD];omega);unfold aN;simp only[];rw[aV,bL hi,if_pos rfl,if_pos (decide_eq_true (by omega)),atB hi,af (show i<9223372036854775807 by omega)];simp only[aa];by_cases c:((l[i].toNat:Nat):Int)=10
 ·rw[if_neg (by simpa using c),m];simp only[aa];rw[k];simp only[aa];by_cases g:r.2.2=true
  ·rw[if_pos g];by_cases d:decide ((vs.length:Int)>0)=true
   ·rw[if_pos d];have o:0<vs.length:=by simpa using d
    rw[fG (by omega),aw (xs:=vs) (by omega) (by omega)];simp only[aa];by_cases f:(r.1 !=i64.wrap (nth vs ((vs.length:Int) - 1)+1))=true
    ·rw[if_pos f];exact .inl rfl
    ·rw[if_neg f,e,j];exact .inr ⟨_,_,i+1,aH _,by simp;omega,by simp;omega,rfl⟩
   ·rw[if_neg d,e,j];exact .inr ⟨_,_,i+1,aH _,by simp;omega,by simp;omega,rfl⟩
  ·rw[if_neg g];exact .inl rfl
 ·rw[if_pos (by simpa using c)];exact .inr ⟨vs,bs,u,by omega,by omega,by omega,rfl⟩
theorem abk {l t:List UInt8} (g:(l++t).length<=4000) {r:List Int} {q:List (List ChT)} : ∀(d i u:Nat) (vs:List Int) (bs:List (List ChT)) (k a:Nat),i+d=l.length->u<=i->vs.length<=i->bs.length<=i->aO (ah (aN (mkB l)) (k+1+d) (vs,bs,(u:Int),(i:Int))) (fun x=>some x) (fun s=>some (s.1,s.2.1,s.2.2.1))=some (r,q,(l.length:Int))->
  ah (aN (mkB (l++t))) (a+d) (vs,bs,(u:Int),(i:Int))=ah (aN (mkB (l++t))) a (r,q,(l.length:Int),(l.length:Int))
 | 0,i,u,vs,bs,k,a,hd,hu,hv,hb,h=>by
  obtain rfl:i=l.length:=by omega
  have:aN (mkB l) (vs,bs,(u:Int),(l.length:Int))=some (.brk (vs,bs,(u:Int),(l.length:Int))):=by
   unfold aN;simp only[];rw[aV,if_neg (by simp)]
  rw[Nat.add_zero,ah,this] at h;simp only[aO,Option.some.injEq,Prod.mk.injEq] at h;obtain ⟨rfl,rfl,o⟩:=h;rw[o];rfl
 | d+1,i,u,vs,bs,k,a,hd,hu,hv,hb,h=>by
  have v:(l++t).length=l.length+t.length:=az;have f:i<l.length:=by omega
  rw[show a+(d+1)=(a+d)+1 by omega,ah,YX g f hu];rw[show k+1+(d+1)=(k+1+d)+1 by omega,ah] at h;rcases YY (l:=l) (by omega) f hu vs bs hv hb with e | ⟨b,c,n,j,m,p,e⟩
  ·rw[e] at h;simp only[aO,Option.some.injEq,Prod.mk.injEq] at h;omega
  ·rw[e] at h⊢;exact abk g d (i+1) n b c k a (by omega) j m p h
theorem Rw {l:List UInt8} {v:Int} {b:List ChT} (G:adG v b) (g:(l++recT v b).length<=4000) {r:List Int} {q:List (List ChT)} (hs:m_s_ScanLog (mkB l)=some (r,q,(l.length:Int))) (hv:0<r.length->v=nth r ((r.length:Int) - 1)+1):m_s_ScanLog (mkB (l++recT v b))=some (r++ [v],q++ [b],((l++recT v b).length:Int)):=by
 obtain ⟨a,E,p,H⟩:=UG G;obtain ⟨I,B,M,m,-,-,O,o,-⟩:=l6 l (by rw[az] at g;omega);rw[hs] at m;obtain ⟨rfl,rfl,-⟩:r=I/\q=B/\True:=by
  have:=ae m
  simp only[Prod.mk.injEq] at this;exact ⟨this.1,this.2.1,trivial⟩
 have N:(l++recT v b).length=l.length+(recT v b).length:=az;have D:(recT v b).length=a.length+1:=by rw[p];simp
 have L:=o.1;obtain ⟨k,Q⟩: ∃k,aU=k+1+1+a.length+l.length:=⟨aU - 2 - a.length - l.length,by have:=dq 9000 (by omega);omega⟩;have y:aO (ah (aN (mkB l)) (k+1+a.length+1+l.length) (([] :List Int),([] :List (List ChT)),((0:Nat):Int),((0:Nat):Int))) (fun x=>some x) (fun s=>some (s.1,s.2.1,s.2.2.1))=some (r,q,(l.length:Int)):=by
  rw[show k+1+a.length+1+l.length=aU by omega];exact hs
 have C:=abk (t:=recT v b) g l.length 0 0 [] [] (k+1+a.length) (k+1+1+a.length) (by omega) (aH _) (Nat.zero_le _) (Nat.zero_le _) y;have d:(l++recT v b).drop l.length=a++ [10]:=by rw[List.drop_left,p]
 have A:=C6 (l:=l++recT v b) g (vs:=r) (bs:=q) (u:=(l.length:Int)) a [10] l.length (k+1+1) E d (by omega);have f:(l++recT v b)[l.length+a.length]'(by omega)=10:=by
  have:((l++recT v b).drop l.length)[a.length]? =some 10:=by rw[d];simp
  rw[List.getElem?_drop,List.getElem?_eq_getElem (by omega)] at this;exact ae this
 have K:lG (mkB (l++recT v b)) (l.length:Int) ((l.length+a.length+1:Nat):Int)=some (mkB (recT v b)):=by
  rw[slB (by omega) (by omega),show l.length+a.length+1=(l++recT v b).length by omega,List.take_length,List.drop_left]
 have h:bw 8 r [v] =some (r++ [v]):=ax (by simp only[aq,aD];omega);have j:bw 24 q [b] =some (q++ [b]):=ax (by simp only[aq,aD];omega);have w:aN (mkB (l++recT v b)) (r,q,(l.length:Int),((l.length+a.length:Nat):Int))=some (.nxt (r++ [v],q++ [b],((l++recT v b).length:Int),((l++recT v b).length:Int))):=by
  unfold aN;simp only[];rw[aV,bL (show l.length+a.length<(l++recT v b).length by omega),if_pos rfl,if_pos (decide_eq_true (by omega)),atB (show l.length+a.length<(l++recT v b).length by omega),f,af (show l.length+a.length<9223372036854775807 by omega),K];simp only[aa];rw[if_neg (by decide),H];simp only[aa,if_true];have c:((l.length+a.length+1:Nat):Int)=((l++recT v b).length:Int):=by omega
  by_cases e:decide ((r.length:Int)>0)=true
  ·have J:0<r.length:=by simpa using e
   have P:=(o.2.2 _ (cw (xs:=r) (i:=(r.length:Int) - 1) (by omega) (by omega))).1;rw[if_pos e,fG (by omega),aw (xs:=r) (by omega) (by omega)];simp only[aa];rw[br (n:=nth r ((r.length:Int) - 1)+1) (by omega) (by omega),<-hv J,if_neg (by simp),h,j,c];rfl
  ·rw[if_neg e,h,j,c];rfl
 have z:aN (mkB (l++recT v b)) (r++ [v],q++ [b],((l++recT v b).length:Int),((l++recT v b).length:Int))=some (.brk (r++ [v],q++ [b],((l++recT v b).length:Int),((l++recT v b).length:Int))):=by
  unfold aN;simp only[];rw[aV,if_neg (by simp)]
 have F:ah (aN (mkB (l++recT v b))) aU (([] :List Int),([] :List (List ChT)),0,0)=some (.brk (r++ [v],q++ [b],((l++recT v b).length:Int),((l++recT v b).length:Int))):=by
  rw[show aU=k+1+1+a.length+l.length by omega];refine Eq.trans C (Eq.trans A ?_);rw[ah,w];show ah _ (k+1) _=_;rw[ah,z]
 unfold m_s_ScanLog;rw[aj F]
theorem abl {e:EgT} (h:edgeP e 5):edOk e:=by
 unfold edgeP at h;unfold edOk;omega
theorem Rx {h:q8} (e:Data.sm h) (hv:m_s_IsValidHistory h=some true) (b:List ChT): ∃r:q8×Bool,bM h b=some r/\Data.sm r.1/\(r.2=false->r.1=h)/\(r.2=true->m_s_IsValidHistory r.1=some true/\latV r.1=latV h+1/\b.length<=6/\zR b):=by
 obtain ⟨A,M⟩:=(yU h e).1 hv;obtain ⟨Q,B,K,k⟩:=kh h e;rw[hv] at B;obtain rfl:=ae B;obtain ⟨F,-⟩:=kj hv K M;obtain ⟨w,j⟩:=aR e.2;have y: ¬(latV h==0)=true:=by
  rw[beq_iff_eq];unfold latV;omega
 unfold bM;simp only[fM,C7 h e,hv,F,aa,if_true];by_cases c:(latV h==999)=true
 ·simp only[if_pos c];exact ⟨(h,false),rfl,e,fun _=>rfl,fun c=>by cases c⟩
 ·simp only[if_neg c];have l:=cw (xs:=h.2) (i:=(h.2.length:Int) - 1) (by omega) (by omega);have P:=j _ l;obtain ⟨r,E,-,J,H⟩:=VZ _ P b;rw[fG (by omega),aw (xs:=h.2) (by omega) (by omega)];simp only[aa,fM,E];by_cases s:r.2=true
  ·obtain ⟨⟨N,O⟩,m,u⟩:=H s;have n:zR b:=fun x v=>abl (u x v);have D:latV h≠999:=by simpa using c
   unfold latV at D;simp only[if_pos s];rw[ax (by simp only[aq,aD];omega)];simp only[aa];have I:(h.2++ [r.1]).length=h.2.length+1:=by simp
   have z:Data.sm (h.2++ [r.1]):=⟨by omega,fun x v=>by
    rcases aE v with q | q
    ·exact j x q
    ·obtain rfl:=al q;exact J⟩
   have a: ∀g∈h.2++ [r.1],Gh g/\g.1=(nth h.2 0).1:=fun g f=>by
    rcases aE f with q | q
    ·exact A g q
    ·obtain rfl:=al q;exact ⟨N,O.trans (A _ l).2⟩
   by_cases p:decide (((h.2++ [r.1]).length:Int)>8)=true
   ·have G:(chk ((0:Int)<=1/\1<=((h.2++ [r.1]).length:Int)))=some ():=if_pos ⟨by omega,by omega⟩;have t:h.2.length=8:=by rw[decide_eq_true_eq] at p;omega
    have L:i64.wrap (h.1+1)=h.1+1:=br (by omega) (by omega);simp only[if_pos p,G,aa,L];have o:Data.sm ((h.1+1,(h.2++ [r.1]).drop 1):q8):=⟨trivial,Rq z 1⟩;have C:((h.2++ [r.1]).drop 1).length=8:=by rw[aZ];omega
    have d:(nth ((h.2++ [r.1]).drop 1) 0).1=(nth h.2 0).1:=(a _ (List.mem_of_mem_drop (cw (xs:=(h.2++ [r.1]).drop 1) (i:=0) (by omega) (by omega)))).2;refine ⟨_,rfl,o,(fun h=>by cases h),fun _=>⟨(yU _ o).2 ⟨fun g f=>?_,?_,?_⟩,?_,m,n⟩⟩
    ·have:=a g (List.mem_of_mem_drop f)
     exact ⟨this.1,this.2.trans d.symm⟩
    ·show 1<=((h.2++ [r.1]).drop 1).length/\((h.2++ [r.1]).drop 1).length<=8;omega
    ·show 1<=h.1+1/\h.1+1<=1000 - (((h.2++ [r.1]).drop 1).length:Int);omega
    ·unfold latV;show h.1+1+(((h.2++ [r.1]).drop 1).length:Int) - 1=_;omega
   ·have o:Data.sm ((h.1,h.2++ [r.1]):q8):=⟨trivial,z⟩;have t:h.2.length<8:=by rw[decide_eq_true_eq] at p;omega
    simp only[if_neg p,aa];have d:(nth (h.2++ [r.1]) 0).1=(nth h.2 0).1:=(a _ (cw (xs:=h.2++ [r.1]) (i:=0) (by omega) (by omega))).2;refine ⟨_,rfl,o,(fun h=>by cases h),fun _=>⟨(yU _ o).2 ⟨fun g f=>?_,?_,?_⟩,?_,m,n⟩⟩
    ·have:=a g f
     exact ⟨this.1,this.2.trans d.symm⟩
    ·show 1<=(h.2++ [r.1]).length/\(h.2++ [r.1]).length<=8;omega
    ·show 1<=h.1/\h.1<=1000 - ((h.2++ [r.1]).length:Int);omega
    ·unfold latV;show h.1+((h.2++ [r.1]).length:Int) - 1=_;omega
  ·simp only[if_neg s];exact ⟨(h,false),rfl,e,fun _=>rfl,fun c=>by cases c⟩
theorem SubP.up {r:sL} {L a:Int} {ss:List CY} {i:Nat} (h:SubP r L ss i) (b:L<=a):SubP r a ss i:=⟨h.1,h.2.1,h.2.2.1,h.2.2.2.1,Int.le_trans h.2.2.2.2 b⟩
theorem Ma {h:q8} (b:Data.sm h) (hv:m_s_IsValidHistory h=some true):aF h=some (latV h)/\1<=latV h/\latV h<=999:=by
 obtain ⟨-,d⟩:=(yU h b).1 hv;obtain ⟨e,a,c,k⟩:=kh h b;rw[hv] at a;obtain rfl:=ae a;refine ⟨(kj hv c d).1,?_⟩;unfold latV;omega
theorem Ry {e:EngT} (a:Data.sm e) (V:EV e) (b:List ChT): ∃y:EngT×Bool,bV e b=some y/\Data.sm y.1/\(y.2=false->y.1=e)/\(y.2=true->EV y.1/\latV y.1.1=latV e.1+1/\bM e.1 b=some (y.1.1,true)):=by
 obtain ⟨r,m,g,J,z⟩:=Rx a.1 V.his b;obtain ⟨w,p,-⟩:=yV r.1 g;obtain ⟨B,-,N⟩:=wz w b;obtain ⟨l,f⟩:=yT e.2.2.2;have K:e.2.2.2.size=l.length:=by rw[f];exact aV l
 obtain ⟨q,G,k,L,d⟩:=V.log;have j:=(acX a V).1;unfold bV;simp only[fM,qb e a,j,m,aa,if_true];by_cases c:r.2=true
 ·obtain ⟨t,s,F,u⟩:=z c;obtain ⟨o,D,v⟩:=Ma g t;rw[p] at o;obtain rfl:=ae o;simp only[if_pos c,p,B,aa,f,aV];rw[br (n:=(l.length:Int)+((recT (latV r.1) b).length:Int)) (by omega) (by omega)];by_cases H:l.length+(recT (latV r.1) b).length>4000
  ·rw[if_pos (decide_eq_true (by omega))];exact ⟨(e,false),rfl,a,fun _=>rfl,fun c=>by cases c⟩
  ·rw[if_neg (by rw[decide_eq_true_eq];omega),yQ _ _ (by omega)];simp only[aa];have E:(mkB (l++recT (latV r.1) b)).size=l.length+(recT (latV r.1) b).length:=by rw[aV,az]
   have x:Data.sm ((r.1,e.2.1,e.2.2.1,mkB (l++recT (latV r.1) b)):EngT):=⟨g,a.2.1,a.2.2.1,by show (mkB (l++recT (latV r.1) b)).size<=1048576;omega⟩;refine ⟨_,rfl,x,(fun h=>by cases h),fun _=>⟨⟨t,V.reg,V.len,fun i A=>(V.sub i A).up ?_,q++ [latV r.1],G++ [b],?_,?_,?_⟩,s,?_⟩⟩
   ·show latV e.1<=latV r.1;omega
   ·show m_s_ScanLog (mkB (l++recT (latV r.1) b))=some (_,_,((mkB (l++recT (latV r.1) b)).size:Int));rw[aV];refine Rw ⟨⟨D,v⟩,F,u⟩ (by rw[az];omega) ?_ fun I=>?_
    ·rw[f] at k;rw[aV] at k;exact k
    ·rcases d with d | d
     ·omega
     ·rw[d];exact s
   ·show (mkB (l++recT (latV r.1) b)).size<=4000;omega
   ·exact .inr (L6 q (latV r.1))
   ·obtain ⟨M,C⟩:=r;obtain rfl:C=true:=c
    first | rfl | exact m
 ·simp only[if_neg c];exact ⟨(e,false),rfl,a,fun _=>rfl,fun c=>by cases c⟩
theorem Kh {r:List Int×List (List ChT)×Int} (B:r.2.1.length=r.1.length) (z:r.1.length<=4000): ∀(d k f:Nat) (n:Int) (h:q8),r.1.length=k+d->d<f->0<=n->n<=(k:Int)->Data.sm h->
  ∃(n':Int) (e:q8),Data.sm e/\n<=n'/\aO (ah (aP r) f (n,(k:Int),r.2.1,h.1,h.2)) (fun x=>some x) (fun s=>some ((s.2.2.2.1,s.2.2.2.2),s.1))=some (e,n')
 | d,k,f+1,n,h,q,hf,n0,nk,hh=>by
  obtain ⟨L,c,-⟩:=yV h hh;have c:aF (h.1,h.2)=_:=c
  match d,q with
  | 0,q =>
   refine ⟨n,h,hh,Int.le_refl _,?_⟩
   have:aP r (n,(k:Int),r.2.1,h.1,h.2)=some (.brk (n,(k:Int),r.2.1,h.1,h.2)):=by
    unfold aP;simp only;rw[if_neg (by simp;omega)]
   rw[ah,this];rfl
  | d+1,q =>
   have A:i64.wrap ((k:Int)+1)=((k+1:Nat):Int):=af (by omega);have l:decide ((k:Int)<(r.1.length:Int))=true:=decide_eq_true (by omega);have i:aS r.1 (k:Int)=some (nth r.1 (k:Int)):=aw (by omega) (by omega);have j:aS r.2.1 (k:Int)=some (nth r.2.1 (k:Int)):=aw (by omega) (by omega);generalize nth r.1 (k:Int)=v at i;generalize nth r.2.1 (k:Int)=b at j;obtain ⟨x,g,-,C,D⟩:=xl h hh b;have g:bM (h.1,h.2) b=_:=g;by_cases y:v<=L
   ·obtain ⟨n',e,p,u,o⟩:=Kh B z d (k+1) f n h (by omega) (by omega) n0 (by omega) hh;refine ⟨n',e,p,u,?_⟩
    have:aP r (n,(k:Int),r.2.1,h.1,h.2)=some (.nxt (n,((k+1:Nat):Int),r.2.1,h.1,h.2)):=by
     unfold aP;simp only[l,if_true,i,c,aa,decide_eq_true y,fO,A]
    rw[ah,this];exact o
   ·have a: ¬decide (v<=L)=true:=by simpa using y
    by_cases m:(v !=i64.wrap (L+1))=true
    ·refine ⟨n,h,hh,Int.le_refl _,?_⟩
     have:aP r (n,(k:Int),r.2.1,h.1,h.2)=some (.ret ((h.1,h.2),n)):=by
      unfold aP;simp only[l,if_true,i,c,aa,if_neg a,j,g,if_pos m,fO]
     rw[ah,this];rfl
    ·by_cases w:x.2=true
     ·have t:i64.wrap (n+1)=n+1:=br (by omega) (by omega);obtain ⟨n',e,p,u,o⟩:=Kh B z d (k+1) f (n+1) x.1 (by omega) (by omega) (by omega) (by omega) C;refine ⟨n',e,p,by omega,?_⟩
      have:aP r (n,(k:Int),r.2.1,h.1,h.2)=some (.nxt (n+1,((k+1:Nat):Int),r.2.1,x.1.1,x.1.2)):=by
       unfold aP;simp only[l,if_true,i,c,aa,if_neg a,j,g,if_neg m,if_pos w,fO,A,t]
      rw[ah,this];exact o
     ·refine ⟨n,h,hh,Int.le_refl _,?_⟩
      have:aP r (n,(k:Int),r.2.1,h.1,h.2)=some (.ret ((h.1,h.2),n)):=by
       unfold aP;simp only[l,if_true,i,c,aa,if_neg a,j,g,if_neg m,if_neg w,fO]
      rw[ah,this];rfl
theorem GE {r:List Int×List (List ChT)×Int} (H:r.2.1.length=r.1.length) (G:r.1.length<=4000): ∀(d k f:Nat) (n:Int) (e:EngT),r.1.length=k+d->d<f->0<=n->n<=(k:Int)->Data.sm e->EV e->
  ∃(n':Int) (i:EngT),Data.sm i/\EV i/\latV i.1=latV e.1+(n' - n)/\aO (ah (aJ r) f (n,(k:Int),r.2.1,e.1.1,e.1.2,e.2.1.1,e.2.1.2,e.2.2.1,e.2.2.2)) (fun x=>some x) (fun s=>some (((s.2.2.2.1,s.2.2.2.2.1),(s.2.2.2.2.2.1,s.2.2.2.2.2.2.1),s.2.2.2.2.2.2.2.1,s.2.2.2.2.2.2.2.2),s.1))=some (i,n') /\
  ∃(j:Int) (o:q8),Data.sm o/\aO (ah (aP r) f (n,(k:Int),r.2.1,e.1.1,e.1.2)) (fun x=>some x) (fun s=>some ((s.2.2.2.1,s.2.2.2.2),s.1))=some (o,j)/\((j=n'/\o=i.1)\/n'<j)
 | d,k,f+1,n,e,I,hf,n0,nk,he,V=>by
  obtain ⟨c,U,S⟩:=Ma he.1 V.his;have c:aF (e.1.1,e.1.2)=_:=c
  match d,I with
  | 0,I =>
   refine ⟨n,e,he,V,by omega,?_,n,e.1,he.1,?_,.inl ⟨rfl,rfl⟩⟩
   ·have:aJ r (n,(k:Int),r.2.1,e.1.1,e.1.2,e.2.1.1,e.2.1.2,e.2.2.1,e.2.2.2)=some (.brk (n,(k:Int),r.2.1,e.1.1,e.1.2,e.2.1.1,e.2.1.2,e.2.2.1,e.2.2.2)):=by
     unfold aJ;simp only;rw[if_neg (by simp;omega)]
    rw[ah,this];rfl
   ·have:aP r (n,(k:Int),r.2.1,e.1.1,e.1.2)=some (.brk (n,(k:Int),r.2.1,e.1.1,e.1.2)):=by
     unfold aP;simp only;rw[if_neg (by simp;omega)]
    rw[ah,this];rfl
  | d+1,I =>
   have A:i64.wrap ((k:Int)+1)=((k+1:Nat):Int):=af (by omega);have h:decide ((k:Int)<(r.1.length:Int))=true:=decide_eq_true (by omega);have g:aS r.1 (k:Int)=some (nth r.1 (k:Int)):=aw (by omega) (by omega);have l:aS r.2.1 (k:Int)=some (nth r.2.1 (k:Int)):=aw (by omega) (by omega);generalize nth r.1 (k:Int)=v at g;generalize nth r.2.1 (k:Int)=b at l;obtain ⟨x,t,Q,Y,D⟩:=Ry he V b;have t:bV ((e.1.1,e.1.2),(e.2.1.1,e.2.1.2),e.2.2.1,e.2.2.2) b=_:=t;obtain ⟨z,N,-,R,W⟩:=xl e.1 he.1 b;have m:bM (e.1.1,e.1.2) b=_:=N;by_cases B:v<=latV e.1
   ·obtain ⟨n',i,F,E,O,C,j,o,w,y,J⟩:=GE H G d (k+1) f n e (by omega) (by omega) n0 (by omega) he V;refine ⟨n',i,F,E,O,?_,j,o,w,?_,J⟩
    ·have:aJ r (n,(k:Int),r.2.1,e.1.1,e.1.2,e.2.1.1,e.2.1.2,e.2.2.1,e.2.2.2)=some (.nxt (n,((k+1:Nat):Int),r.2.1,e.1.1,e.1.2,e.2.1.1,e.2.1.2,e.2.2.1,e.2.2.2)):=by
      unfold aJ;simp only[h,if_true,g,c,aa,decide_eq_true B,fO,A]
     rw[ah,this];exact C
    ·have:aP r (n,(k:Int),r.2.1,e.1.1,e.1.2)=some (.nxt (n,((k+1:Nat):Int),r.2.1,e.1.1,e.1.2)):=by
      unfold aP;simp only[h,if_true,g,c,aa,decide_eq_true B,fO,A]
     rw[ah,this];exact y
   ·have a: ¬decide (v<=latV e.1)=true:=by simpa using B
    by_cases q:(v !=i64.wrap (latV e.1+1))=true
    ·refine ⟨n,e,he,V,by omega,?_,n,e.1,he.1,?_,.inl ⟨rfl,rfl⟩⟩
     ·have:aJ r (n,(k:Int),r.2.1,e.1.1,e.1.2,e.2.1.1,e.2.1.2,e.2.2.1,e.2.2.2)=some (.ret (e,n)):=by
       unfold aJ;by_cases u:x.2=true
       ·simp only[h,if_true,g,c,aa,if_neg a,l,t,if_pos u,if_pos q,fO]
       ·simp only[h,if_true,g,c,aa,if_neg a,l,t,if_neg u,fO]
      rw[ah,this];rfl
     ·have:aP r (n,(k:Int),r.2.1,e.1.1,e.1.2)=some (.ret ((e.1.1,e.1.2),n)):=by
       unfold aP;simp only[h,if_true,g,c,aa,if_neg a,l,m,if_pos q,fO]
      rw[ah,this];rfl
    ·have p:i64.wrap (n+1)=n+1:=br (by omega) (by omega);by_cases u:x.2=true
     ·obtain ⟨P,X,K⟩:=D u;rw[N] at K;obtain rfl:=ae K;obtain ⟨n',i,F,E,O,C,j,o,w,y,J⟩:=GE H G d (k+1) f (n+1) x.1 (by omega) (by omega) (by omega) (by omega) Q P;refine ⟨n',i,F,E,by omega,?_,j,o,w,?_,J⟩
      ·have:aJ r (n,(k:Int),r.2.1,e.1.1,e.1.2,e.2.1.1,e.2.1.2,e.2.2.1,e.2.2.2)=some (.nxt (n+1,((k+1:Nat):Int),r.2.1,x.1.1.1,x.1.1.2,x.1.2.1.1,x.1.2.1.2,x.1.2.2.1,x.1.2.2.2)):=by
        unfold aJ;simp only[h,if_true,g,c,aa,if_neg a,l,t,if_neg q,if_pos u,fO,A,p]
       rw[ah,this];exact C
      ·have:aP r (n,(k:Int),r.2.1,e.1.1,e.1.2)=some (.nxt (n+1,((k+1:Nat):Int),r.2.1,x.1.1.1,x.1.1.2)):=by
        unfold aP;simp only[h,if_true,g,c,aa,if_neg a,l,m,if_neg q,fO,A,p]
       rw[ah,this];exact y
     ·have M:aJ r (n,(k:Int),r.2.1,e.1.1,e.1.2,e.2.1.1,e.2.1.2,e.2.2.1,e.2.2.2)=some (.ret (e,n)):=by
       unfold aJ;simp only[h,if_true,g,c,aa,if_neg a,l,t,if_neg u,fO]
      by_cases L:z.2=true
      ·obtain ⟨j,o,w,T,y⟩:=Kh H G d (k+1) f (n+1) z.1 (by omega) (by omega) (by omega) (by omega) R;refine ⟨n,e,he,V,by omega,?_,j,o,w,?_,.inr (by omega)⟩
       ·rw[ah,M];rfl
       ·have:aP r (n,(k:Int),r.2.1,e.1.1,e.1.2)=some (.nxt (n+1,((k+1:Nat):Int),r.2.1,z.1.1,z.1.2)):=by
         unfold aP;simp only[h,if_true,g,c,aa,if_neg a,l,m,if_neg q,if_pos L,fO,A,p]
        rw[ah,this];exact y
      ·refine ⟨n,e,he,V,by omega,?_,n,e.1,he.1,?_,.inl ⟨rfl,rfl⟩⟩
       ·rw[ah,M];rfl
       ·have:aP r (n,(k:Int),r.2.1,e.1.1,e.1.2)=some (.ret ((e.1.1,e.1.2),n)):=by
         unfold aP;simp only[h,if_true,g,c,aa,if_neg a,l,m,if_neg q,if_neg L,fO]
        rw[ah,this];rfl
theorem Rz {e:EngT} (d:Data.sm e) (V:EV e) (y:ByteArray) (m:y.size<=1048576): ∃(a:EngT) (n':Int) (c:q8) (b:Int),cU e y=some (a,n')/\oS e.1 y=some (c,b)/\Data.sm a/\Data.sm c/\EV a/\latV a.1=latV e.1+n'/\((b=n'/\c=a.1)\/n'<b):=by
 obtain ⟨l,rfl⟩:=yT y;rw[aV] at m;obtain ⟨r,q,n,j,-,-,s,f,-⟩:=l6 l (by omega);obtain ⟨n',a,p,o,u,g,b,c,k,h,t⟩:=GE (r:=(r,q,(n:Int))) f.1 s r.length 0 aU 0 e (by show r.length=0+r.length;omega) (by unfold aU;omega) (Int.le_refl _) (Int.le_refl _) d V;have g:aO (ah (aJ (r,q,(n:Int))) aU (0,0,q,e.1.1,e.1.2,e.2.1.1,e.2.1.2,e.2.2.1,e.2.2.2)) _ _=_:=g;have h:aO (ah (aP (r,q,(n:Int))) aU (0,0,q,e.1.1,e.1.2)) _ _=_:=h;have i:=(acX d V).1;refine ⟨a,n',c,b,?_,?_,p,k,o,by omega,t⟩
 ·unfold cU;simp only[fM];rw[qb e d,i,j];simp only[aa];simp only[if_true];exact g
 ·unfold oS;simp only[fM];rw[C7 e.1 d.1,V.his,j];simp only[aa];simp only[if_true];exact h
theorem RA (x:GrT) (a:Data.sm x):mD x x=some true:=by
 obtain ⟨r,c,b⟩:=xi x.1 x.1 (aR a.1).1;obtain rfl:=b.2 rfl;unfold mD;rw[c];simp only[aa];rw[if_neg (by simp),if_neg (by simp),eqB (f:=ju x x) x.2 x.2 (by have:=(aR a.2).1;omega) rfl (fun i h d=>by
  simp only[ju,bL h,if_true,aM h,aa,af (show i<9223372036854775807 by have:=(aR a.2).1;omega),beq_self_eq_true,Bool.and_self]) (by simp only[ju,bG];rfl),if_pos rfl]
theorem YZ (x:q8) (b:Data.sm x):jv x x=some true:=by
 obtain ⟨d,a⟩:=aR b.2;unfold jv;rw[if_neg (by simp),if_neg (by simp),eqB (f:=gr x x) x.2 x.2 (by omega) rfl (fun i h c=>by
  simp only[gr,bL h,if_true,aM h,aa,fM,RA x.2[i] (a _ (List.getElem_mem h)),af (show i<9223372036854775807 by omega)]) (by simp only[gr,bG];rfl),if_pos rfl]
theorem GF (x:List Int) (O:Data.lim x):nO x=some true:=by
 unfold nO Jy;simp only[aa];by_cases c:(x.length:Int)>1048576
 ·rw[if_pos (decide_eq_true c)]
 rw[if_neg (by simpa using c)];have D:x.length<=1048576:=by omega
 obtain ⟨⟨e,a⟩,A,b,h⟩:=YT D;have h:a.size<=1048576:=by have:a.size<=20000:=h;omega
 obtain ⟨⟨y,n⟩,j,w,i⟩:=EK e b a h;obtain ⟨k,q,C⟩:=Ru e b a h;obtain ⟨v,m,kv⟩:=AB e b;have u:=abf y i;simp only[A,j,w,q,C,m,u,aa,fM,if_true,bne_self_eq_false,Bool.false_eq_true,if_false];cases v with
 | false =>
  have:cU e a=some (e,0):=by
   unfold cU;simp only[fM,qb e b,m,aa,Bool.false_eq_true,if_false]
  rw[j] at this
  have:=ae this
  simp only[Prod.mk.injEq] at this;obtain ⟨-,rfl⟩:=this
  rfl
 | true =>
  have V:=kv.1 rfl;obtain ⟨M,J,N,G,f,s,B,H,o,p,r⟩:=Rz b V a h;rw[j] at f;have f:=ae f;simp only[Prod.mk.injEq] at f;obtain ⟨rfl,rfl⟩:=f;obtain ⟨t,L,K⟩:=Ma b.1 V.his;obtain ⟨l,d,g⟩:=Ma i.1 o.his;have I:k=latV y.1:=by
   have:dK e a=some (latV y.1):=by
    unfold dK;simp only[fM,m,j,l,aa,if_true]
   rw[q] at this;exact ae this
  have p:latV y.1=latV e.1+n:=p;have d:1<=latV y.1:=d;have g:latV y.1<=999:=g;have E:i64.wrap (latV e.1+n)=latV y.1:=by rw[br (by omega) (by omega)];omega
  have z:=(acX i o).2;simp only[s,z,t,E,I,aa,if_true,beq_self_eq_true];rcases r with ⟨rfl,rfl⟩ | r
  ·have F:=YZ y.1 i.1;simp only[F,beq_self_eq_true,if_true,aa]
  ·have: ¬(n==G)=true:=by rw[beq_iff_eq];omega
   simp only[if_neg this]
end D
namespace R
open Go.Shelf
def Ki:Go.Shelf.Ren:=⟨fun | 146=>191 | 221=>245 | 268=>299 | 138=>300 | 143=>301 | 195=>344 | 197=>345 | 218=>346 | 219=>347 | 260=>375 | 217=>190 | 225=>376 | 224=>377 | 267=>378 | 266=>244 | 314=>397 | n=>n,fun | 9=>9 | 31=>199 | 3=>3 | 4=>4 | 0=>0 | 105=>344 | 21=>21 | 5=>5 | 46=>232 | 119=>399 | 139=>402 | 138=>401 | 146=>403 | 51=>391 | n=>n,fun | 1=>0 | 3=>4 | 4=>5 | n=>n⟩
theorem Y0:Go.Proofs.LaysM.n146 Tryz.prog Ki:= {
 mixed:=by kernel_rfl
 f138:=Tryz.func300.trans (congrArg some (by kernel_rfl))
 f143:=Tryz.func301.trans (congrArg some (by kernel_rfl))
 f146:=Tryz.func191.trans (congrArg some (by kernel_rfl))
 f195:=Tryz.func344.trans (congrArg some (by kernel_rfl))
 f197:=Tryz.func345.trans (congrArg some (by kernel_rfl))
 f217:=Tryz.func190.trans (congrArg some (by kernel_rfl))
 f218:=Tryz.func346.trans (congrArg some (by kernel_rfl))
 f219:=Tryz.func347.trans (congrArg some (by kernel_rfl))
 f221:=Tryz.func245.trans (congrArg some (by kernel_rfl))
 f224:=Tryz.func377.trans (congrArg some (by kernel_rfl))
 f225:=Tryz.func376.trans (congrArg some (by kernel_rfl))
 f260:=Tryz.func375.trans (congrArg some (by kernel_rfl))
 f266:=Tryz.func244.trans (congrArg some (by kernel_rfl))
 f267:=Tryz.func378.trans (congrArg some (by kernel_rfl))
 f268:=Tryz.func299.trans (congrArg some (by kernel_rfl))
 f314:=Tryz.func397.trans (congrArg some (by kernel_rfl))
 t0:=Tryz.underlying0
 a0:=Tryz.isAgg0
 z0:=Tryz.sizeOf0
 v0:=Tryz.zeroValue0
 t3:=Tryz.underlying3
 a3:=Tryz.isAgg3
 z3:=Tryz.sizeOf3
 v3:=Tryz.zeroValue3
 t4:=Tryz.underlying4
 a4:=Tryz.isAgg4
 z4:=Tryz.sizeOf4
 v4:=Tryz.zeroValue4
 t5:=Tryz.underlying5
 a5:=Tryz.isAgg5
 z5:=Tryz.sizeOf5
 v5:=Tryz.zeroValue5
 t9:=Tryz.underlying9
 a9:=Tryz.isAgg9
 z9:=Tryz.sizeOf9
 v9:=Tryz.zeroValue9
 t21:=Tryz.underlying21
 a21:=Tryz.isAgg21
 z21:=Tryz.sizeOf21
 v21:=Tryz.zeroValue21
 t31:=Tryz.underlying199
 a31:=Tryz.isAgg199
 z31:=Tryz.sizeOf199
 v31:=Tryz.zeroValue199
 t46:=Tryz.underlying232
 a46:=Tryz.isAgg232
 z46:=Tryz.sizeOf232
 v46:=Tryz.zeroValue232
 t51:=Tryz.underlying391
 a51:=Tryz.isAgg391
 z51:=Tryz.sizeOf391
 v51:=Tryz.zeroValue391
 t105:=Tryz.underlying344
 a105:=Tryz.isAgg344
 z105:=Tryz.sizeOf344
 v105:=Tryz.zeroValue344
 t119:=Tryz.underlying399
 a119:=Tryz.isAgg399
 z119:=Tryz.sizeOf399
 t138:=Tryz.underlying401
 a138:=Tryz.isAgg401
 z138:=Tryz.sizeOf401
 v138:=Tryz.zeroValue401
 t139:=Tryz.underlying402
 a139:=Tryz.isAgg402
 z139:=Tryz.sizeOf402
 v139:=Tryz.zeroValue402
 t146:=Tryz.underlying403
 a146:=Tryz.isAgg403
 z146:=Tryz.sizeOf403
 v146:=Tryz.zeroValue403
 g1:=by kernel_rfl
 g3:=by kernel_rfl
 g4:=by kernel_rfl
 i0:=by kernel_rfl
 i3:=by kernel_rfl
 i4:=by kernel_rfl
 i5:=by kernel_rfl
 i9:=by kernel_rfl
 i21:=by kernel_rfl
 i31:=by kernel_rfl
 i46:=by kernel_rfl
 i51:=by kernel_rfl
 i105:=by kernel_rfl
 i138:=by kernel_rfl
 i139:=by kernel_rfl
 i146:=by kernel_rfl
 m1:=by kernel_rfl
 s1_3:=fun w h=>Go.Proofs.cell_of_shapedOpen_int (zero:= #[.int .i64 0]) (t:=3) h (of_decide_eq_true (by kernel_rfl)) (by kernel_rfl) rfl (by kernel_rfl) (by kernel_rfl) Tryz.underlying3
 m3:=by kernel_rfl
 m4:=by kernel_rfl }
end R
open Go.ChangeShapes Go.WideShapes Go.ChangeAt Go.RowKit
namespace D
theorem op5:Opens Tryz.prog 5 rU8:=TM Tryz.underlying5
theorem ad6:Opens Tryz.prog 22 (ay 5 rU8):=JO Tryz.underlying22 (by kernel_rfl) (by decide) op5
theorem ac2 {W:World} {base:Nat} {z:Value} {H:Type} {enc:TypeId×Value->H} {d:DataW H} {p:List MemPlace} (hv:Value.okWide Tryz.prog W .any base 22 z) (h:DataW.Trod enc Tryz.prog W 0 (fun _=>true) true 22 z d p) :
  ∃(x:List Int) (v0:Value),z=v0/\Data.lim x/\(ay 5 rU8).rd (hp W) [v0] x:=by
 obtain ⟨fuel,b⟩:=h;obtain ⟨a,l,c,rfl⟩:=okWide_slice Tryz.underlying22 hv;obtain ⟨x,f,e⟩:=ad6.out enc W _ _ _ b;exact ⟨x,_,rfl,e,f⟩
end D
open D (Data)
theorem zS {H:Type} {enc:TypeId×Value->H} {a:Assume} {C:Checked} {os:Os} {f:FuncId} {fn:Func} {s:ChangeSpec} {conds:List PathCond} {apart fresh handsOn again:Bool} {X:World->Array Value->Prop}
  (r: ∀(w w':World) (args:Array Value),w.heap=w'.heap->X w args->X w' args)
  (own:ownKnob C.prog.godebug=none) (started:os.Started) (c:C.prog.inits.idxOf? f=none) (k:C.prog.funcs[f]? =some fn)
  (witness: ∃(w:World) (tape:Tape) (i:Input),w.os=os/\(w.forCall tape i).Shaped C.prog/\i.vars= [] /\Input.okWide C.prog (w.forCall tape i) .any w.heap.size f i /\
   ((s.pre enc C.prog fn conds apart (w.forCall tape i).memory i.args/\X (w.forCall tape i).memory i.args)/\sizedMet enc C.prog fn (OpenSpec.ofChange s) apart (w.forCall tape i).memory i.args)/\a.holds C.prog (lone (Frame.enter C.prog f i.args .normal) [] (w.forCall tape i)))
  (b: ∀(W:World) (base:Nat) (args:Array Value) (ds p:List (DataW H)) (before:List MemPlace),
   (∀(j:Nat) t v,fn.params[j]? =some t->args[j]? =some v->Value.okWide C.prog W .any base t v)->
   DataW.Whole enc C.prog fn.params.toList s.vars apart W args.toList ds p before->X W args->W.ShapedOpen C.prog->
   Calls C.prog f args W fun e q=> ∃v,e= .returned v/\s.post enc C.prog fn apart fresh handsOn again W args v q) :
  ReturnsInHanded a C os f .any (fun w args=>(s.pre enc C.prog fn conds apart w args/\X w args)/\sizedMet enc C.prog fn (OpenSpec.ofChange s) apart w args) (s.post enc C.prog fn apart fresh handsOn again):=by
 refine returnsInHanded_of_calls own started c witness ?_;intro w tape i _ n _ l h _;obtain ⟨_,_,_,m,g,_,_,_,_,d⟩:=l;have e:m=fn:=ae (g.symm.trans k);subst e;obtain ⟨⟨⟨ds,p,before,x,z⟩,y⟩,_⟩:=h;have o:=DataW.Whole.of_heap (w':=w.forCall tape i) (by rfl) x;refine (b (w.forCall tape i) w.heap.size i.args ds p before d o (r (w.forCall tape i).memory (w.forCall tape i) _ rfl y) n).mono fun e q ⟨v,u,hp⟩=>?_;subst u;exact ChangeSpec.post_blind hp
theorem V0 (u:TypeId) (h:Tryz.prog.typeName? 3 u=some "*errors.errorString"):u=407:=
 typeName_ptr_named (nm:= "errors.errorString") (by kernel_rfl) (by kernel_rfl) (by decide) u h
theorem GG {W:World} (h:laidMetH Tryz.prog Rows.fnRecoveryRow.laid W) (b:W.ShapedOpen Tryz.prog):D.LayW Tryz.prog W:=by
 rw[MakeChecks.laidMetH_plain _ _ _ (by kernel_rfl)] at h;obtain ⟨j,i,c,-⟩:=laid_sentinel (g:=2) (ti:=264) (tp:=407) (te:=409) (ts:=9) (h.tail.tail.tail.tail) (by kernel_rfl) (by kernel_rfl) Tryz.underlying264 V0 Tryz.underlying407 Tryz.underlying409 rfl rfl Tryz.underlying9 (by kernel_rfl) (by kernel_rfl);obtain ⟨k,f,a,-⟩:=laid_sentinel (g:=1) (ti:=264) (tp:=407) (te:=409) (ts:=9) (h.tail.tail.tail.tail.tail) (by kernel_rfl) (by kernel_rfl) Tryz.underlying264 V0 Tryz.underlying407 Tryz.underlying409 rfl rfl Tryz.underlying9 (by kernel_rfl) (by kernel_rfl);have d:Lib.TabIs Tryz.prog W "internal/strconv.uint64pow10" .u64 Lib.pow10Tab:=Lib.tabIs_of_head (g:=3) (by kernel_rfl) (by kernel_rfl) Tryz.underlying390 Tryz.underlying363 (by kernel_rfl) (by kernel_rfl) (h.tail.tail);exact ⟨⟨0,(R.Y0.s1_3 W b).imp fun m e=>⟨by kernel_rfl,e⟩⟩,d,⟨_,_,a⟩,⟨_,_,c⟩⟩
theorem DK (W:World) (C:laidMetH Tryz.prog Rows.fnRecoveryRow.laid W) (c:W.ShapedOpen Tryz.prog) (args:Array Value) (H:Type) (enc:TypeId×Value->H) (base:Nat) (ds E:List (DataW H)) (before:List MemPlace)
  (a: ∀(j:Nat) t v,Tryz.f3.params[j]? =some t->args[j]? =some v->Value.okWide Tryz.prog W .any base t v)
  (m:DataW.Whole enc Tryz.prog Tryz.f3.params.toList Rows.fnRecoverySpec.vars false W args.toList ds E before) :
  Calls Tryz.prog 3 args W fun e n=> ∃v,e= .returned v/\Rows.fnRecoverySpec.post enc Tryz.prog Tryz.f3 false true false false W args v n:=by
 have g:=m;obtain ⟨p,q,l,A,rfl,G,z⟩:=m;rw[Tryz.params3] at l a;obtain ⟨i,r,K,B,J,L,d,rfl,rfl,o,w⟩:=trodAll_cons l;obtain ⟨rfl,rfl,rfl⟩:=trodAll_nil w;obtain rfl:args= #[i]:=by cases args;simp_all
 obtain ⟨rfl,rfl⟩:=trodVars_none A;obtain ⟨h,k,rfl,y,b⟩:=D.ac2 (a 0 _ _ rfl rfl) o;have F:=D.DH h true (D.GF h y) (I:=D.hp W) (w0:=W) i b (D.Lay.of (GG C c)) W [] (D.St.init W);refine F.mono fun e n ⟨v,x,hv,u⟩=>?_;subst x;subst hv;exact ⟨_,rfl,Uf (f:=Tryz.f3) (s:=Rows.fnRecoverySpec) 4 Tryz.underlying4 rfl (by kernel_rfl) rfl g rfl rfl rfl (D.St.below u)⟩
set_option maxRecDepth 100000 in
theorem zT (os:Os) (started:os.Started) (H:Type) (enc:TypeId×Value->H) :
  ReturnsInHanded {} Tryz.checked os 3 .any (fun w args=>(Rows.fnRecoverySpec.pre enc Tryz.prog Tryz.f3 [] false w args/\laidMetH Tryz.prog Rows.fnRecoveryRow.laid w)/\sizedMet enc Tryz.prog Tryz.f3 (OpenSpec.ofChange Rows.fnRecoverySpec) false w args) (Rows.fnRecoverySpec.post enc Tryz.prog Tryz.f3 false true false false):=by
 refine zS (C:=Tryz.checked) (X:=fun w _=>laidMetH Tryz.prog Rows.fnRecoveryRow.laid w) (fun _ _ _ f h=>h.of_heap f) own started (by kernel_rfl) Tryz.func3
  (ChangeSpec.witness_shaped (enc:=enc) (C:=Tryz.checked) (os:=os) (X:=fun w _=>laidMetH Tryz.prog Rows.fnRecoveryRow.laid w) false (World.laidAll Tryz.prog os Rows.fnRecoveryRow.laid) #[.slice none 0 0] 8 (World.laidAll_os _ _ _) (World.shaped_of_ZipB (by kernel_rfl) (by kernel_rfl)) (by kernel_rfl) (by kernel_rfl) (by kernel_rfl) (by rw[MakeChecks.laidMetH_plain _ _ _ (by kernel_rfl)];exact laidMet_laidAll _ (by kernel_rfl) (by kernel_rfl))) ?_
 intro W base args g e before a c d b;exact DK W d b args H enc base g e before a c
theorem AR:Rows.FnRecoverySaid:=
 OpenClaim.holds_of_wide 3 Tryz.f3 rfl rfl rfl rfl rfl rfl rfl ⟨rfl,rfl,rfl,rfl,rfl⟩ rfl rfl rfl rfl rfl (by kernel_rfl) Tryz.func3 closedLFnRecovery
  (of_decide_eq_true (by kernel_rfl)) (by unfold Func.isWrapper;first | (rw[if_pos (by decide +kernel)];kernel_rfl) | (rw[if_neg (by decide +kernel)];exact ⟨rfl,rfl⟩))
  (fun b started H a _=>zT b started H a)
theorem cardLFnRecovery:Rows.FnRecoveryCardSaid:=
 Claim7.holds_tied_plain_at .later [] [.data,.data,.data,.data,.sentinel,.sentinel,.pinned] true (true,"3c499cde14a55990d2571a198b88511f35a3bcefb865e8a21ba7b894b258559b") true
  AR (fun _ h=>by cases h) (by kernel_rfl) (fun _ h=>by cases h) fnRecovery_row_tie rfl ⟨rfl,rfl⟩ kf4FnRecovery rfl
  (fun f d g b=>by
   obtain rfl:f=3:=ae (kf1FnRecovery.symm.trans g) |>.symm;obtain rfl:d=Tryz.f3:=(ae (Tryz.func3.symm.trans b)).symm;exact ⟨kf2FnRecovery,fun j t c=>by
    rw[Tryz.params3] at c;have e:t ∈ [22]:=by simpa using Array.mem_of_getElem? c
    have a:([22].all fun u=> !Tryz.prog.wantsStandIn u)=true:=by kernel_rfl
    exact (show Tryz.prog.wantsStandIn t=false by simpa using List.all_eq_true.1 a t e)⟩)
  kf3FnRecovery
end Go.Proofs.YtodbpnpbhpeepaaGreatDoor
