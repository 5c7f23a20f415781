/- FnExactEnginePoll: for every input the law returns true and changes nothing that was there. Part 8 of 9. -/
import Derived.Test.YteapgmibbpckoaaGreatDoorEC6
set_option synthInstance.maxSize 20000
set_option synthInstance.maxHeartbeats 2000000
set_option linter.unusedVariables false
set_option linter.unusedSimpArgs false
set_option linter.unnecessarySimpa false
set_option linter.unusedSectionVars false
set_option maxRecDepth 1000000
namespace Go.Proofs.YteapgmibbpckoaaGreatDoor
open Go.IntKind (i64)
namespace D
open Go.RowKit
theorem FM (v:Int) (l:List ChT): ∃r:ByteArray,fB v l=some r/\iZ v l=some r/\r.size<=1000:=by
 obtain ⟨g,f⟩:=xj l;obtain ⟨t,x,A⟩: ∃t:List UInt8,(dx l=some (mkB t)/\fa l=some (mkB t))/\t.length<=432:=by
  by_cases h:l.length<=6/\Ds l
  ·have:=Kf h.2
   refine ⟨btx l,⟨?_,?_⟩,by omega⟩
   ·rw[g,if_pos h]
   ·rw[f,if_pos h]
  ·refine ⟨[],⟨?_,?_⟩,by simp⟩
   ·rw[g,if_neg h]
   ·rw[f,if_neg h]
 obtain ⟨n,u⟩:=x;unfold fB iZ;rw[n,u,Na,Hn];simp only[aa];by_cases hv:1<=v/\v<=999
 ·have e:I64 v:=by unfold I64;omega
  have y:=ye e;have s:pv (mkB (Lib.itoa v)) (⟨#[59]⟩)=some (mkB (Lib.itoa v++ [59])):=Kc _ [59] (by simp;omega);have o:pv (mkB (Lib.itoa v++ [59])) (mkB t)=some (mkB (Lib.itoa v++ [59] ++t)):=Kc _ _ (by simp;omega);have i:pv (mkB (Lib.itoa v++ [59] ++t)) (⟨#[59]⟩)=some (mkB (Lib.itoa v++ [59] ++t++ [59])):=Kc _ [59] (by simp;omega);obtain ⟨q,w,p,C,z⟩:=MC (mkB (Lib.itoa v++ [59] ++t++ [59])) (by rw[bR];simp;omega);have c:I64 q:=by unfold I64;omega
  have B:=ye c;have m:pv (mkB (Lib.itoa v++ [59] ++t++ [59])) (mkB (Lib.itoa q))=some (mkB (Lib.itoa v++ [59] ++t++ [59] ++Lib.itoa q)):=Kc _ _ (by simp;omega);have j:pv (mkB (Lib.itoa v++ [59] ++t++ [59] ++Lib.itoa q)) (⟨#[10]⟩)=some (mkB (Lib.itoa v++ [59] ++t++ [59] ++Lib.itoa q++ [10])):=Kc _ [10] (by simp;omega);have d:(mkB (Lib.itoa v++ [59] ++t++ [59] ++Lib.itoa q++ [10])).size<=1000:=by rw[bR];simp;omega
  have k:((⟨#[]⟩:ByteArray)).size<=1000:=by decide
  rw[decide_eq_true hv];simp only[if_true,xi e,Ay e,xi c,Ay c,s,o,i,w,p,m,j,aa];by_cases a:decide ((l.length:Int)>0)=true
  ·by_cases b:(mkB t==(⟨#[]⟩:ByteArray))=true
   ·simp only[if_pos a,if_pos b];exact ⟨_,rfl,rfl,k⟩
   ·simp only[if_pos a,if_neg b];exact ⟨_,rfl,rfl,d⟩
  ·by_cases b:(mkB t==(⟨#[]⟩:ByteArray))=true
   ·simp only[if_neg a,if_pos b];exact ⟨_,rfl,rfl,d⟩
   ·simp only[if_neg a,if_neg b];exact ⟨_,rfl,rfl,d⟩
 ·rw[decide_eq_false hv];exact ⟨_,rfl,rfl,by decide⟩
def sw (c:UInt8) (cur:List UInt8):List UInt8->List (List UInt8)
 | [] =>[cur]
 | b::l=>if b=c then cur::sw c [] l else sw c (cur++ [b]) l
theorem rj {c:UInt8} : ∀ {l cur:List UInt8},c∉l->sw c cur l= [cur++l]
 | [],cur,_=>by simp[sw]
 | b::l,cur,h=>by
  have a:b≠c:=fun e=>h (by simp[e]);rw[sw,if_neg a,rj fun k=>h (bp _ k)];simp
theorem uc {c:UInt8} : ∀ {a cur r:List UInt8},c∉a->sw c cur (a++c::r)=(cur++a)::sw c [] r
 | [],cur,r,_=>by simp[sw]
 | b::a,cur,r,h=>by
  have d:b≠c:=fun e=>h (by simp[e]);rw[List.cons_append,sw,if_neg d,uc fun k=>h (bp _ k)];simp
theorem Kg (c:UInt8): ∀(l cur:List UInt8),(sw c cur l).length<=l.length+1
 | [],cur=>by simp[sw]
 | b::l,cur=>by
  rw[sw];split
  ·have:=Kg c l [];simp only[aM];omega
  ·have:=Kg c l (cur++ [b]);simp only[aM];omega
theorem wx (c:UInt8): ∀(l cur:List UInt8),∀x∈sw c cur l,x.length<=cur.length+l.length
 | [],cur,x,h=>by simp[sw] at h;subst h;simp
 | b::l,cur,x,h=>by
  rw[sw] at h;split at h
  ·rcases az h with rfl | h
   ·simp
   ·have:=wx c l [] x h;simp at this;simp;omega
  ·have:=wx c l _ x h;simp at this;simp;omega
theorem xk (c:UInt8) (l:List UInt8):c∉l\/ ∃a r,l=a++c::r/\c∉a:=by
 by_cases h:c∈l
 ·obtain ⟨a,r,e,k⟩:=List.eq_append_cons_of_mem h;exact .inr ⟨a,r,e,k⟩
 ·exact .inl h
theorem Kh (s:ByteArray):mkB s.data.toList=s:=by simp[mkB]
theorem afO (s:ByteArray): ∃l:List UInt8,s=mkB l:=⟨_,(Kh s).symm⟩
theorem BF {a b:List UInt8} (h:mkB a=mkB b):a=b:=by rw[<-ga a,h,ga]
theorem slB {l:List UInt8} {a b:Nat} (h1:a<=b) (c:b<=l.length):vn (mkB l) (a:Int) (b:Int)=some (mkB ((l.take b).drop a)):=by
 unfold vn chk;rw[bR,if_pos ⟨by omega,by omega,by omega⟩,aa];congr 1;refine ByteArray.ext ?_;simp[mkB,List.drop_take]
theorem atB {l:List UInt8} {i:Nat} (h:i<l.length):nB (mkB l) (i:Int)=some ((l[i].toNat:Nat):Int):=by
 rw[Dr (by rw[bR];exact h)];simp[mkB]
theorem AA (l:List UInt8) (c:UInt8) (n:l.length<=1000000):jN (mkB l) ((c.toNat:Nat):Int)=some ((sw c [] l).map mkB):=by
 obtain ⟨s,e,a,done,rfl,d,m,b⟩:=kd (f:=rH (mkB l) ((c.toNat:Nat):Int)) (fun i s=> ∃(a:Nat) (done:List (List UInt8)),s=(done.map mkB,(a:Int),(i:Int))/\a<=i/\done.length<=i/\done++sw c ((l.take i).drop a) (l.drop i)=sw c [] l) l.length (fun i s j g=>by
  obtain ⟨a,done,rfl,d,m,b⟩:=g;unfold rH;simp only[];rw[if_pos (decide_eq_true (by rw[bR];omega)),atB j];simp only[aa];rw[List.drop_eq_getElem_cons j,sw] at b;by_cases k:l[i] =c
  ·rw[if_pos k] at b;rw[if_pos (by rw[k];simp),slB d (by omega)];simp only[aa];have h:cr 16 (done.map mkB) [mkB ((l.take i).drop a)] =some (done.map mkB++ [mkB ((l.take i).drop a)]):=aI (by rw[List.length_map];simp only[aM,aZ];omega);rw[h];simp only[aa];refine ⟨_,rfl,i+1,done++ [(l.take i).drop a],?_,aH _,by simp;omega,?_⟩
   ·rw[aU,List.map_cons,List.map_nil,af (by omega)]
   ·rw[<-b,aD,List.drop_of_length_le (l:=l.take (i+1)) (by rw[aB];omega)];rfl
  ·rw[if_neg k] at b;rw[if_neg (fun e=>k (UInt8.toNat_inj.1 (by have:=eq_of_beq e;omega)))];simp only[aa];refine ⟨_,rfl,a,done,?_,by omega,by omega,?_⟩
   ·rw[af (by omega)]
   ·rw[<-b,List.take_succ_eq_append_getElem j,List.drop_append_of_le_length (by rw[aB];omega)]) (fun s g=>by
  obtain ⟨a,done,rfl,d,m,b⟩:=g;unfold rH;simp only[];rw[if_neg (by rw[bR];simp)]) (s:=(([] :List ByteArray),0,0)) ⟨0,[],rfl,aH _,aH _,by simp⟩ (dC _ (by omega))
 unfold jN;rw[ai e,bR];simp only[];rw[slB d (aH _)];simp only[aa];have h:cr 16 (done.map mkB) [mkB ((l.take l.length).drop a)] =some (done.map mkB++ [mkB ((l.take l.length).drop a)]):=aI (by rw[List.length_map];simp only[aM,aZ];omega);rw[h,<-b,List.drop_length,sw];simp
theorem Ki {c:UInt8} : ∀ {l:List UInt8},c∉l->Lib.index l [c] = -1
 | [],_=>rfl
 | b::l,h=>by
  have a:c≠b:=fun e=>h (by simp[e]);have k:([c] :List UInt8).isPrefixOf (b::l)=false:=by simp[List.isPrefixOf,a]
  rw[Lib.index,k,Ki fun k=>h (bp _ k)];rfl
theorem Kj {c:UInt8} : ∀ {a r:List UInt8},c∉a->Lib.index (a++c::r) [c] =(a.length:Int)
 | [],r,_=>by simp[Lib.index,List.isPrefixOf]
 | b::a,r,h=>by
  have d:c≠b:=fun e=>h (by simp[e]);have k:([c] :List UInt8).isPrefixOf (b::(a++c::r))=false:=by simp[List.isPrefixOf,d]
  rw[List.cons_append,Lib.index,k,Kj fun k=>h (bp _ k)];rw[if_neg (by decide),if_neg (by rw[beq_iff_eq];omega),aM];omega
theorem MG (c:UInt8): ∀(n:Nat) (l:List UInt8),l.length<=n->Lib.splitK [c] 0 (Lib.count l [c]) l=sw c [] l
 | n,l,h=>by
  rcases xk c l with k | ⟨a,r,rfl,k⟩
  ·have e:=Ki k;rw[Lib.count_miss e,rj k];rfl
  ·have e:=Kj (r:=r) k;have b:(a++c::r).drop (a.length+1)=r:=by
    rw[<-List.drop_drop,List.drop_left];rfl
   rw[Lib.count_hit (by simp) e,uc k,Nat.add_comm 1,Lib.splitK,e,if_neg (by rw[beq_iff_eq];omega)];show List.take (a.length+0) _::Lib.splitK [c] 0 (Lib.count ((a++c::r).drop (a.length+1)) [c]) ((a++c::r).drop (a.length+1))=_;rw[b,Nat.add_zero,List.take_left];cases n with
   | zero=>simp at h
   | succ n=>rw[MG c n r (by simp at h;omega)];rfl
theorem Kk (l:List UInt8) (c:UInt8) (b:l.length<=1000000):di (mkB l) (mkB [c])=some ((sw c [] l).map mkB):=by
 unfold di R.Qh chk;rw[bR,bR,if_pos ⟨by omega,by simp⟩,aa];congr 1;have e:=Lib.splitB_data (mkB [c]) 0 (Lib.countB (mkB l) (mkB [c])) (mkB l);rw[ga,ga] at e;have a:Lib.countB (mkB l) (mkB [c])=Lib.count l [c]:=by unfold Lib.countB;rw[ga,ga]
 rw[a,MG c l.length l (aH _)] at e;rw[a,<-e,List.map_map]
 conv=>lhs;rw[<-List.map_id (Lib.splitB _ _ _ _)]
 exact List.map_congr_left fun x _=>(Kh x).symm
theorem ZC {l:List UInt8} {c:UInt8} (a:l.length<=1000000) (h:c∉l):dA (mkB l) (mkB [c])=some (mkB l,mkB [],false):=by
 unfold dA R.afC chk;rw[bR,if_pos (by omega),aa,ga,ga]
 have:Lib.cut l [c] =(l,[],false):=by unfold Lib.cut;rw[Ki h,if_neg (by decide)]
 rw[this];rfl
theorem abf {a r:List UInt8} {c:UInt8} (d:(a++c::r).length<=1000000) (h:c∉a):dA (mkB (a++c::r)) (mkB [c])=some (mkB a,mkB r,true):=by
 unfold dA R.afC chk;rw[bR,if_pos (by omega),aa,ga,ga]
 have:Lib.cut (a++c::r) [c] =(a,r,true):=by
  unfold Lib.cut;rw[Kj h,if_pos (by omega)];have b:(a++c::r).drop (a.length+1)=r:=by
   rw[<-List.drop_drop,List.drop_left];rfl
  show (List.take a.length _,List.drop (a.length+1) _,true)=_;rw[List.take_left,b]
 rw[this];rfl
theorem QA {c:UInt8} : ∀ {l:List UInt8},c∉l->Lib.indexByte l c= -1
 | [],_=>rfl
 | b::l,h=>by
  have a:b≠c:=fun e=>h (by simp[e]);rw[Lib.indexByte,if_neg (by simpa using a),QA fun k=>h (bp _ k)];rfl
theorem abg {c:UInt8} : ∀ {a r:List UInt8},c∉a->Lib.indexByte (a++c::r) c=(a.length:Int)
 | [],r,_=>by simp[Lib.indexByte]
 | b::a,r,h=>by
  have d:b≠c:=fun e=>h (by simp[e]);rw[List.cons_append,Lib.indexByte,if_neg (by simpa using d),abg fun k=>h (bp _ k),if_neg (by rw[beq_iff_eq];omega),aM];omega
theorem ahL {α:Type} {l:List α} (h:l.length=3): ∃a b c,l= [a,b,c]:=by
 match l,h with
 | [a,b,c],_=>grind
abbrev EgT:Type:=Int×Int×Int×Int
theorem ZD (c:UInt8) (cur l:List UInt8):1<=(sw c cur l).length:=by
 grind[xk,rj,uc]
theorem MH (u:Nat): ∀b∈Lib.decDigits u,48<=b.toNat/\b.toNat<=57:=by
 induction u using Nat.strongRecOn with
 | _ u c =>
  intro b a;have k: ∀d,d<10->48<=(UInt8.ofNat (48+d)).toNat/\(UInt8.ofNat (48+d)).toNat<=57:=fun d f=>by
   have e:(UInt8.ofNat (48+d)).toNat=48+d:=by simp;omega
   omega
  by_cases h:u<10
  ·grind[Lib.decDigits_one,List.mem_singleton]
  ·rw[Dq h] at a;rcases aN a with a | a
   ·exact c (u / 10) (by omega) b a
   ·cases ax a;exact k _ (Nat.mod_lt _ (by omega))
theorem ZE (n:Int): ∀b∈Lib.itoa n,b.toNat=45\/48<=b.toNat/\b.toNat<=57:=by
 intro b a;unfold Lib.itoa at a;split at a
 ·rcases az a with rfl | a
  ·grind
  grind[MH]
 grind[MH]
theorem abh {n:Int} {c:UInt8} (h1:c.toNat≠45) (a:c.toNat<48\/57<c.toNat):c∉Lib.itoa n:=fun h=>by
 grind[ZE]
theorem afP {n:Int} (h:0<=n/\n<=9):Lib.itoa n= [UInt8.ofNat (48+n.toNat)]:=by
 unfold Lib.itoa;rw[if_neg (by omega),Lib.decDigits_one (by omega)]
theorem OU {e:EgT} (h:edOk e):wv e=Lib.itoa e.1++58:: [UInt8.ofNat (48+e.2.1.toNat),UInt8.ofNat (97+e.2.2.2.toNat),UInt8.ofNat (48+e.2.2.1.toNat)]:=by
 obtain ⟨-,b,a,-⟩:=h;grind[wv,afP]
theorem afQ: ∀k:Fin 9,∃x,iX (k.val:Int)=some x:=by
 intro k
 match k with
 | ⟨0,_⟩=>exact ⟨_,rfl⟩
 | ⟨1,_⟩=>exact ⟨_,rfl⟩
 | ⟨2,_⟩=>exact ⟨_,rfl⟩
 | ⟨3,_⟩=>exact ⟨_,rfl⟩
 | ⟨4,_⟩=>exact ⟨_,rfl⟩
 | ⟨5,_⟩=>exact ⟨_,rfl⟩
 | ⟨6,_⟩=>exact ⟨_,rfl⟩
 | ⟨7,_⟩=>exact ⟨_,rfl⟩
 | ⟨8,_⟩=>exact ⟨_,rfl⟩
theorem Sq (z:ByteArray): ∃r,jP z=some r:=by
 have ⟨o,e,h⟩:=cq (f:=mR z) (fun i s=>s=(i:Int)) (fun o=> ∀s,o≠ .nxt s) 9 (fun i s g d=>by
  subst d;unfold mR;by_cases a:i<9
  ·have ⟨x,b⟩:=afQ ⟨i,a⟩;rw[if_pos (decide_eq_true (by omega)),b];simp only[aa];by_cases c:(x==z)=true
   ·simp_all
   ·rw[if_neg c];grind[af]
  ·obtain rfl:i=9:=by omega
   grind) (s:=(0:Int)) rfl (dC _ (by omega))
 unfold jP;rw[e];cases o with
 | nxt s=>grind
 | brk s=>exact ⟨_,rfl⟩
 | ret r=>exact ⟨_,rfl⟩
theorem Wd: ∀k:Fin 3,jP (mkB [UInt8.ofNat (97+k.val)])=some (2*(k.val:Int),true):=by
 intro k
 match k with
 | ⟨0,_⟩=>rfl
 | ⟨1,_⟩=>rfl
 | ⟨2,_⟩=>rfl
theorem aiL: ∀d:Fin 5,i64.wrap ((i64.wrap (((UInt8.ofNat (48+d.val)).toNat:Nat):Int)) - 48)=(d.val:Int):=by decide
theorem ai4: ∀d:Fin 3,i64.wrap ((i64.wrap (((UInt8.ofNat (97+d.val)).toNat:Nat):Int)) - 97)=(d.val:Int):=by decide
theorem ai5: ∀d:Fin 3,Hr (2*(d.val:Int)) 2=(d.val:Int):=by decide
def agW (s:List UInt8) (r:EgT×Bool):Prop:=r=((0,0,0,0),false)\/r.2=true/\edOk r.1/\s=wv r.1
theorem abi {e:EgT} {s:List UInt8} (h:s≠ []): ∃r:EgT×Bool,(if (if edOk e then mkB (wv e) else mkB []) !=mkB s then (some ((0,0,0,0),false)) else (some (e,true)):Option (EgT×Bool))=some r/\agW s r:=by
 by_cases k:edOk e
 ·rw[if_pos k];by_cases c:mkB (wv e)=mkB s
  ·rw[if_neg (by simp[c])];exact ⟨_,rfl,.inr ⟨rfl,k,(BF c).symm⟩⟩
  ·rw[if_pos (by grind)];exact ⟨_,rfl,.inl rfl⟩
 ·rw[if_neg k,if_pos (by
   grind[BF])]
  exact ⟨_,rfl,.inl rfl⟩
theorem ai6 (l:List UInt8) (h:l.length<=1000000): ∃r,iF (mkB l)=some r/\agW l r:=by
 unfold iF;have j:jN (mkB l) 58=some ((sw 58 [] l).map mkB):=AA l 58 h;rw[j];simp only[aa];rcases xk 58 l with k | ⟨a,r,rfl,k⟩
 ·rw[rj k];exact ⟨_,rfl,.inl rfl⟩
 ·rw[uc k];rcases xk 58 r with c | ⟨b,q,rfl,c⟩
  ·rw[rj c];simp only[List.nil_append,List.map_cons,List.map_nil];have m:aK [mkB a,mkB r] 0=some (mkB a):=rfl;have d:aK [mkB a,mkB r] 1=some (mkB r):=rfl;rw[if_neg (by simp)];simp only[m,d,aa,bR];by_cases g:r.length=3
   ·obtain ⟨x,y,z,rfl⟩:=ahL g;obtain ⟨n,o,-,-⟩:=ub (mkB a);have ⟨t,s⟩:=Sq (mkB [y]);have f:vn (mkB [x,y,z]) 1 2=some (mkB [y]):=slB (l:=[x,y,z]) (a:=1) (b:=2) (by decide) (by simp);have p:nB (mkB [x,y,z]) 0=some ((x.toNat:Nat):Int):=atB (l:=[x,y,z]) (i:=0) (by simp);have e:nB (mkB [x,y,z]) 2=some ((z.toNat:Nat):Int):=atB (l:=[x,y,z]) (i:=2) (by simp);rw[if_neg (by simp),o,f];simp only[aa];rw[s,p,e];simp only[aa];rw[V9];exact abi (by simp)
   ·rw[if_pos (by grind)];exact ⟨_,rfl,.inl rfl⟩
  ·rw[uc c]
   have:=ZD 58 [] q
   rw[if_pos (by grind)];exact ⟨_,rfl,.inl rfl⟩
theorem ai7 (l:List UInt8) (c:l.length<=1000000): ∃r,iK (mkB l)=some r/\agW l r:=by
 unfold iK;rcases xk 58 l with k | ⟨a,r,rfl,k⟩
 ·have b:dA (mkB l) (⟨#[58]⟩)=some (mkB l,mkB [],false):=ZC c k;rw[b];exact ⟨_,rfl,.inl rfl⟩
 ·have b:dA (mkB (a++58::r)) (⟨#[58]⟩)=some (mkB a,mkB r,true):=abf c k;rw[b];simp only[aa,bR];by_cases g:r.length=3
  ·obtain ⟨x,y,z,rfl⟩:=ahL g;obtain ⟨n,-,f,-⟩:=ub (mkB a);have h:nB (mkB [x,y,z]) 0=some ((x.toNat:Nat):Int):=atB (l:=[x,y,z]) (i:=0) (by simp);have d:nB (mkB [x,y,z]) 1=some ((y.toNat:Nat):Int):=atB (l:=[x,y,z]) (i:=1) (by simp);have e:nB (mkB [x,y,z]) 2=some ((z.toNat:Nat):Int):=atB (l:=[x,y,z]) (i:=2) (by simp);rw[if_neg (by simp),f,h,d,e];simp only[aa];rw[Wa];exact abi (by simp)
  ·rw[if_pos (by grind)];exact ⟨_,rfl,.inl rfl⟩
theorem adJ {e:EgT} (h:edOk e):iF (mkB (wv e))=some (e,true)/\iK (mkB (wv e))=some (e,true):=by
 have K:=Az h;have r:=OU h;have d:(wv e).length<=1000000:=by omega
 have ⟨A,T,C,z⟩:=id h;have ⟨I,L⟩:=Qy (n:=e.1) (by omega);have k:(58:UInt8)∉Lib.itoa e.1:=abh (by decide) (by decide);have ⟨f,o,u⟩: ∃k:Nat,k<5/\e.2.1=(k:Int):=⟨e.2.1.toNat,by omega,by omega⟩;have ⟨t,p,w⟩: ∃k:Nat,k<5/\e.2.2.1=(k:Int):=⟨e.2.2.1.toNat,by omega,by omega⟩;have ⟨q,j,v⟩: ∃k:Nat,k<3/\e.2.2.2=(k:Int):=⟨e.2.2.2.toNat,by omega,by omega⟩;have m:wv e=Lib.itoa e.1++58:: [UInt8.ofNat (48+f),UInt8.ofNat (97+q),UInt8.ofNat (48+t)]:=by
  rw[r,u,w,v];rfl
 have s:(58:UInt8) ∉ [UInt8.ofNat (48+f),UInt8.ofNat (97+q),UInt8.ofNat (48+t)]:=by
  have G:(UInt8.ofNat (48+f)).toNat=48+f:=by simp;omega
  have Q:(UInt8.ofNat (97+q)).toNat=97+q:=by simp;omega
  have S:(UInt8.ofNat (48+t)).toNat=48+t:=by simp;omega
  have N:(58:UInt8).toNat=58:=rfl;intro c;simp only[List.mem_cons,List.not_mem_nil,or_false] at c;rcases c with c | c | c <;> (have:=congrArg UInt8.toNat c;omega)
 have O:=atB (l:=[UInt8.ofNat (48+f),UInt8.ofNat (97+q),UInt8.ofNat (48+t)]) (i:=0) (by simp);have P:=atB (l:=[UInt8.ofNat (48+f),UInt8.ofNat (97+q),UInt8.ofNat (48+t)]) (i:=1) (by simp);have B:=atB (l:=[UInt8.ofNat (48+f),UInt8.ofNat (97+q),UInt8.ofNat (48+t)]) (i:=2) (by simp);have D:=slB (l:=[UInt8.ofNat (48+f),UInt8.ofNat (97+q),UInt8.ofNat (48+t)]) (a:=1) (b:=2) (by decide) (by simp);have F:=aiL ⟨f,o⟩;have R:=aiL ⟨t,p⟩;have H:=ai4 ⟨q,j⟩;have J:=ai5 ⟨q,j⟩;have y:=Wd ⟨q,j⟩;have E:(e.1,(f:Int),(t:Int),(q:Int))=e:=by grind
 constructor
 ·unfold iF;have g:jN (mkB (wv e)) 58=some ((sw 58 [] (wv e)).map mkB):=AA _ 58 d;rw[g];rw[m,uc k,rj s];have M: ∀a b:ByteArray,aK [a,b] 0=some a:=fun a b=>rfl;have x: ∀a b:ByteArray,aK [a,b] 1=some b:=fun a b=>rfl;simp_all[aa,bR,if_neg,V9,if_pos]
 ·unfold iK;have g:dA (mkB (wv e)) (⟨#[58]⟩)=some (mkB (Lib.itoa e.1),mkB [UInt8.ofNat (48+f),UInt8.ofNat (97+q),UInt8.ofNat (48+t)],true):=by
   rw[m] at d⊢;exact abf d k
  rw[g];simp[aa,bR];simp_all[if_neg,aa,Wa,if_pos]
theorem We (l:List UInt8) (d:l.length<=1000000): ∃r,iF (mkB l)=some r/\iK (mkB l)=some r/\agW l r:=by
 by_cases h: ∃e:EgT,edOk e/\l=wv e
 ·obtain ⟨e,c,rfl⟩:=h;exact ⟨_,(adJ c).1,(adJ c).2,.inr ⟨rfl,c,rfl⟩⟩
 ·have ⟨k,j,i⟩:=ai6 l d;have ⟨m,f,g⟩:=ai7 l d;rcases i with rfl | ⟨-,a,b⟩
  ·rcases g with rfl | ⟨-,a,b⟩
   ·exact ⟨_,j,f,.inl rfl⟩
   grind
  grind
theorem ZF {e:EgT} (h:edOk e) {c:UInt8} (h1:c.toNat≠45) (f:c.toNat<48):c∉wv e:=by
 obtain ⟨-,-,-,d⟩:=id h;rw[OU h];intro a;rcases aN a with a | a
 ·grind[abh]
 ·have g:(UInt8.ofNat (48+e.2.1.toNat)).toNat=48+e.2.1.toNat:=by have:=h.2.1;simp;omega
  have b:(UInt8.ofNat (97+e.2.2.2.toNat)).toNat=97+e.2.2.2.toNat:=by simp;omega
  have i:(UInt8.ofNat (48+e.2.2.1.toNat)).toNat=48+e.2.2.1.toNat:=by have:=h.2.2.1;simp;omega
  have j:(58:UInt8).toNat=58:=rfl;simp only[List.mem_cons,List.not_mem_nil,or_false] at a;rcases a with a | a | a | a <;> (have:=congrArg UInt8.toNat a;omega)
theorem QB {c:ChT} (h:edOk c.2) {b:UInt8} (h1:b.toNat≠45) (e:b.toNat<48) (d:b.toNat≠43):b∉xt c:=by
 intro a;rcases az a with a | a
 ·have:=congrArg UInt8.toNat a
  split at this
  ·grind
  grind
 grind[ZF]
theorem CC {c:UInt8} : ∀ {r:List (List UInt8)} {x:List UInt8},c∉x->(∀y∈r,c∉y)->sw c [] (x++Lib.joinTail [c] r)=x::r
 | [],x,hx,_=>by
  have:Lib.joinTail [c] [] = []:=by simp[Lib.joinTail]
  rw[this,List.append_nil,rj hx];rfl
 | y::r,x,hx,hr=>by
  have:Lib.joinTail [c] (y::r)=c::(y++Lib.joinTail [c] r):=by simp[Lib.joinTail]
  rw[this,uc hx,CC (hr y (by simp)) fun z a=>hr z (bp _ a)];rfl
theorem Wf {l:List ChT} (h:Ds l) (e:l≠ []):sw 32 [] (btx l)=l.map xt:=by
 cases l with
 | nil=>grind
 | cons c r =>
  unfold btx;rw[List.map_cons,Lib.join_cons];refine CC (QB (h c (by simp)) (by decide) (by decide) (by decide)) fun y a=>?_;obtain ⟨d,b,rfl⟩:=List.mem_map.1 a;exact QB (h d (bp _ b)) (by decide) (by decide) (by decide)
theorem adK:btx [] = []:=by simp[btx,Lib.join_nil]
theorem abj {l:List ChT} (a:l≠ []):btx l≠ []:=by
 cases l with
 | nil=>grind
 | cons c r=>unfold btx;rw[List.map_cons,Lib.join_cons];simp[xt]
def agX (s:List UInt8) (r:(List ChT)×Bool):Prop:=r=([],false)\/r.2=true/\r.1.length<=6/\Ds r.1/\s=btx r.1
theorem Wg {p:List UInt8} (h:1<=p.length):vn (mkB p) 1 (p.length:Int)=some (mkB (p.drop 1)):=by
 have:=slB (l:=p) (a:=1) (b:=p.length) h (aH _)
 grind
theorem wz (p:List UInt8):(mkB p==(⟨#[]⟩:ByteArray))=decide (p= []):=by
 by_cases h:p= []
 ·subst h;rfl
 ·rw[decide_eq_false h,beq_eq_false_iff_ne];intro k;exact h (BF (b:=[]) k)
open Classical in
theorem abk {f:List ChT->Option ByteArray} (d: ∀l,f l=some (if l.length<=6/\Ds l then mkB (btx l) else mkB [])) {b:List ChT} {s:List UInt8} (h:s≠ []): ∃r:(List ChT)×Bool,((f b).bind fun a=>if a !=mkB s then (some (([] :List ChT),false)) else (some (b,true)):Option ((List ChT)×Bool))=some r/\agX s r:=by
 rw[d];simp only[aa];by_cases k:b.length<=6/\Ds b
 ·rw[if_pos k];by_cases c:mkB (btx b)=mkB s
  ·rw[if_neg (by simp[c])];exact ⟨_,rfl,.inr ⟨rfl,k.1,k.2,(BF c).symm⟩⟩
  ·rw[if_pos (by simpa using c)];exact ⟨_,rfl,.inl rfl⟩
 ·rw[if_neg k,if_pos (by
   rw[bne_iff_ne];exact fun c=>h (BF c).symm)]
  exact ⟨_,rfl,.inl rfl⟩
theorem ai8 (l:List UInt8) (h:l.length<=1000000): ∃r,gj (mkB l)=some r/\(l= [] \/agX l r):=by
 unfold gj;by_cases g:l= []
 ·simp_all[wz,if_pos,decide_eq_true]
 rw[wz,if_neg (by grind)];have j:jN (mkB l) 32=some ((sw 32 [] l).map mkB):=AA l 32 h;rw[j];simp only[aa];have ⟨o,e,m⟩:=cq (f:=dH ((sw 32 [] l).map mkB)) (fun i s=> ∃b:List ChT,s=((i:Int),b)/\b.length=i) (fun o=>o= .ret (([] :List ChT),false)\/ ∃s,o= .brk s) 7 (fun i s w t=>by
  obtain ⟨b,rfl,u⟩:=t;unfold dH;by_cases a:i<((sw 32 [] l).map mkB).length
  ·rw[br a,if_pos rfl];by_cases v:i<=6
   ·rw[if_pos (decide_eq_true (by omega)),au a];simp only[aa];rw[List.length_map] at a;have hp:=wx 32 l [] _ (List.getElem_mem a);rw[List.getElem_map];generalize (sw 32 [] l)[i] =p at hp⊢;rw[bR];by_cases x:p.length<2
    ·grind
    ·rw[if_neg (by grind),Wg (by omega)];simp only[aa];obtain ⟨r,c,-,-⟩:=We (p.drop 1) (by grind);rw[c];simp only[aa];have q:nB (mkB p) 0=some ((p[0].toNat:Nat):Int):=atB (l:=p) (i:=0) (by omega);by_cases d:r.2=true
     ·rw[if_pos d,q];simp only[aa];have n: ∀z:ChT,cr 40 b [z] =some (b++ [z]):=fun z=>aI (by grind);rw[n];exact .inl ⟨by omega,_,rfl,_,by rw[af (by omega)],by simp;omega⟩
     grind
   ·rw[if_neg (by grind)];grind
  simp_all[if_neg,decide_eq_true_eq]) (s:=(0,([] :List ChT))) ⟨[],rfl,rfl⟩ (dC _ (by omega))
 rcases m with rfl | ⟨s,rfl⟩
 ·rw[bg e];exact ⟨_,rfl,.inr (.inl rfl)⟩
 ·rw[ai e];have ⟨r,c,k⟩:=abk (f:=dx) (fun l=>(xj l).1) (b:=s.2) g;grind
theorem ai9 (l:List UInt8) (j:l.length<=1000000): ∃r,gk (mkB l)=some r/\(l= [] \/agX l r):=by
 unfold gk;by_cases h:l= []
 ·simp_all[wz,if_pos,decide_eq_true]
 rw[wz,if_neg (by grind)];have m:di (mkB l) (⟨#[32]⟩)=some ((sw 32 [] l).map mkB):=Kk l 32 j;rw[m];simp only[aa];have x:=Kg 32 l [];have ⟨o,e,n⟩:=cq (f:=dN ((sw 32 [] l).map mkB)) (fun i s=> ∃b:List ChT,s=((i:Int),b)/\b.length=i) (fun o=>o= .ret (([] :List ChT),false)\/ ∃s,o= .brk s) (sw 32 [] l).length (fun i s y u=>by
  obtain ⟨b,rfl,w⟩:=u;unfold dN;by_cases a:i<((sw 32 [] l).map mkB).length
  ·rw[br a,if_pos rfl,au a];simp only[aa];rw[List.length_map] at a;have hp:=wx 32 l [] _ (List.getElem_mem a);rw[List.getElem_map];generalize (sw 32 [] l)[i] =p at hp⊢;rw[wz,bR];by_cases v:p= []
   ·grind
   ·have c:=List.length_pos_iff.2 v;rw[if_neg (by grind),Wg c];simp only[aa];obtain ⟨r,-,d,-⟩:=We (p.drop 1) (by grind);rw[d];simp only[aa];have t:nB (mkB p) 0=some ((p[0].toNat:Nat):Int):=atB (l:=p) (i:=0) (by omega);by_cases g:r.2=true
    ·rw[if_pos g,t];simp only[aa];have q: ∀z:ChT,cr 40 b [z] =some (b++ [z]):=fun z=>aI (by grind);rw[q];exact .inl ⟨by omega,_,rfl,_,by rw[af (by omega)],by simp;omega⟩
    grind
  simp_all[if_neg,decide_eq_true_eq]) (s:=(0,([] :List ChT))) ⟨[],rfl,rfl⟩ (dC _ (by omega))
 rcases n with rfl | ⟨s,rfl⟩
 ·rw[bg e];exact ⟨_,rfl,.inr (.inl rfl)⟩
 ·rw[ai e];have ⟨r,d,k⟩:=abk (f:=fa) (fun l=>(xj l).2) (b:=s.2) h;grind
theorem Wh {L:List ChT} (h:Ds L) (q:L.length<=6) {i:Nat} (hi:i<L.length):dH ((L.map xt).map mkB) ((i:Int),L.take i)=some (.nxt (((i+1:Nat):Int),L.take (i+1)))/\dN ((L.map xt).map mkB) ((i:Int),L.take i)=some (.nxt (((i+1:Nat):Int),L.take (i+1))):=by
 have a:i<((L.map xt).map mkB).length:=by rw[List.length_map,List.length_map];exact hi
 have f:=h _ (List.getElem_mem hi);have b:((L.map xt).map mkB)[i] =mkB (xt L[i]):=by simp
 have ⟨m,n⟩:=adJ f;have r:(xt L[i]).length=(wv L[i].2).length+1:=by rfl
 have o:4<=(wv L[i].2).length:=by rw[OU f];simp
 have g:(xt L[i]).drop 1=wv L[i].2:=rfl;have e:nB (mkB (xt L[i])) 0=some (((if L[i].1 then (43:UInt8) else 45).toNat:Nat):Int):=atB (l:=xt L[i]) (i:=0) (by omega);have c:((((if L[i].1 then (43:UInt8) else 45).toNat:Nat):Int)==43)=L[i].1:=by
  generalize L[i].1=t;cases t <;> rfl
 have d: ∀z:ChT,cr 40 (L.take i) [z] =some (L.take i++ [z]):=fun z=>aI (by grind);have k:=List.take_succ_eq_append_getElem hi;have j:=Wg (p:=xt L[i]) (by omega);constructor
 ·unfold dH;rw[br a,if_pos rfl,if_pos (decide_eq_true (by omega)),au a,b];simp[aa];rw[bR,if_neg (by grind),j,g];simp[aa];rw[m];simp only[aa];rw[if_pos trivial,e];simp[aa];rw[c,d,af (by omega),k];rfl
 ·unfold dN;rw[br a,if_pos rfl,au a,b];simp only[aa];rw[wz,if_neg (by grind),bR,j,g];simp[aa];rw[n];simp only[aa];rw[if_pos trivial,e];simp[aa];rw[c,d,af (by omega),k];rfl
theorem afR {L:List ChT} (h:Ds L) (e:L.length<=6):gj (mkB (btx L))=some (L,true)/\gk (mkB (btx L))=some (L,true):=by
 by_cases a:L= []
 ·subst a;exact ⟨rfl,rfl⟩
 have k:=Kf h;have d:(btx L).length<=1000000:=by omega
 have ⟨j,l⟩:=xj L;have g:=aQ (f:=dH ((L.map xt).map mkB)) (fun i=>((i:Int),L.take i)) L.length (fun i b=>(Wh h e b).1) (by
  simp_all[dH,if_neg]) (dC _ (by omega))
 have b:=aQ (f:=dN ((L.map xt).map mkB)) (fun i=>((i:Int),L.take i)) L.length (fun i b=>(Wh h e b).2) (by
  simp_all[dN,if_neg]) (dC _ (by omega))
 constructor
 ·unfold gj;have c:jN (mkB (btx L)) 32=some ((sw 32 [] (btx L)).map mkB):=AA _ 32 d;rw[wz,if_neg (by simpa using abj a),c,Wf h a];grind[ai]
 ·unfold gk;have c:di (mkB (btx L)) (⟨#[32]⟩)=some ((sw 32 [] (btx L)).map mkB):=Kk _ 32 d;rw[wz,if_neg (by simpa using abj a),c,Wf h a];grind[ai]
theorem adL (l:List UInt8) (g:l.length<=1000000): ∃r,gj (mkB l)=some r/\gk (mkB l)=some r/\agX l r:=by
 by_cases h: ∃L:List ChT,L.length<=6/\Ds L/\l=btx L
 ·obtain ⟨L,d,f,rfl⟩:=h;exact ⟨_,(afR f d).1,(afR f d).2,.inr ⟨rfl,d,f,rfl⟩⟩
 ·have o:l≠ []:=fun e=>h ⟨[],by simp,fun c p=>by grind,by rw[e,adK]⟩;have ⟨q,i,n⟩:=ai8 l g;have ⟨s,m,j⟩:=ai9 l g;rcases n with k | rfl | ⟨-,a,b,c⟩
  ·grind
  ·rcases j with k | rfl | ⟨-,a,b,c⟩
   ·grind
   ·exact ⟨_,i,m,.inl rfl⟩
   grind
  grind
def recT (v:Int) (b:List ChT):List UInt8:=((fB v b).getD ByteArray.empty).data.toList
theorem afT (v:Int) (b:List ChT):fB v b=some (mkB (recT v b))/\iZ v b=some (mkB (recT v b))/\(recT v b).length<=1000:=by
 have ⟨r,c,a,h⟩:=FM v b;grind[mkB,recT,Kh,bR]
def totL (r:List Int) (q:List (List ChT)):Nat->Nat
 | 0=>0
 | i+1=>totL r q i+(recT (nth r (i:Int)) (nth q (i:Int))).length
theorem QC {r:List Int} {q:List (List ChT)} (h:q.length=r.length) (x:List Int) (y:List (List ChT)): ∀i,i<=r.length->totL (r++x) (q++y) i=totL r q i
 | 0,_=>rfl
 | i+1,hi=>by
  rw[totL,totL,QC h x y i (by omega),ke (by omega) (by omega),ke (by omega) (by omega)]
theorem Wi {r:List Int} {q:List (List ChT)} (h:q.length=r.length) (v:Int) (b:List ChT):totL (r++ [v]) (q++ [b]) (r++ [v]).length=totL r q r.length+(recT v b).length:=by
 have c:nth (r++ [v]) ((r.length:Nat):Int)=v:=by rw[cG (by simp)];simp
 have a:nth (q++ [b]) ((r.length:Nat):Int)=b:=by rw[<-h,cG (by simp)];simp
 simp_all[aF,aM,aZ,Nat.zero_add,totL,QC,aH]
theorem Wj (l:List UInt8) (d:l.length<=1000000): ∃r:Int×List ChT×Bool,lE (mkB l)=some r/\lH (mkB l)=some r/\r.2.1.length<=6/\(-999999999<=r.1/\r.1<=999999999)/\(r.2.2=true->recT r.1 r.2.1=l):=by
 unfold lE lH;have h:jN (mkB l) 59=some ((sw 59 [] l).map mkB):=AA l 59 d;have n:di (mkB l) (⟨#[59]⟩)=some ((sw 59 [] l).map mkB):=Kk l 59 d;rw[h,n];by_cases g:(sw 59 [] l).length=3
 ·have hp:=wx 59 l [];have ⟨a,b,c,e⟩:=ahL g;rw[e] at hp⊢;have i:=hp b (by simp);rw[aZ] at i;have x:aK [mkB a,mkB b,mkB c] 0=some (mkB a):=rfl;have o:aK [mkB a,mkB b,mkB c] 1=some (mkB b):=rfl;have ⟨v,s,z,kv⟩:=ub (mkB a);have ⟨q,y,w,k⟩:=adL b (by omega);obtain ⟨t,A,p,-⟩:=FM v.1 q.1;have u:q.1.length<=6:=by
   rcases k with rfl | ⟨-,k,-⟩
   ·simp
   ·exact k
  by_cases m:v.2=true
  ·by_cases j:q.2=true
   ·by_cases f:(t !=mkB l)=true
    ·simp_all
    ·simp[if_pos m,if_pos j,if_neg f];grind[mkB,afT,BF,ae]
   simp_all
  simp_all
 ·have k:(((List.map mkB (sw 59 [] l)).length:Int) !=3)=true:=by
   rw[bne_iff_ne,List.length_map];omega
  simp_all
def ScOk (vs:List Int) (bs:List (List ChT)):Prop:=bs.length=vs.length/\(∀b∈bs,b.length<=6)/\ ∀v∈vs,(-999999999<=v/\v<=999999999)/\v<=nth vs ((vs.length:Int) - 1)
theorem ZG (vs:List Int) (v:Int):nth (vs++ [v]) (((vs++ [v]).length:Int) - 1)=v:=by
 simp_all[cG]
theorem ScOk.push {vs:List Int} {c:List (List ChT)} (h:ScOk vs c) {v:Int} {b:List ChT} (f:b.length<=6) (hv: -999999999<=v/\v<=999999999) (g:0<vs.length->v=i64.wrap (nth vs ((vs.length:Int) - 1)+1)):ScOk (vs++ [v]) (c++ [b]):=by
 have ⟨e,j,i⟩:=h;refine ⟨by grind,fun d a=>?_,fun d a=>?_⟩
 ·grind
 ·rw[ZG];rcases aN a with q | q
  ·grind[List.length_pos_of_mem,bm,cy]
  grind
theorem Kl {l:List UInt8} (d:l.length<=4000) {vs:List Int} {c:List (List ChT)} {u:Int} : ∀(a r:List UInt8) (i k:Nat),(10:UInt8)∉a->l.drop i=a++r->i<=l.length->aj (bB (mkB l)) (k+a.length) (vs,c,u,(i:Int))=aj (bB (mkB l)) k (vs,c,u,((i+a.length:Nat):Int))
 | [],r,i,k,_,_,_=>rfl
 | x::a,r,i,k,hx,e,hi=>by
  have b:i<l.length:=by
   have:=congrArg List.length e
   rw[bF,aF,aM] at this;omega
  have g:=List.drop_eq_getElem_cons b;rw[g,List.cons_append] at e;have ⟨h,f⟩:=List.cons.inj e;have m:x.toNat≠10:=fun q=>hx (by
   have:x=10:=UInt8.toNat_inj.1 q
   grind)
  have j:bB (mkB l) (vs,c,u,(i:Int))=some (.nxt (vs,c,u,((i+1:Nat):Int))):=by
   unfold bB;rw[bR,br b,if_pos rfl,if_pos (decide_eq_true (by omega)),atB b,h];simp only[aa];rw[if_pos (by grind),af (by omega)];rfl
  rw[aM,show k+(a.length+1)=(k+a.length)+1 by omega,aj,j];show aj _ (k+a.length) _=_;rw[Kl d a r (i+1) k (fun q=>hx (bp _ q)) f b,show i+1+a.length=i+(a.length+1) by omega]
theorem adM {l:List UInt8} (z:l.length<=4000): ∀(m p:Nat) (vs:List Int) (b:List (List ChT)),l.length - p<m->p<=l.length->vs.length<=p->ScOk vs b->totL vs b vs.length<=p-> ∃(r:List Int) (q:List (List ChT)) (n:Nat),(∀k,l.length - p+1<=k->(aj (bB (mkB l)) k (vs,b,(p:Int),(p:Int))=some (.ret (r,q,(n:Int)))\/ ∃i,aj (bB (mkB l)) k (vs,b,(p:Int),(p:Int))=some (.brk (r,q,(n:Int),i)))/\aj (cW (mkB l)) k (vs,b,(p:Int))=some (.brk (r,q,(n:Int))))/\n<=l.length/\r.length<=n/\ScOk r q/\totL r q r.length<=n:=by
 intro m;induction m with
 | zero=>omega
 | succ m ih =>
  intro p vs b Y hp hv s A;have u:=s.1;have g:vn (mkB l) (p:Int) (l.length:Int)=some (mkB (l.drop p)):=by
   rw[slB hp (aH _),List.take_length]
  rcases xk 10 (l.drop p) with k | ⟨a,t,e,k⟩
  ·refine ⟨vs,b,p,fun j D=>⟨.inr ⟨(l.length:Int),?_⟩,?_⟩,hp,hv,s,A⟩
   ·have I:(l.drop p).length=l.length - p:=bF ..;obtain ⟨j,rfl⟩: ∃j',j=(j'+1)+(l.drop p).length:=⟨j - 1 - (l.length - p),by omega⟩;rw[Kl z (l.drop p) [] p (j+1) k (by simp) hp,aj,I,show p+(l.length - p)=l.length by omega]
    have:bB (mkB l) (vs,b,(p:Int),(l.length:Int))=some (.brk (vs,b,(p:Int),(l.length:Int))):=by
     unfold bB;simp only[];rw[bR,if_neg (by simp)]
    grind
   ·obtain ⟨j,rfl⟩: ∃j',j=j'+1:=⟨j - 1,by omega⟩
    have:cW (mkB l) (vs,b,(p:Int))=some (.brk (vs,b,(p:Int))):=by
     unfold cW;simp only[];have w:fO (mkB (l.drop p)) 10=some (-1):=by
      show some (Lib.indexByte _ 10)=_;rw[ga,QA k]
     rw[bR,if_pos (decide_eq_true (by omega)),g];simp only[aa];rw[w];simp only[aa]
     rfl
    rw[aj,this]
  ·have f:(l.drop p).length=l.length - p:=bF ..;rw[e,aF,aM] at f;have v:p+a.length<l.length:=by omega
   have P:l[p+a.length] =10:=by
    have:(l.drop p)[a.length]? =some 10:=by rw[e];simp
    rw[List.getElem?_drop,List.getElem?_eq_getElem v] at this;exact ae this
   have ⟨r,N,U,L,V,M⟩:=Wj ((l.take (p+a.length+1)).drop p) (by grind);have E:vn (mkB l) (p:Int) ((p+a.length+1:Nat):Int)=some (mkB ((l.take (p+a.length+1)).drop p)):=slB (by omega) (by omega);have w:fO (mkB (l.drop p)) 10=some (a.length:Int):=by
    show some (Lib.indexByte _ 10)=_;rw[ga,e,abg k]
   have T:i64.wrap ((i64.wrap ((p:Int)+(a.length:Int)))+1)=((p+a.length+1:Nat):Int):=by
    rw[cy (n:=(p:Int)+(a.length:Int)) (by omega) (by omega),cy (by omega) (by omega)];omega
   have J:i64.wrap ((p:Int)+(i64.wrap ((a.length:Int)+1)))=((p+a.length+1:Nat):Int):=by
    rw[cy (n:=(a.length:Int)+1) (by omega) (by omega),cy (by omega) (by omega)];omega
   have step:(bB (mkB l) (vs,b,(p:Int),((p+a.length:Nat):Int))=some (.ret (vs,b,(p:Int)))/\cW (mkB l) (vs,b,(p:Int))=some (.brk (vs,b,(p:Int))))\/(bB (mkB l) (vs,b,(p:Int),((p+a.length:Nat):Int))=some (.nxt (vs++ [r.1],b++ [r.2.1],((p+a.length+1:Nat):Int),((p+a.length+1:Nat):Int)))/\cW (mkB l) (vs,b,(p:Int))=some (.nxt (vs++ [r.1],b++ [r.2.1],((p+a.length+1:Nat):Int)))/\(0<vs.length->r.1=i64.wrap (nth vs ((vs.length:Int) - 1)+1))/\r.2.2=true):=by
    have x:cr 8 vs [r.1] =some (vs++ [r.1]):=aI (by grind);have C:cr 24 b [r.2.1] =some (b++ [r.2.1]):=aI (by grind);unfold bB cW;simp only[];rw[bR,br v,if_pos rfl,if_pos (decide_eq_true (by omega)),if_pos (decide_eq_true (by omega)),atB v,P,g];simp only[aa];rw[if_neg (by decide),w,af (show p+a.length<9223372036854775807 by omega),E];simp only[aa];rw[N,if_neg (by simp),T,J,E];simp only[aa];rw[U];simp only[aa];by_cases d:r.2.2=true
    ·rw[if_pos d,if_pos d];by_cases c:decide ((vs.length:Int)>0)=true
     ·rw[if_pos c,if_pos c];have X:0<vs.length:=by simpa using c
      rw[lh (by omega),aq (xs:=vs) (by omega) (by omega)];simp only[aa];by_cases o:(r.1 !=i64.wrap (nth vs ((vs.length:Int) - 1)+1))=true
      ·rw[if_pos o,if_pos o];exact .inl ⟨rfl,rfl⟩
      ·rw[if_neg o,if_neg o,x,C];exact .inr ⟨rfl,rfl,(fun _=>by grind),d⟩
     ·rw[if_neg c,if_neg c,x,C];exact .inr ⟨rfl,rfl,(fun h=>absurd (decide_eq_true (show (vs.length:Int)>0 by omega)) c),d⟩
    ·rw[if_neg d,if_neg d];exact .inl ⟨rfl,rfl⟩
   rcases step with ⟨y,B⟩ | ⟨y,B,O,F⟩
   ·refine ⟨vs,b,p,fun j D=>⟨.inl ?_,?_⟩,hp,hv,s,A⟩
    ·obtain ⟨j,rfl⟩: ∃j',j=(j'+1)+a.length:=⟨j - 1 - a.length,by omega⟩;simp_all[Kl,aj]
    ·obtain ⟨j,rfl⟩: ∃j',j=j'+1:=⟨j - 1,by omega⟩;rw[aj,B]
   ·have S:totL (vs++ [r.1]) (b++ [r.2.1]) (vs++ [r.1]).length<=p+a.length+1:=by
     rw[Wi u,M F,bF,aB];omega
    have ⟨R,Q,n,H,W,K,G⟩:=ih (p+a.length+1) (vs++ [r.1]) (b++ [r.2.1]) (by omega) (by omega) (by grind) (s.push L V O) S;refine ⟨R,Q,n,fun j D=>⟨?_,?_⟩,W,K,G⟩
    ·obtain ⟨j,rfl⟩: ∃j',j=(j'+1)+a.length:=⟨j - 1 - a.length,by omega⟩;rw[Kl z a (10::t) p (j+1) k e hp,aj,y];exact (H j (by omega)).1
    ·obtain ⟨j,rfl⟩: ∃j',j=j'+1:=⟨j - 1,by omega⟩;grind[aj]
theorem MI (l:List UInt8) (m:l.length<=1000000000): ∃(r:List Int) (q:List (List ChT)) (n:Nat),m_s_ScanLog (mkB l)=some (r,q,(n:Int))/\m_i_ScanLog (mkB l)=some (r,q,(n:Int))/\n<=l.length/\r.length<=4000/\ScOk r q/\totL r q r.length<=n:=by
 unfold m_s_ScanLog m_i_ScanLog;by_cases h:l.length<=4000
 ·have ⟨r,q,n,g,j,p,f⟩:=adM h (l.length+1) 0 [] [] (by omega) (by omega) (by simp) ⟨rfl,fun b c=>(by cases c),fun b c=>(by cases c)⟩ (Nat.zero_le _);have ⟨a,d⟩:=g aP (dC _ (by omega));have d:aj (cW (mkB l)) aP (([] :List Int),([] :List (List ChT)),0)=some (.brk (r,q,(n:Int))):=d;refine ⟨r,q,n,?_,?_,j,by omega,f⟩
  ·rcases a with a | ⟨i,a⟩
   ·have a:aj (bB (mkB l)) aP (([] :List Int),([] :List (List ChT)),0,0)=_:=a;rw[bg a]
   ·have a:aj (bB (mkB l)) aP (([] :List Int),([] :List (List ChT)),0,0)=_:=a;rw[ai a]
  ·rw[ai d]
 ·have o:=dC 100 (by omega);have ⟨k,e⟩: ∃k,aP=k+1:=⟨aP - 1,by omega⟩;have a:aj (bB (mkB l)) aP (([] :List Int),([] :List (List ChT)),0,0)=some (.brk ([],[],0,0)):=by
   rw[e,aj]
   have:bB (mkB l) (([] :List Int),([] :List (List ChT)),0,0)=some (.brk ([],[],0,0)):=by
    unfold bB;simp only[];rw[bR,if_pos (decide_eq_true (by omega)),if_neg (by grind)]
   grind
  have d:aj (cW (mkB l)) aP (([] :List Int),([] :List (List ChT)),0)=some (.brk ([],[],0)):=by
   rw[e,aj]
   have:cW (mkB l) (([] :List Int),([] :List (List ChT)),0)=some (.brk ([],[],0)):=by
    unfold cW;rw[bR,if_neg (by grind)]
   grind
  rw[ai a,ai d];exact ⟨[],[],0,rfl,rfl,by omega,by simp,⟨rfl,fun b c=>(by cases c),fun b c=>(by cases c)⟩,aH _⟩
abbrev GrT:=(List Int)×Yq1 
theorem Sr {R:Type} {f:Int->Option (Out R Int)} (N:Nat) (p:Nat->Prop) [DecidablePred p] (r:R) (l:N<=9223372036854775807)
  (h: ∀i:Nat,i<N->f (i:Int)=some (if p i then .nxt ((i+1:Nat):Int) else .ret r)) (d:f (N:Int)=some (.brk (N:Int))) :
  (aj f aP 0=some (.brk (N:Int))/\ ∀i,i<N->p i)\/(aj f aP 0=some (.ret r)/\ ¬ ∀i,i<N->p i):=by
 obtain ⟨o,e,a⟩:=cq (f:=f) (fun i s=>s=(i:Int)/\ ∀j:Nat,j<i->p j) (fun o=>(o= .brk (N:Int)/\ ∀i,i<N->p i)\/(o= .ret r/\ ¬ ∀i,i<N->p i)) N (s:=0) (by
  rintro i s n ⟨rfl,hp⟩;by_cases b:i<N
  ·by_cases c:p i
   ·refine .inl ⟨b,_,by rw[h i b,if_pos c],rfl,fun j m=>?_⟩;by_cases e:j=i
    ·subst e;exact c
    ·exact hp j (by omega)
   ·exact .inr ⟨_,by rw[h i b,if_neg c],(fun g e=>by cases e),.inr ⟨rfl,fun k=>c (k i b)⟩⟩
  ·obtain rfl:i=N:=by omega
   exact .inr ⟨_,d,(fun g e=>by cases e),.inl ⟨rfl,hp⟩⟩) ⟨rfl,by omega⟩ (pw l)
 rcases a with ⟨rfl,a⟩ | ⟨rfl,a⟩
 ·exact .inl ⟨e,a⟩
 ·exact .inr ⟨e,a⟩
structure GOk (g:GrT):Prop where
 n1:1<=g.1.length
 n5:g.1.length<=5
 m:g.2.length<=12
 val: ∀v∈g.1,0<=v/\v<=2
 edge: ∀e∈g.2,(0<=e.2.1/\e.2.1<g.1.length)/\(0<=e.2.2.1/\e.2.2.1<g.1.length)/\0<=e.2.2.2/\e.2.2.2<=2
 asc: ∀i:Nat,i+1<g.2.length->(nth g.2 i).1<(nth g.2 ((i+1:Nat):Int)).1
def edgeP (e:Int×Int×Int×Int) (n:Int):Prop:=(1<=e.1/\e.1<=99)/\(0<=e.2.1/\e.2.1<=n - 1)/\(0<=e.2.2.1/\e.2.2.1<=n - 1)/\0<=e.2.2.2/\e.2.2.2<=2
instance (e n):Decidable (edgeP e n):=by unfold edgeP;infer_instance
theorem afU (e:Int×Int×Int×Int) {n:Nat} (d:n<=1048576):mb e (n:Int)=some (decide (edgeP e n)):=by
 unfold mb edgeP;simp only[Hn,aa,lh (show n<=9223372036854775807 by omega)];by_cases b:1<=e.1/\e.1<=99 <;> by_cases c:0<=e.2.1/\e.2.1<=(n:Int) - 1 <;> by_cases a:0<=e.2.2.1/\e.2.2.1<=(n:Int) - 1 <;> simp[b,c,a]
def ahM (g:GrT):Prop:=GOk g/\ ∀e∈g.2,1<=e.1/\e.1<=99
theorem QD (g:GrT) (h1:g.1.length<=1048576) (C:g.2.length<=1048576): ∃b,ba g=some b/\(b=true↔ahM g):=by
 unfold ba;have d:=Sr (f:=eZ g) g.1.length (fun i=>0<=nth g.1 i/\nth g.1 i<=2) false (by omega) (fun i a=>by
  unfold eZ;rw[if_pos (by simp;omega),aq (by omega) (by omega)];simp only[aa,Hn,decide_eq_true_eq];split
  ·rw[af (by omega)]
  ·rfl) (by unfold eZ;rw[if_neg (by simp)])
 have m:=Sr (f:=dK g) g.2.length (fun i=>edgeP (nth g.2 i) g.1.length/\(0<i->(nth g.2 ((i:Int) - 1)).1<(nth g.2 i).1)) false (by omega) (fun i a=>by
  unfold dK;rw[if_pos (by simp;omega),aq (by omega) (by omega)];simp only[aa];have k:=afU (nth g.2 (i:Int)) h1;have k:mb ((nth g.2 (i:Int)).1,(nth g.2 (i:Int)).2.1,(nth g.2 (i:Int)).2.2.1,(nth g.2 (i:Int)).2.2.2) (g.1.length:Int)=_:=k;rw[k];simp only[aa,decide_eq_true_eq];by_cases l:edgeP (nth g.2 (i:Int)) g.1.length
  ·rw[if_pos l];by_cases r:0<i
   ·rw[if_pos (by omega),lh (by omega),aq (by omega) (by omega)];simp only[aa];by_cases p:(nth g.2 ((i:Int) - 1)).1<(nth g.2 (i:Int)).1
    ·rw[if_neg (by omega),if_pos ⟨l,fun _=>p⟩,af (by omega)]
    ·rw[if_pos (by omega),if_neg (fun h=>p (h.2 r))]
   ·rw[if_neg (by omega),if_pos ⟨l,fun h=>absurd h r⟩,af (by omega)]
  ·rw[if_neg l,if_neg (fun h=>l h.1)]) (by unfold dK;rw[if_neg (by simp)])
 rcases d with ⟨d,n⟩ | ⟨d,n⟩
 ·rw[ai d];rcases m with ⟨m,j⟩ | ⟨m,j⟩
  ·rw[ai m,Hn];simp only[aa,decide_eq_true_eq];split
   ·rename_i c;refine ⟨_,rfl,fun q=>?_,fun G=>decide_eq_true (by have:=G.1.m;omega)⟩;have q:=of_decide_eq_true q;refine ⟨⟨by omega,by omega,by omega,fun v hv=>?_,fun e o=>?_,fun i a=>?_⟩,fun e o=>?_⟩
    rotate_left 3
    ·obtain ⟨i,a,rfl⟩:=FH o;exact (j i a).1.1
    ·obtain ⟨i,a,rfl⟩:=FH hv;exact n i a
    ·obtain ⟨i,a,rfl⟩:=FH o;obtain ⟨B,t,w,u⟩:=(j i a).1;exact ⟨⟨t.1,by omega⟩,⟨w.1,by omega⟩,u⟩
    ·have:=(j (i+1) a).2 (by omega)
     rwa [show (((i+1:Nat):Int) - 1)=(i:Int) from by omega] at this
   ·rename_i c;exact ⟨false,rfl,(fun h=>by cases h),fun G=>absurd (by have:=G.1.n1;have:=G.1.n5;omega) c⟩
  ·rw[bg m];refine ⟨false,rfl,(fun h=>by cases h),fun G=>absurd (fun i a=>?_) j⟩;have s:=bm (xs:=g.2) (i:=(i:Int)) (by omega) (by omega);obtain ⟨k,y,z,x⟩:=G.1.edge _ s;refine ⟨⟨G.2 _ s,⟨k.1,by omega⟩,⟨y.1,by omega⟩,z,x⟩,fun A=>?_⟩
   have:=G.1.asc (i - 1) (by omega)
   rwa [show ((i - 1:Nat):Int)=(i:Int) - 1 from by omega,show (((i - 1)+1:Nat):Int)=(i:Int) from by omega] at this
 ·rw[bg d];exact ⟨false,rfl,(fun h=>by cases h),fun G=>absurd (fun i a=>G.1.val _ (bm (by omega) (by omega))) n⟩
theorem QE (g:GrT) (h1:g.1.length<=1048576) (a:g.2.length<=1048576): ∃b,ba g=some b/\(b=true->GOk g):=by
 obtain ⟨b,h1,a⟩:=QD g h1 a;exact ⟨b,h1,fun h=>(a.1 h).1⟩
theorem GOk.lt {g:GrT} (G:GOk g) {i j:Nat} (h:i<j) (a:j<g.2.length):(nth g.2 (i:Int)).1<(nth g.2 (j:Int)).1:=by
 induction h with
 | refl=>exact G.asc i a
 | step h ih =>
  rename_i m;have b:=ih (by omega);have c:=G.asc m a;exact Int.lt_trans b c
theorem AB (m:Nat):BitVec.ofInt 64 (m:Int)=BitVec.ofNat 64 m:=by simp
theorem Wk {m n:Nat} (a:m<2 ^ 62) (b:n<2 ^ 62):wE (m:Int) (n:Int)=((m &&& n:Nat):Int):=by
 unfold wE;rw[AB,AB,BitVec.toNat_and,BitVec.toNat_ofNat,BitVec.toNat_ofNat,Nat.mod_eq_of_lt (by omega),Nat.mod_eq_of_lt (by omega)]
 have:m &&& n<=m:=Nat.and_le_left
 exact cy (by omega) (by omega)
theorem QF {m n:Nat} (a:m<2 ^ 62) (b:n<2 ^ 62):orI (m:Int) (n:Int)=((m ||| n:Nat):Int):=by
 unfold orI;rw[AB,AB,BitVec.toNat_or,BitVec.toNat_ofNat,BitVec.toNat_ofNat,Nat.mod_eq_of_lt (by omega),Nat.mod_eq_of_lt (by omega)]
 have:m ||| n<2 ^ 62:=Nat.or_lt_two_pow a b
 exact cy (by omega) (by omega)
theorem Km {m i:Nat} (hi:i<64):rq (m:Int) (i:Int)=((m >>> i:Nat):Int):=by
 unfold rq;rw[show min (i:Int).toNat 64=i from by simp;omega,Nat.shiftRight_eq_div_pow,Int.fdiv_eq_ediv_of_nonneg _ (by exact_mod_cast Nat.zero_le _)];simp
theorem BG {i:Nat} (hi:i<62):AP 1 (i:Int)=((2 ^ i:Nat):Int):=by
 unfold AP;rw[show min (i:Int).toNat 64=i from by simp;omega,Int.one_mul]
 have:2 ^ i<2 ^ 62:=Nat.pow_lt_pow_right (by decide) hi
 rw[show ((2:Int) ^ i)=((2 ^ i:Nat):Int) from by simp];generalize 2 ^ i=z at this;exact cy (by omega) (by omega)
theorem FN {m i:Nat} (a:m<2 ^ 62) (hi:i<64):((wE (rq (m:Int) (i:Int)) 1)==1)=m.testBit i:=by
 have b:m >>> i<2 ^ 62:=Nat.lt_of_le_of_lt (by rw[Nat.shiftRight_eq_div_pow];exact Nat.div_le_self _ _) a;rw[Km hi,show (1:Int)=((1:Nat):Int) from rfl,Wk b (by decide),Nat.testBit,Nat.and_comm];have e:m >>> i &&& 1=m >>> i % 2:=Nat.and_one_is_mod _;rw[Nat.and_comm 1,e];rcases Nat.mod_two_eq_zero_or_one (m >>> i) with h | h <;> rw[h] <;> rfl
theorem ZH {m i:Nat} (a:m<2 ^ 62) (hi:i<64):((wE (rq (m:Int) (i:Int)) 1)==0)= !m.testBit i:=by
 have b:m >>> i<2 ^ 62:=Nat.lt_of_le_of_lt (by rw[Nat.shiftRight_eq_div_pow];exact Nat.div_le_self _ _) a;rw[Km hi,show (1:Int)=((1:Nat):Int) from rfl,Wk b (by decide),Nat.testBit,Nat.and_comm];have e:m >>> i &&& 1=m >>> i % 2:=Nat.and_one_is_mod _;rw[Nat.and_comm 1,e];rcases Nat.mod_two_eq_zero_or_one (m >>> i) with h | h <;> rw[h] <;> rfl
def gb (m k:Nat):List Int:=((List.range k).filter fun i=>m.testBit i).map fun (i:Nat)=>(i:Int)
theorem mo (m k:Nat):gb m (k+1)=if m.testBit k then gb m k++ [(k:Int)] else gb m k:=by
 unfold gb;rw[List.range_succ,List.filter_append,aU];by_cases h:m.testBit k=true
 ·simp[h]
 ·simp[h]
theorem xl {m k l:Nat} (h:m<2 ^ k) (a:k<=l):gb m l=gb m k:=by
 induction a with
 | refl=>rfl
 | step a ih =>
  rw[mo,Nat.testBit_lt_two_pow (aC h (Nat.pow_le_pow_right (by decide) a)),ih];rfl
theorem wA {m k:Nat} {x:Int} :x∈gb m k↔ ∃i:Nat,i<k/\m.testBit i=true/\x=(i:Int):=by
 unfold gb;simp only[List.mem_map,List.mem_filter,List.mem_range];constructor
 ·rintro ⟨i,⟨a,b⟩,rfl⟩;exact ⟨i,a,b,rfl⟩
 ·rintro ⟨i,a,b,rfl⟩;exact ⟨i,⟨a,b⟩,rfl⟩
theorem pn (m k:Nat):(gb m k).length<=k:=by
 unfold gb;rw[List.length_map];exact Nat.le_trans (List.length_filter_le _ _) (by simp)
theorem Im {m:Nat} : ∀ {k:Nat},(∀i,i<k->m.testBit i=false)->gb m k= []
 | 0,_=>rfl
 | k+1,h=>by rw[mo,h k (by omega),Im fun i a=>h i (by omega)];rfl
theorem MJ {s k:Nat} (h:s<k):gb (2 ^ s) k= [(s:Int)]:=by
 rw[xl (k:=s+1) (Nat.pow_lt_pow_right (by decide) (by omega)) h,mo,Nat.testBit_two_pow,Im fun i a=>by rw[Nat.testBit_two_pow];simp;omega];simp
theorem yf (m i j:Nat):(m ||| 2 ^ i).testBit j=(m.testBit j || decide (i=j)):=by
 rw[Nat.testBit_or,Nat.testBit_two_pow]
theorem AC {m i k:Nat} (h:m<2 ^ k) (hi:i<k):m ||| 2 ^ i<2 ^ k:=Nat.or_lt_two_pow h (Nat.pow_lt_pow_right (by decide) hi)
theorem ZI {m i:Nat} (h:m >>> i=0):m<2 ^ i:=by
 rw[Nat.shiftRight_eq_div_pow] at h;exact (Nat.div_eq_zero_iff_lt (Nat.two_pow_pos i)).1 h
theorem mq {p:Prop} [Decidable p] (h:p):chk p=some ():=by unfold chk;rw[if_pos h]
def aiM {R S T:Type} (φ:S->T):Out R S->Out R T
 | .ret r=>.ret r
 | .nxt s=>.nxt (φ s)
 | .brk s=>.brk (φ s)
theorem ML {R S T:Type} {f:S->Option (Out R S)} {f':T->Option (Out R T)} (φ:S->T) (Inv:S->Prop)
  (h: ∀s,Inv s->f' (φ s)=(f s).map (aiM φ)) (hi: ∀s s',Inv s->f s=some (.nxt s')->Inv s'): ∀n s,Inv s->aj f' n (φ s)=(aj f n s).map (aiM φ)
 | 0,_,_=>rfl
 | n+1,s,hs=>by
  have e:=h s hs;unfold aj;rw[e];cases a:f s with
  | none=>rfl
  | some o =>
   cases o with
   | ret r=>rfl
   | brk s'=>rfl
   | nxt s'=>exact ML φ Inv h hi n s' (hi s s' hs a)
theorem p62 {n:Nat} (h:n<=30):2 ^ n<=2 ^ 62:=Nat.pow_le_pow_right (by decide) (by omega)
theorem wB {M:Nat} (g:M<2 ^ 30):j6 (M:Int)=some (gb M 30):=by
 have d:M<2 ^ 62:=aC g (p62 (by decide));obtain ⟨o,e,j⟩:=cq (f:=sk (M:Int)) (fun i s=>s=(gb M i,(i:Int))) (fun o=> ∃k,o= .brk (gb M 30,k)) 30 (s:=([],0)) (by
  rintro i s m rfl;unfold sk;have l:chk ((0:Int)<=(i:Int))=some ():=by unfold chk;rw[if_pos (by omega)]
  simp only[l,aa];by_cases c:M >>> i=0
  ·refine .inr ⟨.brk (gb M i,(i:Int)),?_,(fun p e=>by cases e),(i:Int),by rw[xl (ZI c) m]⟩;rw[Km (by omega),c];rfl
  ·have a:i<30:=by
    rcases Nat.lt_or_ge i 30 with h | h
    ·exact h
    ·exfalso;apply c
     rw[Nat.shiftRight_eq_div_pow];exact Nat.div_eq_of_lt (aC g (Nat.pow_le_pow_right (by decide) h))
   refine .inl ⟨a,(gb M (i+1),((i+1:Nat):Int)),?_,rfl⟩;have n:((rq (M:Int) (i:Int)) !=0)=true:=by
    rw[Km (by omega)];simp only[bne_iff_ne,ne_eq];omega
   rw[if_pos n,FN d (by omega),mo,af (by omega)];by_cases b:M.testBit i=true
   ·rw[if_pos b,if_pos b,aI (by have:=pn M i;simp;omega)];rfl
   ·rw[if_neg b,if_neg b];rfl) rfl (by unfold aP;omega)
 obtain ⟨k,rfl⟩:=j;unfold j6;exact ai e
def ClI (n:Nat) (i:Nat) (st:Int×Int):Prop:=(-1<=st.2/\st.2<n)/\ ∃(M:Nat) (L:List Int),st.1=(M:Int)/\M<2 ^ n/\L.length=i/\L.Nodup/\(∀x∈L,0<=x/\x<n)/\ ∀j:Nat,M.testBit j=true↔(j:Int)∈L
theorem afV {n:Nat} {L:List Int} (h:L.Nodup) (k: ∀x∈L,0<=x/\x<n):L.length<=n:=by
 have:=h.length_le_of_subset (l₂:=(List.range n).map fun i:Nat=>(i:Int)) (fun x a=>by
  obtain ⟨c,b⟩:=k x a;exact List.mem_map.2 ⟨x.toNat,List.mem_range.2 (by omega),by omega⟩)
 simpa using this
section
variable {a:AutT} {n:Nat} (V:VA a n) (hn:n<=12)
include V hn
theorem adN {v:Int} (hv:0<=v/\v<=2) {i:Nat} {e:Int×Int} (h:ClI n i (e.2,e.1)) :
  (i<n/\ ∃st',dI a v e=some (.nxt st')/\ClI n (i+1) (st'.2,st'.1))\/dI a v e=some (.brk e):=by
 obtain ⟨⟨t,D⟩,M,L,z,p,y,o,r,q⟩:=h;obtain ⟨s,m⟩:=e;obtain rfl:m=(M:Int):=z;have f:M<2 ^ 62:=aC p (p62 (by omega));unfold dI;simp only at t D⊢;by_cases c:s≥0
 ·obtain ⟨k,rfl⟩: ∃k:Nat,s=(k:Int):=⟨s.toNat,by omega⟩;have C:k<n:=by omega
  have B:chk ((0:Int)<=(k:Int))=some ():=by unfold chk;rw[if_pos (by omega)]
  simp only[B,aa];rw[if_pos (by simp),ZH f (by omega)];by_cases b:M.testBit k=true
  ·right;rw[if_neg (by simp[b])]
  ·left;have l:(k:Int)∉L:=fun A=>b ((q k).2 A);have g:=afV (n:=n) (L:=(k:Int)::L) (List.nodup_cons.2 ⟨l,o⟩) (fun x d=>by
    rcases az d with rfl | d
    ·omega
    ·exact r x d)
   simp only[aM] at g;obtain ⟨u,rfl⟩: ∃u:Nat,v=(u:Int):=⟨v.toNat,by omega⟩;have E:u<=2:=by omega
   have w:i64.wrap (6+(u:Int))=((6+u:Nat):Int):=by rw[cy (by omega) (by omega)];omega
   refine ⟨by omega,(mv a (k:Int) (6+u),((M ||| 2 ^ k:Nat):Int)),?_,?_,M ||| 2 ^ k,(k:Int)::L,rfl,AC p C,by simp[y],List.nodup_cons.2 ⟨l,o⟩,?_,?_⟩
   ·rw[if_pos (by simp[b]),w,V.get (s:=(k:Int)) (by omega) (by omega)];simp only[aa];rw[V.get2 (s:=(k:Int)) (k:=6+u) (by omega) (by omega) (by omega),BG (by omega),QF f (Nat.pow_lt_pow_right (by decide) (by omega))];rfl
   ·exact V.mv (by omega) (by omega) (by omega)
   ·intro x d;rcases az d with rfl | d
    ·omega
    ·exact r x d
   ·intro j;rw[yf,Bool.or_eq_true,q j,List.mem_cons,decide_eq_true_eq];constructor
    ·rintro (h | h)
     ·exact .inr h
     ·left;omega
    ·rintro (h | h)
     ·right;omega
     ·exact .inl h
 ·right;rw[if_neg (by simpa using c)]
theorem MM {s v:Int} (hs:0<=s/\s<n) (hv:0<=v/\v<=2): ∃C:Nat,cU a s v=some (C:Int)/\C<2 ^ n:=by
 have j:ClI n 0 (0,s):=⟨⟨by simp only;omega,hs.2⟩,0,[],rfl,Nat.two_pow_pos n,rfl,List.nodup_nil,by simp,by simp⟩;obtain ⟨o,e,C,b,rfl,l⟩:=cq (f:=dI a v) (fun i c=>ClI n i (c.2,c.1)) (fun o=> ∃(C:Nat) (b:Int),o= .brk (b,(C:Int))/\C<2 ^ n) n (s:=(s,0)) (fun i c p h=>by
  rcases adN V hn hv h with d | d
  ·exact .inl d
  ·obtain ⟨_,M,L,k,g,_⟩:=h;obtain ⟨b,m⟩:=c;obtain rfl:m=(M:Int):=k;exact .inr ⟨_,d,(fun b e=>by cases e),M,b,rfl,g⟩) j (by unfold aP;omega)
 exact ⟨C,by unfold cU;exact ai e,l⟩
end
def cS (a:AutT) (s v:Int):Nat:=((cU a s v).getD 0).toNat
section
variable {a:AutT} {n:Nat} (V:VA a n) (hn:n<=12)
include V hn
theorem Wl {s v:Int} (hs:0<=s/\s<n) (hv:0<=v/\v<=2):cU a s v=some (cS a s v:Int)/\cS a s v<2 ^ n:=by
 obtain ⟨C,e,h⟩:=MM V hn hs hv;unfold cS;rw[e];exact ⟨rfl,by simpa using h⟩
theorem FO {s v:Int} (hs:0<=s/\s<n) (hv:0<=v/\v<=2):cU a s v=some (cS a s v:Int):=(Wl V hn hs hv).1
theorem ZJ {s v:Int} (hs:0<=s/\s<n) (hv:0<=v/\v<=2):cS a s v<2 ^ n:=(Wl V hn hs hv).2
theorem MN {s v:Int} (hs:0<=s/\s<n) (hv:0<=v/\v<=2):lZ a s v=some (cS a s v:Int)/\cS a s v<2 ^ n:=by
 refine ⟨?_,ZJ V hn hs hv⟩;have e:=FO V hn hs hv;have k:=ML (f:=k8 a v) (f':=dI a v) (fun h=>(h.2,h.1)) (fun h=> -1<=h.2/\h.2<n) (by
  rintro ⟨m,s⟩ ⟨j,d⟩;unfold dI k8;simp only at j d⊢;by_cases c:0<=s
  ·simp only[decide_eq_true (show s≥0 from c),if_true,mq c,aa];have i:i64.wrap (6+v)=(((6+v).toNat:Nat):Int):=by rw[cy (by omega) (by omega)];omega
   have g:=Qz V (s:=s) (k:=(6+v).toNat) c d (by omega);have g:bX (a.1,a.2.1,a.2.2) s (((6+v).toNat:Nat):Int)=_:=g;rw[i,g,V.get c d];simp only[aa];rw[V.get2 c d (by omega)];simp only[aa];split <;> rfl
  ·simp only[decide_eq_false (show¬s≥0 from c),Bool.false_eq_true,if_false];rfl) (by
  rintro ⟨m,s⟩ ⟨q,p⟩ ⟨j,d⟩ b;unfold k8 at b;simp only at j d b⊢;by_cases c:0<=s
  ·simp only[decide_eq_true (show s≥0 from c),if_true,mq c,aa] at b;have i:i64.wrap (6+v)=(((6+v).toNat:Nat):Int):=by rw[cy (by omega) (by omega)];omega
   have g:=Qz V (s:=s) (k:=(6+v).toNat) c d (by omega);have g:bX (a.1,a.2.1,a.2.2) s (((6+v).toNat:Nat):Int)=_:=g;rw[i,g] at b;simp only[aa] at b;split at b
   ·cases b;exact V.mv c d (by omega)
   ·cases b
  ·simp only[decide_eq_false (show¬s≥0 from c),Bool.false_eq_true,if_false] at b;cases b) aP (0,s) ⟨by simp only;omega,hs.2⟩
 unfold cU at e;unfold lZ;simp only at k;rw[k] at e;cases l:aj (k8 a v) aP (0,s) with
 | none=>rw[l] at e;cases e
 | some o =>
  rw[l] at e;cases o with
  | ret r=>exact e
  | brk p=>exact e
  | nxt p=>cases e
end
def afS (a:AutT) (k:Nat) (C:Nat):Nat->Nat
 | 0=>0
 | q+1=>if C.testBit q=true/\0<=mv a (q:Int) k then afS a k C q ||| 2 ^ (mv a (q:Int) k).toNat else afS a k C q
def afL (a:AutT) (k:Nat) (l:List Int):Nat:=l.foldl (fun m t=>if 0<=mv a t k then m ||| 2 ^ (mv a t k).toNat else m) 0
theorem OV (a:AutT) (k C:Nat): ∀q,afL a k (gb C q)=afS a k C q
 | 0=>rfl
 | q+1=>by
  rw[mo,afS];by_cases b:C.testBit q=true
  ·rw[if_pos b];unfold afL;rw[List.foldl_append]
   have:=OV a k C q
   unfold afL at this;rw[this];simp[b]
  ·rw[if_neg b,if_neg (fun h=>b h.1)];exact OV a k C q
section
variable {a:AutT} {n:Nat} (V:VA a n) (hn:n<=12)
include V
theorem Wm {k C:Nat} (b:k<9): ∀q,q<=n->afS a k C q<2 ^ n
 | 0,_=>Nat.two_pow_pos n
 | q+1,hq=>by
  rw[afS]
  have:=Wm (C:=C) b q (by omega)
  split
  ·rename_i c
   have:=(V.mv (s:=(q:Int)) (by omega) (by omega) b).2
   exact AC (by assumption) (by omega)
  ·exact this
theorem abl {k:Nat} (d:k<9) {l:List Int} (h: ∀x∈l,0<=x/\x<n):afL a k l<2 ^ n:=by
 unfold afL;have key: ∀(l:List Int) (m:Nat),(∀x∈l,0<=x/\x<n)->m<2 ^ n->l.foldl (fun m t=>if 0<=mv a t k then m ||| 2 ^ (mv a t k).toNat else m) m<2 ^ n:=by
  intro l;induction l with
  | nil=>intro m _ h;exact h
  | cons x l ih =>
   intro m b c;rw[List.foldl_cons];refine ih _ (fun y e=>b y (by simp[e])) ?_;split
   ·have:=(V.mv (b x (by simp)).1 (b x (by simp)).2 d).2
    exact AC c (by omega)
   ·exact c
 exact key l 0 h (Nat.two_pow_pos n)
include hn
theorem AD {C:Nat} (d:C<2 ^ n): ∀x∈gb C 30,0<=x/\x<(n:Int):=by
 intro x c;obtain ⟨i,e,b,rfl⟩:=wA.1 c;refine ⟨by omega,?_⟩;rcases Nat.lt_or_ge i n with h | h
 ·omega
 ·rw[Nat.testBit_lt_two_pow (aC d (Nat.pow_le_pow_right (by decide) h))] at b;cases b
theorem Ss {k:Nat} (u:k<6) {l:List Int} (g: ∀x∈l,0<=x/\x<n) (h:l.length<=30):aj (pc a (k:Int) l) aP (0,0)=some (.brk ((afL a k l:Int),(l.length:Int))):=by
 have:=aQ (f:=pc a (k:Int) l) (fun i=>((afL a k (l.take i):Int),(i:Int))) l.length (fun i j=>by
  unfold pc;simp only;have b:=g _ (bm (xs:=l) (i:=(i:Int)) (by omega) (by omega));rw[if_pos (by simp;omega),aq (by omega) (by omega)];simp only[aa];have d:=Qz V (s:=nth l (i:Int)) (k:=k) b.1 b.2 (by omega);have d:bX (a.1,a.2.1,a.2.2) (nth l (i:Int)) (k:Int)=_:=d;rw[d,af (by omega)];simp only[aa];have r:l.take (i+1)=l.take i++ [nth l (i:Int)]:=by rw[List.take_add_one,cG j];simp[j]
  have q:afL a k (l.take (i+1))=if 0<=mv a (nth l (i:Int)) k then afL a k (l.take i) ||| 2 ^ (mv a (nth l (i:Int)) k).toNat else afL a k (l.take i):=by
   rw[r];unfold afL;rw[List.foldl_append];rfl
  have e:=abl V (k:=k) (by omega) (l:=l.take i) (fun x b=>g x (List.mem_of_mem_take b));have p:=(V.mv (s:=nth l (i:Int)) (k:=k) b.1 b.2 (by omega)).2;rw[q];by_cases c:0<=mv a (nth l (i:Int)) k
  ·rw[if_pos (by simpa using c),if_pos c];obtain ⟨t,m⟩: ∃t:Nat,mv a (nth l (i:Int)) k=(t:Int):=⟨_,(Int.toNat_of_nonneg c).symm⟩;have o:chk ((0:Int)<=mv a (nth l (i:Int)) k)=some ():=by unfold chk;rw[if_pos c]
   rw[o,m,BG (by omega),QF (aC e (p62 (by omega))) (Nat.pow_lt_pow_right (by decide) (by omega))];rfl
  ·rw[if_neg (by simpa using c),if_neg c];rfl) (by unfold pc;simp) (pw (by omega))
 simpa [afL] using this
theorem afW {s v:Int} {k:Nat} (hs:0<=s/\s<n) (hv:0<=v/\v<=2) (e:k<6):vA a (AP 1 s) v (k:Int)=some (afL a k (gb (cS a s v) 30):Int):=by
 obtain ⟨t,rfl⟩: ∃t:Nat,s=(t:Int):=⟨s.toNat,by omega⟩;obtain ⟨c,d⟩:=MN V hn hs hv;have h:cS a (t:Int) v<2 ^ 30:=aC d (Nat.pow_le_pow_right (by decide) (by omega));unfold vA;rw[BG (by omega),wB (Nat.pow_lt_pow_right (by decide) (by omega)),MJ (by omega)];simp only[aa];have g:j7 a v (k:Int) [(t:Int)] (0,0)=some (.nxt ((afL a k (gb (cS a (t:Int) v) 30):Int),1)):=by
  unfold j7;simp only;rw[if_pos (by simp),show aK [(t:Int)] 0=some (t:Int) from rfl];simp only[aa];have c:lZ (a.1,a.2.1,a.2.2) (t:Int) v=_:=c;rw[c];simp only[aa];rw[wB h];simp only[aa];rw[Ss V hn e (AD V hn d) (pn _ _)]
  rfl
 have b: ∀m:Int,j7 a v (k:Int) [(t:Int)] (m,1)=some (.brk (m,1)):=fun m=>by
  unfold j7;rw[if_neg (by simp)]
 have:=aQ (f:=j7 a v (k:Int) [(t:Int)]) (fun i=>if i=0 then (0,0) else ((afL a k (gb (cS a (t:Int) v) 30):Int),1)) 1 (fun i j=>by
  obtain rfl:i=0:=by omega
  exact g) (b _) (by unfold aP;omega)
 have this:aj (j7 a v (k:Int) [(t:Int)]) aP (0,0)=some (.brk ((afL a k (gb (cS a (t:Int) v) 30):Int),1)):=this;rw[this];rfl
end
def rm {α:Type} (N:Nat) (F:Nat->α):List α:=(List.range N).map F
section
variable {α:Type} {N:Nat} {F G:Nat->α}
theorem FP:(rm N F).length=N:=by simp[rm]
theorem ql (h: ∀z,z<N->F z=G z):rm N F=rm N G:=by
 unfold rm;exact List.map_congr_left fun z a=>h z (List.mem_range.1 a)
theorem FQ {c:Nat} (h:c<N):aK (rm N F) (c:Int)=some (F c):=by
 rw[au (by rw[FP];exact h)];simp[rm]
theorem Wn {c:Nat} {v:α} :(rm N F).set c v=rm N fun z=>if z=c then v else F z:=by
 refine List.ext_getElem (by simp[rm]) fun i a b=>?_;simp only[rm,List.getElem_set,List.getElem_map,List.getElem_range];by_cases e:c=i
 ·subst e;simp
 ·rw[if_neg e,if_neg (fun h=>e h.symm)]
theorem yX {xs:List α} [Inhabited α] {k:Nat} (h:k<xs.length):xs.take (k+1)=xs.take k++ [nth xs (k:Int)]:=by
 rw[List.take_add_one,cG h];simp[h]
end
theorem abm {α:Type} {b n:Nat} {z:α} (h:n*b<=140737488355328):mkI b (n:Int) z=some (rm n fun _=>z):=by
 have:rm n (fun _=>z)=List.replicate n z:=by
  unfold rm;exact List.ext_getElem (by simp) fun i a c=>by simp
 rw[this,yd h]
abbrev EdT:=Int×Int×Int×Int
abbrev ArT:=(Int×Bool)×Int×Int
def fwd (e:EdT):ArT:=((e.1,false),2*e.2.2.2,e.2.2.1)
def inv (e:EdT):ArT:=((e.1,true),2*e.2.2.2+1,e.2.1)
def abn (e:EdT) (x:Int):List ArT:=(if e.2.1=x then [fwd e] else [])++(if e.2.2.1=x then [inv e] else [])
def nF (es:List EdT) (x:Nat):List ArT:=es.flatMap fun e=>abn e x
theorem ZK (e:EdT) (x:Int):(abn e x).length<=2:=by
 unfold abn;rw[aF];split <;> split <;> simp
theorem wC {α β:Type} {f:α->List β} {B:Nat} : ∀ {xs:List α},(∀x∈xs,(f x).length<=B)->(xs.flatMap f).length<=B*xs.length
 | [],_=>by simp
 | x::xs,h=>by
  rw[List.flatMap_cons,aF,aM,Nat.mul_add]
  have:=h x (by simp)
  have:=wC (xs:=xs) fun y a=>h y (by simp[a])
  omega
theorem xm (a:List EdT) (x:Nat):(nF a x).length<=2*a.length:=wC fun e _=>ZK e x
theorem Wo (e:EdT) (h:0<=e.2.2.2/\e.2.2.2<=2) (b:Bool):vz e b=some (if b then 2*e.2.2.2+1 else 2*e.2.2.2):=by
 unfold vz;rw[cy (n:=2*e.2.2.2) (by omega) (by omega),cy (by omega) (by omega)];cases b <;> rfl
theorem afX {g:GrT} (G:GOk g):zH g=some (rm g.1.length (nF g.2)):=by
 unfold zH;rw[abm (by have:=G.n5;omega)];simp only[aa]
 have:=aQ (f:=qQ g) (fun i=>((i:Int),rm g.1.length (nF (g.2.take i)))) g.2.length (fun i t=>by
  unfold qQ;simp only;have A:=G.m;obtain ⟨⟨h,j⟩,⟨c,l⟩,b⟩:=G.edge _ (bm (xs:=g.2) (i:=(i:Int)) (by omega) (by omega));rw[if_pos (by simp;omega),aq (by omega) (by omega)];simp only[aa];generalize r:nth g.2 (i:Int)=e at h j c l b;obtain ⟨id,m,k,n⟩:=e;obtain ⟨p,rfl⟩: ∃p:Nat,m=(p:Int):=⟨m.toNat,by simp only at h;omega⟩;obtain ⟨q,rfl⟩: ∃q:Nat,k=(q:Int):=⟨k.toNat,by simp only at c;omega⟩;simp only at h j c l b;have hp:p<g.1.length:=by omega
  have o:q<g.1.length:=by omega
  have s:=Wo (id,(p:Int),(q:Int),n) b false;have u:=Wo (id,(p:Int),(q:Int),n) b true;have y:=xm (g.2.take i) p;have x:=xm (g.2.take i) q;have v:(g.2.take i).length<=12:=by rw[aB];omega
  simp only[FQ hp,FQ o,aa,s,u,Int.toNat_natCast,Wn,Bool.false_eq_true,if_false,if_true];rw[aI (by simp;omega)];simp only[aa,Wn];rw[mq (by rw[FP];omega),mq trivial];simp only[aa];rw[aI (by split <;> simp <;> omega)];simp only[aa];rw[mq (by rw[FP];omega)];simp only[aa]
  try rw[mq rfl];simp only[aa]
  rw[af (by omega)];congr 3;refine ql fun z w=>?_;rw[yX t,r];unfold nF;rw[List.flatMap_append];simp only[List.flatMap_cons,List.flatMap_nil,List.append_nil,abn];by_cases d:z=q
  ·subst d;by_cases a:z=p
   ·subst a;simp[fwd,inv]
   ·simp[a,fwd,inv,show¬((p:Int)=(z:Int)) from by omega]
  ·by_cases a:z=p
   ·subst a;simp[d,fwd,inv,show¬((q:Int)=(z:Int)) from by omega]
   ·simp[d,a,show¬((p:Int)=(z:Int)) from by omega,show¬((q:Int)=(z:Int)) from by omega]) (by unfold qQ;simp) (pw (by have:=G.m;omega))
 have this:aj (qQ g) aP (0,rm g.1.length fun _=>[])=_:=this;rw[this,List.take_length];rfl
def behind (a:AutT) (s v k:Int):List Int:=gb (afL a k.toNat (gb (cS a s v) 30)) 30
def nbA (g:GrT) (a:AutT) (x s:Nat) (y:ArT):List Int:=(behind a s (nth g.1 x) y.2.1).map fun t=>y.2.2*(a.2.1.length:Int)+t
def nbV (g:GrT) (a:AutT) (x s:Nat):List Int:=(nF g.2 x).flatMap (nbA g a x s)
def nbC (g:GrT) (a:AutT) (c:Nat):List Int:=nbV g a (c / a.2.1.length) (c % a.2.1.length)
theorem FR {g:GrT} (G:GOk g) {x:Nat} {y:ArT} (h:y∈nF g.2 x):(0<=y.2.1/\y.2.1<6)/\0<=y.2.2/\y.2.2<g.1.length:=by
 obtain ⟨e,c,a⟩:=List.mem_flatMap.1 h;obtain ⟨b,d,f⟩:=G.edge e c;unfold abn at a;rcases aN a with a | a <;> split at a
 ·obtain rfl:y=fwd e:=by simpa using a
  exact ⟨⟨by simp[fwd];omega,by simp[fwd];omega⟩,d⟩
 ·cases a
 ·obtain rfl:y=inv e:=by simpa using a
  exact ⟨⟨by simp[inv];omega,by simp[inv];omega⟩,b⟩
 ·cases a
section
variable {g:GrT} {a:AutT} (G:GOk g) (V:VA a a.2.1.length) (hn:a.2.1.length<=12)
include G V hn
theorem AE {s v:Int} {k:Int} (hs:0<=s/\s<a.2.1.length) (hv:0<=v/\v<=2) (d:0<=k/\k<6):(∀t∈behind a s v k,0<=t/\t<(a.2.1.length:Int))/\(behind a s v k).length<=30/\afL a k.toNat (gb (cS a s v) 30)<2 ^ 30:=by
 have c:=ZJ V hn hs hv;have b:=abl V (k:=k.toNat) (by omega) (AD V hn c);exact ⟨AD V hn b,pn _ _,aC b (Nat.pow_le_pow_right (by decide) (by omega))⟩
theorem abo {x s:Nat} {y:ArT} (k:x<g.1.length) (hs:s<a.2.1.length) (b:y∈nF g.2 x): ∀z∈nbA g a x s y,0<=z/\z<((a.2.1.length*g.1.length:Nat):Int):=by
 intro z e;obtain ⟨t,d,rfl⟩:=List.mem_map.1 e;obtain ⟨h,j,f⟩:=FR G b;have hv:=G.val _ (bm (xs:=g.1) (i:=(x:Int)) (by omega) (by omega));obtain ⟨l,m⟩:=(AE G V hn (s:=(s:Int)) ⟨by omega,by omega⟩ hv h).1 t d;obtain ⟨q,c⟩: ∃q:Nat,y.2.2=(q:Int):=⟨y.2.2.toNat,by omega⟩;obtain ⟨r,rfl⟩: ∃r:Nat,t=(r:Int):=⟨t.toNat,by omega⟩;rw[c] at f⊢
 have:q*a.2.1.length+r<g.1.length*a.2.1.length:=by
  have:(q+1)*a.2.1.length<=g.1.length*a.2.1.length:=Nat.mul_le_mul_right _ (by omega)
  rw[Nat.add_mul] at this;omega
 rw[Nat.mul_comm a.2.1.length];constructor
 ·exact_mod_cast Nat.zero_le _
 ·exact_mod_cast this
theorem afY {x s:Nat} (c:x<g.1.length) (hs:s<a.2.1.length): ∀z∈nbV g a x s,0<=z/\z<((a.2.1.length*g.1.length:Nat):Int):=by
 intro z b;obtain ⟨y,d,b⟩:=List.mem_flatMap.1 b;exact abo G V hn c hs d z b
theorem Wp {x s:Nat} {y:ArT} (b:x<g.1.length) (hs:s<a.2.1.length) (c:y∈nF g.2 x):(nbA g a x s y).length<=30:=by
 unfold nbA;rw[List.length_map];exact pn _ _
end
section
variable {g:GrT} {a:AutT} {F:Nat->List Int} {N:Nat}
theorem ahN {x s:Nat} {o1 o2:List (List Int)} {y:ArT} {T:List Int} (d:x*a.2.1.length+s<N) (p:N<=60) (l:(F (x*a.2.1.length+s)).length<=10000) (q:T.length<=30) (b: ∀t∈T,0<=y.2.2*(a.2.1.length:Int)+t/\y.2.2*(a.2.1.length:Int)+t<60/\0<=t/\t<=60) :
  aj (dO a ((x:Int),o1) ((s:Int),o2) y T) aP (0,rm N F)=some (.brk ((T.length:Int),rm N fun z=>if z=x*a.2.1.length+s then F z++T.map fun t=>y.2.2*(a.2.1.length:Int)+t else F z)):=by
 have c:i64.wrap (i64.wrap ((x:Int)*(a.2.1.length:Int))+(s:Int))=((x*a.2.1.length+s:Nat):Int):=by
  have:((x:Int)*(a.2.1.length:Int))=((x*a.2.1.length:Nat):Int):=by simp
  rw[this,As (by omega),cy (by omega) (by omega)];rfl
 have:=aQ (f:=dO a ((x:Int),o1) ((s:Int),o2) y T) (fun j=>((j:Int),rm N fun z=>if z=x*a.2.1.length+s then F z++(T.take j).map fun t=>y.2.2*(a.2.1.length:Int)+t else F z)) T.length (fun j k=>by
  unfold dO;simp only;obtain ⟨m,o,r,u⟩:=b _ (bm (xs:=T) (i:=(j:Int)) (by omega) (by omega));rw[if_pos (by simp;omega),aq (by omega) (by omega)];simp only[aa,c,FQ d,if_true];have ev:i64.wrap (i64.wrap (y.2.2*(a.2.1.length:Int))+nth T (j:Int))=y.2.2*(a.2.1.length:Int)+nth T (j:Int):=by
   rw[cy (n:=y.2.2*(a.2.1.length:Int)) (by omega) (by omega),cy (by omega) (by omega)]
  rw[ev,aI (by simp;omega)];simp only[aa,Int.toNat_natCast,Wn];rw[mq (by rw[FP];omega),mq trivial,af (by omega)];simp only[aa];congr 3;refine ql fun z h=>?_;by_cases e:z=x*a.2.1.length+s
  ·subst e;rw[if_pos rfl,if_pos rfl,yX k,aU,aD];rfl
  ·simp only[if_neg e]) (by unfold dO;simp) (pw (by omega))
 rw[List.take_length] at this;rw[<-this];congr 2;refine ql fun z h=>?_;split <;> simp
end
section
variable {g:GrT} {a:AutT} (G:GOk g) (V:VA a a.2.1.length) (hn:a.2.1.length<=12)
include G V hn
theorem nN:a.2.1.length*g.1.length<=60:=by
 have:=Nat.mul_le_mul hn G.n5;omega
theorem cN {x s:Nat} (b:x<g.1.length) (hs:s<a.2.1.length):x*a.2.1.length+s<a.2.1.length*g.1.length:=by
 have:(x+1)*a.2.1.length<=g.1.length*a.2.1.length:=Nat.mul_le_mul_right _ (by omega)
 rw[Nat.add_mul,Nat.mul_comm g.1.length] at this;omega
theorem ahO {F:Nat->List Int} {x s:Nat} {o1 o2:List (List Int)} (l:x<g.1.length) (hs:s<a.2.1.length) (o:F (x*a.2.1.length+s)= []) :
  aj (fe g a ((x:Int),o1) (nF g.2 x) ((s:Int),o2)) aP (0,rm (a.2.1.length*g.1.length) F)=some (.brk (((nF g.2 x).length:Int),rm (a.2.1.length*g.1.length) fun z=>if z=x*a.2.1.length+s then nbV g a x s else F z)):=by
 have C:=xm g.2 x;have I:=G.m
 have:=aQ (f:=fe g a ((x:Int),o1) (nF g.2 x) ((s:Int),o2)) (fun j=>((j:Int),rm (a.2.1.length*g.1.length) fun z=>if z=x*a.2.1.length+s then ((nF g.2 x).take j).flatMap (nbA g a x s) else F z)) (nF g.2 x).length (fun j w=>by
  unfold fe;simp only;have b:=bm (xs:=nF g.2 x) (i:=(j:Int)) (by omega) (by omega);obtain ⟨n,E,H⟩:=FR G b;have hv:=G.val _ (bm (xs:=g.1) (i:=(x:Int)) (by omega) (by omega));obtain ⟨u,p,q⟩:=AE G V hn (s:=(s:Int)) (v:=nth g.1 (x:Int)) (k:=(nth (nF g.2 x) (j:Int)).2.1) ⟨by omega,by omega⟩ hv n;rw[if_pos (by simp;omega),aq (by omega) (by omega)];simp only[aa];rw[mq (by omega),aq (xs:=g.1) (by omega) (by omega)];simp only[aa];obtain ⟨k,m⟩: ∃k:Nat,(nth (nF g.2 x) (j:Int)).2.1=(k:Int):=⟨_,(Int.toNat_of_nonneg n.1).symm⟩;have h:=afW V hn (s:=(s:Int)) (v:=nth g.1 (x:Int)) (k:=k) ⟨by omega,by omega⟩ hv (by omega);have h:vA (a.1,a.2.1,a.2.2) (AP 1 (s:Int)) (nth g.1 (x:Int)) (k:Int)=_:=h;rw[m,h];simp only[aa];have A:k=(nth (nF g.2 x) (j:Int)).2.1.toNat:=by rw[m];rfl
  rw[A,wB q];simp only[aa];have D:(((nF g.2 x).take j).flatMap (nbA g a x s)).length<=30*((nF g.2 x).take j).length:=wC fun y b=>Wp G V hn l hs (List.mem_of_mem_take b);have d:((nF g.2 x).take j).length<=24:=by rw[aB];omega
  have c:=ahN (F:=fun z=>if z=x*a.2.1.length+s then ((nF g.2 x).take j).flatMap (nbA g a x s) else F z) (o1:=o1) (o2:=o2) (y:=nth (nF g.2 x) (j:Int)) (T:=behind a (s:Int) (nth g.1 (x:Int)) (nth (nF g.2 x) (j:Int)).2.1) (cN G V hn l hs) (nN G V hn) (by simp only[if_true];omega) p (fun t d=>by
   have B:=abo G V hn l hs b _ (List.mem_map.2 ⟨t,d,rfl⟩);have J:=u t d
   have:=nN G V hn
   omega)
  unfold behind at c;have c:aj (dO a ((x:Int),o1) ((s:Int),o2) (nth (nF g.2 x) (j:Int)) (gb (afL a (nth (nF g.2 x) (j:Int)).2.1.toNat (gb (cS a (s:Int) (nth g.1 (x:Int))) 30)) 30)) aP (0,rm (a.2.1.length*g.1.length) fun z=>if z=x*a.2.1.length+s then ((nF g.2 x).take j).flatMap (nbA g a x s) else F z)=_:=c;rw[ai c,af (by omega)];congr 3;refine ql fun z r=>?_;by_cases e:z=x*a.2.1.length+s
  ·subst e;rw[if_pos rfl,if_pos rfl,yX w,List.flatMap_append];simp[nbA,behind]
  ·simp only[if_neg e]) (by unfold fe;simp) (pw (by omega))
 rw[List.take_length] at this;rw[show nbV g a x s=(nF g.2 x).flatMap (nbA g a x s) from rfl,<-this];congr 2;refine ql fun z r=>?_;split
 ·rename_i e;subst e;rw[o];simp
 ·rfl
theorem afZ {x s:Nat} (hs:s<a.2.1.length):nbC g a (x*a.2.1.length+s)=nbV g a x s:=by
 unfold nbC;rw[Nat.mul_comm,Nat.mul_add_div (by omega),Nat.mul_add_mod,Nat.div_eq_of_lt hs,Nat.mod_eq_of_lt hs,Nat.add_zero]
theorem ahP {x:Nat} {o1:List (List Int)} (d:x<g.1.length) :
  aj (ff g a ((x:Int),o1) (nF g.2 x)) aP (0,rm (a.2.1.length*g.1.length) fun z=>if z<x*a.2.1.length then nbC g a z else [])=some (.brk ((a.2.1.length:Int),rm (a.2.1.length*g.1.length) fun z=>if z<(x+1)*a.2.1.length then nbC g a z else [])):=by
 have:=aQ (f:=ff g a ((x:Int),o1) (nF g.2 x)) (fun j=>((j:Int),rm (a.2.1.length*g.1.length) fun z=>if z<x*a.2.1.length+j then nbC g a z else [])) a.2.1.length (fun j c=>by
  unfold ff;simp only;rw[if_pos (by simp;omega)];have h:=ahO G V hn (F:=fun z=>if z<x*a.2.1.length+j then nbC g a z else []) (o1:=o1) (o2:=rm (a.2.1.length*g.1.length) fun z=>if z<x*a.2.1.length+j then nbC g a z else []) d c (by simp);rw[ai h,af (by omega)];congr 3;refine ql fun z i=>?_;by_cases e:z=x*a.2.1.length+j
  ·subst e;rw[if_pos rfl,if_pos (by omega),afZ G V hn c]
  ·rw[if_neg e];by_cases b:z<x*a.2.1.length+j
   ·rw[if_pos b,if_pos (by omega)]
   ·rw[if_neg b,if_neg (by omega)]) (by unfold ff;simp) (pw (by omega))
 rw[Nat.add_mul,Nat.one_mul];exact this
theorem adO:fD g a=some (rm (a.2.1.length*g.1.length) (nbC g a)):=by
 have i:=nN G V hn;unfold fD;have h:i64.wrap ((a.2.1.length:Int)*(g.1.length:Int))=((a.2.1.length*g.1.length:Nat):Int):=by
  rw[show ((a.2.1.length:Int)*(g.1.length:Int))=((a.2.1.length*g.1.length:Nat):Int) from by simp,As (by omega)]
 have b:=afX G;have b:zH (g.1,g.2)=_:=b;rw[h,abm (by omega),b];simp only[aa]
 have:=aQ (f:=iM g a (rm g.1.length (nF g.2))) (fun j=>((j:Int),rm (a.2.1.length*g.1.length) fun z=>if z<j*a.2.1.length then nbC g a z else [])) g.1.length (fun j c=>by
  unfold iM;simp only;rw[if_pos (by rw[FP];simp;omega),FQ c];simp only[aa];rw[ai (ahP G V hn c),af (by have:=G.n5;omega)]) (by unfold iM;rw[FP];simp) (pw (by have:=G.n5;omega))
 have e:(rm (a.2.1.length*g.1.length) fun _=>([] :List Int))=rm (a.2.1.length*g.1.length) fun z=>if z<0*a.2.1.length then nbC g a z else []:=ql fun z d=>by rw[if_neg (by omega)]
 rw[e,show (0:Int)=((0:Nat):Int) from rfl,ai this];congr 1;refine ql fun z d=>?_;rw[if_pos (by rw[Nat.mul_comm g.1.length];exact d)]
end
def Gp (y:ArT):Int×Bool:=y.1
theorem af0 {g:GrT} (G:GOk g) {x:Nat} :sE g x=some ((nF g.2 x).map Gp):=by
 unfold sE
 have:=aQ (f:=mT g x) (fun i=>((nF (g.2.take i) x).map Gp,(i:Int))) g.2.length (fun i h=>by
  unfold mT;simp only;have k:=G.m;have m:=xm (g.2.take i) x;have l:(g.2.take i).length<=12:=by rw[aB];omega
  rw[if_pos (by simp;omega),aq (by omega) (by omega)];simp only[aa];rw[yX h,af (by omega)];generalize nth g.2 (i:Int)=e;have c:nF (g.2.take i++ [e]) x=nF (g.2.take i) x++abn e x:=by simp[nF]
  rw[c,aU];generalize d:(nF (g.2.take i) x).map Gp=L;have j:L.length<=24:=by rw[<-d,List.length_map];omega
  unfold abn;by_cases b:e.2.1=(x:Int)
  ·rw[if_pos (by simpa using b),if_pos b,aI (by simp;omega)];simp only[aa];by_cases a:e.2.2.1=(x:Int)
   ·rw[if_pos (by simpa using a),if_pos a,aI (by simp;omega)];simp[Gp,fwd,inv]
   ·rw[if_neg (by simpa using a),if_neg a];simp[Gp,fwd,inv]
  ·rw[if_neg (by simpa using b),if_neg b];simp only[aa];by_cases a:e.2.2.1=(x:Int)
   ·rw[if_pos (by simpa using a),if_pos a,aI (by simp;omega)];simp[Gp,fwd,inv]
   ·rw[if_neg (by simpa using a),if_neg a];simp[Gp,fwd,inv]) (by unfold mT;simp) (pw (by have:=G.m;omega))
 have this:aj (mT g x) aP (([] :List (Int×Bool)),0)=_:=this;rw[this,List.take_length];rfl
theorem QG {g:GrT} (G:GOk g) {j:Nat} (b:j<g.2.length):kC g (nth g.2 (j:Int)).1=some (j:Int):=by
 unfold kC;have h:=G.m;obtain ⟨o,e,a⟩:=cq (f:=pA g (nth g.2 (j:Int)).1) (fun i s=>s=(i:Int)/\i<=j) (fun o=>o= .ret (j:Int)) 12 (s:=0) (by
  rintro i s m ⟨rfl,d⟩;unfold pA;rw[if_pos (by simp;omega),aq (by omega) (by omega)];simp only[aa];by_cases c:i=j
  ·subst c;exact .inr ⟨_,by rw[if_pos (by simp)],(fun l e=>by cases e),rfl⟩
  ·have k:=G.lt (i:=i) (j:=j) (by omega) b;exact .inl ⟨by omega,_,by rw[if_neg (by simp;omega),af (by omega)],rfl,by omega⟩) ⟨rfl,by omega⟩ (by unfold aP;omega)
 subst a;rw[e];rfl
theorem ZL {g:GrT} (G:GOk g) {x:Nat} {y:ArT} (h:y∈nF g.2 x): ∃(j:Int) (e:EdT),kC g y.1.1=some j/\aK g.2 j=some e/\iG e y.1.2=some y.2.1/\qL e y.1.2=some y.2.2:=by
 obtain ⟨e,c,a⟩:=List.mem_flatMap.1 h;obtain ⟨j,b,rfl⟩:=FH c;obtain ⟨d,i,f⟩:=G.edge _ c;refine ⟨j,nth g.2 (j:Int),?_,aq (by omega) (by omega),?_,?_⟩
 all_goals
  unfold abn at a;rcases aN a with a | a <;> split at a
  ·obtain rfl:=ax a;simp only[fwd]
   first | exact QG G b | (unfold iG;rw[cy (n:=2*_) (by omega) (by omega)];rfl) | (unfold qL;rfl)
  ·cases a
  ·obtain rfl:=ax a;simp only[inv]
   first | exact QG G b | (unfold iG;rw[cy (n:=2*_) (by omega) (by omega),cy (by omega) (by omega)];rfl) | (unfold qL;rfl)
  ·cases a
abbrev adP:=(Int×Bool)×Int×Int
def stA (g:GrT) (a:AutT) (x s:Nat) (y:ArT):List adP:=(behind a s (nth g.1 x) y.2.1).map fun t=>(y.1,y.2.2,t)
def stV (g:GrT) (a:AutT) (x s:Nat):List adP:=(nF g.2 x).flatMap (stA g a x s)
theorem af1 (g:GrT) (a:AutT) (x s:Nat):(stV g a x s).map (fun p=>p.2.1*(a.2.1.length:Int)+p.2.2)=nbV g a x s:=by
 unfold stV nbV;rw[List.map_flatMap];congr 1;funext y;unfold stA nbA;rw[List.map_map];rfl
section
variable {g:GrT} {a:AutT} (G:GOk g) (V:VA a a.2.1.length) (hn:a.2.1.length<=12)
include G V hn
theorem adQ {x s:Nat} {y:ArT} (c:x<g.1.length) (hs:s<a.2.1.length) (b:y∈nF g.2 x):(stA g a x s y).length<=30:=by
 unfold stA;rw[List.length_map];exact (AE G V hn (s:=s) ⟨by omega,by omega⟩ (G.val _ (bm (by omega) (by omega))) (FR G b).1).2.1
theorem ahQ {x:Nat} {i:Nat} {e:EdT} {o:List adP} {y:ArT} {C:Nat} (u:C<2 ^ a.2.1.length) (n:y∈nF g.2 x) (hi:aK ((nF g.2 x).map Gp) (i:Int)=some (Gp y)) (j:iG e y.1.2=some y.2.1) :
  aj (jR a (C:Int) ((nF g.2 x).map Gp) (o,(i:Int)) e) aP (0,0)=some (.brk ((afS a y.2.1.toNat C a.2.1.length:Int),(a.2.1.length:Int))):=by
 obtain ⟨w,A⟩:=(FR G n).1
 have:=aQ (f:=jR a (C:Int) ((nF g.2 x).map Gp) (o,(i:Int)) e) (fun q=>((afS a y.2.1.toNat C q:Int),(q:Int))) a.2.1.length (fun q z=>by
  unfold jR;simp only;have j:iG (e.1,e.2.1,e.2.2.1,e.2.2.2) (Gp y).2=some y.2.1:=j;have v:y.2.1=((y.2.1.toNat:Nat):Int):=by omega
  have m:=V.get2 (s:=(q:Int)) (k:=y.2.1.toNat) (by omega) (by omega) (by omega);rw[<-v] at m;have l:=Wm V (k:=y.2.1.toNat) (C:=C) (by omega) q (by omega);have d:C<2 ^ 62:=aC u (p62 (by omega));have r:=(V.mv (s:=(q:Int)) (k:=y.2.1.toNat) (by omega) (by omega) (by omega)).2;rw[if_pos (by simp;omega),V.get (by omega) (by omega)];simp only[aa];rw[hi];simp only[aa];rw[j];simp only[aa];rw[m];simp only[aa];rw[mq (by omega),FN d (by omega),af (by omega),afS];simp only[aa];by_cases b:C.testBit q=true
  ·rw[if_pos b];by_cases c:0<=D.mv a (q:Int) y.2.1.toNat
   ·obtain ⟨t,p⟩: ∃t:Nat,D.mv a (q:Int) y.2.1.toNat=(t:Int):=⟨_,(Int.toNat_of_nonneg c).symm⟩;rw[if_pos (by simpa using c),if_pos ⟨b,c⟩,mq c,p,BG (by omega),QF (aC l (p62 (by omega))) (Nat.pow_lt_pow_right (by decide) (by omega))];rfl
   ·rw[if_neg (by simpa using c),if_neg (fun h=>c h.2)];rfl
  ·rw[if_neg b,if_neg (fun h=>b h.1)];rfl) (by unfold jR;simp) (pw (by omega))
 exact this
theorem ahR {x:Nat} {i:Nat} {e:EdT} {o:List adP} {y:ArT} {m:Nat} (h:m<2 ^ a.2.1.length) (l:o.length<=100000) (hi:aK ((nF g.2 x).map Gp) (i:Int)=some (Gp y)) (d:qL e y.1.2=some y.2.2) {z:Int} :
  aj (jS a ((nF g.2 x).map Gp) (o,(i:Int)) e ((m:Int),z)) aP (o,0)=some (.brk (o++(gb m 30).map (fun t=>(y.1,y.2.2,t)),(a.2.1.length:Int))):=by
 have:=aQ (f:=jS a ((nF g.2 x).map Gp) (o,(i:Int)) e ((m:Int),z)) (fun q=>(o++(gb m q).map (fun t=>(y.1,y.2.2,t)),(q:Int))) a.2.1.length (fun q k=>by
  unfold jS;simp only;have d:qL (e.1,e.2.1,e.2.2.1,e.2.2.2) (Gp y).2=some y.2.2:=d;have c:m<2 ^ 62:=aC h (p62 (by omega));have j:=pn m q;rw[if_pos (by simp;omega),mq (by omega),FN c (by omega),af (by omega),mo];simp only[aa];by_cases b:m.testBit q=true
  ·rw[if_pos b,if_pos b,hi];simp only[aa];rw[d];simp only[aa];rw[aI (by simp;omega)];simp only[aa,aU,aD];rfl
  ·rw[if_neg b,if_neg b];rfl) (by unfold jS;simp) (pw (by omega))
 rw[xl h (show a.2.1.length<=30 by omega)];simpa [gb] using this
theorem adR {x s:Nat} (u:x<g.1.length) (hs:s<a.2.1.length):o6 g a x s=some (stV g a x s):=by
 have hv:=G.val _ (bm (xs:=g.1) (i:=(x:Int)) (by omega) (by omega));have h:=FO V hn (s:=(s:Int)) ⟨by omega,by omega⟩ hv;have m:=ZJ V hn (s:=(s:Int)) ⟨by omega,by omega⟩ hv;unfold o6;rw[aq (by omega) (by omega)];simp only[aa];have h:cU (a.1,a.2.1,a.2.2) (s:Int) (nth g.1 (x:Int))=_:=h;have t:sE (g.1,g.2) (x:Int)=_:=af0 G;rw[h,t];simp only[aa];generalize o:cS a (s:Int) (nth g.1 (x:Int))=C at m;have H:=xm g.2 x;have I:=G.m
 have:=aQ (f:=jT g a (C:Int) ((nF g.2 x).map Gp)) (fun i=>(((nF g.2 x).take i).flatMap (stA g a x s),(i:Int))) (nF g.2 x).length (fun i p=>by
  unfold jT;simp only;have d:=List.getElem_mem p;generalize c:(nF g.2 x)[i] =y at d;have b:aK ((nF g.2 x).map Gp) (i:Int)=some (Gp y):=by rw[au (by simpa using p)];simp[c]
  obtain ⟨j,e,l,A,D,w⟩:=ZL G d;obtain ⟨F,J⟩:=(FR G d).1;rw[if_pos (by simp;omega),b];simp only[aa];have l:kC (g.1,g.2) (Gp y).1=_:=l;rw[l];simp only[aa];rw[A];simp only[aa];rw[ai (ahQ G V hn m d b D)];have n:=Wm V (k:=y.2.1.toNat) (C:=C) (by omega) a.2.1.length (aH _);have v:=wC (f:=stA g a x s) (B:=30) (xs:=(nF g.2 x).take i) fun z r=>adQ G V hn u hs (List.mem_of_mem_take r);have q:((nF g.2 x).take i).length<=24:=by rw[aB];omega
  rw[ai (ahR G V hn n (by omega) b w),af (by omega)];congr 3;have E:(nF g.2 x).take (i+1)=(nF g.2 x).take i++ [y]:=by rw[List.take_add_one];simp[p,c]
  rw[E,List.flatMap_append];congr 1;simp only[List.flatMap_cons,List.flatMap_nil,List.append_nil];unfold stA behind;rw[o,xl m (show a.2.1.length<=30 by omega),OV]) (by unfold jT;simp) (pw (by omega))
 rw[List.take_length] at this;have this:aj (jT g a (C:Int) ((nF g.2 x).map Gp)) aP (([] :List adP),0)=_:=this;rw[ai this];rfl
end
abbrev BfT:=List Int×List Int
def abp (d:Int) (s:BfT) (x:Int):BfT:=if nth s.1 x<0 then (s.1.set x.toNat d,s.2++ [x]) else s
def Io (d:Int) (s:BfT) (xs:List Int):BfT:=xs.foldl (abp d) s
theorem MO (d:Int) (s:BfT) (xs:List Int) (x:Int):Io d s (xs++ [x])=abp d (Io d s xs) x:=by simp[Io]
structure BI (N:Nat) (s:BfT):Prop where
 len:s.1.length=N
 nd:s.2.Nodup
 rng: ∀x∈s.2,0<=x/\x<N
 seen: ∀x:Int,0<=x->x<N->(nth s.1 x<0↔x∉s.2)
 top: ∀x:Int,0<=x->x<N-> -1<=nth s.1 x/\nth s.1 x<s.2.length
theorem BI.le {N:Nat} {s:BfT} (h:BI N s):s.2.length<=N:=by
 have:=h.nd.length_le_of_subset (l₂:=(List.range N).map fun i:Nat=>(i:Int)) (fun x a=>by
  obtain ⟨c,b⟩:=h.rng x a;exact List.mem_map.2 ⟨x.toNat,List.mem_range.2 (by omega),by omega⟩)
 simpa using this
theorem BI.one {N:Nat} {s:BfT} (h:BI N s) {d x:Int} (c:0<=x/\x<N) (n:0<=d/\d<=s.2.length):BI N (abp d s x)/\s.2 <+:(abp d s x).2/\ ∀y,0<=y->0<=nth s.1 y->nth (abp d s x).1 y=nth s.1 y:=by
 unfold abp;split
 ·rename_i m;have g:=(h.seen x c.1 c.2).1 m;refine ⟨⟨by simp[h.len],?_,?_,?_,?_⟩,List.prefix_append _ _,?_⟩
  ·exact List.nodup_append.2 ⟨h.nd,by simp,by rintro a l b k rfl;simp at k;exact g (k ▸ l)⟩
  ·intro y i;rcases aN i with i | i
   ·exact h.rng y i
   ·obtain rfl:y=x:=by simpa using i
    exact c
  ·intro y f j;by_cases e:x=y
   ·subst e;rw[rT c.1 (by rw[h.len];exact c.2)];simp;omega
   ·rw[xc c.1 f e,h.seen y f j];simp;omega
  ·intro y f j;by_cases e:x=y
   ·subst e;rw[rT c.1 (by rw[h.len];exact c.2)];simp;omega
   ·rw[xc c.1 f e]
    have:=h.top y f j
    simp;omega
  ·intro y f j;refine xc c.1 f ?_;rintro rfl;omega
 ·exact ⟨h,List.prefix_refl _,fun y _ _=>rfl⟩
theorem BI.all {N:Nat} {d:Int} : ∀ {xs:List Int} {s:BfT},BI N s->(∀x∈xs,0<=x/\x<N)->(0<=d/\d<=s.2.length)->BI N (Io d s xs)/\s.2 <+:(Io d s xs).2/\ ∀y,0<=y->0<=nth s.1 y->nth (Io d s xs).1 y=nth s.1 y
 | [],s,h,_,_=>⟨h,List.prefix_refl _,fun _ _ _=>rfl⟩
 | x::xs,s,h,hx,hd=>by
  obtain ⟨g,c,j⟩:=h.one (hx x (by simp)) hd;have l:=c.length_le;obtain ⟨i,f,k⟩:=BI.all (xs:=xs) g (fun y a=>hx y (by simp[a])) ⟨hd.1,by omega⟩;refine ⟨i,c.trans f,fun y b a=>?_⟩;have e:=j y b a;exact (k y b (by rw[e];exact a)).trans e
def bsS (nx:Int->List Int) (N:Nat) (v:Int):Nat->BfT
 | 0=>((List.replicate N (-1)).set v.toNat 0,[v])
 | i+1=>match (bsS nx N v i).2[i]? with
  | some x=>Io (nth (bsS nx N v i).1 x+1) (bsS nx N v i) (nx x)
  | none=>bsS nx N v i
section
variable {nx:Int->List Int} {N:Nat} {v:Int} (hv:0<=v/\v<N) (hn: ∀x:Int,0<=x->x<N-> ∀y∈nx x,0<=y/\y<N)
include hv
theorem adS {x:Int} (a:0<=x) (h1:x<N):nth (List.replicate N (-1:Int)) x= -1:=by
 have:x.toNat<N:=by omega
 simp[nth,List.getD_eq_getElem?_getD,List.getElem?_replicate,this]
theorem BI.zero:BI N (bsS nx N v 0):=by
 refine ⟨by simp[bsS],by simp[bsS],fun x c=>?_,fun x a b=>?_,fun x a b=>?_⟩
 ·obtain rfl:x=v:=by simpa [bsS] using c
  exact hv
 all_goals
  unfold bsS;by_cases e:v=x
  ·subst e;rw[rT hv.1 (by simpa using hv.2)];simp
  ·rw[xc hv.1 a e,adS hv a b]
   first | omega | (simp;omega) | simp
include hn
theorem Kn {i:Nat} (h:BI N (bsS nx N v i)):BI N (bsS nx N v (i+1))/\(bsS nx N v i).2 <+:(bsS nx N v (i+1)).2:=by
 rw[bsS];split
 ·rename_i x j;have e:=List.mem_of_getElem? j;obtain ⟨b,a⟩:=h.rng x e;have hp: ¬nth (bsS nx N v i).1 x<0:=fun c=>(h.seen x b a).1 c e;have k:=h.top x b a;obtain ⟨g,f,_⟩:=h.all (xs:=nx x) (d:=nth (bsS nx N v i).1 x+1) (hn x b a) ⟨by omega,by omega⟩;exact ⟨g,f⟩
 ·exact ⟨h,List.prefix_refl _⟩
theorem FU: ∀i,BI N (bsS nx N v i)
 | 0=>BI.zero hv
 | i+1=>(Kn hv hn (FU i)).1
theorem Wq: ∃K,K<=N/\K=(bsS nx N v K).2.length/\ ∀i,i<K->i<(bsS nx N v i).2.length:=by
 have key: ∀m i,i+m=N->(∀j,j<i->j<(bsS nx N v j).2.length)-> ∃K,K<=N/\K=(bsS nx N v K).2.length/\ ∀i,i<K->i<(bsS nx N v i).2.length:=by
  have b: ∀i,(∀j,j<i->j<(bsS nx N v j).2.length)->i<=(bsS nx N v i).2.length:=by
   intro i a;cases i with
   | zero=>omega
   | succ i =>
    have:=a i (by omega)
    have hp:=(Kn hv hn (FU hv hn i)).2.length_le;omega
  intro m;induction m with
  | zero =>
   intro i d a;have g:=(FU hv hn i).le;have f:=b i a;exact ⟨i,by omega,by omega,a⟩
  | succ m ih =>
   intro i d a;by_cases h:i<(bsS nx N v i).2.length
   ·exact ih (i+1) (by omega) fun j c=>by
     by_cases e:j=i
     ·subst e;exact h
     ·exact a j (by omega)
   ·have f:=b i a;exact ⟨i,by omega,by omega,a⟩
 exact key N 0 (by omega) (by omega)
end
theorem adT:(List.range 61).all (fun N=>decide (cx [-1] (N:Int)=some (List.replicate N (-1))))=true:=by kernel_rfl
theorem ahS {N:Nat} (h:N<=60):cx [-1] (N:Int)=some (List.replicate N (-1)):=
 of_decide_eq_true (List.all_eq_true.1 adT N (List.mem_range.2 (by omega)))
theorem ZM {α:Type} {xs:List α} {i:Nat} {x:α} (h:i<=xs.length):(xs++ [x]).drop i=xs.drop i++ [x]:=List.drop_append_of_le_length h
theorem Ip {α:Type} {xs:List α} {i:Nat} {x:α} (h:xs[i]? =some x):aK (xs.drop i) 0=some x:=by
 unfold aK;rw[if_pos (by decide)];simpa using h
section
variable {nx:Int->List Int} {N:Nat} {v:Int} (hN:N<=60) (hv:0<=v/\v<N) (hn: ∀x:Int,0<=x->x<N-> ∀y∈nx x,0<=y/\y<N) (hl: ∀x,(nx x).length<=100000)
include hN hv hn hl
theorem adU {i:Nat} {x:Int} (g:(bsS nx N v i).2[i]? =some x) (j:Nat) :
  BI N (Io (nth (bsS nx N v i).1 x+1) (bsS nx N v i) ((nx x).take j))/\(Io (nth (bsS nx N v i).1 x+1) (bsS nx N v i) ((nx x).take j)).2[i]? =some x/\nth (Io (nth (bsS nx N v i).1 x+1) (bsS nx N v i) ((nx x).take j)).1 x=nth (bsS nx N v i).1 x/\(0<=x/\x<N)/\(0<=nth (bsS nx N v i).1 x/\nth (bsS nx N v i).1 x<60)/\i<(Io (nth (bsS nx N v i).1 x+1) (bsS nx N v i) ((nx x).take j)).2.length:=by
 have h:=FU hv hn i;have k:=List.mem_of_getElem? g;obtain ⟨a,b⟩:=h.rng x k;have hp: ¬nth (bsS nx N v i).1 x<0:=fun c=>(h.seen x a b).1 c k;have r:=h.top x a b;have l:=h.le;obtain ⟨p,n,o⟩:=h.all (xs:=(nx x).take j) (d:=nth (bsS nx N v i).1 x+1) (fun y m=>hn x a b y (List.mem_of_mem_take m)) ⟨by omega,by omega⟩;obtain ⟨t,f⟩:=n;have q:=(List.getElem?_eq_some_iff.1 g).1;have e:(Io (nth (bsS nx N v i).1 x+1) (bsS nx N v i) ((nx x).take j)).2[i]? =some x:=by
  rw[<-f,List.getElem?_append_left q,g]
 exact ⟨p,e,o x a (by omega),⟨a,b⟩,⟨by omega,by omega⟩,(List.getElem?_eq_some_iff.1 e).1⟩
theorem ahT {i:Nat} {x:Int} (h:(bsS nx N v i).2[i]? =some x) :
  aj (mZ (nx x)) aP ((bsS nx N v i).2.drop i,0,(bsS nx N v i).1)=some (.brk ((bsS nx N v (i+1)).2.drop i,((nx x).length:Int),(bsS nx N v (i+1)).1)):=by
 have:=aQ (f:=mZ (nx x)) (fun j=>((Io (nth (bsS nx N v i).1 x+1) (bsS nx N v i) ((nx x).take j)).2.drop i,(j:Int),(Io (nth (bsS nx N v i).1 x+1) (bsS nx N v i) ((nx x).take j)).1)) (nx x).length (fun j p=>by
  have q:=hl x;obtain ⟨a,g,k,⟨d,l⟩,r,o⟩:=adU hN hv hn hl h j;have n:=hn x d l _ (bm (xs:=nx x) (i:=(j:Int)) (by omega) (by omega));unfold mZ;simp only;rw[yX p,MO];generalize Io (nth (bsS nx N v i).1 x+1) (bsS nx N v i) ((nx x).take j)=s at a g k o;have m:=a.le;have b:=a.len;rw[if_pos (by simp;omega),aq (by omega) (by omega)];simp only[aa];rw[aq (xs:=s.1) n.1 (by omega)];simp only[aa];rw[Ip g];simp only[aa];rw[aq (xs:=s.1) d (by omega)];simp only[aa];rw[aI (by simp;omega),af (by omega),k,cy (by omega) (by omega)];unfold abp;by_cases c:nth s.1 (nth (nx x) (j:Int))<0
  ·rw[if_pos (by simpa using c),if_pos c,ZM (by omega)];rfl
  ·rw[if_neg (by simpa using c),if_neg c];rfl) (by unfold mZ;simp) (pw (by have:=hl x;omega))
 rw[List.take_length] at this;have e:bsS nx N v (i+1)=Io (nth (bsS nx N v i).1 x+1) (bsS nx N v i) (nx x):=by rw[bsS,h]
 rw[e];exact this
theorem ZN {K:Nat} (k:K<=N) (l:K=(bsS nx N v K).2.length) (e: ∀i,i<K->i<(bsS nx N v i).2.length):w7 (rm N fun z=>nx (z:Int)) [v] =some (bsS nx N v K).1:=by
 unfold w7;rw[FP,ahS hN];simp only[aa];have d:aj (mY [v]) aP (([] :List Int),0,List.replicate N (-1))=some (.brk ([v],1,(bsS nx N v 0).1)):=by
  have:=aQ (f:=mY [v]) (fun j=>if j=0 then (([] :List Int),(0:Int),List.replicate N (-1:Int)) else ([v],1,(bsS nx N v 0).1)) 1 (fun j q=>by
   obtain rfl:j=0:=by omega
   unfold mY;simp only[if_true];rw[if_pos (by simp),show aK [v] 0=some v from rfl];simp only[aa];rw[aq (xs:=List.replicate N (-1)) hv.1 (by simpa using hv.2)];simp only[aa];rw[aI (by simp)];rfl) (by unfold mY;simp) (by unfold aP;omega)
  exact this
 rw[ai d]
 have:=aQ (f:=na (rm N fun z=>nx (z:Int))) (fun i=>((bsS nx N v i).2.drop i,(bsS nx N v i).1)) K (fun i g=>by
  have a:=e i g;obtain ⟨x,b⟩: ∃x,(bsS nx N v i).2[i]? =some x:=⟨_,List.getElem?_eq_getElem a⟩;obtain ⟨r,o,p,⟨c,h⟩,m,n⟩:=adU hN hv hn hl b 0;unfold na;simp only;rw[if_pos (by simp;omega),Ip b];simp only[aa];obtain ⟨z,rfl⟩: ∃z:Nat,x=(z:Int):=⟨_,(Int.toNat_of_nonneg c).symm⟩;rw[FQ (by omega)];simp only[aa];rw[ai (ahT hN hv hn hl b)];have hp:=(Kn hv hn (FU hv hn i)).2.length_le;rw[mq (by simp;omega)];simp only[aa];rw[List.drop_drop]) (by
  unfold na;rw[if_neg (by simp;omega)]) (pw (by omega))
 have this:aj (na (rm N fun z=>nx (z:Int))) aP ([v],(bsS nx N v 0).1)=_:=this;rw[ai this]
end
theorem Ko {n:Nat} {r:List Int} :(∀t∈r,-1<=t/\t<=(n:Int) - 1)↔ ∀t∈r,-1<=t/\t<(n:Int):=forall_congr' fun t=>forall_congr' fun _=>and_congr Iff.rfl (by omega)
theorem af2 (a:AutT) (h1:a.2.1.length<=9223372036854775807) (n:a.2.2.length<=9223372036854775807): ∃b,qK a=some b/\(b=true↔VA a a.2.1.length):=by
 unfold qK;rw[Na];simp only[aa,lh h1];by_cases g:0<=a.1/\a.1<=(a.2.1.length:Int) - 1
 case neg=>exact ⟨false,by rw[if_neg (by simpa using g)],by simp;exact fun h=>g ⟨h.start.1,by have:=h.start.2;omega⟩⟩
 rw[if_pos (by simpa using g)];by_cases m:a.2.2.length=a.2.1.length
 case neg=>exact ⟨false,by rw[if_pos (by simp;omega)],by simp;exact fun h=>m h.nlen⟩
 rw[if_neg (by simp;omega)];have inner: ∀i:Nat,i<a.2.2.length->(nth a.2.2 i).length=9->(aj (je a i) aP 0=some (.brk 9)/\ ∀t∈nth a.2.2 (i:Int),-1<=t/\t<=(a.2.1.length:Int) - 1)\/(aj (je a i) aP 0=some (.ret false)/\ ¬ ∀t∈nth a.2.2 (i:Int),-1<=t/\t<=(a.2.1.length:Int) - 1):=by
  intro i l d
  have:=scan (f:=je a i) (nth a.2.2 (i:Int)) (fun t=> -1<=t/\t<=(a.2.1.length:Int) - 1) false (by omega) (fun j o=>by
   unfold je;rw[if_pos (by simp;omega),aq (by omega) (by omega)];simp only[aa];rw[aq (by omega) (by omega)];simp only[aa,lh h1];rw[Na];simp only[aa,af (show j<9223372036854775807 by omega)];by_cases c: -1<=nth (nth a.2.2 (i:Int)) (j:Int)/\nth (nth a.2.2 (i:Int)) (j:Int)<=(a.2.1.length:Int) - 1
   ·rw[if_pos (by simpa using c),if_pos c]
   ·rw[if_neg (by simpa using c),if_neg c]) (by unfold je;rw[if_neg (by simp[d])])
  rwa [d] at this
 have outer:=scan (f:=oO a) a.2.2 (fun r=>r.length=9/\ ∀t∈r,-1<=t/\t<=(a.2.1.length:Int) - 1) false n (fun i l=>by
  unfold oO;rw[if_pos (by simp;omega),aq (by omega) (by omega)];simp only[aa];by_cases c:(nth a.2.2 (i:Int)).length=9
  ·rw[if_neg (by simp;omega)];rcases inner i l c with ⟨e,k⟩ | ⟨e,k⟩
   ·rw[ai e,if_pos ⟨c,k⟩,af (show i<9223372036854775807 by omega)]
   ·rw[bg e,if_neg (fun h=>k h.2)]
  ·rw[if_pos (by simp;omega),if_neg (fun h=>c h.1)]) (by unfold oO;rw[if_neg (by simp;omega)])
 rcases outer with ⟨e,k⟩ | ⟨e,k⟩
 ·exact ⟨true,by rw[ai e],by simp;exact ⟨rfl,⟨g.1,by omega⟩,m,fun r d=>(k r d).1,fun r d=>Ko.1 (k r d).2⟩⟩
 ·exact ⟨false,by rw[bg e],by simp;exact fun h=>k fun r d=>⟨h.row r d,Ko.2 (h.ent r d)⟩⟩
theorem adV (a:AutT) (h1:a.2.1.length<=9223372036854775807) (f:a.2.2.length<=9223372036854775807): ∃b,cJ a=some b/\(b=true↔a.2.1.length<=12/\VA a a.2.1.length):=by
 unfold cJ;by_cases c:a.2.1.length<=12
 ·rw[if_pos (by simp;omega)];obtain ⟨b,e,d⟩:=af2 a h1 f;exact ⟨b,by show (qK a).bind _=_;rw[e];rfl,by rw[d];simp[c]⟩
 ·exact ⟨false,by rw[if_neg (by simp;omega)],by simp;exact fun h=>absurd h c⟩
theorem adW (a:AutT) (h1:a.2.1.length<=9223372036854775807) (q:a.2.2.length<=9223372036854775807) (n: ∀r∈a.2.2,r.length<=9223372036854775807): ∃b,cd a=some b/\(b=true↔a.2.1.length<=12/\VA a a.2.1.length):=by
 unfold cd;rw[Hn];simp only[aa,lh h1];by_cases l:1<=(a.2.1.length:Int)/\(a.2.1.length:Int)<=12
 case neg=>exact ⟨false,by rw[if_neg (by simpa using l)],by simp;exact fun h p=>l ⟨by have:=p.start;omega,by omega⟩⟩
 rw[if_pos (by simpa using l),Hn];simp only[aa];by_cases g:0<=a.1/\a.1<=(a.2.1.length:Int) - 1
 case neg=>exact ⟨false,by rw[if_neg (by simpa using g)],by simp;exact fun _ h=>g ⟨h.start.1,by have:=h.start.2;omega⟩⟩
 rw[if_pos (by simpa using g)];by_cases m:a.2.2.length=a.2.1.length
 case neg=>exact ⟨false,by rw[if_pos (by simp;omega)],by simp;exact fun _ h=>m h.nlen⟩
 rw[if_neg (by simp;omega)];have inner: ∀x:List Int,x.length<=9223372036854775807->(aj (cC a x) aP 0=some (.brk (x.length:Int))/\ ∀t∈x,-1<=t/\t<=(a.2.1.length:Int) - 1)\/(aj (cC a x) aP 0=some (.ret false)/\ ¬ ∀t∈x,-1<=t/\t<=(a.2.1.length:Int) - 1):=by
  intro x o;refine scan (f:=cC a x) x (fun t=> -1<=t/\t<=(a.2.1.length:Int) - 1) false o (fun j s=>?_) (by unfold cC;rw[if_neg (by simp)]);unfold cC;rw[if_pos (by simp;omega),aq (by omega) (by omega)];simp only[aa,lh h1];rw[Hn];simp only[aa,af (show j<9223372036854775807 by omega)];by_cases c: -1<=nth x (j:Int)/\nth x (j:Int)<=(a.2.1.length:Int) - 1
  ·rw[if_pos (by simpa using c),if_pos c]
  ·rw[if_neg (by simpa using c),if_neg c]
 have outer:=scan (f:=eQ a) a.2.2 (fun r=>(∀t∈r,-1<=t/\t<=(a.2.1.length:Int) - 1)/\r.length=9) false q (fun i u=>by
  unfold eQ;rw[if_pos (by simp;omega),aq (by omega) (by omega)];simp only[aa];rcases inner (nth a.2.2 (i:Int)) (n _ (bm (by omega) (by omega))) with ⟨e,k⟩ | ⟨e,k⟩
  ·rw[ai e];by_cases c:(nth a.2.2 (i:Int)).length=9
   ·rw[if_neg (by simp;omega),if_pos ⟨k,c⟩,af (show i<9223372036854775807 by omega)]
   ·rw[if_pos (by simp;omega),if_neg (fun h=>c h.2)]
  ·rw[bg e,if_neg (fun h=>k h.1)]) (by unfold eQ;rw[if_neg (by simp)])
 rcases outer with ⟨e,k⟩ | ⟨e,k⟩
 ·exact ⟨true,by rw[ai e],by simp;exact ⟨by omega,rfl,⟨g.1,by omega⟩,m,fun r d=>(k r d).2,fun r d=>Ko.1 (k r d).1⟩⟩
 ·exact ⟨false,by rw[bg e],by simp;exact fun _ h=>k fun r d=>⟨Ko.2 (h.ent r d),h.row r d⟩⟩
theorem FV (g:GrT):bS g=ba g:=by
 have b:qD g=eZ g:=rfl;have a:lY g=dK g:=by
  funext s;unfold lY dK;split
  ·cases c:aK g.2 s with
   | none=>rfl
   | some x=>rfl
  ·rfl
 unfold bS ba;rw[b,a];rfl
def GOOD (g:GrT) (a:AutT):Prop:=GOk g/\a.2.1.length<=12/\VA a a.2.1.length
theorem Wr (g:GrT) (a:AutT) (e:Data.sm g) (h:Data.sm a): ∃b c,bS g=some b/\ba g=some b/\cJ a=some c/\cd a=some c/\(b=true↔ahM g)/\(c=true↔a.2.1.length<=12/\VA a a.2.1.length):=by
 obtain ⟨b,f,l⟩:=QD g (aA e.1).1 (aA e.2).1;have p:=(aA h.2.1).1;have j:=aA h.2.2;obtain ⟨c,i,k⟩:=adW a (by omega) (by omega) (fun r m=>by have:=(aA (j.2 r m)).1;omega);obtain ⟨d,o,q⟩:=adV a (by omega) (by omega);have n:d=c:=by
  cases c <;> cases d <;> simp_all
 subst n;exact ⟨b,d,by rw[FV,f],f,o,i,l,k⟩
theorem adX (g:GrT) (a:AutT) (d:Data.sm g) (k:Data.sm a): ∃b c,bS g=some b/\ba g=some b/\cJ a=some c/\cd a=some c/\(b=true->GOk g)/\(c=true->a.2.1.length<=12/\VA a a.2.1.length):=by
 obtain ⟨b,c,i,m,l,f,j,e⟩:=Wr g a d k;exact ⟨b,c,i,m,l,f,fun h=>(j.1 h).1,e.1⟩
theorem ZO (g:GrT) (a:AutT) (t:Data.sm g) (s:Data.sm a) (x:Int): ∃b,jQ g a x 0=some b/\cQ g a [x] =some b/\(b=true↔(ahM g/\GOOD g a)/\0<=x/\x<g.1.length):=by
 obtain ⟨b,c,j,m,p,l,n,e⟩:=Wr g a t s;have A:=(aA t.1).1;have w:=(aA s.2.1).1;have r:i64.wrap ((g.1.length:Int) - 1)=(g.1.length:Int) - 1:=cy (by omega) (by omega);have o:i64.wrap ((a.2.1.length:Int) - 1)=(a.2.1.length:Int) - 1:=cy (by omega) (by omega);have z:jQ g a x 0=some (b&&(c&&(decide (0<=x/\x<=(g.1.length:Int) - 1)))):=by
  unfold jQ;have j:bS (g.1,g.2)=_:=j;have p:cJ (a.1,a.2.1,a.2.2)=_:=p;rw[j,p,Na,Na,r,o];simp only[aa];cases b <;> cases c <;> simp only[Bool.false_eq_true,if_false,if_true,Bool.false_and,Bool.true_and]
  by_cases h:0<=x/\x<=(g.1.length:Int) - 1
  ·have:=(e.1 rfl).2.start
   simp only[h,and_self,decide_true,if_true];rw[decide_eq_true (by omega)]
  ·rw[decide_eq_false h];rfl
 have y:cQ g a [x] =some (b&&(c&&(decide (0<=x/\x<=(g.1.length:Int) - 1)))):=by
  unfold cQ;have m:ba (g.1,g.2)=_:=m;have l:cd (a.1,a.2.1,a.2.2)=_:=l;rcases Sr (f:=dS g [x]) 1 (fun _=>0<=x/\x<=(g.1.length:Int) - 1) false (by decide) (fun i B=>by
   obtain rfl:i=0:=by omega
   unfold dS;rw[if_pos (by simp),show aK [x] ((0:Nat):Int)=some x from rfl];simp only[aa];rw[Hn,r];simp only[aa,decide_eq_true_eq];split <;> rfl) (by unfold dS;simp) with ⟨k,h⟩ | ⟨k,h⟩
  ·rw[ai k,m,l];simp only[aa];rw[decide_eq_true (h 0 (by decide))];cases b <;> cases c <;> rfl
  ·rw[bg k,decide_eq_false (fun c=>h fun _ _=>c)];cases b <;> cases c <;> rfl
 refine ⟨_,z,y,fun d=>?_,fun d=>?_⟩
 ·simp only[al,decide_eq_true_eq] at d;obtain ⟨q,u,v⟩:=d;exact ⟨⟨n.1 q,(n.1 q).1,(e.1 u).1,(e.1 u).2⟩,v.1,by omega⟩
 ·simp only[al,decide_eq_true_eq];exact ⟨n.2 d.1.1,e.2 d.1.2.2,d.2.1,by have:=d.2.2;omega⟩
theorem Ws (g:GrT) (a:AutT) (d:Data.sm g) (f:Data.sm a) (x:Int): ∃b,jQ g a x 0=some b/\cQ g a [x] =some b/\(b=true->GOOD g a/\0<=x/\x<g.1.length):=by
 obtain ⟨b,e,i,c⟩:=ZO g a d f x;exact ⟨b,e,i,fun h=>⟨(c.1 h).1.2,(c.1 h).2⟩⟩
def nxC (g:GrT) (a:AutT) (z:Int):List Int:=nbC g a z.toNat
section
variable {g:GrT} {a:AutT} (H:GOOD g a)
include H
theorem GOOD.divmod {x:Int} (b:0<=x) (h1:x<(a.2.1.length*g.1.length:Nat)):x.toNat / a.2.1.length<g.1.length/\x.toNat % a.2.1.length<a.2.1.length:=by
 have hp:=H.2.2.pos;simp_all[Nat.div_lt_iff_lt_mul,Nat.mul_comm,Nat.mod_lt]
theorem af3 (x:Int) (d:0<=x) (h1:x<(a.2.1.length*g.1.length:Nat)): ∀y∈nxC g a x,0<=y/\y<(a.2.1.length*g.1.length:Nat):=by
 have ⟨c,b⟩:=H.divmod d h1;exact afY H.1 H.2.2 H.2.1 c b
theorem adY {x:Int} (e:0<=x) (h1:x<(a.2.1.length*g.1.length:Nat)):(nxC g a x).length<=720:=by
 have ⟨c,b⟩:=H.divmod e h1
 have:=wC (f:=nbA g a (x.toNat / a.2.1.length) (x.toNat % a.2.1.length)) (B:=30) (xs:=nF g.2 (x.toNat / a.2.1.length)) fun y d=>Wp H.1 H.2.2 H.2.1 c b d
 have h:=xm g.2 (x.toNat / a.2.1.length)
 have:=H.1.m
 show (nbV g a _ _).length<=720;unfold nbV;omega
end
def nxN (g:GrT) (a:AutT) (z:Int):List Int:=if 0<=z/\z<(a.2.1.length*g.1.length:Nat) then nxC g a z else []
section
variable {g:GrT} {a:AutT} (H:GOOD g a)
include H
theorem AF: ∀x:Int,0<=x->x<(a.2.1.length*g.1.length:Nat)-> ∀y∈nxN g a x,0<=y/\y<(a.2.1.length*g.1.length:Nat):=fun x b c=>by
 unfold nxN;rw[if_pos ⟨b,c⟩];exact af3 H x b c
theorem OW (x:Int):(nxN g a x).length<=720:=by
 grind[nxN,adY]
theorem adZ:fD g a=some (rm (a.2.1.length*g.1.length) fun z=>nxN g a (z:Int)):=by
 rw[adO H.1 H.2.2 H.2.1];congr 1;refine ql fun z b=>?_;unfold nxN;rw[if_pos ⟨by omega,by omega⟩];rfl
theorem ZP {x:Int} (b:0<=x) (h1:x<(a.2.1.length*g.1.length:Nat)): ∃l:List adP,o6 g a (Hr x (a.2.1.length:Int)) (Int.tmod x (a.2.1.length:Int))=some l/\l.map (fun p=>p.2.1*(a.2.1.length:Int)+p.2.2)=nxN g a x/\ ∀p∈l,(0<=p.2.1/\p.2.1<60)/\0<=p.2.2/\p.2.2<60:=by
 have ⟨c,h⟩:=H.divmod b h1;have j:Hr x (a.2.1.length:Int)=((x.toNat / a.2.1.length:Nat):Int):=by
  unfold Hr
  have:x.tdiv (a.2.1.length:Int)=((x.toNat / a.2.1.length:Nat):Int):=by
   rw[Int.tdiv_eq_ediv_of_nonneg b];rw[show x / (a.2.1.length:Int)=((x.toNat:Nat):Int) / (a.2.1.length:Int) from by grind];simp
  rw[this,As (by have:=H.1.n5;omega)]
 have e:Int.tmod x (a.2.1.length:Int)=((x.toNat % a.2.1.length:Nat):Int):=by
  rw[Int.tmod_eq_emod_of_nonneg b];rw[show x % (a.2.1.length:Int)=((x.toNat:Nat):Int) % (a.2.1.length:Int) from by grind];simp
 refine ⟨_,by rw[j,e];exact adR H.1 H.2.2 H.2.1 c h,?_,fun p hp=>?_⟩
 ·rw[af1];unfold nxN;rw[if_pos ⟨b,h1⟩];rfl
 ·have ⟨y,d,hp⟩:=List.mem_flatMap.1 hp;obtain ⟨t,f,rfl⟩:=List.mem_map.1 hp;have m:=(FR H.1 d).2;have k:=(AE H.1 H.2.2 H.2.1 (s:=((x.toNat % a.2.1.length:Nat):Int)) ⟨by omega,by omega⟩ (H.1.val _ (bm (xs:=g.1) (i:=((x.toNat / a.2.1.length:Nat):Int)) (Int.natCast_nonneg _) (Int.ofNat_lt.2 c))) (FR H.1 d).1).1 t f
  have:=H.1.n5
  have:=H.2.1
  grind
end
def RKs (g:GrT) (a:AutT) (v:Int):List Int:=(bsS (nxN g a) (a.2.1.length*g.1.length) v (a.2.1.length*g.1.length)).1
theorem Kp {nx:Int->List Int} {N:Nat} {v:Int} (hv:0<=v/\v<N) (a: ∀x:Int,0<=x->x<N-> ∀y∈nx x,0<=y/\y<N) {K:Nat} (b:K=(bsS nx N v K).2.length): ∀d,bsS nx N v (K+d)=bsS nx N v K
 | 0=>rfl
 | d+1=>by
  have c:=Kp hv a b d;grind[Nat.add_assoc,bsS,List.getElem?_eq_none]
section
variable {g:GrT} {a:AutT} (H:GOOD g a) {x:Int} (hx:0<=x/\x<g.1.length)
include H hx
theorem abq:0<=x*(a.2.1.length:Int)+a.1/\x*(a.2.1.length:Int)+a.1<(a.2.1.length*g.1.length:Nat):=by
 obtain ⟨z,rfl⟩: ∃z:Nat,x=(z:Int):=⟨_,(Int.toNat_of_nonneg hx.1).symm⟩;have b:=H.2.2.start;have ⟨s,c⟩: ∃s:Nat,a.1=(s:Int):=⟨_,(Int.toNat_of_nonneg b.1).symm⟩
 have:=cN H.1 H.2.2 H.2.1 (x:=z) (s:=s) (by omega) (by omega)
 omega
theorem abr:i64.wrap ((i64.wrap (x*(a.2.1.length:Int)))+a.1)=x*(a.2.1.length:Int)+a.1:=by
 have h:=abq H hx;have d:=nN H.1 H.2.2 H.2.1;have b:=H.2.2.start;have c:=H.2.1;grind[cy]
theorem ahU:BI (a.2.1.length*g.1.length) (bsS (nxN g a) (a.2.1.length*g.1.length) (x*(a.2.1.length:Int)+a.1) (a.2.1.length*g.1.length)):=FU (abq H hx) (AF H) _
theorem Wt:(RKs g a (x*(a.2.1.length:Int)+a.1)).length=a.2.1.length*g.1.length:=(ahU H hx).len
theorem af4 (e:cQ g a [x] =some true):gU g a x=some (RKs g a (x*(a.2.1.length:Int)+a.1)):=by
 unfold gU;have e:cQ (g.1,g.2) (a.1,a.2.1,a.2.2) [x] =_:=e;rw[e];simp only[aa,if_true];have d:fD (g.1,g.2) (a.1,a.2.1,a.2.2)=_:=adZ H;rw[d];simp only[aa];have i:=nN H.1 H.2.2 H.2.1;obtain ⟨K,h,b,j⟩:=Wq (abq H hx) (AF H);rw[abr H hx,ZN i (abq H hx) (AF H) (fun x=>by have:=OW H x;omega) h b j];simp only[aa];have f:bsS (nxN g a) (a.2.1.length*g.1.length) (x*(a.2.1.length:Int)+a.1) K=bsS (nxN g a) (a.2.1.length*g.1.length) (x*(a.2.1.length:Int)+a.1) (a.2.1.length*g.1.length):=by
  have:=Kp (abq H hx) (AF H) b (a.2.1.length*g.1.length - K)
  rw[show K+(a.2.1.length*g.1.length - K)=a.2.1.length*g.1.length from by omega] at this;exact this.symm
 have c:=Wt H hx;rw[f];show ((chk _).bind fun _=>_).bind _=_;have hv:=abq H hx;rw[mq (by rw[show (bsS _ _ _ _).1.length=_ from c];omega)];rfl
theorem ahV {o1 o2:List Int} {i:Nat} {z:Int} {l:List adP} (c:(bsS (nxN g a) (a.2.1.length*g.1.length) (x*(a.2.1.length:Int)+a.1) i).2[i]? =some z)
  (k:l.map (fun p=>p.2.1*(a.2.1.length:Int)+p.2.2)=nxN g a z) (hp: ∀p∈l,(0<=p.2.1/\p.2.1<60)/\0<=p.2.2/\p.2.2<60) :
  aj (jV a (o1,o2,(i:Int)) l) aP ((bsS (nxN g a) (a.2.1.length*g.1.length) (x*(a.2.1.length:Int)+a.1) i).1,(bsS (nxN g a) (a.2.1.length*g.1.length) (x*(a.2.1.length:Int)+a.1) i).2,0)=some (.brk ((bsS (nxN g a) (a.2.1.length*g.1.length) (x*(a.2.1.length:Int)+a.1) (i+1)).1,(bsS (nxN g a) (a.2.1.length*g.1.length) (x*(a.2.1.length:Int)+a.1) (i+1)).2,(l.length:Int))):=by
 have A:=nN H.1 H.2.2 H.2.1;have hv:=abq H hx;generalize F:x*(a.2.1.length:Int)+a.1=v at c hv⊢;have m:l.length<=720:=by have:=OW H z;rw[<-k,List.length_map] at this;exact this
 have e:bsS (nxN g a) (a.2.1.length*g.1.length) v (i+1)=Io (nth (bsS (nxN g a) (a.2.1.length*g.1.length) v i).1 z+1) (bsS (nxN g a) (a.2.1.length*g.1.length) v i) (nxN g a z):=by rw[bsS,c]
 have:=aQ (f:=jV a (o1,o2,(i:Int)) l) (fun j=>((Io (nth (bsS (nxN g a) (a.2.1.length*g.1.length) v i).1 z+1) (bsS (nxN g a) (a.2.1.length*g.1.length) v i) ((nxN g a z).take j)).1,(Io (nth (bsS (nxN g a) (a.2.1.length*g.1.length) v i).1 z+1) (bsS (nxN g a) (a.2.1.length*g.1.length) v i) ((nxN g a z).take j)).2,(j:Int))) l.length (fun j B=>by
  have ⟨h,y,q,⟨o,r⟩,G,w⟩:=adU A hv (AF H) (fun x=>by grind[OW]) c j;have b:j<(nxN g a z).length:=by rw[<-k,List.length_map];exact B
  have u:=AF H z o r _ (bm (xs:=nxN g a z) (i:=(j:Int)) (by omega) (by omega));have E:=hp _ (bm (xs:=l) (i:=(j:Int)) (by omega) (by omega));have d:nth (nxN g a z) (j:Int)=(nth l (j:Int)).2.1*(a.2.1.length:Int)+(nth l (j:Int)).2.2:=by grind[adB]
  unfold jV;simp only;rw[yX b,MO];generalize Io (nth (bsS (nxN g a) (a.2.1.length*g.1.length) v i).1 z+1) (bsS (nxN g a) (a.2.1.length*g.1.length) v i) ((nxN g a z).take j)=s at h y q w;have t:=h.le;have C:=h.len;rw[if_pos (by grind),aq (by omega) (by omega)];simp[aa];rw[cy (n:=(nth l (j:Int)).2.1*(a.2.1.length:Int)) (by omega) (by omega),<-d,cy (by omega) (by omega)];rw[aq (xs:=s.1) u.1 (by omega)];rw[show aK s.2 (i:Int)=some z from by simp_all[aK,if_pos]];simp[aa];rw[aq (xs:=s.1) o (by omega)];simp[aa];rw[aI (by grind),af (by omega),q,cy (by omega) (by omega)];unfold abp;grind) (by unfold jV;simp) (pw (by omega))
 have D:(nxN g a z).take l.length=nxN g a z:=by
  have:l.length=(nxN g a z).length:=by grind
  grind
 rw[D] at this;rw[e];exact this
theorem ad0:o7 g a x=some (RKs g a (x*(a.2.1.length:Int)+a.1)):=by
 have t:=nN H.1 H.2.2 H.2.1;have hv:=abq H hx;have c:=H.2.2.pos;unfold o7;have h:i64.wrap ((g.1.length:Int)*(a.2.1.length:Int))=((a.2.1.length*g.1.length:Nat):Int):=by
  grind[Nat.mul_comm,As]
 have o:aj (jU g a) aP (([] :List Int),0)=some (.brk (List.replicate (a.2.1.length*g.1.length) (-1),((a.2.1.length*g.1.length:Nat):Int))):=by
  have:=aQ (f:=jU g a) (fun i=>(List.replicate i (-1),(i:Int))) (a.2.1.length*g.1.length) (fun i e=>by
   unfold jU;rw[h,if_pos (by grind),aI (by grind),af (by omega)];simp[aa];rw[List.replicate_succ']) (by simp_all[jU,if_neg]) (pw (by omega))
  exact this
 rw[ai o,abr H hx];generalize m:x*(a.2.1.length:Int)+a.1=v at hv;rw[show aK [v] 0=some v from rfl];simp[aa];rw[aq (xs:=List.replicate _ (-1:Int)) hv.1 (by grind)];have ⟨K,s,n,p⟩:=Wq hv (AF H)
 have:=aQ (f:=jW g a) (fun i=>((bsS (nxN g a) (a.2.1.length*g.1.length) v i).1,(bsS (nxN g a) (a.2.1.length*g.1.length) v i).2,(i:Int))) K (fun i e=>by
  have b:=p i e;have ⟨z,d⟩: ∃z,(bsS (nxN g a) (a.2.1.length*g.1.length) v i).2[i]? =some z:=⟨_,List.getElem?_eq_getElem b⟩;have ⟨r,k⟩:=(FU hv (AF H) i).rng z (List.mem_of_getElem? d);have ⟨l,q,j,hp⟩:=ZP H r k;unfold jW;rw[show aK (bsS (nxN g a) (a.2.1.length*g.1.length) v i).2 (i:Int)=some z from by unfold aK;grind];simp only[aa];rw[mq (by omega),q];have u:=ahV H hx (o1:=(bsS (nxN g a) (a.2.1.length*g.1.length) v i).1) (o2:=(bsS (nxN g a) (a.2.1.length*g.1.length) v i).2) (by rw[m];exact d) j hp;grind[ai,af]) (by unfold jW;grind) (pw (by omega))
 have this:aj (jW g a) aP ((List.replicate (a.2.1.length*g.1.length) (-1)).set v.toNat 0,[v],0)=_:=this;rw[ai this]
 have:=Kp hv (AF H) n (a.2.1.length*g.1.length - K)
 grind[RKs]
end
abbrev Tok:=Int×Int×Int×Int
def ar (t:Tok):Int:=
 if t.1=1\/t.1=2 then (if t.2.1=0/\t.2.2.1=0/\t.2.2.2=0 then 0 else -1)
 else if t.1=3 then (if (0<=t.2.1/\t.2.1<=8)/\t.2.2.1=0/\t.2.2.2=0 then 0 else -1)
 else if t.1=4\/t.1=5 then (if t.2.1=0/\t.2.2.1=0/\t.2.2.2=0 then 2 else -1)
 else if t.1=6 then (if t.2.1=0/\t.2.2.1=0/\t.2.2.2=0 then 1 else -1)
 else if t.1=7 then (if t.2.1=0/\(0<=t.2.2.1/\t.2.2.1<=t.2.2.2)/\(1<=t.2.2.2/\t.2.2.2<=3) then 1 else -1)
 else -1
theorem ZQ (x:Int):oZ x=some (decide (0<=x/\x<=8)):=by unfold oZ;rw[Na];rfl
theorem ZR (x:Int):mc x=some (decide (0<=x/\x<=8)):=by unfold mc;rw[Hn];rfl
theorem aiN (t:Tok):qG t=some (ar t):=by
 obtain ⟨k,l,i,h⟩:=t;unfold qG ar;simp only[ZQ,Na,aa];by_cases d:k=1
 ·subst d;simp;grind
 by_cases e:k=2
 ·subst e;simp;grind
 by_cases g:k=3
 ·subst g;simp;grind
 by_cases c:k=4
 ·subst c;simp;grind
 by_cases f:k=5
 ·subst f;simp;grind
 by_cases b:k=6
 ·subst b;simp;grind
 by_cases a:k=7
 ·subst a;simp;grind
 simp[d,e,g,c,f,b,a]
theorem af5 (t:Tok):tN t=some (decide (0<=ar t)):=by
 obtain ⟨k,l,e,d⟩:=t;unfold tN ar;simp only[ZR,Hn,aa];by_cases i:k=1
 ·subst i;simp;grind
 by_cases j:k=2
 ·subst j;simp;grind
 by_cases n:k=3
 ·subst n;simp only[];by_cases a:0<=l/\l<=8 <;> by_cases b:e=0 <;> by_cases c:d=0 <;> simp[a,b,c]
 by_cases g:k=4
 ·subst g;simp;grind
 by_cases m:k=5
 ·subst m;simp;grind
 by_cases h:k=6
 ·subst h;simp;grind
 by_cases f:k=7
 ·subst f;simp only[];by_cases a:l=0 <;> by_cases b:0<=e/\e<=d <;> by_cases c:1<=d/\d<=3 <;> simp[a,b,c]
 simp[i,j,n,g,m,h,f]
theorem AG (t:Tok): -1<=ar t/\ar t<=2:=by
 unfold ar;grind
theorem rk {t:Tok} (h:0<=ar t):(ar t=2/\(t.1=4\/t.1=5))\/(ar t=1/\(t.1=6\/t.1=7))\/(ar t=0/\(t.1=1\/t.1=2\/t.1=3)):=by
 unfold ar at h⊢;grind
theorem FW {t:Tok} (h:0<=ar t) (k:t.1=7):(0<=t.2.2.1/\t.2.2.1<=t.2.2.2)/\(1<=t.2.2.2/\t.2.2.2<=3):=by
 unfold ar at h;grind
mutual
def flat:Tr Tok->List Tok
 | .nil=>[]
 | .node t ks=>l9 ks++ [t]
def l9:List (Tr Tok)->List Tok
 | [] =>[]
 | k::ks=>flat k++l9 ks
end
inductive WT:Tr Tok->Prop
 | node {t:Tok} {ks:List (Tr Tok)} :ar t=(ks.length:Int)->(∀k,k∈ks->WT k)->WT (.node t ks)
theorem tf: ∀(a b:List (Tr Tok)),l9 (a++b)=l9 a++l9 b
 | [],b=>rfl
 | k::a,b=>by rw[List.cons_append,l9,l9,tf a b,aD]
theorem po (x:Tr Tok):l9 [x] =flat x:=by rw[l9,l9,List.append_nil]
theorem Wu (x y:Tr Tok):l9 [x,y] =flat x++flat y:=by rw[l9,po]
theorem WT.cases {x:Tr Tok} (h:WT x):(∃t,x= .node t [] /\ar t=0)\/(∃t a,x= .node t [a] /\ar t=1/\WT a)\/ ∃t a b,x= .node t [a,b] /\ar t=2/\WT a/\WT b:=by
 cases h with
 | @node t e c d =>
  have:=(AG t).2
  match e,c,d with
  | [],c,d=>exact .inl ⟨t,rfl,c⟩
  | [a],c,d=>exact .inr (.inl ⟨t,a,rfl,c,d a (by simp)⟩)
  | [a,b],c,d=>exact .inr (.inr ⟨t,a,b,rfl,c,d a (by simp),d b (by simp)⟩)
  | _::_::_::_,c,d=>simp at c;omega
theorem WT.ind {p:Tr Tok->Prop} (f: ∀t,ar t=0->p (.node t [])) (h1: ∀t a,ar t=1->WT a->p a->p (.node t [a])) (g: ∀t a b,ar t=2->WT a->WT b->p a->p b->p (.node t [a,b])) {x:Tr Tok} (h:WT x):p x:=by
 induction h with
 | @node t d e k c =>
  have:=(AG t).2
  match d,e,k,c with
  | [],e,k,c=>exact f t e
  | [a],e,k,c=>exact h1 t a e (k a (by simp)) (c a (by simp))
  | [a,b],e,k,c=>exact g t a b e (k a (by simp)) (k b (by simp)) (c a (by simp)) (c b (by simp))
  | _::_::_::_,e,_,_=>simp at e;omega
theorem MP (t:Tok):flat (.node t [])= [t]:=by rw[flat,l9];rfl
theorem Kq (t:Tok) (a:Tr Tok):flat (.node t [a])=flat a++ [t]:=by rw[flat,po]
theorem BH (t:Tok) (a b:Tr Tok):flat (.node t [a,b])=(flat a++flat b)++ [t]:=by rw[flat,Wu]
theorem WT.pos {x:Tr Tok} (h:WT x):1<=(flat x).length:=by
 cases h with
 | node a b=>rw[flat];simp
def stp (s:List (Tr Tok)) (t:Tok):Option (List (Tr Tok)):=if ar t<0\/(s.length:Int)<ar t then none else some (s.take (s.length - (ar t).toNat)++ [.node t (s.drop (s.length - (ar t).toNat))])
def run:List (Tr Tok)->List Tok->Option (List (Tr Tok))
 | s,[] =>some s
 | s,t::l=>(stp s t).bind fun s'=>run s' l
theorem Kr: ∀(a:List Tok) {b:List Tok} {s:List (Tr Tok)},run s (a++b)=(run s a).bind fun c=>run c b
 | [],b,s=>rfl
 | t::a,b,s=>by
  rw[List.cons_append,run,run];cases stp s t with
  | none=>rfl
  | some c=>exact Kr a
theorem AH {a:List Tok} {t:Tok} {s:List (Tr Tok)} :run s (a++ [t])=(run s a).bind fun b=>stp b t:=by
 rw[Kr];congr 1;funext b;rw[run];cases stp b t <;> rfl
theorem abt: ∀ {l:List Tok} {s b:List (Tr Tok)},run s l=some b->(∀k,k∈s->WT k)->(∀k,k∈b->WT k)/\l9 b=l9 s++l
 | [],s,b,h,hs=>by
  obtain rfl:=ae h;exact ⟨hs,by simp⟩
 | t::l,s,b,h,hs=>by
  rw[run] at h;unfold stp at h;by_cases c:ar t<0\/(s.length:Int)<ar t
  ·rw[if_pos c] at h;cases h
  ·rw[if_neg c] at h;have d:(s.drop (s.length - (ar t).toNat)).length=(ar t).toNat:=by rw[bF];omega
   obtain ⟨f,e⟩:=abt (show run _ l=some b from h) fun k a=>by
    rcases aN a with a | a
    ·exact hs k (List.mem_of_mem_take a)
    ·obtain rfl:=ax a;exact .node (by rw[d];omega) fun k a=>hs k (List.mem_of_mem_drop a)
   refine ⟨f,?_⟩;rw[e,tf,po,flat,<-aD,<-tf,List.take_append_drop];simp
theorem ZS {x:Tr Tok} (h:WT x): ∀s,run s (flat x)=some (s++ [x]):=by
 refine WT.ind (p:=fun x=> ∀s,run s (flat x)=some (s++ [x])) ?_ ?_ ?_ h
 ·intro t e s;rw[MP,run,stp,if_neg (by omega),e];simp[run]
 ·intro t a e _ c s;rw[Kq,AH,c];show stp (s++ [a]) t=_;rw[stp,if_neg (by simp;omega),e];simp
 ·intro t a b e _ _ c d s;rw[BH,AH,Kr,c];show ((run (s++ [a]) (flat b)).bind fun f=>stp f t)=_;rw[d];show stp (s++ [a] ++ [b]) t=_;rw[stp,if_neg (by simp;omega),e]
  have:(s++ [a] ++ [b]).length - (2:Int).toNat=s.length:=by simp
  rw[this];simp
def isX (e:List Tok):Bool:=match run [] e with
 | some [_] =>true
 | _=>false
theorem Wv {e:List Tok} (h:isX e=true): ∃x,run [] e=some [x] /\WT x/\flat x=e:=by
 unfold isX at h;split at h
 ·rename_i x b;obtain ⟨d,a⟩:=abt b (fun k c=>by cases c);refine ⟨x,b,d x (by simp),?_⟩;rw[po] at a;rw[a];rfl
 ·cases h
theorem Ww {l:List Tok} : ∀ {s b:List (Tr Tok)},run s l=some b->b.length<=s.length+l.length:=by
 induction l with
 | nil=>intro s b h;obtain rfl:=ae h;simp
 | cons t l ih =>
  intro s b h;rw[run] at h;obtain ⟨e,a,d⟩:=Option.bind_eq_some_iff.1 h;have c:=ih d;unfold stp at a;split at a
  ·cases a
  ·obtain rfl:=ae a;simp only[aF,aB,aM,aZ] at c⊢;omega
theorem FX {e:List Tok} {i:Nat} (h:i<e.length):e.take (i+1)=e.take i++ [nth e (i:Int)]:=by
 rw[List.take_succ_eq_append_getElem h,cG h]
theorem Dt {e:List Tok} {i:Nat} (h:i<e.length) {a:List (Tr Tok)} (h1:run [] (e.take i)=some a) (b:stp a (nth e (i:Int))=none):run [] e=none:=by
 have:run [] (e.take (i+1))=none:=by rw[FX h,AH,h1];exact b
 rw[<-List.take_append_drop (i+1) e,Kr,this];rfl
theorem ZT {e:List Tok} (r:e.length<=1048576):wW e=some (isX e):=by
 obtain ⟨o,j,m⟩:=cq (f:=tI e) (fun i s=> ∃a,s=((a.length:Int),(i:Int))/\run [] (e.take i)=some a) (fun o=>(o= .ret false/\run [] e=none)\/ ∃a,o= .brk ((a.length:Int),(e.length:Int))/\run [] e=some a) e.length (s:=(0,0)) (by
  rintro i s q ⟨a,rfl,b⟩;have l:=Ww b;simp only[aZ,aB] at l;unfold tI;simp only[dG];by_cases c:i<e.length
  ·rw[if_pos (by simp;omega),aq (by omega) (by omega)];simp only[aa];rw[aiN];simp only[aa];have p:=AG (nth e (i:Int));by_cases d:ar (nth e (i:Int))<0
   ·refine .inr ⟨_,by rw[if_pos (by simpa using d)],(fun k e=>by cases e),.inl ⟨rfl,Dt c b ?_⟩⟩;rw[stp,if_pos (.inl d)]
   ·rw[if_neg (by simpa using d)];by_cases g:ar (nth e (i:Int))>(a.length:Int)
    ·refine .inr ⟨_,by rw[if_pos (by simpa using g)],(fun k e=>by cases e),.inl ⟨rfl,Dt c b ?_⟩⟩;rw[stp,if_pos (.inr g)]
    ·rw[if_neg (by simpa using g)];refine .inl ⟨c,_,rfl,a.take (a.length - (ar (nth e (i:Int))).toNat)++ [.node (nth e (i:Int)) (a.drop (a.length - (ar (nth e (i:Int))).toNat))],?_,?_⟩
     ·rw[cy (n:=(a.length:Int) - ar (nth e (i:Int))) (by omega) (by omega),cy (by omega) (by omega),af (by omega)];congr 1;simp only[aF,aB,aM,aZ];omega
     ·rw[FX c,AH,b];show stp a _=_;rw[stp,if_neg (by omega)]
  ·obtain rfl:i=e.length:=by omega
   rw[List.take_of_length_le (by omega)] at b;exact .inr ⟨_,by rw[if_neg (by simp)],(fun k e=>by cases e),.inr ⟨a,rfl,b⟩⟩) ⟨[],rfl,rfl⟩ (pw (by omega))
 unfold wW;rcases m with ⟨rfl,h⟩ | ⟨a,rfl,h⟩
 ·rw[bg j];unfold isX;rw[h]
 ·rw[ai j];unfold isX;rw[h]
  match a with
  | [] =>rfl
  | [_] =>rfl
  | _::_::_=>simp;omega
theorem ahW {t:Tok} (h:0<=ar t):(Option.bind ((if t.1==4 then (some (t.1==4)) else (some (t.1==5)):Option Bool)) (fun b=>if b then (some 2) else (Option.bind ((if t.1==6 then (some (t.1==6)) else (some (t.1==7)):Option Bool)) (fun a=>if a then (some 1) else (some 0)))):Option Int)=some (ar t):=by
 rcases rk h with ⟨e,k | k⟩ | ⟨e,k | k⟩ | ⟨e,k | k | k⟩ <;> rw[e] <;> simp[k]
theorem ad1 (t:Tok): ∃n:Int,(Option.bind ((if t.1==4 then (some (t.1==4)) else (some (t.1==5)):Option Bool)) (fun f=>if f then (some 2) else (Option.bind ((if t.1==6 then (some (t.1==6)) else (some (t.1==7)):Option Bool)) (fun e=>if e then (some 1) else (some 0)))):Option Int)=some n:=by
 by_cases c:t.1=4
 ·exact ⟨2,by simp[c]⟩
 by_cases d:t.1=5
 ·exact ⟨2,by simp[d]⟩
 by_cases b:t.1=6
 ·exact ⟨1,by simp[b]⟩
 by_cases a:t.1=7
 ·exact ⟨1,by simp[a]⟩
 exact ⟨0,by simp[c,d,b,a]⟩
def C9 (e:List Tok):Tr Tok:=match run [] e with
 | some [x] =>x
 | _=>.nil
theorem Ks {e:List Tok} (t:e.length<=1048576):qo e=some (C9 e):=by
 obtain ⟨o,d,k⟩:=cq (f:=tO e) (fun i s=> ∃a,s=(a,(i:Int))/\run [] (e.take i)=some a) (fun o=>(o= .ret Tr.nil/\run [] e=none)\/ ∃a,o= .brk (a,(e.length:Int))/\run [] e=some a) e.length (s:=([],0)) (by
  rintro i s v ⟨a,rfl,b⟩;have j:=Ww b;simp only[aZ,aB] at j;unfold tO;simp only[dG];by_cases c:i<e.length
  ·rw[if_pos (by simp;omega),aq (by omega) (by omega)];simp only[aa];have u:=AG (nth e (i:Int));by_cases r:ar (nth e (i:Int))<0
   ·obtain ⟨n,q⟩:=ad1 (nth e (i:Int));rw[q];simp only[aa];rw[af5];simp only[aa];refine .inr ⟨_,by rw[if_neg (by simp;omega)],(fun g e=>by cases e),.inl ⟨rfl,Dt c b ?_⟩⟩;rw[stp,if_pos (.inl r)]
   ·rw[ahW (by omega)];simp only[aa];rw[af5];simp only[aa];rw[if_pos (by simp;omega),cy (n:=(a.length:Int) - ar (nth e (i:Int))) (by omega) (by omega)];by_cases m:ar (nth e (i:Int))>(a.length:Int)
    ·refine .inr ⟨_,by rw[if_pos (by simp;omega)],(fun g e=>by cases e),.inl ⟨rfl,Dt c b ?_⟩⟩;rw[stp,if_pos (.inr m)]
    ·rw[if_neg (by simp;omega),show∀p:Prop,∀ [Decidable p],p->chk p=some () from fun p _ hp=>by unfold chk;rw[if_pos hp]]
     ·simp only[aa];have l:((a.length:Int) - ar (nth e (i:Int))).toNat=a.length - (ar (nth e (i:Int))).toNat:=by omega
      rw[l,aI (by simp;omega)];simp only[aa];rw[aI (by simp;omega)];simp only[aa,List.nil_append,af (show i<9223372036854775807 by omega)];refine .inl ⟨c,_,rfl,_,rfl,?_⟩;rw[FX c,AH,b];show stp a _=_;rw[stp,if_neg (by omega)]
     ·omega
  ·obtain rfl:i=e.length:=by omega
   rw[List.take_of_length_le (by omega)] at b;exact .inr ⟨_,by rw[if_neg (by simp)],(fun g e=>by cases e),.inr ⟨a,rfl,b⟩⟩) ⟨[],rfl,rfl⟩ (pw (by omega))
 unfold qo;rcases k with ⟨rfl,h⟩ | ⟨a,rfl,h⟩
 ·rw[bg d];unfold C9;rw[h]
 ·rw[ai d];unfold C9;rw[h]
  match a with
  | [] =>rfl
  | [x] =>rfl
  | _::_::_ =>
   simp only;rw[if_pos (by simp;omega)]
theorem BJ {x:Tr Tok} (h:WT x):C9 (flat x)=x:=by unfold C9;rw[ZS h];rfl
theorem ZU {e:List Tok} (b:e.length<=1048576):w5 e=some (isX e):=by
 unfold w5;rw[Ks b];simp only[aa];congr 1;by_cases h:isX e=true
 ·rw[h];obtain ⟨x,a,d,f⟩:=Wv h
  have:C9 e=x:=by unfold C9;rw[a]
  rw[this];cases d with
  | node _ _=>rfl
 ·have:C9 e= .nil:=by
   unfold C9;unfold isX at h;split
   ·rename_i x c;rw[c] at h;exact absurd rfl h
   ·rfl
  rw[this,Bool.eq_false_iff.2 h];rfl
theorem OX {e:List Tok} (a:e.length<=1048576):mQ e=some (decide (e.length<=24)&&isX e):=by
 unfold mQ;rw[ZT a];by_cases c:e.length<=24
 ·rw[if_pos (by simp;omega)];simp[c]
 ·rw[if_neg (by simp;omega)];simp[c]
theorem OY {e:List Tok} (a:e.length<=1048576):mU e=some (decide (e.length<=24)&&isX e):=by
 unfold mU;rw[ZU a];by_cases c:e.length<=24
 ·rw[if_pos (by simp;omega)];simp[c]
 ·rw[if_neg (by simp;omega)];simp[c]
theorem pN {p:Prop} [Decidable p] (h:p):chk p=some ():=by unfold chk;rw[if_pos h]
theorem ad2 {A:List Tok} {x:Tr Tok} (J:WT x) (C:(A++flat x).length<=1000000):jI (A++flat x)=some (A.length:Int):=by
 obtain ⟨j,e,c,L,H,K⟩: ∃j,aj (oH (A++flat x)) aP (1,((A++flat x).length:Int))=some (.brk j)/\ ∃c:List (Tr Tok),c= [] /\j.2=(A.length:Int)/\True:=by
  obtain ⟨o,D,G⟩:=cq (f:=oH (A++flat x)) (fun i s=> ∃c:List (Tr Tok),(∀k,k∈c->WT k)/\s=((c.length:Int),(((A++l9 c).length:Nat):Int))/\i+(l9 c).length=(flat x).length/\(A++flat x).take (A++l9 c).length=A++l9 c) (fun o=> ∃j,o= .brk j/\j.2=(A.length:Int)) (flat x).length (s:=(1,((A++flat x).length:Int))) (by
   rintro i s M ⟨c,B,rfl,m,g⟩;unfold oH;simp only[dG];rcases List.eq_nil_or_concat c with rfl | ⟨a,y,rfl⟩
   ·refine .inr ⟨_,by rw[if_neg (by simp)],(fun j e=>by cases e),_,rfl,?_⟩;simp[l9]
   ·have F:=B y (by simp);cases F with
    | @node t b w v =>
     have z:l9 (a++ [.node t b])=l9 (a++b)++ [t]:=by rw[tf,po,flat,tf,aD]
     rw[List.concat_eq_append,z] at m g⊢;simp only[aF,aM,aZ] at m g C⊢;rw[if_pos (by simp <;> omega)];have r:i64.wrap (((A.length+((l9 (a++b)).length+1):Nat):Int) - 1)=((A.length+(l9 (a++b)).length:Nat):Int):=by
      rw[cy (by omega) (by omega)];omega
     have q:nth (A++flat x) ((A.length+(l9 (a++b)).length:Nat):Int)=t:=by
      have u:A.length+(l9 (a++b)).length<(A++flat x).length:=by rw[aF];omega
      have p:=congrArg (fun l:List Tok=>l[A.length+(l9 (a++b)).length]?) g;rw[List.getElem?_take_of_lt (by omega),List.getElem?_eq_getElem u,<-aD,List.getElem?_append_right (by rw[aF];omega),aF] at p;rw[cG u];simpa using p
     rw[r,aq (by omega) (by simp only[aF];omega),q];simp only[aa];rw[aiN,w];simp only[aa];have E:(b.length:Int)<=2:=by rw[<-w];exact (AG t).2
     have I:a.length<=(l9 (a++b)).length+1000000:=by
      have: ∀l:List (Tr Tok),(∀k,k∈l->WT k)->l.length<=(l9 l).length:=by
       intro l;induction l with
       | nil=>intro _;simp
       | cons k l ih =>
        intro h;have w:=(h k (by simp)).pos;have v:=ih fun k d=>h k (by simp[d]);rw[l9];simp only[aM,aF];omega
      have:=this a fun k d=>B k (by simp[d])
      rw[tf,aF];omega
     refine .inl ⟨by omega,_,rfl,a++b,fun k d=>?_,?_,by omega,?_⟩
     ·rcases aN d with d | d
      ·exact B k (by simp[d])
      ·exact v k d
     ·rw[cy (n:=((a.length+1:Nat):Int) - 1) (by omega) (by omega),cy (by omega) (by omega)];congr 1
      (simp only[aF]) <;> omega
     ·have p:=congrArg (List.take (A++l9 (a++b)).length) g;rw[List.take_take,Nat.min_eq_left (by rw[aF];omega),<-aD,List.take_left] at p;rw[aF] at p;exact p) ⟨[x],fun k d=>by (obtain rfl:=ax d;exact J),by rw[po];rfl,by rw[po];omega,by rw[po,List.take_length]⟩ (pw (by rw[aF] at C;omega))
  obtain ⟨j,rfl,v⟩:=G;exact ⟨j,D,[],rfl,v,trivial⟩
 unfold jI;rw[ai e,H]
instance trInh {α:Type} :Inhabited (Tr α):=⟨.nil⟩
def szX:Tr Tok->Int
 | .nil=>0
 | .node t ks=>min (szL t 1 ks) 100000
where szL (t:Tok) (acc:Int):List (Tr Tok)->Int
 | [] =>acc
 | k::ks=>szL t (acc+(if t.1=7 then (szX k+3)*t.2.2.2 else szX k)) ks
theorem pq {x:Tr Tok} (h:WT x):1<=szX x/\szX x<=100000:=by
 refine WT.ind (p:=fun x=>1<=szX x/\szX x<=100000) ?_ ?_ ?_ h
 ·intro t _;show 1<=min (1:Int) 100000/\min (1:Int) 100000<=100000;omega
 ·intro t a e _ g;show 1<=min ((1:Int)+(if t.1=7 then (szX a+3)*t.2.2.2 else szX a)) 100000/\min ((1:Int)+(if t.1=7 then (szX a+3)*t.2.2.2 else szX a)) 100000<=100000;split
  ·rename_i k;have f:=FW (show 0<=ar t by omega) k
   have:0<=(szX a+3)*t.2.2.2:=Int.mul_nonneg (by omega) (by omega)
   omega
  ·omega
 ·intro t a b e _ _ d c;have k:t.1≠7:=by
   grind[rk,ar]
  show 1<=min ((1:Int)+(if t.1=7 then (szX a+3)*t.2.2.2 else szX a)+(if t.1=7 then (szX b+3)*t.2.2.2 else szX b)) 100000/\min ((1:Int)+(if t.1=7 then (szX a+3)*t.2.2.2 else szX a)+(if t.1=7 then (szX b+3)*t.2.2.2 else szX b)) 100000<=100000;omega
theorem MQ {a h:Int} (h1:1<=a/\a<=100000) (d:1<=h/\h<=3):i64.wrap ((i64.wrap (a+3))*h)=(a+3)*h:=by
 have c:0<=(a+3)*h:=Int.mul_nonneg (by omega) (by omega);have b:(a+3)*h<=100003*3:=Int.mul_le_mul (by omega) (by omega) (by omega) (by omega);grind[cy]
theorem Wx {a h:Int} (h1:1<=a/\a<=100000) (d:1<=h/\h<=3):0<=(a+3)*h/\(a+3)*h<=300009:=by
 have c:0<=(a+3)*h:=Int.mul_nonneg (by omega) (by omega);have b:(a+3)*h<=100003*3:=Int.mul_le_mul (by omega) (by omega) (by omega) (by omega);omega
theorem uR {t:Tok} {a:List (Tr Tok)} :Tr.get (.node t a)=some (t,a):=rfl
theorem BK {f:Tr Tok->Option Int} {t:Tok} {a:List (Tr Tok)} {i:Nat} {acc:Int} (hi:i<a.length) (c:f (nth a (i:Int))=some (szX (nth a (i:Int)))) (h:WT (nth a (i:Int))) (e:0<=ar t) (l:0<=acc/\acc<=1000000) (g:i<=1000000) :
  dL f (.node t a) (t,a) (acc,(i:Int))=some (.nxt (acc+(if t.1=7 then (szX (nth a (i:Int))+3)*t.2.2.2 else szX (nth a (i:Int))),((i+1:Nat):Int))):=by
 unfold dL;simp only[uR];have d:=pq h;rw[if_pos (by grind),aq (by omega) (by omega)];simp only[aa];by_cases k:t.1=7
 ·have b:=FW e k;have j:=Wx d b.2;rw[if_pos (by grind),if_pos k,c];simp only[aa];rw[MQ d b.2,cy (by omega) (by omega),af (by omega)]
 ·rw[if_neg (by grind),if_neg k,c];simp only[aa];rw[cy (by omega) (by omega),af (by omega)]
theorem Du {α:Type} [Inhabited α] {a:α} {l:List α} :nth (a::l) ((0:Nat):Int)=a:=rfl
theorem Wy {α:Type} [Inhabited α] {a b:α} {l:List α} :nth (a::b::l) ((1:Nat):Int)=b:=rfl
theorem ad3 {x:Tr Tok} (h:WT x): ∀n,(flat x).length<=n->cV n x=some (szX x):=by
 refine WT.ind (p:=fun x=> ∀n,(flat x).length<=n->cV n x=some (szX x)) ?_ ?_ ?_ h
 ·intro t e n c
  match n,c with
  | n+1,_ =>
   rfl
 ·intro t a e d o n c;rw[Kq,aF] at c
  match n,c with
  | n+1,c =>
   rw[cV];simp[uR,aa];have l:aj (dL (cV n) (.node t [a]) (t,[a])) aP (1,0)=some (.brk (szX.szL t 1 [a],1)):=aQ (f:=dL (cV n) (.node t [a]) (t,[a])) (fun i=>(szX.szL t 1 ([a].take i),(i:Int))) 1 (fun i r=>by
    obtain rfl:i=0:=by omega
    exact BK (acc:=1) (i:=0) (by simp) (o n (by grind)) d (by omega) (by omega) (by omega)) (by rfl) (by unfold aP;omega)
   rw[ai l]
   rfl
 ·intro t a b e d q j g n c;rw[BH,aF,aF] at c
  match n,c with
  | n+1,c =>
   have m:=pq d;have k:t.1≠7:=by
    grind[rk,ar]
   rw[cV];simp[uR,aa];have l:aj (dL (cV n) (.node t [a,b]) (t,[a,b])) aP (1,0)=some (.brk (szX.szL t 1 [a,b],2)):=aQ (f:=dL (cV n) (.node t [a,b]) (t,[a,b])) (fun i=>(szX.szL t 1 ([a,b].take i),(i:Int))) 2 (fun i r=>by
    have:i=0\/i=1:=by omega
    rcases this with rfl | rfl
    ·exact BK (acc:=1) (i:=0) (by simp) (j n (by grind)) d (by omega) (by omega) (by omega)
    ·exact BK (acc:=1+(if t.1=7 then (szX a+3)*t.2.2.2 else szX a)) (i:=1) (by simp) (g n (by grind)) q (by omega) (by omega) (by omega)) (by rfl) (by unfold aP;omega)
   rw[ai l]
   rfl
theorem qm {A:List Tok} {t:Tok} (h:A.length<=1000000):aK (A++ [t]) (i64.wrap (((A++ [t]).length:Int) - 1))=some t/\i64.wrap (((A++ [t]).length:Int) - 1)=(A.length:Int):=by
 have e:i64.wrap (((A++ [t]).length:Int) - 1)=(A.length:Int):=by
  rw[cy (by omega) (by grind)];simp only[aF,aM,aZ];omega
 grind[aq,aF,aM,aZ,cG]
theorem aiO {t:Tok} (h:ar t=2):(if t.1==4 then (some (t.1==4)) else (some (t.1==5)):Option Bool)=some true:=by
 grind[rk,ar]
theorem ZV {t:Tok} (h:ar t=1\/ar t=0):(if t.1==4 then (some (t.1==4)) else (some (t.1==5)):Option Bool)=some false:=by
 rcases rk (show 0<=ar t by omega) with ⟨e,k⟩ | ⟨e,k | k⟩ | ⟨e,k | k | k⟩
 ·omega
 all_goals simp[k]
theorem af6 {t:Tok} (h:ar t=0):(t.1==6)=false/\(t.1==7)=false:=by
 grind[rk,ar]
theorem ZW {t:Tok} (h:ar t=1):((t.1==6)=true/\t.1=6)\/((t.1==6)=false/\(t.1==7)=true/\t.1=7):=by
 grind[rk,ar]
theorem FY {a b:Tr Tok} {t:Tok} (d:WT b) (c:((flat a++flat b)++ [t]).length<=1000000) :
  (((flat a++flat b)++ [t]).take ((((flat a++flat b).length:Nat):Int)).toNat)=flat a++flat b /\
  jI (flat a++flat b)=some (((flat a).length:Nat):Int) /\
  (((flat a++flat b)++ [t]).take ((((flat a).length:Nat):Int)).toNat)=flat a /\
  (flat a++flat b).drop ((((flat a).length:Nat):Int)).toNat=flat b:=by
 grind[ad2,aF,aM,aZ,Int.toNat_natCast,List.take_left,aD,List.drop_left]
theorem af7 {x:Tr Tok} (h:WT x): ∀n,(flat x).length<=n->(flat x).length<=1000000->eX n (flat x)=some (szX x):=by
 refine WT.ind (p:=fun x=> ∀n,(flat x).length<=n->(flat x).length<=1000000->eX n (flat x)=some (szX x)) ?_ ?_ ?_ h
 ·intro t e n c d;rw[MP] at c d⊢
  match n,c with
  | n+1,_ =>
   have r:=af6 e;rw[eX]
   have:=(qm (A:=[]) (t:=t) (by simp)).1
   rw[List.nil_append] at this;rw[this];simp only[aa];rw[ZV (.inr e)];simp[aa,r.1,r.2,Bool.false_eq_true,if_false]
   rfl
 ·intro t a e i B n c d;rw[Kq] at c d⊢;simp[aF,aM,aZ] at c d
  match n,c with
  | n+1,c =>
   have u:=pq i;rw[eX];have ⟨l,j⟩:=qm (A:=flat a) (t:=t) (by omega);rw[l];simp only[aa];rw[ZV (.inl e)];simp only[aa,Bool.false_eq_true,if_false];rw[j,Int.toNat_natCast,List.take_left,pN (by grind)];simp only[aa];rw[B n (by omega) (by omega)];simp only[aa];rcases ZW e with ⟨s,q⟩ | ⟨s,q,E⟩
   ·rw[if_pos s,cy (by omega) (by omega)];show some (min 100000 (szX a+1))=some (min ((1:Int)+(if t.1=7 then (szX a+3)*t.2.2.2 else szX a)) 100000);grind
   ·have o:=FW (show 0<=ar t by omega) E;have F:=Wx u o.2;rw[if_neg (by grind),if_pos q,MQ u o.2,cy (by omega) (by omega)];show some (min 100000 ((szX a+3)*t.2.2.2+1))=some (min ((1:Int)+(if t.1=7 then (szX a+3)*t.2.2.2 else szX a)) 100000);grind
 ·intro t a b e i m g f n c d;rw[BH] at c d⊢;have ⟨z,D,C,v⟩:=FY (a:=a) (t:=t) m d;simp[aF,aM,aZ] at c d
  match n,c with
  | n+1,c =>
   have y:=pq i;have w:=pq m;have k:t.1≠7:=by
    rcases rk (show 0<=ar t by omega) with ⟨_,k⟩ | ⟨k,_⟩ | ⟨k,_⟩ <;> omega
   rw[eX];have ⟨l,j⟩:=qm (A:=flat a++flat b) (t:=t) (by grind);rw[l];simp only[aa];rw[aiO e];rw[j,z,D,pN (by grind)];simp only[aa];rw[pN (by grind),C,v];rw[g n (by omega) (by omega),pN (by simp[aF,aM,aZ];omega)];rw[f n (by omega) (by omega)];simp only[aa];rw[cy (n:=szX a+szX b) (by omega) (by omega),cy (by omega) (by omega)];show some (min 100000 (szX a+szX b+1))=some (min ((1:Int)+(if t.1=7 then (szX a+3)*t.2.2.2 else szX a)+(if t.1=7 then (szX b+3)*t.2.2.2 else szX b)) 100000);grind
def ZX:Tr Tok:=.node (2,0,0,0) []
def Su (x:Tr Tok):Nat->Int->Tr Tok
 | 0,_=>ZX
 | h+1,low=>if 0<low then .node (4,0,0,0) [x,Su x h (max 0 (low - 1))] else .node (5,0,0,0) [.node (4,0,0,0) [x,Su x h (max 0 (low - 1))],ZX]
mutual
def BL:Tr Tok->Tr Tok
 | .nil=>.nil
 | .node t ks=>if t.1=7 then Su ((af8 ks).headD .nil) t.2.2.2.toNat t.2.2.1 else .node t (af8 ks)
def af8:List (Tr Tok)->List (Tr Tok)
 | [] =>[]
 | k::ks=>BL k::af8 ks
end
theorem ar4:ar (4,0,0,0)=2:=by decide
theorem ar5:ar (5,0,0,0)=2:=by decide
theorem ar2:ar (2,0,0,0)=0:=by decide
theorem Wz:WT ZX:=.node ar2 fun k a=>by cases a
theorem FZ:flat ZX= [(2,0,0,0)]:=MP _
theorem WT.two {t:Tok} {a b:Tr Tok} (h:ar t=2) (e:WT a) (d:WT b):WT (.node t [a,b]):=.node h fun k c=>by
 grind
theorem WT.one {t:Tok} {a:Tr Tok} (h:ar t=1) (c:WT a):WT (.node t [a]):=.node h fun k b=>by
 grind
theorem OZ {x:Tr Tok} (a:WT x): ∀(h:Nat) (low:Int),WT (Su x h low)
 | 0,_=>Wz
 | h+1,low=>by
  rw[Su];split
  ·exact .two ar4 a (OZ a h _)
  ·exact .two ar5 (.two ar4 a (OZ a h _)) Wz
theorem Kt (x:Tr Tok): ∀(h:Nat) (low:Int),(flat (Su x h low)).length<=((flat x).length+3)*h+1
 | 0,_=>by rw[Su,FZ];simp
 | h+1,low=>by
  have a:=Kt x h (max 0 (low - 1));grind[Su,BH,aF,aM,aZ,Nat.mul_succ,FZ]
theorem agY {t:Tok} {a:Tr Tok} :BL (.node t [a])=if t.1=7 then Su (BL a) t.2.2.2.toNat t.2.2.1 else .node t [BL a]:=by rfl
theorem exp2 {t:Tok} {a b:Tr Tok} (h:t.1≠7):BL (.node t [a,b])= .node t [BL a,BL b]:=by simp_all[BL,if_neg,af8]
theorem agZ {t:Tok} (h:t.1≠7):BL (.node t [])= .node t []:=by rw[BL,if_neg h,af8]
theorem no7 {t:Tok} (h:ar t=2\/ar t=0):t.1≠7:=by
 grind[rk,ar]
theorem abu {x:Tr Tok} (h:WT x):WT (BL x):=by
 refine WT.ind (p:=fun x=>WT (BL x)) ?_ ?_ ?_ h
 ·intro t e;rw[agZ (no7 (.inr e))];exact .node e fun k g=>by cases g
 ·intro t a e _ f;rw[agY];split
  ·exact OZ f _ _
  ·exact .one e f
 ·intro t a b e _ _ d c;rw[exp2 (no7 (.inl e))];exact .two e d c
theorem Ku {x:Tr Tok} (h:WT x):szX x<100000->((flat (BL x)).length:Int)<=szX x:=by
 refine WT.ind (p:=fun x=>szX x<100000->((flat (BL x)).length:Int)<=szX x) ?_ ?_ ?_ h
 ·intro t e _;rw[agZ (no7 (.inr e)),MP];show (1:Int)<=min 1 100000;omega
 ·intro t a e j o f;have d:min ((1:Int)+(if t.1=7 then (szX a+3)*t.2.2.2 else szX a)) 100000<100000:=f;show _<=min ((1:Int)+(if t.1=7 then (szX a+3)*t.2.2.2 else szX a)) 100000;rw[agY];by_cases k:t.1=7
  ·have m:=FW (show 0<=ar t by omega) k;have l:szX a+3<=(szX a+3)*t.2.2.2:=by
    have:=Int.mul_le_mul_of_nonneg_left (c:=szX a+3) m.2.1 (by omega)
    omega
   have r:=Kt (BL a) t.2.2.2.toNat t.2.2.1;have n:(((flat (BL a)).length+3)*t.2.2.2.toNat:Int)<=(szX a+3)*t.2.2.2:=by
    rw[Int.toNat_of_nonneg (by omega)];exact Int.mul_le_mul_of_nonneg_right (by omega) (by omega)
   grind
  ·rw[if_neg k,Kq];grind
 ·intro t a b e j q i g f;have k:=no7 (.inl e);have d:min ((1:Int)+(if t.1=7 then (szX a+3)*t.2.2.2 else szX a)+(if t.1=7 then (szX b+3)*t.2.2.2 else szX b)) 100000<100000:=f;show _<=min ((1:Int)+(if t.1=7 then (szX a+3)*t.2.2.2 else szX a)+(if t.1=7 then (szX b+3)*t.2.2.2 else szX b)) 100000;grind[exp2,BH,aF,aM,aZ]
theorem Iq {x:Tr Tok} : ∀(h n:Nat) (low:Int),h<n->h<=3->0<=low->low<=3->o9 n x low (h:Int)=some (Su x h low)
 | 0,n+1,low,_,_,_,_=>by
  rfl
 | h+1,n+1,low,h1,h2,h3,h4=>by
  rw[o9,if_neg (by grind),cy (n:=low - 1) (by omega) (by omega),cy (n:=((h+1:Nat):Int) - 1) (by omega) (by omega)];rw[show ((h+1:Nat):Int) - 1=(h:Int) from by omega,Iq h n (max 0 (low - 1)) (by omega) (by omega) (by omega) (by omega)];simp[aa];rw[Su];by_cases c:0<low
  ·grind
  ·rw[if_neg (by grind),if_neg c];rfl
theorem QH {a b:List Tok} {t:Tok} (h:a.length+b.length<=1000000):nT a b t=some ((a++b)++ [t]):=by
 unfold nT jd;rw[aI (by simp[aF,aM,aZ];omega)];simp only[aa,List.nil_append];rw[aI (by omega)];simp only[aa];rw[aI (by simp[aF,aM,aZ];omega)];rfl
theorem WA {x:Tr Tok} : ∀(h n:Nat) (low:Int),h<n->h<=3->0<=low->low<=3->(flat x).length<=100000->o0 n (flat x) low (h:Int)=some (flat (Su x h low))
 | 0,n+1,low,_,_,_,_,_=>by
  rfl
 | h+1,n+1,low,h1,h2,h3,h4,h5=>by
  rw[o0,if_neg (by grind),cy (n:=low - 1) (by omega) (by omega),cy (n:=((h+1:Nat):Int) - 1) (by omega) (by omega)];rw[show ((h+1:Nat):Int) - 1=(h:Int) from by omega,WA h n (max 0 (low - 1)) (by omega) (by omega) (by omega) (by omega) h5];simp only[aa];have b:=Kt x h (max 0 (low - 1));have a:((flat x).length+3)*h<=100003*3:=Nat.mul_le_mul (by omega) (by omega);rw[QH (by omega),Su];simp only[aa];by_cases c:0<low
  ·simp_all[if_pos,BH]
  ·rw[if_neg (by grind),if_neg c,BH,BH,FZ];unfold wX;simp only[aa];rw[QH (by simp[aF,aM,aZ];omega)];rfl
theorem AI:1000000000000<=iU:=by rw[Xw];unfold aP;omega
theorem ZY {x:Tr Tok} (h:WT x): ∀n,(flat x).length<=n->ct n x=some (BL x):=by
 have w:=AI;refine WT.ind (p:=fun x=> ∀n,(flat x).length<=n->ct n x=some (BL x)) ?_ ?_ ?_ h
 ·intro t e n c;have k:=no7 (.inr e)
  match n,c with
  | n+1,_ =>
   rw[ct];simp[uR,aa];rw[if_neg (by grind),agZ k]
   rfl
 ·intro t a e q r n c;rw[Kq,aF] at c
  match n,c with
  | n+1,c =>
   have d:=r n (by grind);rw[ct,agY];simp only[uR,aa];rcases ZW e with ⟨s,l⟩ | ⟨s,l,m⟩
   ·have u:=aQ (f:=eG (ct n) (t,[a])) (fun i=>((i:Int),t.1,t.2.1,t.2.2.1,t.2.2.2,[BL a].take i)) 1 (fun i v=>by
     obtain rfl:i=0:=by omega
     unfold eG;rw[if_pos (by simp),aq (by omega) (by simp),Du];simp[aa];rw[d];rfl) (by rfl) (by unfold aP;omega)
    grind[ai]
   ·have z:=FW (show 0<=ar t by omega) m;rw[if_pos l,if_pos m,show aK [a] 0=some a from rfl];simp only[aa];rw[d];simp only[aa]
    have:=Iq (x:=BL a) t.2.2.2.toNat iU t.2.2.1 (by omega) (by omega) (by omega) (by omega)
    rw[Int.toNat_of_nonneg (by omega)] at this;rw[this];rfl
 ·intro t a b e q y j g n c;rw[BH,aF,aF] at c;have k:=no7 (.inl e)
  match n,c with
  | n+1,c =>
   have d:=j n (by grind);have o:=g n (by grind);rw[ct,exp2 k];simp[uR,aa];have u:=aQ (f:=eG (ct n) (t,[a,b])) (fun i=>((i:Int),t.1,t.2.1,t.2.2.1,t.2.2.2,[BL a,BL b].take i)) 2 (fun i v=>by
    have:i=0\/i=1:=by omega
    rcases this with rfl | rfl
    ·unfold eG;rw[if_pos (by simp),aq (by omega) (by simp),Du];simp[aa];rw[d];rfl
    ·unfold eG;rw[if_pos (by simp),aq (by omega) (by simp),Wy];simp[aa];rw[o];rfl) (by rfl) (by unfold aP;omega)
   grind[ai]
theorem WB {x:Tr Tok} (h:WT x): ∀n out,(flat x).length<=n->out.length+(flat x).length<=1000000->b8 n x out=some (out++flat x):=by
 refine WT.ind (p:=fun x=> ∀n out,(flat x).length<=n->out.length+(flat x).length<=1000000->b8 n x out=some (out++flat x)) ?_ ?_ ?_ h
 ·intro t e n out c d;rw[MP] at c d⊢
  match n,c with
  | n+1,_ =>
   rw[b8];simp[uR,aa];have k:=aQ (f:=da (b8 n) (t,[])) (fun i=>((i:Int),out)) 0 (fun i l=>by omega) (by rfl) (by unfold aP;omega);grind[ai,aI]
 ·intro t a e m o n out c d;rw[Kq] at c d⊢;simp[aF,aM,aZ] at c d
  match n,c with
  | n+1,c =>
   rw[b8];simp[uR,aa];have k:=aQ (f:=da (b8 n) (t,[a])) (fun i=>((i:Int),if i=0 then out else out++flat a)) 1 (fun i l=>by
    obtain rfl:i=0:=by omega
    unfold da;rw[if_pos (by simp),aq (by omega) (by simp),Du];simp[aa,if_true];rw[o n _ (by omega) (by omega)];rfl) (by rfl) (by unfold aP;omega)
   grind[ai,aI]
 ·intro t a b e m q j g n out c d;rw[BH] at c d⊢;simp[aF,aM,aZ] at c d
  match n,c with
  | n+1,c =>
   rw[b8];simp[uR,aa];have k:=aQ (f:=da (b8 n) (t,[a,b])) (fun i=>((i:Int),if i=0 then out else if i=1 then out++flat a else (out++flat a)++flat b)) 2 (fun i l=>by
    have:i=0\/i=1:=by omega
    rcases this with rfl | rfl
    ·unfold da;rw[if_pos (by simp),aq (by omega) (by simp),Du];simp[aa,if_true];rw[j n _ (by omega) (by omega)];rfl
    ·unfold da;rw[if_pos (by simp),aq (by omega) (by simp),Wy];simp only[aa,if_true];rw[g n _ (by omega) (by grind)];rfl) (by rfl) (by unfold aP;omega)
   grind[ai,aI]
theorem ZZ {x:Tr Tok} (h:WT x): ∀n,(flat x).length<=n->(flat x).length<=1000000->szX x<=50000->dw n (flat x)=some (flat (BL x)):=by
 have K:=AI;refine WT.ind (p:=fun x=> ∀n,(flat x).length<=n->(flat x).length<=1000000->szX x<=50000->dw n (flat x)=some (flat (BL x))) ?_ ?_ ?_ h
 ·intro t e n d f j;rw[MP] at d f⊢
  match n,d with
  | n+1,_ =>
   have L:=af6 e;rw[dw]
   have:=(qm (A:=[]) (t:=t) (by simp)).1
   rw[List.nil_append] at this;rw[this];simp only[aa];rw[ZV (.inr e)];simp_all[aa,Bool.false_eq_true,if_false,agZ,no7,MP]
 ·intro t a e i G n d f j;have g:min ((1:Int)+(if t.1=7 then (szX a+3)*t.2.2.2 else szX a)) 100000<=50000:=j;rw[Kq] at d f⊢;simp[aF,aM,aZ] at d f
  match n,d with
  | n+1,d =>
   have M:=pq i;have u:szX a<=50000:=by
    by_cases k:t.1=7
    ·rw[if_pos k] at g;have v:=FW (show 0<=ar t by omega) k;have H:szX a+3<=(szX a+3)*t.2.2.2:=by
      have:=Int.mul_le_mul_of_nonneg_left (c:=szX a+3) v.2.1 (by omega)
      omega
     omega
    ·omega
   have q:=Ku i (by omega);rw[dw];have ⟨s,r⟩:=qm (A:=flat a) (t:=t) (by omega);rw[s];simp only[aa];rw[ZV (.inl e)];simp only[aa,Bool.false_eq_true,if_false];rw[r,Int.toNat_natCast,List.take_left,pN (by grind)];simp only[aa];rw[G n (by omega) (by omega) u,agY];simp only[aa];rcases ZW e with ⟨z,w⟩ | ⟨z,w,y⟩
   ·rw[if_pos z,if_neg (by omega),QH (by grind),Kq];simp
   ·have v:=FW (show 0<=ar t by omega) y;rw[if_neg (by grind),if_pos w,if_pos y];grind[WA,BL,iU,Int.toNat_of_nonneg]
 ·intro t a b e i o m l n d f j;have k:=no7 (.inl e);have g:min ((1:Int)+(if t.1=7 then (szX a+3)*t.2.2.2 else szX a)+(if t.1=7 then (szX b+3)*t.2.2.2 else szX b)) 100000<=50000:=j;rw[if_neg k,if_neg k] at g;rw[BH] at d f⊢;have ⟨F,J,I,B⟩:=FY (a:=a) (t:=t) o f;simp[aF,aM,aZ] at d f
  match n,d with
  | n+1,d =>
   have D:=pq i;have C:=pq o;have q:=Ku i (by omega);have E:=Ku o (by omega);rw[dw];have ⟨s,r⟩:=qm (A:=flat a++flat b) (t:=t) (by grind);rw[s];simp only[aa];rw[aiO e];simp only[aa,if_true];rw[r,F,J,pN (by grind)];simp only[aa];rw[pN (by grind),I,B];simp only[aa];rw[m n (by omega) (by omega) (by omega),pN (by grind)];simp only[aa];rw[l n (by omega) (by omega) (by omega)];simp only[aa];rw[QH (by omega),exp2 k,BH];rfl
def Z0 (e:List Tok):List Tok×Bool:=
 if decide (e.length<=24)&&isX e then (if 5000<szX (C9 e) then ([],false) else (if 400<(flat (BL (C9 e))).length then ([],false) else (flat (BL (C9 e)),true))) else ([],false)
theorem O0 {e:List Tok} (b:e.length<=1048576):oJ e=some (Z0 e)/\oQ e=some (Z0 e):=by
 have g:=AI;unfold oJ oQ Z0;rw[OX b,OY b];simp only[aa];by_cases c:(decide (e.length<=24)&&isX e)=true
 ·rw[if_pos c,if_pos c,if_pos c,Ks b];simp[aa];rw[al] at c;obtain ⟨x,h,a,rfl⟩:=Wv c.2;have d:(flat x).length<=24:=by simpa using c.1
  rw[BJ a,af7 a iU (by omega) (by omega),ad3 a iU (by omega)];by_cases i:5000<szX x
  ·grind
  ·have f:=Ku a (by omega);rw[ZZ a iU (by omega) (by omega) (by omega),ZY a iU (by omega)];simp[aa];unfold tP;rw[WB (abu a) iU [] (by omega) (by grind)];grind
 grind
theorem ad4 {e:List Tok} (h:(Z0 e).2=true): ∃y,WT y/\(Z0 e).1=flat y/\(flat y).length<=400:=by
 unfold Z0 at h⊢;split at h
 ·rename_i c;rw[al] at c;obtain ⟨x,b,a,rfl⟩:=Wv c.2;rw[BJ a] at h⊢;split at h
  ·cases h
  ·split at h
   ·cases h
   ·grind[abu]
 grind
def WC (out:List Bool) (t:Int):Bool:=decide (t≥0)&&nth out t
def hit (out:List Bool) (row:List Int):Bool:=row.any (WC out)
def CD (a:AutT) (out:List Bool) (s:Nat):List Bool:=if hit out (nth a.2.2 s) then out.set s true else out
def nw (a:AutT) (out:List Bool):Nat->List Bool
 | 0=>out
 | s+1=>CD a (nw a out s) s
def cnt (out:List Bool):Nat:=out.count true
theorem af9 (out:List Bool):cnt out<=out.length:=List.count_le_length
theorem QI {out:List Bool} {s:Nat} (h:s<out.length) (k:out[s] =true):out.set s true=out:=by
 refine List.ext_getElem (by simp) fun i a b=>?_;grind
theorem ad5 {out:List Bool} {s:Nat} (h:s<out.length) (k:out[s] =false):cnt (out.set s true)=cnt out+1:=by
 unfold cnt;rw[List.count_set h];simp[k]
section
variable {a:AutT} {n:Nat}
theorem Kv (a:AutT) (out:List Bool) (s:Nat):(CD a out s).length=out.length:=by grind[CD]
theorem ny (a:AutT) (out:List Bool): ∀s,(nw a out s).length=out.length
 | 0=>rfl
 | s+1=>by rw[nw,Kv,ny a out s]
theorem CE {out:List Bool} {s:Nat} (h:s<out.length):(CD a out s=out/\ ¬(hit out (nth a.2.2 s)=true/\nth out s=false))\/(cnt (CD a out s)=cnt out+1/\hit out (nth a.2.2 s)=true/\nth out s=false):=by
 grind[CD,cG,hit,nth,QI,ad5]
theorem BM {out:List Bool} : ∀s,s<=out.length->(nw a out s=out/\cnt (nw a out s)=cnt out)\/cnt out<cnt (nw a out s)
 | 0,_=>.inl ⟨rfl,rfl⟩
 | s+1,hs=>by
  have b:s<(nw a out s).length:=by rw[ny];omega
  have c:=BM (out:=out) s (by omega);grind[nw,CE]
def it (a:AutT):Nat->List Bool
 | 0=>a.2.1
 | j+1=>nw a (it a j) a.2.1.length
theorem tg (a:AutT): ∀j,(it a j).length=a.2.1.length
 | 0=>rfl
 | j+1=>by rw[it,ny,tg a j]
theorem abv (a:AutT) (j:Nat):cnt (it a j)<=a.2.1.length:=by grind[tg,af9]
theorem O1 (a:AutT) (j:Nat):(it a (j+1)=it a j)\/cnt (it a j)<cnt (it a (j+1)):=by
 rcases BM (a:=a) (out:=it a j) a.2.1.length (by rw[tg];omega) with h | h
 ·exact .inl h.1
 ·exact .inr h
theorem aga {j k:Nat} (h:it a (j+1)=it a j) (b:j<=k):it a k=it a j:=by
 induction b with
 | refl=>rfl
 | step _ ih=>rw[it,ih];exact h
theorem WD {j k:Nat} (h:it a (j+1)=it a j) (b:it a (k+1)=it a k):it a j=it a k:=by
 grind[Nat.le_total,aga]
theorem ad6 (a:AutT):it a (a.2.1.length+1)=it a a.2.1.length:=by
 have key: ∀j,it a (j+1)=it a j\/j+1<=cnt (it a (j+1)):=by
  intro j;induction j with
  | zero=>grind[O1]
  | succ j ih =>
   grind[O1,it]
 grind[abv]
def live (a:AutT):List Bool:=it a a.2.1.length
theorem yY (a:AutT):(live a).length=a.2.1.length:=tg a _
theorem QJ {α:Type} [Inhabited α] {row:List α} {p:α->Bool} {k:Nat} (h:k<row.length):(row.take (k+1)).any p=((row.take k).any p || p (nth row (k:Int))):=by
 rw[List.take_succ_eq_append_getElem h,List.any_append,cG h];simp
section
variable (V:VA a n) (hn:n<=1000000)
include V hn
theorem WE {out:List Bool} {s:Nat} (hs:s<n) (d:out.length=n):aj (oL a (out,(s:Int))) aP (out,0)=some (.brk (CD a out s,9)):=by
 have i:=V.rowAt (s:=s) (by omega) (by omega)
 have:=aQ (f:=oL a (out,(s:Int))) (fun k=>(if ((nth a.2.2 (s:Int)).take k).any (WC out) then out.set s true else out,(k:Int))) 9 (fun k b=>by
  unfold oL;rw[if_pos (by grind),V.get (by omega) (by omega)];simp only[aa];rw[V.get2 (by omega) (by omega) b];rw[QJ (by omega),show nth (nth a.2.2 (s:Int)) (k:Int)=mv a s k from rfl];simp only[af (show k<9223372036854775807 by omega)];by_cases c:mv a s k≥0
  ·have e:=(V.mv (s:=s) (k:=k) (by omega) (by omega) b).2;by_cases q:((nth a.2.2 (s:Int)).take k).any (WC out)=true
   ·simp_all[if_true,Bool.true_or,aq,aa,Int.toNat_natCast]
   ·simp[q,Bool.false_eq_true,if_false,Bool.false_or,WC];rw[aq c (by rw[d];exact e),aq (by omega) (by omega)];cases h:nth out (mv a s k) <;> simp[h,c]
  ·simp[WC,c]) (by rfl) (by unfold aP;omega)
 have g:(nth a.2.2 (s:Int)).take 9=nth a.2.2 (s:Int):=List.take_of_length_le (by omega);rw[g] at this;exact this
theorem MR {out:List Bool} (d:out.length=n):aj (kS a) aP (out,0)=some (.brk (nw a out n,(n:Int))):=by
 have b:=V.len;refine aQ (f:=kS a) (fun s=>(nw a out s,(s:Int))) n (fun s c=>?_) ?_ (pw (by omega))
 ·unfold kS;rw[if_pos (by grind),ai (WE V hn c (by rw[ny];exact d)),af (by omega)]
  rfl
 simp_all[kS,if_neg]
theorem abw:nU a=some (live a):=by
 have b:=V.len;unfold nU;rw[aI (by grind)];have:=aQ (f:=oM a) (fun j=>(it a j,(j:Int))) n (fun j c=>by
  unfold oM;rw[if_pos (by grind),ai (MR V hn (by grind[tg])),af (by omega),it,b]) (by
  simp_all[oM,if_neg]) (pw (by omega))
 exact (ai this).trans (by simp[live,b])
theorem WG {out:List Bool} {g:Bool} {s:Nat} (hs:s<n) (h:out.length=n):aj (ep (g,(s:Int),out) (nth a.2.2 (s:Int))) aP (g,0,out)=some (.brk (g || (hit out (nth a.2.2 (s:Int)) && !nth out (s:Int)),9,CD a out s)):=by
 have m:=V.rowAt (s:=s) (by omega) (by omega);have b:s<out.length:=by omega
 have:=aQ (f:=ep (g,(s:Int),out) (nth a.2.2 (s:Int))) (fun k=>(g || (((nth a.2.2 (s:Int)).take k).any (WC out) && !nth out (s:Int)),(k:Int),if ((nth a.2.2 (s:Int)).take k).any (WC out) then out.set s true else out)) 9 (fun k d=>by
  unfold ep;rw[if_pos (by grind),V.get2 (by omega) (by omega) d];rw[QJ (by omega),show nth (nth a.2.2 (s:Int)) (k:Int)=mv a s k from rfl];simp only[af (show k<9223372036854775807 by omega)];by_cases c:mv a s k≥0
  ·have i:=(V.mv (s:=s) (k:=k) (by omega) (by omega) d).2;by_cases q:((nth a.2.2 (s:Int)).take k).any (WC out)=true
   ·simp[q,if_true,Bool.true_or];simp_all[nth,rT,aq,aa,Int.toNat_natCast,if_true]
   ·simp[q,Bool.false_eq_true,if_false,Bool.false_or,WC,Bool.false_and,Bool.or_false];rw[aq c (by rw[h];exact i),aq (by omega) (by omega)];cases o:nth out (mv a s k) with
    | false=>simp[c]
    | true =>
     cases e:nth out (s:Int) with
     | false=>simp[c]
     | true =>
      rw[cG b] at e;simp[c,QI b e]
  ·simp[WC,c]) (by grind[ep]) (by unfold aP;omega)
 have l:(nth a.2.2 (s:Int)).take 9=nth a.2.2 (s:Int):=List.take_of_length_le (by omega);rw[l] at this;have j:(g || (((nth a.2.2 (s:Int)).take 0).any (WC out) && !nth out (s:Int)))=g:=by simp
 rw[j] at this;exact this
theorem MS {out:List Bool} (j:out.length=n): ∃g,aj (eu a) aP (false,0,out)=some (.brk (g,(n:Int),nw a out n))/\(g=true↔cnt out<cnt (nw a out n)):=by
 have i:=V.nlen;obtain ⟨k,e,⟨g,rfl,c⟩⟩:=kd (f:=eu a) (fun s d=> ∃g,d=(g,(s:Int),nw a out s)/\(g=true↔cnt out<cnt (nw a out s))) n (by
  rintro s d h ⟨g,rfl,c⟩;have b:(nw a out s).length=n:=by rw[ny];exact j
  unfold eu;simp only;rw[if_pos (by grind),V.get (by omega) (by omega)];simp only[aa];rw[ai (WG V hn h b),af (by omega)];refine ⟨_,rfl,_,rfl,?_⟩;grind[BM,CE,nw,id,absurd]) (by
  simp_all[eu,if_neg]) ⟨false,rfl,by simp[nw]⟩ (pw (by omega))
 exact ⟨g,e,c⟩
theorem agb:fM a=some (live a):=by
 have c:=V.len;unfold fM;rw[aI (by grind)];obtain ⟨o,e,i,rfl,l⟩:=cq (f:=jZ a) (fun i s=> ∃b,s=(b,it a i)/\(b=true->i<=cnt (it a i))/\(b=false->it a (i+1)=it a i)) (fun o=> ∃i,o= .brk (false,it a i)/\it a (i+1)=it a i) (n+1) (s:=(true,a.2.1)) (by
  rintro i s l ⟨b,rfl,d,p⟩;unfold jZ;cases b with
  | false=>grind
  | true =>
   have m:=abv a i;have d:=d rfl;have ⟨g,e,j⟩:=MS V hn (out:=it a i) (by grind[tg]);have k:nw a (it a i) n=it a (i+1):=by rw[it,c]
   rw[k] at e j;refine .inl ⟨by omega,(g,it a (i+1)),by rw[if_pos rfl,ai e],g,rfl,fun h=>?_,fun h=>?_⟩
   ·grind
   grind[it,O1]) ⟨true,rfl,fun _=>Nat.zero_le _,fun h=>by cases h⟩ (pw (by omega))
 grind[ai,WD,ad6,live]
end
end
def nothing:AutT:=(0,[false],[[-1,-1,-1,-1,-1,-1,-1,-1,-1]])
theorem WH:sf=some nothing:=by kernel_rfl
theorem WI:yD=some nothing:=by kernel_rfl
theorem WJ {n:Nat} (h:n<=1000000):iOk (n:Int)=true:=by
 have a:i64.min= -9223372036854775808:=by decide
 have b:i64.max=9223372036854775807:=by decide
 simp[iOk,Lit.wf,a,b,al,decide_eq_true_eq];omega
theorem take_one {α:Type} [Inhabited α] {xs:List α} {k:Nat} (h:k<xs.length):xs.take (k+1)=xs.take k++ [nth xs (k:Int)]:=by
 rw[List.take_succ_eq_append_getElem h,cG h]
theorem mr {α:Type} [Inhabited α] {xs ys:List α} (h:xs <+:ys) {i:Int} (a:0<=i) (h1:i<xs.length):nth ys i=nth xs i:=by
 obtain ⟨t,rfl⟩:=h;exact ke a h1
structure NumOk {κ:Type} [DecidableEq κ] (nx:κ->List (Option κ)) (first:κ) (G:κ->Prop) (B:Nat):Prop where
 g0:G first
 gn: ∀x,G x-> ∀y,some y∈nx x->G y
 len: ∀x,G x->(nx x).length=9
 bound: ∀l:List κ,l.Nodup->(∀x∈l,G x)->l.length<=B
section
variable {κ:Type} [DecidableEq κ] [Inhabited κ] {nx:κ->List (Option κ)} {first:κ} {G:κ->Prop} {B:Nat}
theorem NumOk.le (H:NumOk nx first G B) (i:Nat):(bfS nx first i).length<=B:=H.bound _ (ri i) (nt H.g0 H.gn i)
theorem NumOk.at (H:NumOk nx first G B) {i:Nat} (h:i<(bfS nx first i).length):G (nth (bfS nx first i) (i:Int)):=nt H.g0 H.gn i _ (bm (by omega) (by omega))
theorem nz {i:Nat} (h:i<(bfS nx first i).length):bfS nx first (i+1)=nbS (bfS nx first i) (nx (nth (bfS nx first i) (i:Int))):=by rw[JW h,cG h]
theorem AJ {i:Nat} (h:i<(bfS nx first i).length):bfR nx first (i+1)=bfR nx first i++ [nbR (bfS nx first i) (nx (nth (bfS nx first i) (i:Int)))]:=by rw[Av h,cG h]
theorem Dv {β:Type} {acc:κ->β} {i:Nat} (h:i<(bfS nx first i).length):((bfS nx first (i+1)).take (i+1)).map acc=((bfS nx first i).take i).map acc++ [acc (nth (bfS nx first i) (i:Int))]:=by
 have hp:=bV (nx:=nx) (first:=first) i;have a:=hp.length_le;have e:(bfS nx first (i+1)).take i=(bfS nx first i).take i:=by
  have ⟨t,b⟩:=hp;grind
 rw[take_one (by omega),aU,e,mr hp (by omega) (by omega)];rfl
def MapOf (M:List (κ×Int)) (l:List κ):Prop:=M.length=l.length/\ ∀x,M.lookup x=if x∈l then some (l.idxOf x:Int) else none
theorem MapOf.one (x:κ):MapOf [(x,0)] [x]:=by
 refine ⟨rfl,fun y=>?_⟩;grind
theorem MapOf.put {M:List (κ×Int)} {l:List κ} (h:MapOf M l) {x:κ} (a:x∉l):MapOf ((x,(l.length:Int))::M) (l++ [x]):=by
 refine ⟨by simp[h.1],fun y=>?_⟩;rw[List.lookup_cons];by_cases e:y=x
 ·grind
 ·simp[show (y==x)=false from by simp[e],h.2 y,List.mem_append,List.mem_singleton,e,or_false];grind
end
section
variable {nx:Int->List (Option Int)} {first:Int} {G:Int->Prop} {B:Nat}
theorem MT {p3:Int->Int->Option (Int×Bool)} {l:List Int} {M:List (Int×Int)} {os:List (Option Int)} {acs:List Bool} {rws:List (List Int)} {i:Nat}
  (hi:i<l.length) (q:os.length=9) (t:MapOf M l) (n: ∀y,some y∈os->iOk y=true) (v: ∀k,(nbS l (os.take k)).length<=1000000)
  (hp: ∀(k:Nat) (p:k<9),∃j,p3 (nth l (i:Int)) (k:Int)=some (match nth os (k:Int) with | some y=>(y,true) | none=>(j,false))) :
  ∃g,aj (e7 p3 (l,M,(i:Int),0,acs,rws)) aP (l,M,[],0)=some (.brk (nbS l os,g,nbR l os,9))/\MapOf g (nbS l os):=by
 obtain ⟨A,e,g,rfl,w⟩:=kd (f:=e7 p3 (l,M,(i:Int),0,acs,rws)) (fun k s=> ∃g,s=(nbS l (os.take k),g,nbR l (os.take k),(k:Int))/\MapOf g (nbS l (os.take k))) 9 (by
  rintro k s p ⟨d,rfl,a⟩;have b:=om l (os.take k);have o:=b.length_le;have m:=v k;have ⟨j,x⟩:=hp k p;have z:(nbR l (os.take k)).length<=9:=by rw[jj,aB];omega
  unfold e7;simp only;rw[if_pos (by grind),aq (by omega) (by omega)];simp only[aa];rw[mr b (by omega) (by omega),x,take_one (by omega),Au,xd];simp only[aa,af (show k<9223372036854775807 by omega)];cases u:nth os (k:Int) with
  | none =>
   simp only[Bool.false_eq_true,if_false];rw[aI (by grind)];exact ⟨_,rfl,d,rfl,a⟩
  | some y =>
   have r:=n y (u ▸ bm (by omega) (by omega));rw[show chk (iOk y=true)=some () from by unfold chk;grind];rw[show lkM d y=_ from a.2 y];by_cases c:y∈nbS l (os.take k)
   ·simp only[c,if_true,Option.isSome_some,Option.getD_some,aa];rw[aI (by grind)];exact ⟨_,rfl,d,by rw[pH c];rfl,by grind[pH]⟩
   ·have h:Xb d iOk iOk y ((nbS l (os.take k)).length:Int)=some ((y,((nbS l (os.take k)).length:Int))::d):=by
     unfold Xb;rw[if_pos ⟨by have:=a.1;omega,r,WJ m⟩]
    simp only[c,if_false,Option.isSome_none,Bool.false_eq_true,h,aa];rw[aI (by grind)];simp only[aa];rw[aI (by grind)];refine ⟨_,rfl,(y,((nbS l (os.take k)).length:Int))::d,?_,?_⟩
    ·grind[pI,nbI,tc]
    ·rw[pI c];exact a.put c) (by
  grind[e7]) (s:=(l,M,[],0)) ⟨M,rfl,t⟩ (by unfold aP;omega)
 grind
theorem agc {most:Int} {p2:Int->Option Bool} {p3:Int->Int->Option (Int×Bool)} {acc:Int->Bool} (H:NumOk nx first G B) (A:B<=1000000) (m:(B:Int)<=most) (h: ∀x,G x->iOk x=true)
  (z: ∀x,G x->p2 x=some (acc x)) (r: ∀x (k:Nat),G x->k<9-> ∃j,p3 x (k:Int)=some (match nth (nx x) (k:Int) with | some y=>(y,true) | none=>(j,false))) :
  ∃N,bfE nx first N/\fC first most p2 p3=some ((0,(bfS nx first N).map acc,bfR nx first N),true):=by
 have ⟨N,u,g⟩:=aa6 (nx:=nx) (first:=first) (H.le);refine ⟨N,g,?_⟩;unfold fC;rw[show Xb ([] :List (Int×Int)) iOk iOk first 0=some [(first,0)] from by unfold Xb;rw[if_pos ⟨by simp,h _ H.g0,by decide⟩]];simp[aa];obtain ⟨C,e,o,rfl,b⟩:=kd (f:=cw most p2 p3) (fun i s=> ∃M,s=(bfS nx first i,M,(i:Int),0,((bfS nx first i).take i).map acc,bfR nx first i)/\MapOf M (bfS nx first i)) N (by
  rintro i s w ⟨M,rfl,n⟩;have a:=g.2 i w;have d:=H.at a;have p:=H.le (i+1);have ⟨o,e,b⟩:=MT (p3:=p3) (l:=bfS nx first i) (M:=M) (os:=nx (nth (bfS nx first i) (i:Int))) (acs:=((bfS nx first i).take i).map acc) (rws:=bfR nx first i) a (H.len _ d) n (fun y q=>h y (H.gn _ d y q))
   (fun k=>by
    have:(nbS (bfS nx first i) ((nx (nth (bfS nx first i) (i:Int))).take k)).length<=B:=H.bound _ (wu (ri i)) fun x c=>by
     rcases BA.1 c with c | c
     ·exact nt H.g0 H.gn i x c
     ·exact H.gn _ d x (List.mem_of_mem_take c)
    omega) (fun k v=>r _ k d v)
  unfold cw;rw[if_pos (by grind),ai e,<-nz a];rw[<-nz a] at b;have t:=(bV (nx:=nx) (first:=first) i).length_le;simp only;rw[if_neg (by grind),aq (by omega) (by omega)];simp only[aa];rw[mr (bV i) (by omega) (by omega),z _ d];simp only[aa];have E:(bfR nx first i).length=i:=mj fun j D=>g.2 j (by omega);rw[aI (by simp;omega)];rw[aI (by simp;omega)];simp only[aa,af (show i<9223372036854775807 by omega)];exact ⟨_,rfl,o,by rw[Dv a,AJ a],b⟩) (by
  rintro s ⟨M,rfl,n⟩;unfold cw;rw[if_neg (by have:=g.1;grind)]) (s:=([first],[(first,0)],0,0,[],[])) ⟨_,rfl,MapOf.one first⟩ (pw (by omega))
 rw[ai e];rw[List.take_of_length_le (by have:=g.1;omega)]
end
theorem abx {l:List Int} {x:Int} (h:l.length<=9223372036854775807):qI l x=some (if x∈l then (l.idxOf x:Int) else -1):=by
 unfold qI;have ⟨o,e,d⟩:=cq (f:=se l x) (fun i s=>s=(i:Int)/\x∉l.take i) (fun o=>(x∈l/\o= .ret (l.idxOf x:Int))\/(x∉l/\ ∃s,o= .brk s)) l.length (s:=0) (by
  rintro i s g ⟨rfl,a⟩;unfold se;by_cases b:i<l.length
  ·rw[if_pos (by grind),aq (by omega) (by omega)];simp[aa];by_cases c:nth l (i:Int)=x
   ·refine .inr ⟨_,by rw[if_pos (by grind)],(fun j e=>by cases e),.inl ?_⟩;have e:l=l.take i++(x::l.drop (i+1)):=by
     grind[cG,List.drop_eq_getElem_cons,List.take_append_drop]
    grind
   ·refine .inl ⟨b,_,by rw[if_neg (by grind)],by grind[af],?_⟩;rw[take_one b,List.mem_append,List.mem_singleton];rintro (h | h)
    ·exact a h
    ·exact c h.symm
  simp_all[if_neg,List.take_of_length_le]) ⟨rfl,by simp⟩ (pw h)
 rcases d with ⟨a,rfl⟩ | ⟨a,s,rfl⟩
 ·rw[bg e,if_pos a]
 ·rw[ai e,if_neg a]
section
variable {a:AutT} {n:Nat} {c:List Int} {lv:List Bool} {nx:Int->List (Option Int)} {G:Int->Prop} {B:Nat} {acc:Int->Bool}
def good (n:Nat) (lv:List Bool) (r:Int):Prop:=0<=r/\r<n/\nth lv r=true
def BN (a:AutT) (c:List Int) (lv:List Bool) (r:Int):List (Option Int):=(List.range 9).map fun k=>if mv a r k≥0/\nth lv (mv a r k)=true then some (nth c (mv a r k)) else none
theorem QK {r:Int} {k:Nat} (b:k<9):nth (BN a c lv r) (k:Int)=if mv a r k≥0/\nth lv (mv a r k)=true then some (nth c (mv a r k)) else none:=by
 grind[BN,cG]
def RepsOf (n:Nat) (lv:List Bool) (c:List Int) (rs l:List Int):Prop:=rs.length=l.length/\ ∀j:Nat,j<l.length->good n lv (nth rs j)/\nth c (nth rs j)=nth l (j:Int)
theorem RepsOf.snoc {rs l:List Int} (h:RepsOf n lv c rs l) {t:Int} (d:good n lv t):RepsOf n lv c (rs++ [t]) (l++ [nth c t]):=by
 refine ⟨by simp[h.1],fun j b=>?_⟩;by_cases e:j<l.length
 ·rw[ke (by omega) (by have:=h.1;omega),ke (by omega) (by omega)];exact h.2 j e
 ·have f:nth (rs++ [t]) (l.length:Int)=t:=by rw[cG (by simp[h.1])];simp[<-h.1]
  grind[nth,cG]
theorem WK (V:VA a n) (N:n<=1000000) (M:c.length=n) (C:lv.length=n) {l rs:List Int} {acs:List Bool} {rws:List (List Int)} {i:Nat} (hi:i<l.length) (H:RepsOf n lv c rs l) {os:List (Option Int)} (A:os.length=9)
  (E: ∀r,good n lv r->nth c r=nth l (i:Int)->BN a c lv r=os) (F: ∀k,(nbS l (os.take k)).length<=1000000) :
  ∃d,aj (iW a c lv (l,rs,(i:Int),0,acs,rws)) aP (l,rs,[],0)=some (.brk (nbS l os,d,nbR l os,9))/\RepsOf n lv c d (nbS l os):=by
 obtain ⟨O,e,d,rfl,I⟩:=kd (f:=iW a c lv (l,rs,(i:Int),0,acs,rws)) (fun k s=> ∃d,s=(nbS l (os.take k),d,nbR l (os.take k),(k:Int))/\RepsOf n lv c d (nbS l (os.take k))) 9 (by
  rintro k s w ⟨b,rfl,j⟩;have m:=om l (os.take k);have y:=m.length_le;have J:=F k;have K:(nbR l (os.take k)).length<=9:=by rw[jj,aB];omega
  have L:=j.1;have ⟨⟨u,q,D⟩,z⟩:=j.2 i (by omega);rw[mr m (by omega) (by omega)] at z;have x:=E _ ⟨u,q,D⟩ z;have g:nth os (k:Int)=if mv a (nth b (i:Int)) k≥0/\nth lv (mv a (nth b (i:Int)) k)=true then some (nth c (mv a (nth b (i:Int)) k)) else none:=by
   rw[<-x];exact QK w
  have v:=V.mv (s:=nth b (i:Int)) (k:=k) u q w;unfold iW;simp only;rw[if_pos (by grind),aq (xs:=b) (by omega) (by omega)];simp only[aa];rw[V.get u q];simp only[aa];rw[V.get2 u q w,take_one (by omega),Au,xd];simp only[aa,af (show k<9223372036854775807 by omega)];by_cases p:mv a (nth b (i:Int)) k≥0
  ·rw[if_pos (by grind),aq (xs:=lv) p (by omega)];simp only[aa];by_cases o:nth lv (mv a (nth b (i:Int)) k)=true
   ·rw[if_pos ⟨p,o⟩] at g;rw[if_pos o,aq (xs:=c) p (by omega),g];simp only[aa];rw[abx (by omega)];simp only[aa];by_cases t:nth c (mv a (nth b (i:Int)) k)∈nbS l (os.take k)
    ·rw[if_pos t,if_neg (by simp)];simp only[aa];rw[aI (by grind)];exact ⟨_,rfl,b,by rw[pH t];rfl,by grind[pH]⟩
    ·rw[if_neg t,if_pos (by decide)];rw[aI (by grind)];rw[aI (by grind)];simp only[aa];rw[aI (by grind)];refine ⟨_,rfl,b++ [mv a (nth b (i:Int)) k],?_,?_⟩
     ·grind[pI,nbI,tc]
     ·rw[pI t];exact j.snoc ⟨p,v.2,o⟩
   ·rw[if_neg (fun h=>o h.2)] at g;rw[if_neg o,g];simp only[aa];rw[aI (by grind)];exact ⟨_,rfl,b,rfl,j⟩
  ·rw[if_neg (fun h=>p h.1)] at g;rw[if_neg (by grind),g];simp only[aa];rw[aI (by grind)];exact ⟨_,rfl,b,rfl,j⟩) (by
  grind[iW]) (s:=(l,rs,[],0)) ⟨rs,rfl,H⟩ (by unfold aP;omega)
 grind
theorem agd (V:VA a n) (D:n<=1000000) (C:c.length=n) (q:lv.length=n) (hs:nth lv a.1=true) (H:NumOk nx (nth c a.1) G B) (M:B<=1000000)
  (F: ∀r,good n lv r->nx (nth c r)=BN a c lv r) (p: ∀r,good n lv r->acc (nth c r)=nth a.2.1 r) :
  ∃N,bfE nx (nth c a.1) N/\kz a c lv=some (0,(bfS nx (nth c a.1) N).map acc,bfR nx (nth c a.1) N):=by
 have ⟨N,I,o⟩:=aa6 (nx:=nx) (first:=nth c a.1) (H.le);refine ⟨N,o,?_⟩;have d:=V.start;unfold kz;rw[aq d.1 (by omega)];simp[aa];rw[if_pos hs,aq d.1 (by omega)];simp[aa];obtain ⟨O,e,h,rfl,t⟩:=kd (f:=lD a c lv) (fun i s=> ∃h,s=(bfS nx (nth c a.1) i,h,(i:Int),0,((bfS nx (nth c a.1) i).take i).map acc,bfR nx (nth c a.1) i)/\RepsOf n lv c h (bfS nx (nth c a.1) i)) N (by
  rintro i s K ⟨h,rfl,t⟩;have b:=o.2 i K;have y:=H.at b;have ⟨l,e,g⟩:=WK (acs:=((bfS nx (nth c a.1) i).take i).map acc) (rws:=bfR nx (nth c a.1) i) V D C q b t (os:=nx (nth (bfS nx (nth c a.1) i) (i:Int))) (H.len _ y) (fun r J e=>by grind) (fun k=>by
    have:(nbS (bfS nx (nth c a.1) i) ((nx (nth (bfS nx (nth c a.1) i) (i:Int))).take k)).length<=B:=H.bound _ (wu (ri i)) fun x m=>by
     rcases BA.1 m with m | m
     ·exact nt H.g0 H.gn i x m
     ·exact H.gn _ y x (List.mem_of_mem_take m)
    omega)
  unfold lD;simp only;rw[if_pos (by grind),ai e];rw[<-nz b] at g;have E:=(bV (nx:=nx) (first:=nth c a.1) i).length_le;have L:=g.1;have ⟨⟨w,u,A⟩,v⟩:=g.2 i (by omega);rw[mr (bV i) (by omega) (by omega)] at v;rw[aq (xs:=l) (by omega) (by omega)];simp only[aa];rw[V.acc w u,<-p _ ⟨w,u,A⟩,v];simp only[aa];have J:(bfR nx (nth c a.1) i).length=i:=mj fun j z=>o.2 j (by omega);rw[aI (by simp;omega)];rw[aI (by simp;omega)];simp only[aa,af (show i<9223372036854775807 by omega)];exact ⟨_,rfl,l,by rw[<-nz b,Dv b,AJ b],g⟩) (by
  rintro s ⟨h,rfl,t⟩;unfold lD;rw[if_neg (by have:=o.1;grind)]) (s:=([nth c a.1],[a.1],0,0,[],[])) ⟨[a.1],rfl,rfl,fun j z=>by
   obtain rfl:j=0:=by simpa [bfS] using z
   exact ⟨⟨d.1,d.2,hs⟩,rfl⟩⟩ (pw (by omega))
 rw[ai e];rw[List.take_of_length_le (by have:=o.1;omega)]
theorem O2 (V:VA a n) (b:lv.length=n) (hs:nth lv a.1=false):kz a c lv=some nothing:=by
 have d:=V.start;simp_all[kz,aq,aa,WH]
end
abbrev Nb:=(List Int)×Int×Int×(List Int)×Bool
abbrev ad7 (x:Int) (j:Nat):Bool:=(wE (rq x (j:Int)) 1)==1
def Z1 (F:List Int) (set m0:Int):Nat->Int
 | 0=>m0
 | i+1=>if ad7 set (i+1) then orI (Z1 F set m0 i) (nth F (i:Int)) else Z1 F set m0 i
def pick (L:List Int) (m letter:Int):Nat->Int
 | 0=>0
 | i+1=>if nth L (i:Int)=letter/\ad7 m i=true then orI (pick L m letter i) (AP 1 ((i+1:Nat):Int)) else pick L m letter i
def aft (p:Nb) (set letter:Int):Int:=pick p.1 (Z1 p.2.2.2.1 set (if (wE set 1)==1 then p.2.1 else 0) p.2.2.2.1.length) letter p.1.length
def AK (p:Nb) (set:Int):Bool:=if (wE set 1)==1 then (if p.2.2.2.2 then true else (wE (rq set 1) p.2.2.1) !=0) else (wE (rq set 1) p.2.2.1) !=0
theorem wD (i:Nat):chk (0<=(i:Int))=some ():=by rfl
theorem ad8 {p:Nb} {set letter:Int} (e:p.2.2.2.1.length=p.1.length) (h:p.1.length<=1000000):rE p set letter=some (aft p set letter):=by
 have j: ∀b,aj (jJ p set) aP (b,0)=some (.brk (Z1 p.2.2.2.1 set b p.1.length,(p.1.length:Int))):=fun b =>
  aQ (f:=jJ p set) (fun i=>(Z1 p.2.2.2.1 set b i,(i:Int))) p.1.length (fun i d=>by
   unfold jJ;rw[if_pos (by grind),af (by omega),wD];rw[Z1];by_cases c:ad7 set (i+1)=true
   ·simp_all[if_pos,aq]
   grind) (by unfold jJ;simp) (pw (by omega))
 have g: ∀a:Int×Int,aj (jK p letter a) aP (0,0)=some (.brk (pick p.1 a.1 letter p.1.length,(p.1.length:Int))):=fun a =>
  aQ (f:=jK p letter a) (fun i=>(pick p.1 a.1 letter i,(i:Int))) p.1.length (fun i d=>by
   unfold jK;rw[if_pos (by grind),af (by omega),wD,wD];rw[pick];by_cases c:ad7 a.1 i=true
   ·rw[if_pos c,aq (by omega) (by omega)];grind
   grind) (by unfold jK;simp) (pw (by omega))
 unfold rE aft;by_cases c:((wE set 1)==1)=true
 ·simp_all[if_pos,aa,ai]
 simp_all[if_neg,aa,ai]
theorem ad9 {p:Nb} {set letter:Int} (e:p.2.2.2.1.length=p.1.length) (h:p.1.length<=1000000):iH p set letter=some (aft p set letter):=by
 have j: ∀b,aj (dE p set) aP (b,0)=some (.brk (Z1 p.2.2.2.1 set b p.2.2.2.1.length,(p.2.2.2.1.length:Int))):=fun b =>
  aQ (f:=dE p set) (fun i=>(Z1 p.2.2.2.1 set b i,(i:Int))) p.2.2.2.1.length (fun i d=>by
   unfold dE;rw[if_pos (by grind),aq (by omega) (by omega)];rw[af (by omega),wD];rw[Z1];grind) (by unfold dE;simp) (pw (by omega))
 have g: ∀a:Int×Int,aj (dF p letter a) aP (0,0)=some (.brk (pick p.1 a.1 letter p.1.length,(p.1.length:Int))):=fun a =>
  aQ (f:=dF p letter a) (fun i=>(pick p.1 a.1 letter i,(i:Int))) p.1.length (fun i d=>by
   unfold dF;rw[if_pos (by grind),aq (by omega) (by omega)];rw[af (by omega),wD,wD];rw[pick];grind) (by unfold dF;simp) (pw (by omega))
 unfold iH aft;by_cases c:((wE set 1)==1)=true
 ·simp_all[if_pos,aa,ai]
 simp_all[if_neg,aa,ai]
theorem age (p:Nb) (x:Int):oK p x=some (AK p x):=by
 grind[oK,AK]
theorem agf (p:Nb) (x:Int):ej p x=some (AK p x):=by
 grind[ej,AK]
theorem Sv (x:Int): -9223372036854775808<=i64.wrap x/\i64.wrap x<=9223372036854775807:=by
 simp[IntKind.wrap,IntKind.bits,IntKind.signed,Bool.true_and];grind
theorem aea (x:Int):iOk (i64.wrap x)=true:=by
 have a:i64.min= -9223372036854775808:=by decide
 simp_all[Sv,iOk,Lit.wf,al,decide_eq_true_eq]
theorem agh (m n:Int):iOk (orI m n)=true:=aea _
theorem WL (L:List Int) (m letter:Int): ∀i,iOk (pick L m letter i)=true
 | 0=>by rfl
 | i+1=>by
  rw[pick];split
  ·exact agh _ _
  ·exact WL L m letter i
def nxS (p:Nb) (x:Int):List (Option Int):=(List.range 9).map fun k:Nat=>if aft p x (k:Int)=0 then none else some (aft p x (k:Int))
theorem aby {p:Nb} {x:Int} {k:Nat} (a:k<9):nth (nxS p x) (k:Int)=if aft p x k=0 then none else some (aft p x k):=by
 grind[nxS,cG]
theorem Kw (p:Nb) (x:Int):(nxS p x).length=9:=by simp[nxS]
theorem agi {p:Nb} {x y:Int} (h:some y∈nxS p x):iOk y=true:=by
 have ⟨k,a,e⟩:=List.mem_map.1 h;split at e
 ·cases e
 ·cases ae e;exact WL _ _ _ _
theorem WM {κ:Type} [DecidableEq κ] : ∀(l:List κ) (os:List (Option κ)),(nbS l os).length<=l.length+os.length
 | l,[] =>by simp[nbS]
 | l,o::os=>by
  have h:=WM (nbL l o) os;have a:(nbL l o).length<=l.length+1:=by
   cases o with
   | none=>simp[nbL]
   | some x=>grind[nbL]
  grind[nbS,nbL,aM]
section
variable {κ:Type} [DecidableEq κ] (nx:κ->List (Option κ)) (first:κ) (acc:κ->Bool) (most:Nat)
def goM:Nat->Nat->AutT×Bool
 | 0,i=>((0,[],[]),false)
 | f+1,i=>if i<(bfS nx first i).length then (if (bfS nx first (i+1)).length>most then ((0,[],[]),false) else goM f (i+1)) else ((0,((bfS nx first i).take i).map acc,bfR nx first i),true)
end
section
variable {κ:Type} [DecidableEq κ] {nx:κ->List (Option κ)} {first:κ} {acc:κ->Bool} {most:Nat}
theorem WN {i:Nat} (h: ∀j,j<i->j<(bfS nx first j).length):i<=(bfS nx first i).length:=by
 cases i with
 | zero=>omega
 | succ i =>
  have a:=h i (by omega);grind[bV]
theorem QL {S:Type} {f:S->Option (Out (AutT×Bool) S)} (t:most<=1000000) (h1:1<=most) (b:Nat->S->Prop)
  (hs: ∀i s,b i s->(∀j,j<i->j<(bfS nx first j).length)->(bfS nx first i).length<=most->i<(bfS nx first i).length->((bfS nx first (i+1)).length>most->f s=some (.ret ((0,[],[]),false)))/\((bfS nx first (i+1)).length<=most-> ∃a,f s=some (.nxt a)/\b (i+1) a))
  (l: ∀i s,b i s-> ¬i<(bfS nx first i).length->f s=some (.brk s)) {s:S} (k:b 0 s) :
  (aj f aP s=some (.ret ((0,[],[]),false))/\goM nx first acc most (most+2) 0=((0,[],[]),false)) \/
  ∃N a,aj f aP s=some (.brk a)/\b N a/\bfE nx first N/\N<=most/\goM nx first acc most (most+2) 0=((0,(bfS nx first N).map acc,bfR nx first N),true):=by
 have ⟨o,e,p⟩:=cq (f:=f) (fun i s=>b i s/\(∀j,j<i->j<(bfS nx first j).length)/\(bfS nx first i).length<=most/\goM nx first acc most (most+2) 0=goM nx first acc most (most+2 - i) i)
  (fun o=>(o= .ret ((0,[],[]),false)/\goM nx first acc most (most+2) 0=((0,[],[]),false))\/ ∃N a,o= .brk a/\b N a/\bfE nx first N/\N<=most/\goM nx first acc most (most+2) 0=((0,(bfS nx first N).map acc,bfR nx first N),true)) most (s:=s) (by
  rintro i s n ⟨g,d,r,m⟩;have h:=WN d;rw[show most+2 - i=(most+1 - i)+1 from by omega] at m;have q:goM nx first acc most (most+1 - i+1) i=if i<(bfS nx first i).length then (if (bfS nx first (i+1)).length>most then ((0,[],[]),false) else goM nx first acc most (most+1 - i) (i+1)) else ((0,((bfS nx first i).take i).map acc,bfR nx first i),true):=rfl
  by_cases c:i<(bfS nx first i).length
  ·grind
  ·refine .inr ⟨_,l i s g c,(fun a e=>by cases e),.inr ⟨i,s,rfl,g,⟨by omega,d⟩,n,?_⟩⟩;grind) ⟨k,fun j u=>by omega,by simp[bfS];omega,rfl⟩ (pw (by omega))
 grind
end
section
variable {p:Nb} {most:Nat} (hl:p.2.2.2.1.length=p.1.length) (hb:p.1.length<=1000000) (hm:most<=900000) (h1:1<=most)
include hl hb hm h1
theorem ahX:jY p most=some (goM (nxS p) 1 (AK p) most (most+2) 0):=by
 have m: ∀(l:List Int) (i k:Nat),k<9-> ∃j,(fun b g=>dM b g (p.1,p.2.1,p.2.2.1,p.2.2.2.1,p.2.2.2.2)) (nth l (i:Int)) (k:Int)=some (match nth (nxS p (nth l (i:Int))) (k:Int) with | some y=>(y,true) | none=>(j,false)):=by
  intro l i k n;refine ⟨0,?_⟩;show dM _ _ p=_;unfold dM;rw[ad9 hl hb,aby n];by_cases c:aft p (nth l (i:Int)) k=0
  ·grind
  ·grind
 unfold jY fC;rw[show Xb ([] :List (Int×Int)) iOk iOk 1 0=some [(1,0)] from by rfl];simp[aa];rcases QL (nx:=nxS p) (first:=1) (acc:=AK p) (most:=most) (f:=cw most (fun b=>ej (p.1,p.2.1,p.2.2.1,p.2.2.2.1,p.2.2.2.2) b) (fun b g=>dM b g (p.1,p.2.1,p.2.2.1,p.2.2.2.1,p.2.2.2.2)))
  (by omega) h1 (fun i s=> ∃M,s=(bfS (nxS p) 1 i,M,(i:Int),0,((bfS (nxS p) 1 i).take i).map (AK p),bfR (nxS p) 1 i)/\MapOf M (bfS (nxS p) 1 i)) (by
   rintro i s ⟨M,rfl,h⟩ z r a;have ⟨x,e,d⟩:=MT (p3:=fun b g=>dM b g (p.1,p.2.1,p.2.2.1,p.2.2.2.1,p.2.2.2.2)) (l:=bfS (nxS p) 1 i) (M:=M) (os:=nxS p (nth (bfS (nxS p) 1 i) (i:Int))) (acs:=((bfS (nxS p) 1 i).take i).map (AK p)) (rws:=bfR (nxS p) 1 i) a (Kw _ _) h (fun y t=>agi t)
    (fun k=>by
     grind[WM,bfS,nxS,nth,Kw,aB]) (fun k n=>m _ i k n)
   rw[<-nz a] at d;have v:=(bV (nx:=nxS p) (first:=1) i).length_le;constructor
   ·simp_all[cw,if_pos,ai,nz]
   ·intro o;unfold cw;rw[if_pos (by grind),ai e,<-nz a];simp only;rw[if_neg (by grind),aq (by omega) (by omega)];simp only[aa];rw[mr (bV i) (by omega) (by omega)];rw[agf];simp only[aa];have C:=mj z;rw[aI (by simp;omega)];rw[aI (by simp;omega)];simp only[aa,af (show i<9223372036854775807 by omega)];exact ⟨_,rfl,x,by rw[Dv a,AJ a],d⟩) (by
   rintro i s ⟨M,rfl,h⟩ A;simp_all[cw,if_neg]) (s:=([1],[(1,0)],0,0,[],[])) ⟨_,rfl,MapOf.one 1⟩ with ⟨e,q⟩ | ⟨N,B,e,⟨M,rfl,h⟩,w,u,q⟩
 ·grind[bg]
 ·rw[ai e,q];simp only[aa];rw[List.take_of_length_le (by have:=w.1;omega)]
theorem Z2 {l:List Int} {acs:List Bool} {rws:List (List Int)} {i:Nat} (hi:i<l.length) (e:l.length<=most) :
  aj (ky p (l,(i:Int),0,acs,rws)) aP (l,[],0)=some (.brk (nbS l (nxS p (nth l (i:Int))),nbR l (nxS p (nth l (i:Int))),9)):=by
 have m:=Kw p (nth l (i:Int))
 have:=aQ (f:=ky p (l,(i:Int),0,acs,rws)) (fun k=>(nbS l ((nxS p (nth l (i:Int))).take k),nbR l ((nxS p (nth l (i:Int))).take k),(k:Int))) 9 (fun k g=>by
  have a:=om l ((nxS p (nth l (i:Int))).take k);have b:=a.length_le;have h:=WM l ((nxS p (nth l (i:Int))).take k);rw[aB] at h;have j:(nbR l ((nxS p (nth l (i:Int))).take k)).length<=9:=by rw[jj,aB];omega
  unfold ky;simp only[dG];rw[if_pos (by grind),aq (by omega) (by omega)];simp only[aa];rw[mr a (by omega) (by omega),ad8 hl hb];simp only[aa];rw[take_one (by omega),Au,xd,aby g];simp only[af (show k<9223372036854775807 by omega)];by_cases c:aft p (nth l (i:Int)) k=0
  ·rw[if_pos c,if_neg (by simp[c])];simp[aa];rw[aI (by grind)];rfl
  ·rw[if_neg c,if_pos (by grind),abx (by omega)];simp[aa];by_cases d:aft p (nth l (i:Int)) k∈nbS l ((nxS p (nth l (i:Int))).take k)
   ·rw[if_pos d,if_neg (by simp),pH d];simp[aa];rw[aI (by grind)];rfl
   ·rw[if_neg d,if_pos (by decide),aI (by grind),pI d];simp[aa];rw[aI (by simp;omega)];simp[nbI,tc d,aa]) (by
  rfl) (by unfold aP;omega)
 exact this
theorem ahY:kR p most=some (goM (nxS p) 1 (AK p) most (most+2) 0):=by
 unfold kR;rcases QL (nx:=nxS p) (first:=1) (acc:=AK p) (most:=most) (f:=gJ p most)
  (by omega) h1 (fun i s=>s=(bfS (nxS p) 1 i,(i:Int),0,((bfS (nxS p) 1 i).take i).map (AK p),bfR (nxS p) 1 i)) (by
   rintro i s rfl g b a;have e:=Z2 hl hb hm h1 (acs:=((bfS (nxS p) 1 i).take i).map (AK p)) (rws:=bfR (nxS p) 1 i) a b;have h:=(bV (nx:=nxS p) (first:=1) i).length_le;constructor
   ·simp_all[gJ,if_pos,ai,nz]
   ·intro d;unfold gJ;rw[if_pos (by grind),ai e,<-nz a];simp only;rw[if_neg (by grind),aq (by omega) (by omega)];simp only[aa];rw[mr (bV i) (by omega) (by omega)];rw[age];simp only[aa];have l:=mj g;rw[aI (by simp;omega)];rw[aI (by simp;omega)];simp only[aa,af (show i<9223372036854775807 by omega)];exact ⟨_,rfl,by rw[Dv a,AJ a]⟩) (by
   simp_all[gJ,if_neg]) (s:=([1],0,0,[],[])) rfl with ⟨e,c⟩ | ⟨N,m,e,rfl,j,k,c⟩
 ·rw[bg e,c]
 ·rw[ai e,c];rw[List.take_of_length_le (by have:=j.1;omega)]
end
theorem Z3 (m n:Int):orI m n=orI n m:=by unfold orI;rw[BitVec.or_comm]
def lk (F:List Int) (from_ to_:Int):Nat->List Int
 | 0=>F
 | i+1=>if ad7 from_ i then (lk F from_ to_ i).set i (orI (nth (lk F from_ to_ i) (i:Int)) to_) else lk F from_ to_ i
theorem F5 (F:List Int) (f t:Int): ∀i,(lk F f t i).length=F.length
 | 0=>rfl
 | i+1=>by
  rw[lk];split
  ·rw[List.length_set,F5]
  ·exact F5 F f t i
theorem abz {p:Nb} {f t:Int} (a:p.2.2.2.1.length<=1000000):qH p f t=some (p.1,p.2.1,p.2.2.1,lk p.2.2.2.1 f t p.2.2.2.1.length,p.2.2.2.2):=by
 have d:aj (kQ f t) aP (0,p.2.2.2.1)=some (.brk ((p.2.2.2.1.length:Int),lk p.2.2.2.1 f t p.2.2.2.1.length)):=aQ (f:=kQ f t) (fun i=>((i:Int),lk p.2.2.2.1 f t i)) p.2.2.2.1.length (fun i e=>by
  have b:=F5 p.2.2.2.1 f t i;unfold kQ;rw[if_pos (by grind),wD];rw[lk,af (by omega)];by_cases c:ad7 f i=true
  ·simp_all[if_pos,aq,aa,Int.toNat_natCast]
  grind) (by unfold kQ;simp[F5]) (pw (by omega))
 grind[qH,ai]
theorem QM {p:Nb} {f t:Int} (a:p.2.2.2.1.length<=1000000):eL p f t=some (p.1,p.2.1,p.2.2.1,lk p.2.2.2.1 f t p.2.2.2.1.length,p.2.2.2.2):=by
 have d:aj (dy p f t) aP (0,p.2.2.2.1)=some (.brk ((p.2.2.2.1.length:Int),lk p.2.2.2.1 f t p.2.2.2.1.length)):=aQ (f:=dy p f t) (fun i=>((i:Int),lk p.2.2.2.1 f t i)) p.2.2.2.1.length (fun i e=>by
  have b:=F5 p.2.2.2.1 f t i;unfold dy;rw[if_pos (by grind),wD];rw[lk,af (by omega)];by_cases c:ad7 f i=true
  ·simp_all[if_pos,aq,aa,Int.toNat_natCast]
  grind) (by unfold dy;simp) (pw (by omega))
 grind[eL,ai]
def BOk (x:Tr Tok):Prop:= ∀(n m:Nat) (p:Nb),(flat x).length<=n->(flat x).length<=m->p.2.2.2.1.length=p.1.length->p.1.length+(flat x).length<=100000->
 ∃(nu:Bool) (fi la:Int) (q:Nb),dW n p (flat x)=some ((nu,fi,la),q)/\bG m p x=some ((fi,la,nu),q)/\q.2.2.2.1.length=q.1.length/\q.1.length<=p.1.length+(flat x).length
theorem Z4 {x:Tr Tok} (h:WT x):BOk x:=by
 refine WT.ind (p:=BOk) ?_ ?_ ?_ h
 ·intro t e n m p c d u i;rw[MP] at c d i⊢;simp only[aM,aZ] at i
  match n,m,c,d with
  | n+1,m+1,_,_ =>
   rw[dW,bG];simp only[uR,aa]
   have:=(qm (A:=[]) (t:=t) (by simp)).1
   rw[List.nil_append] at this;rw[this];simp only[aa,dG];rcases rk (show 0<=ar t by omega) with ⟨k,_⟩ | ⟨k,_⟩ | ⟨_,k⟩
   ·omega
   ·omega
   rcases k with k | k | k
   ·exact ⟨false,0,0,p,by simp[k],by simp[k],u,by simp⟩
   ·exact ⟨true,0,0,p,by simp[k],by simp[k],u,by simp⟩
   ·refine ⟨false,AP 1 (p.1.length:Int),AP 1 (p.1.length:Int),(p.1++ [t.2.1],p.2.1,p.2.2.1,p.2.2.2.1++ [0],p.2.2.2.2),?_,?_,by grind,by simp⟩
    ·rw[if_neg (by simp[k]),if_pos (by simp[k]),aI (by grind)];simp only[aa];rw[aI (by simp;omega)];rfl
    ·rw[if_neg (by simp[k]),if_pos (by simp[k]),aI (by grind)];simp only[aa];rw[aI (by simp;omega)];rfl
 ·intro t a e R ih n m p c d u i;rw[Kq] at c d i⊢;simp only[aF,aM,aZ] at c d i
  match n,m,c,d with
  | n+1,m+1,c,d =>
   rw[dW,bG];simp only[uR,aa,dG];obtain ⟨O,G⟩:=qm (A:=flat a) (t:=t) (by omega);rw[O];simp only[aa];obtain ⟨j,C,v,q,H,I,l,M⟩:=ih n m p (by omega) (by omega) u (by omega);rcases ZW e with ⟨X,E⟩ | ⟨X,E,k3⟩
   ·have D:(t.1==2)=false:=by simp[E]
    have y:(t.1==3)=false:=by simp[E]
    have F:(t.1==4)=false:=by simp[E]
    have z:(t.1==5)=false:=by simp[E]
    simp only[D,y,F,z,X,Bool.false_eq_true,if_false,if_true];rw[G,Int.toNat_natCast,List.take_left,pN (by grind)];simp only[aa];rw[H,show aK [a] 0=some a from rfl];simp only[aa];rw[I];simp only[aa,dG];rw[abz (by omega),QM (by omega)];simp only[aa];refine ⟨true,C,v,_,rfl,rfl,?_,?_⟩
    ·simp only[F5];exact l
    ·simp only[aF,aM,aZ];omega
   grind
 ·intro t a b e R T K J n m p c d u i;rw[BH] at c d i⊢;have N:((flat a++flat b)++ [t]).length<=1000000:=by omega
  obtain ⟨S,V,U,Q⟩:=FY (a:=a) (t:=t) T N;simp only[aF,aM,aZ] at c d i
  match n,m,c,d with
  | n+1,m+1,c,d =>
   have Y:=R.pos;have hpb:=T.pos;rw[dW,bG];simp only[uR,aa,dG];obtain ⟨O,G⟩:=qm (A:=flat a++flat b) (t:=t) (by grind);rw[O];simp only[aa];obtain ⟨j,C,v,q,H,I,l,M⟩:=K n m p (by omega) (by omega) u (by omega);obtain ⟨f,s,g,o,B,w,L,hq4⟩:=J n m q (by omega) (by omega) l (by omega);have c1: ∀r:Int,0<=r->r<=((flat a++flat b++ [t]).length:Int)->chk (0<=r/\r<=((flat a++flat b++ [t]).length:Int))=some ():=fun r Z h2=>pN ⟨Z,h2⟩;have W:aK [a,b] 0=some a:=rfl;have P:aK [a,b] 1=some b:=rfl;rcases rk (show 0<=ar t by omega) with ⟨_,k⟩ | ⟨k,_⟩ | ⟨k,_⟩
   ·rcases k with k | k
    ·have D:(t.1==2)=false:=by simp[k]
     have y:(t.1==3)=false:=by simp[k]
     have F:(t.1==4)=true:=by simp[k]
     have z:(t.1==5)=false:=by simp[k]
     simp only[D,y,F,z,Bool.false_eq_true,if_false,if_true];rw[G,S,V,pN (by grind)];simp only[aa];rw[pN (by grind),U,Q,H,W,P];simp only[aa];rw[I,pN (by grind)];simp only[aa,dG];rw[B,w];simp only[aa,dG];rw[abz (by omega),QM (by omega)];simp only[aa];refine ⟨j&&f,if j then orI C s else C,if f then orI v g else g,(o.1,o.2.1,o.2.2.1,lk o.2.2.2.1 v s o.2.2.2.1.length,o.2.2.2.2),?_,?_,?_,?_⟩
     ·cases j <;> cases f <;> rfl
     ·rw[Z3 v g];cases j <;> cases f <;> rfl
     ·grind[F5]
     grind
    ·have D:(t.1==2)=false:=by simp[k]
     have y:(t.1==3)=false:=by simp[k]
     have F:(t.1==4)=false:=by simp[k]
     have z:(t.1==5)=true:=by simp[k]
     simp only[D,y,F,z,Bool.false_eq_true,if_false,if_true];rw[G,S,V,pN (by grind)];simp only[aa];rw[pN (by grind),U,Q,H,W,P];simp only[aa];rw[I,pN (by grind)];simp only[aa,dG];rw[B,w];simp only[aa,dG];refine ⟨j || f,orI C s,orI v g,o,?_,?_,L,?_⟩
     ·cases j <;> simp
     ·cases j <;> simp
     grind
   ·omega
   ·omega
def Sw (e:List Tok):Nat->Nat
 | 0=>0
 | i+1=>if (nth e (i:Int)).1=3 then Sw e i+1 else Sw e i
theorem O3 (e:List Tok): ∀i,Sw e i<=i
 | 0=>aH _
 | i+1=>by
  have:=O3 e i
  grind[Sw]
theorem ahZ {r:List Tok×Bool} (a:r.1.length<=1000000):aj (dX r) aP (0,0)=some (.brk ((Sw r.1 r.1.length:Int),(r.1.length:Int))):=
 aQ (f:=dX r) (fun i=>((Sw r.1 i:Int),(i:Int))) r.1.length (fun i b=>by
  have:=O3 r.1 i
  unfold dX;rw[if_pos (by grind),aq (by omega) (by omega)];rw[Sw,af (show i<9223372036854775807 by omega),af (show Sw r.1 i<9223372036854775807 by omega)];grind) (by unfold dX;simp) (pw (by omega))
theorem ah0 {r:List Tok×Bool} (a:r.1.length<=1000000):aj (dZ r) aP (0,0)=some (.brk ((Sw r.1 r.1.length:Int),(r.1.length:Int))):=
 aQ (f:=dZ r) (fun i=>((Sw r.1 i:Int),(i:Int))) r.1.length (fun i b=>by
  have:=O3 r.1 i
  unfold dZ;rw[if_pos (by grind),aq (by omega) (by omega)];rw[Sw,af (show i<9223372036854775807 by omega),af (show Sw r.1 i<9223372036854775807 by omega)];grind) (by unfold dZ;simp) (pw (by omega))
theorem yZ {e:List Tok} (i:e.length<=1048576): ∃r:Nb×Bool,jo e=some r/\jq e=some r/\r.1.2.2.2.1.length=r.1.1.length/\r.1.1.length<=100000:=by
 have o:=AI;have ⟨h,l⟩:=O0 i;unfold jo jq;rw[h,l];simp only[aa];by_cases c:(Z0 e).2=true
 ·have ⟨y,a,f,t⟩:=ad4 c;rw[if_pos c,if_pos c,ai (ahZ (by grind)),ai (ah0 (by grind))];by_cases d:(Sw (Z0 e).1 (Z0 e).1.length:Int)>20
  ·simp_all
  ·have g:=decide_eq_false d;simp only[g,Bool.false_eq_true,if_false];rw[f,Ks (by omega),BJ a];simp only[aa];have ⟨s,n,p,q,k,m,b,j⟩:=Z4 a iU iU ([],0,0,[],false) (by omega) (by omega) rfl (by grind);rw[k,m];simp[aa];grind
 simp_all
theorem Sx (n:Nat) (l:List Int) (b:l.Nodup) (h: ∀x∈l,0<=x/\x<n):l.length<=n:=by
 have:=b.length_le_of_subset (l₂:=(List.range n).map Int.ofNat) (fun x a=>by
  obtain ⟨d,c⟩:=h x a;exact List.mem_map.2 ⟨x.toNat,List.mem_range.2 (by omega),by show ((x.toNat:Nat):Int)=x;omega⟩)
 simpa using this
theorem agj {n:Nat} {x:Int} (a:n<=1000000) (b:0<=x) (h1:x<n):iOk x=true:=by
 have:=WJ (n:=x.toNat) (by omega)
 rwa [show ((x.toNat:Nat):Int)=x from by omega] at this
theorem agk {κ:Type} [DecidableEq κ] {nx:κ->List (Option κ)} {first:κ} {G:κ->Prop} {B N:Nat} {acc:κ->Bool} (H:NumOk nx first G B) (e:B<=1000000) (c:bfE nx first N):Data.sm ((0,(bfS nx first N).map acc,bfR nx first N):AutT):=by
 have d:=H.bound _ (ri (nx:=nx) (first:=first) N) (nt H.g0 H.gn N);refine ⟨trivial,⟨by rw[List.length_map];omega,fun _ _=>trivial⟩,?_,?_⟩
 ·rw[mj c.2];have:=c.1;omega
 ·have key: ∀i,i<=N-> ∀r∈bfR nx first i,r.length=9:=by
   intro i;induction i with
   | zero=>intro _ r a;cases a
   | succ i ih =>
    intro f r a;have b:=c.2 i (by omega);rw[Av b] at a;rcases aN a with a | a
    ·exact ih (by omega) r a
    ·obtain rfl:=ax a;rw[jj,H.len _ (nt H.g0 H.gn i _ (List.getElem_mem b))]
  intro r a;exact ⟨by rw[key N (aH _) r a];decide,fun _ _=>trivial⟩
theorem Sy:Data.sm nothing:=⟨trivial,⟨by decide,fun _ _=>trivial⟩,by decide,fun r a=>by
 obtain rfl:=ax a;exact ⟨by decide,fun _ _=>trivial⟩⟩
theorem Sz {κ:Type} [DecidableEq κ] {l m:List κ} (h:l <+:m) {y:κ} (a:y∈l):(m.idxOf y:Int)=l.idxOf y:=by
 obtain ⟨t,rfl⟩:=h;grind
theorem abA {κ:Type} [DecidableEq κ] : ∀(l:List κ) (os:List (Option κ)) (i:Nat),i<os.length->nth (nbR l os) (i:Int)=nbI (nbS l os) (nth os (i:Int))
 | l,o::os,0,_=>by
  show nbI l o=nbI (nbS (nbL l o) os) o;cases o with
  | none=>rfl
  | some y =>
   have a:y∈nbL l (some y):=VL.2 (.inr rfl);simp[nbI];rw[Sz (om _ os) a];by_cases c:y∈l
   ·rw[pH c]
   simp_all[pI,List.idxOf_append,if_neg,tc]
 | l,o::os,i+1,h=>by
  have b:i<os.length:=by simpa using h
  have d:=abA (nbL l o) os i b;have f:nth (nbR l (o::os)) ((i+1:Nat):Int)=nth (nbR (nbL l o) os) (i:Int):=by
   rfl
  have e:nth (o::os) ((i+1:Nat):Int)=nth os (i:Int):=by rfl
  exact d
theorem sv {κ:Type} [DecidableEq κ] {l:List κ} {y:κ} (h:y∈l): ∃(q:Nat) (a:q<l.length),nbI l (some y)=(q:Int)/\l[q] =y:=
 ⟨l.idxOf y,List.idxOf_lt_length_of_mem h,rfl,by simp⟩
theorem Kx {κ:Type} [DecidableEq κ] {l:List κ} {y:κ} (h:y∉l):nbI l (some y)=(l.length:Int):=by simp[nbI,tc h]
def abB:List Int->Nat->Nat->Prop
 | [],c,m=>c=m
 | x::xs,c,m=>(x= -1/\abB xs c m)\/(0<=x/\x<c/\abB xs c m)\/(x=c/\abB xs (c+1) m)
theorem Ky {κ:Type} [DecidableEq κ] : ∀(os:List (Option κ)) (l:List κ),abB (nbR l os) l.length (nbS l os).length
 | [],l=>rfl
 | none::os,l=>.inl ⟨rfl,Ky os l⟩
 | some y::os,l=>by
  by_cases c:y∈l
  ·refine .inr (.inl ⟨Int.natCast_nonneg _,?_,?_⟩)
   ·grind[List.idxOf_lt_length_of_mem,nbI]
   ·show abB (nbR (nbL l (some y)) os) l.length (nbS (nbL l (some y)) os).length;rw[pH c];exact Ky os l
  ·refine .inr (.inr ⟨by simp[nbI,tc c],?_⟩);show abB (nbR (nbL l (some y)) os) (l.length+1) (nbS (nbL l (some y)) os).length
   have:=Ky os (l++ [y])
   grind[pI]
def ag0:List Int->List (Option (List Int))->Prop
 | [],[] =>True
 | x::xs,o::os=>((x<0/\o=none)\/(0<=x/\ ∃t,o=some (x::t)))/\ag0 xs os
 | _,_=>False
theorem WO: ∀(xs:List Int) (os:List (Option (List Int))),xs.length=os.length->(∀i (h:i<xs.length) (a:i<os.length),(xs[i] < 0/\os[i] =none)\/(0<=xs[i] /\ ∃t,os[i] =some (xs[i] ::t)))->ag0 xs os
 | [],[],_,_=>trivial
 | x::xs,o::os,hl,h=>⟨h 0 (by simp) (by simp),WO xs os (by grind) fun i b c=>h (i+1) (by grind) (by grind)⟩
theorem rl: ∀(xs:List Int) (os:List (Option (List Int))) (l:List (List Int)) (c m:Nat),ag0 xs os->abB xs c m->(∀y∈l,∃h t,y=h::t/\h<c)->
  m+l.length<=(nbS l os).length+c/\(l.length=c->(∀(q:Nat) (u:q<l.length),∃t,l[q] =(q:Int)::t)->(nbS l os).length=m->nbR l os=xs)
 | [],[],l,c,m,_,a,_=>by
  subst a;exact ⟨by simp[nbS];omega,fun _ _ _=>rfl⟩
 | x::xs,o::os,l,c,m,hr,a,hh=>by
  have ⟨i,b⟩:=hr;rcases a with ⟨rfl,a⟩ | ⟨v,s,a⟩ | ⟨rfl,a⟩
  ·have z:o=none:=by
    rcases i with ⟨-,h⟩ | ⟨h,-⟩
    ·exact h
    ·omega
   subst z;have ⟨g,f⟩:=rl xs os l c m b a hh;exact ⟨g,fun j p d=>by show -1::nbR l os=_;rw[f j p d]⟩
  ·obtain ⟨t,rfl⟩: ∃t,o=some (x::t):=by
    grind
   by_cases k:(x::t)∈l
   ·have ⟨g,f⟩:=rl xs os l c m b a hh;grind[nbL,pH,nbS,sv,nbI,nbR]
   ·have ⟨g,f⟩:=rl xs os (l++ [x::t]) c m b a (fun y r=>by
     grind)
    grind[aF,List.length_singleton,nbS,nbL]
  ·obtain ⟨t,rfl⟩: ∃t,o=some ((c:Int)::t):=by
    grind
   have k:((c:Int)::t)∉l:=fun k=>by
    grind
   have w:=pI k;have ⟨g,f⟩:=rl xs os (l++ [(c:Int)::t]) (c+1) m b a (fun y r=>by
    grind)
   have n:(l++ [(c:Int)::t]).length=l.length+1:=by simp
   refine ⟨by grind[nbS,nbL],fun j p d=>?_⟩;have d:(nbS (nbL l (some ((c:Int)::t))) os).length=m:=d;rw[w] at d
   have:=f (by omega) (fun q u=>by
    by_cases e:q<l.length
    ·grind
    grind) d
   grind[nbI,nbR,nbL,Kx]
theorem Kz (xs ys:List Int) (d:xs.length<=1048576): ∃r,qF xs ys=some r/\(r=0↔xs=ys):=by
 unfold qF;have b:=afI (f:=rD xs ys) xs ys (fun i h a=>by
  simp[rD,br h,br a,if_true,au h,au a,aa,af (show i<9223372036854775807 by omega)];grind) (fun i j=>by
  grind[rD]) xs.length 0 aP (by omega) (dC _ (by omega))
 rw[show (((0:Nat):Int))=(0:Int) from rfl] at b;rcases b with ⟨r,e,c,l⟩ | ⟨s,e,c⟩
 ·exact ⟨r,by rw[e];rfl,by grind⟩
 ·simp[aJ];by_cases g:xs.length<ys.length
  ·exact ⟨-1,by grind,by grind⟩
  ·by_cases k:xs.length>ys.length
   ·exact ⟨1,by grind,by grind⟩
   ·exact ⟨0,by grind,by grind⟩
theorem F6 (xs ys:List Int) (b:xs.length<=9223372036854775807):cH xs ys=some (decide (xs=ys)):=
 eqL (f:=cZ xs ys) xs ys b (fun i h a=>by
  simp[cZ,br h,if_true,au h,au a,aa,af (show i<9223372036854775807 by omega)];grind) (by simp only[cZ,bf];rfl)
def abC (a:AutT):List Int:=(List.range a.2.1.length).map fun s:Nat=>if nth (live a) (s:Int)=true then (if nth a.2.1 (s:Int)=true then 1 else 0) else -1
def ent (a:AutT) (c:List Int) (s:Int) (k:Nat):Int:=if mv a s k<0 then -1 else nth c (mv a s k)
def KO (a:AutT) (c:List Int) (s:Int):List Int:=nth c s::(List.range 9).map fun k=>ent a c s k
def KP (a:AutT) (c:List Int) (s:Nat):Option (List Int):=if nth c (s:Int)<0 then none else some (KO a c s)
def keys (a:AutT) (c:List Int):List (Option (List Int)):=(List.range a.2.1.length).map (KP a c)
def Ir (a:AutT) (c:List Int):List Int:=nbR [] (keys a c)
def Gq (a:AutT) (c:List Int):Nat:=(nbS [] (keys a c)).length
def cI (a:AutT):Nat->List Int
 | 0=>abC a
 | j+1=>Ir a (cI a j)
section
variable {a:AutT} {n:Nat}
theorem fh (a:AutT) (c:List Int):(keys a c).length=a.2.1.length:=by simp[keys]
theorem O4 {c:List Int} {s:Nat} (h:s<a.2.1.length):nth (keys a c) (s:Int)=KP a c s:=by
 grind[cG,keys]
theorem F7 (a:AutT) (c:List Int):(Ir a c).length=a.2.1.length:=by rw[Ir,jj,fh]
theorem th (a:AutT): ∀j,(cI a j).length=a.2.1.length
 | 0=>by simp[cI,abC]
 | j+1=>F7 a _
theorem ud {κ:Type} [DecidableEq κ] : ∀(l:List κ) (os:List (Option κ)),(nbS l os).length<=l.length+os.length
 | l,[] =>by simp[nbS]
 | l,o::os=>by
  have h:=ud (nbL l o) os
  have:(nbL l o).length<=l.length+1:=by
   cases o with
   | none=>simp[nbL]
   | some x=>grind[nbL]
  grind[nbS,nbL,aM]
theorem O5 (a:AutT) (c:List Int):Gq a c<=a.2.1.length:=by
 grind[ud,keys,fh,Gq]
theorem KB {c:List Int} {s:Nat} (h:s<a.2.1.length):nth (Ir a c) (s:Int)=nbI (nbS [] (keys a c)) (KP a c s):=by
 grind[Ir,abA,fh,O4]
theorem F8 {c:List Int} {s:Nat} (h:s<a.2.1.length) (b: ¬nth c (s:Int)<0):KO a c s∈nbS [] (keys a c):=by
 refine BA.2 (.inr ?_);refine List.mem_map.2 ⟨s,List.mem_range.2 h,?_⟩;unfold KP;grind
theorem Dw {c:List Int} {s:Nat} (h:s<a.2.1.length):(nth (Ir a c) (s:Int)<0↔nth c (s:Int)<0)/\(nth (Ir a c) (s:Int)<0->nth (Ir a c) (s:Int)= -1):=by
 rw[KB h];unfold KP;by_cases b:nth c (s:Int)<0
 ·simp_all[if_pos,nbI]
 ·grind[sv,F8,absurd]
theorem aeb {c:List Int} {s:Nat} (h:s<a.2.1.length):nth (Ir a c) (s:Int)<(a.2.1.length:Int):=by
 rw[KB h];unfold KP;by_cases b:nth c (s:Int)<0
 ·grind[nbI]
 ·obtain ⟨q,d,e,-⟩:=sv (F8 h b)
  have:=O5 a c
  grind[Gq]
theorem WQ {c:List Int} {s t:Nat} (hs:s<a.2.1.length) (b:t<a.2.1.length) (o:0<=nth (Ir a c) (s:Int)) (h:nth (Ir a c) (s:Int)=nth (Ir a c) (t:Int)):KO a c s=KO a c t:=by
 have g: ¬nth c (s:Int)<0:=fun k=>by have:=(Dw hs).1.2 k;omega
 have i: ¬nth c (t:Int)<0:=fun k=>by simp_all[Dw]
 rw[KB hs,KB b] at h;unfold KP at h;have ⟨q,l,m,j⟩:=sv (F8 hs g);have ⟨p,d,f,e⟩:=sv (F8 b i);grind
theorem Is (a:AutT) {s:Nat} (h:s<a.2.1.length): ∀j,(nth (cI a j) (s:Int)<0↔nth (live a) (s:Int)=false)/\(nth (cI a j) (s:Int)<0->nth (cI a j) (s:Int)= -1)
 | 0=>by
  grind[nth,cI,live,abC,cG]
 | j+1=>by
  have b:=Is a h j;grind[Dw,cI,trans]
theorem abD (a:AutT) {s t:Nat} (hs:s<a.2.1.length) (b:t<a.2.1.length): ∀j,0<=nth (cI a j) (s:Int)->nth (cI a j) (s:Int)=nth (cI a j) (t:Int)->nth a.2.1 (s:Int)=nth a.2.1 (t:Int)
 | 0,h0,h=>by
  grind[nth,cI,live,abC,cG]
 | j+1,h0,h=>by
  have k:=WQ (c:=cI a j) hs b h0 h;have d:nth (cI a j) (s:Int)=nth (cI a j) (t:Int):=by
   injection k
  refine abD a hs b j ?_ d
  have:=(Dw (c:=cI a j) hs).1
  grind[nth,cI,Ir]
theorem aec (a:AutT) (j:Nat):abB (cI a (j+1)) 0 (Gq a (cI a j)):=Ky (keys a (cI a j)) []
theorem Z5 (a:AutT) {c:List Int} (e:c.length=a.2.1.length):ag0 c (keys a c):=by
 refine WO _ _ (by rw[fh,e]) fun i h f=>?_;have d:=(cG h).symm;have b:(keys a c)[i] =KP a c i:=by simp[keys]
 rw[d,b];unfold KP;by_cases k:nth c (i:Int)<0
 ·grind
 ·exact .inr ⟨by omega,_,by rw[if_neg k];rfl⟩
theorem WR (a:AutT) (j:Nat):Gq a (cI a j)<=Gq a (cI a (j+1))/\(Gq a (cI a (j+1))=Gq a (cI a j)->cI a (j+2)=cI a (j+1)):=by
 have ⟨e,d⟩:=rl (cI a (j+1)) (keys a (cI a (j+1))) [] 0 (Gq a (cI a j)) (Z5 a (th a _)) (aec a j) (fun y c=>by cases c);exact ⟨by grind[Gq],fun h=>d rfl (fun q b=>absurd b (Nat.not_lt_zero q)) h⟩
theorem agl {j k:Nat} (h:cI a (j+1)=cI a j) (b:j<=k):cI a k=cI a j:=by
 induction b with
 | refl=>rfl
 | step _ ih=>rw[cI,ih];exact h
theorem WS {j k:Nat} (h:cI a (j+1)=cI a j) (b:cI a (k+1)=cI a k):cI a j=cI a k:=by
 grind[Nat.le_total,agl]
theorem aed (a:AutT): ∃j,j<=a.2.1.length/\cI a (j+1)=cI a j:=by
 by_cases e:cI a 1=cI a 0
 ·grind
 have d:1<=Gq a (cI a 0):=by
  refine Nat.one_le_iff_ne_zero.2 fun k=>e ?_;have b: ∀s:Nat,s<a.2.1.length->nth (cI a 0) (s:Int)<0:=fun s f=>by
   grind[F8,cI,List.length_pos_of_mem,Gq]
  refine adC (by grind[th]) fun i c=>?_;rw[th] at c;have g:=(Is a c 0).2 (b i c);have l:=(Is a c 1).2 (((Is a c 1).1.trans (Is a c 0).1.symm).2 (b i c));omega
 have key: ∀m,(∃j,j<=m/\cI a (j+1)=cI a j)\/m+1<=Gq a (cI a m):=by
  intro m;induction m with
  | zero=>omega
  | succ m ih =>
   grind[WR]
 rcases key a.2.1.length with h | h
 ·exact h
 grind[O5,cI]
end
end D
end Go.Proofs.YteapgmibbpckoaaGreatDoor
