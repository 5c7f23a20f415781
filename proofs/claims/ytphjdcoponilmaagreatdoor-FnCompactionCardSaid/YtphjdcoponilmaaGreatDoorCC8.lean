/- FnCompaction: for every input the law returns true and changes nothing that was there. Part 9 of 9. -/
import Derived.Test.YtphjdcoponilmaaGreatDoorCC7
import Derived.Test.YtphjdcoponilmaaGreatDoorCKFnCompaction
set_option synthInstance.maxSize 20000
set_option synthInstance.maxHeartbeats 2000000
set_option linter.unusedVariables false
set_option linter.unusedSimpArgs false
set_option linter.unnecessarySimpa false
set_option linter.unusedSectionVars false
set_option maxRecDepth 1000000
namespace Go.Proofs.YtphjdcoponilmaaGreatDoor
open Go.IntKind (i64)
namespace D
open Go.RowKit
abbrev ChT:Type:=Bool×Int×Int×Int×Int
def sb (c:ChT):List UInt8:=(if c.1 then 43 else 45)::vH c.2
def btx (l:List ChT):List UInt8:=Lib.join (l.map sb) [32]
def Bt (l:List ChT):Prop:= ∀c,c∈l->edOk c.2
theorem zP {e:Int×Int×Int×Int} (h:edOk e):(vH e).length<=70:=by
 have ⟨a,c,b,d⟩:=h;grind[uo,I64,vH,au,aw,aD]
theorem S9 (e:Int×Int×Int×Int):(mkB (vH e)==(⟨#[]⟩:ByteArray))=false:=by
 rw[beq_eq_false_iff_ne];intro k
 have:=congrArg ByteArray.size k
 rw[aV] at this;unfold vH at this;simp[au,aw,aD] at this;have a:(⟨#[]⟩:ByteArray).size=0:=rfl;omega
theorem Ta: ∀(r:List ChT),Bt r->(Lib.joinTail [32] (r.map sb)).length<=72*r.length
 | [],_=>by simp[Lib.joinTail]
 | c::r,h=>by
  have b:=Ta r fun q a=>h q (br _ a);have d:=zP (h c (by simp));grind[Lib.joinTail,sb,au,aw,aD]
theorem Ef {l:List ChT} (h:Bt l):(btx l).length<=72*l.length:=by
 cases l with
 | nil=>simp[btx,Lib.join_nil]
 | cons c r =>
  have b:=Ta r fun q a=>h q (br _ a);have d:=zP (h c (by simp));unfold btx;rw[List.map_cons,Lib.join_cons,au,aw]
  have:(sb c).length=(vH c.2).length+1:=by unfold sb;rw[aw]
  omega
theorem Wq {l:List ChT} {i:Nat} (hi:i<l.length):btx (l.take (i+1))=if i=0 then sb l[i] else btx (l.take i)++ [32] ++sb l[i]:=by
 unfold btx;rw[List.take_succ_eq_append_getElem hi,aX,List.map_cons,List.map_nil,SV];by_cases h:i=0
 ·grind
 ·rw[if_neg (by
   intro e;simp_all),if_neg h]
theorem JL {l:List ChT} {i:Nat} (hi:i<l.length) (h:Bt (l.take i)) (k:edOk l[i].2):Bt (l.take (i+1)):=by
 rw[List.take_succ_eq_append_getElem hi];intro c a;rcases aI a with a | a
 ·exact h c a
 grind
theorem aau {l:List ChT} (r:l.length<=6):(Bt l/\ah (gM l) aR (([] :List ByteArray),0)=some (.brk (l.map (fun c=>mkB (sb c)),(l.length:Int))))\/(¬Bt l/\ah (gM l) aR (([] :List ByteArray),0)=some (.ret (mkB []))):=by
 have ⟨o,e,u⟩:=bW (f:=gM l) (fun i s=>s=((l.take i).map (fun c=>mkB (sb c)),(i:Int))/\Bt (l.take i)) (fun o=>(Bt l/\o= .brk (l.map (fun c=>mkB (sb c)),(l.length:Int)))\/(¬Bt l/\o= .ret (mkB []))) l.length (fun i s v n=>by
  obtain ⟨rfl,g⟩:=n;unfold gM;by_cases a:i<l.length
  ·rw[bu a,if_pos rfl,aC a];simp only[aa];rw[S8];simp only[aa];by_cases k:edOk l[i].2
   ·have p:=zP k;have m:lF (⟨#[43]⟩) (mkB (vH l[i].2))=some (mkB (43::vH l[i].2)):=zT [43] _ (by grind);have j:lF (⟨#[45]⟩) (mkB (vH l[i].2))=some (mkB (45::vH l[i].2)):=zT [45] _ (by grind);have b: ∀z:ByteArray,bC 16 ((l.take i).map (fun c=>mkB (sb c))) [z] =some ((l.take i).map (fun c=>mkB (sb c))++ [z]):=fun z=>al (by grind);refine .inl ⟨a,((l.take (i+1)).map (fun c=>mkB (sb c)),((i+1:Nat):Int)),?_,rfl,JL a g k⟩;rw[if_pos k,if_neg (by rw[S9];decide),m,j];simp only[aa];rw[b,b,List.take_succ_eq_append_getElem a,aX,List.map_cons,List.map_nil,<-ae (show i<9223372036854775807 by omega)];have d:sb l[i] =(if l[i].1=true then 43 else 45)::vH l[i].2:=rfl;rw[d];generalize l[i].1=t;cases t <;> rfl
   ·refine .inr ⟨.ret (mkB []),?_,fun w h=>(by grind),.inr ⟨fun h=>k (h _ (List.getElem_mem a)),rfl⟩⟩;rw[if_neg k];rfl
  ·obtain rfl:i=l.length:=by omega
   grind) (s:=([],0)) ⟨rfl,fun c q=>by grind⟩ (cX _ (by omega))
 grind
theorem aav {l:List ChT} (G:l.length<=6):(Bt l/\ah (gI l) aR ((⟨#[]⟩:ByteArray),0)=some (.brk (mkB (btx l),(l.length:Int))))\/(¬Bt l/\ah (gI l) aR ((⟨#[]⟩:ByteArray),0)=some (.ret (mkB []))):=by
 have ⟨o,e,H⟩:=bW (f:=gI l) (fun i s=>s=(mkB (btx (l.take i)),(i:Int))/\Bt (l.take i)) (fun o=>(Bt l/\o= .brk (mkB (btx l),(l.length:Int)))\/(¬Bt l/\o= .ret (mkB []))) l.length (fun i s I C=>by
  obtain ⟨rfl,v⟩:=C;have y:=Ef v;rw[az] at y;unfold gI;by_cases d:i<l.length
  ·rw[bu d,if_pos rfl,aC d];simp only[aa];rw[S7];simp only[aa];by_cases k:edOk l[i].2
   ·have E:=zP k;refine .inl ⟨d,(mkB (btx (l.take (i+1))),((i+1:Nat):Int)),?_,rfl,JL d v k⟩;rw[if_pos k,if_neg (by rw[S9];decide),Wq d,<-ae (show i<9223372036854775807 by omega)];have x:sb l[i] =(if l[i].1=true then 43 else 45)::vH l[i].2:=rfl;rw[x];generalize l[i].1=t;have g: ∀(a:List UInt8) (b:UInt8),a.length<=1000->lF (mkB a) (mkB [b])=some (mkB (a++ [b])):=fun a b z=>zT _ _ (by grind);have j: ∀(a:List UInt8) (b:UInt8),a.length<=1000->lF (mkB (a++ [b])) (mkB (vH l[i].2))=some (mkB (a++b::vH l[i].2)):=fun a b z=>by
     grind[zT,aH]
    by_cases w:i=0
    ·subst w;have B:btx (l.take 0)= []:=rfl;have u:=g [] 43 (by simp);have p:=g [] 45 (by simp);have q:=j [] 43 (by simp);have r:=j [] 45 (by simp);have m:(⟨#[43]⟩:ByteArray)=mkB [43]:=rfl;have n:(⟨#[45]⟩:ByteArray)=mkB [45]:=rfl;rw[B,if_pos rfl,if_neg (by simp)];simp[aa];rw[m,n,u,p];simp only[aa];rw[q,r];cases t <;> rfl
    ·have A:=g (btx (l.take i)) 32 (by omega);have u:=g (btx (l.take i)++ [32]) 43 (by grind);have p:=g (btx (l.take i)++ [32]) 45 (by grind);have q:=j (btx (l.take i)++ [32]) 43 (by grind);have r:=j (btx (l.take i)++ [32]) 45 (by grind);have m:(⟨#[43]⟩:ByteArray)=mkB [43]:=rfl;have n:(⟨#[45]⟩:ByteArray)=mkB [45]:=rfl;have D:(⟨#[32]⟩:ByteArray)=mkB [32]:=rfl;rw[if_neg w,if_pos (decide_eq_true (by omega)),m,n,D,A];simp only[aa];rw[u,p];simp only[aa];rw[q,r];cases t <;> rfl
   ·refine .inr ⟨.ret (mkB []),?_,fun J h=>(by grind),.inr ⟨fun h=>k (h _ (List.getElem_mem d)),rfl⟩⟩;rw[if_neg k];rfl
  ·obtain rfl:i=l.length:=by omega
   grind) (s:=((⟨#[]⟩:ByteArray),0)) ⟨rfl,fun c F=>by grind⟩ (cX _ (by omega))
 grind
open Classical in
theorem p7 (l:List ChT):dV l=some (if l.length<=6/\Bt l then mkB (btx l) else mkB [])/\fN l=some (if l.length<=6/\Bt l then mkB (btx l) else mkB []):=by
 unfold dV fN;by_cases a:l.length<=6
 ·have b: ¬decide ((l.length:Int)>6)=true:=by rw[decide_eq_true_eq];omega
  constructor
  ·rw[if_neg b];rcases aav a with ⟨h,e⟩ | ⟨h,e⟩
   ·rw[af e,if_pos ⟨a,h⟩]
   ·rw[aW e,if_neg fun k=>h k.2]
  ·rw[if_neg b];rcases aau a with ⟨h,e⟩ | ⟨h,e⟩
   ·have c:=Ef h;rw[af e,if_pos ⟨a,h⟩];show (l5 (l.map fun p=>mkB (sb p)) (mkB [32])).bind _=_;unfold l5 R.Vx chk;have e:(l.map fun p=>mkB (sb p)).map (·.data.toList)=l.map sb:=by
     rw[List.map_map];exact List.map_congr_left fun p _=>gZ _
    rw[e,gZ,List.length_map,if_pos ⟨by omega,by show (btx l).length<=_;omega⟩];rfl
   ·rw[aW e,if_neg fun k=>h k.2]
 ·have b:decide ((l.length:Int)>6)=true:=decide_eq_true (by omega);constructor
  ·rw[if_pos b,if_neg fun k=>a k.1];rfl
  ·rw[if_pos b,if_neg fun k=>a k.1];rfl
theorem Eg (v:Int) (l:List ChT): ∃r:ByteArray,b6 v l=some r/\gA v l=some r/\r.size<=1000:=by
 obtain ⟨f,g⟩:=p7 l;obtain ⟨t,p,y⟩: ∃t:List UInt8,(dV l=some (mkB t)/\fN l=some (mkB t))/\t.length<=432:=by
  by_cases h:l.length<=6/\Bt l
  ·have:=Ef h.2
   refine ⟨btx l,⟨?_,?_⟩,by omega⟩
   ·rw[f,if_pos h]
   ·rw[g,if_pos h]
  ·refine ⟨[],⟨?_,?_⟩,by simp⟩
   ·rw[f,if_neg h]
   ·rw[g,if_neg h]
 obtain ⟨n,x⟩:=p;unfold b6 gA;rw[n,x,xm,Ep];simp only[aa];by_cases hv:1<=v/\v<=999
 ·have c:I64 v:=by unfold I64;omega
  have z:=uo c;have s:lF (mkB (Lib.itoa v)) (⟨#[59]⟩)=some (mkB (Lib.itoa v++ [59])):=zT _ [59] (by simp;omega);have j:lF (mkB (Lib.itoa v++ [59])) (mkB t)=some (mkB (Lib.itoa v++ [59] ++t)):=zT _ _ (by simp;omega);have u:lF (mkB (Lib.itoa v++ [59] ++t)) (⟨#[59]⟩)=some (mkB (Lib.itoa v++ [59] ++t++ [59])):=zT _ [59] (by simp;omega);obtain ⟨q,k,m,C,B⟩:=Bs (mkB (Lib.itoa v++ [59] ++t++ [59])) (by rw[aV];simp;omega);have d:I64 q:=by unfold I64;omega
  have A:=uo d;have i:lF (mkB (Lib.itoa v++ [59] ++t++ [59])) (mkB (Lib.itoa q))=some (mkB (Lib.itoa v++ [59] ++t++ [59] ++Lib.itoa q)):=zT _ _ (by simp;omega);have o:lF (mkB (Lib.itoa v++ [59] ++t++ [59] ++Lib.itoa q)) (⟨#[10]⟩)=some (mkB (Lib.itoa v++ [59] ++t++ [59] ++Lib.itoa q++ [10])):=zT _ [10] (by simp;omega);have e:(mkB (Lib.itoa v++ [59] ++t++ [59] ++Lib.itoa q++ [10])).size<=1000:=by rw[aV];simp;omega
  have w:((⟨#[]⟩:ByteArray)).size<=1000:=by decide
  rw[decide_eq_true hv];simp only[if_true,ry c,zO c,ry d,zO d,s,j,u,k,m,i,o,aa];by_cases a:decide ((l.length:Int)>0)=true
  ·by_cases b:(mkB t==(⟨#[]⟩:ByteArray))=true
   ·simp only[if_pos a,if_pos b];exact ⟨_,rfl,rfl,w⟩
   ·simp only[if_pos a,if_neg b];exact ⟨_,rfl,rfl,e⟩
  ·by_cases b:(mkB t==(⟨#[]⟩:ByteArray))=true
   ·simp only[if_neg a,if_pos b];exact ⟨_,rfl,rfl,e⟩
   ·simp only[if_neg a,if_neg b];exact ⟨_,rfl,rfl,e⟩
 ·rw[decide_eq_false hv];exact ⟨_,rfl,rfl,by decide⟩
def rz (c:UInt8) (cur:List UInt8):List UInt8->List (List UInt8)
 | [] =>[cur]
 | b::l=>if b=c then cur::rz c [] l else rz c (cur++ [b]) l
theorem o9 {c:UInt8} : ∀ {l cur:List UInt8},c∉l->rz c cur l= [cur++l]
 | [],cur,_=>by simp[rz]
 | b::l,cur,h=>by
  have a:b≠c:=fun e=>h (by simp[e]);rw[rz,if_neg a,o9 fun k=>h (br _ k)];simp
theorem pU {c:UInt8} : ∀ {a cur r:List UInt8},c∉a->rz c cur (a++c::r)=(cur++a)::rz c [] r
 | [],cur,r,_=>by simp[rz]
 | b::a,cur,r,h=>by
  have d:b≠c:=fun e=>h (by simp[e]);rw[List.cons_append,rz,if_neg d,pU fun k=>h (br _ k)];simp
theorem HO (c:UInt8): ∀(l cur:List UInt8),(rz c cur l).length<=l.length+1
 | [],cur=>by simp[rz]
 | b::l,cur=>by
  rw[rz];split
  ·have:=HO c l [];simp only[aw];omega
  ·have:=HO c l (cur++ [b]);simp only[aw];omega
theorem vI (c:UInt8): ∀(l cur:List UInt8),∀x∈rz c cur l,x.length<=cur.length+l.length
 | [],cur,x,h=>by simp[rz] at h;subst h;simp
 | b::l,cur,x,h=>by
  rw[rz] at h;split at h
  ·rcases aB h with rfl | h
   ·simp
   ·have:=vI c l [] x h;simp at this;simp;omega
  ·have:=vI c l _ x h;simp at this;simp;omega
theorem wC (c:UInt8) (l:List UInt8):c∉l\/ ∃a r,l=a++c::r/\c∉a:=by
 by_cases h:c∈l
 ·obtain ⟨a,r,e,k⟩:=List.eq_append_cons_of_mem h;exact .inr ⟨a,r,e,k⟩
 ·exact .inl h
theorem HP (s:ByteArray):mkB s.data.toList=s:=by simp[mkB]
theorem F6 (s:ByteArray): ∃l:List UInt8,s=mkB l:=⟨_,(HP s).symm⟩
theorem rX {a b:List UInt8} (h:mkB a=mkB b):a=b:=by rw[<-gZ a,h,gZ]
theorem slB {l:List UInt8} {a b:Nat} (h1:a<=b) (c:b<=l.length):qT (mkB l) (a:Int) (b:Int)=some (mkB ((l.take b).drop a)):=by
 unfold qT chk;rw[aV,if_pos ⟨by omega,by omega,by omega⟩,aa];congr 1;refine ByteArray.ext ?_;simp[mkB,List.drop_take]
theorem atB {l:List UInt8} {i:Nat} (h:i<l.length):lD (mkB l) (i:Int)=some ((l[i].toNat:Nat):Int):=by
 rw[Cl (by rw[aV];exact h)];simp[mkB]
theorem wD (l:List UInt8) (c:UInt8) (n:l.length<=1000000):iM (mkB l) ((c.toNat:Nat):Int)=some ((rz c [] l).map mkB):=by
 obtain ⟨s,e,a,done,rfl,d,m,b⟩:=fb (f:=q8 (mkB l) ((c.toNat:Nat):Int)) (fun i s=> ∃(a:Nat) (done:List (List UInt8)),s=(done.map mkB,(a:Int),(i:Int))/\a<=i/\done.length<=i/\done++rz c ((l.take i).drop a) (l.drop i)=rz c [] l) l.length (fun i s j h=>by
  obtain ⟨a,done,rfl,d,m,b⟩:=h;unfold q8;simp only[];rw[if_pos (decide_eq_true (by rw[aV];omega)),atB j];simp only[aa];rw[List.drop_eq_getElem_cons j,rz] at b;by_cases k:l[i] =c
  ·rw[if_pos k] at b;rw[if_pos (by rw[k];simp),slB d (by omega)];simp only[aa];have g:bC 16 (done.map mkB) [mkB ((l.take i).drop a)] =some (done.map mkB++ [mkB ((l.take i).drop a)]):=al (by rw[List.length_map];simp only[aw,aD];omega);rw[g];simp only[aa];refine ⟨_,rfl,i+1,done++ [(l.take i).drop a],?_,ay _,by simp;omega,?_⟩
   ·rw[aX,List.map_cons,List.map_nil,ae (by omega)]
   ·rw[<-b,aH,List.drop_of_length_le (l:=l.take (i+1)) (by rw[az];omega)];rfl
  ·rw[if_neg k] at b;rw[if_neg (fun e=>k (UInt8.toNat_inj.1 (by have:=eq_of_beq e;omega)))];simp only[aa];refine ⟨_,rfl,a,done,?_,by omega,by omega,?_⟩
   ·rw[ae (by omega)]
   ·rw[<-b,List.take_succ_eq_append_getElem j,List.drop_append_of_le_length (by rw[az];omega)]) (fun s h=>by
  obtain ⟨a,done,rfl,d,m,b⟩:=h;unfold q8;simp only[];rw[if_neg (by rw[aV];simp)]) (s:=(([] :List ByteArray),0,0)) ⟨0,[],rfl,ay _,ay _,by simp⟩ (cX _ (by omega))
 unfold iM;rw[af e,aV];simp only[];rw[slB d (ay _)];simp only[aa];have g:bC 16 (done.map mkB) [mkB ((l.take l.length).drop a)] =some (done.map mkB++ [mkB ((l.take l.length).drop a)]):=al (by rw[List.length_map];simp only[aw,aD];omega);rw[g,<-b,List.drop_length,rz];simp
theorem HQ {c:UInt8} : ∀ {l:List UInt8},c∉l->Lib.index l [c] = -1
 | [],_=>rfl
 | b::l,h=>by
  have a:c≠b:=fun e=>h (by simp[e]);have k:([c] :List UInt8).isPrefixOf (b::l)=false:=by simp[List.isPrefixOf,a]
  rw[Lib.index,k,HQ fun k=>h (br _ k)];rfl
theorem HS {c:UInt8} : ∀ {a r:List UInt8},c∉a->Lib.index (a++c::r) [c] =(a.length:Int)
 | [],r,_=>by simp[Lib.index,List.isPrefixOf]
 | b::a,r,h=>by
  have d:c≠b:=fun e=>h (by simp[e]);have k:([c] :List UInt8).isPrefixOf (b::(a++c::r))=false:=by simp[List.isPrefixOf,d]
  rw[List.cons_append,Lib.index,k,HS fun k=>h (br _ k)];rw[if_neg (by decide),if_neg (by rw[beq_iff_eq];omega),aw];omega
theorem JM (c:UInt8): ∀(n:Nat) (l:List UInt8),l.length<=n->Lib.splitK [c] 0 (Lib.count l [c]) l=rz c [] l
 | n,l,h=>by
  rcases wC c l with k | ⟨a,r,rfl,k⟩
  ·have e:=HQ k;rw[Lib.count_miss e,o9 k];rfl
  ·have e:=HS (r:=r) k;have b:(a++c::r).drop (a.length+1)=r:=by
    rw[<-List.drop_drop,List.drop_left];rfl
   rw[Lib.count_hit (by simp) e,pU k,Nat.add_comm 1,Lib.splitK,e,if_neg (by rw[beq_iff_eq];omega)];show List.take (a.length+0) _::Lib.splitK [c] 0 (Lib.count ((a++c::r).drop (a.length+1)) [c]) ((a++c::r).drop (a.length+1))=_;rw[b,Nat.add_zero,List.take_left];cases n with
   | zero=>simp at h
   | succ n=>rw[JM c n r (by simp at h;omega)];rfl
theorem HT (l:List UInt8) (c:UInt8) (b:l.length<=1000000):dG (mkB l) (mkB [c])=some ((rz c [] l).map mkB):=by
 unfold dG R.MP chk;rw[aV,aV,if_pos ⟨by omega,by simp⟩,aa];congr 1;have e:=Lib.splitB_data (mkB [c]) 0 (Lib.countB (mkB l) (mkB [c])) (mkB l);rw[gZ,gZ] at e;have a:Lib.countB (mkB l) (mkB [c])=Lib.count l [c]:=by unfold Lib.countB;rw[gZ,gZ]
 rw[a,JM c l.length l (ay _)] at e;rw[a,<-e,List.map_map]
 conv=>lhs;rw[<-List.map_id (Lib.splitB _ _ _ _)]
 exact List.map_congr_left fun x _=>(HP x).symm
theorem Wr {l:List UInt8} {c:UInt8} (a:l.length<=1000000) (h:c∉l):dX (mkB l) (mkB [c])=some (mkB l,mkB [],false):=by
 unfold dX R.abZ chk;rw[aV,if_pos (by omega),aa,gZ,gZ]
 have:Lib.cut l [c] =(l,[],false):=by unfold Lib.cut;rw[HQ h,if_neg (by decide)]
 rw[this];rfl
theorem XS {a r:List UInt8} {c:UInt8} (d:(a++c::r).length<=1000000) (h:c∉a):dX (mkB (a++c::r)) (mkB [c])=some (mkB a,mkB r,true):=by
 unfold dX R.abZ chk;rw[aV,if_pos (by omega),aa,gZ,gZ]
 have:Lib.cut (a++c::r) [c] =(a,r,true):=by
  unfold Lib.cut;rw[HS h,if_pos (by omega)];have b:(a++c::r).drop (a.length+1)=r:=by
   rw[<-List.drop_drop,List.drop_left];rfl
  show (List.take a.length _,List.drop (a.length+1) _,true)=_;rw[List.take_left,b]
 rw[this];rfl
theorem Nu {c:UInt8} : ∀ {l:List UInt8},c∉l->Lib.indexByte l c= -1
 | [],_=>rfl
 | b::l,h=>by
  have a:b≠c:=fun e=>h (by simp[e]);rw[Lib.indexByte,if_neg (by simpa using a),Nu fun k=>h (br _ k)];rfl
theorem XT {c:UInt8} : ∀ {a r:List UInt8},c∉a->Lib.indexByte (a++c::r) c=(a.length:Int)
 | [],r,_=>by simp[Lib.indexByte]
 | b::a,r,h=>by
  have d:b≠c:=fun e=>h (by simp[e]);rw[List.cons_append,Lib.indexByte,if_neg (by simpa using d),XT fun k=>h (br _ k),if_neg (by rw[beq_iff_eq];omega),aw];omega
theorem aeJ {α:Type} {l:List α} (h:l.length=3): ∃a b c,l= [a,b,c]:=by
 match l,h with
 | [a,b,c],_=>grind
abbrev EgT:Type:=Int×Int×Int×Int
theorem Ws (c:UInt8) (cur l:List UInt8):1<=(rz c cur l).length:=by
 grind[wC,o9,pU]
theorem JN (u:Nat): ∀b∈Lib.decDigits u,48<=b.toNat/\b.toNat<=57:=by
 induction u using Nat.strongRecOn with
 | _ u c =>
  intro b a;have k: ∀d,d<10->48<=(UInt8.ofNat (48+d)).toNat/\(UInt8.ofNat (48+d)).toNat<=57:=fun d f=>by
   have e:(UInt8.ofNat (48+d)).toNat=48+d:=by simp;omega
   omega
  by_cases h:u<10
  ·grind[Lib.decDigits_one,List.mem_singleton]
  ·rw[Ck h] at a;rcases aI a with a | a
   ·exact c (u / 10) (by omega) b a
   ·cases aq a;exact k _ (Nat.mod_lt _ (by omega))
theorem Wt (n:Int): ∀b∈Lib.itoa n,b.toNat=45\/48<=b.toNat/\b.toNat<=57:=by
 intro b a;unfold Lib.itoa at a;split at a
 ·rcases aB a with rfl | a
  ·grind
  grind[JN]
 grind[JN]
theorem Eh {n:Int} {c:UInt8} (h1:c.toNat≠45) (a:c.toNat<48\/57<c.toNat):c∉Lib.itoa n:=fun h=>by
 grind[Wt]
theorem ac2 {n:Int} (h:0<=n/\n<=9):Lib.itoa n= [UInt8.ofNat (48+n.toNat)]:=by
 unfold Lib.itoa;rw[if_neg (by omega),Lib.decDigits_one (by omega)]
theorem HU {e:EgT} (h:edOk e):vH e=Lib.itoa e.1++58:: [UInt8.ofNat (48+e.2.1.toNat),UInt8.ofNat (97+e.2.2.2.toNat),UInt8.ofNat (48+e.2.2.1.toNat)]:=by
 obtain ⟨-,b,a,-⟩:=h;grind[vH,ac2]
theorem ac3: ∀k:Fin 9,∃x,gp (k.val:Int)=some x:=by
 intro k
 match k with
 | ⟨0,_⟩=>exact ⟨_,rfl⟩
 | ⟨1,_⟩=>exact ⟨_,rfl⟩
 | ⟨2,_⟩=>exact ⟨_,rfl⟩
 | ⟨3,_⟩=>exact ⟨_,rfl⟩
 | ⟨4,_⟩=>exact ⟨_,rfl⟩
 | ⟨5,_⟩=>exact ⟨_,rfl⟩
 | ⟨6,_⟩=>exact ⟨_,rfl⟩
 | ⟨7,_⟩=>exact ⟨_,rfl⟩
 | ⟨8,_⟩=>exact ⟨_,rfl⟩
theorem O2 (z:ByteArray): ∃r,iN z=some r:=by
 have ⟨o,e,h⟩:=bW (f:=mZ z) (fun i s=>s=(i:Int)) (fun o=> ∀s,o≠ .nxt s) 9 (fun i s g d=>by
  subst d;unfold mZ;by_cases a:i<9
  ·have ⟨x,b⟩:=ac3 ⟨i,a⟩;rw[if_pos (decide_eq_true (by omega)),b];simp only[aa];by_cases c:(x==z)=true
   ·simp_all
   ·rw[if_neg c];grind[ae]
  ·obtain rfl:i=9:=by omega
   grind) (s:=(0:Int)) rfl (cX _ (by omega))
 unfold iN;rw[e];cases o with
 | nxt s=>grind
 | brk s=>exact ⟨_,rfl⟩
 | ret r=>exact ⟨_,rfl⟩
theorem Tb: ∀k:Fin 3,iN (mkB [UInt8.ofNat (97+k.val)])=some (2*(k.val:Int),true):=by
 intro k
 match k with
 | ⟨0,_⟩=>rfl
 | ⟨1,_⟩=>rfl
 | ⟨2,_⟩=>rfl
theorem afo: ∀d:Fin 5,i64.wrap ((i64.wrap (((UInt8.ofNat (48+d.val)).toNat:Nat):Int)) - 48)=(d.val:Int):=by decide
theorem afQ: ∀d:Fin 3,i64.wrap ((i64.wrap (((UInt8.ofNat (97+d.val)).toNat:Nat):Int)) - 97)=(d.val:Int):=by decide
theorem afR: ∀d:Fin 3,EZ (2*(d.val:Int)) 2=(d.val:Int):=by decide
def adE (s:List UInt8) (r:EgT×Bool):Prop:=r=((0,0,0,0),false)\/r.2=true/\edOk r.1/\s=vH r.1
theorem XU {e:EgT} {s:List UInt8} (h:s≠ []): ∃r:EgT×Bool,(if (if edOk e then mkB (vH e) else mkB []) !=mkB s then (some ((0,0,0,0),false)) else (some (e,true)):Option (EgT×Bool))=some r/\adE s r:=by
 by_cases k:edOk e
 ·rw[if_pos k];by_cases c:mkB (vH e)=mkB s
  ·rw[if_neg (by simp[c])];exact ⟨_,rfl,.inr ⟨rfl,k,(rX c).symm⟩⟩
  ·rw[if_pos (by grind)];exact ⟨_,rfl,.inl rfl⟩
 ·rw[if_neg k,if_pos (by
   grind[rX])]
  exact ⟨_,rfl,.inl rfl⟩
theorem afT (l:List UInt8) (s:l.length<=1000000): ∃r,jn (mkB l)=some r/\adE l r:=by
 unfold jn;have d:iM (mkB l) 58=some ((rz 58 [] l).map mkB):=wD l 58 s;rw[d];simp only[aa];rcases wC 58 l with k | ⟨a,r,rfl,k⟩
 ·rw[o9 k];exact ⟨_,rfl,.inl rfl⟩
 ·rw[pU k];rcases wC 58 r with c | ⟨b,q,rfl,c⟩
  ·rw[o9 c];simp only[List.nil_append,List.map_cons,List.map_nil];have g:aO [mkB a,mkB r] 0=some (mkB a):=rfl;have f:aO [mkB a,mkB r] 1=some (mkB r):=rfl;rw[if_neg (by simp)];simp only[g,f,aa,aV];by_cases o:r.length=3
   ·obtain ⟨x,y,z,rfl⟩:=aeJ o;obtain ⟨n,p,-,-⟩:=tN (mkB a);have ⟨t,h⟩:=O2 (mkB [y]);have e:qT (mkB [x,y,z]) 1 2=some (mkB [y]):=slB (l:=[x,y,z]) (a:=1) (b:=2) (by decide) (by simp);have j:lD (mkB [x,y,z]) 0=some ((x.toNat:Nat):Int):=atB (l:=[x,y,z]) (i:=0) (by simp);have m:lD (mkB [x,y,z]) 2=some ((z.toNat:Nat):Int):=atB (l:=[x,y,z]) (i:=2) (by simp);rw[if_neg (by simp),p,e];simp only[aa];rw[h,j,m];simp only[aa];rw[S7];exact XU (by simp)
   ·rw[if_pos (by grind)];exact ⟨_,rfl,.inl rfl⟩
  ·rw[pU c]
   have:=Ws 58 [] q
   rw[if_pos (by grind)];exact ⟨_,rfl,.inl rfl⟩
theorem afU (l:List UInt8) (c:l.length<=1000000): ∃r,jt (mkB l)=some r/\adE l r:=by
 unfold jt;rcases wC 58 l with k | ⟨a,r,rfl,k⟩
 ·have b:dX (mkB l) (⟨#[58]⟩)=some (mkB l,mkB [],false):=Wr c k;rw[b];exact ⟨_,rfl,.inl rfl⟩
 ·have b:dX (mkB (a++58::r)) (⟨#[58]⟩)=some (mkB a,mkB r,true):=XS c k;rw[b];simp only[aa,aV];by_cases f:r.length=3
  ·obtain ⟨x,y,z,rfl⟩:=aeJ f;obtain ⟨n,-,g,-⟩:=tN (mkB a);have d:lD (mkB [x,y,z]) 0=some ((x.toNat:Nat):Int):=atB (l:=[x,y,z]) (i:=0) (by simp);have h:lD (mkB [x,y,z]) 1=some ((y.toNat:Nat):Int):=atB (l:=[x,y,z]) (i:=1) (by simp);have e:lD (mkB [x,y,z]) 2=some ((z.toNat:Nat):Int):=atB (l:=[x,y,z]) (i:=2) (by simp);rw[if_neg (by simp),g,d,h,e];simp only[aa];rw[S8];exact XU (by simp)
  ·rw[if_pos (by grind)];exact ⟨_,rfl,.inl rfl⟩
theorem aaw {e:EgT} (h:edOk e):jn (mkB (vH e))=some (e,true)/\jt (mkB (vH e))=some (e,true):=by
 have A:=zP h;have p:=HU h;have j:(vH e).length<=1000000:=by omega
 have ⟨K,z,L,D⟩:=id h;have ⟨T,x⟩:=HL (n:=e.1) (by omega);have k:(58:UInt8)∉Lib.itoa e.1:=Eh (by decide) (by decide);have ⟨f,o,u⟩: ∃k:Nat,k<5/\e.2.1=(k:Int):=⟨e.2.1.toNat,by omega,by omega⟩;have ⟨t,v,s⟩: ∃k:Nat,k<5/\e.2.2.1=(k:Int):=⟨e.2.2.1.toNat,by omega,by omega⟩;have ⟨q,g,w⟩: ∃k:Nat,k<3/\e.2.2.2=(k:Int):=⟨e.2.2.2.toNat,by omega,by omega⟩;have m:vH e=Lib.itoa e.1++58:: [UInt8.ofNat (48+f),UInt8.ofNat (97+q),UInt8.ofNat (48+t)]:=by
  rw[p,u,s,w];rfl
 have r:(58:UInt8) ∉ [UInt8.ofNat (48+f),UInt8.ofNat (97+q),UInt8.ofNat (48+t)]:=by
  have E:(UInt8.ofNat (48+f)).toNat=48+f:=by simp;omega
  have Q:(UInt8.ofNat (97+q)).toNat=97+q:=by simp;omega
  have R:(UInt8.ofNat (48+t)).toNat=48+t:=by simp;omega
  have H:(58:UInt8).toNat=58:=rfl;intro c;simp only[List.mem_cons,List.not_mem_nil,or_false] at c;rcases c with c | c | c <;> (have:=congrArg UInt8.toNat c;omega)
 have J:=atB (l:=[UInt8.ofNat (48+f),UInt8.ofNat (97+q),UInt8.ofNat (48+t)]) (i:=0) (by simp);have C:=atB (l:=[UInt8.ofNat (48+f),UInt8.ofNat (97+q),UInt8.ofNat (48+t)]) (i:=1) (by simp);have M:=atB (l:=[UInt8.ofNat (48+f),UInt8.ofNat (97+q),UInt8.ofNat (48+t)]) (i:=2) (by simp);have y:=slB (l:=[UInt8.ofNat (48+f),UInt8.ofNat (97+q),UInt8.ofNat (48+t)]) (a:=1) (b:=2) (by decide) (by simp);have G:=afo ⟨f,o⟩;have S:=afo ⟨t,v⟩;have O:=afQ ⟨q,g⟩;have N:=afR ⟨q,g⟩;have P:=Tb ⟨q,g⟩;have I:(e.1,(f:Int),(t:Int),(q:Int))=e:=by grind
 constructor
 ·unfold jn;have d:iM (mkB (vH e)) 58=some ((rz 58 [] (vH e)).map mkB):=wD _ 58 j;rw[d];rw[m,pU k,o9 r];have F: ∀a b:ByteArray,aO [a,b] 0=some a:=fun a b=>rfl;have B: ∀a b:ByteArray,aO [a,b] 1=some b:=fun a b=>rfl;simp_all[aa,aV,if_neg,S7,if_pos]
 ·unfold jt;have d:dX (mkB (vH e)) (⟨#[58]⟩)=some (mkB (Lib.itoa e.1),mkB [UInt8.ofNat (48+f),UInt8.ofNat (97+q),UInt8.ofNat (48+t)],true):=by
   rw[m] at j⊢;exact XS j k
  rw[d];simp[aa,aV];simp_all[if_neg,aa,S8,if_pos]
theorem Tc (l:List UInt8) (d:l.length<=1000000): ∃r,jn (mkB l)=some r/\jt (mkB l)=some r/\adE l r:=by
 by_cases h: ∃e:EgT,edOk e/\l=vH e
 ·obtain ⟨e,c,rfl⟩:=h;exact ⟨_,(aaw c).1,(aaw c).2,.inr ⟨rfl,c,rfl⟩⟩
 ·have ⟨m,f,i⟩:=afT l d;have ⟨k,g,j⟩:=afU l d;rcases i with rfl | ⟨-,a,b⟩
  ·rcases j with rfl | ⟨-,a,b⟩
   ·exact ⟨_,f,g,.inl rfl⟩
   grind
  grind
theorem Wu {e:EgT} (h:edOk e) {c:UInt8} (h1:c.toNat≠45) (b:c.toNat<48):c∉vH e:=by
 obtain ⟨-,-,-,f⟩:=id h;rw[HU h];intro a;rcases aI a with a | a
 ·grind[Eh]
 ·have d:(UInt8.ofNat (48+e.2.1.toNat)).toNat=48+e.2.1.toNat:=by have:=h.2.1;simp;omega
  have g:(UInt8.ofNat (97+e.2.2.2.toNat)).toNat=97+e.2.2.2.toNat:=by simp;omega
  have i:(UInt8.ofNat (48+e.2.2.1.toNat)).toNat=48+e.2.2.1.toNat:=by have:=h.2.2.1;simp;omega
  have j:(58:UInt8).toNat=58:=rfl;simp only[List.mem_cons,List.not_mem_nil,or_false] at a;rcases a with a | a | a | a <;> (have:=congrArg UInt8.toNat a;omega)
theorem HV {c:ChT} (h:edOk c.2) {b:UInt8} (h1:b.toNat≠45) (e:b.toNat<48) (d:b.toNat≠43):b∉sb c:=by
 intro a;rcases aB a with a | a
 ·have:=congrArg UInt8.toNat a
  split at this
  ·grind
  grind
 grind[Wu]
theorem Bu {c:UInt8} : ∀ {r:List (List UInt8)} {x:List UInt8},c∉x->(∀y∈r,c∉y)->rz c [] (x++Lib.joinTail [c] r)=x::r
 | [],x,hx,_=>by
  have:Lib.joinTail [c] [] = []:=by simp[Lib.joinTail]
  rw[this,List.append_nil,o9 hx];rfl
 | y::r,x,hx,hr=>by
  have:Lib.joinTail [c] (y::r)=c::(y++Lib.joinTail [c] r):=by simp[Lib.joinTail]
  rw[this,pU hx,Bu (hr y (by simp)) fun z a=>hr z (br _ a)];rfl
theorem Td {l:List ChT} (h:Bt l) (e:l≠ []):rz 32 [] (btx l)=l.map sb:=by
 cases l with
 | nil=>grind
 | cons c r =>
  unfold btx;rw[List.map_cons,Lib.join_cons];refine Bu (HV (h c (by simp)) (by decide) (by decide) (by decide)) fun y b=>?_;obtain ⟨d,a,rfl⟩:=List.mem_map.1 b;exact HV (h d (br _ a)) (by decide) (by decide) (by decide)
theorem Te:btx [] = []:=by simp[btx,Lib.join_nil]
theorem Tf {l:List ChT} (a:l≠ []):btx l≠ []:=by
 cases l with
 | nil=>grind
 | cons c r=>unfold btx;rw[List.map_cons,Lib.join_cons];simp[sb]
def adF (s:List UInt8) (r:(List ChT)×Bool):Prop:=r=([],false)\/r.2=true/\r.1.length<=6/\Bt r.1/\s=btx r.1
theorem Tg {p:List UInt8} (h:1<=p.length):qT (mkB p) 1 (p.length:Int)=some (mkB (p.drop 1)):=by
 have:=slB (l:=p) (a:=1) (b:=p.length) h (ay _)
 grind
theorem rY (p:List UInt8):(mkB p==(⟨#[]⟩:ByteArray))=decide (p= []):=by
 by_cases h:p= []
 ·subst h;rfl
 ·rw[decide_eq_false h,beq_eq_false_iff_ne];intro k;exact h (rX (b:=[]) k)
open Classical in
theorem XV {f:List ChT->Option ByteArray} (d: ∀l,f l=some (if l.length<=6/\Bt l then mkB (btx l) else mkB [])) {b:List ChT} {s:List UInt8} (h:s≠ []): ∃r:(List ChT)×Bool,((f b).bind fun a=>if a !=mkB s then (some (([] :List ChT),false)) else (some (b,true)):Option ((List ChT)×Bool))=some r/\adF s r:=by
 rw[d];simp only[aa];by_cases k:b.length<=6/\Bt b
 ·rw[if_pos k];by_cases c:mkB (btx b)=mkB s
  ·rw[if_neg (by simp[c])];exact ⟨_,rfl,.inr ⟨rfl,k.1,k.2,(rX c).symm⟩⟩
  ·rw[if_pos (by simpa using c)];exact ⟨_,rfl,.inl rfl⟩
 ·rw[if_neg k,if_pos (by
   rw[bne_iff_ne];exact fun c=>h (rX c).symm)]
  exact ⟨_,rfl,.inl rfl⟩
theorem afV (l:List UInt8) (n:l.length<=1000000): ∃r,ic (mkB l)=some r/\(l= [] \/adF l r):=by
 unfold ic;by_cases j:l= []
 ·simp_all[rY,if_pos,decide_eq_true]
 rw[rY,if_neg (by grind)];have d:iM (mkB l) 32=some ((rz 32 [] l).map mkB):=wD l 32 n;rw[d];simp only[aa];have ⟨o,e,q⟩:=bW (f:=eB ((rz 32 [] l).map mkB)) (fun i s=> ∃b:List ChT,s=((i:Int),b)/\b.length=i) (fun o=>o= .ret (([] :List ChT),false)\/ ∃s,o= .brk s) 7 (fun i s x t=>by
  obtain ⟨b,rfl,v⟩:=t;unfold eB;by_cases a:i<((rz 32 [] l).map mkB).length
  ·rw[bu a,if_pos rfl];by_cases w:i<=6
   ·rw[if_pos (decide_eq_true (by omega)),aC a];simp only[aa];rw[List.length_map] at a;have hp:=vI 32 l [] _ (List.getElem_mem a);rw[List.getElem_map];generalize (rz 32 [] l)[i] =p at hp⊢;rw[aV];by_cases u:p.length<2
    ·grind
    ·rw[if_neg (by grind),Tg (by omega)];simp only[aa];obtain ⟨r,c,-,-⟩:=Tc (p.drop 1) (by grind);rw[c];simp only[aa];have h:lD (mkB p) 0=some ((p[0].toNat:Nat):Int):=atB (l:=p) (i:=0) (by omega);by_cases m:r.2=true
     ·rw[if_pos m,h];simp only[aa];have g: ∀z:ChT,bC 40 b [z] =some (b++ [z]):=fun z=>al (by grind);rw[g];exact .inl ⟨by omega,_,rfl,_,by rw[ae (by omega)],by simp;omega⟩
     grind
   ·rw[if_neg (by grind)];grind
  simp_all[if_neg,decide_eq_true_eq]) (s:=(0,([] :List ChT))) ⟨[],rfl,rfl⟩ (cX _ (by omega))
 rcases q with rfl | ⟨s,rfl⟩
 ·rw[aW e];exact ⟨_,rfl,.inr (.inl rfl)⟩
 ·rw[af e];have ⟨r,c,k⟩:=XV (f:=dV) (fun l=>(p7 l).1) (b:=s.2) j;grind
theorem afW (l:List UInt8) (t:l.length<=1000000): ∃r,im (mkB l)=some r/\(l= [] \/adF l r):=by
 unfold im;by_cases n:l= []
 ·simp_all[rY,if_pos,decide_eq_true]
 rw[rY,if_neg (by grind)];have g:dG (mkB l) (⟨#[32]⟩)=some ((rz 32 [] l).map mkB):=HT l 32 t;rw[g];simp only[aa];have w:=HO 32 l [];have ⟨o,e,u⟩:=bW (f:=eE ((rz 32 [] l).map mkB)) (fun i s=> ∃b:List ChT,s=((i:Int),b)/\b.length=i) (fun o=>o= .ret (([] :List ChT),false)\/ ∃s,o= .brk s) (rz 32 [] l).length (fun i s y v=>by
  obtain ⟨b,rfl,x⟩:=v;unfold eE;by_cases a:i<((rz 32 [] l).map mkB).length
  ·rw[bu a,if_pos rfl,aC a];simp only[aa];rw[List.length_map] at a;have hp:=vI 32 l [] _ (List.getElem_mem a);rw[List.getElem_map];generalize (rz 32 [] l)[i] =p at hp⊢;rw[rY,aV];by_cases h:p= []
   ·grind
   ·have c:=List.length_pos_iff.2 h;rw[if_neg (by grind),Tg c];simp only[aa];obtain ⟨r,-,d,-⟩:=Tc (p.drop 1) (by grind);rw[d];simp only[aa];have m:lD (mkB p) 0=some ((p[0].toNat:Nat):Int):=atB (l:=p) (i:=0) (by omega);by_cases q:r.2=true
    ·rw[if_pos q,m];simp only[aa];have j: ∀z:ChT,bC 40 b [z] =some (b++ [z]):=fun z=>al (by grind);rw[j];exact .inl ⟨by omega,_,rfl,_,by rw[ae (by omega)],by simp;omega⟩
    grind
  simp_all[if_neg,decide_eq_true_eq]) (s:=(0,([] :List ChT))) ⟨[],rfl,rfl⟩ (cX _ (by omega))
 rcases u with rfl | ⟨s,rfl⟩
 ·rw[aW e];exact ⟨_,rfl,.inr (.inl rfl)⟩
 ·rw[af e];have ⟨r,d,k⟩:=XV (f:=fN) (fun l=>(p7 l).2) (b:=s.2) n;grind
theorem Ti {L:List ChT} (h:Bt L) (r:L.length<=6) {i:Nat} (hi:i<L.length):eB ((L.map sb).map mkB) ((i:Int),L.take i)=some (.nxt (((i+1:Nat):Int),L.take (i+1)))/\eE ((L.map sb).map mkB) ((i:Int),L.take i)=some (.nxt (((i+1:Nat):Int),L.take (i+1))):=by
 have a:i<((L.map sb).map mkB).length:=by rw[List.length_map,List.length_map];exact hi
 have k:=h _ (List.getElem_mem hi);have e:((L.map sb).map mkB)[i] =mkB (sb L[i]):=by simp
 have ⟨n,m⟩:=aaw k;have q:(sb L[i]).length=(vH L[i].2).length+1:=by rfl
 have o:4<=(vH L[i].2).length:=by rw[HU k];simp
 have g:(sb L[i]).drop 1=vH L[i].2:=rfl;have j:lD (mkB (sb L[i])) 0=some (((if L[i].1 then (43:UInt8) else 45).toNat:Nat):Int):=atB (l:=sb L[i]) (i:=0) (by omega);have d:((((if L[i].1 then (43:UInt8) else 45).toNat:Nat):Int)==43)=L[i].1:=by
  generalize L[i].1=t;cases t <;> rfl
 have c: ∀z:ChT,bC 40 (L.take i) [z] =some (L.take i++ [z]):=fun z=>al (by grind);have f:=List.take_succ_eq_append_getElem hi;have b:=Tg (p:=sb L[i]) (by omega);constructor
 ·unfold eB;rw[bu a,if_pos rfl,if_pos (decide_eq_true (by omega)),aC a,e];simp[aa];rw[aV,if_neg (by grind),b,g];simp[aa];rw[n];simp only[aa];rw[if_pos trivial,j];simp[aa];rw[d,c,ae (by omega),f];rfl
 ·unfold eE;rw[bu a,if_pos rfl,aC a,e];simp only[aa];rw[rY,if_neg (by grind),aV,b,g];simp[aa];rw[m];simp only[aa];rw[if_pos trivial,j];simp[aa];rw[d,c,ae (by omega),f];rfl
theorem aax {L:List ChT} (h:Bt L) (d:L.length<=6):ic (mkB (btx L))=some (L,true)/\im (mkB (btx L))=some (L,true):=by
 by_cases a:L= []
 ·subst a;exact ⟨rfl,rfl⟩
 have j:=Ef h;have e:(btx L).length<=1000000:=by omega
 have ⟨l,g⟩:=p7 L;have k:=aQ (f:=eB ((L.map sb).map mkB)) (fun i=>((i:Int),L.take i)) L.length (fun i b=>(Ti h d b).1) (by
  simp_all[eB,if_neg]) (cX _ (by omega))
 have b:=aQ (f:=eE ((L.map sb).map mkB)) (fun i=>((i:Int),L.take i)) L.length (fun i b=>(Ti h d b).2) (by
  simp_all[eE,if_neg]) (cX _ (by omega))
 constructor
 ·unfold ic;have c:iM (mkB (btx L)) 32=some ((rz 32 [] (btx L)).map mkB):=wD _ 32 e;rw[rY,if_neg (by simpa using Tf a),c,Td h a];grind[af]
 ·unfold im;have c:dG (mkB (btx L)) (⟨#[32]⟩)=some ((rz 32 [] (btx L)).map mkB):=HT _ 32 e;rw[rY,if_neg (by simpa using Tf a),c,Td h a];grind[af]
theorem aay (l:List UInt8) (g:l.length<=1000000): ∃r,ic (mkB l)=some r/\im (mkB l)=some r/\adF l r:=by
 by_cases h: ∃L:List ChT,L.length<=6/\Bt L/\l=btx L
 ·obtain ⟨L,d,f,rfl⟩:=h;exact ⟨_,(aax f d).1,(aax f d).2,.inr ⟨rfl,d,f,rfl⟩⟩
 ·have n:l≠ []:=fun e=>h ⟨[],by simp,fun c p=>by grind,by rw[e,Te]⟩;have ⟨q,m,i⟩:=afV l g;have ⟨s,o,j⟩:=afW l g;rcases i with k | rfl | ⟨-,a,b,c⟩
  ·grind
  ·rcases j with k | rfl | ⟨-,a,b,c⟩
   ·grind
   ·exact ⟨_,m,o,.inl rfl⟩
   grind
  grind
def recT (v:Int) (b:List ChT):List UInt8:=((b6 v b).getD ByteArray.empty).data.toList
theorem vJ (v:Int) (b:List ChT):b6 v b=some (mkB (recT v b))/\gA v b=some (mkB (recT v b))/\(recT v b).length<=1000:=by
 have ⟨r,a,c,h⟩:=Eg v b;grind[mkB,recT,HP,aV]
def totL (r:List Int) (q:List (List ChT)):Nat->Nat
 | 0=>0
 | i+1=>totL r q i+(recT (nth r (i:Int)) (nth q (i:Int))).length
theorem Nv {r:List Int} {q:List (List ChT)} (h:q.length=r.length) (x:List Int) (y:List (List ChT)): ∀i,i<=r.length->totL (r++x) (q++y) i=totL r q i
 | 0,_=>rfl
 | i+1,hi=>by
  rw[totL,totL,Nv h x y i (by omega),dB (by omega) (by omega),dB (by omega) (by omega)]
theorem Tj {r:List Int} {q:List (List ChT)} (h:q.length=r.length) (v:Int) (b:List ChT):totL (r++ [v]) (q++ [b]) (r++ [v]).length=totL r q r.length+(recT v b).length:=by
 have a:nth (r++ [v]) ((r.length:Nat):Int)=v:=by rw[bJ (by simp)];simp
 have c:nth (q++ [b]) ((r.length:Nat):Int)=b:=by rw[<-h,bJ (by simp)];simp
 simp_all[au,aw,aD,Nat.zero_add,totL,Nv,ay]
theorem Ei (l:List UInt8) (d:l.length<=1000000): ∃r:Int×List ChT×Bool,gq (mkB l)=some r/\l6 (mkB l)=some r/\r.2.1.length<=6/\(-999999999<=r.1/\r.1<=999999999)/\(r.2.2=true->recT r.1 r.2.1=l):=by
 unfold gq l6;have f:iM (mkB l) 59=some ((rz 59 [] l).map mkB):=wD l 59 d;have j:dG (mkB l) (⟨#[59]⟩)=some ((rz 59 [] l).map mkB):=HT l 59 d;rw[f,j];by_cases n:(rz 59 [] l).length=3
 ·have hp:=vI 59 l [];have ⟨a,b,c,e⟩:=aeJ n;rw[e] at hp⊢;have g:=hp b (by simp);rw[aD] at g;have p:aO [mkB a,mkB b,mkB c] 0=some (mkB a):=rfl;have o:aO [mkB a,mkB b,mkB c] 1=some (mkB b):=rfl;have ⟨v,z,y,kv⟩:=tN (mkB a);have ⟨q,A,u,k⟩:=aay b (by omega);obtain ⟨t,w,x,-⟩:=Eg v.1 q.1;have s:q.1.length<=6:=by
   rcases k with rfl | ⟨-,k,-⟩
   ·simp
   ·exact k
  by_cases i:v.2=true
  ·by_cases h:q.2=true
   ·by_cases m:(t !=mkB l)=true
    ·simp_all
    ·simp[if_pos i,if_pos h,if_neg m];grind[mkB,vJ,rX,ad]
   simp_all
  simp_all
 ·have k:(((List.map mkB (rz 59 [] l)).length:Int) !=3)=true:=by
   rw[bne_iff_ne,List.length_map];omega
  simp_all
def ScOk (vs:List Int) (bs:List (List ChT)):Prop:=bs.length=vs.length/\(∀b∈bs,b.length<=6)/\ ∀v∈vs,(-999999999<=v/\v<=999999999)/\v<=nth vs ((vs.length:Int) - 1)
theorem Nw (vs:List Int) (v:Int):nth (vs++ [v]) (((vs++ [v]).length:Int) - 1)=v:=by
 simp_all[bJ]
theorem ScOk.push {vs:List Int} {bs:List (List ChT)} (h:ScOk vs bs) {v:Int} {b:List ChT} (i:b.length<=6) (hv: -999999999<=v/\v<=999999999) (g:0<vs.length->v=i64.wrap (nth vs ((vs.length:Int) - 1)+1)):ScOk (vs++ [v]) (bs++ [b]):=by
 have ⟨c,f,e⟩:=h;refine ⟨by grind,fun d a=>?_,fun d a=>?_⟩
 ·grind
 ·rw[Nw];rcases aI a with q | q
  ·grind[List.length_pos_of_mem,bG,bd]
  grind
theorem Ej {l:List UInt8} (g:l.length<=4000) {vs:List Int} {bs:List (List ChT)} {u:Int} : ∀(a r:List UInt8) (i k:Nat),(10:UInt8)∉a->l.drop i=a++r->i<=l.length->ah (aF (mkB l)) (k+a.length) (vs,bs,u,(i:Int))=ah (aF (mkB l)) k (vs,bs,u,((i+a.length:Nat):Int))
 | [],r,i,k,_,_,_=>rfl
 | x::a,r,i,k,hx,e,hi=>by
  have b:i<l.length:=by
   have:=congrArg List.length e
   rw[bq,au,aw] at this;omega
  have h:=List.drop_eq_getElem_cons b;rw[h,List.cons_append] at e;have ⟨d,f⟩:=List.cons.inj e;have j:x.toNat≠10:=fun q=>hx (by
   have:x=10:=UInt8.toNat_inj.1 q
   grind)
  have c:aF (mkB l) (vs,bs,u,(i:Int))=some (.nxt (vs,bs,u,((i+1:Nat):Int))):=by
   unfold aF;rw[aV,bu b,if_pos rfl,if_pos (decide_eq_true (by omega)),atB b,d];simp only[aa];rw[if_pos (by grind),ae (by omega)];rfl
  rw[aw,show k+(a.length+1)=(k+a.length)+1 by omega,ah,c];show ah _ (k+a.length) _=_;rw[Ej g a r (i+1) k (fun q=>hx (br _ q)) f b,show i+1+a.length=i+(a.length+1) by omega]
theorem aaz {l:List UInt8} (C:l.length<=4000): ∀(m p:Nat) (vs:List Int) (bs:List (List ChT)),l.length - p<m->p<=l.length->vs.length<=p->ScOk vs bs->totL vs bs vs.length<=p-> ∃(r:List Int) (q:List (List ChT)) (n:Nat),(∀k,l.length - p+1<=k->(ah (aF (mkB l)) k (vs,bs,(p:Int),(p:Int))=some (.ret (r,q,(n:Int)))\/ ∃i,ah (aF (mkB l)) k (vs,bs,(p:Int),(p:Int))=some (.brk (r,q,(n:Int),i)))/\ah (dz (mkB l)) k (vs,bs,(p:Int))=some (.brk (r,q,(n:Int))))/\n<=l.length/\r.length<=n/\ScOk r q/\totL r q r.length<=n:=by
 intro m;induction m with
 | zero=>omega
 | succ m ih =>
  intro p vs bs W hp hv g B;have u:=g.1;have d:qT (mkB l) (p:Int) (l.length:Int)=some (mkB (l.drop p)):=by
   rw[slB hp (ay _),List.take_length]
  rcases wC 10 (l.drop p) with k | ⟨a,t,e,k⟩
  ·refine ⟨vs,bs,p,fun j D=>⟨.inr ⟨(l.length:Int),?_⟩,?_⟩,hp,hv,g,B⟩
   ·have V:(l.drop p).length=l.length - p:=bq ..;obtain ⟨j,rfl⟩: ∃j',j=(j'+1)+(l.drop p).length:=⟨j - 1 - (l.length - p),by omega⟩;rw[Ej C (l.drop p) [] p (j+1) k (by simp) hp,ah,V,show p+(l.length - p)=l.length by omega]
    have:aF (mkB l) (vs,bs,(p:Int),(l.length:Int))=some (.brk (vs,bs,(p:Int),(l.length:Int))):=by
     unfold aF;simp only[];rw[aV,if_neg (by simp)]
    grind
   ·obtain ⟨j,rfl⟩: ∃j',j=j'+1:=⟨j - 1,by omega⟩
    have:dz (mkB l) (vs,bs,(p:Int))=some (.brk (vs,bs,(p:Int))):=by
     unfold dz;simp only[];have v:gL (mkB (l.drop p)) 10=some (-1):=by
      show some (Lib.indexByte _ 10)=_;rw[gZ,Nu k]
     rw[aV,if_pos (decide_eq_true (by omega)),d];simp only[aa];rw[v];simp only[aa]
     rfl
    rw[ah,this]
  ·have f:(l.drop p).length=l.length - p:=bq ..;rw[e,au,aw] at f;have s:p+a.length<l.length:=by omega
   have J:l[p+a.length] =10:=by
    have:(l.drop p)[a.length]? =some 10:=by rw[e];simp
    rw[List.getElem?_drop,List.getElem?_eq_getElem s] at this;exact ad this
   have ⟨r,N,T,P,F,G⟩:=Ei ((l.take (p+a.length+1)).drop p) (by grind);have A:qT (mkB l) (p:Int) ((p+a.length+1:Nat):Int)=some (mkB ((l.take (p+a.length+1)).drop p)):=slB (by omega) (by omega);have v:gL (mkB (l.drop p)) 10=some (a.length:Int):=by
    show some (Lib.indexByte _ 10)=_;rw[gZ,e,XT k]
   have M:i64.wrap ((i64.wrap ((p:Int)+(a.length:Int)))+1)=((p+a.length+1:Nat):Int):=by
    rw[bd (n:=(p:Int)+(a.length:Int)) (by omega) (by omega),bd (by omega) (by omega)];omega
   have I:i64.wrap ((p:Int)+(i64.wrap ((a.length:Int)+1)))=((p+a.length+1:Nat):Int):=by
    rw[bd (n:=(a.length:Int)+1) (by omega) (by omega),bd (by omega) (by omega)];omega
   have step:(aF (mkB l) (vs,bs,(p:Int),((p+a.length:Nat):Int))=some (.ret (vs,bs,(p:Int)))/\dz (mkB l) (vs,bs,(p:Int))=some (.brk (vs,bs,(p:Int))))\/(aF (mkB l) (vs,bs,(p:Int),((p+a.length:Nat):Int))=some (.nxt (vs++ [r.1],bs++ [r.2.1],((p+a.length+1:Nat):Int),((p+a.length+1:Nat):Int)))/\dz (mkB l) (vs,bs,(p:Int))=some (.nxt (vs++ [r.1],bs++ [r.2.1],((p+a.length+1:Nat):Int)))/\(0<vs.length->r.1=i64.wrap (nth vs ((vs.length:Int) - 1)+1))/\r.2.2=true):=by
    have z:bC 8 vs [r.1] =some (vs++ [r.1]):=al (by grind);have y:bC 24 bs [r.2.1] =some (bs++ [r.2.1]):=al (by grind);unfold aF dz;simp only[];rw[aV,bu s,if_pos rfl,if_pos (decide_eq_true (by omega)),if_pos (decide_eq_true (by omega)),atB s,J,d];simp only[aa];rw[if_neg (by decide),v,ae (show p+a.length<9223372036854775807 by omega),A];simp only[aa];rw[N,if_neg (by simp),M,I,A];simp only[aa];rw[T];simp only[aa];by_cases c:r.2.2=true
    ·rw[if_pos c,if_pos c];by_cases b:decide ((vs.length:Int)>0)=true
     ·rw[if_pos b,if_pos b];have X:0<vs.length:=by simpa using b
      rw[fw (by omega),ai (xs:=vs) (by omega) (by omega)];simp only[aa];by_cases o:(r.1 !=i64.wrap (nth vs ((vs.length:Int) - 1)+1))=true
      ·rw[if_pos o,if_pos o];exact .inl ⟨rfl,rfl⟩
      ·rw[if_neg o,if_neg o,z,y];exact .inr ⟨rfl,rfl,(fun _=>by grind),c⟩
     ·rw[if_neg b,if_neg b,z,y];exact .inr ⟨rfl,rfl,(fun h=>absurd (decide_eq_true (show (vs.length:Int)>0 by omega)) b),c⟩
    ·rw[if_neg c,if_neg c];exact .inl ⟨rfl,rfl⟩
   rcases step with ⟨x,w⟩ | ⟨x,w,H,O⟩
   ·refine ⟨vs,bs,p,fun j D=>⟨.inl ?_,?_⟩,hp,hv,g,B⟩
    ·obtain ⟨j,rfl⟩: ∃j',j=(j'+1)+a.length:=⟨j - 1 - a.length,by omega⟩;simp_all[Ej,ah]
    ·obtain ⟨j,rfl⟩: ∃j',j=j'+1:=⟨j - 1,by omega⟩;rw[ah,w]
   ·have L:totL (vs++ [r.1]) (bs++ [r.2.1]) (vs++ [r.1]).length<=p+a.length+1:=by
     rw[Tj u,G O,bq,az];omega
    have ⟨R,Q,n,S,E,U,K⟩:=ih (p+a.length+1) (vs++ [r.1]) (bs++ [r.2.1]) (by omega) (by omega) (by grind) (g.push P F H) L;refine ⟨R,Q,n,fun j D=>⟨?_,?_⟩,E,U,K⟩
    ·obtain ⟨j,rfl⟩: ∃j',j=(j'+1)+a.length:=⟨j - 1 - a.length,by omega⟩;rw[Ej C a (10::t) p (j+1) k e hp,ah,x];exact (S j (by omega)).1
    ·obtain ⟨j,rfl⟩: ∃j',j=j'+1:=⟨j - 1,by omega⟩;grind[ah]
theorem pa (l:List UInt8) (o:l.length<=1000000000): ∃(r:List Int) (q:List (List ChT)) (n:Nat),m_s_ScanLog (mkB l)=some (r,q,(n:Int))/\m_i_ScanLog (mkB l)=some (r,q,(n:Int))/\n<=l.length/\r.length<=4000/\ScOk r q/\totL r q r.length<=n:=by
 unfold m_s_ScanLog m_i_ScanLog;by_cases h:l.length<=4000
 ·have ⟨r,q,n,f,g,m,j⟩:=aaz h (l.length+1) 0 [] [] (by omega) (by omega) (by simp) ⟨rfl,fun b c=>(by cases c),fun b c=>(by cases c)⟩ (Nat.zero_le _);have ⟨a,d⟩:=f aR (cX _ (by omega));have d:ah (dz (mkB l)) aR (([] :List Int),([] :List (List ChT)),0)=some (.brk (r,q,(n:Int))):=d;refine ⟨r,q,n,?_,?_,g,by omega,j⟩
  ·rcases a with a | ⟨i,a⟩
   ·have a:ah (aF (mkB l)) aR (([] :List Int),([] :List (List ChT)),0,0)=_:=a;rw[aW a]
   ·have a:ah (aF (mkB l)) aR (([] :List Int),([] :List (List ChT)),0,0)=_:=a;rw[af a]
  ·rw[af d]
 ·have p:=cX 100 (by omega);have ⟨k,e⟩: ∃k,aR=k+1:=⟨aR - 1,by omega⟩;have a:ah (aF (mkB l)) aR (([] :List Int),([] :List (List ChT)),0,0)=some (.brk ([],[],0,0)):=by
   rw[e,ah]
   have:aF (mkB l) (([] :List Int),([] :List (List ChT)),0,0)=some (.brk ([],[],0,0)):=by
    unfold aF;simp only[];rw[aV,if_pos (decide_eq_true (by omega)),if_neg (by grind)]
   grind
  have d:ah (dz (mkB l)) aR (([] :List Int),([] :List (List ChT)),0)=some (.brk ([],[],0)):=by
   rw[e,ah]
   have:dz (mkB l) (([] :List Int),([] :List (List ChT)),0)=some (.brk ([],[],0)):=by
    unfold dz;rw[aV,if_neg (by grind)]
   grind
  rw[af a,af d];exact ⟨[],[],0,rfl,rfl,by omega,by simp,⟨rfl,fun b c=>(by cases c),fun b c=>(by cases c)⟩,ay _⟩
abbrev EngT:=rZ×pZ×List ux×ByteArray
theorem Nx {h:rZ} {r:pZ} {ss:List ux} {lg:ByteArray} {v:Int} (hs:aL h=some v) (a:r.2.length<=1048576) (f:ss.length<=1048576) {i:Nat} (h1:i<ss.length) :
  dj (h,r,ss,lg) v (i:Int)=cj (h,r,ss,lg) (i:Int)/\(cj (h,r,ss,lg) (i:Int)=some (.nxt ((i+1:Nat):Int))\/cj (h,r,ss,lg) (i:Int)=some (.ret false)):=by
 obtain ⟨k,b,e,-⟩:=sY r ss[i].2.1 a;have d:i64.wrap ((i:Int)+1)=((i+1:Nat):Int):=ae (by omega);unfold dj cj;simp only[fx,bu h1,if_true,aC h1,aa,xm,Ep,b,e,hs,d];by_cases c:decide ((i:Int)>0)=true
 ·have g:aO ss (i64.wrap ((i:Int) - 1))=some (nth ss ((i:Int) - 1)):=by
   have:(i:Int)>0:=of_decide_eq_true c
   rw[fw (by omega),ai (by omega) (by omega)]
  simp only[if_pos c,g,aa];refine ⟨trivial,?_⟩
  repeat' split
  all_goals first | exact .inr rfl | exact .inl rfl
 ·simp only[if_neg c];refine ⟨trivial,?_⟩
  repeat' split
  all_goals first | exact .inr rfl | exact .inl rfl
theorem Wv {h:rZ} {r:pZ} {ss:List ux} {lg:ByteArray} {v:Int} (hs:aL h=some v) (q:r.2.length<=1048576) (p:ss.length<=1048576): ∃o,ah (cj (h,r,ss,lg)) aR 0=some o/\ah (dj (h,r,ss,lg) v) aR 0=some o/\(o= .ret false\/ ∃s,o= .brk s):=by
 have d:cj (h,r,ss,lg) (ss.length:Int)=some (.brk (ss.length:Int)):=by
  unfold cj;simp only[];rw[bE];rfl
 have j:dj (h,r,ss,lg) v (ss.length:Int)=some (.brk (ss.length:Int)):=by
  unfold dj;simp only[];rw[bE];rfl
 obtain ⟨o,e,t⟩:=bW (f:=cj (h,r,ss,lg)) (fun i s=>s=(i:Int)) (fun o=>o= .ret false\/ ∃s,o= .brk s) ss.length (fun i s u n=>by
  subst n;by_cases l:i<ss.length
  ·rcases (Nx (lg:=lg) hs q p l).2 with k | k
   ·exact .inl ⟨l,_,k,rfl⟩
   ·exact .inr ⟨_,k,fun m h=>(by simp at h),.inl rfl⟩
  ·obtain rfl:i=ss.length:=by omega
   exact .inr ⟨_,d,fun m h=>(by simp at h),.inr ⟨_,rfl⟩⟩) (s:=(0:Int)) rfl (cX _ (by omega))
 refine ⟨o,e,?_,t⟩;rw[<-e];refine wx (f:=cj (h,r,ss,lg)) (g:=dj (h,r,ss,lg) v) (fun i s=>s=(i:Int)/\i<=ss.length) (fun i s n=>?_) aR 0 0 ⟨rfl,Nat.zero_le _⟩;obtain ⟨rfl,u⟩:=n;by_cases l:i<ss.length
 ·obtain ⟨a,b⟩:=Nx (lg:=lg) hs q p l;refine ⟨a,fun m c=>?_⟩;rcases b with b | b
  ·rw[b] at c;obtain rfl:=ad c |> Out.nxt.inj;exact ⟨rfl,l⟩
  ·rw[b] at c;simp at c
 ·obtain rfl:i=ss.length:=by omega
  exact ⟨by rw[d,j],fun m c=>by rw[d] at c;simp at c⟩
structure EngOk (e:EngT):Prop where
 hs:m_s_IsValidHistory e.1=some true
 hi:m_i_IsValidHistory e.1=some true
 hb:(1<=e.1.2.length/\e.1.2.length<=8)/\1<=e.1.1/\e.1.1<=1000 - (e.1.2.length:Int)
 reg:RegOk e.2.1
 sub:e.2.2.1.length<=4
 log:e.2.2.2.size<=4000
 sc: ∃(r:List Int) (q:List (List ChT)) (n:Nat),m_s_ScanLog e.2.2.2=some (r,q,(n:Int))/\m_i_ScanLog e.2.2.2=some (r,q,(n:Int))/\r.length<=4000/\ScOk r q/\totL r q r.length<=4000/\(r.length=0\/nth r ((r.length:Int) - 1)=latV e.1)
theorem zQ (e:EngT) (G:Data.sm e): ∃b,bw e=some b/\dK e=some b/\(b=true->EngOk e):=by
 obtain ⟨h,r,ss,lg⟩:=e;obtain ⟨N,D,w,d⟩:=G;obtain ⟨J,k,m,u⟩:=jM h N;obtain ⟨L,H,K,B⟩:=oq D;have d:lg.size<=1048576:=d;obtain ⟨l,rfl⟩:=F6 lg;have f:(mkB l).size=l.length:=aV l;have Q:l.length<=1048576:=by rw[<-f];exact d
 unfold bw dK tq vU;simp only[fx,k,m,H,K,aa,f];cases J with
 | false=>exact ⟨false,rfl,rfl,fun c=>by cases c⟩
 | true =>
  cases L with
  | false=>exact ⟨false,rfl,rfl,fun c=>by cases c⟩
  | true =>
   obtain ⟨x,I⟩:=jN k m (u rfl);obtain ⟨o,M,F,v⟩:=Wv (h:=h) (r:=r) (ss:=ss) (lg:=mkB l) x (aP D.2).1 (aP w).1;obtain ⟨a,y,n,p,t,O,E,z,P⟩:=pa l (by omega);simp only[if_true,x,I,p,t,aa,M,F];by_cases C:(ss.length:Int)<=4
   ·rw[if_neg (show¬decide ((ss.length:Int)>4)=true by rw[decide_eq_true_eq];omega),decide_eq_true C];by_cases A:(l.length:Int)<=4000
    ·rw[if_neg (show¬decide ((l.length:Int)>4000)=true by rw[decide_eq_true_eq];omega)];rcases v with rfl | ⟨s,rfl⟩
     ·exact ⟨false,rfl,rfl,fun c=>by cases c⟩
     ·simp only[aM,if_true,aa];by_cases g:((n:Int)==(l.length:Int))=true
      ·simp only[if_pos g,if_pos (decide_eq_true A)];by_cases j:((a.length:Int)==0)=true
       ·simp only[if_pos j,aa];exact ⟨true,rfl,rfl,fun _=>⟨k,m,u rfl,B rfl,by show ss.length<=4;omega,by show (mkB l).size<=4000;omega,a,y,n,p,t,E,z,by omega,.inl (by have:=eq_of_beq j;omega)⟩⟩
       ·have hp:0<a.length:=by
         rcases Nat.eq_zero_or_pos a.length with q | q
         ·exact absurd (by rw[q];rfl) j
         ·exact q
        simp only[if_neg j,fw (show a.length<=9223372036854775807 by omega),ai (xs:=a) (i:=(a.length:Int) - 1) (by omega) (by omega),aa];refine ⟨_,rfl,rfl,fun c=>⟨k,m,u rfl,B rfl,by show ss.length<=4;omega,by show (mkB l).size<=4000;omega,a,y,n,p,t,E,z,by omega,.inr (eq_of_beq c)⟩⟩
      ·simp only[if_neg g,aa];exact ⟨false,rfl,rfl,fun c=>by cases c⟩
    ·rw[if_pos (decide_eq_true (show (l.length:Int)>4000 by omega))];rcases v with rfl | ⟨s,rfl⟩
     ·exact ⟨false,rfl,rfl,fun c=>by cases c⟩
     ·simp only[aM,if_true,aa];by_cases g:((n:Int)==(l.length:Int))=true
      ·simp only[if_pos g,if_neg (show¬decide ((l.length:Int)<=4000)=true by rw[decide_eq_true_eq];exact A),aa];exact ⟨false,rfl,rfl,fun c=>by cases c⟩
      ·simp only[if_neg g,aa];exact ⟨false,rfl,rfl,fun c=>by cases c⟩
   ·rw[if_pos (decide_eq_true (show (ss.length:Int)>4 by omega)),decide_eq_false C];rcases v with rfl | ⟨s,rfl⟩
    ·exact ⟨false,rfl,rfl,fun c=>by cases c⟩
    ·exact ⟨false,rfl,rfl,fun c=>by cases c⟩
def SubP (r:pZ) (L:Int) (ss:List ux) (i:Nat):Prop:=(1<=(nth ss (i:Int)).1/\(nth ss (i:Int)).1<=99)/\(0<i->(nth ss ((i:Int) - 1)).1<(nth ss (i:Int)).1)/\(∃q∈r.2,q.1=(nth ss (i:Int)).2.1)/\0<=(nth ss (i:Int)).2.2/\(nth ss (i:Int)).2.2<=L
theorem XW (r:pZ) (id:Int) (b:r.2.length<=1048576): ∃k,ct r id=some k/\(k<0↔ ¬ ∃q∈r.2,q.1=id):=by
 rcases acS r id b with ⟨e,h⟩ | ⟨i,d,e,h⟩
 ·exact ⟨_,e,fun _ ⟨q,f,a⟩=>h q f a,fun _=>by decide⟩
 ·exact ⟨_,e,fun c=>by omega,fun c=>absurd ⟨_,List.getElem_mem d,h⟩ c⟩
open Classical in
theorem Tk {h:rZ} {r:pZ} {ss:List ux} (lg:ByteArray) {L:Int} (hs:aL h=some L) (n:r.2.length<=1048576) (p:ss.length<=1048576) {i:Nat} (h1:i<ss.length):cj (h,r,ss,lg) (i:Int)=some (if SubP r L ss i then .nxt ((i+1:Nat):Int) else .ret false):=by
 obtain ⟨k,l,g⟩:=XW r (nth ss (i:Int)).2.1 n;have m:aO ss (i:Int)=some (nth ss (i:Int)):=ai (by omega) (by omega);have o:i64.wrap ((i:Int)+1)=((i+1:Nat):Int):=ae (by omega);have tail: ∀c:(1<=(nth ss (i:Int)).1/\(nth ss (i:Int)).1<=99)/\(0<i->(nth ss ((i:Int) - 1)).1<(nth ss (i:Int)).1),(if decide (k<0)=true then some (Out.ret false) else ((some (decide (0<=(nth ss (i:Int)).2.2/\(nth ss (i:Int)).2.2<=L))).bind fun x=>if x=true then some (Out.nxt ((i+1:Nat):Int)) else some (Out.ret false)):Option (Out Bool Int))=some (if SubP r L ss i then .nxt ((i+1:Nat):Int) else .ret false):=by
  intro c;by_cases b:k<0
  ·rw[if_pos (decide_eq_true b),if_neg (fun hp=>g.1 b hp.2.2.1)]
  ·rw[if_neg (by simpa using b)];by_cases d:0<=(nth ss (i:Int)).2.2/\(nth ss (i:Int)).2.2<=L
   ·simp only[decide_eq_true d,aa,if_true];rw[if_pos ⟨c.1,c.2,Classical.not_not.1 (mt g.2 b),d⟩]
   ·simp only[decide_eq_false d,aa,Bool.false_eq_true,if_false];rw[if_neg (fun hp=>d hp.2.2.2)]
 unfold cj;simp only[fx,bu h1,if_true,m,aa,xm,l,hs,o];by_cases a:1<=(nth ss (i:Int)).1/\(nth ss (i:Int)).1<=99
 ·simp only[decide_eq_true a,if_true];by_cases e:(i:Int)>0
  ·have j:aO ss (i64.wrap ((i:Int) - 1))=some (nth ss ((i:Int) - 1)):=by
    rw[fw (by omega),ai (by omega) (by omega)]
   simp only[decide_eq_true e,if_true,j,aa];by_cases f:(nth ss ((i:Int) - 1)).1≥(nth ss (i:Int)).1
   ·simp only[decide_eq_true f,if_true];rw[if_neg (fun hp=>by have:=hp.2.1 (by omega);omega)]
   ·simp only[decide_eq_false f,Bool.false_eq_true,if_false];exact tail ⟨a,fun _=>by omega⟩
  ·simp only[decide_eq_false e,Bool.false_eq_true,if_false];exact tail ⟨a,fun h=>absurd h (by omega)⟩
 ·simp only[decide_eq_false a,Bool.false_eq_true,if_false];rw[if_neg (fun hp=>a hp.1)]
structure EV (e:EngT):Prop where
 his:m_s_IsValidHistory e.1=some true
 reg:m_s_IsValidRegistry e.2.1=some true
 len:e.2.2.1.length<=4
 sub: ∀i,i<e.2.2.1.length->SubP e.2.1 (latV e.1) e.2.2.1 i
 log: ∃r q,m_s_ScanLog e.2.2.2=some (r,q,(e.2.2.2.size:Int))/\e.2.2.2.size<=4000/\(r.length=0\/nth r ((r.length:Int) - 1)=latV e.1)
open Classical in
theorem Ek (e:EngT) (K:Data.sm e): ∃b,bw e=some b/\(b=true↔EV e):=by
 obtain ⟨h,r,j,d⟩:=e;obtain ⟨Q,G,A,s⟩:=K;obtain ⟨N,p,y,M⟩:=jM h Q;obtain ⟨P,u,X,T⟩:=oq G;have s:d.size<=1048576:=s;obtain ⟨l,m⟩:=F6 d;have J:d.size=l.length:=by rw[m];exact aV l
 unfold bw tq vU;simp only[fx,p,u,aa];cases N with
 | false=>exact ⟨false,rfl,fun c=>(by cases c),fun V=>by have:=V.his;rw[p] at this;cases this⟩
 | true =>
  cases P with
  | false=>exact ⟨false,rfl,fun c=>(by cases c),fun V=>by have:=V.reg;rw[u] at this;cases this⟩
  | true =>
   obtain ⟨C,-⟩:=jN p y (M rfl);have I:j.length<=1048576:=(aP A).1;have O:=Ln (f:=cj (h,r,j,d)) j.length (SubP r (latV h) j) false (by omega) (fun i R=>Tk d C (aP G.2).1 I R) (by
    unfold cj;simp only[];rw[bE];rfl)
   obtain ⟨g,D,n,k,-,U,Y,S,W⟩:=pa l (by omega);rw[<-m] at k;simp only[if_true,C,k,aa];rcases O with ⟨z,v⟩ | ⟨z,v⟩
   ·rw[af z];simp only[aa];by_cases F:(j.length:Int)<=4
    ·rw[if_pos (decide_eq_true F)];by_cases x:((n:Int)==(d.size:Int))=true
     ·have o:n=d.size:=by have:=eq_of_beq x;omega
      rw[if_pos x];by_cases E:(d.size:Int)<=4000
      ·rw[if_pos (decide_eq_true E)];by_cases t:((g.length:Int)==0)=true
       ·rw[if_pos t];exact ⟨true,rfl,fun _=>⟨p,u,(by show j.length<=4;omega),v,g,D,(by rw[<-o];exact k),(by show d.size<=4000;omega),.inl (by have:=eq_of_beq t;omega)⟩,fun _=>rfl⟩
       ·have hp:0<g.length:=by
         rcases Nat.eq_zero_or_pos g.length with q | q
         ·exact absurd (by rw[q];rfl) t
         ·exact q
        rw[if_neg t,fw (show g.length<=9223372036854775807 by omega),ai (xs:=g) (i:=(g.length:Int) - 1) (by omega) (by omega)];simp only[aa];refine ⟨_,rfl,fun c=>⟨p,u,(by show j.length<=4;omega),v,g,D,(by rw[<-o];exact k),(by show d.size<=4000;omega),.inr (eq_of_beq c)⟩,fun V=>?_⟩;obtain ⟨L,H,a,-,w⟩:=V.log;have a:m_s_ScanLog d=_:=a;rw[k] at a;have a:=ad a;simp only[Prod.mk.injEq] at a;obtain ⟨rfl,-,-⟩:=a;rcases w with w | w
        ·omega
        ·exact beq_iff_eq.2 w
      ·rw[if_neg (by simpa using E)];exact ⟨false,rfl,fun c=>(by cases c),fun V=>by
        obtain ⟨-,-,-,B,-⟩:=V.log;have B:d.size<=4000:=B;omega⟩
     ·rw[if_neg x];exact ⟨false,rfl,fun c=>(by cases c),fun V=>by
       obtain ⟨L,H,a,-,-⟩:=V.log;have a:m_s_ScanLog d=_:=a;rw[k] at a;have a:=ad a;simp only[Prod.mk.injEq] at a;exact absurd (beq_iff_eq.2 a.2.2) x⟩
    ·rw[if_neg (by simpa using F)];exact ⟨false,rfl,fun c=>(by cases c),fun V=>by
      have:j.length<=4:=V.len
      omega⟩
   ·rw[aW z];exact ⟨false,rfl,fun c=>(by cases c),fun V=>absurd V.sub v⟩
theorem adG {e:EngT} (d:Data.sm e) (V:EV e):bw e=some true/\dK e=some true:=by
 obtain ⟨b,a,k⟩:=Ek e d;obtain ⟨c,f,g,-⟩:=zQ e d;rw[a] at f;obtain rfl:=ad f;obtain rfl:=k.2 V;exact ⟨a,g⟩
theorem aeK {e:EngT} (c:Data.sm e) (h:bw e=some true):EV e:=by
 obtain ⟨b,a,k⟩:=Ek e c;rw[h] at a;exact k.1 (ad a).symm
theorem zR (h:rZ) (y:Data.sm h):m_s_IsValidHistory h=some true↔(∀g∈h.2,Xz g/\g.1=(nth h.2 0).1)/\(1<=h.2.length/\h.2.length<=8)/\1<=h.1/\h.1<=1000 - (h.2.length:Int):=by
 obtain ⟨z,o⟩:=aP y.2;have v:i64.wrap ((i64.wrap (999 - (h.2.length:Int)))+1)=1000 - (h.2.length:Int):=by
  rw[bd (n:=999 - (h.2.length:Int)) (by omega) (by omega),bd (by omega) (by omega)];omega
 have j: ∀g∈h.2,(okG h g↔Xz g/\g.1=(nth h.2 0).1):=fun g d=>by
  have p:=o g d;obtain ⟨b,e,k⟩:=rv g (aP p.1).1 (aP p.2).1;unfold okG;rw[e];constructor
  ·rintro ⟨a,c⟩;exact ⟨k.1 (ad a),c⟩
  ·rintro ⟨a,c⟩;rw[k.2 a];exact ⟨rfl,c⟩
 have x:=scan (f:=bH h) h.2 (okG h) false (by omega) (fun i A=>by
  have d:=o _ (bG (xs:=h.2) (i:=(i:Int)) (by omega) (by omega));obtain ⟨b,e⟩:=wz d;obtain ⟨r,t,s⟩:=AO (nth h.2 (i:Int)).1 (nth h.2 0).1 (aP d.1).1;have w:aY ((nth h.2 (i:Int)).1,(nth h.2 (i:Int)).2)=some b:=by rw[lV];exact e
  have m:okG h (nth h.2 (i:Int))↔b=true/\(nth h.2 (i:Int)).1=(nth h.2 0).1:=by unfold okG;rw[e];simp
  unfold bH;rw[if_pos (by simp;omega),ai (by omega) (by omega)];simp only[aa];rw[w,ai (xs:=h.2) (i:=0) (by omega) (by omega)];simp only[aa];rw[t,ae (by omega)];simp only[aa];cases b with
  | false=>rw[if_neg (by decide),if_neg (fun c=>by cases (m.1 c).1)]
  | true =>
   rw[if_pos rfl];by_cases c:r=0
   ·rw[if_neg (by simp[c]),if_pos (m.2 ⟨rfl,s.1 c⟩)]
   ·rw[if_pos (by simpa using c),if_neg (fun k=>c (s.2 (m.1 k).2))]) (by unfold bH;simp)
 unfold m_s_IsValidHistory;rw[xm,xm,v];simp only[aa];rcases x with ⟨l,k⟩ | ⟨l,k⟩
 ·rw[af l];have u: ∀g∈h.2,Xz g/\g.1=(nth h.2 0).1:=fun g d=>(j g d).1 (k g d);by_cases q:(1:Int)<=(h.2.length:Int)/\(h.2.length:Int)<=8
  ·rw[if_pos (decide_eq_true q)];simp only[Option.some.injEq,decide_eq_true_eq];exact ⟨fun c=>⟨u,by omega,c⟩,fun c=>c.2.2⟩
  ·rw[if_neg (by simpa using q)];exact ⟨fun c=>(by cases c),fun c=>absurd c.2.1 (by omega)⟩
 ·rw[aW l];exact ⟨fun c=>(by cases c),fun c=>absurd (fun g d=>(j g d).2 (c.1 g d)) k⟩
theorem HW (h:rZ) (c:Data.sm h):mG h=some h:=by
 obtain ⟨g,d⟩:=aP c.2;have e:=aQ (f:=fy h) (fun i=>((i:Int),h.1,h.2.take i)) h.2.length (fun i a=>by
  have e:b7 (h.2[i].1,h.2[i].2)=some h.2[i]:=qS h.2[i] (d _ (List.getElem_mem a));have b: ∀z:GrT,bC 48 (h.2.take i) [z] =some (h.2.take i++ [z]):=fun z=>al (by rw[az];simp only[aw,aD];omega);unfold fy;simp only[];rw[bu a,if_pos rfl,aC a];simp only[aa];rw[e];simp only[aa];rw[b,ae (by omega),List.take_succ_eq_append_getElem a];rfl) (by
  unfold fy;simp only[];rw[bE];rfl) (cX _ (by omega))
 rw[List.take_length] at e;have e:ah (fy h) aR (0,h.1,[])=_:=e;unfold mG;rw[af e]
theorem Tl (h:rZ) (c:Data.sm h):kM h=some h:=by
 obtain ⟨g,d⟩:=aP c.2;have e:=aQ (f:=gQ h) (fun i=>((i:Int),h.1,h.2.take i)) h.2.length (fun i a=>by
  have e:jw (h.2[i].1,h.2[i].2)=some h.2[i]:=Lr h.2[i] (d _ (List.getElem_mem a));have b: ∀z:GrT,bC 48 (h.2.take i) [z] =some (h.2.take i++ [z]):=fun z=>al (by rw[az];simp only[aw,aD];omega);unfold gQ;simp only[];rw[bu a,if_pos rfl,aC a];simp only[aa];rw[e];simp only[aa];rw[b,ae (by omega),List.take_succ_eq_append_getElem a];rfl) (by
  unfold gQ;simp only[];rw[bE];rfl) (cX _ (by omega))
 rw[List.take_length] at e;have e:ah (gQ h) aR (0,h.1,[])=_:=e;unfold kM;rw[af e]
theorem tO (e:EngT) (c:Data.sm e):ko e=some e:=by
 obtain ⟨b,a,d,g⟩:=c;have f:=(aP d).1;unfold ko;simp only[fx,HW e.1 b,SL e.2.1 a,aa];rw[al (by simp;omega)];rfl
theorem Tm (e:EngT) (c:Data.sm e):lR e=some e:=by
 obtain ⟨b,a,d,g⟩:=c;have f:=(aP d).1;unfold lR;simp only[fx,Tl e.1 b,aam e.2.1 a,aa];rw[al (by simp;omega)];rfl
theorem Tn {α:Type} [Data α] {l:List α} (h:Data.sm l) (n:Nat):Data.sm (l.drop n):=
 ⟨by have:=(aP h).1;rw[bq];omega,fun x a=>(aP h).2 x (List.mem_of_mem_drop a)⟩
theorem JO (h:rZ) (a:Data.sm h) (v:Int): ∃x:rZ×Bool,cH h v=some x/\jX h v=some x/\Data.sm x.1/\(m_s_IsValidHistory h=some true->h.1<=v->v<=latV h->x.2=true):=by
 obtain ⟨b,d,e,k⟩:=jM h a;unfold cH jX mw;simp only[fx,HW h a,Tl h a,d,e,aa];cases b with
 | false=>exact ⟨(h,false),rfl,rfl,a,fun c=>by simp at c⟩
 | true =>
  have f:=k rfl;obtain ⟨o,q⟩:=jN d e f;simp only[if_true,o,q,aa,xm,Ep];by_cases c:h.1<=v/\v<=latV h
  ·have g:=c;unfold latV at g;have j:=(aP a.2).2 _ (bG (xs:=h.2) (i:=v - h.1) (by omega) (by omega));rw[decide_eq_true c,bd (n:=v - h.1) (by omega) (by omega)];simp only[if_true];rw[ai (by omega) (by omega)];simp only[fx,aa];rw[Lr _ j];have p:chk (0<=v - h.1/\v - h.1<=(h.2.length:Int))=some ():=by
    unfold chk;rw[if_pos ⟨by omega,by omega⟩]
   simp only[aa,if_true,p];exact ⟨_,rfl,rfl,⟨trivial,Tn a.2 _⟩,fun _ _ _=>rfl⟩
  ·rw[decide_eq_false c];exact ⟨(h,false),rfl,rfl,a,fun _ l m=>absurd ⟨l,m⟩ c⟩
def Bv (v:Int) (r:List Int) (q:List (List ChT)):Nat->List UInt8
 | 0=>[]
 | i+1=>Bv v r q i++if nth r (i:Int)>v then recT (nth r (i:Int)) (nth q (i:Int)) else []
theorem tP (v:Int) (r:List Int) (q:List (List ChT)): ∀i,(Bv v r q i).length<=totL r q i
 | 0=>ay _
 | i+1=>by
  have:=tP v r q i
  rw[Bv,totL,au];split
  ·omega
  ·simp;omega
theorem LG (r:List Int) (q:List (List ChT)): ∀i,totL r q i<=1000*i
 | 0=>ay _
 | i+1=>by
  have:=LG r q i
  have:=(vJ (nth r (i:Int)) (nth q (i:Int))).2.2
  rw[totL];omega
theorem JP {v:Int} {r:List Int} {q:List (List ChT)} (h: ∀x∈r,x<=v): ∀i,i<=r.length->Bv v r q i= []
 | 0,_=>rfl
 | i+1,hi=>by
  have:=h _ (bG (xs:=r) (i:=(i:Int)) (by omega) (by omega))
  rw[Bv,JP h i (by omega),if_neg (by omega)];rfl
theorem aaA {v:Int} {r:List Int} {q:List (List ChT)} {n:Int} (j:q.length=r.length) (d:r.length<=4000):ah (na v (r,q,n)) aR ((⟨#[]⟩:ByteArray),0,q)=some (.brk (mkB (Bv v r q r.length),(r.length:Int),q)):=by
 refine aQ (f:=na v (r,q,n)) (fun i=>(mkB (Bv v r q i),(i:Int),q)) r.length (fun i b=>?_) ?_ (cX _ (by omega))
 ·have a:=(vJ (nth r (i:Int)) (nth q (i:Int))).1;have e:=(vJ (nth r (i:Int)) (nth q (i:Int))).2.2;have g:=tP v r q i;have h:=LG r q i;unfold na;simp only[];rw[bu b,if_pos rfl,ai (xs:=r) (i:=(i:Int)) (by omega) (by omega)];simp only[aa];by_cases c:nth r (i:Int)>v
  ·rw[if_pos (decide_eq_true c),ai (xs:=q) (i:=(i:Int)) (by omega) (by omega)];simp only[aa];rw[a];simp only[aa];rw[zT _ _ (by omega),ae (by omega),Bv,if_pos c];rfl
  ·rw[if_neg (by simpa using c),ae (by omega),Bv,if_neg c,List.append_nil];rfl
 ·unfold na;simp only[];rw[bE];rfl
theorem aeL {v:Int} {r:List Int} {q:List (List ChT)} {n f:Int} {g:List GrT} {a:List AutT} {qs:List QT} {ss:List ux} (l:q.length=r.length) (j:r.length<=4000):ah (fv v (r,q,n)) aR (0,q,f,g,a,qs,ss,(⟨#[]⟩:ByteArray))=some (.brk ((r.length:Int),q,f,g,a,qs,ss,mkB (Bv v r q r.length))):=by
 refine aQ (f:=fv v (r,q,n)) (fun i=>((i:Int),q,f,g,a,qs,ss,mkB (Bv v r q i))) r.length (fun i d=>?_) ?_ (cX _ (by omega))
 ·have b:=(vJ (nth r (i:Int)) (nth q (i:Int))).2.1;have e:=(vJ (nth r (i:Int)) (nth q (i:Int))).2.2;have h:=tP v r q i;have k:=LG r q i;unfold fv;simp only[];rw[bu d,if_pos rfl,ai (xs:=r) (i:=(i:Int)) (by omega) (by omega)];simp only[aa];by_cases c:nth r (i:Int)>v
  ·rw[if_pos (decide_eq_true c),ai (xs:=q) (i:=(i:Int)) (by omega) (by omega)];simp only[aa];rw[b];simp only[aa];rw[zT _ _ (by omega)];simp only[aa];rw[ae (by omega),Bv,if_pos c]
  ·rw[if_neg (by simpa using c)];simp only[aa];rw[ae (by omega),Bv,if_neg c,List.append_nil]
 ·unfold fv;simp only[];rw[bE];rfl
theorem JQ (e:EngT) (d:Data.sm e) (v:Int): ∃x:EngT×Bool,bQ e v=some x/\lq e v=some x/\Data.sm x.1/\(bw e=some true->v=latV e.1-> ∃y:rZ×Bool,cH e.1 v=some y/\x=((y.1,e.2.1,e.2.2.1,mkB []),true)):=by
 obtain ⟨b,w,z,k⟩:=zQ e d;obtain ⟨y,t,A,y3,y4⟩:=JO e.1 d.1 v;unfold bQ lq;simp only[fx,tO e d,Tm e d,w,z,t,A,aa];cases b with
 | false=>exact ⟨(e,false),rfl,rfl,d,fun c=>by simp at c⟩
 | true =>
  have j:=k rfl;obtain ⟨r,q,n,o,p,m,i,C,h⟩:=j.sc;simp only[if_true];by_cases c:y.2=true
  ·have u:=aaA (v:=v) (n:=n) i.1 m;have s:=aeL (v:=v) (n:=n) (f:=y.1.1) (g:=y.1.2) (a:=e.2.1.1) (qs:=e.2.1.2) (ss:=e.2.2.1) i.1 m;have B:=tP v r q r.length;unfold pW;simp only[if_pos c,o,p,aa,u,s,aM,fx];refine ⟨_,rfl,rfl,⟨y3,d.2.1,d.2.2.1,?_⟩,fun _ hv=>⟨y,rfl,?_⟩⟩
   ·show (mkB (Bv v r q r.length)).size<=1048576;rw[aV];omega
   ·rw[JP (fun x l=>?_) _ (ay _)];obtain ⟨-,D⟩:=i.2.2 x l;rcases h with h | h
    ·have:=List.length_pos_of_mem l;omega
    ·omega
  ·simp only[if_neg c,fx];refine ⟨(e,false),rfl,rfl,d,fun _ hv=>absurd (y4 j.hs ?_ ?_) c⟩
   ·have:=j.hb;unfold latV at hv;omega
   ·omega
theorem Ww {l:List ux} {d:ux->Bool} {f:ux->Option Bool} (c: ∀x,f x=some (d x)) (g:l.length<=1073741824) :
  (∃(i:Nat) (hi:i<l.length),d l[i] =true/\(∀j (h:j<i),d (l[j]'(by omega))=false)/\aU l f=some (i:Int))\/((∀x,x∈l->d x=false)/\aU l f=some (-1)):=by
 unfold aU;rcases rW (f:=bp l f) l d (fun i=>(i:Int)) (by omega) (fun i hi=>by
   unfold bp;rw[bu hi,if_pos rfl,aC hi];simp only[aa,fx,c,ae (show i<9223372036854775807 by omega)];split <;> rfl) (by
   unfold bp;rw[bE];rfl) with ⟨i,hi,a,b,e⟩ | ⟨a,e⟩
 ·exact .inl ⟨i,hi,a,b,aW e⟩
 ·exact .inr ⟨a,af e⟩
def afp (r:pZ) (L:Int) (s:ux):Prop:=(1<=s.1/\s.1<=99)/\(∃q∈r.2,q.1=s.2.1)/\0<=s.2.2/\s.2.2<=L
def afq (ss:List ux):Prop:=ss.Pairwise fun a b=>a.1<b.1
theorem ac4 {r:pZ} {L:Int} {ss:List ux} (h: ∀i,i<ss.length->SubP r L ss i):afq ss/\ ∀s∈ss,afp r L s:=by
 constructor
 ·have key: ∀j (b:j<ss.length) i (a:i<j),(ss[i]'(by omega)).1<ss[j].1:=by
   intro j;induction j with
   | zero=>intro _ i a;omega
   | succ j ih =>
    intro b i a;have e:=(h (j+1) b).2.1 (by omega);rw[show (((j+1:Nat):Int) - 1)=((j:Nat):Int) by omega,bJ (show j<ss.length by omega),bJ b] at e;by_cases c:i=j
    ·subst c;exact e
    ·have:=ih (by omega) i (by omega);omega
  exact List.pairwise_iff_getElem.2 fun i j a b d=>key j b i d
 ·intro s f;obtain ⟨i,a,rfl⟩:=List.getElem_of_mem f
  have:=h i a
  unfold SubP at this;rw[bJ a] at this;exact ⟨this.1,this.2.2⟩
theorem ac5 {r:pZ} {L:Int} {ss:List ux} (h1:afq ss) (d: ∀s∈ss,afp r L s): ∀i,i<ss.length->SubP r L ss i:=fun i c=>by
 obtain ⟨a,b⟩:=d _ (List.getElem_mem c);unfold SubP;rw[bJ c];refine ⟨a,fun e=>?_,b⟩;rw[show ((i:Int) - 1)=((i - 1:Nat):Int) by omega,bJ (show i - 1<ss.length by omega)];exact List.pairwise_iff_getElem.1 h1 (i - 1) i (by omega) c (by omega)
theorem aaB (e:EngT) (a:Data.sm e) (id:Int) (x:List Tok) (o:Data.sm x): ∃y:EngT×Bool,gJ e id x=some y/\Data.sm y.1/\(y.1.1=e.1/\y.1.2.2.2=e.2.2.2)/\(y.2=true->EV y.1):=by
 obtain ⟨b,D,z⟩:=Ek e a;obtain ⟨r,C,n,w,J⟩:=SN a.2.1 id o;unfold gJ;simp only[fx,tO e a,D,C,aa];cases b with
 | false=>exact ⟨(e,false),rfl,a,⟨rfl,rfl⟩,fun h=>by cases h⟩
 | true =>
  have V:=z.1 rfl;simp only[if_true];obtain ⟨r,c⟩:=r;cases c with
  | false=>exact ⟨(e,false),rfl,a,⟨rfl,rfl⟩,fun h=>by cases h⟩
  | true =>
   obtain ⟨t,i,L,v⟩:=w rfl;have K:=(HG a.2.1.2 t).1;have g:=No (y:=((id,x,(0:Int)):QT)) a.2.1.2 ⟨trivial,o,trivial⟩ i (by omega);obtain ⟨H,I,u⟩:=Np g v;refine ⟨_,rfl,⟨a.1,n,a.2.2.1,a.2.2.2⟩,⟨rfl,rfl⟩,fun _=>⟨V.his,(Ea n).2 u,V.len,fun j F=>?_,V.log⟩⟩;obtain ⟨s,E,⟨q,d,k⟩,B⟩:=V.sub j F;refine ⟨s,E,?_,B⟩;have G:q∈e.2.1.2.take i++([((id,x,(0:Int)):QT)] ++e.2.1.2.drop i):=by
    rw[<-List.take_append_drop i e.2.1.2] at d;rcases aI d with d | d
    ·exact bj _ d
    ·exact bt _ (bt _ d)
   have m:=List.mem_map_of_mem (f:=prQ) G;rw[<-H] at m;obtain ⟨p,l,A⟩:=List.mem_map.1 m;exact ⟨p,l,(congrArg Prod.fst A).trans k⟩
theorem XX (l:List ux) (id:Int) (j:l.length<=1048576): ∃k:Int,jo l id=some k/\(k<0-> ∀s∈l,s.1≠id)/\(0<=k->k<(l.length:Int)):=by
 have b:=rW (f:=dR l id) l (fun u=>u.1==id) (fun i=>(i:Int)) (by omega) (fun i e=>by
  unfold dR;rw[bu e,if_pos rfl,aC e];simp only[aa,ae (show i<9223372036854775807 by omega)];split <;> rfl) (by
  unfold dR;rw[bE];rfl)
 unfold jo;rcases b with ⟨i,g,d,h,a⟩ | ⟨d,a⟩
 ·exact ⟨_,aW a,fun c=>by omega,fun _=>by omega⟩
 ·exact ⟨_,af a,fun _ s b=>by simpa using d s b,fun c=>absurd c (by decide)⟩
theorem aaC (e:EngT) (c:Data.sm e) (id query:Int): ∃y:EngT×Bool,fM e id query=some y/\Data.sm y.1/\(y.1.1=e.1/\y.1.2.2.2=e.2.2.2)/\(y.2=true->EV y.1/\ ∃q∈y.1.2.1.2,q.1=query):=by
 obtain ⟨b,X,T⟩:=Ek e c;have Z:=(aP c.2.2.1).1;obtain ⟨k,M,N,-⟩:=XX e.2.2.1 id Z;obtain ⟨j,j1,S⟩:=XW e.2.1 query (aP c.2.1.2).1;unfold fM;simp only[fx,tO e c,X,M,j1,xm,aa];cases b with
 | false=>exact ⟨(e,false),rfl,c,⟨rfl,rfl⟩,fun h=>by cases h⟩
 | true =>
  have V:=T.1 rfl;have h4:=V.len;simp only[if_true];by_cases p:decide (1<=id/\id<=99)=true
  ·by_cases t:decide (k≥0)=true
   ·simp only[if_pos p,if_pos t];exact ⟨(e,false),rfl,c,⟨rfl,rfl⟩,fun h=>by cases h⟩
   ·by_cases A:decide (j<0)=true
    ·simp only[if_pos p,if_neg t,if_pos A];exact ⟨(e,false),rfl,c,⟨rfl,rfl⟩,fun h=>by cases h⟩
    ·by_cases C:((e.2.2.1.length:Int)==4)=true
     ·simp only[if_pos p,if_neg t,if_neg A,if_pos C];exact ⟨(e,false),rfl,c,⟨rfl,rfl⟩,fun h=>by cases h⟩
     ·simp only[if_pos p,if_neg t,if_neg A,if_neg C];have U: ∃i:Nat,i<=e.2.2.1.length/\(∀j (g:j<e.2.2.1.length),j<i->e.2.2.1[j].1<id)/\(∀g:i<e.2.2.1.length,¬e.2.2.1[i].1<id)/\ah (gg e id) aR 0=some (.brk (i:Int)):=by
       obtain ⟨o,Q,i,x,l,m,rfl⟩:=bW (f:=gg e id) (fun i s=>s=(i:Int)/\ ∀j (g:j<e.2.2.1.length),j<i->e.2.2.1[j].1<id) (fun o=> ∃i:Nat,i<=e.2.2.1.length/\(∀j (g:j<e.2.2.1.length),j<i->e.2.2.1[j].1<id)/\(∀g:i<e.2.2.1.length,¬e.2.2.1[i].1<id)/\o= .brk (i:Int)) e.2.2.1.length (fun i s x w=>by
        obtain ⟨rfl,w⟩:=w;unfold gg;by_cases B:i<e.2.2.1.length
        ·simp only[bu B,if_true,aC B,aa,ae (show i<9223372036854775807 by omega)];by_cases z:e.2.2.1[i].1<id
         ·refine .inl ⟨B,_,by simp[z],rfl,fun j g W=>?_⟩;by_cases v:j=i
          ·subst v;exact z
          ·exact w j g (by omega)
         ·exact .inr ⟨.brk (i:Int),by simp[z],(fun s' e=>by cases e),i,x,w,fun _=>z,rfl⟩
        ·obtain rfl:i=e.2.2.1.length:=by omega
         exact .inr ⟨.brk (e.2.2.1.length:Int),by simp only[bE,Bool.false_eq_true,if_false],(fun s' e=>by cases e),_,x,w,fun h=>absurd h B,rfl⟩) (s:=0) ⟨rfl,fun j g h=>absurd h (Nat.not_lt_zero _)⟩ (cX _ (by omega))
       exact ⟨i,x,l,m,Q⟩
      obtain ⟨i,x,l,m,K⟩:=U;simp only[K,aM];have hy:Data.sm ((id,query,(0:Int)):ux):=⟨trivial,trivial,trivial⟩;have R:=No (y:=((id,query,(0:Int)):ux)) c.2.2.1 hy i (by omega);have q1:(chk (0<=(i:Int)/\(i:Int)<=(e.2.2.1.length:Int)))=some ():=if_pos (by omega);have L:bC 24 ([] :List ux) (e.2.2.1.take i)=some (e.2.2.1.take i):=by rw[al (by simp only[aD,az];omega)];rfl
      have a2:bC 24 (e.2.2.1.take i) [((id,query,(0:Int)):ux)] =some (e.2.2.1.take i++ [(id,query,0)]):=al (by simp only[az,aw,aD];omega);have P:bC 24 (e.2.2.1.take i++ [((id,query,(0:Int)):ux)]) (e.2.2.1.drop i)=some (e.2.2.1.take i++([(id,query,0)] ++e.2.2.1.drop i)):=by
       rw[al (by simp only[au,az,bq,aw,aD];omega),aH]
      simp only[q1,aa,Int.toNat_natCast,L,a2,P];have H:=Classical.not_not.1 (mt S.2 (by simpa using A));have r:=N (by simpa using t);have F:0<=latV e.1:=by
       obtain ⟨-,n⟩:=(zR e.1 c.1).1 V.his;unfold latV;omega
      obtain ⟨D,G⟩:=ac4 V.sub;have Y: ∀u∈e.2.2.1.take i,u.1<id:=fun u d=>by
       obtain ⟨j,g,rfl⟩:=List.getElem_of_mem d;rw[az] at g;rw[List.getElem_take];exact l j (by omega) (by omega)
      have I: ∀u∈e.2.2.1.drop i,id<u.1:=fun u d=>by
       obtain ⟨j,g,rfl⟩:=List.getElem_of_mem d;rw[bq] at g;rw[List.getElem_drop];have a:=m (by omega);have n0:=r _ (List.getElem_mem (show i<e.2.2.1.length by omega));rcases Nat.eq_zero_or_pos j with rfl | h0
       ·simp only[Nat.add_zero];omega
       ·have b:=List.pairwise_iff_getElem.1 D i (i+j) (by omega) (by omega) (by omega);omega
      refine ⟨_,rfl,⟨c.1,c.2.1,R,c.2.2.2⟩,⟨rfl,rfl⟩,fun _=>⟨⟨V.his,V.reg,?_,ac5 ?_ fun s E=>?_,V.log⟩,H⟩⟩
      ·have J:(e.2.2.1.length:Int)≠4:=by simpa using C
       show (e.2.2.1.take i++([(id,query,(0:Int))] ++e.2.2.1.drop i)).length<=4;simp only[au,az,aw,aD,bq];omega
      ·show (e.2.2.1.take i++([(id,query,(0:Int))] ++e.2.2.1.drop i)).Pairwise fun a b=>a.1<b.1;rw[List.pairwise_append];refine ⟨D.sublist (List.take_sublist _ _),?_,fun a O b n=>?_⟩
       ·rw[List.singleton_append,List.pairwise_cons];exact ⟨I,D.sublist (List.drop_sublist _ _)⟩
       ·have:=Y a O
        rcases aI n with n | n
        ·rw[aq n];exact this
        ·have:=I b n;omega
      ·rcases aI E with d | d
       ·exact G s (List.mem_of_mem_take d)
       ·rcases aI d with d | d
        ·rw[aq d];exact ⟨of_decide_eq_true p,H,Int.le_refl _,F⟩
        ·exact G s (List.mem_of_mem_drop d)
  ·simp only[if_neg p];exact ⟨(e,false),rfl,c,⟨rfl,rfl⟩,fun h=>by cases h⟩
def EI (e:EngT):Prop:=Data.sm e/\1<=e.1.2.length/\e.2.2.2.size<=4000
theorem aaD {e:EngT} (a:EI e) (id:Int): ∃y:EngT×SA×Bool,eP e id=some y/\EI y.1:=by
 obtain ⟨a,d,f⟩:=a;obtain ⟨b,n,-⟩:=Ek e a;have j:=(aP a.2.2.1).1;obtain ⟨k,l,-,h⟩:=XX e.2.2.1 id j;unfold eP;simp only[fx,tO e a,n,l,aa];cases b with
 | false=>exact ⟨_,rfl,a,d,f⟩
 | true =>
  simp only[if_true];by_cases c:k<0
  ·rw[if_pos (decide_eq_true c)];exact ⟨_,rfl,a,d,f⟩
  ·rw[if_neg (by simpa using c)];have h:=h (by omega);have g:aO e.2.2.1 k=some (nth e.2.2.1 k):=ai (by omega) h;obtain ⟨x,m,-⟩:=aeH e.1 a.1 a.2.1 (nth e.2.2.1 k);simp only[g,aa,fx,m];by_cases i:x.2.2=true
   ·rw[if_pos i];refine ⟨_,rfl,⟨a.1,a.2.1,⟨?_,fun u o=>⟨trivial,trivial,trivial⟩⟩,a.2.2.2⟩,d,f⟩;show (e.2.2.1.set k.toNat x.2.1).length<=1048576;rw[List.length_set];exact j
   ·rw[if_neg i];exact ⟨_,rfl,a,d,f⟩
theorem aaE {e:EngT} (a:EI e) (v:Int): ∃y:EngT×Bool,bQ e v=some y/\EI y.1:=by
 obtain ⟨a,f,g⟩:=a;obtain ⟨b,u,-⟩:=Ek e a;obtain ⟨x,s,o,i⟩:=We e.1 a.1 v;obtain ⟨l,h⟩:=F6 e.2.2.2;have j:e.2.2.2.size=l.length:=by rw[h];exact aV l
 obtain ⟨r,q,n,m,-,A,w,k,B⟩:=pa l (by omega);have t:=aaA (v:=v) (n:=(n:Int)) k.1 w;have z:=tP v r q r.length;have d:pW e.2.2.2 v=some (mkB (Bv v r q r.length)):=by
  unfold pW;rw[h,m];simp only[aa];rw[af t]
 have p:(mkB (Bv v r q r.length)).size=(Bv v r q r.length).length:=aV _;unfold bQ;simp only[fx,tO e a,u,s,d,aa];cases b with
 | false=>exact ⟨_,rfl,a,f,g⟩
 | true =>
  simp only[if_true];by_cases c:x.2=true
  ·rw[if_pos c];refine ⟨_,rfl,⟨o,a.2.1,a.2.2.1,?_⟩,i f,?_⟩
   ·show (mkB (Bv v r q r.length)).size<=1048576;omega
   ·show (mkB (Bv v r q r.length)).size<=4000;omega
  ·rw[if_neg c];exact ⟨_,rfl,a,f,g⟩
theorem ac6 {e:EngT} (a:EI e) (b:List ChT): ∃y:EngT×Bool,kH e b=some y/\EI y.1:=by
 obtain ⟨a,d,f⟩:=a;obtain ⟨v,o,-⟩:=Ek e a;obtain ⟨r,m,g,j⟩:=SG e.1 ⟨a.1,d⟩ b;obtain ⟨w,q⟩:=afj r.1 g;obtain ⟨k,-,t⟩:=vJ w b;obtain ⟨l,h⟩:=F6 e.2.2.2;have i:e.2.2.2.size=l.length:=by rw[h];exact aV l
 unfold kH;simp only[fx,tO e a,o,m,aa];cases v with
 | false=>exact ⟨_,rfl,a,d,f⟩
 | true =>
  simp only[if_true];by_cases c:r.2=true
  ·simp only[if_pos c,q,k,aa,h,aV];rw[bd (n:=(l.length:Int)+((recT w b).length:Int)) (by omega) (by omega)];by_cases s:l.length+(recT w b).length>4000
   ·rw[if_pos (decide_eq_true (by omega))];exact ⟨_,rfl,a,d,f⟩
   ·rw[if_neg (by rw[decide_eq_true_eq];omega),zT _ _ (by omega)];simp only[aa];have p:(mkB (l++recT w b)).size=l.length+(recT w b).length:=by rw[aV,au]
    refine ⟨_,rfl,⟨g,a.2.1,a.2.2.1,?_⟩,j,?_⟩
    ·show (mkB (l++recT w b)).size<=1048576;omega
    ·show (mkB (l++recT w b)).size<=4000;omega
  ·rw[if_neg c];exact ⟨_,rfl,a,d,f⟩
section
variable {xs:List Int} {i h:Int}
theorem Ny (c:xs.length<=1048576) {p:List Int×Int×Int} (hp:p.1=xs): ∀(n:Nat) (f:Nat) {i h:Int} {e:EngT},n<900->n<f->jE xs i->EI e-> ∃s:Int×Int×EngT,ah (gx p) f ((n:Int),i,h,e.1.1,e.1.2,e.2.1.1,e.2.1.2,e.2.2.1,e.2.2.2)=some (.brk (0,s.1,s.2.1,s.2.2.1.1,s.2.2.1.2,s.2.2.2.1.1,s.2.2.2.1.2,s.2.2.2.2.1,s.2.2.2.2.2))/\jE xs s.1/\EI s.2.2
 | 0,f+1,i,h,e,_,_,hc,hr=>by
  refine ⟨(i,h,e),?_,hc,hr⟩
  have:gx p (((0:Nat):Int),i,h,e.1.1,e.1.2,e.2.1.1,e.2.1.2,e.2.2.1,e.2.2.2)=some (.brk (0,i,h,e.1.1,e.1.2,e.2.1.1,e.2.1.2,e.2.2.1,e.2.2.2)):=by
   unfold gx;simp only;rw[if_neg (by simp)];rfl
  rw[ah,this]
 | n+1,f+1,i,h,e,hn,hf,hc,hr=>by
  obtain ⟨a,j,r,l⟩:=Lm (h:=h) c hc;obtain ⟨y,b,g,⟨m,o⟩,-⟩:=aaB e hr.1 ((n+1:Nat):Int) a.1 (Lx (by omega));have b:gJ ((e.1.1,e.1.2),(e.2.1.1,e.2.1.2),e.2.2.1,e.2.2.2) ((n+1:Nat):Int) a.1=_:=b;obtain ⟨t,q,k,d⟩:=Ny c hp n f (h:=a.2.2) (e:=y.1) (by omega) (by omega) l ⟨g,by rw[m];exact hr.2.1,by rw[o];exact hr.2.2⟩;refine ⟨t,?_,k,d⟩
  have:gx p (((n+1:Nat):Int),i,h,e.1.1,e.1.2,e.2.1.1,e.2.1.2,e.2.2.1,e.2.2.2)=some (.nxt ((n:Int),a.2.1,a.2.2,y.1.1.1,y.1.1.2,y.1.2.1.1,y.1.2.1.2,y.1.2.2.1,y.1.2.2.2)):=by
   unfold gx;simp only;rw[if_pos (decide_eq_true (show ((n+1:Nat):Int)>0 by omega)),hp,j];simp only[aa];rw[b];simp only[aa];rw[show i64.wrap (((n+1:Nat):Int) - 1)=(n:Int) from by rw[bd (by omega) (by omega)];omega]
  rw[ah,this];exact q
abbrev afr:=Int×Int×Int×List GrT×List AutT×List QT×List ux×ByteArray
theorem To (l:xs.length<=1048576) (I:jE xs i) {p:List Int×Int×Int} (hp:p.1=xs) {e:EngT} (g:EI e) {n:Nat} (L:n+1<1000): ∃s:Int×Int×EngT,gy p (((n+1:Nat):Int),i,h,e.1.1,e.1.2,e.2.1.1,e.2.1.2,e.2.2.1,e.2.2.2)=some (.nxt ((n:Int),s.1,s.2.1,s.2.2.1.1,s.2.2.1.2,s.2.2.2.1.1,s.2.2.2.1.2,s.2.2.2.2.1,s.2.2.2.2.2))/\jE xs s.1/\EI s.2.2:=by
 subst hp;unfold gy;simp only;rw[if_pos (decide_eq_true (show ((n+1:Nat):Int)>0 by omega)),show i64.wrap (((n+1:Nat):Int) - 1)=(n:Int) from by rw[bd (by omega) (by omega)];omega];obtain ⟨c,v,-,j⟩:=bN (h:=h) l I (n:=6) (by omega);rw[v];simp only[aa]
 suffices z: ∀(o:Option afr),(∃s:Int×Int×EngT,o=some (s.1,s.2.1,s.2.2.1.1,s.2.2.1.2,s.2.2.2.1.1,s.2.2.2.1.2,s.2.2.2.2.1,s.2.2.2.2.2)/\jE p.1 s.1/\EI s.2.2)-> ∃s:Int×Int×EngT,(o.bind fun d=>some (Out.nxt ((n:Int),d.1,d.2.1,d.2.2.1,d.2.2.2.1,d.2.2.2.2.1,d.2.2.2.2.2.1,d.2.2.2.2.2.2.1,d.2.2.2.2.2.2.2):Out (EngT×Int×Int) (Int×afr)))=some (.nxt ((n:Int),s.1,s.2.1,s.2.2.1.1,s.2.2.1.2,s.2.2.2.1.1,s.2.2.2.1.2,s.2.2.2.2.1,s.2.2.2.2.2))/\jE p.1 s.1/\EI s.2.2 by
  refine z _ ?_;by_cases B:(c.1==0)=true
  ·rw[if_pos B];obtain ⟨a,t,-,q⟩:=bN (h:=c.2.2) l j (n:=4) (by omega);rw[t];simp only[aa];obtain ⟨b,k,-,r⟩:=bN (h:=a.2.2) l q (n:=2) (by omega);rw[k];simp only[aa];obtain ⟨y,f,F,⟨H,J⟩,-⟩:=aaC e g.1 (i64.wrap (1+a.1)) (i64.wrap (1+b.1));have f:fM ((e.1.1,e.1.2),(e.2.1.1,e.2.1.2),e.2.2.1,e.2.2.2) (i64.wrap (1+a.1)) (i64.wrap (1+b.1))=_:=f;rw[f];exact ⟨(b.2.1,b.2.2,y.1),rfl,r,F,by rw[H];exact g.2.1,by rw[J];exact g.2.2⟩
  ·rw[if_neg B];by_cases C:(c.1==1)=true
   ·rw[if_pos C];obtain ⟨a,t,-,q⟩:=bN (h:=c.2.2) l j (n:=4) (by omega);rw[t];simp only[aa];obtain ⟨y,f,u⟩:=aaD g (i64.wrap (1+a.1));have f:eP ((e.1.1,e.1.2),(e.2.1.1,e.2.1.2),e.2.2.1,e.2.2.2) (i64.wrap (1+a.1))=_:=f;rw[f];exact ⟨(a.2.1,a.2.2,y.1),rfl,q,u⟩
   ·rw[if_neg C];by_cases A:(c.1==2)=true
    ·rw[if_pos A];obtain ⟨a,t,q⟩:=zr (h:=c.2.2) l j (n:=3) (by omega);rw[t];simp only[aa];by_cases D:a.1=true
     ·rw[if_pos D];obtain ⟨w,x⟩:=afj e.1 g.1.1;have x:aL (e.1.1,e.1.2)=_:=x;rw[x];simp only[aa];obtain ⟨b,k,-,r⟩:=bN (h:=a.2.2) l q (n:=2) (by omega);rw[k];simp only[aa];obtain ⟨y,f,u⟩:=aaE g (i64.wrap (w - b.1));have f:bQ ((e.1.1,e.1.2),(e.2.1.1,e.2.1.2),e.2.2.1,e.2.2.2) (i64.wrap (w - b.1))=_:=f;rw[f];exact ⟨(b.2.1,b.2.2,y.1),rfl,r,u⟩
     ·rw[if_neg D];exact ⟨(a.2.1,a.2.2,e),rfl,q,g⟩
    ·rw[if_neg A];obtain ⟨M,E⟩:=aP g.1.1.2;have K:=g.2.1;have G:=E _ (bG (xs:=e.1.2) (i:=(e.1.2.length:Int) - 1) (by omega) (by omega));rw[bd (n:=(e.1.2.length:Int) - 1) (by omega) (by omega),ai (by omega) (by omega)];simp only[aa];obtain ⟨b,k,-,r⟩:=SH (h:=c.2.2) l j G (m:=3) (by decide);have k:mu (p.1,c.2.1,c.2.2) ((nth e.1.2 ((e.1.2.length:Int) - 1)).1,(nth e.1.2 ((e.1.2.length:Int) - 1)).2) 3=_:=k;rw[k];simp only[aa];obtain ⟨y,f,u⟩:=ac6 g b.1;have f:kH ((e.1.1,e.1.2),(e.2.1.1,e.2.1.2),e.2.2.1,e.2.2.2) b.1=_:=f;rw[f];exact ⟨(b.2.1,b.2.2,y.1),rfl,r,u⟩
 rintro o ⟨s,rfl,z⟩;exact ⟨s,rfl,z⟩
theorem JR (a:xs.length<=1048576) {p:List Int×Int×Int} (hp:p.1=xs): ∀(n:Nat) (f:Nat) {i h:Int} {e:EngT},n<900->n<f->jE xs i->EI e-> ∃s:Int×Int×EngT,ah (gy p) f ((n:Int),i,h,e.1.1,e.1.2,e.2.1.1,e.2.1.2,e.2.2.1,e.2.2.2)=some (.brk (0,s.1,s.2.1,s.2.2.1.1,s.2.2.1.2,s.2.2.2.1.1,s.2.2.2.1.2,s.2.2.2.2.1,s.2.2.2.2.2))/\jE xs s.1/\EI s.2.2
 | 0,f+1,i,h,e,_,_,hc,hr=>by
  refine ⟨(i,h,e),?_,hc,hr⟩
  have:gy p (((0:Nat):Int),i,h,e.1.1,e.1.2,e.2.1.1,e.2.1.2,e.2.2.1,e.2.2.2)=some (.brk (0,i,h,e.1.1,e.1.2,e.2.1.1,e.2.1.2,e.2.2.1,e.2.2.2)):=by
   unfold gy;simp only;rw[if_neg (by simp)];rfl
  rw[ah,this]
 | n+1,f+1,i,h,e,hn,hf,hc,hr=>by
  obtain ⟨s,c,j,k⟩:=To (h:=h) a hc hp hr (n:=n) (by omega);obtain ⟨t,g,d,b⟩:=JR a hp n f (h:=s.2.1) (e:=s.2.2) (by omega) (by omega) j k;refine ⟨t,?_,d,b⟩;rw[ah,c];exact g
theorem Wx (c:xs.length<=1048576) (E:jE xs i): ∃r:EngT×Int×Int,pI (xs,i,h)=some r/\EI r.1/\jE xs r.2.1:=by
 unfold pI;simp only;obtain ⟨a,q,⟨j,G⟩,w⟩:=Ng (h:=h) c E;rw[q];simp only[aa];have y:pF (a.1.1,a.1.2)=some (((1,[a.1]),([],[]),[],⟨#[]⟩),true):=by
  have b:=afk j G (v:=1) (by omega);unfold pF;have b:ig (a.1.1,a.1.2) 1=_:=b;simp only[b,aa,if_true]
 rw[y];simp only[aa];obtain ⟨d,b,J,u⟩:=bN (h:=a.2.2) c w (n:=2) (by omega);rw[b];simp only[aa];have A:EI (((1,[a.1]),([],[]),[],⟨#[]⟩):EngT):=⟨⟨zK (by simp) (fun g x=>by rw[aq x];exact j),⟨⟨Nat.zero_le _,fun _ h=>by cases h⟩,Nat.zero_le _,fun _ h=>by cases h⟩,⟨Nat.zero_le _,fun _ h=>by cases h⟩,by show (0:Nat)<=1048576;omega⟩,ay _,by show (0:Nat)<=4000;omega⟩;obtain ⟨k,L⟩: ∃k:Nat,d.1=(k:Int):=⟨d.1.toNat,by omega⟩;rw[show i64.wrap (1+d.1)=((k+1:Nat):Int) from by rw[bd (by omega) (by omega)];omega];obtain ⟨s,F,o,H⟩:=Ny c (p:=(xs,i,h)) rfl (k+1) aR (h:=d.2.2) (e:=(((1,[a.1]),([],[]),[],⟨#[]⟩):EngT)) (by omega) (by unfold aR;omega) u A;rw[af F];obtain ⟨f,B,K,z⟩:=bN (h:=s.2.1) c o (n:=10) (by omega);rw[B];simp only[aa];obtain ⟨m,l⟩: ∃m:Nat,f.1=(m:Int):=⟨f.1.toNat,by omega⟩;obtain ⟨t,D,C,I⟩:=JR c (p:=(xs,i,h)) rfl m aR (h:=f.2.2) (e:=s.2.2) (by omega) (by unfold aR;omega) z H;rw[l,af D];exact ⟨(t.2.2,t.1,t.2.1),rfl,I,C⟩
theorem Wy (m:xs.length<=1048576) (G:jE xs i): ∃r:EngT×Int×Int,v8 (xs,i,h)=some r/\(Data.sm r.1/\r.1.2.2.2.size<=4001)/\jE xs r.2.1:=by
 unfold v8;simp only;obtain ⟨a,w,v,z⟩:=Wx (h:=h) m G;rw[w];simp only[aa];obtain ⟨b,B,-,c⟩:=bN (h:=a.2.2) m z (n:=18) (by omega);rw[B];simp only[aa];obtain ⟨⟨f,e,d,k⟩,I,K⟩:=v;by_cases o:(b.1==0)=true
 ·rw[if_pos o];obtain ⟨l,g⟩:=F6 a.1.2.2.2;have t:a.1.2.2.2.size=l.length:=by rw[g];exact aV l
  have s:lF a.1.2.2.2 (⟨#[120]⟩)=some (mkB (l++ [120])):=by rw[g];exact zT l [120] (by simp;omega)
  have M:(mkB (l++ [120])).size=l.length+1:=by rw[aV,au];rfl
  rw[s];exact ⟨_,rfl,⟨⟨f,e,d,by show (mkB (l++ [120])).size<=1048576;omega⟩,by show (mkB (l++ [120])).size<=4001;omega⟩,c⟩
 ·rw[if_neg o];by_cases p:(b.1==1)=true
  ·rw[if_pos p];by_cases j:(a.1.2.2.1.length:Int)>0
   ·rw[if_pos (decide_eq_true j)];obtain ⟨L,F,-,D⟩:=fc (h:=b.2.2) m c (l:=[(-1),0,50]) (by simp);rw[F];simp only[aa];rw[ai (by omega) (by omega)];exact ⟨_,rfl,⟨⟨f,e,⟨by rw[List.length_set];exact (aP d).1,fun u J=>⟨trivial,trivial,trivial⟩⟩,k⟩,by show a.1.2.2.2.size<=4001;omega⟩,D⟩
   ·rw[if_neg (by simpa using j)];exact ⟨_,rfl,⟨⟨f,e,d,k⟩,by show a.1.2.2.2.size<=4001;omega⟩,c⟩
  ·rw[if_neg p];by_cases j:(b.1==2)=true
   ·rw[if_pos j];obtain ⟨N,y,E,H⟩:=acT (h:=b.2.2) m c;rw[y];exact ⟨_,rfl,⟨⟨f,E,d,k⟩,by show a.1.2.2.2.size<=4001;omega⟩,H⟩
   ·rw[if_neg j];by_cases q:(b.1==3)=true
    ·rw[if_pos q];obtain ⟨O,A,x,C⟩:=aaq (h:=b.2.2) m c;rw[A];exact ⟨_,rfl,⟨⟨x,e,d,k⟩,by show a.1.2.2.2.size<=4001;omega⟩,C⟩
    ·rw[if_neg q];exact ⟨_,rfl,⟨⟨f,e,d,k⟩,by show a.1.2.2.2.size<=4001;omega⟩,c⟩
end
theorem Wz (x y:List Yq1) (b:x.length<=1048576):dL x y=some (decide (x=y)):=by
 unfold dL;exact eqL (f:=c6 x y) x y (by omega) (fun i h a=>by
  simp only[c6,bu h,if_true,aC h,aC a,aa,fx,ae (show i<9223372036854775807 by omega)];refine RL ?_;simp only[Bool.and_true,aj,beq_iff_eq];exact afG) (by simp only[c6,bE];rfl)
theorem Tp (x y:GrT) (a:Data.sm x):kN x y=some (decide (x=y)):=by
 unfold kN;rw[zA x.1 y.1 (by have:=(aP a.1).1;omega),Wz x.2 y.2 (aP a.2).1];simp only[aa];by_cases b:x.1=y.1 <;> by_cases c:x.2=y.2 <;> simp[Prod.ext_iff,b,c]
theorem aaF (x y:rZ) (c:Data.sm x):jY x y=some (decide (x=y)):=by
 obtain ⟨l,j⟩:=aP c.2;unfold jY;have e:bU x.2 y.2 (fun a k=>kN a k)=some (decide (x.2=y.2)):=
  eqL (f:=bc x.2 y.2 _) x.2 y.2 (by omega) (fun i h g=>by
   simp only[bc,bu h,if_true,aC h,aC g,aa,fx,ae (show i<9223372036854775807 by omega),Tp x.2[i] y.2[i] (j _ (List.getElem_mem h))];exact RL (by simp)) (by simp only[bc,bE];rfl)
 rw[e];simp only[aa];by_cases b:x.1=y.1 <;> by_cases d:x.2=y.2 <;> simp[Prod.ext_iff,b,d]
theorem aaG (x y:List ux) (b:x.length<=1048576):bO x y=some (decide (x=y)):=by
 unfold bO;exact eqL (f:=bF x y) x y (by omega) (fun i h a=>by
  simp only[bF,bu h,if_true,aC h,aC a,aa,fx,ae (show i<9223372036854775807 by omega)];refine RL ?_;simp only[Bool.and_true,aj,beq_iff_eq];exact afF) (by simp only[bF,bE];rfl)
theorem ac7 (x:EngT) (a:Data.sm x):l9 x x=some true:=by
 unfold l9;simp only[fx,aaF x.1 x.1 a.1,zJ x.2.1 x.2.1 a.2.1,aaG x.2.2.1 x.2.2.1 (aP a.2.2.1).1,aa,decide_true,if_true,beq_self_eq_true]
theorem O3 {r:pZ} (f:Data.sm r) (id:Int): ∃x:AutT×Bool,dk r id=some x/\gR r id=some x/\Data.sm x.1:=by
 obtain ⟨k,h,n,a⟩:=sY r id (aP f.2).1;obtain ⟨b,p,o,hv⟩:=oq f;unfold dk gR;simp only[h,n,p,o,aa,fx];rcases a with rfl | ⟨i,e,rfl⟩
 ·refine ⟨((0,[],[]),false),?_,?_,tM⟩
  ·cases b <;> rfl
  ·rfl
 ·have a:decide ((i:Int)<0)=false:=by simp
  cases b with
  | false=>exact ⟨((0,[],[]),false),by simp[a],by simp[a],tM⟩
  | true =>
   obtain ⟨l,m⟩:=hv rfl;obtain ⟨g,d⟩:=m _ (List.getElem_mem e);have j:aO r.1 r.2[i].2.2=some (nth r.1 r.2[i].2.2):=ai g d;have c:Data.sm (nth r.1 r.2[i].2.2):=(aP l.1).2 _ (bG g d);simp only[if_true,a,Bool.false_eq_true,if_false,aC e,aa,j,fx,Lw _ c,SK _ c];exact ⟨_,rfl,rfl,c⟩
theorem JS {r:pZ} (o:Data.sm r) {g:GrT} (k:Data.sm g) (id:Int): ∃(l:List (Int×Int)) (b:Bool),bA r g id=some (l,b)/\fm r g id=some (l,b)/\l.length<=150/\ ∃(a:AutT) (q v:Bool),dk r id=some (a,q)/\Data.sm a/\aY g=some v/\b=(q&&v)/\(b=false->l= [])/\(b=true->iu g a=some l):=by
 obtain ⟨⟨a,q⟩,c,m,d⟩:=O3 o id;obtain ⟨b,e,p⟩:=Nf g (aP k.1).1 (aP k.2).1;have c:dk (r.1,r.2) id=_:=c;have m:gR (r.1,r.2) id=_:=m;have i:aY (g.1,g.2)=some b:=by rw[lV];exact e
 have e:bf (g.1,g.2)=_:=e;obtain ⟨l,j,f,n⟩:=Wk g a k d;have j:fG (g.1,g.2) (a.1,a.2.1,a.2.2)=_:=j;have f:iu (g.1,g.2) (a.1,a.2.1,a.2.2)=_:=f;unfold bA fm;rw[c,m,e,i];simp only[aa];rw[j,f];cases q with
 | false=>exact ⟨[],false,rfl,rfl,by decide,a,false,b,(by first | exact c | rfl),d,(by first | exact i | rfl),rfl,fun _=>rfl,fun h=>by cases h⟩
 | true =>
  cases b with
  | false=>exact ⟨[],false,rfl,rfl,by decide,a,true,false,(by first | exact c | rfl),d,(by first | exact i | rfl),rfl,fun _=>rfl,fun h=>by cases h⟩
  | true=>exact ⟨l,true,rfl,rfl,n,a,true,true,(by first | exact c | rfl),d,(by first | exact i | rfl),rfl,(fun h=>by cases h),fun _=>(by first | exact f | rfl)⟩
theorem Bw {r:pZ} (f:Data.sm r) {g:GrT} (e:Data.sm g) (id:Int): ∃(l:List (Int×Int)) (b:Bool),bA r g id=some (l,b)/\fm r g id=some (l,b)/\l.length<=150:=by
 obtain ⟨l,b,c,d,a,-⟩:=JS f e id;exact ⟨l,b,c,d,a⟩
theorem Tq (e:EngT) (a:Data.sm e) (id:Int): ∃(l:List (Int×Int)) (b:Bool),eJ e id=some (l,b)/\lr e id=some (l,b)/\l.length<=150:=by
 obtain ⟨b,m,n,o⟩:=zQ e a;unfold eJ lr;simp only[fx,m,n,aa];cases b with
 | false=>exact ⟨[],false,rfl,rfl,by decide⟩
 | true =>
  have j:=o rfl;have p:=j.hb.1;have d:=(aP a.1.2).2 _ (bG (xs:=e.1.2) (i:=(e.1.2.length:Int) - 1) (by omega) (by omega));obtain ⟨l,c,k,f,h⟩:=Bw a.2.1 d id;have g:=ai (xs:=e.1.2) (i:=(e.1.2.length:Int) - 1) (by omega) (by omega);refine ⟨l,c,?_,?_,h⟩
  ·simp only[if_true];rw[bd (by omega) (by omega),g];simp only[aa,fx];rw[k];rfl
  ·unfold tz;simp only[if_true];rw[bd (by omega) (by omega),g];simp only[aa,fx];rw[f];rfl
theorem aaH {c:ChT} (h:edOk c.2):(59:UInt8)∉sb c:=by
 obtain ⟨t,e⟩:=c;rw[sb,HU h];have h:edOk e:=h;obtain ⟨-,m,l,n⟩:=h;have b: ∀k:Fin 5,UInt8.ofNat (48+k.val)≠59:=by decide
 have f: ∀k:Fin 3,UInt8.ofNat (97+k.val)≠59:=by decide
 have g:=b ⟨e.2.1.toNat,by omega⟩;have j:=f ⟨e.2.2.2.toNat,by omega⟩;have d:=b ⟨e.2.2.1.toNat,by omega⟩;have i:(59:UInt8)∉Lib.itoa e.1:=Eh (by decide) (by decide);intro a;rcases aB a with a | a
 ·revert a;cases t
  ·show (59:UInt8)=45->False
   decide
  ·show (59:UInt8)=43->False
   decide
 ·rcases aI a with a | a
  ·exact i a
  ·simp only[List.mem_cons,List.not_mem_nil,or_false] at a;rcases a with a | a | a | a
   ·revert a;decide
   ·exact g a.symm
   ·exact j a.symm
   ·exact d a.symm
theorem Ts {c:UInt8} (h32:c≠32) {l:List ChT} (h: ∀x∈l,c∉sb x):c∉btx l:=by
 have key: ∀r:List ChT,(∀x∈r,c∉sb x)->c∉Lib.joinTail [32] (r.map sb):=by
  intro r
  induction r with
  | nil=>intro _ hm;simp[Lib.joinTail] at hm
  | cons x r ih =>
   intro hr hm
   have e:Lib.joinTail [32] (sb x::r.map sb)=32::(sb x++Lib.joinTail [32] (r.map sb)):=by simp[Lib.joinTail]
   rw[List.map_cons,e] at hm
   rcases aB hm with hm | hm
   ·exact h32 hm
   ·rcases aI hm with hm | hm
    ·exact hr x (by simp) hm
    ·exact ih (fun y hy=>hr y (br _ hy)) hm
 cases l with
 | nil=>rw[Te];simp
 | cons x r =>
  unfold btx
  rw[List.map_cons,Lib.join_cons]
  intro hm
  rcases aI hm with hm | hm
  ·exact h x (by simp) hm
  ·exact key r (fun y hy=>h y (br _ hy)) hm
def aa2 (v:Int) (b:List ChT):Prop:=(1<=v/\v<=999)/\b.length<=6/\Bt b
theorem WA {v:Int} {b:List ChT} (h:aa2 v b): ∃a:List UInt8,(10:UInt8)∉a/\recT v b=a++ [10] /\gq (mkB (recT v b))=some (v,b,true):=by
 obtain ⟨hv,u,f⟩:=h;obtain ⟨s,P⟩:=p7 b;rw[if_pos ⟨u,f⟩] at s;have I:=Ef f;have p:I64 v:=by unfold I64;omega
 have M:=uo p;have J:lF (mkB (Lib.itoa v)) (⟨#[59]⟩)=some (mkB (Lib.itoa v++ [59])):=zT _ [59] (by simp;omega);have C:lF (mkB (Lib.itoa v++ [59])) (mkB (btx b))=some (mkB (Lib.itoa v++ [59] ++btx b)):=zT _ _ (by simp;omega);have K:lF (mkB (Lib.itoa v++ [59] ++btx b)) (⟨#[59]⟩)=some (mkB (Lib.itoa v++ [59] ++btx b++ [59])):=zT _ [59] (by simp;omega);obtain ⟨q,D,-,Q,O⟩:=Bs (mkB (Lib.itoa v++ [59] ++btx b++ [59])) (by rw[aV];simp;omega);have r:I64 q:=by unfold I64;omega
 have N:=uo r;have z:lF (mkB (Lib.itoa v++ [59] ++btx b++ [59])) (mkB (Lib.itoa q))=some (mkB (Lib.itoa v++ [59] ++btx b++ [59] ++Lib.itoa q)):=zT _ _ (by simp;omega);have G:lF (mkB (Lib.itoa v++ [59] ++btx b++ [59] ++Lib.itoa q)) (⟨#[10]⟩)=some (mkB (Lib.itoa v++ [59] ++btx b++ [59] ++Lib.itoa q++ [10])):=zT _ [10] (by simp;omega);have o:recT v b=Lib.itoa v++ [59] ++btx b++ [59] ++Lib.itoa q++ [10]:=by
  have e:=(vJ v b).1;unfold b6 at e;rw[s,xm] at e;rw[decide_eq_true hv] at e;simp only[if_true,ry p,ry r,J,C,K,D,z,G,aa] at e;have m:decide ((b.length:Int)>0)=true-> ¬(mkB (btx b)==(⟨#[]⟩:ByteArray))=true:=fun hp=>by
   rw[rY,decide_eq_true_eq];rw[decide_eq_true_eq] at hp;exact Tf (fun B=>by rw[B] at hp;simp at hp)
  by_cases a:decide ((b.length:Int)>0)=true
  ·simp only[if_pos a,if_neg (m a)] at e;exact (rX (ad e)).symm
  ·simp only[if_neg a] at e
   first
    | exact (rX (ad e)).symm
    | (split at e <;> exact (rX (ad e)).symm)
 have c:(10:UInt8)∉Lib.itoa v:=Eh (by decide) (by decide);have i:(10:UInt8)∉Lib.itoa q:=Eh (by decide) (by decide);have k:(10:UInt8)∉btx b:=Ts (by decide) fun x l=>HV (f x l) (by decide) (by decide) (by decide);have d:(59:UInt8)∉Lib.itoa v:=Eh (by decide) (by decide);have g:(59:UInt8)∉Lib.itoa q:=Eh (by decide) (by decide);have j:(59:UInt8)∉btx b:=Ts (by decide) fun x l=>aaH (f x l);refine ⟨Lib.itoa v++ [59] ++btx b++ [59] ++Lib.itoa q,?_,o,?_⟩
 ·simp only[List.mem_append,List.mem_singleton,not_or];exact ⟨⟨⟨⟨c,by decide⟩,k⟩,by decide⟩,i⟩
 ·have t:=(vJ v b).2.2;have w:iM (mkB (recT v b)) 59=some ((rz 59 [] (recT v b)).map mkB):=wD (recT v b) 59 (by omega);have H:rz 59 [] (recT v b)= [Lib.itoa v,btx b,Lib.itoa q++ [10]]:=by
   rw[o,show Lib.itoa v++ [59] ++btx b++ [59] ++Lib.itoa q++ [10] =Lib.itoa v++59::(btx b++59::(Lib.itoa q++ [10])) by simp];rw[pU d,pU j,o9 (by simp only[List.mem_append,List.mem_singleton,not_or];exact ⟨g,by decide⟩)];simp
  have L:=(HL (n:=v) ⟨by omega,by omega⟩).1;have y:=(aax f u).1;have E:=(vJ v b).1;unfold gq;rw[w,H];have F:aO [mkB (Lib.itoa v),mkB (btx b),mkB (Lib.itoa q++ [10])] 0=some (mkB (Lib.itoa v)):=rfl;have A:aO [mkB (Lib.itoa v),mkB (btx b),mkB (Lib.itoa q++ [10])] 1=some (mkB (btx b)):=rfl;simp only[List.map_cons,List.map_nil,aa];rw[if_neg (by simp)];simp only[F,A,L,y,E,aa,if_true];simp
theorem aaI {l t:List UInt8} (b:(l++t).length<=4000) {i u:Nat} (hi:i<l.length) (d:u<=i) (vs:List Int) (bs:List (List ChT)):aF (mkB (l++t)) (vs,bs,(u:Int),(i:Int))=aF (mkB l) (vs,bs,(u:Int),(i:Int)):=by
 have c:(l++t).length=l.length+t.length:=au;have a:qT (mkB (l++t)) (u:Int) ((i+1:Nat):Int)=qT (mkB l) (u:Int) ((i+1:Nat):Int):=by
  rw[slB (by omega) (by omega),slB (by omega) (by omega),List.take_append_of_le_length (by omega)]
 unfold aF;simp only[];rw[aV,aV,bu (show i<(l++t).length by omega),bu hi,if_pos rfl,if_pos rfl,if_pos (decide_eq_true (by omega)),if_pos (decide_eq_true (show (l.length:Int)<=4000 by omega)),atB (show i<(l++t).length by omega),atB hi,List.getElem_append_left hi,ae (show i<9223372036854775807 by omega),a]
theorem aaJ {l:List UInt8} (p:l.length<=4000) {i u:Nat} (hi:i<l.length) (o:u<=i) (vs:List Int) (bs:List (List ChT)) (hv:vs.length<=i) (n:bs.length<=i):aF (mkB l) (vs,bs,(u:Int),(i:Int))=some (.ret (vs,bs,(u:Int)))\/ ∃(a:List Int) (b:List (List ChT)) (h:Nat),h<=i+1/\a.length<=i+1/\b.length<=i+1/\aF (mkB l) (vs,bs,(u:Int),(i:Int))=some (.nxt (a,b,(h:Int),((i+1:Nat):Int))):=by
 have m:qT (mkB l) (u:Int) ((i+1:Nat):Int)=some (mkB ((l.take (i+1)).drop u)):=slB (by omega) (by omega);obtain ⟨r,k,-⟩:=Ei ((l.take (i+1)).drop u) (by rw[bq,az];omega);have f:bC 8 vs [r.1] =some (vs++ [r.1]):=al (by simp only[aw,aD];omega);have e:bC 24 bs [r.2.1] =some (bs++ [r.2.1]):=al (by simp only[aw,aD];omega);unfold aF;simp only[];rw[aV,bu hi,if_pos rfl,if_pos (decide_eq_true (by omega)),atB hi,ae (show i<9223372036854775807 by omega)];simp only[aa];by_cases c:((l[i].toNat:Nat):Int)=10
 ·rw[if_neg (by simpa using c),m];simp only[aa];rw[k];simp only[aa];by_cases g:r.2.2=true
  ·rw[if_pos g];by_cases d:decide ((vs.length:Int)>0)=true
   ·rw[if_pos d];have q:0<vs.length:=by simpa using d
    rw[fw (by omega),ai (xs:=vs) (by omega) (by omega)];simp only[aa];by_cases j:(r.1 !=i64.wrap (nth vs ((vs.length:Int) - 1)+1))=true
    ·rw[if_pos j];exact .inl rfl
    ·rw[if_neg j,f,e];exact .inr ⟨_,_,i+1,ay _,by simp;omega,by simp;omega,rfl⟩
   ·rw[if_neg d,f,e];exact .inr ⟨_,_,i+1,ay _,by simp;omega,by simp;omega,rfl⟩
  ·rw[if_neg g];exact .inl rfl
 ·rw[if_pos (by simpa using c)];exact .inr ⟨vs,bs,u,by omega,by omega,by omega,rfl⟩
theorem ac8 {l t:List UInt8} (f:(l++t).length<=4000) {r:List Int} {q:List (List ChT)} : ∀(d i u:Nat) (vs:List Int) (bs:List (List ChT)) (k a:Nat),i+d=l.length->u<=i->vs.length<=i->bs.length<=i->aM (ah (aF (mkB l)) (k+1+d) (vs,bs,(u:Int),(i:Int))) (fun x=>some x) (fun s=>some (s.1,s.2.1,s.2.2.1))=some (r,q,(l.length:Int))->
  ah (aF (mkB (l++t))) (a+d) (vs,bs,(u:Int),(i:Int))=ah (aF (mkB (l++t))) a (r,q,(l.length:Int),(l.length:Int))
 | 0,i,u,vs,bs,k,a,hd,hu,hv,hb,h=>by
  obtain rfl:i=l.length:=by omega
  have:aF (mkB l) (vs,bs,(u:Int),(l.length:Int))=some (.brk (vs,bs,(u:Int),(l.length:Int))):=by
   unfold aF;simp only[];rw[aV,if_neg (by simp)]
  rw[Nat.add_zero,ah,this] at h;simp only[aM,Option.some.injEq,Prod.mk.injEq] at h;obtain ⟨rfl,rfl,o⟩:=h;rw[o];rfl
 | d+1,i,u,vs,bs,k,a,hd,hu,hv,hb,h=>by
  have v:(l++t).length=l.length+t.length:=au;have g:i<l.length:=by omega
  rw[show a+(d+1)=(a+d)+1 by omega,ah,aaI f g hu];rw[show k+1+(d+1)=(k+1+d)+1 by omega,ah] at h;rcases aaJ (l:=l) (by omega) g hu vs bs hv hb with e | ⟨b,c,n,j,p,m,e⟩
  ·rw[e] at h;simp only[aM,Option.some.injEq,Prod.mk.injEq] at h;omega
  ·rw[e] at h⊢;exact ac8 f d (i+1) n b c k a (by omega) j p m h
theorem Tt {l:List UInt8} {v:Int} {b:List ChT} (L:aa2 v b) (f:(l++recT v b).length<=4000) {r:List Int} {q:List (List ChT)} (hs:m_s_ScanLog (mkB l)=some (r,q,(l.length:Int))) (hv:0<r.length->v=nth r ((r.length:Int) - 1)+1):m_s_ScanLog (mkB (l++recT v b))=some (r++ [v],q++ [b],((l++recT v b).length:Int)):=by
 obtain ⟨a,A,h,J⟩:=WA L;obtain ⟨z,w,N,m,-,-,O,j,-⟩:=pa l (by rw[au] at f;omega);rw[hs] at m;obtain ⟨rfl,rfl,-⟩:r=z/\q=w/\True:=by
  have:=ad m
  simp only[Prod.mk.injEq] at this;exact ⟨this.1,this.2.1,trivial⟩
 have Q:(l++recT v b).length=l.length+(recT v b).length:=au;have C:(recT v b).length=a.length+1:=by rw[h];simp
 have D:=j.1;obtain ⟨k,P⟩: ∃k,aR=k+1+1+a.length+l.length:=⟨aR - 2 - a.length - l.length,by have:=cX 9000 (by omega);omega⟩;have G:aM (ah (aF (mkB l)) (k+1+a.length+1+l.length) (([] :List Int),([] :List (List ChT)),((0:Nat):Int),((0:Nat):Int))) (fun x=>some x) (fun s=>some (s.1,s.2.1,s.2.2.1))=some (r,q,(l.length:Int)):=by
  rw[show k+1+a.length+1+l.length=aR by omega];exact hs
 have H:=ac8 (t:=recT v b) f l.length 0 0 [] [] (k+1+a.length) (k+1+1+a.length) (by omega) (ay _) (Nat.zero_le _) (Nat.zero_le _) G;have d:(l++recT v b).drop l.length=a++ [10]:=by rw[List.drop_left,h]
 have y:=Ej (l:=l++recT v b) f (vs:=r) (bs:=q) (u:=(l.length:Int)) a [10] l.length (k+1+1) A d (by omega);have g:(l++recT v b)[l.length+a.length]'(by omega)=10:=by
  have:((l++recT v b).drop l.length)[a.length]? =some 10:=by rw[d];simp
  rw[List.getElem?_drop,List.getElem?_eq_getElem (by omega)] at this;exact ad this
 have F:qT (mkB (l++recT v b)) (l.length:Int) ((l.length+a.length+1:Nat):Int)=some (mkB (recT v b)):=by
  rw[slB (by omega) (by omega),show l.length+a.length+1=(l++recT v b).length by omega,List.take_length,List.drop_left]
 have p:bC 8 r [v] =some (r++ [v]):=al (by simp only[aw,aD];omega);have o:bC 24 q [b] =some (q++ [b]):=al (by simp only[aw,aD];omega);have B:aF (mkB (l++recT v b)) (r,q,(l.length:Int),((l.length+a.length:Nat):Int))=some (.nxt (r++ [v],q++ [b],((l++recT v b).length:Int),((l++recT v b).length:Int))):=by
  unfold aF;simp only[];rw[aV,bu (show l.length+a.length<(l++recT v b).length by omega),if_pos rfl,if_pos (decide_eq_true (by omega)),atB (show l.length+a.length<(l++recT v b).length by omega),g,ae (show l.length+a.length<9223372036854775807 by omega),F];simp only[aa];rw[if_neg (by decide),J];simp only[aa,if_true];have c:((l.length+a.length+1:Nat):Int)=((l++recT v b).length:Int):=by omega
  by_cases e:decide ((r.length:Int)>0)=true
  ·have E:0<r.length:=by simpa using e
   have M:=(j.2.2 _ (bG (xs:=r) (i:=(r.length:Int) - 1) (by omega) (by omega))).1;rw[if_pos e,fw (by omega),ai (xs:=r) (by omega) (by omega)];simp only[aa];rw[bd (n:=nth r ((r.length:Int) - 1)+1) (by omega) (by omega),<-hv E,if_neg (by simp),p,o,c];rfl
  ·rw[if_neg e,p,o,c];rfl
 have K:aF (mkB (l++recT v b)) (r++ [v],q++ [b],((l++recT v b).length:Int),((l++recT v b).length:Int))=some (.brk (r++ [v],q++ [b],((l++recT v b).length:Int),((l++recT v b).length:Int))):=by
  unfold aF;simp only[];rw[aV,if_neg (by simp)]
 have I:ah (aF (mkB (l++recT v b))) aR (([] :List Int),([] :List (List ChT)),0,0)=some (.brk (r++ [v],q++ [b],((l++recT v b).length:Int),((l++recT v b).length:Int))):=by
  rw[show aR=k+1+1+a.length+l.length by omega];refine Eq.trans H (Eq.trans y ?_);rw[ah,B];show ah _ (k+1) _=_;rw[ah,K]
 unfold m_s_ScanLog;rw[af I]
theorem ac9 {v:Int} {b:List ChT} (h:recT v b≠ []):aa2 v b:=by
 have e:=(vJ v b).1;have k:=(p7 b).1;have a:b6 v b=some (mkB [])->False:=fun c=>by
  rw[e] at c;exact h (rX (ad c))
 by_cases hv:1<=v/\v<=999
 ·by_cases d:b.length<=6/\Bt b
  ·exact ⟨hv,d⟩
  ·rw[if_neg d] at k
   exfalso
   apply a;have g:decide ((b.length:Int)>0)=true:=by
    rw[decide_eq_true_eq];cases b with
    | nil=>exact absurd ⟨by simp,fun x f=>by cases f⟩ d
    | cons x l=>simp
   have i:(mkB [] ==(⟨#[]⟩:ByteArray))=true:=by rw[rY];simp
   unfold b6;rw[xm,decide_eq_true hv,k];simp only[aa,if_true,if_pos g,if_pos i]
   rfl
 ·exfalso
  apply a;unfold b6;rw[xm,decide_eq_false hv];simp only[aa,Bool.false_eq_true,if_false]
  rfl
def ScW (r:List Int) (q:List (List ChT)):Prop:=q.length=r.length/\(∀i:Nat,i<r.length->aa2 (nth r (i:Int)) (nth q (i:Int)))/\ ∀i:Nat,i+1<r.length->nth r ((i+1:Nat):Int)=nth r (i:Int)+1
theorem ScW.push {r:List Int} {q:List (List ChT)} (h:ScW r q) {v:Int} {b:List ChT} (k:aa2 v b) (hv:0<r.length->v=nth r ((r.length:Int) - 1)+1):ScW (r++ [v]) (q++ [b]):=by
 obtain ⟨d,g,f⟩:=h;have e:nth (r++ [v]) ((r.length:Nat):Int)=v:=by rw[bJ (by simp)];simp
 have j:nth (q++ [b]) ((r.length:Nat):Int)=b:=by rw[<-d,bJ (by simp)];simp
 refine ⟨by simp[d],fun i a=>?_,fun i a=>?_⟩
 ·rw[au,List.length_singleton] at a;by_cases c:i=r.length
  ·subst c;rw[e,j];exact k
  ·rw[dB (by omega) (by omega),dB (by omega) (by omega)];exact g i (by omega)
 ·rw[au,List.length_singleton] at a;by_cases c:i+1=r.length
  ·rw[c,e,dB (by omega) (by omega),hv (by omega),show ((r.length:Nat):Int) - 1=(i:Int) by omega]
  ·rw[dB (by omega) (by omega),dB (by omega) (by omega)];exact f i (by omega)
theorem ada {l:List UInt8} (S:l.length<=4000): ∃(r:List Int) (q:List (List ChT)) (n:Int),m_s_ScanLog (mkB l)=some (r,q,n)/\ScW r q:=by
 obtain ⟨o,e,y⟩:=bW (f:=aF (mkB l)) (fun i s=>s.2.2.2=(i:Int)/\ScW s.1 s.2.1/\s.1.length<=i/\ ∃u:Nat,s.2.2.1=(u:Int)/\u<=i) (fun o=> ∃(r:List Int) (q:List (List ChT)) (n:Int),ScW r q/\(o= .ret (r,q,n)\/ ∃i,o= .brk (r,q,n,i))) l.length (fun i s v Q=>by
  obtain ⟨a,g,N,O⟩:=s;obtain ⟨P,b,D,u,G,U⟩:=Q;obtain rfl:O=(i:Int):=P;obtain rfl:N=(u:Int):=G;have D:a.length<=i:=D;have b:ScW a g:=b;by_cases j:i<l.length
  ·have M:qT (mkB l) (u:Int) ((i+1:Nat):Int)=some (mkB ((l.take (i+1)).drop u)):=slB (by omega) (by omega);have m:((l.take (i+1)).drop u).length=i+1 - u:=by rw[bq,az];omega
   obtain ⟨r,L,-,-,T,J⟩:=Ei ((l.take (i+1)).drop u) (by omega);have K:=b.1;have B:bC 8 a [r.1] =some (a++ [r.1]):=al (by simp only[aw,aD];omega);have z:bC 24 g [r.2.1] =some (g++ [r.2.1]):=al (by simp only[aw,aD];omega);have w:r.2.2=true->aa2 r.1 r.2.1:=fun c=>ac9 (by
    rw[J c];intro k;rw[k] at m;simp at m;omega)
   have A: ∀(C:r.2.2=true),(0<a.length->r.1=nth a ((a.length:Int) - 1)+1)-> ∃d:List Int×List (List ChT)×Int×Int,(some (Out.nxt (R:=List Int×List (List ChT)×Int) (a++ [r.1],g++ [r.2.1],((i+1:Nat):Int),((i+1:Nat):Int))):Option (Out _ _))=some (.nxt d)/\d.2.2.2=((i+1:Nat):Int)/\ScW d.1 d.2.1/\d.1.length<=i+1/\ ∃u:Nat,d.2.2.1=(u:Int)/\u<=i+1:=fun C I=>⟨_,rfl,rfl,b.push (w C) I,by simp;omega,i+1,rfl,ay _⟩
   unfold aF;simp only[];rw[aV,bu j,if_pos rfl,if_pos (decide_eq_true (by omega)),atB j,ae (by omega)];simp only[aa];by_cases c:((l[i].toNat:Nat):Int)=10
   ·rw[if_neg (by simpa using c),M];simp only[aa];rw[L];simp only[aa];by_cases t:r.2.2=true
    ·rw[if_pos t];by_cases p:decide ((a.length:Int)>0)=true
     ·rw[if_pos p];have E:0<a.length:=by simpa using p
      have H:=(b.2.1 (a.length - 1) (by omega)).1;rw[show ((a.length - 1:Nat):Int)=(a.length:Int) - 1 by omega] at H;rw[fw (by omega),ai (xs:=a) (by omega) (by omega)];simp only[aa];rw[bd (n:=nth a ((a.length:Int) - 1)+1) (by omega) (by omega)];by_cases x:(r.1 !=nth a ((a.length:Int) - 1)+1)=true
      ·rw[if_pos x];exact .inr ⟨_,rfl,(fun d h=>by cases h),a,g,_,b,.inl rfl⟩
      ·rw[if_neg x,B,z];exact .inl ⟨j,A t fun _=>by simpa using x⟩
     ·rw[if_neg p,B,z];exact .inl ⟨j,A t fun E=>absurd (by simpa using E) p⟩
    ·rw[if_neg t];exact .inr ⟨_,rfl,(fun d h=>by cases h),a,g,_,b,.inl rfl⟩
   ·rw[if_pos (by simpa using c)];exact .inl ⟨j,_,rfl,rfl,b,(by show a.length<=i+1;omega),u,rfl,by omega⟩
  ·obtain rfl:i=l.length:=by omega
   refine .inr ⟨.brk (a,g,(u:Int),(l.length:Int)),?_,(fun d h=>by cases h),a,g,_,b,.inr ⟨_,rfl⟩⟩;unfold aF;simp only[];rw[aV,if_neg (by simp)]) (s:=(([] :List Int),([] :List (List ChT)),0,0)) ⟨rfl,⟨rfl,fun i v=>absurd v (Nat.not_lt_zero _),fun i v=>absurd v (Nat.not_lt_zero _)⟩,ay _,0,rfl,ay _⟩ (mB (by omega))
 obtain ⟨r,q,n,F,y⟩:=y;unfold m_s_ScanLog;rcases y with rfl | ⟨i,rfl⟩
 ·rw[aW e];exact ⟨_,_,_,rfl,F⟩
 ·rw[af e];exact ⟨_,_,_,rfl,F⟩
theorem WB:m_s_ScanLog (mkB [])=some ([],[],0):=by
 have:aF (mkB []) (([] :List Int),([] :List (List ChT)),0,0)=some (.brk ([],[],0,0)):=by
  unfold aF;rw[aV];rfl
 have e:=aQ (f:=aF (mkB [])) (fun _=>(([] :List Int),([] :List (List ChT)),(0:Int),(0:Int))) 0 (fun i a=>absurd a (Nat.not_lt_zero _)) this (mB (by omega));have e:ah (aF (mkB [])) aR (([] :List Int),([] :List (List ChT)),0,0)=_:=e;unfold m_s_ScanLog;rw[af e]
theorem JT (r:List Int) (q:List (List ChT)) (i:Nat): ∀d,totL r q i<=totL r q (i+d)
 | 0=>ay _
 | d+1=>by
  have:=JT r q i d
  rw[<-Nat.add_assoc,totL];omega
theorem Nz {r:List Int} {q:List (List ChT)} (h:ScW r q) (f:totL r q r.length<=4000) (v:Int): ∀j,j<=r.length-> ∃(R:List Int) (Q:List (List ChT)),m_s_ScanLog (mkB (Bv v r q j))=some (R,Q,((Bv v r q j).length:Int))/\(0<R.length->0<j/\nth R ((R.length:Int) - 1)=nth r ((j:Int) - 1)/\nth r ((j:Int) - 1)>v)
 | 0,_=>⟨[],[],WB,fun h=>absurd h (Nat.not_lt_zero _)⟩
 | j+1,hj=>by
  obtain ⟨R,Q,e,k⟩:=Nz h f v j (by omega);have d:=JT r q (j+1) (r.length - (j+1));rw[show j+1+(r.length - (j+1))=r.length by omega] at d;have a:=tP v r q (j+1);have step:0<R.length->nth r (j:Int)=nth r ((j:Int) - 1)+1:=fun c=>by
   obtain ⟨g,-,-⟩:=k c
   have:=h.2.2 (j - 1) (by omega)
   rw[show j - 1+1=j by omega,show ((j - 1:Nat):Int)=(j:Int) - 1 by omega] at this;exact this
  rw[show (((j+1:Nat):Int) - 1)=(j:Int) by omega];rw[Bv] at a⊢;by_cases c:nth r (j:Int)>v
  ·rw[if_pos c] at a⊢;refine ⟨R++ [nth r (j:Int)],Q++ [nth q (j:Int)],Tt (h.2.1 j (by omega)) (by omega) e (fun c=>by rw[(k c).2.1];exact step c),fun _=>⟨by omega,Nw _ _,c⟩⟩
  ·rw[if_neg c,List.append_nil];refine ⟨R,Q,e,fun b=>?_⟩
   have:=step b
   have:=(k b).2.2
   omega
theorem JU {e:EngT} (a:Data.sm e) {v:Int} {x:EngT} (h:bQ e v=some (x,true)):EV e/\e.1.1<=v/\v<=latV e.1/\ ∃r q n,m_s_ScanLog e.2.2.2=some (r,q,n)/\x=((v,e.1.2.drop (v - e.1.1).toNat),e.2.1,e.2.2.1,mkB (Bv v r q r.length)):=by
 obtain ⟨b,o,I,w⟩:=zQ e a;unfold bQ cH at h;simp only[fx,tO e a,HW e.1 a.1,o,aa] at h;cases b with
 | false =>
  exfalso
  cases hv:m_s_IsValidHistory e.1 with
  | none =>
   have hv:m_s_IsValidHistory (e.1.1,e.1.2)=_:=hv;rw[hv] at h;cases h
  | some c =>
   have d:m_s_IsValidHistory (e.1.1,e.1.2)=_:=hv;rw[d] at h;obtain ⟨y,f,-,-,-⟩:=JO e.1 a.1 v;unfold cH at f;simp only[fx,HW e.1 a.1,aa] at f;rw[d] at f;rw[f] at h;simp at h
 | true =>
  have D:=w rfl;have V:=aeK a o;obtain ⟨u,k,t,m⟩:=jM e.1 a.1;have i:m_s_IsValidHistory e.1=some true:=V.his;rw[i] at k;obtain rfl:true=u:=ad k;obtain ⟨s,-⟩:=jN i t (m rfl);have F:=m rfl;have g:m_s_IsValidHistory (e.1.1,e.1.2)=some true:=i;have j:aL (e.1.1,e.1.2)=some (latV e.1):=s;simp only[g,j,if_true,aa,xm] at h;by_cases c:e.1.1<=v/\v<=latV e.1
  ·have p:=c;unfold latV at p;have A:chk (0<=v - e.1.1/\v - e.1.1<=(e.1.2.length:Int))=some ():=by
    unfold chk;rw[if_pos ⟨by omega,by omega⟩]
   rw[decide_eq_true c,bd (n:=v - e.1.1) (by omega) (by omega)] at h;simp only[if_true,A,aa] at h;obtain ⟨r,q,n,l,G,z,C,E,H⟩:=D.sc;have B:=aaA (v:=v) (n:=n) C.1 z;unfold pW at h;simp only[l,aa,B,aM,fx] at h;have h:=ad h;exact ⟨V,c.1,c.2,r,q,_,l,(congrArg Prod.fst h).symm⟩
  ·rw[decide_eq_false c] at h;simp at h
theorem F7 {e:EngT} (p:Data.sm e) {v:Int} {x:EngT} (h:bQ e v=some (x,true)):EV x/\x.1.1=v/\latV x.1=latV e.1/\nth x.1.2 ((x.1.2.length:Int) - 1)=nth e.1.2 ((e.1.2.length:Int) - 1)/\x.2.1=e.2.1/\x.2.2.1=e.2.2.1/\EV e:=by
 obtain ⟨V,Y,C,r,q,n,t,rfl⟩:=JU p h;obtain ⟨s,N,X,S⟩:=(zR e.1 p.1).1 V.his;unfold latV at C;have z:(e.1.2.drop (v - e.1.1).toNat).length=e.1.2.length - (v - e.1.1).toNat:=bq ..;have B: ∀i:Nat,i<(e.1.2.drop (v - e.1.1).toNat).length->nth (e.1.2.drop (v - e.1.1).toNat) (i:Int)=nth e.1.2 (((v - e.1.1).toNat+i:Nat):Int):=fun i w=>by
  rw[bJ w,bJ (by omega),List.getElem_drop]
 have a:latV (v,e.1.2.drop (v - e.1.1).toNat)=latV e.1:=by
  unfold latV;show v+((e.1.2.drop (v - e.1.1).toNat).length:Int) - 1=_;omega
 have b:nth (e.1.2.drop (v - e.1.1).toNat) (((e.1.2.drop (v - e.1.1).toNat).length:Int) - 1)=nth e.1.2 ((e.1.2.length:Int) - 1):=by
  rw[show ((e.1.2.drop (v - e.1.1).toNat).length:Int) - 1=(((e.1.2.drop (v - e.1.1).toNat).length - 1:Nat):Int) by omega,B _ (by omega)];congr 1;omega
 have u:Data.sm (v,e.1.2.drop (v - e.1.1).toNat):=⟨trivial,Tn p.1.2 _⟩;have m:m_s_IsValidHistory (v,e.1.2.drop (v - e.1.1).toNat)=some true:=(zR _ u).2 ⟨fun g G=>by
  have y:=List.mem_of_mem_drop G;refine ⟨(s g y).1,?_⟩;show g.1=(nth (e.1.2.drop (v - e.1.1).toNat) 0).1;have A:=B 0 (by omega);rw[show ((0:Nat):Int)=0 from rfl] at A;rw[A,(s g y).2];exact ((s _ (bG (xs:=e.1.2) (i:=(((v - e.1.1).toNat+0:Nat):Int)) (by omega) (by omega))).2).symm,(by
   show 1<=(e.1.2.drop (v - e.1.1).toNat).length/\(e.1.2.drop (v - e.1.1).toNat).length<=8;omega),(by show 1<=v;omega),(by
   show v<=1000 - ((e.1.2.drop (v - e.1.1).toNat).length:Int);omega)⟩
 obtain ⟨M,J,d,K,o⟩:=V.log;rw[t] at d;have d:=ad d;simp only[Prod.mk.injEq] at d;obtain ⟨rfl,rfl,rfl⟩:=d;obtain ⟨l,f⟩:=F6 e.2.2.2;have P:e.2.2.2.size=l.length:=by rw[f];exact aV l
 rw[f] at t;obtain ⟨r2,U,n2,k,F⟩:=ada (l:=l) (by omega);obtain ⟨O,q3,W,j,-,T,-,-,L⟩:=pa l (by omega);rw[t] at k j;have k:=ad k;have j:=ad j;simp only[Prod.mk.injEq] at k j;obtain ⟨rfl,rfl,-⟩:=k;obtain ⟨rfl,rfl,-⟩:=j;obtain ⟨R,Q,H,E⟩:=Nz F (by omega) v r.length (ay _);have I:=tP v r q r.length;refine ⟨⟨m,V.reg,V.len,fun i w=>?_,R,Q,?_,?_,?_⟩,rfl,a,b,rfl,rfl,V⟩
 ·show SubP e.2.1 (latV (v,e.1.2.drop (v - e.1.1).toNat)) e.2.2.1 i;rw[a];exact V.sub i w
 ·show m_s_ScanLog (mkB (Bv v r q r.length))=some (R,Q,((mkB (Bv v r q r.length)).size:Int));rw[aV];exact H
 ·show (mkB (Bv v r q r.length)).size<=4000;rw[aV];omega
 ·show R.length=0\/nth R ((R.length:Int) - 1)=latV (v,e.1.2.drop (v - e.1.1).toNat);rcases Nat.eq_zero_or_pos R.length with c | c
  ·exact .inl c
  ·right;obtain ⟨Z,D,-⟩:=E c;rw[a,D];rcases o with o | o
   ·omega
   ·exact o
theorem aeM {d:Pr->Bool} {f:Pr->Option Bool} (w: ∀x,f x=some (d x)) (xs:List Pr) (G:xs.length<=1073741824):cK xs f=some (xs.filter fun x=> !d x):=by
 unfold cK;rcases acN (l:=xs) (d:=d) (f:=f) w G with ⟨r,H,u,B,e⟩ | ⟨u,e⟩
 ·rw[e];simp only[aa];have q:(((r:Nat):Int) == -1)=false:=beq_eq_false_iff_ne.2 (by omega);rw[q];simp only[Bool.false_eq_true,if_false];rw[ae (by omega)];have c:(xs.take (r+1)).filter (fun x=> !d x)=xs.take r:=by
   rw[List.take_succ_eq_append_getElem H,List.filter_append];rw[show [xs[r]].filter (fun x=> !d x)= [] from by simp[u],List.append_nil,List.filter_eq_self];intro a n;obtain ⟨j,m,rfl⟩:=List.getElem_of_mem n;rw[az] at m;rw[List.getElem_take,B j (by omega)];rfl
  obtain ⟨s,C,b,rfl,h,g,k,o⟩:=fb (f:=cn f) (fun t s=> ∃b:List Pr,s=((((xs.take (r+1+t)).filter (fun x=> !d x)).length:Int),((r+1+t:Nat):Int),b)/\b.length=xs.length/\b.take ((xs.take (r+1+t)).filter (fun x=> !d x)).length=(xs.take (r+1+t)).filter (fun x=> !d x)/\b.drop (r+1+t)=xs.drop (r+1+t)/\((xs.take (r+1+t)).filter (fun x=> !d x)).length<=r+t) (xs.length - (r+1)) (fun t s I v=>by
   obtain ⟨b,rfl,h,g,k,o⟩:=v;have m:r+1+t<xs.length:=by omega
   unfold cn;rw[show ((b.length:Nat):Int)=(xs.length:Int) from by rw[h],bu m,if_pos rfl,aC (xs:=b) (by omega),zM k (ay _) (by omega) m];simp only[aa,fx,w];have p:(xs.take (r+1+(t+1))).filter (fun x=> !d x)=(xs.take (r+1+t)).filter (fun x=> !d x)++ [xs[r+1+t]].filter (fun x=> !d x):=by
    rw[<-List.filter_append,<-List.take_succ_eq_append_getElem m];rfl
   generalize (xs.take (r+1+t)).filter (fun x=> !d x)=K at *;rw[p];cases A:d xs[r+1+t] with
   | true =>
    rw[if_pos rfl];simp only[aa];rw[ae (by omega),show [xs[r+1+t]].filter (fun x=> !d x)= [] from by simp[A],List.append_nil];exact ⟨_,rfl,b,rfl,h,g,zL k,by omega⟩
   | false =>
    rw[if_neg (by simp),aC (xs:=b) (by omega)];simp only[aa];rw[ae (by omega),ae (by omega),show [xs[r+1+t]].filter (fun x=> !d x)= [xs[r+1+t]] from by simp[A]];refine ⟨_,rfl,b.set K.length xs[r+1+t],?_,by simpa using h,?_,?_,?_⟩
    ·rw[au,List.length_singleton];rfl
    ·rw[au,List.length_singleton,HH (by omega),g]
    ·rw[set_drop (by omega)];exact zL k
    ·rw[au,List.length_singleton];omega) (fun s v=>by
   obtain ⟨b,rfl,h,g,k,o⟩:=v;unfold cn;rw[if_neg (by simp;omega)]) (s:=(((r:Nat):Int),((r+1:Nat):Int),xs)) ⟨xs,by rw[Nat.add_zero,c,az,Nat.min_eq_left (by omega)],rfl,by rw[Nat.add_zero,c,az,Nat.min_eq_left (by omega)],rfl,by rw[Nat.add_zero,c,az];omega⟩ (cX _ (by omega))
  rw[af C];have i:xs.take (r+1+(xs.length - (r+1)))=xs:=List.take_of_length_le (by omega);rw[i] at g o⊢;generalize (xs.filter fun x=> !d x)=K at *;have y:K.length<=b.length:=by omega
  have F:((0:Int)+((K.length:Nat):Int)).toNat=K.length:=by omega
  have E:((0:Int)+(((b.length:Nat):Int) - 0)).toNat=b.length:=by omega
  simp only[F,E];have D:=Eb (z:=((0,0):Pr)) y;rw[wJ (by omega),aa,wJ (by omega),aa,wJ (by rw[D];omega),aa,AQ y,g,List.drop_zero]
 ·rw[e];simp only[aa];rw[if_pos (by rfl)];congr 1;exact (List.filter_eq_self.2 fun a n=>by rw[u a n];rfl).symm
theorem NA: ∀(l:List Pr) (b:Pr),l≠ [] ->nub (l++ [b])=if l.getLast? =some b then nub l else nub l++ [b]
 | [],b,h=>absurd rfl h
 | [a],b,_=>by
  by_cases e:a=b
  ·subst e;simp[nub]
  ·simp[nub,e]
 | a::c::l,b,_=>by
  have f:=NA (c::l) b (by simp);have d:(a::c::l).getLast? =(c::l).getLast? :=by simp[List.getLast?_cons_cons]
  rw[d];show nub (a::c::(l++ [b]))=_;rw[nub,nub];rw[show c::(l++ [b])=(c::l)++ [b] from rfl,f];by_cases e:a=c
  ·rw[if_pos e,if_pos e]
  ·rw[if_neg e,if_neg e];split <;> simp
theorem HY {xs:List Pr} {j:Nat} (c:0<j) (h:j<xs.length):nub (xs.take (j+1))=if xs[j - 1] =xs[j] then nub (xs.take j) else nub (xs.take j)++ [xs[j]]:=by
 rw[List.take_succ_eq_append_getElem h,NA _ _ (by
  intro e;have b:=congrArg List.length e;rw[az,Nat.min_eq_left (Nat.le_of_lt h),aD] at b;omega)]
 have a:(xs.take j).getLast? =some xs[j - 1]:=by
  rw[List.getLast?_eq_getElem?,az,Nat.min_eq_left (Nat.le_of_lt h),List.getElem?_take,if_pos (show j - 1<j by omega),List.getElem?_eq_getElem (show j - 1<xs.length by omega)]
 rw[a];by_cases e:xs[j - 1] =xs[j]
 ·rw[if_pos (by rw[e]),if_pos e]
 ·rw[if_neg (by simpa using e),if_neg e]
theorem NB {xs:List Pr} : ∀(j:Nat),j<=xs.length->(∀q (b:q<j) (f:0<q) (g:j<=xs.length),xs[q - 1]'(by omega)≠xs[q]'(by omega))->nub (xs.take j)=xs.take j
 | 0,_,_=>by simp[nub]
 | 1,h,_=>by
  cases xs with
  | nil=>simp[nub]
  | cons a l=>simp[nub]
 | j+2,h,b=>by
  rw[HY (by omega) (by omega),if_neg (b (j+1) (by omega) (by omega) h),NB (j+1) (by omega) (fun q d c e=>b q (by omega) c h),<-List.take_succ_eq_append_getElem]
theorem Tu (xs:List Pr) (Y:xs.length<=1073741824):dm xs=some (nub xs):=by
 unfold dm;by_cases I:xs.length<2
 ·rw[if_pos (by simp;omega)];cases xs with
  | nil=>rfl
  | cons a l =>
   cases l with
   | nil=>rfl
   | cons b l=>simp only[aw] at I;omega
 rw[if_neg (by simp;omega)];have key:(ah (bV xs) aR 1=some (.ret (nub xs)))\/(∃s,ah (bV xs) aR 1=some (.brk s)/\nub xs=xs):=by
  obtain ⟨o,e,T⟩:=bW (f:=bV xs) (fun t s=>s=((t+1:Nat):Int)/\nub (xs.take (t+1))=xs.take (t+1)) (fun o=>o= .ret (nub xs)\/ ∃s,o= .brk s/\nub xs=xs) (xs.length - 1) (fun t s W i=>by
   obtain ⟨rfl,i⟩:=i;unfold bV;by_cases y:t+1<xs.length
   ·have hp:((t+1:Nat):Int) - 1=((t:Nat):Int):=by omega
    rw[bu y,if_pos rfl,aC y,bd (n:=((t+1:Nat):Int) - 1) (by omega) (by omega),hp,aC (show t<xs.length by omega)];simp only[aa,aex];have k:=HY (xs:=xs) (j:=t+1) (by omega) y;rw[i] at k;simp only[Nat.add_sub_cancel] at k;by_cases A:xs[t+1] =xs[t]
    ·rw[if_pos (decide_eq_true A),wJ (by omega),aa];rw[if_pos A.symm] at k;have m:(xs.take (t+1)).length=t+1:=by rw[az];omega
     obtain ⟨s,O,c,rfl,B,d,x,g⟩:=fb (f:=cL xs ((t+1:Nat):Int)) (fun u s=> ∃c:List Pr,s=(((nub (xs.take (t+2+u))).length:Int),((u+1:Nat):Int),c)/\c.length=xs.length/\c.take (nub (xs.take (t+2+u))).length=nub (xs.take (t+2+u))/\c.drop (t+1+u)=xs.drop (t+1+u)/\(nub (xs.take (t+2+u))).length<=t+1+u) (xs.length - (t+2)) (fun u s V i=>by
      obtain ⟨c,rfl,B,d,x,g⟩:=i;have H:t+2+u<xs.length:=by clear g d;omega
      have D:t+1+u<xs.length:=by clear g d;omega
      have p:t+2+u<c.length:=by clear g d;omega
      have w:t+1+u<c.length:=by clear g d;omega
      have J:(0+((t+1:Nat):Int))+((u+1:Nat):Int)=((t+2+u:Nat):Int):=by omega
      have R:((u+1:Nat):Int) - 1=((u:Nat):Int):=by omega
      have N:(0+((t+1:Nat):Int))+((u:Nat):Int)=((t+1+u:Nat):Int):=by omega
      unfold cL;dsimp only;rw[if_pos (by simp;omega),wJ (by omega)];simp only[aa];rw[bd (n:=((u+1:Nat):Int) - 1) (by omega) (by omega),J,R,N,aC (xs:=c) p,aC (xs:=c) w,wJ (by omega),zM x (by omega) p H,zM x (ay _) w D];simp only[aa,aex,fx];have M:t+2+u - 1=t+1+u:=by clear g d;omega
      have L:0<t+2+u:=by clear g d;omega
      have r:=HY (xs:=xs) (j:=t+2+u) L H;simp only[M] at r;have E:=zL x;rw[show t+1+u+1=t+1+(u+1) from by omega] at E;rw[show t+2+(u+1)=t+2+u+1 from by omega,r];generalize nub (xs.take (t+2+u))=K at *;by_cases C:xs[t+2+u] =xs[t+1+u]
      ·rw[if_pos (decide_eq_true C),if_pos C.symm];simp only[aa];rw[ae (by omega)];exact ⟨_,rfl,c,rfl,B,d,E,by omega⟩
      ·rw[if_neg (by simpa using C),if_neg (fun e=>C e.symm),aC (xs:=c) (show K.length<c.length by omega)];simp only[aa];rw[ae (by omega),ae (by omega)];refine ⟨_,rfl,c.set K.length xs[t+2+u],?_,by simpa using B,?_,?_,?_⟩
       ·rw[au,List.length_singleton];rfl
       ·rw[au,List.length_singleton,HH (by omega),d]
       ·rw[set_drop (by omega)];exact E
       ·rw[au,List.length_singleton];omega) (fun s i=>by
      obtain ⟨c,rfl,B,d,x,g⟩:=i;unfold cL;rw[if_neg (by simp;omega)]) (s:=(((t+1:Nat):Int),1,xs)) ⟨xs,by rw[Nat.add_zero,k,m];rfl,rfl,by rw[Nat.add_zero,k,m],rfl,by rw[Nat.add_zero,k,m];omega⟩ (cX _ (by omega))
     refine .inr ⟨.ret (nub xs),?_,fun U F=>(by simp at F),.inl rfl⟩;rw[af O];have v:xs.take (t+2+(xs.length - (t+2)))=xs:=List.take_of_length_le (by omega);rw[v] at d g⊢;generalize nub xs=K at *;have G:K.length<=c.length:=by omega
     have S:((0:Int)+((K.length:Nat):Int)).toNat=K.length:=by omega
     have Q:((0:Int)+(((c.length:Nat):Int) - 0)).toNat=c.length:=by omega
     simp only[S,Q];have P:=Eb (z:=((0,0):Pr)) G;rw[wJ (by omega),aa,wJ (by omega),aa,wJ (by rw[P];omega),aa,AQ G,d,List.drop_zero]
    ·rw[if_neg (by simpa using A),ae (by omega)];rw[if_neg (fun e=>A e.symm),<-List.take_succ_eq_append_getElem y] at k;exact .inl ⟨by omega,_,rfl,rfl,k⟩
   ·refine .inr ⟨.brk ((t+1:Nat):Int),?_,fun U F=>(by simp at F),.inr ⟨_,rfl,?_⟩⟩
    ·rw[if_neg (by simp;omega)]
    ·rw[List.take_of_length_le (by omega)] at i;exact i) (s:=1) ⟨rfl,NB 1 (by omega) (fun q y X=>by omega)⟩ (cX _ (by omega))
  rcases T with rfl | ⟨s,rfl,h⟩
  ·exact .inl e
  ·exact .inr ⟨s,e,h⟩
 rcases key with e | ⟨s,e,h⟩
 ·rw[aW e]
 ·rw[af e,h]
def aa3 (l:List Pr):List Pr:=nub (R.Oo R.Oq l)
theorem WC (l:List Pr):(R.Oo R.Oq l).Pairwise (fun a b=> ¬ltP b a):=by
 have d: ∀a b:Pr,(!(ltOf R.Oq b a))=true↔ ¬ltP b a:=fun a b=>by
  rw[Bool.not_eq_true',R.Ca];rfl
 have h:=List.pairwise_mergeSort (le:=fun x y=> !(ltOf R.Oq y x)) (fun a b c e f=>by
  rw[d] at *;intro h;unfold ltP at *;omega) (fun a b=>by
  rw[Bool.or_eq_true,d,d];unfold ltP;omega) l
 exact h.imp fun {a b} h=>(d a b).1 h
theorem NC (l:List Pr):Str (aa3 l):=Lv (WC l)
theorem ND {l:List Pr} {x:Pr} :x∈aa3 l↔x∈l:=by
 unfold aa3;rw[HE];exact List.mem_mergeSort
theorem adb (l:List Pr) (a:l.length<=268435456):tC l=some (aa3 l):=by
 unfold tC eK R.Vs;rw[al (by simp only[aD];omega)];simp only[aa,List.nil_append];rw[wJ (by omega)];simp only[aa];rw[Tu _ (by rw[R.I6];omega)]
 rfl
theorem Tv (l:List Pr):aa3 l=Lu [] l:=HB (NC l) (HC List.Pairwise.nil) fun x=>by rw[ND,HD];simp
theorem ade {a b:List Pr} (e:a.length<=67108864) (f:b.length<=67108864):iX a b=some (Lu [] (a.filter fun x=> !decide (x∈b))):=by
 have c:(aa3 a).length<=a.length:=by rw[Tv];have:=zN a [];simpa using this
 unfold iX;rw[adb a (by omega)];simp only[aa];rw[aeM (d:=fun x=>decide (x∈b)) (fun x=>by unfold my;rw[fx,aeA (by omega)];rfl) _ (by omega)];simp only[aa];congr 1;refine HB (OZ (NC a)) (HC List.Pairwise.nil) fun x=>?_;rw[HD,List.mem_filter,List.mem_filter,ND];simp
theorem O4 (a b:List (Int×Int)) (c:a.length<=1000000) (g:b.length<=1000000): ∃d:Yq7×Yq7,gu a b=some d/\mc a b=some d/\d.1.length<=b.length/\d.2.length<=a.length:=by
 unfold gu mc;rw[wB (by omega) (by omega),wB (by omega) (by omega),ade (by omega) (by omega),ade (by omega) (by omega)];have k: ∀(l:List (Int×Int)) (f:Int×Int->Bool),(Lu [] (l.filter f)).length<=l.length:=fun l f=>by
  have:=zN (l.filter f) []
  have e:=List.length_filter_le f l;simp at this;omega
 exact ⟨_,rfl,rfl,k _ _,k _ _⟩
theorem F8 (h:rZ) (d:Data.sm h) {r:pZ} (f:Data.sm r) (id v:Int): ∃(g:GrT) (q:Bool) (l:List (Int×Int)) (b:Bool),eD h v=some (g,q)/\bA r g id=some (l,b)/\jy h r id v=some (if q then l else [],if q then b else false)/\l.length<=150/\(m_i_IsValidHistory h=some true->h.1<=v->v<=latV h->q=true):=by
 obtain ⟨g,q,e,c,m,k,-⟩:=JE h d v;obtain ⟨l,b,j,a,i⟩:=Bw f m id;refine ⟨g,q,l,b,e,j,?_,i,k⟩;unfold jy;have c:mw (h.1,h.2) v=_:=c;rw[c];simp only[aa];have a:fm (r.1,r.2) (g.1,g.2) id=_:=a;cases q with
 | false=>rfl
 | true=>simp only[if_true];rw[a];rfl
theorem JV (h:rZ) (x:Data.sm h) {r:pZ} (t:Data.sm r) (s:ux): ∃b,jq h r s=some b/\qv h r s=some b/\(b=true->m_i_IsValidHistory h=some true/\aL h=some (latV h)/\cZ h=some (latV h)/\((1<=h.2.length/\h.2.length<=8)/\1<=h.1/\h.1<=1000 - (h.2.length:Int))/\0<=s.2.2/\s.2.2<latV h):=by
 obtain ⟨b,p,q,k⟩:=jM h x;obtain ⟨c,n,m,-⟩:=oq t;obtain ⟨f,a,l,-⟩:=sY r s.2.1 (aP t.2).1;have o:m_s_IsValidHistory (h.1,h.2)=_:=p;have e:m_i_IsValidHistory (h.1,h.2)=_:=q;have n:m_s_IsValidRegistry (r.1,r.2)=_:=n;have m:cx (r.1,r.2)=_:=m;have a:ct (r.1,r.2) s.2.1=_:=a;have l:gP (r.1,r.2) s.2.1=_:=l;unfold jq qv;rw[o,e,n,m,a,l];simp only[aa];cases b with
 | false=>exact ⟨false,rfl,rfl,fun c=>by cases c⟩
 | true =>
  obtain ⟨u,w⟩:=jN p q (k rfl);have j:aL (h.1,h.2)=_:=u;have i:cZ (h.1,h.2)=_:=w;cases c with
  | false=>exact ⟨false,rfl,rfl,fun c=>by cases c⟩
  | true =>
   rw[j,i];simp only[if_true,aa];by_cases g:f≥0
   ·by_cases d:s.2.2≥0
    ·simp only[decide_eq_true g,decide_eq_true d,if_true];exact ⟨_,rfl,rfl,fun v=>⟨trivial,trivial,trivial,k rfl,d,of_decide_eq_true v⟩⟩
    ·simp only[decide_eq_true g,decide_eq_false d,if_true,Bool.false_eq_true,if_false];exact ⟨false,rfl,rfl,fun c=>by cases c⟩
   ·simp only[decide_eq_false g,Bool.false_eq_true,if_false];exact ⟨false,rfl,rfl,fun c=>by cases c⟩
theorem WD (h:rZ) (u:Data.sm h) {r:pZ} (v:Data.sm r) (s:ux) (a:Int) (hv:m_i_IsValidHistory h=some true) (E:(1<=h.2.length/\h.2.length<=8)/\1<=h.1/\h.1<=1000 - (h.2.length:Int)) (I:0<=s.2.2/\s.2.2<latV h) (t:h.1<=a/\a<=latV h) :
  ∃m:SA,dy h r s a=some m/\qx h r s a=some (m,(s.1,s.2.1,a),true)/\m.2.2.1.length<=150/\m.2.2.2.length<=150:=by
 have A:latV h<=1000:=by unfold latV;omega
 obtain ⟨g,q,l,b,f,j,k,D,z⟩:=F8 h u v s.2.1 a;obtain rfl:q=true:=z hv t.1 t.2;have f:eD (h.1,h.2) a=_:=f;have j:bA (r.1,r.2) (g.1,g.2) s.2.1=_:=j;have k:jy (h.1,h.2) (r.1,r.2) s.2.1 a=_:=k;unfold dy qx;rw[f,k];simp only[aa,if_true];rw[j];simp only[aa];by_cases c:s.2.2<h.1
 ·rw[if_pos (decide_eq_true c),if_pos (decide_eq_true c)];exact ⟨_,rfl,rfl,D,by simp⟩
 ·rw[if_neg (by simpa using c),if_neg (by simpa using c)];obtain ⟨p,w,C,F,n,i,o,y,e⟩:=F8 h u v s.2.1 s.2.2;obtain rfl:w=true:=e hv (by omega) (by omega);have n:eD (h.1,h.2) s.2.2=_:=n;have i:bA (r.1,r.2) (p.1,p.2) s.2.1=_:=i;have o:jy (h.1,h.2) (r.1,r.2) s.2.1 s.2.2=_:=o;rw[n,o];simp only[aa,if_true];rw[i];simp only[aa];obtain ⟨d,B,x,G,H⟩:=O4 C l (by omega) (by omega);rw[B,x];exact ⟨_,rfl,rfl,by simp only;omega,by simp only;omega⟩
theorem Tw (h:rZ) (j:Data.sm h) {r:pZ} (l:Data.sm r) (s:ux): ∃x:SA×ux×Bool,cR h r s=some x/\kR h r s=some x/\x.1.2.2.1.length<=150/\x.1.2.2.2.length<=150/\(x.2.2=true->s.2.2<x.2.1.2.2/\h.1<=x.2.1.2.2/\x.2.1.2.2<=latV h/\latV h<=h.1+7):=by
 obtain ⟨b,g,i,k⟩:=JV h j l s;have g:jq (h.1,h.2) (r.1,r.2) (s.1,s.2.1,s.2.2)=_:=g;have i:qv (h.1,h.2) (r.1,r.2) (s.1,s.2.1,s.2.2)=_:=i;unfold cR kR;rw[g,i];simp only[aa];cases b with
 | false=>exact ⟨_,rfl,rfl,Nat.zero_le _,Nat.zero_le _,fun c=>by cases c⟩
 | true =>
  obtain ⟨hv,-,-,o,u,v⟩:=k rfl;have w:latV h=h.1+(h.2.length:Int) - 1:=rfl;have t:i64.wrap (s.2.2+1)=s.2.2+1:=bd (by omega) (by omega);rw[t];simp only[if_true];have n:Max.max h.1 (s.2.2+1)=if h.1<=s.2.2+1 then s.2.2+1 else h.1:=by rw[Int.max_def]
  have a:h.1<=Max.max h.1 (s.2.2+1)/\Max.max h.1 (s.2.2+1)<=latV h/\s.2.2<Max.max h.1 (s.2.2+1):=by
   rw[n];split <;> omega
  generalize Max.max h.1 (s.2.2+1)=d at a⊢;obtain ⟨m,f,e,p,q⟩:=WD h j l s d hv o ⟨u,v⟩ ⟨a.1,a.2.1⟩;have f:dy (h.1,h.2) (r.1,r.2) (s.1,s.2.1,s.2.2) d=_:=f;have e:qx (h.1,h.2) (r.1,r.2) (s.1,s.2.1,s.2.2) d=_:=e;rw[f,e];exact ⟨(m,(s.1,s.2.1,d),true),rfl,rfl,p,q,fun _=>⟨a.2.2,a.1,a.2.1,by omega⟩⟩
theorem aaK (l:List ux) (id:Int) (s:l.length<=1048576): ∃k:Int,jo l id=some k/\aU l (fun h=>mb h id)=some k/\k<(l.length:Int):=by
 have r:=rW (f:=dR l id) l (fun u=>u.1==id) (fun i=>(i:Int)) (by omega) (fun i g=>by
  unfold dR;rw[bu g,if_pos rfl,aC g];simp[aa,ae (show i<9223372036854775807 by omega)];split <;> rfl) (by
  simp_all[dR,bE])
 have g:=Ww (l:=l) (d:=fun u=>u.1==id) (f:=fun h=>mb h id) (fun u=>rfl) (by omega);unfold jo;rcases r with ⟨i,m,o,q,e⟩ | ⟨m,e⟩
 ·rcases g with ⟨j,b,n,p,a⟩ | ⟨b,a⟩
  ·have:i=j:=by
    rcases Nat.lt_trichotomy i j with c | c | c
    ·have:=p i c;rw[o] at this;cases this
    ·exact c
    ·have:=q j c;rw[n] at this;cases this
   subst this;exact ⟨(i:Int),aW e,a,by omega⟩
  ·have:=b _ (List.getElem_mem m);rw[o] at this;cases this
 ·rcases g with ⟨j,b,n,p,a⟩ | ⟨b,a⟩
  ·have:=m _ (List.getElem_mem b);rw[n] at this;cases this
  ·exact ⟨-1,af e,a,by omega⟩
theorem aaL {h:rZ} (f:Data.sm h) {r:pZ} (g:Data.sm r) {s:ux} {x:SA×ux×Bool} (e:cR h r s=some x) (d:x.2.2=false):x=((0,false,[],[]),s,false):=by
 obtain ⟨b,a,-⟩:=JV h f g s;have a:jq (h.1,h.2) (r.1,r.2) (s.1,s.2.1,s.2.2)=_:=a;unfold cR at e;rw[a] at e;simp only[aa] at e;cases b with
 | false =>
  rw[if_neg (by simp)] at e;exact (ad e).symm
 | true =>
  rw[if_pos rfl] at e;cases c:dy (h.1,h.2) (r.1,r.2) (s.1,s.2.1,s.2.2) (Max.max h.1 (i64.wrap (s.2.2+1))) with
  | none=>rw[c] at e;cases e
  | some z =>
   rw[c] at e;simp only[aa] at e;rw[<-ad e] at d;cases d
theorem aaM {l:List ux} (h:Data.sm l) (k:Nat) (s:ux):Data.sm (l.set k s):=⟨by rw[List.length_set];exact (aP h).1,fun x _=>⟨trivial,trivial,trivial⟩⟩
theorem O5 (e:EngT) (a:Data.sm e) (id:Int): ∃x:EngT×SA×Bool,eP e id=some x/\oH e id=some x/\Data.sm x.1/\x.2.1.2.2.1.length<=150/\x.2.1.2.2.2.length<=150:=by
 obtain ⟨b,v,w,C⟩:=zQ e a;have A:=(aP a.2.2.1).1;obtain ⟨k,p,r,y⟩:=aaK e.2.2.1 id A;unfold eP oH rN;simp only[fx,tO e a,Tm e a,v,w,p,r,aa];cases b with
 | false=>exact ⟨(e,(0,false,[],[]),false),rfl,by split <;> rfl,a,Nat.zero_le _,Nat.zero_le _⟩
 | true =>
  simp only[if_true];by_cases c:k<0
  ·rw[if_pos (decide_eq_true c),if_pos (decide_eq_true c)];exact ⟨_,rfl,rfl,a,Nat.zero_le _,Nat.zero_le _⟩
  ·rw[if_neg (by simpa using c),if_neg (by simpa using c)];have g:=ai (xs:=e.2.2.1) (i:=k) (by omega) y;rw[g];simp only[aa,fx];obtain ⟨⟨m,s,q⟩,f,h,u,o,D⟩:=Tw e.1 a.1 a.2.1 (nth e.2.2.1 k);have B:=f;have f:cR (e.1.1,e.1.2) (e.2.1.1,e.2.1.2) ((nth e.2.2.1 k).1,(nth e.2.2.1 k).2.1,(nth e.2.2.1 k).2.2)=_:=f;have h:kR (e.1.1,e.1.2) (e.2.1.1,e.2.1.2) ((nth e.2.2.1 k).1,(nth e.2.2.1 k).2.1,(nth e.2.2.1 k).2.2)=_:=h;rw[f,h];simp only[aa];cases q with
   | true =>
    simp only[if_true];exact ⟨_,rfl,rfl,⟨a.1,a.2.1,aaM a.2.2.1 _ _,a.2.2.2⟩,u,o⟩
   | false =>
    have l:=aaL a.1 a.2.1 B rfl;have n:m=(0,false,[],[]):=congrArg (fun z=>z.1) l;have t:s=nth e.2.2.1 k:=congrArg (fun z=>z.2.1) l;subst n;subst t;have d:e.2.2.1.set k.toNat ((nth e.2.2.1 k).1,(nth e.2.2.1 k).2.1,(nth e.2.2.1 k).2.2)=e.2.2.1:=by
     obtain ⟨j,rfl⟩: ∃j:Nat,k=(j:Int):=⟨k.toNat,by omega⟩;rw[Int.toNat_natCast];show e.2.2.1.set j (nth e.2.2.1 (j:Int))=_;rw[bJ (by omega),List.set_getElem_self]
    rw[if_neg (by simp)]
    first | rw[d] | skip
    exact ⟨_,rfl,rfl,a,Nat.zero_le _,Nat.zero_le _⟩
theorem O6 {h:rZ} {r:pZ} {s:ux} {i:Int} {m:SA} (e:dy h r s i=some m):m.2.1=decide (s.2.2<h.1):=by
 unfold dy at e;obtain ⟨g,-,e⟩:=Option.bind_eq_some_iff.1 e;obtain ⟨b,-,e⟩:=Option.bind_eq_some_iff.1 e;by_cases c:s.2.2<h.1
 ·rw[if_pos (decide_eq_true c)] at e;rw[<-ad e,decide_eq_true c]
 ·rw[if_neg (by simpa using c)] at e;obtain ⟨f,-,e⟩:=Option.bind_eq_some_iff.1 e;obtain ⟨a,-,e⟩:=Option.bind_eq_some_iff.1 e;obtain ⟨d,-,e⟩:=Option.bind_eq_some_iff.1 e;rw[<-ad e,decide_eq_false c]
theorem O7 {h:rZ} {r:pZ} {s:ux} {x:SA×ux×Bool} (e:cR h r s=some x) (q:x.2.2=true):x.1.2.1=decide (s.2.2<h.1):=by
 unfold cR at e;obtain ⟨b,-,e⟩:=Option.bind_eq_some_iff.1 e;cases b with
 | false =>
  rw[if_neg (by decide)] at e;rw[<-ad e] at q;cases q
 | true =>
  rw[if_pos rfl] at e;obtain ⟨m,k,e⟩:=Option.bind_eq_some_iff.1 e;rw[<-ad e];exact O6 (h:=(h.1,h.2)) (s:=(s.1,s.2.1,s.2.2)) k
theorem LH {e:EngT} (V:EV e) {j:Nat} : ∀i,j<i->i<e.2.2.1.length->(nth e.2.2.1 (j:Int)).1<(nth e.2.2.1 (i:Int)).1
 | 0,h,_=>absurd h (Nat.not_lt_zero _)
 | i+1,h,hi=>by
  have k:=(V.sub (i+1) hi).2.1 (Nat.succ_pos _);rw[show ((i+1:Nat):Int) - 1=(i:Int) by omega] at k;by_cases c:j=i
  ·rw[c];exact k
  ·exact Int.lt_trans (LH V i (by omega) (by omega)) k
theorem WE {e:EngT} (g:Data.sm e) (V:EV e) {i:Nat} (hi:i<e.2.2.1.length):jo e.2.2.1 (nth e.2.2.1 (i:Int)).1=some (i:Int):=by
 have l:=(aP g.2.2.1).1;have d:=rW (f:=dR e.2.2.1 (nth e.2.2.1 (i:Int)).1) e.2.2.1 (fun u=>u.1==(nth e.2.2.1 (i:Int)).1) (fun i=>(i:Int)) (by omega) (fun i hi=>by
  unfold dR;rw[bu hi,if_pos rfl,aC hi];simp[aa,ae (show i<9223372036854775807 by omega)];split <;> rfl) (by
  simp_all[dR,bE])
 unfold jo;rcases d with ⟨j,a,b,h,k⟩ | ⟨a,k⟩
 ·have b:e.2.2.1[j].1=(nth e.2.2.1 (i:Int)).1:=eq_of_beq b;rw[<-bJ a] at b
  have:j=i:=by
   rcases Nat.lt_trichotomy i j with c | c | c
   ·have:=LH V j c a;omega
   ·exact c.symm
   ·have:=LH V i c hi;omega
  rw[aW k,this]
 ·have:=a _ (List.getElem_mem hi)
  rw[<-bJ hi] at this;simp at this
theorem O8 {e:EngT} (a:Data.sm e) (V:EV e) {i:Nat} (hi:i<e.2.2.1.length) {y:EngT×SA×Bool} (h:eP e (nth e.2.2.1 (i:Int)).1=some y) (q:y.2.2=true):y.2.1.2.1=decide ((nth e.2.2.1 (i:Int)).2.2<e.1.1):=by
 have b:=(aP a.2.2.1).1;unfold eP at h;simp only[fx,tO e a,(adG a V).1,WE a V hi,aa,if_true] at h;rw[if_neg (by simp),ai (xs:=e.2.2.1) (i:=(i:Int)) (by omega) (by omega)] at h;simp only[aa,fx] at h;obtain ⟨x,k,h⟩:=Option.bind_eq_some_iff.1 h;cases c:x.2.2 with
 | false =>
  rw[c,if_neg (by decide)] at h;rw[<-ad h] at q;cases q
 | true =>
  rw[c,if_pos rfl] at h;rw[<-ad h];exact O7 (h:=(e.1.1,e.1.2)) k c
theorem aaN {h:rZ} (c:Data.sm h): ∃v,aL h=some v:=by
 obtain ⟨b,a,d,k⟩:=jM h c;cases b with
 | true=>exact ⟨_,(jN a d (k rfl)).1⟩
 | false =>
  refine ⟨0,?_⟩;unfold aL;have a:m_s_IsValidHistory (h.1,h.2)=_:=a;rw[a];rfl
theorem O9 {xs:List Int} (a:xs.length<=1048576): ∃r:EngT×Int,gK xs=some r/\Data.sm r.1:=by
 unfold gK;obtain ⟨f,g,j⟩:=aef a;rw[g];simp only[aa];obtain ⟨b,d,c,i⟩:=Wy (h:=f.2) a j;rw[d];simp only[aa];obtain ⟨v,ev⟩:=aaN c.1.1;have ev:aL (b.1.1.1,b.1.1.2)=some v:=ev;obtain ⟨k,e,-,-⟩:=bN (h:=b.2.2) a i (n:=4) (by omega);simp only[ev,e,aa];exact ⟨_,rfl,c.1⟩
theorem Tx {e:EngT} (a:Data.sm e) {v:Int} {x:EngT} (b:Data.sm x) (h:bQ e v=some (x,true)) (id:Int):eJ x id=eJ e id:=by
 obtain ⟨V,-,-,c,g,-,W⟩:=F7 a h;have j:=((zR x.1 b.1).1 V.his).2.1;have k:=((zR e.1 a.1).1 W.his).2.1;have d:=ai (xs:=x.1.2) (i:=(x.1.2.length:Int) - 1) (by omega) (by omega);have f:=ai (xs:=e.1.2) (i:=(e.1.2.length:Int) - 1) (by omega) (by omega);unfold eJ;simp only[fx,(adG b V).1,(adG a W).1,aa,if_true];rw[bd (n:=(x.1.2.length:Int) - 1) (by omega) (by omega),bd (n:=(e.1.2.length:Int) - 1) (by omega) (by omega),d,f,c,g]
theorem Pa (x:List (Int×Int)) (c:x.length<=1048576):lT x x=some true:=by
 have a:lT x x=some (decide (x=x)):=by
  unfold lT;exact eqL (f:=lu x x) x x (by omega) (fun i h b=>by
   simp only[lu,bu h,if_true,aC h,aC b,aa,ae (show i<9223372036854775807 by omega)];simp) (by simp only[lu,bE];rfl)
 rw[a,decide_eq_true rfl]
theorem El (xs:List Int) (z:Data.lim xs):me xs=some true:=by
 unfold me KS;simp only[aa];by_cases c:(xs.length:Int)>1048576
 ·rw[if_pos (by simpa using c)]
 rw[if_neg (by simpa using c)];have w:xs.length<=1048576:=by omega
 obtain ⟨⟨e,v⟩,t,g⟩:=O9 w;have g:Data.sm e:=g;rw[t];simp only[aa,fx];obtain ⟨⟨x,u⟩,o,s,a,-⟩:=JQ e g v;have a:Data.sm x:=a;rw[o,s];simp only[aa,fx,ac7 x a,bne_self_eq_false,Bool.false_eq_true,if_false,if_true];cases u with
 | false=>rfl
 | true =>
  obtain ⟨V,h,-,-,-,-,-⟩:=F7 g o;have B:x.2.1.2.length<=1048576:=(aP a.2.1.2).1;have A:x.2.2.1.length<=1048576:=(aP a.2.2.1).1;have j:=aQ (f:=fV (e,v) (x,true)) (fun i=>(i:Int)) x.2.1.2.length (fun i d=>by
   obtain ⟨l,b,k,m,C⟩:=Tq x a x.2.1.2[i].1;have q:=k;rw[Tx g a o] at q;unfold fV;simp only[fx];rw[bu d,if_pos rfl,aC d];simp only[aa];rw[m];simp only[aa];rw[q];simp only[aa];rw[Pa l (by omega),ae (by omega)];rfl) (by
   unfold fV;rw[bE];rfl) (mB (by omega))
  have n:=aQ (f:=fW (e,v) (x,true)) (fun i=>(i:Int)) x.2.2.1.length (fun i d=>by
   obtain ⟨y,k,m,-,-,-⟩:=O5 x a x.2.2.1[i].1;unfold fW;simp only[fx];rw[bu d,if_pos rfl,aC d];simp only[aa];rw[m,ae (by omega)];simp only[aa];by_cases p:y.2.2=true
   ·have r:=O8 a V d (by rw[bJ d];exact k) p;rw[bJ d,h] at r;rw[if_pos p,r];simp
   ·rw[if_neg p]) (by
   unfold fW;rw[bE];rfl) (mB (by omega))
  have j:ah (fV (e,v) (x,true)) aR 0=_:=j;have n:ah (fW (e,v) (x,true)) aR 0=_:=n;have h:x.1.1=v:=h;rw[af j,af n,(adG a V).2];simp[h]
end D
namespace R
open Go.Shelf
def LI:Go.Shelf.Ren:=⟨fun | 146=>99 | 221=>146 | 268=>188 | 138=>189 | 143=>190 | 195=>233 | 197=>234 | 218=>235 | 219=>236 | 260=>283 | 217=>98 | 225=>284 | 224=>285 | 267=>286 | 266=>145 | 314=>319 | n=>n,fun | 9=>9 | 31=>144 | 3=>3 | 4=>4 | 0=>0 | 105=>258 | 21=>21 | 5=>5 | 46=>140 | 119=>338 | 139=>341 | 138=>340 | 146=>342 | 51=>316 | n=>n,fun | 1=>0 | 3=>4 | 4=>5 | n=>n⟩
theorem aaO:Go.Proofs.LaysM.n146 Tryz.prog LI:= {
 mixed:=by kernel_rfl
 f138:=Tryz.func189.trans (congrArg some (by kernel_rfl))
 f143:=Tryz.func190.trans (congrArg some (by kernel_rfl))
 f146:=Tryz.func99.trans (congrArg some (by kernel_rfl))
 f195:=Tryz.func233.trans (congrArg some (by kernel_rfl))
 f197:=Tryz.func234.trans (congrArg some (by kernel_rfl))
 f217:=Tryz.func98.trans (congrArg some (by kernel_rfl))
 f218:=Tryz.func235.trans (congrArg some (by kernel_rfl))
 f219:=Tryz.func236.trans (congrArg some (by kernel_rfl))
 f221:=Tryz.func146.trans (congrArg some (by kernel_rfl))
 f224:=Tryz.func285.trans (congrArg some (by kernel_rfl))
 f225:=Tryz.func284.trans (congrArg some (by kernel_rfl))
 f260:=Tryz.func283.trans (congrArg some (by kernel_rfl))
 f266:=Tryz.func145.trans (congrArg some (by kernel_rfl))
 f267:=Tryz.func286.trans (congrArg some (by kernel_rfl))
 f268:=Tryz.func188.trans (congrArg some (by kernel_rfl))
 f314:=Tryz.func319.trans (congrArg some (by kernel_rfl))
 t0:=Tryz.underlying0
 a0:=Tryz.isAgg0
 z0:=Tryz.sizeOf0
 v0:=Tryz.zeroValue0
 t3:=Tryz.underlying3
 a3:=Tryz.isAgg3
 z3:=Tryz.sizeOf3
 v3:=Tryz.zeroValue3
 t4:=Tryz.underlying4
 a4:=Tryz.isAgg4
 z4:=Tryz.sizeOf4
 v4:=Tryz.zeroValue4
 t5:=Tryz.underlying5
 a5:=Tryz.isAgg5
 z5:=Tryz.sizeOf5
 v5:=Tryz.zeroValue5
 t9:=Tryz.underlying9
 a9:=Tryz.isAgg9
 z9:=Tryz.sizeOf9
 v9:=Tryz.zeroValue9
 t21:=Tryz.underlying21
 a21:=Tryz.isAgg21
 z21:=Tryz.sizeOf21
 v21:=Tryz.zeroValue21
 t31:=Tryz.underlying144
 a31:=Tryz.isAgg144
 z31:=Tryz.sizeOf144
 v31:=Tryz.zeroValue144
 t46:=Tryz.underlying140
 a46:=Tryz.isAgg140
 z46:=Tryz.sizeOf140
 v46:=Tryz.zeroValue140
 t51:=Tryz.underlying316
 a51:=Tryz.isAgg316
 z51:=Tryz.sizeOf316
 v51:=Tryz.zeroValue316
 t105:=Tryz.underlying258
 a105:=Tryz.isAgg258
 z105:=Tryz.sizeOf258
 v105:=Tryz.zeroValue258
 t119:=Tryz.underlying338
 a119:=Tryz.isAgg338
 z119:=Tryz.sizeOf338
 t138:=Tryz.underlying340
 a138:=Tryz.isAgg340
 z138:=Tryz.sizeOf340
 v138:=Tryz.zeroValue340
 t139:=Tryz.underlying341
 a139:=Tryz.isAgg341
 z139:=Tryz.sizeOf341
 v139:=Tryz.zeroValue341
 t146:=Tryz.underlying342
 a146:=Tryz.isAgg342
 z146:=Tryz.sizeOf342
 v146:=Tryz.zeroValue342
 g1:=by kernel_rfl
 g3:=by kernel_rfl
 g4:=by kernel_rfl
 i0:=by kernel_rfl
 i3:=by kernel_rfl
 i4:=by kernel_rfl
 i5:=by kernel_rfl
 i9:=by kernel_rfl
 i21:=by kernel_rfl
 i31:=by kernel_rfl
 i46:=by kernel_rfl
 i51:=by kernel_rfl
 i105:=by kernel_rfl
 i138:=by kernel_rfl
 i139:=by kernel_rfl
 i146:=by kernel_rfl
 m1:=by kernel_rfl
 s1_3:=fun w h=>Go.Proofs.cell_of_shapedOpen_int (zero:= #[.int .i64 0]) (t:=3) h (of_decide_eq_true (by kernel_rfl)) (by kernel_rfl) rfl (by kernel_rfl) (by kernel_rfl) Tryz.underlying3
 m3:=by kernel_rfl
 m4:=by kernel_rfl }
end R
open Go.ChangeShapes Go.WideShapes Go.ChangeAt Go.RowKit
namespace D
theorem op5:Opens Tryz.prog 5 rU8:=VH Tryz.underlying5
theorem afX:Opens Tryz.prog 22 (aA 5 rU8):=Lb Tryz.underlying22 (by kernel_rfl) (by decide) op5
theorem aeN {W:World} {base:Nat} {z:Value} {H:Type} {enc:TypeId×Value->H} {d:DataW H} {p:List MemPlace} (hv:Value.okWide Tryz.prog W .any base 22 z) (h:DataW.Trod enc Tryz.prog W 0 (fun _=>true) true 22 z d p) :
  ∃(x:List Int) (v0:Value),z=v0/\Data.lim x/\(aA 5 rU8).rd (hp W) [v0] x:=by
 obtain ⟨fuel,b⟩:=h;obtain ⟨a,l,c,rfl⟩:=okWide_slice Tryz.underlying22 hv;obtain ⟨x,e,f⟩:=afX.out enc W _ _ _ b;exact ⟨x,_,rfl,f,e⟩
end D
open D (Data)
theorem AR {H:Type} {enc:TypeId×Value->H} {a:Assume} {C:Checked} {os:Os} {f:FuncId} {fn:Func} {s:ChangeSpec} {conds:List PathCond} {apart fresh handsOn again:Bool} {X:World->Array Value->Prop}
  (y: ∀(w w':World) (args:Array Value),w.heap=w'.heap->X w args->X w' args)
  (own:ownKnob C.prog.godebug=none) (started:os.Started) (c:C.prog.inits.idxOf? f=none) (l:C.prog.funcs[f]? =some fn)
  (witness: ∃(w:World) (tape:Tape) (i:Input),w.os=os/\(w.forCall tape i).Shaped C.prog/\i.vars= [] /\Input.okWide C.prog (w.forCall tape i) .any w.heap.size f i /\
   ((s.pre enc C.prog fn conds apart (w.forCall tape i).memory i.args/\X (w.forCall tape i).memory i.args)/\sizedMet enc C.prog fn (OpenSpec.ofChange s) apart (w.forCall tape i).memory i.args)/\a.holds C.prog (lone (Frame.enter C.prog f i.args .normal) [] (w.forCall tape i)))
  (b: ∀(W:World) (base:Nat) (args:Array Value) (ds o:List (DataW H)) (before:List MemPlace),
   (∀(j:Nat) t v,fn.params[j]? =some t->args[j]? =some v->Value.okWide C.prog W .any base t v)->
   DataW.Whole enc C.prog fn.params.toList s.vars apart W args.toList ds o before->X W args->W.ShapedOpen C.prog->
   Calls C.prog f args W fun e q=> ∃v,e= .returned v/\s.post enc C.prog fn apart fresh handsOn again W args v q) :
  ReturnsInHanded a C os f .any (fun w args=>(s.pre enc C.prog fn conds apart w args/\X w args)/\sizedMet enc C.prog fn (OpenSpec.ofChange s) apart w args) (s.post enc C.prog fn apart fresh handsOn again):=by
 refine returnsInHanded_of_calls own started c witness ?_;intro w tape i _ k _ p d _;obtain ⟨_,_,_,n,h,_,_,_,_,g⟩:=p;have e:n=fn:=ad (h.symm.trans l);subst e;obtain ⟨⟨⟨ds,o,before,x,z⟩,u⟩,_⟩:=d;have m:=DataW.Whole.of_heap (w':=w.forCall tape i) (by rfl) x;refine (b (w.forCall tape i) w.heap.size i.args ds o before g m (y (w.forCall tape i).memory (w.forCall tape i) _ rfl u) k).mono fun e q ⟨v,r,hp⟩=>?_;subst r;exact ChangeSpec.post_blind hp
theorem XY (u:TypeId) (h:Tryz.prog.typeName? 3 u=some "*errors.errorString"):u=346:=
 typeName_ptr_named (nm:= "errors.errorString") (by kernel_rfl) (by kernel_rfl) (by decide) u h
theorem Em {W:World} (h:laidMetH Tryz.prog Rows.fnCompactionRow.laid W) (a:W.ShapedOpen Tryz.prog):D.LayW Tryz.prog W:=by
 rw[MakeChecks.laidMetH_plain _ _ _ (by kernel_rfl)] at h;obtain ⟨f,j,b,-⟩:=laid_sentinel (g:=2) (ti:=188) (tp:=346) (te:=348) (ts:=9) (h.tail.tail.tail.tail) (by kernel_rfl) (by kernel_rfl) Tryz.underlying188 XY Tryz.underlying346 Tryz.underlying348 rfl rfl Tryz.underlying9 (by kernel_rfl) (by kernel_rfl);obtain ⟨i,k,c,-⟩:=laid_sentinel (g:=1) (ti:=188) (tp:=346) (te:=348) (ts:=9) (h.tail.tail.tail.tail.tail) (by kernel_rfl) (by kernel_rfl) Tryz.underlying188 XY Tryz.underlying346 Tryz.underlying348 rfl rfl Tryz.underlying9 (by kernel_rfl) (by kernel_rfl);have e:Lib.TabIs Tryz.prog W "internal/strconv.uint64pow10" .u64 Lib.pow10Tab:=Lib.tabIs_of_head (g:=3) (by kernel_rfl) (by kernel_rfl) Tryz.underlying315 Tryz.underlying270 (by kernel_rfl) (by kernel_rfl) (h.tail.tail);exact ⟨⟨0,(R.aaO.s1_3 W a).imp fun m d=>⟨by kernel_rfl,d⟩⟩,e,⟨_,_,c⟩,⟨_,_,b⟩⟩
theorem BV (W:World) (F:laidMetH Tryz.prog Rows.fnCompactionRow.laid W) (c:W.ShapedOpen Tryz.prog) (args:Array Value) (H:Type) (enc:TypeId×Value->H) (base:Nat) (ds E:List (DataW H)) (before:List MemPlace)
  (a: ∀(j:Nat) t v,Tryz.f3.params[j]? =some t->args[j]? =some v->Value.okWide Tryz.prog W .any base t v)
  (l:DataW.Whole enc Tryz.prog Tryz.f3.params.toList Rows.fnCompactionSpec.vars false W args.toList ds E before) :
  Calls Tryz.prog 3 args W fun e k=> ∃v,e= .returned v/\Rows.fnCompactionSpec.post enc Tryz.prog Tryz.f3 false true false false W args v k:=by
 have d:=l;obtain ⟨p,q,h,w,rfl,y,B⟩:=l;rw[Tryz.params3] at h a;obtain ⟨m,r,K,u,L,J,g,rfl,rfl,C,z⟩:=trodAll_cons h;obtain ⟨rfl,rfl,rfl⟩:=trodAll_nil z;obtain rfl:args= #[m]:=by cases args;simp_all
 obtain ⟨rfl,rfl⟩:=trodVars_none w;obtain ⟨n,i,rfl,G,b⟩:=D.aeN (a 0 _ _ rfl rfl) C;have A:=D.BT n true (D.El n G) (I:=D.hp W) (w0:=W) m b (D.Lay.of (Em F c)) W [] (D.St.init W);refine A.mono fun e k ⟨v,o,hv,x⟩=>?_;subst o;subst hv;exact ⟨_,rfl,Wa (f:=Tryz.f3) (s:=Rows.fnCompactionSpec) 4 Tryz.underlying4 rfl (by kernel_rfl) rfl d rfl rfl rfl (D.St.below x)⟩
set_option maxRecDepth 100000 in
theorem yg (os:Os) (started:os.Started) (H:Type) (enc:TypeId×Value->H) :
  ReturnsInHanded {} Tryz.checked os 3 .any (fun w args=>(Rows.fnCompactionSpec.pre enc Tryz.prog Tryz.f3 [] false w args/\laidMetH Tryz.prog Rows.fnCompactionRow.laid w)/\sizedMet enc Tryz.prog Tryz.f3 (OpenSpec.ofChange Rows.fnCompactionSpec) false w args) (Rows.fnCompactionSpec.post enc Tryz.prog Tryz.f3 false true false false):=by
 refine AR (C:=Tryz.checked) (X:=fun w _=>laidMetH Tryz.prog Rows.fnCompactionRow.laid w) (fun _ _ _ c h=>h.of_heap c) own started (by kernel_rfl) Tryz.func3
  (ChangeSpec.witness_shaped (enc:=enc) (C:=Tryz.checked) (os:=os) (X:=fun w _=>laidMetH Tryz.prog Rows.fnCompactionRow.laid w) false (World.laidAll Tryz.prog os Rows.fnCompactionRow.laid) #[.slice none 0 0] 8 (World.laidAll_os _ _ _) (World.shaped_of_ZipB (by kernel_rfl) (by kernel_rfl)) (by kernel_rfl) (by kernel_rfl) (by kernel_rfl) (by rw[MakeChecks.laidMetH_plain _ _ _ (by kernel_rfl)];exact laidMet_laidAll _ (by kernel_rfl) (by kernel_rfl))) ?_
 intro W base args g d before a f e b;exact BV W e b args H enc base g d before a f
theorem zS:Rows.FnCompactionSaid:=
 OpenClaim.holds_of_wide 3 Tryz.f3 rfl rfl rfl rfl rfl rfl rfl ⟨rfl,rfl,rfl,rfl,rfl⟩ rfl rfl rfl rfl rfl (by kernel_rfl) Tryz.func3 closedLFnCompaction
  (of_decide_eq_true (by kernel_rfl)) (by unfold Func.isWrapper;first | (rw[if_pos (by decide +kernel)];kernel_rfl) | (rw[if_neg (by decide +kernel)];exact ⟨rfl,rfl⟩))
  (fun b started H a _=>yg b started H a)
theorem cardLFnCompaction:Rows.FnCompactionCardSaid:=
 Claim7.holds_tied_plain_at .later [] [.data,.data,.data,.data,.sentinel,.sentinel,.pinned] true (true,"d9fc329af230f39095362f54ea72f4789929dd71b4f6718d85db835ca775210c") true
  zS (fun _ h=>by cases h) (by kernel_rfl) (fun _ h=>by cases h) fnCompaction_row_tie rfl ⟨rfl,rfl⟩ kf4FnCompaction rfl
  (fun f g e b=>by
   obtain rfl:f=3:=ad (kf1FnCompaction.symm.trans e) |>.symm;obtain rfl:g=Tryz.f3:=(ad (Tryz.func3.symm.trans b)).symm;exact ⟨kf2FnCompaction,fun j t c=>by
    rw[Tryz.params3] at c;have d:t ∈ [22]:=by simpa using Array.mem_of_getElem? c
    have a:([22].all fun u=> !Tryz.prog.wantsStandIn u)=true:=by kernel_rfl
    exact (show Tryz.prog.wantsStandIn t=false by simpa using List.all_eq_true.1 a t d)⟩)
  kf3FnCompaction
end Go.Proofs.YtphjdcoponilmaaGreatDoor
