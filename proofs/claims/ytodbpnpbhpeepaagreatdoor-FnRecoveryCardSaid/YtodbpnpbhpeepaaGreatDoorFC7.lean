/- FnRecovery: for every input the law returns true and changes nothing that was there. Part 8 of 9. -/
import Derived.Test.YtodbpnpbhpeepaaGreatDoorFC6
set_option synthInstance.maxSize 20000
set_option synthInstance.maxHeartbeats 2000000
set_option linter.unusedVariables false
set_option linter.unusedSimpArgs false
set_option linter.unnecessarySimpa false
set_option linter.unusedSectionVars false
set_option maxRecDepth 1000000
namespace Go.Proofs.YtodbpnpbhpeepaaGreatDoor
open Go.IntKind (i64)
namespace D
open Go.RowKit
section
variable {a:AutT} {n:Nat} {c:List Int}
theorem LG (k:Nat) (s:Int):(List.range (k+1)).map (fun k=>ent a c s k)=(List.range k).map (fun k=>ent a c s k)++ [ent a c s k]:=by simp[List.range_succ]
theorem acB (V:VA a n) (d:n<=1000000) (e:c.length=n) {s:Nat} (hs:s<n):rl a c s=some (GL a c s):=by
 unfold rl;rw[aw (by omega) (by omega)];simp only[aa]
 have:=aY (f:=oN a c s) (fun k=>(nth c (s:Int)::(List.range k).map (fun k=>ent a c s k),(k:Int))) 9 (fun k b=>by
  have g:=V.mv (s:=s) (k:=k) (by omega) (by omega) b;unfold oN;simp only;rw[if_pos (by simp;omega),V.get (by omega) (by omega)];simp only[aa];rw[V.get2 (by omega) (by omega) b,LG];simp only[aa,af (show k<9223372036854775807 by omega)];by_cases h:mv a s k<0
  ·rw[if_pos (by simpa using h),ax (by simp;omega),show ent a c s k= -1 from by unfold ent;rw[if_pos h]];rfl
  ·rw[if_neg (by simpa using h),aw (by omega) (by omega)];simp only[aa];rw[ax (by simp;omega),show ent a c s k=nth c (mv a s k) from by unfold ent;rw[if_neg h]];rfl) (by unfold oN;simp) (by unfold aU;omega)
 exact aj this
theorem acC (V:VA a n) (g:n<=1000000) (i:c.length=n) {s:Nat} (hs:s<n):ah (dH c (nth a.2.2 (s:Int))) aU (0,[nth c (s:Int)])=some (.brk (9,GL a c s)):=by
 have b:=V.rowAt (s:=s) (by omega) (by omega);exact aY (f:=dH c (nth a.2.2 (s:Int))) (fun k=>((k:Int),nth c (s:Int)::(List.range k).map (fun k=>ent a c s k))) 9 (fun k d=>by
  have j:=V.mv (s:=s) (k:=k) (by omega) (by omega) d;unfold dH;simp only;rw[if_pos (by simp[b];omega),V.get2 (by omega) (by omega) d,LG];simp only[aa,af (show k<9223372036854775807 by omega)];by_cases h:mv a s k<0
  ·have e:mv a s k= -1:=by omega
   rw[if_neg (by simp;omega)];simp only[aa];rw[ax (by simp;omega),show ent a c s k=mv a s k from by unfold ent;rw[if_pos h,e]];rfl
  ·rw[if_pos (by simp;omega),aw (by omega) (by omega)];simp only[aa];rw[ax (by simp;omega),show ent a c s k=nth c (mv a s k) from by unfold ent;rw[if_neg h]];rfl) (by unfold dH;simp[b]) (by unfold aU;omega)
theorem Ip {κ:Type} [DecidableEq κ] {l t r:List κ} {x:κ} (e:l=t++x::r) (b:x∉t):nbI l (some x)=(t.length:Int):=by
 subst e;simp only[nbI];rw[List.idxOf_append,if_neg b,List.idxOf_cons_self,Nat.zero_add]
def aaF (l:List (List Int)) (x:List Int):Int:=if x∈l then nbI l (some x) else -1
theorem aaG {l:List (List Int)} {x cs:List Int} {q:Int} (w:l.length<=1000000) (s:l.Nodup) (u: ∀y∈l,y.length<=1048576):ah (gW (l,cs,q) x) aU (-1,0)=some (.brk (aaF l x,(l.length:Int))):=by
 have:=aY (f:=gW (l,cs,q) x) (fun k=>(if x∈l.take k then nbI l (some x) else -1,(k:Int))) l.length (fun k d=>by
  unfold gW;simp only;rw[if_pos (by simp;omega),aw (by omega) (by omega)];simp only[aa,Int.toNat_natCast,af (show k<9223372036854775807 by omega)];obtain ⟨r,e,i⟩:=xi (nth l (k:Int)) x (u _ (cw (by omega) (by omega)));rw[e,take_one d];simp only[aa,List.mem_append,List.mem_singleton];by_cases h:nth l (k:Int)=x
  ·have b:r=0:=i.2 h;have v:x∈l:=h ▸ cw (by omega) (by omega);obtain ⟨q,g,m,t⟩:=q7 v
   have:q=k:=by
    have p:l[q]? =some x:=by rw[List.getElem?_eq_getElem g,t]
    have o:l[k]? =some x:=by rw[List.getElem?_eq_getElem d,<-bH d,h]
    exact (List.getElem?_inj g s).1 (p.trans o.symm)
   subst this;rw[if_pos (by simp[b]),if_pos (.inr h.symm),m];rfl
  ·have b:r≠0:=fun e=>h (i.1 e);have j: ¬x=nth l (k:Int):=fun e=>h e.symm;rw[if_neg (by simpa using b)];simp[j]) (by unfold gW;simp) (pa (by omega))
 rw[List.take_of_length_le (aH _)] at this;exact this
theorem aaH {l:List (List Int)} {x:List Int} {f:List Int->Option Bool} (q:l.length<=1000000) (i: ∀y∈l,f y=some (decide (y=x))):cz l f=some (aaF l x):=by
 unfold cz;obtain ⟨o,e,p⟩:=b9 (f:=cY l f) (fun k s=>s=(k:Int)/\x∉l.take k) (fun o=>(x∈l/\o= .ret (nbI l (some x)))\/(x∉l/\ ∃s,o= .brk s)) l.length (s:=0) (by
  rintro k s r ⟨rfl,d⟩;unfold cY;by_cases b:k<l.length
  ·rw[if_pos (by simp;omega),aw (by omega) (by omega)];simp only[aa];rw[i _ (cw (by omega) (by omega))];simp only[aa];by_cases h:nth l (k:Int)=x
   ·refine .inr ⟨_,by rw[if_pos (by simpa using h)],(fun j e=>by cases e),.inl ?_⟩;have m:x∈l:=h ▸ cw (by omega) (by omega);refine ⟨m,?_⟩;have e:l=l.take k++(x::l.drop (k+1)):=by
     rw[<-h,bH b,<-List.drop_eq_getElem_cons b,List.take_append_drop]
    rw[Ip e d,aB,Nat.min_eq_left (by omega)]
   ·refine .inl ⟨b,_,by rw[if_neg (by simpa using h)],by rw[af (by omega)],?_⟩;rw[take_one b,List.mem_append,List.mem_singleton];rintro (g | g)
    ·exact d g
    ·exact h g.symm
  ·refine .inr ⟨_,by rw[if_neg (by simp;omega)],(fun j e=>by cases e),.inr ⟨?_,_,rfl⟩⟩;rwa [List.take_of_length_le (by omega)] at d) ⟨rfl,by simp⟩ (pa (by omega))
 unfold aaF;rcases p with ⟨d,rfl⟩ | ⟨d,s,rfl⟩
 ·rw[bD e,if_pos d]
 ·rw[aj e,if_neg d]
theorem CR {os:List (Option (List Int))} (h: ∀y,some y∈os->y.length=10): ∀y∈nbS [] os,y.length=10:=fun y b=>by
 rcases zL.1 b with b | b
 ·cases b
 ·exact h y b
theorem EA (a:AutT) (c:List Int): ∀y,some y∈keys a c->y.length=10:=by
 intro y b;obtain ⟨s,-,e⟩:=List.mem_map.1 b;unfold GM at e;split at e
 ·cases e
 ·rw[<-ae e];simp[GL]
section
variable (V:VA a n) (hn:n<=1000000) (hc:c.length=n)
include V hn hc
theorem LH (s:Nat):(nbS [] ((keys a c).take s)).length<=n:=by
 have:=sK ([] :List (List Int)) ((keys a c).take s)
 rw[aB,fH,V.len] at this;simp at this;omega
theorem T4 {m:Int} :ah (gX a (c,m)) aU ([],[],0)=some (.brk (nbS [] (keys a c),Ey a c,(n:Int))):=by
 have d:=V.len
 have:=aY (f:=gX a (c,m)) (fun s=>(nbS [] ((keys a c).take s),nbR [] ((keys a c).take s),(s:Int))) n (fun s j=>by
  have e:=LH V hn hc s;have g:(nbR [] ((keys a c).take s)).length<=n:=by rw[jk,aB,fH];omega
  unfold gX;simp only;rw[if_pos (by simp;omega),aw (by omega) (by omega)];simp only[aa];rw[take_one (by rw[fH];omega),yy,vA,JW (by omega)];simp only[af (show s<9223372036854775807 by omega)];by_cases h:nth c (s:Int)<0
  ·rw[if_pos (by simpa using h),ax (by simp;omega),show GM a c s=none from by unfold GM;rw[if_pos h]];rfl
  ·rw[if_neg (by simpa using h),show GM a c s=some (GL a c s) from by unfold GM;rw[if_neg h]];rw[show rl (a.1,a.2.1,a.2.2) c (s:Int)=some (GL a c s) from acB V hn hc j];simp only[aa];rw[aj (aaG (by omega) (uM (by simp)) (fun y b=>by rw[CR (fun y b=>EA a c y (List.mem_of_mem_take b)) y b];decide))];simp only;unfold aaF;by_cases k:GL a c s∈nbS [] ((keys a c).take s)
   ·obtain ⟨q,o,i,l⟩:=q7 k;rw[if_pos k,oC k,i,if_neg (by simp)];simp only[aa];rw[ax (by simp;omega)];rfl
   ·rw[if_neg k,oD k,Ge k,if_pos (show decide ((-1:Int)<0)=true from rfl),ax (by simp;omega)];simp only[aa];rw[ax (by simp;omega)];rfl) (by
  unfold gX;simp only;rw[if_neg (by simp;omega)]) (pa (by omega))
 rw[show (keys a c).take n=keys a c from List.take_of_length_le (by rw[fH];omega)] at this;exact this
theorem T5:eZ a c=some (Ey a c,(Da a c:Int)):=by
 have d:=V.len;unfold eZ
 have:=aY (f:=fe a c) (fun s=>(nbS [] ((keys a c).take s),nbR [] ((keys a c).take s),(s:Int))) n (fun s j=>by
  have e:=LH V hn hc s;have g:(nbR [] ((keys a c).take s)).length<=n:=by rw[jk,aB,fH];omega
  unfold fe;simp only;rw[if_pos (by simp;omega),aw (by omega) (by omega)];simp only[aa];rw[take_one (by rw[fH];omega),yy,vA,JW (by omega)];simp only[af (show s<9223372036854775807 by omega)];by_cases h:nth c (s:Int)<0
  ·rw[if_pos (by simpa using h),ax (by simp;omega),show GM a c s=none from by unfold GM;rw[if_pos h]];rfl
  ·rw[if_neg (by simpa using h),show GM a c s=some (GL a c s) from by unfold GM;rw[if_neg h],V.get (by omega) (by omega)];simp only[aa];rw[aj (acC V hn hc j)];simp only;rw[aaH (x:=GL a c s) (by omega) (fun y b=>by
    unfold jl;rw[yG _ _ (by rw[CR (fun y b=>EA a c y (List.mem_of_mem_take b)) y b];decide)];rfl)];simp only[aa]
   unfold aaF;by_cases k:GL a c s∈nbS [] ((keys a c).take s)
   ·obtain ⟨q,m,i,l⟩:=q7 k;rw[if_pos k,oC k,i,if_neg (by simp)];simp only[aa];rw[ax (by simp;omega)];rfl
   ·rw[if_neg k,oD k,Ge k,if_pos (show decide ((-1:Int)<0)=true from rfl),ax (by simp;omega)];simp only[aa];rw[ax (by simp;omega)];rfl) (by
  unfold fe;simp only;rw[if_neg (by simp;omega)]) (pa (by omega))
 rw[show (keys a c).take n=keys a c from List.take_of_length_le (by rw[fH];omega)] at this;exact aj this
end
end
section
variable {a:AutT} {n:Nat} (V:VA a n) (hn:n<=1000000)
include V hn
theorem Iq (s:Nat):(List.range (s+1)).map (fun s:Nat=>if nth (live a) (s:Int)=true then (if nth a.2.1 (s:Int)=true then (1:Int) else 0) else -1)=(List.range s).map (fun s:Nat=>if nth (live a) (s:Int)=true then (if nth a.2.1 (s:Int)=true then 1 else 0) else -1)++ [if nth (live a) (s:Int)=true then (if nth a.2.1 (s:Int)=true then 1 else 0) else -1]:=by simp[List.range_succ]
theorem aaI:ah (gV a (live a)) aU ([],0)=some (.brk (VE a,(n:Int))):=by
 have b:=V.len;have c:(live a).length=n:=by rw[xg,b]
 have:=aY (f:=gV a (live a)) (fun s=>((List.range s).map (fun s:Nat=>if nth (live a) (s:Int)=true then (if nth a.2.1 (s:Int)=true then (1:Int) else 0) else -1),(s:Int))) n (fun s d=>by
  unfold gV;simp only;rw[if_pos (by simp;omega),V.acc (by omega) (by omega)];simp only[aa];rw[Iq V hn,aw (xs:=live a) (by omega) (by omega)];simp only[af (show s<9223372036854775807 by omega)];cases nth (live a) (s:Int) <;> cases nth a.2.1 (s:Int) <;> simp only[if_true,if_false,Bool.false_eq_true,aa] <;> rw[ax (by simp;omega)] <;> rfl) (by
  unfold gV;simp only;rw[if_neg (by simp;omega)]) (pa (by omega))
 unfold VE;rw[b];exact this
theorem aaJ:ah (du a (live a)) aU ([],0)=some (.brk (VE a,(n:Int))):=by
 have b:=V.len;have c:(live a).length=n:=by rw[xg,b]
 have:=aY (f:=du a (live a)) (fun s=>((List.range s).map (fun s:Nat=>if nth (live a) (s:Int)=true then (if nth a.2.1 (s:Int)=true then (1:Int) else 0) else -1),(s:Int))) n (fun s d=>by
  unfold du;simp only;rw[if_pos (by simp;omega),aw (xs:=live a) (by omega) (by omega)];simp only[aa];rw[Iq V hn,V.acc (by omega) (by omega)];simp only[af (show s<9223372036854775807 by omega)];cases nth (live a) (s:Int) <;> cases nth a.2.1 (s:Int) <;> simp only[if_true,if_false,Bool.false_eq_true,aa] <;> rw[ax (by simp;omega)] <;> rfl) (by
  unfold du;simp only;rw[if_neg (by simp;omega)]) (pa (by omega))
 unfold VE;rw[b];exact this
theorem QA: ∃J,cI a (J+1)=cI a J/\kO a=some (cI a J):=by
 have b:=V.len;unfold kO;rw[show na (a.1,a.2.1,a.2.2)=some (live a) from Vy V hn];simp only[aa];rw[aj (aaI V hn)];obtain ⟨d,l,c⟩:=Yf a;obtain ⟨o,e,j,rfl,k⟩:=b9 (f:=nc a) (fun j s=>s=(cI a j,(j:Int))/\j<=d) (fun o=> ∃j,o= .ret (cI a j)/\cI a (j+1)=cI a j) (d+1) (s:=(cI a 0,0)) (by
  rintro j s k ⟨rfl,p⟩;have g:(cI a j).length=n:=by rw[rP,b]
  unfold nc;simp only;rw[if_pos (by simp;omega),aj (T4 V hn g)];simp only;obtain ⟨r,m,i⟩:=xi (Ey a (cI a j)) (cI a j) (by rw[CP];omega);rw[m];simp only[aa,af (show j<9223372036854775807 by omega)];by_cases h:Ey a (cI a j)=cI a j
  ·exact .inr ⟨_,by rw[if_pos (by simpa using i.2 h)],(fun q e=>by cases e),j,rfl,h⟩
  ·refine .inl ⟨by omega,(cI a (j+1),((j+1:Nat):Int)),by rw[if_neg (by simpa using fun e=>h (i.1 e))];rfl,rfl,?_⟩;by_cases e:j=d
   ·subst e;exact absurd c h
   ·omega) ⟨rfl,Nat.zero_le _⟩ (pa (by omega))
 exact ⟨j,k,bD e⟩
theorem QB: ∃J,cI a (J+1)=cI a J/\eM a=some (cI a J):=by
 have b:=V.len;unfold eM;rw[show gk (a.1,a.2.1,a.2.2)=some (live a) from aat V hn];simp only[aa];rw[aj (aaJ V hn)];let c:Nat->Int:=fun j=>match j with | 0=> -1 | i+1=>(Da a (cI a i):Int)
 obtain ⟨o,e,j,rfl,l⟩:=b9 (f:=ir a) (fun j s=>s=(cI a j,c j)/\(j:Int)<=c j+1) (fun o=> ∃j,o= .ret (cI a j)/\cI a (j+1)=cI a j) (n+2) (s:=(cI a 0,-1)) (by
  rintro j s l ⟨rfl,d⟩;have k:(cI a j).length=n:=by rw[rP,b]
  have m:=JX a (cI a j);unfold ir;simp only;rw[show eZ (a.1,a.2.1,a.2.2) (cI a j)=some (Ey a (cI a j),(Da a (cI a j):Int)) from T5 V hn k];simp only[aa];cases j with
  | zero =>
   refine .inl ⟨by omega,(cI a 1,c 1),by rw[if_neg (by show¬((Da a (cI a 0):Int) == -1)=true;simp)];rfl,rfl,?_⟩;show (1:Int)<=(Da a (cI a 0):Int)+1;omega
  | succ i =>
   obtain ⟨r,p⟩:=Qy a i;have g:c (i+1)=(Da a (cI a i):Int):=rfl;rw[g] at d⊢;by_cases h:Da a (cI a (i+1))=Da a (cI a i)
   ·refine .inr ⟨.ret (cI a (i+2)),by rw[if_pos (by simp[h])];rfl,(fun q e=>by cases e),i+2,rfl,?_⟩
    have:=p h
    show Ey a (cI a (i+2))=cI a (i+2);rw[this];exact this
   ·refine .inl ⟨?_,(cI a (i+2),c (i+2)),by rw[if_neg (by simp;omega)];rfl,rfl,?_⟩
    ·omega
    ·show ((i+1+1:Nat):Int)<=(Da a (cI a (i+1)):Int)+1;omega) ⟨rfl,by show ((0:Nat):Int)<= -1+1;omega⟩ (pa (by omega))
 exact ⟨j,l,bD e⟩
theorem No: ∃c,kO a=some c/\eM a=some c/\c.length=n/\Ey a c=c/\ ∃j,c=cI a j:=by
 obtain ⟨J,d,f⟩:=QA V hn;obtain ⟨g,b,e⟩:=QB V hn
 have:=Qz d b
 exact ⟨cI a J,f,by rw[this];exact e,by rw[rP,V.len],d,J,rfl⟩
end
section
variable {κ:Type} [DecidableEq κ] [Inhabited κ] {nx:κ->List (Option κ)} {first:κ} {G:κ->Prop} {B N:Nat} {acc:κ->Bool}
theorem CS: ∀(l:List κ) (os:List (Option κ)),∀t∈nbR l os,-1<=t/\t<((nbS l os).length:Int)
 | l,[] =>fun t a=>by cases a
 | l,o::os=>fun t a=>by
  have hp:=ny (nbL l o) os;have b:=hp.length_le;rcases aG a with rfl | a
  ·show -1<=nbI l o/\nbI l o<((nbS (nbL l o) os).length:Int);cases o with
   | none=>exact ⟨by simp[nbI],by simp only[nbI];omega⟩
   | some y =>
    by_cases c:y∈l
    ·obtain ⟨q,d,e,-⟩:=q7 c;rw[oC c] at b;rw[e];exact ⟨by omega,by rw[oC c];omega⟩
    ·rw[oD c] at b;rw[Ge c];rw[az] at b;exact ⟨by omega,by rw[oD c];simp at b;omega⟩
  ·exact CS (nbL l o) os t a
theorem aaK (H:NumOk nx first G B) (c:bfE nx first N):VA ((0,(bfS nx first N).map acc,bfR nx first N):AutT) N:=by
 have g:0<N:=by
  have:=Ij (nx:=nx) (first:=first) N
  have:=(List.getElem?_eq_some_iff.1 this).1
  have:=c.1;omega
 have key: ∀i,i<=N-> ∀r∈bfR nx first i,r.length=9/\ ∀t∈r,-1<=t/\t<(N:Int):=by
  intro i;induction i with
  | zero=>intro _ r a;cases a
  | succ i ih =>
   intro e r a;have b:=c.2 i (by omega);rw[yz b] at a;rcases aE a with a | a
   ·exact ih (by omega) r a
   ·obtain rfl:=al a;refine ⟨by rw[jk,H.len _ (mO H.g0 H.gn i _ (List.getElem_mem b))],fun t d=>?_⟩
    have:=CS _ _ t d
    rw[<-F5 b] at this;have f:=(zM (nx:=nx) (first:=first) e).length_le
    have:=c.1
    omega
 exact ⟨by show ((bfS nx first N).map acc).length=N;rw[List.length_map];exact c.1.symm,⟨Int.le_refl _,by show (0:Int)<N;omega⟩,lZ c.2,fun r a=>(key N (aH _) r a).1,fun r a=>(key N (aH _) r a).2⟩
theorem QC (c: ∀x,(nx x).length=9) (b:bfE nx first N):VA ((0,(bfS nx first N).map acc,bfR nx first N):AutT) N:=by
 have h:0<N:=by
  have:=Ij (nx:=nx) (first:=first) N
  have:=(List.getElem?_eq_some_iff.1 this).1
  have:=b.1;omega
 have key: ∀i,i<=N-> ∀r∈bfR nx first i,r.length=9/\ ∀t∈r,-1<=t/\t<(N:Int):=by
  intro i;induction i with
  | zero=>intro _ r a;cases a
  | succ i ih =>
   intro f r a;have d:=b.2 i (by omega);rw[yz d] at a;rcases aE a with a | a
   ·exact ih (by omega) r a
   ·obtain rfl:=al a;refine ⟨by rw[jk,c _],fun t e=>?_⟩
    have:=CS _ _ t e
    rw[<-F5 d] at this;have g:=(zM (nx:=nx) (first:=first) f).length_le
    have:=b.1
    omega
 exact ⟨by show ((bfS nx first N).map acc).length=N;rw[List.length_map];exact b.1.symm,⟨Int.le_refl _,by show (0:Int)<N;omega⟩,lZ b.2,fun r a=>(key N (aH _) r a).1,fun r a=>(key N (aH _) r a).2⟩
end
theorem VA.self {a:AutT} {n:Nat} (v:VA a n):VA a a.2.1.length:=by
 have e:=v.len;subst e;exact v
theorem Np:VA nothing 1:=⟨rfl,⟨by decide,by decide⟩,rfl,fun r a=>by
 obtain rfl:=al a
 decide,fun r a=>by
 obtain rfl:=al a
 decide⟩
theorem JY {κ:Type} [DecidableEq κ] {nx:κ->List (Option κ)} {first:κ} {acc:κ->Bool} {most:Nat} : ∀(f i:Nat),(∀j,j<i->j<(bfS nx first j).length)->(bfS nx first i).length<=most->goM nx first acc most f i=((0,[],[]),false)\/ ∃N,bfE nx first N/\N<=most/\goM nx first acc most f i=((0,(bfS nx first N).map acc,bfR nx first N),true)
 | 0,i,_,_=>.inl rfl
 | f+1,i,h,hl=>by
  have a:=Qv h;rw[goM];by_cases c:i<(bfS nx first i).length
  ·rw[if_pos c];by_cases d:(bfS nx first (i+1)).length>most
   ·rw[if_pos d];exact .inl rfl
   ·rw[if_neg d];exact JY f (i+1) (fun j b=>by
     by_cases e:j=i
     ·subst e;exact c
     ·exact h j (by omega)) (by omega)
  ·rw[if_neg c];exact .inr ⟨i,⟨by omega,h⟩,by omega,by rw[List.take_of_length_le (by omega)]⟩
def adw (x:Tr Tok):Prop:= ∀(n:Nat) (p:Ex),(flat x).length<=n->p.2.2.2.1.length=p.1.length->p.1.length+(flat x).length<=100000->
 ∃(nu:Bool) (fi la:Int) (q:Ex),cG n p (flat x)=some ((nu,fi,la),q)/\q.2.2.2.1.length=q.1.length/\q.1.length<=p.1.length+(flat x).length
theorem T6 {x:Tr Tok} (h:WT x):adw x:=by
 refine WT.ind (p:=adw) ?_ ?_ ?_ h
 ·intro t e n p c o f;rw[F6] at c f⊢;simp[aq,aD] at f
  match n,c with
  | n+1,_ =>
   rw[cG]
   have:=(lD (A:=[]) (t:=t) (by simp)).1
   rw[List.nil_append] at this;rw[this];simp only[aa,fM];rcases nz (show 0<=ar t by omega) with ⟨k,_⟩ | ⟨k,_⟩ | ⟨_,k⟩
   ·omega
   ·omega
   rcases k with k | k | k
   ·exact ⟨false,0,0,p,by simp[k],o,by simp⟩
   ·exact ⟨true,0,0,p,by simp[k],o,by simp⟩
   ·refine ⟨false,Dc 1 (p.1.length:Int),Dc 1 (p.1.length:Int),(p.1++ [t.2.1],p.2.1,p.2.2.1,p.2.2.2.1++ [0],p.2.2.2.2),?_,by grind,by simp⟩;rw[if_neg (by simp[k]),if_pos (by simp[k]),ax (by grind)];simp[aa];rw[ax (by simp;omega)];rfl
 ·intro t a e K S n p c o f;rw[DI] at c f⊢;simp[az,aq,aD] at c f
  match n,c with
  | n+1,c =>
   rw[cG];simp only[fM];have ⟨I,D⟩:=lD (A:=flat a) (t:=t) (by omega);rw[I];simp only[aa];have ⟨m,w,B,q,C,l,G⟩:=S n p (by omega) o (by omega);rcases Qg e with ⟨M,u⟩ | ⟨M,u,V⟩
   ·have v:(t.1==2)=false:=by simp[u]
    have s:(t.1==3)=false:=by simp[u]
    have z:(t.1==4)=false:=by simp[u]
    have y:(t.1==5)=false:=by simp[u]
    simp only[v,s,z,y,M,Bool.false_eq_true,if_false,if_true];rw[D,Int.toNat_natCast,List.take_left,chk_of (by grind)];simp only[aa];rw[C];simp only[aa,fM];rw[LC (by omega)];simp only[aa];refine ⟨true,w,B,_,rfl,?_,?_⟩
    ·simp only[yF];exact l
    ·simp only[az,aq,aD];omega
   grind
 ·intro t a b e K L H F n p c o f;rw[yB] at c f⊢;have J:((flat a++flat b)++ [t]).length<=1000000:=by omega
  have ⟨N,O,Q,P⟩:=yD (a:=a) (t:=t) L J;simp only[az,aq,aD] at c f
  match n,c with
  | n+1,c =>
   have R:=K.pos;have U:=L.pos;rw[cG];simp only[fM];have ⟨I,D⟩:=lD (A:=flat a++flat b) (t:=t) (by grind);rw[I];simp only[aa];have ⟨m,w,B,q,C,l,G⟩:=H n p (by omega) o (by omega);have ⟨d,j,g,i,r,E,T⟩:=F n q (by omega) l (by omega);rcases nz (show 0<=ar t by omega) with ⟨_,k⟩ | ⟨k,_⟩ | ⟨k,_⟩
   ·rcases k with k | k
    ·have v:(t.1==2)=false:=by simp[k]
     have s:(t.1==3)=false:=by simp[k]
     have z:(t.1==4)=true:=by simp[k]
     have y:(t.1==5)=false:=by simp[k]
     simp only[v,s,z,y,Bool.false_eq_true,if_false,if_true];rw[D,N,O,chk_of (by grind)];simp only[aa];rw[chk_of (by grind),Q,P,C];simp only[aa];rw[chk_of (by simp only[az,aq,aD];omega)];simp only[aa,fM];rw[r];simp only[aa,fM];rw[LC (by omega)];simp only[aa];refine ⟨m&&d,if m then orI w j else w,if d then orI B g else g,(i.1,i.2.1,i.2.2.1,lk i.2.2.2.1 B j i.2.2.2.1.length,i.2.2.2.2),?_,?_,?_⟩
     ·cases m <;> cases d <;> rfl
     ·grind[yF]
     grind
    ·have v:(t.1==2)=false:=by simp[k]
     have s:(t.1==3)=false:=by simp[k]
     have z:(t.1==4)=false:=by simp[k]
     have y:(t.1==5)=true:=by simp[k]
     simp only[v,s,z,y,Bool.false_eq_true,if_false,if_true];rw[D,N,O,chk_of (by grind)];simp only[aa];rw[chk_of (by grind),Q,P,C];simp only[aa];rw[chk_of (by simp only[az,aq,aD];omega)];simp only[aa,fM];rw[r];simp only[aa,fM];refine ⟨m || d,orI w j,orI B g,i,?_,E,?_⟩
     ·cases m <;> simp
     grind
   ·omega
   ·omega
theorem QD {e:List Tok} (b:e.length<=1048576):jc e=some (Lx e):=by
 have h:=p9;unfold jc Lx;rw[CK b];by_cases c:(decide (e.length<=24)&&isX e)=true
 ·rw[ak] at c;obtain ⟨x,g,a,rfl⟩:=Lv c.2;have d:(flat x).length<=24:=by simpa using c.1
  rw[vB a,Vu a fP (by omega) (by omega)];by_cases f:5000<szX x
  ·grind
  ·grind[CM,Lw,fP]
 grind
theorem JZ {e:List Tok} (b:e.length<=1048576): ∃r:Ex×Bool,dE e=some r/\r.1.2.2.2.1.length=r.1.1.length/\r.1.1.length<=400:=by
 have o:=p9;unfold dE;rw[QD b];simp only[aa];by_cases c:(Lx e).2=true
 ·have ⟨y,j,h,k⟩:=Qk c;rw[if_pos c,aj (aaB (by grind))];by_cases d:(LF (Lx e).1 (Lx e).1.length:Int)>20
  ·simp_all
  ·have a:=decide_eq_false d;simp only[a,Bool.false_eq_true,if_false];rw[h];have ⟨m,n,l,q,i,f,g⟩:=T6 j fP ([],0,0,[],false) (by omega) rfl (by grind);rw[i];simp[aa];grind
 simp_all
theorem QE {p:Ex} (h1:p.2.2.2.1.length=p.1.length) (b:p.1.length<=100000): ∃r:AutT×Bool,fj p 12=some r/\(r.2=true-> ∃N,N<=12/\bfE (nxS p) 1 N/\r.1=(0,(bfS (nxS p) 1 N).map (uN p),bfR (nxS p) 1 N)/\VA r.1 N):=by
 have d:=aaA (p:=p) (most:=12) h1 (by omega) (by omega) (by omega);rcases JY (nx:=nxS p) (first:=1) (acc:=uN p) (most:=12) (12+2) 0 (fun j c=>by omega) (by simp[bfS]) with e | ⟨N,f,a,e⟩
 ·grind
 grind[QC,uN,CO]
def LI:List ByteArray:=[⟨#[97]⟩,⟨#[97,32,98,32,46]⟩,⟨#[97,32,42]⟩,⟨#[97,32,98,32,124,32,42]⟩,⟨#[97,32,97,45,32,46]⟩,⟨#[97,32,42,32,98,32,46]⟩,⟨#[97,32,98,32,42,32,46,32,99,32,46]⟩,⟨#[97,32,97,32,124,32,42]⟩,⟨#[97,32,98,32,46,32,42]⟩,⟨#[48,32,97,32,46,32,42]⟩,⟨#[97,32,49,32,46,32,98,32,46]⟩,⟨#[97,32,123,48,44,50,125]⟩,⟨#[97,32,98,32,124,32,123,49,44,51,125]⟩,⟨#[40,41]⟩,⟨#[33]⟩,⟨#[97,45,32,42,32,97,32,46]⟩,⟨#[97,32,98,45,32,46,32,42,32,99,32,124]⟩,⟨#[97,32,42,32,97,32,42,32,46]⟩,⟨#[97,32,48,32,124,32,42,32,98,32,46]⟩,⟨#[97,32,97,32,46,32,42]⟩,⟨#[97,32,98,32,46,32,98,32,97,32,46,32,124,32,42]⟩]
def QF (t:ByteArray):Bool:=match kC t with
 | some r=>r.2&&Nat.ble 1 r.1.length&&Nat.ble r.1.length 24
 | none=>false
theorem QG:LI.all QF=true:=by kernel_rfl
theorem T7 {t:ByteArray} (h:t∈LI): ∃r:List Tok×Bool,kC t=some r/\r.2=true/\1<=r.1.length/\r.1.length<=24:=by
 have a:QF t=true:=List.all_eq_true.1 QG t h;unfold QF at a;split at a
 ·rename_i r b;rw[ak,ak] at a;exact ⟨r,b,a.1.1,bA a.1.2,bA a.2⟩
 ·cases a
section
variable {xs:List Int} {i h:Int}
theorem J4 (m:xs.length<=1048576) (j:gJ xs i): ∃r:List Tok×Int×Int,nf (xs,i,h)=some r/\(1<=r.1.length/\r.1.length<=24)/\gJ xs r.2.1:=by
 obtain ⟨r,e,c,k⟩:=aam (h:=h) m j (l:=LI) (by unfold LI;simp);obtain ⟨q,d,-,b⟩:=T7 c;unfold nf;have f:=congrArg (fun o:Option (ByteArray×Int×Int)=>Option.bind o (fun a:ByteArray×Int×Int=>(kC a.1).bind fun g=>some (g.1,a.2.1,a.2.2))) e;refine ⟨(q.1,r.2.1,r.2.2),f.trans ?_,b,k⟩;show (kC r.1).bind _=_;rw[d];rfl
theorem Ir (a:xs.length<=1048576): ∀(d n:Nat) (i h:Int),d<n->d<=3->gJ xs i-> ∃r:List Tok×Int×Int,eR n (xs,i,h) (d:Int)=some r/\(1<=r.1.length/\r.1.length+1<=2 ^ (d+1))/\gJ xs r.2.1
 | 0,n+1,i,h,_,_,g=>by
  rw[eR];simp only;rw[if_pos (by decide)];obtain ⟨r,e,k⟩:=wv (h:=h) a g (n:=12) (by omega);rw[e];simp only[aa];by_cases c:r.1=true
  ·rw[if_pos c];obtain ⟨q,v,-,m⟩:=eN (h:=r.2.2) a k (l:=[1,2]) (by simp);rw[v];simp only[aa];exact ⟨_,rfl,⟨aH _,aH _⟩,m⟩
  ·rw[if_neg c];obtain ⟨q,v,-,m⟩:=eN (h:=r.2.2) a k (l:=[0,0,2,2,1,4,3,6,7]) (by simp);rw[v];simp only[aa];exact ⟨_,rfl,⟨aH _,aH _⟩,m⟩
 | d+1,n+1,i,h,hd,h3,g=>by
  have hp:2 ^ (d+1+1)=2*2 ^ (d+1):=by rw[Nat.pow_succ,Nat.mul_comm]
  have K:2 ^ (d+1)<=8:=by
   have:d<=2:=by omega
   match d,this with
   | 0,_=>decide
   | 1,_=>decide
   | 2,_=>decide
  rw[eR];simp only;rw[if_neg (by simp;omega)];have H:i64.wrap (((d+1:Nat):Int) - 1)=(d:Int):=by rw[br (by omega) (by omega)];omega
  rw[H];obtain ⟨r,e,-,k⟩:=bp (h:=h) a g (n:=6) (by omega);rw[e];simp only[aa];have two: ∀(t:Tok) (i h:Int),gJ xs i-> ∃r:List Tok×Int×Int,((eR n (xs,i,h) (d:Int)).bind fun b=>(eR n (xs,b.2.1,b.2.2) (d:Int)).bind fun x=>(fm b.1 x.1 t).bind fun E=>some (E,x.2.1,x.2.2))=some r/\(1<=r.1.length/\r.1.length+1<=2 ^ (d+1+1))/\gJ xs r.2.1:=fun t i h g=>by
   obtain ⟨b,s,C,j⟩:=Ir a d n i h (by omega) (by omega) g;rw[s];simp only[aa];obtain ⟨x,D,L,F⟩:=Ir a d n b.2.1 b.2.2 (by omega) (by omega) j;rw[D];simp only[aa];rw[CN (by omega)];simp only[aa];refine ⟨_,rfl,?_,F⟩;simp only[az,aq,aD];omega
  have one: ∀(t:Tok) (i h:Int),gJ xs i-> ∃r:List Tok×Int×Int,((eR n (xs,i,h) (d:Int)).bind fun f=>(fm f.1 ([] :List Yq1) t).bind fun y=>some (y,f.2.1,f.2.2))=some r/\(1<=r.1.length/\r.1.length+1<=2 ^ (d+1+1))/\gJ xs r.2.1:=fun t i h g=>by
   obtain ⟨b,s,C,j⟩:=Ir a d n i h (by omega) (by omega) g;rw[s];simp only[aa];rw[CN (by simp only[aD];omega)];simp only[aa];refine ⟨_,rfl,?_,j⟩;simp only[az,aq,aD];omega
  have o: ∀(p q:Bool),(if p then (some p) else (some q):Option Bool)=some (p || q):=fun p q=>by cases p <;> rfl
  rw[o];simp only[aa];by_cases B:(r.1==0 || r.1==1)=true
  ·rw[if_pos B];exact two _ _ _ k
  ·rw[if_neg B,o];simp only[aa];by_cases z:(r.1==2 || r.1==3)=true
   ·rw[if_pos z];exact two _ _ _ k
   ·rw[if_neg z];by_cases A:(r.1==4)=true
    ·rw[if_pos A];exact one _ _ _ k
    ·rw[if_neg A];obtain ⟨q,v,J,m⟩:=bp (h:=r.2.2) a k (n:=3) (by omega);rw[v];simp only[aa];obtain ⟨b,s,C,j⟩:=Ir a d n q.2.1 q.2.2 (by omega) (by omega) m;rw[s];simp only[aa];have w:i64.wrap (i64.wrap (1+q.1)+1)=q.1+2:=by
      rw[br (n:=1+q.1) (by omega) (by omega),br (by omega) (by omega)];omega
     obtain ⟨u,I,-,G⟩:=bp (h:=b.2.2) a j (n:=q.1+2) (by omega);rw[w,I];simp only[aa];rw[CN (by simp only[aD];omega)];simp only[aa];refine ⟨_,rfl,?_,G⟩;simp only[az,aq,aD];omega
theorem aaL (a:xs.length<=1048576) (o:gJ xs i): ∃r:List Tok×Int×Int,vj (xs,i,h)=some r/\(1<=r.1.length/\r.1.length<=24)/\gJ xs r.2.1:=by
 have p:=p9;unfold vj;simp only;obtain ⟨r,e,k⟩:=wv (h:=h) a o (n:=2) (by omega);rw[e];simp only[aa];by_cases c:r.1=true
 ·rw[if_pos c];obtain ⟨q,f,g,d⟩:=J4 (h:=r.2.2) a k;rw[f];exact ⟨_,rfl,g,d⟩
 ·rw[if_neg c];obtain ⟨q,f,g,d⟩:=bp (h:=r.2.2) a k (n:=3) (by omega);rw[f];simp only[aa];have w:i64.wrap (1+q.1)=(((q.1.toNat+1:Nat)):Int):=by rw[br (by omega) (by omega)];omega
  obtain ⟨u,m,j,l⟩:=Ir a (q.1.toNat+1) fP q.2.1 q.2.2 (by omega) (by omega) d;rw[w,m];refine ⟨_,rfl,⟨j.1,?_⟩,l⟩
  have:q.1.toNat<=2:=by omega
  have b:=j.2;show u.1.length<=24;generalize q.1.toNat=z at this b
  match z,this with
  | 0,_=>simp at b;omega
  | 1,_=>simp at b;omega
  | 2,_=>simp at b;omega
def AutD (a:AutT):Prop:=(1<=a.2.1.length/\a.2.1.length<=12)/\(1<=a.2.2.length/\a.2.2.length<=12)/\ ∀r∈a.2.2,r.length=9
theorem AutD.sm {a:AutT} (h:AutD a):Data.sm a:=⟨trivial,⟨by have:=h.1.2;omega,fun _ _=>trivial⟩,by have:=h.2.1.2;omega,fun r b=>⟨by rw[h.2.2 r b];decide,fun _ _=>trivial⟩⟩
theorem VA.autD {a:AutT} {n:Nat} (V:VA a n) (d:n<=12):AutD a:=by
 have e:=V.pos;have c:=V.len;have b:=V.nlen;exact ⟨by omega,by omega,V.row⟩
theorem acD (v:xs.length<=1048576) {p:List Int×Int×Int} {r0:Int×Int×Int} (hp:p.1=xs) (C:0<=r0.1/\r0.1<4) (A:gJ xs i): ∃s,ah (iV p r0) aU (([] :List Int),0,i,h)=some (.brk s)/\s.1.length=9/\gJ xs s.2.2.1:=by
 have w:i64.wrap (1+r0.1)=1+r0.1:=br (by omega) (by omega);obtain ⟨s,e,y,x,t⟩:=gz (f:=iV p r0) (fun j s=>s.2.1=(j:Int)/\s.1.length=j/\gJ xs s.2.2.1) 9 (fun j s B g=>by
  obtain ⟨y,x,t⟩:=g;unfold iV;rw[y,hp,if_pos (by simp;omega)];obtain ⟨r,e,k⟩:=wv (h:=s.2.2.2) v t (n:=3) (by omega);rw[e];simp only[aa];have key: ∃q:Int×Int×Int,(if r.1 then (some ((-1),r.2.1,r.2.2)) else ((aK (xs,r.2.1,r.2.2) (i64.wrap (1+r0.1))).bind fun m=>some (m.1,m.2.1,m.2.2)):Option GK)=some q/\gJ xs q.2.1:=by
   by_cases c:r.1=true
   ·rw[if_pos c];exact ⟨_,rfl,k⟩
   ·rw[if_neg c,w];obtain ⟨q,u,-,l⟩:=bp (h:=r.2.2) v k (n:=1+r0.1) (by omega);rw[u];exact ⟨_,rfl,l⟩
  obtain ⟨q,u,l⟩:=key;rw[u];simp only[aa];have o: ∃z:Int,(if decide ((j:Int)>3) then (some (-1)) else (some q.1):Option Int)=some z:=by
   by_cases c:decide ((j:Int)>3)=true
   ·exact ⟨_,if_pos c⟩
   ·exact ⟨_,if_neg c⟩
  obtain ⟨z,o⟩:=o;rw[o];simp only[aa];rw[ax (by simp only[aq,aD];omega)];simp only[aa];refine ⟨_,rfl,?_,?_,l⟩
  ·show i64.wrap ((j:Int)+1)=((j+1:Nat):Int);rw[br (by omega) (by omega)];omega
  ·simp only[az,aq,aD];omega) (fun s g=>by
  unfold iV;rw[g.1,if_neg (by simp)];obtain ⟨a,b,c,d⟩:=s;obtain rfl:b=_:=g.1
  rfl) (s:=(([] :List Int),0,i,h)) ⟨rfl,rfl,A⟩ (pa (by omega))
 exact ⟨s,e,x,t⟩
theorem LJ (g:xs.length<=1048576) (G:gJ xs i): ∃r:AutT×Int×Int,mw (xs,i,h)=some r/\AutD r.1/\gJ xs r.2.1:=by
 unfold mw;simp only;obtain ⟨r0,E,z,y⟩:=bp (h:=h) g G (n:=4) (by omega);rw[E];simp only[aa];have w:i64.wrap (1+r0.1)=((r0.1.toNat+1:Nat):Int):=by rw[br (by omega) (by omega)];omega
 obtain ⟨l,C,-,B⟩:=bp (h:=r0.2.2) g y (n:=((r0.1.toNat+1:Nat):Int)) (by omega);rw[w,C];simp only[aa];obtain ⟨s,e,v,u,x,t,m⟩:=gz (f:=ln (xs,i,h) r0) (fun j s=>s.1=(j:Int)/\s.2.2.1.length=j/\s.2.2.2.1.length=j/\(∀r∈s.2.2.2.1,r.length=9)/\gJ xs s.2.2.2.2.1) (r0.1.toNat+1) (fun j s H d=>by
  obtain ⟨v,u,x,t,m⟩:=d;unfold ln;rw[v,w,if_pos (by simp;omega)];obtain ⟨q,e,D,k⟩:=acD (p:=(xs,i,h)) (r0:=r0) (i:=s.2.2.2.2.1) (h:=s.2.2.2.2.2) g rfl z m;rw[aj e];simp only;obtain ⟨o,F,A⟩:=wv (h:=q.2.2.2) g k (n:=3) (by omega);rw[F];simp only[aa];rw[ax (by simp only[aq,aD];omega)];simp only[aa];rw[ax (by simp only[aq,aD];omega)];simp only[aa];refine ⟨_,rfl,?_,by simp[u],by simp[x],fun r c=>?_,A⟩
  ·show i64.wrap ((j:Int)+1)=((j+1:Nat):Int);rw[br (by omega) (by omega)];omega
  ·rcases aE c with c | c
   ·exact t r c
   ·obtain rfl:=al c;exact D) (fun s d=>by
  unfold ln;rw[d.1,w,if_neg (by simp)];obtain ⟨a,b⟩:=s;obtain rfl:a=_:=d.1
  rfl) (s:=(0,l.1,([] :List Bool),([] :List (List Int)),l.2.1,l.2.2)) ⟨rfl,rfl,rfl,fun r c=>(by cases c),B⟩ (pa (by omega))
 rw[aj e];refine ⟨_,rfl,⟨?_,?_,t⟩,m⟩
 ·show 1<=s.2.2.1.length/\s.2.2.1.length<=12;omega
 ·show 1<=s.2.2.2.1.length/\s.2.2.2.1.length<=12;omega
theorem acE (d:xs.length<=1048576) (x:gJ xs i): ∃r:AutT×Int×Int,vk (xs,i,h)=some r/\AutD r.1/\gJ xs r.2.1:=by
 unfold vk;simp only;obtain ⟨r,e,k⟩:=wv (h:=h) d x (n:=3) (by omega);rw[e];simp only[aa];by_cases c:r.1=true
 ·rw[if_pos c];obtain ⟨q,j,l,b⟩:=LJ (h:=r.2.2) d k;rw[j];exact ⟨_,rfl,l,b⟩
 ·rw[if_neg c];obtain ⟨q,j,l,b⟩:=aaL (h:=r.2.2) d k;rw[j];simp only[aa];obtain ⟨p,v,t,z⟩:=JZ (e:=q.1) (by omega);rw[v];simp only[aa];obtain ⟨a,g,y⟩:=QE (p:=p.1) t (by omega);have g:fj (p.1.1,p.1.2.1,p.1.2.2.1,p.1.2.2.2.1,p.1.2.2.2.2) 12=some a:=g;rw[g];simp only[aa];by_cases f:a.2=true
  ·rw[if_pos f];obtain ⟨N,s,-,-,V⟩:=y f;exact ⟨_,rfl,V.autD s,b⟩
  ·rw[if_neg f];obtain ⟨u,m,o,w⟩:=LJ (h:=q.2.2) d b;rw[m];exact ⟨_,rfl,o,w⟩
end
abbrev GrT:=(List Int)×(List Yq1)
theorem T8 {R:Type} {f:Int->Option (Out R Int)} (N:Nat) (p:Nat->Prop) [DecidablePred p] (r:R) (d:N<=9223372036854775807)
  (h: ∀i:Nat,i<N->f (i:Int)=some (if p i then .nxt ((i+1:Nat):Int) else .ret r)) (k:f (N:Int)=some (.brk (N:Int))) :
  (ah f aU 0=some (.brk (N:Int))/\ ∀i,i<N->p i)\/(ah f aU 0=some (.ret r)/\ ¬ ∀i,i<N->p i):=by
 obtain ⟨o,e,a⟩:=b9 (f:=f) (fun i s=>s=(i:Int)/\ ∀j:Nat,j<i->p j) (fun o=>(o= .brk (N:Int)/\ ∀i,i<N->p i)\/(o= .ret r/\ ¬ ∀i,i<N->p i)) N (s:=0) (by
  rintro i s m ⟨rfl,hp⟩;by_cases b:i<N
  ·by_cases c:p i
   ·refine .inl ⟨b,_,by rw[h i b,if_pos c],rfl,fun j n=>?_⟩;by_cases e:j=i
    ·subst e;exact c
    ·exact hp j (by omega)
   ·exact .inr ⟨_,by rw[h i b,if_neg c],(fun g e=>by cases e),.inr ⟨rfl,fun l=>c (l i b)⟩⟩
  ·obtain rfl:i=N:=by omega
   exact .inr ⟨_,k,(fun g e=>by cases e),.inl ⟨rfl,hp⟩⟩) ⟨rfl,by omega⟩ (pa d)
 rcases a with ⟨rfl,a⟩ | ⟨rfl,a⟩
 ·exact .inl ⟨e,a⟩
 ·exact .inr ⟨e,a⟩
structure GOk (g:GrT):Prop where
 n1:1<=g.1.length
 n5:g.1.length<=5
 m:g.2.length<=12
 val: ∀v∈g.1,0<=v/\v<=2
 edge: ∀e∈g.2,(0<=e.2.1/\e.2.1<g.1.length)/\(0<=e.2.2.1/\e.2.2.1<g.1.length)/\0<=e.2.2.2/\e.2.2.2<=2
 asc: ∀i:Nat,i+1<g.2.length->(nth g.2 i).1<(nth g.2 ((i+1:Nat):Int)).1
def edgeP (e:Int×Int×Int×Int) (n:Int):Prop:=(1<=e.1/\e.1<=99)/\(0<=e.2.1/\e.2.1<=n - 1)/\(0<=e.2.2.1/\e.2.2.1<=n - 1)/\0<=e.2.2.2/\e.2.2.2<=2
instance (e n):Decidable (edgeP e n):=by unfold edgeP;infer_instance
theorem QH (e:Int×Int×Int×Int) {n:Nat} (d:n<=1048576):jj e (n:Int)=some (decide (edgeP e n)):=by
 unfold jj edgeP;simp only[JP,aa,fG (show n<=9223372036854775807 by omega)];by_cases a:1<=e.1/\e.1<=99 <;> by_cases b:0<=e.2.1/\e.2.1<=(n:Int) - 1 <;> by_cases c:0<=e.2.2.1/\e.2.2.1<=(n:Int) - 1 <;> simp[a,b,c]
def Gh (g:GrT):Prop:=GOk g/\ ∀e∈g.2,1<=e.1/\e.1<=99
theorem nQ (g:GrT) (h1:g.1.length<=1048576) (C:g.2.length<=1048576): ∃b,bR g=some b/\(b=true↔Gh g):=by
 unfold bR;have d:=T8 (f:=fw g) g.1.length (fun i=>0<=nth g.1 i/\nth g.1 i<=2) false (by omega) (fun i a=>by
  unfold fw;rw[if_pos (by simp;omega),aw (by omega) (by omega)];simp only[aa,JP,decide_eq_true_eq];split
  ·rw[af (by omega)]
  ·rfl) (by unfold fw;rw[if_neg (by simp)])
 have k:=T8 (f:=dW g) g.2.length (fun i=>edgeP (nth g.2 i) g.1.length/\(0<i->(nth g.2 ((i:Int) - 1)).1<(nth g.2 i).1)) false (by omega) (fun i a=>by
  unfold dW;rw[if_pos (by simp;omega),aw (by omega) (by omega)];simp only[aa];have m:=QH (nth g.2 (i:Int)) h1;have m:jj ((nth g.2 (i:Int)).1,(nth g.2 (i:Int)).2.1,(nth g.2 (i:Int)).2.2.1,(nth g.2 (i:Int)).2.2.2) (g.1.length:Int)=_:=m;rw[m];simp only[aa,decide_eq_true_eq];by_cases j:edgeP (nth g.2 (i:Int)) g.1.length
  ·rw[if_pos j];by_cases p:0<i
   ·rw[if_pos (by omega),fG (by omega),aw (by omega) (by omega)];simp only[aa];by_cases q:(nth g.2 ((i:Int) - 1)).1<(nth g.2 (i:Int)).1
    ·rw[if_neg (by omega),if_pos ⟨j,fun _=>q⟩,af (by omega)]
    ·rw[if_pos (by omega),if_neg (fun h=>q (h.2 p))]
   ·rw[if_neg (by omega),if_pos ⟨j,fun h=>absurd h p⟩,af (by omega)]
  ·rw[if_neg j,if_neg (fun h=>j h.1)]) (by unfold dW;rw[if_neg (by simp)])
 rcases d with ⟨d,o⟩ | ⟨d,o⟩
 ·rw[aj d];rcases k with ⟨k,l⟩ | ⟨k,l⟩
  ·rw[aj k,JP];simp only[aa,decide_eq_true_eq];split
   ·rename_i c;refine ⟨_,rfl,fun r=>?_,fun G=>decide_eq_true (by have:=G.1.m;omega)⟩;have r:=of_decide_eq_true r;refine ⟨⟨by omega,by omega,by omega,fun v hv=>?_,fun e n=>?_,fun i a=>?_⟩,fun e n=>?_⟩
    rotate_left 3
    ·obtain ⟨i,a,rfl⟩:=CG n;exact (l i a).1.1
    ·obtain ⟨i,a,rfl⟩:=CG hv;exact o i a
    ·obtain ⟨i,a,rfl⟩:=CG n;obtain ⟨A,u,z,t⟩:=(l i a).1;exact ⟨⟨u.1,by omega⟩,⟨z.1,by omega⟩,t⟩
    ·have:=(l (i+1) a).2 (by omega)
     rwa [show (((i+1:Nat):Int) - 1)=(i:Int) from by omega] at this
   ·rename_i c;exact ⟨false,rfl,(fun h=>by cases h),fun G=>absurd (by have:=G.1.n1;have:=G.1.n5;omega) c⟩
  ·rw[bD k];refine ⟨false,rfl,(fun h=>by cases h),fun G=>absurd (fun i a=>?_) l⟩;have s:=cw (xs:=g.2) (i:=(i:Int)) (by omega) (by omega);obtain ⟨m,y,x,w⟩:=G.1.edge _ s;refine ⟨⟨G.2 _ s,⟨m.1,by omega⟩,⟨y.1,by omega⟩,x,w⟩,fun B=>?_⟩
   have:=G.1.asc (i - 1) (by omega)
   rwa [show ((i - 1:Nat):Int)=(i:Int) - 1 from by omega,show (((i - 1)+1:Nat):Int)=(i:Int) from by omega] at this
 ·rw[bD d];exact ⟨false,rfl,(fun h=>by cases h),fun G=>absurd (fun i a=>G.1.val _ (cw (by omega) (by omega))) o⟩
theorem T9 (g:GrT) (h1:g.1.length<=1048576) (a:g.2.length<=1048576): ∃b,bR g=some b/\(b=true->GOk g):=by
 obtain ⟨b,h1,a⟩:=nQ g h1 a;exact ⟨b,h1,fun h=>(a.1 h).1⟩
theorem GOk.lt {g:GrT} (G:GOk g) {i j:Nat} (h:i<j) (a:j<g.2.length):(nth g.2 (i:Int)).1<(nth g.2 (j:Int)).1:=by
 induction h with
 | refl=>exact G.asc i a
 | step h ih =>
  rename_i m;have c:=ih (by omega);have b:=G.asc m a;exact Int.lt_trans c b
section
variable {xs:List Int} {i h:Int}
theorem aaM (o:xs.length<=1048576) {p:List Int×Int×Int} (hp:p.1=xs) (q:gJ xs i) {n:Int} (t:0<=n/\n<=5): ∃s:Int×Int×Int×List Int×List Yq1,ah (eB p) aU (n,i,h,([] :List Int),([] :List Yq1))=some (.brk s)/\s.2.2.2.1.length=n.toNat/\s.2.2.2.2= [] /\gJ xs s.2.1:=by
 obtain ⟨s,e,m,d,g,l⟩:=gz (f:=eB p) (fun j s=>s.1=n - (j:Int)/\s.2.2.2.1.length=j/\s.2.2.2.2= [] /\gJ xs s.2.1) n.toNat (fun j s u c=>by
  obtain ⟨m,d,g,l⟩:=c;unfold eB;rw[m,hp,if_pos (by simp;omega)];obtain ⟨r,e,-,k⟩:=bp (h:=s.2.2.1) o l (n:=3) (by omega);rw[e];simp only[aa];rw[ax (by simp only[aq,aD];omega)];simp only[aa];refine ⟨_,rfl,?_,by simp[d],g,k⟩;show i64.wrap (n - (j:Int) - 1)=n - ((j+1:Nat):Int);rw[br (by omega) (by omega)];omega) (fun s c=>by
  unfold eB;rw[c.1,if_neg (by simp;omega)];obtain ⟨a,b⟩:=s;obtain rfl:a=_:=c.1
  rfl) (s:=(n,i,h,([] :List Int),([] :List Yq1))) ⟨by show n=n - 0;omega,rfl,rfl,q⟩ (pa (by omega))
 exact ⟨s,e,d,g,l⟩
def GrD (g:GrT):Prop:=(1<=g.1.length/\g.1.length<=5)/\g.2.length<=11
theorem GrD.sm {g:GrT} (h:GrD g):Data.sm g:=⟨⟨by have:=h.1.2;omega,fun _ _=>trivial⟩,by have:=h.2;omega,fun _ _=>⟨trivial,trivial,trivial,trivial⟩⟩
theorem Yg (m:xs.length<=1048576) (U:gJ xs i): ∃r:GrT×Int×Int,jP (xs,i,h)=some r/\GrD r.1/\gJ xs r.2.1:=by
 unfold jP;simp only;obtain ⟨u,Q,A,C⟩:=eN (h:=h) m U (l:=[2,3,4,4,5]) (by simp);rw[Q];simp only[aa];have A:2<=u.1/\u.1<=5:=by simp at A;omega
 obtain ⟨s,e,X,I,O⟩:=aaM (p:=(xs,i,h)) (h:=u.2.2) m rfl C (n:=u.1) (by omega);rw[aj e];obtain ⟨k,x,o,v⟩:=eN (h:=s.2.2.1) m O (l:=[4,8,11]) (by simp);rw[x];simp only[aa];have o:4<=k.1/\k.1<=11:=by simp at o;omega
 obtain ⟨g,y,T,w⟩:=bp (h:=k.2.2) m v (n:=k.1) (by omega);rw[y];simp only[aa];obtain ⟨q,E,W,J,Z,N⟩:=gz (f:=gG (xs,i,h)) (fun j z=>z.2.1=g.1 - (j:Int)/\z.2.2.2.2.1=s.2.2.2.1/\z.2.2.2.2.2.length=j/\gJ xs z.2.2.1) g.1.toNat (fun j z Y t=>by
  obtain ⟨M,H,L,B⟩:=t;unfold gG;rw[M,H,if_pos (by simp;omega)];obtain ⟨a,V,-,P⟩:=bp (h:=z.2.2.2.1) m B (n:=3) (by omega);rw[V];simp only[aa];obtain ⟨b,K,-,F⟩:=bp (h:=a.2.2) m P (n:=(s.2.2.2.1.length:Int)) (by omega);rw[K];simp only[aa];obtain ⟨c,D,-,G⟩:=bp (h:=b.2.2) m F (n:=(s.2.2.2.1.length:Int)) (by omega);rw[D];simp only[aa];obtain ⟨d,R,-,S⟩:=eN (h:=c.2.2) m G (l:=[0,0,1,2]) (by simp);rw[R];simp only[aa];rw[ax (by simp only[aq,aD];omega)];simp only[aa];refine ⟨_,rfl,?_,rfl,by simp[L],S⟩;show i64.wrap (g.1 - (j:Int) - 1)=g.1 - ((j+1:Nat):Int);rw[br (by omega) (by omega)];omega) (fun z t=>by
  unfold gG;rw[t.1,if_neg (by simp;omega)];obtain ⟨a,b,c⟩:=z;obtain rfl:b=_:=t.1
  rfl) (s:=(0,g.1,g.2.1,g.2.2,s.2.2.2.1,s.2.2.2.2)) ⟨by show g.1=g.1 - 0;omega,rfl,by rw[I];rfl,w⟩ (pa (by omega))
 rw[aj E];refine ⟨_,rfl,⟨?_,?_⟩,N⟩
 ·show 1<=q.2.2.2.2.1.length/\q.2.2.2.2.1.length<=5;rw[J];omega
 ·show q.2.2.2.2.2.length<=11;omega
theorem aaN (b:xs.length<=1048576) (E:gJ xs i): ∃r:GrT×Int×Int,xU (xs,i,h)=some r/\Data.sm r.1/\gJ xs r.2.1:=by
 unfold xU;simp only;obtain ⟨g,e,m,k⟩:=Yg (h:=h) b E;rw[e];simp only[aa];obtain ⟨q,D,-,c⟩:=bp (h:=g.2.2) b k (n:=14) (by omega);rw[D];simp only[aa];have a:=m.sm;obtain ⟨⟨x,y⟩,w⟩:=m;by_cases p:(q.1==0)=true
 ·rw[if_pos p];obtain ⟨r,f,-,d⟩:=eN (h:=q.2.2) b c (l:=[(-1),3,2]) (by simp);rw[f];simp only[aa];rw[aw (by omega) (by omega)];simp only[aa];exact ⟨_,rfl,⟨⟨by rw[List.length_set];omega,fun _ _=>trivial⟩,a.2⟩,d⟩
 ·rw[if_neg p];by_cases o:(q.1==1)=true
  ·rw[if_pos o];obtain ⟨r,f,-,d⟩:=eN (h:=q.2.2) b c (l:=[0,1,99,100]) (by simp);rw[f];simp only[aa];obtain ⟨u,A,-,v⟩:=bp (h:=r.2.2) b d (n:=6) (by omega);rw[A];simp only[aa];obtain ⟨t,s,-,C⟩:=bp (h:=u.2.2) b v (n:=6) (by omega);rw[s];simp only[aa];obtain ⟨F,z,-,B⟩:=bp (h:=t.2.2) b C (n:=4) (by omega);rw[z];simp only[aa];rw[ax (by simp only[aq,aD];omega)];simp only[aa];exact ⟨_,rfl,⟨a.1,by simp;omega,fun _ _=>⟨trivial,trivial,trivial,trivial⟩⟩,B⟩
  ·rw[if_neg o];by_cases j:(q.1==2)=true
   ·rw[if_pos j];simp only[aa];exact ⟨_,rfl,⟨⟨Nat.zero_le _,fun _ h=>by cases h⟩,a.2⟩,c⟩
   ·rw[if_neg j];simp only[aa];exact ⟨_,rfl,a,c⟩
end
section
variable {xs:List Int} {i h:Int}
theorem Yh (q:xs.length<=1048576) {p:List Int×Int×Int} (hp:p.1=xs) (t:gJ xs i) {n:Int} (u:0<=n/\n<=5): ∃s:Int×Int×Int×List Int×List Yq1,ah (eB p) aU (n,i,h,([] :List Int),([] :List Yq1))=some (.brk s)/\(s.2.2.2.1.length=n.toNat/\ ∀v∈s.2.2.2.1,0<=v/\v<=2)/\s.2.2.2.2= [] /\gJ xs s.2.1:=by
 obtain ⟨s,e,o,d,g,m⟩:=gz (f:=eB p) (fun j s=>s.1=n - (j:Int)/\(s.2.2.2.1.length=j/\ ∀v∈s.2.2.2.1,0<=v/\v<=2)/\s.2.2.2.2= [] /\gJ xs s.2.1) n.toNat (fun j s w c=>by
  obtain ⟨o,⟨d,l⟩,g,m⟩:=c;unfold eB;rw[o,hp,if_pos (by simp;omega)];obtain ⟨r,e,x,k⟩:=bp (h:=s.2.2.1) q m (n:=3) (by omega);rw[e];simp only[aa];rw[ax (by simp only[aq,aD];omega)];simp only[aa];refine ⟨_,rfl,?_,⟨by simp[d],fun v hv=>?_⟩,g,k⟩
  ·show i64.wrap (n - (j:Int) - 1)=n - ((j+1:Nat):Int);rw[br (by omega) (by omega)];omega
  ·rcases aE hv with hv | hv
   ·exact l v hv
   ·rw[al hv];omega) (fun s c=>by
  unfold eB;rw[c.1,if_neg (by simp;omega)];obtain ⟨a,b⟩:=s;obtain rfl:a=_:=c.1
  rfl) (s:=(n,i,h,([] :List Int),([] :List Yq1))) ⟨by show n=n - 0;omega,⟨rfl,fun v hv=>by cases hv⟩,rfl,t⟩ (pa (by omega))
 exact ⟨s,e,d,g,m⟩
def EdD (n:Nat) (w:Int) (l:List Yq1):Prop:=(∀e∈l,(1<=e.1/\e.1<=w)/\(0<=e.2.1/\e.2.1<(n:Int))/\(0<=e.2.2.1/\e.2.2.1<(n:Int))/\0<=e.2.2.2/\e.2.2.2<=2)/\l.Pairwise fun a b=>a.1<b.1
theorem EdD.snoc {n:Nat} {w:Int} {l:List Yq1 } (H:EdD n w l) {e:Int×Int×Int×Int} (m:0<=w) (k:w<e.1) (h1:0<=e.2.1/\e.2.1<(n:Int)) (d:0<=e.2.2.1/\e.2.2.1<(n:Int)) (j:0<=e.2.2.2/\e.2.2.2<=2):EdD n e.1 (l++ [e]):=by
 refine ⟨fun u c=>?_,?_⟩
 ·rcases aE c with c | c
  ·have:=H.1 u c
   exact ⟨by omega,this.2⟩
  ·rw[al c];exact ⟨by omega,h1,d,j⟩
 ·rw[List.pairwise_append];refine ⟨H.2,List.pairwise_singleton _ _,fun a g b f=>?_⟩;rw[al f]
  have:=(H.1 a g).1
  omega
theorem LK (o:xs.length<=1048576) (hc:gJ xs i): ∃r:GrT×Int×Int,jP (xs,i,h)=some r/\(Data.sm r.1/\Gh r.1)/\gJ xs r.2.1:=by
 unfold jP;simp only;obtain ⟨t,e0,J,M⟩:=eN (h:=h) o hc (l:=[2,3,4,4,5]) (by simp);rw[e0];simp only[aa];have J:2<=t.1/\t.1<=5:=by simp at J;omega
 obtain ⟨s,e,⟨U,hv⟩,K,h3⟩:=Yh (p:=(xs,i,h)) (h:=t.2.2) o rfl M (n:=t.1) (by omega);rw[aj e];obtain ⟨m,F,w,B⟩:=eN (h:=s.2.2.1) o h3 (l:=[4,8,11]) (by simp);rw[F];simp only[aa];have w:4<=m.1/\m.1<=11:=by simp at w;omega
 obtain ⟨g,I,h11,C⟩:=bp (h:=m.2.2) o B (n:=m.1) (by omega);rw[I];simp only[aa];obtain ⟨q,O,q1,D,q3,q4,H,P⟩:=gz (f:=gG (xs,i,h)) (fun j z=>z.2.1=g.1 - (j:Int)/\z.2.2.2.2.1=s.2.2.2.1/\z.2.2.2.2.2.length=j/\(0<=z.1/\z.1<=3*(j:Int))/\EdD s.2.2.2.1.length z.1 z.2.2.2.2.2/\gJ xs z.2.2.1) g.1.toNat (fun j z x y=>by
  obtain ⟨z1,T,Z,z5,S,L⟩:=y;unfold gG;rw[z1,T,if_pos (by simp;omega)];obtain ⟨a,ea,ha,ka⟩:=bp (h:=z.2.2.2.1) o L (n:=3) (by omega);rw[ea];simp only[aa];obtain ⟨b,V,W,Q⟩:=bp (h:=a.2.2) o ka (n:=(s.2.2.2.1.length:Int)) (by omega);rw[V];simp only[aa];obtain ⟨c,N,E,R⟩:=bp (h:=b.2.2) o Q (n:=(s.2.2.2.1.length:Int)) (by omega);rw[N];simp only[aa];obtain ⟨d,ed,G,kd⟩:=eN (h:=c.2.2) o R (l:=[0,0,1,2]) (by simp);rw[ed];simp only[aa];have G:0<=d.1/\d.1<=2:=by simp at G;omega
  rw[ax (by simp only[aq,aD];omega)];simp only[aa];have Y:i64.wrap (i64.wrap (z.1+1)+a.1)=z.1+1+a.1:=by
   rw[br (n:=z.1+1) (by omega) (by omega),br (by omega) (by omega)]
  rw[Y];refine ⟨_,rfl,?_,rfl,by simp[Z],?_,?_,kd⟩
  ·show i64.wrap (g.1 - (j:Int) - 1)=g.1 - ((j+1:Nat):Int);rw[br (by omega) (by omega)];omega
  ·show 0<=z.1+1+a.1/\z.1+1+a.1<=3*((j+1:Nat):Int);omega
  ·exact EdD.snoc (e:=(z.1+1+a.1,b.1,c.1,d.1)) S z5.1 (by show z.1<z.1+1+a.1;omega) W E G) (fun z y=>by
  unfold gG;rw[y.1,if_neg (by simp;omega)];obtain ⟨a,b,c⟩:=z;obtain rfl:b=_:=y.1
  rfl) (s:=(0,g.1,g.2.1,g.2.2,s.2.2.2.1,s.2.2.2.2)) ⟨by show g.1=g.1 - 0;omega,rfl,by rw[K];rfl,⟨Int.le_refl _,by show (0:Int)<=3*0;omega⟩,by rw[K];exact ⟨fun e X=>(by cases X),List.Pairwise.nil⟩,C⟩ (pa (by omega))
 rw[aj O];have k:q.2.2.2.2.1.length=t.1.toNat:=by rw[D,U]
 refine ⟨_,rfl,⟨⟨⟨?_,fun _ _=>trivial⟩,?_,fun _ _=>⟨trivial,trivial,trivial,trivial⟩⟩,⟨?_,?_,?_,?_,?_,?_⟩,?_⟩,P⟩
 ·show q.2.2.2.2.1.length<=_;rw[k];omega
 ·show q.2.2.2.2.2.length<=_;omega
 ·show 1<=q.2.2.2.2.1.length;rw[k];omega
 ·show q.2.2.2.2.1.length<=5;rw[k];omega
 ·show q.2.2.2.2.2.length<=12;omega
 ·show∀v∈q.2.2.2.2.1,_
  rw[D];exact hv
 ·intro u A
  have:=(H.1 u A).2
  show (0<=u.2.1/\u.2.1<(q.2.2.2.2.1.length:Int))/\(0<=u.2.2.1/\u.2.2.1<(q.2.2.2.2.1.length:Int))/\0<=u.2.2.2/\u.2.2.2<=2;rw[D];exact this
 ·intro j x;have x:j+1<q.2.2.2.2.2.length:=x
  have:=List.pairwise_iff_getElem.1 H.2 j (j+1) (by omega) x (by omega)
  show (nth q.2.2.2.2.2 (j:Int)).1<(nth q.2.2.2.2.2 ((j+1:Nat):Int)).1;rw[bH (by omega),bH x];exact this
 ·intro u A
  have:=(H.1 u A).1
  omega
end
theorem yH (m:Nat):BitVec.ofInt 64 (m:Int)=BitVec.ofNat 64 m:=by simp
theorem QI {m n:Nat} (a:m<2 ^ 62) (b:n<2 ^ 62):rU (m:Int) (n:Int)=((m &&& n:Nat):Int):=by
 unfold rU;rw[yH,yH,BitVec.toNat_and,BitVec.toNat_ofNat,BitVec.toNat_ofNat,Nat.mod_eq_of_lt (by omega),Nat.mod_eq_of_lt (by omega)]
 have:m &&& n<=m:=Nat.and_le_left
 exact br (by omega) (by omega)
theorem QJ {m n:Nat} (a:m<2 ^ 62) (b:n<2 ^ 62):orI (m:Int) (n:Int)=((m ||| n:Nat):Int):=by
 unfold orI;rw[yH,yH,BitVec.toNat_or,BitVec.toNat_ofNat,BitVec.toNat_ofNat,Nat.mod_eq_of_lt (by omega),Nat.mod_eq_of_lt (by omega)]
 have:m ||| n<2 ^ 62:=Nat.or_lt_two_pow a b
 exact br (by omega) (by omega)
theorem QK {m i:Nat} (hi:i<64):qc (m:Int) (i:Int)=((m >>> i:Nat):Int):=by
 unfold qc;rw[show min (i:Int).toNat 64=i from by simp;omega,Nat.shiftRight_eq_div_pow,Int.fdiv_eq_ediv_of_nonneg _ (by exact_mod_cast Nat.zero_le _)];simp
theorem J5 {i:Nat} (hi:i<62):Dc 1 (i:Int)=((2 ^ i:Nat):Int):=by
 unfold Dc;rw[show min (i:Int).toNat 64=i from by simp;omega,Int.one_mul]
 have:2 ^ i<2 ^ 62:=Nat.pow_lt_pow_right (by decide) hi
 rw[show ((2:Int) ^ i)=((2 ^ i:Nat):Int) from by simp];generalize 2 ^ i=z at this;exact br (by omega) (by omega)
theorem Gi {m i:Nat} (b:m<2 ^ 62) (hi:i<64):((rU (qc (m:Int) (i:Int)) 1)==1)=m.testBit i:=by
 have a:m >>> i<2 ^ 62:=Nat.lt_of_le_of_lt (by rw[Nat.shiftRight_eq_div_pow];exact Nat.div_le_self _ _) b;rw[QK hi,show (1:Int)=((1:Nat):Int) from rfl,QI a (by decide),Nat.testBit,Nat.and_comm];have e:m >>> i &&& 1=m >>> i % 2:=Nat.and_one_is_mod _;rw[Nat.and_comm 1,e];rcases Nat.mod_two_eq_zero_or_one (m >>> i) with h | h <;> rw[h] <;> rfl
theorem Ua {m i:Nat} (b:m<2 ^ 62) (hi:i<64):((rU (qc (m:Int) (i:Int)) 1)==0)= !m.testBit i:=by
 have a:m >>> i<2 ^ 62:=Nat.lt_of_le_of_lt (by rw[Nat.shiftRight_eq_div_pow];exact Nat.div_le_self _ _) b;rw[QK hi,show (1:Int)=((1:Nat):Int) from rfl,QI a (by decide),Nat.testBit,Nat.and_comm];have e:m >>> i &&& 1=m >>> i % 2:=Nat.and_one_is_mod _;rw[Nat.and_comm 1,e];rcases Nat.mod_two_eq_zero_or_one (m >>> i) with h | h <;> rw[h] <;> rfl
def o6 (m k:Nat):List Int:=((List.range k).filter fun i=>m.testBit i).map fun (i:Nat)=>(i:Int)
theorem vC (m k:Nat):o6 m (k+1)=if m.testBit k then o6 m k++ [(k:Int)] else o6 m k:=by
 unfold o6;rw[List.range_succ,List.filter_append,aX];by_cases h:m.testBit k=true
 ·simp[h]
 ·simp[h]
theorem EB {m k l:Nat} (h:m<2 ^ k) (a:k<=l):o6 m l=o6 m k:=by
 induction a with
 | refl=>rfl
 | step a ih =>
  rw[vC,Nat.testBit_lt_two_pow (aL h (Nat.pow_le_pow_right (by decide) a)),ih];rfl
theorem CT {m k:Nat} {x:Int} :x∈o6 m k↔ ∃i:Nat,i<k/\m.testBit i=true/\x=(i:Int):=by
 unfold o6;simp only[List.mem_map,List.mem_filter,List.mem_range];constructor
 ·rintro ⟨i,⟨b,a⟩,rfl⟩;exact ⟨i,b,a,rfl⟩
 ·rintro ⟨i,b,a,rfl⟩;exact ⟨i,⟨b,a⟩,rfl⟩
theorem uP (m k:Nat):(o6 m k).length<=k:=by
 unfold o6;rw[List.length_map];exact Nat.le_trans (List.length_filter_le _ _) (by simp)
theorem DJ (m i j:Nat):(m ||| 2 ^ i).testBit j=(m.testBit j || decide (i=j)):=by
 rw[Nat.testBit_or,Nat.testBit_two_pow]
theorem yI {m i k:Nat} (h:m<2 ^ k) (hi:i<k):m ||| 2 ^ i<2 ^ k:=Nat.or_lt_two_pow h (Nat.pow_lt_pow_right (by decide) hi)
theorem p62 {n:Nat} (h:n<=30):2 ^ n<=2 ^ 62:=Nat.pow_le_pow_right (by decide) (by omega)
def ClI (n:Nat) (i:Nat) (st:Int×Int):Prop:=(-1<=st.2/\st.2<n)/\ ∃(M:Nat) (L:List Int),st.1=(M:Int)/\M<2 ^ n/\L.length=i/\L.Nodup/\(∀x∈L,0<=x/\x<n)/\ ∀j:Nat,M.testBit j=true↔(j:Int)∈L
theorem aaO {n:Nat} {L:List Int} (h:L.Nodup) (k: ∀x∈L,0<=x/\x<n):L.length<=n:=by
 have:=h.length_le_of_subset (l₂:=(List.range n).map fun i:Nat=>(i:Int)) (fun x a=>by
  obtain ⟨c,b⟩:=k x a;exact List.mem_map.2 ⟨x.toNat,List.mem_range.2 (by omega),by omega⟩)
 simpa using this
section
variable {a:AutT} {n:Nat} (V:VA a n) (hn:n<=12)
include V hn
theorem Yi {v:Int} (hv:0<=v/\v<=2) {i:Nat} {e:Int×Int} (h:ClI n i (e.2,e.1)) :
  (i<n/\ ∃st',ig a v e=some (.nxt st')/\ClI n (i+1) (st'.2,st'.1))\/ig a v e=some (.brk e):=by
 obtain ⟨⟨z,y⟩,M,L,t,o,w,r,q,p⟩:=h;obtain ⟨s,m⟩:=e;obtain rfl:m=(M:Int):=t;have f:M<2 ^ 62:=aL o (p62 (by omega));unfold ig;simp only at z y⊢;by_cases c:s≥0
 ·obtain ⟨k,rfl⟩: ∃k:Nat,s=(k:Int):=⟨s.toNat,by omega⟩;have D:k<n:=by omega
  have C:chk ((0:Int)<=(k:Int))=some ():=by unfold chk;rw[if_pos (by omega)]
  simp only[C,aa];rw[if_pos (by simp),Ua f (by omega)];by_cases b:M.testBit k=true
  ·right;rw[if_neg (by simp[b])]
  ·left;have l:(k:Int)∉L:=fun B=>b ((p k).2 B);have g:=aaO (n:=n) (L:=(k:Int)::L) (List.nodup_cons.2 ⟨l,r⟩) (fun x d=>by
    rcases aG d with rfl | d
    ·omega
    ·exact q x d)
   simp only[aq] at g;obtain ⟨u,rfl⟩: ∃u:Nat,v=(u:Int):=⟨v.toNat,by omega⟩;have E:u<=2:=by omega
   have A:i64.wrap (6+(u:Int))=((6+u:Nat):Int):=by rw[br (by omega) (by omega)];omega
   refine ⟨by omega,(mv a (k:Int) (6+u),((M ||| 2 ^ k:Nat):Int)),?_,?_,M ||| 2 ^ k,(k:Int)::L,rfl,yI o D,by simp[w],List.nodup_cons.2 ⟨l,r⟩,?_,?_⟩
   ·rw[if_pos (by simp[b]),A,V.get (s:=(k:Int)) (by omega) (by omega)];simp only[aa];rw[V.get2 (s:=(k:Int)) (k:=6+u) (by omega) (by omega) (by omega),J5 (by omega),QJ f (Nat.pow_lt_pow_right (by decide) (by omega))];rfl
   ·exact V.mv (by omega) (by omega) (by omega)
   ·intro x d;rcases aG d with rfl | d
    ·omega
    ·exact q x d
   ·intro j;rw[DJ,Bool.or_eq_true,p j,List.mem_cons,decide_eq_true_eq];constructor
    ·rintro (h | h)
     ·exact .inr h
     ·left;omega
    ·rintro (h | h)
     ·right;omega
     ·exact .inl h
 ·right;rw[if_neg (by simpa using c)]
theorem Is {s v:Int} (hs:0<=s/\s<n) (hv:0<=v/\v<=2): ∃C:Nat,dC a s v=some (C:Int)/\C<2 ^ n:=by
 have g:ClI n 0 (0,s):=⟨⟨by simp only;omega,hs.2⟩,0,[],rfl,Nat.two_pow_pos n,rfl,List.nodup_nil,by simp,by simp⟩;obtain ⟨o,e,C,b,rfl,l⟩:=b9 (f:=ig a v) (fun i c=>ClI n i (c.2,c.1)) (fun o=> ∃(C:Nat) (b:Int),o= .brk (b,(C:Int))/\C<2 ^ n) n (s:=(s,0)) (fun i c p h=>by
  rcases Yi V hn hv h with d | d
  ·exact .inl d
  ·obtain ⟨_,M,L,j,k,_⟩:=h;obtain ⟨b,m⟩:=c;obtain rfl:m=(M:Int):=j;exact .inr ⟨_,d,(fun b e=>by cases e),M,b,rfl,k⟩) g (by unfold aU;omega)
 exact ⟨C,by unfold dC;exact aj e,l⟩
end
def cS (a:AutT) (s v:Int):Nat:=((dC a s v).getD 0).toNat
section
variable {a:AutT} {n:Nat} (V:VA a n) (hn:n<=12)
include V hn
theorem QL {s v:Int} (hs:0<=s/\s<n) (hv:0<=v/\v<=2):dC a s v=some (cS a s v:Int)/\cS a s v<2 ^ n:=by
 obtain ⟨C,e,h⟩:=Is V hn hs hv;unfold cS;rw[e];exact ⟨rfl,by simpa using h⟩
theorem Iu {s v:Int} (hs:0<=s/\s<n) (hv:0<=v/\v<=2):dC a s v=some (cS a s v:Int):=(QL V hn hs hv).1
theorem Yj {s v:Int} (hs:0<=s/\s<n) (hv:0<=v/\v<=2):cS a s v<2 ^ n:=(QL V hn hs hv).2
end
def afS (a:AutT) (k:Nat) (C:Nat):Nat->Nat
 | 0=>0
 | q+1=>if C.testBit q=true/\0<=mv a (q:Int) k then afS a k C q ||| 2 ^ (mv a (q:Int) k).toNat else afS a k C q
def afL (a:AutT) (k:Nat) (l:List Int):Nat:=l.foldl (fun m t=>if 0<=mv a t k then m ||| 2 ^ (mv a t k).toNat else m) 0
theorem J6 (a:AutT) (k C:Nat): ∀q,afL a k (o6 C q)=afS a k C q
 | 0=>rfl
 | q+1=>by
  rw[vC,afS];by_cases b:C.testBit q=true
  ·rw[if_pos b];unfold afL;rw[List.foldl_append]
   have:=J6 a k C q
   unfold afL at this;rw[this];simp[b]
  ·rw[if_neg b,if_neg (fun h=>b h.1)];exact J6 a k C q
section
variable {a:AutT} {n:Nat} (V:VA a n) (hn:n<=12)
include V
theorem QM {k C:Nat} (b:k<9): ∀q,q<=n->afS a k C q<2 ^ n
 | 0,_=>Nat.two_pow_pos n
 | q+1,hq=>by
  rw[afS]
  have:=QM (C:=C) b q (by omega)
  split
  ·rename_i c
   have:=(V.mv (s:=(q:Int)) (by omega) (by omega) b).2
   exact yI (by assumption) (by omega)
  ·exact this
theorem aaP {k:Nat} (e:k<9) {l:List Int} (h: ∀x∈l,0<=x/\x<n):afL a k l<2 ^ n:=by
 unfold afL;have key: ∀(l:List Int) (m:Nat),(∀x∈l,0<=x/\x<n)->m<2 ^ n->l.foldl (fun m t=>if 0<=mv a t k then m ||| 2 ^ (mv a t k).toNat else m) m<2 ^ n:=by
  intro l;induction l with
  | nil=>intro m _ h;exact h
  | cons x l ih =>
   intro m b c;rw[List.foldl_cons];refine ih _ (fun y d=>b y (by simp[d])) ?_;split
   ·have:=(V.mv (b x (by simp)).1 (b x (by simp)).2 e).2
    exact yI c (by omega)
   ·exact c
 exact key l 0 h (Nat.two_pow_pos n)
include hn
theorem Gj {C:Nat} (d:C<2 ^ n): ∀x∈o6 C 30,0<=x/\x<(n:Int):=by
 intro x c;obtain ⟨i,e,b,rfl⟩:=CT.1 c;refine ⟨by omega,?_⟩;rcases Nat.lt_or_ge i n with h | h
 ·omega
 ·rw[Nat.testBit_lt_two_pow (aL d (Nat.pow_le_pow_right (by decide) h))] at b;cases b
end
theorem CU {p:Prop} [Decidable p] (h:p):chk p=some ():=by unfold chk;rw[if_pos h]
section
variable {α:Type} {N:Nat} {F G:Nat->α}
theorem J7 {xs:List α} [Inhabited α] {k:Nat} (h:k<xs.length):xs.take (k+1)=xs.take k++ [nth xs (k:Int)]:=by
 rw[List.take_add_one,bH h];simp[h]
end
abbrev EdT:=Int×Int×Int×Int
abbrev ArT:=(Int×Bool)×Int×Int
def fwd (e:EdT):ArT:=((e.1,false),2*e.2.2.2,e.2.2.1)
def inv (e:EdT):ArT:=((e.1,true),2*e.2.2.2+1,e.2.1)
def Yk (e:EdT) (x:Int):List ArT:=(if e.2.1=x then [fwd e] else [])++(if e.2.2.1=x then [inv e] else [])
def wx (es:List EdT) (x:Nat):List ArT:=es.flatMap fun e=>Yk e x
theorem Ub (e:EdT) (x:Int):(Yk e x).length<=2:=by
 unfold Yk;rw[az];split <;> split <;> simp
theorem yJ {α β:Type} {f:α->List β} {B:Nat} : ∀ {xs:List α},(∀x∈xs,(f x).length<=B)->(xs.flatMap f).length<=B*xs.length
 | [],_=>by simp
 | x::xs,h=>by
  rw[List.flatMap_cons,az,aq,Nat.mul_add]
  have:=h x (by simp)
  have:=yJ (xs:=xs) fun y a=>h y (by simp[a])
  omega
theorem Gk (a:List EdT) (x:Nat):(wx a x).length<=2*a.length:=yJ fun e _=>Ub e x
def behind (a:AutT) (s v k:Int):List Int:=o6 (afL a k.toNat (o6 (cS a s v) 30)) 30
def nbA (g:GrT) (a:AutT) (x s:Nat) (y:ArT):List Int:=(behind a s (nth g.1 x) y.2.1).map fun t=>y.2.2*(a.2.1.length:Int)+t
def nbV (g:GrT) (a:AutT) (x s:Nat):List Int:=(wx g.2 x).flatMap (nbA g a x s)
def nbC (g:GrT) (a:AutT) (c:Nat):List Int:=nbV g a (c / a.2.1.length) (c % a.2.1.length)
theorem EC {g:GrT} (G:GOk g) {x:Nat} {y:ArT} (h:y∈wx g.2 x):(0<=y.2.1/\y.2.1<6)/\0<=y.2.2/\y.2.2<g.1.length:=by
 obtain ⟨e,b,a⟩:=List.mem_flatMap.1 h;obtain ⟨d,c,f⟩:=G.edge e b;unfold Yk at a;rcases aE a with a | a <;> split at a
 ·obtain rfl:y=fwd e:=by simpa using a
  exact ⟨⟨by simp[fwd];omega,by simp[fwd];omega⟩,c⟩
 ·cases a
 ·obtain rfl:y=inv e:=by simpa using a
  exact ⟨⟨by simp[inv];omega,by simp[inv];omega⟩,d⟩
 ·cases a
section
variable {g:GrT} {a:AutT} (G:GOk g) (V:VA a a.2.1.length) (hn:a.2.1.length<=12)
include G V hn
theorem CV {s v:Int} {k:Int} (hs:0<=s/\s<a.2.1.length) (hv:0<=v/\v<=2) (d:0<=k/\k<6):(∀t∈behind a s v k,0<=t/\t<(a.2.1.length:Int))/\(behind a s v k).length<=30/\afL a k.toNat (o6 (cS a s v) 30)<2 ^ 30:=by
 have c:=Yj V hn hs hv;have b:=aaP V (k:=k.toNat) (by omega) (Gj V hn c);exact ⟨Gj V hn b,uP _ _,aL b (Nat.pow_le_pow_right (by decide) (by omega))⟩
theorem aaQ {x s:Nat} {y:ArT} (m:x<g.1.length) (hs:s<a.2.1.length) (d:y∈wx g.2 x): ∀z∈nbA g a x s y,0<=z/\z<((a.2.1.length*g.1.length:Nat):Int):=by
 intro z f;obtain ⟨t,b,rfl⟩:=List.mem_map.1 f;obtain ⟨c,l,e⟩:=EC G d;have hv:=G.val _ (cw (xs:=g.1) (i:=(x:Int)) (by omega) (by omega));obtain ⟨j,k⟩:=(CV G V hn (s:=(s:Int)) ⟨by omega,by omega⟩ hv c).1 t b;obtain ⟨q,h⟩: ∃q:Nat,y.2.2=(q:Int):=⟨y.2.2.toNat,by omega⟩;obtain ⟨r,rfl⟩: ∃r:Nat,t=(r:Int):=⟨t.toNat,by omega⟩;rw[h] at e⊢
 have:q*a.2.1.length+r<g.1.length*a.2.1.length:=by
  have:(q+1)*a.2.1.length<=g.1.length*a.2.1.length:=Nat.mul_le_mul_right _ (by omega)
  rw[Nat.add_mul] at this;omega
 rw[Nat.mul_comm a.2.1.length];constructor
 ·exact_mod_cast Nat.zero_le _
 ·exact_mod_cast this
theorem aaR {x s:Nat} (d:x<g.1.length) (hs:s<a.2.1.length): ∀z∈nbV g a x s,0<=z/\z<((a.2.1.length*g.1.length:Nat):Int):=by
 intro z b;obtain ⟨y,c,b⟩:=List.mem_flatMap.1 b;exact aaQ G V hn d hs c z b
theorem Yl {x s:Nat} {y:ArT} (b:x<g.1.length) (hs:s<a.2.1.length) (c:y∈wx g.2 x):(nbA g a x s y).length<=30:=by
 unfold nbA;rw[List.length_map];exact uP _ _
end
section
variable {g:GrT} {a:AutT} {F:Nat->List Int} {N:Nat}
end
section
variable {g:GrT} {a:AutT} (G:GOk g) (V:VA a a.2.1.length) (hn:a.2.1.length<=12)
include G V hn
theorem nN:a.2.1.length*g.1.length<=60:=by
 have:=Nat.mul_le_mul hn G.n5;omega
theorem cN {x s:Nat} (b:x<g.1.length) (hs:s<a.2.1.length):x*a.2.1.length+s<a.2.1.length*g.1.length:=by
 have:(x+1)*a.2.1.length<=g.1.length*a.2.1.length:=Nat.mul_le_mul_right _ (by omega)
 rw[Nat.add_mul,Nat.mul_comm g.1.length] at this;omega
end
def Db (y:ArT):Int×Bool:=y.1
theorem aaS {g:GrT} (G:GOk g) {x:Nat} :rp g x=some ((wx g.2 x).map Db):=by
 unfold rp
 have:=aY (f:=mn g x) (fun i=>((wx (g.2.take i) x).map Db,(i:Int))) g.2.length (fun i h=>by
  unfold mn;simp only;have l:=G.m;have k:=Gk (g.2.take i) x;have j:(g.2.take i).length<=12:=by rw[aB];omega
  rw[if_pos (by simp;omega),aw (by omega) (by omega)];simp only[aa];rw[J7 h,af (by omega)];generalize nth g.2 (i:Int)=e;have c:wx (g.2.take i++ [e]) x=wx (g.2.take i) x++Yk e x:=by simp[wx]
  rw[c,aX];generalize d:(wx (g.2.take i) x).map Db=L;have m:L.length<=24:=by rw[<-d,List.length_map];omega
  unfold Yk;by_cases b:e.2.1=(x:Int)
  ·rw[if_pos (by simpa using b),if_pos b,ax (by simp;omega)];simp only[aa];by_cases a:e.2.2.1=(x:Int)
   ·rw[if_pos (by simpa using a),if_pos a,ax (by simp;omega)];simp[Db,fwd,inv]
   ·rw[if_neg (by simpa using a),if_neg a];simp[Db,fwd,inv]
  ·rw[if_neg (by simpa using b),if_neg b];simp only[aa];by_cases a:e.2.2.1=(x:Int)
   ·rw[if_pos (by simpa using a),if_pos a,ax (by simp;omega)];simp[Db,fwd,inv]
   ·rw[if_neg (by simpa using a),if_neg a];simp[Db,fwd,inv]) (by unfold mn;simp) (pa (by have:=G.m;omega))
 have this:ah (mn g x) aU (([] :List (Int×Bool)),0)=_:=this;rw[this,List.take_length];rfl
theorem LL {g:GrT} (G:GOk g) {j:Nat} (a:j<g.2.length):cM g (nth g.2 (j:Int)).1=some (j:Int):=by
 unfold cM;have m:=G.m;obtain ⟨o,e,d⟩:=b9 (f:=cL g (nth g.2 (j:Int)).1) (fun i s=>s=(i:Int)/\i<=j) (fun o=>o= .ret (j:Int)) 12 (s:=0) (by
  rintro i s k ⟨rfl,b⟩;unfold cL;rw[if_pos (by simp;omega),aw (by omega) (by omega)];simp only[aa];by_cases c:i=j
  ·subst c;exact .inr ⟨_,by rw[if_pos (by simp)],(fun l e=>by cases e),rfl⟩
  ·have h:=G.lt (i:=i) (j:=j) (by omega) a;exact .inl ⟨by omega,_,by rw[if_neg (by simp;omega),af (by omega)],rfl,by omega⟩) ⟨rfl,by omega⟩ (by unfold aU;omega)
 subst d;rw[e];rfl
theorem Uc {g:GrT} (G:GOk g) {x:Nat} {y:ArT} (h:y∈wx g.2 x): ∃(j:Int) (e:EdT),cM g y.1.1=some j/\aS g.2 j=some e/\iL e y.1.2=some y.2.1/\pD e y.1.2=some y.2.2:=by
 obtain ⟨e,b,a⟩:=List.mem_flatMap.1 h;obtain ⟨j,c,rfl⟩:=CG b;obtain ⟨f,d,i⟩:=G.edge _ b;refine ⟨j,nth g.2 (j:Int),?_,aw (by omega) (by omega),?_,?_⟩
 all_goals
  unfold Yk at a;rcases aE a with a | a <;> split at a
  ·obtain rfl:=al a;simp only[fwd]
   first | exact LL G c | (unfold iL;rw[br (n:=2*_) (by omega) (by omega)];rfl) | (unfold pD;rfl)
  ·cases a
  ·obtain rfl:=al a;simp only[inv]
   first | exact LL G c | (unfold iL;rw[br (n:=2*_) (by omega) (by omega),br (by omega) (by omega)];rfl) | (unfold pD;rfl)
  ·cases a
abbrev Ym:=(Int×Bool)×Int×Int
def stA (g:GrT) (a:AutT) (x s:Nat) (y:ArT):List Ym:=(behind a s (nth g.1 x) y.2.1).map fun t=>(y.1,y.2.2,t)
def stV (g:GrT) (a:AutT) (x s:Nat):List Ym:=(wx g.2 x).flatMap (stA g a x s)
theorem aaT (g:GrT) (a:AutT) (x s:Nat):(stV g a x s).map (fun p=>p.2.1*(a.2.1.length:Int)+p.2.2)=nbV g a x s:=by
 unfold stV nbV;rw[List.map_flatMap];congr 1;funext y;unfold stA nbA;rw[List.map_map];rfl
section
variable {g:GrT} {a:AutT} (G:GOk g) (V:VA a a.2.1.length) (hn:a.2.1.length<=12)
include G V hn
theorem Yn {x s:Nat} {y:ArT} (c:x<g.1.length) (hs:s<a.2.1.length) (b:y∈wx g.2 x):(stA g a x s y).length<=30:=by
 unfold stA;rw[List.length_map];exact (CV G V hn (s:=s) ⟨by omega,by omega⟩ (G.val _ (cw (by omega) (by omega))) (EC G b).1).2.1
theorem acF {x:Nat} {i:Nat} {e:EdT} {o:List Ym} {y:ArT} {C:Nat} (v:C<2 ^ a.2.1.length) (r:y∈wx g.2 x) (hi:aS ((wx g.2 x).map Db) (i:Int)=some (Db y)) (j:iL e y.1.2=some y.2.1) :
  ah (jR a (C:Int) ((wx g.2 x).map Db) (o,(i:Int)) e) aU (0,0)=some (.brk ((afS a y.2.1.toNat C a.2.1.length:Int),(a.2.1.length:Int))):=by
 obtain ⟨w,z⟩:=(EC G r).1
 have:=aY (f:=jR a (C:Int) ((wx g.2 x).map Db) (o,(i:Int)) e) (fun q=>((afS a y.2.1.toNat C q:Int),(q:Int))) a.2.1.length (fun q A=>by
  unfold jR;simp only;have j:iL (e.1,e.2.1,e.2.2.1,e.2.2.2) (Db y).2=some y.2.1:=j;have u:y.2.1=((y.2.1.toNat:Nat):Int):=by omega
  have m:=V.get2 (s:=(q:Int)) (k:=y.2.1.toNat) (by omega) (by omega) (by omega);rw[<-u] at m;have d:=QM V (k:=y.2.1.toNat) (C:=C) (by omega) q (by omega);have l:C<2 ^ 62:=aL v (p62 (by omega));have n:=(V.mv (s:=(q:Int)) (k:=y.2.1.toNat) (by omega) (by omega) (by omega)).2;rw[if_pos (by simp;omega),V.get (by omega) (by omega)];simp only[aa];rw[hi];simp only[aa];rw[j];simp only[aa];rw[m];simp only[aa];rw[CU (by omega),Gi l (by omega),af (by omega),afS];simp only[aa];by_cases b:C.testBit q=true
  ·rw[if_pos b];by_cases c:0<=D.mv a (q:Int) y.2.1.toNat
   ·obtain ⟨t,p⟩: ∃t:Nat,D.mv a (q:Int) y.2.1.toNat=(t:Int):=⟨_,(Int.toNat_of_nonneg c).symm⟩;rw[if_pos (by simpa using c),if_pos ⟨b,c⟩,CU c,p,J5 (by omega),QJ (aL d (p62 (by omega))) (Nat.pow_lt_pow_right (by decide) (by omega))];rfl
   ·rw[if_neg (by simpa using c),if_neg (fun h=>c h.2)];rfl
  ·rw[if_neg b,if_neg (fun h=>b h.1)];rfl) (by unfold jR;simp) (pa (by omega))
 exact this
theorem acG {x:Nat} {i:Nat} {e:EdT} {o:List Ym} {y:ArT} {m:Nat} (h:m<2 ^ a.2.1.length) (j:o.length<=100000) (hi:aS ((wx g.2 x).map Db) (i:Int)=some (Db y)) (c:pD e y.1.2=some y.2.2) {z:Int} :
  ah (jS a ((wx g.2 x).map Db) (o,(i:Int)) e ((m:Int),z)) aU (o,0)=some (.brk (o++(o6 m 30).map (fun t=>(y.1,y.2.2,t)),(a.2.1.length:Int))):=by
 have:=aY (f:=jS a ((wx g.2 x).map Db) (o,(i:Int)) e ((m:Int),z)) (fun q=>(o++(o6 m q).map (fun t=>(y.1,y.2.2,t)),(q:Int))) a.2.1.length (fun q l=>by
  unfold jS;simp only;have c:pD (e.1,e.2.1,e.2.2.1,e.2.2.2) (Db y).2=some y.2.2:=c;have d:m<2 ^ 62:=aL h (p62 (by omega));have k:=uP m q;rw[if_pos (by simp;omega),CU (by omega),Gi d (by omega),af (by omega),vC];simp only[aa];by_cases b:m.testBit q=true
  ·rw[if_pos b,if_pos b,hi];simp only[aa];rw[c];simp only[aa];rw[ax (by simp;omega)];simp only[aa,aX,aC];rfl
  ·rw[if_neg b,if_neg b];rfl) (by unfold jS;simp) (pa (by omega))
 rw[EB h (show a.2.1.length<=30 by omega)];simpa [o6] using this
theorem Yo {x s:Nat} (E:x<g.1.length) (hs:s<a.2.1.length):nW g a x s=some (stV g a x s):=by
 have hv:=G.val _ (cw (xs:=g.1) (i:=(x:Int)) (by omega) (by omega));have h:=Iu V hn (s:=(s:Int)) ⟨by omega,by omega⟩ hv;have o:=Yj V hn (s:=(s:Int)) ⟨by omega,by omega⟩ hv;unfold nW;rw[aw (by omega) (by omega)];simp only[aa];have h:dC (a.1,a.2.1,a.2.2) (s:Int) (nth g.1 (x:Int))=_:=h;have D:rp (g.1,g.2) (x:Int)=_:=aaS G;rw[h,D];simp only[aa];generalize p:cS a (s:Int) (nth g.1 (x:Int))=C at o;have H:=Gk g.2 x;have J:=G.m
 have:=aY (f:=jT g a (C:Int) ((wx g.2 x).map Db)) (fun i=>(((wx g.2 x).take i).flatMap (stA g a x s),(i:Int))) (wx g.2 x).length (fun i l=>by
  unfold jT;simp only;have d:=List.getElem_mem l;generalize c:(wx g.2 x)[i] =y at d;have b:aS ((wx g.2 x).map Db) (i:Int)=some (Db y):=by rw[aM (by simpa using l)];simp[c]
  obtain ⟨j,e,m,A,w,v⟩:=Uc G d;obtain ⟨F,I⟩:=(EC G d).1;rw[if_pos (by simp;omega),b];simp only[aa];have m:cM (g.1,g.2) (Db y).1=_:=m;rw[m];simp only[aa];rw[A];simp only[aa];rw[aj (acF G V hn o d b w)];have n:=QM V (k:=y.2.1.toNat) (C:=C) (by omega) a.2.1.length (aH _);have r:=yJ (f:=stA g a x s) (B:=30) (xs:=(wx g.2 x).take i) fun z t=>Yn G V hn E hs (List.mem_of_mem_take t);have q:((wx g.2 x).take i).length<=24:=by rw[aB];omega
  rw[aj (acG G V hn n (by omega) b v),af (by omega)];congr 3;have u:(wx g.2 x).take (i+1)=(wx g.2 x).take i++ [y]:=by rw[List.take_add_one];simp[l,c]
  rw[u,List.flatMap_append];congr 1;simp only[List.flatMap_cons,List.flatMap_nil,List.append_nil];unfold stA behind;rw[p,EB o (show a.2.1.length<=30 by omega),J6]) (by unfold jT;simp) (pa (by omega))
 rw[List.take_length] at this;have this:ah (jT g a (C:Int) ((wx g.2 x).map Db)) aU (([] :List Ym),0)=_:=this;rw[aj this];rfl
end
abbrev BfT:=List Int×List Int
def Yp (d:Int) (s:BfT) (x:Int):BfT:=if nth s.1 x<0 then (s.1.set x.toNat d,s.2++ [x]) else s
def IG (d:Int) (s:BfT) (xs:List Int):BfT:=xs.foldl (Yp d) s
theorem QN (d:Int) (s:BfT) (xs:List Int) (x:Int):IG d s (xs++ [x])=Yp d (IG d s xs) x:=by simp[IG]
structure BI (N:Nat) (s:BfT):Prop where
 len:s.1.length=N
 nd:s.2.Nodup
 rng: ∀x∈s.2,0<=x/\x<N
 seen: ∀x:Int,0<=x->x<N->(nth s.1 x<0↔x∉s.2)
 top: ∀x:Int,0<=x->x<N-> -1<=nth s.1 x/\nth s.1 x<s.2.length
theorem BI.le {N:Nat} {s:BfT} (h:BI N s):s.2.length<=N:=by
 have:=h.nd.length_le_of_subset (l₂:=(List.range N).map fun i:Nat=>(i:Int)) (fun x a=>by
  obtain ⟨c,b⟩:=h.rng x a;exact List.mem_map.2 ⟨x.toNat,List.mem_range.2 (by omega),by omega⟩)
 simpa using this
theorem BI.one {N:Nat} {s:BfT} (h:BI N s) {d x:Int} (c:0<=x/\x<N) (n:0<=d/\d<=s.2.length):BI N (Yp d s x)/\s.2 <+:(Yp d s x).2/\ ∀y,0<=y->0<=nth s.1 y->nth (Yp d s x).1 y=nth s.1 y:=by
 unfold Yp;split
 ·rename_i l;have i:=(h.seen x c.1 c.2).1 l;refine ⟨⟨by simp[h.len],?_,?_,?_,?_⟩,List.prefix_append _ _,?_⟩
  ·exact List.nodup_append.2 ⟨h.nd,by simp,by rintro a m b k rfl;simp at k;exact i (k ▸ m)⟩
  ·intro y g;rcases aE g with g | g
   ·exact h.rng y g
   ·obtain rfl:y=x:=by simpa using g
    exact c
  ·intro y f j;by_cases e:x=y
   ·subst e;rw[qG c.1 (by rw[h.len];exact c.2)];simp;omega
   ·rw[vz c.1 f e,h.seen y f j];simp;omega
  ·intro y f j;by_cases e:x=y
   ·subst e;rw[qG c.1 (by rw[h.len];exact c.2)];simp;omega
   ·rw[vz c.1 f e]
    have:=h.top y f j
    simp;omega
  ·intro y f j;refine vz c.1 f ?_;rintro rfl;omega
 ·exact ⟨h,List.prefix_refl _,fun y _ _=>rfl⟩
theorem BI.all {N:Nat} {d:Int} : ∀ {xs:List Int} {s:BfT},BI N s->(∀x∈xs,0<=x/\x<N)->(0<=d/\d<=s.2.length)->BI N (IG d s xs)/\s.2 <+:(IG d s xs).2/\ ∀y,0<=y->0<=nth s.1 y->nth (IG d s xs).1 y=nth s.1 y
 | [],s,h,_,_=>⟨h,List.prefix_refl _,fun _ _ _=>rfl⟩
 | x::xs,s,h,hx,hd=>by
  obtain ⟨g,b,j⟩:=h.one (hx x (by simp)) hd;have l:=b.length_le;obtain ⟨i,k,f⟩:=BI.all (xs:=xs) g (fun y a=>hx y (by simp[a])) ⟨hd.1,by omega⟩;refine ⟨i,b.trans k,fun y c a=>?_⟩;have e:=j y c a;exact (f y c (by rw[e];exact a)).trans e
def bsS (nx:Int->List Int) (N:Nat) (v:Int):Nat->BfT
 | 0=>((List.replicate N (-1)).set v.toNat 0,[v])
 | i+1=>match (bsS nx N v i).2[i]? with
  | some x=>IG (nth (bsS nx N v i).1 x+1) (bsS nx N v i) (nx x)
  | none=>bsS nx N v i
section
variable {nx:Int->List Int} {N:Nat} {v:Int} (hv:0<=v/\v<N) (hn: ∀x:Int,0<=x->x<N-> ∀y∈nx x,0<=y/\y<N)
include hv
theorem Yq {x:Int} (a:0<=x) (h1:x<N):nth (List.replicate N (-1:Int)) x= -1:=by
 have:x.toNat<N:=by omega
 simp[nth,List.getD_eq_getElem?_getD,List.getElem?_replicate,this]
theorem BI.zero:BI N (bsS nx N v 0):=by
 refine ⟨by simp[bsS],by simp[bsS],fun x c=>?_,fun x a b=>?_,fun x a b=>?_⟩
 ·obtain rfl:x=v:=by simpa [bsS] using c
  exact hv
 all_goals
  unfold bsS;by_cases e:v=x
  ·subst e;rw[qG hv.1 (by simpa using hv.2)];simp
  ·rw[vz hv.1 a e,Yq hv a b]
   first | omega | (simp;omega) | simp
include hn
theorem LM {i:Nat} (h:BI N (bsS nx N v i)):BI N (bsS nx N v (i+1))/\(bsS nx N v i).2 <+:(bsS nx N v (i+1)).2:=by
 rw[bsS];split
 ·rename_i x g;have e:=List.mem_of_getElem? g;obtain ⟨b,a⟩:=h.rng x e;have hp: ¬nth (bsS nx N v i).1 x<0:=fun c=>(h.seen x b a).1 c e;have k:=h.top x b a;obtain ⟨f,j,_⟩:=h.all (xs:=nx x) (d:=nth (bsS nx N v i).1 x+1) (hn x b a) ⟨by omega,by omega⟩;exact ⟨f,j⟩
 ·exact ⟨h,List.prefix_refl _⟩
theorem ED: ∀i,BI N (bsS nx N v i)
 | 0=>BI.zero hv
 | i+1=>(LM hv hn (ED i)).1
theorem Yr: ∃K,K<=N/\K=(bsS nx N v K).2.length/\ ∀i,i<K->i<(bsS nx N v i).2.length:=by
 have key: ∀m i,i+m=N->(∀j,j<i->j<(bsS nx N v j).2.length)-> ∃K,K<=N/\K=(bsS nx N v K).2.length/\ ∀i,i<K->i<(bsS nx N v i).2.length:=by
  have b: ∀i,(∀j,j<i->j<(bsS nx N v j).2.length)->i<=(bsS nx N v i).2.length:=by
   intro i a;cases i with
   | zero=>omega
   | succ i =>
    have:=a i (by omega)
    have hp:=(LM hv hn (ED hv hn i)).2.length_le;omega
  intro m;induction m with
  | zero =>
   intro i d a;have g:=(ED hv hn i).le;have c:=b i a;exact ⟨i,by omega,by omega,a⟩
  | succ m ih =>
   intro i d a;by_cases h:i<(bsS nx N v i).2.length
   ·exact ih (i+1) (by omega) fun j f=>by
     by_cases e:j=i
     ·subst e;exact h
     ·exact a j (by omega)
   ·have c:=b i a;exact ⟨i,by omega,by omega,a⟩
 exact key N 0 (by omega) (by omega)
end
section
variable {nx:Int->List Int} {N:Nat} {v:Int} (hN:N<=60) (hv:0<=v/\v<N) (hn: ∀x:Int,0<=x->x<N-> ∀y∈nx x,0<=y/\y<N) (hl: ∀x,(nx x).length<=100000)
include hN hv hn hl
theorem acH {i:Nat} {x:Int} (g:(bsS nx N v i).2[i]? =some x) (j:Nat) :
  BI N (IG (nth (bsS nx N v i).1 x+1) (bsS nx N v i) ((nx x).take j))/\(IG (nth (bsS nx N v i).1 x+1) (bsS nx N v i) ((nx x).take j)).2[i]? =some x/\nth (IG (nth (bsS nx N v i).1 x+1) (bsS nx N v i) ((nx x).take j)).1 x=nth (bsS nx N v i).1 x/\(0<=x/\x<N)/\(0<=nth (bsS nx N v i).1 x/\nth (bsS nx N v i).1 x<60)/\i<(IG (nth (bsS nx N v i).1 x+1) (bsS nx N v i) ((nx x).take j)).2.length:=by
 have h:=ED hv hn i;have k:=List.mem_of_getElem? g;obtain ⟨a,b⟩:=h.rng x k;have hp: ¬nth (bsS nx N v i).1 x<0:=fun c=>(h.seen x a b).1 c k;have r:=h.top x a b;have q:=h.le;obtain ⟨n,m,p⟩:=h.all (xs:=(nx x).take j) (d:=nth (bsS nx N v i).1 x+1) (fun y o=>hn x a b y (List.mem_of_mem_take o)) ⟨by omega,by omega⟩;obtain ⟨t,f⟩:=m;have l:=(List.getElem?_eq_some_iff.1 g).1;have e:(IG (nth (bsS nx N v i).1 x+1) (bsS nx N v i) ((nx x).take j)).2[i]? =some x:=by
  rw[<-f,List.getElem?_append_left l,g]
 exact ⟨n,e,p x a (by omega),⟨a,b⟩,⟨by omega,by omega⟩,(List.getElem?_eq_some_iff.1 e).1⟩
end
theorem QO {n:Nat} {r:List Int} :(∀t∈r,-1<=t/\t<=(n:Int) - 1)↔ ∀t∈r,-1<=t/\t<(n:Int):=forall_congr' fun t=>forall_congr' fun _=>and_congr Iff.rfl (by omega)
theorem aaU (a:AutT) (h1:a.2.1.length<=9223372036854775807) (n:a.2.2.length<=9223372036854775807): ∃b,pC a=some b/\(b=true↔VA a a.2.1.length):=by
 unfold pC;rw[AP];simp only[aa,fG h1];by_cases g:0<=a.1/\a.1<=(a.2.1.length:Int) - 1
 case neg=>exact ⟨false,by rw[if_neg (by simpa using g)],by simp;exact fun h=>g ⟨h.start.1,by have:=h.start.2;omega⟩⟩
 rw[if_pos (by simpa using g)];by_cases l:a.2.2.length=a.2.1.length
 case neg=>exact ⟨false,by rw[if_pos (by simp;omega)],by simp;exact fun h=>l h.nlen⟩
 rw[if_neg (by simp;omega)];have inner: ∀i:Nat,i<a.2.2.length->(nth a.2.2 i).length=9->(ah (jh a i) aU 0=some (.brk 9)/\ ∀t∈nth a.2.2 (i:Int),-1<=t/\t<=(a.2.1.length:Int) - 1)\/(ah (jh a i) aU 0=some (.ret false)/\ ¬ ∀t∈nth a.2.2 (i:Int),-1<=t/\t<=(a.2.1.length:Int) - 1):=by
  intro i m d
  have:=scan (f:=jh a i) (nth a.2.2 (i:Int)) (fun t=> -1<=t/\t<=(a.2.1.length:Int) - 1) false (by omega) (fun j o=>by
   unfold jh;rw[if_pos (by simp;omega),aw (by omega) (by omega)];simp only[aa];rw[aw (by omega) (by omega)];simp only[aa,fG h1];rw[AP];simp only[aa,af (show j<9223372036854775807 by omega)];by_cases c: -1<=nth (nth a.2.2 (i:Int)) (j:Int)/\nth (nth a.2.2 (i:Int)) (j:Int)<=(a.2.1.length:Int) - 1
   ·rw[if_pos (by simpa using c),if_pos c]
   ·rw[if_neg (by simpa using c),if_neg c]) (by unfold jh;rw[if_neg (by simp[d])])
  rwa [d] at this
 have outer:=scan (f:=nH a) a.2.2 (fun r=>r.length=9/\ ∀t∈r,-1<=t/\t<=(a.2.1.length:Int) - 1) false n (fun i m=>by
  unfold nH;rw[if_pos (by simp;omega),aw (by omega) (by omega)];simp only[aa];by_cases c:(nth a.2.2 (i:Int)).length=9
  ·rw[if_neg (by simp;omega)];rcases inner i m c with ⟨e,k⟩ | ⟨e,k⟩
   ·rw[aj e,if_pos ⟨c,k⟩,af (show i<9223372036854775807 by omega)]
   ·rw[bD e,if_neg (fun h=>k h.2)]
  ·rw[if_pos (by simp;omega),if_neg (fun h=>c h.1)]) (by unfold nH;rw[if_neg (by simp;omega)])
 rcases outer with ⟨e,k⟩ | ⟨e,k⟩
 ·exact ⟨true,by rw[aj e],by simp;exact ⟨rfl,⟨g.1,by omega⟩,l,fun r d=>(k r d).1,fun r d=>QO.1 (k r d).2⟩⟩
 ·exact ⟨false,by rw[bD e],by simp;exact fun h=>k fun r d=>⟨h.row r d,QO.2 (h.ent r d)⟩⟩
theorem Ys (a:AutT) (h1:a.2.1.length<=9223372036854775807) (d:a.2.2.length<=9223372036854775807): ∃b,gP a=some b/\(b=true↔a.2.1.length<=12/\VA a a.2.1.length):=by
 unfold gP;by_cases c:a.2.1.length<=12
 ·rw[if_pos (by simp;omega)];obtain ⟨b,e,f⟩:=aaU a h1 d;exact ⟨b,by show (pC a).bind _=_;rw[e];rfl,by rw[f];simp[c]⟩
 ·exact ⟨false,by rw[if_neg (by simp;omega)],by simp;exact fun h=>absurd h c⟩
theorem kg (g:GrT):bI g=bR g:=by
 have b:pv g=fw g:=rfl;have a:lH g=dW g:=by
  funext s;unfold lH dW;split
  ·cases c:aS g.2 s with
   | none=>rfl
   | some x=>rfl
  ·rfl
 unfold bI bR;rw[b,a];rfl
def GOOD (g:GrT) (a:AutT):Prop:=GOk g/\a.2.1.length<=12/\VA a a.2.1.length
def nxC (g:GrT) (a:AutT) (z:Int):List Int:=nbC g a z.toNat
section
variable {g:GrT} {a:AutT} (H:GOOD g a)
include H
theorem GOOD.divmod {x:Int} (b:0<=x) (h1:x<(a.2.1.length*g.1.length:Nat)):x.toNat / a.2.1.length<g.1.length/\x.toNat % a.2.1.length<a.2.1.length:=by
 have hp:=H.2.2.pos;simp_all[Nat.div_lt_iff_lt_mul,Nat.mul_comm,Nat.mod_lt]
theorem aaV (x:Int) (c:0<=x) (h1:x<(a.2.1.length*g.1.length:Nat)): ∀y∈nxC g a x,0<=y/\y<(a.2.1.length*g.1.length:Nat):=by
 have ⟨b,d⟩:=H.divmod c h1;exact aaR H.1 H.2.2 H.2.1 b d
theorem Yt {x:Int} (d:0<=x) (h1:x<(a.2.1.length*g.1.length:Nat)):(nxC g a x).length<=720:=by
 have ⟨b,e⟩:=H.divmod d h1
 have:=yJ (f:=nbA g a (x.toNat / a.2.1.length) (x.toNat % a.2.1.length)) (B:=30) (xs:=wx g.2 (x.toNat / a.2.1.length)) fun y c=>Yl H.1 H.2.2 H.2.1 b e c
 have h:=Gk g.2 (x.toNat / a.2.1.length)
 have:=H.1.m
 show (nbV g a _ _).length<=720;unfold nbV;omega
end
def nxN (g:GrT) (a:AutT) (z:Int):List Int:=if 0<=z/\z<(a.2.1.length*g.1.length:Nat) then nxC g a z else []
section
variable {g:GrT} {a:AutT} (H:GOOD g a)
include H
theorem EE: ∀x:Int,0<=x->x<(a.2.1.length*g.1.length:Nat)-> ∀y∈nxN g a x,0<=y/\y<(a.2.1.length*g.1.length:Nat):=fun x c b=>by
 unfold nxN;rw[if_pos ⟨c,b⟩];exact aaV H x c b
theorem QP (x:Int):(nxN g a x).length<=720:=by
 grind[nxN,Yt]
theorem Ud {x:Int} (b:0<=x) (h1:x<(a.2.1.length*g.1.length:Nat)): ∃l:List Ym,nW g a (GH x (a.2.1.length:Int)) (Int.tmod x (a.2.1.length:Int))=some l/\l.map (fun p=>p.2.1*(a.2.1.length:Int)+p.2.2)=nxN g a x/\ ∀p∈l,(0<=p.2.1/\p.2.1<60)/\0<=p.2.2/\p.2.2<60:=by
 have ⟨c,j⟩:=H.divmod b h1;have h:GH x (a.2.1.length:Int)=((x.toNat / a.2.1.length:Nat):Int):=by
  unfold GH
  have:x.tdiv (a.2.1.length:Int)=((x.toNat / a.2.1.length:Nat):Int):=by
   rw[Int.tdiv_eq_ediv_of_nonneg b];rw[show x / (a.2.1.length:Int)=((x.toNat:Nat):Int) / (a.2.1.length:Int) from by grind];simp
  rw[this,FZ (by have:=H.1.n5;omega)]
 have f:Int.tmod x (a.2.1.length:Int)=((x.toNat % a.2.1.length:Nat):Int):=by
  rw[Int.tmod_eq_emod_of_nonneg b];rw[show x % (a.2.1.length:Int)=((x.toNat:Nat):Int) % (a.2.1.length:Int) from by grind];simp
 refine ⟨_,by rw[h,f];exact Yo H.1 H.2.2 H.2.1 c j,?_,fun p hp=>?_⟩
 ·rw[aaT];unfold nxN;rw[if_pos ⟨b,h1⟩];rfl
 ·have ⟨y,d,hp⟩:=List.mem_flatMap.1 hp;obtain ⟨t,e,rfl⟩:=List.mem_map.1 hp;have k:=(EC H.1 d).2;have m:=(CV H.1 H.2.2 H.2.1 (s:=((x.toNat % a.2.1.length:Nat):Int)) ⟨by omega,by omega⟩ (H.1.val _ (cw (xs:=g.1) (i:=((x.toNat / a.2.1.length:Nat):Int)) (Int.natCast_nonneg _) (Int.ofNat_lt.2 c))) (EC H.1 d).1).1 t e
  have:=H.1.n5
  have:=H.2.1
  grind
end
def RKs (g:GrT) (a:AutT) (v:Int):List Int:=(bsS (nxN g a) (a.2.1.length*g.1.length) v (a.2.1.length*g.1.length)).1
theorem LN {nx:Int->List Int} {N:Nat} {v:Int} (hv:0<=v/\v<N) (a: ∀x:Int,0<=x->x<N-> ∀y∈nx x,0<=y/\y<N) {K:Nat} (b:K=(bsS nx N v K).2.length): ∀d,bsS nx N v (K+d)=bsS nx N v K
 | 0=>rfl
 | d+1=>by
  have c:=LN hv a b d;grind[Nat.add_assoc,bsS,List.getElem?_eq_none]
section
variable {g:GrT} {a:AutT} (H:GOOD g a) {x:Int} (hx:0<=x/\x<g.1.length)
include H hx
theorem abP:0<=x*(a.2.1.length:Int)+a.1/\x*(a.2.1.length:Int)+a.1<(a.2.1.length*g.1.length:Nat):=by
 obtain ⟨z,rfl⟩: ∃z:Nat,x=(z:Int):=⟨_,(Int.toNat_of_nonneg hx.1).symm⟩;have c:=H.2.2.start;have ⟨s,b⟩: ∃s:Nat,a.1=(s:Int):=⟨_,(Int.toNat_of_nonneg c.1).symm⟩
 have:=cN H.1 H.2.2 H.2.1 (x:=z) (s:=s) (by omega) (by omega)
 omega
theorem aaW:i64.wrap ((i64.wrap (x*(a.2.1.length:Int)))+a.1)=x*(a.2.1.length:Int)+a.1:=by
 have h:=abP H hx;have b:=nN H.1 H.2.2 H.2.1;have d:=H.2.2.start;have c:=H.2.1;grind[br]
theorem acI:BI (a.2.1.length*g.1.length) (bsS (nxN g a) (a.2.1.length*g.1.length) (x*(a.2.1.length:Int)+a.1) (a.2.1.length*g.1.length)):=ED (abP H hx) (EE H) _
theorem aaX:(RKs g a (x*(a.2.1.length:Int)+a.1)).length=a.2.1.length*g.1.length:=(acI H hx).len
theorem acJ {o1 o2:List Int} {i:Nat} {z:Int} {l:List Ym} (h:(bsS (nxN g a) (a.2.1.length*g.1.length) (x*(a.2.1.length:Int)+a.1) i).2[i]? =some z)
  (o:l.map (fun p=>p.2.1*(a.2.1.length:Int)+p.2.2)=nxN g a z) (hp: ∀p∈l,(0<=p.2.1/\p.2.1<60)/\0<=p.2.2/\p.2.2<60) :
  ah (jV a (o1,o2,(i:Int)) l) aU ((bsS (nxN g a) (a.2.1.length*g.1.length) (x*(a.2.1.length:Int)+a.1) i).1,(bsS (nxN g a) (a.2.1.length*g.1.length) (x*(a.2.1.length:Int)+a.1) i).2,0)=some (.brk ((bsS (nxN g a) (a.2.1.length*g.1.length) (x*(a.2.1.length:Int)+a.1) (i+1)).1,(bsS (nxN g a) (a.2.1.length*g.1.length) (x*(a.2.1.length:Int)+a.1) (i+1)).2,(l.length:Int))):=by
 have u:=nN H.1 H.2.2 H.2.1;have hv:=abP H hx;generalize G:x*(a.2.1.length:Int)+a.1=v at h hv⊢;have k:l.length<=720:=by have:=QP H z;rw[<-o,List.length_map] at this;exact this
 have e:bsS (nxN g a) (a.2.1.length*g.1.length) v (i+1)=IG (nth (bsS (nxN g a) (a.2.1.length*g.1.length) v i).1 z+1) (bsS (nxN g a) (a.2.1.length*g.1.length) v i) (nxN g a z):=by rw[bsS,h]
 have:=aY (f:=jV a (o1,o2,(i:Int)) l) (fun j=>((IG (nth (bsS (nxN g a) (a.2.1.length*g.1.length) v i).1 z+1) (bsS (nxN g a) (a.2.1.length*g.1.length) v i) ((nxN g a z).take j)).1,(IG (nth (bsS (nxN g a) (a.2.1.length*g.1.length) v i).1 z+1) (bsS (nxN g a) (a.2.1.length*g.1.length) v i) ((nxN g a z).take j)).2,(j:Int))) l.length (fun j B=>by
  have ⟨d,w,q,⟨m,r⟩,E,C⟩:=acH u hv (EE H) (fun x=>by grind[QP]) h j;have c:j<(nxN g a z).length:=by rw[<-o,List.length_map];exact B
  have y:=EE H z m r _ (cw (xs:=nxN g a z) (i:=(j:Int)) (by omega) (by omega));have F:=hp _ (cw (xs:=l) (i:=(j:Int)) (by omega) (by omega));have b:nth (nxN g a z) (j:Int)=(nth l (j:Int)).2.1*(a.2.1.length:Int)+(nth l (j:Int)).2.2:=by grind[X2]
  unfold jV;simp only;rw[J7 c,QN];generalize IG (nth (bsS (nxN g a) (a.2.1.length*g.1.length) v i).1 z+1) (bsS (nxN g a) (a.2.1.length*g.1.length) v i) ((nxN g a z).take j)=s at d w q C;have D:=d.le;have t:=d.len;rw[if_pos (by grind),aw (by omega) (by omega)];simp[aa];rw[br (n:=(nth l (j:Int)).2.1*(a.2.1.length:Int)) (by omega) (by omega),<-b,br (by omega) (by omega)];rw[aw (xs:=s.1) y.1 (by omega)];rw[show aS s.2 (i:Int)=some z from by simp_all[aS,if_pos]];simp[aa];rw[aw (xs:=s.1) m (by omega)];simp[aa];rw[ax (by grind),af (by omega),q,br (by omega) (by omega)];unfold Yp;grind) (by unfold jV;simp) (pa (by omega))
 have A:(nxN g a z).take l.length=nxN g a z:=by
  have:l.length=(nxN g a z).length:=by grind
  grind
 rw[A] at this;rw[e];exact this
theorem Yu:nX g a x=some (RKs g a (x*(a.2.1.length:Int)+a.1)):=by
 have s:=nN H.1 H.2.2 H.2.1;have hv:=abP H hx;have e:=H.2.2.pos;unfold nX;have k:i64.wrap ((g.1.length:Int)*(a.2.1.length:Int))=((a.2.1.length*g.1.length:Nat):Int):=by
  grind[Nat.mul_comm,FZ]
 have n:ah (jU g a) aU (([] :List Int),0)=some (.brk (List.replicate (a.2.1.length*g.1.length) (-1),((a.2.1.length*g.1.length:Nat):Int))):=by
  have:=aY (f:=jU g a) (fun i=>(List.replicate i (-1),(i:Int))) (a.2.1.length*g.1.length) (fun i c=>by
   unfold jU;rw[k,if_pos (by grind),ax (by grind),af (by omega)];simp[aa];rw[List.replicate_succ']) (by simp_all[jU,if_neg]) (pa (by omega))
  exact this
 rw[aj n,aaW H hx];generalize o:x*(a.2.1.length:Int)+a.1=v at hv;rw[show aS [v] 0=some v from rfl];simp[aa];rw[aw (xs:=List.replicate _ (-1:Int)) hv.1 (by grind)];have ⟨K,u,r,p⟩:=Yr hv (EE H)
 have:=aY (f:=jW g a) (fun i=>((bsS (nxN g a) (a.2.1.length*g.1.length) v i).1,(bsS (nxN g a) (a.2.1.length*g.1.length) v i).2,(i:Int))) K (fun i c=>by
  have b:=p i c;have ⟨z,d⟩: ∃z,(bsS (nxN g a) (a.2.1.length*g.1.length) v i).2[i]? =some z:=⟨_,List.getElem?_eq_getElem b⟩;have ⟨h,m⟩:=(ED hv (EE H) i).rng z (List.mem_of_getElem? d);have ⟨l,q,j,hp⟩:=Ud H h m;unfold jW;rw[show aS (bsS (nxN g a) (a.2.1.length*g.1.length) v i).2 (i:Int)=some z from by unfold aS;grind];simp only[aa];rw[CU (by omega),q];have t:=acJ H hx (o1:=(bsS (nxN g a) (a.2.1.length*g.1.length) v i).1) (o2:=(bsS (nxN g a) (a.2.1.length*g.1.length) v i).2) (by rw[o];exact d) j hp;grind[aj,af]) (by unfold jW;grind) (pa (by omega))
 have this:ah (jW g a) aU ((List.replicate (a.2.1.length*g.1.length) (-1)).set v.toNat 0,[v],0)=_:=this;rw[aj this]
 have:=LN hv (EE H) r (a.2.1.length*g.1.length - K)
 grind[RKs]
end
theorem Yv {l:List Int} {x:Int} (g:l.length<=1000000) (d:x∈l):bf x l=some (nbI l (some x)):=by
 unfold bf fQ;have ⟨o,e,j⟩:=b9 (f:=eV l x) (fun k s=>s=(k:Int)/\x∉l.take k) (fun o=>o= .ret (nbI l (some x))) l.length (s:=0) (by
  rintro k s i ⟨rfl,c⟩;unfold eV;by_cases a:k<l.length
  ·rw[if_pos (by grind),aw (by omega) (by omega)];simp only[aa];by_cases h:nth l (k:Int)=x
   ·grind[bH,List.drop_eq_getElem_cons,List.take_append_drop,Ip,aB,Nat.min_eq_left]
   ·refine .inl ⟨a,_,by rw[if_neg (by grind)],by grind[af],?_⟩;rw[take_one a,List.mem_append,List.mem_singleton];rintro (b | b)
    ·exact c b
    ·exact h b.symm
  grind) ⟨rfl,by simp⟩ (pa (by omega))
 grind[bD]
section
variable {a:AutT} {n:Nat}
def rep (c:List Int) (x:Int):Int:=nbI c (some x)
theorem QQ {c:List Int} {x:Int} (h:x∈c):0<=rep c x/\rep c x<c.length/\nth c (rep c x)=x:=by
 grind[q7,rep,bH]
def adR (a:AutT) (n:Nat) (r:AutT):Prop:=(nth (live a) a.1=false/\r=nothing)\/(nth (live a) a.1=true/\ ∃(j:Nat) (c:List Int) (nx:Int->List (Option Int)) (ac:Int->Bool) (N:Nat),c=cI a j/\(∀r,good n (live a) r->nx (nth c r)=zQ a c (live a) r)/\(∀r,good n (live a) r->ac (nth c r)=nth a.2.1 r)/\bfE nx (nth c a.1) N/\(∀x∈bfS nx (nth c a.1) N,(nx x).length=9)/\r=(0,(bfS nx (nth c a.1) N).map ac,bfR nx (nth c a.1) N))
theorem Nq (V:VA a n) (C:n<=1000000): ∃r,gY a=some r/\db a=some r/\Data.sm r/\VA r r.2.1.length/\r.2.1.length<=n/\adR a n r:=by
 have I:=V.len;have q:=V.start;have U:(live a).length=n:=by rw[xg,I]
 have ⟨c,es,ei,J,hfix,j,hj⟩:=No V C;have d: ∀s:Int,0<=s->s<n->(nth c s<0↔nth (live a) s=false):=fun s w X=>by
  have:=(Ez a (s:=s.toNat) (by omega) j).1
  grind
 have M: ∀s:Int,0<=s->s<n->nth c s<n:=fun s w X=>by
  have:=Yd (c:=c) (a:=a) (s:=s.toNat) (by omega)
  grind
 have u: ∀r,good n (live a) r->0<=nth c r:=fun r b=>by
  have:=d r b.1 b.2.1
  by_cases k:nth c r<0
  ·have:=this.1 k;rw[b.2.2] at this;grind
  ·omega
 have L: ∀r t:Int,0<=r->r<n->0<=t->t<n->0<=nth c r->nth c r=nth c t->GL a c r=GL a c t:=fun r t r0 r1 t0 t1 w h=>by
  have:=Qx (a:=a) (c:=c) (s:=r.toNat) (t:=t.toNat) (by omega) (by omega) (by grind) (by grind)
  grind
 have E: ∀r t:Int,0<=r->r<n->0<=t->t<n->0<=nth c r->nth c r=nth c t->nth a.2.1 r=nth a.2.1 t:=fun r t r0 r1 t0 t1 w h=>by
  have:=VF a (s:=r.toNat) (t:=t.toNat) (by omega) (by omega) j (by rw[<-hj,show ((r.toNat:Nat):Int)=r from by omega];exact w) (by rw[<-hj,show ((r.toNat:Nat):Int)=r from by omega,show ((t.toNat:Nat):Int)=t from by omega];exact h)
  rwa [show ((r.toNat:Nat):Int)=r from by omega,show ((t.toNat:Nat):Int)=t from by omega] at this
 have g: ∀r,good n (live a) r->zQ a c (live a) r=(List.range 9).map fun k=>if 0<=ent a c r k then some (ent a c r k) else none:=fun r b=>by
  refine List.map_congr_left fun k m=>?_;have m:=List.mem_range.1 m;have z:=V.mv b.1 b.2.1 m;unfold ent;by_cases h:mv a r k<0
  ·rw[if_pos h,if_neg (fun S=>by omega),if_neg (by omega)]
  ·rw[if_neg h]
   have:=d (mv a r k) (by omega) z.2
   cases W:nth (live a) (mv a r k) with
   | false =>
    grind
   | true =>
    grind
 have O: ∀r t:Int,GL a c r=GL a c t-> ∀k,k<9->ent a c r k=ent a c t k:=fun r t h k m=>by
  have h:(List.range 9).map (fun k=>ent a c r k)=(List.range 9).map (fun k=>ent a c t k):=by unfold GL at h;injection h
  simp_all
 let T:=fun x=>zQ a c (live a) (rep c x);let acc:=fun x=>nth a.2.1 (rep c x);let G:=fun x=> ∃r,good n (live a) r/\nth c r=x;have B: ∀x,G x->x∈c/\0<=x/\good n (live a) (rep c x):=by
  rintro x ⟨r,b,rfl⟩;have z:=cw b.1 (by rw[J];exact b.2.1);have ⟨w,X,P⟩:=QQ z;have hp:=u r b;refine ⟨z,hp,w,by omega,?_⟩
  have:=d (rep c (nth c r)) w (by omega)
  rw[P] at this;cases W:nth (live a) (rep c (nth c r)) with
  | true=>rfl
  | false=>grind
 have F: ∀r,good n (live a) r->T (nth c r)=zQ a c (live a) r:=fun r b=>by
  have ⟨z,hp,p⟩:=B _ ⟨r,b,rfl⟩;have ⟨w,X,P⟩:=QQ z;show zQ a c (live a) (rep c (nth c r))=_;rw[g _ p,g _ b];refine List.map_congr_left fun k m=>?_;rw[O _ _ (L _ _ p.1 p.2.1 b.1 b.2.1 (by omega) P) k (List.mem_range.1 m)]
 have Q: ∀r,good n (live a) r->acc (nth c r)=nth a.2.1 r:=fun r b=>by
  have ⟨z,hp,p⟩:=B _ ⟨r,b,rfl⟩;have ⟨w,X,P⟩:=QQ z;exact E _ _ p.1 p.2.1 b.1 b.2.1 (by omega) P
 have Z: ∀r,good n (live a) r-> ∀y,some y∈zQ a c (live a) r->G y:=fun r b y h=>by
  have ⟨k,m,e⟩:=List.mem_map.1 h;have m:k<9:=List.mem_range.1 m;split at e
  ·rename_i hc;exact ⟨mv a r k,⟨hc.1,(V.mv b.1 b.2.1 m).2,hc.2⟩,ae e⟩
  grind
 unfold gY db;simp only[fM];rw[es,ei,Vy V C];simp only[aa];rw[aw q.1 (by omega)];simp only[aa];cases D:nth (live a) a.1 with
 | false =>
  have:=(d a.1 q.1 q.2).2 D
  rw[JU V U D,if_pos (by grind),Qq];exact ⟨nothing,rfl,rfl,Nm,Np,V.pos,.inl ⟨D,rfl⟩⟩
 | true =>
  have A:good n (live a) a.1:=⟨q.1,q.2,D⟩;have hp:=u _ A;have H:NumOk T (nth c a.1) G n:=⟨⟨a.1,A,rfl⟩,fun x f y hy=>Z _ (B x f).2.2 y hy,fun x f=>by simp[T,zQ],fun l hd h=>Nl n l hd fun x f=>by
   obtain ⟨r,b,rfl⟩:=h x f;exact ⟨u r b,M r b.1 b.2.1⟩⟩
  have ⟨N,K,e1⟩:=aav (acc:=acc) V C J U D H C F Q;have i: ∀x,G x->bf x c=some (rep c x):=fun x f=>Yv (by omega) (B x f).1;have ⟨N',Y,e2⟩:=aau (most:=(c.length:Int)) (p2:=fun o=>dw o (a.1,a.2.1,a.2.2) (fun o=>bf o c)) (p3:=fun o a1=>dx o a1 (a.1,a.2.1,a.2.2) (fun o=>bf o c) c) (acc:=acc) H C (by omega) (fun x f=>aaC C (B x f).2.1 (by
    obtain ⟨r,b,rfl⟩:=f;exact M r b.1 b.2.1)) (fun x f=>by
   show dw x (a.1,a.2.1,a.2.2) (fun o=>bf o c)=_;unfold dw;simp only;rw[i x f];simp only[aa];rw[V.acc (B x f).2.2.1 (B x f).2.2.2.1];rfl) (fun x k f m=>by
   have ⟨z,hx0,p⟩:=B x f;have hm':=V.mv p.1 p.2.1 m;refine ⟨0,?_⟩;show dx x k (a.1,a.2.1,a.2.2) (fun o=>bf o c) c=_;unfold dx;simp only;rw[i x f];simp[aa];rw[show gl (a.1,a.2.1,a.2.2) (rep c x) k=some (mv a (rep c x) k) from aan V p.1 p.2.1 m];simp[aa];show _=some (match nth (zQ a c (live a) (rep c x)) (k:Int) with | some y=>(y,true) | none=>(0,false));rw[LA m];by_cases h:mv a (rep c x) k<0
   ·rw[if_pos (by simpa using h),if_neg (fun S=>by omega)]
   ·rw[if_neg (by simpa using h),aw (by omega) (by omega)];simp[aa];have R:=d (mv a (rep c x) k) (by omega) hm'.2;cases W:nth (live a) (mv a (rep c x) k) with
    | false =>
     have:=R.2 W
     rw[if_pos (by simpa using this),if_neg (fun S=>by cases S.2)]
    | true =>
     have: ¬nth c (mv a (rep c x) k)<0:=fun S=>by have:=R.1 S;rw[W] at this;cases this
     rw[if_neg (by simpa using this),if_pos ⟨by omega,rfl⟩])
  cases TN K Y;have v:=aaK (acc:=acc) H K;refine ⟨_,by rw[e1];rfl,?_,aaD H C K,v.self,?_,.inr ⟨D,j,c,T,acc,N,hj,F,Q,K,fun x _=>by simp[T,zQ],rfl⟩⟩
  rotate_left
  ·rw[v.len,K.1];exact H.bound _ (p8 N) (mO H.g0 H.gn N)
  simp_all
theorem Nr (V:VA a n) (b:n<=1000000): ∃r,gY a=some r/\db a=some r/\Data.sm r/\VA r r.2.1.length/\r.2.1.length<=n:=by
 grind[Nq]
theorem Ue (V:VA a n) (b:n<=1000000): ∃r,gY a=some r/\db a=some r/\Data.sm r:=by
 grind[Nr]
end
theorem yK:Data.sm ((0,[],[]):AutT):=⟨trivial,⟨by decide,fun _ h=>by cases h⟩,by decide,fun _ h=>by cases h⟩
theorem Iv {e:List Tok} (m:e.length<=1048576): ∃r:AutT×Bool,m_s_CompileExpr e=some r/\j3 e=some r/\Data.sm r.1:=by
 obtain ⟨⟨p,b⟩,l,q,a,h⟩:=xh m;have a:p.2.2.2.1.length=p.1.length:=a;have h:p.1.length<=100000:=h;unfold m_s_CompileExpr j3;rw[l,q];simp only[aa,fM];cases b with
 | false=>exact ⟨((0,[],[]),false),rfl,rfl,yK⟩
 | true =>
  have f:=aaA (p:=p) (most:=200) a (by omega) (by omega) (by omega);have g:=acz (p:=p) (most:=200) a (by omega) (by omega) (by omega);have f:fj p 200=_:=f;have g:jX p 200=_:=g;rw[f,g];simp only[if_true,aa];rcases JY (nx:=nxS p) (first:=1) (acc:=uN p) (most:=200) (200+2) 0 (fun j t=>by omega) (by simp[bfS]) with e | ⟨N,k,i,e⟩
  ·rw[e];exact ⟨((0,[],[]),false),rfl,rfl,yK⟩
  ·rw[e];simp only[if_true];have V:=QC (acc:=uN p) (CO p) k;obtain ⟨r,s,n,o⟩:=Ue V (by omega);unfold B3;rw[s];simp only[aa,fM];rw[n];simp only[aa,fM];by_cases c:(r.2.1.length:Int)>12
   ·have d:decide ((r.2.1.length:Int)>12)=true:=decide_eq_true c;simp only[d,if_true,aa];exact ⟨((0,[],[]),false),rfl,rfl,yK⟩
   ·have d:decide ((r.2.1.length:Int)>12)=false:=decide_eq_false c;simp only[d,Bool.false_eq_true,if_false,aa];exact ⟨(r,true),rfl,rfl,o⟩
theorem CW {e:List Tok} (a:e.length<=1048576): ∃r:AutT×Bool,m_s_CompileExpr e=some r/\j3 e=some r/\Data.sm r.1:=Iv a
end D
open Go.ChangeShapes Go.WideShapes Go.ChangeAt Go.RowKit
theorem own:ownKnob Tryz.prog.godebug=none:=by kernel_rfl
theorem laidOut:laidOutB Tryz.prog=true:=by kernel_rfl
theorem yL {H:Type} {enc:TypeId×Value->H} {P:Program} (f:laidOutB P=true) {W c:World} (e:Below W.heap.size W c) :
  ∀ {ts:List TypeId} {vs:List Value} {ds:List (DataW H)} {ps:List MemPlace},(∀t∈ts,P.readableRec t=true/\t<P.types.size)->
   DataW.TrodAll enc P W 0 (fun _=>true) true ts vs ds ps->(∀x∈ps,x.block<W.heap.size)->DataW.TrodAll enc P c 0 (fun b=>decide (b<W.heap.size)) true ts vs ds ps
 | [],[],[],ps,_,h,_=>h
 | t::ts,v::vs,d::ds,ps,hr,⟨p,q,h1,h2,h3⟩,hlt=>by
  subst h3;exact ⟨p,q,Below.trod f (hr t (by simp)).1 (hr t (by simp)).2 h1 e fun x a=>hlt x (by simp[a]),yL f e (fun t g=>hr t (by simp[g])) h2 fun x a=>hlt x (by simp[a]),rfl⟩
 | [],_::_,_,_,_,h,_=>h.elim
 | [],[],_::_,_,_,h,_=>h.elim
 | _::_,[],_,_,_,h,_=>h.elim
 | _::_,_::_,[],_,_,h,_=>h.elim
theorem Uf {H:Type} {enc:TypeId×Value->H} {f:Func} {s:ChangeSpec} {W l:World} {args:Array Value} {ds:List (DataW H)} {before:List MemPlace} (j:TypeId)
  (o:Tryz.prog.underlying j=some .bool) (u:f.resultTypes= #[j]) (hp:(f.params.toList.all fun t=>Tryz.prog.readableRec t&&decide (t<Tryz.prog.types.size))=true) (hv:s.vars= [])
  (v:DataW.Whole enc Tryz.prog f.params.toList s.vars false W args.toList ds [] before) (d:(s.fn H (ds++ [])).results= [.lit (.bool true)]) (c:(s.fn H (ds++ [])).args=ds) (b:(s.fn H (ds++ [])).vars= [])
  (a:Below W.heap.size W l):s.post enc Tryz.prog f false true false false W args (.bool true) l:=by
 obtain ⟨p,q,k,g,i,y,m⟩:=v;have e:DataW.Whole enc Tryz.prog f.params.toList s.vars false W args.toList ds [] before:=⟨p,q,k,g,i,y,m⟩;have r:q= []:=by rw[hv] at g;exact g
 subst r;simp only[List.append_nil] at i;subst i;refine ⟨ds,[],before,[],before,[],e,?_,?_,?_,a.frame _,fun h=>by cases h⟩
 ·rw[d,u];exact trodAll_mk1 (shut_bool o true)
 ·rw[c];exact yL laidOut a (fun t n=>by have:=List.all_eq_true.1 hp t n;simpa using this) k fun x w=>by simpa using e.lt x w
 ·rw[b,hv];rfl
namespace D
open Go.RowKit
theorem xj (x y:AutT) (n:Data.sm x):gZ x y=some (decide (x=y)):=by
 obtain ⟨-,⟨p,-⟩,o,m⟩:=n;unfold gZ;by_cases b:x.1=y.1
 case neg=>rw[if_pos (by simpa using b)];simp[Prod.ext_iff,b]
 rw[if_neg (by simpa using b)];by_cases k:x.2.1.length=y.2.1.length
 case neg=>rw[if_pos (by simp;omega)];simp[Prod.ext_iff];exact fun _ e=>absurd (by rw[e]) k
 rw[if_neg (by simp;omega)];by_cases l:x.2.2.length=y.2.2.length
 case neg=>rw[if_pos (by simp;omega)];simp[Prod.ext_iff];exact fun _ _ e=>absurd (by rw[e]) l
 rw[if_neg (by simp;omega)];rw[eqB (f:=gN x y) x.2.1 y.2.1 (by omega) k (fun i h j=>by
  simp only[gN,bL h,if_true,aM h,aM j,aa,af (show i<9223372036854775807 by omega)];by_cases c:x.2.1[i] =y.2.1[i] <;> simp[c]) (by simp only[gN,bG];rfl)]
 by_cases g:x.2.1=y.2.1
 case neg=>rw[if_neg g];simp[Prod.ext_iff,g]
 rw[if_pos g];rw[eqB (f:=gO x y) x.2.2 y.2.2 (by omega) l (fun i h j=>by
  obtain ⟨r,e,a⟩:=xi x.2.2[i] y.2.2[i] ((m _ (List.getElem_mem h)).1);simp only[gO,bL h,if_true,aM h,aM j,aa,af (show i<9223372036854775807 by omega),e];by_cases c:x.2.2[i] =y.2.2[i]
  ·rw[if_neg (by simpa using a.2 c),if_pos c]
  ·rw[if_pos (by simpa using fun e=>c (a.1 e)),if_neg c]) (by simp only[gO,bG];rfl)]
 by_cases d:x.2.2=y.2.2
 ·rw[if_pos d];simp[Prod.ext_iff,b,g,d]
 ·rw[if_neg d];simp[Prod.ext_iff,d]
theorem Ug (xs ys:List Bool) (b:xs.length<=9223372036854775807):fc xs ys=some (decide (xs=ys)):=
 eqL (f:=cP xs ys) xs ys b (fun i h a=>by
  simp only[cP,bL h,if_true,aM h,aM a,aa,af (show i<9223372036854775807 by omega)];by_cases c:xs[i] =ys[i] <;> simp[c]) (by simp only[cP,bG];rfl)
theorem CX (x y:AutT) (k:Data.sm x):fo x y=some (decide (x=y)):=by
 obtain ⟨-,⟨m,-⟩,n,e⟩:=k;unfold fo;by_cases a:x.1=y.1
 case neg=>rw[if_neg (by simpa using a)];simp[Prod.ext_iff,a]
 rw[if_pos (by simpa using a),Ug _ _ (by omega)];simp only[aa];by_cases b:x.2.1=y.2.1
 case neg=>rw[if_neg (by simpa using b)];simp[Prod.ext_iff,b]
 rw[if_pos (by simpa using b)]
 have:bX x.2.2 y.2.2 (fun d j=>iM d j)=some (decide (x.2.2=y.2.2)):=
  eqL (f:=bd x.2.2 y.2.2 _) x.2.2 y.2.2 (by omega) (fun i h g=>by
   simp only[bd,bL h,if_true,aM h,aM g,aa,af (show i<9223372036854775807 by omega),iM];rw[yG _ _ (by have:x.2.2[i].length<=1048576:=(e _ (List.getElem_mem h)).1;omega)];simp only[aa];by_cases c:x.2.2[i] =y.2.2[i] <;> simp[c]) (by simp only[bd,bG];rfl)
 rw[this];by_cases l:x.2.2=y.2.2 <;> simp[Prod.ext_iff,a,b,l]
abbrev QT:=Int×List Tok×Int
abbrev sL:=List AutT×List QT
theorem Uh (x y:List Tok) (b:x.length<=1048576):qT x y=some (decide (x=y)):=by
 exact eqL (f:=kA x y) x y (by omega) (fun i h a=>by
  simp[kA,bL h,if_true,aM h,aM a,aa,fM,af (show i<9223372036854775807 by omega)];grind) (by simp_all[kA,bG])
theorem QR (x y:List Tok) (b:x.length<=1048576):eH x y=some (decide (x=y)):=by
 exact eqL (f:=cE x y) x y (by omega) (fun i h a=>by
  simp[cE,bL h,if_true,aM h,aM a,aa,fM,af (show i<9223372036854775807 by omega)];grind) (by simp_all[cE,bG])
theorem Ui (x y:List Tok) (a:x.length<=1048576):nJ x y=some (decide (x=y)):=by
 grind[nJ,QR]
theorem yM (x y:sL) (j:Data.sm x):iI x y=some (decide (x=y)):=by
 have ⟨⟨k,g⟩,l,d⟩:=j;unfold iI;by_cases c:x.1.length=y.1.length
 ·by_cases b:x.2.length=y.2.length
  ·rw[eqB (f:=fJ x y) x.1 y.1 (by omega) c (fun i h a=>by
    simp[fJ,bL h,if_true,aM h,aM a,aa,fM,xj x.1[i] y.1[i] (g _ (List.getElem_mem h)),af (show i<9223372036854775807 by omega)];grind) (by simp only[fJ,bG];rfl)]
   rw[eqB (f:=fK x y) x.2 y.2 (by omega) b (fun i h a=>by
    have e:=Uh x.2[i].2.1 y.2[i].2.1 (d _ (List.getElem_mem h)).2.1.1;simp[fK,bL h,if_true,aM h,aM a,aa,e,af (show i<9223372036854775807 by omega)];grind) (by simp only[fK,bG];rfl)]
   grind[Prod.ext_iff]
  ·have:x.2≠y.2:=fun e=>b (by rw[e])
   rw[if_neg (by grind),if_pos (by grind)];simp[Prod.ext_iff,this]
 ·have:x.1≠y.1:=fun e=>c (by rw[e])
  rw[if_pos (by grind)];simp[Prod.ext_iff,this]
theorem Ns (x y:QT) (c:Data.sm x):iW x y=some (decide (x=y)):=by
 unfold iW;rw[Ui x.2.1 y.2.1 c.2.1.1];by_cases b:x.1=y.1 <;> by_cases a:x.2.1=y.2.1 <;> by_cases d:x.2.2=y.2.2 <;> simp[Prod.ext_iff,b,a,d]
theorem yN (x y:sL) (m:Data.sm x):fx x y=some (decide (x=y)):=by
 have ⟨⟨n,l⟩,o,g⟩:=m;unfold fx;have e:ba x.1 y.1 (fun a c=>fo a c)=some (decide (x.1=y.1)):=
  eqL (f:=aT x.1 y.1 _) x.1 y.1 (by omega) (fun i h b=>by
   simp[aT,bL h,if_true,aM h,aM b,aa,fM,af (show i<9223372036854775807 by omega),CX x.1[i] y.1[i] (l _ (List.getElem_mem h))];grind) (by simp only[aT,bG];rfl)
 have j:a7 x.2 y.2 (fun a c=>iW a c)=some (decide (x.2=y.2)):=
  eqL (f:=aQ x.2 y.2 _) x.2 y.2 (by omega) (fun i h b=>by
   simp[aQ,bL h,if_true,aM h,aM b,aa,fM,af (show i<9223372036854775807 by omega),Ns x.2[i] y.2[i] (g _ (List.getElem_mem h))];grind) (by simp only[aQ,bG];rfl)
 rw[e,j];by_cases k:x.1=y.1 <;> by_cases d:x.2=y.2 <;> simp[Prod.ext_iff,k,d]
theorem rQ {R S:Type} {f g:S->Option (Out R S)} (Inv:Nat->S->Prop) (h: ∀i s,Inv i s->g s=f s/\ ∀a,f s=some (.nxt a)->Inv (i+1) a): ∀(k i:Nat) (s:S),Inv i s->ah g k s=ah f k s
 | 0,_,_,_=>rfl
 | k+1,i,s,hI=>by
  have ⟨c,b⟩:=h i s hI;rw[ah,ah,c];cases e:f s with
  | none=>rfl
  | some o =>
   cases o with
   | nxt a=>exact rQ Inv h k (i+1) a (b a e)
   | brk a=>rfl
   | ret r=>rfl
theorem LO {f g:Int->Option (Out Int Int)} (N:Nat) (k:N<=1048576) (h: ∀i:Nat,i<N->f (i:Int)=some (.ret (i:Int))\/f (i:Int)=some (.nxt ((i+1:Nat):Int))) (j:f (N:Int)=some (.brk (N:Int))) (c: ∀i:Nat,i<=N->g (i:Int)=f (i:Int)) :
  ∃r:Int,aO (ah f aU 0) (fun r=>some r) (fun _=>some (-1))=some r/\aO (ah g aU 0) (fun r=>some r) (fun _=>some (-1))=some r/\(r= -1\/ ∃i:Nat,i<N/\r=(i:Int)):=by
 have b:ah g aU 0=ah f aU 0:=rQ (fun i s=>s=(i:Int)/\i<=N) (fun i s ⟨e,a⟩=>by
  grind) aU 0 0 ⟨rfl,Nat.zero_le _⟩
 rw[b];have ⟨o,e,d⟩:=b9 (f:=f) (fun i s=>s=(i:Int)) (fun o=>o= .brk (N:Int)\/ ∃i:Nat,i<N/\o= .ret (i:Int)) N (fun i s a b=>by
  grind) (s:=0) rfl (dq _ (by omega))
 rw[e];rcases d with rfl | ⟨i,a,rfl⟩
 ·exact ⟨-1,rfl,rfl,.inl rfl⟩
 ·exact ⟨i,rfl,rfl,.inr ⟨i,a,rfl⟩⟩
theorem Nt (l:List AutT) (a:AutT) (d:l.length<=1048576) (hs: ∀x∈l,Data.sm x) (c:Data.sm a): ∃r:Int,ga l a=some r/\bJ l (fun b=>n8 b a)=some r/\(r= -1\/ ∃i:Nat,i<l.length/\r=(i:Int)):=by
 have f: ∀i (h:i<l.length),eG l a (i:Int)=if l[i] =a then some (.ret (i:Int)) else some (.nxt ((i+1:Nat):Int)):=fun i h=>by
  simp[eG,bL h,if_true,aM h,aa,fM,xj l[i] a (hs _ (List.getElem_mem h)),af (show i<9223372036854775807 by omega)];grind
 refine LO l.length d (fun i h=>?_) (by simp only[eG,bG];rfl) (fun i e=>?_)
 ·grind
 ·by_cases h:i<l.length
  ·simp[cd,n8,bL h,if_true,aM h,aa,fM,CX a l[i] c,af (show i<9223372036854775807 by omega)];grind
  ·obtain rfl:i=l.length:=by omega
   simp_all[eG,cd,bG]
def J8 (n i:Nat) (s:Int×List AutT×List QT):Prop:=s.1=(i:Int)/\i<=n/\s.2.2.length=i/\s.2.1.length<=i/\(∀a∈s.2.1,Data.sm a)/\ ∀q∈s.2.2,Data.sm q/\0<=q.2.2/\q.2.2<(s.2.1.length:Int)
theorem LP {b:List QT} (D:Data.sm b) {i:Nat} {s:Int×List AutT×List QT} (v:J8 b.length i s):mz b s=bz b s /\
  ((i<b.length/\ ∃s',bz b s=some (.nxt s')/\J8 b.length (i+1) s')\/ ∃o,bz b s=some o/\(∀s',o≠ .nxt s')/\(o= .ret (([],[]),false)\/o= .brk s/\i=b.length)):=by
 have ⟨M,x⟩:=aR D;have ⟨R,A,Q⟩:=s;have ⟨m,O,C,J,h,u⟩:=v;simp only at m C J h u;subst m;by_cases g:i<b.length
 ·have d:=x _ (List.getElem_mem g);have ⟨r,G,z,E⟩:=CW (e:=b[i].2.1) d.2.1.1;have ⟨k,F,K,H⟩:=Nt A r.1 (by omega) h E;have p:bw 56 A [r.1] =some (A++ [r.1]):=ax (by grind);have t: ∀y,bw 40 Q [y] =some (Q++ [y]):=fun y=>ax (by grind);have I:fR b[i].2.1=some b[i].2.1:=by unfold fR;rw[ax (by have:=d.2.1.1;grind)];rfl
  have n:iD b[i].2.1=some b[i].2.1:=by unfold iD;rw[ax (by have:=d.2.1.1;grind)];rfl
  unfold mz bz;simp[bL g,if_true,aM g,aa,G,z,AP,JP,fM,F,K,p,t,I,n,af (show i<9223372036854775807 by omega)];by_cases N:r.2=true
  case neg =>
   simp_all
  by_cases L:1<=b[i].1/\b[i].1<=99
  case neg =>
   grind
  have fin: ∃s':Int×List AutT×List QT,(∀(y:Option (Out (sL×Bool) (Int×List AutT×List QT))),True)/\(Option.bind (if decide (k<0) then some ((A.length:Int),A++ [r.1],Q) else some (k,A,Q)) fun f:Int×List AutT×List QT=>(bw 40 f.2.2 [(b[i].1,b[i].2.1,f.1)]).bind fun l=>some (.nxt (((i+1:Nat):Int),f.2.1,l)):Option (Out (sL×Bool) (Int×List AutT×List QT)))=some (.nxt s')/\J8 b.length (i+1) s':=by
   rcases H with rfl | ⟨j,P,rfl⟩
   ·refine ⟨(((i+1:Nat):Int),A++ [r.1],Q++ [(b[i].1,b[i].2.1,(A.length:Int))]),fun _=>trivial,?_,rfl,g,by grind,by grind,fun a S=>?_,fun q c=>?_⟩
    ·grind
    ·grind
    ·simp[List.mem_append,List.mem_singleton] at c;rcases c with c | rfl
     ·grind
     ·exact ⟨⟨trivial,d.2.1,trivial⟩,by simp,by grind⟩
   ·refine ⟨(((i+1:Nat):Int),A,Q++ [(b[i].1,b[i].2.1,(j:Int))]),fun _=>trivial,?_,rfl,g,by grind,by grind,h,fun q c=>?_⟩
    ·grind
    ·simp[List.mem_append,List.mem_singleton] at c;rcases c with c | rfl
     ·grind
     ·exact ⟨⟨trivial,d.2.1,trivial⟩,by simp,by grind⟩
  by_cases w:(i:Int)>0
  ·have hp:i - 1<b.length:=by omega
   have B:i64.wrap ((i:Int) - 1)=((i - 1:Nat):Int):=by rw[fG (by omega)];omega
   simp[w,decide_true,if_true,B,aM hp,aa];grind
  grind
 ·obtain rfl:i=b.length:=by omega
  simp_all[mz,bz,bG,Bool.false_eq_true,if_false,trivial]
def RegOk (r:sL):Prop:=Data.sm r/\ ∀q∈r.2,0<=q.2.2/\q.2.2<(r.1.length:Int)
theorem Be {a:List QT} (g:Data.sm a): ∃r:sL,∃b:Bool,cH a=(if (a.length:Int)>4 then some (([],[]),false) else some (r,b))/\vo a=some (r,b&&decide ((a.length:Int)<=4))/\RegOk r:=by
 have u:=(aR g).1;have k:J8 a.length 0 (0,[],[]):=⟨rfl,Nat.zero_le _,rfl,aH _,fun _ h=>(by cases h),fun _ h=>(by cases h)⟩;have n:ah (mz a) aU (0,[],[])=ah (bz a) aU (0,[],[]):=rQ (J8 a.length) (fun i s c=>by
  have ⟨e,h⟩:=LP g c;grind) aU 0 _ k
 have ⟨o,e,m⟩:=b9 (f:=bz a) (J8 a.length) (fun o=>o= .ret (([],[]),false)\/ ∃A Q,o= .brk ((a.length:Int),A,Q)/\J8 a.length a.length ((a.length:Int),A,Q)) a.length (fun i s v c=>by
  rcases (LP g c).2 with h | ⟨o,e,l,h⟩
  ·grind
  ·rcases h with h | ⟨h,rfl⟩
   ·grind
   ·have ⟨w,A,Q⟩:=s;obtain ⟨rfl,-⟩:=id c;grind) k (dq _ (by omega))
 unfold cH vo;rw[n,e];rcases m with rfl | ⟨A,Q,rfl,-,-,p,t,j,d⟩
 ·refine ⟨([],[]),false,?_,rfl,⟨⟨Nat.zero_le _,fun _ h=>(by cases h)⟩,Nat.zero_le _,fun _ h=>(by cases h)⟩,fun _ h=>(by cases h)⟩;grind[aO]
 ·simp only at p t j d;refine ⟨(A,Q),true,?_,by rfl,⟨⟨show A.length<=1048576 by omega,j⟩,show Q.length<=1048576 by omega,fun q h=>(d q h).1⟩,fun q h=>(d q h).2⟩;grind[aO]
theorem rR {r:sL} (d:Data.sm r): ∃b,m_s_IsValidRegistry r=some b/\dZ r=some b/\(b=true->RegOk r):=by
 have ⟨x,b,h,f,a⟩:=Be d.2;unfold m_s_IsValidRegistry dZ;rw[h,f];by_cases c:(r.2.length:Int)>4
 ·exact ⟨false,by simp[c],by grind,fun e=>by cases e⟩
 ·have g:(r.2.length:Int)<=4:=by omega
  cases b with
  | false=>exact ⟨false,by simp[c],by simp,fun e=>by cases e⟩
  | true =>
   simp[c,if_false,aa,if_true,g,decide_true,Bool.and_true,fM,yM x r a.1,yN x r a.1];grind
abbrev q8:=Int×(List GrT)
abbrev CY:=Int×Int×Int
abbrev abQ:=Int×Bool×(tC×tC)
theorem mS (g:GrT) (a:Data.sm g):cn g=some g:=by
 have b:=(aR a.1).1;have c:=(aR a.2).1;unfold cn;rw[ax (by simp;omega)];simp only[aa,List.nil_append];rw[ax (by simp;omega)];rfl
theorem CZ (g:GrT) (a:Data.sm g):ff g=some g:=by
 have b:=(aR a.1).1;have c:=(aR a.2).1;unfold ff n9;rw[ax (by simp;omega)];simp only[aa,List.nil_append];rw[ax (by simp;omega)];rfl
theorem vD {g:GrT} (a:Data.sm g): ∃b,bR g=some b:=by
 obtain ⟨b,e,_⟩:=T9 g (aR a.1).1 (aR a.2).1;exact ⟨b,e⟩
def okG (h:q8) (g:GrT):Prop:=bR g=some true/\g.1=(nth h.2 0).1
instance (h g):Decidable (okG h g):=by unfold okG;infer_instance
theorem kh (h:q8) (y:Data.sm h): ∃b,m_s_IsValidHistory h=some b/\m_i_IsValidHistory h=some b/\(b=true->(1<=h.2.length/\h.2.length<=8)/\1<=h.1/\h.1<=1000 - (h.2.length:Int)):=by
 obtain ⟨A,u⟩:=aR y.2;have x:i64.wrap ((i64.wrap (999 - (h.2.length:Int)))+1)=1000 - (h.2.length:Int):=by
  rw[br (n:=999 - (h.2.length:Int)) (by omega) (by omega),br (by omega) (by omega)];omega
 have t:=scan (f:=bC h) h.2 (okG h) false (by omega) (fun i w=>by
  have j:=u _ (cw (xs:=h.2) (i:=(i:Int)) (by omega) (by omega));obtain ⟨b,e⟩:=vD j;obtain ⟨r,s,v⟩:=xi (nth h.2 (i:Int)).1 (nth h.2 0).1 (aR j.1).1;have q:bI ((nth h.2 (i:Int)).1,(nth h.2 (i:Int)).2)=some b:=by rw[kg];exact e
  have g:okG h (nth h.2 (i:Int))↔b=true/\(nth h.2 (i:Int)).1=(nth h.2 0).1:=by unfold okG;rw[e];simp
  unfold bC;rw[if_pos (by simp;omega),aw (by omega) (by omega)];simp only[aa];rw[q,aw (xs:=h.2) (i:=0) (by omega) (by omega)];simp only[aa];rw[s,af (by omega)];simp only[aa];cases b with
  | false=>rw[if_neg (by decide),if_neg (fun c=>by cases (g.1 c).1)]
  | true =>
   rw[if_pos rfl];by_cases c:r=0
   ·rw[if_neg (by simp[c]),if_pos (g.2 ⟨rfl,v.1 c⟩)]
   ·rw[if_pos (by simpa using c),if_neg (fun k=>c (v.2 (g.1 k).2))]) (by unfold bC;simp)
 have z:=scan (f:=gj h) h.2 (okG h) false (by omega) (fun i w=>by
  have j:=u _ (cw (xs:=h.2) (i:=(i:Int)) (by omega) (by omega));obtain ⟨b,e⟩:=vD j;have s:=yG (nth h.2 (i:Int)).1 (nth h.2 0).1 (by have:=(aR j.1).1;omega);have q:bR ((nth h.2 (i:Int)).1,(nth h.2 (i:Int)).2)=some b:=e;have g:okG h (nth h.2 (i:Int))↔b=true/\(nth h.2 (i:Int)).1=(nth h.2 0).1:=by unfold okG;rw[e];simp
  unfold gj;rw[if_pos (by simp;omega),aw (by omega) (by omega)];simp only[aa];rw[q,aw (xs:=h.2) (i:=0) (by omega) (by omega)];simp only[aa];rw[s,af (by omega)];simp only[aa];cases b with
  | false=>rw[if_neg (by decide),if_neg (fun c=>by cases (g.1 c).1)]
  | true =>
   rw[if_pos rfl];by_cases c:(nth h.2 (i:Int)).1=(nth h.2 0).1
   ·rw[if_pos (decide_eq_true c),if_pos (g.2 ⟨rfl,c⟩)]
   ·rw[if_neg (by simpa using c),if_neg (fun k=>c (g.1 k).2)]) (by unfold gj;simp)
 unfold m_s_IsValidHistory m_i_IsValidHistory;rw[AP,AP,JP,JP,x];simp only[aa];by_cases o:(1:Int)<=(h.2.length:Int)/\(h.2.length:Int)<=8
 ·by_cases l:1<=h.1/\h.1<=1000 - (h.2.length:Int)
  ·rw[decide_eq_true o,decide_eq_true l];simp only[if_true];rcases t with ⟨a,d⟩ | ⟨a,d⟩ <;> rcases z with ⟨p,m⟩ | ⟨p,m⟩
   ·rw[aj a,aj p];exact ⟨true,rfl,rfl,fun _=>⟨by omega,l⟩⟩
   ·exact absurd d m
   ·exact absurd m d
   ·rw[bD a,bD p];exact ⟨false,rfl,rfl,fun c=>by cases c⟩
  ·rw[decide_eq_true o,decide_eq_false l];simp only[if_true,Bool.false_eq_true,if_false];rcases t with ⟨a,d⟩ | ⟨a,d⟩
   ·rw[aj a];exact ⟨false,rfl,rfl,fun c=>by cases c⟩
   ·rw[bD a];exact ⟨false,rfl,rfl,fun c=>by cases c⟩
 ·rw[decide_eq_false o];simp only[Bool.false_eq_true,if_false];rcases t with ⟨a,d⟩ | ⟨a,d⟩
  ·rw[aj a];exact ⟨false,rfl,rfl,fun c=>by cases c⟩
  ·rw[bD a];exact ⟨false,rfl,rfl,fun c=>by cases c⟩
def latV (h:q8):Int:=h.1+(h.2.length:Int) - 1
theorem kj {h:q8} (hs:m_s_IsValidHistory h=some true) (hi:m_i_IsValidHistory h=some true) (k:(1<=h.2.length/\h.2.length<=8)/\1<=h.1/\h.1<=1000 - (h.2.length:Int)):aF h=some (latV h)/\bS h=some (latV h):=by
 unfold aF bS latV;have hs:m_s_IsValidHistory (h.1,h.2)=_:=hs;have hi:m_i_IsValidHistory (h.1,h.2)=_:=hi;rw[hs,hi];simp only[aa,if_true];rw[br (n:=h.1+(h.2.length:Int)) (by omega) (by omega),br (by omega) (by omega)];exact ⟨rfl,rfl⟩
end D
namespace D
abbrev Pr:=Int×Int
def ltP (a b:Pr):Prop:=a.1<b.1\/a.1=b.1/\a.2<b.2
instance (a b:Pr):Decidable (ltP a b):=inferInstanceAs (Decidable (_\/_))
def ahd (p:Pr):List Pr->Nat
 | [] =>0
 | a::l=>if ltP a p then ahd p l+1 else 0
theorem QS (p:Pr): ∀l:List Pr,ahd p l<=l.length
 | [] =>aH _
 | a::l=>by
  unfold ahd;split
  ·have:=QS p l;rw[aq];omega
  ·exact Nat.zero_le _
theorem VG (p:Pr): ∀(l:List Pr) (i:Nat),i<ahd p l-> ∃x,l[i]? =some x/\ltP x p
 | [],i,h=>by simp[ahd] at h
 | a::l,i,h=>by
  unfold ahd at h;split at h
  ·rename_i d;cases i with
   | zero=>exact ⟨a,rfl,d⟩
   | succ i =>
    obtain ⟨x,c,b⟩:=VG p l i (by omega);exact ⟨x,by simpa using c,b⟩
  ·omega
theorem VH (p:Pr): ∀(l:List Pr) x,l[ahd p l]? =some x-> ¬ltP x p
 | [],x,h=>by simp at h
 | a::l,x,h=>by
  unfold ahd at h;split at h
  ·exact VH p l x (by simpa using h)
  ·rename_i b;simp at h;subst h;exact b
def put (l:List Pr) (p:Pr):List Pr:=if l[ahd p l]? =some p then l else l.take (ahd p l)++p::l.drop (ahd p l)
def VI (l m:List Pr):List Pr:=m.foldl put l
end D
namespace D
open Go.RowKit
theorem xk {α R:Type} {f:Int->Option (Out R Int)} (l:List α) (b:α->Bool) (r:Nat->R) (p:l.length<=9223372036854775807) (h: ∀i (hi:i<l.length),f (i:Int)=some (if b l[i] then .ret (r i) else .nxt ((i+1:Nat):Int))) (t:f (l.length:Int)=some (.brk (l.length:Int))) :
  (∃(i:Nat) (hi:i<l.length),b l[i] =true/\(∀j (a:j<i),b (l[j]'(by omega))=false)/\ah f aU 0=some (.ret (r i)))\/((∀x,x∈l->b x=false)/\ah f aU 0=some (.brk (l.length:Int))):=by
 obtain ⟨o,e,v⟩:=b9 (f:=f) (fun i s=>s=(i:Int)/\ ∀j (a:j<l.length),j<i->b l[j] =false) (fun o=>(∃(i:Nat) (hi:i<l.length),b l[i] =true/\(∀j (a:j<i),b (l[j]'(by omega))=false)/\o= .ret (r i))\/((∀x,x∈l->b x=false)/\o= .brk (l.length:Int))) l.length (fun i s hi g=>by
  obtain ⟨rfl,g⟩:=g;by_cases d:i<l.length
  ·cases k:b l[i] with
   | true=>exact .inr ⟨_,by rw[h i d,k,if_pos rfl],fun q m=>by simp at m,.inl ⟨i,d,k,fun j a=>g j (by omega) a,by simp⟩⟩
   | false=>exact .inl ⟨d,_,by rw[h i d,k,if_neg (by simp)],rfl,fun j a n=>by
     by_cases c:j=i
     ·subst c;exact k
     ·exact g j a (by omega)⟩
  ·obtain rfl:i=l.length:=by omega
   exact .inr ⟨_,t,fun q m=>by simp at m,.inr ⟨fun x w=>by
    obtain ⟨j,a,rfl⟩:=List.getElem_of_mem w;exact g j a a,rfl⟩⟩) (s:=0) ⟨rfl,fun j a y=>by omega⟩ (dq _ p)
 rcases v with ⟨i,hi,d,u,rfl⟩ | ⟨d,rfl⟩
 ·exact .inl ⟨i,hi,d,u,e⟩
 ·exact .inr ⟨d,e⟩
section
variable {l m:List Pr} {p:Pr}
theorem adx {a b:Pr} :((a.1==b.1)&&((a.2==b.2)&&true))=decide (a=b):=by
 rw[Bool.eq_iff_iff];simp[Prod.ext_iff]
theorem adS {a b:Pr} :(Bool.and.match_1 (fun (_:Bool)=>Bool) (a.1==b.1) (fun (_:Unit)=>false) (fun (_:Unit)=>Bool.and.match_1 (fun (_:Bool)=>Bool) (a.2==b.2) (fun (_:Unit)=>false) (fun (_:Unit)=>true)))=decide (a=b):=adx
theorem acK (d:l.length<=1073741824):vf l p=some (decide (p∈l)):=by
 unfold vf;rcases xk (f:=oP l p) l (fun x=>decide (x=p)) (fun _=>true) (by omega) (fun i a=>by
   unfold oP;rw[bL a,if_pos rfl,aM a];simp only[aa,adx,af (show i<9223372036854775807 by omega)];split <;> rfl) (by
   unfold oP;rw[bG];rfl) with ⟨i,a,b,-,e⟩ | ⟨b,e⟩
 ·rw[bD e,decide_eq_true (by rw[<-of_decide_eq_true b];exact List.getElem_mem a)]
 ·rw[aj e,decide_eq_false fun c=>by have:=b p c;simp at this]
theorem VJ (a b:Pr):so a b=some (decide (ltP a b)):=by
 unfold so ltP;by_cases h:a.1<b.1
 ·simp[h]
 ·by_cases k:a.1=b.1 <;> simp[h,k]
end
abbrev RK:=Int×Int×Int×Int
abbrev Nu:=Bool×RK
theorem acL (g:GrT) (id:Int) (b:g.2.length<=1048576): ∃k:Int,cM g id=some k/\(k= -1\/ ∃(i:Nat) (hi:i<g.2.length),k=(i:Int)):=by
 have a:=xk (f:=cL g id) g.2 (fun u=>u.1==id) (fun i=>(i:Int)) (by omega) (fun i hi=>by
  unfold cL;rw[bL hi,if_pos rfl,aM hi];simp[aa,af (show i<9223372036854775807 by omega)];split <;> rfl) (by
  simp_all[cL,bG])
 grind[cM,bD,aj]
theorem ady (g:GrT) (e:RK):u9 g e=jj e (g.1.length:Int):=by
 rfl
theorem VK {α:Type} [Data α] {xs:List α} {y:α} (h:Data.sm xs) (d:Data.sm y) (i:Nat) (e:xs.length<=1048575):Data.sm (xs.take i++([y] ++xs.drop i)):=by
 have ⟨b,a⟩:=aR h;refine ⟨by grind,fun x c=>?_⟩;grind
theorem Yw {α:Type} [Data α] {xs:List α} (h:Data.sm xs) (i:Nat):Data.sm (xs.take i++xs.drop (i+1)):=by
 have ⟨b,a⟩:=aR h;refine ⟨by grind,fun x c=>?_⟩;grind
theorem insS (x:GrT) (c:Data.sm x) (e:RK): ∃r:GrT×Bool,jd x e=some r/\Data.sm r.1:=by
 have ⟨a,E⟩:=aR c.1;have ⟨h,D⟩:=aR c.2;have ⟨b,ev,kv⟩:=nQ x a h;have ⟨k,z,H⟩:=acL x e.1 h;have g:=QH e (n:=x.1.length) a;unfold jd;simp only[fM,kg,ev,mS x c,ady,g,z,aa];cases b with
 | false=>grind
 | true =>
  have G:=kv.1 rfl;have C:=G.1.m;by_cases w:decide (edgeP e (x.1.length:Int))=true
  ·by_cases l:decide (k≥0)=true
   ·simp_all
   ·by_cases v:((x.2.length:Int)==12)=true
    ·simp_all
    ·simp only[if_pos w,if_neg l,if_neg v];have B: ∃i:Nat,i<=x.2.length/\ah (dS x e) aU 0=some (.brk (i:Int)):=by
      obtain ⟨o,g,i,d,rfl⟩:=b9 (f:=dS x e) (fun i s=>s=(i:Int)) (fun o=> ∃i:Nat,i<=x.2.length/\o= .brk (i:Int)) x.2.length (fun i s d t=>by
       subst t;unfold dS;by_cases a:i<x.2.length
       ·simp[bL a,if_true,aM a,aa,af (show i<9223372036854775807 by omega)];grind
       grind) (s:=0) rfl (dq _ (by omega))
      exact ⟨i,d,g⟩
     have ⟨i,d,q⟩:=B;simp only[q,aO];have A:=VK (y:=e) c.2 ⟨trivial,trivial,trivial,trivial⟩ i (by omega);have u:(chk (0<=(i:Int)/\(i:Int)<=(x.2.length:Int)))=some ():=if_pos (by omega);have j:bw 8 ([] :List Int) x.1=some x.1:=by rw[ax (by grind)];rfl
     have m:bw 32 ([] :List Yq1) (x.2.take i)=some (x.2.take i):=by rw[ax (by grind)];rfl
     have p:bw 32 (x.2.take i) [e] =some (x.2.take i++ [e]):=ax (by grind);have F:bw 32 (x.2.take i++ [e]) (x.2.drop i)=some (x.2.take i++([e] ++x.2.drop i)):=by
      grind[ax,az,aB,aZ,aq,aD,aC]
     simp only[u,aa,Int.toNat_natCast,j,m,p,F];exact ⟨_,rfl,⟨c.1,A⟩⟩
  simp_all
theorem adT (x:GrT) (a:Data.sm x) (id:Int): ∃r:GrT×Bool,je x id=some r/\Data.sm r.1:=by
 have ⟨p,s⟩:=aR a.1;have ⟨d,q⟩:=aR a.2;have ⟨b,ev,kv⟩:=nQ x p d;have ⟨k,m,t⟩:=acL x id d;unfold je;simp only[fM,kg,ev,mS x a,m,aa];cases b with
 | false=>grind
 | true =>
  by_cases c:decide (k<0)=true
  ·simp_all
  ·rcases t with rfl | ⟨i,u,rfl⟩
   ·grind
   ·have n:i64.wrap ((i:Int)+1)=((i+1:Nat):Int):=af (by omega);have l:(0:Int)<=(i:Int)/\(i:Int)<=(x.2.length:Int):=by omega
    have e:(0:Int)<=((i+1:Nat):Int)/\((i+1:Nat):Int)<=(x.2.length:Int):=by omega
    have j:(chk (0<=(i:Int)/\(i:Int)<=(x.2.length:Int)))=some ():=if_pos l;have o:(chk (0<=((i+1:Nat):Int)/\((i+1:Nat):Int)<=(x.2.length:Int)))=some ():=if_pos e;have f:bw 8 ([] :List Int) x.1=some x.1:=by rw[ax (by grind)];rfl
    have g:bw 32 ([] :List Yq1) (x.2.take i)=some (x.2.take i):=by rw[ax (by grind)];rfl
    have h:bw 32 (x.2.take i) (x.2.drop (i+1))=some (x.2.take i++x.2.drop (i+1)):=ax (by grind);simp only[if_true,n,j,o,aa,Int.toNat_natCast,f,g,h];exact ⟨_,rfl,⟨a.1,Yw a.2 i⟩⟩
theorem LQ (g:GrT) (l:Data.sm g) (b:List Nu): ∃r:GrT×Bool,dU g b=some r/\Data.sm r.1:=by
 unfold dU;simp only[fM,mS g l,aa];have ⟨o,e,w⟩:=b9 (f:=eA g b) (fun i s=> ∃x:GrT,s=((i:Int),x)/\Data.sm x) (fun o=>o= .ret (g,false)\/ ∃(n:Int) (x:GrT),o= .brk (n,x)/\Data.sm x) 7 (fun i s C q=>by
  obtain ⟨x,rfl,a⟩:=q;have v:=(aR a.2).1;unfold eA;simp only[fM];by_cases h:i<b.length
  ·by_cases G:i<7
   ·rw[if_pos (by grind),if_pos (decide_eq_true (show (i:Int)<=6 by omega)),aM h];simp only[aa];have ⟨r,p,F⟩:=insS x a b[i].2;have ⟨d,u,D⟩:=adT x a b[i].2.1;have ⟨k,t,B⟩:=acL x b[i].2.1 v;have y:i64.wrap ((i:Int)+1)=((i+1:Nat):Int):=af (by omega);simp only[p,u,t,mS g l,y,aa];generalize b[i] =A at *;by_cases c:A.1=true
    ·simp[if_pos c];by_cases m:r.2=true
     ·simp[if_pos m,aa,fO];grind
     simp_all[if_neg,aa,fO]
    ·simp only[if_neg c];rcases B with rfl | ⟨j,z,rfl⟩
     ·simp_all[if_pos,aa,fO]
     ·rw[if_neg (by simp),aM z];simp only[aa];split
      ·by_cases m:d.2=true
       ·simp[if_pos m,aa,fO];grind
       simp_all[if_neg,aa,fO]
      ·exact .inr ⟨_,rfl,(fun E h=>by simp at h),.inl rfl⟩
   ·rw[if_pos (by grind),if_neg (by grind)];grind
  ·rw[if_neg (by grind)];grind) (s:=(0,g)) ⟨g,rfl,l⟩ (dq _ (by omega))
 rw[e];rcases w with rfl | ⟨n,x,rfl,a⟩
 ·exact ⟨_,rfl,l⟩
 ·exact ⟨_,rfl,a⟩
theorem aaY (g:GrT) (a:Data.sm g) (b:List Nu): ∃r:GrT×Bool,gF g b=some r/\Data.sm r.1:=by
 have ⟨v,ev⟩:=vD a;have ⟨r,c,d⟩:=LQ g a b;unfold gF;simp only[fM,kg,ev,mS g a,c,aa];grind
theorem VL (h:q8) (b:Data.sm h):kB h=some h:=by
 have ⟨g,c⟩:=aR b.2;have e:=aY (f:=fb h) (fun i=>((i:Int),h.1,h.2.take i)) h.2.length (fun i a=>by
  have e:=mS h.2[i] (c _ (List.getElem_mem a));have d: ∀z:GrT,bw 48 (h.2.take i) [z] =some (h.2.take i++ [z]):=fun z=>ax (by grind);unfold fb;rw[bL a,if_pos rfl,aM a];simp[aa];rw[e];simp[aa];rw[d,af (by omega),List.take_succ_eq_append_getElem a];rfl) (by
  simp_all[fb,bG]) (dq _ (by omega))
 grind[List.take_length,ah,fb,aU,kB,aj]
def Zc (h:q8):Prop:=Data.sm h/\1<=h.2.length
theorem yO {n:Int} {l:List GrT} (a:l.length<=1048576) (h: ∀g∈l,Data.sm g):Data.sm ((n,l):q8):=⟨trivial,a,h⟩
theorem acM (h:q8) (a:Data.sm h): ∃v,aF h=some v:=by
 have ⟨b,d,c,k⟩:=kh h a;cases b with
 | true=>simp_all[kj]
 | false =>
  simp_all[aF,m_s_IsValidHistory]
theorem QU (h:q8) (s:Zc h) (b:List Nu): ∃r:q8×Bool,bM h b=some r/\Zc r.1:=by
 have ⟨a,f⟩:=s;have ⟨v,o,q,k⟩:=kh h a;have ⟨w,t⟩:=aR a.2;unfold bM;simp only[fM,VL h a,o,aa];cases v with
 | false=>exact ⟨(h,false),rfl,a,f⟩
 | true =>
  obtain ⟨u,-⟩:=k rfl;simp only[if_true,(kj o q (k rfl)).1,aa];by_cases c:(latV h==999)=true
  ·rw[if_pos c];exact ⟨(h,false),rfl,a,f⟩
  ·rw[if_neg c,br (by omega) (by omega),aw (by omega) (by omega)];simp only[aa];have d:=t _ (cw (xs:=h.2) (i:=(h.2.length:Int) - 1) (by omega) (by omega));have ⟨r,e,x⟩:=aaY _ d b;rw[e];simp only[aa];by_cases j:r.2=true
   ·rw[if_pos j,ax (by grind)];simp only[aa];have n: ∀g∈h.2++ [(r.1.1,r.1.2)],Data.sm g:=fun g d=>by
     grind
    have p:(h.2++ [(r.1.1,r.1.2)]).length=h.2.length+1:=by simp
    have m:(h.2++ [r.1]).length=h.2.length+1:=by simp
    by_cases l:decide (((h.2++ [(r.1.1,r.1.2)]).length:Int)>8)=true
    ·rw[if_pos l,show chk (And ((0:Int)<=1) (1<=((h.2++ [(r.1.1,r.1.2)]).length:Int)))=some () from if_pos (by omega)];refine ⟨_,rfl,yO ?_ fun g d=>n g (List.mem_of_mem_drop d),?_⟩
     ·grind
     grind
    ·rw[if_neg l];refine ⟨_,rfl,yO (by omega) n,?_⟩;grind
   ·rw[if_neg j];exact ⟨(h,false),rfl,a,f⟩
theorem LR (h:q8) (hs:Data.sm h) (v:Int): ∃r:q8×Bool,gg h v=some r/\Data.sm r.1/\(1<=h.2.length->1<=r.1.2.length):=by
 have ⟨b,a,d,k⟩:=kh h hs;have ⟨j,i⟩:=aR hs.2;unfold gg;simp only[fM,VL h hs,a,aa];cases b with
 | false=>grind
 | true =>
  simp only[if_true,(kj a d (k rfl)).1,aa,AP];by_cases c:h.1<=v/\v<=latV h
  ·have f:=c;unfold latV at f;rw[if_pos (decide_eq_true c),br (n:=v - h.1) (by omega) (by omega),show chk (And (0<=v - h.1) (v - h.1<=(h.2.length:Int)))=some () from if_pos (by omega)];refine ⟨_,rfl,yO (by grind) fun g e=>i g (List.mem_of_mem_drop e),fun _=>?_⟩;grind
  simp_all[if_neg]
theorem adz {g:GrT} (a:Data.sm g) (G:Gh g) {v:Int} (hv:1<=v/\v<=4):gH g v=some ((v,[g]),true):=by
 have m:bI g=some true:=by
  have ⟨b,e,k⟩:=nQ g (aR a.1).1 (aR a.2).1;rw[kg,e,k.2 G]
 have ⟨c,h,l⟩:=xi g.1 g.1 (aR a.1).1;cases l.2 rfl;have L:=aY (f:=bC (v,[g])) (fun i=>(i:Int)) 1 (fun i n=>by
  obtain rfl:i=0:=by omega
  unfold bC;have j:aS [g] 0=some g:=by rfl
  simp[aq,aD,Int.natCast_zero,j,aa,m,h,if_true]
  rfl) (by
  rfl) (pa (by omega))
 have L:ah (bC (v,[g])) aU 0=_:=L;have d:m_s_IsValidHistory (v,[g])=some true:=by
  unfold m_s_IsValidHistory;rw[aj L,AP,AP];have o:i64.wrap (i64.wrap (999 - ((0+1:Nat):Int))+1)=999:=by decide
  refine congrArg some (decide_eq_true ⟨hv.1,?_⟩);show v<=i64.wrap (i64.wrap (999 - ((0+1:Nat):Int))+1);omega
 unfold gH;simp[fM,mS g a,aa];rw[d];rfl
section
variable {xs:List Int} {i h:Int}
theorem aaZ (a:xs.length<=1048576) (C:gJ xs i) (g:GrT): ∃r:RK×Int×Int,rm (xs,i,h) g=some r/\gJ xs r.2.1:=by
 unfold rm;simp only;obtain ⟨u,z,-,v⟩:=bp (h:=h) a C (n:=40) (by omega);rw[z];simp only[aa];obtain ⟨t,p,-,B⟩:=bp (h:=u.2.2) a v (n:=Max.max 1 (g.1.length:Int)) (by omega);rw[p];simp only[aa];obtain ⟨s,y,-,A⟩:=bp (h:=t.2.2) a B (n:=Max.max 1 (g.1.length:Int)) (by omega);rw[y];simp only[aa];obtain ⟨w,x,-,o⟩:=bp (h:=s.2.2) a A (n:=3) (by omega);rw[x];simp only[aa];obtain ⟨b,m,-,e⟩:=bp (h:=w.2.2) a o (n:=16) (by omega);rw[m];simp only[aa];by_cases k:(b.1==0)=true
 ·rw[if_pos k];obtain ⟨q,d,-,c⟩:=eN (h:=b.2.2) a e (l:=[0,99,100]) (by simp);rw[d];exact ⟨_,rfl,c⟩
 ·rw[if_neg k];by_cases j:(b.1==1)=true
  ·rw[if_pos j];obtain ⟨q,d,-,c⟩:=eN (h:=b.2.2) a e (l:=[(-1),5]) (by simp);rw[d];exact ⟨_,rfl,c⟩
  ·rw[if_neg j];by_cases f:(b.1==2)=true
   ·rw[if_pos f];obtain ⟨q,d,-,c⟩:=eN (h:=b.2.2) a e (l:=[(-1),3]) (by simp);rw[d];exact ⟨_,rfl,c⟩
   ·rw[if_neg f];exact ⟨_,rfl,e⟩
abbrev BaS:=Int×Int×List Int×List RK×List Nu
def Zd (xs:List Int) (n:Nat) (s:BaS):Prop:=gJ xs s.1/\Data.sm ((s.2.2.1,s.2.2.2.1):GrT)/\s.2.2.2.2.length<=n
theorem Gl (t:xs.length<=1048576) (o:gJ xs i) {x:GrT} (m:Data.sm x) {B:List Nu} (v:B.length<=1000) (d:Nu): ∃s:BaS,((dU (x.1,x.2) [(d.1,d.2.1,d.2.2.1,d.2.2.2.1,d.2.2.2.2)]).bind fun a=>if a.2 then ((bw 40 B [(d.1,d.2.1,d.2.2.1,d.2.2.2.1,d.2.2.2.2)]).bind fun f=>some (i,h,a.1.1,a.1.2,f)) else ((cA (xs,i,h) 12).bind fun b=>if b.1 then ((bw 40 B [(d.1,d.2.1,d.2.2.1,d.2.2.2.1,d.2.2.2.2)]).bind fun g=>some (b.2.1,b.2.2,a.1.1,a.1.2,g)) else (some (b.2.1,b.2.2,x.1,x.2,B))))=some s/\Zd xs (B.length+1) s:=by
 obtain ⟨r,e,l⟩:=LQ x m [(d.1,d.2.1,d.2.2.1,d.2.2.2.1,d.2.2.2.2)];have e:dU (x.1,x.2) [(d.1,d.2.1,d.2.2.1,d.2.2.2.1,d.2.2.2.2)] =_:=e;have u:bw 40 B [(d.1,d.2.1,d.2.2.1,d.2.2.2.1,d.2.2.2.2)] =some (B++ [(d.1,d.2.1,d.2.2.1,d.2.2.2.1,d.2.2.2.2)]):=ax (by simp only[aq,aD];omega);rw[e];simp only[aa];rw[u];simp only[aa];by_cases c:r.2=true
 ·rw[if_pos c];exact ⟨_,rfl,o,l,by simp⟩
 ·rw[if_neg c];obtain ⟨q,p,k⟩:=wv (h:=h) t o (n:=12) (by omega);rw[p];simp only[aa];by_cases j:q.1=true
  ·rw[if_pos j];exact ⟨_,rfl,k,l,by simp⟩
  ·rw[if_neg j];exact ⟨_,rfl,k,m,by show B.length<=_;omega⟩
theorem Uj (m:xs.length<=1048576) (u:gJ xs i) {p:List Int×Int×Int} (hp:p.1=xs) {x:GrT} (K:Data.sm x) {B:List Nu} (L:B.length<=1000) {n:Nat} (R:n+1<1000): ∃s:BaS,jg p (((n+1:Nat):Int),i,h,x.1,x.2,B)=some (.nxt ((n:Int),s.1,s.2.1,s.2.2.1,s.2.2.2.1,s.2.2.2.2))/\Zd xs (B.length+1) s:=by
 subst hp;unfold jg;simp only;rw[if_pos (decide_eq_true (show ((n+1:Nat):Int)>0 by omega)),show i64.wrap (((n+1:Nat):Int) - 1)=(n:Int) from by rw[br (by omega) (by omega)];omega];obtain ⟨C,v,N⟩:=aaZ (h:=h) m u x;have v:rm (p.1,i,h) (x.1,x.2)=_:=v;rw[v];simp only[aa]
 suffices E: ∀(o:Option BaS),(∃s,o=some s/\Zd p.1 (B.length+1) s)-> ∃s:BaS,(o.bind fun j=>some (Out.nxt ((n:Int),j.1,j.2.1,j.2.2.1,j.2.2.2.1,j.2.2.2.2):Out ((List Nu)×Int×Int) (Int×BaS)))=some (.nxt ((n:Int),s.1,s.2.1,s.2.2.1,s.2.2.2.1,s.2.2.2.2))/\Zd p.1 (B.length+1) s by
  refine E _ ?_;have b: ∀ {i h:Int} (_:gJ p.1 i) (d:Nu),∃s:BaS,(if decide ((B.length:Int)>0)=true then ((cA (p.1,i,h) 4).bind fun l=>Option.bind ((if l.1 then ((aS B (i64.wrap ((B.length:Int) - 1))).bind fun k=>some (cond.match_1 (fun (I:Bool)=>Bool) k.1 (fun (F:Unit)=>false) (fun (G:Unit)=>true),k.2.1,k.2.2.1,k.2.2.2.1,k.2.2.2.2)) else (some (d.1,d.2.1,d.2.2.1,d.2.2.2.1,d.2.2.2.2)):Option Yq4)) (fun a=>(dU (x.1,x.2) ([(a.1,a.2.1,a.2.2.1,a.2.2.2.1,a.2.2.2.2)])).bind fun c=>if c.2 then ((bw 40 B ([(a.1,a.2.1,a.2.2.1,a.2.2.2.1,a.2.2.2.2)])).bind fun z=>some (l.2.1,l.2.2,c.1.1,c.1.2,z)) else ((cA (p.1,l.2.1,l.2.2) 12).bind fun e=>if e.1 then ((bw 40 B ([(a.1,a.2.1,a.2.2.1,a.2.2.2.1,a.2.2.2.2)])).bind fun H=>some (e.2.1,e.2.2,c.1.1,c.1.2,H)) else (some (e.2.1,e.2.2,x.1,x.2,B))))) else ((dU (x.1,x.2) ([(d.1,d.2.1,d.2.2.1,d.2.2.2.1,d.2.2.2.2)])).bind fun f=>if f.2 then ((bw 40 B ([(d.1,d.2.1,d.2.2.1,d.2.2.2.1,d.2.2.2.2)])).bind fun J=>some (i,h,f.1.1,f.1.2,J)) else ((cA (p.1,i,h) 12).bind fun g=>if g.1 then ((bw 40 B ([(d.1,d.2.1,d.2.2.1,d.2.2.2.1,d.2.2.2.2)])).bind fun y=>some (g.2.1,g.2.2,f.1.1,f.1.2,y)) else (some (g.2.1,g.2.2,x.1,x.2,B)))))=some s/\Zd p.1 (B.length+1) s:=by
   intro i h u d;by_cases O:(B.length:Int)>0
   ·rw[if_pos (by simpa using O)];obtain ⟨q,A,t⟩:=wv (h:=h) m u (n:=4) (by omega);rw[A];simp only[aa];by_cases r:q.1=true
    ·rw[if_pos r,br (by omega) (by omega),aw (by omega) (by omega)];simp only[aa];exact Gl m t K L (cond.match_1 (fun (I:Bool)=>Bool) (nth B ((B.length:Int) - 1)).1 (fun (F:Unit)=>false) (fun (G:Unit)=>true),(nth B ((B.length:Int) - 1)).2)
    ·rw[if_neg r];simp only[aa];exact Gl m t K L d
   ·rw[if_neg (by simpa using O)];exact Gl m u K L d
  by_cases D:(x.2.length:Int)>0
  ·rw[if_pos (by simpa using D)];obtain ⟨q,A,t⟩:=wv (h:=C.2.2) m N (n:=2) (by omega);rw[A];simp only[aa];by_cases r:q.1=true
   ·rw[if_pos r];obtain ⟨w,Q,M,P⟩:=bp (h:=q.2.2) m t (n:=(x.2.length:Int)) D;rw[Q];simp only[aa];rw[aw M.1 M.2];simp only[aa];exact b P (false,nth x.2 w.1)
   ·rw[if_neg r];simp only[aa];exact b t (true,C.1)
  ·rw[if_neg (by simpa using D)];exact b N (true,C.1)
 rintro o ⟨s,rfl,E⟩;exact ⟨s,rfl,E⟩
theorem LS (a:xs.length<=1048576) {p:List Int×Int×Int} (hp:p.1=xs): ∀(n:Nat) (f:Nat) {i h:Int} {x:GrT} {B:List Nu},n<900->n<f->gJ xs i->Data.sm x->B.length+n<=900-> ∃s:BaS,ah (jg p) f ((n:Int),i,h,x.1,x.2,B)=some (.brk (0,s))/\Zd xs (B.length+n) s
 | 0,f+1,i,h,x,B,_,_,hc,hx,hb=>by
  refine ⟨(i,h,x.1,x.2,B),?_,hc,hx,aH _⟩
  have:jg p (((0:Nat):Int),i,h,x.1,x.2,B)=some (.brk (0,i,h,x.1,x.2,B)):=by
   unfold jg;simp only;rw[if_neg (by simp)];rfl
  rw[ah,this]
 | n+1,f+1,i,h,x,B,hn,hf,hc,hx,hb=>by
  obtain ⟨s,e,d,c,l⟩:=Uj (h:=h) a hc hp hx (B:=B) (by omega) (n:=n) (by omega);obtain ⟨t,g,j,b,k⟩:=LS a hp n f (h:=s.2.1) (x:=(s.2.2.1,s.2.2.2.1)) (B:=s.2.2.2.2) (by omega) (by omega) d c (by omega);refine ⟨t,?_,j,b,by omega⟩;rw[ah,e];exact g
theorem J9 (b:xs.length<=1048576) (l:gJ xs i) {g:GrT} (a:Data.sm g) {m:Nat} (v:m<=8): ∃r:(List Nu)×Int×Int,iK (xs,i,h) g (m:Int)=some r/\r.1.length<=m/\gJ xs r.2.1:=by
 unfold iK;simp only;have d:cn (g.1,g.2)=_:=mS g a;rw[d,br (by omega) (by omega)];simp only[aa];obtain ⟨r,e,t,c⟩:=bp (h:=h) b l (n:=(m:Int)+1) (by omega);rw[e];simp only[aa];obtain ⟨k,q⟩: ∃k:Nat,r.1=(k:Int):=⟨r.1.toNat,by omega⟩;obtain ⟨s,j,f,u,o⟩:=LS b (p:=(xs,i,h)) rfl k aU (h:=r.2.2) (x:=g) (B:=[]) (by omega) (by unfold aU;omega) c a (by simp only[aD];omega);rw[q,aj j];exact ⟨_,rfl,by have:s.2.2.2.2.length<=0+k:=o;show s.2.2.2.2.length<=m;omega,f⟩
end
def prQ (q:QT):Int×List Tok:=(q.1,q.2.1)
theorem QV {a ps:List QT} (h:a.map prQ=ps.map prQ) (i:Int):(aS a i=none/\aS ps i=none)\/ ∃x y,aS a i=some x/\aS ps i=some y/\x.1=y.1/\x.2.1=y.2.1:=by
 have d:a.length=ps.length:=by
  have:=congrArg List.length h
  simpa using this
 by_cases c:0<=i/\i<a.length
 ·refine .inr ⟨nth a i,nth ps i,aw c.1 c.2,aw c.1 (by omega),?_⟩;obtain ⟨k,rfl⟩: ∃k:Nat,i=(k:Int):=⟨i.toNat,by omega⟩;rw[bH (by omega),bH (by omega)];have b:(a.map prQ)[k]'(by grind)=(ps.map prQ)[k]'(by grind):=by simp[h]
  simp[List.getElem_map,prQ,Prod.mk.injEq] at b;exact b
 grind[aS,List.getElem?_eq_none]
theorem QW {a ps:List QT} (h:a.map prQ=ps.map prQ):bz a=bz ps:=by
 have k:a.length=ps.length:=by
  have:=congrArg List.length h
  simpa using this
 funext s;unfold bz;rw[k];rcases QV h s.1 with ⟨e,c⟩ | ⟨x,y,e,c,f,g⟩
 ·grind
 ·rcases QV h (i64.wrap (s.1 - 1)) with ⟨b,d⟩ | ⟨u,v,b,d,j,i⟩
  ·simp[e,c,b,d,aa,Option.bind_none,f,g]
  ·simp[e,c,b,d,aa,f,g,j,i]
theorem Uk {a ps:List QT} (h:a.map prQ=ps.map prQ):cH a=cH ps:=by
 have b:a.length=ps.length:=by
  have:=congrArg List.length h
  simpa using this
 grind[cH,QW]
theorem Yx (l:List AutT) (a:AutT) (b:l.length<=1048576) (hs: ∀x∈l,Data.sm x):(ga l a=some (-1)/\ ¬a∈l)\/ ∃(i:Nat) (hi:i<l.length),ga l a=some (i:Int)/\l[i] =a:=by
 have c:=xk (f:=eG l a) l (fun u=>decide (u=a)) (fun i=>(i:Int)) (by omega) (fun i h=>by
  simp[eG,bL h,if_true,aM h,aa,fM,xj l[i] a (hs _ (List.getElem_mem h)),af (show i<9223372036854775807 by omega)];grind) (by simp only[eG,bG];rfl)
 grind[ga,bD,aj]
structure BIn (qs:List QT) (i:Nat) (A:List AutT) (Q:List QT):Prop where
 le:i<=qs.length
 pr:Q.map prQ=(qs.take i).map prQ
 len:A.length<=i
 sm: ∀a∈A,Data.sm a
 at_: ∀q∈Q,∃(j:Nat) (hj:j<A.length),q.2.2=(j:Int)/\m_s_CompileExpr q.2.1=some (A[j],true)
 nd:A.Nodup
 cmp: ∀a∈A,∃e:List Tok,e.length<=1048576/\m_s_CompileExpr e=some (a,true)
 rng: ∀j (hj:j<qs.length),j<i->1<=qs[j].1/\qs[j].1<=99
 asc: ∀j (hj:j+1<qs.length),j+1<i->qs[j].1<qs[j+1].1
theorem Ul {c:List QT} (J:Data.sm c) {i:Nat} {A:List AutT} {Q:List QT} (f:BIn c i A Q) (hi:i<c.length) :
  bz c ((i:Int),A,Q)=some (.ret (([],[]),false))\/ ∃A' Q',bz c ((i:Int),A,Q)=some (.nxt (((i+1:Nat):Int),A',Q'))/\BIn c (i+1) A' Q':=by
 obtain ⟨P,G⟩:=aR J;have o:=G _ (List.getElem_mem hi);have K:Q.length=i:=by
  have:=congrArg List.length f.pr
  simp only[List.length_map,aB] at this;omega
 have H:=f.len;obtain ⟨r,L,-,T⟩:=CW (e:=c[i].2.1) o.2.1.1;have N:bw 56 A [r.1] =some (A++ [r.1]):=ax (by grind);have O: ∀y,bw 40 Q [y] =some (Q++ [y]):=fun y=>ax (by grind);have M:fR c[i].2.1=some c[i].2.1:=by unfold fR;rw[ax (by have:=o.2.1.1;grind)];rfl
 have p: ∀k:Int,(Q++ [(c[i].1,c[i].2.1,k)]).map prQ=(c.take (i+1)).map prQ:=fun k=>by
  rw[aX,f.pr,List.take_succ_eq_append_getElem hi,aX];rfl
 have main:r.2=true->(1<=c[i].1/\c[i].1<=99)->(∀h:0<i,c[i - 1].1<c[i].1)-> ∃k A',(k= -1/\A'=A++ [r.1] \/ ∃j:Nat,k=(j:Int)/\A'=A)/\ga A r.1=some k/\BIn c (i+1) A' (Q++ [(c[i].1,c[i].2.1,if k<0 then (A.length:Int) else k)]):=fun w t v=>by
  have C:m_s_CompileExpr c[i].2.1=some (r.1,true):=by grind
  have m: ∀j (n:j<c.length),j<i+1->1<=c[j].1/\c[j].1<=99:=fun j n u=>by
   by_cases e:j=i
   ·grind
   ·exact f.rng j n (by omega)
  have l: ∀j (n:j+1<c.length),j+1<i+1->c[j].1<c[j+1].1:=fun j n u=>by
   by_cases e:j+1=i
   ·grind
   ·exact f.asc j n (by omega)
  rcases Yx A r.1 (by omega) f.sm with ⟨e,E⟩ | ⟨j,n,e,D⟩
  ·refine ⟨-1,A++ [r.1],.inl ⟨rfl,rfl⟩,e,by omega,p _,by grind,fun a g=>?_,fun q d=>?_,?_,fun a g=>?_,m,l⟩
   ·rcases aE g with g | g
    ·exact f.sm a g
    grind
   ·rcases aE d with d | d
    ·obtain ⟨j,n,F,R⟩:=f.at_ q d;exact ⟨j,by grind,F,by grind⟩
    ·rw[al d];grind
   ·rw[List.nodup_append];refine ⟨f.nd,by simp,fun a g b S=>?_⟩;grind
   ·rcases aE g with g | g
    ·exact f.cmp a g
    ·rw[al g];exact ⟨_,o.2.1.1,C⟩
  ·refine ⟨(j:Int),A,.inr ⟨j,rfl,rfl⟩,e,by omega,p _,by omega,f.sm,fun q d=>?_,f.nd,f.cmp,m,l⟩;rcases aE d with d | d
   ·exact f.at_ q d
   grind
 have fin:r.2=true->(1<=c[i].1/\c[i].1<=99)->(∀h:0<i,c[i - 1].1<c[i].1)-> ∃A' Q',(((ga A r.1).bind fun s=>Option.bind ((if decide (s<0) then ((bw 56 A ([r.1])).bind fun x=>some ((A.length:Int),x,Q)) else (some (s,A,Q)):Option (Int×List AutT×List QT))) (fun z=>(bw 40 z.2.2 ([(c[i].1,c[i].2.1,z.1)])).bind fun B=>some (Out.nxt (((i+1:Nat):Int),z.2.1,B)))):Option (Out (sL×Bool) (Int×List AutT×List QT)))=some (.nxt (((i+1:Nat):Int),A',Q'))/\BIn c (i+1) A' Q':=fun w t v=>by
  grind
 unfold bz;simp only[bL hi,if_true,aM hi,aa,L,AP,fM,M,af (show i<9223372036854775807 by omega)];by_cases w:r.2=true
 case neg =>
  grind
 simp only[w,if_true];by_cases t:1<=c[i].1/\c[i].1<=99
 case neg =>
  simp only[t,decide_false,Bool.false_eq_true,if_false];exact .inl trivial
 simp only[t,and_self,decide_true,if_true];by_cases v:(i:Int)>0
 ·have hp:i - 1<c.length:=by omega
  have I:i64.wrap ((i:Int) - 1)=((i - 1:Nat):Int):=by rw[fG (by omega)];omega
  simp only[v,decide_true,if_true,I,aM hp,aa];grind
 grind
theorem Gn {a:List QT} (n:Data.sm a) {x:sL} (e:cH a=some (x,true)):a.length<=4/\BIn a a.length x.1 x.2:=by
 unfold cH at e;by_cases c:(a.length:Int)>4
 ·grind
 have ⟨o,p,l⟩:=b9 (f:=bz a) (fun i s=> ∃A Q,s=((i:Int),A,Q)/\BIn a i A Q) (fun o=>o= .ret (([],[]),false)\/ ∃A Q,o= .brk ((a.length:Int),A,Q)/\BIn a a.length A Q) a.length (fun i s k b=>by
  obtain ⟨A,Q,rfl,g⟩:=b;by_cases h:i<a.length
  ·grind[Ul]
  ·obtain rfl:i=a.length:=by omega
   refine .inr ⟨.brk ((a.length:Int),A,Q),?_,(fun m h=>by grind),.inr ⟨A,Q,rfl,g⟩⟩;simp_all[bz,bG,Bool.false_eq_true,if_false]) (s:=(0,[],[])) ⟨[],[],rfl,Nat.zero_le _,rfl,aH _,(fun _ h=>by cases h),(fun _ h=>by cases h),List.nodup_nil,(fun _ h=>by cases h),(fun j d h=>absurd h (Nat.not_lt_zero _)),(fun j d h=>absurd h (Nat.not_lt_zero _))⟩ (dq _ (by omega))
 grind[aO,Option.some.injEq,Prod.mk.injEq]
theorem QX (a:AutT) (g:Data.sm a):pz a=some a:=by
 obtain ⟨-,⟨h,-⟩,j,c⟩:=g;unfold pz;rw[ax (by simp;omega)];simp only[aa,List.nil_append]
 have:=aY (f:=kQ a) (fun i=>((i:Int),a.1,a.2.1,a.2.2.take i)) a.2.2.length (fun i b=>by
  unfold kQ;have d:bw 8 ([] :List Int) a.2.2[i] =some a.2.2[i]:=by rw[ax (by have:a.2.2[i].length<=1048576:=(c _ (List.getElem_mem b)).1;simp;omega)];rfl
  simp only[bL b,if_true,aM b,aa,d,af (show i<9223372036854775807 by omega)];rw[ax (by simp;omega)];simp only[aa];rw[List.take_succ_eq_append_getElem b]) (by
  unfold kQ;simp only[bG,Bool.false_eq_true,if_false]) (dq _ (by omega))
 have e:ah (kQ a) aU (0,a.1,a.2.1,[])=_:=this;rw[e];simp only[aO,List.take_length]
theorem Yy (a:AutT) (g:Data.sm a):kE a=some a:=by
 obtain ⟨-,⟨h,-⟩,j,c⟩:=g;unfold kE;rw[ax (by simp;omega)];simp only[aa,List.nil_append]
 have:=aY (f:=fa a) (fun i=>((i:Int),a.1,a.2.1,a.2.2.take i)) a.2.2.length (fun i b=>by
  unfold fa n9;have d:bw 8 ([] :List Int) a.2.2[i] =some a.2.2[i]:=by rw[ax (by have:a.2.2[i].length<=1048576:=(c _ (List.getElem_mem b)).1;simp;omega)];rfl
  simp only[bL b,if_true,aM b,aa,d,af (show i<9223372036854775807 by omega)];rw[ax (by simp;omega)];simp only[aa];rw[List.take_succ_eq_append_getElem b]) (by
  unfold fa;simp only[bG,Bool.false_eq_true,if_false]) (dq _ (by omega))
 have e:ah (fa a) aU (0,a.1,a.2.1,[])=_:=this;rw[e];simp only[aO,List.take_length]
theorem yP (r:sL) (id:Int) (j:r.2.length<=1048576): ∃k:Int,cD r id=some k/\mB r id=some k/\(k= -1\/ ∃i:Nat,i<r.2.length/\k=(i:Int)):=by
 unfold cD mB cm;have a: ∀i (h:i<r.2.length),dh r id (i:Int)=if r.2[i].1=id then some (.ret (i:Int)) else some (.nxt ((i+1:Nat):Int)):=fun i h=>by
  simp only[dh,bL h,if_true,aM h,aa,af (show i<9223372036854775807 by omega)];by_cases c:r.2[i].1=id <;> simp[c]
 obtain ⟨k,e,d,h⟩:=LO (f:=dh r id) (g:=bm r.2 fun b=>mA b id) r.2.length j (fun i h=>by
  rw[a i h];by_cases c:r.2[i].1=id <;> simp[c]) (by simp only[dh,bG];rfl) (fun i l=>by
  by_cases h:i<r.2.length
  ·rw[a i h];simp only[bm,mA,bL h,if_true,aM h,aa,af (show i<9223372036854775807 by omega)];by_cases c:r.2[i].1=id <;> simp[c]
  ·obtain rfl:i=r.2.length:=by omega
   simp only[dh,bm,bG];rfl)
 refine ⟨k,e,?_,h⟩;rw[d];rfl
theorem QY (r:sL) (d:Data.sm r):lI r=some r:=by
 obtain ⟨j,g⟩:=aR d.1;obtain ⟨k,h⟩:=aR d.2;unfold lI;have a:=aY (f:=kR r) (fun i=>((i:Int),r.1.take i,([] :List QT))) r.1.length (fun i b=>by
  unfold kR;simp only[bL b,if_true,aM b,aa,fM,QX _ (g _ (List.getElem_mem b)),af (show i<9223372036854775807 by omega)];rw[ax (by simp;omega)];simp only[aa];rw[List.take_succ_eq_append_getElem b]) (by
  unfold kR;simp only[bG,Bool.false_eq_true,if_false]) (dq _ (by omega))
 have e:ah (kR r) aU (0,[],[])=_:=a;rw[e];simp only[aO,List.take_length];have a:=aY (f:=kS r) (fun i=>((i:Int),r.1,r.2.take i)) r.2.length (fun i b=>by
  unfold kS;have c:fR r.2[i].2.1=some r.2[i].2.1:=by unfold fR;rw[ax (by have:=(h _ (List.getElem_mem b)).2.1.1;simp;omega)];rfl
  simp only[bL b,if_true,aM b,aa,fM,c,af (show i<9223372036854775807 by omega)];rw[ax (by simp;omega)];simp only[aa];rw[List.take_succ_eq_append_getElem b]) (by
  unfold kS;simp only[bG,Bool.false_eq_true,if_false]) (dq _ (by omega))
 have e:ah (kS r) aU (0,r.1,[])=_:=a;rw[e];simp only[List.take_length]
theorem Yz (r:sL) (d:Data.sm r):lu r=some r:=by
 obtain ⟨j,g⟩:=aR d.1;obtain ⟨k,h⟩:=aR d.2;unfold lu;have a:=aY (f:=fB r) (fun i=>((i:Int),r.1.take i,([] :List QT))) r.1.length (fun i b=>by
  unfold fB;simp only[bL b,if_true,aM b,aa,fM,Yy _ (g _ (List.getElem_mem b)),af (show i<9223372036854775807 by omega)];rw[ax (by simp;omega)];simp only[aa];rw[List.take_succ_eq_append_getElem b]) (by
  unfold fB;simp only[bG,Bool.false_eq_true,if_false]) (dq _ (by omega))
 have e:ah (fB r) aU (0,[],[])=_:=a;rw[e];simp only[aO,List.take_length];have a:=aY (f:=fC r) (fun i=>((i:Int),r.1,r.2.take i)) r.2.length (fun i b=>by
  unfold fC;have c:iD r.2[i].2.1=some r.2[i].2.1:=by unfold iD;rw[ax (by have:=(h _ (List.getElem_mem b)).2.1.1;simp;omega)];rfl
  simp only[bL b,if_true,aM b,aa,fM,c,af (show i<9223372036854775807 by omega)];rw[ax (by simp;omega)];simp only[aa];rw[List.take_succ_eq_append_getElem b]) (by
  unfold fC;simp only[bG,Bool.false_eq_true,if_false]) (dq _ (by omega))
 have e:ah (fC r) aU (0,r.1,[])=_:=a;rw[e];simp only[List.take_length]
theorem QZ {r:sL} (a:Data.sm r) (h:dZ r=some true):r.2.length<=4:=by
 obtain ⟨x,b,e,d,f⟩:=Be a.2;unfold dZ at h;rw[d] at h;by_cases c:(r.2.length:Int)<=4
 ·omega
 ·simp[c] at h
theorem LU {α:Type} [Data α] {xs:List α} {y:α} (h:Data.sm xs) (c:Data.sm y) (i:Nat) (e:xs.length<=1048575):Data.sm (xs.take i++([y] ++xs.drop i)):=by
 obtain ⟨d,b⟩:=aR h;refine ⟨?_,fun x a=>?_⟩
 ·simp only[az,aB,aZ,aq,aD];omega
 ·rcases aE a with a | a
  ·exact b _ (List.mem_of_mem_take a)
  ·rcases aE a with a | a
   ·rw[al a];exact c
   ·exact b _ (List.mem_of_mem_drop a)
theorem C1 {r:sL} (d:Data.sm r):m_s_IsValidRegistry r=some true↔cH r.2=some (r,true):=by
 obtain ⟨x,b,a,-,e⟩:=Be d.2;unfold m_s_IsValidRegistry;by_cases c:(r.2.length:Int)>4
 ·rw[if_pos c] at a;rw[a];simp
 ·rw[if_neg c] at a;rw[a];simp only[aa,fM];cases b with
  | false=>simp
  | true =>
   simp only[if_true];rw[yM x r e.1];simp only[aa,Option.some.injEq,decide_eq_true_eq,Prod.mk.injEq,and_true]
theorem aa0 (r:sL) (id:Int) (d:r.2.length<=1048576):(cD r id=some (-1)/\ ∀q∈r.2,q.1≠id)\/ ∃(i:Nat) (hi:i<r.2.length),cD r id=some (i:Int)/\r.2[i].1=id:=by
 have b:=xk (f:=dh r id) r.2 (fun u=>decide (u.1=id)) (fun i=>(i:Int)) (by omega) (fun i h=>by
  simp only[dh,bL h,if_true,aM h,aa,af (show i<9223372036854775807 by omega)];by_cases c:r.2[i].1=id <;> simp[c]) (by simp only[dh,bG];rfl)
 unfold cD;rcases b with ⟨i,hi,a,-,e⟩ | ⟨a,e⟩
 ·rw[bD e];exact .inr ⟨i,hi,rfl,of_decide_eq_true a⟩
 ·rw[aj e];exact .inl ⟨rfl,fun q h=>by simpa using a q h⟩
theorem Q0 {r:sL} (a:Data.sm r) (id:Int) {e:List Tok} (J:Data.sm e): ∃x:sL×Bool,ic r id e=some x/\Data.sm x.1/\(x.2=true->cH r.2=some (r,true)/\ ∃i:Nat,i<=r.2.length/\cH (r.2.take i++([(id,e,0)] ++r.2.drop i))=some (x.1,true))/\(x.2=false->x.1=r):=by
 obtain ⟨z,O⟩:=aR a.2;obtain ⟨k,I,Q,R⟩:=yP r id z;obtain ⟨b,u,L,hv⟩:=rR a;have j:=C1 a;unfold ic;simp only[I,u,aa,fM,QY r a];cases b with
 | false=>exact ⟨(r,false),rfl,a,(fun h=>by cases h),fun _=>rfl⟩
 | true =>
  have j:=j.1 u;simp only[if_true];by_cases d:k≥0
  ·exact ⟨(r,false),by simp[d],a,(fun h=>by cases h),fun _=>rfl⟩
  ·have S:=QZ a L;have d:decide (k≥0)=false:=by simpa using d
   simp only[d,Bool.false_eq_true,if_false];have H: ∀f:Int->Option (Out (sL×Bool) Int),(∀s,f s=if decide (s<(r.2.length:Int)) then ((aS r.2 s).bind fun K=>if decide (K.1<id) then (some (.nxt (i64.wrap (s+1)))) else (some (.brk s))) else (some (.brk s)))-> ∃i:Nat,i<=r.2.length/\ah f aU 0=some (.brk (i:Int)):=by
    intro f D;obtain ⟨o,e,i,l,rfl⟩:=b9 (f:=f) (fun i s=>s=(i:Int)) (fun o=> ∃i:Nat,i<=r.2.length/\o= .brk (i:Int)) r.2.length (fun i s l B=>by
     subst B;rw[D];by_cases p:i<r.2.length
     ·simp only[bL p,if_true,aM p,aa,af (show i<9223372036854775807 by omega)];by_cases t:r.2[i].1<id
      ·exact .inl ⟨p,_,by simp[t],rfl⟩
      ·exact .inr ⟨.brk (i:Int),by simp[t],(fun G e=>by cases e),i,l,rfl⟩
     ·obtain rfl:i=r.2.length:=by omega
      exact .inr ⟨.brk (r.2.length:Int),by simp only[bG,Bool.false_eq_true,if_false],(fun G e=>by cases e),_,l,rfl⟩) (s:=0) rfl (dq _ (by omega))
    exact ⟨i,l,e⟩
   obtain ⟨i,l,A⟩:=H (oE r id) (fun s=>rfl);simp only[A,aO];have E:Data.sm ((id,e,(0:Int)):QT):=⟨trivial,J,trivial⟩;have F:=LU (y:=((id,e,(0:Int)):QT)) a.2 E i (by omega);obtain ⟨x,c,q,P,M⟩:=Be F;have m:=q;have C:(chk (0<=(i:Int)/\(i:Int)<=(r.2.length:Int)))=some ():=if_pos (by omega);have v:bw 40 ([] :List QT) (r.2.take i)=some (r.2.take i):=by rw[ax (by simp only[aD,aB];omega)];rfl
   have w:bw 40 (r.2.take i) [((id,e,(0:Int)):QT)] =some (r.2.take i++ [(id,e,0)]):=ax (by simp only[aB,aq,aD];omega);have N:bw 40 (r.2.take i++ [((id,e,(0:Int)):QT)]) (r.2.drop i)=some (r.2.take i++([(id,e,0)] ++r.2.drop i)):=by
    rw[ax (by simp only[az,aB,aZ,aq,aD];omega),aC]
   simp only[C,aa,Int.toNat_natCast,v,w,N,q];by_cases n:((r.2.take i++([((id,e,(0:Int)):QT)] ++r.2.drop i)).length:Int)>4
   ·have g: ¬((r.2.take i++([((id,e,(0:Int)):QT)] ++r.2.drop i)).length:Int)<=4:=by omega
    simp only[n,if_true,aa,Bool.false_eq_true,if_false,g,decide_false,Bool.and_false];exact ⟨_,rfl,a,(fun h=>by cases h),fun _=>rfl⟩
   ·have g:((r.2.take i++([((id,e,(0:Int)):QT)] ++r.2.drop i)).length:Int)<=4:=by omega
    rw[if_neg n] at m;simp only[n,if_false,aa,g,decide_true,Bool.and_true];cases c with
    | true=>exact ⟨_,rfl,M.1,fun _=>⟨j,i,l,m⟩,fun c=>by cases c⟩
    | false=>exact ⟨_,rfl,a,(fun h=>by cases h),fun _=>rfl⟩
theorem LW {a:List QT} (d:Data.sm a) {x:sL} (e:cH a=some (x,true)):x.2.map prQ=a.map prQ/\x.2.length=a.length/\cH x.2=some (x,true):=by
 obtain ⟨-,c⟩:=Gn d e;have b:=c.pr;rw[List.take_length] at b;refine ⟨b,by simpa using congrArg List.length b,?_⟩;rw[Uk b];exact e
theorem Ka {l:List Tok} (h:l.length<=1048576):Data.sm l:=⟨h,fun _ _=>⟨trivial,trivial,trivial,trivial⟩⟩
section
variable {xs:List Int} {i h:Int}
theorem Iw (j:xs.length<=1048576) {p:List Int×Int×Int} (hp:p.1=xs): ∀(n:Nat) (f:Nat) {i h:Int} {r:sL},n<900->n<f->gJ xs i->Data.sm r->r.1.length<=4->r.2.length<=4-> ∃s:Int×Int×sL,ah (jq p) f ((n:Int),i,h,r.1,r.2)=some (.brk (0,s.1,s.2.1,s.2.2.1,s.2.2.2))/\gJ xs s.1/\Data.sm s.2.2/\s.2.2.1.length<=4
 | 0,f+1,i,h,r,_,_,hc,hr,hb,_=>by
  refine ⟨(i,h,r),?_,hc,hr,hb⟩
  rfl
 | n+1,f+1,i,h,r,hn,hf,hc,hr,hb,hb2=>by
  obtain ⟨g,D,-,l⟩:=bp (h:=h) j hc (n:=6) (by omega);have ⟨b,B,F,o⟩:=J4 (h:=g.2.2) j l;have ⟨x,H,z,d,m⟩:=Q0 hr (i64.wrap (1+g.1)) (e:=b.1) (Ka (by omega));have c:x.1.1.length<=4/\x.1.2.length<=4:=by
   cases w:x.2 with
   | false=>grind
   | true =>
    obtain ⟨-,v,q,k⟩:=d w;have u:Data.sm b.1:=Ka (by omega);have a:=LU (y:=((i64.wrap (1+g.1),b.1,(0:Int)):QT)) hr.2 ⟨trivial,u,trivial⟩ v (by omega);have ⟨E,A⟩:=Gn a k
    have:=A.len
    have:=(LW a k).2.1
    omega
  have ⟨t,G,I,C⟩:=Iw j hp n f (h:=b.2.2) (r:=x.1) (by omega) (by omega) o z c.1 c.2
  have:jq p (((n+1:Nat):Int),i,h,r.1,r.2)=some (.nxt ((n:Int),b.2.1,b.2.2,x.1.1,x.1.2)):=by
   unfold jq;grind[br]
  grind[ah]
theorem YA:Data.sm (([],[]):sL):=⟨⟨Nat.zero_le _,fun _ h=>by cases h⟩,Nat.zero_le _,fun _ h=>by cases h⟩
theorem Nv (a:xs.length<=1048576) (d:gJ xs i): ∃r:sL×Int×Int,mu (xs,i,h)=some r/\(Data.sm r.1/\r.1.1.length<=4)/\gJ xs r.2.1:=by
 unfold mu;have ⟨r,e,g,b⟩:=bp (h:=h) a d (n:=3) (by omega);have ⟨k,f⟩: ∃k:Nat,i64.wrap (1+r.1)=(k:Int):=⟨(1+r.1).toNat,by grind[br]⟩;have c:k<=3:=by
  rw[br (by omega) (by omega)] at f;omega
 have ⟨s,m,l,j⟩:=Iw a (p:=(xs,i,h)) rfl k aU (h:=r.2.2) (r:=([],[])) (by omega) (by unfold aU;omega) b YA (Nat.zero_le _) (Nat.zero_le _);simp_all[aj]
theorem aa1 (k:xs.length<=1048576) (I:gJ xs i): ∃r:sL×Int×Int,vl (xs,i,h)=some r/\Data.sm r.1/\gJ xs r.2.1:=by
 unfold vl;have ⟨g,H,G,z⟩:=Nv (h:=h) k I;rw[H];simp only[aa];obtain ⟨d,D,-,f⟩:=bp (h:=g.2.2) k z (n:=16) (by omega);rw[D];simp only[aa];have ⟨⟨e,m⟩,O⟩:=G;have ⟨N,j⟩:=aR m;have b: ∀y:QT,Data.sm y->Data.sm (g.1.2.set 0 y):=fun y L=>⟨by grind,fun q h=>by
  grind⟩
 by_cases w:(d.1==0)=true
 ·rw[if_pos w];by_cases c:(g.1.2.length:Int)>0
  ·rw[if_pos (decide_eq_true c)];obtain ⟨J,F,-,A⟩:=bp (h:=d.2.2) k f (n:=3) (by omega);rw[F];rw[aw (by omega) c];have o:=j _ (cw (xs:=g.1.2) (i:=0) (by omega) c);exact ⟨_,rfl,⟨e,b _ ⟨trivial,o.2.1,trivial⟩⟩,A⟩
  ·rw[if_neg (by grind)];exact ⟨_,rfl,⟨e,m⟩,f⟩
 ·rw[if_neg w];by_cases v:(d.1==1)=true
  ·rw[if_pos v];by_cases c:(g.1.2.length:Int)>0
   ·rw[if_pos (decide_eq_true c)];obtain ⟨K,x,-,E⟩:=eN (h:=d.2.2) k f (l:=[0,100,99]) (by simp);rw[x];rw[aw (by omega) c];have o:=j _ (cw (xs:=g.1.2) (i:=0) (by omega) c);exact ⟨_,rfl,⟨e,b _ ⟨trivial,o.2.1,o.2.2⟩⟩,E⟩
   ·rw[if_neg (by grind)];exact ⟨_,rfl,⟨e,m⟩,f⟩
  ·rw[if_neg v];by_cases u:(d.1==2)=true
   ·rw[if_pos u];have ⟨B,p,t,s⟩:=acE (h:=d.2.2) k f;rw[p];simp only[aa];have ⟨M,C⟩:=aR e;rw[ax (by grind)];refine ⟨_,rfl,⟨⟨?_,fun a h=>?_⟩,m⟩,s⟩
    ·grind
    ·rcases aE h with h | h
     ·grind
     ·rw[al h];exact t.sm
   ·rw[if_neg u];exact ⟨_,rfl,⟨e,m⟩,f⟩
end
section
variable {α:Type} [DecidableEq α]
end
theorem aa2 {p:Prop} [Decidable p] (h:p):chk p=some ():=by unfold chk;rw[if_pos h]
theorem acN {m:Nat} (c:m<2 ^ 30):xT (m:Int)=some (o6 m 30):=by
 have a:m<2 ^ 62:=aL c (Nat.pow_le_pow_right (by decide) (by decide));unfold xT
 have:=aY (f:=nY (m:Int)) (fun i=>(o6 m i,(i:Int))) 30 (fun i d=>by
  have e:=uP m i;unfold nY;simp only;rw[if_pos (by simp;omega),aa2 (by omega),Gi a (by omega),af (by omega),vC];simp only[aa];by_cases b:m.testBit i=true
  ·rw[if_pos b,if_pos b,ax (by simp;omega)];rfl
  ·rw[if_neg b,if_neg b];rfl) (by unfold nY;simp) (by unfold aU;omega)
 have this:ah (nY (m:Int)) aU (([] :List Int),0)=_:=this;rw[aj this]
def acO (a:AutT) (s v:Int):Bool:=decide (∃q∈o6 (cS a s v) 30,nth a.2.1 q=true)
section
variable {a:AutT} {n:Nat} (V:VA a n) (hn:n<=12)
include V hn
theorem Ix {C:Nat} (k:C<2 ^ n):aO (ah (ij a (C:Int)) aU 0) (fun r=>some r) (fun _=>some false)=some (decide (∃q∈o6 C 30,nth a.2.1 q=true)):=by
 have d:C<2 ^ 62:=aL k (p62 (by omega));rcases T8 (f:=ij a (C:Int)) n (fun i=> ¬(C.testBit i=true/\nth a.2.1 (i:Int)=true)) true (by omega) (fun i j=>by
  unfold ij;rw[V.len,if_pos (by simp;omega),CU (by omega),Gi d (by omega),V.acc (by omega) (by omega),af (by omega)];simp only[aa];cases C.testBit i <;> cases nth a.2.1 (i:Int) <;> rfl) (by unfold ij;rw[V.len];simp) with ⟨e,h⟩ | ⟨e,h⟩
 ·rw[aj e,decide_eq_false];rintro ⟨q,l,b⟩;have o:=Gj V hn k q l;obtain ⟨i,j,m,rfl⟩:=CT.1 l;exact h i (by omega) ⟨m,b⟩
 ·rw[bD e,decide_eq_true];by_cases c: ∃q∈o6 C 30,nth a.2.1 q=true
  ·exact c
  ·exact absurd (fun (i:Nat) (j:i<n) (g:C.testBit i=true/\nth a.2.1 (i:Int)=true)=>c ⟨(i:Int),CT.2 ⟨i,by omega,g.1,rfl⟩,g.2⟩) h
end
section
variable {g:GrT} {a:AutT} (H:GOOD g a)
include H
theorem Q1 {x s:Nat} (d:x<g.1.length) (hs:s<a.2.1.length):kT g a (x:Int) (s:Int)=some (acO a (s:Int) (nth g.1 (x:Int))):=by
 have hv:=H.1.val _ (cw (xs:=g.1) (i:=(x:Int)) (by omega) (by omega));have b:=Iu H.2.2 H.2.1 (s:=(s:Int)) ⟨by omega,by omega⟩ hv;have c:=Yj H.2.2 H.2.1 (s:=(s:Int)) ⟨by omega,by omega⟩ hv;unfold kT;rw[aw (by omega) (by omega)];simp only[aa];have b:dC (a.1,a.2.1,a.2.2) (s:Int) (nth g.1 (x:Int))=_:=b;rw[b];simp only[aa]
 have:=Ix H.2.2 H.2.1 c
 exact this
end
def acP (g:GrT) (a:AutT) (R:List Int) (i:Nat):Bool:=decide (0<=nth R (i:Int))&&acO a ((i % a.2.1.length:Nat):Int) (nth g.1 ((i / a.2.1.length:Nat):Int))
def aa3 (g:GrT) (a:AutT) (R:List Int):Nat->List Int
 | 0=>[]
 | i+1=>if acP g a R i=true then aa3 g a R i++ [((i / a.2.1.length:Nat):Int)] else aa3 g a R i
def Um (g:GrT) (a:AutT) (R:List Int):Nat->Nat
 | 0=>0
 | i+1=>if acP g a R i=true then Um g a R i ||| 2 ^ (i / a.2.1.length) else Um g a R i
theorem Un (g:GrT) (a:AutT) (R:List Int): ∀i,(aa3 g a R i).length<=i
 | 0=>by simp[aa3]
 | i+1=>by
  have:=Un g a R i
  rw[aa3];split
  ·rw[az];simp;omega
  ·omega
theorem YB {x:Nat} {n:Nat} (a:x<=1000000):GH (x:Int) (n:Int)=((x / n:Nat):Int)/\Int.tmod (x:Int) (n:Int)=((x % n:Nat):Int):=by
 refine ⟨?_,?_⟩
 ·unfold GH;rw[Int.tdiv_eq_ediv_of_nonneg (Int.natCast_nonneg _),<-Int.natCast_ediv,FZ (by have:=Nat.div_le_self x n;omega)]
 ·rw[Int.tmod_eq_emod_of_nonneg (Int.natCast_nonneg _),Int.natCast_emod]
section
variable {g:GrT} {a:AutT} (H:GOOD g a) {R:List Int} (hR:R.length=a.2.1.length*g.1.length)
include H
theorem VM {i:Nat} (hi:i<a.2.1.length*g.1.length):i / a.2.1.length<g.1.length/\i % a.2.1.length<a.2.1.length/\0<a.2.1.length/\g.1.length<=5:=by
 obtain ⟨b,c⟩:=H.divmod (x:=(i:Int)) (by omega) (by omega);exact ⟨b,c,H.2.2.pos,H.1.n5⟩
theorem Kb: ∀i,i<=a.2.1.length*g.1.length->Um g a R i<2 ^ 5
 | 0,_=>by simp[Um]
 | i+1,hi=>by
  have h:=Kb i (by omega);obtain ⟨d,e,c,b⟩:=VM H (i:=i) (by omega);rw[Um];split
  ·exact yI h (by omega)
  ·exact h
include hR
theorem aa4:ah (kU g a R) aU (0,0)=some (.brk ((Um g a R (a.2.1.length*g.1.length):Int),((a.2.1.length*g.1.length:Nat):Int))):=by
 have p:=nN H.1 H.2.2 H.2.1
 have:=aY (f:=kU g a R) (fun i=>((Um g a R i:Int),(i:Int))) (a.2.1.length*g.1.length) (fun i h=>by
  obtain ⟨e,l,o,m⟩:=VM H h;obtain ⟨k,d⟩:=YB (x:=i) (n:=a.2.1.length) (by omega);have j:=Kb H (R:=R) i (by omega);unfold kU;simp only;rw[if_pos (by simp only[decide_eq_true_eq];omega),aw (by omega) (by omega),CU (by omega),k,d,af (by omega)];simp only[aa];have b:kT (g.1,g.2) (a.1,a.2.1,a.2.2) ((i / a.2.1.length:Nat):Int) ((i % a.2.1.length:Nat):Int)=_:=Q1 H e l;rw[b,Um];simp only[aa];unfold acP;by_cases c:0<=nth R (i:Int)
  ·rw[if_pos (by simpa using c),decide_eq_true c,Bool.true_and];cases acO a ((i % a.2.1.length:Nat):Int) (nth g.1 ((i / a.2.1.length:Nat):Int)) with
   | false=>rfl
   | true =>
    simp only[if_true];rw[CU (Int.natCast_nonneg _),J5 (by omega),QJ (aL j (Nat.pow_le_pow_right (by decide) (by decide))) (Nat.pow_lt_pow_right (by decide) (by omega))];rfl
  ·rw[if_neg (by simpa using c),decide_eq_false c,Bool.false_and];rfl) (by unfold kU;simp only;rw[if_neg (by simp;omega)]) (pa (by omega))
 exact this
end
def abR (g:GrT) (a:AutT) (x:Int):List Int:=o6 (Um g a (RKs g a (x*(a.2.1.length:Int)+a.1)) (a.2.1.length*g.1.length)) 30
theorem LX (g:GrT) (a:AutT) (x:Int):(abR g a x).length<=30:=uP _ _
section
variable {g:GrT} {a:AutT} (H:GOOD g a) {x:Int} (hx:0<=x/\x<g.1.length)
include H hx
theorem Uo:sk g a x=some (abR g a x):=by
 unfold sk;have e:nX (g.1,g.2) (a.1,a.2.1,a.2.2) x=_:=Yu H hx;have b:=aaX H hx;rw[e];simp only[aa];rw[aj (aa4 H b),acN (aL (Kb H _ (aH _)) (Nat.pow_le_pow_right (by decide) (by decide)))];rfl
end
def Ze (g:GrT) (a:AutT):Nat->List (Int×Int)
 | 0=>[]
 | x+1=>Ze g a x++(abR g a (x:Int)).map fun y=>((x:Int),y)
theorem Gp (g:GrT) (a:AutT): ∀x,(Ze g a x).length<=30*x
 | 0=>by simp[Ze]
 | x+1=>by
  have c:=Gp g a x;have b:=LX g a (x:Int);rw[Ze,az,List.length_map];omega
theorem Up {f:tC×Int->Option (Out tC (tC×Int))} {l:List Int} {x:Int} {o:List (Int×Int)} (e:l.length<=30) (d:o.length<=1000)
  (c: ∀(o:List (Int×Int)) (j:Nat),j<l.length->o.length<=2000->f (o,(j:Int))=some (.nxt (o++ [(x,nth l (j:Int))],((j+1:Nat):Int)))) (b: ∀o,f (o,(l.length:Int))=some (.brk (o,(l.length:Int)))) :
  ah f aU (o,0)=some (.brk (o++l.map fun y=>(x,y),(l.length:Int))):=by
 have:=aY (f:=f) (fun j=>(o++(l.take j).map fun y=>(x,y),(j:Int))) l.length (fun j a=>by
  rw[c _ j a (by rw[az,List.length_map,aB];omega),J7 a,aX,aC];rfl) (b _) (pa (by omega))
 rw[List.take_length] at this;simpa using this
theorem aa5 (g:GrT) (a:AutT) (j:Data.sm g) (f:Data.sm a): ∃b,sj g a 0 0=some b/\(b=true->GOOD g a):=by
 have ⟨b,d,l⟩:=nQ g (aR j.1).1 (aR j.2).1;have k:=(aR f.2.1).1;have i:=(aR f.2.2).1;have ⟨c,m,e⟩:=Ys a (by omega) (by omega);have d:bI (g.1,g.2)=some b:=by rw[kg];exact d
 unfold sj;rw[d,m,AP,AP];cases b with
 | false=>grind
 | true =>
  cases c with
  | false=>grind
  | true =>
   by_cases h:(0:Int)<=0/\(0:Int)<=i64.wrap ((g.1.length:Int) - 1)
   ·rw[decide_eq_true h];exact ⟨_,rfl,fun _=>⟨(l.1 rfl).1,(e.1 rfl).1,(e.1 rfl).2⟩⟩
   grind
theorem acQ (g:GrT) (a:AutT) (d:Data.sm g) (k:Data.sm a): ∃l,nI g a=some l/\l.length<=150:=by
 have ⟨b,n,h⟩:=aa5 g a d k;unfold nI;cases b with
 | false =>
  refine ⟨[],?_,by decide⟩
  have:=aY (f:=dV g a) (fun _=>(([] :List (Int×Int)),(0:Int))) 0 (fun i c=>absurd c (Nat.not_lt_zero _)) (by
   simp_all[dV,aa,Bool.false_eq_true,if_false]) (by unfold aU;omega)
  rw[aj this]
 | true =>
  have H:=h rfl;have p:=H.1.n5;refine ⟨Ze g a g.1.length,?_,by grind[Gp]⟩
  have:=aY (f:=dV g a) (fun x=>(Ze g a x,(x:Int))) g.1.length (fun x t=>by
   have r:=Gp g a x;have e:=LX g a (x:Int);unfold dV;have m:=Uo H (x:=(x:Int)) ⟨by omega,by omega⟩;rw[if_pos (by grind),n,m];simp[aa,if_true];rw[aj (Up (x:=(x:Int)) (l:=abR g a (x:Int)) e (by omega) (fun o j s q=>by
    unfold ng;rw[if_pos (by grind),aw (by omega) (by omega)];simp[aa];rw[ax (by simp;omega),af (by omega)];rfl) (fun o=>by unfold ng;simp)),af (by omega)]
   rfl) (by unfold dV;simp) (pa (by omega))
  have this:ah (dV g a) aU (([] :List (Int×Int)),0)=_:=this;rw[aj this]
theorem acR {r:sL} (p:Data.sm r) {g:GrT} (d:Data.sm g) (id:Int): ∃(l:List (Int×Int)) (b:Bool),dL r g id=some (l,b)/\l.length<=150:=by
 have ⟨k,n,A,h⟩:=yP r id (aR p.2).1;have ⟨b,u,y,hv⟩:=rR p;have f: ∃x:AutT×Bool,jo r id=some x/\Data.sm x.1:=by
  unfold jo;simp only[n,u,aa,fM];rcases h with rfl | ⟨i,j,rfl⟩
  ·simp_all[yK]
  ·have h:decide ((i:Int)<0)=false:=by simp
   cases b with
   | false=>grind[yK]
   | true =>
    have ⟨t,f⟩:=hv rfl;have ⟨m,o⟩:=f _ (List.getElem_mem j);have e:=aw m o;have v:=(aR t.1).2 _ (cw m o);simp[if_true,h,Bool.false_eq_true,if_false,aM j,aa,e,fM,QX _ v];grind
 have ⟨⟨a,q⟩,B,s⟩:=f;obtain ⟨c,e,-⟩:=nQ g (aR d.1).1 (aR d.2).1;have z:bI (g.1,g.2)=some c:=by rw[kg];exact e
 have ⟨l,n,w⟩:=acQ g a d s;unfold dL;simp[aa];cases q with
 | false=>grind
 | true =>
  cases c with
  | false=>grind
  | true=>simp_all
theorem Q2 (h:q8) (f:Data.sm h) {r:sL} (x:Data.sm r) (id v:Int): ∃(g:GrT) (q:Bool) (l:List (Int×Int)) (b:Bool),jQ h v=some (g,q)/\dL r g id=some (l,b)/\l.length<=150:=by
 suffices s: ∃(g:GrT) (q:Bool),jQ h v=some (g,q)/\Data.sm g by
  have ⟨g,q,e,w⟩:=s;have ⟨l,b,p,A⟩:=acR x w id;grind
 have ⟨b,j,t,k⟩:=kh h f;have a:=j;have z:Data.sm (([],[]):GrT):=⟨⟨by decide,fun _ d=>by cases d⟩,by decide,fun _ d=>by cases d⟩;unfold jQ;rw[a];simp only[aa];cases b with
 | false=>grind
 | true =>
  have y:=k rfl;have o:=(kj j t y).1;simp only[if_true,o,aa,AP,decide_eq_true_eq];by_cases c:h.1<=v/\v<=latV h
  ·have m:=c;unfold latV at m;have u:=(aR f.2).2 _ (cw (xs:=h.2) (i:=v - h.1) (by omega) (by omega));have p:=mS _ u;rw[if_pos c,br (n:=v - h.1) (by omega) (by omega),aw (by omega) (by omega)];simp_all
  simp_all[if_neg]
theorem YC (l:List Pr) (p:Pr):(put l p).length<=l.length+1:=by
 have:=QS p l
 unfold put;split
 ·omega
 ·rw[az,aB,aq,aZ];omega
theorem Gq: ∀(m l:List Pr),(VI l m).length<=l.length+m.length
 | [],l=>aH _
 | p::m,l=>by
  have a:=Gq m (put l p);have b:=YC l p;show (VI (put l p) m).length<=_;rw[aq];omega
theorem Q3 (l m:List Pr) (p:Pr):VI l (m++ [p])=put (VI l m) p:=by simp[VI]
theorem acS (l:List Pr) (p:Pr) (v:l.length<=1073741824):vh l p=some (put l p):=by
 have w:=QS p l;have e:ah (oQ l p) aU 0=some (.brk ((ahd p l:Nat):Int)):=by
  obtain ⟨o,e,rfl⟩:=b9 (f:=oQ l p) (fun i s=>s=(i:Int)) (fun o=>o= .brk ((ahd p l:Nat):Int)) (ahd p l) (fun i s t k=>by
   subst k;unfold oQ;by_cases b:i<ahd p l
   ·obtain ⟨x,c,q⟩:=VG p l i b;have a:i<l.length:=by omega
    rw[List.getElem?_eq_getElem a] at c;obtain rfl:=ae c;refine .inl ⟨b,((i+1:Nat):Int),?_,rfl⟩;rw[bL a,if_pos rfl,aM a];simp only[aa,VJ,fM];rw[if_pos (decide_eq_true q),af (by omega)]
   ·obtain rfl:i=ahd p l:=by omega
    refine .inr ⟨_,?_,fun u n=>(by simp at n),rfl⟩;by_cases a:ahd p l<l.length
    ·have g:=VH p l _ (List.getElem?_eq_getElem a);rw[bL a,if_pos rfl,aM a];simp only[aa,VJ,fM];rw[if_neg (by simpa using g)]
    ·rw[if_neg (by simp;omega)]) (s:=0) rfl (dq _ (by omega))
  exact e
 unfold vh;rw[aj e];have m:chk ((0:Int)<=((ahd p l:Nat):Int)/\((ahd p l:Nat):Int)<=(l.length:Int))=some ():=if_pos (by omega);have d:bw 16 ([] :List Pr) ((l.take (ahd p l)).drop 0)=some (l.take (ahd p l)):=by
  rw[List.drop_zero,ax (by simp only[aD,aB];omega)];rfl
 have j:bw 16 (l.take (ahd p l)) [p] =some (l.take (ahd p l)++ [p]):=ax (by simp only[List.length_singleton,aB];omega);have r:bw 16 (l.take (ahd p l)++ [p]) ((l.take l.length).drop (ahd p l))=some (l.take (ahd p l)++p::l.drop (ahd p l)):=by
  rw[List.take_of_length_le (aH _),ax (by simp only[az,List.length_singleton,aB,aZ];omega),aC];rfl
 simp only[m,aa,Int.toNat_natCast,d,j,r,fM];unfold put;by_cases a:ahd p l<l.length
 ·rw[bL a,if_pos rfl,aM a];simp only[aa,adS];rw[List.getElem?_eq_getElem a];by_cases h:l[ahd p l] =p
  ·rw[if_pos (decide_eq_true h),if_pos (by rw[h])]
  ·rw[if_neg (by simpa using h),if_neg (by simpa using h)]
 ·rw[if_neg (by simp;omega),List.getElem?_eq_none (by omega),if_neg (by simp)]
theorem EF {a b:List Pr} (m:a.length<=67108864) (k:b.length<=67108864):il a b=some (VI [] (a.filter fun x=> !decide (x∈b))):=by
 unfold il;obtain ⟨l,j,rfl⟩:=gz (f:=gQ a b) (fun i s=>s=(VI [] ((a.take i).filter fun x=> !decide (x∈b)),(i:Int))) a.length (fun i s d e=>by
  subst e;have c:=Gq ((a.take i).filter fun x=> !decide (x∈b)) [];have g:=List.length_filter_le (fun x=> !decide (x∈b)) (a.take i);rw[aB] at g;refine ⟨_,?_,rfl⟩;unfold gQ;rw[bL d,if_pos rfl,aM d];simp only[aa,fM];rw[acK (by omega)];simp only[aa];rw[af (by omega),List.take_succ_eq_append_getElem d,List.filter_append];by_cases h:a[i] ∈ b
  ·rw[if_pos (decide_eq_true h)];simp[h]
  ·rw[if_neg (by simpa using h),acS _ _ (by simp only[aD] at c;omega)];simp only[aa];rw[show [a[i]].filter (fun x=> !decide (x∈b))= [a[i]] from by simp[h],Q3]) (fun s e=>by
  subst e;unfold gQ;rw[bG];rfl) (s:=(([] :List Pr),0)) rfl (dq _ (by omega))
 rw[aj j,List.take_of_length_le (aH _)]
def adA (m:abQ):Prop:=m.2.2.1.length<=150/\m.2.2.2.length<=150
theorem aa6 (a b:List (Int×Int)) (g:a.length<=1000000) (e:b.length<=1000000): ∃d:tC×tC,lj a b=some d/\d.1.length<=b.length/\d.2.length<=a.length:=by
 unfold lj;rw[EF (by omega) (by omega),EF (by omega) (by omega)];have k: ∀(l:List (Int×Int)) (f:Int×Int->Bool),(VI [] (l.filter f)).length<=l.length:=fun l f=>by
  have:=Gq (l.filter f) []
  have c:=List.length_filter_le f l;simp at this;omega
 exact ⟨_,rfl,k _ _,k _ _⟩
theorem acT (h:q8) (p:Data.sm h) {r:sL} (m:Data.sm r) (s:CY): ∃b,pB h r s=some b/\(b=true->aF h=some (latV h)):=by
 obtain ⟨b,n,o,k⟩:=kh h p;obtain ⟨c,i,-,-⟩:=rR m;obtain ⟨f,d,-,-⟩:=yP r s.2.1 (aR m.2).1;have g:m_s_IsValidHistory (h.1,h.2)=_:=n;have i:m_s_IsValidRegistry (r.1,r.2)=_:=i;have d:cD (r.1,r.2) s.2.1=_:=d;unfold pB;rw[g,i,d];simp only[aa];cases b with
 | false=>exact ⟨false,rfl,fun c=>by cases c⟩
 | true =>
  obtain ⟨l,q⟩:=kj n o (k rfl);have e:aF (h.1,h.2)=_:=l;cases c with
  | false=>exact ⟨false,rfl,fun c=>by cases c⟩
  | true =>
   rw[e];simp only[if_true,aa];by_cases a:f≥0
   ·by_cases j:s.2.2≥0
    ·simp only[decide_eq_true a,decide_eq_true j,if_true];exact ⟨_,rfl,fun _=>(by first | exact l | trivial)⟩
    ·simp only[decide_eq_true a,decide_eq_false j,if_true,Bool.false_eq_true,if_false];exact ⟨false,rfl,fun c=>by cases c⟩
   ·simp only[decide_eq_false a,Bool.false_eq_true,if_false];exact ⟨false,rfl,fun c=>by cases c⟩
theorem adU (h:q8) (k:Data.sm h) {r:sL} (n:Data.sm r) (s:CY) (f:Int): ∃m:abQ,kV h r s f=some m/\adA m:=by
 obtain ⟨g,q,l,b,e,j,t⟩:=Q2 h k n s.2.1 f;have e:jQ (h.1,h.2) f=_:=e;have j:dL (r.1,r.2) (g.1,g.2) s.2.1=_:=j;unfold kV;rw[e];simp only[aa];rw[j];simp only[aa];by_cases c:s.2.2<h.1
 ·rw[if_pos (decide_eq_true c)];exact ⟨_,rfl,t,Nat.zero_le _⟩
 ·rw[if_neg (by simpa using c)];obtain ⟨o,z,u,w,a,i,v⟩:=Q2 h k n s.2.1 s.2.2;have a:jQ (h.1,h.2) s.2.2=_:=a;have i:dL (r.1,r.2) (o.1,o.2) s.2.1=_:=i;rw[a];simp only[aa];rw[i];simp only[aa];obtain ⟨d,p,y,x⟩:=aa6 u l (by omega) (by omega);rw[p];exact ⟨_,rfl,by show d.1.length<=150;omega,by show d.2.length<=150;omega⟩
theorem acU (h:q8) (e:Data.sm h) {r:sL} (d:Data.sm r) (s:CY): ∃x:abQ×CY×Bool,mo h r s=some x/\adA x.1:=by
 obtain ⟨b,c,-⟩:=acT h e d s;have c:pB (h.1,h.2) (r.1,r.2) (s.1,s.2.1,s.2.2)=_:=c;unfold mo;rw[c];simp only[aa];cases b with
 | false=>exact ⟨_,rfl,Nat.zero_le _,Nat.zero_le _⟩
 | true =>
  simp only[if_true];obtain ⟨m,a,k⟩:=adU h e d s (Max.max h.1 (i64.wrap (s.2.2+1)));have a:kV (h.1,h.2) (r.1,r.2) (s.1,s.2.1,s.2.2) (Max.max h.1 (i64.wrap (s.2.2+1)))=_:=a;rw[a];exact ⟨_,rfl,k⟩
section
variable {xs:List Int} {i h:Int}
theorem LY (e:xs.length<=1048576) {p:List Int×Int×Int} (hp:p.1=xs): ∀(n:Nat) (f:Nat) {i h:Int} {H:q8},n<900->n<f->gJ xs i->Zc H-> ∃s:Int×Int×q8,ah (fW p) f ((n:Int),i,h,H.1,H.2)=some (.brk (0,s.1,s.2.1,s.2.2.1,s.2.2.2))/\gJ xs s.1/\Zc s.2.2
 | 0,f+1,i,h,H,_,_,hc,hr=>by
  refine ⟨(i,h,H),?_,hc,hr⟩
  have:fW p (((0:Nat):Int),i,h,H.1,H.2)=some (.brk (0,i,h,H.1,H.2)):=by
   unfold fW;simp only;rw[if_neg (by simp)];rfl
  rw[ah,this]
 | n+1,f+1,i,h,H,hn,hf,hc,hr=>by
  obtain ⟨u,l⟩:=aR hr.1.2;have k:=hr.2;have j:=l _ (cw (xs:=H.2) (i:=(H.2.length:Int) - 1) (by omega) (by omega));obtain ⟨a,b,-,c⟩:=J9 (h:=h) e hc j (m:=4) (by decide);have b:iK (xs,i,h) ((nth H.2 ((H.2.length:Int) - 1)).1,(nth H.2 ((H.2.length:Int) - 1)).2) 4=_:=b;obtain ⟨x,d,q⟩:=QU H hr a.1;have d:bM (H.1,H.2) a.1=_:=d;obtain ⟨t,o,r,g⟩:=LY e hp n f (h:=a.2.2) (H:=x.1) (by omega) (by omega) c q;refine ⟨t,?_,r,g⟩
  have:fW p (((n+1:Nat):Int),i,h,H.1,H.2)=some (.nxt ((n:Int),a.2.1,a.2.2,x.1.1,x.1.2)):=by
   unfold fW;simp only;rw[if_pos (decide_eq_true (show ((n+1:Nat):Int)>0 by omega)),br (n:=(H.2.length:Int) - 1) (by omega) (by omega),aw (by omega) (by omega)];simp only[aa];rw[hp,b];simp only[aa];rw[d];simp only[aa];rw[show i64.wrap (((n+1:Nat):Int) - 1)=(n:Int) from by rw[br (by omega) (by omega)];omega]
  rw[ah,this];exact o
theorem aa7 (c:xs.length<=1048576) (I:gJ xs i): ∃r:q8×Int×Int,oR (xs,i,h)=some r/\Zc r.1/\gJ xs r.2.1:=by
 unfold oR;simp only;obtain ⟨b,D,⟨j,G⟩,o⟩:=LK (h:=h) c I;rw[D];simp only[aa];obtain ⟨a,z,J,y⟩:=bp (h:=b.2.2) c o (n:=4) (by omega);rw[z];simp only[aa];rw[br (n:=1+a.1) (by omega) (by omega)];have f:=adz j G (v:=1+a.1) (by omega);have f:gH (b.1.1,b.1.2) (1+a.1)=_:=f;rw[f];simp only[aa];obtain ⟨d,C,m,A⟩:=eN (h:=a.2.2) c y (l:=[3,5,10]) (by simp);rw[C];simp only[aa];have m:3<=d.1/\d.1<=10:=by simp at m;omega
 obtain ⟨e,B,K,x⟩:=bp (h:=d.2.2) c A (n:=d.1) (by omega);rw[B];simp only[aa];obtain ⟨k,E⟩: ∃k:Nat,e.1=(k:Int):=⟨e.1.toNat,by omega⟩;have q:Zc ((1+a.1,[b.1]):q8):=⟨yO (by simp) (fun g w=>by rw[al w];exact j),aH _⟩;obtain ⟨s,F,t,u⟩:=LY c (p:=(xs,i,h)) rfl k aU (h:=e.2.2) (H:=((1+a.1,[b.1]):q8)) (by omega) (by unfold aU;omega) x q;rw[E,aj F];exact ⟨_,rfl,u,t⟩
theorem YD (d:xs.length<=1048576) (A:gJ xs i): ∃r:q8×Int×Int,xV (xs,i,h)=some r/\Data.sm r.1/\gJ xs r.2.1:=by
 unfold xV;simp only;obtain ⟨m,y,o,q⟩:=aa7 (h:=h) d A;rw[y];simp only[aa];obtain ⟨a,v,-,c⟩:=bp (h:=m.2.2) d q (n:=14) (by omega);rw[v];simp only[aa];obtain ⟨e,f⟩:=aR o.1.2;have u:=o.2;by_cases p:(a.1==0)=true
 ·rw[if_pos p];obtain ⟨C,z,-,t⟩:=eN (h:=a.2.2) d c (l:=[0,999,998,1000]) (by simp);rw[z];exact ⟨_,rfl,yO e f,t⟩
 ·rw[if_neg p];by_cases k:(a.1==1)=true
  ·rw[if_pos k];obtain ⟨B,s,x,w⟩:=aaN (h:=a.2.2) d c;rw[s];simp only[aa];rw[br (n:=(m.1.2.length:Int) - 1) (by omega) (by omega),aw (by omega) (by omega)];refine ⟨_,rfl,yO (by rw[List.length_set];exact e) (fun g b=>?_),w⟩;rcases List.mem_or_eq_of_mem_set b with b | rfl
   ·exact f g b
   ·exact x
  ·rw[if_neg k];by_cases j:(a.1==2)=true
   ·rw[if_pos j];exact ⟨_,rfl,yO (Nat.zero_le _) (fun g b=>by cases b),c⟩
   ·rw[if_neg j];exact ⟨_,rfl,yO e f,c⟩
end
def mkB (l:List UInt8):ByteArray:=⟨l.toArray⟩
theorem YE (a b:List UInt8):mkB a++mkB b=mkB (a++b):=ByteArray.ext (by simp[mkB])
theorem aV (a:List UInt8):(mkB a).size=a.length:=by simp[mkB,ByteArray.size]
theorem gA (a:List UInt8):(mkB a).data.toList=a:=by simp[mkB]
theorem yQ (a b:List UInt8) (h:a.length+b.length<=9223372036854775807):jA (mkB a) (mkB b)=some (mkB (a++b)):=by
 unfold jA chk;rw[aV,aV,if_pos h,aa,YE]
theorem adV: ∀d:Fin 10,IntKind.u8.wrap (i64.wrap (48+(d.val:Int)))=48+(d.val:Int):=by decide
theorem adW {d:Nat} (h:d<10):nR [IntKind.u8.wrap (i64.wrap (48+(d:Int)))] =mkB [UInt8.ofNat (48+d)]:=by
 rw[adV ⟨d,h⟩];show ByteArray.empty.push (UInt8.ofNat (48+(d:Int)).toNat)=_;rw[show (48+(d:Int)).toNat=48+d by omega];rfl
theorem adX (m:Int):(if decide ((Int.tmod m 10)<0) then (some (i64.wrap (-(Int.tmod m 10)))) else (some (Int.tmod m 10)):Option Int)=some ((m.natAbs % 10:Nat):Int):=by
 by_cases h:m<0
 ·obtain ⟨k,rfl⟩: ∃k:Nat,m= -(k:Int):=⟨m.natAbs,by omega⟩;have e:Int.tmod (-(k:Int)) 10= -((k % 10:Nat):Int):=by rw[Int.neg_tmod];rfl
  rw[e,Int.natAbs_neg,Int.natAbs_natCast];by_cases a:k % 10=0
  ·rw[a];rfl
  ·rw[if_pos (decide_eq_true (by omega)),Int.neg_neg,br (by omega) (by omega)]
 ·obtain ⟨k,rfl⟩: ∃k:Nat,m=(k:Int):=⟨m.natAbs,by omega⟩;have e:Int.tmod (k:Int) 10=((k % 10:Nat):Int):=rfl;rw[e,if_neg (by simp;omega),Int.natAbs_natCast]
theorem adB {m:Int} (h:I64 m):GH m 10=m.tdiv 10/\(m.tdiv 10).natAbs=m.natAbs / 10:=by
 have k:(m.tdiv 10).natAbs=m.natAbs / 10:=Int.natAbs_tdiv m 10;unfold I64 at h;refine ⟨?_,k⟩;unfold GH;exact br (by omega) (by omega)
theorem YF {m:Int} {out:List UInt8} (a:m≠0) (h:I64 m) (b:out.length<=1000):eU (m,mkB out)=some (.nxt (m.tdiv 10,mkB (UInt8.ofNat (48+m.natAbs % 10)::out))):=by
 unfold eU;simp only[];rw[if_pos (by simpa using a),adX,aa,adW (Nat.mod_lt _ (by omega)),yQ _ _ (by simp;omega),aa,(adB h).1];rfl
theorem VN (u:Nat):1<=Lib.nDigits u:=by
 by_cases h:u<10
 ·rw[Lib.nDigits_small h];omega
 ·rw[Lib.nDigits_big h];omega
theorem Q4: ∀(k:Nat) (m:Int) (out:List UInt8),m≠0->I64 m->Lib.nDigits m.natAbs<=k->out.length+Lib.nDigits m.natAbs<=100->ah eU (k+1) (m,mkB out)=some (.brk (0,mkB (Lib.decDigits m.natAbs++out)))
 | 0,m,out,_,_,h,_=>by have:=VN m.natAbs;omega
 | k+1,m,out,h0,hm,h,hl=>by
  rw[ah,YF h0 hm (by omega)];show ah eU (k+1) (m.tdiv 10,_)=_;have a:=(adB hm).2;by_cases b:m.natAbs<10
  ·have c:m.tdiv 10=0:=by
    have:(m.tdiv 10).natAbs=0:=by rw[a];omega
    omega
   rw[c,ah]
   have:eU (0,mkB (UInt8.ofNat (48+m.natAbs % 10)::out))=some (.brk (0,mkB (UInt8.ofNat (48+m.natAbs % 10)::out))):=rfl
   rw[this,Lib.decDigits_one b,Nat.mod_eq_of_lt b];rfl
  ·have c:m.tdiv 10≠0:=by
    intro e;rw[e] at a
    have:m.natAbs / 10=0:=by simpa using a.symm
    omega
   have f:=Lib.nDigits_big b;have d:I64 (m.tdiv 10):=by unfold I64 at hm⊢;omega
   rw[Q4 k _ _ c d (by rw[a];omega) (by rw[a,aq];omega),a]
   have:Lib.decDigits m.natAbs=Lib.decDigits (m.natAbs / 10)++ [UInt8.ofNat (48+m.natAbs % 10)]:=by rw[Lib.decDigits,dif_neg b]
   rw[this,aC];rfl
theorem tu {n:Int} (h:I64 n):(Lib.itoa n).length<=21:=Lib.itoa_length_le n h.1 h.2
theorem acV {n:Int} (h:I64 n):Lib.nDigits n.natAbs<=21:=by
 have:=tu h
 unfold Lib.itoa at this;split at this
 ·rw[aq,Lib.decDigits_length] at this;omega
 ·rw[Lib.decDigits_length] at this;rw[show n.natAbs=n.toNat by omega];exact this
theorem qH {n:Int} (h:I64 n):cr n=some (mkB (Lib.itoa n)):=by
 unfold cr;by_cases b:n=0
 ·subst b;rw[if_pos (by rfl:((0:Int)==0)=true)]
  have:Lib.itoa 0= [48]:=by unfold Lib.itoa;rw[if_neg (by decide)];exact Lib.decDigits_one (by decide)
  rw[this];rfl
 rw[if_neg (by simpa using b)];have d:=acV h;have f:=dq 100 (by omega);obtain ⟨k,e⟩: ∃k,aU=k+1:=⟨aU - 1,by omega⟩;have c:ah eU aU (n,(⟨#[]⟩:ByteArray))=some (.brk (0,mkB (Lib.decDigits n.natAbs++ []))):=by
  rw[e];exact Q4 k n [] b h (by omega) (by simp;omega)
 rw[aj c,List.append_nil];have g:(Lib.decDigits n.natAbs).length<=21:=by rw[Lib.decDigits_length];exact d
 unfold Lib.itoa;by_cases a:n<0
 ·rw[if_pos (decide_eq_true a),if_pos a];show (jA (mkB [45]) _).bind _=_;rw[yQ _ _ (by simp;omega)];rfl
 ·rw[if_neg (by simpa using a),if_neg a,show n.natAbs=n.toNat by omega]
theorem yR {n:Int} (h:I64 n):eC n=some (mkB (Lib.itoa n)):=by
 unfold eC oq R.TE chk;rw[if_pos (show -9223372036854775808<=n/\n<=9223372036854775807 from h)];rfl
theorem Q5 (xs:List (List UInt8)) (y sep:List UInt8):Lib.join (xs++ [y]) sep=if xs= [] then y else Lib.join xs sep++sep++y:=by
 cases xs with
 | nil=>rw[if_pos rfl];exact Lib.join_one _ _
 | cons x r =>
  rw[if_neg (by simp),List.cons_append,Lib.join_cons,Lib.join_cons];simp[Lib.joinTail,aC]
theorem C2: ∀(a:List UInt8) (acc:Nat) (b:List UInt8),Lib.decFrom acc (a++b)=(Lib.decFrom acc a).bind fun m=>Lib.decFrom m b
 | [],acc,b=>rfl
 | x::a,acc,b=>by
  rw[List.cons_append,Lib.decFrom,Lib.decFrom];cases Lib.digitVal x with
  | none=>rfl
  | some d=>exact C2 a _ b
theorem Q6 {d:Nat} (h:d<10):Lib.digitVal (UInt8.ofNat (48+d))=some d:=by
 have e:(UInt8.ofNat (48+d)).toNat=48+d:=by simp;omega
 unfold Lib.digitVal;rw[e,if_pos ⟨by omega,by omega⟩];congr 1;omega
theorem Bf {u:Nat} (h: ¬u<10):Lib.decDigits u=Lib.decDigits (u / 10)++ [UInt8.ofNat (48+u % 10)]:=by rw[Lib.decDigits,dif_neg h]
theorem Kc (u:Nat):Lib.decFrom 0 (Lib.decDigits u)=some u:=by
 induction u using Nat.strongRecOn with
 | _ u a =>
  by_cases h:u<10
  ·rw[Lib.decDigits_one h,Lib.decFrom,Q6 h];simp[Lib.decFrom]
  ·rw[Bf h,C2,a (u / 10) (by omega),aa,Lib.decFrom,Q6 (Nat.mod_lt _ (by omega))];simp only[Lib.decFrom];congr 1;omega
theorem aa8 (u:Nat):Lib.decDigits u≠ []:=fun h=>by
 have:=Lib.decDigits_length u
 rw[h] at this
 have:=VN u
 simp at *;omega
theorem EG (u:Nat):Lib.decNat (Lib.decDigits u)=some u:=by
 unfold Lib.decNat;rw[if_neg (by simpa using aa8 u),Kc]
theorem LZ (u:Nat): ∃d r,d<10/\Lib.decDigits u=UInt8.ofNat (48+d)::r:=by
 induction u using Nat.strongRecOn with
 | _ u b =>
  by_cases h:u<10
  ·exact ⟨u,[],h,Lib.decDigits_one h⟩
  ·obtain ⟨d,r,a,e⟩:=b (u / 10) (by omega);exact ⟨d,_,a,by rw[Bf h,e];rfl⟩
theorem Ke {d:Nat} (h:d<10):(UInt8.ofNat (48+d)==45)=false/\(UInt8.ofNat (48+d)==43)=false:=by
 have: ∀d:Fin 10,(UInt8.ofNat (48+d.val)==45)=false/\(UInt8.ofNat (48+d.val)==43)=false:=by decide
 exact this ⟨d,h⟩
theorem Q7 (n:Int):Lib.atoi (Lib.itoa n)=some n:=by
 unfold Lib.itoa;by_cases h:n<0
 ·rw[if_pos h];show (Lib.decNat (Lib.decDigits n.natAbs)).map (fun (m:Nat)=> -(m:Int))=_;rw[EG];simp;omega
 ·rw[if_neg h];obtain ⟨d,r,a,e⟩:=LZ n.toNat;have k:=EG n.toNat;rw[e] at k⊢;show (if (UInt8.ofNat (48+d)==45)=true then _ else if (UInt8.ofNat (48+d)==43)=true then _ else _)=_;rw[if_neg (by rw[(Ke a).1];decide),if_neg (by rw[(Ke a).2];decide),k];simp;omega
def dst (p:Nat×Nat) (b:UInt8):Nat×Nat:=if 48<=b.toNat/\b.toNat<=57 then (p.1*10+(b.toNat - 48),p.2+1) else p
theorem Q8 {d:Nat} (h:d<10) (p:Nat×Nat):dst p (UInt8.ofNat (48+d))=(p.1*10+d,p.2+1):=by
 have e:(UInt8.ofNat (48+d)).toNat=48+d:=by simp;omega
 unfold dst;rw[e,if_pos ⟨by omega,by omega⟩,show 48+d - 48=d by omega]
theorem Q9 (u:Nat):(Lib.decDigits u).foldl dst (0,0)=(u,Lib.nDigits u):=by
 induction u using Nat.strongRecOn with
 | _ u a =>
  by_cases h:u<10
  ·rw[Lib.decDigits_one h,List.foldl_cons,List.foldl_nil,Q8 h,Lib.nDigits_small h];simp
  ·rw[Bf h,List.foldl_append,a (u / 10) (by omega),List.foldl_cons,List.foldl_nil,Q8 (Nat.mod_lt _ (by omega)),Lib.nDigits_big h];congr 1;show u / 10*10+u % 10=u;omega
theorem Uq (n:Int):(Lib.itoa n).foldl dst (0,0)=(n.natAbs,Lib.nDigits n.natAbs):=by
 unfold Lib.itoa;split
 ·rw[List.foldl_cons,show dst (0,0) 45=(0,0) from rfl,Q9]
 ·rw[Q9,show n.toNat=n.natAbs by omega]
theorem VO: ∀(l:List UInt8) (p:Nat×Nat),p.1<10 ^ p.2->(l.foldl dst p).1<10 ^ (l.foldl dst p).2
 | [],p,h=>h
 | b::l,p,h=>by
  rw[List.foldl_cons];refine VO l _ ?_;unfold dst;split
  ·rename_i k;show p.1*10+(b.toNat - 48)<10 ^ (p.2+1);rw[Nat.pow_succ];omega
  ·exact h
theorem VP: ∀(l:List UInt8) (p:Nat×Nat),(l.foldl dst p).2<=p.2+l.length
 | [],p=>by simp
 | b::l,p=>by
  rw[List.foldl_cons]
  have:=VP l (dst p b)
  have h:(dst p b).2<=p.2+1:=by unfold dst;split <;> simp
  rw[aq];omega
theorem aa9: ∀(k u:Nat),1<=k->u<10 ^ k->Lib.nDigits u<=k
 | 0,u,h,_=>by omega
 | k+1,u,_,h=>by
  by_cases a:u<10
  ·rw[Lib.nDigits_small a];omega
  ·rw[Lib.nDigits_big a];have b:1<=k:=by
    rcases k with _ | k
    ·omega
    ·omega
   have:=aa9 k (u / 10) b (by omega)
   omega
theorem u8W: ∀d:Fin 10,i64.wrap (IntKind.u8.wrap (d.val:Int))=(d.val:Int):=by decide
theorem Bg {s:ByteArray} {i:Nat} (h:i<s.size):jB s (i:Int)=some (((s.data.toList[i]'(by simp_all)).toNat:Nat):Int):=by
 simp_all[jB,chk,if_pos,aa,List.getD_eq_getElem?_getD,List.getElem?_eq_getElem]
def dtk (s:ByteArray) (i:Nat):Nat×Nat:=(s.data.toList.take i).foldl dst (0,0)
theorem Ra (s:ByteArray) (i:Nat):(dtk s i).1<10 ^ (dtk s i).2/\(dtk s i).2<=i:=by
 grind[VO,VP,aB,dtk]
theorem YG (s:ByteArray):ah (jO s) aU (0,0,0)=some (.brk (((dtk s (min s.size 11)).1:Int),((dtk s (min s.size 11)).2:Int),((min s.size 11:Nat):Int))):=by
 refine aY (f:=jO s) (fun i=>(((dtk s i).1:Int),((dtk s i).2:Int),(i:Int))) (min s.size 11) (fun i m=>?_) ?_ (dq _ (by omega))
 ·have c:i<s.size:=by omega
  have j:i<s.data.toList.length:=by simpa using c
  have a:dtk s (i+1)=dst (dtk s i) (s.data.toList[i]):=by
   unfold dtk;rw[List.take_succ_eq_append_getElem j,List.foldl_append];rfl
  have ⟨k,l⟩:=Ra s i;have o:10 ^ (dtk s i).2<=10 ^ 10:=Nat.pow_le_pow_right (by omega) (by omega);unfold jO;simp only[];rw[if_pos (decide_eq_true (by omega)),if_pos (decide_eq_true (by omega)),Bg c,a];generalize s.data.toList[i] =b;generalize dtk s i=p at *;simp only[aa];unfold dst;by_cases g:48<=b.toNat
  ·rw[if_pos (decide_eq_true (by omega))];by_cases h:b.toNat<=57
   ·rw[if_pos (decide_eq_true (by omega)),if_pos ⟨g,h⟩];have ⟨d,a,e⟩: ∃d,d<10/\b.toNat=48+d:=⟨b.toNat - 48,by omega,by omega⟩;rw[e,show ((48+d:Nat):Int) - 48=(d:Int) by omega,u8W ⟨d,a⟩];simp only[aa];rw[br (n:=(p.1:Int)*10) (by omega) (by omega),br (by omega) (by omega),af (by omega),af (by omega)];congr 4;omega
   ·rw[if_neg (by grind),if_neg (by omega)];simp only[aa];rw[af (by omega)]
  ·rw[if_neg (by grind),if_neg (by omega)];simp only[aa];rw[af (by omega)]
 grind[jO]
def sgn (s:ByteArray):Int:=if s.data.toList.head? =some 45 then -((dtk s (min s.size 11)).1:Int) else ((dtk s (min s.size 11)).1:Int)
theorem VQ (s:ByteArray):(sgn s).natAbs<10 ^ (dtk s (min s.size 11)).2/\(sgn s).natAbs<10 ^ 11:=by
 have ⟨c,b⟩:=Ra s (min s.size 11);have a:10 ^ (dtk s (min s.size 11)).2<=10 ^ 11:=Nat.pow_le_pow_right (by omega) (by omega);grind[sgn,dtk,min]
theorem VR (s:ByteArray):iC s=if 9<(dtk s (min s.size 11)).2\/10<s.size then some (0,false) else if mkB (Lib.itoa (sgn s))=s then some (sgn s,true) else some (0,false):=by
 have m:=(VQ s).2;have d:I64 (sgn s):=by unfold I64;omega
 have ⟨o,k⟩:=Ra s (min s.size 11);have p:10 ^ (dtk s (min s.size 11)).2<=10 ^ 11:=Nat.pow_le_pow_right (by omega) (by omega);have fin: ∀z:Int,z=sgn s->(if decide (((dtk s (min s.size 11)).2:Int)>9) then (some (0,false)) else (if decide (((s.size:Nat):Int)>10) then (some (0,false)) else ((cr z).bind fun a=>if a !=s then (some (0,false)) else (some (z,true)))):Option (Int×Bool))=if 9<(dtk s (min s.size 11)).2\/10<s.size then some (0,false) else if mkB (Lib.itoa (sgn s))=s then some (sgn s,true) else some (0,false):=by
  rintro z rfl;by_cases l:9<(dtk s (min s.size 11)).2
  ·grind
  ·rw[if_neg (by grind)];by_cases j:10<s.size
   ·grind
   ·rw[if_neg (by grind),if_neg (by omega),qH d,aa];grind
 unfold iC;rw[aj (YG s)];simp only[];by_cases b:0<s.size
 ·rw[if_pos (decide_eq_true (by omega))];have g:0<s.data.toList.length:=by simpa using b
  have h:jB s 0=some (((s.data.toList[0]).toNat:Nat):Int):=Bg (i:=0) b;have n:s.data.toList.head? =some s.data.toList[0]:=by rw[List.head?_eq_getElem?,List.getElem?_eq_getElem g]
  rw[h,aa];by_cases c:s.data.toList[0] =45
  ·rw[if_pos (by simp_all),aa,br (by omega) (by omega)];simp_all[sgn,if_pos]
  ·have f:=fun e=>c (UInt8.toNat_inj.1 e);rw[if_neg (fun e=>f (by grind)),aa];grind[sgn]
 ·simp_all[sgn,if_neg]
theorem Ur {n:Int} (h: -999999999<=n/\n<=999999999):Lib.nDigits n.natAbs<=9/\(Lib.itoa n).length<=10:=by
 have k:Lib.nDigits n.natAbs<=9:=aa9 9 _ (by omega) (by omega);grind[Lib.itoa,aq,Lib.decDigits_length]
theorem Rb (n:Int):((Lib.itoa n).head? =some 45)↔n<0:=by
 unfold Lib.itoa;split
 ·grind
 ·have ⟨d,r,a,e⟩:=LZ n.toNat;grind[Ke,List.head?_cons,Option.some.injEq]
theorem Gr {n:Int} (h: -999999999<=n/\n<=999999999):iC (mkB (Lib.itoa n))=some (n,true)/\iE (mkB (Lib.itoa n))=some (n,true):=by
 have ⟨d,a⟩:=Ur h;constructor
 ·have b:dtk (mkB (Lib.itoa n)) (min (mkB (Lib.itoa n)).size 11)=(n.natAbs,Lib.nDigits n.natAbs):=by
   unfold dtk;grind[gA,aV,Nat.min_eq_left,List.take_length,Uq]
  have e:sgn (mkB (Lib.itoa n))=n:=by
   unfold sgn;rw[b,gA];by_cases c:n<0
   ·rw[if_pos ((Rb n).2 c)];omega
   ·rw[if_neg fun k=>c ((Rb n).1 k)];omega
  simp_all[VR,aV,if_neg,if_pos]
 ·unfold iE R.tX;rw[aV,gA,if_neg (by omega),Q7];show (if _ then _ else _)=_;rw[if_pos ⟨rfl,h.1,h.2⟩]
theorem Us {s:ByteArray} (h: ¬ ∃n:Int,(-999999999<=n/\n<=999999999)/\s=mkB (Lib.itoa n)):iC s=some (0,false)/\iE s=some (0,false):=by
 constructor
 ·rw[VR];by_cases c:9<(dtk s (min s.size 11)).2\/10<s.size
  ·grind
  ·have a:=(VQ s).1;have d:10 ^ (dtk s (min s.size 11)).2<=10 ^ 9:=Nat.pow_le_pow_right (by omega) (by omega);grind
 ·unfold iE R.tX;by_cases c:10<s.size
  ·grind
  ·rw[if_neg c];cases b:Lib.atoi s.data.toList with
   | none=>rfl
   | some n =>
    show (if _ then _ else _)=_;rw[if_neg fun k=>h ⟨n,k.2,k.1.symm⟩]
theorem sM (s:ByteArray): ∃r:Int×Bool,iC s=some r/\iE s=some r/\((r.2=true/\(-999999999<=r.1/\r.1<=999999999)/\s=mkB (Lib.itoa r.1))\/r=(0,false)):=by
 grind[mkB,Lib.itoa,Gr,Us]
theorem Gs (s:ByteArray):iB s=lS s:=by
 have e:hO s=pF s:=by
  funext p;unfold hO pF;rw[Int.mul_comm p.1 257]
 unfold iB lS;rw[e]
theorem Az (s:ByteArray) (h:s.size<=9223372036854775806): ∃r:Int,iB s=some r/\lS s=some r/\0<=r/\r<=9972:=by
 obtain ⟨p,e,a,c,g⟩:=gz (f:=hO s) (fun i p=>p.2=(i:Int)/\0<=p.1/\p.1<=9972) s.size (fun i p l d=>by
  obtain ⟨n,j⟩:=p;obtain ⟨a,c,g⟩:=d;simp only at a c g;subst a;unfold hO;simp only[];rw[if_pos (decide_eq_true (by omega)),Bg l];simp only[aa];generalize s.data.toList[i] =b;have m:b.toNat<256:=b.toNat_lt;rw[br (n:=((b.toNat:Nat):Int)) (by omega) (by omega),br (n:=n*257) (by omega) (by omega),br (n:=n*257+(b.toNat:Int)) (by omega) (by omega),br (n:=n*257+(b.toNat:Int)+1) (by omega) (by omega),af (by omega)];refine ⟨_,rfl,rfl,?_,?_⟩
  ·exact Int.tmod_nonneg _ (by omega)
  ·have:Int.tmod (n*257+(b.toNat:Int)+1) 9973<9973:=Int.tmod_lt_of_pos _ (by decide)
   show Int.tmod (n*257+(b.toNat:Int)+1) 9973<=9972;omega) (fun p d=>by
  obtain ⟨n,j⟩:=p;obtain ⟨a,-⟩:=d;simp only at a;subst a;unfold hO;simp only[];rw[if_neg (by simp)]) (s:=(1,0)) ⟨rfl,by decide,by decide⟩ (dq _ (by omega))
 have k:iB s=some p.1:=by
  unfold iB;rw[aj e]
 exact ⟨p.1,k,by rw[<-Gs];exact k,c,g⟩
def edOk (e:Int×Int×Int×Int):Prop:=(1<=e.1/\e.1<=99)/\(0<=e.2.1/\e.2.1<=4)/\(0<=e.2.2.1/\e.2.2.1<=4)/\(0<=e.2.2.2/\e.2.2.2<=2)
instance (e:Int×Int×Int×Int):Decidable (edOk e):=inferInstanceAs (Decidable (_/\_))
def uQ (e:Int×Int×Int×Int):List UInt8:=Lib.itoa e.1++ [58] ++Lib.itoa e.2.1++ [UInt8.ofNat (97+e.2.2.2.toNat)] ++Lib.itoa e.2.2.1
theorem Ut: ∀k:Fin 3,fS (i64.wrap (2*(k.val:Int)))=some (mkB [UInt8.ofNat (97+k.val)]):=by
 intro k
 match k with
 | ⟨0,_⟩=>rfl
 | ⟨1,_⟩=>rfl
 | ⟨2,_⟩=>rfl
theorem Uu: ∀k:Fin 3,lG (⟨#[97,98,99]⟩) (k.val:Int) (i64.wrap ((k.val:Int)+1))=some (mkB [UInt8.ofNat (97+k.val)]):=by
 intro k
 match k with
 | ⟨0,_⟩=>rfl
 | ⟨1,_⟩=>rfl
 | ⟨2,_⟩=>rfl
theorem Rc (e:Int×Int×Int×Int):kP e=some (if edOk e then mkB (uQ e) else mkB []):=by
 unfold kP;rw[AP,AP,AP,AP];simp only[aa];by_cases h:edOk e
 ·obtain ⟨l,i,n,m⟩:=h;rw[if_pos (decide_eq_true l),if_pos (decide_eq_true i),if_pos (decide_eq_true n),if_pos (decide_eq_true m),if_pos ⟨l,i,n,m⟩];have f:I64 e.1:=by unfold I64;omega
  have g:I64 e.2.1:=by unfold I64;omega
  have o:I64 e.2.2.1:=by unfold I64;omega
  have t:=tu f;have r:=tu g;have s:=tu o;obtain ⟨k,q,j⟩: ∃k:Nat,k<3/\e.2.2.2=(k:Int):=⟨e.2.2.2.toNat,by omega,by omega⟩;rw[qH f,qH g,qH o,j,Ut ⟨k,q⟩];simp only[aa];have p:jA (mkB (Lib.itoa e.1)) (⟨#[58]⟩)=some (mkB (Lib.itoa e.1++ [58])):=yQ _ [58] (by simp;omega);rw[p];simp only[aa];rw[yQ _ _ (by simp;omega)];simp only[aa];rw[yQ _ _ (by simp;omega)];simp only[aa];rw[yQ _ _ (by simp;omega)];simp only[aa];unfold uQ;rw[j];rfl
 ·rw[if_neg h];split
  ·split
   ·split
    ·split
     ·rename_i a b c d;exact absurd ⟨of_decide_eq_true a,of_decide_eq_true b,of_decide_eq_true c,of_decide_eq_true d⟩ h
     ·rfl
    ·rfl
   ·rfl
  ·rfl
theorem Rd (e:Int×Int×Int×Int):kX e=some (if edOk e then mkB (uQ e) else mkB []):=by
 have m:i64.wrap (5 - 1)=4:=by decide
 have d:jj (e.1,e.2.1,e.2.2.1,e.2.2.2) 5=some (decide (edOk e)):=by
  unfold jj;rw[m,JP,JP,JP,JP];simp only[aa];by_cases b:1<=e.1/\e.1<=99
  ·rw[if_pos (decide_eq_true b)];by_cases a:0<=e.2.1/\e.2.1<=4
   ·rw[if_pos (decide_eq_true a)];by_cases c:0<=e.2.2.1/\e.2.2.1<=4
    ·rw[if_pos (decide_eq_true c)];congr 1;exact decide_eq_decide.2 ⟨fun j=>⟨b,a,c,j⟩,fun h=>h.2.2.2⟩
    ·rw[if_neg (by simpa using c),decide_eq_false (fun h:edOk e=>c h.2.2.1)]
   ·rw[if_neg (by simpa using a),decide_eq_false (fun h:edOk e=>a h.2.1)]
  ·rw[if_neg (by simpa using b),decide_eq_false (fun h:edOk e=>b h.1)]
 unfold kX;rw[d];simp only[aa];by_cases h:edOk e
 ·rw[if_pos (decide_eq_true h),if_pos h];obtain ⟨b,a,c,j⟩:=h;have f:I64 e.1:=by unfold I64;omega
  have g:I64 e.2.1:=by unfold I64;omega
  have l:I64 e.2.2.1:=by unfold I64;omega
  have r:=tu f;have p:=tu g;have q:=tu l;obtain ⟨k,o,i⟩: ∃k:Nat,k<3/\e.2.2.2=(k:Int):=⟨e.2.2.2.toNat,by omega,by omega⟩;rw[yR f,yR g,yR l,i,Uu ⟨k,o⟩];simp only[aa];have n:jA (mkB (Lib.itoa e.1)) (⟨#[58]⟩)=some (mkB (Lib.itoa e.1++ [58])):=yQ _ [58] (by simp;omega);rw[n];simp only[aa];rw[yQ _ _ (by simp;omega)];simp only[aa];rw[yQ _ _ (by simp;omega)];simp only[aa];rw[yQ _ _ (by simp;omega)];simp only[aa];unfold uQ;rw[i];rfl
 ·rw[if_neg (by simpa using h),if_neg h];rfl
abbrev ChT:Type:=Bool×Int×Int×Int×Int
def q9 (c:ChT):List UInt8:=(if c.1 then 43 else 45)::uQ c.2
def btx (l:List ChT):List UInt8:=Lib.join (l.map q9) [32]
def zR (l:List ChT):Prop:= ∀c,c∈l->edOk c.2
theorem yS {e:Int×Int×Int×Int} (h:edOk e):(uQ e).length<=70:=by
 have ⟨b,a,c,d⟩:=h;grind[tu,I64,uQ,az,aq,aD]
theorem Re (e:Int×Int×Int×Int):(mkB (uQ e)==(⟨#[]⟩:ByteArray))=false:=by
 rw[beq_eq_false_iff_ne];intro k
 have:=congrArg ByteArray.size k
 rw[aV] at this;unfold uQ at this;simp[az,aq,aD] at this;have a:(⟨#[]⟩:ByteArray).size=0:=rfl;omega
theorem Rf: ∀(r:List ChT),zR r->(Lib.joinTail [32] (r.map q9)).length<=72*r.length
 | [],_=>by simp[Lib.joinTail]
 | c::r,h=>by
  have d:=Rf r fun q a=>h q (bq _ a);have b:=yS (h c (by simp));grind[Lib.joinTail,q9,az,aq,aD]
theorem C3 {l:List ChT} (h:zR l):(btx l).length<=72*l.length:=by
 cases l with
 | nil=>simp[btx,Lib.join_nil]
 | cons c r =>
  have d:=Rf r fun q a=>h q (bq _ a);have b:=yS (h c (by simp));unfold btx;rw[List.map_cons,Lib.join_cons,az,aq]
  have:(q9 c).length=(uQ c.2).length+1:=by unfold q9;rw[aq]
  omega
theorem Uv {l:List ChT} {i:Nat} (hi:i<l.length):btx (l.take (i+1))=if i=0 then q9 l[i] else btx (l.take i)++ [32] ++q9 l[i]:=by
 unfold btx;rw[List.take_succ_eq_append_getElem hi,aX,List.map_cons,List.map_nil,Q5];by_cases h:i=0
 ·grind
 ·rw[if_neg (by
   intro e;simp_all),if_neg h]
theorem Iy {l:List ChT} {i:Nat} (hi:i<l.length) (h:zR (l.take i)) (k:edOk l[i].2):zR (l.take (i+1)):=by
 rw[List.take_succ_eq_append_getElem hi];intro c a;rcases aE a with a | a
 ·exact h c a
 grind
theorem YH {l:List ChT} (r:l.length<=6):(zR l/\ah (gp l) aU (([] :List ByteArray),0)=some (.brk (l.map (fun c=>mkB (q9 c)),(l.length:Int))))\/(¬zR l/\ah (gp l) aU (([] :List ByteArray),0)=some (.ret (mkB []))):=by
 have ⟨o,e,u⟩:=b9 (f:=gp l) (fun i s=>s=((l.take i).map (fun c=>mkB (q9 c)),(i:Int))/\zR (l.take i)) (fun o=>(zR l/\o= .brk (l.map (fun c=>mkB (q9 c)),(l.length:Int)))\/(¬zR l/\o= .ret (mkB []))) l.length (fun i s p j=>by
  obtain ⟨rfl,n⟩:=j;unfold gp;by_cases a:i<l.length
  ·rw[bL a,if_pos rfl,aM a];simp only[aa];rw[Rd];simp only[aa];by_cases k:edOk l[i].2
   ·have v:=yS k;have m:jA (⟨#[43]⟩) (mkB (uQ l[i].2))=some (mkB (43::uQ l[i].2)):=yQ [43] _ (by grind);have d:jA (⟨#[45]⟩) (mkB (uQ l[i].2))=some (mkB (45::uQ l[i].2)):=yQ [45] _ (by grind);have b: ∀z:ByteArray,bw 16 ((l.take i).map (fun c=>mkB (q9 c))) [z] =some ((l.take i).map (fun c=>mkB (q9 c))++ [z]):=fun z=>ax (by grind);refine .inl ⟨a,((l.take (i+1)).map (fun c=>mkB (q9 c)),((i+1:Nat):Int)),?_,rfl,Iy a n k⟩;rw[if_pos k,if_neg (by rw[Re];decide),m,d];simp only[aa];rw[b,b,List.take_succ_eq_append_getElem a,aX,List.map_cons,List.map_nil,<-af (show i<9223372036854775807 by omega)];have g:q9 l[i] =(if l[i].1=true then 43 else 45)::uQ l[i].2:=rfl;rw[g];generalize l[i].1=t;cases t <;> rfl
   ·refine .inr ⟨.ret (mkB []),?_,fun q h=>(by grind),.inr ⟨fun h=>k (h _ (List.getElem_mem a)),rfl⟩⟩;rw[if_neg k];rfl
  ·obtain rfl:i=l.length:=by omega
   grind) (s:=([],0)) ⟨rfl,fun c w=>by grind⟩ (dq _ (by omega))
 grind
theorem YI {l:List ChT} (G:l.length<=6):(zR l/\ah (gb l) aU ((⟨#[]⟩:ByteArray),0)=some (.brk (mkB (btx l),(l.length:Int))))\/(¬zR l/\ah (gb l) aU ((⟨#[]⟩:ByteArray),0)=some (.ret (mkB []))):=by
 have ⟨o,e,H⟩:=b9 (f:=gb l) (fun i s=>s=(mkB (btx (l.take i)),(i:Int))/\zR (l.take i)) (fun o=>(zR l/\o= .brk (mkB (btx l),(l.length:Int)))\/(¬zR l/\o= .ret (mkB []))) l.length (fun i s E A=>by
  obtain ⟨rfl,w⟩:=A;have z:=C3 w;rw[aB] at z;unfold gb;by_cases d:i<l.length
  ·rw[bL d,if_pos rfl,aM d];simp only[aa];rw[Rc];simp only[aa];by_cases k:edOk l[i].2
   ·have I:=yS k;refine .inl ⟨d,(mkB (btx (l.take (i+1))),((i+1:Nat):Int)),?_,rfl,Iy d w k⟩;rw[if_pos k,if_neg (by rw[Re];decide),Uv d,<-af (show i<9223372036854775807 by omega)];have x:q9 l[i] =(if l[i].1=true then 43 else 45)::uQ l[i].2:=rfl;rw[x];generalize l[i].1=t;have g: ∀(a:List UInt8) (b:UInt8),a.length<=1000->jA (mkB a) (mkB [b])=some (mkB (a++ [b])):=fun a b D=>yQ _ _ (by grind);have j: ∀(a:List UInt8) (b:UInt8),a.length<=1000->jA (mkB (a++ [b])) (mkB (uQ l[i].2))=some (mkB (a++b::uQ l[i].2)):=fun a b D=>by
     grind[yQ,aC]
    by_cases v:i=0
    ·subst v;have C:btx (l.take 0)= []:=rfl;have n:=g [] 43 (by simp);have p:=g [] 45 (by simp);have u:=j [] 43 (by simp);have r:=j [] 45 (by simp);have m:(⟨#[43]⟩:ByteArray)=mkB [43]:=rfl;have q:(⟨#[45]⟩:ByteArray)=mkB [45]:=rfl;rw[C,if_pos rfl,if_neg (by simp)];simp[aa];rw[m,q,n,p];simp only[aa];rw[u,r];cases t <;> rfl
    ·have B:=g (btx (l.take i)) 32 (by omega);have n:=g (btx (l.take i)++ [32]) 43 (by grind);have p:=g (btx (l.take i)++ [32]) 45 (by grind);have u:=j (btx (l.take i)++ [32]) 43 (by grind);have r:=j (btx (l.take i)++ [32]) 45 (by grind);have m:(⟨#[43]⟩:ByteArray)=mkB [43]:=rfl;have q:(⟨#[45]⟩:ByteArray)=mkB [45]:=rfl;have y:(⟨#[32]⟩:ByteArray)=mkB [32]:=rfl;rw[if_neg v,if_pos (decide_eq_true (by omega)),m,q,y,B];simp only[aa];rw[n,p];simp only[aa];rw[u,r];cases t <;> rfl
   ·refine .inr ⟨.ret (mkB []),?_,fun F h=>(by grind),.inr ⟨fun h=>k (h _ (List.getElem_mem d)),rfl⟩⟩;rw[if_neg k];rfl
  ·obtain rfl:i=l.length:=by omega
   grind) (s:=((⟨#[]⟩:ByteArray),0)) ⟨rfl,fun c J=>by grind⟩ (dq _ (by omega))
 grind
open Classical in
theorem rS (l:List ChT):dF l=some (if l.length<=6/\zR l then mkB (btx l) else mkB [])/\fA l=some (if l.length<=6/\zR l then mkB (btx l) else mkB []):=by
 unfold dF fA;by_cases a:l.length<=6
 ·have b: ¬decide ((l.length:Int)>6)=true:=by rw[decide_eq_true_eq];omega
  constructor
  ·rw[if_neg b];rcases YI a with ⟨h,e⟩ | ⟨h,e⟩
   ·rw[aj e,if_pos ⟨a,h⟩]
   ·rw[bD e,if_neg fun k=>h k.2]
  ·rw[if_neg b];rcases YH a with ⟨h,e⟩ | ⟨h,e⟩
   ·have c:=C3 h;rw[aj e,if_pos ⟨a,h⟩];show (lq (l.map fun p=>mkB (q9 p)) (mkB [32])).bind _=_;unfold lq R.TC chk;have e:(l.map fun p=>mkB (q9 p)).map (·.data.toList)=l.map q9:=by
     rw[List.map_map];exact List.map_congr_left fun p _=>gA _
    rw[e,gA,List.length_map,if_pos ⟨by omega,by show (btx l).length<=_;omega⟩];rfl
   ·rw[bD e,if_neg fun k=>h k.2]
 ·have b:decide ((l.length:Int)>6)=true:=decide_eq_true (by omega);constructor
  ·rw[if_pos b,if_neg fun k=>a k.1];rfl
  ·rw[if_pos b,if_neg fun k=>a k.1];rfl
theorem C4 (v:Int) (l:List ChT): ∃r:ByteArray,di v l=some r/\fY v l=some r/\r.size<=1000:=by
 obtain ⟨g,f⟩:=rS l;obtain ⟨t,u,z⟩: ∃t:List UInt8,(dF l=some (mkB t)/\fA l=some (mkB t))/\t.length<=432:=by
  by_cases h:l.length<=6/\zR l
  ·have:=C3 h.2
   refine ⟨btx l,⟨?_,?_⟩,by omega⟩
   ·rw[g,if_pos h]
   ·rw[f,if_pos h]
  ·refine ⟨[],⟨?_,?_⟩,by simp⟩
   ·rw[g,if_neg h]
   ·rw[f,if_neg h]
 obtain ⟨s,x⟩:=u;unfold di fY;rw[s,x,AP,JP];simp only[aa];by_cases hv:1<=v/\v<=999
 ·have c:I64 v:=by unfold I64;omega
  have A:=tu c;have n:jA (mkB (Lib.itoa v)) (⟨#[59]⟩)=some (mkB (Lib.itoa v++ [59])):=yQ _ [59] (by simp;omega);have i:jA (mkB (Lib.itoa v++ [59])) (mkB t)=some (mkB (Lib.itoa v++ [59] ++t)):=yQ _ _ (by simp;omega);have m:jA (mkB (Lib.itoa v++ [59] ++t)) (⟨#[59]⟩)=some (mkB (Lib.itoa v++ [59] ++t++ [59])):=yQ _ [59] (by simp;omega);obtain ⟨q,p,k,B,C⟩:=Az (mkB (Lib.itoa v++ [59] ++t++ [59])) (by rw[aV];simp;omega);have e:I64 q:=by unfold I64;omega
  have y:=tu e;have w:jA (mkB (Lib.itoa v++ [59] ++t++ [59])) (mkB (Lib.itoa q))=some (mkB (Lib.itoa v++ [59] ++t++ [59] ++Lib.itoa q)):=yQ _ _ (by simp;omega);have o:jA (mkB (Lib.itoa v++ [59] ++t++ [59] ++Lib.itoa q)) (⟨#[10]⟩)=some (mkB (Lib.itoa v++ [59] ++t++ [59] ++Lib.itoa q++ [10])):=yQ _ [10] (by simp;omega);have d:(mkB (Lib.itoa v++ [59] ++t++ [59] ++Lib.itoa q++ [10])).size<=1000:=by rw[aV];simp;omega
  have j:((⟨#[]⟩:ByteArray)).size<=1000:=by decide
  rw[decide_eq_true hv];simp only[if_true,qH c,yR c,qH e,yR e,n,i,m,p,k,w,o,aa];by_cases a:decide ((l.length:Int)>0)=true
  ·by_cases b:(mkB t==(⟨#[]⟩:ByteArray))=true
   ·simp only[if_pos a,if_pos b];exact ⟨_,rfl,rfl,j⟩
   ·simp only[if_pos a,if_neg b];exact ⟨_,rfl,rfl,d⟩
  ·by_cases b:(mkB t==(⟨#[]⟩:ByteArray))=true
   ·simp only[if_neg a,if_pos b];exact ⟨_,rfl,rfl,d⟩
   ·simp only[if_neg a,if_neg b];exact ⟨_,rfl,rfl,d⟩
 ·rw[decide_eq_false hv];exact ⟨_,rfl,rfl,by decide⟩
end D
end Go.Proofs.YtodbpnpbhpeepaaGreatDoor
