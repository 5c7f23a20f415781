/- FnEngineSteps: for every input the law returns true and changes nothing that was there. Part 8 of 9. -/
import Derived.Test.YtodbpnpbhpeepaaGreatDoorSC6
set_option synthInstance.maxSize 20000
set_option synthInstance.maxHeartbeats 2000000
set_option linter.unusedVariables false
set_option linter.unusedSimpArgs false
set_option linter.unnecessarySimpa false
set_option linter.unusedSectionVars false
set_option maxRecDepth 1000000
namespace Go.Proofs.YtodbpnpbhpeepaaGreatDoor
open Go.IntKind (i64)
namespace D
open Go.RowKit
section
variable {a:AutT} {n:Nat} {c:List Int}
theorem Lm (k:Nat) (s:Int):(List.range (k+1)).map (fun k=>ent a c s k)=(List.range k).map (fun k=>ent a c s k)++ [ent a c s k]:=by simp[List.range_succ]
theorem ab5 (V:VA a n) (e:n<=1000000) (d:c.length=n) {s:Nat} (hs:s<n):rf a c s=some (Gs a c s):=by
 unfold rf;rw[aA (by omega) (by omega)];simp only[aa]
 have:=aY (f:=oB a c s) (fun k=>(nth c (s:Int)::(List.range k).map (fun k=>ent a c s k),(k:Int))) 9 (fun k b=>by
  have g:=V.mv (s:=s) (k:=k) (by omega) (by omega) b;unfold oB;simp only;rw[if_pos (by simp;omega),V.get (by omega) (by omega)];simp only[aa];rw[V.get2 (by omega) (by omega) b,Lm];simp only[aa,af (show k<9223372036854775807 by omega)];by_cases h:mv a s k<0
  ·rw[if_pos (by simpa using h),aw (by simp;omega),show ent a c s k= -1 from by unfold ent;rw[if_pos h]];rfl
  ·rw[if_neg (by simpa using h),aA (by omega) (by omega)];simp only[aa];rw[aw (by simp;omega),show ent a c s k=nth c (mv a s k) from by unfold ent;rw[if_neg h]];rfl) (by unfold oB;simp) (by unfold aW;omega)
 exact ah this
theorem ab6 (V:VA a n) (i:n<=1000000) (g:c.length=n) {s:Nat} (hs:s<n):al (dG c (nth a.2.2 (s:Int))) aW (0,[nth c (s:Int)])=some (.brk (9,Gs a c s)):=by
 have d:=V.rowAt (s:=s) (by omega) (by omega);exact aY (f:=dG c (nth a.2.2 (s:Int))) (fun k=>((k:Int),nth c (s:Int)::(List.range k).map (fun k=>ent a c s k))) 9 (fun k b=>by
  have j:=V.mv (s:=s) (k:=k) (by omega) (by omega) b;unfold dG;simp only;rw[if_pos (by simp[d];omega),V.get2 (by omega) (by omega) b,Lm];simp only[aa,af (show k<9223372036854775807 by omega)];by_cases h:mv a s k<0
  ·have e:mv a s k= -1:=by omega
   rw[if_neg (by simp;omega)];simp only[aa];rw[aw (by simp;omega),show ent a c s k=mv a s k from by unfold ent;rw[if_pos h,e]];rfl
  ·rw[if_pos (by simp;omega),aA (by omega) (by omega)];simp only[aa];rw[aw (by simp;omega),show ent a c s k=nth c (mv a s k) from by unfold ent;rw[if_neg h]];rfl) (by unfold dG;simp[d]) (by unfold aW;omega)
theorem H3 {κ:Type} [DecidableEq κ] {l t r:List κ} {x:κ} (e:l=t++x::r) (b:x∉t):nbI l (some x)=(t.length:Int):=by
 subst e;simp only[nbI];rw[List.idxOf_append,if_neg b,List.idxOf_cons_self,Nat.zero_add]
def aak (l:List (List Int)) (x:List Int):Int:=if x∈l then nbI l (some x) else -1
theorem aal {l:List (List Int)} {x cs:List Int} {q:Int} (w:l.length<=1000000) (m:l.Nodup) (u: ∀y∈l,y.length<=1048576):al (gY (l,cs,q) x) aW (-1,0)=some (.brk (aak l x,(l.length:Int))):=by
 have:=aY (f:=gY (l,cs,q) x) (fun k=>(if x∈l.take k then nbI l (some x) else -1,(k:Int))) l.length (fun k b=>by
  unfold gY;simp only;rw[if_pos (by simp;omega),aA (by omega) (by omega)];simp only[aa,Int.toNat_natCast,af (show k<9223372036854775807 by omega)];obtain ⟨r,e,g⟩:=zS (nth l (k:Int)) x (u _ (cZ (by omega) (by omega)));rw[e,take_one b];simp only[aa,List.mem_append,List.mem_singleton];by_cases h:nth l (k:Int)=x
  ·have d:r=0:=g.2 h;have s:x∈l:=h ▸ cZ (by omega) (by omega);obtain ⟨q,i,o,t⟩:=qT s
   have:q=k:=by
    have v:l[q]? =some x:=by rw[List.getElem?_eq_getElem i,t]
    have j:l[k]? =some x:=by rw[List.getElem?_eq_getElem b,<-cB b,h]
    exact (List.getElem?_inj i m).1 (v.trans j.symm)
   subst this;rw[if_pos (by simp[d]),if_pos (.inr h.symm),o];rfl
  ·have d:r≠0:=fun e=>h (g.1 e);have p: ¬x=nth l (k:Int):=fun e=>h e.symm;rw[if_neg (by simpa using d)];simp[p]) (by unfold gY;simp) (oP (by omega))
 rw[List.take_of_length_le (aF _)] at this;exact this
theorem aam {l:List (List Int)} {x:List Int} {f:List Int->Option Bool} (r:l.length<=1000000) (j: ∀y∈l,f y=some (decide (y=x))):cC l f=some (aak l x):=by
 unfold cC;obtain ⟨o,e,m⟩:=b8 (f:=cX l f) (fun k s=>s=(k:Int)/\x∉l.take k) (fun o=>(x∈l/\o= .ret (nbI l (some x)))\/(x∉l/\ ∃s,o= .brk s)) l.length (s:=0) (by
  rintro k s q ⟨rfl,d⟩;unfold cX;by_cases b:k<l.length
  ·rw[if_pos (by simp;omega),aA (by omega) (by omega)];simp only[aa];rw[j _ (cZ (by omega) (by omega))];simp only[aa];by_cases h:nth l (k:Int)=x
   ·refine .inr ⟨_,by rw[if_pos (by simpa using h)],(fun i e=>by cases e),.inl ?_⟩;have p:x∈l:=h ▸ cZ (by omega) (by omega);refine ⟨p,?_⟩;have e:l=l.take k++(x::l.drop (k+1)):=by
     rw[<-h,cB b,<-List.drop_eq_getElem_cons b,List.take_append_drop]
    rw[H3 e d,aq,Nat.min_eq_left (by omega)]
   ·refine .inl ⟨b,_,by rw[if_neg (by simpa using h)],by rw[af (by omega)],?_⟩;rw[take_one b,List.mem_append,List.mem_singleton];rintro (g | g)
    ·exact d g
    ·exact h g.symm
  ·refine .inr ⟨_,by rw[if_neg (by simp;omega)],(fun i e=>by cases e),.inr ⟨?_,_,rfl⟩⟩;rwa [List.take_of_length_le (by omega)] at d) ⟨rfl,by simp⟩ (oP (by omega))
 unfold aak;rcases m with ⟨d,rfl⟩ | ⟨d,s,rfl⟩
 ·rw[bI e,if_pos d]
 ·rw[ah e,if_neg d]
theorem CQ {os:List (Option (List Int))} (h: ∀y,some y∈os->y.length=10): ∀y∈nbS [] os,y.length=10:=fun y b=>by
 rcases zM.1 b with b | b
 ·cases b
 ·exact h y b
theorem Eo (a:AutT) (c:List Int): ∀y,some y∈keys a c->y.length=10:=by
 intro y b;obtain ⟨s,-,e⟩:=List.mem_map.1 b;unfold Gt at e;split at e
 ·cases e
 ·rw[<-ae e];simp[Gs]
section
variable (V:VA a n) (hn:n<=1000000) (hc:c.length=n)
include V hn hc
theorem Ln (s:Nat):(nbS [] ((keys a c).take s)).length<=n:=by
 have:=sD ([] :List (List Int)) ((keys a c).take s)
 rw[aq,fP,V.len] at this;simp at this;omega
theorem TH {m:Int} :al (gZ a (c,m)) aW ([],[],0)=some (.brk (nbS [] (keys a c),Em a c,(n:Int))):=by
 have d:=V.len
 have:=aY (f:=gZ a (c,m)) (fun s=>(nbS [] ((keys a c).take s),nbR [] ((keys a c).take s),(s:Int))) n (fun s e=>by
  have g:=Ln V hn hc s;have i:(nbR [] ((keys a c).take s)).length<=n:=by rw[ji,aq,fP];omega
  unfold gZ;simp only;rw[if_pos (by simp;omega),aA (by omega) (by omega)];simp only[aa];rw[take_one (by rw[fP];omega),yt,vv,JE (by omega)];simp only[af (show s<9223372036854775807 by omega)];by_cases h:nth c (s:Int)<0
  ·rw[if_pos (by simpa using h),aw (by simp;omega),show Gt a c s=none from by unfold Gt;rw[if_pos h]];rfl
  ·rw[if_neg (by simpa using h),show Gt a c s=some (Gs a c s) from by unfold Gt;rw[if_neg h]];rw[show rf (a.1,a.2.1,a.2.2) c (s:Int)=some (Gs a c s) from ab5 V hn hc e];simp only[aa];rw[ah (aal (by omega) (uE (by simp)) (fun y b=>by rw[CQ (fun y b=>Eo a c y (List.mem_of_mem_take b)) y b];decide))];simp only;unfold aak;by_cases k:Gs a c s∈nbS [] ((keys a c).take s)
   ·obtain ⟨q,l,j,o⟩:=qT k;rw[if_pos k,oo k,j,if_neg (by simp)];simp only[aa];rw[aw (by simp;omega)];rfl
   ·rw[if_neg k,oq k,FR k,if_pos (show decide ((-1:Int)<0)=true from rfl),aw (by simp;omega)];simp only[aa];rw[aw (by simp;omega)];rfl) (by
  unfold gZ;simp only;rw[if_neg (by simp;omega)]) (oP (by omega))
 rw[show (keys a c).take n=keys a c from List.take_of_length_le (by rw[fP];omega)] at this;exact this
theorem TJ:fo a c=some (Em a c,(C4 a c:Int)):=by
 have d:=V.len;unfold fo
 have:=aY (f:=fu a c) (fun s=>(nbS [] ((keys a c).take s),nbR [] ((keys a c).take s),(s:Int))) n (fun s e=>by
  have g:=Ln V hn hc s;have i:(nbR [] ((keys a c).take s)).length<=n:=by rw[ji,aq,fP];omega
  unfold fu;simp only;rw[if_pos (by simp;omega),aA (by omega) (by omega)];simp only[aa];rw[take_one (by rw[fP];omega),yt,vv,JE (by omega)];simp only[af (show s<9223372036854775807 by omega)];by_cases h:nth c (s:Int)<0
  ·rw[if_pos (by simpa using h),aw (by simp;omega),show Gt a c s=none from by unfold Gt;rw[if_pos h]];rfl
  ·rw[if_neg (by simpa using h),show Gt a c s=some (Gs a c s) from by unfold Gt;rw[if_neg h],V.get (by omega) (by omega)];simp only[aa];rw[ah (ab6 V hn hc e)];simp only;rw[aam (x:=Gs a c s) (by omega) (fun y b=>by
    unfold jj;rw[yC _ _ (by rw[CQ (fun y b=>Eo a c y (List.mem_of_mem_take b)) y b];decide)];rfl)];simp only[aa]
   unfold aak;by_cases k:Gs a c s∈nbS [] ((keys a c).take s)
   ·obtain ⟨q,l,j,m⟩:=qT k;rw[if_pos k,oo k,j,if_neg (by simp)];simp only[aa];rw[aw (by simp;omega)];rfl
   ·rw[if_neg k,oq k,FR k,if_pos (show decide ((-1:Int)<0)=true from rfl),aw (by simp;omega)];simp only[aa];rw[aw (by simp;omega)];rfl) (by
  unfold fu;simp only;rw[if_neg (by simp;omega)]) (oP (by omega))
 rw[show (keys a c).take n=keys a c from List.take_of_length_le (by rw[fP];omega)] at this;exact ah this
end
end
section
variable {a:AutT} {n:Nat} (V:VA a n) (hn:n<=1000000)
include V hn
theorem H4 (s:Nat):(List.range (s+1)).map (fun s:Nat=>if nth (live a) (s:Int)=true then (if nth a.2.1 (s:Int)=true then (1:Int) else 0) else -1)=(List.range s).map (fun s:Nat=>if nth (live a) (s:Int)=true then (if nth a.2.1 (s:Int)=true then 1 else 0) else -1)++ [if nth (live a) (s:Int)=true then (if nth a.2.1 (s:Int)=true then 1 else 0) else -1]:=by simp[List.range_succ]
theorem aan:al (gX a (live a)) aW ([],0)=some (.brk (Vk a,(n:Int))):=by
 have b:=V.len;have c:(live a).length=n:=by rw[xc,b]
 have:=aY (f:=gX a (live a)) (fun s=>((List.range s).map (fun s:Nat=>if nth (live a) (s:Int)=true then (if nth a.2.1 (s:Int)=true then (1:Int) else 0) else -1),(s:Int))) n (fun s d=>by
  unfold gX;simp only;rw[if_pos (by simp;omega),V.acc (by omega) (by omega)];simp only[aa];rw[H4 V hn,aA (xs:=live a) (by omega) (by omega)];simp only[af (show s<9223372036854775807 by omega)];cases nth (live a) (s:Int) <;> cases nth a.2.1 (s:Int) <;> simp only[if_true,if_false,Bool.false_eq_true,aa] <;> rw[aw (by simp;omega)] <;> rfl) (by
  unfold gX;simp only;rw[if_neg (by simp;omega)]) (oP (by omega))
 unfold Vk;rw[b];exact this
theorem aao:al (dt a (live a)) aW ([],0)=some (.brk (Vk a,(n:Int))):=by
 have b:=V.len;have c:(live a).length=n:=by rw[xc,b]
 have:=aY (f:=dt a (live a)) (fun s=>((List.range s).map (fun s:Nat=>if nth (live a) (s:Int)=true then (if nth a.2.1 (s:Int)=true then (1:Int) else 0) else -1),(s:Int))) n (fun s d=>by
  unfold dt;simp only;rw[if_pos (by simp;omega),aA (xs:=live a) (by omega) (by omega)];simp only[aa];rw[H4 V hn,V.acc (by omega) (by omega)];simp only[af (show s<9223372036854775807 by omega)];cases nth (live a) (s:Int) <;> cases nth a.2.1 (s:Int) <;> simp only[if_true,if_false,Bool.false_eq_true,aa] <;> rw[aw (by simp;omega)] <;> rfl) (by
  unfold dt;simp only;rw[if_neg (by simp;omega)]) (oP (by omega))
 unfold Vk;rw[b];exact this
theorem Qf: ∃J,cI a (J+1)=cI a J/\kS a=some (cI a J):=by
 have b:=V.len;unfold kS;rw[show mY (a.1,a.2.1,a.2.2)=some (live a) from Vf V hn];simp only[aa];rw[ah (aan V hn)];obtain ⟨g,p,c⟩:=XZ a;obtain ⟨o,e,j,rfl,i⟩:=b8 (f:=mZ a) (fun j s=>s=(cI a j,(j:Int))/\j<=g) (fun o=> ∃j,o= .ret (cI a j)/\cI a (j+1)=cI a j) (g+1) (s:=(cI a 0,0)) (by
  rintro j s i ⟨rfl,l⟩;have d:(cI a j).length=n:=by rw[rJ,b]
  unfold mZ;simp only;rw[if_pos (by simp;omega),ah (TH V hn d)];simp only;obtain ⟨r,m,k⟩:=zS (Em a (cI a j)) (cI a j) (by rw[CO];omega);rw[m];simp only[aa,af (show j<9223372036854775807 by omega)];by_cases h:Em a (cI a j)=cI a j
  ·exact .inr ⟨_,by rw[if_pos (by simpa using k.2 h)],(fun q e=>by cases e),j,rfl,h⟩
  ·refine .inl ⟨by omega,(cI a (j+1),((j+1:Nat):Int)),by rw[if_neg (by simpa using fun e=>h (k.1 e))];rfl,rfl,?_⟩;by_cases e:j=g
   ·subst e;exact absurd c h
   ·omega) ⟨rfl,Nat.zero_le _⟩ (oP (by omega))
 exact ⟨j,i,bI e⟩
theorem Qg: ∃J,cI a (J+1)=cI a J/\eU a=some (cI a J):=by
 have b:=V.len;unfold eU;rw[show gk (a.1,a.2.1,a.2.2)=some (live a) from Z8 V hn];simp only[aa];rw[ah (aao V hn)];let c:Nat->Int:=fun j=>match j with | 0=> -1 | i+1=>(C4 a (cI a i):Int)
 obtain ⟨o,e,j,rfl,l⟩:=b8 (f:=gV a) (fun j s=>s=(cI a j,c j)/\(j:Int)<=c j+1) (fun o=> ∃j,o= .ret (cI a j)/\cI a (j+1)=cI a j) (n+2) (s:=(cI a 0,-1)) (by
  rintro j s l ⟨rfl,g⟩;have k:(cI a j).length=n:=by rw[rJ,b]
  have m:=JF a (cI a j);unfold gV;simp only;rw[show fo (a.1,a.2.1,a.2.2) (cI a j)=some (Em a (cI a j),(C4 a (cI a j):Int)) from TJ V hn k];simp only[aa];cases j with
  | zero =>
   refine .inl ⟨by omega,(cI a 1,c 1),by rw[if_neg (by show¬((C4 a (cI a 0):Int) == -1)=true;simp)];rfl,rfl,?_⟩;show (1:Int)<=(C4 a (cI a 0):Int)+1;omega
  | succ i =>
   obtain ⟨q,p⟩:=Qd a i;have d:c (i+1)=(C4 a (cI a i):Int):=rfl;rw[d] at g⊢;by_cases h:C4 a (cI a (i+1))=C4 a (cI a i)
   ·refine .inr ⟨.ret (cI a (i+2)),by rw[if_pos (by simp[h])];rfl,(fun r e=>by cases e),i+2,rfl,?_⟩
    have:=p h
    show Em a (cI a (i+2))=cI a (i+2);rw[this];exact this
   ·refine .inl ⟨?_,(cI a (i+2),c (i+2)),by rw[if_neg (by simp;omega)];rfl,rfl,?_⟩
    ·omega
    ·show ((i+1+1:Nat):Int)<=(C4 a (cI a (i+1)):Int)+1;omega) ⟨rfl,by show ((0:Nat):Int)<= -1+1;omega⟩ (oP (by omega))
 exact ⟨j,l,bI e⟩
theorem MZ: ∃c,kS a=some c/\eU a=some c/\c.length=n/\Em a c=c/\ ∃j,c=cI a j:=by
 obtain ⟨J,d,e⟩:=Qf V hn;obtain ⟨g,b,f⟩:=Qg V hn
 have:=Qe d b
 exact ⟨cI a J,e,by rw[this];exact f,by rw[rJ,V.len],d,J,rfl⟩
end
section
variable {κ:Type} [DecidableEq κ] [Inhabited κ] {nx:κ->List (Option κ)} {first:κ} {G:κ->Prop} {B N:Nat} {acc:κ->Bool}
theorem CR: ∀(l:List κ) (os:List (Option κ)),∀t∈nbR l os,-1<=t/\t<((nbS l os).length:Int)
 | l,[] =>fun t a=>by cases a
 | l,o::os=>fun t a=>by
  have hp:=nl (nbL l o) os;have b:=hp.length_le;rcases aE a with rfl | a
  ·show -1<=nbI l o/\nbI l o<((nbS (nbL l o) os).length:Int);cases o with
   | none=>exact ⟨by simp[nbI],by simp only[nbI];omega⟩
   | some y =>
    by_cases c:y∈l
    ·obtain ⟨q,d,e,-⟩:=qT c;rw[oo c] at b;rw[e];exact ⟨by omega,by rw[oo c];omega⟩
    ·rw[oq c] at b;rw[FR c];rw[az] at b;exact ⟨by omega,by rw[oq c];simp at b;omega⟩
  ·exact CR (nbL l o) os t a
theorem aap (H:NumOk nx first G B) (c:bfE nx first N):VA ((0,(bfS nx first N).map acc,bfR nx first N):AutT) N:=by
 have f:0<N:=by
  have:=HW (nx:=nx) (first:=first) N
  have:=(List.getElem?_eq_some_iff.1 this).1
  have:=c.1;omega
 have key: ∀i,i<=N-> ∀r∈bfR nx first i,r.length=9/\ ∀t∈r,-1<=t/\t<(N:Int):=by
  intro i;induction i with
  | zero=>intro _ r a;cases a
  | succ i ih =>
   intro e r a;have b:=c.2 i (by omega);rw[yu b] at a;rcases aG a with a | a
   ·exact ih (by omega) r a
   ·obtain rfl:=ak a;refine ⟨by rw[ji,H.len _ (mL H.g0 H.gn i _ (List.getElem_mem b))],fun t d=>?_⟩
    have:=CR _ _ t d
    rw[<-FL b] at this;have g:=(zN (nx:=nx) (first:=first) e).length_le
    have:=c.1
    omega
 exact ⟨by show ((bfS nx first N).map acc).length=N;rw[List.length_map];exact c.1.symm,⟨Int.le_refl _,by show (0:Int)<N;omega⟩,l6 c.2,fun r a=>(key N (aF _) r a).1,fun r a=>(key N (aF _) r a).2⟩
theorem Qh (c: ∀x,(nx x).length=9) (d:bfE nx first N):VA ((0,(bfS nx first N).map acc,bfR nx first N):AutT) N:=by
 have g:0<N:=by
  have:=HW (nx:=nx) (first:=first) N
  have:=(List.getElem?_eq_some_iff.1 this).1
  have:=d.1;omega
 have key: ∀i,i<=N-> ∀r∈bfR nx first i,r.length=9/\ ∀t∈r,-1<=t/\t<(N:Int):=by
  intro i;induction i with
  | zero=>intro _ r a;cases a
  | succ i ih =>
   intro f r a;have b:=d.2 i (by omega);rw[yu b] at a;rcases aG a with a | a
   ·exact ih (by omega) r a
   ·obtain rfl:=ak a;refine ⟨by rw[ji,c _],fun t e=>?_⟩
    have:=CR _ _ t e
    rw[<-FL b] at this;have h:=(zN (nx:=nx) (first:=first) f).length_le
    have:=d.1
    omega
 exact ⟨by show ((bfS nx first N).map acc).length=N;rw[List.length_map];exact d.1.symm,⟨Int.le_refl _,by show (0:Int)<N;omega⟩,l6 d.2,fun r a=>(key N (aF _) r a).1,fun r a=>(key N (aF _) r a).2⟩
end
theorem VA.self {a:AutT} {n:Nat} (v:VA a n):VA a a.2.1.length:=by
 have e:=v.len;subst e;exact v
theorem M0:VA nothing 1:=⟨rfl,⟨by decide,by decide⟩,rfl,fun r a=>by
 obtain rfl:=ak a
 decide,fun r a=>by
 obtain rfl:=ak a
 decide⟩
theorem JG {κ:Type} [DecidableEq κ] {nx:κ->List (Option κ)} {first:κ} {acc:κ->Bool} {most:Nat} : ∀(f i:Nat),(∀j,j<i->j<(bfS nx first j).length)->(bfS nx first i).length<=most->goM nx first acc most f i=((0,[],[]),false)\/ ∃N,bfE nx first N/\N<=most/\goM nx first acc most f i=((0,(bfS nx first N).map acc,bfR nx first N),true)
 | 0,i,_,_=>.inl rfl
 | f+1,i,h,hl=>by
  have a:=Qa h;rw[goM];by_cases c:i<(bfS nx first i).length
  ·rw[if_pos c];by_cases d:(bfS nx first (i+1)).length>most
   ·rw[if_pos d];exact .inl rfl
   ·rw[if_neg d];exact JG f (i+1) (fun j b=>by
     by_cases e:j=i
     ·subst e;exact c
     ·exact h j (by omega)) (by omega)
  ·rw[if_neg c];exact .inr ⟨i,⟨by omega,h⟩,by omega,by rw[List.take_of_length_le (by omega)]⟩
def acZ (x:Tr Tok):Prop:= ∀(n:Nat) (p:El),(flat x).length<=n->p.2.2.2.1.length=p.1.length->p.1.length+(flat x).length<=100000->
 ∃(nu:Bool) (fi la:Int) (q:El),cO n p (flat x)=some ((nu,fi,la),q)/\q.2.2.2.1.length=q.1.length/\q.1.length<=p.1.length+(flat x).length
theorem TK {x:Tr Tok} (h:WT x):acZ x:=by
 refine WT.ind (p:=acZ) ?_ ?_ ?_ h
 ·intro t e n p c o f;rw[FM] at c f⊢;simp[ay,aD] at f
  match n,c with
  | n+1,_ =>
   rw[cO]
   have:=(lE (A:=[]) (t:=t) (by simp)).1
   rw[List.nil_append] at this;rw[this];simp only[aa,gJ];rcases np (show 0<=ar t by omega) with ⟨k,_⟩ | ⟨k,_⟩ | ⟨_,k⟩
   ·omega
   ·omega
   rcases k with k | k | k
   ·exact ⟨false,0,0,p,by simp[k],o,by simp⟩
   ·exact ⟨true,0,0,p,by simp[k],o,by simp⟩
   ·refine ⟨false,C7 1 (p.1.length:Int),C7 1 (p.1.length:Int),(p.1++ [t.2.1],p.2.1,p.2.2.1,p.2.2.2.1++ [0],p.2.2.2.2),?_,by grind,by simp⟩;rw[if_neg (by simp[k]),if_pos (by simp[k]),aw (by grind)];simp[aa];rw[aw (by simp;omega)];rfl
 ·intro t a e K U n p c o f;rw[DA] at c f⊢;simp[az,ay,aD] at c f
  match n,c with
  | n+1,c =>
   rw[cO];simp only[gJ];have ⟨G,C⟩:=lE (A:=flat a) (t:=t) (by omega);rw[G];simp only[aa];have ⟨m,B,u,q,D,g,E⟩:=U n p (by omega) o (by omega);rcases PV e with ⟨N,w⟩ | ⟨N,w,V⟩
   ·have z:(t.1==2)=false:=by simp[w]
    have s:(t.1==3)=false:=by simp[w]
    have r:(t.1==4)=false:=by simp[w]
    have y:(t.1==5)=false:=by simp[w]
    simp only[z,s,r,y,N,Bool.false_eq_true,if_false,if_true];rw[C,Int.toNat_natCast,List.take_left,chk_of (by grind)];simp only[aa];rw[D];simp only[aa,gJ];rw[Lj (by omega)];simp only[aa];refine ⟨true,B,u,_,rfl,?_,?_⟩
    ·simp only[yB];exact g
    ·simp only[az,ay,aD];omega
   grind
 ·intro t a b e K L J F n p c o f;rw[yx] at c f⊢;have H:((flat a++flat b)++ [t]).length<=1000000:=by omega
  have ⟨M,P,O,Q⟩:=yz (a:=a) (t:=t) L H;simp only[az,ay,aD] at c f
  match n,c with
  | n+1,c =>
   have T:=K.pos;have R:=L.pos;rw[cO];simp only[gJ];have ⟨G,C⟩:=lE (A:=flat a++flat b) (t:=t) (by grind);rw[G];simp only[aa];have ⟨m,B,u,q,D,g,E⟩:=J n p (by omega) o (by omega);have ⟨d,l,j,i,v,I,S⟩:=F n q (by omega) g (by omega);rcases np (show 0<=ar t by omega) with ⟨_,k⟩ | ⟨k,_⟩ | ⟨k,_⟩
   ·rcases k with k | k
    ·have z:(t.1==2)=false:=by simp[k]
     have s:(t.1==3)=false:=by simp[k]
     have r:(t.1==4)=true:=by simp[k]
     have y:(t.1==5)=false:=by simp[k]
     simp only[z,s,r,y,Bool.false_eq_true,if_false,if_true];rw[C,M,P,chk_of (by grind)];simp only[aa];rw[chk_of (by grind),O,Q,D];simp only[aa];rw[chk_of (by simp only[az,ay,aD];omega)];simp only[aa,gJ];rw[v];simp only[aa,gJ];rw[Lj (by omega)];simp only[aa];refine ⟨m&&d,if m then orI B l else B,if d then orI u j else j,(i.1,i.2.1,i.2.2.1,lk i.2.2.2.1 u l i.2.2.2.1.length,i.2.2.2.2),?_,?_,?_⟩
     ·cases m <;> cases d <;> rfl
     ·grind[yB]
     grind
    ·have z:(t.1==2)=false:=by simp[k]
     have s:(t.1==3)=false:=by simp[k]
     have r:(t.1==4)=false:=by simp[k]
     have y:(t.1==5)=true:=by simp[k]
     simp only[z,s,r,y,Bool.false_eq_true,if_false,if_true];rw[C,M,P,chk_of (by grind)];simp only[aa];rw[chk_of (by grind),O,Q,D];simp only[aa];rw[chk_of (by simp only[az,ay,aD];omega)];simp only[aa,gJ];rw[v];simp only[aa,gJ];refine ⟨m || d,orI B l,orI u j,i,?_,I,?_⟩
     ·cases m <;> simp
     grind
   ·omega
   ·omega
theorem Qi {e:List Tok} (b:e.length<=1048576):jd e=some (Le e):=by
 have f:=pP;unfold jd Le;rw[CJ b];by_cases c:(decide (e.length<=24)&&isX e)=true
 ·rw[aj] at c;obtain ⟨x,g,a,rfl⟩:=Lc c.2;have d:(flat x).length<=24:=by simpa using c.1
  rw[vx a,Vc a fV (by omega) (by omega)];by_cases h:5000<szX x
  ·grind
  ·grind[CL,Ld,fV]
 grind
theorem JH {e:List Tok} (i:e.length<=1048576): ∃r:El×Bool,dJ e=some r/\r.1.2.2.2.1.length=r.1.1.length/\r.1.1.length<=400:=by
 have n:=pP;unfold dJ;rw[Qi i];simp only[aa];by_cases c:(Le e).2=true
 ·have ⟨y,j,g,m⟩:=PZ c;rw[if_pos c,ah (aag (by grind))];by_cases d:(Ll (Le e).1 (Le e).1.length:Int)>20
  ·simp_all
  ·have a:=decide_eq_false d;simp only[a,Bool.false_eq_true,if_false];rw[g];have ⟨l,k,o,q,b,h,f⟩:=TK j fV ([],0,0,[],false) (by omega) rfl (by grind);rw[b];simp[aa];grind
 simp_all
theorem Qj {p:El} (h1:p.2.2.2.1.length=p.1.length) (d:p.1.length<=100000): ∃r:AutT×Bool,fy p 12=some r/\(r.2=true-> ∃N,N<=12/\bfE (nxS p) 1 N/\r.1=(0,(bfS (nxS p) 1 N).map (uF p),bfR (nxS p) 1 N)/\VA r.1 N):=by
 have f:=aaf (p:=p) (most:=12) h1 (by omega) (by omega) (by omega);rcases JG (nx:=nxS p) (first:=1) (acc:=uF p) (most:=12) (12+2) 0 (fun j b=>by omega) (by simp[bfS]) with e | ⟨N,c,a,e⟩
 ·grind
 grind[Qh,uF,CN]
def Lo:List ByteArray:=[⟨#[97]⟩,⟨#[97,32,98,32,46]⟩,⟨#[97,32,42]⟩,⟨#[97,32,98,32,124,32,42]⟩,⟨#[97,32,97,45,32,46]⟩,⟨#[97,32,42,32,98,32,46]⟩,⟨#[97,32,98,32,42,32,46,32,99,32,46]⟩,⟨#[97,32,97,32,124,32,42]⟩,⟨#[97,32,98,32,46,32,42]⟩,⟨#[48,32,97,32,46,32,42]⟩,⟨#[97,32,49,32,46,32,98,32,46]⟩,⟨#[97,32,123,48,44,50,125]⟩,⟨#[97,32,98,32,124,32,123,49,44,51,125]⟩,⟨#[40,41]⟩,⟨#[33]⟩,⟨#[97,45,32,42,32,97,32,46]⟩,⟨#[97,32,98,45,32,46,32,42,32,99,32,124]⟩,⟨#[97,32,42,32,97,32,42,32,46]⟩,⟨#[97,32,48,32,124,32,42,32,98,32,46]⟩,⟨#[97,32,97,32,46,32,42]⟩,⟨#[97,32,98,32,46,32,98,32,97,32,46,32,124,32,42]⟩]
def Qk (t:ByteArray):Bool:=match kz t with
 | some r=>r.2&&Nat.ble 1 r.1.length&&Nat.ble r.1.length 24
 | none=>false
theorem Ql:Lo.all Qk=true:=by kernel_rfl
theorem TL {t:ByteArray} (h:t∈Lo): ∃r:List Tok×Bool,kz t=some r/\r.2=true/\1<=r.1.length/\r.1.length<=24:=by
 have a:Qk t=true:=List.all_eq_true.1 Ql t h;unfold Qk at a;split at a
 ·rename_i r b;rw[aj,aj] at a;exact ⟨r,b,a.1.1,bC a.1.2,bC a.2⟩
 ·cases a
section
variable {xs:List Int} {i h:Int}
theorem JI (d:xs.length<=1048576) (b:iE xs i): ∃r:List Tok×Int×Int,na (xs,i,h)=some r/\(1<=r.1.length/\r.1.length<=24)/\iE xs r.2.1:=by
 obtain ⟨r,e,g,k⟩:=Z1 (h:=h) d b (l:=Lo) (by unfold Lo;simp);obtain ⟨q,m,-,c⟩:=TL g;unfold na;have j:=congrArg (fun o:Option (ByteArray×Int×Int)=>Option.bind o (fun a:ByteArray×Int×Int=>(kz a.1).bind fun f=>some (f.1,a.2.1,a.2.2))) e;refine ⟨(q.1,r.2.1,r.2.2),j.trans ?_,c,k⟩;show (kz r.1).bind _=_;rw[m];rfl
theorem H5 (a:xs.length<=1048576): ∀(d n:Nat) (i h:Int),d<n->d<=3->iE xs i-> ∃r:List Tok×Int×Int,fb n (xs,i,h) (d:Int)=some r/\(1<=r.1.length/\r.1.length+1<=2 ^ (d+1))/\iE xs r.2.1
 | 0,n+1,i,h,_,_,g=>by
  rw[fb];simp only;rw[if_pos (by decide)];obtain ⟨r,e,k⟩:=wt (h:=h) a g (n:=12) (by omega);rw[e];simp only[aa];by_cases c:r.1=true
  ·rw[if_pos c];obtain ⟨q,v,-,m⟩:=ep (h:=r.2.2) a k (l:=[1,2]) (by simp);rw[v];simp only[aa];exact ⟨_,rfl,⟨aF _,aF _⟩,m⟩
  ·rw[if_neg c];obtain ⟨q,v,-,m⟩:=ep (h:=r.2.2) a k (l:=[0,0,2,2,1,4,3,6,7]) (by simp);rw[v];simp only[aa];exact ⟨_,rfl,⟨aF _,aF _⟩,m⟩
 | d+1,n+1,i,h,hd,h3,g=>by
  have hp:2 ^ (d+1+1)=2*2 ^ (d+1):=by rw[Nat.pow_succ,Nat.mul_comm]
  have K:2 ^ (d+1)<=8:=by
   have:d<=2:=by omega
   match d,this with
   | 0,_=>decide
   | 1,_=>decide
   | 2,_=>decide
  rw[fb];simp only;rw[if_neg (by simp;omega)];have F:i64.wrap (((d+1:Nat):Int) - 1)=(d:Int):=by rw[bQ (by omega) (by omega)];omega
  rw[F];obtain ⟨r,e,-,k⟩:=bz (h:=h) a g (n:=6) (by omega);rw[e];simp only[aa];have two: ∀(t:Tok) (i h:Int),iE xs i-> ∃r:List Tok×Int×Int,((fb n (xs,i,h) (d:Int)).bind fun b=>(fb n (xs,b.2.1,b.2.2) (d:Int)).bind fun x=>(fC b.1 x.1 t).bind fun G=>some (G,x.2.1,x.2.2))=some r/\(1<=r.1.length/\r.1.length+1<=2 ^ (d+1+1))/\iE xs r.2.1:=fun t i h g=>by
   obtain ⟨b,o,B,j⟩:=H5 a d n i h (by omega) (by omega) g;rw[o];simp only[aa];obtain ⟨x,E,L,I⟩:=H5 a d n b.2.1 b.2.2 (by omega) (by omega) j;rw[E];simp only[aa];rw[CM (by omega)];simp only[aa];refine ⟨_,rfl,?_,I⟩;simp only[az,ay,aD];omega
  have one: ∀(t:Tok) (i h:Int),iE xs i-> ∃r:List Tok×Int×Int,((fb n (xs,i,h) (d:Int)).bind fun f=>(fC f.1 ([] :List Yq1) t).bind fun y=>some (y,f.2.1,f.2.2))=some r/\(1<=r.1.length/\r.1.length+1<=2 ^ (d+1+1))/\iE xs r.2.1:=fun t i h g=>by
   obtain ⟨b,o,B,j⟩:=H5 a d n i h (by omega) (by omega) g;rw[o];simp only[aa];rw[CM (by simp only[aD];omega)];simp only[aa];refine ⟨_,rfl,?_,j⟩;simp only[az,ay,aD];omega
  have s: ∀(p q:Bool),(if p then (some p) else (some q):Option Bool)=some (p || q):=fun p q=>by cases p <;> rfl
  rw[s];simp only[aa];by_cases z:(r.1==0 || r.1==1)=true
  ·rw[if_pos z];exact two _ _ _ k
  ·rw[if_neg z,s];simp only[aa];by_cases A:(r.1==2 || r.1==3)=true
   ·rw[if_pos A];exact two _ _ _ k
   ·rw[if_neg A];by_cases C:(r.1==4)=true
    ·rw[if_pos C];exact one _ _ _ k
    ·rw[if_neg C];obtain ⟨q,v,J,m⟩:=bz (h:=r.2.2) a k (n:=3) (by omega);rw[v];simp only[aa];obtain ⟨b,o,B,j⟩:=H5 a d n q.2.1 q.2.2 (by omega) (by omega) m;rw[o];simp only[aa];have w:i64.wrap (i64.wrap (1+q.1)+1)=q.1+2:=by
      rw[bQ (n:=1+q.1) (by omega) (by omega),bQ (by omega) (by omega)];omega
     obtain ⟨u,D,-,H⟩:=bz (h:=b.2.2) a j (n:=q.1+2) (by omega);rw[w,D];simp only[aa];rw[CM (by simp only[aD];omega)];simp only[aa];refine ⟨_,rfl,?_,H⟩;simp only[az,ay,aD];omega
theorem Vm (b:xs.length<=1048576) (o:iE xs i): ∃r:List Tok×Int×Int,rj (xs,i,h)=some r/\(1<=r.1.length/\r.1.length<=24)/\iE xs r.2.1:=by
 have p:=pP;unfold rj;simp only;obtain ⟨r,e,k⟩:=wt (h:=h) b o (n:=2) (by omega);rw[e];simp only[aa];by_cases c:r.1=true
 ·rw[if_pos c];obtain ⟨q,f,g,d⟩:=JI (h:=r.2.2) b k;rw[f];exact ⟨_,rfl,g,d⟩
 ·rw[if_neg c];obtain ⟨q,f,g,d⟩:=bz (h:=r.2.2) b k (n:=3) (by omega);rw[f];simp only[aa];have w:i64.wrap (1+q.1)=(((q.1.toNat+1:Nat)):Int):=by rw[bQ (by omega) (by omega)];omega
  obtain ⟨u,l,j,m⟩:=H5 b (q.1.toNat+1) fV q.2.1 q.2.2 (by omega) (by omega) d;rw[w,l];refine ⟨_,rfl,⟨j.1,?_⟩,m⟩
  have:q.1.toNat<=2:=by omega
  have a:=j.2;show u.1.length<=24;generalize q.1.toNat=z at this a
  match z,this with
  | 0,_=>simp at a;omega
  | 1,_=>simp at a;omega
  | 2,_=>simp at a;omega
def AutD (a:AutT):Prop:=(1<=a.2.1.length/\a.2.1.length<=12)/\(1<=a.2.2.length/\a.2.2.length<=12)/\ ∀r∈a.2.2,r.length=9
theorem AutD.sm {a:AutT} (h:AutD a):Data.sm a:=⟨trivial,⟨by have:=h.1.2;omega,fun _ _=>trivial⟩,by have:=h.2.1.2;omega,fun r b=>⟨by rw[h.2.2 r b];decide,fun _ _=>trivial⟩⟩
theorem VA.autD {a:AutT} {n:Nat} (V:VA a n) (b:n<=12):AutD a:=by
 have d:=V.pos;have e:=V.len;have c:=V.nlen;exact ⟨by omega,by omega,V.row⟩
theorem ab7 (x:xs.length<=1048576) {p:List Int×Int×Int} {r0:Int×Int×Int} (hp:p.1=xs) (C:0<=r0.1/\r0.1<4) (A:iE xs i): ∃s,al (ja p r0) aW (([] :List Int),0,i,h)=some (.brk s)/\s.1.length=9/\iE xs s.2.2.1:=by
 have w:i64.wrap (1+r0.1)=1+r0.1:=bQ (by omega) (by omega);obtain ⟨s,e,y,v,o⟩:=fO (f:=ja p r0) (fun j s=>s.2.1=(j:Int)/\s.1.length=j/\iE xs s.2.2.1) 9 (fun j s B g=>by
  obtain ⟨y,v,o⟩:=g;unfold ja;rw[y,hp,if_pos (by simp;omega)];obtain ⟨r,e,k⟩:=wt (h:=s.2.2.2) x o (n:=3) (by omega);rw[e];simp only[aa];have key: ∃q:Int×Int×Int,(if r.1 then (some ((-1),r.2.1,r.2.2)) else ((aI (xs,r.2.1,r.2.2) (i64.wrap (1+r0.1))).bind fun u=>some (u.1,u.2.1,u.2.2)):Option Yq7)=some q/\iE xs q.2.1:=by
   by_cases c:r.1=true
   ·rw[if_pos c];exact ⟨_,rfl,k⟩
   ·rw[if_neg c,w];obtain ⟨q,t,-,m⟩:=bz (h:=r.2.2) x k (n:=1+r0.1) (by omega);rw[t];exact ⟨_,rfl,m⟩
  obtain ⟨q,t,m⟩:=key;rw[t];simp only[aa];have l: ∃z:Int,(if decide ((j:Int)>3) then (some (-1)) else (some q.1):Option Int)=some z:=by
   by_cases c:decide ((j:Int)>3)=true
   ·exact ⟨_,if_pos c⟩
   ·exact ⟨_,if_neg c⟩
  obtain ⟨z,l⟩:=l;rw[l];simp only[aa];rw[aw (by simp only[ay,aD];omega)];simp only[aa];refine ⟨_,rfl,?_,?_,m⟩
  ·show i64.wrap ((j:Int)+1)=((j+1:Nat):Int);rw[bQ (by omega) (by omega)];omega
  ·simp only[az,ay,aD];omega) (fun s g=>by
  unfold ja;rw[g.1,if_neg (by simp)];obtain ⟨a,b,c,d⟩:=s;obtain rfl:b=_:=g.1
  rfl) (s:=(([] :List Int),0,i,h)) ⟨rfl,rfl,A⟩ (oP (by omega))
 exact ⟨s,e,v,o⟩
theorem Lp (d:xs.length<=1048576) (F:iE xs i): ∃r:AutT×Int×Int,mB (xs,i,h)=some r/\AutD r.1/\iE xs r.2.1:=by
 unfold mB;simp only;obtain ⟨r0,y,A,B⟩:=bz (h:=h) d F (n:=4) (by omega);rw[y];simp only[aa];have w:i64.wrap (1+r0.1)=((r0.1.toNat+1:Nat):Int):=by rw[bQ (by omega) (by omega)];omega
 obtain ⟨m,z,-,D⟩:=bz (h:=r0.2.2) d B (n:=((r0.1.toNat+1:Nat):Int)) (by omega);rw[w,z];simp only[aa];obtain ⟨s,e,x,u,v,l,t⟩:=fO (f:=lx (xs,i,h) r0) (fun j s=>s.1=(j:Int)/\s.2.2.1.length=j/\s.2.2.2.1.length=j/\(∀r∈s.2.2.2.1,r.length=9)/\iE xs s.2.2.2.2.1) (r0.1.toNat+1) (fun j s H g=>by
  obtain ⟨x,u,v,l,t⟩:=g;unfold lx;rw[x,w,if_pos (by simp;omega)];obtain ⟨q,e,G,k⟩:=ab7 (p:=(xs,i,h)) (r0:=r0) (i:=s.2.2.2.2.1) (h:=s.2.2.2.2.2) d rfl A t;rw[ah e];simp only;obtain ⟨o,E,C⟩:=wt (h:=q.2.2.2) d k (n:=3) (by omega);rw[E];simp only[aa];rw[aw (by simp only[ay,aD];omega)];simp only[aa];rw[aw (by simp only[ay,aD];omega)];simp only[aa];refine ⟨_,rfl,?_,by simp[u],by simp[v],fun r c=>?_,C⟩
  ·show i64.wrap ((j:Int)+1)=((j+1:Nat):Int);rw[bQ (by omega) (by omega)];omega
  ·rcases aG c with c | c
   ·exact l r c
   ·obtain rfl:=ak c;exact G) (fun s g=>by
  unfold lx;rw[g.1,w,if_neg (by simp)];obtain ⟨a,b⟩:=s;obtain rfl:a=_:=g.1
  rfl) (s:=(0,m.1,([] :List Bool),([] :List (List Int)),m.2.1,m.2.2)) ⟨rfl,rfl,rfl,fun r c=>(by cases c),D⟩ (oP (by omega))
 rw[ah e];refine ⟨_,rfl,⟨?_,?_,l⟩,t⟩
 ·show 1<=s.2.2.1.length/\s.2.2.1.length<=12;omega
 ·show 1<=s.2.2.2.1.length/\s.2.2.2.1.length<=12;omega
theorem ab8 (b:xs.length<=1048576) (y:iE xs i): ∃r:AutT×Int×Int,vi (xs,i,h)=some r/\AutD r.1/\iE xs r.2.1:=by
 unfold vi;simp only;obtain ⟨r,e,k⟩:=wt (h:=h) b y (n:=3) (by omega);rw[e];simp only[aa];by_cases c:r.1=true
 ·rw[if_pos c];obtain ⟨q,j,l,d⟩:=Lp (h:=r.2.2) b k;rw[j];exact ⟨_,rfl,l,d⟩
 ·rw[if_neg c];obtain ⟨q,j,l,d⟩:=Vm (h:=r.2.2) b k;rw[j];simp only[aa];obtain ⟨p,m,w,z⟩:=JH (e:=q.1) (by omega);rw[m];simp only[aa];obtain ⟨a,f,o⟩:=Qj (p:=p.1) w (by omega);have f:fy (p.1.1,p.1.2.1,p.1.2.2.1,p.1.2.2.2.1,p.1.2.2.2.2) 12=some a:=f;rw[f];simp only[aa];by_cases g:a.2=true
  ·rw[if_pos g];obtain ⟨N,s,-,-,V⟩:=o g;exact ⟨_,rfl,V.autD s,d⟩
  ·rw[if_neg g];obtain ⟨u,t,x,v⟩:=Lp (h:=q.2.2) b d;rw[t];exact ⟨_,rfl,x,v⟩
end
abbrev GrT:=(List Int)×(List Yq1)
theorem TM {R:Type} {f:Int->Option (Out R Int)} (N:Nat) (p:Nat->Prop) [DecidablePred p] (r:R) (d:N<=9223372036854775807)
  (h: ∀i:Nat,i<N->f (i:Int)=some (if p i then .nxt ((i+1:Nat):Int) else .ret r)) (g:f (N:Int)=some (.brk (N:Int))) :
  (al f aW 0=some (.brk (N:Int))/\ ∀i,i<N->p i)\/(al f aW 0=some (.ret r)/\ ¬ ∀i,i<N->p i):=by
 obtain ⟨o,e,a⟩:=b8 (f:=f) (fun i s=>s=(i:Int)/\ ∀j:Nat,j<i->p j) (fun o=>(o= .brk (N:Int)/\ ∀i,i<N->p i)\/(o= .ret r/\ ¬ ∀i,i<N->p i)) N (s:=0) (by
  rintro i s n ⟨rfl,hp⟩;by_cases b:i<N
  ·by_cases c:p i
   ·refine .inl ⟨b,_,by rw[h i b,if_pos c],rfl,fun j m=>?_⟩;by_cases e:j=i
    ·subst e;exact c
    ·exact hp j (by omega)
   ·exact .inr ⟨_,by rw[h i b,if_neg c],(fun l e=>by cases e),.inr ⟨rfl,fun k=>c (k i b)⟩⟩
  ·obtain rfl:i=N:=by omega
   exact .inr ⟨_,g,(fun l e=>by cases e),.inl ⟨rfl,hp⟩⟩) ⟨rfl,by omega⟩ (oP d)
 rcases a with ⟨rfl,a⟩ | ⟨rfl,a⟩
 ·exact .inl ⟨e,a⟩
 ·exact .inr ⟨e,a⟩
structure GOk (g:GrT):Prop where
 n1:1<=g.1.length
 n5:g.1.length<=5
 m:g.2.length<=12
 val: ∀v∈g.1,0<=v/\v<=2
 edge: ∀e∈g.2,(0<=e.2.1/\e.2.1<g.1.length)/\(0<=e.2.2.1/\e.2.2.1<g.1.length)/\0<=e.2.2.2/\e.2.2.2<=2
 asc: ∀i:Nat,i+1<g.2.length->(nth g.2 i).1<(nth g.2 ((i+1:Nat):Int)).1
def edgeP (e:Int×Int×Int×Int) (n:Int):Prop:=(1<=e.1/\e.1<=99)/\(0<=e.2.1/\e.2.1<=n - 1)/\(0<=e.2.2.1/\e.2.2.1<=n - 1)/\0<=e.2.2.2/\e.2.2.2<=2
instance (e n):Decidable (edgeP e n):=by unfold edgeP;infer_instance
theorem Vn (e:Int×Int×Int×Int) {n:Nat} (d:n<=1048576):km e (n:Int)=some (decide (edgeP e n)):=by
 unfold km edgeP;simp only[Il,aa,j7 (show n<=9223372036854775807 by omega)];by_cases b:1<=e.1/\e.1<=99 <;> by_cases c:0<=e.2.1/\e.2.1<=(n:Int) - 1 <;> by_cases a:0<=e.2.2.1/\e.2.2.1<=(n:Int) - 1 <;> simp[b,c,a]
def YP (g:GrT):Prop:=GOk g/\ ∀e∈g.2,1<=e.1/\e.1<=99
theorem qw (g:GrT) (h1:g.1.length<=1048576) (A:g.2.length<=1048576): ∃b,cQ g=some b/\(b=true↔YP g):=by
 unfold cQ;have k:=TM (f:=fH g) g.1.length (fun i=>0<=nth g.1 i/\nth g.1 i<=2) false (by omega) (fun i a=>by
  unfold fH;rw[if_pos (by simp;omega),aA (by omega) (by omega)];simp only[aa,Il,decide_eq_true_eq];split
  ·rw[af (by omega)]
  ·rfl) (by unfold fH;rw[if_neg (by simp)])
 have m:=TM (f:=eu g) g.2.length (fun i=>edgeP (nth g.2 i) g.1.length/\(0<i->(nth g.2 ((i:Int) - 1)).1<(nth g.2 i).1)) false (by omega) (fun i a=>by
  unfold eu;rw[if_pos (by simp;omega),aA (by omega) (by omega)];simp only[aa];have d:=Vn (nth g.2 (i:Int)) h1;have d:km ((nth g.2 (i:Int)).1,(nth g.2 (i:Int)).2.1,(nth g.2 (i:Int)).2.2.1,(nth g.2 (i:Int)).2.2.2) (g.1.length:Int)=_:=d;rw[d];simp only[aa,decide_eq_true_eq];by_cases l:edgeP (nth g.2 (i:Int)) g.1.length
  ·rw[if_pos l];by_cases r:0<i
   ·rw[if_pos (by omega),j7 (by omega),aA (by omega) (by omega)];simp only[aa];by_cases s:(nth g.2 ((i:Int) - 1)).1<(nth g.2 (i:Int)).1
    ·rw[if_neg (by omega),if_pos ⟨l,fun _=>s⟩,af (by omega)]
    ·rw[if_pos (by omega),if_neg (fun h=>s (h.2 r))]
   ·rw[if_neg (by omega),if_pos ⟨l,fun h=>absurd h r⟩,af (by omega)]
  ·rw[if_neg l,if_neg (fun h=>l h.1)]) (by unfold eu;rw[if_neg (by simp)])
 rcases k with ⟨k,n⟩ | ⟨k,n⟩
 ·rw[ah k];rcases m with ⟨m,j⟩ | ⟨m,j⟩
  ·rw[ah m,Il];simp only[aa,decide_eq_true_eq];split
   ·rename_i c;refine ⟨_,rfl,fun q=>?_,fun G=>decide_eq_true (by have:=G.1.m;omega)⟩;have q:=of_decide_eq_true q;refine ⟨⟨by omega,by omega,by omega,fun v hv=>?_,fun e o=>?_,fun i a=>?_⟩,fun e o=>?_⟩
    rotate_left 3
    ·obtain ⟨i,a,rfl⟩:=CG o;exact (j i a).1.1
    ·obtain ⟨i,a,rfl⟩:=CG hv;exact n i a
    ·obtain ⟨i,a,rfl⟩:=CG o;obtain ⟨C,y,u,z⟩:=(j i a).1;exact ⟨⟨y.1,by omega⟩,⟨u.1,by omega⟩,z⟩
    ·have:=(j (i+1) a).2 (by omega)
     rwa [show (((i+1:Nat):Int) - 1)=(i:Int) from by omega] at this
   ·rename_i c;exact ⟨false,rfl,(fun h=>by cases h),fun G=>absurd (by have:=G.1.n1;have:=G.1.n5;omega) c⟩
  ·rw[bI m];refine ⟨false,rfl,(fun h=>by cases h),fun G=>absurd (fun i a=>?_) j⟩;have p:=cZ (xs:=g.2) (i:=(i:Int)) (by omega) (by omega);obtain ⟨d,x,t,w⟩:=G.1.edge _ p;refine ⟨⟨G.2 _ p,⟨d.1,by omega⟩,⟨x.1,by omega⟩,t,w⟩,fun B=>?_⟩
   have:=G.1.asc (i - 1) (by omega)
   rwa [show ((i - 1:Nat):Int)=(i:Int) - 1 from by omega,show (((i - 1)+1:Nat):Int)=(i:Int) from by omega] at this
 ·rw[bI k];exact ⟨false,rfl,(fun h=>by cases h),fun G=>absurd (fun i a=>G.1.val _ (cZ (by omega) (by omega))) n⟩
theorem TN (g:GrT) (h1:g.1.length<=1048576) (a:g.2.length<=1048576): ∃b,cQ g=some b/\(b=true->GOk g):=by
 obtain ⟨b,h1,a⟩:=qw g h1 a;exact ⟨b,h1,fun h=>(a.1 h).1⟩
theorem GOk.lt {g:GrT} (G:GOk g) {i j:Nat} (h:i<j) (a:j<g.2.length):(nth g.2 (i:Int)).1<(nth g.2 (j:Int)).1:=by
 induction h with
 | refl=>exact G.asc i a
 | step h ih =>
  rename_i m;have c:=ih (by omega);have b:=G.asc m a;exact Int.lt_trans c b
section
variable {xs:List Int} {i h:Int}
theorem aaq (o:xs.length<=1048576) {p:List Int×Int×Int} (hp:p.1=xs) (q:iE xs i) {n:Int} (u:0<=n/\n<=5): ∃s:Int×Int×Int×List Int×List Yq1,al (eL p) aW (n,i,h,([] :List Int),([] :List Yq1))=some (.brk s)/\s.2.2.2.1.length=n.toNat/\s.2.2.2.2= [] /\iE xs s.2.1:=by
 obtain ⟨s,e,m,d,l,g⟩:=fO (f:=eL p) (fun j s=>s.1=n - (j:Int)/\s.2.2.2.1.length=j/\s.2.2.2.2= [] /\iE xs s.2.1) n.toNat (fun j s t c=>by
  obtain ⟨m,d,l,g⟩:=c;unfold eL;rw[m,hp,if_pos (by simp;omega)];obtain ⟨r,e,-,k⟩:=bz (h:=s.2.2.1) o g (n:=3) (by omega);rw[e];simp only[aa];rw[aw (by simp only[ay,aD];omega)];simp only[aa];refine ⟨_,rfl,?_,by simp[d],l,k⟩;show i64.wrap (n - (j:Int) - 1)=n - ((j+1:Nat):Int);rw[bQ (by omega) (by omega)];omega) (fun s c=>by
  unfold eL;rw[c.1,if_neg (by simp;omega)];obtain ⟨a,b⟩:=s;obtain rfl:a=_:=c.1
  rfl) (s:=(n,i,h,([] :List Int),([] :List Yq1))) ⟨by show n=n - 0;omega,rfl,rfl,q⟩ (oP (by omega))
 exact ⟨s,e,d,l,g⟩
def GrD (g:GrT):Prop:=(1<=g.1.length/\g.1.length<=5)/\g.2.length<=11
theorem GrD.sm {g:GrT} (h:GrD g):Data.sm g:=⟨⟨by have:=h.1.2;omega,fun _ _=>trivial⟩,by have:=h.2;omega,fun _ _=>⟨trivial,trivial,trivial,trivial⟩⟩
theorem X0 (m:xs.length<=1048576) (V:iE xs i): ∃r:GrT×Int×Int,jU (xs,i,h)=some r/\GrD r.1/\iE xs r.2.1:=by
 unfold jU;simp only;obtain ⟨u,H,A,L⟩:=ep (h:=h) m V (l:=[2,3,4,4,5]) (by simp);rw[H];simp only[aa];have A:2<=u.1/\u.1<=5:=by simp at A;omega
 obtain ⟨s,e,Z,C,P⟩:=aaq (p:=(xs,i,h)) (h:=u.2.2) m rfl L (n:=u.1) (by omega);rw[ah e];obtain ⟨k,w,o,y⟩:=ep (h:=s.2.2.1) m P (l:=[4,8,11]) (by simp);rw[w];simp only[aa];have o:4<=k.1/\k.1<=11:=by simp at o;omega
 obtain ⟨g,v,F,x⟩:=bz (h:=k.2.2) m y (n:=k.1) (by omega);rw[v];simp only[aa];obtain ⟨q,U,Y,M,X,O⟩:=fO (f:=gH (xs,i,h)) (fun j z=>z.2.1=g.1 - (j:Int)/\z.2.2.2.2.1=s.2.2.2.1/\z.2.2.2.2.2.length=j/\iE xs z.2.2.1) g.1.toNat (fun j z W t=>by
  obtain ⟨N,I,R,B⟩:=t;unfold gH;rw[N,I,if_pos (by simp;omega)];obtain ⟨a,S,-,E⟩:=bz (h:=z.2.2.2.1) m B (n:=3) (by omega);rw[S];simp only[aa];obtain ⟨b,G,-,D⟩:=bz (h:=a.2.2) m E (n:=(s.2.2.2.1.length:Int)) (by omega);rw[G];simp only[aa];obtain ⟨c,Q,-,J⟩:=bz (h:=b.2.2) m D (n:=(s.2.2.2.1.length:Int)) (by omega);rw[Q];simp only[aa];obtain ⟨d,T,-,K⟩:=ep (h:=c.2.2) m J (l:=[0,0,1,2]) (by simp);rw[T];simp only[aa];rw[aw (by simp only[ay,aD];omega)];simp only[aa];refine ⟨_,rfl,?_,rfl,by simp[R],K⟩;show i64.wrap (g.1 - (j:Int) - 1)=g.1 - ((j+1:Nat):Int);rw[bQ (by omega) (by omega)];omega) (fun z t=>by
  unfold gH;rw[t.1,if_neg (by simp;omega)];obtain ⟨a,b,c⟩:=z;obtain rfl:b=_:=t.1
  rfl) (s:=(0,g.1,g.2.1,g.2.2,s.2.2.2.1,s.2.2.2.2)) ⟨by show g.1=g.1 - 0;omega,rfl,by rw[C];rfl,x⟩ (oP (by omega))
 rw[ah U];refine ⟨_,rfl,⟨?_,?_⟩,O⟩
 ·show 1<=q.2.2.2.2.1.length/\q.2.2.2.2.1.length<=5;rw[M];omega
 ·show q.2.2.2.2.2.length<=11;omega
theorem Vo (b:xs.length<=1048576) (D:iE xs i): ∃r:GrT×Int×Int,tT (xs,i,h)=some r/\Data.sm r.1/\iE xs r.2.1:=by
 unfold tT;simp only;obtain ⟨g,e,o,k⟩:=X0 (h:=h) b D;rw[e];simp only[aa];obtain ⟨q,B,-,c⟩:=bz (h:=g.2.2) b k (n:=14) (by omega);rw[B];simp only[aa];have a:=o.sm;obtain ⟨⟨A,C⟩,y⟩:=o;by_cases p:(q.1==0)=true
 ·rw[if_pos p];obtain ⟨r,d,-,f⟩:=ep (h:=q.2.2) b c (l:=[(-1),3,2]) (by simp);rw[d];simp only[aa];rw[aA (by omega) (by omega)];simp only[aa];exact ⟨_,rfl,⟨⟨by rw[List.length_set];omega,fun _ _=>trivial⟩,a.2⟩,f⟩
 ·rw[if_neg p];by_cases j:(q.1==1)=true
  ·rw[if_pos j];obtain ⟨r,d,-,f⟩:=ep (h:=q.2.2) b c (l:=[0,1,99,100]) (by simp);rw[d];simp only[aa];obtain ⟨z,x,-,s⟩:=bz (h:=r.2.2) b f (n:=6) (by omega);rw[x];simp only[aa];obtain ⟨v,u,-,w⟩:=bz (h:=z.2.2) b s (n:=6) (by omega);rw[u];simp only[aa];obtain ⟨F,t,-,E⟩:=bz (h:=v.2.2) b w (n:=4) (by omega);rw[t];simp only[aa];rw[aw (by simp only[ay,aD];omega)];simp only[aa];exact ⟨_,rfl,⟨a.1,by simp;omega,fun _ _=>⟨trivial,trivial,trivial,trivial⟩⟩,E⟩
  ·rw[if_neg j];by_cases m:(q.1==2)=true
   ·rw[if_pos m];simp only[aa];exact ⟨_,rfl,⟨⟨Nat.zero_le _,fun _ h=>by cases h⟩,a.2⟩,c⟩
   ·rw[if_neg m];simp only[aa];exact ⟨_,rfl,a,c⟩
end
section
variable {xs:List Int} {i h:Int}
theorem X1 (q:xs.length<=1048576) {p:List Int×Int×Int} (hp:p.1=xs) (t:iE xs i) {n:Int} (w:0<=n/\n<=5): ∃s:Int×Int×Int×List Int×List Yq1,al (eL p) aW (n,i,h,([] :List Int),([] :List Yq1))=some (.brk s)/\(s.2.2.2.1.length=n.toNat/\ ∀v∈s.2.2.2.1,0<=v/\v<=2)/\s.2.2.2.2= [] /\iE xs s.2.1:=by
 obtain ⟨s,e,o,d,l,g⟩:=fO (f:=eL p) (fun j s=>s.1=n - (j:Int)/\(s.2.2.2.1.length=j/\ ∀v∈s.2.2.2.1,0<=v/\v<=2)/\s.2.2.2.2= [] /\iE xs s.2.1) n.toNat (fun j s u c=>by
  obtain ⟨o,⟨d,m⟩,l,g⟩:=c;unfold eL;rw[o,hp,if_pos (by simp;omega)];obtain ⟨r,e,x,k⟩:=bz (h:=s.2.2.1) q g (n:=3) (by omega);rw[e];simp only[aa];rw[aw (by simp only[ay,aD];omega)];simp only[aa];refine ⟨_,rfl,?_,⟨by simp[d],fun v hv=>?_⟩,l,k⟩
  ·show i64.wrap (n - (j:Int) - 1)=n - ((j+1:Nat):Int);rw[bQ (by omega) (by omega)];omega
  ·rcases aG hv with hv | hv
   ·exact m v hv
   ·rw[ak hv];omega) (fun s c=>by
  unfold eL;rw[c.1,if_neg (by simp;omega)];obtain ⟨a,b⟩:=s;obtain rfl:a=_:=c.1
  rfl) (s:=(n,i,h,([] :List Int),([] :List Yq1))) ⟨by show n=n - 0;omega,⟨rfl,fun v hv=>by cases hv⟩,rfl,t⟩ (oP (by omega))
 exact ⟨s,e,d,l,g⟩
def EdD (n:Nat) (w:Int) (l:List Yq1):Prop:=(∀e∈l,(1<=e.1/\e.1<=w)/\(0<=e.2.1/\e.2.1<(n:Int))/\(0<=e.2.2.1/\e.2.2.1<(n:Int))/\0<=e.2.2.2/\e.2.2.2<=2)/\l.Pairwise fun a b=>a.1<b.1
theorem EdD.snoc {n:Nat} {w:Int} {l:List Yq1 } (H:EdD n w l) {e:Int×Int×Int×Int} (m:0<=w) (k:w<e.1) (h1:0<=e.2.1/\e.2.1<(n:Int)) (f:0<=e.2.2.1/\e.2.2.1<(n:Int)) (g:0<=e.2.2.2/\e.2.2.2<=2):EdD n e.1 (l++ [e]):=by
 refine ⟨fun u c=>?_,?_⟩
 ·rcases aG c with c | c
  ·have:=H.1 u c
   exact ⟨by omega,this.2⟩
  ·rw[ak c];exact ⟨by omega,h1,f,g⟩
 ·rw[List.pairwise_append];refine ⟨H.2,List.pairwise_singleton _ _,fun a j b d=>?_⟩;rw[ak d]
  have:=(H.1 a j).1
  omega
theorem Lq (o:xs.length<=1048576) (hc:iE xs i): ∃r:GrT×Int×Int,jU (xs,i,h)=some r/\(Data.sm r.1/\YP r.1)/\iE xs r.2.1:=by
 unfold jU;simp only;obtain ⟨w,S,K,W⟩:=ep (h:=h) o hc (l:=[2,3,4,4,5]) (by simp);rw[S];simp only[aa];have K:2<=w.1/\w.1<=5:=by simp at K;omega
 obtain ⟨s,e,⟨h1,hv⟩,J,h3⟩:=X1 (p:=(xs,i,h)) (h:=w.2.2) o rfl W (n:=w.1) (by omega);rw[ah e];obtain ⟨m,D,x,I⟩:=ep (h:=s.2.2.1) o h3 (l:=[4,8,11]) (by simp);rw[D];simp only[aa];have x:4<=m.1/\m.1<=11:=by simp at x;omega
 obtain ⟨g,C,Q,H⟩:=bz (h:=m.2.2) o I (n:=m.1) (by omega);rw[C];simp only[aa];obtain ⟨q,eq,q1,G,q3,q4,F,X⟩:=fO (f:=gH (xs,i,h)) (fun j z=>z.2.1=g.1 - (j:Int)/\z.2.2.2.2.1=s.2.2.2.1/\z.2.2.2.2.2.length=j/\(0<=z.1/\z.1<=3*(j:Int))/\EdD s.2.2.2.1.length z.1 z.2.2.2.2.2/\iE xs z.2.2.1) g.1.toNat (fun j z t y=>by
  obtain ⟨z1,T,z3,Z,O,M⟩:=y;unfold gH;rw[z1,T,if_pos (by simp;omega)];obtain ⟨a,ea,ha,P⟩:=bz (h:=z.2.2.2.1) o M (n:=3) (by omega);rw[ea];simp only[aa];obtain ⟨b,R,Y,N⟩:=bz (h:=a.2.2) o P (n:=(s.2.2.2.1.length:Int)) (by omega);rw[R];simp only[aa];obtain ⟨c,ec,A,U⟩:=bz (h:=b.2.2) o N (n:=(s.2.2.2.1.length:Int)) (by omega);rw[ec];simp only[aa];obtain ⟨d,ed,B,V⟩:=ep (h:=c.2.2) o U (l:=[0,0,1,2]) (by simp);rw[ed];simp only[aa];have B:0<=d.1/\d.1<=2:=by simp at B;omega
  rw[aw (by simp only[ay,aD];omega)];simp only[aa];have L:i64.wrap (i64.wrap (z.1+1)+a.1)=z.1+1+a.1:=by
   rw[bQ (n:=z.1+1) (by omega) (by omega),bQ (by omega) (by omega)]
  rw[L];refine ⟨_,rfl,?_,rfl,by simp[z3],?_,?_,V⟩
  ·show i64.wrap (g.1 - (j:Int) - 1)=g.1 - ((j+1:Nat):Int);rw[bQ (by omega) (by omega)];omega
  ·show 0<=z.1+1+a.1/\z.1+1+a.1<=3*((j+1:Nat):Int);omega
  ·exact EdD.snoc (e:=(z.1+1+a.1,b.1,c.1,d.1)) O Z.1 (by show z.1<z.1+1+a.1;omega) Y A B) (fun z y=>by
  unfold gH;rw[y.1,if_neg (by simp;omega)];obtain ⟨a,b,c⟩:=z;obtain rfl:b=_:=y.1
  rfl) (s:=(0,g.1,g.2.1,g.2.2,s.2.2.2.1,s.2.2.2.2)) ⟨by show g.1=g.1 - 0;omega,rfl,by rw[J];rfl,⟨Int.le_refl _,by show (0:Int)<=3*0;omega⟩,by rw[J];exact ⟨fun e he=>(by cases he),List.Pairwise.nil⟩,H⟩ (oP (by omega))
 rw[ah eq];have k:q.2.2.2.2.1.length=w.1.toNat:=by rw[G,h1]
 refine ⟨_,rfl,⟨⟨⟨?_,fun _ _=>trivial⟩,?_,fun _ _=>⟨trivial,trivial,trivial,trivial⟩⟩,⟨?_,?_,?_,?_,?_,?_⟩,?_⟩,X⟩
 ·show q.2.2.2.2.1.length<=_;rw[k];omega
 ·show q.2.2.2.2.2.length<=_;omega
 ·show 1<=q.2.2.2.2.1.length;rw[k];omega
 ·show q.2.2.2.2.1.length<=5;rw[k];omega
 ·show q.2.2.2.2.2.length<=12;omega
 ·show∀v∈q.2.2.2.2.1,_
  rw[G];exact hv
 ·intro u E
  have:=(F.1 u E).2
  show (0<=u.2.1/\u.2.1<(q.2.2.2.2.1.length:Int))/\(0<=u.2.2.1/\u.2.2.1<(q.2.2.2.2.1.length:Int))/\0<=u.2.2.2/\u.2.2.2<=2;rw[G];exact this
 ·intro j t;have t:j+1<q.2.2.2.2.2.length:=t
  have:=List.pairwise_iff_getElem.1 F.2 j (j+1) (by omega) t (by omega)
  show (nth q.2.2.2.2.2 (j:Int)).1<(nth q.2.2.2.2.2 ((j+1:Nat):Int)).1;rw[cB (by omega),cB t];exact this
 ·intro u E
  have:=(F.1 u E).1
  omega
end
theorem yD (m:Nat):BitVec.ofInt 64 (m:Int)=BitVec.ofNat 64 m:=by simp
theorem Qm {m n:Nat} (b:m<2 ^ 62) (a:n<2 ^ 62):rM (m:Int) (n:Int)=((m &&& n:Nat):Int):=by
 unfold rM;rw[yD,yD,BitVec.toNat_and,BitVec.toNat_ofNat,BitVec.toNat_ofNat,Nat.mod_eq_of_lt (by omega),Nat.mod_eq_of_lt (by omega)]
 have:m &&& n<=m:=Nat.and_le_left
 exact bQ (by omega) (by omega)
theorem Qn {m n:Nat} (b:m<2 ^ 62) (a:n<2 ^ 62):orI (m:Int) (n:Int)=((m ||| n:Nat):Int):=by
 unfold orI;rw[yD,yD,BitVec.toNat_or,BitVec.toNat_ofNat,BitVec.toNat_ofNat,Nat.mod_eq_of_lt (by omega),Nat.mod_eq_of_lt (by omega)]
 have:m ||| n<2 ^ 62:=Nat.or_lt_two_pow b a
 exact bQ (by omega) (by omega)
theorem Qo {m i:Nat} (hi:i<64):pU (m:Int) (i:Int)=((m >>> i:Nat):Int):=by
 unfold pU;rw[show min (i:Int).toNat 64=i from by simp;omega,Nat.shiftRight_eq_div_pow,Int.fdiv_eq_ediv_of_nonneg _ (by exact_mod_cast Nat.zero_le _)];simp
theorem JJ {i:Nat} (hi:i<62):C7 1 (i:Int)=((2 ^ i:Nat):Int):=by
 unfold C7;rw[show min (i:Int).toNat 64=i from by simp;omega,Int.one_mul]
 have:2 ^ i<2 ^ 62:=Nat.pow_lt_pow_right (by decide) hi
 rw[show ((2:Int) ^ i)=((2 ^ i:Nat):Int) from by simp];generalize 2 ^ i=z at this;exact bQ (by omega) (by omega)
theorem FW {m i:Nat} (a:m<2 ^ 62) (hi:i<64):((rM (pU (m:Int) (i:Int)) 1)==1)=m.testBit i:=by
 have b:m >>> i<2 ^ 62:=Nat.lt_of_le_of_lt (by rw[Nat.shiftRight_eq_div_pow];exact Nat.div_le_self _ _) a;rw[Qo hi,show (1:Int)=((1:Nat):Int) from rfl,Qm b (by decide),Nat.testBit,Nat.and_comm];have e:m >>> i &&& 1=m >>> i % 2:=Nat.and_one_is_mod _;rw[Nat.and_comm 1,e];rcases Nat.mod_two_eq_zero_or_one (m >>> i) with h | h <;> rw[h] <;> rfl
theorem TO {m i:Nat} (a:m<2 ^ 62) (hi:i<64):((rM (pU (m:Int) (i:Int)) 1)==0)= !m.testBit i:=by
 have b:m >>> i<2 ^ 62:=Nat.lt_of_le_of_lt (by rw[Nat.shiftRight_eq_div_pow];exact Nat.div_le_self _ _) a;rw[Qo hi,show (1:Int)=((1:Nat):Int) from rfl,Qm b (by decide),Nat.testBit,Nat.and_comm];have e:m >>> i &&& 1=m >>> i % 2:=Nat.and_one_is_mod _;rw[Nat.and_comm 1,e];rcases Nat.mod_two_eq_zero_or_one (m >>> i) with h | h <;> rw[h] <;> rfl
def oQ (m k:Nat):List Int:=((List.range k).filter fun i=>m.testBit i).map fun (i:Nat)=>(i:Int)
theorem vy (m k:Nat):oQ m (k+1)=if m.testBit k then oQ m k++ [(k:Int)] else oQ m k:=by
 unfold oQ;rw[List.range_succ,List.filter_append,aZ];by_cases h:m.testBit k=true
 ·simp[h]
 ·simp[h]
theorem Ep {m k l:Nat} (h:m<2 ^ k) (a:k<=l):oQ m l=oQ m k:=by
 induction a with
 | refl=>rfl
 | step a ih =>
  rw[vy,Nat.testBit_lt_two_pow (aJ h (Nat.pow_le_pow_right (by decide) a)),ih];rfl
theorem CS {m k:Nat} {x:Int} :x∈oQ m k↔ ∃i:Nat,i<k/\m.testBit i=true/\x=(i:Int):=by
 unfold oQ;simp only[List.mem_map,List.mem_filter,List.mem_range];constructor
 ·rintro ⟨i,⟨b,a⟩,rfl⟩;exact ⟨i,b,a,rfl⟩
 ·rintro ⟨i,b,a,rfl⟩;exact ⟨i,⟨b,a⟩,rfl⟩
theorem uH (m k:Nat):(oQ m k).length<=k:=by
 unfold oQ;rw[List.length_map];exact Nat.le_trans (List.length_filter_le _ _) (by simp)
theorem DB (m i j:Nat):(m ||| 2 ^ i).testBit j=(m.testBit j || decide (i=j)):=by
 rw[Nat.testBit_or,Nat.testBit_two_pow]
theorem yE {m i k:Nat} (h:m<2 ^ k) (hi:i<k):m ||| 2 ^ i<2 ^ k:=Nat.or_lt_two_pow h (Nat.pow_lt_pow_right (by decide) hi)
theorem p62 {n:Nat} (h:n<=30):2 ^ n<=2 ^ 62:=Nat.pow_le_pow_right (by decide) (by omega)
def ClI (n:Nat) (i:Nat) (st:Int×Int):Prop:=(-1<=st.2/\st.2<n)/\ ∃(M:Nat) (L:List Int),st.1=(M:Int)/\M<2 ^ n/\L.length=i/\L.Nodup/\(∀x∈L,0<=x/\x<n)/\ ∀j:Nat,M.testBit j=true↔(j:Int)∈L
theorem aar {n:Nat} {L:List Int} (h:L.Nodup) (k: ∀x∈L,0<=x/\x<n):L.length<=n:=by
 have:=h.length_le_of_subset (l₂:=(List.range n).map fun i:Nat=>(i:Int)) (fun x a=>by
  obtain ⟨b,c⟩:=k x a;exact List.mem_map.2 ⟨x.toNat,List.mem_range.2 (by omega),by omega⟩)
 simpa using this
section
variable {a:AutT} {n:Nat} (V:VA a n) (hn:n<=12)
include V hn
theorem X2 {v:Int} (hv:0<=v/\v<=2) {i:Nat} {e:Int×Int} (h:ClI n i (e.2,e.1)) :
  (i<n/\ ∃st',ij a v e=some (.nxt st')/\ClI n (i+1) (st'.2,st'.1))\/ij a v e=some (.brk e):=by
 obtain ⟨⟨D,y⟩,M,L,A,p,B,l,r,q⟩:=h;obtain ⟨s,m⟩:=e;obtain rfl:m=(M:Int):=A;have f:M<2 ^ 62:=aJ p (p62 (by omega));unfold ij;simp only at D y⊢;by_cases c:s≥0
 ·obtain ⟨k,rfl⟩: ∃k:Nat,s=(k:Int):=⟨s.toNat,by omega⟩;have t:k<n:=by omega
  have z:chk ((0:Int)<=(k:Int))=some ():=by unfold chk;rw[if_pos (by omega)]
  simp only[z,aa];rw[if_pos (by simp),TO f (by omega)];by_cases b:M.testBit k=true
  ·right;rw[if_neg (by simp[b])]
  ·left;have o:(k:Int)∉L:=fun C=>b ((q k).2 C);have g:=aar (n:=n) (L:=(k:Int)::L) (List.nodup_cons.2 ⟨o,l⟩) (fun x d=>by
    rcases aE d with rfl | d
    ·omega
    ·exact r x d)
   simp only[ay] at g;obtain ⟨u,rfl⟩: ∃u:Nat,v=(u:Int):=⟨v.toNat,by omega⟩;have E:u<=2:=by omega
   have w:i64.wrap (6+(u:Int))=((6+u:Nat):Int):=by rw[bQ (by omega) (by omega)];omega
   refine ⟨by omega,(mv a (k:Int) (6+u),((M ||| 2 ^ k:Nat):Int)),?_,?_,M ||| 2 ^ k,(k:Int)::L,rfl,yE p t,by simp[B],List.nodup_cons.2 ⟨o,l⟩,?_,?_⟩
   ·rw[if_pos (by simp[b]),w,V.get (s:=(k:Int)) (by omega) (by omega)];simp only[aa];rw[V.get2 (s:=(k:Int)) (k:=6+u) (by omega) (by omega) (by omega),JJ (by omega),Qn f (Nat.pow_lt_pow_right (by decide) (by omega))];rfl
   ·exact V.mv (by omega) (by omega) (by omega)
   ·intro x d;rcases aE d with rfl | d
    ·omega
    ·exact r x d
   ·intro j;rw[DB,Bool.or_eq_true,q j,List.mem_cons,decide_eq_true_eq];constructor
    ·rintro (h | h)
     ·exact .inr h
     ·left;omega
    ·rintro (h | h)
     ·right;omega
     ·exact .inl h
 ·right;rw[if_neg (by simpa using c)]
theorem H6 {s v:Int} (hs:0<=s/\s<n) (hv:0<=v/\v<=2): ∃C:Nat,dE a s v=some (C:Int)/\C<2 ^ n:=by
 have j:ClI n 0 (0,s):=⟨⟨by simp only;omega,hs.2⟩,0,[],rfl,Nat.two_pow_pos n,rfl,List.nodup_nil,by simp,by simp⟩;obtain ⟨o,e,C,b,rfl,l⟩:=b8 (f:=ij a v) (fun i c=>ClI n i (c.2,c.1)) (fun o=> ∃(C:Nat) (b:Int),o= .brk (b,(C:Int))/\C<2 ^ n) n (s:=(s,0)) (fun i c p h=>by
  rcases X2 V hn hv h with d | d
  ·exact .inl d
  ·obtain ⟨_,M,L,g,k,_⟩:=h;obtain ⟨b,m⟩:=c;obtain rfl:m=(M:Int):=g;exact .inr ⟨_,d,(fun b e=>by cases e),M,b,rfl,k⟩) j (by unfold aW;omega)
 exact ⟨C,by unfold dE;exact ah e,l⟩
end
def cS (a:AutT) (s v:Int):Nat:=((dE a s v).getD 0).toNat
section
variable {a:AutT} {n:Nat} (V:VA a n) (hn:n<=12)
include V hn
theorem Qp {s v:Int} (hs:0<=s/\s<n) (hv:0<=v/\v<=2):dE a s v=some (cS a s v:Int)/\cS a s v<2 ^ n:=by
 obtain ⟨C,e,h⟩:=H6 V hn hs hv;unfold cS;rw[e];exact ⟨rfl,by simpa using h⟩
theorem H7 {s v:Int} (hs:0<=s/\s<n) (hv:0<=v/\v<=2):dE a s v=some (cS a s v:Int):=(Qp V hn hs hv).1
theorem X3 {s v:Int} (hs:0<=s/\s<n) (hv:0<=v/\v<=2):cS a s v<2 ^ n:=(Qp V hn hs hv).2
end
def afS (a:AutT) (k:Nat) (C:Nat):Nat->Nat
 | 0=>0
 | q+1=>if C.testBit q=true/\0<=mv a (q:Int) k then afS a k C q ||| 2 ^ (mv a (q:Int) k).toNat else afS a k C q
def afL (a:AutT) (k:Nat) (l:List Int):Nat:=l.foldl (fun m t=>if 0<=mv a t k then m ||| 2 ^ (mv a t k).toNat else m) 0
theorem JK (a:AutT) (k C:Nat): ∀q,afL a k (oQ C q)=afS a k C q
 | 0=>rfl
 | q+1=>by
  rw[vy,afS];by_cases b:C.testBit q=true
  ·rw[if_pos b];unfold afL;rw[List.foldl_append]
   have:=JK a k C q
   unfold afL at this;rw[this];simp[b]
  ·rw[if_neg b,if_neg (fun h=>b h.1)];exact JK a k C q
section
variable {a:AutT} {n:Nat} (V:VA a n) (hn:n<=12)
include V
theorem Qq {k C:Nat} (b:k<9): ∀q,q<=n->afS a k C q<2 ^ n
 | 0,_=>Nat.two_pow_pos n
 | q+1,hq=>by
  rw[afS]
  have:=Qq (C:=C) b q (by omega)
  split
  ·rename_i c
   have:=(V.mv (s:=(q:Int)) (by omega) (by omega) b).2
   exact yE (by assumption) (by omega)
  ·exact this
theorem aas {k:Nat} (d:k<9) {l:List Int} (h: ∀x∈l,0<=x/\x<n):afL a k l<2 ^ n:=by
 unfold afL;have key: ∀(l:List Int) (m:Nat),(∀x∈l,0<=x/\x<n)->m<2 ^ n->l.foldl (fun m t=>if 0<=mv a t k then m ||| 2 ^ (mv a t k).toNat else m) m<2 ^ n:=by
  intro l;induction l with
  | nil=>intro m _ h;exact h
  | cons x l ih =>
   intro m b c;rw[List.foldl_cons];refine ih _ (fun y e=>b y (by simp[e])) ?_;split
   ·have:=(V.mv (b x (by simp)).1 (b x (by simp)).2 d).2
    exact yE c (by omega)
   ·exact c
 exact key l 0 h (Nat.two_pow_pos n)
include hn
theorem FX {C:Nat} (d:C<2 ^ n): ∀x∈oQ C 30,0<=x/\x<(n:Int):=by
 intro x c;obtain ⟨i,e,b,rfl⟩:=CS.1 c;refine ⟨by omega,?_⟩;rcases Nat.lt_or_ge i n with h | h
 ·omega
 ·rw[Nat.testBit_lt_two_pow (aJ d (Nat.pow_le_pow_right (by decide) h))] at b;cases b
end
theorem CT {p:Prop} [Decidable p] (h:p):chk p=some ():=by unfold chk;rw[if_pos h]
section
variable {α:Type} {N:Nat} {F G:Nat->α}
theorem JL {xs:List α} [Inhabited α] {k:Nat} (h:k<xs.length):xs.take (k+1)=xs.take k++ [nth xs (k:Int)]:=by
 rw[List.take_add_one,cB h];simp[h]
end
abbrev EdT:=Int×Int×Int×Int
abbrev ArT:=(Int×Bool)×Int×Int
def fwd (e:EdT):ArT:=((e.1,false),2*e.2.2.2,e.2.2.1)
def inv (e:EdT):ArT:=((e.1,true),2*e.2.2.2+1,e.2.1)
def X4 (e:EdT) (x:Int):List ArT:=(if e.2.1=x then [fwd e] else [])++(if e.2.2.1=x then [inv e] else [])
def wu (es:List EdT) (x:Nat):List ArT:=es.flatMap fun e=>X4 e x
theorem TP (e:EdT) (x:Int):(X4 e x).length<=2:=by
 unfold X4;rw[az];split <;> split <;> simp
theorem yF {α β:Type} {f:α->List β} {B:Nat} : ∀ {xs:List α},(∀x∈xs,(f x).length<=B)->(xs.flatMap f).length<=B*xs.length
 | [],_=>by simp
 | x::xs,h=>by
  rw[List.flatMap_cons,az,ay,Nat.mul_add]
  have:=h x (by simp)
  have:=yF (xs:=xs) fun y a=>h y (by simp[a])
  omega
theorem FY (a:List EdT) (x:Nat):(wu a x).length<=2*a.length:=yF fun e _=>TP e x
def behind (a:AutT) (s v k:Int):List Int:=oQ (afL a k.toNat (oQ (cS a s v) 30)) 30
def nbA (g:GrT) (a:AutT) (x s:Nat) (y:ArT):List Int:=(behind a s (nth g.1 x) y.2.1).map fun t=>y.2.2*(a.2.1.length:Int)+t
def nbV (g:GrT) (a:AutT) (x s:Nat):List Int:=(wu g.2 x).flatMap (nbA g a x s)
def nbC (g:GrT) (a:AutT) (c:Nat):List Int:=nbV g a (c / a.2.1.length) (c % a.2.1.length)
theorem Er {g:GrT} (G:GOk g) {x:Nat} {y:ArT} (h:y∈wu g.2 x):(0<=y.2.1/\y.2.1<6)/\0<=y.2.2/\y.2.2<g.1.length:=by
 obtain ⟨e,d,a⟩:=List.mem_flatMap.1 h;obtain ⟨c,b,f⟩:=G.edge e d;unfold X4 at a;rcases aG a with a | a <;> split at a
 ·obtain rfl:y=fwd e:=by simpa using a
  exact ⟨⟨by simp[fwd];omega,by simp[fwd];omega⟩,b⟩
 ·cases a
 ·obtain rfl:y=inv e:=by simpa using a
  exact ⟨⟨by simp[inv];omega,by simp[inv];omega⟩,c⟩
 ·cases a
section
variable {g:GrT} {a:AutT} (G:GOk g) (V:VA a a.2.1.length) (hn:a.2.1.length<=12)
include G V hn
theorem CU {s v:Int} {k:Int} (hs:0<=s/\s<a.2.1.length) (hv:0<=v/\v<=2) (d:0<=k/\k<6):(∀t∈behind a s v k,0<=t/\t<(a.2.1.length:Int))/\(behind a s v k).length<=30/\afL a k.toNat (oQ (cS a s v) 30)<2 ^ 30:=by
 have c:=X3 V hn hs hv;have b:=aas V (k:=k.toNat) (by omega) (FX V hn c);exact ⟨FX V hn b,uH _ _,aJ b (Nat.pow_le_pow_right (by decide) (by omega))⟩
theorem aat {x s:Nat} {y:ArT} (l:x<g.1.length) (hs:s<a.2.1.length) (b:y∈wu g.2 x): ∀z∈nbA g a x s y,0<=z/\z<((a.2.1.length*g.1.length:Nat):Int):=by
 intro z e;obtain ⟨t,d,rfl⟩:=List.mem_map.1 e;obtain ⟨f,k,c⟩:=Er G b;have hv:=G.val _ (cZ (xs:=g.1) (i:=(x:Int)) (by omega) (by omega));obtain ⟨m,j⟩:=(CU G V hn (s:=(s:Int)) ⟨by omega,by omega⟩ hv f).1 t d;obtain ⟨q,h⟩: ∃q:Nat,y.2.2=(q:Int):=⟨y.2.2.toNat,by omega⟩;obtain ⟨r,rfl⟩: ∃r:Nat,t=(r:Int):=⟨t.toNat,by omega⟩;rw[h] at c⊢
 have:q*a.2.1.length+r<g.1.length*a.2.1.length:=by
  have:(q+1)*a.2.1.length<=g.1.length*a.2.1.length:=Nat.mul_le_mul_right _ (by omega)
  rw[Nat.add_mul] at this;omega
 rw[Nat.mul_comm a.2.1.length];constructor
 ·exact_mod_cast Nat.zero_le _
 ·exact_mod_cast this
theorem aau {x s:Nat} (c:x<g.1.length) (hs:s<a.2.1.length): ∀z∈nbV g a x s,0<=z/\z<((a.2.1.length*g.1.length:Nat):Int):=by
 intro z b;obtain ⟨y,d,b⟩:=List.mem_flatMap.1 b;exact aat G V hn c hs d z b
theorem X5 {x s:Nat} {y:ArT} (b:x<g.1.length) (hs:s<a.2.1.length) (c:y∈wu g.2 x):(nbA g a x s y).length<=30:=by
 unfold nbA;rw[List.length_map];exact uH _ _
end
section
variable {g:GrT} {a:AutT} {F:Nat->List Int} {N:Nat}
end
section
variable {g:GrT} {a:AutT} (G:GOk g) (V:VA a a.2.1.length) (hn:a.2.1.length<=12)
include G V hn
theorem nN:a.2.1.length*g.1.length<=60:=by
 have:=Nat.mul_le_mul hn G.n5;omega
theorem cN {x s:Nat} (b:x<g.1.length) (hs:s<a.2.1.length):x*a.2.1.length+s<a.2.1.length*g.1.length:=by
 have:(x+1)*a.2.1.length<=g.1.length*a.2.1.length:=Nat.mul_le_mul_right _ (by omega)
 rw[Nat.add_mul,Nat.mul_comm g.1.length] at this;omega
end
def C5 (y:ArT):Int×Bool:=y.1
theorem aav {g:GrT} (G:GOk g) {x:Nat} :ri g x=some ((wu g.2 x).map C5):=by
 unfold ri
 have:=aY (f:=mw g x) (fun i=>((wu (g.2.take i) x).map C5,(i:Int))) g.2.length (fun i d=>by
  unfold mw;simp only;have m:=G.m;have k:=FY (g.2.take i) x;have l:(g.2.take i).length<=12:=by rw[aq];omega
  rw[if_pos (by simp;omega),aA (by omega) (by omega)];simp only[aa];rw[JL d,af (by omega)];generalize nth g.2 (i:Int)=e;have h:wu (g.2.take i++ [e]) x=wu (g.2.take i) x++X4 e x:=by simp[wu]
  rw[h,aZ];generalize c:(wu (g.2.take i) x).map C5=L;have j:L.length<=24:=by rw[<-c,List.length_map];omega
  unfold X4;by_cases b:e.2.1=(x:Int)
  ·rw[if_pos (by simpa using b),if_pos b,aw (by simp;omega)];simp only[aa];by_cases a:e.2.2.1=(x:Int)
   ·rw[if_pos (by simpa using a),if_pos a,aw (by simp;omega)];simp[C5,fwd,inv]
   ·rw[if_neg (by simpa using a),if_neg a];simp[C5,fwd,inv]
  ·rw[if_neg (by simpa using b),if_neg b];simp only[aa];by_cases a:e.2.2.1=(x:Int)
   ·rw[if_pos (by simpa using a),if_pos a,aw (by simp;omega)];simp[C5,fwd,inv]
   ·rw[if_neg (by simpa using a),if_neg a];simp[C5,fwd,inv]) (by unfold mw;simp) (oP (by have:=G.m;omega))
 have this:al (mw g x) aW (([] :List (Int×Bool)),0)=_:=this;rw[this,List.take_length];rfl
theorem Lr {g:GrT} (G:GOk g) {j:Nat} (a:j<g.2.length):dL g (nth g.2 (j:Int)).1=some (j:Int):=by
 unfold dL;have k:=G.m;obtain ⟨o,e,b⟩:=b8 (f:=gb g (nth g.2 (j:Int)).1) (fun i s=>s=(i:Int)/\i<=j) (fun o=>o= .ret (j:Int)) 12 (s:=0) (by
  rintro i s m ⟨rfl,d⟩;unfold gb;rw[if_pos (by simp;omega),aA (by omega) (by omega)];simp only[aa];by_cases c:i=j
  ·subst c;exact .inr ⟨_,by rw[if_pos (by simp)],(fun h e=>by cases e),rfl⟩
  ·have l:=G.lt (i:=i) (j:=j) (by omega) a;exact .inl ⟨by omega,_,by rw[if_neg (by simp;omega),af (by omega)],rfl,by omega⟩) ⟨rfl,by omega⟩ (by unfold aW;omega)
 subst b;rw[e];rfl
theorem TQ {g:GrT} (G:GOk g) {x:Nat} {y:ArT} (h:y∈wu g.2 x): ∃(j:Int) (e:EdT),dL g y.1.1=some j/\aU g.2 j=some e/\iO e y.1.2=some y.2.1/\pw e y.1.2=some y.2.2:=by
 obtain ⟨e,c,a⟩:=List.mem_flatMap.1 h;obtain ⟨j,b,rfl⟩:=CG c;obtain ⟨i,d,f⟩:=G.edge _ c;refine ⟨j,nth g.2 (j:Int),?_,aA (by omega) (by omega),?_,?_⟩
 all_goals
  unfold X4 at a;rcases aG a with a | a <;> split at a
  ·obtain rfl:=ak a;simp only[fwd]
   first | exact Lr G b | (unfold iO;rw[bQ (n:=2*_) (by omega) (by omega)];rfl) | (unfold pw;rfl)
  ·cases a
  ·obtain rfl:=ak a;simp only[inv]
   first | exact Lr G b | (unfold iO;rw[bQ (n:=2*_) (by omega) (by omega),bQ (by omega) (by omega)];rfl) | (unfold pw;rfl)
  ·cases a
abbrev X6:=(Int×Bool)×Int×Int
def stA (g:GrT) (a:AutT) (x s:Nat) (y:ArT):List X6:=(behind a s (nth g.1 x) y.2.1).map fun t=>(y.1,y.2.2,t)
def stV (g:GrT) (a:AutT) (x s:Nat):List X6:=(wu g.2 x).flatMap (stA g a x s)
theorem aaw (g:GrT) (a:AutT) (x s:Nat):(stV g a x s).map (fun p=>p.2.1*(a.2.1.length:Int)+p.2.2)=nbV g a x s:=by
 unfold stV nbV;rw[List.map_flatMap];congr 1;funext y;unfold stA nbA;rw[List.map_map];rfl
section
variable {g:GrT} {a:AutT} (G:GOk g) (V:VA a a.2.1.length) (hn:a.2.1.length<=12)
include G V hn
theorem X7 {x s:Nat} {y:ArT} (c:x<g.1.length) (hs:s<a.2.1.length) (b:y∈wu g.2 x):(stA g a x s y).length<=30:=by
 unfold stA;rw[List.length_map];exact (CU G V hn (s:=s) ⟨by omega,by omega⟩ (G.val _ (cZ (by omega) (by omega))) (Er G b).1).2.1
theorem ab9 {x:Nat} {i:Nat} {e:EdT} {o:List X6} {y:ArT} {C:Nat} (v:C<2 ^ a.2.1.length) (n:y∈wu g.2 x) (hi:aU ((wu g.2 x).map C5) (i:Int)=some (C5 y)) (l:iO e y.1.2=some y.2.1) :
  al (jW a (C:Int) ((wu g.2 x).map C5) (o,(i:Int)) e) aW (0,0)=some (.brk ((afS a y.2.1.toNat C a.2.1.length:Int),(a.2.1.length:Int))):=by
 obtain ⟨w,z⟩:=(Er G n).1
 have:=aY (f:=jW a (C:Int) ((wu g.2 x).map C5) (o,(i:Int)) e) (fun q=>((afS a y.2.1.toNat C q:Int),(q:Int))) a.2.1.length (fun q A=>by
  unfold jW;simp only;have l:iO (e.1,e.2.1,e.2.2.1,e.2.2.2) (C5 y).2=some y.2.1:=l;have u:y.2.1=((y.2.1.toNat:Nat):Int):=by omega
  have m:=V.get2 (s:=(q:Int)) (k:=y.2.1.toNat) (by omega) (by omega) (by omega);rw[<-u] at m;have j:=Qq V (k:=y.2.1.toNat) (C:=C) (by omega) q (by omega);have d:C<2 ^ 62:=aJ v (p62 (by omega));have p:=(V.mv (s:=(q:Int)) (k:=y.2.1.toNat) (by omega) (by omega) (by omega)).2;rw[if_pos (by simp;omega),V.get (by omega) (by omega)];simp only[aa];rw[hi];simp only[aa];rw[l];simp only[aa];rw[m];simp only[aa];rw[CT (by omega),FW d (by omega),af (by omega),afS];simp only[aa];by_cases b:C.testBit q=true
  ·rw[if_pos b];by_cases c:0<=D.mv a (q:Int) y.2.1.toNat
   ·obtain ⟨t,r⟩: ∃t:Nat,D.mv a (q:Int) y.2.1.toNat=(t:Int):=⟨_,(Int.toNat_of_nonneg c).symm⟩;rw[if_pos (by simpa using c),if_pos ⟨b,c⟩,CT c,r,JJ (by omega),Qn (aJ j (p62 (by omega))) (Nat.pow_lt_pow_right (by decide) (by omega))];rfl
   ·rw[if_neg (by simpa using c),if_neg (fun h=>c h.2)];rfl
  ·rw[if_neg b,if_neg (fun h=>b h.1)];rfl) (by unfold jW;simp) (oP (by omega))
 exact this
theorem aca {x:Nat} {i:Nat} {e:EdT} {o:List X6} {y:ArT} {m:Nat} (h:m<2 ^ a.2.1.length) (j:o.length<=100000) (hi:aU ((wu g.2 x).map C5) (i:Int)=some (C5 y)) (c:pw e y.1.2=some y.2.2) {z:Int} :
  al (jX a ((wu g.2 x).map C5) (o,(i:Int)) e ((m:Int),z)) aW (o,0)=some (.brk (o++(oQ m 30).map (fun t=>(y.1,y.2.2,t)),(a.2.1.length:Int))):=by
 have:=aY (f:=jX a ((wu g.2 x).map C5) (o,(i:Int)) e ((m:Int),z)) (fun q=>(o++(oQ m q).map (fun t=>(y.1,y.2.2,t)),(q:Int))) a.2.1.length (fun q l=>by
  unfold jX;simp only;have c:pw (e.1,e.2.1,e.2.2.1,e.2.2.2) (C5 y).2=some y.2.2:=c;have d:m<2 ^ 62:=aJ h (p62 (by omega));have k:=uH m q;rw[if_pos (by simp;omega),CT (by omega),FW d (by omega),af (by omega),vy];simp only[aa];by_cases b:m.testBit q=true
  ·rw[if_pos b,if_pos b,hi];simp only[aa];rw[c];simp only[aa];rw[aw (by simp;omega)];simp only[aa,aZ,aC];rfl
  ·rw[if_neg b,if_neg b];rfl) (by unfold jX;simp) (oP (by omega))
 rw[Ep h (show a.2.1.length<=30 by omega)];simpa [oQ] using this
theorem X8 {x s:Nat} (E:x<g.1.length) (hs:s<a.2.1.length):nS g a x s=some (stV g a x s):=by
 have hv:=G.val _ (cZ (xs:=g.1) (i:=(x:Int)) (by omega) (by omega));have n:=H7 V hn (s:=(s:Int)) ⟨by omega,by omega⟩ hv;have p:=X3 V hn (s:=(s:Int)) ⟨by omega,by omega⟩ hv;unfold nS;rw[aA (by omega) (by omega)];simp only[aa];have n:dE (a.1,a.2.1,a.2.2) (s:Int) (nth g.1 (x:Int))=_:=n;have A:ri (g.1,g.2) (x:Int)=_:=aav G;rw[n,A];simp only[aa];generalize h:cS a (s:Int) (nth g.1 (x:Int))=C at p;have F:=FY g.2 x;have H:=G.m
 have:=aY (f:=jY g a (C:Int) ((wu g.2 x).map C5)) (fun i=>(((wu g.2 x).take i).flatMap (stA g a x s),(i:Int))) (wu g.2 x).length (fun i o=>by
  unfold jY;simp only;have d:=List.getElem_mem o;generalize c:(wu g.2 x)[i] =y at d;have b:aU ((wu g.2 x).map C5) (i:Int)=some (C5 y):=by rw[aK (by simpa using o)];simp[c]
  obtain ⟨j,e,l,D,t,w⟩:=TQ G d;obtain ⟨I,J⟩:=(Er G d).1;rw[if_pos (by simp;omega),b];simp only[aa];have l:dL (g.1,g.2) (C5 y).1=_:=l;rw[l];simp only[aa];rw[D];simp only[aa];rw[ah (ab9 G V hn p d b t)];have m:=Qq V (k:=y.2.1.toNat) (C:=C) (by omega) a.2.1.length (aF _);have r:=yF (f:=stA g a x s) (B:=30) (xs:=(wu g.2 x).take i) fun z v=>X7 G V hn E hs (List.mem_of_mem_take v);have q:((wu g.2 x).take i).length<=24:=by rw[aq];omega
  rw[ah (aca G V hn m (by omega) b w),af (by omega)];congr 3;have u:(wu g.2 x).take (i+1)=(wu g.2 x).take i++ [y]:=by rw[List.take_add_one];simp[o,c]
  rw[u,List.flatMap_append];congr 1;simp only[List.flatMap_cons,List.flatMap_nil,List.append_nil];unfold stA behind;rw[h,Ep p (show a.2.1.length<=30 by omega),JK]) (by unfold jY;simp) (oP (by omega))
 rw[List.take_length] at this;have this:al (jY g a (C:Int) ((wu g.2 x).map C5)) aW (([] :List X6),0)=_:=this;rw[ah this];rfl
end
abbrev BfT:=List Int×List Int
def X9 (d:Int) (s:BfT) (x:Int):BfT:=if nth s.1 x<0 then (s.1.set x.toNat d,s.2++ [x]) else s
def Im (d:Int) (s:BfT) (xs:List Int):BfT:=xs.foldl (X9 d) s
theorem Qr (d:Int) (s:BfT) (xs:List Int) (x:Int):Im d s (xs++ [x])=X9 d (Im d s xs) x:=by simp[Im]
structure BI (N:Nat) (s:BfT):Prop where
 len:s.1.length=N
 nd:s.2.Nodup
 rng: ∀x∈s.2,0<=x/\x<N
 seen: ∀x:Int,0<=x->x<N->(nth s.1 x<0↔x∉s.2)
 top: ∀x:Int,0<=x->x<N-> -1<=nth s.1 x/\nth s.1 x<s.2.length
theorem BI.le {N:Nat} {s:BfT} (h:BI N s):s.2.length<=N:=by
 have:=h.nd.length_le_of_subset (l₂:=(List.range N).map fun i:Nat=>(i:Int)) (fun x a=>by
  obtain ⟨b,c⟩:=h.rng x a;exact List.mem_map.2 ⟨x.toNat,List.mem_range.2 (by omega),by omega⟩)
 simpa using this
theorem BI.one {N:Nat} {s:BfT} (h:BI N s) {d x:Int} (c:0<=x/\x<N) (n:0<=d/\d<=s.2.length):BI N (X9 d s x)/\s.2 <+:(X9 d s x).2/\ ∀y,0<=y->0<=nth s.1 y->nth (X9 d s x).1 y=nth s.1 y:=by
 unfold X9;split
 ·rename_i l;have g:=(h.seen x c.1 c.2).1 l;refine ⟨⟨by simp[h.len],?_,?_,?_,?_⟩,List.prefix_append _ _,?_⟩
  ·exact List.nodup_append.2 ⟨h.nd,by simp,by rintro a m b k rfl;simp at k;exact g (k ▸ m)⟩
  ·intro y i;rcases aG i with i | i
   ·exact h.rng y i
   ·obtain rfl:y=x:=by simpa using i
    exact c
  ·intro y f j;by_cases e:x=y
   ·subst e;rw[qv c.1 (by rw[h.len];exact c.2)];simp;omega
   ·rw[vu c.1 f e,h.seen y f j];simp;omega
  ·intro y f j;by_cases e:x=y
   ·subst e;rw[qv c.1 (by rw[h.len];exact c.2)];simp;omega
   ·rw[vu c.1 f e]
    have:=h.top y f j
    simp;omega
  ·intro y f j;refine vu c.1 f ?_;rintro rfl;omega
 ·exact ⟨h,List.prefix_refl _,fun y _ _=>rfl⟩
theorem BI.all {N:Nat} {d:Int} : ∀ {xs:List Int} {s:BfT},BI N s->(∀x∈xs,0<=x/\x<N)->(0<=d/\d<=s.2.length)->BI N (Im d s xs)/\s.2 <+:(Im d s xs).2/\ ∀y,0<=y->0<=nth s.1 y->nth (Im d s xs).1 y=nth s.1 y
 | [],s,h,_,_=>⟨h,List.prefix_refl _,fun _ _ _=>rfl⟩
 | x::xs,s,h,hx,hd=>by
  obtain ⟨j,b,i⟩:=h.one (hx x (by simp)) hd;have l:=b.length_le;obtain ⟨f,k,g⟩:=BI.all (xs:=xs) j (fun y a=>hx y (by simp[a])) ⟨hd.1,by omega⟩;refine ⟨f,b.trans k,fun y c a=>?_⟩;have e:=i y c a;exact (g y c (by rw[e];exact a)).trans e
def bsS (nx:Int->List Int) (N:Nat) (v:Int):Nat->BfT
 | 0=>((List.replicate N (-1)).set v.toNat 0,[v])
 | i+1=>match (bsS nx N v i).2[i]? with
  | some x=>Im (nth (bsS nx N v i).1 x+1) (bsS nx N v i) (nx x)
  | none=>bsS nx N v i
section
variable {nx:Int->List Int} {N:Nat} {v:Int} (hv:0<=v/\v<N) (hn: ∀x:Int,0<=x->x<N-> ∀y∈nx x,0<=y/\y<N)
include hv
theorem Ya {x:Int} (a:0<=x) (h1:x<N):nth (List.replicate N (-1:Int)) x= -1:=by
 have:x.toNat<N:=by omega
 simp[nth,List.getD_eq_getElem?_getD,List.getElem?_replicate,this]
theorem BI.zero:BI N (bsS nx N v 0):=by
 refine ⟨by simp[bsS],by simp[bsS],fun x c=>?_,fun x a b=>?_,fun x a b=>?_⟩
 ·obtain rfl:x=v:=by simpa [bsS] using c
  exact hv
 all_goals
  unfold bsS;by_cases e:v=x
  ·subst e;rw[qv hv.1 (by simpa using hv.2)];simp
  ·rw[vu hv.1 a e,Ya hv a b]
   first | omega | (simp;omega) | simp
include hn
theorem Ls {i:Nat} (h:BI N (bsS nx N v i)):BI N (bsS nx N v (i+1))/\(bsS nx N v i).2 <+:(bsS nx N v (i+1)).2:=by
 rw[bsS];split
 ·rename_i x g;have e:=List.mem_of_getElem? g;obtain ⟨b,a⟩:=h.rng x e;have hp: ¬nth (bsS nx N v i).1 x<0:=fun c=>(h.seen x b a).1 c e;have k:=h.top x b a;obtain ⟨f,j,_⟩:=h.all (xs:=nx x) (d:=nth (bsS nx N v i).1 x+1) (hn x b a) ⟨by omega,by omega⟩;exact ⟨f,j⟩
 ·exact ⟨h,List.prefix_refl _⟩
theorem Es: ∀i,BI N (bsS nx N v i)
 | 0=>BI.zero hv
 | i+1=>(Ls hv hn (Es i)).1
theorem Yb: ∃K,K<=N/\K=(bsS nx N v K).2.length/\ ∀i,i<K->i<(bsS nx N v i).2.length:=by
 have key: ∀m i,i+m=N->(∀j,j<i->j<(bsS nx N v j).2.length)-> ∃K,K<=N/\K=(bsS nx N v K).2.length/\ ∀i,i<K->i<(bsS nx N v i).2.length:=by
  have b: ∀i,(∀j,j<i->j<(bsS nx N v j).2.length)->i<=(bsS nx N v i).2.length:=by
   intro i a;cases i with
   | zero=>omega
   | succ i =>
    have:=a i (by omega)
    have hp:=(Ls hv hn (Es hv hn i)).2.length_le;omega
  intro m;induction m with
  | zero =>
   intro i f a;have g:=(Es hv hn i).le;have d:=b i a;exact ⟨i,by omega,by omega,a⟩
  | succ m ih =>
   intro i f a;by_cases h:i<(bsS nx N v i).2.length
   ·exact ih (i+1) (by omega) fun j c=>by
     by_cases e:j=i
     ·subst e;exact h
     ·exact a j (by omega)
   ·have d:=b i a;exact ⟨i,by omega,by omega,a⟩
 exact key N 0 (by omega) (by omega)
end
section
variable {nx:Int->List Int} {N:Nat} {v:Int} (hN:N<=60) (hv:0<=v/\v<N) (hn: ∀x:Int,0<=x->x<N-> ∀y∈nx x,0<=y/\y<N) (hl: ∀x,(nx x).length<=100000)
include hN hv hn hl
theorem acb {i:Nat} {x:Int} (g:(bsS nx N v i).2[i]? =some x) (j:Nat) :
  BI N (Im (nth (bsS nx N v i).1 x+1) (bsS nx N v i) ((nx x).take j))/\(Im (nth (bsS nx N v i).1 x+1) (bsS nx N v i) ((nx x).take j)).2[i]? =some x/\nth (Im (nth (bsS nx N v i).1 x+1) (bsS nx N v i) ((nx x).take j)).1 x=nth (bsS nx N v i).1 x/\(0<=x/\x<N)/\(0<=nth (bsS nx N v i).1 x/\nth (bsS nx N v i).1 x<60)/\i<(Im (nth (bsS nx N v i).1 x+1) (bsS nx N v i) ((nx x).take j)).2.length:=by
 have h:=Es hv hn i;have k:=List.mem_of_getElem? g;obtain ⟨a,b⟩:=h.rng x k;have hp: ¬nth (bsS nx N v i).1 x<0:=fun c=>(h.seen x a b).1 c k;have r:=h.top x a b;have m:=h.le;obtain ⟨p,o,n⟩:=h.all (xs:=(nx x).take j) (d:=nth (bsS nx N v i).1 x+1) (fun y l=>hn x a b y (List.mem_of_mem_take l)) ⟨by omega,by omega⟩;obtain ⟨t,f⟩:=o;have q:=(List.getElem?_eq_some_iff.1 g).1;have e:(Im (nth (bsS nx N v i).1 x+1) (bsS nx N v i) ((nx x).take j)).2[i]? =some x:=by
  rw[<-f,List.getElem?_append_left q,g]
 exact ⟨p,e,n x a (by omega),⟨a,b⟩,⟨by omega,by omega⟩,(List.getElem?_eq_some_iff.1 e).1⟩
end
theorem Qs {n:Nat} {r:List Int} :(∀t∈r,-1<=t/\t<=(n:Int) - 1)↔ ∀t∈r,-1<=t/\t<(n:Int):=forall_congr' fun t=>forall_congr' fun _=>and_congr Iff.rfl (by omega)
theorem aax (a:AutT) (h1:a.2.1.length<=9223372036854775807) (n:a.2.2.length<=9223372036854775807): ∃b,pv a=some b/\(b=true↔VA a a.2.1.length):=by
 unfold pv;rw[AO];simp only[aa,j7 h1];by_cases g:0<=a.1/\a.1<=(a.2.1.length:Int) - 1
 case neg=>exact ⟨false,by rw[if_neg (by simpa using g)],by simp;exact fun h=>g ⟨h.start.1,by have:=h.start.2;omega⟩⟩
 rw[if_pos (by simpa using g)];by_cases m:a.2.2.length=a.2.1.length
 case neg=>exact ⟨false,by rw[if_pos (by simp;omega)],by simp;exact fun h=>m h.nlen⟩
 rw[if_neg (by simp;omega)];have inner: ∀i:Nat,i<a.2.2.length->(nth a.2.2 i).length=9->(al (jf a i) aW 0=some (.brk 9)/\ ∀t∈nth a.2.2 (i:Int),-1<=t/\t<=(a.2.1.length:Int) - 1)\/(al (jf a i) aW 0=some (.ret false)/\ ¬ ∀t∈nth a.2.2 (i:Int),-1<=t/\t<=(a.2.1.length:Int) - 1):=by
  intro i l d
  have:=scan (f:=jf a i) (nth a.2.2 (i:Int)) (fun t=> -1<=t/\t<=(a.2.1.length:Int) - 1) false (by omega) (fun j o=>by
   unfold jf;rw[if_pos (by simp;omega),aA (by omega) (by omega)];simp only[aa];rw[aA (by omega) (by omega)];simp only[aa,j7 h1];rw[AO];simp only[aa,af (show j<9223372036854775807 by omega)];by_cases c: -1<=nth (nth a.2.2 (i:Int)) (j:Int)/\nth (nth a.2.2 (i:Int)) (j:Int)<=(a.2.1.length:Int) - 1
   ·rw[if_pos (by simpa using c),if_pos c]
   ·rw[if_neg (by simpa using c),if_neg c]) (by unfold jf;rw[if_neg (by simp[d])])
  rwa [d] at this
 have outer:=scan (f:=nG a) a.2.2 (fun r=>r.length=9/\ ∀t∈r,-1<=t/\t<=(a.2.1.length:Int) - 1) false n (fun i l=>by
  unfold nG;rw[if_pos (by simp;omega),aA (by omega) (by omega)];simp only[aa];by_cases c:(nth a.2.2 (i:Int)).length=9
  ·rw[if_neg (by simp;omega)];rcases inner i l c with ⟨e,k⟩ | ⟨e,k⟩
   ·rw[ah e,if_pos ⟨c,k⟩,af (show i<9223372036854775807 by omega)]
   ·rw[bI e,if_neg (fun h=>k h.2)]
  ·rw[if_pos (by simp;omega),if_neg (fun h=>c h.1)]) (by unfold nG;rw[if_neg (by simp;omega)])
 rcases outer with ⟨e,k⟩ | ⟨e,k⟩
 ·exact ⟨true,by rw[ah e],by simp;exact ⟨rfl,⟨g.1,by omega⟩,m,fun r d=>(k r d).1,fun r d=>Qs.1 (k r d).2⟩⟩
 ·exact ⟨false,by rw[bI e],by simp;exact fun h=>k fun r d=>⟨h.row r d,Qs.2 (h.ent r d)⟩⟩
theorem Yc (a:AutT) (h1:a.2.1.length<=9223372036854775807) (d:a.2.2.length<=9223372036854775807): ∃b,gP a=some b/\(b=true↔a.2.1.length<=12/\VA a a.2.1.length):=by
 unfold gP;by_cases c:a.2.1.length<=12
 ·rw[if_pos (by simp;omega)];obtain ⟨b,e,f⟩:=aax a h1 d;exact ⟨b,by show (pv a).bind _=_;rw[e];rfl,by rw[f];simp[c]⟩
 ·exact ⟨false,by rw[if_neg (by simp;omega)],by simp;exact fun h=>absurd h c⟩
theorem mP (g:GrT):aT g=cQ g:=by
 have a:pf g=fH g:=rfl;have b:lH g=eu g:=by
  funext s;unfold lH eu;split
  ·cases c:aU g.2 s with
   | none=>rfl
   | some x=>rfl
  ·rfl
 unfold aT cQ;rw[a,b];rfl
def GOOD (g:GrT) (a:AutT):Prop:=GOk g/\a.2.1.length<=12/\VA a a.2.1.length
def nxC (g:GrT) (a:AutT) (z:Int):List Int:=nbC g a z.toNat
section
variable {g:GrT} {a:AutT} (H:GOOD g a)
include H
theorem GOOD.divmod {x:Int} (b:0<=x) (h1:x<(a.2.1.length*g.1.length:Nat)):x.toNat / a.2.1.length<g.1.length/\x.toNat % a.2.1.length<a.2.1.length:=by
 have hp:=H.2.2.pos;simp_all[Nat.div_lt_iff_lt_mul,Nat.mul_comm,Nat.mod_lt]
theorem aay (x:Int) (c:0<=x) (h1:x<(a.2.1.length*g.1.length:Nat)): ∀y∈nxC g a x,0<=y/\y<(a.2.1.length*g.1.length:Nat):=by
 have ⟨b,d⟩:=H.divmod c h1;exact aau H.1 H.2.2 H.2.1 b d
theorem Yd {x:Int} (d:0<=x) (h1:x<(a.2.1.length*g.1.length:Nat)):(nxC g a x).length<=720:=by
 have ⟨b,c⟩:=H.divmod d h1
 have:=yF (f:=nbA g a (x.toNat / a.2.1.length) (x.toNat % a.2.1.length)) (B:=30) (xs:=wu g.2 (x.toNat / a.2.1.length)) fun y e=>X5 H.1 H.2.2 H.2.1 b c e
 have h:=FY g.2 (x.toNat / a.2.1.length)
 have:=H.1.m
 show (nbV g a _ _).length<=720;unfold nbV;omega
end
def nxN (g:GrT) (a:AutT) (z:Int):List Int:=if 0<=z/\z<(a.2.1.length*g.1.length:Nat) then nxC g a z else []
section
variable {g:GrT} {a:AutT} (H:GOOD g a)
include H
theorem Et: ∀x:Int,0<=x->x<(a.2.1.length*g.1.length:Nat)-> ∀y∈nxN g a x,0<=y/\y<(a.2.1.length*g.1.length:Nat):=fun x c b=>by
 unfold nxN;rw[if_pos ⟨c,b⟩];exact aay H x c b
theorem Qt (x:Int):(nxN g a x).length<=720:=by
 grind[nxN,Yd]
theorem TS {x:Int} (b:0<=x) (h1:x<(a.2.1.length*g.1.length:Nat)): ∃l:List X6,nS g a (Gp x (a.2.1.length:Int)) (Int.tmod x (a.2.1.length:Int))=some l/\l.map (fun p=>p.2.1*(a.2.1.length:Int)+p.2.2)=nxN g a x/\ ∀p∈l,(0<=p.2.1/\p.2.1<60)/\0<=p.2.2/\p.2.2<60:=by
 have ⟨c,e⟩:=H.divmod b h1;have h:Gp x (a.2.1.length:Int)=((x.toNat / a.2.1.length:Nat):Int):=by
  unfold Gp
  have:x.tdiv (a.2.1.length:Int)=((x.toNat / a.2.1.length:Nat):Int):=by
   rw[Int.tdiv_eq_ediv_of_nonneg b];rw[show x / (a.2.1.length:Int)=((x.toNat:Nat):Int) / (a.2.1.length:Int) from by grind];simp
  rw[this,FK (by have:=H.1.n5;omega)]
 have j:Int.tmod x (a.2.1.length:Int)=((x.toNat % a.2.1.length:Nat):Int):=by
  rw[Int.tmod_eq_emod_of_nonneg b];rw[show x % (a.2.1.length:Int)=((x.toNat:Nat):Int) % (a.2.1.length:Int) from by grind];simp
 refine ⟨_,by rw[h,j];exact X8 H.1 H.2.2 H.2.1 c e,?_,fun p hp=>?_⟩
 ·rw[aaw];unfold nxN;rw[if_pos ⟨b,h1⟩];rfl
 ·have ⟨y,d,hp⟩:=List.mem_flatMap.1 hp;obtain ⟨t,f,rfl⟩:=List.mem_map.1 hp;have k:=(Er H.1 d).2;have m:=(CU H.1 H.2.2 H.2.1 (s:=((x.toNat % a.2.1.length:Nat):Int)) ⟨by omega,by omega⟩ (H.1.val _ (cZ (xs:=g.1) (i:=((x.toNat / a.2.1.length:Nat):Int)) (Int.natCast_nonneg _) (Int.ofNat_lt.2 c))) (Er H.1 d).1).1 t f
  have:=H.1.n5
  have:=H.2.1
  grind
end
def RKs (g:GrT) (a:AutT) (v:Int):List Int:=(bsS (nxN g a) (a.2.1.length*g.1.length) v (a.2.1.length*g.1.length)).1
theorem Lt {nx:Int->List Int} {N:Nat} {v:Int} (hv:0<=v/\v<N) (a: ∀x:Int,0<=x->x<N-> ∀y∈nx x,0<=y/\y<N) {K:Nat} (b:K=(bsS nx N v K).2.length): ∀d,bsS nx N v (K+d)=bsS nx N v K
 | 0=>rfl
 | d+1=>by
  have c:=Lt hv a b d;grind[Nat.add_assoc,bsS,List.getElem?_eq_none]
section
variable {g:GrT} {a:AutT} (H:GOOD g a) {x:Int} (hx:0<=x/\x<g.1.length)
include H hx
theorem abq:0<=x*(a.2.1.length:Int)+a.1/\x*(a.2.1.length:Int)+a.1<(a.2.1.length*g.1.length:Nat):=by
 obtain ⟨z,rfl⟩: ∃z:Nat,x=(z:Int):=⟨_,(Int.toNat_of_nonneg hx.1).symm⟩;have c:=H.2.2.start;have ⟨s,b⟩: ∃s:Nat,a.1=(s:Int):=⟨_,(Int.toNat_of_nonneg c.1).symm⟩
 have:=cN H.1 H.2.2 H.2.1 (x:=z) (s:=s) (by omega) (by omega)
 omega
theorem aaz:i64.wrap ((i64.wrap (x*(a.2.1.length:Int)))+a.1)=x*(a.2.1.length:Int)+a.1:=by
 have h:=abq H hx;have d:=nN H.1 H.2.2 H.2.1;have c:=H.2.2.start;have b:=H.2.1;grind[bQ]
theorem acd:BI (a.2.1.length*g.1.length) (bsS (nxN g a) (a.2.1.length*g.1.length) (x*(a.2.1.length:Int)+a.1) (a.2.1.length*g.1.length)):=Es (abq H hx) (Et H) _
theorem aaA:(RKs g a (x*(a.2.1.length:Int)+a.1)).length=a.2.1.length*g.1.length:=(acd H hx).len
theorem ace {o1 o2:List Int} {i:Nat} {z:Int} {l:List X6} (c:(bsS (nxN g a) (a.2.1.length*g.1.length) (x*(a.2.1.length:Int)+a.1) i).2[i]? =some z)
  (m:l.map (fun p=>p.2.1*(a.2.1.length:Int)+p.2.2)=nxN g a z) (hp: ∀p∈l,(0<=p.2.1/\p.2.1<60)/\0<=p.2.2/\p.2.2<60) :
  al (j4 a (o1,o2,(i:Int)) l) aW ((bsS (nxN g a) (a.2.1.length*g.1.length) (x*(a.2.1.length:Int)+a.1) i).1,(bsS (nxN g a) (a.2.1.length*g.1.length) (x*(a.2.1.length:Int)+a.1) i).2,0)=some (.brk ((bsS (nxN g a) (a.2.1.length*g.1.length) (x*(a.2.1.length:Int)+a.1) (i+1)).1,(bsS (nxN g a) (a.2.1.length*g.1.length) (x*(a.2.1.length:Int)+a.1) (i+1)).2,(l.length:Int))):=by
 have y:=nN H.1 H.2.2 H.2.1;have hv:=abq H hx;generalize F:x*(a.2.1.length:Int)+a.1=v at c hv⊢;have o:l.length<=720:=by have:=Qt H z;rw[<-m,List.length_map] at this;exact this
 have e:bsS (nxN g a) (a.2.1.length*g.1.length) v (i+1)=Im (nth (bsS (nxN g a) (a.2.1.length*g.1.length) v i).1 z+1) (bsS (nxN g a) (a.2.1.length*g.1.length) v i) (nxN g a z):=by rw[bsS,c]
 have:=aY (f:=j4 a (o1,o2,(i:Int)) l) (fun j=>((Im (nth (bsS (nxN g a) (a.2.1.length*g.1.length) v i).1 z+1) (bsS (nxN g a) (a.2.1.length*g.1.length) v i) ((nxN g a z).take j)).1,(Im (nth (bsS (nxN g a) (a.2.1.length*g.1.length) v i).1 z+1) (bsS (nxN g a) (a.2.1.length*g.1.length) v i) ((nxN g a z).take j)).2,(j:Int))) l.length (fun j r=>by
  have ⟨d,C,k,⟨q,w⟩,E,B⟩:=acb y hv (Et H) (fun x=>by grind[Qt]) c j;have b:j<(nxN g a z).length:=by rw[<-m,List.length_map];exact r
  have t:=Et H z q w _ (cZ (xs:=nxN g a z) (i:=(j:Int)) (by omega) (by omega));have G:=hp _ (cZ (xs:=l) (i:=(j:Int)) (by omega) (by omega));have h:nth (nxN g a z) (j:Int)=(nth l (j:Int)).2.1*(a.2.1.length:Int)+(nth l (j:Int)).2.2:=by grind[XM]
  unfold j4;simp only;rw[JL b,Qr];generalize Im (nth (bsS (nxN g a) (a.2.1.length*g.1.length) v i).1 z+1) (bsS (nxN g a) (a.2.1.length*g.1.length) v i) ((nxN g a z).take j)=s at d C k B;have A:=d.le;have D:=d.len;rw[if_pos (by grind),aA (by omega) (by omega)];simp[aa];rw[bQ (n:=(nth l (j:Int)).2.1*(a.2.1.length:Int)) (by omega) (by omega),<-h,bQ (by omega) (by omega)];rw[aA (xs:=s.1) t.1 (by omega)];rw[show aU s.2 (i:Int)=some z from by simp_all[aU,if_pos]];simp[aa];rw[aA (xs:=s.1) q (by omega)];simp[aa];rw[aw (by grind),af (by omega),k,bQ (by omega) (by omega)];unfold X9;grind) (by unfold j4;simp) (oP (by omega))
 have u:(nxN g a z).take l.length=nxN g a z:=by
  have:l.length=(nxN g a z).length:=by grind
  grind
 rw[u] at this;rw[e];exact this
theorem Ye:nT g a x=some (RKs g a (x*(a.2.1.length:Int)+a.1)):=by
 have u:=nN H.1 H.2.2 H.2.1;have hv:=abq H hx;have d:=H.2.2.pos;unfold nT;have h:i64.wrap ((g.1.length:Int)*(a.2.1.length:Int))=((a.2.1.length*g.1.length:Nat):Int):=by
  grind[Nat.mul_comm,FK]
 have m:al (jZ g a) aW (([] :List Int),0)=some (.brk (List.replicate (a.2.1.length*g.1.length) (-1),((a.2.1.length*g.1.length:Nat):Int))):=by
  have:=aY (f:=jZ g a) (fun i=>(List.replicate i (-1),(i:Int))) (a.2.1.length*g.1.length) (fun i e=>by
   unfold jZ;rw[h,if_pos (by grind),aw (by grind),af (by omega)];simp[aa];rw[List.replicate_succ']) (by simp_all[jZ,if_neg]) (oP (by omega))
  exact this
 rw[ah m,aaz H hx];generalize o:x*(a.2.1.length:Int)+a.1=v at hv;rw[show aU [v] 0=some v from rfl];simp[aa];rw[aA (xs:=List.replicate _ (-1:Int)) hv.1 (by grind)];have ⟨K,t,r,q⟩:=Yb hv (Et H)
 have:=aY (f:=j5 g a) (fun i=>((bsS (nxN g a) (a.2.1.length*g.1.length) v i).1,(bsS (nxN g a) (a.2.1.length*g.1.length) v i).2,(i:Int))) K (fun i e=>by
  have b:=q i e;have ⟨z,c⟩: ∃z,(bsS (nxN g a) (a.2.1.length*g.1.length) v i).2[i]? =some z:=⟨_,List.getElem?_eq_getElem b⟩;have ⟨k,p⟩:=(Es hv (Et H) i).rng z (List.mem_of_getElem? c);have ⟨l,j,n,hp⟩:=TS H k p;unfold j5;rw[show aU (bsS (nxN g a) (a.2.1.length*g.1.length) v i).2 (i:Int)=some z from by unfold aU;grind];simp only[aa];rw[CT (by omega),j];have s:=ace H hx (o1:=(bsS (nxN g a) (a.2.1.length*g.1.length) v i).1) (o2:=(bsS (nxN g a) (a.2.1.length*g.1.length) v i).2) (by rw[o];exact c) n hp;grind[ah,af]) (by unfold j5;grind) (oP (by omega))
 have this:al (j5 g a) aW ((List.replicate (a.2.1.length*g.1.length) (-1)).set v.toNat 0,[v],0)=_:=this;rw[ah this]
 have:=Lt hv (Et H) r (a.2.1.length*g.1.length - K)
 grind[RKs]
end
theorem Yf {l:List Int} {x:Int} (i:l.length<=1000000) (g:x∈l):bm x l=some (nbI l (some x)):=by
 unfold bm fW;have ⟨o,e,j⟩:=b8 (f:=ff l x) (fun k s=>s=(k:Int)/\x∉l.take k) (fun o=>o= .ret (nbI l (some x))) l.length (s:=0) (by
  rintro k s d ⟨rfl,c⟩;unfold ff;by_cases a:k<l.length
  ·rw[if_pos (by grind),aA (by omega) (by omega)];simp only[aa];by_cases h:nth l (k:Int)=x
   ·grind[cB,List.drop_eq_getElem_cons,List.take_append_drop,H3,aq,Nat.min_eq_left]
   ·refine .inl ⟨a,_,by rw[if_neg (by grind)],by grind[af],?_⟩;rw[take_one a,List.mem_append,List.mem_singleton];rintro (b | b)
    ·exact c b
    ·exact h b.symm
  grind) ⟨rfl,by simp⟩ (oP (by omega))
 grind[bI]
section
variable {a:AutT} {n:Nat}
def rep (c:List Int) (x:Int):Int:=nbI c (some x)
theorem Qu {c:List Int} {x:Int} (h:x∈c):0<=rep c x/\rep c x<c.length/\nth c (rep c x)=x:=by
 grind[qT,rep,cB]
def adl (a:AutT) (n:Nat) (r:AutT):Prop:=(nth (live a) a.1=false/\r=nothing)\/(nth (live a) a.1=true/\ ∃(j:Nat) (c:List Int) (nx:Int->List (Option Int)) (ac:Int->Bool) (N:Nat),c=cI a j/\(∀r,good n (live a) r->nx (nth c r)=zR a c (live a) r)/\(∀r,good n (live a) r->ac (nth c r)=nth a.2.1 r)/\bfE nx (nth c a.1) N/\(∀x∈bfS nx (nth c a.1) N,(nx x).length=9)/\r=(0,(bfS nx (nth c a.1) N).map ac,bfR nx (nth c a.1) N))
theorem M2 (V:VA a n) (C:n<=1000000): ∃r,hO a=some r/\df a=some r/\Data.sm r/\VA r r.2.1.length/\r.2.1.length<=n/\adl a n r:=by
 have P:=V.len;have p:=V.start;have T:(live a).length=n:=by rw[xc,P]
 have ⟨c,es,ei,S,hfix,j,Y⟩:=MZ V C;have d: ∀s:Int,0<=s->s<n->(nth c s<0↔nth (live a) s=false):=fun s w X=>by
  have:=(En a (s:=s.toNat) (by omega) j).1
  grind
 have O: ∀s:Int,0<=s->s<n->nth c s<n:=fun s w X=>by
  have:=XX (c:=c) (a:=a) (s:=s.toNat) (by omega)
  grind
 have q: ∀r,good n (live a) r->0<=nth c r:=fun r b=>by
  have:=d r b.1 b.2.1
  by_cases k:nth c r<0
  ·have:=this.1 k;rw[b.2.2] at this;grind
  ·omega
 have I: ∀r t:Int,0<=r->r<n->0<=t->t<n->0<=nth c r->nth c r=nth c t->Gs a c r=Gs a c t:=fun r t r0 r1 t0 t1 w h=>by
  have:=Qc (a:=a) (c:=c) (s:=r.toNat) (t:=t.toNat) (by omega) (by omega) (by grind) (by grind)
  grind
 have F: ∀r t:Int,0<=r->r<n->0<=t->t<n->0<=nth c r->nth c r=nth c t->nth a.2.1 r=nth a.2.1 t:=fun r t r0 r1 t0 t1 w h=>by
  have:=Vl a (s:=r.toNat) (t:=t.toNat) (by omega) (by omega) j (by rw[<-Y,show ((r.toNat:Nat):Int)=r from by omega];exact w) (by rw[<-Y,show ((r.toNat:Nat):Int)=r from by omega,show ((t.toNat:Nat):Int)=t from by omega];exact h)
  rwa [show ((r.toNat:Nat):Int)=r from by omega,show ((t.toNat:Nat):Int)=t from by omega] at this
 have m: ∀r,good n (live a) r->zR a c (live a) r=(List.range 9).map fun k=>if 0<=ent a c r k then some (ent a c r k) else none:=fun r b=>by
  refine List.map_congr_left fun k g=>?_;have g:=List.mem_range.1 g;have z:=V.mv b.1 b.2.1 g;unfold ent;by_cases h:mv a r k<0
  ·rw[if_pos h,if_neg (fun R=>by omega),if_neg (by omega)]
  ·rw[if_neg h]
   have:=d (mv a r k) (by omega) z.2
   cases W:nth (live a) (mv a r k) with
   | false =>
    grind
   | true =>
    grind
 have U: ∀r t:Int,Gs a c r=Gs a c t-> ∀k,k<9->ent a c r k=ent a c t k:=fun r t h k g=>by
  have h:(List.range 9).map (fun k=>ent a c r k)=(List.range 9).map (fun k=>ent a c t k):=by unfold Gs at h;injection h
  simp_all
 let Q:=fun x=>zR a c (live a) (rep c x);let acc:=fun x=>nth a.2.1 (rep c x);let G:=fun x=> ∃r,good n (live a) r/\nth c r=x;have A: ∀x,G x->x∈c/\0<=x/\good n (live a) (rep c x):=by
  rintro x ⟨r,b,rfl⟩;have z:=cZ b.1 (by rw[S];exact b.2.1);have ⟨w,X,E⟩:=Qu z;have hp:=q r b;refine ⟨z,hp,w,by omega,?_⟩
  have:=d (rep c (nth c r)) w (by omega)
  rw[E] at this;cases W:nth (live a) (rep c (nth c r)) with
  | true=>rfl
  | false=>grind
 have M: ∀r,good n (live a) r->Q (nth c r)=zR a c (live a) r:=fun r b=>by
  have ⟨z,hp,u⟩:=A _ ⟨r,b,rfl⟩;have ⟨w,X,E⟩:=Qu z;show zR a c (live a) (rep c (nth c r))=_;rw[m _ u,m _ b];refine List.map_congr_left fun k g=>?_;rw[U _ _ (I _ _ u.1 u.2.1 b.1 b.2.1 (by omega) E) k (List.mem_range.1 g)]
 have J: ∀r,good n (live a) r->acc (nth c r)=nth a.2.1 r:=fun r b=>by
  have ⟨z,hp,u⟩:=A _ ⟨r,b,rfl⟩;have ⟨w,X,E⟩:=Qu z;exact F _ _ u.1 u.2.1 b.1 b.2.1 (by omega) E
 have hgn: ∀r,good n (live a) r-> ∀y,some y∈zR a c (live a) r->G y:=fun r b y h=>by
  have ⟨k,g,e⟩:=List.mem_map.1 h;have g:k<9:=List.mem_range.1 g;split at e
  ·rename_i hc;exact ⟨mv a r k,⟨hc.1,(V.mv b.1 b.2.1 g).2,hc.2⟩,ae e⟩
  grind
 unfold hO df;simp only[gJ];rw[es,ei,Vf V C];simp only[aa];rw[aA p.1 (by omega)];simp only[aa];cases D:nth (live a) a.1 with
 | false =>
  have:=(d a.1 p.1 p.2).2 D
  rw[JC V T D,if_pos (by grind),P5];exact ⟨nothing,rfl,rfl,MX,M0,V.pos,.inl ⟨D,rfl⟩⟩
 | true =>
  have B:good n (live a) a.1:=⟨p.1,p.2,D⟩;have hp:=q _ B;have H:NumOk Q (nth c a.1) G n:=⟨⟨a.1,B,rfl⟩,fun x f y hy=>hgn _ (A x f).2.2 y hy,fun x f=>by simp[Q,zR],fun l hd h=>MW n l hd fun x f=>by
   obtain ⟨r,b,rfl⟩:=h x f;exact ⟨q r b,O r b.1 b.2.1⟩⟩
  have ⟨N,L,e1⟩:=aaa (acc:=acc) V C S T D H C M J;have i: ∀x,G x->bm x c=some (rep c x):=fun x f=>Yf (by omega) (A x f).1;have ⟨N',Z,e2⟩:=Z9 (most:=(c.length:Int)) (p2:=fun o=>du o (a.1,a.2.1,a.2.2) (fun o=>bm o c)) (p3:=fun o a1=>dw o a1 (a.1,a.2.1,a.2.2) (fun o=>bm o c) c) (acc:=acc) H C (by omega) (fun x f=>aah C (A x f).2.1 (by
    obtain ⟨r,b,rfl⟩:=f;exact O r b.1 b.2.1)) (fun x f=>by
   show du x (a.1,a.2.1,a.2.2) (fun o=>bm o c)=_;unfold du;simp only;rw[i x f];simp only[aa];rw[V.acc (A x f).2.2.1 (A x f).2.2.2.1];rfl) (fun x k f g=>by
   have ⟨z,hx0,u⟩:=A x f;have hm':=V.mv u.1 u.2.1 g;refine ⟨0,?_⟩;show dw x k (a.1,a.2.1,a.2.2) (fun o=>bm o c) c=_;unfold dw;simp only;rw[i x f];simp[aa];rw[show gl (a.1,a.2.1,a.2.2) (rep c x) k=some (mv a (rep c x) k) from Z2 V u.1 u.2.1 g];simp[aa];show _=some (match nth (zR a c (live a) (rep c x)) (k:Int) with | some y=>(y,true) | none=>(0,false));rw[Lh g];by_cases h:mv a (rep c x) k<0
   ·rw[if_pos (by simpa using h),if_neg (fun R=>by omega)]
   ·rw[if_neg (by simpa using h),aA (by omega) (by omega)];simp[aa];have K:=d (mv a (rep c x) k) (by omega) hm'.2;cases W:nth (live a) (mv a (rep c x) k) with
    | false =>
     have:=K.2 W
     rw[if_pos (by simpa using this),if_neg (fun R=>by cases R.2)]
    | true =>
     have: ¬nth c (mv a (rep c x) k)<0:=fun R=>by have:=K.1 R;rw[W] at this;cases this
     rw[if_neg (by simpa using this),if_pos ⟨by omega,rfl⟩])
  cases Tn L Z;have v:=aap (acc:=acc) H L;refine ⟨_,by rw[e1];rfl,?_,aai H C L,v.self,?_,.inr ⟨D,j,c,Q,acc,N,Y,M,J,L,fun x _=>by simp[Q,zR],rfl⟩⟩
  rotate_left
  ·rw[v.len,L.1];exact H.bound _ (pO N) (mL H.g0 H.gn N)
  simp_all
theorem M3 (V:VA a n) (b:n<=1000000): ∃r,hO a=some r/\df a=some r/\Data.sm r/\VA r r.2.1.length/\r.2.1.length<=n:=by
 grind[M2]
theorem TU (V:VA a n) (b:n<=1000000): ∃r,hO a=some r/\df a=some r/\Data.sm r:=by
 grind[M3]
end
theorem yG:Data.sm ((0,[],[]):AutT):=⟨trivial,⟨by decide,fun _ h=>by cases h⟩,by decide,fun _ h=>by cases h⟩
theorem H8 {e:List Tok} (n:e.length<=1048576): ∃r:AutT×Bool,m_s_CompileExpr e=some r/\jN e=some r/\Data.sm r.1:=by
 obtain ⟨⟨p,b⟩,k,o,a,h⟩:=xd n;have a:p.2.2.2.1.length=p.1.length:=a;have h:p.1.length<=100000:=h;unfold m_s_CompileExpr jN;rw[k,o];simp only[aa,gJ];cases b with
 | false=>exact ⟨((0,[],[]),false),rfl,rfl,yG⟩
 | true =>
  have d:=aaf (p:=p) (most:=200) a (by omega) (by omega) (by omega);have f:=ab3 (p:=p) (most:=200) a (by omega) (by omega) (by omega);have d:fy p 200=_:=d;have f:jK p 200=_:=f;rw[d,f];simp only[if_true,aa];rcases JG (nx:=nxS p) (first:=1) (acc:=uF p) (most:=200) (200+2) 0 (fun j t=>by omega) (by simp[bfS]) with e | ⟨N,l,s,e⟩
  ·rw[e];exact ⟨((0,[],[]),false),rfl,rfl,yG⟩
  ·rw[e];simp only[if_true];have V:=Qh (acc:=uF p) (CN p) l;obtain ⟨r,i,m,q⟩:=TU V (by omega);unfold B3;rw[i];simp only[aa,gJ];rw[m];simp only[aa,gJ];by_cases c:(r.2.1.length:Int)>12
   ·have g:decide ((r.2.1.length:Int)>12)=true:=decide_eq_true c;simp only[g,if_true,aa];exact ⟨((0,[],[]),false),rfl,rfl,yG⟩
   ·have g:decide ((r.2.1.length:Int)>12)=false:=decide_eq_false c;simp only[g,Bool.false_eq_true,if_false,aa];exact ⟨(r,true),rfl,rfl,q⟩
theorem CV {e:List Tok} (a:e.length<=1048576): ∃r:AutT×Bool,m_s_CompileExpr e=some r/\jN e=some r/\Data.sm r.1:=H8 a
end D
open Go.ChangeShapes Go.WideShapes Go.ChangeAt Go.RowKit
theorem own:ownKnob Tryz.prog.godebug=none:=by kernel_rfl
theorem laidOut:laidOutB Tryz.prog=true:=by kernel_rfl
theorem yH {H:Type} {enc:TypeId×Value->H} {P:Program} (e:laidOutB P=true) {W f:World} (c:Below W.heap.size W f) :
  ∀ {ts:List TypeId} {vs:List Value} {ds:List (DataW H)} {ps:List MemPlace},(∀t∈ts,P.readableRec t=true/\t<P.types.size)->
   DataW.TrodAll enc P W 0 (fun _=>true) true ts vs ds ps->(∀x∈ps,x.block<W.heap.size)->DataW.TrodAll enc P f 0 (fun b=>decide (b<W.heap.size)) true ts vs ds ps
 | [],[],[],ps,_,h,_=>h
 | t::ts,v::vs,d::ds,ps,hr,⟨p,q,h1,h2,h3⟩,hlt=>by
  subst h3;exact ⟨p,q,Below.trod e (hr t (by simp)).1 (hr t (by simp)).2 h1 c fun x a=>hlt x (by simp[a]),yH e c (fun t g=>hr t (by simp[g])) h2 fun x a=>hlt x (by simp[a]),rfl⟩
 | [],_::_,_,_,_,h,_=>h.elim
 | [],[],_::_,_,_,h,_=>h.elim
 | _::_,[],_,_,_,h,_=>h.elim
 | _::_,_::_,[],_,_,h,_=>h.elim
theorem TV {H:Type} {enc:TypeId×Value->H} {f:Func} {s:ChangeSpec} {W j:World} {args:Array Value} {ds:List (DataW H)} {before:List MemPlace} (k:TypeId)
  (r:Tryz.prog.underlying k=some .bool) (w:f.resultTypes= #[k]) (hp:(f.params.toList.all fun t=>Tryz.prog.readableRec t&&decide (t<Tryz.prog.types.size))=true) (hv:s.vars= [])
  (m:DataW.Whole enc Tryz.prog f.params.toList s.vars false W args.toList ds [] before) (d:(s.fn H (ds++ [])).results= [.lit (.bool true)]) (c:(s.fn H (ds++ [])).args=ds) (b:(s.fn H (ds++ [])).vars= [])
  (a:Below W.heap.size W j):s.post enc Tryz.prog f false true false false W args (.bool true) j:=by
 obtain ⟨p,q,l,g,i,n,u⟩:=m;have e:DataW.Whole enc Tryz.prog f.params.toList s.vars false W args.toList ds [] before:=⟨p,q,l,g,i,n,u⟩;have y:q= []:=by rw[hv] at g;exact g
 subst y;simp only[List.append_nil] at i;subst i;refine ⟨ds,[],before,[],before,[],e,?_,?_,?_,a.frame _,fun h=>by cases h⟩
 ·rw[d,w];exact trodAll_mk1 (shut_bool r true)
 ·rw[c];exact yH laidOut a (fun t o=>by have:=List.all_eq_true.1 hp t o;simpa using this) l fun x v=>by simpa using e.lt x v
 ·rw[b,hv];rfl
namespace D
open Go.RowKit
theorem xe (x y:AutT) (m:Data.sm x):hY x y=some (decide (x=y)):=by
 obtain ⟨-,⟨p,-⟩,o,n⟩:=m;unfold hY;by_cases g:x.1=y.1
 case neg=>rw[if_pos (by simpa using g)];simp[Prod.ext_iff,g]
 rw[if_neg (by simpa using g)];by_cases k:x.2.1.length=y.2.1.length
 case neg=>rw[if_pos (by simp;omega)];simp[Prod.ext_iff];exact fun _ e=>absurd (by rw[e]) k
 rw[if_neg (by simp;omega)];by_cases l:x.2.2.length=y.2.2.length
 case neg=>rw[if_pos (by simp;omega)];simp[Prod.ext_iff];exact fun _ _ e=>absurd (by rw[e]) l
 rw[if_neg (by simp;omega)];rw[eqB (f:=gM x y) x.2.1 y.2.1 (by omega) k (fun i h j=>by
  simp only[gM,bT h,if_true,aK h,aK j,aa,af (show i<9223372036854775807 by omega)];by_cases c:x.2.1[i] =y.2.1[i] <;> simp[c]) (by simp only[gM,bS];rfl)]
 by_cases b:x.2.1=y.2.1
 case neg=>rw[if_neg b];simp[Prod.ext_iff,b]
 rw[if_pos b];rw[eqB (f:=gN x y) x.2.2 y.2.2 (by omega) l (fun i h j=>by
  obtain ⟨r,e,a⟩:=zS x.2.2[i] y.2.2[i] ((n _ (List.getElem_mem h)).1);simp only[gN,bT h,if_true,aK h,aK j,aa,af (show i<9223372036854775807 by omega),e];by_cases c:x.2.2[i] =y.2.2[i]
  ·rw[if_neg (by simpa using a.2 c),if_pos c]
  ·rw[if_pos (by simpa using fun e=>c (a.1 e)),if_neg c]) (by simp only[gN,bS];rfl)]
 by_cases d:x.2.2=y.2.2
 ·rw[if_pos d];simp[Prod.ext_iff,g,b,d]
 ·rw[if_neg d];simp[Prod.ext_iff,d]
theorem TW (xs ys:List Bool) (a:xs.length<=9223372036854775807):fq xs ys=some (decide (xs=ys)):=
 eqL (f:=cT xs ys) xs ys a (fun i h b=>by
  simp only[cT,bT h,if_true,aK h,aK b,aa,af (show i<9223372036854775807 by omega)];by_cases c:xs[i] =ys[i] <;> simp[c]) (by simp only[cT,bS];rfl)
theorem CW (x y:AutT) (d:Data.sm x):fB x y=some (decide (x=y)):=by
 obtain ⟨-,⟨n,-⟩,m,e⟩:=d;unfold fB;by_cases a:x.1=y.1
 case neg=>rw[if_neg (by simpa using a)];simp[Prod.ext_iff,a]
 rw[if_pos (by simpa using a),TW _ _ (by omega)];simp only[aa];by_cases b:x.2.1=y.2.1
 case neg=>rw[if_neg (by simpa using b)];simp[Prod.ext_iff,b]
 rw[if_pos (by simpa using b)]
 have:b7 x.2.2 y.2.2 (fun k l=>iH k l)=some (decide (x.2.2=y.2.2)):=
  eqL (f:=bh x.2.2 y.2.2 _) x.2.2 y.2.2 (by omega) (fun i h j=>by
   simp only[bh,bT h,if_true,aK h,aK j,aa,af (show i<9223372036854775807 by omega),iH];rw[yC _ _ (by have:x.2.2[i].length<=1048576:=(e _ (List.getElem_mem h)).1;omega)];simp only[aa];by_cases c:x.2.2[i] =y.2.2[i] <;> simp[c]) (by simp only[bh,bS];rfl)
 rw[this];by_cases g:x.2.2=y.2.2 <;> simp[Prod.ext_iff,a,b,g]
abbrev QT:=Int×List Tok×Int
abbrev oV:=List AutT×List QT
theorem TX (x y:List Tok) (b:x.length<=1048576):qJ x y=some (decide (x=y)):=by
 exact eqL (f:=ku x y) x y (by omega) (fun i h a=>by
  simp[ku,bT h,if_true,aK h,aK a,aa,gJ,af (show i<9223372036854775807 by omega)];grind) (by simp_all[ku,bS])
theorem Qv (x y:List Tok) (b:x.length<=1048576):eP x y=some (decide (x=y)):=by
 exact eqL (f:=cG x y) x y (by omega) (fun i h a=>by
  simp[cG,bT h,if_true,aK h,aK a,aa,gJ,af (show i<9223372036854775807 by omega)];grind) (by simp_all[cG,bS])
theorem TY (x y:List Tok) (a:x.length<=1048576):nw x y=some (decide (x=y)):=by
 grind[nw,Qv]
theorem yI (x y:oV) (d:Data.sm x):iK x y=some (decide (x=y)):=by
 have ⟨⟨l,g⟩,k,j⟩:=d;unfold iK;by_cases c:x.1.length=y.1.length
 ·by_cases b:x.2.length=y.2.length
  ·rw[eqB (f:=fR x y) x.1 y.1 (by omega) c (fun i h a=>by
    simp[fR,bT h,if_true,aK h,aK a,aa,gJ,xe x.1[i] y.1[i] (g _ (List.getElem_mem h)),af (show i<9223372036854775807 by omega)];grind) (by simp only[fR,bS];rfl)]
   rw[eqB (f:=fS x y) x.2 y.2 (by omega) b (fun i h a=>by
    have e:=TX x.2[i].2.1 y.2[i].2.1 (j _ (List.getElem_mem h)).2.1.1;simp[fS,bT h,if_true,aK h,aK a,aa,e,af (show i<9223372036854775807 by omega)];grind) (by simp only[fS,bS];rfl)]
   grind[Prod.ext_iff]
  ·have:x.2≠y.2:=fun e=>b (by rw[e])
   rw[if_neg (by grind),if_pos (by grind)];simp[Prod.ext_iff,this]
 ·have:x.1≠y.1:=fun e=>c (by rw[e])
  rw[if_pos (by grind)];simp[Prod.ext_iff,this]
theorem M4 (x y:QT) (a:Data.sm x):iW x y=some (decide (x=y)):=by
 unfold iW;rw[TY x.2.1 y.2.1 a.2.1.1];by_cases d:x.1=y.1 <;> by_cases b:x.2.1=y.2.1 <;> by_cases c:x.2.2=y.2.2 <;> simp[Prod.ext_iff,d,b,c]
theorem yJ (x y:oV) (d:Data.sm x):fG x y=some (decide (x=y)):=by
 have ⟨⟨o,j⟩,n,k⟩:=d;unfold fG;have e:bd x.1 y.1 (fun b c=>fB b c)=some (decide (x.1=y.1)):=
  eqL (f:=aR x.1 y.1 _) x.1 y.1 (by omega) (fun i h a=>by
   simp[aR,bT h,if_true,aK h,aK a,aa,gJ,af (show i<9223372036854775807 by omega),CW x.1[i] y.1[i] (j _ (List.getElem_mem h))];grind) (by simp only[aR,bS];rfl)
 have l:ba x.2 y.2 (fun b c=>iW b c)=some (decide (x.2=y.2)):=
  eqL (f:=aM x.2 y.2 _) x.2 y.2 (by omega) (fun i h a=>by
   simp[aM,bT h,if_true,aK h,aK a,aa,gJ,af (show i<9223372036854775807 by omega),M4 x.2[i] y.2[i] (k _ (List.getElem_mem h))];grind) (by simp only[aM,bS];rfl)
 rw[e,l];by_cases m:x.1=y.1 <;> by_cases g:x.2=y.2 <;> simp[Prod.ext_iff,m,g]
theorem vz {R S:Type} {f g:S->Option (Out R S)} (Inv:Nat->S->Prop) (h: ∀i s,Inv i s->g s=f s/\ ∀a,f s=some (.nxt a)->Inv (i+1) a): ∀(k i:Nat) (s:S),Inv i s->al g k s=al f k s
 | 0,_,_,_=>rfl
 | k+1,i,s,hI=>by
  have ⟨c,b⟩:=h i s hI;rw[al,al,c];cases e:f s with
  | none=>rfl
  | some o =>
   cases o with
   | nxt a=>exact vz Inv h k (i+1) a (b a e)
   | brk a=>rfl
   | ret r=>rfl
theorem Lu {f g:Int->Option (Out Int Int)} (N:Nat) (j:N<=1048576) (h: ∀i:Nat,i<N->f (i:Int)=some (.ret (i:Int))\/f (i:Int)=some (.nxt ((i+1:Nat):Int))) (k:f (N:Int)=some (.brk (N:Int))) (c: ∀i:Nat,i<=N->g (i:Int)=f (i:Int)) :
  ∃r:Int,aO (al f aW 0) (fun r=>some r) (fun _=>some (-1))=some r/\aO (al g aW 0) (fun r=>some r) (fun _=>some (-1))=some r/\(r= -1\/ ∃i:Nat,i<N/\r=(i:Int)):=by
 have b:al g aW 0=al f aW 0:=vz (fun i s=>s=(i:Int)/\i<=N) (fun i s ⟨e,a⟩=>by
  grind) aW 0 0 ⟨rfl,Nat.zero_le _⟩
 rw[b];have ⟨o,e,d⟩:=b8 (f:=f) (fun i s=>s=(i:Int)) (fun o=>o= .brk (N:Int)\/ ∃i:Nat,i<N/\o= .ret (i:Int)) N (fun i s a b=>by
  grind) (s:=0) rfl (de _ (by omega))
 rw[e];rcases d with rfl | ⟨i,a,rfl⟩
 ·exact ⟨-1,rfl,rfl,.inl rfl⟩
 ·exact ⟨i,rfl,rfl,.inr ⟨i,a,rfl⟩⟩
theorem M5 (l:List AutT) (a:AutT) (b:l.length<=1048576) (hs: ∀x∈l,Data.sm x) (d:Data.sm a): ∃r:Int,gr l a=some r/\bJ l (fun c=>nP c a)=some r/\(r= -1\/ ∃i:Nat,i<l.length/\r=(i:Int)):=by
 have e: ∀i (h:i<l.length),eW l a (i:Int)=if l[i] =a then some (.ret (i:Int)) else some (.nxt ((i+1:Nat):Int)):=fun i h=>by
  simp[eW,bT h,if_true,aK h,aa,gJ,xe l[i] a (hs _ (List.getElem_mem h)),af (show i<9223372036854775807 by omega)];grind
 refine Lu l.length b (fun i h=>?_) (by simp only[eW,bS];rfl) (fun i f=>?_)
 ·grind
 ·by_cases h:i<l.length
  ·simp[cj,nP,bT h,if_true,aK h,aa,gJ,CW a l[i] d,af (show i<9223372036854775807 by omega)];grind
  ·obtain rfl:i=l.length:=by omega
   simp_all[eW,cj,bS]
def JM (n i:Nat) (s:Int×List AutT×List QT):Prop:=s.1=(i:Int)/\i<=n/\s.2.2.length=i/\s.2.1.length<=i/\(∀a∈s.2.1,Data.sm a)/\ ∀q∈s.2.2,Data.sm q/\0<=q.2.2/\q.2.2<(s.2.1.length:Int)
theorem Lv {b:List QT} (K:Data.sm b) {i:Nat} {s:Int×List AutT×List QT} (B:JM b.length i s):mq b s=bq b s /\
  ((i<b.length/\ ∃s',bq b s=some (.nxt s')/\JM b.length (i+1) s')\/ ∃o,bq b s=some o/\(∀s',o≠ .nxt s')/\(o= .ret (([],[]),false)\/o= .brk s/\i=b.length)):=by
 have ⟨N,I⟩:=aQ K;have ⟨R,A,Q⟩:=s;have ⟨m,M,C,v,l,D⟩:=B;simp only at m C v l D;subst m;by_cases g:i<b.length
 ·have d:=I _ (List.getElem_mem g);have ⟨r,p,z,F⟩:=CV (e:=b[i].2.1) d.2.1.1;have ⟨k,w,x,n⟩:=M5 A r.1 (by omega) l F;have E:bA 56 A [r.1] =some (A++ [r.1]):=aw (by grind);have G: ∀y,bA 40 Q [y] =some (Q++ [y]):=fun y=>aw (by grind);have t:fZ b[i].2.1=some b[i].2.1:=by unfold fZ;rw[aw (by have:=d.2.1.1;grind)];rfl
  have J:iz b[i].2.1=some b[i].2.1:=by unfold iz;rw[aw (by have:=d.2.1.1;grind)];rfl
  unfold mq bq;simp[bT g,if_true,aK g,aa,p,z,AO,Il,gJ,w,x,E,G,t,J,af (show i<9223372036854775807 by omega)];by_cases O:r.2=true
  case neg =>
   simp_all
  by_cases P:1<=b[i].1/\b[i].1<=99
  case neg =>
   grind
  have fin: ∃s':Int×List AutT×List QT,(∀(y:Option (Out (oV×Bool) (Int×List AutT×List QT))),True)/\(Option.bind (if decide (k<0) then some ((A.length:Int),A++ [r.1],Q) else some (k,A,Q)) fun f:Int×List AutT×List QT=>(bA 40 f.2.2 [(b[i].1,b[i].2.1,f.1)]).bind fun h=>some (.nxt (((i+1:Nat):Int),f.2.1,h)):Option (Out (oV×Bool) (Int×List AutT×List QT)))=some (.nxt s')/\JM b.length (i+1) s':=by
   rcases n with rfl | ⟨j,L,rfl⟩
   ·refine ⟨(((i+1:Nat):Int),A++ [r.1],Q++ [(b[i].1,b[i].2.1,(A.length:Int))]),fun _=>trivial,?_,rfl,g,by grind,by grind,fun a S=>?_,fun q c=>?_⟩
    ·grind
    ·grind
    ·simp[List.mem_append,List.mem_singleton] at c;rcases c with c | rfl
     ·grind
     ·exact ⟨⟨trivial,d.2.1,trivial⟩,by simp,by grind⟩
   ·refine ⟨(((i+1:Nat):Int),A,Q++ [(b[i].1,b[i].2.1,(j:Int))]),fun _=>trivial,?_,rfl,g,by grind,by grind,l,fun q c=>?_⟩
    ·grind
    ·simp[List.mem_append,List.mem_singleton] at c;rcases c with c | rfl
     ·grind
     ·exact ⟨⟨trivial,d.2.1,trivial⟩,by simp,by grind⟩
  by_cases H:(i:Int)>0
  ·have hp:i - 1<b.length:=by omega
   have u:i64.wrap ((i:Int) - 1)=((i - 1:Nat):Int):=by rw[j7 (by omega)];omega
   simp[H,decide_true,if_true,u,aK hp,aa];grind
  grind
 ·obtain rfl:i=b.length:=by omega
  simp_all[mq,bq,bS,Bool.false_eq_true,if_false,trivial]
def RegOk (r:oV):Prop:=Data.sm r/\ ∀q∈r.2,0<=q.2.2/\q.2.2<(r.1.length:Int)
theorem qx {a:List QT} (g:Data.sm a): ∃r:oV,∃b:Bool,bR a=(if (a.length:Int)>4 then some (([],[]),false) else some (r,b))/\oT a=some (r,b&&decide ((a.length:Int)<=4))/\RegOk r:=by
 have u:=(aQ g).1;have j:JM a.length 0 (0,[],[]):=⟨rfl,Nat.zero_le _,rfl,aF _,fun _ h=>(by cases h),fun _ h=>(by cases h)⟩;have t:al (mq a) aW (0,[],[])=al (bq a) aW (0,[],[]):=vz (JM a.length) (fun i s c=>by
  have ⟨e,h⟩:=Lv g c;grind) aW 0 _ j
 have ⟨o,e,m⟩:=b8 (f:=bq a) (JM a.length) (fun o=>o= .ret (([],[]),false)\/ ∃A Q,o= .brk ((a.length:Int),A,Q)/\JM a.length a.length ((a.length:Int),A,Q)) a.length (fun i s w c=>by
  rcases (Lv g c).2 with h | ⟨o,e,l,h⟩
  ·grind
  ·rcases h with h | ⟨h,rfl⟩
   ·grind
   ·have ⟨v,A,Q⟩:=s;obtain ⟨rfl,-⟩:=id c;grind) j (de _ (by omega))
 unfold bR oT;rw[t,e];rcases m with rfl | ⟨A,Q,rfl,-,-,p,n,k,d⟩
 ·refine ⟨([],[]),false,?_,rfl,⟨⟨Nat.zero_le _,fun _ h=>(by cases h)⟩,Nat.zero_le _,fun _ h=>(by cases h)⟩,fun _ h=>(by cases h)⟩;grind[aO]
 ·simp only at p n k d;refine ⟨(A,Q),true,?_,by rfl,⟨⟨show A.length<=1048576 by omega,k⟩,show Q.length<=1048576 by omega,fun q h=>(d q h).1⟩,fun q h=>(d q h).2⟩;grind[aO]
theorem kG {r:oV} (d:Data.sm r): ∃b,m_s_IsValidRegistry r=some b/\cM r=some b/\(b=true->RegOk r):=by
 have ⟨x,b,g,h,a⟩:=qx d.2;unfold m_s_IsValidRegistry cM;rw[g,h];by_cases c:(r.2.length:Int)>4
 ·exact ⟨false,by simp[c],by grind,fun e=>by cases e⟩
 ·have f:(r.2.length:Int)<=4:=by omega
  cases b with
  | false=>exact ⟨false,by simp[c],by simp,fun e=>by cases e⟩
  | true =>
   simp[c,if_false,aa,if_true,f,decide_true,Bool.and_true,gJ,yI x r a.1,yJ x r a.1];grind
abbrev vJ:=Int×(List GrT)
abbrev rK:=Int×Int×Int
abbrev abr:=Int×Bool×(tl×tl)
theorem qU (g:GrT) (a:Data.sm g):cy g=some g:=by
 have c:=(aQ a.1).1;have b:=(aQ a.2).1;unfold cy;rw[aw (by simp;omega)];simp only[aa,List.nil_append];rw[aw (by simp;omega)];rfl
theorem Qw (g:GrT) (a:Data.sm g):kA g=some g:=by
 have c:=(aQ a.1).1;have b:=(aQ a.2).1;unfold kA nV;rw[aw (by simp;omega)];simp only[aa,List.nil_append];rw[aw (by simp;omega)];rfl
theorem vA {g:GrT} (a:Data.sm g): ∃b,cQ g=some b:=by
 obtain ⟨b,e,_⟩:=TN g (aQ a.1).1 (aQ a.2).1;exact ⟨b,e⟩
def okG (h:vJ) (g:GrT):Prop:=cQ g=some true/\g.1=(nth h.2 0).1
instance (h g):Decidable (okG h g):=by unfold okG;infer_instance
theorem n9 (h:vJ) (x:Data.sm h): ∃b,m_s_IsValidHistory h=some b/\m_i_IsValidHistory h=some b/\(b=true->(1<=h.2.length/\h.2.length<=8)/\1<=h.1/\h.1<=1000 - (h.2.length:Int)):=by
 obtain ⟨A,v⟩:=aQ x.2;have w:i64.wrap ((i64.wrap (999 - (h.2.length:Int)))+1)=1000 - (h.2.length:Int):=by
  rw[bQ (n:=999 - (h.2.length:Int)) (by omega) (by omega),bQ (by omega) (by omega)];omega
 have m:=scan (f:=bH h) h.2 (okG h) false (by omega) (fun i z=>by
  have j:=v _ (cZ (xs:=h.2) (i:=(i:Int)) (by omega) (by omega));obtain ⟨b,e⟩:=vA j;obtain ⟨r,l,u⟩:=zS (nth h.2 (i:Int)).1 (nth h.2 0).1 (aQ j.1).1;have t:aT ((nth h.2 (i:Int)).1,(nth h.2 (i:Int)).2)=some b:=by rw[mP];exact e
  have d:okG h (nth h.2 (i:Int))↔b=true/\(nth h.2 (i:Int)).1=(nth h.2 0).1:=by unfold okG;rw[e];simp
  unfold bH;rw[if_pos (by simp;omega),aA (by omega) (by omega)];simp only[aa];rw[t,aA (xs:=h.2) (i:=0) (by omega) (by omega)];simp only[aa];rw[l,af (by omega)];simp only[aa];cases b with
  | false=>rw[if_neg (by decide),if_neg (fun c=>by cases (d.1 c).1)]
  | true =>
   rw[if_pos rfl];by_cases c:r=0
   ·rw[if_neg (by simp[c]),if_pos (d.2 ⟨rfl,u.1 c⟩)]
   ·rw[if_pos (by simpa using c),if_neg (fun k=>c (u.2 (d.1 k).2))]) (by unfold bH;simp)
 have y:=scan (f:=gj h) h.2 (okG h) false (by omega) (fun i z=>by
  have j:=v _ (cZ (xs:=h.2) (i:=(i:Int)) (by omega) (by omega));obtain ⟨b,e⟩:=vA j;have l:=yC (nth h.2 (i:Int)).1 (nth h.2 0).1 (by have:=(aQ j.1).1;omega);have t:cQ ((nth h.2 (i:Int)).1,(nth h.2 (i:Int)).2)=some b:=e;have d:okG h (nth h.2 (i:Int))↔b=true/\(nth h.2 (i:Int)).1=(nth h.2 0).1:=by unfold okG;rw[e];simp
  unfold gj;rw[if_pos (by simp;omega),aA (by omega) (by omega)];simp only[aa];rw[t,aA (xs:=h.2) (i:=0) (by omega) (by omega)];simp only[aa];rw[l,af (by omega)];simp only[aa];cases b with
  | false=>rw[if_neg (by decide),if_neg (fun c=>by cases (d.1 c).1)]
  | true =>
   rw[if_pos rfl];by_cases c:(nth h.2 (i:Int)).1=(nth h.2 0).1
   ·rw[if_pos (decide_eq_true c),if_pos (d.2 ⟨rfl,c⟩)]
   ·rw[if_neg (by simpa using c),if_neg (fun k=>c (d.1 k).2)]) (by unfold gj;simp)
 unfold m_s_IsValidHistory m_i_IsValidHistory;rw[AO,AO,Il,Il,w];simp only[aa];by_cases p:(1:Int)<=(h.2.length:Int)/\(h.2.length:Int)<=8
 ·by_cases q:1<=h.1/\h.1<=1000 - (h.2.length:Int)
  ·rw[decide_eq_true p,decide_eq_true q];simp only[if_true];rcases m with ⟨a,g⟩ | ⟨a,g⟩ <;> rcases y with ⟨s,o⟩ | ⟨s,o⟩
   ·rw[ah a,ah s];exact ⟨true,rfl,rfl,fun _=>⟨by omega,q⟩⟩
   ·exact absurd g o
   ·exact absurd o g
   ·rw[bI a,bI s];exact ⟨false,rfl,rfl,fun c=>by cases c⟩
  ·rw[decide_eq_true p,decide_eq_false q];simp only[if_true,Bool.false_eq_true,if_false];rcases m with ⟨a,g⟩ | ⟨a,g⟩
   ·rw[ah a];exact ⟨false,rfl,rfl,fun c=>by cases c⟩
   ·rw[bI a];exact ⟨false,rfl,rfl,fun c=>by cases c⟩
 ·rw[decide_eq_false p];simp only[Bool.false_eq_true,if_false];rcases m with ⟨a,g⟩ | ⟨a,g⟩
  ·rw[ah a];exact ⟨false,rfl,rfl,fun c=>by cases c⟩
  ·rw[bI a];exact ⟨false,rfl,rfl,fun c=>by cases c⟩
def latV (h:vJ):Int:=h.1+(h.2.length:Int) - 1
theorem pR {h:vJ} (hs:m_s_IsValidHistory h=some true) (hi:m_i_IsValidHistory h=some true) (k:(1<=h.2.length/\h.2.length<=8)/\1<=h.1/\h.1<=1000 - (h.2.length:Int)):aV h=some (latV h)/\ko h=some (latV h):=by
 unfold aV ko latV;have hs:m_s_IsValidHistory (h.1,h.2)=_:=hs;have hi:m_i_IsValidHistory (h.1,h.2)=_:=hi;rw[hs,hi];simp only[aa,if_true];rw[bQ (n:=h.1+(h.2.length:Int)) (by omega) (by omega),bQ (by omega) (by omega)];exact ⟨rfl,rfl⟩
end D
namespace D
abbrev Pr:=Int×Int
def ltP (a b:Pr):Prop:=a.1<b.1\/a.1=b.1/\a.2<b.2
instance (a b:Pr):Decidable (ltP a b):=inferInstanceAs (Decidable (_\/_))
def ahd (p:Pr):List Pr->Nat
 | [] =>0
 | a::l=>if ltP a p then ahd p l+1 else 0
theorem Qx (p:Pr): ∀l:List Pr,ahd p l<=l.length
 | [] =>aF _
 | a::l=>by
  unfold ahd;split
  ·have:=Qx p l;rw[ay];omega
  ·exact Nat.zero_le _
theorem Vp (p:Pr): ∀(l:List Pr) (i:Nat),i<ahd p l-> ∃x,l[i]? =some x/\ltP x p
 | [],i,h=>by simp[ahd] at h
 | a::l,i,h=>by
  unfold ahd at h;split at h
  ·rename_i d;cases i with
   | zero=>exact ⟨a,rfl,d⟩
   | succ i =>
    obtain ⟨x,c,b⟩:=Vp p l i (by omega);exact ⟨x,by simpa using c,b⟩
  ·omega
theorem Vq (p:Pr): ∀(l:List Pr) x,l[ahd p l]? =some x-> ¬ltP x p
 | [],x,h=>by simp at h
 | a::l,x,h=>by
  unfold ahd at h;split at h
  ·exact Vq p l x (by simpa using h)
  ·rename_i b;simp at h;subst h;exact b
def put (l:List Pr) (p:Pr):List Pr:=if l[ahd p l]? =some p then l else l.take (ahd p l)++p::l.drop (ahd p l)
def Vr (l m:List Pr):List Pr:=m.foldl put l
end D
namespace D
open Go.RowKit
theorem xf {α R:Type} {f:Int->Option (Out R Int)} (l:List α) (b:α->Bool) (r:Nat->R) (p:l.length<=9223372036854775807) (h: ∀i (hi:i<l.length),f (i:Int)=some (if b l[i] then .ret (r i) else .nxt ((i+1:Nat):Int))) (t:f (l.length:Int)=some (.brk (l.length:Int))) :
  (∃(i:Nat) (hi:i<l.length),b l[i] =true/\(∀j (a:j<i),b (l[j]'(by omega))=false)/\al f aW 0=some (.ret (r i)))\/((∀x,x∈l->b x=false)/\al f aW 0=some (.brk (l.length:Int))):=by
 obtain ⟨o,e,w⟩:=b8 (f:=f) (fun i s=>s=(i:Int)/\ ∀j (a:j<l.length),j<i->b l[j] =false) (fun o=>(∃(i:Nat) (hi:i<l.length),b l[i] =true/\(∀j (a:j<i),b (l[j]'(by omega))=false)/\o= .ret (r i))\/((∀x,x∈l->b x=false)/\o= .brk (l.length:Int))) l.length (fun i s hi g=>by
  obtain ⟨rfl,g⟩:=g;by_cases d:i<l.length
  ·cases k:b l[i] with
   | true=>exact .inr ⟨_,by rw[h i d,k,if_pos rfl],fun v m=>by simp at m,.inl ⟨i,d,k,fun j a=>g j (by omega) a,by simp⟩⟩
   | false=>exact .inl ⟨d,_,by rw[h i d,k,if_neg (by simp)],rfl,fun j a q=>by
     by_cases c:j=i
     ·subst c;exact k
     ·exact g j a (by omega)⟩
  ·obtain rfl:i=l.length:=by omega
   exact .inr ⟨_,t,fun v m=>by simp at m,.inr ⟨fun x u=>by
    obtain ⟨j,a,rfl⟩:=List.getElem_of_mem u;exact g j a a,rfl⟩⟩) (s:=0) ⟨rfl,fun j a y=>by omega⟩ (de _ p)
 rcases w with ⟨i,hi,d,n,rfl⟩ | ⟨d,rfl⟩
 ·exact .inl ⟨i,hi,d,n,e⟩
 ·exact .inr ⟨d,e⟩
section
variable {l m:List Pr} {p:Pr}
theorem ac0 {a b:Pr} :((a.1==b.1)&&((a.2==b.2)&&true))=decide (a=b):=by
 rw[Bool.eq_iff_iff];simp[Prod.ext_iff]
theorem adm {a b:Pr} :(Bool.and.match_1 (fun (_:Bool)=>Bool) (a.1==b.1) (fun (_:Unit)=>false) (fun (_:Unit)=>Bool.and.match_1 (fun (_:Bool)=>Bool) (a.2==b.2) (fun (_:Unit)=>false) (fun (_:Unit)=>true)))=decide (a=b):=ac0
theorem acf (d:l.length<=1073741824):ve l p=some (decide (p∈l)):=by
 unfold ve;rcases xf (f:=oD l p) l (fun x=>decide (x=p)) (fun _=>true) (by omega) (fun i a=>by
   unfold oD;rw[bT a,if_pos rfl,aK a];simp only[aa,ac0,af (show i<9223372036854775807 by omega)];split <;> rfl) (by
   unfold oD;rw[bS];rfl) with ⟨i,a,b,-,e⟩ | ⟨b,e⟩
 ·rw[bI e,decide_eq_true (by rw[<-of_decide_eq_true b];exact List.getElem_mem a)]
 ·rw[ah e,decide_eq_false fun c=>by have:=b p c;simp at this]
theorem Vs (a b:Pr):si a b=some (decide (ltP a b)):=by
 unfold si ltP;by_cases h:a.1<b.1
 ·simp[h]
 ·by_cases k:a.1=b.1 <;> simp[h,k]
end
abbrev aaB:=Int×Int×Int×Int
abbrev Qy:=Bool×aaB
theorem acg (g:GrT) (id:Int) (b:g.2.length<=1048576): ∃k:Int,dL g id=some k/\(k= -1\/ ∃(i:Nat) (hi:i<g.2.length),k=(i:Int)):=by
 have a:=xf (f:=gb g id) g.2 (fun u=>u.1==id) (fun i=>(i:Int)) (by omega) (fun i hi=>by
  unfold gb;rw[bT hi,if_pos rfl,aK hi];simp[aa,af (show i<9223372036854775807 by omega)];split <;> rfl) (by
  simp_all[gb,bS])
 grind[dL,bI,ah]
theorem adn (g:GrT) (e:aaB):u7 g e=km e (g.1.length:Int):=by
 rfl
theorem aaC {α:Type} [Data α] {xs:List α} {y:α} (h:Data.sm xs) (e:Data.sm y) (i:Nat) (c:xs.length<=1048575):Data.sm (xs.take i++([y] ++xs.drop i)):=by
 have ⟨d,b⟩:=aQ h;refine ⟨by grind,fun x a=>?_⟩;grind
theorem Yg {α:Type} [Data α] {xs:List α} (h:Data.sm xs) (i:Nat):Data.sm (xs.take i++xs.drop (i+1)):=by
 have ⟨c,b⟩:=aQ h;refine ⟨by grind,fun x a=>?_⟩;grind
theorem insS (x:GrT) (a:Data.sm x) (e:aaB): ∃r:GrT×Bool,nD x e=some r/\Data.sm r.1:=by
 have ⟨c,p⟩:=aQ a.1;have ⟨h,F⟩:=aQ a.2;have ⟨b,ev,kv⟩:=qw x c h;have ⟨k,v,H⟩:=acg x e.1 h;have d:=Vn e (n:=x.1.length) c;unfold nD;simp only[gJ,mP,ev,qU x a,adn,d,v,aa];cases b with
 | false=>grind
 | true =>
  have G:=kv.1 rfl;have z:=G.1.m;by_cases t:decide (edgeP e (x.1.length:Int))=true
  ·by_cases u:decide (k≥0)=true
   ·simp_all
   ·by_cases D:((x.2.length:Int)==12)=true
    ·simp_all
    ·simp only[if_pos t,if_neg u,if_neg D];have q: ∃i:Nat,i<=x.2.length/\al (ky x e) aW 0=some (.brk (i:Int)):=by
      obtain ⟨o,d,i,g,rfl⟩:=b8 (f:=ky x e) (fun i s=>s=(i:Int)) (fun o=> ∃i:Nat,i<=x.2.length/\o= .brk (i:Int)) x.2.length (fun i s g w=>by
       subst w;unfold ky;by_cases c:i<x.2.length
       ·simp[bT c,if_true,aK c,aa,af (show i<9223372036854775807 by omega)];grind
       grind) (s:=0) rfl (de _ (by omega))
      exact ⟨i,g,d⟩
     have ⟨i,g,j⟩:=q;simp only[j,aO];have E:=aaC (y:=e) a.2 ⟨trivial,trivial,trivial,trivial⟩ i (by omega);have A:(chk (0<=(i:Int)/\(i:Int)<=(x.2.length:Int)))=some ():=if_pos (by omega);have l:bA 8 ([] :List Int) x.1=some x.1:=by rw[aw (by grind)];rfl
     have B:bA 32 ([] :List Yq1) (x.2.take i)=some (x.2.take i):=by rw[aw (by grind)];rfl
     have C:bA 32 (x.2.take i) [e] =some (x.2.take i++ [e]):=aw (by grind);have m:bA 32 (x.2.take i++ [e]) (x.2.drop i)=some (x.2.take i++([e] ++x.2.drop i)):=by
      grind[aw,az,aq,a7,ay,aD,aC]
     simp only[A,aa,Int.toNat_natCast,l,B,C,m];exact ⟨_,rfl,⟨a.1,E⟩⟩
  simp_all
theorem ado (x:GrT) (a:Data.sm x) (id:Int): ∃r:GrT×Bool,nE x id=some r/\Data.sm r.1:=by
 have ⟨t,h⟩:=aQ a.1;have ⟨d,s⟩:=aQ a.2;have ⟨b,ev,kv⟩:=qw x t d;have ⟨k,n,e⟩:=acg x id d;unfold nE;simp only[gJ,mP,ev,qU x a,n,aa];cases b with
 | false=>grind
 | true =>
  by_cases c:decide (k<0)=true
  ·simp_all
  ·rcases e with rfl | ⟨i,u,rfl⟩
   ·grind
   ·have g:i64.wrap ((i:Int)+1)=((i+1:Nat):Int):=af (by omega);have l:(0:Int)<=(i:Int)/\(i:Int)<=(x.2.length:Int):=by omega
    have m:(0:Int)<=((i+1:Nat):Int)/\((i+1:Nat):Int)<=(x.2.length:Int):=by omega
    have o:(chk (0<=(i:Int)/\(i:Int)<=(x.2.length:Int)))=some ():=if_pos l;have j:(chk (0<=((i+1:Nat):Int)/\((i+1:Nat):Int)<=(x.2.length:Int)))=some ():=if_pos m;have f:bA 8 ([] :List Int) x.1=some x.1:=by rw[aw (by grind)];rfl
    have p:bA 32 ([] :List Yq1) (x.2.take i)=some (x.2.take i):=by rw[aw (by grind)];rfl
    have q:bA 32 (x.2.take i) (x.2.drop (i+1))=some (x.2.take i++x.2.drop (i+1)):=aw (by grind);simp only[if_true,g,o,j,aa,Int.toNat_natCast,f,p,q];exact ⟨_,rfl,⟨a.1,Yg a.2 i⟩⟩
theorem Lw (g:GrT) (l:Data.sm g) (b:List Qy): ∃r:GrT×Bool,fh g b=some r/\Data.sm r.1:=by
 unfold fh;simp only[gJ,qU g l,aa];have ⟨o,e,B⟩:=b8 (f:=qK g b) (fun i s=> ∃x:GrT,s=((i:Int),x)/\Data.sm x) (fun o=>o= .ret (g,false)\/ ∃(n:Int) (x:GrT),o= .brk (n,x)/\Data.sm x) 7 (fun i s F z=>by
  obtain ⟨x,rfl,a⟩:=z;have t:=(aQ a.2).1;unfold qK;simp only[gJ];by_cases h:i<b.length
  ·by_cases E:i<7
   ·rw[if_pos (by grind),if_pos (decide_eq_true (show (i:Int)<=6 by omega)),aK h];simp only[aa];have ⟨r,A,C⟩:=insS x a b[i].2;have ⟨d,w,D⟩:=ado x a b[i].2.1;have ⟨k,y,p⟩:=acg x b[i].2.1 t;have v:i64.wrap ((i:Int)+1)=((i+1:Nat):Int):=af (by omega);simp only[A,w,y,qU g l,v,aa];generalize b[i] =u at *;by_cases c:u.1=true
    ·simp[if_pos c];by_cases m:r.2=true
     ·simp[if_pos m,aa,yS];grind
     simp_all[if_neg,aa,yS]
    ·simp only[if_neg c];rcases p with rfl | ⟨j,q,rfl⟩
     ·simp_all[if_pos,aa,yS]
     ·rw[if_neg (by simp),aK q];simp only[aa];split
      ·by_cases m:d.2=true
       ·simp[if_pos m,aa,yS];grind
       simp_all[if_neg,aa,yS]
      ·exact .inr ⟨_,rfl,(fun G h=>by simp at h),.inl rfl⟩
   ·rw[if_pos (by grind),if_neg (by grind)];grind
  ·rw[if_neg (by grind)];grind) (s:=(0,g)) ⟨g,rfl,l⟩ (de _ (by omega))
 rw[e];rcases B with rfl | ⟨n,x,rfl,a⟩
 ·exact ⟨_,rfl,l⟩
 ·exact ⟨_,rfl,a⟩
theorem aaD (g:GrT) (a:Data.sm g) (b:List Qy): ∃r:GrT×Bool,nF g b=some r/\Data.sm r.1:=by
 have ⟨v,ev⟩:=vA a;have ⟨r,c,d⟩:=Lw g a b;unfold nF;simp only[gJ,mP,ev,qU g a,c,aa];grind
theorem Vt (h:vJ) (d:Data.sm h):lU h=some h:=by
 have ⟨g,c⟩:=aQ d.2;have e:=aY (f:=fv h) (fun i=>((i:Int),h.1,h.2.take i)) h.2.length (fun i a=>by
  have e:=qU h.2[i] (c _ (List.getElem_mem a));have b: ∀z:GrT,bA 48 (h.2.take i) [z] =some (h.2.take i++ [z]):=fun z=>aw (by grind);unfold fv;rw[bT a,if_pos rfl,aK a];simp[aa];rw[e];simp[aa];rw[b,af (by omega),List.take_succ_eq_append_getElem a];rfl) (by
  simp_all[fv,bS]) (de _ (by omega))
 grind[List.take_length,al,fv,aW,lU,ah]
def YQ (h:vJ):Prop:=Data.sm h/\1<=h.2.length
theorem yK {n:Int} {l:List GrT} (a:l.length<=1048576) (h: ∀g∈l,Data.sm g):Data.sm ((n,l):vJ):=⟨trivial,a,h⟩
theorem ac1 (h:vJ) (a:Data.sm h): ∃v,aV h=some v:=by
 have ⟨b,c,d,k⟩:=n9 h a;cases b with
 | true=>simp_all[pR]
 | false =>
  simp_all[aV,m_s_IsValidHistory]
theorem Qz (h:vJ) (p:YQ h) (b:List Qy): ∃r:vJ×Bool,ig h b=some r/\YQ r.1:=by
 have ⟨a,f⟩:=p;have ⟨v,j,t,k⟩:=n9 h a;have ⟨u,q⟩:=aQ a.2;unfold ig;simp only[gJ,Vt h a,j,aa];cases v with
 | false=>exact ⟨(h,false),rfl,a,f⟩
 | true =>
  obtain ⟨w,-⟩:=k rfl;simp only[if_true,(pR j t (k rfl)).1,aa];by_cases c:(latV h==999)=true
  ·rw[if_pos c];exact ⟨(h,false),rfl,a,f⟩
  ·rw[if_neg c,bQ (by omega) (by omega),aA (by omega) (by omega)];simp only[aa];have d:=q _ (cZ (xs:=h.2) (i:=(h.2.length:Int) - 1) (by omega) (by omega));have ⟨r,e,x⟩:=aaD _ d b;rw[e];simp only[aa];by_cases m:r.2=true
   ·rw[if_pos m,aw (by grind)];simp only[aa];have o: ∀g∈h.2++ [(r.1.1,r.1.2)],Data.sm g:=fun g d=>by
     grind
    have s:(h.2++ [(r.1.1,r.1.2)]).length=h.2.length+1:=by simp
    have l:(h.2++ [r.1]).length=h.2.length+1:=by simp
    by_cases n:decide (((h.2++ [(r.1.1,r.1.2)]).length:Int)>8)=true
    ·rw[if_pos n,show chk (And ((0:Int)<=1) (1<=((h.2++ [(r.1.1,r.1.2)]).length:Int)))=some () from if_pos (by omega)];refine ⟨_,rfl,yK ?_ fun g d=>o g (List.mem_of_mem_drop d),?_⟩
     ·grind
     grind
    ·rw[if_neg n];refine ⟨_,rfl,yK (by omega) o,?_⟩;grind
   ·rw[if_neg m];exact ⟨(h,false),rfl,a,f⟩
theorem T0 (h:vJ) (hs:Data.sm h) (v:Int): ∃r:vJ×Bool,jv h v=some r/\Data.sm r.1/\(1<=h.2.length->1<=r.1.2.length):=by
 have ⟨b,a,d,k⟩:=n9 h hs;have ⟨j,e⟩:=aQ hs.2;unfold jv;simp only[gJ,Vt h hs,a,aa];cases b with
 | false=>grind
 | true =>
  simp only[if_true,(pR a d (k rfl)).1,aa,AO];by_cases c:h.1<=v/\v<=latV h
  ·have f:=c;unfold latV at f;rw[if_pos (decide_eq_true c),bQ (n:=v - h.1) (by omega) (by omega),show chk (And (0<=v - h.1) (v - h.1<=(h.2.length:Int)))=some () from if_pos (by omega)];refine ⟨_,rfl,yK (by grind) fun g i=>e g (List.mem_of_mem_drop i),fun _=>?_⟩;grind
  simp_all[if_neg]
theorem ac2 {g:GrT} (a:Data.sm g) (G:YP g) {v:Int} (hv:1<=v/\v<=4):gI g v=some ((v,[g]),true):=by
 have j:aT g=some true:=by
  have ⟨b,e,k⟩:=qw g (aQ a.1).1 (aQ a.2).1;rw[mP,e,k.2 G]
 have ⟨c,l,h⟩:=zS g.1 g.1 (aQ a.1).1;cases h.2 rfl;have L:=aY (f:=bH (v,[g])) (fun i=>(i:Int)) 1 (fun i o=>by
  obtain rfl:i=0:=by omega
  unfold bH;have m:aU [g] 0=some g:=by rfl
  simp[ay,aD,Int.natCast_zero,m,aa,j,l,if_true]
  rfl) (by
  rfl) (oP (by omega))
 have L:al (bH (v,[g])) aW 0=_:=L;have d:m_s_IsValidHistory (v,[g])=some true:=by
  unfold m_s_IsValidHistory;rw[ah L,AO,AO];have n:i64.wrap (i64.wrap (999 - ((0+1:Nat):Int))+1)=999:=by decide
  refine congrArg some (decide_eq_true ⟨hv.1,?_⟩);show v<=i64.wrap (i64.wrap (999 - ((0+1:Nat):Int))+1);omega
 unfold gI;simp[gJ,qU g a,aa];rw[d];rfl
section
variable {xs:List Int} {i h:Int}
theorem aaE (a:xs.length<=1048576) (A:iE xs i) (g:GrT): ∃r:aaB×Int×Int,rh (xs,i,h) g=some r/\iE xs r.2.1:=by
 unfold rh;simp only;obtain ⟨z,x,-,m⟩:=bz (h:=h) a A (n:=40) (by omega);rw[x];simp only[aa];obtain ⟨v,u,-,w⟩:=bz (h:=z.2.2) a m (n:=Max.max 1 (g.1.length:Int)) (by omega);rw[u];simp only[aa];obtain ⟨o,p,-,B⟩:=bz (h:=v.2.2) a w (n:=Max.max 1 (g.1.length:Int)) (by omega);rw[p];simp only[aa];obtain ⟨C,y,-,t⟩:=bz (h:=o.2.2) a B (n:=3) (by omega);rw[y];simp only[aa];obtain ⟨b,s,-,e⟩:=bz (h:=C.2.2) a t (n:=16) (by omega);rw[s];simp only[aa];by_cases k:(b.1==0)=true
 ·rw[if_pos k];obtain ⟨q,d,-,c⟩:=ep (h:=b.2.2) a e (l:=[0,99,100]) (by simp);rw[d];exact ⟨_,rfl,c⟩
 ·rw[if_neg k];by_cases f:(b.1==1)=true
  ·rw[if_pos f];obtain ⟨q,d,-,c⟩:=ep (h:=b.2.2) a e (l:=[(-1),5]) (by simp);rw[d];exact ⟨_,rfl,c⟩
  ·rw[if_neg f];by_cases j:(b.1==2)=true
   ·rw[if_pos j];obtain ⟨q,d,-,c⟩:=ep (h:=b.2.2) a e (l:=[(-1),3]) (by simp);rw[d];exact ⟨_,rfl,c⟩
   ·rw[if_neg j];exact ⟨_,rfl,e⟩
abbrev BaS:=Int×Int×List Int×List aaB×List Qy
def YR (xs:List Int) (n:Nat) (s:BaS):Prop:=iE xs s.1/\Data.sm ((s.2.2.1,s.2.2.2.1):GrT)/\s.2.2.2.2.length<=n
theorem FZ (p:xs.length<=1048576) (l:iE xs i) {x:GrT} (m:Data.sm x) {B:List Qy} (v:B.length<=1000) (d:Qy): ∃s:BaS,((fh (x.1,x.2) [(d.1,d.2.1,d.2.2.1,d.2.2.2.1,d.2.2.2.2)]).bind fun b=>if b.2 then ((bA 40 B [(d.1,d.2.1,d.2.2.1,d.2.2.2.1,d.2.2.2.2)]).bind fun g=>some (i,h,b.1.1,b.1.2,g)) else ((cE (xs,i,h) 12).bind fun a=>if a.1 then ((bA 40 B [(d.1,d.2.1,d.2.2.1,d.2.2.2.1,d.2.2.2.2)]).bind fun f=>some (a.2.1,a.2.2,b.1.1,b.1.2,f)) else (some (a.2.1,a.2.2,x.1,x.2,B))))=some s/\YR xs (B.length+1) s:=by
 obtain ⟨r,e,o⟩:=Lw x m [(d.1,d.2.1,d.2.2.1,d.2.2.2.1,d.2.2.2.2)];have e:fh (x.1,x.2) [(d.1,d.2.1,d.2.2.1,d.2.2.2.1,d.2.2.2.2)] =_:=e;have t:bA 40 B [(d.1,d.2.1,d.2.2.1,d.2.2.2.1,d.2.2.2.2)] =some (B++ [(d.1,d.2.1,d.2.2.1,d.2.2.2.1,d.2.2.2.2)]):=aw (by simp only[ay,aD];omega);rw[e];simp only[aa];rw[t];simp only[aa];by_cases c:r.2=true
 ·rw[if_pos c];exact ⟨_,rfl,l,o,by simp⟩
 ·rw[if_neg c];obtain ⟨q,u,k⟩:=wt (h:=h) p l (n:=12) (by omega);rw[u];simp only[aa];by_cases j:q.1=true
  ·rw[if_pos j];exact ⟨_,rfl,k,o,by simp⟩
  ·rw[if_neg j];exact ⟨_,rfl,k,m,by show B.length<=_;omega⟩
theorem T1 (m:xs.length<=1048576) (u:iE xs i) {p:List Int×Int×Int} (hp:p.1=xs) {x:GrT} (K:Data.sm x) {B:List Qy} (H:B.length<=1000) {n:Nat} (R:n+1<1000): ∃s:BaS,je p (((n+1:Nat):Int),i,h,x.1,x.2,B)=some (.nxt ((n:Int),s.1,s.2.1,s.2.2.1,s.2.2.2.1,s.2.2.2.2))/\YR xs (B.length+1) s:=by
 subst hp;unfold je;simp only;rw[if_pos (decide_eq_true (show ((n+1:Nat):Int)>0 by omega)),show i64.wrap (((n+1:Nat):Int) - 1)=(n:Int) from by rw[bQ (by omega) (by omega)];omega];obtain ⟨E,D,O⟩:=aaE (h:=h) m u x;have D:rh (p.1,i,h) (x.1,x.2)=_:=D;rw[D];simp only[aa]
 suffices L: ∀(o:Option BaS),(∃s,o=some s/\YR p.1 (B.length+1) s)-> ∃s:BaS,(o.bind fun g=>some (Out.nxt ((n:Int),g.1,g.2.1,g.2.2.1,g.2.2.2.1,g.2.2.2.2):Out ((List Qy)×Int×Int) (Int×BaS)))=some (.nxt ((n:Int),s.1,s.2.1,s.2.2.1,s.2.2.2.1,s.2.2.2.2))/\YR p.1 (B.length+1) s by
  refine L _ ?_;have b: ∀ {i h:Int} (_:iE p.1 i) (d:Qy),∃s:BaS,(if decide ((B.length:Int)>0)=true then ((cE (p.1,i,h) 4).bind fun j=>Option.bind ((if j.1 then ((aU B (i64.wrap ((B.length:Int) - 1))).bind fun c=>some (cond.match_1 (fun (y:Bool)=>Bool) c.1 (fun (v:Unit)=>false) (fun (C:Unit)=>true),c.2.1,c.2.2.1,c.2.2.2.1,c.2.2.2.2)) else (some (d.1,d.2.1,d.2.2.1,d.2.2.2.1,d.2.2.2.2)):Option Yq6)) (fun a=>(fh (x.1,x.2) ([(a.1,a.2.1,a.2.2.1,a.2.2.2.1,a.2.2.2.2)])).bind fun l=>if l.2 then ((bA 40 B ([(a.1,a.2.1,a.2.2.1,a.2.2.2.1,a.2.2.2.2)])).bind fun I=>some (j.2.1,j.2.2,l.1.1,l.1.2,I)) else ((cE (p.1,j.2.1,j.2.2) 12).bind fun f=>if f.1 then ((bA 40 B ([(a.1,a.2.1,a.2.2.1,a.2.2.2.1,a.2.2.2.2)])).bind fun z=>some (f.2.1,f.2.2,l.1.1,l.1.2,z)) else (some (f.2.1,f.2.2,x.1,x.2,B))))) else ((fh (x.1,x.2) ([(d.1,d.2.1,d.2.2.1,d.2.2.2.1,d.2.2.2.2)])).bind fun e=>if e.2 then ((bA 40 B ([(d.1,d.2.1,d.2.2.1,d.2.2.2.1,d.2.2.2.2)])).bind fun A=>some (i,h,e.1.1,e.1.2,A)) else ((cE (p.1,i,h) 12).bind fun k=>if k.1 then ((bA 40 B ([(d.1,d.2.1,d.2.2.1,d.2.2.2.1,d.2.2.2.2)])).bind fun G=>some (k.2.1,k.2.2,e.1.1,e.1.2,G)) else (some (k.2.1,k.2.2,x.1,x.2,B)))))=some s/\YR p.1 (B.length+1) s:=by
   intro i h u d;by_cases M:(B.length:Int)>0
   ·rw[if_pos (by simpa using M)];obtain ⟨q,J,t⟩:=wt (h:=h) m u (n:=4) (by omega);rw[J];simp only[aa];by_cases r:q.1=true
    ·rw[if_pos r,bQ (by omega) (by omega),aA (by omega) (by omega)];simp only[aa];exact FZ m t K H (cond.match_1 (fun (y:Bool)=>Bool) (nth B ((B.length:Int) - 1)).1 (fun (v:Unit)=>false) (fun (C:Unit)=>true),(nth B ((B.length:Int) - 1)).2)
    ·rw[if_neg r];simp only[aa];exact FZ m t K H d
   ·rw[if_neg (by simpa using M)];exact FZ m u K H d
  by_cases F:(x.2.length:Int)>0
  ·rw[if_pos (by simpa using F)];obtain ⟨q,J,t⟩:=wt (h:=E.2.2) m O (n:=2) (by omega);rw[J];simp only[aa];by_cases r:q.1=true
   ·rw[if_pos r];obtain ⟨w,P,N,Q⟩:=bz (h:=q.2.2) m t (n:=(x.2.length:Int)) F;rw[P];simp only[aa];rw[aA N.1 N.2];simp only[aa];exact b Q (false,nth x.2 w.1)
   ·rw[if_neg r];simp only[aa];exact b t (true,E.1)
  ·rw[if_neg (by simpa using F)];exact b O (true,E.1)
 rintro o ⟨s,rfl,L⟩;exact ⟨s,rfl,L⟩
theorem Lx (a:xs.length<=1048576) {p:List Int×Int×Int} (hp:p.1=xs): ∀(n:Nat) (f:Nat) {i h:Int} {x:GrT} {B:List Qy},n<900->n<f->iE xs i->Data.sm x->B.length+n<=900-> ∃s:BaS,al (je p) f ((n:Int),i,h,x.1,x.2,B)=some (.brk (0,s))/\YR xs (B.length+n) s
 | 0,f+1,i,h,x,B,_,_,hc,hx,hb=>by
  refine ⟨(i,h,x.1,x.2,B),?_,hc,hx,aF _⟩
  have:je p (((0:Nat):Int),i,h,x.1,x.2,B)=some (.brk (0,i,h,x.1,x.2,B)):=by
   unfold je;simp only;rw[if_neg (by simp)];rfl
  rw[al,this]
 | n+1,f+1,i,h,x,B,hn,hf,hc,hx,hb=>by
  obtain ⟨s,e,j,b,k⟩:=T1 (h:=h) a hc hp hx (B:=B) (by omega) (n:=n) (by omega);obtain ⟨t,g,c,d,l⟩:=Lx a hp n f (h:=s.2.1) (x:=(s.2.2.1,s.2.2.2.1)) (B:=s.2.2.2.2) (by omega) (by omega) j b (by omega);refine ⟨t,?_,c,d,by omega⟩;rw[al,e];exact g
theorem QA (a:xs.length<=1048576) (j:iE xs i) {g:GrT} (b:Data.sm g) {m:Nat} (v:m<=8): ∃r:(List Qy)×Int×Int,lJ (xs,i,h) g (m:Int)=some r/\r.1.length<=m/\iE xs r.2.1:=by
 unfold lJ;simp only;have l:cy (g.1,g.2)=_:=qU g b;rw[l,bQ (by omega) (by omega)];simp only[aa];obtain ⟨r,e,t,d⟩:=bz (h:=h) a j (n:=(m:Int)+1) (by omega);rw[e];simp only[aa];obtain ⟨k,c⟩: ∃k:Nat,r.1=(k:Int):=⟨r.1.toNat,by omega⟩;obtain ⟨s,f,q,u,o⟩:=Lx a (p:=(xs,i,h)) rfl k aW (h:=r.2.2) (x:=g) (B:=[]) (by omega) (by unfold aW;omega) d b (by simp only[aD];omega);rw[c,ah f];exact ⟨_,rfl,by have:s.2.2.2.2.length<=0+k:=o;show s.2.2.2.2.length<=m;omega,q⟩
end
def prQ (q:QT):Int×List Tok:=(q.1,q.2.1)
theorem QB {a ps:List QT} (h:a.map prQ=ps.map prQ) (i:Int):(aU a i=none/\aU ps i=none)\/ ∃x y,aU a i=some x/\aU ps i=some y/\x.1=y.1/\x.2.1=y.2.1:=by
 have d:a.length=ps.length:=by
  have:=congrArg List.length h
  simpa using this
 by_cases c:0<=i/\i<a.length
 ·refine .inr ⟨nth a i,nth ps i,aA c.1 c.2,aA c.1 (by omega),?_⟩;obtain ⟨k,rfl⟩: ∃k:Nat,i=(k:Int):=⟨i.toNat,by omega⟩;rw[cB (by omega),cB (by omega)];have b:(a.map prQ)[k]'(by grind)=(ps.map prQ)[k]'(by grind):=by simp[h]
  simp[List.getElem_map,prQ,Prod.mk.injEq] at b;exact b
 grind[aU,List.getElem?_eq_none]
theorem QC {a ps:List QT} (h:a.map prQ=ps.map prQ):bq a=bq ps:=by
 have j:a.length=ps.length:=by
  have:=congrArg List.length h
  simpa using this
 funext s;unfold bq;rw[j];rcases QB h s.1 with ⟨d,e⟩ | ⟨x,y,d,e,f,g⟩
 ·grind
 ·rcases QB h (i64.wrap (s.1 - 1)) with ⟨c,b⟩ | ⟨u,v,c,b,k,i⟩
  ·simp[d,e,c,b,aa,Option.bind_none,f,g]
  ·simp[d,e,c,b,aa,f,g,k,i]
theorem T2 {a ps:List QT} (h:a.map prQ=ps.map prQ):bR a=bR ps:=by
 have b:a.length=ps.length:=by
  have:=congrArg List.length h
  simpa using this
 grind[bR,QC]
theorem Yh (l:List AutT) (a:AutT) (c:l.length<=1048576) (hs: ∀x∈l,Data.sm x):(gr l a=some (-1)/\ ¬a∈l)\/ ∃(i:Nat) (hi:i<l.length),gr l a=some (i:Int)/\l[i] =a:=by
 have b:=xf (f:=eW l a) l (fun u=>decide (u=a)) (fun i=>(i:Int)) (by omega) (fun i h=>by
  simp[eW,bT h,if_true,aK h,aa,gJ,xe l[i] a (hs _ (List.getElem_mem h)),af (show i<9223372036854775807 by omega)];grind) (by simp only[eW,bS];rfl)
 grind[gr,bI,ah]
structure BIn (qs:List QT) (i:Nat) (A:List AutT) (Q:List QT):Prop where
 le:i<=qs.length
 pr:Q.map prQ=(qs.take i).map prQ
 len:A.length<=i
 sm: ∀a∈A,Data.sm a
 at_: ∀q∈Q,∃(j:Nat) (hj:j<A.length),q.2.2=(j:Int)/\m_s_CompileExpr q.2.1=some (A[j],true)
 nd:A.Nodup
 cmp: ∀a∈A,∃e:List Tok,e.length<=1048576/\m_s_CompileExpr e=some (a,true)
 rng: ∀j (hj:j<qs.length),j<i->1<=qs[j].1/\qs[j].1<=99
 asc: ∀j (hj:j+1<qs.length),j+1<i->qs[j].1<qs[j+1].1
theorem T3 {c:List QT} (M:Data.sm c) {i:Nat} {A:List AutT} {Q:List QT} (f:BIn c i A Q) (hi:i<c.length) :
  bq c ((i:Int),A,Q)=some (.ret (([],[]),false))\/ ∃A' Q',bq c ((i:Int),A,Q)=some (.nxt (((i+1:Nat):Int),A',Q'))/\BIn c (i+1) A' Q':=by
 obtain ⟨N,L⟩:=aQ M;have o:=L _ (List.getElem_mem hi);have K:Q.length=i:=by
  have:=congrArg List.length f.pr
  simp only[List.length_map,aq] at this;omega
 have G:=f.len;obtain ⟨r,E,-,S⟩:=CV (e:=c[i].2.1) o.2.1.1;have R:bA 56 A [r.1] =some (A++ [r.1]):=aw (by grind);have T: ∀y,bA 40 Q [y] =some (Q++ [y]):=fun y=>aw (by grind);have F:fZ c[i].2.1=some c[i].2.1:=by unfold fZ;rw[aw (by have:=o.2.1.1;grind)];rfl
 have s: ∀k:Int,(Q++ [(c[i].1,c[i].2.1,k)]).map prQ=(c.take (i+1)).map prQ:=fun k=>by
  rw[aZ,f.pr,List.take_succ_eq_append_getElem hi,aZ];rfl
 have main:r.2=true->(1<=c[i].1/\c[i].1<=99)->(∀h:0<i,c[i - 1].1<c[i].1)-> ∃k A',(k= -1/\A'=A++ [r.1] \/ ∃j:Nat,k=(j:Int)/\A'=A)/\gr A r.1=some k/\BIn c (i+1) A' (Q++ [(c[i].1,c[i].2.1,if k<0 then (A.length:Int) else k)]):=fun w t C=>by
  have B:m_s_CompileExpr c[i].2.1=some (r.1,true):=by grind
  have m: ∀j (n:j<c.length),j<i+1->1<=c[j].1/\c[j].1<=99:=fun j n v=>by
   by_cases e:j=i
   ·grind
   ·exact f.rng j n (by omega)
  have l: ∀j (n:j+1<c.length),j+1<i+1->c[j].1<c[j+1].1:=fun j n v=>by
   by_cases e:j+1=i
   ·grind
   ·exact f.asc j n (by omega)
  rcases Yh A r.1 (by omega) f.sm with ⟨e,D⟩ | ⟨j,n,e,I⟩
  ·refine ⟨-1,A++ [r.1],.inl ⟨rfl,rfl⟩,e,by omega,s _,by grind,fun a g=>?_,fun q d=>?_,?_,fun a g=>?_,m,l⟩
   ·rcases aG g with g | g
    ·exact f.sm a g
    grind
   ·rcases aG d with d | d
    ·obtain ⟨j,n,J,P⟩:=f.at_ q d;exact ⟨j,by grind,J,by grind⟩
    ·rw[ak d];grind
   ·rw[List.nodup_append];refine ⟨f.nd,by simp,fun a g b O=>?_⟩;grind
   ·rcases aG g with g | g
    ·exact f.cmp a g
    ·rw[ak g];exact ⟨_,o.2.1.1,B⟩
  ·refine ⟨(j:Int),A,.inr ⟨j,rfl,rfl⟩,e,by omega,s _,by omega,f.sm,fun q d=>?_,f.nd,f.cmp,m,l⟩;rcases aG d with d | d
   ·exact f.at_ q d
   grind
 have fin:r.2=true->(1<=c[i].1/\c[i].1<=99)->(∀h:0<i,c[i - 1].1<c[i].1)-> ∃A' Q',(((gr A r.1).bind fun p=>Option.bind ((if decide (p<0) then ((bA 56 A ([r.1])).bind fun z=>some ((A.length:Int),z,Q)) else (some (p,A,Q)):Option (Int×List AutT×List QT))) (fun u=>(bA 40 u.2.2 ([(c[i].1,c[i].2.1,u.1)])).bind fun x=>some (Out.nxt (((i+1:Nat):Int),u.2.1,x)))):Option (Out (oV×Bool) (Int×List AutT×List QT)))=some (.nxt (((i+1:Nat):Int),A',Q'))/\BIn c (i+1) A' Q':=fun w t C=>by
  grind
 unfold bq;simp only[bT hi,if_true,aK hi,aa,E,AO,gJ,F,af (show i<9223372036854775807 by omega)];by_cases w:r.2=true
 case neg =>
  grind
 simp only[w,if_true];by_cases t:1<=c[i].1/\c[i].1<=99
 case neg =>
  simp only[t,decide_false,Bool.false_eq_true,if_false];exact .inl trivial
 simp only[t,and_self,decide_true,if_true];by_cases C:(i:Int)>0
 ·have hp:i - 1<c.length:=by omega
  have H:i64.wrap ((i:Int) - 1)=((i - 1:Nat):Int):=by rw[j7 (by omega)];omega
  simp only[C,decide_true,if_true,H,aK hp,aa];grind
 grind
theorem F5 {a:List QT} (p:Data.sm a) {x:oV} (e:bR a=some (x,true)):a.length<=4/\BIn a a.length x.1 x.2:=by
 unfold bR at e;by_cases c:(a.length:Int)>4
 ·grind
 have ⟨o,m,k⟩:=b8 (f:=bq a) (fun i s=> ∃A Q,s=((i:Int),A,Q)/\BIn a i A Q) (fun o=>o= .ret (([],[]),false)\/ ∃A Q,o= .brk ((a.length:Int),A,Q)/\BIn a a.length A Q) a.length (fun i s l d=>by
  obtain ⟨A,Q,rfl,g⟩:=d;by_cases h:i<a.length
  ·grind[T3]
  ·obtain rfl:i=a.length:=by omega
   refine .inr ⟨.brk ((a.length:Int),A,Q),?_,(fun n h=>by grind),.inr ⟨A,Q,rfl,g⟩⟩;simp_all[bq,bS,Bool.false_eq_true,if_false]) (s:=(0,[],[])) ⟨[],[],rfl,Nat.zero_le _,rfl,aF _,(fun _ h=>by cases h),(fun _ h=>by cases h),List.nodup_nil,(fun _ h=>by cases h),(fun j b h=>absurd h (Nat.not_lt_zero _)),(fun j b h=>absurd h (Nat.not_lt_zero _))⟩ (de _ (by omega))
 grind[aO,Option.some.injEq,Prod.mk.injEq]
theorem QD (a:AutT) (g:Data.sm a):po a=some a:=by
 obtain ⟨-,⟨j,-⟩,h,c⟩:=g;unfold po;rw[aw (by simp;omega)];simp only[aa,List.nil_append]
 have:=aY (f:=kU a) (fun i=>((i:Int),a.1,a.2.1,a.2.2.take i)) a.2.2.length (fun i b=>by
  unfold kU;have d:bA 8 ([] :List Int) a.2.2[i] =some a.2.2[i]:=by rw[aw (by have:a.2.2[i].length<=1048576:=(c _ (List.getElem_mem b)).1;simp;omega)];rfl
  simp only[bT b,if_true,aK b,aa,d,af (show i<9223372036854775807 by omega)];rw[aw (by simp;omega)];simp only[aa];rw[List.take_succ_eq_append_getElem b]) (by
  unfold kU;simp only[bS,Bool.false_eq_true,if_false]) (de _ (by omega))
 have e:al (kU a) aW (0,a.1,a.2.1,[])=_:=this;rw[e];simp only[aO,List.take_length]
theorem Yi (a:AutT) (g:Data.sm a):kB a=some a:=by
 obtain ⟨-,⟨j,-⟩,h,c⟩:=g;unfold kB;rw[aw (by simp;omega)];simp only[aa,List.nil_append]
 have:=aY (f:=fp a) (fun i=>((i:Int),a.1,a.2.1,a.2.2.take i)) a.2.2.length (fun i b=>by
  unfold fp nV;have d:bA 8 ([] :List Int) a.2.2[i] =some a.2.2[i]:=by rw[aw (by have:a.2.2[i].length<=1048576:=(c _ (List.getElem_mem b)).1;simp;omega)];rfl
  simp only[bT b,if_true,aK b,aa,d,af (show i<9223372036854775807 by omega)];rw[aw (by simp;omega)];simp only[aa];rw[List.take_succ_eq_append_getElem b]) (by
  unfold fp;simp only[bS,Bool.false_eq_true,if_false]) (de _ (by omega))
 have e:al (fp a) aW (0,a.1,a.2.1,[])=_:=this;rw[e];simp only[aO,List.take_length]
theorem oc (r:oV) (id:Int) (b:r.2.length<=1048576): ∃k:Int,aS r id=some k/\gm r id=some k/\(k= -1\/ ∃i:Nat,i<r.2.length/\k=(i:Int)):=by
 unfold aS gm ct;have a: ∀i (h:i<r.2.length),dk r id (i:Int)=if r.2[i].1=id then some (.ret (i:Int)) else some (.nxt ((i+1:Nat):Int)):=fun i h=>by
  simp only[dk,bT h,if_true,aK h,aa,af (show i<9223372036854775807 by omega)];by_cases c:r.2[i].1=id <;> simp[c]
 obtain ⟨k,e,j,h⟩:=Lu (f:=dk r id) (g:=bt r.2 fun d=>mr d id) r.2.length b (fun i h=>by
  rw[a i h];by_cases c:r.2[i].1=id <;> simp[c]) (by simp only[dk,bS];rfl) (fun i l=>by
  by_cases h:i<r.2.length
  ·rw[a i h];simp only[bt,mr,bT h,if_true,aK h,aa,af (show i<9223372036854775807 by omega)];by_cases c:r.2[i].1=id <;> simp[c]
  ·obtain rfl:i=r.2.length:=by omega
   simp only[dk,bt,bS];rfl)
 refine ⟨k,e,?_,h⟩;rw[j];rfl
theorem xg (r:oV) (d:Data.sm r):iM r=some r:=by
 obtain ⟨k,h⟩:=aQ d.1;obtain ⟨j,g⟩:=aQ d.2;unfold iM;have a:=aY (f:=kV r) (fun i=>((i:Int),r.1.take i,([] :List QT))) r.1.length (fun i b=>by
  unfold kV;simp only[bT b,if_true,aK b,aa,gJ,QD _ (h _ (List.getElem_mem b)),af (show i<9223372036854775807 by omega)];rw[aw (by simp;omega)];simp only[aa];rw[List.take_succ_eq_append_getElem b]) (by
  unfold kV;simp only[bS,Bool.false_eq_true,if_false]) (de _ (by omega))
 have e:al (kV r) aW (0,[],[])=_:=a;rw[e];simp only[aO,List.take_length];have a:=aY (f:=kW r) (fun i=>((i:Int),r.1,r.2.take i)) r.2.length (fun i b=>by
  unfold kW;have c:fZ r.2[i].2.1=some r.2[i].2.1:=by unfold fZ;rw[aw (by have:=(g _ (List.getElem_mem b)).2.1.1;simp;omega)];rfl
  simp only[bT b,if_true,aK b,aa,gJ,c,af (show i<9223372036854775807 by omega)];rw[aw (by simp;omega)];simp only[aa];rw[List.take_succ_eq_append_getElem b]) (by
  unfold kW;simp only[bS,Bool.false_eq_true,if_false]) (de _ (by omega))
 have e:al (kW r) aW (0,r.1,[])=_:=a;rw[e];simp only[List.take_length]
theorem F6 (r:oV) (d:Data.sm r):dm r=some r:=by
 obtain ⟨k,h⟩:=aQ d.1;obtain ⟨j,g⟩:=aQ d.2;unfold dm;have a:=aY (f:=fL r) (fun i=>((i:Int),r.1.take i,([] :List QT))) r.1.length (fun i b=>by
  unfold fL;simp only[bT b,if_true,aK b,aa,gJ,Yi _ (h _ (List.getElem_mem b)),af (show i<9223372036854775807 by omega)];rw[aw (by simp;omega)];simp only[aa];rw[List.take_succ_eq_append_getElem b]) (by
  unfold fL;simp only[bS,Bool.false_eq_true,if_false]) (de _ (by omega))
 have e:al (fL r) aW (0,[],[])=_:=a;rw[e];simp only[aO,List.take_length];have a:=aY (f:=fM r) (fun i=>((i:Int),r.1,r.2.take i)) r.2.length (fun i b=>by
  unfold fM;have c:iz r.2[i].2.1=some r.2[i].2.1:=by unfold iz;rw[aw (by have:=(g _ (List.getElem_mem b)).2.1.1;simp;omega)];rfl
  simp only[bT b,if_true,aK b,aa,gJ,c,af (show i<9223372036854775807 by omega)];rw[aw (by simp;omega)];simp only[aa];rw[List.take_succ_eq_append_getElem b]) (by
  unfold fM;simp only[bS,Bool.false_eq_true,if_false]) (de _ (by omega))
 have e:al (fM r) aW (0,r.1,[])=_:=a;rw[e];simp only[List.take_length]
theorem uI {r:oV} (a:Data.sm r) (h:cM r=some true):r.2.length<=4:=by
 obtain ⟨x,b,f,d,e⟩:=qx a.2;unfold cM at h;rw[d] at h;by_cases c:(r.2.length:Int)<=4
 ·omega
 ·simp[c] at h
theorem CX {α:Type} [Data α] {xs:List α} {y:α} (h:Data.sm xs) (c:Data.sm y) (i:Nat) (d:xs.length<=1048575):Data.sm (xs.take i++([y] ++xs.drop i)):=by
 obtain ⟨e,b⟩:=aQ h;refine ⟨?_,fun x a=>?_⟩
 ·simp only[az,aq,a7,ay,aD];omega
 ·rcases aG a with a | a
  ·exact b _ (List.mem_of_mem_take a)
  ·rcases aG a with a | a
   ·rw[ak a];exact c
   ·exact b _ (List.mem_of_mem_drop a)
theorem M6 {r:oV} (d:Data.sm r) (id:Int) {e:List Tok} (E:Data.sm e): ∃x:oV×Bool,cU r id e=some x/\fD r id e=some x/\Data.sm x.1/\(x.2=false->x.1=r):=by
 obtain ⟨A,T⟩:=aQ d.2;obtain ⟨k,t,B,Q⟩:=oc r id A;obtain ⟨b,q,p,hv⟩:=kG d;unfold cU fD;simp only[t,B,q,p,aa,gJ,xg r d,F6 r d];cases b with
 | false=>exact ⟨(r,false),rfl,rfl,d,fun _=>rfl⟩
 | true =>
  simp only[if_true];by_cases a:k≥0
  ·exact ⟨(r,false),by simp[a],by simp[a],d,fun _=>rfl⟩
  ·have S:=uI d p;have a:decide (k≥0)=false:=by simpa using a
   simp only[a,Bool.false_eq_true,if_false];have C: ∀f:Int->Option (Out (oV×Bool) Int),(∀s,f s=if decide (s<(r.2.length:Int)) then ((aU r.2 s).bind fun P=>if decide (P.1<id) then (some (.nxt (i64.wrap (s+1)))) else (some (.brk s))) else (some (.brk s)))-> ∃i:Nat,i<=r.2.length/\al f aW 0=some (.brk (i:Int)):=by
    intro f M;obtain ⟨o,e,i,h,rfl⟩:=b8 (f:=f) (fun i s=>s=(i:Int)) (fun o=> ∃i:Nat,i<=r.2.length/\o= .brk (i:Int)) r.2.length (fun i s h D=>by
     subst D;rw[M];by_cases j:i<r.2.length
     ·simp only[bT j,if_true,aK j,aa,af (show i<9223372036854775807 by omega)];by_cases l:r.2[i].1<id
      ·exact .inl ⟨j,_,by simp[l],rfl⟩
      ·exact .inr ⟨.brk (i:Int),by simp[l],(fun J e=>by cases e),i,h,rfl⟩
     ·obtain rfl:i=r.2.length:=by omega
      exact .inr ⟨.brk (r.2.length:Int),by simp only[bS,Bool.false_eq_true,if_false],(fun J e=>by cases e),_,h,rfl⟩) (s:=0) rfl (de _ (by omega))
    exact ⟨i,h,e⟩
   obtain ⟨i,h,m⟩:=C (gO r id) (fun s=>rfl);have z:al (kM r id) aW 0=some (.brk (i:Int)):=by
    rw[<-m];congr 1
   simp only[m,z,aO];have w:Data.sm ((id,e,(0:Int)):QT):=⟨trivial,E,trivial⟩;have N:=CX (y:=((id,e,(0:Int)):QT)) d.2 w i (by omega);obtain ⟨x,c,v,G,I⟩:=qx N;have F:(chk (0<=(i:Int)/\(i:Int)<=(r.2.length:Int)))=some ():=if_pos (by omega);have H:bA 40 ([] :List QT) (r.2.take i)=some (r.2.take i):=by rw[aw (by simp only[aD,aq];omega)];rfl
   have K:bA 40 (r.2.take i) [((id,e,(0:Int)):QT)] =some (r.2.take i++ [(id,e,0)]):=aw (by simp only[aq,ay,aD];omega);have u:bA 40 (r.2.take i++ [((id,e,(0:Int)):QT)]) (r.2.drop i)=some (r.2.take i++([(id,e,0)] ++r.2.drop i)):=by
    rw[aw (by simp only[az,aq,a7,ay,aD];omega),aC]
   have O:aL r.2=some r.2:=by unfold aL;rw[aw (by simp only[aD];omega)];rfl
   have L:a8 r.2 (i:Int) [((id,e,(0:Int)):QT)] =some (r.2.take i++([(id,e,0)] ++r.2.drop i),[(id,e,0)]):=by
    unfold a8 R.Rm
    have:(chk (0<=(i:Int)/\(i:Int)<=(r.2.length:Int)/\ [((id,e,(0:Int)):QT)].length=1/\1<=40/\(r.2.length+1)*40<=140737488355328))=some ():=if_pos ⟨by omega,by omega,rfl,by omega,by omega⟩
    rw[this];rfl
   simp only[F,aa,Int.toNat_natCast,H,K,u,O,L,v,G];by_cases n:((r.2.take i++([((id,e,(0:Int)):QT)] ++r.2.drop i)).length:Int)>4
   ·have g: ¬((r.2.take i++([((id,e,(0:Int)):QT)] ++r.2.drop i)).length:Int)<=4:=by omega
    simp only[n,if_true,aa,Bool.false_eq_true,if_false,g,decide_false,Bool.and_false];exact ⟨_,rfl,rfl,d,fun _=>rfl⟩
   ·have g:((r.2.take i++([((id,e,(0:Int)):QT)] ++r.2.drop i)).length:Int)<=4:=by omega
    simp only[n,if_false,aa,g,decide_true,Bool.and_true];cases c with
    | true=>exact ⟨_,rfl,rfl,I.1,fun c=>by cases c⟩
    | false=>exact ⟨_,rfl,rfl,d,fun _=>rfl⟩
theorem QE {α:Type} [Data α] {xs:List α} (h:Data.sm xs) (i j:Nat) (c:i<=j):Data.sm (xs.take i++xs.drop j):=by
 obtain ⟨d,b⟩:=aQ h;refine ⟨?_,fun x a=>?_⟩
 ·simp only[az,aq,a7];omega
 ·rcases aG a with a | a
  ·exact b _ (List.mem_of_mem_take a)
  ·exact b _ (List.mem_of_mem_drop a)
theorem M7 {r:oV} (a:Data.sm r) (id:Int): ∃x:oV×Bool,eE r id=some x/\iQ r id=some x/\Data.sm x.1:=by
 obtain ⟨p,H⟩:=aQ a.2;obtain ⟨k,j,q,d⟩:=oc r id p;obtain ⟨b,h,f,hv⟩:=kG a;unfold eE iQ;simp only[j,q,h,f,aa,gJ,xg r a,F6 r a];rcases d with rfl | ⟨i,G,rfl⟩
 ·refine ⟨(r,false),?_,rfl,a⟩;cases b <;> rfl
 ·have d:decide ((i:Int)<0)=false:=by simp
  cases b with
  | false=>exact ⟨(r,false),by simp,by simp[d],a⟩
  | true =>
   have E:=uI a f;have n:i64.wrap ((i:Int)+1)=((i+1:Nat):Int):=af (by omega);have C:=QE a.2 i (i+1) (by omega);have F:(r.2.take i++r.2.drop (i+1)).length<=3:=by simp only[az,aq,a7];omega
   obtain ⟨x,c,e,g,z⟩:=qx C;have l: ¬((r.2.take i++r.2.drop (i+1)).length:Int)>4:=by omega
   have o:((r.2.take i++r.2.drop (i+1)).length:Int)<=4:=by omega
   rw[if_neg l] at e;rw[decide_eq_true o,Bool.and_true] at g;have t:(0:Int)<=(i:Int)/\(i:Int)<=(r.2.length:Int):=by omega
   have u:(0:Int)<=((i+1:Nat):Int)/\((i+1:Nat):Int)<=(r.2.length:Int):=by omega
   have B:(0:Int)<=(i:Int)/\(i:Int)<=((i+1:Nat):Int)/\((i+1:Nat):Int)<=(r.2.length:Int):=by omega
   have w:(chk (0<=(i:Int)/\(i:Int)<=(r.2.length:Int)))=some ():=if_pos t;have s:(chk (0<=((i+1:Nat):Int)/\((i+1:Nat):Int)<=(r.2.length:Int)))=some ():=if_pos u;have v:(chk (0<=(i:Int)/\(i:Int)<=((i+1:Nat):Int)/\((i+1:Nat):Int)<=(r.2.length:Int)))=some ():=if_pos B;have y:bA 40 ([] :List QT) (r.2.take i)=some (r.2.take i):=by rw[aw (by simp only[aD,aq];omega)];rfl
   have A:bA 40 (r.2.take i) (r.2.drop (i+1))=some (r.2.take i++r.2.drop (i+1)):=aw (by simp only[aq,a7];omega);have m:aL r.2=some r.2:=by unfold aL;rw[aw (by simp only[aD];omega)];rfl
   have D:bP r.2 (i:Int) ((i+1:Nat):Int)=some (r.2.take i++r.2.drop (i+1)):=by
    unfold bP R.abh;rw[v];rfl
   simp only[if_true,d,Bool.false_eq_true,if_false,n,w,s,aa,Int.toNat_natCast,y,A,m,D,e,g];exact ⟨_,rfl,rfl,z.1⟩
theorem pS {r:oV} (e:Data.sm r):m_s_IsValidRegistry r=some true↔bR r.2=some (r,true):=by
 obtain ⟨x,b,a,-,d⟩:=qx e.2;unfold m_s_IsValidRegistry;by_cases c:(r.2.length:Int)>4
 ·rw[if_pos c] at a;rw[a];simp
 ·rw[if_neg c] at a;rw[a];simp only[aa,gJ];cases b with
  | false=>simp
  | true =>
   simp only[if_true];rw[yI x r d.1];simp only[aa,Option.some.injEq,decide_eq_true_eq,Prod.mk.injEq,and_true]
theorem Vu (r:oV) (id:Int) (d:r.2.length<=1048576):(aS r id=some (-1)/\ ∀q∈r.2,q.1≠id)\/ ∃(i:Nat) (hi:i<r.2.length),aS r id=some (i:Int)/\r.2[i].1=id:=by
 have b:=xf (f:=dk r id) r.2 (fun u=>decide (u.1=id)) (fun i=>(i:Int)) (by omega) (fun i h=>by
  simp only[dk,bT h,if_true,aK h,aa,af (show i<9223372036854775807 by omega)];by_cases c:r.2[i].1=id <;> simp[c]) (by simp only[dk,bS];rfl)
 unfold aS;rcases b with ⟨i,hi,a,-,e⟩ | ⟨a,e⟩
 ·rw[bI e];exact .inr ⟨i,hi,rfl,of_decide_eq_true a⟩
 ·rw[ah e];exact .inl ⟨rfl,fun q h=>by simpa using a q h⟩
theorem YS {r:oV} (a:Data.sm r) (id:Int) {e:List Tok} (H:Data.sm e): ∃x:oV×Bool,cU r id e=some x/\fD r id e=some x/\Data.sm x.1/\(x.2=true->bR r.2=some (r,true)/\ ∃i:Nat,i<=r.2.length/\bR (r.2.take i++([(id,e,0)] ++r.2.drop i))=some (x.1,true))/\(x.2=false->x.1=r):=by
 obtain ⟨D,W⟩:=aQ a.2;obtain ⟨k,z,E,U⟩:=oc r id D;obtain ⟨b,q,w,hv⟩:=kG a;have j:=pS a;unfold cU fD;simp only[z,E,q,w,aa,gJ,xg r a,F6 r a];cases b with
 | false=>exact ⟨(r,false),rfl,rfl,a,(fun h=>by cases h),fun _=>rfl⟩
 | true =>
  have j:=j.1 q;simp only[if_true];by_cases d:k≥0
  ·exact ⟨(r,false),by simp[d],by simp[d],a,(fun h=>by cases h),fun _=>rfl⟩
  ·have V:=uI a w;have d:decide (k≥0)=false:=by simpa using d
   simp only[d,Bool.false_eq_true,if_false];have F: ∀f:Int->Option (Out (oV×Bool) Int),(∀s,f s=if decide (s<(r.2.length:Int)) then ((aU r.2 s).bind fun T=>if decide (T.1<id) then (some (.nxt (i64.wrap (s+1)))) else (some (.brk s))) else (some (.brk s)))-> ∃i:Nat,i<=r.2.length/\al f aW 0=some (.brk (i:Int)):=by
    intro f P;obtain ⟨o,e,i,l,rfl⟩:=b8 (f:=f) (fun i s=>s=(i:Int)) (fun o=> ∃i:Nat,i<=r.2.length/\o= .brk (i:Int)) r.2.length (fun i s l G=>by
     subst G;rw[P];by_cases p:i<r.2.length
     ·simp only[bT p,if_true,aK p,aa,af (show i<9223372036854775807 by omega)];by_cases t:r.2[i].1<id
      ·exact .inl ⟨p,_,by simp[t],rfl⟩
      ·exact .inr ⟨.brk (i:Int),by simp[t],(fun M e=>by cases e),i,l,rfl⟩
     ·obtain rfl:i=r.2.length:=by omega
      exact .inr ⟨.brk (r.2.length:Int),by simp only[bS,Bool.false_eq_true,if_false],(fun M e=>by cases e),_,l,rfl⟩) (s:=0) rfl (de _ (by omega))
    exact ⟨i,l,e⟩
   obtain ⟨i,l,u⟩:=F (gO r id) (fun s=>rfl);have C:al (kM r id) aW 0=some (.brk (i:Int)):=by
    rw[<-u];congr 1
   simp only[u,C,aO];have B:Data.sm ((id,e,(0:Int)):QT):=⟨trivial,H,trivial⟩;have Q:=CX (y:=((id,e,(0:Int)):QT)) a.2 B i (by omega);obtain ⟨x,c,v,J,L⟩:=qx Q;have m:=v;have I:(chk (0<=(i:Int)/\(i:Int)<=(r.2.length:Int)))=some ():=if_pos (by omega);have K:bA 40 ([] :List QT) (r.2.take i)=some (r.2.take i):=by rw[aw (by simp only[aD,aq];omega)];rfl
   have N:bA 40 (r.2.take i) [((id,e,(0:Int)):QT)] =some (r.2.take i++ [(id,e,0)]):=aw (by simp only[aq,ay,aD];omega);have A:bA 40 (r.2.take i++ [((id,e,(0:Int)):QT)]) (r.2.drop i)=some (r.2.take i++([(id,e,0)] ++r.2.drop i)):=by
    rw[aw (by simp only[az,aq,a7,ay,aD];omega),aC]
   have S:aL r.2=some r.2:=by unfold aL;rw[aw (by simp only[aD];omega)];rfl
   have O:a8 r.2 (i:Int) [((id,e,(0:Int)):QT)] =some (r.2.take i++([(id,e,0)] ++r.2.drop i),[(id,e,0)]):=by
    unfold a8 R.Rm
    have:(chk (0<=(i:Int)/\(i:Int)<=(r.2.length:Int)/\ [((id,e,(0:Int)):QT)].length=1/\1<=40/\(r.2.length+1)*40<=140737488355328))=some ():=if_pos ⟨by omega,by omega,rfl,by omega,by omega⟩
    rw[this];rfl
   simp only[I,aa,Int.toNat_natCast,K,N,A,S,O,v,J];by_cases n:((r.2.take i++([((id,e,(0:Int)):QT)] ++r.2.drop i)).length:Int)>4
   ·have g: ¬((r.2.take i++([((id,e,(0:Int)):QT)] ++r.2.drop i)).length:Int)<=4:=by omega
    simp only[n,if_true,aa,Bool.false_eq_true,if_false,g,decide_false,Bool.and_false];exact ⟨_,rfl,rfl,a,(fun h=>by cases h),fun _=>rfl⟩
   ·have g:((r.2.take i++([((id,e,(0:Int)):QT)] ++r.2.drop i)).length:Int)<=4:=by omega
    rw[if_neg n] at m;simp only[n,if_false,aa,g,decide_true,Bool.and_true];cases c with
    | true=>exact ⟨_,rfl,rfl,L.1,fun _=>⟨j,i,l,m⟩,fun c=>by cases c⟩
    | false=>exact ⟨_,rfl,rfl,a,(fun h=>by cases h),fun _=>rfl⟩
theorem QF {r:oV} (a:Data.sm r) (id:Int) {e:List Tok} (F:Data.sm e): ∃x:oV×Bool,cU r id e=some x/\Data.sm x.1/\(x.2=true->bR r.2=some (r,true)/\ ∃i:Nat,i<=r.2.length/\bR (r.2.take i++([(id,e,0)] ++r.2.drop i))=some (x.1,true))/\(x.2=false->x.1=r):=by
 obtain ⟨B,S⟩:=aQ a.2;obtain ⟨k,v,Q,O⟩:=oc r id B;obtain ⟨b,q,C,hv⟩:=kG a;have j:=pS a;unfold cU;simp only[v,q,aa,gJ,xg r a];cases b with
 | false=>exact ⟨(r,false),rfl,a,(fun h=>by cases h),fun _=>rfl⟩
 | true =>
  have j:=j.1 q;simp only[if_true];by_cases d:k≥0
  ·exact ⟨(r,false),by simp[d],a,(fun h=>by cases h),fun _=>rfl⟩
  ·have P:=uI a C;have d:decide (k≥0)=false:=by simpa using d
   simp only[d,Bool.false_eq_true,if_false];have D: ∀f:Int->Option (Out (oV×Bool) Int),(∀s,f s=if decide (s<(r.2.length:Int)) then ((aU r.2 s).bind fun N=>if decide (N.1<id) then (some (.nxt (i64.wrap (s+1)))) else (some (.brk s))) else (some (.brk s)))-> ∃i:Nat,i<=r.2.length/\al f aW 0=some (.brk (i:Int)):=by
    intro f L;obtain ⟨o,e,i,l,rfl⟩:=b8 (f:=f) (fun i s=>s=(i:Int)) (fun o=> ∃i:Nat,i<=r.2.length/\o= .brk (i:Int)) r.2.length (fun i s l E=>by
     subst E;rw[L];by_cases p:i<r.2.length
     ·simp only[bT p,if_true,aK p,aa,af (show i<9223372036854775807 by omega)];by_cases t:r.2[i].1<id
      ·exact .inl ⟨p,_,by simp[t],rfl⟩
      ·exact .inr ⟨.brk (i:Int),by simp[t],(fun J e=>by cases e),i,l,rfl⟩
     ·obtain rfl:i=r.2.length:=by omega
      exact .inr ⟨.brk (r.2.length:Int),by simp only[bS,Bool.false_eq_true,if_false],(fun J e=>by cases e),_,l,rfl⟩) (s:=0) rfl (de _ (by omega))
    exact ⟨i,l,e⟩
   obtain ⟨i,l,w⟩:=D (gO r id) (fun s=>rfl);simp only[w,aO];have A:Data.sm ((id,e,(0:Int)):QT):=⟨trivial,F,trivial⟩;have M:=CX (y:=((id,e,(0:Int)):QT)) a.2 A i (by omega);obtain ⟨x,c,u,R,I⟩:=qx M;have m:=u;have G:(chk (0<=(i:Int)/\(i:Int)<=(r.2.length:Int)))=some ():=if_pos (by omega);have H:bA 40 ([] :List QT) (r.2.take i)=some (r.2.take i):=by rw[aw (by simp only[aD,aq];omega)];rfl
   have K:bA 40 (r.2.take i) [((id,e,(0:Int)):QT)] =some (r.2.take i++ [(id,e,0)]):=aw (by simp only[aq,ay,aD];omega);have z:bA 40 (r.2.take i++ [((id,e,(0:Int)):QT)]) (r.2.drop i)=some (r.2.take i++([(id,e,0)] ++r.2.drop i)):=by
    rw[aw (by simp only[az,aq,a7,ay,aD];omega),aC]
   simp only[G,aa,Int.toNat_natCast,H,K,z,u];by_cases n:((r.2.take i++([((id,e,(0:Int)):QT)] ++r.2.drop i)).length:Int)>4
   ·have g: ¬((r.2.take i++([((id,e,(0:Int)):QT)] ++r.2.drop i)).length:Int)<=4:=by omega
    simp only[n,if_true,aa,Bool.false_eq_true,if_false,g,decide_false,Bool.and_false];exact ⟨_,rfl,a,(fun h=>by cases h),fun _=>rfl⟩
   ·have g:((r.2.take i++([((id,e,(0:Int)):QT)] ++r.2.drop i)).length:Int)<=4:=by omega
    rw[if_neg n] at m;simp only[n,if_false,aa,g,decide_true,Bool.and_true];cases c with
    | true=>exact ⟨_,rfl,I.1,fun _=>⟨j,i,l,m⟩,fun c=>by cases c⟩
    | false=>exact ⟨_,rfl,a,(fun h=>by cases h),fun _=>rfl⟩
theorem F7 {a:List QT} (c:Data.sm a) {x:oV} (e:bR a=some (x,true)):x.2.map prQ=a.map prQ/\x.2.length=a.length/\bR x.2=some (x,true):=by
 obtain ⟨-,d⟩:=F5 c e;have b:=d.pr;rw[List.take_length] at b;refine ⟨b,by simpa using congrArg List.length b,?_⟩;rw[T2 b];exact e
theorem uJ {l:List Tok} (h:l.length<=1048576):Data.sm l:=⟨h,fun _ _=>⟨trivial,trivial,trivial,trivial⟩⟩
theorem ach {l:List Tok} (h1:1<=l.length) (a:l.length<=24): ∃s:List Tok,al (qd) aW l=some (.brk s)/\s.length<=24:=by
 obtain ⟨o,e,s,d,rfl⟩:=b8 (f:=qd) (fun i s=>s.length=l.length+i/\s.length<=24) (fun o=> ∃s:List Tok,s.length<=24/\o= .brk s) 24 (fun i s g b=>by
  unfold qd;by_cases c:(s.length:Int)<24
  ·grind[aw]
  grind) (s:=l) ⟨by omega,a⟩ (oP (by omega))
 grind
section
variable {xs:List Int} {i h:Int}
theorem aaF (a:xs.length<=1048576) (C:iE xs i): ∃r:List Tok×Int×Int,xR (xs,i,h)=some r/\Data.sm r.1/\iE xs r.2.1:=by
 unfold xR;have ⟨m,u,j,x⟩:=Vm (h:=h) a C;rw[u];simp only[aa];obtain ⟨b,v,-,k⟩:=bz (h:=m.2.2) a x (n:=14) (by omega);rw[v];simp only[aa];by_cases l:(b.1==0)=true
 ·rw[if_pos l,show chk (And ((0:Int)<=1) (1<=(m.1.length:Int)))=some () from if_pos (by omega)];grind[uJ,a7]
 ·rw[if_neg l];by_cases z:(b.1==1)=true
  ·rw[if_pos z];obtain ⟨F,t,-,y⟩:=bz (h:=b.2.2) a k (n:=9) (by omega);rw[t];simp only[aa];obtain ⟨w,p,-,E⟩:=bz (h:=F.2.2) a y (n:=10) (by omega);rw[p];simp only[aa];obtain ⟨e,d,-,g⟩:=bz (h:=w.2.2) a E (n:=3) (by omega);rw[d];simp only[aa];obtain ⟨A,c,-,f⟩:=bz (h:=e.2.2) a g (n:=5) (by omega);rw[c];rw[aA (by omega) (by omega)];exact ⟨_,rfl,uJ (by simp[List.length_set];omega),f⟩
  ·by_cases G:(b.1==2)=true
   ·have ⟨s,o,I⟩:=ach j.1 j.2;rw[ah o];have ⟨q,B,H⟩:=wt (h:=b.2.2) a k (n:=2) (by omega);rw[B];simp[aa];by_cases D:q.1=true
    ·rw[if_pos D,aw (by grind)];grind[uJ,az,ay,aD]
    ·grind[uJ]
   ·grind[uJ]
theorem H9 (g:xs.length<=1048576) {p:List Int×Int×Int} (hp:p.1=xs): ∀(n:Nat) (f:Nat) {i h:Int} {r:oV},n<900->n<f->iE xs i->Data.sm r->r.1.length<=4->r.2.length<=4-> ∃s:Int×Int×oV,al (jw p) f ((n:Int),i,h,r.1,r.2)=some (.brk (0,s.1,s.2.1,s.2.2.1,s.2.2.2))/\iE xs s.1/\Data.sm s.2.2/\s.2.2.1.length<=4
 | 0,f+1,i,h,r,_,_,hc,hr,hb,_=>by
  refine ⟨(i,h,r),?_,hc,hr,hb⟩
  rfl
 | n+1,f+1,i,h,r,hn,hf,hc,hr,hb,hb2=>by
  obtain ⟨j,E,-,m⟩:=bz (h:=h) g hc (n:=6) (by omega);have ⟨b,C,I,q⟩:=JI (h:=j.2.2) g m;have ⟨x,B,v,d,w⟩:=QF hr (i64.wrap (1+j.1)) (e:=b.1) (uJ (by omega));have c:x.1.1.length<=4/\x.1.2.length<=4:=by
   cases l:x.2 with
   | false=>grind
   | true =>
    obtain ⟨-,o,z,k⟩:=d l;have A:Data.sm b.1:=uJ (by omega);have a:=CX (y:=((i64.wrap (1+j.1),b.1,(0:Int)):QT)) hr.2 ⟨trivial,A,trivial⟩ o (by omega);have ⟨F,u⟩:=F5 a k
    have:=u.len
    have:=(F7 a k).2.1
    omega
  have ⟨t,H,D,G⟩:=H9 g hp n f (h:=b.2.2) (r:=x.1) (by omega) (by omega) q v c.1 c.2
  have:jw p (((n+1:Nat):Int),i,h,r.1,r.2)=some (.nxt ((n:Int),b.2.1,b.2.2,x.1.1,x.1.2)):=by
   unfold jw;grind[bQ]
  grind[al]
theorem Yj:Data.sm (([],[]):oV):=⟨⟨Nat.zero_le _,fun _ h=>by cases h⟩,Nat.zero_le _,fun _ h=>by cases h⟩
theorem M8 (a:xs.length<=1048576) (f:iE xs i): ∃r:oV×Int×Int,mA (xs,i,h)=some r/\(Data.sm r.1/\r.1.1.length<=4)/\iE xs r.2.1:=by
 unfold mA;have ⟨r,e,g,c⟩:=bz (h:=h) a f (n:=3) (by omega);have ⟨k,b⟩: ∃k:Nat,i64.wrap (1+r.1)=(k:Int):=⟨(1+r.1).toNat,by grind[bQ]⟩;have d:k<=3:=by
  rw[bQ (by omega) (by omega)] at b;omega
 have ⟨s,j,m,l⟩:=H9 a (p:=(xs,i,h)) rfl k aW (h:=r.2.2) (r:=([],[])) (by omega) (by unfold aW;omega) c Yj (Nat.zero_le _) (Nat.zero_le _);simp_all[ah]
theorem aaG (k:xs.length<=1048576) (I:iE xs i): ∃r:oV×Int×Int,vj (xs,i,h)=some r/\Data.sm r.1/\iE xs r.2.1:=by
 unfold vj;have ⟨g,A,G,E⟩:=M8 (h:=h) k I;rw[A];simp only[aa];obtain ⟨f,B,-,e⟩:=bz (h:=g.2.2) k E (n:=16) (by omega);rw[B];simp only[aa];have ⟨⟨d,m⟩,J⟩:=G;have ⟨M,j⟩:=aQ m;have b: ∀y:QT,Data.sm y->Data.sm (g.1.2.set 0 y):=fun y K=>⟨by grind,fun q h=>by
  grind⟩
 by_cases w:(f.1==0)=true
 ·rw[if_pos w];by_cases c:(g.1.2.length:Int)>0
  ·rw[if_pos (decide_eq_true c)];obtain ⟨L,D,-,x⟩:=bz (h:=f.2.2) k e (n:=3) (by omega);rw[D];rw[aA (by omega) c];have o:=j _ (cZ (xs:=g.1.2) (i:=0) (by omega) c);exact ⟨_,rfl,⟨d,b _ ⟨trivial,o.2.1,trivial⟩⟩,x⟩
  ·rw[if_neg (by grind)];exact ⟨_,rfl,⟨d,m⟩,e⟩
 ·rw[if_neg w];by_cases u:(f.1==1)=true
  ·rw[if_pos u];by_cases c:(g.1.2.length:Int)>0
   ·rw[if_pos (decide_eq_true c)];obtain ⟨O,z,-,F⟩:=ep (h:=f.2.2) k e (l:=[0,100,99]) (by simp);rw[z];rw[aA (by omega) c];have o:=j _ (cZ (xs:=g.1.2) (i:=0) (by omega) c);exact ⟨_,rfl,⟨d,b _ ⟨trivial,o.2.1,o.2.2⟩⟩,F⟩
   ·rw[if_neg (by grind)];exact ⟨_,rfl,⟨d,m⟩,e⟩
  ·rw[if_neg u];by_cases v:(f.1==2)=true
   ·rw[if_pos v];have ⟨H,p,t,s⟩:=ab8 (h:=f.2.2) k e;rw[p];simp only[aa];have ⟨N,C⟩:=aQ d;rw[aw (by grind)];refine ⟨_,rfl,⟨⟨?_,fun a h=>?_⟩,m⟩,s⟩
    ·grind
    ·rcases aG h with h | h
     ·grind
     ·rw[ak h];exact t.sm
   ·rw[if_neg v];exact ⟨_,rfl,⟨d,m⟩,e⟩
end
theorem Yk {c:Prop} [Decidable c] (h:c):chk c=some ():=if_pos h
theorem M9 {α:Type} {xs:List α} {i n:Nat} {z:α} (h:i<=xs.length):(tJ xs i n z).take i=xs.take i:=by
 unfold tJ;rw[List.take_append_of_le_length (by rw[aq];omega),List.take_take,Nat.min_self]
theorem QG {α:Type} {xs:List α} {i:Nat} {z:α} (h:i<=xs.length):(tJ xs i xs.length z).length=xs.length:=tK h (aF _)
theorem T4 {α:Type} {ys:List α} {i:Nat} {x:α} (h:i<ys.length):(ys.set i x).take (i+1)=ys.take i++ [x]:=by
 rw[List.take_succ_eq_append_getElem (by simpa using h)];simp[List.take_set_of_le]
theorem set_drop {α:Type} {ys:List α} {i j:Nat} {x:α} (h:i<j):(ys.set i x).drop j=ys.drop j:=by
 apply List.ext_getElem?;intro q;rw[List.getElem?_drop,List.getElem?_drop,List.getElem?_set_ne (by omega)]
theorem Ia {α:Type} {ys xs:List α} {j:Nat} (h:ys.drop j=xs.drop j):ys.drop (j+1)=xs.drop (j+1):=by
 rw[<-List.drop_drop,h,List.drop_drop]
theorem T5 {α:Type} {ys xs:List α} {j q:Nat} (h:ys.drop j=xs.drop j) (b:j<=q) (h1:q<ys.length) (a:q<xs.length):ys[q] =xs[q]:=by
 have e:=congrArg (fun l=>l[q - j]?) h;simp only[List.getElem?_drop,show j+(q - j)=q from by omega] at e;rw[List.getElem?_eq_getElem h1,List.getElem?_eq_getElem a] at e;exact ae e
section
variable {α:Type} [DecidableEq α]
end
theorem aaH {p:Prop} [Decidable p] (h:p):chk p=some ():=by unfold chk;rw[if_pos h]
theorem aci {m:Nat} (c:m<2 ^ 30):xP (m:Int)=some (oQ m 30):=by
 have a:m<2 ^ 62:=aJ c (Nat.pow_le_pow_right (by decide) (by decide));unfold xP
 have:=aY (f:=nU (m:Int)) (fun i=>(oQ m i,(i:Int))) 30 (fun i e=>by
  have d:=uH m i;unfold nU;simp only;rw[if_pos (by simp;omega),aaH (by omega),FW a (by omega),af (by omega),vy];simp only[aa];by_cases b:m.testBit i=true
  ·rw[if_pos b,if_pos b,aw (by simp;omega)];rfl
  ·rw[if_neg b,if_neg b];rfl) (by unfold nU;simp) (by unfold aW;omega)
 have this:al (nU (m:Int)) aW (([] :List Int),0)=_:=this;rw[ah this]
def acj (a:AutT) (s v:Int):Bool:=decide (∃q∈oQ (cS a s v) 30,nth a.2.1 q=true)
section
variable {a:AutT} {n:Nat} (V:VA a n) (hn:n<=12)
include V hn
theorem Ib {C:Nat} (g:C<2 ^ n):aO (al (il a (C:Int)) aW 0) (fun r=>some r) (fun _=>some false)=some (decide (∃q∈oQ C 30,nth a.2.1 q=true)):=by
 have b:C<2 ^ 62:=aJ g (p62 (by omega));rcases TM (f:=il a (C:Int)) n (fun i=> ¬(C.testBit i=true/\nth a.2.1 (i:Int)=true)) true (by omega) (fun i l=>by
  unfold il;rw[V.len,if_pos (by simp;omega),CT (by omega),FW b (by omega),V.acc (by omega) (by omega),af (by omega)];simp only[aa];cases C.testBit i <;> cases nth a.2.1 (i:Int) <;> rfl) (by unfold il;rw[V.len];simp) with ⟨e,h⟩ | ⟨e,h⟩
 ·rw[ah e,decide_eq_false];rintro ⟨q,k,d⟩;have o:=FX V hn g q k;obtain ⟨i,l,m,rfl⟩:=CS.1 k;exact h i (by omega) ⟨m,d⟩
 ·rw[bI e,decide_eq_true];by_cases c: ∃q∈oQ C 30,nth a.2.1 q=true
  ·exact c
  ·exact absurd (fun (i:Nat) (l:i<n) (j:C.testBit i=true/\nth a.2.1 (i:Int)=true)=>c ⟨(i:Int),CS.2 ⟨i,by omega,j.1,rfl⟩,j.2⟩) h
end
section
variable {g:GrT} {a:AutT} (H:GOOD g a)
include H
theorem QH {x s:Nat} (d:x<g.1.length) (hs:s<a.2.1.length):kX g a (x:Int) (s:Int)=some (acj a (s:Int) (nth g.1 (x:Int))):=by
 have hv:=H.1.val _ (cZ (xs:=g.1) (i:=(x:Int)) (by omega) (by omega));have b:=H7 H.2.2 H.2.1 (s:=(s:Int)) ⟨by omega,by omega⟩ hv;have c:=X3 H.2.2 H.2.1 (s:=(s:Int)) ⟨by omega,by omega⟩ hv;unfold kX;rw[aA (by omega) (by omega)];simp only[aa];have b:dE (a.1,a.2.1,a.2.2) (s:Int) (nth g.1 (x:Int))=_:=b;rw[b];simp only[aa]
 have:=Ib H.2.2 H.2.1 c
 exact this
end
def ack (g:GrT) (a:AutT) (R:List Int) (i:Nat):Bool:=decide (0<=nth R (i:Int))&&acj a ((i % a.2.1.length:Nat):Int) (nth g.1 ((i / a.2.1.length:Nat):Int))
def aaI (g:GrT) (a:AutT) (R:List Int):Nat->List Int
 | 0=>[]
 | i+1=>if ack g a R i=true then aaI g a R i++ [((i / a.2.1.length:Nat):Int)] else aaI g a R i
def T6 (g:GrT) (a:AutT) (R:List Int):Nat->Nat
 | 0=>0
 | i+1=>if ack g a R i=true then T6 g a R i ||| 2 ^ (i / a.2.1.length) else T6 g a R i
theorem T7 (g:GrT) (a:AutT) (R:List Int): ∀i,(aaI g a R i).length<=i
 | 0=>by simp[aaI]
 | i+1=>by
  have:=T7 g a R i
  rw[aaI];split
  ·rw[az];simp;omega
  ·omega
theorem Yl {x:Nat} {n:Nat} (a:x<=1000000):Gp (x:Int) (n:Int)=((x / n:Nat):Int)/\Int.tmod (x:Int) (n:Int)=((x % n:Nat):Int):=by
 refine ⟨?_,?_⟩
 ·unfold Gp;rw[Int.tdiv_eq_ediv_of_nonneg (Int.natCast_nonneg _),<-Int.natCast_ediv,FK (by have:=Nat.div_le_self x n;omega)]
 ·rw[Int.tmod_eq_emod_of_nonneg (Int.natCast_nonneg _),Int.natCast_emod]
section
variable {g:GrT} {a:AutT} (H:GOOD g a) {R:List Int} (hR:R.length=a.2.1.length*g.1.length)
include H
theorem Vv {i:Nat} (hi:i<a.2.1.length*g.1.length):i / a.2.1.length<g.1.length/\i % a.2.1.length<a.2.1.length/\0<a.2.1.length/\g.1.length<=5:=by
 obtain ⟨b,c⟩:=H.divmod (x:=(i:Int)) (by omega) (by omega);exact ⟨b,c,H.2.2.pos,H.1.n5⟩
theorem JN: ∀i,i<=a.2.1.length*g.1.length->T6 g a R i<2 ^ 5
 | 0,_=>by simp[T6]
 | i+1,hi=>by
  have h:=JN i (by omega);obtain ⟨b,e,d,c⟩:=Vv H (i:=i) (by omega);rw[T6];split
  ·exact yE h (by omega)
  ·exact h
include hR
theorem aaJ:al (kY g a R) aW (0,0)=some (.brk ((T6 g a R (a.2.1.length*g.1.length):Int),((a.2.1.length*g.1.length:Nat):Int))):=by
 have o:=nN H.1 H.2.2 H.2.1
 have:=aY (f:=kY g a R) (fun i=>((T6 g a R i:Int),(i:Int))) (a.2.1.length*g.1.length) (fun i j=>by
  obtain ⟨b,l,p,m⟩:=Vv H j;obtain ⟨k,h⟩:=Yl (x:=i) (n:=a.2.1.length) (by omega);have e:=JN H (R:=R) i (by omega);unfold kY;simp only;rw[if_pos (by simp only[decide_eq_true_eq];omega),aA (by omega) (by omega),CT (by omega),k,h,af (by omega)];simp only[aa];have d:kX (g.1,g.2) (a.1,a.2.1,a.2.2) ((i / a.2.1.length:Nat):Int) ((i % a.2.1.length:Nat):Int)=_:=QH H b l;rw[d,T6];simp only[aa];unfold ack;by_cases c:0<=nth R (i:Int)
  ·rw[if_pos (by simpa using c),decide_eq_true c,Bool.true_and];cases acj a ((i % a.2.1.length:Nat):Int) (nth g.1 ((i / a.2.1.length:Nat):Int)) with
   | false=>rfl
   | true =>
    simp only[if_true];rw[CT (Int.natCast_nonneg _),JJ (by omega),Qn (aJ e (Nat.pow_le_pow_right (by decide) (by decide))) (Nat.pow_lt_pow_right (by decide) (by omega))];rfl
  ·rw[if_neg (by simpa using c),decide_eq_false c,Bool.false_and];rfl) (by unfold kY;simp only;rw[if_neg (by simp;omega)]) (oP (by omega))
 exact this
end
def abt (g:GrT) (a:AutT) (x:Int):List Int:=oQ (T6 g a (RKs g a (x*(a.2.1.length:Int)+a.1)) (a.2.1.length*g.1.length)) 30
theorem Ly (g:GrT) (a:AutT) (x:Int):(abt g a x).length<=30:=uH _ _
section
variable {g:GrT} {a:AutT} (H:GOOD g a) {x:Int} (hx:0<=x/\x<g.1.length)
include H hx
theorem T8:sd g a x=some (abt g a x):=by
 unfold sd;have e:nT (g.1,g.2) (a.1,a.2.1,a.2.2) x=_:=Ye H hx;have b:=aaA H hx;rw[e];simp only[aa];rw[ah (aaJ H b),aci (aJ (JN H _ (aF _)) (Nat.pow_le_pow_right (by decide) (by decide)))];rfl
end
def YT (g:GrT) (a:AutT):Nat->List (Int×Int)
 | 0=>[]
 | x+1=>YT g a x++(abt g a (x:Int)).map fun y=>((x:Int),y)
theorem F8 (g:GrT) (a:AutT): ∀x,(YT g a x).length<=30*x
 | 0=>by simp[YT]
 | x+1=>by
  have c:=F8 g a x;have b:=Ly g a (x:Int);rw[YT,az,List.length_map];omega
theorem T9 {f:tl×Int->Option (Out tl (tl×Int))} {l:List Int} {x:Int} {o:List (Int×Int)} (e:l.length<=30) (d:o.length<=1000)
  (b: ∀(o:List (Int×Int)) (j:Nat),j<l.length->o.length<=2000->f (o,(j:Int))=some (.nxt (o++ [(x,nth l (j:Int))],((j+1:Nat):Int)))) (c: ∀o,f (o,(l.length:Int))=some (.brk (o,(l.length:Int)))) :
  al f aW (o,0)=some (.brk (o++l.map fun y=>(x,y),(l.length:Int))):=by
 have:=aY (f:=f) (fun j=>(o++(l.take j).map fun y=>(x,y),(j:Int))) l.length (fun j a=>by
  rw[b _ j a (by rw[az,List.length_map,aq];omega),JL a,aZ,aC];rfl) (c _) (oP (by omega))
 rw[List.take_length] at this;simpa using this
theorem aaK (g:GrT) (a:AutT) (i:Data.sm g) (e:Data.sm a): ∃b,sb g a 0 0=some b/\(b=true->GOOD g a):=by
 have ⟨b,d,k⟩:=qw g (aQ i.1).1 (aQ i.2).1;have m:=(aQ e.2.1).1;have f:=(aQ e.2.2).1;have ⟨c,l,j⟩:=Yc a (by omega) (by omega);have d:aT (g.1,g.2)=some b:=by rw[mP];exact d
 unfold sb;rw[d,l,AO,AO];cases b with
 | false=>grind
 | true =>
  cases c with
  | false=>grind
  | true =>
   by_cases h:(0:Int)<=0/\(0:Int)<=i64.wrap ((g.1.length:Int) - 1)
   ·rw[decide_eq_true h];exact ⟨_,rfl,fun _=>⟨(k.1 rfl).1,(j.1 rfl).1,(j.1 rfl).2⟩⟩
   grind
theorem acm (g:GrT) (a:AutT) (m:Data.sm g) (n:Data.sm a): ∃l,nH g a=some l/\l.length<=150:=by
 have ⟨b,c,h⟩:=aaK g a m n;unfold nH;cases b with
 | false =>
  refine ⟨[],?_,by decide⟩
  have:=aY (f:=eD g a) (fun _=>(([] :List (Int×Int)),(0:Int))) 0 (fun i k=>absurd k (Nat.not_lt_zero _)) (by
   simp_all[eD,aa,Bool.false_eq_true,if_false]) (by unfold aW;omega)
  rw[ah this]
 | true =>
  have H:=h rfl;have r:=H.1.n5;refine ⟨YT g a g.1.length,?_,by grind[F8]⟩
  have:=aY (f:=eD g a) (fun x=>(YT g a x,(x:Int))) g.1.length (fun x s=>by
   have t:=F8 g a x;have d:=Ly g a (x:Int);unfold eD;have e:=T8 H (x:=(x:Int)) ⟨by omega,by omega⟩;rw[if_pos (by grind),c,e];simp[aa,if_true];rw[ah (T9 (x:=(x:Int)) (l:=abt g a (x:Int)) d (by omega) (fun o j p q=>by
    unfold nc;rw[if_pos (by grind),aA (by omega) (by omega)];simp[aa];rw[aw (by simp;omega),af (by omega)];rfl) (fun o=>by unfold nc;simp)),af (by omega)]
   rfl) (by unfold eD;simp) (oP (by omega))
  have this:al (eD g a) aW (([] :List (Int×Int)),0)=_:=this;rw[ah this]
theorem acn {r:oV} (p:Data.sm r) {g:GrT} (f:Data.sm g) (id:Int): ∃(l:List (Int×Int)) (b:Bool),dR r g id=some (l,b)/\l.length<=150:=by
 have ⟨k,j,y,d⟩:=oc r id (aQ p.2).1;have ⟨b,s,A,hv⟩:=kG p;have h: ∃x:AutT×Bool,ju r id=some x/\Data.sm x.1:=by
  unfold ju;simp only[j,s,aa,gJ];rcases d with rfl | ⟨i,n,rfl⟩
  ·simp_all[yG]
  ·have d:decide ((i:Int)<0)=false:=by simp
   cases b with
   | false=>grind[yG]
   | true =>
    have ⟨v,h⟩:=hv rfl;have ⟨o,m⟩:=h _ (List.getElem_mem n);have e:=aA o m;have u:=(aQ v.1).2 _ (cZ o m);simp[if_true,d,Bool.false_eq_true,if_false,aK n,aa,e,gJ,QD _ u];grind
 have ⟨⟨a,q⟩,w,t⟩:=h;obtain ⟨c,e,-⟩:=qw g (aQ f.1).1 (aQ f.2).1;have B:aT (g.1,g.2)=some c:=by rw[mP];exact e
 have ⟨l,j,z⟩:=acm g a f t;unfold dR;simp[aa];cases q with
 | false=>grind
 | true =>
  cases c with
  | false=>grind
  | true=>simp_all
theorem QI (h:vJ) (j:Data.sm h) {r:oV} (w:Data.sm r) (id v:Int): ∃(g:GrT) (q:Bool) (l:List (Int×Int)) (b:Bool),jV h v=some (g,q)/\dR r g id=some (l,b)/\l.length<=150:=by
 suffices x: ∃(g:GrT) (q:Bool),jV h v=some (g,q)/\Data.sm g by
  have ⟨g,q,e,m⟩:=x;have ⟨l,b,s,A⟩:=acn w m id;grind
 have ⟨b,f,u,k⟩:=n9 h j;have a:=f;have z:Data.sm (([],[]):GrT):=⟨⟨by decide,fun _ d=>by cases d⟩,by decide,fun _ d=>by cases d⟩;unfold jV;rw[a];simp only[aa];cases b with
 | false=>grind
 | true =>
  have o:=k rfl;have p:=(pR f u o).1;simp only[if_true,p,aa,AO,decide_eq_true_eq];by_cases c:h.1<=v/\v<=latV h
  ·have y:=c;unfold latV at y;have t:=(aQ j.2).2 _ (cZ (xs:=h.2) (i:=v - h.1) (by omega) (by omega));have s:=qU _ t;rw[if_pos c,bQ (n:=v - h.1) (by omega) (by omega),aA (by omega) (by omega)];simp_all
  simp_all[if_neg]
theorem Ym (l:List Pr) (p:Pr):(put l p).length<=l.length+1:=by
 have:=Qx p l
 unfold put;split
 ·omega
 ·rw[az,aq,ay,a7];omega
theorem F9: ∀(m l:List Pr),(Vr l m).length<=l.length+m.length
 | [],l=>aF _
 | p::m,l=>by
  have b:=F9 m (put l p);have a:=Ym l p;show (Vr (put l p) m).length<=_;rw[ay];omega
theorem QJ (l m:List Pr) (p:Pr):Vr l (m++ [p])=put (Vr l m) p:=by simp[Vr]
theorem aco (l:List Pr) (p:Pr) (u:l.length<=1073741824):vf l p=some (put l p):=by
 have t:=Qx p l;have e:al (oE l p) aW 0=some (.brk ((ahd p l:Nat):Int)):=by
  obtain ⟨o,e,rfl⟩:=b8 (f:=oE l p) (fun i s=>s=(i:Int)) (fun o=>o= .brk ((ahd p l:Nat):Int)) (ahd p l) (fun i s v m=>by
   subst m;unfold oE;by_cases c:i<ahd p l
   ·obtain ⟨x,b,n⟩:=Vp p l i c;have a:i<l.length:=by omega
    rw[List.getElem?_eq_getElem a] at b;obtain rfl:=ae b;refine .inl ⟨c,((i+1:Nat):Int),?_,rfl⟩;rw[bT a,if_pos rfl,aK a];simp only[aa,Vs,gJ];rw[if_pos (decide_eq_true n),af (by omega)]
   ·obtain rfl:i=ahd p l:=by omega
    refine .inr ⟨_,?_,fun w j=>(by simp at j),rfl⟩;by_cases a:ahd p l<l.length
    ·have g:=Vq p l _ (List.getElem?_eq_getElem a);rw[bT a,if_pos rfl,aK a];simp only[aa,Vs,gJ];rw[if_neg (by simpa using g)]
    ·rw[if_neg (by simp;omega)]) (s:=0) rfl (de _ (by omega))
  exact e
 unfold vf;rw[ah e];have k:chk ((0:Int)<=((ahd p l:Nat):Int)/\((ahd p l:Nat):Int)<=(l.length:Int))=some ():=if_pos (by omega);have q:bA 16 ([] :List Pr) ((l.take (ahd p l)).drop 0)=some (l.take (ahd p l)):=by
  rw[List.drop_zero,aw (by simp only[aD,aq];omega)];rfl
 have r:bA 16 (l.take (ahd p l)) [p] =some (l.take (ahd p l)++ [p]):=aw (by simp only[List.length_singleton,aq];omega);have d:bA 16 (l.take (ahd p l)++ [p]) ((l.take l.length).drop (ahd p l))=some (l.take (ahd p l)++p::l.drop (ahd p l)):=by
  rw[List.take_of_length_le (aF _),aw (by simp only[az,List.length_singleton,aq,a7];omega),aC];rfl
 simp only[k,aa,Int.toNat_natCast,q,r,d,gJ];unfold put;by_cases a:ahd p l<l.length
 ·rw[bT a,if_pos rfl,aK a];simp only[aa,adm];rw[List.getElem?_eq_getElem a];by_cases h:l[ahd p l] =p
  ·rw[if_pos (decide_eq_true h),if_pos (by rw[h])]
  ·rw[if_neg (by simpa using h),if_neg (by simpa using h)]
 ·rw[if_neg (by simp;omega),List.getElem?_eq_none (by omega),if_neg (by simp)]
theorem Eu {a b:List Pr} (k:a.length<=67108864) (m:b.length<=67108864):im a b=some (Vr [] (a.filter fun x=> !decide (x∈b))):=by
 unfold im;obtain ⟨l,j,rfl⟩:=fO (f:=gQ a b) (fun i s=>s=(Vr [] ((a.take i).filter fun x=> !decide (x∈b)),(i:Int))) a.length (fun i s g e=>by
  subst e;have c:=F9 ((a.take i).filter fun x=> !decide (x∈b)) [];have d:=List.length_filter_le (fun x=> !decide (x∈b)) (a.take i);rw[aq] at d;refine ⟨_,?_,rfl⟩;unfold gQ;rw[bT g,if_pos rfl,aK g];simp only[aa,gJ];rw[acf (by omega)];simp only[aa];rw[af (by omega),List.take_succ_eq_append_getElem g,List.filter_append];by_cases h:a[i] ∈ b
  ·rw[if_pos (decide_eq_true h)];simp[h]
  ·rw[if_neg (by simpa using h),aco _ _ (by simp only[aD] at c;omega)];simp only[aa];rw[show [a[i]].filter (fun x=> !decide (x∈b))= [a[i]] from by simp[h],QJ]) (fun s e=>by
  subst e;unfold gQ;rw[bS];rfl) (s:=(([] :List Pr),0)) rfl (de _ (by omega))
 rw[ah j,List.take_of_length_le (aF _)]
def ac3 (m:abr):Prop:=m.2.2.1.length<=150/\m.2.2.2.length<=150
theorem aaL (a b:List (Int×Int)) (g:a.length<=1000000) (e:b.length<=1000000): ∃d:tl×tl,lu a b=some d/\d.1.length<=b.length/\d.2.length<=a.length:=by
 unfold lu;rw[Eu (by omega) (by omega),Eu (by omega) (by omega)];have k: ∀(l:List (Int×Int)) (f:Int×Int->Bool),(Vr [] (l.filter f)).length<=l.length:=fun l f=>by
  have:=F9 (l.filter f) []
  have c:=List.length_filter_le f l;simp at this;omega
 exact ⟨_,rfl,k _ _,k _ _⟩
theorem acp (h:vJ) (o:Data.sm h) {r:oV} (n:Data.sm r) (s:rK): ∃b,pq h r s=some b/\(b=true->aV h=some (latV h)):=by
 obtain ⟨b,j,p,k⟩:=n9 h o;obtain ⟨c,a,-,-⟩:=kG n;obtain ⟨f,d,-,-⟩:=oc r s.2.1 (aQ n.2).1;have i:m_s_IsValidHistory (h.1,h.2)=_:=j;have a:m_s_IsValidRegistry (r.1,r.2)=_:=a;have d:aS (r.1,r.2) s.2.1=_:=d;unfold pq;rw[i,a,d];simp only[aa];cases b with
 | false=>exact ⟨false,rfl,fun c=>by cases c⟩
 | true =>
  obtain ⟨l,q⟩:=pR j p (k rfl);have e:aV (h.1,h.2)=_:=l;cases c with
  | false=>exact ⟨false,rfl,fun c=>by cases c⟩
  | true =>
   rw[e];simp only[if_true,aa];by_cases g:f≥0
   ·by_cases m:s.2.2≥0
    ·simp only[decide_eq_true g,decide_eq_true m,if_true];exact ⟨_,rfl,fun _=>(by first | exact l | trivial)⟩
    ·simp only[decide_eq_true g,decide_eq_false m,if_true,Bool.false_eq_true,if_false];exact ⟨false,rfl,fun c=>by cases c⟩
   ·simp only[decide_eq_false g,Bool.false_eq_true,if_false];exact ⟨false,rfl,fun c=>by cases c⟩
theorem adp (h:vJ) (n:Data.sm h) {r:oV} (o:Data.sm r) (s:rK) (e:Int): ∃m:abr,kZ h r s e=some m/\ac3 m:=by
 obtain ⟨g,q,l,b,a,j,v⟩:=QI h n o s.2.1 e;have a:jV (h.1,h.2) e=_:=a;have j:dR (r.1,r.2) (g.1,g.2) s.2.1=_:=j;unfold kZ;rw[a];simp only[aa];rw[j];simp only[aa];by_cases c:s.2.2<h.1
 ·rw[if_pos (decide_eq_true c)];exact ⟨_,rfl,v,Nat.zero_le _⟩
 ·rw[if_neg (by simpa using c)];obtain ⟨k,w,p,x,f,i,t⟩:=QI h n o s.2.1 s.2.2;have f:jV (h.1,h.2) s.2.2=_:=f;have i:dR (r.1,r.2) (k.1,k.2) s.2.1=_:=i;rw[f];simp only[aa];rw[i];simp only[aa];obtain ⟨d,u,z,y⟩:=aaL p l (by omega) (by omega);rw[u];exact ⟨_,rfl,by show d.1.length<=150;omega,by show d.2.length<=150;omega⟩
theorem acq (h:vJ) (e:Data.sm h) {r:oV} (d:Data.sm r) (s:rK): ∃x:abr×rK×Bool,my h r s=some x/\ac3 x.1:=by
 obtain ⟨b,c,-⟩:=acp h e d s;have c:pq (h.1,h.2) (r.1,r.2) (s.1,s.2.1,s.2.2)=_:=c;unfold my;rw[c];simp only[aa];cases b with
 | false=>exact ⟨_,rfl,Nat.zero_le _,Nat.zero_le _⟩
 | true =>
  simp only[if_true];obtain ⟨m,a,k⟩:=adp h e d s (Max.max h.1 (i64.wrap (s.2.2+1)));have a:kZ (h.1,h.2) (r.1,r.2) (s.1,s.2.1,s.2.2) (Max.max h.1 (i64.wrap (s.2.2+1)))=_:=a;rw[a];exact ⟨_,rfl,k⟩
section
variable {xs:List Int} {i h:Int}
theorem Lz (e:xs.length<=1048576) {p:List Int×Int×Int} (hp:p.1=xs): ∀(n:Nat) (f:Nat) {i h:Int} {H:vJ},n<900->n<f->iE xs i->YQ H-> ∃s:Int×Int×vJ,al (gi p) f ((n:Int),i,h,H.1,H.2)=some (.brk (0,s.1,s.2.1,s.2.2.1,s.2.2.2))/\iE xs s.1/\YQ s.2.2
 | 0,f+1,i,h,H,_,_,hc,hr=>by
  refine ⟨(i,h,H),?_,hc,hr⟩
  have:gi p (((0:Nat):Int),i,h,H.1,H.2)=some (.brk (0,i,h,H.1,H.2)):=by
   unfold gi;simp only;rw[if_neg (by simp)];rfl
  rw[al,this]
 | n+1,f+1,i,h,H,hn,hf,hc,hr=>by
  obtain ⟨u,j⟩:=aQ hr.1.2;have g:=hr.2;have o:=j _ (cZ (xs:=H.2) (i:=(H.2.length:Int) - 1) (by omega) (by omega));obtain ⟨a,b,-,d⟩:=QA (h:=h) e hc o (m:=4) (by decide);have b:lJ (xs,i,h) ((nth H.2 ((H.2.length:Int) - 1)).1,(nth H.2 ((H.2.length:Int) - 1)).2) 4=_:=b;obtain ⟨x,c,r⟩:=Qz H hr a.1;have c:ig (H.1,H.2) a.1=_:=c;obtain ⟨t,q,k,l⟩:=Lz e hp n f (h:=a.2.2) (H:=x.1) (by omega) (by omega) d r;refine ⟨t,?_,k,l⟩
  have:gi p (((n+1:Nat):Int),i,h,H.1,H.2)=some (.nxt ((n:Int),a.2.1,a.2.2,x.1.1,x.1.2)):=by
   unfold gi;simp only;rw[if_pos (decide_eq_true (show ((n+1:Nat):Int)>0 by omega)),bQ (n:=(H.2.length:Int) - 1) (by omega) (by omega),aA (by omega) (by omega)];simp only[aa];rw[hp,b];simp only[aa];rw[c];simp only[aa];rw[show i64.wrap (((n+1:Nat):Int) - 1)=(n:Int) from by rw[bQ (by omega) (by omega)];omega]
  rw[al,this];exact q
theorem aaM (b:xs.length<=1048576) (F:iE xs i): ∃r:vJ×Int×Int,oG (xs,i,h)=some r/\YQ r.1/\iE xs r.2.1:=by
 unfold oG;simp only;obtain ⟨c,w,⟨j,G⟩,B⟩:=Lq (h:=h) b F;rw[w];simp only[aa];obtain ⟨a,x,K,C⟩:=bz (h:=c.2.2) b B (n:=4) (by omega);rw[x];simp only[aa];rw[bQ (n:=1+a.1) (by omega) (by omega)];have f:=ac2 j G (v:=1+a.1) (by omega);have f:gI (c.1.1,c.1.2) (1+a.1)=_:=f;rw[f];simp only[aa];obtain ⟨d,u,m,z⟩:=ep (h:=a.2.2) b C (l:=[3,5,10]) (by simp);rw[u];simp only[aa];have m:3<=d.1/\d.1<=10:=by simp at m;omega
 obtain ⟨e,A,J,q⟩:=bz (h:=d.2.2) b z (n:=d.1) (by omega);rw[A];simp only[aa];obtain ⟨k,o⟩: ∃k:Nat,e.1=(k:Int):=⟨e.1.toNat,by omega⟩;have y:YQ ((1+a.1,[c.1]):vJ):=⟨yK (by simp) (fun g D=>by rw[ak D];exact j),aF _⟩;obtain ⟨s,t,E,I⟩:=Lz b (p:=(xs,i,h)) rfl k aW (h:=e.2.2) (H:=((1+a.1,[c.1]):vJ)) (by omega) (by unfold aW;omega) q y;rw[o,ah t];exact ⟨_,rfl,I,E⟩
theorem Yn (c:xs.length<=1048576) (A:iE xs i): ∃r:vJ×Int×Int,xQ (xs,i,h)=some r/\Data.sm r.1/\iE xs r.2.1:=by
 unfold xQ;simp only;obtain ⟨o,s,j,x⟩:=aaM (h:=h) c A;rw[s];simp only[aa];obtain ⟨a,t,-,d⟩:=bz (h:=o.2.2) c x (n:=14) (by omega);rw[t];simp only[aa];obtain ⟨e,f⟩:=aQ j.1.2;have q:=j.2;by_cases p:(a.1==0)=true
 ·rw[if_pos p];obtain ⟨C,z,-,y⟩:=ep (h:=a.2.2) c d (l:=[0,999,998,1000]) (by simp);rw[z];exact ⟨_,rfl,yK e f,y⟩
 ·rw[if_neg p];by_cases k:(a.1==1)=true
  ·rw[if_pos k];obtain ⟨B,u,w,v⟩:=Vo (h:=a.2.2) c d;rw[u];simp only[aa];rw[bQ (n:=(o.1.2.length:Int) - 1) (by omega) (by omega),aA (by omega) (by omega)];refine ⟨_,rfl,yK (by rw[List.length_set];exact e) (fun g b=>?_),v⟩;rcases List.mem_or_eq_of_mem_set b with b | rfl
   ·exact f g b
   ·exact w
  ·rw[if_neg k];by_cases m:(a.1==2)=true
   ·rw[if_pos m];exact ⟨_,rfl,yK (Nat.zero_le _) (fun g b=>by cases b),d⟩
   ·rw[if_neg m];exact ⟨_,rfl,yK e f,d⟩
end
def mkB (l:List UInt8):ByteArray:=⟨l.toArray⟩
theorem Yo (a b:List UInt8):mkB a++mkB b=mkB (a++b):=ByteArray.ext (by simp[mkB])
theorem bE (a:List UInt8):(mkB a).size=a.length:=by simp[mkB,ByteArray.size]
theorem gB (a:List UInt8):(mkB a).data.toList=a:=by simp[mkB]
theorem C6 (a b:List UInt8) (h:a.length+b.length<=9223372036854775807):mc (mkB a) (mkB b)=some (mkB (a++b)):=by
 unfold mc chk;rw[bE,bE,if_pos h,aa,Yo]
theorem adq: ∀d:Fin 10,IntKind.u8.wrap (i64.wrap (48+(d.val:Int)))=48+(d.val:Int):=by decide
theorem adr {d:Nat} (h:d<10):Ab [IntKind.u8.wrap (i64.wrap (48+(d:Int)))] =mkB [UInt8.ofNat (48+d)]:=by
 rw[adq ⟨d,h⟩];show ByteArray.empty.push (UInt8.ofNat (48+(d:Int)).toNat)=_;rw[show (48+(d:Int)).toNat=48+d by omega];rfl
theorem ads (m:Int):(if decide ((Int.tmod m 10)<0) then (some (i64.wrap (-(Int.tmod m 10)))) else (some (Int.tmod m 10)):Option Int)=some ((m.natAbs % 10:Nat):Int):=by
 by_cases h:m<0
 ·obtain ⟨k,rfl⟩: ∃k:Nat,m= -(k:Int):=⟨m.natAbs,by omega⟩;have e:Int.tmod (-(k:Int)) 10= -((k % 10:Nat):Int):=by rw[Int.neg_tmod];rfl
  rw[e,Int.natAbs_neg,Int.natAbs_natCast];by_cases a:k % 10=0
  ·rw[a];rfl
  ·rw[if_pos (decide_eq_true (by omega)),Int.neg_neg,bQ (by omega) (by omega)]
 ·obtain ⟨k,rfl⟩: ∃k:Nat,m=(k:Int):=⟨m.natAbs,by omega⟩;have e:Int.tmod (k:Int) 10=((k % 10:Nat):Int):=rfl;rw[e,if_neg (by simp;omega),Int.natAbs_natCast]
theorem ac4 {m:Int} (h:I64 m):Gp m 10=m.tdiv 10/\(m.tdiv 10).natAbs=m.natAbs / 10:=by
 have k:(m.tdiv 10).natAbs=m.natAbs / 10:=Int.natAbs_tdiv m 10;unfold I64 at h;refine ⟨?_,k⟩;unfold Gp;exact bQ (by omega) (by omega)
theorem Yp {m:Int} {out:List UInt8} (a:m≠0) (h:I64 m) (b:out.length<=1000):fg (m,mkB out)=some (.nxt (m.tdiv 10,mkB (UInt8.ofNat (48+m.natAbs % 10)::out))):=by
 unfold fg;simp only[];rw[if_pos (by simpa using a),ads,aa,adr (Nat.mod_lt _ (by omega)),C6 _ _ (by simp;omega),aa,(ac4 h).1];rfl
theorem Vx (u:Nat):1<=Lib.nDigits u:=by
 by_cases h:u<10
 ·rw[Lib.nDigits_small h];omega
 ·rw[Lib.nDigits_big h];omega
theorem QK: ∀(k:Nat) (m:Int) (out:List UInt8),m≠0->I64 m->Lib.nDigits m.natAbs<=k->out.length+Lib.nDigits m.natAbs<=100->al fg (k+1) (m,mkB out)=some (.brk (0,mkB (Lib.decDigits m.natAbs++out)))
 | 0,m,out,_,_,h,_=>by have:=Vx m.natAbs;omega
 | k+1,m,out,h0,hm,h,hl=>by
  rw[al,Yp h0 hm (by omega)];show al fg (k+1) (m.tdiv 10,_)=_;have a:=(ac4 hm).2;by_cases b:m.natAbs<10
  ·have c:m.tdiv 10=0:=by
    have:(m.tdiv 10).natAbs=0:=by rw[a];omega
    omega
   rw[c,al]
   have:fg (0,mkB (UInt8.ofNat (48+m.natAbs % 10)::out))=some (.brk (0,mkB (UInt8.ofNat (48+m.natAbs % 10)::out))):=rfl
   rw[this,Lib.decDigits_one b,Nat.mod_eq_of_lt b];rfl
  ·have c:m.tdiv 10≠0:=by
    intro e;rw[e] at a
    have:m.natAbs / 10=0:=by simpa using a.symm
    omega
   have f:=Lib.nDigits_big b;have d:I64 (m.tdiv 10):=by unfold I64 at hm⊢;omega
   rw[QK k _ _ c d (by rw[a];omega) (by rw[a,ay];omega),a]
   have:Lib.decDigits m.natAbs=Lib.decDigits (m.natAbs / 10)++ [UInt8.ofNat (48+m.natAbs % 10)]:=by rw[Lib.decDigits,dif_neg b]
   rw[this,aC];rfl
theorem wv {n:Int} (h:I64 n):(Lib.itoa n).length<=21:=Lib.itoa_length_le n h.1 h.2
theorem acr {n:Int} (h:I64 n):Lib.nDigits n.natAbs<=21:=by
 have:=wv h
 unfold Lib.itoa at this;split at this
 ·rw[ay,Lib.decDigits_length] at this;omega
 ·rw[Lib.decDigits_length] at this;rw[show n.natAbs=n.toNat by omega];exact this
theorem vB {n:Int} (h:I64 n):cz n=some (mkB (Lib.itoa n)):=by
 unfold cz;by_cases b:n=0
 ·subst b;rw[if_pos (by rfl:((0:Int)==0)=true)]
  have:Lib.itoa 0= [48]:=by unfold Lib.itoa;rw[if_neg (by decide)];exact Lib.decDigits_one (by decide)
  rw[this];rfl
 rw[if_neg (by simpa using b)];have d:=acr h;have f:=de 100 (by omega);obtain ⟨k,c⟩: ∃k,aW=k+1:=⟨aW - 1,by omega⟩;have e:al fg aW (n,(⟨#[]⟩:ByteArray))=some (.brk (0,mkB (Lib.decDigits n.natAbs++ []))):=by
  rw[c];exact QK k n [] b h (by omega) (by simp;omega)
 rw[ah e,List.append_nil];have g:(Lib.decDigits n.natAbs).length<=21:=by rw[Lib.decDigits_length];exact d
 unfold Lib.itoa;by_cases a:n<0
 ·rw[if_pos (decide_eq_true a),if_pos a];show (mc (mkB [45]) _).bind _=_;rw[C6 _ _ (by simp;omega)];rfl
 ·rw[if_neg (by simpa using a),if_neg a,show n.natAbs=n.toNat by omega]
theorem yL {n:Int} (h:I64 n):eK n=some (mkB (Lib.itoa n)):=by
 unfold eK od R.Tf chk;rw[if_pos (show -9223372036854775808<=n/\n<=9223372036854775807 from h)];rfl
theorem QL (xs:List (List UInt8)) (y sep:List UInt8):Lib.join (xs++ [y]) sep=if xs= [] then y else Lib.join xs sep++sep++y:=by
 cases xs with
 | nil=>rw[if_pos rfl];exact Lib.join_one _ _
 | cons x r =>
  rw[if_neg (by simp),List.cons_append,Lib.join_cons,Lib.join_cons];simp[Lib.joinTail,aC]
theorem CY: ∀(a:List UInt8) (acc:Nat) (b:List UInt8),Lib.decFrom acc (a++b)=(Lib.decFrom acc a).bind fun m=>Lib.decFrom m b
 | [],acc,b=>rfl
 | x::a,acc,b=>by
  rw[List.cons_append,Lib.decFrom,Lib.decFrom];cases Lib.digitVal x with
  | none=>rfl
  | some d=>exact CY a _ b
theorem QM {d:Nat} (h:d<10):Lib.digitVal (UInt8.ofNat (48+d))=some d:=by
 have e:(UInt8.ofNat (48+d)).toNat=48+d:=by simp;omega
 unfold Lib.digitVal;rw[e,if_pos ⟨by omega,by omega⟩];congr 1;omega
theorem Bc {u:Nat} (h: ¬u<10):Lib.decDigits u=Lib.decDigits (u / 10)++ [UInt8.ofNat (48+u % 10)]:=by rw[Lib.decDigits,dif_neg h]
theorem JO (u:Nat):Lib.decFrom 0 (Lib.decDigits u)=some u:=by
 induction u using Nat.strongRecOn with
 | _ u a =>
  by_cases h:u<10
  ·rw[Lib.decDigits_one h,Lib.decFrom,QM h];simp[Lib.decFrom]
  ·rw[Bc h,CY,a (u / 10) (by omega),aa,Lib.decFrom,QM (Nat.mod_lt _ (by omega))];simp only[Lib.decFrom];congr 1;omega
theorem aaN (u:Nat):Lib.decDigits u≠ []:=fun h=>by
 have:=Lib.decDigits_length u
 rw[h] at this
 have:=Vx u
 simp at *;omega
theorem Ev (u:Nat):Lib.decNat (Lib.decDigits u)=some u:=by
 unfold Lib.decNat;rw[if_neg (by simpa using aaN u),JO]
theorem LA (u:Nat): ∃d r,d<10/\Lib.decDigits u=UInt8.ofNat (48+d)::r:=by
 induction u using Nat.strongRecOn with
 | _ u b =>
  by_cases h:u<10
  ·exact ⟨u,[],h,Lib.decDigits_one h⟩
  ·obtain ⟨d,r,a,e⟩:=b (u / 10) (by omega);exact ⟨d,_,a,by rw[Bc h,e];rfl⟩
theorem JP {d:Nat} (h:d<10):(UInt8.ofNat (48+d)==45)=false/\(UInt8.ofNat (48+d)==43)=false:=by
 have: ∀d:Fin 10,(UInt8.ofNat (48+d.val)==45)=false/\(UInt8.ofNat (48+d.val)==43)=false:=by decide
 exact this ⟨d,h⟩
theorem QN (n:Int):Lib.atoi (Lib.itoa n)=some n:=by
 unfold Lib.itoa;by_cases h:n<0
 ·rw[if_pos h];show (Lib.decNat (Lib.decDigits n.natAbs)).map (fun (m:Nat)=> -(m:Int))=_;rw[Ev];simp;omega
 ·rw[if_neg h];obtain ⟨d,r,a,e⟩:=LA n.toNat;have k:=Ev n.toNat;rw[e] at k⊢;show (if (UInt8.ofNat (48+d)==45)=true then _ else if (UInt8.ofNat (48+d)==43)=true then _ else _)=_;rw[if_neg (by rw[(JP a).1];decide),if_neg (by rw[(JP a).2];decide),k];simp;omega
def dst (p:Nat×Nat) (b:UInt8):Nat×Nat:=if 48<=b.toNat/\b.toNat<=57 then (p.1*10+(b.toNat - 48),p.2+1) else p
theorem QO {d:Nat} (h:d<10) (p:Nat×Nat):dst p (UInt8.ofNat (48+d))=(p.1*10+d,p.2+1):=by
 have e:(UInt8.ofNat (48+d)).toNat=48+d:=by simp;omega
 unfold dst;rw[e,if_pos ⟨by omega,by omega⟩,show 48+d - 48=d by omega]
theorem QP (u:Nat):(Lib.decDigits u).foldl dst (0,0)=(u,Lib.nDigits u):=by
 induction u using Nat.strongRecOn with
 | _ u a =>
  by_cases h:u<10
  ·rw[Lib.decDigits_one h,List.foldl_cons,List.foldl_nil,QO h,Lib.nDigits_small h];simp
  ·rw[Bc h,List.foldl_append,a (u / 10) (by omega),List.foldl_cons,List.foldl_nil,QO (Nat.mod_lt _ (by omega)),Lib.nDigits_big h];congr 1;show u / 10*10+u % 10=u;omega
theorem Ua (n:Int):(Lib.itoa n).foldl dst (0,0)=(n.natAbs,Lib.nDigits n.natAbs):=by
 unfold Lib.itoa;split
 ·rw[List.foldl_cons,show dst (0,0) 45=(0,0) from rfl,QP]
 ·rw[QP,show n.toNat=n.natAbs by omega]
theorem Vy: ∀(l:List UInt8) (p:Nat×Nat),p.1<10 ^ p.2->(l.foldl dst p).1<10 ^ (l.foldl dst p).2
 | [],p,h=>h
 | b::l,p,h=>by
  rw[List.foldl_cons];refine Vy l _ ?_;unfold dst;split
  ·rename_i k;show p.1*10+(b.toNat - 48)<10 ^ (p.2+1);rw[Nat.pow_succ];omega
  ·exact h
theorem Vz: ∀(l:List UInt8) (p:Nat×Nat),(l.foldl dst p).2<=p.2+l.length
 | [],p=>by simp
 | b::l,p=>by
  rw[List.foldl_cons]
  have:=Vz l (dst p b)
  have h:(dst p b).2<=p.2+1:=by unfold dst;split <;> simp
  rw[ay];omega
theorem aaO: ∀(k u:Nat),1<=k->u<10 ^ k->Lib.nDigits u<=k
 | 0,u,h,_=>by omega
 | k+1,u,_,h=>by
  by_cases a:u<10
  ·rw[Lib.nDigits_small a];omega
  ·rw[Lib.nDigits_big a];have b:1<=k:=by
    rcases k with _ | k
    ·omega
    ·omega
   have:=aaO k (u / 10) b (by omega)
   omega
theorem u8W: ∀d:Fin 10,i64.wrap (IntKind.u8.wrap (d.val:Int))=(d.val:Int):=by decide
theorem Bd {s:ByteArray} {i:Nat} (h:i<s.size):kL s (i:Int)=some (((s.data.toList[i]'(by simp_all)).toNat:Nat):Int):=by
 simp_all[kL,chk,if_pos,aa,List.getD_eq_getElem?_getD,List.getElem?_eq_getElem]
def dtk (s:ByteArray) (i:Nat):Nat×Nat:=(s.data.toList.take i).foldl dst (0,0)
theorem QQ (s:ByteArray) (i:Nat):(dtk s i).1<10 ^ (dtk s i).2/\(dtk s i).2<=i:=by
 grind[Vy,Vz,aq,dtk]
theorem Yq (s:ByteArray):al (jS s) aW (0,0,0)=some (.brk (((dtk s (min s.size 11)).1:Int),((dtk s (min s.size 11)).2:Int),((min s.size 11:Nat):Int))):=by
 refine aY (f:=jS s) (fun i=>(((dtk s i).1:Int),((dtk s i).2:Int),(i:Int))) (min s.size 11) (fun i o=>?_) ?_ (de _ (by omega))
 ·have c:i<s.size:=by omega
  have g:i<s.data.toList.length:=by simpa using c
  have a:dtk s (i+1)=dst (dtk s i) (s.data.toList[i]):=by
   unfold dtk;rw[List.take_succ_eq_append_getElem g,List.foldl_append];rfl
  have ⟨k,m⟩:=QQ s i;have l:10 ^ (dtk s i).2<=10 ^ 10:=Nat.pow_le_pow_right (by omega) (by omega);unfold jS;simp only[];rw[if_pos (decide_eq_true (by omega)),if_pos (decide_eq_true (by omega)),Bd c,a];generalize s.data.toList[i] =b;generalize dtk s i=p at *;simp only[aa];unfold dst;by_cases h:48<=b.toNat
  ·rw[if_pos (decide_eq_true (by omega))];by_cases j:b.toNat<=57
   ·rw[if_pos (decide_eq_true (by omega)),if_pos ⟨h,j⟩];have ⟨d,a,e⟩: ∃d,d<10/\b.toNat=48+d:=⟨b.toNat - 48,by omega,by omega⟩;rw[e,show ((48+d:Nat):Int) - 48=(d:Int) by omega,u8W ⟨d,a⟩];simp only[aa];rw[bQ (n:=(p.1:Int)*10) (by omega) (by omega),bQ (by omega) (by omega),af (by omega),af (by omega)];congr 4;omega
   ·rw[if_neg (by grind),if_neg (by omega)];simp only[aa];rw[af (by omega)]
  ·rw[if_neg (by grind),if_neg (by omega)];simp only[aa];rw[af (by omega)]
 grind[jS]
def sgn (s:ByteArray):Int:=if s.data.toList.head? =some 45 then -((dtk s (min s.size 11)).1:Int) else ((dtk s (min s.size 11)).1:Int)
theorem VB (s:ByteArray):(sgn s).natAbs<10 ^ (dtk s (min s.size 11)).2/\(sgn s).natAbs<10 ^ 11:=by
 have ⟨c,a⟩:=QQ s (min s.size 11);have b:10 ^ (dtk s (min s.size 11)).2<=10 ^ 11:=Nat.pow_le_pow_right (by omega) (by omega);grind[sgn,dtk,min]
theorem VC (s:ByteArray):iC s=if 9<(dtk s (min s.size 11)).2\/10<s.size then some (0,false) else if mkB (Lib.itoa (sgn s))=s then some (sgn s,true) else some (0,false):=by
 have p:=(VB s).2;have h:I64 (sgn s):=by unfold I64;omega
 have ⟨j,n⟩:=QQ s (min s.size 11);have m:10 ^ (dtk s (min s.size 11)).2<=10 ^ 11:=Nat.pow_le_pow_right (by omega) (by omega);have fin: ∀z:Int,z=sgn s->(if decide (((dtk s (min s.size 11)).2:Int)>9) then (some (0,false)) else (if decide (((s.size:Nat):Int)>10) then (some (0,false)) else ((cz z).bind fun a=>if a !=s then (some (0,false)) else (some (z,true)))):Option (Int×Bool))=if 9<(dtk s (min s.size 11)).2\/10<s.size then some (0,false) else if mkB (Lib.itoa (sgn s))=s then some (sgn s,true) else some (0,false):=by
  rintro z rfl;by_cases k:9<(dtk s (min s.size 11)).2
  ·grind
  ·rw[if_neg (by grind)];by_cases l:10<s.size
   ·grind
   ·rw[if_neg (by grind),if_neg (by omega),vB h,aa];grind
 unfold iC;rw[ah (Yq s)];simp only[];by_cases b:0<s.size
 ·rw[if_pos (decide_eq_true (by omega))];have g:0<s.data.toList.length:=by simpa using b
  have d:kL s 0=some (((s.data.toList[0]).toNat:Nat):Int):=Bd (i:=0) b;have o:s.data.toList.head? =some s.data.toList[0]:=by rw[List.head?_eq_getElem?,List.getElem?_eq_getElem g]
  rw[d,aa];by_cases c:s.data.toList[0] =45
  ·rw[if_pos (by simp_all),aa,bQ (by omega) (by omega)];simp_all[sgn,if_pos]
  ·have f:=fun e=>c (UInt8.toNat_inj.1 e);rw[if_neg (fun e=>f (by grind)),aa];grind[sgn]
 ·simp_all[sgn,if_neg]
theorem Ub {n:Int} (h: -999999999<=n/\n<=999999999):Lib.nDigits n.natAbs<=9/\(Lib.itoa n).length<=10:=by
 have k:Lib.nDigits n.natAbs<=9:=aaO 9 _ (by omega) (by omega);grind[Lib.itoa,ay,Lib.decDigits_length]
theorem QR (n:Int):((Lib.itoa n).head? =some 45)↔n<0:=by
 unfold Lib.itoa;split
 ·grind
 ·have ⟨d,r,a,e⟩:=LA n.toNat;grind[JP,List.head?_cons,Option.some.injEq]
theorem LB {n:Int} (h: -999999999<=n/\n<=999999999):iC (mkB (Lib.itoa n))=some (n,true)/\iA (mkB (Lib.itoa n))=some (n,true):=by
 have ⟨e,a⟩:=Ub h;constructor
 ·have b:dtk (mkB (Lib.itoa n)) (min (mkB (Lib.itoa n)).size 11)=(n.natAbs,Lib.nDigits n.natAbs):=by
   unfold dtk;grind[gB,bE,Nat.min_eq_left,List.take_length,Ua]
  have d:sgn (mkB (Lib.itoa n))=n:=by
   unfold sgn;rw[b,gB];by_cases c:n<0
   ·rw[if_pos ((QR n).2 c)];omega
   ·rw[if_neg fun k=>c ((QR n).1 k)];omega
  simp_all[VC,bE,if_neg,if_pos]
 ·unfold iA R.tP;rw[bE,gB,if_neg (by omega),QN];show (if _ then _ else _)=_;rw[if_pos ⟨rfl,h.1,h.2⟩]
theorem Uc {s:ByteArray} (h: ¬ ∃n:Int,(-999999999<=n/\n<=999999999)/\s=mkB (Lib.itoa n)):iC s=some (0,false)/\iA s=some (0,false):=by
 constructor
 ·rw[VC];by_cases c:9<(dtk s (min s.size 11)).2\/10<s.size
  ·grind
  ·have a:=(VB s).1;have b:10 ^ (dtk s (min s.size 11)).2<=10 ^ 9:=Nat.pow_le_pow_right (by omega) (by omega);grind
 ·unfold iA R.tP;by_cases c:10<s.size
  ·grind
  ·rw[if_neg c];cases d:Lib.atoi s.data.toList with
   | none=>rfl
   | some n =>
    show (if _ then _ else _)=_;rw[if_neg fun k=>h ⟨n,k.2,k.1.symm⟩]
theorem sF (s:ByteArray): ∃r:Int×Bool,iC s=some r/\iA s=some r/\((r.2=true/\(-999999999<=r.1/\r.1<=999999999)/\s=mkB (Lib.itoa r.1))\/r=(0,false)):=by
 grind[mkB,Lib.itoa,LB,Uc]
end D
end Go.Proofs.YtodbpnpbhpeepaaGreatDoor
