/- FnExactEnginePoll: for every input the law returns true and changes nothing that was there. Part 9 of 9. -/
import Derived.Test.YteapgmibbpckoaaGreatDoorEC7
import Derived.Test.YteapgmibbpckoaaGreatDoorEKEnginePoll
set_option synthInstance.maxSize 20000
set_option synthInstance.maxHeartbeats 2000000
set_option linter.unusedVariables false
set_option linter.unusedSimpArgs false
set_option linter.unnecessarySimpa false
set_option linter.unusedSectionVars false
set_option maxRecDepth 1000000
namespace Go.Proofs.YteapgmibbpckoaaGreatDoor
open Go.IntKind (i64)
namespace D
open Go.RowKit
section
variable {a:AutT} {n:Nat} {c:List Int}
theorem QN (k:Nat) (s:Int):(List.range (k+1)).map (fun k=>ent a c s k)=(List.range k).map (fun k=>ent a c s k)++ [ent a c s k]:=by simp[List.range_succ]
theorem ah1 (V:VA a n) (e:n<=1000000) (g:c.length=n) {s:Nat} (hs:s<n):sD a c s=some (KO a c s):=by
 unfold sD;rw[aq (by omega) (by omega)];simp only[aa]
 have:=aQ (f:=pX a c s) (fun k=>(nth c (s:Int)::(List.range k).map (fun k=>ent a c s k),(k:Int))) 9 (fun k b=>by
  have d:=V.mv (s:=s) (k:=k) (by omega) (by omega) b;unfold pX;simp only;rw[if_pos (by simp;omega),V.get (by omega) (by omega)];simp only[aa];rw[V.get2 (by omega) (by omega) b,QN];simp only[aa,af (show k<9223372036854775807 by omega)];by_cases h:mv a s k<0
  ·rw[if_pos (by simpa using h),aI (by simp;omega),show ent a c s k= -1 from by unfold ent;rw[if_pos h]];rfl
  ·rw[if_neg (by simpa using h),aq (by omega) (by omega)];simp only[aa];rw[aI (by simp;omega),show ent a c s k=nth c (mv a s k) from by unfold ent;rw[if_neg h]];rfl) (by unfold pX;simp) (by unfold aP;omega)
 exact ai this
theorem ah2 (V:VA a n) (i:n<=1000000) (j:c.length=n) {s:Nat} (hs:s<n):aj (dz c (nth a.2.2 (s:Int))) aP (0,[nth c (s:Int)])=some (.brk (9,KO a c s)):=by
 have d:=V.rowAt (s:=s) (by omega) (by omega);exact aQ (f:=dz c (nth a.2.2 (s:Int))) (fun k=>((k:Int),nth c (s:Int)::(List.range k).map (fun k=>ent a c s k))) 9 (fun k b=>by
  have g:=V.mv (s:=s) (k:=k) (by omega) (by omega) b;unfold dz;simp only;rw[if_pos (by simp[d];omega),V.get2 (by omega) (by omega) b,QN];simp only[aa,af (show k<9223372036854775807 by omega)];by_cases h:mv a s k<0
  ·have e:mv a s k= -1:=by omega
   rw[if_neg (by simp;omega)];simp only[aa];rw[aI (by simp;omega),show ent a c s k=mv a s k from by unfold ent;rw[if_pos h,e]];rfl
  ·rw[if_pos (by simp;omega),aq (by omega) (by omega)];simp only[aa];rw[aI (by simp;omega),show ent a c s k=nth c (mv a s k) from by unfold ent;rw[if_neg h]];rfl) (by unfold dz;simp[d]) (by unfold aP;omega)
theorem MU {κ:Type} [DecidableEq κ] {l t r:List κ} {x:κ} (e:l=t++x::r) (b:x∉t):nbI l (some x)=(t.length:Int):=by
 subst e;simp only[nbI];rw[List.idxOf_append,if_neg b,List.idxOf_cons_self,Nat.zero_add]
def agm (l:List (List Int)) (x:List Int):Int:=if x∈l then nbI l (some x) else -1
theorem agn {l:List (List Int)} {x cs:List Int} {q:Int} (w:l.length<=1000000) (m:l.Nodup) (s: ∀y∈l,y.length<=1048576):aj (gL (l,cs,q) x) aP (-1,0)=some (.brk (agm l x,(l.length:Int))):=by
 have:=aQ (f:=gL (l,cs,q) x) (fun k=>(if x∈l.take k then nbI l (some x) else -1,(k:Int))) l.length (fun k d=>by
  unfold gL;simp only;rw[if_pos (by simp;omega),aq (by omega) (by omega)];simp only[aa,Int.toNat_natCast,af (show k<9223372036854775807 by omega)];obtain ⟨r,e,i⟩:=Kz (nth l (k:Int)) x (s _ (bm (by omega) (by omega)));rw[e,take_one d];simp only[aa,List.mem_append,List.mem_singleton];by_cases h:nth l (k:Int)=x
  ·have b:r=0:=i.2 h;have u:x∈l:=h ▸ bm (by omega) (by omega);obtain ⟨q,g,o,t⟩:=sv u
   have:q=k:=by
    have j:l[q]? =some x:=by rw[List.getElem?_eq_getElem g,t]
    have v:l[k]? =some x:=by rw[List.getElem?_eq_getElem d,<-cG d,h]
    exact (List.getElem?_inj g m).1 (j.trans v.symm)
   subst this;rw[if_pos (by simp[b]),if_pos (.inr h.symm),o];rfl
  ·have b:r≠0:=fun e=>h (i.1 e);have p: ¬x=nth l (k:Int):=fun e=>h e.symm;rw[if_neg (by simpa using b)];simp[p]) (by unfold gL;simp) (pw (by omega))
 rw[List.take_of_length_le (aH _)] at this;exact this
theorem ago {l:List (List Int)} {x:List Int} {f:List Int->Option Bool} (q:l.length<=1000000) (m: ∀y∈l,f y=some (decide (y=x))):b9 l f=some (agm l x):=by
 unfold b9;obtain ⟨o,e,j⟩:=cq (f:=cK l f) (fun k s=>s=(k:Int)/\x∉l.take k) (fun o=>(x∈l/\o= .ret (nbI l (some x)))\/(x∉l/\ ∃s,o= .brk s)) l.length (s:=0) (by
  rintro k s r ⟨rfl,d⟩;unfold cK;by_cases b:k<l.length
  ·rw[if_pos (by simp;omega),aq (by omega) (by omega)];simp only[aa];rw[m _ (bm (by omega) (by omega))];simp only[aa];by_cases h:nth l (k:Int)=x
   ·refine .inr ⟨_,by rw[if_pos (by simpa using h)],(fun p e=>by cases e),.inl ?_⟩;have i:x∈l:=h ▸ bm (by omega) (by omega);refine ⟨i,?_⟩;have e:l=l.take k++(x::l.drop (k+1)):=by
     rw[<-h,cG b,<-List.drop_eq_getElem_cons b,List.take_append_drop]
    rw[MU e d,aB,Nat.min_eq_left (by omega)]
   ·refine .inl ⟨b,_,by rw[if_neg (by simpa using h)],by rw[af (by omega)],?_⟩;rw[take_one b,List.mem_append,List.mem_singleton];rintro (g | g)
    ·exact d g
    ·exact h g.symm
  ·refine .inr ⟨_,by rw[if_neg (by simp;omega)],(fun p e=>by cases e),.inr ⟨?_,_,rfl⟩⟩;rwa [List.take_of_length_le (by omega)] at d) ⟨rfl,by simp⟩ (pw (by omega))
 unfold agm;rcases j with ⟨d,rfl⟩ | ⟨d,s,rfl⟩
 ·rw[bg e,if_pos d]
 ·rw[ai e,if_neg d]
theorem F9 {os:List (Option (List Int))} (h: ∀y,some y∈os->y.length=10): ∀y∈nbS [] os,y.length=10:=fun y b=>by
 rcases BA.1 b with b | b
 ·cases b
 ·exact h y b
theorem Iu (a:AutT) (c:List Int): ∀y,some y∈keys a c->y.length=10:=by
 intro y b;obtain ⟨s,-,e⟩:=List.mem_map.1 b;unfold KP at e;split at e
 ·cases e
 ·rw[<-ae e];simp[KO]
section
variable (V:VA a n) (hn:n<=1000000) (hc:c.length=n)
include V hn hc
theorem QO (s:Nat):(nbS [] ((keys a c).take s)).length<=n:=by
 have:=ud ([] :List (List Int)) ((keys a c).take s)
 rw[aB,fh,V.len] at this;simp at this;omega
theorem Z6 {m:Int} :aj (gM a (c,m)) aP ([],[],0)=some (.brk (nbS [] (keys a c),Ir a c,(n:Int))):=by
 have d:=V.len
 have:=aQ (f:=gM a (c,m)) (fun s=>(nbS [] ((keys a c).take s),nbR [] ((keys a c).take s),(s:Int))) n (fun s e=>by
  have i:=QO V hn hc s;have j:(nbR [] ((keys a c).take s)).length<=n:=by rw[jj,aB,fh];omega
  unfold gM;simp only;rw[if_pos (by simp;omega),aq (by omega) (by omega)];simp only[aa];rw[take_one (by rw[fh];omega),Au,xd,O4 (by omega)];simp only[af (show s<9223372036854775807 by omega)];by_cases h:nth c (s:Int)<0
  ·rw[if_pos (by simpa using h),aI (by simp;omega),show KP a c s=none from by unfold KP;rw[if_pos h]];rfl
  ·rw[if_neg (by simpa using h),show KP a c s=some (KO a c s) from by unfold KP;rw[if_neg h]];rw[show sD (a.1,a.2.1,a.2.2) c (s:Int)=some (KO a c s) from ah1 V hn hc e];simp only[aa];rw[ai (agn (by omega) (wu (by simp)) (fun y b=>by rw[F9 (fun y b=>Iu a c y (List.mem_of_mem_take b)) y b];decide))];simp only;unfold agm;by_cases k:KO a c s∈nbS [] ((keys a c).take s)
   ·obtain ⟨q,o,g,l⟩:=sv k;rw[if_pos k,pH k,g,if_neg (by simp)];simp only[aa];rw[aI (by simp;omega)];rfl
   ·rw[if_neg k,pI k,Kx k,if_pos (show decide ((-1:Int)<0)=true from rfl),aI (by simp;omega)];simp only[aa];rw[aI (by simp;omega)];rfl) (by
  unfold gM;simp only;rw[if_neg (by simp;omega)]) (pw (by omega))
 rw[show (keys a c).take n=keys a c from List.take_of_length_le (by rw[fh];omega)] at this;exact this
theorem Z7:eM a c=some (Ir a c,(Gq a c:Int)):=by
 have d:=V.len;unfold eM
 have:=aQ (f:=eO a c) (fun s=>(nbS [] ((keys a c).take s),nbR [] ((keys a c).take s),(s:Int))) n (fun s e=>by
  have i:=QO V hn hc s;have j:(nbR [] ((keys a c).take s)).length<=n:=by rw[jj,aB,fh];omega
  unfold eO;simp only;rw[if_pos (by simp;omega),aq (by omega) (by omega)];simp only[aa];rw[take_one (by rw[fh];omega),Au,xd,O4 (by omega)];simp only[af (show s<9223372036854775807 by omega)];by_cases h:nth c (s:Int)<0
  ·rw[if_pos (by simpa using h),aI (by simp;omega),show KP a c s=none from by unfold KP;rw[if_pos h]];rfl
  ·rw[if_neg (by simpa using h),show KP a c s=some (KO a c s) from by unfold KP;rw[if_neg h],V.get (by omega) (by omega)];simp only[aa];rw[ai (ah2 V hn hc e)];simp only;rw[ago (x:=KO a c s) (by omega) (fun y b=>by
    unfold jk;rw[F6 _ _ (by rw[F9 (fun y b=>Iu a c y (List.mem_of_mem_take b)) y b];decide)];rfl)];simp only[aa]
   unfold agm;by_cases k:KO a c s∈nbS [] ((keys a c).take s)
   ·obtain ⟨q,m,g,l⟩:=sv k;rw[if_pos k,pH k,g,if_neg (by simp)];simp only[aa];rw[aI (by simp;omega)];rfl
   ·rw[if_neg k,pI k,Kx k,if_pos (show decide ((-1:Int)<0)=true from rfl),aI (by simp;omega)];simp only[aa];rw[aI (by simp;omega)];rfl) (by
  unfold eO;simp only;rw[if_neg (by simp;omega)]) (pw (by omega))
 rw[show (keys a c).take n=keys a c from List.take_of_length_le (by rw[fh];omega)] at this;exact ai this
end
end
section
variable {a:AutT} {n:Nat} (V:VA a n) (hn:n<=1000000)
include V hn
theorem MV (s:Nat):(List.range (s+1)).map (fun s:Nat=>if nth (live a) (s:Int)=true then (if nth a.2.1 (s:Int)=true then (1:Int) else 0) else -1)=(List.range s).map (fun s:Nat=>if nth (live a) (s:Int)=true then (if nth a.2.1 (s:Int)=true then 1 else 0) else -1)++ [if nth (live a) (s:Int)=true then (if nth a.2.1 (s:Int)=true then 1 else 0) else -1]:=by simp[List.range_succ]
theorem agp:aj (gK a (live a)) aP ([],0)=some (.brk (abC a,(n:Int))):=by
 have b:=V.len;have c:(live a).length=n:=by rw[yY,b]
 have:=aQ (f:=gK a (live a)) (fun s=>((List.range s).map (fun s:Nat=>if nth (live a) (s:Int)=true then (if nth a.2.1 (s:Int)=true then (1:Int) else 0) else -1),(s:Int))) n (fun s d=>by
  unfold gK;simp only;rw[if_pos (by simp;omega),V.acc (by omega) (by omega)];simp only[aa];rw[MV V hn,aq (xs:=live a) (by omega) (by omega)];simp only[af (show s<9223372036854775807 by omega)];cases nth (live a) (s:Int) <;> cases nth a.2.1 (s:Int) <;> simp only[if_true,if_false,Bool.false_eq_true,aa] <;> rw[aI (by simp;omega)] <;> rfl) (by
  unfold gK;simp only;rw[if_neg (by simp;omega)]) (pw (by omega))
 unfold abC;rw[b];exact this
theorem agq:aj (de a (live a)) aP ([],0)=some (.brk (abC a,(n:Int))):=by
 have b:=V.len;have c:(live a).length=n:=by rw[yY,b]
 have:=aQ (f:=de a (live a)) (fun s=>((List.range s).map (fun s:Nat=>if nth (live a) (s:Int)=true then (if nth a.2.1 (s:Int)=true then (1:Int) else 0) else -1),(s:Int))) n (fun s d=>by
  unfold de;simp only;rw[if_pos (by simp;omega),aq (xs:=live a) (by omega) (by omega)];simp only[aa];rw[MV V hn,V.acc (by omega) (by omega)];simp only[af (show s<9223372036854775807 by omega)];cases nth (live a) (s:Int) <;> cases nth a.2.1 (s:Int) <;> simp only[if_true,if_false,Bool.false_eq_true,aa] <;> rw[aI (by simp;omega)] <;> rfl) (by
  unfold de;simp only;rw[if_neg (by simp;omega)]) (pw (by omega))
 unfold abC;rw[b];exact this
theorem WU: ∃J,cI a (J+1)=cI a J/\kT a=some (cI a J):=by
 have b:=V.len;unfold kT;rw[show nU (a.1,a.2.1,a.2.2)=some (live a) from abw V hn];simp only[aa];rw[ai (agp V hn)];obtain ⟨g,l,c⟩:=aed a;obtain ⟨o,e,j,rfl,i⟩:=cq (f:=nV a) (fun j s=>s=(cI a j,(j:Int))/\j<=g) (fun o=> ∃j,o= .ret (cI a j)/\cI a (j+1)=cI a j) (g+1) (s:=(cI a 0,0)) (by
  rintro j s i ⟨rfl,m⟩;have d:(cI a j).length=n:=by rw[th,b]
  unfold nV;simp only;rw[if_pos (by simp;omega),ai (Z6 V hn d)];simp only;obtain ⟨r,p,k⟩:=Kz (Ir a (cI a j)) (cI a j) (by rw[F7];omega);rw[p];simp only[aa,af (show j<9223372036854775807 by omega)];by_cases h:Ir a (cI a j)=cI a j
  ·exact .inr ⟨_,by rw[if_pos (by simpa using k.2 h)],(fun q e=>by cases e),j,rfl,h⟩
  ·refine .inl ⟨by omega,(cI a (j+1),((j+1:Nat):Int)),by rw[if_neg (by simpa using fun e=>h (k.1 e))];rfl,rfl,?_⟩;by_cases e:j=g
   ·subst e;exact absurd c h
   ·omega) ⟨rfl,Nat.zero_le _⟩ (pw (by omega))
 exact ⟨j,i,bg e⟩
theorem WV: ∃J,cI a (J+1)=cI a J/\ez a=some (cI a J):=by
 have c:=V.len;unfold ez;rw[show fM (a.1,a.2.1,a.2.2)=some (live a) from agb V hn];simp only[aa];rw[ai (agq V hn)];let b:Nat->Int:=fun j=>match j with | 0=> -1 | i+1=>(Gq a (cI a i):Int)
 obtain ⟨o,e,j,rfl,l⟩:=cq (f:=gS a) (fun j s=>s=(cI a j,b j)/\(j:Int)<=b j+1) (fun o=> ∃j,o= .ret (cI a j)/\cI a (j+1)=cI a j) (n+2) (s:=(cI a 0,-1)) (by
  rintro j s l ⟨rfl,g⟩;have k:(cI a j).length=n:=by rw[th,c]
  have m:=O5 a (cI a j);unfold gS;simp only;rw[show eM (a.1,a.2.1,a.2.2) (cI a j)=some (Ir a (cI a j),(Gq a (cI a j):Int)) from Z7 V hn k];simp only[aa];cases j with
  | zero =>
   refine .inl ⟨by omega,(cI a 1,b 1),by rw[if_neg (by show¬((Gq a (cI a 0):Int) == -1)=true;simp)];rfl,rfl,?_⟩;show (1:Int)<=(Gq a (cI a 0):Int)+1;omega
  | succ i =>
   obtain ⟨q,p⟩:=WR a i;have d:b (i+1)=(Gq a (cI a i):Int):=rfl;rw[d] at g⊢;by_cases h:Gq a (cI a (i+1))=Gq a (cI a i)
   ·refine .inr ⟨.ret (cI a (i+2)),by rw[if_pos (by simp[h])];rfl,(fun r e=>by cases e),i+2,rfl,?_⟩
    have:=p h
    show Ir a (cI a (i+2))=cI a (i+2);rw[this];exact this
   ·refine .inl ⟨?_,(cI a (i+2),b (i+2)),by rw[if_neg (by simp;omega)];rfl,rfl,?_⟩
    ·omega
    ·show ((i+1+1:Nat):Int)<=(Gq a (cI a (i+1)):Int)+1;omega) ⟨rfl,by show ((0:Nat):Int)<= -1+1;omega⟩ (pw (by omega))
 exact ⟨j,l,bg e⟩
theorem SA: ∃c,kT a=some c/\ez a=some c/\c.length=n/\Ir a c=c/\ ∃j,c=cI a j:=by
 obtain ⟨J,d,f⟩:=WU V hn;obtain ⟨g,b,e⟩:=WV V hn
 have:=WS d b
 exact ⟨cI a J,f,by rw[this];exact e,by rw[th,V.len],d,J,rfl⟩
end
section
variable {κ:Type} [DecidableEq κ] [Inhabited κ] {nx:κ->List (Option κ)} {first:κ} {G:κ->Prop} {B N:Nat} {acc:κ->Bool}
theorem Gc: ∀(l:List κ) (os:List (Option κ)),∀t∈nbR l os,-1<=t/\t<((nbS l os).length:Int)
 | l,[] =>fun t a=>by cases a
 | l,o::os=>fun t a=>by
  have hp:=om (nbL l o) os;have b:=hp.length_le;rcases az a with rfl | a
  ·show -1<=nbI l o/\nbI l o<((nbS (nbL l o) os).length:Int);cases o with
   | none=>exact ⟨by simp[nbI],by simp only[nbI];omega⟩
   | some y =>
    by_cases c:y∈l
    ·obtain ⟨q,d,e,-⟩:=sv c;rw[pH c] at b;rw[e];exact ⟨by omega,by rw[pH c];omega⟩
    ·rw[pI c] at b;rw[Kx c];rw[aF] at b;exact ⟨by omega,by rw[pI c];simp at b;omega⟩
  ·exact Gc (nbL l o) os t a
theorem ags (H:NumOk nx first G B) (c:bfE nx first N):VA ((0,(bfS nx first N).map acc,bfR nx first N):AutT) N:=by
 have g:0<N:=by
  have:=My (nx:=nx) (first:=first) N
  have:=(List.getElem?_eq_some_iff.1 this).1
  have:=c.1;omega
 have key: ∀i,i<=N-> ∀r∈bfR nx first i,r.length=9/\ ∀t∈r,-1<=t/\t<(N:Int):=by
  intro i;induction i with
  | zero=>intro _ r a;cases a
  | succ i ih =>
   intro e r a;have b:=c.2 i (by omega);rw[Av b] at a;rcases aN a with a | a
   ·exact ih (by omega) r a
   ·obtain rfl:=ax a;refine ⟨by rw[jj,H.len _ (nt H.g0 H.gn i _ (List.getElem_mem b))],fun t d=>?_⟩
    have:=Gc _ _ t d
    rw[<-JW b] at this;have f:=(BB (nx:=nx) (first:=first) e).length_le
    have:=c.1
    omega
 exact ⟨by show ((bfS nx first N).map acc).length=N;rw[List.length_map];exact c.1.symm,⟨Int.le_refl _,by show (0:Int)<N;omega⟩,mj c.2,fun r a=>(key N (aH _) r a).1,fun r a=>(key N (aH _) r a).2⟩
theorem aee (b: ∀x,(nx x).length=9) (d:bfE nx first N):VA ((0,(bfS nx first N).map acc,bfR nx first N):AutT) N:=by
 have h:0<N:=by
  have:=My (nx:=nx) (first:=first) N
  have:=(List.getElem?_eq_some_iff.1 this).1
  have:=d.1;omega
 have key: ∀i,i<=N-> ∀r∈bfR nx first i,r.length=9/\ ∀t∈r,-1<=t/\t<(N:Int):=by
  intro i;induction i with
  | zero=>intro _ r a;cases a
  | succ i ih =>
   intro f r a;have c:=d.2 i (by omega);rw[Av c] at a;rcases aN a with a | a
   ·exact ih (by omega) r a
   ·obtain rfl:=ax a;refine ⟨by rw[jj,b _],fun t e=>?_⟩
    have:=Gc _ _ t e
    rw[<-JW c] at this;have g:=(BB (nx:=nx) (first:=first) f).length_le
    have:=d.1
    omega
 exact ⟨by show ((bfS nx first N).map acc).length=N;rw[List.length_map];exact d.1.symm,⟨Int.le_refl _,by show (0:Int)<N;omega⟩,mj d.2,fun r a=>(key N (aH _) r a).1,fun r a=>(key N (aH _) r a).2⟩
end
theorem VA.self {a:AutT} {n:Nat} (v:VA a n):VA a a.2.1.length:=by
 have e:=v.len;subst e;exact v
theorem SB:VA nothing 1:=⟨rfl,⟨by decide,by decide⟩,rfl,fun r a=>by
 obtain rfl:=ax a
 decide,fun r a=>by
 obtain rfl:=ax a
 decide⟩
theorem aef {l:List Int} {x:Int} (d:l.length<=1000000) (j:x∈l):bc x l=some (nbI l (some x)):=by
 unfold bc fx;have ⟨o,e,g⟩:=cq (f:=eJ l x) (fun k s=>s=(k:Int)/\x∉l.take k) (fun o=>o= .ret (nbI l (some x))) l.length (s:=0) (by
  rintro k s i ⟨rfl,b⟩;unfold eJ;by_cases a:k<l.length
  ·rw[if_pos (by grind),aq (by omega) (by omega)];simp only[aa];by_cases h:nth l (k:Int)=x
   ·grind[cG,List.drop_eq_getElem_cons,List.take_append_drop,MU,aB,Nat.min_eq_left]
   ·refine .inl ⟨a,_,by rw[if_neg (by grind)],by grind[af],?_⟩;rw[take_one a,List.mem_append,List.mem_singleton];rintro (c | c)
    ·exact b c
    ·exact h c.symm
  grind) ⟨rfl,by simp⟩ (pw (by omega))
 grind[bg]
section
variable {a:AutT} {n:Nat}
def rep (c:List Int) (x:Int):Int:=nbI c (some x)
theorem WW {c:List Int} {x:Int} (h:x∈c):0<=rep c x/\rep c x<c.length/\nth c (rep c x)=x:=by
 grind[sv,rep,cG]
def aja (a:AutT) (n:Nat) (r:AutT):Prop:=(nth (live a) a.1=false/\r=nothing)\/(nth (live a) a.1=true/\ ∃(j:Nat) (c:List Int) (nx:Int->List (Option Int)) (ac:Int->Bool) (N:Nat),c=cI a j/\(∀r,good n (live a) r->nx (nth c r)=BN a c (live a) r)/\(∀r,good n (live a) r->ac (nth c r)=nth a.2.1 r)/\bfE nx (nth c a.1) N/\(∀x∈bfS nx (nth c a.1) N,(nx x).length=9)/\r=(0,(bfS nx (nth c a.1) N).map ac,bfR nx (nth c a.1) N))
theorem SC (V:VA a n) (C:n<=1000000): ∃r,gN a=some r/\cP a=some r/\Data.sm r/\VA r r.2.1.length/\r.2.1.length<=n/\aja a n r:=by
 have J:=V.len;have o:=V.start;have E:(live a).length=n:=by rw[yY,J]
 have ⟨c,es,ei,I,hfix,j,hj⟩:=SA V C;have d: ∀s:Int,0<=s->s<n->(nth c s<0↔nth (live a) s=false):=fun s w W=>by
  have:=(Is a (s:=s.toNat) (by omega) j).1
  grind
 have S: ∀s:Int,0<=s->s<n->nth c s<n:=fun s w W=>by
  have:=aeb (c:=c) (a:=a) (s:=s.toNat) (by omega)
  grind
 have p: ∀r,good n (live a) r->0<=nth c r:=fun r b=>by
  have:=d r b.1 b.2.1
  by_cases k:nth c r<0
  ·have:=this.1 k;rw[b.2.2] at this;grind
  ·omega
 have K: ∀r t:Int,0<=r->r<n->0<=t->t<n->0<=nth c r->nth c r=nth c t->KO a c r=KO a c t:=fun r t r0 r1 t0 t1 w h=>by
  have:=WQ (a:=a) (c:=c) (s:=r.toNat) (t:=t.toNat) (by omega) (by omega) (by grind) (by grind)
  grind
 have Q: ∀r t:Int,0<=r->r<n->0<=t->t<n->0<=nth c r->nth c r=nth c t->nth a.2.1 r=nth a.2.1 t:=fun r t r0 r1 t0 t1 w h=>by
  have:=abD a (s:=r.toNat) (t:=t.toNat) (by omega) (by omega) j (by rw[<-hj,show ((r.toNat:Nat):Int)=r from by omega];exact w) (by rw[<-hj,show ((r.toNat:Nat):Int)=r from by omega,show ((t.toNat:Nat):Int)=t from by omega];exact h)
  rwa [show ((r.toNat:Nat):Int)=r from by omega,show ((t.toNat:Nat):Int)=t from by omega] at this
 have i: ∀r,good n (live a) r->BN a c (live a) r=(List.range 9).map fun k=>if 0<=ent a c r k then some (ent a c r k) else none:=fun r b=>by
  refine List.map_congr_left fun k m=>?_;have m:=List.mem_range.1 m;have z:=V.mv b.1 b.2.1 m;unfold ent;by_cases h:mv a r k<0
  ·rw[if_pos h,if_neg (fun R=>by omega),if_neg (by omega)]
  ·rw[if_neg h]
   have:=d (mv a r k) (by omega) z.2
   cases X:nth (live a) (mv a r k) with
   | false =>
    grind
   | true =>
    grind
 have M: ∀r t:Int,KO a c r=KO a c t-> ∀k,k<9->ent a c r k=ent a c t k:=fun r t h k m=>by
  have h:(List.range 9).map (fun k=>ent a c r k)=(List.range 9).map (fun k=>ent a c t k):=by unfold KO at h;injection h
  simp_all
 let T:=fun x=>BN a c (live a) (rep c x);let acc:=fun x=>nth a.2.1 (rep c x);let G:=fun x=> ∃r,good n (live a) r/\nth c r=x;have A: ∀x,G x->x∈c/\0<=x/\good n (live a) (rep c x):=by
  rintro x ⟨r,b,rfl⟩;have z:=bm b.1 (by rw[I];exact b.2.1);have ⟨w,W,U⟩:=WW z;have hp:=p r b;refine ⟨z,hp,w,by omega,?_⟩
  have:=d (rep c (nth c r)) w (by omega)
  rw[U] at this;cases X:nth (live a) (rep c (nth c r)) with
  | true=>rfl
  | false=>grind
 have O: ∀r,good n (live a) r->T (nth c r)=BN a c (live a) r:=fun r b=>by
  have ⟨z,hp,u⟩:=A _ ⟨r,b,rfl⟩;have ⟨w,W,U⟩:=WW z;show BN a c (live a) (rep c (nth c r))=_;rw[i _ u,i _ b];refine List.map_congr_left fun k m=>?_;rw[M _ _ (K _ _ u.1 u.2.1 b.1 b.2.1 (by omega) U) k (List.mem_range.1 m)]
 have L: ∀r,good n (live a) r->acc (nth c r)=nth a.2.1 r:=fun r b=>by
  have ⟨z,hp,u⟩:=A _ ⟨r,b,rfl⟩;have ⟨w,W,U⟩:=WW z;exact Q _ _ u.1 u.2.1 b.1 b.2.1 (by omega) U
 have Y: ∀r,good n (live a) r-> ∀y,some y∈BN a c (live a) r->G y:=fun r b y h=>by
  have ⟨k,m,e⟩:=List.mem_map.1 h;have m:k<9:=List.mem_range.1 m;split at e
  ·rename_i hc;exact ⟨mv a r k,⟨hc.1,(V.mv b.1 b.2.1 m).2,hc.2⟩,ae e⟩
  grind
 unfold gN cP;simp only[dG];rw[es,ei,abw V C];simp only[aa];rw[aq o.1 (by omega)];simp only[aa];cases D:nth (live a) a.1 with
 | false =>
  have:=(d a.1 o.1 o.2).2 D
  rw[O2 V E D,if_pos (by grind),WI];exact ⟨nothing,rfl,rfl,Sy,SB,V.pos,.inl ⟨D,rfl⟩⟩
 | true =>
  have B:good n (live a) a.1:=⟨o.1,o.2,D⟩;have hp:=p _ B;have H:NumOk T (nth c a.1) G n:=⟨⟨a.1,B,rfl⟩,fun x f y hy=>Y _ (A x f).2.2 y hy,fun x f=>by simp[T,BN],fun l hd h=>Sx n l hd fun x f=>by
   obtain ⟨r,b,rfl⟩:=h x f;exact ⟨p r b,S r b.1 b.2.1⟩⟩
  have ⟨N,P,e1⟩:=agd (acc:=acc) V C I E D H C O L;have g: ∀x,G x->bc x c=some (rep c x):=fun x f=>aef (by omega) (A x f).1;have ⟨N',Z,e2⟩:=agc (most:=(c.length:Int)) (p2:=fun q=>df q (a.1,a.2.1,a.2.2) (fun q=>bc q c)) (p3:=fun q a1=>dh q a1 (a.1,a.2.1,a.2.2) (fun q=>bc q c) c) (acc:=acc) H C (by omega) (fun x f=>agj C (A x f).2.1 (by
    obtain ⟨r,b,rfl⟩:=f;exact S r b.1 b.2.1)) (fun x f=>by
   show df x (a.1,a.2.1,a.2.2) (fun q=>bc q c)=_;unfold df;simp only;rw[g x f];simp only[aa];rw[V.acc (A x f).2.2.1 (A x f).2.2.2.1];rfl) (fun x k f m=>by
   have ⟨z,hx0,u⟩:=A x f;have hm':=V.mv u.1 u.2.1 m;refine ⟨0,?_⟩;show dh x k (a.1,a.2.1,a.2.2) (fun q=>bc q c) c=_;unfold dh;simp only;rw[g x f];simp[aa];rw[show bX (a.1,a.2.1,a.2.2) (rep c x) k=some (mv a (rep c x) k) from Qz V u.1 u.2.1 m];simp[aa];show _=some (match nth (BN a c (live a) (rep c x)) (k:Int) with | some y=>(y,true) | none=>(0,false));rw[QK m];by_cases h:mv a (rep c x) k<0
   ·rw[if_pos (by simpa using h),if_neg (fun R=>by omega)]
   ·rw[if_neg (by simpa using h),aq (by omega) (by omega)];simp[aa];have F:=d (mv a (rep c x) k) (by omega) hm'.2;cases X:nth (live a) (mv a (rep c x) k) with
    | false =>
     have:=F.2 X
     rw[if_pos (by simpa using this),if_neg (fun R=>by cases R.2)]
    | true =>
     have: ¬nth c (mv a (rep c x) k)<0:=fun R=>by have:=F.1 R;rw[X] at this;cases this
     rw[if_neg (by simpa using this),if_pos ⟨by omega,rfl⟩])
  cases Zi P Z;have v:=ags (acc:=acc) H P;refine ⟨_,by rw[e1];rfl,?_,agk H C P,v.self,?_,.inr ⟨D,j,c,T,acc,N,hj,O,L,P,fun x _=>by simp[T,BN],rfl⟩⟩
  rotate_left
  ·rw[v.len,P.1];exact H.bound _ (ri N) (nt H.g0 H.gn N)
  simp_all
theorem SD (V:VA a n) (b:n<=1000000): ∃r,gN a=some r/\cP a=some r/\Data.sm r/\VA r r.2.1.length/\r.2.1.length<=n:=by
 grind[SC]
theorem Z8 (V:VA a n) (b:n<=1000000): ∃r,gN a=some r/\cP a=some r/\Data.sm r:=by
 grind[SD]
end
theorem WX {κ:Type} [DecidableEq κ] {nx:κ->List (Option κ)} {first:κ} {acc:κ->Bool} {most:Nat} : ∀(f i:Nat),(∀j,j<i->j<(bfS nx first j).length)->(bfS nx first i).length<=most->goM nx first acc most f i=((0,[],[]),false)\/ ∃N,bfE nx first N/\N<=most/\goM nx first acc most f i=((0,(bfS nx first N).map acc,bfR nx first N),true)
 | 0,i,_,_=>.inl rfl
 | f+1,i,h,hl=>by
  have a:=WN h;rw[goM];by_cases c:i<(bfS nx first i).length
  ·rw[if_pos c];by_cases d:(bfS nx first (i+1)).length>most
   ·rw[if_pos d];exact .inl rfl
   ·rw[if_neg d];exact WX f (i+1) (fun j b=>by
     by_cases e:j=i
     ·subst e;exact c
     ·exact h j (by omega)) (by omega)
  ·rw[if_neg c];exact .inr ⟨i,⟨by omega,h⟩,by omega,by rw[List.take_of_length_le (by omega)]⟩
theorem AL:Data.sm ((0,[],[]):AutT):=⟨trivial,⟨by decide,fun _ h=>by cases h⟩,by decide,fun _ h=>by cases h⟩
theorem MW {e:List Tok} (l:e.length<=1048576): ∃r:AutT×Bool,jL e=some r/\j4 e=some r/\Data.sm r.1:=by
 obtain ⟨⟨p,b⟩,k,n,a,h⟩:=yZ l;have a:p.2.2.2.1.length=p.1.length:=a;have h:p.1.length<=100000:=h;unfold jL j4;rw[k,n];simp only[aa,dG];cases b with
 | false=>exact ⟨((0,[],[]),false),rfl,rfl,AL⟩
 | true =>
  have g:=ahY (p:=p) (most:=200) a (by omega) (by omega) (by omega);have d:=ahX (p:=p) (most:=200) a (by omega) (by omega) (by omega);have g:kR p 200=_:=g;have d:jY p 200=_:=d;rw[g,d];simp only[if_true,aa];rcases WX (nx:=nxS p) (first:=1) (acc:=AK p) (most:=200) (200+2) 0 (fun j t=>by omega) (by simp[bfS]) with e | ⟨N,m,i,e⟩
  ·rw[e];exact ⟨((0,[],[]),false),rfl,rfl,AL⟩
  ·rw[e];simp only[if_true];have V:=aee (acc:=AK p) (Kw p) m;obtain ⟨r,q,o,s⟩:=Z8 V (by omega);unfold En;rw[q];simp only[aa,dG];rw[o];simp only[aa,dG];by_cases c:(r.2.1.length:Int)>12
   ·have f:decide ((r.2.1.length:Int)>12)=true:=decide_eq_true c;simp only[f,if_true,aa];exact ⟨((0,[],[]),false),rfl,rfl,AL⟩
   ·have f:decide ((r.2.1.length:Int)>12)=false:=decide_eq_false c;simp only[f,Bool.false_eq_true,if_false,aa];exact ⟨(r,true),rfl,rfl,s⟩
theorem O6 {e:List Tok} (a:e.length<=1048576): ∃r:AutT×Bool,jL e=some r/\j4 e=some r/\Data.sm r.1:=MW a
end D
open Go.ChangeShapes Go.WideShapes Go.ChangeAt Go.RowKit
theorem own:ownKnob Tryz.prog.godebug=none:=by kernel_rfl
theorem laidOut:laidOutB Tryz.prog=true:=by kernel_rfl
theorem AM {H:Type} {enc:TypeId×Value->H} {P:Program} (c:laidOutB P=true) {W e:World} (f:Below W.heap.size W e) :
  ∀ {ts:List TypeId} {vs:List Value} {ds:List (DataW H)} {ps:List MemPlace},(∀t∈ts,P.readableRec t=true/\t<P.types.size)->
   DataW.TrodAll enc P W 0 (fun _=>true) true ts vs ds ps->(∀x∈ps,x.block<W.heap.size)->DataW.TrodAll enc P e 0 (fun b=>decide (b<W.heap.size)) true ts vs ds ps
 | [],[],[],ps,_,h,_=>h
 | t::ts,v::vs,d::ds,ps,hr,⟨p,q,h1,h2,h3⟩,hlt=>by
  subst h3;exact ⟨p,q,Below.trod c (hr t (by simp)).1 (hr t (by simp)).2 h1 f fun x a=>hlt x (by simp[a]),AM c f (fun t g=>hr t (by simp[g])) h2 fun x a=>hlt x (by simp[a]),rfl⟩
 | [],_::_,_,_,_,h,_=>h.elim
 | [],[],_::_,_,_,h,_=>h.elim
 | _::_,[],_,_,_,h,_=>h.elim
 | _::_,_::_,[],_,_,h,_=>h.elim
theorem Z9 {H:Type} {enc:TypeId×Value->H} {f:Func} {s:ChangeSpec} {W k:World} {args:Array Value} {ds:List (DataW H)} {before:List MemPlace} (l:TypeId)
  (u:Tryz.prog.underlying l=some .bool) (w:f.resultTypes= #[l]) (hp:(f.params.toList.all fun t=>Tryz.prog.readableRec t&&decide (t<Tryz.prog.types.size))=true) (hv:s.vars= [])
  (r:DataW.Whole enc Tryz.prog f.params.toList s.vars false W args.toList ds [] before) (e:(s.fn H (ds++ [])).results= [.lit (.bool true)]) (c:(s.fn H (ds++ [])).args=ds) (b:(s.fn H (ds++ [])).vars= [])
  (a:Below W.heap.size W k):s.post enc Tryz.prog f false true false false W args (.bool true) k:=by
 obtain ⟨p,q,j,i,g,m,y⟩:=r;have d:DataW.Whole enc Tryz.prog f.params.toList s.vars false W args.toList ds [] before:=⟨p,q,j,i,g,m,y⟩;have n:q= []:=by rw[hv] at i;exact i
 subst n;simp only[List.append_nil] at g;subst g;refine ⟨ds,[],before,[],before,[],d,?_,?_,?_,a.frame _,fun h=>by cases h⟩
 ·rw[e,w];exact trodAll_mk1 (shut_bool u true)
 ·rw[c];exact AM laidOut a (fun t o=>by have:=List.all_eq_true.1 hp t o;simpa using this) j fun x v=>by simpa using d.lt x v
 ·rw[b,hv];rfl
namespace D
open Go.RowKit
theorem Ge (x y:AutT) (m:Data.sm x):gO x y=some (decide (x=y)):=by
 obtain ⟨-,⟨o,-⟩,p,n⟩:=m;unfold gO;by_cases g:x.1=y.1
 case neg=>rw[if_pos (by simpa using g)];simp[Prod.ext_iff,g]
 rw[if_neg (by simpa using g)];by_cases l:x.2.1.length=y.2.1.length
 case neg=>rw[if_pos (by simp;omega)];simp[Prod.ext_iff];exact fun _ e=>absurd (by rw[e]) l
 rw[if_neg (by simp;omega)];by_cases k:x.2.2.length=y.2.2.length
 case neg=>rw[if_pos (by simp;omega)];simp[Prod.ext_iff];exact fun _ _ e=>absurd (by rw[e]) k
 rw[if_neg (by simp;omega)];rw[eqB (f:=gD x y) x.2.1 y.2.1 (by omega) l (fun i h j=>by
  simp only[gD,br h,if_true,au h,au j,aa,af (show i<9223372036854775807 by omega)];by_cases c:x.2.1[i] =y.2.1[i] <;> simp[c]) (by simp only[gD,bf];rfl)]
 by_cases d:x.2.1=y.2.1
 case neg=>rw[if_neg d];simp[Prod.ext_iff,d]
 rw[if_pos d];rw[eqB (f:=gE x y) x.2.2 y.2.2 (by omega) k (fun i h j=>by
  obtain ⟨r,e,a⟩:=Kz x.2.2[i] y.2.2[i] ((n _ (List.getElem_mem h)).1);simp only[gE,br h,if_true,au h,au j,aa,af (show i<9223372036854775807 by omega),e];by_cases c:x.2.2[i] =y.2.2[i]
  ·rw[if_neg (by simpa using a.2 c),if_pos c]
  ·rw[if_pos (by simpa using fun e=>c (a.1 e)),if_neg c]) (by simp only[gE,bf];rfl)]
 by_cases b:x.2.2=y.2.2
 ·rw[if_pos b];simp[Prod.ext_iff,g,d,b]
 ·rw[if_neg b];simp[Prod.ext_iff,b]
theorem aaa (xs ys:List Bool) (b:xs.length<=9223372036854775807):eP xs ys=some (decide (xs=ys)):=
 eqL (f:=cA xs ys) xs ys b (fun i h a=>by
  simp only[cA,br h,if_true,au h,au a,aa,af (show i<9223372036854775807 by omega)];by_cases c:xs[i] =ys[i] <;> simp[c]) (by simp only[cA,bf];rfl)
theorem Gf (x y:AutT) (k:Data.sm x):eV x y=some (decide (x=y)):=by
 obtain ⟨-,⟨n,-⟩,m,j⟩:=k;unfold eV;by_cases a:x.1=y.1
 case neg=>rw[if_neg (by simpa using a)];simp[Prod.ext_iff,a]
 rw[if_pos (by simpa using a),aaa _ _ (by omega)];simp only[aa];by_cases b:x.2.1=y.2.1
 case neg=>rw[if_neg (by simpa using b)];simp[Prod.ext_iff,b]
 rw[if_pos (by simpa using b)]
 have:bL x.2.2 y.2.2 (fun d l=>iI d l)=some (decide (x.2.2=y.2.2)):=
  eqL (f:=a8 x.2.2 y.2.2 _) x.2.2 y.2.2 (by omega) (fun i h g=>by
   simp only[a8,br h,if_true,au h,au g,aa,af (show i<9223372036854775807 by omega),iI];rw[F6 _ _ (by have:x.2.2[i].length<=1048576:=(j _ (List.getElem_mem h)).1;omega)];simp only[aa];by_cases c:x.2.2[i] =y.2.2[i] <;> simp[c]) (by simp only[a8,bf];rfl)
 rw[this];by_cases e:x.2.2=y.2.2 <;> simp[Prod.ext_iff,a,b,e]
abbrev QT:=Int×List Tok×Int
abbrev Ho:=List AutT×List QT
theorem aab (x y:List Tok) (b:x.length<=1048576):si x y=some (decide (x=y)):=by
 exact eqL (f:=kA x y) x y (by omega) (fun i h a=>by
  simp[kA,br h,if_true,au h,au a,aa,dG,af (show i<9223372036854775807 by omega)];grind) (by simp_all[kA,bf])
theorem WY (x y:List Tok) (b:x.length<=1048576):eA x y=some (decide (x=y)):=by
 exact eqL (f:=cg x y) x y (by omega) (fun i h a=>by
  simp[cg,br h,if_true,au h,au a,aa,dG,af (show i<9223372036854775807 by omega)];grind) (by simp_all[cg,bf])
theorem aac (x y:List Tok) (a:x.length<=1048576):oR x y=some (decide (x=y)):=by
 grind[oR,WY]
theorem KD (x y:Ho) (j:Data.sm x):iE x y=some (decide (x=y)):=by
 have ⟨⟨l,g⟩,k,d⟩:=j;unfold iE;by_cases b:x.1.length=y.1.length
 ·by_cases c:x.2.length=y.2.length
  ·rw[eqB (f:=fo x y) x.1 y.1 (by omega) b (fun i h a=>by
    simp[fo,br h,if_true,au h,au a,aa,dG,Ge x.1[i] y.1[i] (g _ (List.getElem_mem h)),af (show i<9223372036854775807 by omega)];grind) (by simp only[fo,bf];rfl)]
   rw[eqB (f:=fp x y) x.2 y.2 (by omega) c (fun i h a=>by
    have e:=aab x.2[i].2.1 y.2[i].2.1 (d _ (List.getElem_mem h)).2.1.1;simp[fp,br h,if_true,au h,au a,aa,e,af (show i<9223372036854775807 by omega)];grind) (by simp only[fp,bf];rfl)]
   grind[Prod.ext_iff]
  ·have:x.2≠y.2:=fun e=>c (by rw[e])
   rw[if_neg (by grind),if_pos (by grind)];simp[Prod.ext_iff,this]
 ·have:x.1≠y.1:=fun e=>b (by rw[e])
  rw[if_pos (by grind)];simp[Prod.ext_iff,this]
theorem SE (x y:QT) (b:Data.sm x):iY x y=some (decide (x=y)):=by
 unfold iY;rw[aac x.2.1 y.2.1 b.2.1.1];by_cases a:x.1=y.1 <;> by_cases d:x.2.1=y.2.1 <;> by_cases c:x.2.2=y.2.2 <;> simp[Prod.ext_iff,a,d,c]
theorem KE (x y:Ho) (k:Data.sm x):iJ x y=some (decide (x=y)):=by
 have ⟨⟨o,g⟩,n,d⟩:=k;unfold iJ;have e:aY x.1 y.1 (fun c b=>eV c b)=some (decide (x.1=y.1)):=
  eqL (f:=aR x.1 y.1 _) x.1 y.1 (by omega) (fun i h a=>by
   simp[aR,br h,if_true,au h,au a,aa,dG,af (show i<9223372036854775807 by omega),Gf x.1[i] y.1[i] (g _ (List.getElem_mem h))];grind) (by simp only[aR,bf];rfl)
 have l:aV x.2 y.2 (fun c b=>iY c b)=some (decide (x.2=y.2)):=
  eqL (f:=aO x.2 y.2 _) x.2 y.2 (by omega) (fun i h a=>by
   simp[aO,br h,if_true,au h,au a,aa,dG,af (show i<9223372036854775807 by omega),SE x.2[i] y.2[i] (d _ (List.getElem_mem h))];grind) (by simp only[aO,bf];rfl)
 rw[e,l];by_cases j:x.1=y.1 <;> by_cases m:x.2=y.2 <;> simp[Prod.ext_iff,j,m]
theorem xn {R S:Type} {f g:S->Option (Out R S)} (Inv:Nat->S->Prop) (h: ∀i s,Inv i s->g s=f s/\ ∀a,f s=some (.nxt a)->Inv (i+1) a): ∀(k i:Nat) (s:S),Inv i s->aj g k s=aj f k s
 | 0,_,_,_=>rfl
 | k+1,i,s,hI=>by
  have ⟨b,c⟩:=h i s hI;rw[aj,aj,b];cases e:f s with
  | none=>rfl
  | some o =>
   cases o with
   | nxt a=>exact xn Inv h k (i+1) a (c a e)
   | brk a=>rfl
   | ret r=>rfl
theorem QP {f g:Int->Option (Out Int Int)} (N:Nat) (k:N<=1048576) (h: ∀i:Nat,i<N->f (i:Int)=some (.ret (i:Int))\/f (i:Int)=some (.nxt ((i+1:Nat):Int))) (j:f (N:Int)=some (.brk (N:Int))) (c: ∀i:Nat,i<=N->g (i:Int)=f (i:Int)) :
  ∃r:Int,aJ (aj f aP 0) (fun r=>some r) (fun _=>some (-1))=some r/\aJ (aj g aP 0) (fun r=>some r) (fun _=>some (-1))=some r/\(r= -1\/ ∃i:Nat,i<N/\r=(i:Int)):=by
 have b:aj g aP 0=aj f aP 0:=xn (fun i s=>s=(i:Int)/\i<=N) (fun i s ⟨e,a⟩=>by
  grind) aP 0 0 ⟨rfl,Nat.zero_le _⟩
 rw[b];have ⟨o,e,d⟩:=cq (f:=f) (fun i s=>s=(i:Int)) (fun o=>o= .brk (N:Int)\/ ∃i:Nat,i<N/\o= .ret (i:Int)) N (fun i s a b=>by
  grind) (s:=0) rfl (dC _ (by omega))
 rw[e];rcases d with rfl | ⟨i,a,rfl⟩
 ·exact ⟨-1,rfl,rfl,.inl rfl⟩
 ·exact ⟨i,rfl,rfl,.inr ⟨i,a,rfl⟩⟩
theorem SF (l:List AutT) (a:AutT) (b:l.length<=1048576) (hs: ∀x∈l,Data.sm x) (c:Data.sm a): ∃r:Int,rF l a=some r/\bD l (fun d=>pb d a)=some r/\(r= -1\/ ∃i:Nat,i<l.length/\r=(i:Int)):=by
 have e: ∀i (h:i<l.length),jM l a (i:Int)=if l[i] =a then some (.ret (i:Int)) else some (.nxt ((i+1:Nat):Int)):=fun i h=>by
  simp[jM,br h,if_true,au h,aa,dG,Ge l[i] a (hs _ (List.getElem_mem h)),af (show i<9223372036854775807 by omega)];grind
 refine QP l.length b (fun i h=>?_) (by simp only[jM,bf];rfl) (fun i f=>?_)
 ·grind
 ·by_cases h:i<l.length
  ·simp[bT,pb,br h,if_true,au h,aa,dG,Gf a l[i] c,af (show i<9223372036854775807 by omega)];grind
  ·obtain rfl:i=l.length:=by omega
   simp_all[jM,bT,bf]
def O7 (n i:Nat) (s:Int×List AutT×List QT):Prop:=s.1=(i:Int)/\i<=n/\s.2.2.length=i/\s.2.1.length<=i/\(∀a∈s.2.1,Data.sm a)/\ ∀q∈s.2.2,Data.sm q/\0<=q.2.2/\q.2.2<(s.2.1.length:Int)
theorem QQ {b:List QT} (x:Data.sm b) {i:Nat} {s:Int×List AutT×List QT} (J:O7 b.length i s):mV b s=dY b s /\
  ((i<b.length/\ ∃s',dY b s=some (.nxt s')/\O7 b.length (i+1) s')\/ ∃o,dY b s=some o/\(∀s',o≠ .nxt s')/\(o= .ret (([],[]),false)\/o= .brk s/\i=b.length)):=by
 have ⟨O,E⟩:=aA x;have ⟨L,A,Q⟩:=s;have ⟨m,S,v,p,h,z⟩:=J;simp only at m v p h z;subst m;by_cases g:i<b.length
 ·have d:=E _ (List.getElem_mem g);have ⟨r,G,F,I⟩:=O6 (e:=b[i].2.1) d.2.1.1;have ⟨k,C,w,H⟩:=SF A r.1 (by omega) h I;have D:cr 56 A [r.1] =some (A++ [r.1]):=aI (by grind);have t: ∀y,cr 40 Q [y] =some (Q++ [y]):=fun y=>aI (by grind);have B:jd b[i].2.1=some b[i].2.1:=by unfold jd;rw[aI (by have:=d.2.1.1;grind)];rfl
  have u:im b[i].2.1=some b[i].2.1:=by unfold im;rw[aI (by have:=d.2.1.1;grind)];rfl
  unfold mV dY;simp[br g,if_true,au g,aa,G,F,Na,Hn,dG,C,w,D,t,B,u,af (show i<9223372036854775807 by omega)];by_cases P:r.2=true
  case neg =>
   simp_all
  by_cases N:1<=b[i].1/\b[i].1<=99
  case neg =>
   grind
  have fin: ∃s':Int×List AutT×List QT,(∀(y:Option (Out (Ho×Bool) (Int×List AutT×List QT))),True)/\(Option.bind (if decide (k<0) then some ((A.length:Int),A++ [r.1],Q) else some (k,A,Q)) fun f:Int×List AutT×List QT=>(cr 40 f.2.2 [(b[i].1,b[i].2.1,f.1)]).bind fun l=>some (.nxt (((i+1:Nat):Int),f.2.1,l)):Option (Out (Ho×Bool) (Int×List AutT×List QT)))=some (.nxt s')/\O7 b.length (i+1) s':=by
   rcases H with rfl | ⟨j,R,rfl⟩
   ·refine ⟨(((i+1:Nat):Int),A++ [r.1],Q++ [(b[i].1,b[i].2.1,(A.length:Int))]),fun _=>trivial,?_,rfl,g,by grind,by grind,fun a M=>?_,fun q c=>?_⟩
    ·grind
    ·grind
    ·simp[List.mem_append,List.mem_singleton] at c;rcases c with c | rfl
     ·grind
     ·exact ⟨⟨trivial,d.2.1,trivial⟩,by simp,by grind⟩
   ·refine ⟨(((i+1:Nat):Int),A,Q++ [(b[i].1,b[i].2.1,(j:Int))]),fun _=>trivial,?_,rfl,g,by grind,by grind,h,fun q c=>?_⟩
    ·grind
    ·simp[List.mem_append,List.mem_singleton] at c;rcases c with c | rfl
     ·grind
     ·exact ⟨⟨trivial,d.2.1,trivial⟩,by simp,by grind⟩
  by_cases n:(i:Int)>0
  ·have hp:i - 1<b.length:=by omega
   have K:i64.wrap ((i:Int) - 1)=((i - 1:Nat):Int):=by rw[lh (by omega)];omega
   simp[n,decide_true,if_true,K,au hp,aa];grind
  grind
 ·obtain rfl:i=b.length:=by omega
  simp_all[mV,dY,bf,Bool.false_eq_true,if_false,trivial]
def RegOk (r:Ho):Prop:=Data.sm r/\ ∀q∈r.2,0<=q.2.2/\q.2.2<(r.1.length:Int)
theorem aad {a:List QT} (d:Data.sm a): ∃r:Ho,∃b:Bool,rG a=(if (a.length:Int)>4 then some (([],[]),false) else some (r,b))/\w6 a=some (r,b&&decide ((a.length:Int)<=4))/\RegOk r:=by
 have v:=(aA d).1;have j:O7 a.length 0 (0,[],[]):=⟨rfl,Nat.zero_le _,rfl,aH _,fun _ h=>(by cases h),fun _ h=>(by cases h)⟩;have p:aj (mV a) aP (0,[],[])=aj (dY a) aP (0,[],[]):=xn (O7 a.length) (fun i s c=>by
  have ⟨e,h⟩:=QQ d c;grind) aP 0 _ j
 have ⟨o,e,n⟩:=cq (f:=dY a) (O7 a.length) (fun o=>o= .ret (([],[]),false)\/ ∃A Q,o= .brk ((a.length:Int),A,Q)/\O7 a.length a.length ((a.length:Int),A,Q)) a.length (fun i s w c=>by
  rcases (QQ d c).2 with h | ⟨o,e,t,h⟩
  ·grind
  ·rcases h with h | ⟨h,rfl⟩
   ·grind
   ·have ⟨u,A,Q⟩:=s;obtain ⟨rfl,-⟩:=id c;grind) j (dC _ (by omega))
 unfold rG w6;rw[p,e];rcases n with rfl | ⟨A,Q,rfl,-,-,m,l,k,g⟩
 ·refine ⟨([],[]),false,?_,rfl,⟨⟨Nat.zero_le _,fun _ h=>(by cases h)⟩,Nat.zero_le _,fun _ h=>(by cases h)⟩,fun _ h=>(by cases h)⟩;grind[aJ]
 ·simp only at m l k g;refine ⟨(A,Q),true,?_,by rfl,⟨⟨show A.length<=1048576 by omega,k⟩,show Q.length<=1048576 by omega,fun q h=>(g q h).1⟩,fun q h=>(g q h).2⟩;grind[aJ]
theorem BO {r:Ho} (g:Data.sm r): ∃b,c8 r=some b/\db r=some b/\(b=true->RegOk r):=by
 have ⟨x,b,f,d,a⟩:=aad g.2;unfold c8 db;rw[f,d];by_cases c:(r.2.length:Int)>4
 ·exact ⟨false,by simp[c],by grind,fun e=>by cases e⟩
 ·have h:(r.2.length:Int)<=4:=by omega
  cases b with
  | false=>exact ⟨false,by simp[c],by simp,fun e=>by cases e⟩
  | true =>
   simp[c,if_false,aa,if_true,h,decide_true,Bool.and_true,dG,KD x r a.1,KE x r a.1];grind
abbrev O8:=Int×(List GrT)
abbrev O9:=Int×Int×Int
abbrev ag1:=Int×Bool×KN 
theorem WZ (g:GrT) (a:Data.sm g):nW g=some g:=by
 have b:=(aA a.1).1;have c:=(aA a.2).1;unfold nW;rw[aI (by simp;omega)];simp only[aa,List.nil_append];rw[aI (by simp;omega)];rfl
theorem W0 (g:GrT) (a:Data.sm g):iL g=some g:=by
 have b:=(aA a.1).1;have c:=(aA a.2).1;unfold iL j5;rw[aI (by simp;omega)];simp only[aa,List.nil_append];rw[aI (by simp;omega)];rfl
theorem Iv {g:GrT} (a:Data.sm g): ∃b,ba g=some b:=by
 obtain ⟨b,e,_⟩:=QE g (aA a.1).1 (aA a.2).1;exact ⟨b,e⟩
def okG (h:O8) (g:GrT):Prop:=ba g=some true/\g.1=(nth h.2 0).1
instance (h g):Decidable (okG h g):=by unfold okG;infer_instance
theorem Gg (h:O8) (y:Data.sm h): ∃b,m_s_IsValidHistory h=some b/\m_i_IsValidHistory h=some b/\(b=true->(1<=h.2.length/\h.2.length<=8)/\1<=h.1/\h.1<=1000 - (h.2.length:Int)):=by
 obtain ⟨A,u⟩:=aA y.2;have w:i64.wrap ((i64.wrap (999 - (h.2.length:Int)))+1)=1000 - (h.2.length:Int):=by
  rw[cy (n:=999 - (h.2.length:Int)) (by omega) (by omega),cy (by omega) (by omega)];omega
 have p:=scan (f:=fI h) h.2 (okG h) false (by omega) (fun i z=>by
  have j:=u _ (bm (xs:=h.2) (i:=(i:Int)) (by omega) (by omega));obtain ⟨b,e⟩:=Iv j;obtain ⟨r,s,v⟩:=Kz (nth h.2 (i:Int)).1 (nth h.2 0).1 (aA j.1).1;have l:bS ((nth h.2 (i:Int)).1,(nth h.2 (i:Int)).2)=some b:=by rw[FV];exact e
  have d:okG h (nth h.2 (i:Int))↔b=true/\(nth h.2 (i:Int)).1=(nth h.2 0).1:=by unfold okG;rw[e];simp
  unfold fI;rw[if_pos (by simp;omega),aq (by omega) (by omega)];simp only[aa];rw[l,aq (xs:=h.2) (i:=0) (by omega) (by omega)];simp only[aa];rw[s,af (by omega)];simp only[aa];cases b with
  | false=>rw[if_neg (by decide),if_neg (fun c=>by cases (d.1 c).1)]
  | true =>
   rw[if_pos rfl];by_cases c:r=0
   ·rw[if_neg (by simp[c]),if_pos (d.2 ⟨rfl,v.1 c⟩)]
   ·rw[if_pos (by simpa using c),if_neg (fun k=>c (v.2 (d.1 k).2))]) (by unfold fI;simp)
 have x:=scan (f:=fL h) h.2 (okG h) false (by omega) (fun i z=>by
  have j:=u _ (bm (xs:=h.2) (i:=(i:Int)) (by omega) (by omega));obtain ⟨b,e⟩:=Iv j;have s:=F6 (nth h.2 (i:Int)).1 (nth h.2 0).1 (by have:=(aA j.1).1;omega);have l:ba ((nth h.2 (i:Int)).1,(nth h.2 (i:Int)).2)=some b:=e;have d:okG h (nth h.2 (i:Int))↔b=true/\(nth h.2 (i:Int)).1=(nth h.2 0).1:=by unfold okG;rw[e];simp
  unfold fL;rw[if_pos (by simp;omega),aq (by omega) (by omega)];simp only[aa];rw[l,aq (xs:=h.2) (i:=0) (by omega) (by omega)];simp only[aa];rw[s,af (by omega)];simp only[aa];cases b with
  | false=>rw[if_neg (by decide),if_neg (fun c=>by cases (d.1 c).1)]
  | true =>
   rw[if_pos rfl];by_cases c:(nth h.2 (i:Int)).1=(nth h.2 0).1
   ·rw[if_pos (decide_eq_true c),if_pos (d.2 ⟨rfl,c⟩)]
   ·rw[if_neg (by simpa using c),if_neg (fun k=>c (d.1 k).2)]) (by unfold fL;simp)
 unfold m_s_IsValidHistory m_i_IsValidHistory;rw[Na,Na,Hn,Hn,w];simp only[aa];by_cases q:(1:Int)<=(h.2.length:Int)/\(h.2.length:Int)<=8
 ·by_cases m:1<=h.1/\h.1<=1000 - (h.2.length:Int)
  ·rw[decide_eq_true q,decide_eq_true m];simp only[if_true];rcases p with ⟨a,g⟩ | ⟨a,g⟩ <;> rcases x with ⟨t,o⟩ | ⟨t,o⟩
   ·rw[ai a,ai t];exact ⟨true,rfl,rfl,fun _=>⟨by omega,m⟩⟩
   ·exact absurd g o
   ·exact absurd o g
   ·rw[bg a,bg t];exact ⟨false,rfl,rfl,fun c=>by cases c⟩
  ·rw[decide_eq_true q,decide_eq_false m];simp only[if_true,Bool.false_eq_true,if_false];rcases p with ⟨a,g⟩ | ⟨a,g⟩
   ·rw[ai a];exact ⟨false,rfl,rfl,fun c=>by cases c⟩
   ·rw[bg a];exact ⟨false,rfl,rfl,fun c=>by cases c⟩
 ·rw[decide_eq_false q];simp only[Bool.false_eq_true,if_false];rcases p with ⟨a,g⟩ | ⟨a,g⟩
  ·rw[ai a];exact ⟨false,rfl,rfl,fun c=>by cases c⟩
  ·rw[bg a];exact ⟨false,rfl,rfl,fun c=>by cases c⟩
def latV (h:O8):Int:=h.1+(h.2.length:Int) - 1
theorem Gh {h:O8} (hs:m_s_IsValidHistory h=some true) (hi:m_i_IsValidHistory h=some true) (k:(1<=h.2.length/\h.2.length<=8)/\1<=h.1/\h.1<=1000 - (h.2.length:Int)):bC h=some (latV h)/\cB h=some (latV h):=by
 unfold bC cB latV;have hs:m_s_IsValidHistory (h.1,h.2)=_:=hs;have hi:m_i_IsValidHistory (h.1,h.2)=_:=hi;rw[hs,hi];simp only[aa,if_true];rw[cy (n:=h.1+(h.2.length:Int)) (by omega) (by omega),cy (by omega) (by omega)];exact ⟨rfl,rfl⟩
theorem MX (h:O8) (m:Data.sm h) (v:Int): ∃(g:GrT) (q:Bool),jX h v=some (g,q)/\qR h v=some (g,q)/\Data.sm g/\(m_i_IsValidHistory h=some true->h.1<=v->v<=latV h->q=true)/\(q=false->g=([],[])):=by
 obtain ⟨b,p,o,k⟩:=Gg h m;have a:m_s_IsValidHistory (h.1,h.2)=_:=p;have d:m_i_IsValidHistory (h.1,h.2)=_:=o;have r:Data.sm (([],[]):GrT):=⟨⟨by decide,fun _ e=>by cases e⟩,by decide,fun _ e=>by cases e⟩;unfold jX qR;rw[a,d];simp only[aa];cases b with
 | false=>exact ⟨_,false,rfl,rfl,r,fun c=>(by cases c),fun _=>rfl⟩
 | true =>
  have t:=k rfl;obtain ⟨j,f⟩:=Gh p o t;have j:bC (h.1,h.2)=_:=j;have f:cB (h.1,h.2)=_:=f;simp only[if_true,j,f,aa,Na,Hn,decide_eq_true_eq];by_cases c:h.1<=v/\v<=latV h
  ·have w:=c;unfold latV at w;have l:=(aA m.2).2 _ (bm (xs:=h.2) (i:=v - h.1) (by omega) (by omega));have u:nW ((nth h.2 (v - h.1)).1,(nth h.2 (v - h.1)).2)=_:=WZ _ l;have x:iL ((nth h.2 (v - h.1)).1,(nth h.2 (v - h.1)).2)=_:=W0 _ l;rw[if_pos c,if_pos c,cy (n:=v - h.1) (by omega) (by omega),aq (by omega) (by omega)];simp only[aa];rw[u,x];exact ⟨_,true,rfl,rfl,l,fun _ _ _=>rfl,fun c=>by cases c⟩
  ·rw[if_neg c,if_neg c];exact ⟨_,false,rfl,rfl,r,fun _ s y=>absurd ⟨s,y⟩ c,fun _=>rfl⟩
theorem W1 (a:AutT) (g:Data.sm a):qJ a=some a:=by
 obtain ⟨-,⟨j,-⟩,h,d⟩:=g;unfold qJ;rw[aI (by simp;omega)];simp only[aa,List.nil_append]
 have:=aQ (f:=kV a) (fun i=>((i:Int),a.1,a.2.1,a.2.2.take i)) a.2.2.length (fun i b=>by
  unfold kV;have c:cr 8 ([] :List Int) a.2.2[i] =some a.2.2[i]:=by rw[aI (by have:a.2.2[i].length<=1048576:=(d _ (List.getElem_mem b)).1;simp;omega)];rfl
  simp only[br b,if_true,au b,aa,c,af (show i<9223372036854775807 by omega)];rw[aI (by simp;omega)];simp only[aa];rw[List.take_succ_eq_append_getElem b]) (by
  unfold kV;simp only[bf,Bool.false_eq_true,if_false]) (dC _ (by omega))
 have e:aj (kV a) aP (0,a.1,a.2.1,[])=_:=this;rw[e];simp only[aJ,List.take_length]
theorem W2 (a:AutT) (g:Data.sm a):gT a=some a:=by
 obtain ⟨-,⟨j,-⟩,h,d⟩:=g;unfold gT;rw[aI (by simp;omega)];simp only[aa,List.nil_append]
 have:=aQ (f:=eN a) (fun i=>((i:Int),a.1,a.2.1,a.2.2.take i)) a.2.2.length (fun i b=>by
  unfold eN j5;have c:cr 8 ([] :List Int) a.2.2[i] =some a.2.2[i]:=by rw[aI (by have:a.2.2[i].length<=1048576:=(d _ (List.getElem_mem b)).1;simp;omega)];rfl
  simp only[br b,if_true,au b,aa,c,af (show i<9223372036854775807 by omega)];rw[aI (by simp;omega)];simp only[aa];rw[List.take_succ_eq_append_getElem b]) (by
  unfold eN;simp only[bf,Bool.false_eq_true,if_false]) (dC _ (by omega))
 have e:aj (eN a) aP (0,a.1,a.2.1,[])=_:=this;rw[e];simp only[aJ,List.take_length]
theorem Gi (r:Ho) (id:Int) (d:r.2.length<=1048576): ∃k:Int,fJ r id=some k/\fN r id=some k/\(k= -1\/ ∃i:Nat,i<r.2.length/\k=(i:Int)):=by
 unfold fJ fN bZ;have a: ∀i (h:i<r.2.length),fA r id (i:Int)=if r.2[i].1=id then some (.ret (i:Int)) else some (.nxt ((i+1:Nat):Int)):=fun i h=>by
  simp only[fA,br h,if_true,au h,aa,af (show i<9223372036854775807 by omega)];by_cases c:r.2[i].1=id <;> simp[c]
 obtain ⟨k,e,b,h⟩:=QP (f:=fA r id) (g:=bh r.2 fun j=>mW j id) r.2.length d (fun i h=>by
  rw[a i h];by_cases c:r.2[i].1=id <;> simp[c]) (by simp only[fA,bf];rfl) (fun i l=>by
  by_cases h:i<r.2.length
  ·rw[a i h];simp only[bh,mW,br h,if_true,au h,aa,af (show i<9223372036854775807 by omega)];by_cases c:r.2[i].1=id <;> simp[c]
  ·obtain rfl:i=r.2.length:=by omega
   simp only[fA,bh,bf];rfl)
 refine ⟨k,e,?_,h⟩;rw[b];rfl
abbrev EngT:=O8×Ho×List O9×ByteArray
theorem QR {h:O8} {r:Ho} {ss:List O9} {lg:ByteArray} {v:Int} (hs:bC h=some v) (d:r.2.length<=1048576) (f:ss.length<=1048576) {i:Nat} (h1:i<ss.length) :
  cL (h,r,ss,lg) v (i:Int)=du (h,r,ss,lg) (i:Int)/\(du (h,r,ss,lg) (i:Int)=some (.nxt ((i+1:Nat):Int))\/du (h,r,ss,lg) (i:Int)=some (.ret false)):=by
 obtain ⟨k,b,a,-⟩:=Gi r ss[i].2.1 d;have e:i64.wrap ((i:Int)+1)=((i+1:Nat):Int):=af (by omega);unfold cL du;simp only[dG,br h1,if_true,au h1,aa,Na,Hn,b,a,hs,e];by_cases c:decide ((i:Int)>0)=true
 ·have g:aK ss (i64.wrap ((i:Int) - 1))=some (nth ss ((i:Int) - 1)):=by
   have:(i:Int)>0:=of_decide_eq_true c
   rw[lh (by omega),aq (by omega) (by omega)]
  simp only[if_pos c,g,aa];refine ⟨trivial,?_⟩
  repeat' split
  all_goals first | exact .inr rfl | exact .inl rfl
 ·simp only[if_neg c];refine ⟨trivial,?_⟩
  repeat' split
  all_goals first | exact .inr rfl | exact .inl rfl
theorem aae {h:O8} {r:Ho} {ss:List O9} {lg:ByteArray} {v:Int} (hs:bC h=some v) (q:r.2.length<=1048576) (p:ss.length<=1048576): ∃o,aj (du (h,r,ss,lg)) aP 0=some o/\aj (cL (h,r,ss,lg) v) aP 0=some o/\(o= .ret false\/ ∃s,o= .brk s):=by
 have d:du (h,r,ss,lg) (ss.length:Int)=some (.brk (ss.length:Int)):=by
  unfold du;simp only[];rw[bf];rfl
 have j:cL (h,r,ss,lg) v (ss.length:Int)=some (.brk (ss.length:Int)):=by
  unfold cL;simp only[];rw[bf];rfl
 obtain ⟨o,e,t⟩:=cq (f:=du (h,r,ss,lg)) (fun i s=>s=(i:Int)) (fun o=>o= .ret false\/ ∃s,o= .brk s) ss.length (fun i s u n=>by
  subst n;by_cases l:i<ss.length
  ·rcases (QR (lg:=lg) hs q p l).2 with k | k
   ·exact .inl ⟨l,_,k,rfl⟩
   ·exact .inr ⟨_,k,fun m h=>(by simp at h),.inl rfl⟩
  ·obtain rfl:i=ss.length:=by omega
   exact .inr ⟨_,d,fun m h=>(by simp at h),.inr ⟨_,rfl⟩⟩) (s:=(0:Int)) rfl (dC _ (by omega))
 refine ⟨o,e,?_,t⟩;rw[<-e];refine xn (f:=du (h,r,ss,lg)) (g:=cL (h,r,ss,lg) v) (fun i s=>s=(i:Int)/\i<=ss.length) (fun i s n=>?_) aP 0 0 ⟨rfl,Nat.zero_le _⟩;obtain ⟨rfl,u⟩:=n;by_cases l:i<ss.length
 ·obtain ⟨a,b⟩:=QR (lg:=lg) hs q p l;refine ⟨a,fun m c=>?_⟩;rcases b with b | b
  ·rw[b] at c;obtain rfl:=ae c |> Out.nxt.inj;exact ⟨rfl,l⟩
  ·rw[b] at c;simp at c
 ·obtain rfl:i=ss.length:=by omega
  exact ⟨by rw[d,j],fun m c=>by rw[d] at c;simp at c⟩
structure EngOk (e:EngT):Prop where
 hs:m_s_IsValidHistory e.1=some true
 hi:m_i_IsValidHistory e.1=some true
 hb:(1<=e.1.2.length/\e.1.2.length<=8)/\1<=e.1.1/\e.1.1<=1000 - (e.1.2.length:Int)
 reg:RegOk e.2.1
 sub:e.2.2.1.length<=4
 log:e.2.2.2.size<=4000
 sc: ∃(r:List Int) (q:List (List ChT)) (n:Nat),m_s_ScanLog e.2.2.2=some (r,q,(n:Int))/\m_i_ScanLog e.2.2.2=some (r,q,(n:Int))/\r.length<=4000/\ScOk r q/\totL r q r.length<=4000/\(r.length=0\/nth r ((r.length:Int) - 1)=latV e.1)
theorem aaf (e:EngT) (I:Data.sm e): ∃b,kB e=some b/\kD e=some b/\(b=true->EngOk e):=by
 obtain ⟨h,r,ss,lg⟩:=e;obtain ⟨K,D,v,d⟩:=I;obtain ⟨G,k,m,w⟩:=Gg h K;obtain ⟨H,F,M,A⟩:=BO D;have d:lg.size<=1048576:=d;obtain ⟨l,rfl⟩:=afO lg;have g:(mkB l).size=l.length:=bR l;have Q:l.length<=1048576:=by rw[<-g];exact d
 unfold kB kD yB Bd;simp only[dG,k,m,F,M,aa,g];cases G with
 | false=>exact ⟨false,rfl,rfl,fun c=>by cases c⟩
 | true =>
  cases H with
  | false=>exact ⟨false,rfl,rfl,fun c=>by cases c⟩
  | true =>
   obtain ⟨E,L⟩:=Gh k m (w rfl);obtain ⟨o,J,N,u⟩:=aae (h:=h) (r:=r) (ss:=ss) (lg:=mkB l) E (aA D.2).1 (aA v).1;obtain ⟨a,x,n,p,t,P,B,y,O⟩:=MI l (by omega);simp only[if_true,E,L,p,t,aa,J,N];by_cases C:(ss.length:Int)<=4
   ·rw[if_neg (show¬decide ((ss.length:Int)>4)=true by rw[decide_eq_true_eq];omega),decide_eq_true C];by_cases z:(l.length:Int)<=4000
    ·rw[if_neg (show¬decide ((l.length:Int)>4000)=true by rw[decide_eq_true_eq];omega)];rcases u with rfl | ⟨s,rfl⟩
     ·exact ⟨false,rfl,rfl,fun c=>by cases c⟩
     ·simp only[aJ,if_true,aa];by_cases f:((n:Int)==(l.length:Int))=true
      ·simp only[if_pos f,if_pos (decide_eq_true z)];by_cases j:((a.length:Int)==0)=true
       ·simp only[if_pos j,aa];exact ⟨true,rfl,rfl,fun _=>⟨k,m,w rfl,A rfl,by show ss.length<=4;omega,by show (mkB l).size<=4000;omega,a,x,n,p,t,B,y,by omega,.inl (by have:=eq_of_beq j;omega)⟩⟩
       ·have hp:0<a.length:=by
         rcases Nat.eq_zero_or_pos a.length with q | q
         ·exact absurd (by rw[q];rfl) j
         ·exact q
        simp only[if_neg j,lh (show a.length<=9223372036854775807 by omega),aq (xs:=a) (i:=(a.length:Int) - 1) (by omega) (by omega),aa];refine ⟨_,rfl,rfl,fun c=>⟨k,m,w rfl,A rfl,by show ss.length<=4;omega,by show (mkB l).size<=4000;omega,a,x,n,p,t,B,y,by omega,.inr (eq_of_beq c)⟩⟩
      ·simp only[if_neg f,aa];exact ⟨false,rfl,rfl,fun c=>by cases c⟩
    ·rw[if_pos (decide_eq_true (show (l.length:Int)>4000 by omega))];rcases u with rfl | ⟨s,rfl⟩
     ·exact ⟨false,rfl,rfl,fun c=>by cases c⟩
     ·simp only[aJ,if_true,aa];by_cases f:((n:Int)==(l.length:Int))=true
      ·simp only[if_pos f,if_neg (show¬decide ((l.length:Int)<=4000)=true by rw[decide_eq_true_eq];exact z),aa];exact ⟨false,rfl,rfl,fun c=>by cases c⟩
      ·simp only[if_neg f,aa];exact ⟨false,rfl,rfl,fun c=>by cases c⟩
   ·rw[if_pos (decide_eq_true (show (ss.length:Int)>4 by omega)),decide_eq_false C];rcases u with rfl | ⟨s,rfl⟩
    ·exact ⟨false,rfl,rfl,fun c=>by cases c⟩
    ·exact ⟨false,rfl,rfl,fun c=>by cases c⟩
theorem aeg (r:Ho) (d:Data.sm r):tJ r=some r:=by
 obtain ⟨j,h⟩:=aA d.1;obtain ⟨k,g⟩:=aA d.2;unfold tJ;have a:=aQ (f:=kW r) (fun i=>((i:Int),r.1.take i,([] :List QT))) r.1.length (fun i b=>by
  unfold kW;simp only[br b,if_true,au b,aa,dG,W1 _ (h _ (List.getElem_mem b)),af (show i<9223372036854775807 by omega)];rw[aI (by simp;omega)];simp only[aa];rw[List.take_succ_eq_append_getElem b]) (by
  unfold kW;simp only[bf,Bool.false_eq_true,if_false]) (dC _ (by omega))
 have e:aj (kW r) aP (0,[],[])=_:=a;rw[e];simp only[aJ,List.take_length];have a:=aQ (f:=kX r) (fun i=>((i:Int),r.1,r.2.take i)) r.2.length (fun i b=>by
  unfold kX;have c:jd r.2[i].2.1=some r.2[i].2.1:=by unfold jd;rw[aI (by have:=(g _ (List.getElem_mem b)).2.1.1;simp;omega)];rfl
  simp only[br b,if_true,au b,aa,dG,c,af (show i<9223372036854775807 by omega)];rw[aI (by simp;omega)];simp only[aa];rw[List.take_succ_eq_append_getElem b]) (by
  unfold kX;simp only[bf,Bool.false_eq_true,if_false]) (dC _ (by omega))
 have e:aj (kX r) aP (0,r.1,[])=_:=a;rw[e];simp only[List.take_length]
theorem aeh (r:Ho) (d:Data.sm r):lI r=some r:=by
 obtain ⟨j,h⟩:=aA d.1;obtain ⟨k,g⟩:=aA d.2;unfold lI;have a:=aQ (f:=fb r) (fun i=>((i:Int),r.1.take i,([] :List QT))) r.1.length (fun i b=>by
  unfold fb;simp only[br b,if_true,au b,aa,dG,W2 _ (h _ (List.getElem_mem b)),af (show i<9223372036854775807 by omega)];rw[aI (by simp;omega)];simp only[aa];rw[List.take_succ_eq_append_getElem b]) (by
  unfold fb;simp only[bf,Bool.false_eq_true,if_false]) (dC _ (by omega))
 have e:aj (fb r) aP (0,[],[])=_:=a;rw[e];simp only[aJ,List.take_length];have a:=aQ (f:=fc r) (fun i=>((i:Int),r.1,r.2.take i)) r.2.length (fun i b=>by
  unfold fc;have c:im r.2[i].2.1=some r.2[i].2.1:=by unfold im;rw[aI (by have:=(g _ (List.getElem_mem b)).2.1.1;simp;omega)];rfl
  simp only[br b,if_true,au b,aa,dG,c,af (show i<9223372036854775807 by omega)];rw[aI (by simp;omega)];simp only[aa];rw[List.take_succ_eq_append_getElem b]) (by
  unfold fc;simp only[bf,Bool.false_eq_true,if_false]) (dC _ (by omega))
 have e:aj (fc r) aP (0,r.1,[])=_:=a;rw[e];simp only[List.take_length]
theorem aei (h:O8) (c:Data.sm h):wY h=some h:=by
 obtain ⟨g,b⟩:=aA c.2;have e:=aQ (f:=mS h) (fun i=>((i:Int),h.1,h.2.take i)) h.2.length (fun i a=>by
  have e:nW (h.2[i].1,h.2[i].2)=some h.2[i]:=WZ h.2[i] (b _ (List.getElem_mem a));have d: ∀z:GrT,cr 48 (h.2.take i) [z] =some (h.2.take i++ [z]):=fun z=>aI (by rw[aB];simp only[aM,aZ];omega);unfold mS;simp only[];rw[br a,if_pos rfl,au a];simp only[aa];rw[e];simp only[aa];rw[d,af (by omega),List.take_succ_eq_append_getElem a];rfl) (by
  unfold mS;simp only[];rw[bf];rfl) (dC _ (by omega))
 rw[List.take_length] at e;have e:aj (mS h) aP (0,h.1,[])=_:=e;unfold wY;rw[ai e]
theorem aej (h:O8) (c:Data.sm h):mX h=some h:=by
 obtain ⟨g,b⟩:=aA c.2;have e:=aQ (f:=fQ h) (fun i=>((i:Int),h.1,h.2.take i)) h.2.length (fun i a=>by
  have e:iL (h.2[i].1,h.2[i].2)=some h.2[i]:=W0 h.2[i] (b _ (List.getElem_mem a));have d: ∀z:GrT,cr 48 (h.2.take i) [z] =some (h.2.take i++ [z]):=fun z=>aI (by rw[aB];simp only[aM,aZ];omega);unfold fQ;simp only[];rw[br a,if_pos rfl,au a];simp only[aa];rw[e];simp only[aa];rw[d,af (by omega),List.take_succ_eq_append_getElem a];rfl) (by
  unfold fQ;simp only[];rw[bf];rfl) (dC _ (by omega))
 rw[List.take_length] at e;have e:aj (fQ h) aP (0,h.1,[])=_:=e;unfold mX;rw[ai e]
theorem aek (e:EngT) (a:Data.sm e):tK e=some e:=by
 obtain ⟨d,c,b,f⟩:=a;have g:=(aA b).1;unfold tK;simp only[dG,aei e.1 d,aeg e.2.1 c,aa];rw[aI (by simp;omega)];rfl
theorem ael (e:EngT) (a:Data.sm e):oS e=some e:=by
 obtain ⟨d,c,b,f⟩:=a;have g:=(aA b).1;unfold oS;simp only[dG,aej e.1 d,aeh e.2.1 c,aa];rw[aI (by simp;omega)];rfl
theorem xu {c:Prop} [Decidable c] (h:c):chk c=some ():=if_pos h
theorem BP {α:Type} {xs:List α} {i n:Nat} {z:α} (h:i<=xs.length):(tu xs i n z).take i=xs.take i:=by
 unfold tu;rw[List.take_append_of_le_length (by rw[aB];omega),List.take_take,Nat.min_self]
theorem Gj {α:Type} {xs:List α} {i:Nat} {z:α} (h:i<=xs.length):(tu xs i xs.length z).length=xs.length:=B1 h (aH _)
theorem KF {α:Type} {ys:List α} {i:Nat} {x:α} (h:i<ys.length):(ys.set i x).take (i+1)=ys.take i++ [x]:=by
 rw[List.take_succ_eq_append_getElem (by simpa using h)];simp[List.take_set_of_le]
theorem set_drop {α:Type} {ys:List α} {i j:Nat} {x:α} (h:i<j):(ys.set i x).drop j=ys.drop j:=by
 apply List.ext_getElem?;intro q;rw[List.getElem?_drop,List.getElem?_drop,List.getElem?_set_ne (by omega)]
theorem AN {α:Type} {ys xs:List α} {j:Nat} (h:ys.drop j=xs.drop j):ys.drop (j+1)=xs.drop (j+1):=by
 rw[<-List.drop_drop,h,List.drop_drop]
theorem AO {α:Type} {ys xs:List α} {j q:Nat} (h:ys.drop j=xs.drop j) (b:j<=q) (h1:q<ys.length) (a:q<xs.length):ys[q] =xs[q]:=by
 have e:=congrArg (fun l=>l[q - j]?) h;simp only[List.getElem?_drop,show j+(q - j)=q from by omega] at e;rw[List.getElem?_eq_getElem h1,List.getElem?_eq_getElem a] at e;exact ae e
section
variable {α:Type} [DecidableEq α]
def uX:List α->List α
 | [] =>[]
 | [a] =>[a]
 | a::b::l=>if a=b then uX (b::l) else a::uX (b::l)
theorem Dx {x:α} : ∀ {l:List α},x∈uX l↔x∈l
 | [] =>Iff.rfl
 | [a] =>Iff.rfl
 | a::b::l=>by
  rw[uX];split
  ·rename_i e;subst e;rw[Dx];simp
  ·rw[List.mem_cons,Dx,List.mem_cons (l:=b::l)]
theorem MY: ∀(l:List α) (b:α),l≠ [] ->uX (l++ [b])=if l.getLast? =some b then uX l else uX l++ [b]
 | [],b,h=>absurd rfl h
 | [a],b,_=>by
  by_cases e:a=b
  ·subst e;simp[uX]
  ·simp[uX,e]
 | a::c::l,b,_=>by
  have f:=MY (c::l) b (by simp);have d:(a::c::l).getLast? =(c::l).getLast? :=by simp[List.getLast?_cons_cons]
  rw[d];show uX (a::c::(l++ [b]))=_;rw[uX,uX];rw[show c::(l++ [b])=(c::l)++ [b] from rfl,f];by_cases e:a=c
  ·rw[if_pos e,if_pos e]
  ·rw[if_neg e,if_neg e];split <;> simp
theorem Gk {xs:List α} {j:Nat} (c:0<j) (h:j<xs.length):uX (xs.take (j+1))=if xs[j - 1] =xs[j] then uX (xs.take j) else uX (xs.take j)++ [xs[j]]:=by
 rw[List.take_succ_eq_append_getElem h,MY _ _ (by
  intro e;have b:=congrArg List.length e;rw[aB,Nat.min_eq_left (Nat.le_of_lt h),aZ] at b;omega)]
 have a:(xs.take j).getLast? =some xs[j - 1]:=by
  rw[List.getLast?_eq_getElem?,aB,Nat.min_eq_left (Nat.le_of_lt h),List.getElem?_take,if_pos (show j - 1<j by omega),List.getElem?_eq_getElem (show j - 1<xs.length by omega)]
 rw[a];by_cases e:xs[j - 1] =xs[j]
 ·rw[if_pos (by rw[e]),if_pos e]
 ·rw[if_neg (by simpa using e),if_neg e]
theorem MZ {xs:List α} : ∀(j:Nat),j<=xs.length->(∀q (b:q<j) (g:0<q) (e:j<=xs.length),xs[q - 1]'(by omega)≠xs[q]'(by omega))->uX (xs.take j)=xs.take j
 | 0,_,_=>by simp[uX]
 | 1,h,_=>by
  cases xs with
  | nil=>simp[uX]
  | cons a l=>simp[uX]
 | j+2,h,b=>by
  rw[Gk (by omega) (by omega),if_neg (b (j+1) (by omega) (by omega) h),MZ (j+1) (by omega) (fun q d c f=>b q (by omega) c h),<-List.take_succ_eq_append_getElem]
end
theorem KG: ∀ {l:List Int},l.Pairwise (fun a b=>a<=b)->(uX l).Pairwise (fun a b=>a<b)
 | [],_=>List.Pairwise.nil
 | [a],_=>by simp[uX]
 | a::b::l,h=>by
  obtain ⟨f,e⟩:=List.pairwise_cons.1 h;rw[uX];split
  ·exact KG e
  ·rename_i g;refine List.pairwise_cons.2 ⟨fun x d=>?_,KG e⟩;have c:a<b:=by have:=f b (List.mem_cons_self ..);omega
   rcases az (Dx.1 d) with rfl | d
   ·exact c
   ·have:=(List.pairwise_cons.1 e).1 x d
    omega
theorem M0: ∀ {l m:List Int},l.Pairwise (fun a b=>a<b)->m.Pairwise (fun a b=>a<b)->(∀x,x∈l↔x∈m)->l=m
 | [],[],_,_,_=>rfl
 | [],b::m,_,_,h=>absurd ((h b).2 (by simp)) (by simp)
 | a::l,[],_,_,h=>absurd ((h a).1 (by simp)) (by simp)
 | a::l,b::m,h1,h2,h=>by
  obtain ⟨i,k⟩:=List.pairwise_cons.1 h1;obtain ⟨j,n⟩:=List.pairwise_cons.1 h2;have g:a=b:=by
   have d:=(h a).1 (by simp);have f:=(h b).2 (by simp);rcases az d with e | d
   ·exact e
   ·rcases az f with e | f
    ·exact e.symm
    ·have:=i b f;have:=j a d;omega
  subst g;rw[M0 k n fun x=>?_]
  have:=h x
  rw[List.mem_cons,List.mem_cons] at this;constructor
  ·intro c;rcases this.1 (.inr c) with e | e
   ·subst e;have:=i x c;omega
   ·exact e
  ·intro c;rcases this.2 (.inr c) with e | e
   ·subst e;have:=j x c;omega
   ·exact e
theorem aag {l:List O9} {d:O9->Bool} {f:O9->Option Bool} (b: ∀x,f x=some (d x)) (g:l.length<=1073741824) :
  (∃(i:Nat) (hi:i<l.length),d l[i] =true/\(∀j (h:j<i),d (l[j]'(by omega))=false)/\aT l f=some (i:Int))\/((∀x,x∈l->d x=false)/\aT l f=some (-1)):=by
 unfold aT;rcases FK (f:=bj l f) l d (fun i=>(i:Int)) (by omega) (fun i hi=>by
   unfold bj;rw[br hi,if_pos rfl,au hi];simp only[aa,dG,b,af (show i<9223372036854775807 by omega)];split <;> rfl) (by
   unfold bj;rw[bf];rfl) with ⟨i,hi,a,c,e⟩ | ⟨a,e⟩
 ·exact .inl ⟨i,hi,a,c,bg e⟩
 ·exact .inr ⟨a,ai e⟩
theorem SG {r:Ho} (f:Data.sm r) (id:Int): ∃x:AutT×Bool,eF r id=some x/\fR r id=some x/\Data.sm x.1:=by
 obtain ⟨k,h,o,a⟩:=Gi r id (aA f.2).1;obtain ⟨b,j,p,hv⟩:=BO f;unfold eF fR;simp only[h,o,j,p,aa,dG];rcases a with rfl | ⟨i,g,rfl⟩
 ·refine ⟨((0,[],[]),false),?_,?_,AL⟩
  ·cases b <;> rfl
  ·rfl
 ·have a:decide ((i:Int)<0)=false:=by simp
  cases b with
  | false=>exact ⟨((0,[],[]),false),by simp[a],by simp[a],AL⟩
  | true =>
   obtain ⟨n,l⟩:=hv rfl;obtain ⟨e,d⟩:=l _ (List.getElem_mem g);have m:aK r.1 r.2[i].2.2=some (nth r.1 r.2[i].2.2):=aq e d;have c:Data.sm (nth r.1 r.2[i].2.2):=(aA n.1).2 _ (bm e d);simp only[if_true,a,Bool.false_eq_true,if_false,au g,aa,m,dG,W1 _ c,W2 _ c];exact ⟨_,rfl,rfl,c⟩
theorem aiP {a b:Int} :(a==b)=decide (a=b):=by rw[Bool.eq_iff_iff];simp
theorem Pa (xs:List Int) (W:xs.length<=1073741824):dj xs=some (uX xs):=by
 unfold dj;by_cases U:xs.length<2
 ·rw[if_pos (by simp;omega)];cases xs with
  | nil=>rfl
  | cons a l =>
   cases l with
   | nil=>rfl
   | cons b l=>simp only[aM] at U;omega
 rw[if_neg (by simp;omega)];have key:(aj (bU xs) aP 1=some (.ret (uX xs)))\/(∃s,aj (bU xs) aP 1=some (.brk s)/\uX xs=xs):=by
  obtain ⟨o,e,O⟩:=cq (f:=bU xs) (fun t s=>s=((t+1:Nat):Int)/\uX (xs.take (t+1))=xs.take (t+1)) (fun o=>o= .ret (uX xs)\/ ∃s,o= .brk s/\uX xs=xs) (xs.length - 1) (fun t s Y i=>by
   obtain ⟨rfl,i⟩:=i;unfold bU;by_cases p:t+1<xs.length
   ·have hp:((t+1:Nat):Int) - 1=((t:Nat):Int):=by omega
    rw[br p,if_pos rfl,au p,cy (n:=((t+1:Nat):Int) - 1) (by omega) (by omega),hp,au (show t<xs.length by omega)];simp only[aa,aiP];have k:=Gk (xs:=xs) (j:=t+1) (by omega) p;rw[i] at k;simp only[Nat.add_sub_cancel] at k;by_cases B:xs[t+1] =xs[t]
    ·rw[if_pos (decide_eq_true B),xu (by omega),aa];rw[if_pos B.symm] at k;have m:(xs.take (t+1)).length=t+1:=by rw[aB];omega
     obtain ⟨s,M,c,rfl,C,d,w,g⟩:=kd (f:=cD xs ((t+1:Nat):Int)) (fun u s=> ∃c:List Int,s=(((uX (xs.take (t+2+u))).length:Int),((u+1:Nat):Int),c)/\c.length=xs.length/\c.take (uX (xs.take (t+2+u))).length=uX (xs.take (t+2+u))/\c.drop (t+1+u)=xs.drop (t+1+u)/\(uX (xs.take (t+2+u))).length<=t+1+u) (xs.length - (t+2)) (fun u s X i=>by
      obtain ⟨c,rfl,C,d,w,g⟩:=i;have H:t+2+u<xs.length:=by clear g d;omega
      have D:t+1+u<xs.length:=by clear g d;omega
      have x:t+2+u<c.length:=by clear g d;omega
      have y:t+1+u<c.length:=by clear g d;omega
      have S:(0+((t+1:Nat):Int))+((u+1:Nat):Int)=((t+2+u:Nat):Int):=by omega
      have J:((u+1:Nat):Int) - 1=((u:Nat):Int):=by omega
      have N:(0+((t+1:Nat):Int))+((u:Nat):Int)=((t+1+u:Nat):Int):=by omega
      unfold cD;dsimp only;rw[if_pos (by simp;omega),xu (by omega)];simp only[aa];rw[cy (n:=((u+1:Nat):Int) - 1) (by omega) (by omega),S,J,N,au (xs:=c) x,au (xs:=c) y,xu (by omega),AO w (by omega) x H,AO w (aH _) y D];simp only[aa,aiP,dG];have P:t+2+u - 1=t+1+u:=by clear g d;omega
      have T:0<t+2+u:=by clear g d;omega
      have v:=Gk (xs:=xs) (j:=t+2+u) T H;simp only[P] at v;have E:=AN w;rw[show t+1+u+1=t+1+(u+1) from by omega] at E;rw[show t+2+(u+1)=t+2+u+1 from by omega,v];generalize uX (xs.take (t+2+u))=K at *;by_cases A:xs[t+2+u] =xs[t+1+u]
      ·rw[if_neg (by simpa using A),if_pos A.symm];simp only[aa];rw[af (by omega)];exact ⟨_,rfl,c,rfl,C,d,E,by omega⟩
      ·rw[if_pos (by simpa using A),if_neg (fun e=>A e.symm),au (xs:=c) (show K.length<c.length by omega)];simp only[aa];rw[af (by omega),af (by omega)];refine ⟨_,rfl,c.set K.length xs[t+2+u],?_,by simpa using C,?_,?_,?_⟩
       ·rw[aF,List.length_singleton];rfl
       ·rw[aF,List.length_singleton,KF (by omega),d]
       ·rw[set_drop (by omega)];exact E
       ·rw[aF,List.length_singleton];omega) (fun s i=>by
      obtain ⟨c,rfl,C,d,w,g⟩:=i;unfold cD;rw[if_neg (by simp;omega)]) (s:=(((t+1:Nat):Int),1,xs)) ⟨xs,by rw[Nat.add_zero,k,m];rfl,rfl,by rw[Nat.add_zero,k,m],rfl,by rw[Nat.add_zero,k,m];omega⟩ (dC _ (by omega))
     refine .inr ⟨.ret (uX xs),?_,fun Q F=>(by simp at F),.inl rfl⟩;rw[ai M];have r:xs.take (t+2+(xs.length - (t+2)))=xs:=List.take_of_length_le (by omega);rw[r] at d g⊢;generalize uX xs=K at *;have G:K.length<=c.length:=by omega
     have L:((0:Int)+((K.length:Nat):Int)).toNat=K.length:=by omega
     have I:((0:Int)+(((c.length:Nat):Int) - 0)).toNat=c.length:=by omega
     simp only[L,I];have R:=Gj (z:=(0:Int)) G;rw[xu (by omega),aa,xu (by omega),aa,xu (by rw[R];omega),aa,BP G,d,List.drop_zero]
    ·rw[if_neg (by simpa using B),af (by omega)];rw[if_neg (fun e=>B e.symm),<-List.take_succ_eq_append_getElem p] at k;exact .inl ⟨by omega,_,rfl,rfl,k⟩
   ·refine .inr ⟨.brk ((t+1:Nat):Int),?_,fun Q F=>(by simp at F),.inr ⟨_,rfl,?_⟩⟩
    ·rw[if_neg (by simp;omega)]
    ·rw[List.take_of_length_le (by omega)] at i;exact i) (s:=1) ⟨rfl,MZ 1 (by omega) (fun q p V=>by omega)⟩ (dC _ (by omega))
  rcases O with rfl | ⟨s,rfl,h⟩
  ·exact .inl e
  ·exact .inr ⟨s,e,h⟩
 rcases key with e | ⟨s,e,h⟩
 ·rw[bg e]
 ·rw[ai e,h]
theorem Gl (m:Nat): ∀k,(gb m k).Pairwise (fun a b=>a<b)
 | 0=>List.Pairwise.nil
 | k+1=>by
  rw[mo];split
  ·refine List.pairwise_append.2 ⟨Gl m k,List.pairwise_singleton _ _,fun a d b c=>?_⟩;obtain ⟨i,e,_,rfl⟩:=wA.1 d;obtain rfl:b=(k:Int):=by simpa using c
   omega
  ·exact Gl m k
theorem aem {X:List Int} {m:Nat} (h: ∀x∈X,∃i:Nat,i<30/\x=(i:Int)) (e: ∀i:Nat,i<30->(m.testBit i=true↔(i:Int)∈X)):uX (X.mergeSort fun x y=>decide (x<=y))=gb m 30:=by
 have hp:(X.mergeSort fun x y=>decide (x<=y)).Pairwise (fun a b=>a<=b):=by
  have:=List.pairwise_mergeSort (le:=fun (x y:Int)=>decide (x<=y)) (fun a b c f j=>by
   have f:=of_decide_eq_true f;have j:=of_decide_eq_true j;exact decide_eq_true (by omega)) (fun a b=>by
   rw[Bool.or_eq_true,decide_eq_true_eq,decide_eq_true_eq];omega) X
  exact this.imp fun h=>of_decide_eq_true h
 refine M0 (KG hp) (Gl m 30) fun x=>?_;rw[Dx,List.mem_mergeSort,wA];constructor
 ·intro g;obtain ⟨i,d,rfl⟩:=h x g;exact ⟨i,d,(e i d).2 g,rfl⟩
 ·rintro ⟨i,d,k,rfl⟩;exact (e i d).1 k
theorem abE {p:Prop} [Decidable p] (h:p):chk p=some ():=by unfold chk;rw[if_pos h]
theorem ah3 {m:Nat} (c:m<2 ^ 30):zG (m:Int)=some (gb m 30):=by
 have a:m<2 ^ 62:=aC c (Nat.pow_le_pow_right (by decide) (by decide));unfold zG
 have:=aQ (f:=o8 (m:Int)) (fun i=>(gb m i,(i:Int))) 30 (fun i e=>by
  have d:=pn m i;unfold o8;simp only;rw[if_pos (by simp;omega),abE (by omega),FN a (by omega),af (by omega),mo];simp only[aa];by_cases b:m.testBit i=true
  ·rw[if_pos b,if_pos b,aI (by simp;omega)];rfl
  ·rw[if_neg b,if_neg b];rfl) (by unfold o8;simp) (by unfold aP;omega)
 have this:aj (o8 (m:Int)) aP (([] :List Int),0)=_:=this;rw[ai this]
theorem Pb (xs:List Int) (h:xs.length<=1000000):nf xs=some (uX (xs.mergeSort fun x y=>decide (x<=y))):=by
 unfold nf j5 gl R.Y3;rw[aI (by simp;omega)];simp only[aa,List.nil_append];rw[abE (by omega)];simp only[aa];rw[Pa _ (by rw[List.length_mergeSort];omega)];rfl
def SM (a:AutT) (s v:Int):Bool:=decide (∃q∈gb (cS a s v) 30,nth a.2.1 q=true)
section
variable {a:AutT} {n:Nat} (V:VA a n) (hn:n<=12)
include V hn
theorem Pc {s v:Int} (hs:0<=s/\s<n) (hv:0<=v/\v<=2):nc a (AP 1 s) v=some (SM a s v):=by
 obtain ⟨t,rfl⟩: ∃t:Nat,s=(t:Int):=⟨s.toNat,by omega⟩;obtain ⟨g,k⟩:=MN V hn hs hv;have p:cS a (t:Int) v<2 ^ 30:=aC k (Nat.pow_le_pow_right (by decide) (by omega));unfold nc;rw[BG (by omega),wB (Nat.pow_lt_pow_right (by decide) (by omega)),MJ (by omega)];simp only[aa];have l:=pn (cS a (t:Int) v) 30;have m:fE a v [(t:Int)] 0=some (if SM a (t:Int) v=true then .ret true else .nxt 1):=by
  unfold fE;rw[if_pos (by simp),show aK [(t:Int)] 0=some (t:Int) from rfl];simp only[aa];have g:lZ (a.1,a.2.1,a.2.2) (t:Int) v=_:=g;rw[g];simp only[aa];rw[wB p];simp only[aa];rcases scan (f:=lK a (gb (cS a (t:Int) v) 30)) (gb (cS a (t:Int) v) 30) (fun q=> ¬nth a.2.1 q=true) true (by omega) (fun i r=>by
   have d:=AD V hn k _ (bm (xs:=gb (cS a (t:Int) v) 30) (i:=(i:Int)) (by omega) (by omega));unfold lK;rw[if_pos (by simp;omega),aq (by omega) (by omega)];simp only[aa];rw[V.acc d.1 d.2,af (by omega)];simp only[aa];cases nth a.2.1 (nth (gb (cS a (t:Int) v) 30) (i:Int)) <;> rfl) (by unfold lK;simp) with ⟨e,h⟩ | ⟨e,h⟩
  ·rw[ai e,if_neg (by unfold SM;rw[decide_eq_true_eq];rintro ⟨q,d,b⟩;exact h q d b)];rfl
  ·rw[bg e,if_pos (by
    unfold SM;rw[decide_eq_true_eq];by_cases c: ∃q∈gb (cS a (t:Int) v) 30,nth a.2.1 q=true
    ·exact c
    ·exact absurd (fun q d b=>c ⟨q,d,b⟩) h)]
 have j:fE a v [(t:Int)] 1=some (.brk 1):=by
  unfold fE;rw[if_neg (by simp)]
 rcases Sr (f:=fE a v [(t:Int)]) 1 (fun _=> ¬SM a (t:Int) v=true) true (by decide) (fun i r=>by
  obtain rfl:i=0:=by omega
  rw[show ((0:Nat):Int)=0 from rfl,m];cases SM a (t:Int) v <;> rfl) j with ⟨e,h⟩ | ⟨e,h⟩
 ·rw[ai e]
  have:=h 0 (by decide)
  rw[Bool.not_eq_true] at this;rw[this]
 ·rw[bg e]
  have:SM a (t:Int) v=true:=by
   cases o:SM a (t:Int) v with
   | true=>rfl
   | false=>exact absurd (fun _ _=>by rw[o];decide) h
  rw[this]
theorem M2 {C:Nat} (l:C<2 ^ n):aJ (aj (gQ a (C:Int)) aP 0) (fun r=>some r) (fun _=>some false)=some (decide (∃q∈gb C 30,nth a.2.1 q=true)):=by
 have d:C<2 ^ 62:=aC l (p62 (by omega));rcases Sr (f:=gQ a (C:Int)) n (fun i=> ¬(C.testBit i=true/\nth a.2.1 (i:Int)=true)) true (by omega) (fun i k=>by
  unfold gQ;rw[V.len,if_pos (by simp;omega),mq (by omega),FN d (by omega),V.acc (by omega) (by omega),af (by omega)];simp only[aa];cases C.testBit i <;> cases nth a.2.1 (i:Int) <;> rfl) (by unfold gQ;rw[V.len];simp) with ⟨e,h⟩ | ⟨e,h⟩
 ·rw[ai e,decide_eq_false];rintro ⟨q,j,b⟩;have o:=AD V hn l q j;obtain ⟨i,k,m,rfl⟩:=wA.1 j;exact h i (by omega) ⟨m,b⟩
 ·rw[bg e,decide_eq_true];by_cases c: ∃q∈gb C 30,nth a.2.1 q=true
  ·exact c
  ·exact absurd (fun (i:Nat) (k:i<n) (g:C.testBit i=true/\nth a.2.1 (i:Int)=true)=>c ⟨(i:Int),wA.2 ⟨i,by omega,g.1,rfl⟩,g.2⟩) h
end
section
variable {g:GrT} {a:AutT} (H:GOOD g a)
include H
theorem W3 {x s:Nat} (d:x<g.1.length) (hs:s<a.2.1.length):kY g a (x:Int) (s:Int)=some (SM a (s:Int) (nth g.1 (x:Int))):=by
 have hv:=H.1.val _ (bm (xs:=g.1) (i:=(x:Int)) (by omega) (by omega));have b:=FO H.2.2 H.2.1 (s:=(s:Int)) ⟨by omega,by omega⟩ hv;have c:=ZJ H.2.2 H.2.1 (s:=(s:Int)) ⟨by omega,by omega⟩ hv;unfold kY;rw[aq (by omega) (by omega)];simp only[aa];have b:cU (a.1,a.2.1,a.2.2) (s:Int) (nth g.1 (x:Int))=_:=b;rw[b];simp only[aa]
 have:=M2 H.2.2 H.2.1 c
 exact this
end
def ag2 (g:GrT) (a:AutT) (R:List Int) (i:Nat):Bool:=decide (0<=nth R (i:Int))&&SM a ((i % a.2.1.length:Nat):Int) (nth g.1 ((i / a.2.1.length:Nat):Int))
def SH (g:GrT) (a:AutT) (R:List Int):Nat->List Int
 | 0=>[]
 | i+1=>if ag2 g a R i=true then SH g a R i++ [((i / a.2.1.length:Nat):Int)] else SH g a R i
def SN (g:GrT) (a:AutT) (R:List Int):Nat->Nat
 | 0=>0
 | i+1=>if ag2 g a R i=true then SN g a R i ||| 2 ^ (i / a.2.1.length) else SN g a R i
theorem KH (g:GrT) (a:AutT) (R:List Int): ∀i,(SH g a R i).length<=i
 | 0=>by simp[SH]
 | i+1=>by
  have:=KH g a R i
  rw[SH];split
  ·rw[aF];simp;omega
  ·omega
theorem W4 {x:Nat} {n:Nat} (a:x<=1000000):Hr (x:Int) (n:Int)=((x / n:Nat):Int)/\Int.tmod (x:Int) (n:Int)=((x % n:Nat):Int):=by
 refine ⟨?_,?_⟩
 ·unfold Hr;rw[Int.tdiv_eq_ediv_of_nonneg (Int.natCast_nonneg _),<-Int.natCast_ediv,As (by have:=Nat.div_le_self x n;omega)]
 ·rw[Int.tmod_eq_emod_of_nonneg (Int.natCast_nonneg _),Int.natCast_emod]
section
variable {g:GrT} {a:AutT} (H:GOOD g a) {R:List Int} (hR:R.length=a.2.1.length*g.1.length)
include H
theorem QS {i:Nat} (hi:i<a.2.1.length*g.1.length):i / a.2.1.length<g.1.length/\i % a.2.1.length<a.2.1.length/\0<a.2.1.length/\g.1.length<=5:=by
 obtain ⟨c,b⟩:=H.divmod (x:=(i:Int)) (by omega) (by omega);exact ⟨c,b,H.2.2.pos,H.1.n5⟩
theorem Pd: ∀i,i<=a.2.1.length*g.1.length->SN g a R i<2 ^ 5
 | 0,_=>by simp[SN]
 | i+1,hi=>by
  have h:=Pd i (by omega);obtain ⟨c,b,e,d⟩:=QS H (i:=i) (by omega);rw[SN];split
  ·exact AC h (by omega)
  ·exact h
theorem W5: ∀i,i<=a.2.1.length*g.1.length-> ∀j:Nat,((SN g a R i).testBit j=true↔(j:Int)∈SH g a R i)
 | 0,_,j=>by simp[SN,SH]
 | i+1,hi,j=>by
  have h:=W5 i (by omega) j;rw[SN,SH];split
  ·rw[yf,Bool.or_eq_true,h,List.mem_append,List.mem_singleton,decide_eq_true_eq];constructor
   ·rintro (h | h)
    ·exact .inl h
    ·exact .inr (by rw[h])
   ·rintro (h | h)
    ·exact .inl h
    ·exact .inr (Int.ofNat_inj.1 h).symm
  ·exact h
theorem Pe: ∀i,i<=a.2.1.length*g.1.length-> ∀x∈SH g a R i,∃j:Nat,j<30/\x=(j:Int)
 | 0,_,x,b=>by cases b
 | i+1,hi,x,b=>by
  obtain ⟨d,c,f,e⟩:=QS H (i:=i) (by omega);rw[SH] at b;split at b
  ·rcases aN b with b | b
   ·exact Pe i (by omega) x b
   ·exact ⟨_,by omega,ax b⟩
  ·exact Pe i (by omega) x b
include hR
theorem agt:aj (kZ g a R) aP (0,0)=some (.brk ((SN g a R (a.2.1.length*g.1.length):Int),((a.2.1.length*g.1.length:Nat):Int))):=by
 have m:=nN H.1 H.2.2 H.2.1
 have:=aQ (f:=kZ g a R) (fun i=>((SN g a R i:Int),(i:Int))) (a.2.1.length*g.1.length) (fun i k=>by
  obtain ⟨h,d,p,o⟩:=QS H k;obtain ⟨j,l⟩:=W4 (x:=i) (n:=a.2.1.length) (by omega);have b:=Pd H (R:=R) i (by omega);unfold kZ;simp only;rw[if_pos (by simp only[decide_eq_true_eq];omega),aq (by omega) (by omega),mq (by omega),j,l,af (by omega)];simp only[aa];have e:kY (g.1,g.2) (a.1,a.2.1,a.2.2) ((i / a.2.1.length:Nat):Int) ((i % a.2.1.length:Nat):Int)=_:=W3 H h d;rw[e,SN];simp only[aa];unfold ag2;by_cases c:0<=nth R (i:Int)
  ·rw[if_pos (by simpa using c),decide_eq_true c,Bool.true_and];cases SM a ((i % a.2.1.length:Nat):Int) (nth g.1 ((i / a.2.1.length:Nat):Int)) with
   | false=>rfl
   | true =>
    simp only[if_true];rw[mq (Int.natCast_nonneg _),BG (by omega),QF (aC b (Nat.pow_le_pow_right (by decide) (by decide))) (Nat.pow_lt_pow_right (by decide) (by omega))];rfl
  ·rw[if_neg (by simpa using c),decide_eq_false c,Bool.false_and];rfl) (by unfold kZ;simp only;rw[if_neg (by simp;omega)]) (pw (by omega))
 exact this
theorem agu:aj (fS g a R) aP (([] :List Int),0)=some (.brk (SH g a R (a.2.1.length*g.1.length),((a.2.1.length*g.1.length:Nat):Int))):=by
 have m:=nN H.1 H.2.2 H.2.1
 have:=aQ (f:=fS g a R) (fun i=>(SH g a R i,(i:Int))) (a.2.1.length*g.1.length) (fun i j=>by
  obtain ⟨b,d,p,o⟩:=QS H j;obtain ⟨h,k⟩:=W4 (x:=i) (n:=a.2.1.length) (by omega);have l:=KH g a R i;have hv:=H.1.val _ (bm (xs:=g.1) (i:=((i / a.2.1.length:Nat):Int)) (Int.natCast_nonneg _) (Int.ofNat_lt.2 b));unfold fS;simp only;rw[if_pos (by simp only[decide_eq_true_eq];omega),aq (by omega) (by omega),mq (by omega),h,k,af (by omega),mq (Int.natCast_nonneg _)];simp only[aa];have e:nc (a.1,a.2.1,a.2.2) (AP 1 ((i % a.2.1.length:Nat):Int)) (nth g.1 ((i / a.2.1.length:Nat):Int))=_:=Pc H.2.2 H.2.1 ⟨Int.natCast_nonneg _,Int.ofNat_lt.2 d⟩ hv;rw[aq (xs:=g.1) (i:=((i / a.2.1.length:Nat):Int)) (Int.natCast_nonneg _) (Int.ofNat_lt.2 b)];simp only[aa];rw[e,SH];simp only[aa];unfold ag2;by_cases c:0<=nth R (i:Int)
  ·rw[if_pos (by simpa using c),decide_eq_true c,Bool.true_and];cases SM a ((i % a.2.1.length:Nat):Int) (nth g.1 ((i / a.2.1.length:Nat):Int)) with
   | false=>rfl
   | true =>
    simp only[if_true];rw[aI (by simp;omega)];rfl
  ·rw[if_neg (by simpa using c),decide_eq_false c,Bool.false_and];rfl) (by unfold fS;simp only;rw[if_neg (by simp;omega)]) (pw (by omega))
 exact this
end
def aen (g:GrT) (a:AutT) (x:Int):List Int:=gb (SN g a (RKs g a (x*(a.2.1.length:Int)+a.1)) (a.2.1.length*g.1.length)) 30
theorem KI (g:GrT) (a:AutT) (x:Int):(aen g a x).length<=30:=pn _ _
section
variable {g:GrT} {a:AutT} (H:GOOD g a) {x:Int} (hx:0<=x/\x<g.1.length)
include H hx
theorem aah:qM g a x=some (aen g a x):=by
 unfold qM;have e:o7 (g.1,g.2) (a.1,a.2.1,a.2.2) x=_:=ad0 H hx;have b:=Wt H hx;rw[e];simp only[aa];rw[ai (agt H b),ah3 (aC (Pd H _ (aH _)) (Nat.pow_le_pow_right (by decide) (by decide)))];rfl
theorem agv (e:cQ g a [x] =some true):j8 g a x=some (aen g a x):=by
 have h:=nN H.1 H.2.2 H.2.1;have hp:=H.2.2.pos;have f:=H.1.n1;have b:0<a.2.1.length*g.1.length:=Nat.mul_pos hp (by omega);unfold j8;have e:gU (g.1,g.2) (a.1,a.2.1,a.2.2) x=_:=af4 H hx e;have c:=Wt H hx;rw[e];simp only[aa];have d:=KH g a (RKs g a (x*(a.2.1.length:Int)+a.1)) (a.2.1.length*g.1.length);rw[if_neg (by simp only[decide_eq_true_eq];omega),ai (agu H c),Pb _ (by simp only;omega)];simp only[aa];unfold aen;rw[aem (Pe H _ (aH _)) fun i _=>W5 H _ (aH _) i]
end
theorem aai (g:GrT) (a:AutT) (m:Data.sm g) (p:Data.sm a): ∃b,jQ g a 0 0=some b/\cQ g a [] =some b/\(b=true->GOOD g a/\ ∀x:Int,0<=x->x<g.1.length->cQ g a [x] =some true):=by
 obtain ⟨b,c,D,w,F,v,A,E⟩:=adX g a m p;obtain ⟨l,z,y,k⟩:=Ws g a m p 0;have e:ba (g.1,g.2)=_:=w;have d:cd (a.1,a.2.1,a.2.2)=_:=v;have C:=(aA m.1).1;have s:i64.wrap ((g.1.length:Int) - 1)=(g.1.length:Int) - 1:=cy (by omega) (by omega);have u:cQ g a [] =some (b&&c):=by
  unfold cQ
  have:aj (dS g []) aP 0=some (.brk 0):=by
   have:=aQ (f:=dS g []) (fun _=>(0:Int)) 0 (fun i r=>absurd r (Nat.not_lt_zero _)) (by unfold dS;simp) (by unfold aP;omega)
   exact this
  rw[ai this,e,d];cases b <;> cases c <;> rfl
 have q: ∀x:Int,cQ g a [x] =if 0<=x/\x<=(g.1.length:Int) - 1 then some (b&&c) else some false:=fun x=>by
  unfold cQ;rcases Sr (f:=dS g [x]) 1 (fun _=>0<=x/\x<=(g.1.length:Int) - 1) false (by decide) (fun i r=>by
   obtain rfl:i=0:=by omega
   unfold dS;rw[if_pos (by simp),show aK [x] ((0:Nat):Int)=some x from rfl];simp only[aa];rw[Hn,s];simp only[aa,decide_eq_true_eq];split <;> rfl) (by unfold dS;simp) with ⟨k,h⟩ | ⟨k,h⟩
  ·rw[ai k,e,d,if_pos (h 0 (by decide))];cases b <;> cases c <;> rfl
  ·rw[bg k,if_neg (fun c=>h fun _ _=>c)]
 have j:l=(b&&c):=by
  have h:=q 0;rw[y] at h;by_cases o:(0:Int)<=0/\(0:Int)<=(g.1.length:Int) - 1
  ·rw[if_pos o] at h;exact ae h
  ·rw[if_neg o] at h
   have:l=false:=ae h
   rw[this];cases b with
   | false=>rfl
   | true=>have:=(A rfl).n1;omega
 refine ⟨l,z,by rw[u,j],fun n=>⟨(k n).1,fun x t B=>?_⟩⟩;rw[q,if_pos ⟨t,by omega⟩,<-j,n]
def abF (g:GrT) (a:AutT):Nat->List (Int×Int)
 | 0=>[]
 | x+1=>abF g a x++(aen g a (x:Int)).map fun y=>((x:Int),y)
theorem Dy (g:GrT) (a:AutT): ∀x,(abF g a x).length<=30*x
 | 0=>by simp[abF]
 | x+1=>by
  have b:=Dy g a x;have c:=KI g a (x:Int);rw[abF,aF,List.length_map];omega
theorem QU {f:Yq6×Int->Option (Out Yq6 (Yq6×Int))} {l:List Int} {x:Int} {o:List (Int×Int)} (d:l.length<=30) (e:o.length<=1000)
  (b: ∀(o:List (Int×Int)) (j:Nat),j<l.length->o.length<=2000->f (o,(j:Int))=some (.nxt (o++ [(x,nth l (j:Int))],((j+1:Nat):Int)))) (c: ∀o,f (o,(l.length:Int))=some (.brk (o,(l.length:Int)))) :
  aj f aP (o,0)=some (.brk (o++l.map fun y=>(x,y),(l.length:Int))):=by
 have:=aQ (f:=f) (fun j=>(o++(l.take j).map fun y=>(x,y),(j:Int))) l.length (fun j a=>by
  rw[b _ j a (by rw[aF,List.length_map,aB];omega),yX a,aU,aD];rfl) (c _) (pw (by omega))
 rw[List.take_length] at this;simpa using this
theorem aaj (g:GrT) (a:AutT) (p:Data.sm g) (t:Data.sm a): ∃(b:Bool) (l:List (Int×Int)),cQ g a [] =some b/\jf g a=some l/\gm g a=some l/\l.length<=150/\(b=false->l= [])/\(b=true->GOOD g a/\l=abF g a g.1.length):=by
 obtain ⟨b,e,d,r⟩:=aai g a p t;refine ⟨b,?_⟩;have c:=d;have e:jQ (g.1,g.2) (a.1,a.2.1,a.2.2) 0 0=_:=e;have d:cQ (g.1,g.2) (a.1,a.2.1,a.2.2) [] =_:=d;have y:=(aA p.1).1;unfold jf gm;rw[d];simp only[aa];cases b with
 | false =>
  refine ⟨[],(by first | exact c | trivial),?_,rfl,by decide,fun _=>rfl,fun h=>by cases h⟩
  have:=aQ (f:=dJ g a) (fun _=>(([] :List (Int×Int)),(0:Int))) 0 (fun i w=>absurd w (Nat.not_lt_zero _)) (by
   unfold dJ;rw[e];simp only[aa,Bool.false_eq_true,if_false];split <;> rfl) (by unfold aP;omega)
  rw[ai this]
 | true =>
  obtain ⟨H,m⟩:=r rfl;have z:=H.1.n5;refine ⟨abF g a g.1.length,(by first | exact c | trivial),?_,?_,by have:=Dy g a g.1.length;omega,(fun h=>by cases h),fun _=>⟨H,rfl⟩⟩
  ·have:=aQ (f:=dJ g a) (fun x=>(abF g a x,(x:Int))) g.1.length (fun x u=>by
    have q:=Dy g a x;have n:=KI g a (x:Int);unfold dJ;simp only;have k:qM (g.1,g.2) (a.1,a.2.1,a.2.2) (x:Int)=_:=aah H (x:=(x:Int)) ⟨by omega,by omega⟩;rw[if_pos (by simp only[decide_eq_true_eq];omega),e,k];simp only[aa,if_true];rw[ai (QU (x:=(x:Int)) (l:=aen g a (x:Int)) n (by omega) (fun o j v s=>by
     unfold nY;simp only;rw[if_pos (by simp;omega),aq (by omega) (by omega)];simp only[aa];rw[aI (by simp;omega),af (by omega)];rfl) (fun o=>by unfold nY;simp)),af (by omega)]
    rfl) (by unfold dJ;simp) (pw (by omega))
   have this:aj (dJ g a) aP (([] :List (Int×Int)),0)=_:=this;rw[ai this]
  ·simp only[if_true]
   have:=aQ (f:=gV g a) (fun x=>(abF g a x,(x:Int))) g.1.length (fun x u=>by
    have q:=Dy g a x;have n:=KI g a (x:Int);unfold gV;simp only;have k:j8 (g.1,g.2) (a.1,a.2.1,a.2.2) (x:Int)=_:=agv H (x:=(x:Int)) ⟨by omega,by omega⟩ (m _ (by omega) (by omega));rw[if_pos (by simp only[decide_eq_true_eq];omega),k];simp only[aa];rw[ai (QU (x:=(x:Int)) (l:=aen g a (x:Int)) n (by omega) (fun o j v s=>by
     unfold nZ;simp only;rw[if_pos (by simp;omega),aq (by omega) (by omega)];simp only[aa];rw[aI (by simp;omega),af (by omega)];rfl) (fun o=>by unfold nZ;simp)),af (by omega)]
    rfl) (by unfold gV;simp) (pw (by omega))
   have this:aj (gV g a) aP (([] :List (Int×Int)),0)=_:=this;rw[ai this]
theorem aak (g:GrT) (a:AutT) (c:Data.sm g) (e:Data.sm a): ∃l,jf g a=some l/\gm g a=some l/\l.length<=150:=by
 obtain ⟨b,l,-,d,h,f,-⟩:=aaj g a c e;exact ⟨l,d,h,f⟩
theorem QV {l:List (Int×Int)} (h:l.length<=1048576):Data.sm l:=⟨h,fun _ _=>⟨trivial,trivial⟩⟩
theorem M3 {r:Ho} (o:Data.sm r) {g:GrT} (k:Data.sm g) (id:Int): ∃(l:List (Int×Int)) (b:Bool),cY r g id=some (l,b)/\fF r g id=some (l,b)/\l.length<=150/\ ∃(a:AutT) (q v:Bool),eF r id=some (a,q)/\Data.sm a/\bS g=some v/\b=(q&&v)/\(b=false->l= [])/\(b=true->gm g a=some l):=by
 obtain ⟨⟨a,q⟩,c,m,e⟩:=SG o id;obtain ⟨b,d,p⟩:=QE g (aA k.1).1 (aA k.2).1;have c:eF (r.1,r.2) id=_:=c;have m:fR (r.1,r.2) id=_:=m;have f:bS (g.1,g.2)=some b:=by rw[FV];exact d
 have d:ba (g.1,g.2)=_:=d;obtain ⟨l,j,i,n⟩:=aak g a k e;have j:jf (g.1,g.2) (a.1,a.2.1,a.2.2)=_:=j;have i:gm (g.1,g.2) (a.1,a.2.1,a.2.2)=_:=i;unfold cY fF;rw[c,m,d,f];simp only[aa];rw[j,i];cases q with
 | false=>exact ⟨[],false,rfl,rfl,by decide,a,false,b,(by first | exact c | rfl),e,(by first | exact f | rfl),rfl,fun _=>rfl,fun h=>by cases h⟩
 | true =>
  cases b with
  | false=>exact ⟨[],false,rfl,rfl,by decide,a,true,false,(by first | exact c | rfl),e,(by first | exact f | rfl),rfl,fun _=>rfl,fun h=>by cases h⟩
  | true=>exact ⟨l,true,rfl,rfl,n,a,true,true,(by first | exact c | rfl),e,(by first | exact f | rfl),rfl,(fun h=>by cases h),fun _=>(by first | exact i | rfl)⟩
theorem M4 {r:Ho} (d:Data.sm r) {g:GrT} (a:Data.sm g) (id:Int): ∃(l:List (Int×Int)) (b:Bool),cY r g id=some (l,b)/\fF r g id=some (l,b)/\l.length<=150:=by
 obtain ⟨l,b,c,f,e,-⟩:=M3 d a id;exact ⟨l,b,c,f,e⟩
theorem aeo (l:List Pr) (p:Pr):(put l p).length<=l.length+1:=by
 have:=VZ p l
 unfold put;split
 ·omega
 ·rw[aF,aB,aM,bF];omega
theorem Dz: ∀(m l:List Pr),(Qw l m).length<=l.length+m.length
 | [],l=>aH _
 | p::m,l=>by
  have b:=Dz m (put l p);have a:=aeo l p;show (Qw (put l p) m).length<=_;rw[aM];omega
theorem W6 (l m:List Pr) (p:Pr):Qw l (m++ [p])=put (Qw l m) p:=by simp[Qw]
theorem ah4 (l:List Pr) (p:Pr) (t:l.length<=1073741824):w4 l p=some (put l p):=by
 have v:=VZ p l;have e:aj (pZ l p) aP 0=some (.brk ((ahd p l:Nat):Int)):=by
  obtain ⟨o,e,rfl⟩:=cq (f:=pZ l p) (fun i s=>s=(i:Int)) (fun o=>o= .brk ((ahd p l:Nat):Int)) (ahd p l) (fun i s w r=>by
   subst r;unfold pZ;by_cases c:i<ahd p l
   ·obtain ⟨x,b,j⟩:=aa7 p l i c;have a:i<l.length:=by omega
    rw[List.getElem?_eq_getElem a] at b;obtain rfl:=ae b;refine .inl ⟨c,((i+1:Nat):Int),?_,rfl⟩;rw[br a,if_pos rfl,au a];simp only[aa,aa9,dG];rw[if_pos (decide_eq_true j),af (by omega)]
   ·obtain rfl:i=ahd p l:=by omega
    refine .inr ⟨_,?_,fun u m=>(by simp at m),rfl⟩;by_cases a:ahd p l<l.length
    ·have g:=aa8 p l _ (List.getElem?_eq_getElem a);rw[br a,if_pos rfl,au a];simp only[aa,aa9,dG];rw[if_neg (by simpa using g)]
    ·rw[if_neg (by simp;omega)]) (s:=0) rfl (dC _ (by omega))
  exact e
 unfold w4;rw[ai e];have n:chk ((0:Int)<=((ahd p l:Nat):Int)/\((ahd p l:Nat):Int)<=(l.length:Int))=some ():=if_pos (by omega);have q:cr 16 ([] :List Pr) ((l.take (ahd p l)).drop 0)=some (l.take (ahd p l)):=by
  rw[List.drop_zero,aI (by simp only[aZ,aB];omega)];rfl
 have d:cr 16 (l.take (ahd p l)) [p] =some (l.take (ahd p l)++ [p]):=aI (by simp only[List.length_singleton,aB];omega);have k:cr 16 (l.take (ahd p l)++ [p]) ((l.take l.length).drop (ahd p l))=some (l.take (ahd p l)++p::l.drop (ahd p l)):=by
  rw[List.take_of_length_le (aH _),aI (by simp only[aF,List.length_singleton,aB,bF];omega),aD];rfl
 simp only[n,aa,Int.toNat_natCast,q,d,k,dG];unfold put;by_cases a:ahd p l<l.length
 ·rw[br a,if_pos rfl,au a];simp only[aa,ahG];rw[List.getElem?_eq_getElem a];by_cases h:l[ahd p l] =p
  ·rw[if_pos (decide_eq_true h),if_pos (by rw[h])]
  ·rw[if_neg (by simpa using h),if_neg (by simpa using h)]
 ·rw[if_neg (by simp;omega),List.getElem?_eq_none (by omega),if_neg (by simp)]
theorem Iw {a b:List Pr} (l:a.length<=67108864) (k:b.length<=67108864):gR a b=some (Qw [] (a.filter fun x=> !decide (x∈b))):=by
 unfold gR;obtain ⟨m,j,rfl⟩:=kd (f:=gF a b) (fun i s=>s=(Qw [] ((a.take i).filter fun x=> !decide (x∈b)),(i:Int))) a.length (fun i s g e=>by
  subst e;have d:=Dz ((a.take i).filter fun x=> !decide (x∈b)) [];have c:=List.length_filter_le (fun x=> !decide (x∈b)) (a.take i);rw[aB] at c;refine ⟨_,?_,rfl⟩;unfold gF;rw[br g,if_pos rfl,au g];simp only[aa,dG];rw[ahH (by omega)];simp only[aa];rw[af (by omega),List.take_succ_eq_append_getElem g,List.filter_append];by_cases h:a[i] ∈ b
  ·rw[if_pos (decide_eq_true h)];simp[h]
  ·rw[if_neg (by simpa using h),ah4 _ _ (by simp only[aZ] at d;omega)];simp only[aa];rw[show [a[i]].filter (fun x=> !decide (x∈b))= [a[i]] from by simp[h],W6]) (fun s e=>by
  subst e;unfold gF;rw[bf];rfl) (s:=(([] :List Pr),0)) rfl (dC _ (by omega))
 rw[ai j,List.take_of_length_le (aH _)]
theorem ah5 {d:Pr->Bool} {f:Pr->Option Bool} (w: ∀x,f x=some (d x)) (xs:List Pr) (B:xs.length<=1073741824):cj xs f=some (xs.filter fun x=> !d x):=by
 unfold cj;rcases afK (l:=xs) (d:=d) (f:=f) w B with ⟨r,F,n,H,e⟩ | ⟨n,e⟩
 ·rw[e];simp only[aa];have v:(((r:Nat):Int) == -1)=false:=beq_eq_false_iff_ne.2 (by omega);rw[v];simp only[Bool.false_eq_true,if_false];rw[af (by omega)];have c:(xs.take (r+1)).filter (fun x=> !d x)=xs.take r:=by
   rw[List.take_succ_eq_append_getElem F,List.filter_append];rw[show [xs[r]].filter (fun x=> !d x)= [] from by simp[n],List.append_nil,List.filter_eq_self];intro a o;obtain ⟨j,k,rfl⟩:=List.getElem_of_mem o;rw[aB] at k;rw[List.getElem_take,H j (by omega)];rfl
  obtain ⟨s,D,b,rfl,m,g,i,p⟩:=kd (f:=bY f) (fun t s=> ∃b:List Pr,s=((((xs.take (r+1+t)).filter (fun x=> !d x)).length:Int),((r+1+t:Nat):Int),b)/\b.length=xs.length/\b.take ((xs.take (r+1+t)).filter (fun x=> !d x)).length=(xs.take (r+1+t)).filter (fun x=> !d x)/\b.drop (r+1+t)=xs.drop (r+1+t)/\((xs.take (r+1+t)).filter (fun x=> !d x)).length<=r+t) (xs.length - (r+1)) (fun t s I u=>by
   obtain ⟨b,rfl,m,g,i,p⟩:=u;have k:r+1+t<xs.length:=by omega
   unfold bY;rw[show ((b.length:Nat):Int)=(xs.length:Int) from by rw[m],br k,if_pos rfl,au (xs:=b) (by omega),AO i (aH _) (by omega) k];simp only[aa,dG,w];have q:(xs.take (r+1+(t+1))).filter (fun x=> !d x)=(xs.take (r+1+t)).filter (fun x=> !d x)++ [xs[r+1+t]].filter (fun x=> !d x):=by
    rw[<-List.filter_append,<-List.take_succ_eq_append_getElem k];rfl
   generalize (xs.take (r+1+t)).filter (fun x=> !d x)=K at *;rw[q];cases y:d xs[r+1+t] with
   | true =>
    rw[if_pos rfl];simp only[aa];rw[af (by omega),show [xs[r+1+t]].filter (fun x=> !d x)= [] from by simp[y],List.append_nil];exact ⟨_,rfl,b,rfl,m,g,AN i,by omega⟩
   | false =>
    rw[if_neg (by simp),au (xs:=b) (by omega)];simp only[aa];rw[af (by omega),af (by omega),show [xs[r+1+t]].filter (fun x=> !d x)= [xs[r+1+t]] from by simp[y]];refine ⟨_,rfl,b.set K.length xs[r+1+t],?_,by simpa using m,?_,?_,?_⟩
    ·rw[aF,List.length_singleton];rfl
    ·rw[aF,List.length_singleton,KF (by omega),g]
    ·rw[set_drop (by omega)];exact AN i
    ·rw[aF,List.length_singleton];omega) (fun s u=>by
   obtain ⟨b,rfl,m,g,i,p⟩:=u;unfold bY;rw[if_neg (by simp;omega)]) (s:=(((r:Nat):Int),((r+1:Nat):Int),xs)) ⟨xs,by rw[Nat.add_zero,c,aB,Nat.min_eq_left (by omega)],rfl,by rw[Nat.add_zero,c,aB,Nat.min_eq_left (by omega)],rfl,by rw[Nat.add_zero,c,aB];omega⟩ (dC _ (by omega))
  rw[ai D];have h:xs.take (r+1+(xs.length - (r+1)))=xs:=List.take_of_length_le (by omega);rw[h] at g p⊢;generalize (xs.filter fun x=> !d x)=K at *;have A:K.length<=b.length:=by omega
  have C:((0:Int)+((K.length:Nat):Int)).toNat=K.length:=by omega
  have G:((0:Int)+(((b.length:Nat):Int) - 0)).toNat=b.length:=by omega
  simp only[C,G];have E:=Gj (z:=((0,0):Pr)) A;rw[xu (by omega),aa,xu (by omega),aa,xu (by rw[E];omega),aa,BP A,g,List.drop_zero]
 ·rw[e];simp only[aa];rw[if_pos (by rfl)];congr 1;exact (List.filter_eq_self.2 fun a o=>by rw[n a o];rfl).symm
theorem QW: ∀(l:List Pr) (b:Pr),l≠ [] ->nub (l++ [b])=if l.getLast? =some b then nub l else nub l++ [b]
 | [],b,h=>absurd rfl h
 | [a],b,_=>by
  by_cases e:a=b
  ·subst e;simp[nub]
  ·simp[nub,e]
 | a::c::l,b,_=>by
  have f:=QW (c::l) b (by simp);have d:(a::c::l).getLast? =(c::l).getLast? :=by simp[List.getLast?_cons_cons]
  rw[d];show nub (a::c::(l++ [b]))=_;rw[nub,nub];rw[show c::(l++ [b])=(c::l)++ [b] from rfl,f];by_cases e:a=c
  ·rw[if_pos e,if_pos e]
  ·rw[if_neg e,if_neg e];split <;> simp
theorem KJ {xs:List Pr} {j:Nat} (c:0<j) (h:j<xs.length):nub (xs.take (j+1))=if xs[j - 1] =xs[j] then nub (xs.take j) else nub (xs.take j)++ [xs[j]]:=by
 rw[List.take_succ_eq_append_getElem h,QW _ _ (by
  intro e;have b:=congrArg List.length e;rw[aB,Nat.min_eq_left (Nat.le_of_lt h),aZ] at b;omega)]
 have a:(xs.take j).getLast? =some xs[j - 1]:=by
  rw[List.getLast?_eq_getElem?,aB,Nat.min_eq_left (Nat.le_of_lt h),List.getElem?_take,if_pos (show j - 1<j by omega),List.getElem?_eq_getElem (show j - 1<xs.length by omega)]
 rw[a];by_cases e:xs[j - 1] =xs[j]
 ·rw[if_pos (by rw[e]),if_pos e]
 ·rw[if_neg (by simpa using e),if_neg e]
theorem QX {xs:List Pr} : ∀(j:Nat),j<=xs.length->(∀q (b:q<j) (g:0<q) (e:j<=xs.length),xs[q - 1]'(by omega)≠xs[q]'(by omega))->nub (xs.take j)=xs.take j
 | 0,_,_=>by simp[nub]
 | 1,h,_=>by
  cases xs with
  | nil=>simp[nub]
  | cons a l=>simp[nub]
 | j+2,h,b=>by
  rw[KJ (by omega) (by omega),if_neg (b (j+1) (by omega) (by omega) h),QX (j+1) (by omega) (fun q d c f=>b q (by omega) c h),<-List.take_succ_eq_append_getElem]
theorem W7 (xs:List Pr) (W:xs.length<=1073741824):cM xs=some (nub xs):=by
 unfold cM;by_cases U:xs.length<2
 ·rw[if_pos (by simp;omega)];cases xs with
  | nil=>rfl
  | cons a l =>
   cases l with
   | nil=>rfl
   | cons b l=>simp only[aM] at U;omega
 rw[if_neg (by simp;omega)];have key:(aj (bM xs) aP 1=some (.ret (nub xs)))\/(∃s,aj (bM xs) aP 1=some (.brk s)/\nub xs=xs):=by
  obtain ⟨o,e,O⟩:=cq (f:=bM xs) (fun t s=>s=((t+1:Nat):Int)/\nub (xs.take (t+1))=xs.take (t+1)) (fun o=>o= .ret (nub xs)\/ ∃s,o= .brk s/\nub xs=xs) (xs.length - 1) (fun t s Y i=>by
   obtain ⟨rfl,i⟩:=i;unfold bM;by_cases p:t+1<xs.length
   ·have hp:((t+1:Nat):Int) - 1=((t:Nat):Int):=by omega
    rw[br p,if_pos rfl,au p,cy (n:=((t+1:Nat):Int) - 1) (by omega) (by omega),hp,au (show t<xs.length by omega)];simp only[aa,ahG];have k:=KJ (xs:=xs) (j:=t+1) (by omega) p;rw[i] at k;simp only[Nat.add_sub_cancel] at k;by_cases B:xs[t+1] =xs[t]
    ·rw[if_pos (decide_eq_true B),xu (by omega),aa];rw[if_pos B.symm] at k;have m:(xs.take (t+1)).length=t+1:=by rw[aB];omega
     obtain ⟨s,M,c,rfl,C,d,w,g⟩:=kd (f:=cm xs ((t+1:Nat):Int)) (fun u s=> ∃c:List Pr,s=(((nub (xs.take (t+2+u))).length:Int),((u+1:Nat):Int),c)/\c.length=xs.length/\c.take (nub (xs.take (t+2+u))).length=nub (xs.take (t+2+u))/\c.drop (t+1+u)=xs.drop (t+1+u)/\(nub (xs.take (t+2+u))).length<=t+1+u) (xs.length - (t+2)) (fun u s X i=>by
      obtain ⟨c,rfl,C,d,w,g⟩:=i;have H:t+2+u<xs.length:=by clear g d;omega
      have D:t+1+u<xs.length:=by clear g d;omega
      have x:t+2+u<c.length:=by clear g d;omega
      have y:t+1+u<c.length:=by clear g d;omega
      have S:(0+((t+1:Nat):Int))+((u+1:Nat):Int)=((t+2+u:Nat):Int):=by omega
      have J:((u+1:Nat):Int) - 1=((u:Nat):Int):=by omega
      have N:(0+((t+1:Nat):Int))+((u:Nat):Int)=((t+1+u:Nat):Int):=by omega
      unfold cm;dsimp only;rw[if_pos (by simp;omega),xu (by omega)];simp only[aa];rw[cy (n:=((u+1:Nat):Int) - 1) (by omega) (by omega),S,J,N,au (xs:=c) x,au (xs:=c) y,xu (by omega),AO w (by omega) x H,AO w (aH _) y D];simp only[aa,ahG,dG];have P:t+2+u - 1=t+1+u:=by clear g d;omega
      have T:0<t+2+u:=by clear g d;omega
      have v:=KJ (xs:=xs) (j:=t+2+u) T H;simp only[P] at v;have E:=AN w;rw[show t+1+u+1=t+1+(u+1) from by omega] at E;rw[show t+2+(u+1)=t+2+u+1 from by omega,v];generalize nub (xs.take (t+2+u))=K at *;by_cases A:xs[t+2+u] =xs[t+1+u]
      ·rw[if_pos (decide_eq_true A),if_pos A.symm];simp only[aa];rw[af (by omega)];exact ⟨_,rfl,c,rfl,C,d,E,by omega⟩
      ·rw[if_neg (by simpa using A),if_neg (fun e=>A e.symm),au (xs:=c) (show K.length<c.length by omega)];simp only[aa];rw[af (by omega),af (by omega)];refine ⟨_,rfl,c.set K.length xs[t+2+u],?_,by simpa using C,?_,?_,?_⟩
       ·rw[aF,List.length_singleton];rfl
       ·rw[aF,List.length_singleton,KF (by omega),d]
       ·rw[set_drop (by omega)];exact E
       ·rw[aF,List.length_singleton];omega) (fun s i=>by
      obtain ⟨c,rfl,C,d,w,g⟩:=i;unfold cm;rw[if_neg (by simp;omega)]) (s:=(((t+1:Nat):Int),1,xs)) ⟨xs,by rw[Nat.add_zero,k,m];rfl,rfl,by rw[Nat.add_zero,k,m],rfl,by rw[Nat.add_zero,k,m];omega⟩ (dC _ (by omega))
     refine .inr ⟨.ret (nub xs),?_,fun Q F=>(by simp at F),.inl rfl⟩;rw[ai M];have r:xs.take (t+2+(xs.length - (t+2)))=xs:=List.take_of_length_le (by omega);rw[r] at d g⊢;generalize nub xs=K at *;have G:K.length<=c.length:=by omega
     have L:((0:Int)+((K.length:Nat):Int)).toNat=K.length:=by omega
     have I:((0:Int)+(((c.length:Nat):Int) - 0)).toNat=c.length:=by omega
     simp only[L,I];have R:=Gj (z:=((0,0):Pr)) G;rw[xu (by omega),aa,xu (by omega),aa,xu (by rw[R];omega),aa,BP G,d,List.drop_zero]
    ·rw[if_neg (by simpa using B),af (by omega)];rw[if_neg (fun e=>B e.symm),<-List.take_succ_eq_append_getElem p] at k;exact .inl ⟨by omega,_,rfl,rfl,k⟩
   ·refine .inr ⟨.brk ((t+1:Nat):Int),?_,fun Q F=>(by simp at F),.inr ⟨_,rfl,?_⟩⟩
    ·rw[if_neg (by simp;omega)]
    ·rw[List.take_of_length_le (by omega)] at i;exact i) (s:=1) ⟨rfl,QX 1 (by omega) (fun q p V=>by omega)⟩ (dC _ (by omega))
  rcases O with rfl | ⟨s,rfl,h⟩
  ·exact .inl e
  ·exact .inr ⟨s,e,h⟩
 rcases key with e | ⟨s,e,h⟩
 ·rw[bg e]
 ·rw[ai e,h]
def aeE (l:List Pr):List Pr:=nub (R.RM R.RN l)
theorem aal (l:List Pr):(R.RM R.RN l).Pairwise (fun a b=> ¬ltP b a):=by
 have d: ∀a b:Pr,(!(ltOf R.RN b a))=true↔ ¬ltP b a:=fun a b=>by
  rw[Bool.not_eq_true',R.Do];rfl
 have h:=List.pairwise_mergeSort (le:=fun x y=> !(ltOf R.RN y x)) (fun a b c e f=>by
  rw[d] at *;intro h;unfold ltP at *;omega) (fun a b=>by
  rw[Bool.or_eq_true,d,d];unfold ltP;omega) l
 exact h.imp fun {a b} h=>(d a b).1 h
theorem QY (l:List Pr):Str (aeE l):=OR (aal l)
theorem QZ {l:List Pr} {x:Pr} :x∈aeE l↔x∈l:=by
 unfold aeE;rw[Kb];exact List.mem_mergeSort
theorem agw (l:List Pr) (a:l.length<=268435456):tQ l=some (aeE l):=by
 unfold tQ dP R.Y0;rw[aI (by simp only[aZ];omega)];simp only[aa,List.nil_append];rw[xu (by omega)];simp only[aa];rw[W7 _ (by rw[R.LW];omega)]
 rfl
theorem W8 (l:List Pr):aeE l=Qw [] l:=J8 (QY l) (J9 List.Pairwise.nil) fun x=>by rw[QZ,Ka];simp
theorem agx {a b:List Pr} (f:a.length<=67108864) (e:b.length<=67108864):gW a b=some (Qw [] (a.filter fun x=> !decide (x∈b))):=by
 have c:(aeE a).length<=a.length:=by rw[W8];have:=Dz a [];simpa using this
 unfold gW;rw[agw a (by omega)];simp only[aa];rw[ah5 (d:=fun x=>decide (x∈b)) (fun x=>by unfold l5;rw[dG,ahJ (by omega)];rfl) _ (by omega)];simp only[aa];congr 1;refine J8 (Sp (QY a)) (J9 List.Pairwise.nil) fun x=>?_;rw[Ka,List.mem_filter,List.mem_filter,QZ];simp
theorem SI (a b:List (Int×Int)) (e:a.length<=1000000) (c:b.length<=1000000): ∃d:Yq6×Yq6,lF a b=some d/\lL a b=some d/\d.1.length<=b.length/\d.2.length<=a.length:=by
 unfold lF lL;rw[Iw (by omega) (by omega),Iw (by omega) (by omega),agx (by omega) (by omega),agx (by omega) (by omega)];have k: ∀(l:List (Int×Int)) (f:Int×Int->Bool),(Qw [] (l.filter f)).length<=l.length:=fun l f=>by
  have:=Dz (l.filter f) []
  have g:=List.length_filter_le f l;simp at this;omega
 exact ⟨_,rfl,rfl,k _ _,k _ _⟩
theorem Ix (h:O8) (e:Data.sm h) {r:Ho} (m:Data.sm r) (id v:Int): ∃(g:GrT) (q:Bool) (l:List (Int×Int)) (b:Bool),jX h v=some (g,q)/\cY r g id=some (l,b)/\iN h r id v=some (if q then l else [],if q then b else false)/\l.length<=150/\(m_i_IsValidHistory h=some true->h.1<=v->v<=latV h->q=true):=by
 obtain ⟨g,q,j,a,f,k,-⟩:=MX h e v;obtain ⟨l,b,i,c,d⟩:=M4 m f id;refine ⟨g,q,l,b,j,i,?_,d,k⟩;unfold iN;have a:qR (h.1,h.2) v=_:=a;rw[a];simp only[aa];have c:fF (r.1,r.2) (g.1,g.2) id=_:=c;cases q with
 | false=>rfl
 | true=>simp only[if_true];rw[c];rfl
theorem M5 (h:O8) (v:Data.sm h) {r:Ho} (t:Data.sm r) (s:O9): ∃b,nX h r s=some b/\qP h r s=some b/\(b=true->m_i_IsValidHistory h=some true/\bC h=some (latV h)/\cB h=some (latV h)/\((1<=h.2.length/\h.2.length<=8)/\1<=h.1/\h.1<=1000 - (h.2.length:Int))/\0<=s.2.2/\s.2.2<latV h):=by
 obtain ⟨b,q,p,k⟩:=Gg h v;obtain ⟨c,g,n,-⟩:=BO t;obtain ⟨f,a,m,-⟩:=Gi r s.2.1 (aA t.2).1;have e:m_s_IsValidHistory (h.1,h.2)=_:=q;have j:m_i_IsValidHistory (h.1,h.2)=_:=p;have g:c8 (r.1,r.2)=_:=g;have n:db (r.1,r.2)=_:=n;have a:fJ (r.1,r.2) s.2.1=_:=a;have m:fN (r.1,r.2) s.2.1=_:=m;unfold nX qP;rw[e,j,g,n,a,m];simp only[aa];cases b with
 | false=>exact ⟨false,rfl,rfl,fun c=>by cases c⟩
 | true =>
  obtain ⟨x,w⟩:=Gh q p (k rfl);have o:bC (h.1,h.2)=_:=x;have d:cB (h.1,h.2)=_:=w;cases c with
  | false=>exact ⟨false,rfl,rfl,fun c=>by cases c⟩
  | true =>
   rw[o,d];simp only[if_true,aa];by_cases l:f≥0
   ·by_cases i:s.2.2≥0
    ·simp only[decide_eq_true l,decide_eq_true i,if_true];exact ⟨_,rfl,rfl,fun u=>⟨trivial,trivial,trivial,k rfl,i,of_decide_eq_true u⟩⟩
    ·simp only[decide_eq_true l,decide_eq_false i,if_true,Bool.false_eq_true,if_false];exact ⟨false,rfl,rfl,fun c=>by cases c⟩
   ·simp only[decide_eq_false l,Bool.false_eq_true,if_false];exact ⟨false,rfl,rfl,fun c=>by cases c⟩
theorem aam (h:O8) (u:Data.sm h) {r:Ho} (v:Data.sm r) (s:O9) (a:Int) (hv:m_i_IsValidHistory h=some true) (G:(1<=h.2.length/\h.2.length<=8)/\1<=h.1/\h.1<=1000 - (h.2.length:Int)) (F:0<=s.2.2/\s.2.2<latV h) (p:h.1<=a/\a<=latV h) :
  ∃m:ag1,jg h r s a=some m/\qT h r s a=some (m,(s.1,s.2.1,a),true)/\m.2.2.1.length<=150/\m.2.2.2.length<=150:=by
 have D:latV h<=1000:=by unfold latV;omega
 obtain ⟨g,q,l,b,f,k,n,x,A⟩:=Ix h u v s.2.1 a;obtain rfl:q=true:=A hv p.1 p.2;have f:jX (h.1,h.2) a=_:=f;have k:cY (r.1,r.2) (g.1,g.2) s.2.1=_:=k;have n:iN (h.1,h.2) (r.1,r.2) s.2.1 a=_:=n;unfold jg qT;rw[f,n];simp only[aa,if_true];rw[k];simp only[aa];by_cases c:s.2.2<h.1
 ·rw[if_pos (decide_eq_true c),if_pos (decide_eq_true c)];exact ⟨_,rfl,rfl,x,by simp⟩
 ·rw[if_neg (by simpa using c),if_neg (by simpa using c)];obtain ⟨t,B,z,E,j,e,i,y,o⟩:=Ix h u v s.2.1 s.2.2;obtain rfl:B=true:=o hv (by omega) (by omega);have j:jX (h.1,h.2) s.2.2=_:=j;have e:cY (r.1,r.2) (t.1,t.2) s.2.1=_:=e;have i:iN (h.1,h.2) (r.1,r.2) s.2.1 s.2.2=_:=i;rw[j,i];simp only[aa,if_true];rw[e];simp only[aa];obtain ⟨d,w,C,I,H⟩:=SI z l (by omega) (by omega);rw[w,C];exact ⟨_,rfl,rfl,by simp only;omega,by simp only;omega⟩
theorem W9 (h:O8) (j:Data.sm h) {r:Ho} (l:Data.sm r) (s:O9): ∃x:ag1×O9×Bool,eY h r s=some x/\j9 h r s=some x/\x.1.2.2.1.length<=150/\x.1.2.2.2.length<=150/\(x.2.2=true->s.2.2<x.2.1.2.2/\h.1<=x.2.1.2.2/\x.2.1.2.2<=latV h/\latV h<=h.1+7):=by
 obtain ⟨b,i,g,k⟩:=M5 h j l s;have i:nX (h.1,h.2) (r.1,r.2) (s.1,s.2.1,s.2.2)=_:=i;have g:qP (h.1,h.2) (r.1,r.2) (s.1,s.2.1,s.2.2)=_:=g;unfold eY j9;rw[i,g];simp only[aa];cases b with
 | false=>exact ⟨_,rfl,rfl,Nat.zero_le _,Nat.zero_le _,fun c=>by cases c⟩
 | true =>
  obtain ⟨hv,-,-,q,p,n⟩:=k rfl;have w:latV h=h.1+(h.2.length:Int) - 1:=rfl;have o:i64.wrap (s.2.2+1)=s.2.2+1:=cy (by omega) (by omega);rw[o];simp only[if_true];have v:Max.max h.1 (s.2.2+1)=if h.1<=s.2.2+1 then s.2.2+1 else h.1:=by rw[Int.max_def]
  have a:h.1<=Max.max h.1 (s.2.2+1)/\Max.max h.1 (s.2.2+1)<=latV h/\s.2.2<Max.max h.1 (s.2.2+1):=by
   rw[v];split <;> omega
  generalize Max.max h.1 (s.2.2+1)=d at a⊢;obtain ⟨m,e,f,u,t⟩:=aam h j l s d hv q ⟨p,n⟩ ⟨a.1,a.2.1⟩;have e:jg (h.1,h.2) (r.1,r.2) (s.1,s.2.1,s.2.2) d=_:=e;have f:qT (h.1,h.2) (r.1,r.2) (s.1,s.2.1,s.2.2) d=_:=f;rw[e,f];exact ⟨(m,(s.1,s.2.1,d),true),rfl,rfl,u,t,fun _=>⟨a.2.2,a.1,a.2.1,by omega⟩⟩
theorem aep (l:List O9) (id:Int) (s:l.length<=1048576): ∃k:Int,tL l id=some k/\aT l (fun n=>lJ n id)=some k/\k<(l.length:Int):=by
 have q:=FK (f:=oN l id) l (fun u=>u.1==id) (fun i=>(i:Int)) (by omega) (fun i g=>by
  unfold oN;rw[br g,if_pos rfl,au g];simp[aa,af (show i<9223372036854775807 by omega)];split <;> rfl) (by
  simp_all[oN,bf])
 have g:=aag (l:=l) (d:=fun u=>u.1==id) (f:=fun n=>lJ n id) (fun u=>rfl) (by omega);unfold tL;rcases q with ⟨i,h,p,r,e⟩ | ⟨h,e⟩
 ·rcases g with ⟨j,b,m,o,a⟩ | ⟨b,a⟩
  ·have:i=j:=by
    rcases Nat.lt_trichotomy i j with c | c | c
    ·have:=o i c;rw[p] at this;cases this
    ·exact c
    ·have:=r j c;rw[m] at this;cases this
   subst this;exact ⟨(i:Int),bg e,a,by omega⟩
  ·have:=b _ (List.getElem_mem h);rw[p] at this;cases this
 ·rcases g with ⟨j,b,m,o,a⟩ | ⟨b,a⟩
  ·have:=h _ (List.getElem_mem b);rw[m] at this;cases this
  ·exact ⟨-1,ai e,a,by omega⟩
theorem aeq {h:O8} (f:Data.sm h) {r:Ho} (g:Data.sm r) {s:O9} {x:ag1×O9×Bool} (e:eY h r s=some x) (d:x.2.2=false):x=((0,false,[],[]),s,false):=by
 obtain ⟨b,a,-⟩:=M5 h f g s;have a:nX (h.1,h.2) (r.1,r.2) (s.1,s.2.1,s.2.2)=_:=a;unfold eY at e;rw[a] at e;simp only[aa] at e;cases b with
 | false =>
  rw[if_neg (by simp)] at e;exact (ae e).symm
 | true =>
  rw[if_pos rfl] at e;cases c:jg (h.1,h.2) (r.1,r.2) (s.1,s.2.1,s.2.2) (Max.max h.1 (i64.wrap (s.2.2+1))) with
  | none=>rw[c] at e;cases e
  | some z =>
   rw[c] at e;simp only[aa] at e;rw[<-ae e] at d;cases d
theorem aer {l:List O9} (h:Data.sm l) (k:Nat) (s:O9):Data.sm (l.set k s):=⟨by rw[List.length_set];exact (aA h).1,fun x _=>⟨trivial,trivial,trivial⟩⟩
theorem SJ (e:EngT) (a:Data.sm e) (id:Int): ∃x:EngT×ag1×Bool,oP e id=some x/\k9 e id=some x/\Data.sm x.1/\x.2.1.2.2.1.length<=150/\x.2.1.2.2.2.length<=150:=by
 obtain ⟨b,y,w,C⟩:=aaf e a;have n:=(aA a.2.2.1).1;obtain ⟨k,A,r,t⟩:=aep e.2.2.1 id n;unfold oP k9 sj;simp only[dG,aek e a,ael e a,y,w,A,r,aa];cases b with
 | false=>exact ⟨(e,(0,false,[],[]),false),rfl,by split <;> rfl,a,Nat.zero_le _,Nat.zero_le _⟩
 | true =>
  simp only[if_true];by_cases c:k<0
  ·rw[if_pos (decide_eq_true c),if_pos (decide_eq_true c)];exact ⟨_,rfl,rfl,a,Nat.zero_le _,Nat.zero_le _⟩
  ·rw[if_neg (by simpa using c),if_neg (by simpa using c)];have g:=aq (xs:=e.2.2.1) (i:=k) (by omega) t;rw[g];simp only[aa,dG];obtain ⟨⟨m,s,q⟩,f,h,o,B,D⟩:=W9 e.1 a.1 a.2.1 (nth e.2.2.1 k);have p:=f;have f:eY (e.1.1,e.1.2) (e.2.1.1,e.2.1.2) ((nth e.2.2.1 k).1,(nth e.2.2.1 k).2.1,(nth e.2.2.1 k).2.2)=_:=f;have h:j9 (e.1.1,e.1.2) (e.2.1.1,e.2.1.2) ((nth e.2.2.1 k).1,(nth e.2.2.1 k).2.1,(nth e.2.2.1 k).2.2)=_:=h;rw[f,h];simp only[aa];cases q with
   | true =>
    simp only[if_true];exact ⟨_,rfl,rfl,⟨a.1,a.2.1,aer a.2.2.1 _ _,a.2.2.2⟩,o,B⟩
   | false =>
    have l:=aeq a.1 a.2.1 p rfl;have v:m=(0,false,[],[]):=congrArg (fun z=>z.1) l;have u:s=nth e.2.2.1 k:=congrArg (fun z=>z.2.1) l;subst v;subst u;have d:e.2.2.1.set k.toNat ((nth e.2.2.1 k).1,(nth e.2.2.1 k).2.1,(nth e.2.2.1 k).2.2)=e.2.2.1:=by
     obtain ⟨j,rfl⟩: ∃j:Nat,k=(j:Int):=⟨k.toNat,by omega⟩;rw[Int.toNat_natCast];show e.2.2.1.set j (nth e.2.2.1 (j:Int))=_;rw[cG (by omega),List.set_getElem_self]
    rw[if_neg (by simp)]
    first | rw[d] | skip
    exact ⟨_,rfl,rfl,a,Nat.zero_le _,Nat.zero_le _⟩
theorem KK (x:EngT) (id:Int) (p:Data.lim x) (y:Data.lim id):fU x id=some true:=by
 unfold fU;simp only[dG];obtain ⟨w,o,h⟩:=R9 x 1048576 p (by decide) (by decide);rw[o];simp only[aa];rcases h with h | ⟨h,t,d⟩
 ·rw[if_pos (decide_eq_true h)]
 rw[if_neg (by simpa using h)];obtain ⟨⟨r,m,b⟩,s,q,c,e,f⟩:=SJ x d id;have c:Data.sm r:=c;have e:m.2.2.1.length<=150:=e;have f:m.2.2.2.length<=150:=f;have g:Data.sm m:=⟨trivial,trivial,QV (by omega),QV (by omega)⟩;have u:=Mz x d;have v:=Mz r c;have z:=Sl m g;have l:gi x 1=_:=MA x d (k:=1) (by omega);have n:gi r 1=_:=MA r c (k:=1) (by omega);have i:=Sn m g (k:=1+gG r) (by omega);have j:jh ((r.1.1,(xh r 1).1.2),(xh r 1).2.1,(xh r 1).2.2.1,r.2.2.2) 1=_:=VW r c (k:=1) (by omega);have a:=So m g (k:=1+gG r) (by omega);have a:gX (m.1,m.2.1,FJ m.2.2 (1+gG r)) ((1+gG r:Nat):Int)=_:=a;simp only[Sc x d,s,q,Ik r r c c,Ik x x d d,OL m m g g,aa,dG,l,n,i,j,Ax,a,decide_true,if_true,M9,bne_self_eq_false,Bool.false_eq_true,if_false]
end D
namespace R
open Go.Shelf
def Pf:Go.Shelf.Ren:=⟨fun | 146=>169 | 221=>207 | 268=>254 | 138=>255 | 143=>256 | 195=>298 | 197=>299 | 218=>300 | 219=>301 | 260=>338 | 217=>168 | 225=>339 | 224=>340 | 267=>341 | 266=>206 | 314=>373 | n=>n,fun | 9=>9 | 31=>196 | 3=>3 | 4=>4 | 0=>0 | 105=>317 | 21=>21 | 5=>5 | 46=>294 | 119=>385 | 139=>388 | 138=>387 | 146=>366 | 51=>342 | n=>n,fun | 1=>0 | 3=>3 | 4=>4 | n=>n⟩
theorem aes:Go.Proofs.LaysM.n146 Tryz.prog Pf:= {
 mixed:=by kernel_rfl
 f138:=Tryz.func255.trans (congrArg some (by kernel_rfl))
 f143:=Tryz.func256.trans (congrArg some (by kernel_rfl))
 f146:=Tryz.func169.trans (congrArg some (by kernel_rfl))
 f195:=Tryz.func298.trans (congrArg some (by kernel_rfl))
 f197:=Tryz.func299.trans (congrArg some (by kernel_rfl))
 f217:=Tryz.func168.trans (congrArg some (by kernel_rfl))
 f218:=Tryz.func300.trans (congrArg some (by kernel_rfl))
 f219:=Tryz.func301.trans (congrArg some (by kernel_rfl))
 f221:=Tryz.func207.trans (congrArg some (by kernel_rfl))
 f224:=Tryz.func340.trans (congrArg some (by kernel_rfl))
 f225:=Tryz.func339.trans (congrArg some (by kernel_rfl))
 f260:=Tryz.func338.trans (congrArg some (by kernel_rfl))
 f266:=Tryz.func206.trans (congrArg some (by kernel_rfl))
 f267:=Tryz.func341.trans (congrArg some (by kernel_rfl))
 f268:=Tryz.func254.trans (congrArg some (by kernel_rfl))
 f314:=Tryz.func373.trans (congrArg some (by kernel_rfl))
 t0:=Tryz.underlying0
 a0:=Tryz.isAgg0
 z0:=Tryz.sizeOf0
 v0:=Tryz.zeroValue0
 t3:=Tryz.underlying3
 a3:=Tryz.isAgg3
 z3:=Tryz.sizeOf3
 v3:=Tryz.zeroValue3
 t4:=Tryz.underlying4
 a4:=Tryz.isAgg4
 z4:=Tryz.sizeOf4
 v4:=Tryz.zeroValue4
 t5:=Tryz.underlying5
 a5:=Tryz.isAgg5
 z5:=Tryz.sizeOf5
 v5:=Tryz.zeroValue5
 t9:=Tryz.underlying9
 a9:=Tryz.isAgg9
 z9:=Tryz.sizeOf9
 v9:=Tryz.zeroValue9
 t21:=Tryz.underlying21
 a21:=Tryz.isAgg21
 z21:=Tryz.sizeOf21
 v21:=Tryz.zeroValue21
 t31:=Tryz.underlying196
 a31:=Tryz.isAgg196
 z31:=Tryz.sizeOf196
 v31:=Tryz.zeroValue196
 t46:=Tryz.underlying294
 a46:=Tryz.isAgg294
 z46:=Tryz.sizeOf294
 v46:=Tryz.zeroValue294
 t51:=Tryz.underlying342
 a51:=Tryz.isAgg342
 z51:=Tryz.sizeOf342
 v51:=Tryz.zeroValue342
 t105:=Tryz.underlying317
 a105:=Tryz.isAgg317
 z105:=Tryz.sizeOf317
 v105:=Tryz.zeroValue317
 t119:=Tryz.underlying385
 a119:=Tryz.isAgg385
 z119:=Tryz.sizeOf385
 t138:=Tryz.underlying387
 a138:=Tryz.isAgg387
 z138:=Tryz.sizeOf387
 v138:=Tryz.zeroValue387
 t139:=Tryz.underlying388
 a139:=Tryz.isAgg388
 z139:=Tryz.sizeOf388
 v139:=Tryz.zeroValue388
 t146:=Tryz.underlying366
 a146:=Tryz.isAgg366
 z146:=Tryz.sizeOf366
 v146:=Tryz.zeroValue366
 g1:=by kernel_rfl
 g3:=by kernel_rfl
 g4:=by kernel_rfl
 i0:=by kernel_rfl
 i3:=by kernel_rfl
 i4:=by kernel_rfl
 i5:=by kernel_rfl
 i9:=by kernel_rfl
 i21:=by kernel_rfl
 i31:=by kernel_rfl
 i46:=by kernel_rfl
 i51:=by kernel_rfl
 i105:=by kernel_rfl
 i138:=by kernel_rfl
 i139:=by kernel_rfl
 i146:=by kernel_rfl
 m1:=by kernel_rfl
 s1_3:=fun w h=>Go.Proofs.cell_of_shapedOpen_int (zero:= #[.int .i64 0]) (t:=3) h (of_decide_eq_true (by kernel_rfl)) (by kernel_rfl) rfl (by kernel_rfl) (by kernel_rfl) Tryz.underlying3
 m3:=by kernel_rfl
 m4:=by kernel_rfl }
end R
open Go.ChangeShapes Go.WideShapes Go.ChangeAt Go.RowKit
namespace D
theorem op3:Opens Tryz.prog 3 be:=Vs Tryz.underlying3
theorem aiQ:Opens Tryz.prog 65 (ah 3 be):=iT Tryz.underlying65 (by kernel_rfl) (by decide) op3
theorem ah6:Opens Tryz.prog 225 (aL be (aL be (aL be be))):=by
 refine eT Tryz.underlying225 (by kernel_rfl) ?_;refine cR (R:=be) (S:=aL (be) (aL (be) (be))) rfl (by kernel_rfl) op3 ?_;refine cR (R:=be) (S:=aL (be) (be)) rfl (by kernel_rfl) op3 ?_;refine cR (R:=be) (S:=be) rfl (by kernel_rfl) op3 ?_;exact ji rfl (by kernel_rfl) op3
theorem ah7:Opens Tryz.prog 127 (ah 225 (aL be (aL be (aL be be)))):=iT Tryz.underlying127 (by kernel_rfl) (by decide) ah6
theorem ah8:Opens Tryz.prog 129 (aL (ah 3 be) (ah 225 (aL be (aL be (aL be be))))):=by
 refine eT Tryz.underlying129 (by kernel_rfl) ?_;refine cR (R:=ah 3 be) (S:=ah 225 (aL be (aL be (aL be be)))) rfl (by kernel_rfl) aiQ ?_;exact ji rfl (by kernel_rfl) ah7
theorem ajb:Opens Tryz.prog 22 (ah 129 (aL (ah 3 be) (ah 225 (aL be (aL be (aL be be)))))):=iT Tryz.underlying22 (by kernel_rfl) (by decide) ah8
theorem ajc:Opens Tryz.prog 24 (aL be (ah 129 (aL (ah 3 be) (ah 225 (aL be (aL be (aL be be))))))):=by
 refine eT Tryz.underlying24 (by kernel_rfl) ?_;refine cR (R:=be) (S:=ah 129 (aL (ah 3 be) (ah 225 (aL be (aL be (aL be be)))))) rfl (by kernel_rfl) op3 ?_;exact ji rfl (by kernel_rfl) ajb
theorem op4:Opens Tryz.prog 4 rp:=R6 Tryz.underlying4
theorem ajd:Opens Tryz.prog 94 (ah 4 rp):=iT Tryz.underlying94 (by kernel_rfl) (by decide) op4
theorem aje:Opens Tryz.prog 95 (ah 65 (ah 3 be)):=iT Tryz.underlying95 (by kernel_rfl) (by decide) aiQ
theorem ah9:Opens Tryz.prog 131 (aL be (aL (ah 4 rp) (ah 65 (ah 3 be)))):=by
 refine eT Tryz.underlying131 (by kernel_rfl) ?_;refine cR (R:=be) (S:=aL (ah 4 rp) (ah 65 (ah 3 be))) rfl (by kernel_rfl) op3 ?_;refine cR (R:=ah 4 rp) (S:=ah 65 (ah 3 be)) rfl (by kernel_rfl) ajd ?_;exact ji rfl (by kernel_rfl) aje
theorem ajf:Opens Tryz.prog 25 (ah 131 (aL be (aL (ah 4 rp) (ah 65 (ah 3 be))))):=iT Tryz.underlying25 (by kernel_rfl) (by decide) ah9
theorem aia:Opens Tryz.prog 267 (aL be (aL be (aL be be))):=by
 refine eT Tryz.underlying267 (by kernel_rfl) ?_;refine cR (R:=be) (S:=aL (be) (aL (be) (be))) rfl (by kernel_rfl) op3 ?_;refine cR (R:=be) (S:=aL (be) (be)) rfl (by kernel_rfl) op3 ?_;refine cR (R:=be) (S:=be) rfl (by kernel_rfl) op3 ?_;exact ji rfl (by kernel_rfl) op3
theorem aib:Opens Tryz.prog 133 (ah 267 (aL be (aL be (aL be be)))):=iT Tryz.underlying133 (by kernel_rfl) (by decide) aia
theorem aic:Opens Tryz.prog 135 (ah 267 (aL be (aL be (aL be be)))):=by
 refine eT Tryz.underlying135 (by kernel_rfl) ?_;exact ji rfl (by kernel_rfl) aib
theorem aid:Opens Tryz.prog 137 (aL be (aL (ah 267 (aL be (aL be (aL be be)))) be)):=by
 refine eT Tryz.underlying137 (by kernel_rfl) ?_;refine cR (R:=be) (S:=aL (ah 267 (aL be (aL be (aL be be)))) (be)) rfl (by kernel_rfl) op3 ?_;refine cR (R:=ah 267 (aL be (aL be (aL be be)))) (S:=be) rfl (by kernel_rfl) aic ?_;exact ji rfl (by kernel_rfl) op3
theorem ajg:Opens Tryz.prog 26 (ah 137 (aL be (aL (ah 267 (aL be (aL be (aL be be)))) be))):=iT Tryz.underlying26 (by kernel_rfl) (by decide) aid
theorem ajh:Opens Tryz.prog 28 (aL (ah 131 (aL be (aL (ah 4 rp) (ah 65 (ah 3 be))))) (ah 137 (aL be (aL (ah 267 (aL be (aL be (aL be be)))) be)))):=by
 refine eT Tryz.underlying28 (by kernel_rfl) ?_;refine cR (R:=ah 131 (aL be (aL (ah 4 rp) (ah 65 (ah 3 be))))) (S:=ah 137 (aL be (aL (ah 267 (aL be (aL be (aL be be)))) be))) rfl (by kernel_rfl) ajf ?_;exact ji rfl (by kernel_rfl) ajg
theorem aie:Opens Tryz.prog 106 (aL be (aL be be)):=by
 refine eT Tryz.underlying106 (by kernel_rfl) ?_;refine cR (R:=be) (S:=aL (be) (be)) rfl (by kernel_rfl) op3 ?_;refine cR (R:=be) (S:=be) rfl (by kernel_rfl) op3 ?_;exact ji rfl (by kernel_rfl) op3
theorem aji:Opens Tryz.prog 29 (ah 106 (aL be (aL be be))):=iT Tryz.underlying29 (by kernel_rfl) (by decide) aie
theorem op9:Opens Tryz.prog 9 Iy:=Mr Tryz.underlying9
theorem ajj:Opens Tryz.prog 31 (aL (aL be (ah 129 (aL (ah 3 be) (ah 225 (aL be (aL be (aL be be))))))) (aL (aL (ah 131 (aL be (aL (ah 4 rp) (ah 65 (ah 3 be))))) (ah 137 (aL be (aL (ah 267 (aL be (aL be (aL be be)))) be)))) (aL (ah 106 (aL be (aL be be))) Iy))):=by
 refine eT Tryz.underlying31 (by kernel_rfl) ?_;refine cR (R:=aL be (ah 129 (aL (ah 3 be) (ah 225 (aL be (aL be (aL be be))))))) (S:=aL (aL (ah 131 (aL be (aL (ah 4 rp) (ah 65 (ah 3 be))))) (ah 137 (aL be (aL (ah 267 (aL be (aL be (aL be be)))) be)))) (aL (ah 106 (aL be (aL be be))) (Iy))) rfl (by kernel_rfl) ajc ?_;refine cR (R:=aL (ah 131 (aL be (aL (ah 4 rp) (ah 65 (ah 3 be))))) (ah 137 (aL be (aL (ah 267 (aL be (aL be (aL be be)))) be)))) (S:=aL (ah 106 (aL be (aL be be))) (Iy)) rfl (by kernel_rfl) ajh ?_;refine cR (R:=ah 106 (aL be (aL be be))) (S:=Iy) rfl (by kernel_rfl) aji ?_;exact ji rfl (by kernel_rfl) op9
theorem aif {W:World} {base:Nat} {z:Value} {H:Type} {enc:TypeId×Value->H} {d:DataW H} {p:List MemPlace} (hv:Value.okWide Tryz.prog W .any base 31 z) (h:DataW.Trod enc Tryz.prog W 0 (fun _=>true) true 31 z d p) :
  ∃(x:(Int×(List ((List Int)×(List (Int×Int×Int×Int)))))×((List (Int×(List Bool)×(List (List Int))))×(List (Int×((List (Int×Int×Int×Int)))×Int)))×(List (Int×Int×Int))×ByteArray) (v0:Value) (a:Value) (c:Value) (b:Value),z= .agg #[.int .i64 x.1.1,v0,a,c,b,.string x.2.2.2] /\Data.lim x/\(ah 129 (aL (ah 3 be) (ah 225 (aL be (aL be (aL be be)))))).rd (hp W) [v0] x.1.2/\(ah 131 (aL be (aL (ah 4 rp) (ah 65 (ah 3 be))))).rd (hp W) [a] x.2.1.1/\(ah 137 (aL be (aL (ah 267 (aL be (aL be (aL be be)))) be))).rd (hp W) [c] x.2.1.2/\(ah 106 (aL be (aL be be))).rd (hp W) [b] x.2.2.1:=by
 obtain ⟨fuel,l⟩:=h;obtain ⟨⟨k⟩,rfl,-⟩:=okWide_struct Tryz.underlying31 hv;obtain ⟨x,e,m⟩:=ajj.out enc W _ _ _ l;have e:(aL (aL be (ah 129 (aL (ah 3 be) (ah 225 (aL be (aL be (aL be be))))))) (aL (aL (ah 131 (aL be (aL (ah 4 rp) (ah 65 (ah 3 be))))) (ah 137 (aL be (aL (ah 267 (aL be (aL be (aL be be)))) be)))) (aL (ah 106 (aL be (aL be be))) Iy))).rd (hp W) k x:=e;obtain ⟨_,_,rfl,⟨_,_,rfl,rfl,g⟩,⟨_,_,rfl,⟨_,_,rfl,i,j⟩,⟨_,_,rfl,f,rfl⟩⟩⟩:=e;obtain ⟨v0,rfl⟩:=one_cell g rfl;obtain ⟨a,rfl⟩:=one_cell i rfl;obtain ⟨c,rfl⟩:=one_cell j rfl;obtain ⟨b,rfl⟩:=one_cell f rfl;exact ⟨x,v0,a,c,b,rfl,m,g,i,j,f⟩
theorem ajk {W:World} {base:Nat} {z:Value} {H:Type} {enc:TypeId×Value->H} {d:DataW H} {p:List MemPlace} (hv:Value.okWide Tryz.prog W .any base 3 z) (h:DataW.Trod enc Tryz.prog W 0 (fun _=>true) true 3 z d p) :
  ∃(x:Int),z= .int .i64 x/\Data.lim x:=by
 obtain ⟨fuel,b⟩:=h;obtain ⟨n,rfl⟩:=okWide_int Tryz.underlying3 hv;obtain ⟨x,c,a⟩:=op3.out enc W _ _ _ b;exact ⟨x,(List.cons.inj (show [_] = [_] from c)).1,a⟩
end D
open D (Data)
theorem BQ {H:Type} {enc:TypeId×Value->H} {a:Assume} {C:Checked} {os:Os} {f:FuncId} {fn:Func} {s:ChangeSpec} {conds:List PathCond} {apart fresh handsOn again:Bool} {X:World->Array Value->Prop}
  (u: ∀(w w':World) (args:Array Value),w.heap=w'.heap->X w args->X w' args)
  (own:ownKnob C.prog.godebug=none) (started:os.Started) (c:C.prog.inits.idxOf? f=none) (o:C.prog.funcs[f]? =some fn)
  (witness: ∃(w:World) (tape:Tape) (i:Input),w.os=os/\(w.forCall tape i).Shaped C.prog/\i.vars= [] /\Input.okWide C.prog (w.forCall tape i) .any w.heap.size f i /\
   ((s.pre enc C.prog fn conds apart (w.forCall tape i).memory i.args/\X (w.forCall tape i).memory i.args)/\sizedMet enc C.prog fn (OpenSpec.ofChange s) apart (w.forCall tape i).memory i.args)/\a.holds C.prog (lone (Frame.enter C.prog f i.args .normal) [] (w.forCall tape i)))
  (b: ∀(W:World) (base:Nat) (args:Array Value) (ds l:List (DataW H)) (before:List MemPlace),
   (∀(j:Nat) t v,fn.params[j]? =some t->args[j]? =some v->Value.okWide C.prog W .any base t v)->
   DataW.Whole enc C.prog fn.params.toList s.vars apart W args.toList ds l before->X W args->W.ShapedOpen C.prog->
   Calls C.prog f args W fun e q=> ∃v,e= .returned v/\s.post enc C.prog fn apart fresh handsOn again W args v q) :
  ReturnsInHanded a C os f .any (fun w args=>(s.pre enc C.prog fn conds apart w args/\X w args)/\sizedMet enc C.prog fn (OpenSpec.ofChange s) apart w args) (s.post enc C.prog fn apart fresh handsOn again):=by
 refine returnsInHanded_of_calls own started c witness ?_;intro w tape i _ m _ n d _;obtain ⟨_,_,_,k,g,_,_,_,_,h⟩:=n;have e:k=fn:=ae (g.symm.trans o);subst e;obtain ⟨⟨⟨ds,l,before,y,z⟩,x⟩,_⟩:=d;have p:=DataW.Whole.of_heap (w':=w.forCall tape i) (by rfl) y;refine (b (w.forCall tape i) w.heap.size i.args ds l before h p (u (w.forCall tape i).memory (w.forCall tape i) _ rfl x) m).mono fun e q ⟨v,r,hp⟩=>?_;subst r;exact ChangeSpec.post_blind hp
theorem abG (u:TypeId) (h:Tryz.prog.typeName? 3 u=some "*errors.errorString"):u=392:=
 typeName_ptr_named (nm:= "errors.errorString") (by kernel_rfl) (by kernel_rfl) (by decide) u h
theorem KL {W:World} (h:laidMetH Tryz.prog Rows.fnExactEnginePollRow.laid W) (c:W.ShapedOpen Tryz.prog):D.LayW Tryz.prog W:=by
 rw[MakeChecks.laidMetH_plain _ _ _ (by kernel_rfl)] at h;obtain ⟨k,f,b,-⟩:=laid_sentinel (g:=2) (ti:=231) (tp:=392) (te:=394) (ts:=9) (h.tail.tail.tail.tail) (by kernel_rfl) (by kernel_rfl) Tryz.underlying231 abG Tryz.underlying392 Tryz.underlying394 rfl rfl Tryz.underlying9 (by kernel_rfl) (by kernel_rfl);obtain ⟨j,i,a,-⟩:=laid_sentinel (g:=1) (ti:=231) (tp:=392) (te:=394) (ts:=9) (h.tail.tail.tail.tail.tail) (by kernel_rfl) (by kernel_rfl) Tryz.underlying231 abG Tryz.underlying392 Tryz.underlying394 rfl rfl Tryz.underlying9 (by kernel_rfl) (by kernel_rfl);have e:Lib.TabIs Tryz.prog W "internal/strconv.uint64pow10" .u64 Lib.pow10Tab:=Lib.tabIs_of_head (g:=5) (by kernel_rfl) (by kernel_rfl) Tryz.underlying396 Tryz.underlying344 (by kernel_rfl) (by kernel_rfl) (h.tail.tail);exact ⟨⟨0,(R.aes.s1_3 W c).imp fun m d=>⟨by kernel_rfl,d⟩⟩,e,⟨_,_,a⟩,⟨_,_,b⟩⟩
theorem Hq (W:World) (U:laidMetH Tryz.prog Rows.fnExactEnginePollRow.laid W) (n:W.ShapedOpen Tryz.prog) (args:Array Value) (H:Type) (enc:TypeId×Value->H) (base:Nat) (ds C:List (DataW H)) (before:List MemPlace)
  (a: ∀(j:Nat) t v,Tryz.f4.params[j]? =some t->args[j]? =some v->Value.okWide Tryz.prog W .any base t v)
  (u:DataW.Whole enc Tryz.prog Tryz.f4.params.toList Rows.fnExactEnginePollSpec.vars false W args.toList ds C before) :
  Calls Tryz.prog 4 args W fun e x=> ∃v,e= .returned v/\Rows.fnExactEnginePollSpec.post enc Tryz.prog Tryz.f4 false true false false W args v x:=by
 have m:=u;obtain ⟨p,q,y,K,rfl,R,P⟩:=u;rw[Tryz.params4] at y a;obtain ⟨V,Q,d0,E,X,Y,o,rfl,rfl,F,J⟩:=trodAll_cons y;obtain ⟨G,B,d1,L,Z,q1,rfl,rfl,rfl,A,O⟩:=trodAll_cons J;obtain ⟨rfl,rfl,rfl⟩:=trodAll_nil O;obtain rfl:args= #[V,G]:=by cases args;simp_all
 obtain ⟨rfl,rfl⟩:=trodVars_none K;obtain ⟨w,h,c,l,g,rfl,z,k,d,b,i⟩:=D.aif (a 0 _ _ rfl rfl) F;obtain ⟨r,rfl,S⟩:=D.ajk (a 1 _ _ rfl rfl) A;have N:=D.wt w r true (D.KK w r z S) (I:=D.hp W) (w0:=W) h c l g k d b i (D.Lay.of (KL U n)) W [] (D.St.init W);refine N.mono fun e x ⟨v,M,hv,T⟩=>?_;subst M;subst hv;exact ⟨_,rfl,Z9 (f:=Tryz.f4) (s:=Rows.fnExactEnginePollSpec) 4 Tryz.underlying4 rfl (by kernel_rfl) rfl m rfl rfl rfl (D.St.below T)⟩
set_option maxRecDepth 100000 in
theorem BR (os:Os) (started:os.Started) (H:Type) (enc:TypeId×Value->H) :
  ReturnsInHanded {} Tryz.checked os 4 .any (fun w args=>(Rows.fnExactEnginePollSpec.pre enc Tryz.prog Tryz.f4 [] false w args/\laidMetH Tryz.prog Rows.fnExactEnginePollRow.laid w)/\sizedMet enc Tryz.prog Tryz.f4 (OpenSpec.ofChange Rows.fnExactEnginePollSpec) false w args) (Rows.fnExactEnginePollSpec.post enc Tryz.prog Tryz.f4 false true false false):=by
 refine BQ (C:=Tryz.checked) (X:=fun w _=>laidMetH Tryz.prog Rows.fnExactEnginePollRow.laid w) (fun _ _ _ c h=>h.of_heap c) own started (by kernel_rfl) Tryz.func4
  (ChangeSpec.witness_shaped (enc:=enc) (C:=Tryz.checked) (os:=os) (X:=fun w _=>laidMetH Tryz.prog Rows.fnExactEnginePollRow.laid w) false (World.laidAll Tryz.prog os Rows.fnExactEnginePollRow.laid) #[.agg #[.int .i64 0,.slice none 0 0,.slice none 0 0,.slice none 0 0,.slice none 0 0,.string ⟨#[]⟩],.int .i64 0] 8 (World.laidAll_os _ _ _) (World.shaped_of_ZipB (by kernel_rfl) (by kernel_rfl)) (by kernel_rfl) (by kernel_rfl) (by kernel_rfl) (by rw[MakeChecks.laidMetH_plain _ _ _ (by kernel_rfl)];exact laidMet_laidAll _ (by kernel_rfl) (by kernel_rfl))) ?_
 intro W base args e g before a d f b;exact Hq W f b args H enc base e g before a d
theorem Da:Rows.FnExactEnginePollSaid:=
 OpenClaim.holds_of_wide 4 Tryz.f4 rfl rfl rfl rfl rfl rfl rfl ⟨rfl,rfl,rfl,rfl,rfl⟩ rfl rfl rfl rfl rfl (by kernel_rfl) Tryz.func4 closedLEnginePoll
  (of_decide_eq_true (by kernel_rfl)) (by unfold Func.isWrapper;first | (rw[if_pos (by decide +kernel)];kernel_rfl) | (rw[if_neg (by decide +kernel)];exact ⟨rfl,rfl⟩))
  (fun b started H a _=>BR b started H a)
theorem cardLEnginePoll:Rows.FnExactEnginePollCardSaid:=
 Claim7.holds_tied_plain_at .later [] [.data,.data,.data,.data,.sentinel,.sentinel,.pinned] true (true,"1a2e15b9ca5d7de4aaf969e293eeafc31dfffa4c2311ce6b89b2cbb4ae8aea2a") true
  Da (fun _ h=>by cases h) (by kernel_rfl) (fun _ h=>by cases h) fnExactEnginePoll_row_tie rfl ⟨rfl,rfl⟩ kf4EnginePoll rfl
  (fun f e g b=>by
   obtain rfl:f=4:=ae (kf1EnginePoll.symm.trans g) |>.symm;obtain rfl:e=Tryz.f4:=(ae (Tryz.func4.symm.trans b)).symm;exact ⟨kf2EnginePoll,fun j t c=>by
    rw[Tryz.params4] at c;have d:t ∈ [31,3]:=by simpa using Array.mem_of_getElem? c
    have a:([31,3].all fun u=> !Tryz.prog.wantsStandIn u)=true:=by kernel_rfl
    exact (show Tryz.prog.wantsStandIn t=false by simpa using List.all_eq_true.1 a t d)⟩)
  kf3EnginePoll
end Go.Proofs.YteapgmibbpckoaaGreatDoor
