/- FnIncludedQueries: for every input the law returns true and changes nothing that was there. Part 7 of 8. -/
import Derived.Test.YtbhafdfiplkacaaGreatQIC5
set_option linter.unusedVariables false
set_option linter.unusedSimpArgs false
set_option linter.unnecessarySimpa false
set_option linter.unusedSectionVars false
set_option maxRecDepth 1000000
namespace Go.Proofs.YtbhafdfiplkacaaGreat
namespace D
open Go.RowKit
section
variable {a:AutT} {n:Nat} {c:List Int}
theorem Hm (k:Nat) (s:Int):(List.range (k+1)).map (fun k=>ent a c s k)=(List.range k).map (fun k=>ent a c s k)++ [ent a c s k]:=by simp[List.range_succ]
theorem W6 (V:VA a n) (hn:n<=1000000) (hc:c.length=n) {s:Nat} (hs:s<n):oq a c s=some (BY a c s):=by
 unfold oq
 rw[ax (by omega) (by omega)];simp only[aa]
 have:=aN (f:=lW a c s) (fun k=>(nth c (s:Int)::(List.range k).map (fun k=>ent a c s k),(k:Int))) 9 (fun k hk=>by
  have hm:=V.mv (s:=s) (k:=k) (by omega) (by omega) hk
  unfold lW
  simp only
  rw[if_pos (by simp;omega),V.get (by omega) (by omega)];simp only[aa]
  rw[V.get2 (by omega) (by omega) hk,Hm];simp only[aa,ai (show k<9223372036854775807 by omega)]
  by_cases h:mv a s k<0
  ·rw[if_pos (by simpa using h),aI (by simp;omega),show ent a c s k= -1 from by unfold ent;rw[if_pos h]];rfl
  ·rw[if_neg (by simpa using h),ax (by omega) (by omega)];simp only[aa]
   rw[aI (by simp;omega),show ent a c s k=nth c (mv a s k) from by unfold ent;rw[if_neg h]];rfl) (by unfold lW;simp) (by unfold aQ;omega)
 exact af this
theorem W7 (V:VA a n) (hn:n<=1000000) (hc:c.length=n) {s:Nat} (hs:s<n):ay (cU c (nth a.2.2 (s:Int))) aQ (0,[nth c (s:Int)])=some (.brk (9,BY a c s)):=by
 have hr:=V.rowAt (s:=s) (by omega) (by omega)
 exact aN (f:=cU c (nth a.2.2 (s:Int))) (fun k=>((k:Int),nth c (s:Int)::(List.range k).map (fun k=>ent a c s k))) 9 (fun k hk=>by
  have hm:=V.mv (s:=s) (k:=k) (by omega) (by omega) hk
  unfold cU
  simp only
  rw[if_pos (by simp[hr];omega),V.get2 (by omega) (by omega) hk,Hm];simp only[aa,ai (show k<9223372036854775807 by omega)]
  by_cases h:mv a s k<0
  ·have e:mv a s k= -1:=by omega
   rw[if_neg (by simp;omega)];simp only[aa]
   rw[aI (by simp;omega),show ent a c s k=mv a s k from by unfold ent;rw[if_pos h,e]];rfl
  ·rw[if_pos (by simp;omega),ax (by omega) (by omega)];simp only[aa]
   rw[aI (by simp;omega),show ent a c s k=nth c (mv a s k) from by unfold ent;rw[if_neg h]];rfl) (by unfold cU;simp[hr]) (by unfold aQ;omega)
theorem DT {κ:Type} [DecidableEq κ] {l t r:List κ} {x:κ} (e:l=t++x::r) (hx:x∉t):nbI l (some x)=(t.length:Int):=by
 subst e
 simp only[nbI]
 rw[List.idxOf_append,if_neg hx,List.idxOf_cons_self,Nat.zero_add]
def VB (l:List (List Int)) (x:List Int):Int:=if x∈l then nbI l (some x) else -1
theorem VC {l:List (List Int)} {x cs:List Int} {q:Int} (hl:l.length<=1000000) (hd:l.Nodup) (hx: ∀y∈l,y.length<=1048576):ay (fA (l,cs,q) x) aQ (-1,0)=some (.brk (VB l x,(l.length:Int))):=by
 have:=aN (f:=fA (l,cs,q) x) (fun k=>(if x∈l.take k then nbI l (some x) else -1,(k:Int))) l.length (fun k hk=>by
  unfold fA
  simp only
  rw[if_pos (by simp;omega),ax (by omega) (by omega)];simp only[aa,Int.toNat_natCast,ai (show k<9223372036854775807 by omega)]
  obtain ⟨r,e,hr⟩:=Fz (nth l (k:Int)) x (hx _ (bg (by omega) (by omega)))
  rw[e,take_one hk];simp only[aa,List.mem_append,List.mem_singleton]
  by_cases h:nth l (k:Int)=x
  ·have h0:r=0:=hr.2 h
   have hm:x∈l:=h ▸ bg (by omega) (by omega)
   obtain ⟨q,hq,e1,e2⟩:=oc hm
   have:q=k:=by
    have h1:l[q]? =some x:=by rw[List.getElem?_eq_getElem hq,e2]
    have h2:l[k]? =some x:=by rw[List.getElem?_eq_getElem hk,<-bT hk,h]
    exact (List.getElem?_inj hq hd).1 (h1.trans h2.symm)
   subst this
   rw[if_pos (by simp[h0]),if_pos (.inr h.symm),e1];rfl
  ·have h0:r≠0:=fun e=>h (hr.1 e)
   have hn: ¬x=nth l (k:Int):=fun e=>h e.symm
   rw[if_neg (by simpa using h0)]
   simp[hn]) (by unfold fA;simp) (ju (by omega))
 rw[List.take_of_length_le (aC _)] at this
 exact this
theorem VD {l:List (List Int)} {x:List Int} {f:List Int->Option Bool} (hl:l.length<=1000000) (hf: ∀y∈l,f y=some (decide (y=x))):bV l f=some (VB l x):=by
 unfold bV
 obtain ⟨o,e,hq⟩:=bX (f:=cw l f) (fun k s=>s=(k:Int)/\x∉l.take k) (fun o=>(x∈l/\o= .ret (nbI l (some x)))\/(x∉l/\ ∃s,o= .brk s)) l.length (s:=0) (by
  rintro k s hk ⟨rfl,hx⟩
  unfold cw
  by_cases hkl:k<l.length
  ·rw[if_pos (by simp;omega),ax (by omega) (by omega)];simp only[aa]
   rw[hf _ (bg (by omega) (by omega))];simp only[aa]
   by_cases h:nth l (k:Int)=x
   ·refine .inr ⟨_,by rw[if_pos (by simpa using h)],(fun s' e=>by cases e),.inl ?_⟩
    have hm:x∈l:=h ▸ bg (by omega) (by omega)
    refine ⟨hm,?_⟩
    have e:l=l.take k++(x::l.drop (k+1)):=by
     rw[<-h,bT hkl,<-List.drop_eq_getElem_cons hkl,List.take_append_drop]
    rw[DT e hx,aE,Nat.min_eq_left (by omega)]
   ·refine .inl ⟨hkl,_,by rw[if_neg (by simpa using h)],by rw[ai (by omega)],?_⟩
    rw[take_one hkl,List.mem_append,List.mem_singleton]
    rintro (h' | h')
    ·exact hx h'
    ·exact h h'.symm
  ·refine .inr ⟨_,by rw[if_neg (by simp;omega)],(fun s' e=>by cases e),.inr ⟨?_,_,rfl⟩⟩
   rwa [List.take_of_length_le (by omega)] at hx) ⟨rfl,by simp⟩ (ju (by omega))
 unfold VB
 rcases hq with ⟨hx,rfl⟩ | ⟨hx,s,rfl⟩
 ·rw[bN e,if_pos hx]
 ·rw[af e,if_neg hx]
theorem yQ {os:List (Option (List Int))} (h: ∀y,some y∈os->y.length=10): ∀y∈nbS [] os,y.length=10:=fun y hy=>by
 rcases n9.1 hy with hy | hy
 ·cases hy
 ·exact h y hy
theorem AH (a:AutT) (c:List Int): ∀y,some y∈keys a c->y.length=10:=by
 intro y hy
 obtain ⟨s,-,e⟩:=List.mem_map.1 hy
 unfold Ci at e
 split at e
 ·cases e
 ·rw[<-ae e];simp[BY]
section
variable (V:VA a n) (hn:n<=1000000) (hc:c.length=n)
include V hn hc
theorem Hn (s:Nat):(nbS [] ((keys a c).take s)).length<=n:=by
 have:=px ([] :List (List Int)) ((keys a c).take s)
 rw[aE,ez,V.len] at this
 simp at this;omega
theorem Px {m:Int} :ay (fB a (c,m)) aQ ([],[],0)=some (.brk (nbS [] (keys a c),AF a c,(n:Int))):=by
 have hlen:=V.len
 have:=aN (f:=fB a (c,m)) (fun s=>(nbS [] ((keys a c).take s),nbR [] ((keys a c).take s),(s:Int))) n (fun s hs=>by
  have hkl:=Hn V hn hc s
  have hrl:(nbR [] ((keys a c).take s)).length<=n:=by rw[eN,aE,ez];omega
  unfold fB
  simp only
  rw[if_pos (by simp;omega),ax (by omega) (by omega)];simp only[aa]
  rw[take_one (by rw[ez];omega),pv,ru,FA (by omega)]
  simp only[ai (show s<9223372036854775807 by omega)]
  by_cases h:nth c (s:Int)<0
  ·rw[if_pos (by simpa using h),aI (by simp;omega),show Ci a c s=none from by unfold Ci;rw[if_pos h]];rfl
  ·rw[if_neg (by simpa using h),show Ci a c s=some (BY a c s) from by unfold Ci;rw[if_neg h]]
   rw[show oq (a.1,a.2.1,a.2.2) c (s:Int)=some (BY a c s) from W6 V hn hc hs];simp only[aa]
   rw[af (VC (by omega) (nh (by simp)) (fun y hy=>by rw[yQ (fun y hy=>AH a c y (List.mem_of_mem_take hy)) y hy];decide))]
   simp only
   unfold VB
   by_cases k:BY a c s∈nbS [] ((keys a c).take s)
   ·obtain ⟨q,hq,e1,e2⟩:=oc k
    rw[if_pos k,jB k,e1,if_neg (by simp)];simp only[aa]
    rw[aI (by simp;omega)];rfl
   ·rw[if_neg k,iS k,BW k,if_pos (show decide ((-1:Int)<0)=true from rfl),aI (by simp;omega)];simp only[aa]
    rw[aI (by simp;omega)];rfl) (by
  unfold fB
  simp only
  rw[if_neg (by simp;omega)]) (ju (by omega))
 rw[show (keys a c).take n=keys a c from List.take_of_length_le (by rw[ez];omega)] at this
 exact this
theorem Py:dG a c=some (AF a c,(wT a c:Int)):=by
 have hlen:=V.len
 unfold dG
 have:=aN (f:=dL a c) (fun s=>(nbS [] ((keys a c).take s),nbR [] ((keys a c).take s),(s:Int))) n (fun s hs=>by
  have hkl:=Hn V hn hc s
  have hrl:(nbR [] ((keys a c).take s)).length<=n:=by rw[eN,aE,ez];omega
  unfold dL
  simp only
  rw[if_pos (by simp;omega),ax (by omega) (by omega)];simp only[aa]
  rw[take_one (by rw[ez];omega),pv,ru,FA (by omega)]
  simp only[ai (show s<9223372036854775807 by omega)]
  by_cases h:nth c (s:Int)<0
  ·rw[if_pos (by simpa using h),aI (by simp;omega),show Ci a c s=none from by unfold Ci;rw[if_pos h]];rfl
  ·rw[if_neg (by simpa using h),show Ci a c s=some (BY a c s) from by unfold Ci;rw[if_neg h],V.get (by omega) (by omega)];simp only[aa]
   rw[af (W7 V hn hc hs)];simp only
   rw[VD (x:=BY a c s) (by omega) (fun y hy=>by
    unfold gm
    rw[DS _ _ (by rw[yQ (fun y hy=>AH a c y (List.mem_of_mem_take hy)) y hy];decide)];rfl)];simp only[aa]
   unfold VB
   by_cases k:BY a c s∈nbS [] ((keys a c).take s)
   ·obtain ⟨q,hq,e1,e2⟩:=oc k
    rw[if_pos k,jB k,e1,if_neg (by simp)];simp only[aa]
    rw[aI (by simp;omega)];rfl
   ·rw[if_neg k,iS k,BW k,if_pos (show decide ((-1:Int)<0)=true from rfl),aI (by simp;omega)];simp only[aa]
    rw[aI (by simp;omega)];rfl) (by
  unfold dL
  simp only
  rw[if_neg (by simp;omega)]) (ju (by omega))
 rw[show (keys a c).take n=keys a c from List.take_of_length_le (by rw[ez];omega)] at this
 exact af this
end
end
section
variable {a:AutT} {n:Nat} (V:VA a n) (hn:n<=1000000)
include V hn
theorem DU (s:Nat):(List.range (s+1)).map (fun s:Nat=>if nth (live a) (s:Int)=true then (if nth a.2.1 (s:Int)=true then (1:Int) else 0) else -1)=(List.range s).map (fun s:Nat=>if nth (live a) (s:Int)=true then (if nth a.2.1 (s:Int)=true then 1 else 0) else -1)++ [if nth (live a) (s:Int)=true then (if nth a.2.1 (s:Int)=true then 1 else 0) else -1]:=by simp[List.range_succ]
theorem VE:ay (fy a (live a)) aQ ([],0)=some (.brk (Jm a,(n:Int))):=by
 have hlen:=V.len
 have hll:(live a).length=n:=by rw[tc,hlen]
 have:=aN (f:=fy a (live a)) (fun s=>((List.range s).map (fun s:Nat=>if nth (live a) (s:Int)=true then (if nth a.2.1 (s:Int)=true then (1:Int) else 0) else -1),(s:Int))) n (fun s hs=>by
  unfold fy
  simp only
  rw[if_pos (by simp;omega),V.acc (by omega) (by omega)];simp only[aa]
  rw[DU V hn,ax (xs:=live a) (by omega) (by omega)];simp only[ai (show s<9223372036854775807 by omega)]
  cases nth (live a) (s:Int) <;> cases nth a.2.1 (s:Int) <;> simp only[if_true,if_false,Bool.false_eq_true,aa] <;> rw[aI (by simp;omega)] <;> rfl) (by
  unfold fy
  simp only
  rw[if_neg (by simp;omega)]) (ju (by omega))
 unfold Jm
 rw[hlen]
 exact this
theorem VF:ay (cH a (live a)) aQ ([],0)=some (.brk (Jm a,(n:Int))):=by
 have hlen:=V.len
 have hll:(live a).length=n:=by rw[tc,hlen]
 have:=aN (f:=cH a (live a)) (fun s=>((List.range s).map (fun s:Nat=>if nth (live a) (s:Int)=true then (if nth a.2.1 (s:Int)=true then (1:Int) else 0) else -1),(s:Int))) n (fun s hs=>by
  unfold cH
  simp only
  rw[if_pos (by simp;omega),ax (xs:=live a) (by omega) (by omega)];simp only[aa]
  rw[DU V hn,V.acc (by omega) (by omega)];simp only[ai (show s<9223372036854775807 by omega)]
  cases nth (live a) (s:Int) <;> cases nth a.2.1 (s:Int) <;> simp only[if_true,if_false,Bool.false_eq_true,aa] <;> rw[aI (by simp;omega)] <;> rfl) (by
  unfold cH
  simp only
  rw[if_neg (by simp;omega)]) (ju (by omega))
 unfold Jm
 rw[hlen]
 exact this
theorem Mo: ∃J,cI a (J+1)=cI a J/\jb a=some (cI a J):=by
 have hlen:=V.len
 unfold jb
 rw[show kA (a.1,a.2.1,a.2.2)=some (live a) from QR V hn];simp only[aa]
 rw[af (VE V hn)]
 obtain ⟨J0,hJ0,hfix⟩:=Ts a
 obtain ⟨o,e,j,rfl,hj⟩:=bX (f:=kB a) (fun j s=>s=(cI a j,(j:Int))/\j<=J0) (fun o=> ∃j,o= .ret (cI a j)/\cI a (j+1)=cI a j) (J0+1) (s:=(cI a 0,0)) (by
  rintro j s hj ⟨rfl,hjJ⟩
  have hcl:(cI a j).length=n:=by rw[nk,hlen]
  unfold kB
  simp only
  rw[if_pos (by simp;omega),af (Px V hn hcl)]
  simp only
  obtain ⟨r,er,hr⟩:=Fz (AF a (cI a j)) (cI a j) (by rw[yO];omega)
  rw[er];simp only[aa,ai (show j<9223372036854775807 by omega)]
  by_cases h:AF a (cI a j)=cI a j
  ·exact .inr ⟨_,by rw[if_pos (by simpa using hr.2 h)],(fun s' e=>by cases e),j,rfl,h⟩
  ·refine .inl ⟨by omega,(cI a (j+1),((j+1:Nat):Int)),by rw[if_neg (by simpa using fun e=>h (hr.1 e))];rfl,rfl,?_⟩
   by_cases e:j=J0
   ·subst e;exact absurd hfix h
   ·omega) ⟨rfl,Nat.zero_le _⟩ (ju (by omega))
 exact ⟨j,hj,bN e⟩
theorem Mq: ∃J,cI a (J+1)=cI a J/\dy a=some (cI a J):=by
 have hlen:=V.len
 unfold dy
 rw[show eQ (a.1,a.2.1,a.2.2)=some (live a) from Vo V hn];simp only[aa]
 rw[af (VF V hn)]
 let kk:Nat->Int:=fun j=>match j with | 0=> -1 | i+1=>(wT a (cI a i):Int)
 obtain ⟨o,e,j,rfl,hj⟩:=bX (f:=fF a) (fun j s=>s=(cI a j,kk j)/\(j:Int)<=kk j+1) (fun o=> ∃j,o= .ret (cI a j)/\cI a (j+1)=cI a j) (n+2) (s:=(cI a 0,-1)) (by
  rintro j s hj ⟨rfl,hjk⟩
  have hcl:(cI a j).length=n:=by rw[nk,hlen]
  have hle:=FC a (cI a j)
  unfold fF
  simp only
  rw[show dG (a.1,a.2.1,a.2.2) (cI a j)=some (AF a (cI a j),(wT a (cI a j):Int)) from Py V hn hcl];simp only[aa]
  cases j with
  | zero =>
   refine .inl ⟨by omega,(cI a 1,kk 1),by rw[if_neg (by show¬((wT a (cI a 0):Int) == -1)=true;simp)];rfl,rfl,?_⟩
   show (1:Int)<=(wT a (cI a 0):Int)+1
   omega
  | succ i =>
   obtain ⟨g1,g2⟩:=Mm a i
   have hki:kk (i+1)=(wT a (cI a i):Int):=rfl
   rw[hki] at hjk⊢
   by_cases h:wT a (cI a (i+1))=wT a (cI a i)
   ·refine .inr ⟨.ret (cI a (i+2)),by rw[if_pos (by simp[h])];rfl,(fun s' e=>by cases e),i+2,rfl,?_⟩
    have:=g2 h
    show AF a (cI a (i+2))=cI a (i+2)
    rw[this];exact this
   ·refine .inl ⟨?_,(cI a (i+2),kk (i+2)),by rw[if_neg (by simp;omega)];rfl,rfl,?_⟩
    ·omega
    ·show ((i+1+1:Nat):Int)<=(wT a (cI a (i+1)):Int)+1
     omega) ⟨rfl,by show ((0:Nat):Int)<= -1+1;omega⟩ (ju (by omega))
 exact ⟨j,hj,bN e⟩
theorem IX: ∃c,jb a=some c/\dy a=some c/\c.length=n/\AF a c=c/\ ∃j,c=cI a j:=by
 obtain ⟨J,hJ,es⟩:=Mo V hn
 obtain ⟨J',hJ',ei⟩:=Mq V hn
 have:=Mn hJ hJ'
 exact ⟨cI a J,es,by rw[this];exact ei,by rw[nk,V.len],hJ,J,rfl⟩
end
end D
namespace D
open Go.RowKit
section
variable {κ:Type} [DecidableEq κ] [Inhabited κ] {nx:κ->List (Option κ)} {first:κ} {G:κ->Prop} {B N:Nat} {acc:κ->Bool}
theorem yR: ∀(l:List κ) (os:List (Option κ)),∀t∈nbR l os,-1<=t/\t<((nbS l os).length:Int)
 | l,[] =>fun t ht=>by cases ht
 | l,o::os=>fun t ht=>by
  have hp:=iJ (nbL l o) os
  have hl:=hp.length_le
  rcases az ht with rfl | ht
  ·show -1<=nbI l o/\nbI l o<((nbS (nbL l o) os).length:Int)
   cases o with
   | none=>exact ⟨by simp[nbI],by simp only[nbI];omega⟩
   | some y =>
    by_cases c:y∈l
    ·obtain ⟨q,hq,e,-⟩:=oc c
     rw[jB c] at hl
     rw[e];exact ⟨by omega,by rw[jB c];omega⟩
    ·rw[iS c] at hl
     rw[BW c];rw[aj] at hl
     exact ⟨by omega,by rw[iS c];simp at hl;omega⟩
  ·exact yR (nbL l o) os t ht
theorem VG (H:NumOk nx first G B) (hN:bfE nx first N):VA ((0,(bfS nx first N).map acc,bfR nx first N):AutT) N:=by
 have h0:0<N:=by
  have:=yG (nx:=nx) (first:=first) N
  have:=(List.getElem?_eq_some_iff.1 this).1
  have:=hN.1;omega
 have key: ∀i,i<=N-> ∀r∈bfR nx first i,r.length=9/\ ∀t∈r,-1<=t/\t<(N:Int):=by
  intro i
  induction i with
  | zero=>intro _ r hr;cases hr
  | succ i ih =>
   intro hi r hr
   have hlt:=hN.2 i (by omega)
   rw[rv hlt] at hr
   rcases aH hr with hr | hr
   ·exact ih (by omega) r hr
   ·obtain rfl:=al hr
    refine ⟨by rw[eN,H.len _ (iK H.g0 H.gn i _ (List.getElem_mem hlt))],fun t ht=>?_⟩
    have:=yR _ _ t ht
    rw[<-wQ hlt] at this
    have hl:=(kJ (nx:=nx) (first:=first) hi).length_le
    have:=hN.1
    omega
 exact ⟨by show ((bfS nx first N).map acc).length=N;rw[List.length_map];exact hN.1.symm,⟨Int.le_refl _,by show (0:Int)<N;omega⟩,iL hN.2,fun r hr=>(key N (aC _) r hr).1,fun r hr=>(key N (aC _) r hr).2⟩
theorem Mr (hlen: ∀x,(nx x).length=9) (hN:bfE nx first N):VA ((0,(bfS nx first N).map acc,bfR nx first N):AutT) N:=by
 have h0:0<N:=by
  have:=yG (nx:=nx) (first:=first) N
  have:=(List.getElem?_eq_some_iff.1 this).1
  have:=hN.1;omega
 have key: ∀i,i<=N-> ∀r∈bfR nx first i,r.length=9/\ ∀t∈r,-1<=t/\t<(N:Int):=by
  intro i
  induction i with
  | zero=>intro _ r hr;cases hr
  | succ i ih =>
   intro hi r hr
   have hlt:=hN.2 i (by omega)
   rw[rv hlt] at hr
   rcases aH hr with hr | hr
   ·exact ih (by omega) r hr
   ·obtain rfl:=al hr
    refine ⟨by rw[eN,hlen _],fun t ht=>?_⟩
    have:=yR _ _ t ht
    rw[<-wQ hlt] at this
    have hl:=(kJ (nx:=nx) (first:=first) hi).length_le
    have:=hN.1
    omega
 exact ⟨by show ((bfS nx first N).map acc).length=N;rw[List.length_map];exact hN.1.symm,⟨Int.le_refl _,by show (0:Int)<N;omega⟩,iL hN.2,fun r hr=>(key N (aC _) r hr).1,fun r hr=>(key N (aC _) r hr).2⟩
end
theorem VA.self {a:AutT} {n:Nat} (v:VA a n):VA a a.2.1.length:=by
 have e:=v.len
 subst e
 exact v
theorem IY:VA nothing 1:=⟨rfl,⟨by decide,by decide⟩,rfl,fun r hr=>by
 obtain rfl:=al hr
 decide,fun r hr=>by
 obtain rfl:=al hr
 decide⟩
end D
namespace D
open Go.RowKit
theorem Tt {l:List Int} {x:Int} (hl:l.length<=1000000) (hx:x∈l):bc x l=some (nbI l (some x)):=by
 unfold bc eF
 obtain ⟨o,e,hq⟩:=bX (f:=dC l x) (fun k s=>s=(k:Int)/\x∉l.take k) (fun o=>o= .ret (nbI l (some x))) l.length (s:=0) (by
  rintro k s hk ⟨rfl,hx'⟩
  unfold dC
  by_cases hkl:k<l.length
  ·rw[if_pos (by simp;omega),ax (by omega) (by omega)];simp only[aa]
   by_cases h:nth l (k:Int)=x
   ·refine .inr ⟨_,by rw[if_pos (by simp[h])],(fun s' e=>by cases e),?_⟩
    have e:l=l.take k++(x::l.drop (k+1)):=by
     rw[<-h,bT hkl,<-List.drop_eq_getElem_cons hkl,List.take_append_drop]
    rw[DT e hx',aE,Nat.min_eq_left (by omega)]
   ·have h': ¬x=nth l (k:Int):=fun e=>h e.symm
    refine .inl ⟨hkl,_,by rw[if_neg (by simpa using h')],by rw[ai (by omega)],?_⟩
    rw[take_one hkl,List.mem_append,List.mem_singleton]
    rintro (h' | h')
    ·exact hx' h'
    ·exact h h'.symm
  ·rw[List.take_of_length_le (by omega)] at hx'
   exact absurd hx hx') ⟨rfl,by simp⟩ (ju (by omega))
 subst hq
 rw[bN e];rfl
section
variable {a:AutT} {n:Nat}
def rep (c:List Int) (x:Int):Int:=nbI c (some x)
theorem Ms {c:List Int} {x:Int} (h:x∈c):0<=rep c x/\rep c x<c.length/\nth c (rep c x)=x:=by
 obtain ⟨q,hq,e1,e2⟩:=oc h
 unfold rep
 rw[e1]
 exact ⟨by omega,by omega,by rw[bT hq,e2]⟩
def X4 (a:AutT) (n:Nat) (r:AutT):Prop:=(nth (live a) a.1=false/\r=nothing)\/(nth (live a) a.1=true/\ ∃(j:Nat) (c:List Int) (nx:Int->List (Option Int)) (ac:Int->Bool) (N:Nat),c=cI a j/\(∀r,good n (live a) r->nx (nth c r)=te a c (live a) r)/\(∀r,good n (live a) r->ac (nth c r)=nth a.2.1 r)/\bfE nx (nth c a.1) N/\(∀x∈bfS nx (nth c a.1) N,(nx x).length=9)/\r=(0,(bfS nx (nth c a.1) N).map ac,bfR nx (nth c a.1) N))
theorem IZ (V:VA a n) (hn:n<=1000000): ∃r,fC a=some r/\cB a=some r/\Data.sm r/\VA r r.2.1.length/\r.2.1.length<=n/\X4 a n r:=by
 have hlen:=V.len
 have hst:=V.start
 have hll:(live a).length=n:=by rw[tc,hlen]
 obtain ⟨c,es,ei,hcl,hfix,j,hj⟩:=IX V hn
 have hneg: ∀s:Int,0<=s->s<n->(nth c s<0↔nth (live a) s=false):=fun s h0 h1=>by
  have:=(AG a (s:=s.toNat) (by omega) j).1
  rw[<-hj,show ((s.toNat:Nat):Int)=s from by omega] at this
  exact this
 have hlt: ∀s:Int,0<=s->s<n->nth c s<n:=fun s h0 h1=>by
  have:=Tp (c:=c) (a:=a) (s:=s.toNat) (by omega)
  rw[hfix,hlen,show ((s.toNat:Nat):Int)=s from by omega] at this
  exact this
 have hpos: ∀r,good n (live a) r->0<=nth c r:=fun r hr=>by
  have:=hneg r hr.1 hr.2.1
  by_cases k:nth c r<0
  ·have:=this.1 k;rw[hr.2.2] at this;cases this
  ·omega
 have hkey: ∀r t:Int,0<=r->r<n->0<=t->t<n->0<=nth c r->nth c r=nth c t->BY a c r=BY a c t:=fun r t r0 r1 t0 t1 h0 h=>by
  have:=Ml (a:=a) (c:=c) (s:=r.toNat) (t:=t.toNat) (by omega) (by omega) (by rw[hfix,show ((r.toNat:Nat):Int)=r from by omega];exact h0) (by rw[hfix,show ((r.toNat:Nat):Int)=r from by omega,show ((t.toNat:Nat):Int)=t from by omega];exact h)
  rwa [show ((r.toNat:Nat):Int)=r from by omega,show ((t.toNat:Nat):Int)=t from by omega] at this
 have hacc: ∀r t:Int,0<=r->r<n->0<=t->t<n->0<=nth c r->nth c r=nth c t->nth a.2.1 r=nth a.2.1 t:=fun r t r0 r1 t0 t1 h0 h=>by
  have:=QW a (s:=r.toNat) (t:=t.toNat) (by omega) (by omega) j (by rw[<-hj,show ((r.toNat:Nat):Int)=r from by omega];exact h0) (by rw[<-hj,show ((r.toNat:Nat):Int)=r from by omega,show ((t.toNat:Nat):Int)=t from by omega];exact h)
  rwa [show ((r.toNat:Nat):Int)=r from by omega,show ((t.toNat:Nat):Int)=t from by omega] at this
 have hsuccs: ∀r,good n (live a) r->te a c (live a) r=(List.range 9).map fun k=>if 0<=ent a c r k then some (ent a c r k) else none:=fun r hr=>by
  refine List.map_congr_left fun k hk=>?_
  have hk:k<9:=List.mem_range.1 hk
  have hm:=V.mv hr.1 hr.2.1 hk
  unfold ent
  by_cases h:mv a r k<0
  ·rw[if_pos h,if_neg (fun h'=>by omega),if_neg (by omega)]
  ·rw[if_neg h]
   have:=hneg (mv a r k) (by omega) hm.2
   cases hl:nth (live a) (mv a r k) with
   | false =>
    have:=this.2 hl
    rw[if_neg (fun h'=>by cases h'.2),if_neg (by omega)]
   | true =>
    have: ¬nth c (mv a r k)<0:=fun h'=>by have:=this.1 h';rw[hl] at this;cases this
    rw[if_pos ⟨by omega,rfl⟩,if_pos (by omega)]
 have hent: ∀r t:Int,BY a c r=BY a c t-> ∀k,k<9->ent a c r k=ent a c t k:=fun r t h k hk=>by
  have h:(List.range 9).map (fun k=>ent a c r k)=(List.range 9).map (fun k=>ent a c t k):=by unfold BY at h;injection h
  have:=congrArg (fun l:List Int=>l[k]?) h
  simpa [hk] using this
 let nx:Int->List (Option Int):=fun x=>te a c (live a) (rep c x)
 let acc:Int->Bool:=fun x=>nth a.2.1 (rep c x)
 let G:Int->Prop:=fun x=> ∃r,good n (live a) r/\nth c r=x
 have Gm: ∀x,G x->x∈c/\0<=x/\good n (live a) (rep c x):=by
  rintro x ⟨r,hr,rfl⟩
  have hm:nth c r∈c:=bg hr.1 (by rw[hcl];exact hr.2.1)
  obtain ⟨h0,h1,h2⟩:=Ms hm
  have hp:=hpos r hr
  refine ⟨hm,hp,h0,by omega,?_⟩
  have:=hneg (rep c (nth c r)) h0 (by omega)
  rw[h2] at this
  cases hl:nth (live a) (rep c (nth c r)) with
  | true=>rfl
  | false=>have:=this.2 hl;omega
 have hnx: ∀r,good n (live a) r->nx (nth c r)=te a c (live a) r:=fun r hr=>by
  obtain ⟨hm,hp,hg⟩:=Gm _ ⟨r,hr,rfl⟩
  obtain ⟨h0,h1,h2⟩:=Ms hm
  show te a c (live a) (rep c (nth c r))=_
  rw[hsuccs _ hg,hsuccs _ hr]
  refine List.map_congr_left fun k hk=>?_
  rw[hent _ _ (hkey _ _ hg.1 hg.2.1 hr.1 hr.2.1 (by rw[h2];exact hp) h2) k (List.mem_range.1 hk)]
 have hac: ∀r,good n (live a) r->acc (nth c r)=nth a.2.1 r:=fun r hr=>by
  obtain ⟨hm,hp,hg⟩:=Gm _ ⟨r,hr,rfl⟩
  obtain ⟨h0,h1,h2⟩:=Ms hm
  exact hacc _ _ hg.1 hg.2.1 hr.1 hr.2.1 (by rw[h2];exact hp) h2
 have hgn: ∀r,good n (live a) r-> ∀y,some y∈te a c (live a) r->G y:=fun r hr y h=>by
  obtain ⟨k,hk,e⟩:=List.mem_map.1 h
  have hk:k<9:=List.mem_range.1 hk
  split at e
  ·rename_i hc
   exact ⟨mv a r k,⟨hc.1,(V.mv hr.1 hr.2.1 hk).2,hc.2⟩,ae e⟩
  ·cases e
 unfold fC cB
 simp only[iP]
 rw[es,ei,QR V hn];simp only[aa]
 rw[ax hst.1 (by omega)];simp only[aa]
 cases hs:nth (live a) a.1 with
 | false =>
  have:=(hneg a.1 hst.1 hst.2).2 hs
  rw[Fx V hll hs,if_pos (by simpa using this),Me]
  exact ⟨nothing,rfl,rfl,IW,IY,V.pos,.inl ⟨hs,rfl⟩⟩
 | true =>
  have hst':good n (live a) a.1:=⟨hst.1,hst.2,hs⟩
  have hp:=hpos _ hst'
  have H:NumOk nx (nth c a.1) G n:=⟨⟨a.1,hst',rfl⟩,fun x hx y hy=>hgn _ (Gm x hx).2.2 y hy,fun x hx=>by simp[nx,te],fun l hd h=>IV n l hd fun x hx=>by
   obtain ⟨r,hr,rfl⟩:=h x hx
   exact ⟨hpos r hr,hlt r hr.1 hr.2.1⟩⟩
  obtain ⟨N,hN,e1⟩:=Vq (acc:=acc) V hn hcl hll hs H hn hnx hac
  have hfirst: ∀x,G x->bc x c=some (rep c x):=fun x hx=>Tt (by omega) (Gm x hx).1
  obtain ⟨N',hN',e2⟩:=Vp (most:=(c.length:Int)) (p2:=fun a0=>cJ a0 (a.1,a.2.1,a.2.2) (fun a0=>bc a0 c)) (p3:=fun a0 a1=>cK a0 a1 (a.1,a.2.1,a.2.2) (fun a0=>bc a0 c) c) (acc:=acc) H hn (by omega) (fun x hx=>Vy hn (Gm x hx).2.1 (by
    obtain ⟨r,hr,rfl⟩:=hx
    exact hlt r hr.1 hr.2.1)) (fun x hx=>by
   show cJ x (a.1,a.2.1,a.2.2) (fun a0=>bc a0 c)=_
   unfold cJ
   simp only
   rw[hfirst x hx];simp only[aa]
   rw[V.acc (Gm x hx).2.2.1 (Gm x hx).2.2.2.1];rfl) (fun x k hx hk=>by
   obtain ⟨hm,hx0,hg⟩:=Gm x hx
   have hm':=V.mv hg.1 hg.2.1 hk
   refine ⟨0,?_⟩
   show cK x k (a.1,a.2.1,a.2.2) (fun a0=>bc a0 c) c=_
   unfold cK
   simp only
   rw[hfirst x hx];simp only[aa]
   rw[show aS (a.1,a.2.1,a.2.2) (rep c x) k=some (mv a (rep c x) k) from we V hg.1 hg.2.1 hk];simp only[aa]
   show _=some (match nth (te a c (live a) (rep c x)) (k:Int) with | some y=>(y,true) | none=>(0,false))
   rw[Hi hk]
   by_cases h:mv a (rep c x) k<0
   ·rw[if_pos (by simpa using h),if_neg (fun h'=>by omega)]
   ·rw[if_neg (by simpa using h),ax (by omega) (by omega)];simp only[aa]
    have hng:=hneg (mv a (rep c x) k) (by omega) hm'.2
    cases hl:nth (live a) (mv a (rep c x) k) with
    | false =>
     have:=hng.2 hl
     rw[if_pos (by simpa using this),if_neg (fun h'=>by cases h'.2)]
    | true =>
     have: ¬nth c (mv a (rep c x) k)<0:=fun h'=>by have:=hng.1 h';rw[hl] at this;cases this
     rw[if_neg (by simpa using this),if_pos ⟨by omega,rfl⟩])
  obtain rfl:=Hc hN hN'
  have v:=VG (acc:=acc) H hN
  refine ⟨_,by rw[e1];rfl,?_,Vz H hn hN,v.self,?_,.inr ⟨hs,j,c,nx,acc,N,hj,hnx,hac,hN,fun x _=>by simp[nx,te],rfl⟩⟩
  rotate_left
  ·rw[v.len,hN.1];exact H.bound _ (km N) (iK H.g0 H.gn N)
  rw[if_neg (by simp;omega)]
  exact (congrArg (fun x=>Option.bind x _) e2).trans rfl
theorem I0 (V:VA a n) (hn:n<=1000000): ∃r,fC a=some r/\cB a=some r/\Data.sm r/\VA r r.2.1.length/\r.2.1.length<=n:=by
 obtain ⟨r,h1,h2,h3,h4,h5,-⟩:=IZ V hn
 exact ⟨r,h1,h2,h3,h4,h5⟩
theorem Pz (V:VA a n) (hn:n<=1000000): ∃r,fC a=some r/\cB a=some r/\Data.sm r:=by
 obtain ⟨r,h1,h2,h3,-⟩:=I0 V hn
 exact ⟨r,h1,h2,h3⟩
end
end D
namespace D
open Go.RowKit
theorem FD {κ:Type} [DecidableEq κ] {nx:κ->List (Option κ)} {first:κ} {acc:κ->Bool} {most:Nat} : ∀(f i:Nat),(∀j,j<i->j<(bfS nx first j).length)->(bfS nx first i).length<=most->goM nx first acc most f i=((0,[],[]),false)\/ ∃N,bfE nx first N/\N<=most/\goM nx first acc most f i=((0,(bfS nx first N).map acc,bfR nx first N),true)
 | 0,i,_,_=>.inl rfl
 | f+1,i,h,hl=>by
  have hle:=BV h
  rw[goM]
  by_cases c:i<(bfS nx first i).length
  ·rw[if_pos c]
   by_cases d:(bfS nx first (i+1)).length>most
   ·rw[if_pos d];exact .inl rfl
   ·rw[if_neg d]
    exact FD f (i+1) (fun j hj=>by
     by_cases e:j=i
     ·subst e;exact c
     ·exact h j (by omega)) (by omega)
  ·rw[if_neg c]
   exact .inr ⟨i,⟨by omega,h⟩,by omega,by rw[List.take_of_length_le (by omega)]⟩
end D
namespace D
open Go.RowKit
theorem py:Data.sm ((0,[],[]):AutT):=⟨trivial,⟨by decide,fun _ h=>by cases h⟩,by decide,fun _ h=>by cases h⟩
theorem DV {e:List Tok} (he:e.length<=1048576): ∃r:AutT×Bool,m_s_CompileExpr e=some r/\gM e=some r/\Data.sm r.1:=by
 obtain ⟨⟨p,b⟩,e1,e2,h1,h2⟩:=tf he
 have h1:p.2.2.2.1.length=p.1.length:=h1
 have h2:p.1.length<=100000:=h2
 unfold m_s_CompileExpr gM
 rw[e1,e2];simp only[aa,iP]
 cases b with
 | false=>exact ⟨((0,[],[]),false),rfl,rfl,py⟩
 | true =>
  have d1:=Vv (p:=p) (most:=200) h1 (by omega) (by omega) (by omega)
  have d2:=W4 (p:=p) (most:=200) h1 (by omega) (by omega) (by omega)
  have d1:dk p 200=_:=d1
  have d2:gK p 200=_:=d2
  rw[d1,d2];simp only[if_true,aa]
  rcases FD (nx:=nxS p) (first:=1) (acc:=qJ p) (most:=200) (200+2) 0 (fun j hj=>by omega) (by simp[bfS]) with e | ⟨N,hN,hNm,e⟩
  ·rw[e]
   exact ⟨((0,[],[]),false),rfl,rfl,py⟩
  ·rw[e];simp only[if_true]
   have V:=Mr (acc:=qJ p) (yN p) hN
   obtain ⟨r,es,ei,hr⟩:=Pz V (by omega)
   unfold xW
   rw[es];simp only[aa,iP]
   rw[ei];simp only[aa,iP]
   by_cases c:(r.2.1.length:Int)>12
   ·have c':decide ((r.2.1.length:Int)>12)=true:=decide_eq_true c
    simp only[c',if_true,aa]
    exact ⟨((0,[],[]),false),rfl,rfl,py⟩
   ·have c':decide ((r.2.1.length:Int)>12)=false:=decide_eq_false c
    simp only[c',Bool.false_eq_true,if_false,aa]
    exact ⟨(r,true),rfl,rfl,hr⟩
theorem yS {e:List Tok} (he:e.length<=1048576): ∃r:AutT×Bool,m_s_CompileExpr e=some r/\gM e=some r/\Data.sm r.1:=DV he
end D
open Go.ChangeShapes Go.WideShapes Go.ChangeAt Go.RowKit
theorem own:ownKnob Tryz.prog.godebug=none:=by kernel_rfl
theorem laidOut:laidOutB Tryz.prog=true:=by kernel_rfl
theorem uD {H:Type} {enc:TypeId×Value->H} {P:Program} (hl:laidOutB P=true) {W W':World} (hb:Below W.heap.size W W') :
  ∀ {ts:List TypeId} {vs:List Value} {ds:List (DataW H)} {ps:List MemPlace},(∀t∈ts,P.readableRec t=true/\t<P.types.size)->
   DataW.TrodAll enc P W 0 (fun _=>true) true ts vs ds ps->(∀x∈ps,x.block<W.heap.size)->DataW.TrodAll enc P W' 0 (fun b=>decide (b<W.heap.size)) true ts vs ds ps
 | [],[],[],ps,_,h,_=>h
 | t::ts,v::vs,d::ds,ps,hr,⟨p,q,h1,h2,h3⟩,hlt=>by
  subst h3
  exact ⟨p,q,Below.trod hl (hr t (by simp)).1 (hr t (by simp)).2 h1 hb fun x hx=>hlt x (by simp[hx]),uD hl hb (fun t ht=>hr t (by simp[ht])) h2 fun x hx=>hlt x (by simp[hx]),rfl⟩
 | [],_::_,_,_,_,h,_=>h.elim
 | [],[],_::_,_,_,h,_=>h.elim
 | _::_,[],_,_,_,h,_=>h.elim
 | _::_,_::_,[],_,_,h,_=>h.elim
theorem PA {H:Type} {enc:TypeId×Value->H} {f:Func} {s:ChangeSpec} {W W':World} {args:Array Value} {ds:List (DataW H)} {before:List MemPlace} (tb:TypeId)
  (hb:Tryz.prog.underlying tb=some .bool) (hr:f.resultTypes= #[tb]) (hp:(f.params.toList.all fun t=>Tryz.prog.readableRec t&&decide (t<Tryz.prog.types.size))=true) (hv:s.vars= [])
  (hW:DataW.Whole enc Tryz.prog f.params.toList s.vars false W args.toList ds [] before) (hres:(s.fn H (ds++ [])).results= [.lit (.bool true)]) (hargs:(s.fn H (ds++ [])).args=ds) (hvars:(s.fn H (ds++ [])).vars= [])
  (hbel:Below W.heap.size W W'):s.post enc Tryz.prog f false true false false W args (.bool true) W':=by
 obtain ⟨p,q,h1,h2,h3,h4,h5⟩:=hW
 have hW':DataW.Whole enc Tryz.prog f.params.toList s.vars false W args.toList ds [] before:=⟨p,q,h1,h2,h3,h4,h5⟩
 have hq:q= []:=by rw[hv] at h2;exact h2
 subst hq
 simp only[List.append_nil] at h3
 subst h3
 refine ⟨ds,[],before,[],before,[],hW',?_,?_,?_,hbel.frame _,fun h=>by cases h⟩
 ·rw[hres,hr]
  exact trodAll_mk1 (shut_bool hb true)
 ·rw[hargs]
  exact uD laidOut hbel (fun t ht=>by have:=List.all_eq_true.1 hp t ht;simpa using this) h1 fun x hx=>by simpa using hW'.lt x hx
 ·rw[hvars,hv];rfl
namespace D
open Go.RowKit
theorem tg (x y:AutT) (hx:Data.sm x):fD x y=some (decide (x=y)):=by
 obtain ⟨-,⟨ha,-⟩,hn,hr⟩:=hx
 unfold fD
 by_cases c1:x.1=y.1
 case neg=>rw[if_pos (by simpa using c1)];simp[Prod.ext_iff,c1]
 rw[if_neg (by simpa using c1)]
 by_cases c2:x.2.1.length=y.2.1.length
 case neg=>rw[if_pos (by simp;omega)];simp[Prod.ext_iff];exact fun _ e=>absurd (by rw[e]) c2
 rw[if_neg (by simp;omega)]
 by_cases c3:x.2.2.length=y.2.2.length
 case neg=>rw[if_pos (by simp;omega)];simp[Prod.ext_iff];exact fun _ _ e=>absurd (by rw[e]) c3
 rw[if_neg (by simp;omega)]
 rw[eqB (f:=fg x y) x.2.1 y.2.1 (by omega) c2 (fun i h h'=>by
  simp only[fg,cW h,if_true,aO h,aO h',aa,ai (show i<9223372036854775807 by omega)]
  by_cases c:x.2.1[i] =y.2.1[i] <;> simp[c]) (by simp only[fg,cx];rfl)]
 by_cases c4:x.2.1=y.2.1
 case neg=>rw[if_neg c4];simp[Prod.ext_iff,c4]
 rw[if_pos c4]
 rw[eqB (f:=fh x y) x.2.2 y.2.2 (by omega) c3 (fun i h h'=>by
  obtain ⟨r,e,hr'⟩:=Fz x.2.2[i] y.2.2[i] ((hr _ (List.getElem_mem h)).1)
  simp only[fh,cW h,if_true,aO h,aO h',aa,ai (show i<9223372036854775807 by omega),e]
  by_cases c:x.2.2[i] =y.2.2[i]
  ·rw[if_neg (by simpa using hr'.2 c),if_pos c]
  ·rw[if_pos (by simpa using fun e=>c (hr'.1 e)),if_neg c]) (by simp only[fh,cx];rfl)]
 by_cases c5:x.2.2=y.2.2
 ·rw[if_pos c5];simp[Prod.ext_iff,c1,c4,c5]
 ·rw[if_neg c5];simp[Prod.ext_iff,c5]
theorem PB (xs ys:List Bool) (hN:xs.length<=9223372036854775807):dK xs ys=some (decide (xs=ys)):=
 eqL (f:=cm xs ys) xs ys hN (fun i h h'=>by
  simp only[cm,cW h,if_true,aO h,aO h',aa,ai (show i<9223372036854775807 by omega)]
  by_cases c:xs[i] =ys[i] <;> simp[c]) (by simp only[cm,cx];rfl)
theorem yT (x y:AutT) (hx:Data.sm x):dS x y=some (decide (x=y)):=by
 obtain ⟨-,⟨ha,-⟩,hn,hr⟩:=hx
 unfold dS
 by_cases c1:x.1=y.1
 case neg=>rw[if_neg (by simpa using c1)];simp[Prod.ext_iff,c1]
 rw[if_pos (by simpa using c1),PB _ _ (by omega)];simp only[aa]
 by_cases c2:x.2.1=y.2.1
 case neg=>rw[if_neg (by simpa using c2)];simp[Prod.ext_iff,c2]
 rw[if_pos (by simpa using c2)]
 have:bG x.2.2 y.2.2 (fun a0 a1=>fO a0 a1)=some (decide (x.2.2=y.2.2)):=
  eqL (f:=aZ x.2.2 y.2.2 _) x.2.2 y.2.2 (by omega) (fun i h h'=>by
   simp only[aZ,cW h,if_true,aO h,aO h',aa,ai (show i<9223372036854775807 by omega),fO]
   rw[DS _ _ (by have:x.2.2[i].length<=1048576:=(hr _ (List.getElem_mem h)).1;omega)];simp only[aa]
   by_cases c:x.2.2[i] =y.2.2[i] <;> simp[c]) (by simp only[aZ,cx];rfl)
 rw[this]
 by_cases c3:x.2.2=y.2.2 <;> simp[Prod.ext_iff,c1,c2,c3]
end D
set_option synthInstance.maxSize 20000
set_option synthInstance.maxHeartbeats 2000000
namespace D
open Go.RowKit
abbrev QT:=Int×List Tok×Int
abbrev rM:=List AutT×List QT
theorem PC (x y:List Tok) (hx:x.length<=1048576):kP x y=some (decide (x=y)):=by
 unfold kP
 exact eqL (f:=ix x y) x y (by omega) (fun i h h'=>by
  simp only[ix,cW h,if_true,aO h,aO h',aa,iP,ai (show i<9223372036854775807 by omega)]
  refine DN ?_;simp only[Bool.and_true,ah,beq_iff_eq];exact XO) (by simp only[ix,cx];rfl)
theorem Mt (x y:List Tok) (hx:x.length<=1048576):cy x y=some (decide (x=y)):=by
 unfold cy
 exact eqL (f:=bW x y) x y (by omega) (fun i h h'=>by
  simp only[bW,cW h,if_true,aO h,aO h',aa,iP,ai (show i<9223372036854775807 by omega)]
  refine DN ?_;simp only[Bool.and_true,ah,beq_iff_eq];exact XO) (by simp only[bW,cx];rfl)
theorem PD (x y:List Tok) (hx:x.length<=1048576):kR x y=some (decide (x=y)):=by
 unfold kR
 rw[Mt x y hx];rfl
theorem uE (x y:rM) (hx:Data.sm x):fN x y=some (decide (x=y)):=by
 obtain ⟨⟨ha,hA⟩,hq,hQ⟩:=hx
 unfold fN
 by_cases h1:x.1.length=y.1.length
 ·by_cases h2:x.2.length=y.2.length
  ·rw[if_neg (by rw[h1];simp),if_neg (by rw[h2];simp)]
   rw[eqB (f:=eB x y) x.1 y.1 (by omega) h1 (fun i h h'=>by
    simp only[eB,cW h,if_true,aO h,aO h',aa,iP,tg x.1[i] y.1[i] (hA _ (List.getElem_mem h)),ai (show i<9223372036854775807 by omega)]
    exact DN (by simp)) (by simp only[eB,cx];rfl)]
   rw[eqB (f:=eC x y) x.2 y.2 (by omega) h2 (fun i h h'=>by
    have e:=PC x.2[i].2.1 y.2[i].2.1 (hQ _ (List.getElem_mem h)).2.1.1
    simp only[eC,cW h,if_true,aO h,aO h',aa,e,ai (show i<9223372036854775807 by omega)]
    generalize x.2[i] =u;generalize y.2[i] =v
    by_cases e1:u.1=v.1 <;> by_cases e2:u.2.1=v.2.1 <;> by_cases e3:u.2.2=v.2.2 <;> simp[Prod.ext_iff,e1,e2,e3]) (by simp only[eC,cx];rfl)]
   by_cases e1:x.1=y.1 <;> by_cases e2:x.2=y.2 <;> simp[Prod.ext_iff,e1,e2]
  ·have:x.2≠y.2:=fun e=>h2 (by rw[e])
   rw[if_neg (by rw[h1];simp),if_pos (by simp;omega)];simp[Prod.ext_iff,this]
 ·have:x.1≠y.1:=fun e=>h1 (by rw[e])
  rw[if_pos (by simp;omega)];simp[Prod.ext_iff,this]
theorem I1 (x y:QT) (hx:Data.sm x):gb x y=some (decide (x=y)):=by
 unfold gb
 rw[PD x.2.1 y.2.1 hx.2.1.1];simp only[aa]
 by_cases h1:x.1=y.1 <;> by_cases h2:x.2.1=y.2.1 <;> by_cases h3:x.2.2=y.2.2 <;> simp[Prod.ext_iff,h1,h2,h3]
theorem B0 (x y:rM) (hx:Data.sm x):fP x y=some (decide (x=y)):=by
 obtain ⟨⟨ha,hA⟩,hq,hQ⟩:=hx
 unfold fP
 have e:aY x.1 y.1 (fun a0 a1=>dS a0 a1)=some (decide (x.1=y.1)):=
  eqL (f:=aL x.1 y.1 _) x.1 y.1 (by omega) (fun i h h'=>by
   simp only[aL,cW h,if_true,aO h,aO h',aa,iP,ai (show i<9223372036854775807 by omega),yT x.1[i] y.1[i] (hA _ (List.getElem_mem h))]
   exact DN (by simp)) (by simp only[aL,cx];rfl)
 have e':aV x.2 y.2 (fun a0 a1=>gb a0 a1)=some (decide (x.2=y.2)):=
  eqL (f:=aK x.2 y.2 _) x.2 y.2 (by omega) (fun i h h'=>by
   simp only[aK,cW h,if_true,aO h,aO h',aa,iP,ai (show i<9223372036854775807 by omega),I1 x.2[i] y.2[i] (hQ _ (List.getElem_mem h))]
   exact DN (by simp)) (by simp only[aK,cx];rfl)
 rw[e,e'];simp only[aa]
 by_cases h1:x.1=y.1 <;> by_cases h2:x.2=y.2 <;> simp[Prod.ext_iff,h1,h2]
theorem rA {R S:Type} {f g:S->Option (Out R S)} (Inv:Nat->S->Prop) (h: ∀i s,Inv i s->g s=f s/\ ∀s',f s=some (.nxt s')->Inv (i+1) s'): ∀(k i:Nat) (s:S),Inv i s->ay g k s=ay f k s
 | 0,_,_,_=>rfl
 | k+1,i,s,hI=>by
  obtain ⟨h1,h2⟩:=h i s hI
  rw[ay,ay,h1]
  cases e:f s with
  | none=>rfl
  | some o =>
   cases o with
   | nxt s'=>exact rA Inv h k (i+1) s' (h2 s' e)
   | brk s'=>rfl
   | ret r=>rfl
theorem Ho {f g:Int->Option (Out Int Int)} (N:Nat) (hN:N<=1048576) (h: ∀i:Nat,i<N->f (i:Int)=some (.ret (i:Int))\/f (i:Int)=some (.nxt ((i+1:Nat):Int))) (he:f (N:Int)=some (.brk (N:Int))) (hfg: ∀i:Nat,i<=N->g (i:Int)=f (i:Int)) :
  ∃r:Int,aM (ay f aQ 0) (fun r=>some r) (fun _=>some (-1))=some r/\aM (ay g aQ 0) (fun r=>some r) (fun _=>some (-1))=some r/\(r= -1\/ ∃i:Nat,i<N/\r=(i:Int)):=by
 have hs:ay g aQ 0=ay f aQ 0:=rA (fun i s=>s=(i:Int)/\i<=N) (fun i s ⟨e,hi⟩=>by
  subst e
  refine ⟨hfg i hi,fun s' e=>?_⟩
  by_cases c:i<N
  ·rcases h i c with e2 | e2
   ·rw[e2] at e;cases e
   ·rw[e2] at e;cases e;exact ⟨rfl,c⟩
  ·obtain rfl:i=N:=by omega
   rw[he] at e;cases e) aQ 0 0 ⟨rfl,Nat.zero_le _⟩
 rw[hs]
 obtain ⟨o,e,ho⟩:=bX (f:=f) (fun i s=>s=(i:Int)) (fun o=>o= .brk (N:Int)\/ ∃i:Nat,i<N/\o= .ret (i:Int)) N (fun i s hi hs=>by
  subst hs
  by_cases h1:i<N
  ·rcases h i h1 with h2 | h2
   ·exact .inr ⟨_,h2,(fun s' e=>by cases e),.inr ⟨i,h1,rfl⟩⟩
   ·exact .inl ⟨h1,_,h2,rfl⟩
  ·obtain rfl:i=N:=by omega
   exact .inr ⟨_,he,(fun s' e=>by cases e),.inl rfl⟩) (s:=0) rfl (jO _ (by omega))
 rw[e]
 rcases ho with rfl | ⟨i,hi,rfl⟩
 ·exact ⟨-1,rfl,rfl,.inl rfl⟩
 ·exact ⟨i,rfl,rfl,.inr ⟨i,hi,rfl⟩⟩
theorem I2 (l:List AutT) (a:AutT) (hl:l.length<=1048576) (hs: ∀x∈l,Data.sm x) (ha:Data.sm a): ∃r:Int,dQ l a=some r/\a8 l (fun a0=>k9 a0 a)=some r/\(r= -1\/ ∃i:Nat,i<l.length/\r=(i:Int)):=by
 unfold dQ a8
 have hf: ∀i (h:i<l.length),dq l a (i:Int)=if l[i] =a then some (.ret (i:Int)) else some (.nxt ((i+1:Nat):Int)):=fun i h=>by
  simp only[dq,cW h,if_true,aO h,aa,iP,tg l[i] a (hs _ (List.getElem_mem h)),ai (show i<9223372036854775807 by omega)]
  by_cases c:l[i] =a <;> simp[c]
 refine Ho l.length hl (fun i h=>?_) (by simp only[dq,cx];rfl) (fun i hi=>?_)
 ·rw[hf i h];by_cases c:l[i] =a <;> simp[c]
 ·by_cases h:i<l.length
  ·rw[hf i h]
   simp only[bL,k9,cW h,if_true,aO h,aa,iP,yT a l[i] ha,ai (show i<9223372036854775807 by omega)]
   by_cases c:l[i] =a
   ·simp[c]
   ·have: ¬a=l[i]:=fun e=>c e.symm
    simp[c,this]
  ·obtain rfl:i=l.length:=by omega
   simp only[dq,bL,cx];rfl
def FE (n i:Nat) (s:Int×List AutT×List QT):Prop:=s.1=(i:Int)/\i<=n/\s.2.2.length=i/\s.2.1.length<=i/\(∀a∈s.2.1,Data.sm a)/\ ∀q∈s.2.2,Data.sm q/\0<=q.2.2/\q.2.2<(s.2.1.length:Int)
theorem Hq {qs:List QT} (hq:Data.sm qs) {i:Nat} {s:Int×List AutT×List QT} (hI:FE qs.length i s):j4 qs s=bp qs s /\
  ((i<qs.length/\ ∃s',bp qs s=some (.nxt s')/\FE qs.length (i+1) s')\/ ∃o,bp qs s=some o/\(∀s',o≠ .nxt s')/\(o= .ret (([],[]),false)\/o= .brk s/\i=qs.length)):=by
 obtain ⟨hn,hs⟩:=cX hq
 obtain ⟨s1,A,Q⟩:=s
 obtain ⟨h1,h2,h3,h4,h5,h6⟩:=hI
 simp only at h1 h3 h4 h5 h6
 subst h1
 by_cases hi:i<qs.length
 ·have hqi:=hs _ (List.getElem_mem hi)
  obtain ⟨r,es,ei,hr⟩:=yS (e:=qs[i].2.1) hqi.2.1.1
  obtain ⟨k,ks,ki,hk⟩:=I2 A r.1 (by omega) h5 hr
  have a1:ct 56 A [r.1] =some (A++ [r.1]):=aI (by simp;omega)
  have a2: ∀y,ct 40 Q [y] =some (Q++ [y]):=fun y=>aI (by simp;omega)
  have a3:eI qs[i].2.1=some qs[i].2.1:=by unfold eI;rw[aI (by have:=hqi.2.1.1;simp;omega)];rfl
  have a4:kZ qs[i].2.1=some qs[i].2.1:=by unfold kZ;rw[aI (by have:=hqi.2.1.1;simp;omega)];rfl
  unfold j4 bp
  simp only[cW hi,if_true,aO hi,aa,es,ei,QL,Jl,iP,ks,ki,a1,a2,a3,a4,ai (show i<9223372036854775807 by omega)]
  by_cases c1:r.2=true
  case neg =>
   simp only[c1,Bool.false_eq_true,if_false]
   exact ⟨by first | trivial | rfl,.inr ⟨_,rfl,(fun s' e=>by cases e),.inl rfl⟩⟩
  simp only[c1,if_true]
  by_cases c2:1<=qs[i].1/\qs[i].1<=99
  case neg =>
   simp only[c2,decide_false,Bool.false_eq_true,if_false]
   exact ⟨by first | trivial | rfl,.inr ⟨_,rfl,(fun s' e=>by cases e),.inl rfl⟩⟩
  simp only[c2,decide_true,if_true]
  have fin: ∃s':Int×List AutT×List QT,(∀(y:Option (Out (rM×Bool) (Int×List AutT×List QT))),True)/\(Option.bind (if decide (k<0) then some ((A.length:Int),A++ [r.1],Q) else some (k,A,Q)) fun s10:Int×List AutT×List QT=>(ct 40 s10.2.2 [(qs[i].1,qs[i].2.1,s10.1)]).bind fun z18=>some (.nxt (((i+1:Nat):Int),s10.2.1,z18)):Option (Out (rM×Bool) (Int×List AutT×List QT)))=some (.nxt s')/\FE qs.length (i+1) s':=by
   rcases hk with rfl | ⟨j,hj,rfl⟩
   ·refine ⟨(((i+1:Nat):Int),A++ [r.1],Q++ [(qs[i].1,qs[i].2.1,(A.length:Int))]),fun _=>trivial,?_,rfl,hi,by simp;omega,by simp;omega,fun a ha=>?_,fun q hq'=>?_⟩
    ·simp only[show decide ((-1:Int)<0)=true from rfl,if_true,aa,a2]
    ·simp only[List.mem_append,List.mem_singleton] at ha
     rcases ha with ha | rfl
     ·exact h5 a ha
     ·exact hr
    ·simp only[List.mem_append,List.mem_singleton] at hq'
     simp only[aj,List.length_singleton]
     rcases hq' with hq' | rfl
     ·obtain ⟨b1,b2,b3⟩:=h6 q hq'
      exact ⟨b1,b2,by omega⟩
     ·exact ⟨⟨trivial,hqi.2.1,trivial⟩,by simp,by simp;omega⟩
   ·refine ⟨(((i+1:Nat):Int),A,Q++ [(qs[i].1,qs[i].2.1,(j:Int))]),fun _=>trivial,?_,rfl,hi,by simp;omega,by simp only;omega,h5,fun q hq'=>?_⟩
    ·have:decide ((j:Int)<0)=false:=by simp
     simp only[this,Bool.false_eq_true,if_false,aa,a2]
    ·simp only[List.mem_append,List.mem_singleton] at hq'
     rcases hq' with hq' | rfl
     ·exact h6 q hq'
     ·exact ⟨⟨trivial,hqi.2.1,trivial⟩,by simp,by simp;omega⟩
  obtain ⟨s',-,e,hI'⟩:=fin
  by_cases c3:(i:Int)>0
  ·have hp:i - 1<qs.length:=by omega
   have hw:IntKind.i64.wrap ((i:Int) - 1)=((i - 1:Nat):Int):=by rw[lu (by omega)];omega
   simp only[c3,decide_true,if_true,hw,aO hp,aa]
   by_cases c4:qs[i - 1].1≥qs[i].1
   ·simp only[c4,decide_true,if_true]
    exact ⟨by first | trivial | rfl,.inr ⟨_,rfl,(fun s' e=>by cases e),.inl rfl⟩⟩
   ·simp only[c4,decide_false,Bool.false_eq_true,if_false]
    exact ⟨by first | trivial | rfl,.inl ⟨hi,s',e,hI'⟩⟩
  ·simp only[c3,decide_false,Bool.false_eq_true,if_false]
   exact ⟨by first | trivial | rfl,.inl ⟨hi,s',e,hI'⟩⟩
 ·obtain rfl:i=qs.length:=by omega
  unfold j4 bp
  simp only[cx,Bool.false_eq_true,if_false]
  exact ⟨by first | trivial | rfl,.inr ⟨_,rfl,(fun s' e=>by cases e),.inr (by first | exact ⟨rfl,rfl⟩ | exact ⟨trivial,rfl⟩ | exact ⟨rfl,trivial⟩ | simp)⟩⟩
def Mu (r:rM):Prop:=Data.sm r/\ ∀q∈r.2,0<=q.2.2/\q.2.2<(r.1.length:Int)
theorem wV {qs:List QT} (hq:Data.sm qs): ∃r:rM,∃b:Bool,b8 qs=(if (qs.length:Int)>4 then some (([],[]),false) else some (r,b))/\ri qs=some (r,b&&decide ((qs.length:Int)<=4))/\Mu r:=by
 have hn:=(cX hq).1
 have h0:FE qs.length 0 (0,[],[]):=⟨rfl,Nat.zero_le _,rfl,aC _,fun _ h=>(by cases h),fun _ h=>(by cases h)⟩
 have hs:ay (j4 qs) aQ (0,[],[])=ay (bp qs) aQ (0,[],[]):=rA (FE qs.length) (fun i s hI=>by
  obtain ⟨e,h⟩:=Hq hq hI
  refine ⟨e,fun s' e'=>?_⟩
  rcases h with ⟨_,s2,e2,hI2⟩ | ⟨o,e2,hne,-⟩
  ·rw[e2] at e';cases e';exact hI2
  ·rw[e2] at e';cases e';exact absurd rfl (hne s')) aQ 0 _ h0
 obtain ⟨o,e,ho⟩:=bX (f:=bp qs) (FE qs.length) (fun o=>o= .ret (([],[]),false)\/ ∃A Q,o= .brk ((qs.length:Int),A,Q)/\FE qs.length qs.length ((qs.length:Int),A,Q)) qs.length (fun i s hi hI=>by
  rcases (Hq hq hI).2 with h | ⟨o,e,hne,h⟩
  ·exact .inl h
  ·refine .inr ⟨o,e,hne,?_⟩
   rcases h with h | ⟨h,rfl⟩
   ·exact .inl h
   ·obtain ⟨s1,A,Q⟩:=s
    obtain ⟨rfl,-⟩:=id hI
    exact .inr ⟨A,Q,h,hI⟩) h0 (jO _ (by omega))
 unfold b8 ri
 rw[hs,e]
 rcases ho with rfl | ⟨A,Q,rfl,-,-,h3,h4,h5,h6⟩
 ·refine ⟨([],[]),false,?_,rfl,⟨⟨Nat.zero_le _,fun _ h=>(by cases h)⟩,Nat.zero_le _,fun _ h=>(by cases h)⟩,fun _ h=>(by cases h)⟩
  by_cases c:(qs.length:Int)>4 <;> simp[c,aM]
 ·simp only at h3 h4 h5 h6
  refine ⟨(A,Q),true,?_,by simp[aM],⟨⟨show A.length<=1048576 by omega,h5⟩,show Q.length<=1048576 by omega,fun q h=>(h6 q h).1⟩,fun q h=>(h6 q h).2⟩
  by_cases c:(qs.length:Int)>4 <;> simp[c,aM]
theorem vz {r:rM} (hr:Data.sm r): ∃b,bI r=some b/\df r=some b/\(b=true->Mu r):=by
 obtain ⟨x,b,e1,e2,hx⟩:=wV hr.2
 unfold bI df
 rw[e1,e2]
 by_cases c:(r.2.length:Int)>4
 ·have c': ¬(r.2.length:Int)<=4:=by omega
  exact ⟨false,by simp[c],by simp[c'],fun e=>by cases e⟩
 ·have c':(r.2.length:Int)<=4:=by omega
  cases b with
  | false=>exact ⟨false,by simp[c],by simp,fun e=>by cases e⟩
  | true =>
   simp only[c,if_false,aa,if_true,c',decide_true,Bool.and_true,iP,uE x r hx.1,B0 x r hx.1]
   exact ⟨_,rfl,rfl,fun e=>by rw[<-of_decide_eq_true e];exact hx⟩
end D
set_option synthInstance.maxSize 20000
set_option synthInstance.maxHeartbeats 2000000
namespace D
open Go.RowKit
theorem B1 (a:AutT) (ha:Data.sm a):mH a=some a:=by
 obtain ⟨-,⟨hb,-⟩,hn,hr⟩:=ha
 unfold mH
 rw[aI (by simp;omega)];simp only[aa,List.nil_append]
 have:=aN (f:=jc a) (fun i=>((i:Int),a.1,a.2.1,a.2.2.take i)) a.2.2.length (fun i hi=>by
  unfold jc
  have h1:ct 8 ([] :List Int) a.2.2[i] =some a.2.2[i]:=by rw[aI (by have:a.2.2[i].length<=1048576:=(hr _ (List.getElem_mem hi)).1;simp;omega)];rfl
  simp only[cW hi,if_true,aO hi,aa,h1,ai (show i<9223372036854775807 by omega)]
  rw[aI (by simp;omega)]
  simp only[aa]
  rw[List.take_succ_eq_append_getElem hi]) (by
  unfold jc
  simp only[cx,Bool.false_eq_true,if_false]) (jO _ (by omega))
 have e:ay (jc a) aQ (0,a.1,a.2.1,[])=_:=this
 rw[e]
 simp only[aM,List.take_length]
theorem Mv (a:AutT) (ha:Data.sm a):iA a=some a:=by
 obtain ⟨-,⟨hb,-⟩,hn,hr⟩:=ha
 unfold iA
 rw[aI (by simp;omega)];simp only[aa,List.nil_append]
 have:=aN (f:=dH a) (fun i=>((i:Int),a.1,a.2.1,a.2.2.take i)) a.2.2.length (fun i hi=>by
  unfold dH eR
  have h1:ct 8 ([] :List Int) a.2.2[i] =some a.2.2[i]:=by rw[aI (by have:a.2.2[i].length<=1048576:=(hr _ (List.getElem_mem hi)).1;simp;omega)];rfl
  simp only[cW hi,if_true,aO hi,aa,h1,ai (show i<9223372036854775807 by omega)]
  rw[aI (by simp;omega)]
  simp only[aa]
  rw[List.take_succ_eq_append_getElem hi]) (by
  unfold dH
  simp only[cx,Bool.false_eq_true,if_false]) (jO _ (by omega))
 have e:ay (dH a) aQ (0,a.1,a.2.1,[])=_:=this
 rw[e]
 simp only[aM,List.take_length]
end D
set_option synthInstance.maxSize 20000
set_option synthInstance.maxHeartbeats 2000000
namespace D
open Go.RowKit
theorem yU (r:rM) (id:Int) (hl:r.2.length<=1048576): ∃k:Int,dJ r id=some k/\lX r id=some k/\(k= -1\/ ∃i:Nat,i<r.2.length/\k=(i:Int)):=by
 unfold dJ lX bR
 have hf: ∀i (h:i<r.2.length),cD r id (i:Int)=if r.2[i].1=id then some (.ret (i:Int)) else some (.nxt ((i+1:Nat):Int)):=fun i h=>by
  simp only[cD,cW h,if_true,aO h,aa,ai (show i<9223372036854775807 by omega)]
  by_cases c:r.2[i].1=id <;> simp[c]
 obtain ⟨k,e1,e2,h⟩:=Ho (f:=cD r id) (g:=bh r.2 fun a0=>j5 a0 id) r.2.length hl (fun i h=>by
  rw[hf i h];by_cases c:r.2[i].1=id <;> simp[c]) (by simp only[cD,cx];rfl) (fun i hi=>by
  by_cases h:i<r.2.length
  ·rw[hf i h]
   simp only[bh,j5,cW h,if_true,aO h,aa,ai (show i<9223372036854775807 by omega)]
   by_cases c:r.2[i].1=id <;> simp[c]
  ·obtain rfl:i=r.2.length:=by omega
   simp only[cD,bh,cx];rfl)
 refine ⟨k,e1,?_,h⟩
 rw[e2];rfl
end D
set_option synthInstance.maxSize 20000
set_option synthInstance.maxHeartbeats 2000000
namespace D
open Go.RowKit
theorem I3 {r:rM} (hr:Data.sm r) (id:Int): ∃x:AutT×Bool,br r id=some x/\cz r id=some x/\Data.sm x.1:=by
 obtain ⟨k,f1,f2,hk⟩:=yU r id (cX hr.2).1
 obtain ⟨b,v1,v2,hv⟩:=vz hr
 unfold br cz
 simp only[f1,f2,v1,v2,aa,iP]
 rcases hk with rfl | ⟨i,hi,rfl⟩
 ·refine ⟨((0,[],[]),false),?_,?_,py⟩
  ·cases b <;> rfl
  ·rfl
 ·have hk:decide ((i:Int)<0)=false:=by simp
  cases b with
  | false=>exact ⟨((0,[],[]),false),by simp[hk],by simp[hk],py⟩
  | true =>
   obtain ⟨hs,hq⟩:=hv rfl
   obtain ⟨q1,q2⟩:=hq _ (List.getElem_mem hi)
   have e1:aP r.1 r.2[i].2.2=some (nth r.1 r.2[i].2.2):=ax q1 q2
   have hm:Data.sm (nth r.1 r.2[i].2.2):=(cX hs.1).2 _ (bg q1 q2)
   simp only[if_true,hk,Bool.false_eq_true,if_false,aO hi,aa,e1,iP,B1 _ hm,Mv _ hm]
   exact ⟨_,rfl,rfl,hm⟩
end D
namespace D
open Go.RowKit
section
variable {nx:Int×Int->List (Option (Int×Int))} {first:Int×Int} {G:Int×Int->Prop} {B:Nat}
end
end D
namespace D
open Go.RowKit
theorem Mw {a:AutT} {n:Nat} (V:VA a n) {s:Int} (h0:0<=s) (h1:s<n):bS a s=some (nth a.2.1 s):=by
 unfold bS
 rw[if_pos (by simpa using h0),V.acc h0 h1];rfl
theorem B2 {a:AutT} {s:Int} (h0:s<0):bS a s=some false:=by
 unfold bS;rw[if_neg (by simp;omega)]
end D
namespace D
open Go.RowKit
section
variable {a b:AutT} {n m:Nat}
def mvn (a:AutT) (s:Int) (k:Nat):Int:=if s<0 then -1 else mv a s k
def acn (a:AutT) (s:Int):Bool:=if s<0 then false else nth a.2.1 s
theorem QY (V:VA a n) {s:Int} {k:Nat} (h0: -1<=s) (h1:s<n) (hk:k<9): -1<=mvn a s k/\mvn a s k<n:=by
 unfold mvn
 split
 ·have:=V.pos;omega
 ·exact V.mv (by omega) h1 hk
theorem VH (V:VA a n) {s:Int} {k:Nat} (h0: -1<=s) (h1:s<n) (hk:k<9):aS a s (k:Int)=some (mvn a s k):=by
 unfold mvn
 split
 ·exact IS ‹_›
 ·exact we V (by omega) h1 hk
theorem VI (V:VA a n) {s:Int} {k:Nat} (h0: -1<=s) (h1:s<n) (hk:k<9):mM a s (k:Int)=some (mvn a s k):=by
 unfold mvn mM
 by_cases c:s<0
 ·rw[if_pos (by simpa using c),if_pos c]
 ·rw[if_neg (by simpa using c),if_neg c,V.get (by omega) h1];simp only[aa]
  rw[V.get2 (by omega) h1 hk];rfl
theorem VJ (V:VA a n) {s:Int} (h0: -1<=s) (h1:s<n):bS a s=some (acn a s):=by
 unfold acn
 split
 ·exact B2 ‹_›
 ·exact Mw V (by omega) h1
theorem VK (V:VA a n) {s:Int} (h0: -1<=s) (h1:s<n):j6 a s=some (acn a s):=by
 unfold acn j6
 by_cases c:s<0
 ·rw[if_neg (by simp;omega),if_pos c]
 ·rw[if_pos (by simp;omega),if_neg c,V.acc (by omega) h1];rfl
def nxP (a b:AutT) (x:Int×Int):List (Option (Int×Int)):=(List.range 9).map fun k=>some (mvn a x.1 k,mvn b x.2 k)
def inP (n m:Nat) (x:Int×Int):Prop:=(-1<=x.1/\x.1<n)/\ -1<=x.2/\x.2<m
theorem Mx {x:Int×Int} {k:Nat} (hk:k<9):nth (nxP a b x) (k:Int)=some (mvn a x.1 k,mvn b x.2 k):=by
 have:k<(nxP a b x).length:=by simp[nxP];omega
 rw[bT this];simp[nxP]
theorem FF (n m:Nat) (l:List (Int×Int)) (hd:l.Nodup) (h: ∀x∈l,inP n m x):l.length<=(n+1)*(m+1):=by
 have:=hd.length_le_of_subset (l₂:=(List.range (n+1)).flatMap fun i:Nat=>(List.range (m+1)).map fun j:Nat=>((i:Int) - 1,(j:Int) - 1)) (fun x hx=>by
  obtain ⟨⟨h0,h1⟩,h2,h3⟩:=h x hx
  refine List.mem_flatMap.2 ⟨(x.1+1).toNat,List.mem_range.2 (by omega),List.mem_map.2 ⟨(x.2+1).toNat,List.mem_range.2 (by omega),?_⟩⟩
  exact Prod.ext (by show (((x.1+1).toNat:Nat):Int) - 1=x.1;omega) (by show (((x.2+1).toNat:Nat):Int) - 1=x.2;omega))
 have e:((List.range (n+1)).flatMap fun i:Nat=>(List.range (m+1)).map fun j:Nat=>((i:Int) - 1,(j:Int) - 1)).length=(n+1)*(m+1):=by
  rw[List.length_flatMap]
  simp only[List.length_map,List.length_range]
  rw[List.map_const',List.sum_replicate_nat,List.length_range]
 omega
theorem qL (Va:VA a n) (Vb:VA b m) (hn:n<=12) (hm:m<=12):NumOk (nxP a b) (a.1,b.1) (inP n m) 169 where
 g0:=⟨⟨by have:=Va.start.1;show -1<=a.1;omega,Va.start.2⟩,by have:=Vb.start.1;show -1<=b.1;omega,Vb.start.2⟩
 gn x hx y hy:=by
  obtain ⟨k,hk,e⟩:=List.mem_map.1 hy
  have hk:k<9:=List.mem_range.1 hk
  obtain rfl:=ae e
  exact ⟨QY Va hx.1.1 hx.1.2 hk,QY Vb hx.2.1 hx.2.2 hk⟩
 len x _:=by simp[nxP]
 bound l hd h:=by
  have h1:=FF n m l hd h
  have:(n+1)*(m+1)<=13*13:=Nat.mul_le_mul (by omega) (by omega)
  omega
end
end D
namespace D
open Go.RowKit
theorem cpw {l:List Int} (h:l.length<=1000000):eR l=some l:=by
 unfold eR
 rw[aI (by simp;omega)];rfl
section
variable {κ:Type} [DecidableEq κ]
def SeenOf (M:List (κ×Bool)) (l:List (κ)):Prop:=M.length=l.length/\ ∀x,M.lookup x=if x∈l then some true else none
theorem SeenOf.one (x:κ):SeenOf [(x,true)] [x]:=by
 refine ⟨rfl,fun y=>?_⟩
 rw[List.lookup_cons]
 by_cases e:y=x
 ·subst e;simp
 ·simp only[show (y==x)=false from by simp[e]];simp[e]
theorem SeenOf.put {M:List (κ×Bool)} {l:List (κ)} (h:SeenOf M l) {x:κ} (hx:x∉l):SeenOf ((x,true)::M) (l++ [x]):=by
 refine ⟨by simp[h.1],fun y=>?_⟩
 rw[List.lookup_cons]
 by_cases e:y=x
 ·subst e;simp
 ·simp only[show (y==x)=false from by simp[e],h.2 y,List.mem_append,List.mem_singleton,e,or_false]
end
section
variable {nx:Int×Int->List (Option (Int×Int))} {first:Int×Int} {G:Int×Int->Prop} {B:Nat} {p1:Int×Int->Int->Option (Int×Int)} {p2:Int×Int->Option Bool} {tt:Int×Int->Bool}
theorem I4 {l:List (Int×Int)} {Q:List ((Int×Int)×List Int)} {M:List ((Int×Int)×Bool)} {os:List (Option (Int×Int))} {i:Nat} {x4:(Int×Int)×List Int}
  (hi:i<=l.length) (hos:os.length=9) (hM:SeenOf M l) (hQ:Q.map (·.1)=l.drop i) (hw: ∀q∈Q,q.2.length<=i) (hx:x4.2.length<=i) (hok: ∀y,some y∈os->Em y=true) (hB: ∀k,(nbS l (os.take k)).length<=1000)
  (hp: ∀(k:Nat),k<9-> ∃y,p1 x4.1 (k:Int)=some y/\nth os (k:Int)=some y) :
  ∃Q' M',ay (cV p1 x4) aQ (Q,0,M)=some (.brk (Q',9,M'))/\SeenOf M' (nbS l os)/\Q'.map (·.1)=(nbS l os).drop i/\ ∀q∈Q',q.2.length<=i+1:=by
 obtain ⟨s',e,Q',M',rfl,hM',hQ',hw'⟩:=db (f:=cV p1 x4) (fun k s=> ∃Q' M',s=(Q',(k:Int),M')/\SeenOf M' (nbS l (os.take k))/\Q'.map (·.1)=(nbS l (os.take k)).drop i/\ ∀q∈Q',q.2.length<=i+1) 9 (by
  rintro k s hk ⟨Q1,M1,rfl,hM1,hQ1,hw1⟩
  have hpre:=iJ l (os.take k)
  have hlen:=hpre.length_le
  have hBk:=hB k
  have hB0:=hB 0
  obtain ⟨y,hy,ho⟩:=hp k hk
  have hoky:Em y=true:=hok y (ho ▸ bg (by omega) (by omega))
  have hQl:Q1.length<=1000:=by
   have:=congrArg List.length hQ1
   simp at this;omega
  unfold cV
  simp only[iP]
  rw[if_pos (by simp;omega),hy,take_one (by omega),pv];simp only[aa]
  rw[show chk (Em y=true)=some () from by unfold chk;rw[if_pos hoky]];simp only[aa,ai (show k<9223372036854775807 by omega)]
  rw[show lkM M1 y=_ from hM1.2 y,ho]
  by_cases c:y∈nbS l (os.take k)
  ·simp only[c,if_true,Option.getD_some,aa]
   refine ⟨_,rfl,Q1,M1,rfl,?_,?_,hw1⟩
   ·rw[jB c];exact hM1
   ·rw[jB c];exact hQ1
  ·have hput:Cp M1 Em bOk y true=some ((y,true)::M1):=by
    unfold Cp
    rw[if_pos ⟨by have:=hM1.1;omega,hoky,rfl⟩]
   have hl9:l.length<=1000:=by omega
   simp only[c,if_false,Option.getD_none,Bool.false_eq_true,hput,aa]
   rw[cpw (by omega)];simp only[aa]
   rw[aI (by simp;omega)];simp only[aa]
   rw[aI (by simp;omega)];simp only[aa]
   refine ⟨_,rfl,_,_,rfl,?_,?_,?_⟩
   ·rw[iS c];exact hM1.put c
   ·rw[iS c,aJ,hQ1,List.drop_append_of_le_length (by omega)];rfl
   ·intro q hq
    rcases aH hq with h | h
    ·exact hw1 q h
    ·obtain rfl:=al h
     simp;omega) (by
  rintro s ⟨Q1,M1,rfl,-⟩
  unfold cV
  simp) (s:=(Q,0,M)) ⟨Q,M,rfl,hM,hQ,fun q hq=>by have:=hw q hq;omega⟩ (by unfold aQ;omega)
 rw[List.take_of_length_le (by omega)] at hM' hQ'
 exact ⟨Q',M',e,hM',hQ',hw'⟩
theorem Tu (H:NumOk nx first G B) (hB:B<=1000) (hok: ∀x,G x->Em x=true) (h2: ∀x,G x->p2 x=some (tt x)) (h1: ∀x (k:Nat),G x->k<9-> ∃y,p1 x (k:Int)=some y/\nth (nx x) (k:Int)=some y) :
  ∃N w,bfE nx first N/\cY first p1 p2=some (w,(bfS nx first N).any tt):=by
 obtain ⟨N,hNB,hN⟩:=Hb (nx:=nx) (first:=first) (H.le)
 refine ⟨N,?_⟩
 unfold cY
 simp only[iP]
 rw[show Cp ([] :List ((Int×Int)×Bool)) Em bOk first true=some [(first,true)] from by unfold Cp;rw[if_pos ⟨by simp,hok _ H.g0,rfl⟩]];simp only[aa]
 obtain ⟨o,e,ho⟩:=bX (f:=fR p1 p2) (fun i s=> ∃Q M,s=(Q,M)/\SeenOf M (bfS nx first i)/\Q.map (·.1)=(bfS nx first i).drop i/\(∀q∈Q,q.2.length<=i)/\((bfS nx first i).take i).any tt=false)
  (fun o=>(∃w,o= .ret (w,true)/\(bfS nx first N).any tt=true)\/ ∃s,o= .brk s/\(bfS nx first N).any tt=false) N (s:=([(first,([] :List Int))],[(first,true)])) (by
  rintro i s hi ⟨Q,M,rfl,hM,hQ,hw,ha⟩
  unfold fR
  simp only[iP]
  have hl:=congrArg List.length hQ
  simp only[List.length_map,bd] at hl
  by_cases hiN:i<N
  ·have hlt:=hN.2 i hiN
   have hle:=H.le i
   have hG:=H.at hlt
   cases Q with
   | nil=>simp at hl;omega
   | cons q Q =>
    have hq1:q.1=nth (bfS nx first i) (i:Int):=by
     have:(q.1::Q.map (·.1))=(bfS nx first i).drop i:=hQ
     rw[List.drop_eq_getElem_cons hlt] at this
     rw[bT hlt];exact (List.cons.inj this).1
    rw[if_pos (by simp <;> omega),show aP (q::Q) 0=some q from rfl];simp only[aa]
    rw[h2 _ (hq1 ▸ hG)];simp only[aa]
    cases ht:tt q.1 with
    | true =>
     refine .inr ⟨_,by rw[if_pos rfl,cpw (by have:=hw q (by simp);omega)];rfl,(fun s' e=>by cases e),.inl ⟨_,rfl,?_⟩⟩
     refine List.any_eq_true.2 ⟨q.1,?_,ht⟩
     exact (kJ (nx:=nx) (first:=first) (by omega:i<=N)).subset (hq1 ▸ bg (by omega) (by omega))
    | false =>
     left
     refine ⟨hiN,?_⟩
     obtain ⟨Q',M',e,hM',hQ',hw'⟩:=I4 (p1:=p1) (l:=bfS nx first i) (Q:=q::Q) (M:=M) (os:=nx (nth (bfS nx first i) (i:Int))) (i:=i) (x4:=q) (by omega) (H.len _ hG) hM hQ hw (hw q (by simp)) (fun y hy=>hok y (H.gn _ hG y hy)) (fun k=>by
      have:(nbS (bfS nx first i) ((nx (nth (bfS nx first i) (i:Int))).take k)).length<=B:=H.bound _ (nh (km i)) fun x hx=>by
       rcases n9.1 hx with hx | hx
       ·exact iK H.g0 H.gn i x hx
       ·exact H.gn _ hG x (List.mem_of_mem_take hx)
      omega) (fun k hk=>by rw[hq1];exact h1 _ k hG hk)
     rw[<-ig hlt] at hM' hQ'
     have hp:=bH (nx:=nx) (first:=first) i
     have hpl:=hp.length_le
     have hl':=congrArg List.length hQ'
     simp only[List.length_map,bd] at hl'
     simp only[Bool.false_eq_true,if_false]
     rw[af e]
     simp only
     rw[show chk ((0:Int)<=1/\(1:Int)<=(Q'.length:Int))=some () from by unfold chk;rw[if_pos ⟨by omega,by omega⟩]]
     refine ⟨_,rfl,_,_,rfl,hM',?_,?_,?_⟩
     ·rw[List.map_drop,hQ',List.drop_drop]
     ·exact fun z hz=>hw' z (List.mem_of_mem_drop hz)
     ·have e:=rz (nx:=nx) (first:=first) (acc:=tt) hlt
      have f: ∀l:List (Int×Int),l.any tt=(l.map tt).any id:=fun l=>by simp[List.any_map]
      rw[f,e,List.any_append,<-f,ha,<-hq1];simp[ht]
  ·obtain rfl:i=N:=by omega
   cases Q with
   | nil =>
    refine .inr ⟨_,by rw[if_neg (by simp)],(fun s' e=>by cases e),.inr ⟨_,rfl,?_⟩⟩
    rw[List.take_of_length_le (by have:=hN.1;omega)] at ha;exact ha
   | cons q Q=>have:=hN.1;simp at hl;omega) ⟨_,_,rfl,SeenOf.one first,rfl,by simp,rfl⟩ (ju (by omega))
 rcases ho with ⟨w,rfl,h⟩ | ⟨s,rfl,h⟩
 ·exact ⟨w,hN,by rw[bN e,h]⟩
 ·exact ⟨[],hN,by rw[af e,h]⟩
end
end D
namespace D
open Go.RowKit
abbrev EntT:=Int×Int×Bool×Int×Int
def pr (z:EntT):Int×Int:=(z.1,z.2.1)
structure Ent (l:List EntT) (L:List (Int×Int)):Prop where
 map:l.map pr=L
 flat: ∀z∈l,z.2.2.1=false
 back: ∀j:Nat,0<j->j<l.length->0<=(nth l (j:Int)).2.2.2.1/\(nth l (j:Int)).2.2.2.1<j
theorem Ent.len {l:List EntT} {L:List (Int×Int)} (h:Ent l L):l.length=L.length:=by rw[<-h.map];simp
theorem Ent.at {l:List EntT} {L:List (Int×Int)} (h:Ent l L) {i:Nat} (hi:i<l.length):(nth l (i:Int)).1=(nth L (i:Int)).1/\(nth l (i:Int)).2.1=(nth L (i:Int)).2:=by
 rw[<-h.map,LR (by omega) (by omega)];exact ⟨rfl,rfl⟩
theorem Ent.snoc {l:List EntT} {L:List (Int×Int)} (h:Ent l L) {x y:Int} {i:Nat} (hi:i<l.length) (k:Int):Ent (l++ [(x,y,false,(i:Int),k)]) (L++ [(x,y)]) where
 map:=by rw[aJ,h.map];rfl
 flat z hz:=by
  rcases aH hz with hz | hz
  ·exact h.flat z hz
  ·obtain rfl:=al hz;rfl
 back j h0 hj:=by
  by_cases c:j<l.length
  ·rw[hY (by omega) (by omega)];exact h.back j h0 c
  ·have:j=l.length:=by simp at hj;omega
   subst this
   have:nth (l++ [(x,y,false,(i:Int),k)]) (l.length:Int)=(x,y,false,(i:Int),k):=by rw[bT (by simp)];simp
   rw[this];exact ⟨by show (0:Int)<=(i:Int);omega,by show (i:Int)<(l.length:Int);omega⟩
theorem PE {l:List EntT} {L:List (Int×Int)} (h:Ent l L) (hl:l.length<=1000000) (x y f k:Int):rj l (x,y,false,f,k)=some (decide ((x,y)∈L)):=by
 unfold rj
 have:=scan (f:=lY l (x,y,false,f,k)) l (fun z=> ¬pr z=(x,y)) true (by omega) (by
  intro i hi
  have hf:=h.flat _ (bg (i:=(i:Int)) (by omega) (by omega))
  unfold lY
  rw[if_pos (by simp;omega),ax (by omega) (by omega)];simp only[aa,ai (show i<9223372036854775807 by omega),hf]
  by_cases c1:(nth l (i:Int)).1=x
  ·by_cases c2:(nth l (i:Int)).2.1=y
   ·rw[if_pos (by simpa using c1),if_pos (by simpa using c2),if_pos (by rfl),if_neg (fun hc=>hc (Prod.ext c1 c2))]
   ·rw[if_pos (by simpa using c1),if_neg (by simpa using c2),if_pos (fun e=>c2 (congrArg Prod.snd e))]
  ·rw[if_neg (by simpa using c1),if_pos (fun e=>c1 (congrArg Prod.fst e))]) (by
  unfold lY
  rw[if_neg (by simp)])
 rcases this with ⟨e,hp⟩ | ⟨e,hp⟩
 ·rw[af e,decide_eq_false]
  rintro hm
  rw[<-h.map] at hm
  obtain ⟨z,hz,e⟩:=List.mem_map.1 hm
  exact hp z hz e
 ·rw[bN e,decide_eq_true]
  by_cases c:(x,y)∈L
  ·exact c
  ·refine absurd (fun z hz e=>c ?_) hp
   rw[<-h.map,<-e];exact List.mem_map.2 ⟨z,hz,rfl⟩
theorem My {l:List EntT} {L:List (Int×Int)} (h:Ent l L) (hl:l.length<=1000000) {i:Nat} (hi:i<l.length): ∃w,pf l (i:Int)=some w:=by
 unfold pf
 obtain ⟨o,e,s,rfl⟩:=bX (f:=nV l) (fun n s=>0<=s.1/\s.1+n<=i/\s.2.length<=n) (fun o=> ∃s,o= .brk s) i (s:=((i:Int),[])) (by
  rintro n ⟨j,w⟩ hn ⟨h0,h1,h2⟩
  simp only at h0 h1 h2
  unfold nV
  simp only
  by_cases c:j>0
  ·have hb:=h.back j.toNat (by omega) (by omega)
   rw[Int.toNat_of_nonneg h0] at hb
   left
   refine ⟨by omega,?_⟩
   rw[if_pos (by simpa using c),ax (by omega) (by omega)];simp only[aa]
   rw[aI (by simp;omega)];simp only[aa]
   refine ⟨_,rfl,hb.1,?_,?_⟩
   ·show (nth l j).2.2.2.1+((n+1:Nat):Int)<=i;omega
   ·simp;omega
  ·exact .inr ⟨_,by rw[if_neg (by simpa using c)],(fun s' e=>by cases e),_,rfl⟩) ⟨by show (0:Int)<=(i:Int);omega,by show (i:Int)+((0:Nat):Int)<=(i:Int);omega,by simp⟩ (ju (by omega))
 exact ⟨_,af e⟩
section
variable {a b:AutT} {n m:Nat}
def vA (a b:AutT) (x:Int×Int):Bool:=acn b x.2 && !acn a x.1
theorem FG (Va:VA a n) (Vb:VA b m) (hn:n<=12) (hm:m<=12) {l:List EntT} {L:List (Int×Int)} {i:Nat} (hE:Ent l L) (hd:L.Nodup) (hG: ∀x∈L,inP n m x) (hi:i<L.length) :
  ∃l',ay (gf a b (l,(i:Int))) aQ (l,0)=some (.brk (l',9))/\Ent l' (nbS L (nxP a b (nth L (i:Int)))):=by
 have hx:=hG _ (bg (i:=(i:Int)) (by omega) (by omega))
 have hos:(nxP a b (nth L (i:Int))).length=9:=by simp[nxP]
 have H:=qL Va Vb hn hm
 have hB: ∀k,(nbS L ((nxP a b (nth L (i:Int))).take k)).length<=169:=fun k=>H.bound _ (nh hd) fun x hx'=>by
  rcases n9.1 hx' with h | h
  ·exact hG x h
  ·exact H.gn _ hx x (List.mem_of_mem_take h)
 obtain ⟨s',e,l',rfl,hE'⟩:=db (f:=gf a b (l,(i:Int))) (fun k s=> ∃l',s=(l',(k:Int))/\Ent l' (nbS L ((nxP a b (nth L (i:Int))).take k))) 9 (by
  rintro k s hk ⟨l1,rfl,hE1⟩
  have hpre:=iJ L ((nxP a b (nth L (i:Int))).take k)
  have hlen:=hpre.length_le
  have hBk:=hB k
  have hl1:=hE1.len
  obtain ⟨g1,g2⟩:=hE1.at (i:=i) (by omega)
  rw[iM hpre (by omega) (by omega)] at g1 g2
  unfold gf
  simp only[iP]
  rw[if_pos (by simp;omega),ax (by omega) (by omega)];simp only[aa]
  rw[g1,g2,VI Va hx.1.1 hx.1.2 hk];simp only[aa]
  rw[VI Vb hx.2.1 hx.2.2 hk];simp only[aa]
  rw[PE hE1 (by omega)];simp only[aa,ai (show k<9223372036854775807 by omega)]
  rw[take_one (by omega),pv,Mx hk]
  by_cases c:(mvn a (nth L (i:Int)).1 k,mvn b (nth L (i:Int)).2 k)∈nbS L ((nxP a b (nth L (i:Int))).take k)
  ·rw[if_pos (by simpa using c),jB c]
   exact ⟨_,rfl,l1,rfl,hE1⟩
  ·rw[if_neg (by simpa using c),iS c,aI (by simp;omega)]
   exact ⟨_,rfl,_,rfl,hE1.snoc (by omega) _⟩) (by
  rintro s ⟨l1,rfl,-⟩
  unfold gf
  simp) (s:=(l,0)) ⟨l,rfl,hE⟩ (by unfold aQ;omega)
 rw[List.take_of_length_le (by omega)] at hE'
 exact ⟨l',e,hE'⟩
theorem AI (Va:VA a n) (Vb:VA b m) (hn:n<=12) (hm:m<=12) {x:Int×Int} (hx:inP n m x):NumOk (nxP a b) x (inP n m) 169 where
 g0:=hx
 gn:=(qL Va Vb hn hm).gn
 len:=(qL Va Vb hn hm).len
 bound:=(qL Va Vb hn hm).bound
theorem Hr (Va:VA a n) (Vb:VA b m) (hn:n<=12) (hm:m<=12) {s0 t0:Int} (h0:inP n m (s0,t0)): ∃N w,bfE (nxP a b) (s0,t0) N/\fT a s0 b t0 true=some (w,(bfS (nxP a b) (s0,t0) N).any (vA a b)):=by
 have H:=AI Va Vb hn hm h0
 obtain ⟨N,hNB,hN⟩:=Hb (nx:=nxP a b) (first:=(s0,t0)) (H.le)
 refine ⟨N,?_⟩
 unfold fT
 obtain ⟨o,e,ho⟩:=bX (f:=lF a b true) (fun i s=> ∃l,s=(l,(i:Int))/\Ent l (bfS (nxP a b) (s0,t0) i)/\((bfS (nxP a b) (s0,t0) i).take i).any (vA a b)=false)
  (fun o=>(∃w,o= .ret (w,true)/\(bfS (nxP a b) (s0,t0) N).any (vA a b)=true)\/ ∃s,o= .brk s/\(bfS (nxP a b) (s0,t0) N).any (vA a b)=false) N (s:=([(s0,t0,false,0,0)],0)) (by
  rintro i s hi ⟨l,rfl,hE,ha⟩
  have hl:=hE.len
  have hle:=H.le i
  unfold lF
  simp only[iP]
  by_cases hiN:i<N
  ·have hlt:=hN.2 i hiN
   have hG:=H.at hlt
   obtain ⟨g1,g2⟩:=hE.at (i:=i) (by omega)
   rw[if_pos (by simp;omega),ax (by omega) (by omega)];simp only[aa]
   rw[g1,g2,VK Va hG.1.1 hG.1.2];simp only[aa]
   rw[VK Vb hG.2.1 hG.2.2];simp only[aa]
   have hb: ∀r50 r49:Bool,(if r50 then (if r49 then (if r49 then (if r50 then some false else some (!true)) else some false) else some true) else (if r49 then (if r50 then some false else some (!true)) else some false):Option Bool)=some (r50 && !r49):=by decide
   rw[hb];simp only[aa]
   have hlp:(acn b (nth (bfS (nxP a b) (s0,t0) i) (i:Int)).2 && !acn a (nth (bfS (nxP a b) (s0,t0) i) (i:Int)).1)=vA a b (nth (bfS (nxP a b) (s0,t0) i) (i:Int)):=rfl
   rw[hlp]
   cases ht:vA a b (nth (bfS (nxP a b) (s0,t0) i) (i:Int)) with
   | true =>
    obtain ⟨w,hw⟩:=My hE (by omega) (i:=i) (by omega)
    refine .inr ⟨_,by rw[if_pos rfl,hw];rfl,(fun s' e=>by cases e),.inl ⟨_,rfl,?_⟩⟩
    refine List.any_eq_true.2 ⟨_,?_,ht⟩
    exact (kJ (nx:=nxP a b) (first:=(s0,t0)) (by omega:i<=N)).subset (bg (by omega) (by omega))
   | false =>
    left
    refine ⟨hiN,?_⟩
    obtain ⟨l',e,hE'⟩:=FG Va Vb hn hm hE (km i) (iK H.g0 H.gn i) hlt
    rw[if_neg (by simp),af e]
    rw[<-ig hlt] at hE'
    simp only[ai (show i<9223372036854775807 by omega)]
    refine ⟨_,rfl,l',rfl,hE',?_⟩
    have e:=rz (nx:=nxP a b) (first:=(s0,t0)) (acc:=vA a b) hlt
    have f: ∀l:List (Int×Int),l.any (vA a b)=(l.map (vA a b)).any id:=fun l=>by simp[List.any_map]
    rw[f,e,List.any_append,<-f,ha];simp[ht]
  ·obtain rfl:i=N:=by omega
   have hN1:=hN.1
   refine .inr ⟨_,by rw[if_neg (by simp;omega)],(fun s' e=>by cases e),.inr ⟨_,rfl,?_⟩⟩
   rw[List.take_of_length_le (by omega)] at ha;exact ha) ⟨_,rfl,⟨rfl,by simp,by intro j h0 h1;simp at h1;omega⟩,rfl⟩ (ju (by omega))
 rcases ho with ⟨w,rfl,h⟩ | ⟨s,rfl,h⟩
 ·exact ⟨w,hN,by rw[bN e,h]⟩
 ·exact ⟨[],hN,by rw[af e,h]⟩
theorem Tv {x:Int×Int} (hn:n<=12) (hm:m<=12) (h:inP n m x):Em x=true:=by
 obtain ⟨⟨h0,h1⟩,h2,h3⟩:=h
 have e1:IntKind.i64.min= -9223372036854775808:=by decide
 have e2:IntKind.i64.max=9223372036854775807:=by decide
 simp only[Em,Lit.wf,e1,e2,ah,decide_eq_true_eq]
 omega
theorem Tw (Va:VA a n) (Vb:VA b m) (hn:n<=12) (hm:m<=12) {s0 t0:Int} (h0:inP n m (s0,t0)) {p1:Int×Int->Int->Option (Int×Int)} {p2:Int×Int->Option Bool}
  (h1: ∀x (k:Nat),inP n m x->k<9->p1 x (k:Int)=some (mvn a x.1 k,mvn b x.2 k)) (h2: ∀x,inP n m x->p2 x=some (vA a b x)) :
  ∃w w' r,fT a s0 b t0 true=some (w,r)/\cY (s0,t0) p1 p2=some (w',r):=by
 have H:=AI Va Vb hn hm h0
 obtain ⟨N,w,hN,e⟩:=Hr Va Vb hn hm h0
 obtain ⟨N',w',hN',e'⟩:=Tu (p1:=p1) (p2:=p2) (tt:=vA a b) H (by omega) (fun x hx=>Tv hn hm hx) h2 (fun x k hx hk=>⟨_,h1 x k hx hk,Mx hk⟩)
 obtain rfl:=Hc hN hN'
 exact ⟨w,w',_,e,e'⟩
theorem FH (Va:VA a n) (Vb:VA b m) {x:Int×Int} {k:Nat} (hx:inP n m x) (hk:k<9):jg x (k:Int) a b=some (mvn a x.1 k,mvn b x.2 k):=by
 unfold jg
 simp only[iP]
 rw[VH Va hx.1.1 hx.1.2 hk];simp only[aa]
 rw[VH Vb hx.2.1 hx.2.2 hk];rfl
theorem DW (Va:VA a n) (Vb:VA b m) (hn:n<=12) (hm:m<=12): ∃w w' r,fT a a.1 b b.1 true=some (w,r) /\
  cY (a.1,b.1) (fun u6 u7=>jg u6 u7 a b) (fun u8=>iB u8 b a)=some (w',r):=
 Tw Va Vb hn hm (qL Va Vb hn hm).g0 (fun x k hx hk=>FH Va Vb hx hk) fun x hx=>by
  unfold iB vA
  simp only[iP]
  rw[VJ Vb hx.2.1 hx.2.2];simp only[aa]
  rw[VJ Va hx.1.1 hx.1.2];simp only[aa]
  cases acn b x.2 <;> rfl
end
end D
namespace D
open Go.RowKit
theorem B3 {n:Nat} {r:List Int} :(∀t∈r,-1<=t/\t<=(n:Int) - 1)↔ ∀t∈r,-1<=t/\t<(n:Int):=forall_congr' fun t=>forall_congr' fun _=>and_congr Iff.rfl (by omega)
theorem VL (a:AutT) (h1:a.2.1.length<=9223372036854775807) (h2:a.2.2.length<=9223372036854775807): ∃b,mL a=some b/\(b=true↔VA a a.2.1.length):=by
 unfold mL
 rw[QL];simp only[aa,lu h1]
 by_cases c1:0<=a.1/\a.1<=(a.2.1.length:Int) - 1
 case neg=>exact ⟨false,by rw[if_neg (by simpa using c1)],by simp;exact fun h=>c1 ⟨h.start.1,by have:=h.start.2;omega⟩⟩
 rw[if_pos (by simpa using c1)]
 by_cases c2:a.2.2.length=a.2.1.length
 case neg=>exact ⟨false,by rw[if_pos (by simp;omega)],by simp;exact fun h=>c2 h.nlen⟩
 rw[if_neg (by simp;omega)]
 have inner: ∀i:Nat,i<a.2.2.length->(nth a.2.2 i).length=9->(ay (gk a i) aQ 0=some (.brk 9)/\ ∀t∈nth a.2.2 (i:Int),-1<=t/\t<=(a.2.1.length:Int) - 1)\/(ay (gk a i) aQ 0=some (.ret false)/\ ¬ ∀t∈nth a.2.2 (i:Int),-1<=t/\t<=(a.2.1.length:Int) - 1):=by
  intro i hi hr
  have:=scan (f:=gk a i) (nth a.2.2 (i:Int)) (fun t=> -1<=t/\t<=(a.2.1.length:Int) - 1) false (by omega) (fun j hj=>by
   unfold gk
   rw[if_pos (by simp;omega),ax (by omega) (by omega)];simp only[aa]
   rw[ax (by omega) (by omega)];simp only[aa,lu h1]
   rw[QL];simp only[aa,ai (show j<9223372036854775807 by omega)]
   by_cases c: -1<=nth (nth a.2.2 (i:Int)) (j:Int)/\nth (nth a.2.2 (i:Int)) (j:Int)<=(a.2.1.length:Int) - 1
   ·rw[if_pos (by simpa using c),if_pos c]
   ·rw[if_neg (by simpa using c),if_neg c]) (by unfold gk;rw[if_neg (by simp[hr])])
  rwa [hr] at this
 have outer:=scan (f:=kT a) a.2.2 (fun r=>r.length=9/\ ∀t∈r,-1<=t/\t<=(a.2.1.length:Int) - 1) false h2 (fun i hi=>by
  unfold kT
  rw[if_pos (by simp;omega),ax (by omega) (by omega)];simp only[aa]
  by_cases c:(nth a.2.2 (i:Int)).length=9
  ·rw[if_neg (by simp;omega)]
   rcases inner i hi c with ⟨e,k⟩ | ⟨e,k⟩
   ·rw[af e,if_pos ⟨c,k⟩,ai (show i<9223372036854775807 by omega)]
   ·rw[bN e,if_neg (fun h=>k h.2)]
  ·rw[if_pos (by simp;omega),if_neg (fun h=>c h.1)]) (by unfold kT;rw[if_neg (by simp;omega)])
 rcases outer with ⟨e,k⟩ | ⟨e,k⟩
 ·exact ⟨true,by rw[af e],by simp;exact ⟨rfl,⟨c1.1,by omega⟩,c2,fun r hr=>(k r hr).1,fun r hr=>B3.1 (k r hr).2⟩⟩
 ·exact ⟨false,by rw[bN e],by simp;exact fun h=>k fun r hr=>⟨h.row r hr,B3.2 (h.ent r hr)⟩⟩
theorem FI (a:AutT) (h1:a.2.1.length<=9223372036854775807) (h2:a.2.2.length<=9223372036854775807): ∃b,a6 a=some b/\(b=true↔a.2.1.length<=12/\VA a a.2.1.length):=by
 unfold a6
 by_cases c:a.2.1.length<=12
 ·rw[if_pos (by simp;omega)]
  obtain ⟨b,e,hb⟩:=VL a h1 h2
  exact ⟨b,by show (mL a).bind _=_;rw[e];rfl,by rw[hb];simp[c]⟩
 ·exact ⟨false,by rw[if_neg (by simp;omega)],by simp;exact fun h=>absurd h c⟩
theorem Mz (a:AutT) (h1:a.2.1.length<=9223372036854775807) (h2:a.2.2.length<=9223372036854775807) (h3: ∀r∈a.2.2,r.length<=9223372036854775807): ∃b,aW a=some b/\(b=true↔a.2.1.length<=12/\VA a a.2.1.length):=by
 unfold aW
 rw[Jl];simp only[aa,lu h1]
 by_cases c0:1<=(a.2.1.length:Int)/\(a.2.1.length:Int)<=12
 case neg=>exact ⟨false,by rw[if_neg (by simpa using c0)],by simp;exact fun h h'=>c0 ⟨by have:=h'.start;omega,by omega⟩⟩
 rw[if_pos (by simpa using c0),Jl];simp only[aa]
 by_cases c1:0<=a.1/\a.1<=(a.2.1.length:Int) - 1
 case neg=>exact ⟨false,by rw[if_neg (by simpa using c1)],by simp;exact fun _ h=>c1 ⟨h.start.1,by have:=h.start.2;omega⟩⟩
 rw[if_pos (by simpa using c1)]
 by_cases c2:a.2.2.length=a.2.1.length
 case neg=>exact ⟨false,by rw[if_pos (by simp;omega)],by simp;exact fun _ h=>c2 h.nlen⟩
 rw[if_neg (by simp;omega)]
 have inner: ∀x:List Int,x.length<=9223372036854775807->(ay (cn a x) aQ 0=some (.brk (x.length:Int))/\ ∀t∈x,-1<=t/\t<=(a.2.1.length:Int) - 1)\/(ay (cn a x) aQ 0=some (.ret false)/\ ¬ ∀t∈x,-1<=t/\t<=(a.2.1.length:Int) - 1):=by
  intro x hx
  refine scan (f:=cn a x) x (fun t=> -1<=t/\t<=(a.2.1.length:Int) - 1) false hx (fun j hj=>?_) (by unfold cn;rw[if_neg (by simp)])
  unfold cn
  rw[if_pos (by simp;omega),ax (by omega) (by omega)];simp only[aa,lu h1]
  rw[Jl];simp only[aa,ai (show j<9223372036854775807 by omega)]
  by_cases c: -1<=nth x (j:Int)/\nth x (j:Int)<=(a.2.1.length:Int) - 1
  ·rw[if_pos (by simpa using c),if_pos c]
  ·rw[if_neg (by simpa using c),if_neg c]
 have outer:=scan (f:=dM a) a.2.2 (fun r=>(∀t∈r,-1<=t/\t<=(a.2.1.length:Int) - 1)/\r.length=9) false h2 (fun i hi=>by
  unfold dM
  rw[if_pos (by simp;omega),ax (by omega) (by omega)];simp only[aa]
  rcases inner (nth a.2.2 (i:Int)) (h3 _ (bg (by omega) (by omega))) with ⟨e,k⟩ | ⟨e,k⟩
  ·rw[af e]
   by_cases c:(nth a.2.2 (i:Int)).length=9
   ·rw[if_neg (by simp;omega),if_pos ⟨k,c⟩,ai (show i<9223372036854775807 by omega)]
   ·rw[if_pos (by simp;omega),if_neg (fun h=>c h.2)]
  ·rw[bN e,if_neg (fun h=>k h.1)]) (by unfold dM;rw[if_neg (by simp)])
 rcases outer with ⟨e,k⟩ | ⟨e,k⟩
 ·exact ⟨true,by rw[af e],by simp;exact ⟨by omega,rfl,⟨c1.1,by omega⟩,c2,fun r hr=>(k r hr).2,fun r hr=>B3.1 (k r hr).1⟩⟩
 ·exact ⟨false,by rw[bN e],by simp;exact fun _ h=>k fun r hr=>⟨B3.2 (h.ent r hr),h.row r hr⟩⟩
end D
set_option synthInstance.maxSize 20000
set_option synthInstance.maxHeartbeats 2000000
namespace D
open Go.RowKit
theorem pz (a:AutT) (hs:Data.sm a): ∃b,a6 a=some b/\aW a=some b/\(b=true->a.2.1.length<=12/\VA a a.2.1.length):=by
 obtain ⟨-,⟨ha,-⟩,hn,hr⟩:=hs
 obtain ⟨b1,e1,k1⟩:=FI a (by omega) (by omega)
 obtain ⟨b2,e2,k2⟩:=Mz a (by omega) (by omega) (fun r h=>by have:r.length<=1048576:=(hr r h).1;omega)
 have:b2=b1:=by
  cases h1:b1 <;> cases h2:b2
  ·rfl
  ·have:=k1.2 (k2.1 h2);rw[h1] at this;cases this
  ·have:=k2.2 (k1.1 h1);rw[h2] at this;cases this
  ·rfl
 subst this
 exact ⟨b2,e1,e2,k1.1⟩
theorem MA (a b:AutT) (ha:Data.sm a) (hb:Data.sm b): ∃r,bK a b=some r/\fl a b=some r:=by
 obtain ⟨va,e1,e2,ka⟩:=pz a ha
 obtain ⟨vb,e3,e4,kb⟩:=pz b hb
 unfold bK fl gO mK
 simp only[iP]
 rw[e1,e2,e3,e4];simp only[aa]
 cases va with
 | false=>exact ⟨false,rfl,rfl⟩
 | true =>
  cases vb with
  | false=>exact ⟨false,rfl,rfl⟩
  | true =>
   obtain ⟨hn,Va⟩:=ka rfl
   obtain ⟨hm,Vb⟩:=kb rfl
   obtain ⟨w,w',r,es,ei⟩:=DW Va Vb hn hm
   simp only[if_true]
   rw[es,ei]
   exact ⟨!r,rfl,rfl⟩
theorem FJ {r:rM} (hr:Data.sm r) (id:Int): ∃x:AutT×Bool,br r id=some x/\cz r id=some x/\Data.sm x.1/\(x.2=true->Mu r/\bI r=some true):=by
 obtain ⟨k,f1,f2,hk⟩:=yU r id (cX hr.2).1
 obtain ⟨b,v1,v2,hv⟩:=vz hr
 unfold br cz
 simp only[f1,f2,v1,v2,aa,iP]
 rcases hk with rfl | ⟨i,hi,rfl⟩
 ·refine ⟨((0,[],[]),false),?_,?_,py,fun h=>by cases h⟩
  ·cases b <;> rfl
  ·rfl
 ·have hk:decide ((i:Int)<0)=false:=by simp
  cases b with
  | false=>exact ⟨((0,[],[]),false),by simp[hk],by simp[hk],py,fun h=>by cases h⟩
  | true =>
   obtain ⟨hs,hq⟩:=hv rfl
   obtain ⟨q1,q2⟩:=hq _ (List.getElem_mem hi)
   have e1:aP r.1 r.2[i].2.2=some (nth r.1 r.2[i].2.2):=ax q1 q2
   have hm:Data.sm (nth r.1 r.2[i].2.2):=(cX hs.1).2 _ (bg q1 q2)
   simp only[if_true,hk,Bool.false_eq_true,if_false,aO hi,aa,e1,iP,B1 _ hm,Mv _ hm]
   exact ⟨_,rfl,rfl,hm,fun _=>⟨⟨hs,hq⟩,trivial⟩⟩
def DX (r:rM) (id k:Int):Prop:= ∃xa,br r id=some (xa,true)/\Data.sm xa/\Mu r/\bI r=some true/\ ∃i:Nat,i<r.2.length/\(nth r.2 (i:Int)).1=k/\bK xa (nth r.1 (nth r.2 (i:Int)).2.2)=some true
theorem B4 {r:rM} (hr:Data.sm r) (id:Int): ∃v,fU r id=some v/\fS r id=some v/\Data.sm v/\ ∀k∈v,DX r id k:=by
 obtain ⟨x,q1,q2,hx,hv⟩:=FJ hr id
 have hl:=(cX hr.2).1
 unfold fU fS
 simp only[iP]
 rw[q1,q2];simp only[aa]
 obtain ⟨xa,xb⟩:=x
 cases xb with
 | false =>
  refine ⟨[],?_,rfl,⟨by decide,fun _ h=>by cases h⟩,fun _ h=>by cases h⟩
  have:ay (be r id (xa,false)) aQ ([],0)=some (.brk ([],0)):=by
   refine aN (f:=be r id (xa,false)) (fun _=>(([] :List Int),0)) 0 (fun i hi=>by omega) ?_ (by unfold aQ;omega)
   unfold be
   simp
  rw[af this]
 | true =>
  obtain ⟨hR,hval⟩:=hv rfl
  have step: ∀i:Nat,i<r.2.length-> ∀acc:List Int,acc.length<=i-> ∃acc':List Int,(acc'.length<=i+1/\ ∀k∈acc',k∈acc\/DX r id k)/\be r id (xa,true) (acc,(i:Int))=some (.nxt (acc',((i+1:Nat):Int)))/\cC r id (xa,true) (acc,(i:Int))=some (.nxt (acc',((i+1:Nat):Int))):=by
   intro i hi acc ha
   have hg:aP r.2 (i:Int)=some (nth r.2 (i:Int)):=ax (by omega) (by omega)
   obtain ⟨g1,g2⟩:=hR.2 _ (bg (xs:=r.2) (i:=(i:Int)) (by omega) (by omega))
   have hm:Data.sm (nth r.1 (nth r.2 (i:Int)).2.2):=(cX hR.1.1).2 _ (bg g1 g2)
   obtain ⟨b,b1,b2⟩:=MA xa _ hx hm
   have hlt:decide ((i:Int)<(r.2.length:Int))=true:=by simp;omega
   unfold be cC
   simp only[iP,hlt,if_true,hg,aa,ax g1 g2,b1,b2,ai (show i<9223372036854775807 by omega)]
   have hb1:b=true->DX r id (nth r.2 (i:Int)).1:=fun hb=>⟨xa,q1,hx,hR,hval,i,hi,rfl,by rw[hb] at b1;exact b1⟩
   cases (nth r.2 (i:Int)).1 !=id with
   | false=>exact ⟨acc,⟨by omega,fun k hk=>.inl hk⟩,rfl,rfl⟩
   | true =>
    cases b with
    | false=>exact ⟨acc,⟨by omega,fun k hk=>.inl hk⟩,rfl,rfl⟩
    | true =>
     simp only[if_true]
     rw[aI (by simp;omega)]
     exact ⟨acc++ [(nth r.2 (i:Int)).1],⟨by simp;omega,fun k hk=>by
      rcases aH hk with hk | hk
      ·exact .inl hk
      ·rw[al hk];exact .inr (hb1 rfl)⟩,rfl,rfl⟩
  have hsame:=rA (f:=be r id (xa,true)) (g:=cC r id (xa,true)) (fun i s=>i<=r.2.length/\s.2=(i:Int)/\s.1.length<=i) (fun i s hI=>by
   obtain ⟨acc,j⟩:=s
   obtain ⟨h0,rfl,h2⟩:=hI
   by_cases c:i<r.2.length
   ·obtain ⟨acc',h3,h4,h5⟩:=step i c acc h2
    refine ⟨by rw[h4,h5],fun s' e=>?_⟩
    rw[h4] at e;cases e
    exact ⟨by omega,rfl,h3.1⟩
   ·have hlt:decide ((i:Int)<(r.2.length:Int))=false:=by simp;omega
    have hs:be r id (xa,true) (acc,(i:Int))=some (.brk (acc,(i:Int))):=by
     unfold be
     simp only[hlt,Bool.false_eq_true,if_false]
    have hi':cC r id (xa,true) (acc,(i:Int))=some (.brk (acc,(i:Int))):=by
     unfold cC
     simp only[hlt,Bool.false_eq_true,if_false]
    refine ⟨by rw[hs,hi'],fun s' e=>?_⟩
    rw[hs] at e;cases e) aQ 0 ([],0) ⟨by omega,rfl,by simp⟩
  obtain ⟨s',e,h1,h2,h7⟩:=db (f:=be r id (xa,true)) (fun i s=>s.2=(i:Int)/\s.1.length<=i/\ ∀k∈s.1,DX r id k) r.2.length (by
   rintro i ⟨acc,j⟩ hi ⟨rfl,h2,h6⟩
   obtain ⟨acc',h3,h4,-⟩:=step i hi acc h2
   exact ⟨_,h4,rfl,h3.1,fun k hk=>(h3.2 k hk).elim (fun h=>h6 k h) fun h=>h⟩) (by
   rintro ⟨acc,j⟩ ⟨rfl,h2,h6⟩
   unfold be
   simp) (s:=([],0)) ⟨rfl,by simp,fun k hk=>by cases hk⟩ (ju (by omega))
  refine ⟨s'.1,by rw[af e],?_,⟨?_,fun _ _=>trivial⟩,h7⟩
  ·simp only[if_true]
   rw[af (hsame.trans e)]
  ·show s'.1.length<=1048576;omega
end D
namespace D
open Go.RowKit
abbrev GrT:=(List Int)×(List Yq1)
theorem I5 {R:Type} {f:Int->Option (Out R Int)} (N:Nat) (p:Nat->Prop) [DecidablePred p] (r:R) (hN:N<=9223372036854775807)
  (h: ∀i:Nat,i<N->f (i:Int)=some (if p i then .nxt ((i+1:Nat):Int) else .ret r)) (he:f (N:Int)=some (.brk (N:Int))) :
  (ay f aQ 0=some (.brk (N:Int))/\ ∀i,i<N->p i)\/(ay f aQ 0=some (.ret r)/\ ¬ ∀i,i<N->p i):=by
 obtain ⟨o,e,hq⟩:=bX (f:=f) (fun i s=>s=(i:Int)/\ ∀j:Nat,j<i->p j) (fun o=>(o= .brk (N:Int)/\ ∀i,i<N->p i)\/(o= .ret r/\ ¬ ∀i,i<N->p i)) N (s:=0) (by
  rintro i s hi ⟨rfl,hp⟩
  by_cases hl:i<N
  ·by_cases c:p i
   ·refine .inl ⟨hl,_,by rw[h i hl,if_pos c],rfl,fun j hj=>?_⟩
    by_cases e:j=i
    ·subst e;exact c
    ·exact hp j (by omega)
   ·exact .inr ⟨_,by rw[h i hl,if_neg c],(fun s' e=>by cases e),.inr ⟨rfl,fun hx=>c (hx i hl)⟩⟩
  ·obtain rfl:i=N:=by omega
   exact .inr ⟨_,he,(fun s' e=>by cases e),.inl ⟨rfl,hp⟩⟩) ⟨rfl,by omega⟩ (ju hN)
 rcases hq with ⟨rfl,hq⟩ | ⟨rfl,hq⟩
 ·exact .inl ⟨e,hq⟩
 ·exact .inr ⟨e,hq⟩
structure GOk (g:GrT):Prop where
 n1:1<=g.1.length
 n5:g.1.length<=5
 m:g.2.length<=12
 val: ∀v∈g.1,0<=v/\v<=2
 edge: ∀e∈g.2,(0<=e.2.1/\e.2.1<g.1.length)/\(0<=e.2.2.1/\e.2.2.1<g.1.length)/\0<=e.2.2.2/\e.2.2.2<=2
 asc: ∀i:Nat,i+1<g.2.length->(nth g.2 i).1<(nth g.2 ((i+1:Nat):Int)).1
def edgeP (e:Int×Int×Int×Int) (n:Int):Prop:=(1<=e.1/\e.1<=99)/\(0<=e.2.1/\e.2.1<=n - 1)/\(0<=e.2.2.1/\e.2.2.1<=n - 1)/\0<=e.2.2.2/\e.2.2.2<=2
instance (e n):Decidable (edgeP e n):=by unfold edgeP;infer_instance
theorem VM (e:Int×Int×Int×Int) {n:Nat} (hn:n<=1048576):ou e (n:Int)=some (decide (edgeP e n)):=by
 unfold ou edgeP
 simp only[Jl,aa,lu (show n<=9223372036854775807 by omega)]
 by_cases c1:1<=e.1/\e.1<=99 <;> by_cases c2:0<=e.2.1/\e.2.1<=(n:Int) - 1 <;> by_cases c3:0<=e.2.2.1/\e.2.2.1<=(n:Int) - 1 <;> simp[c1,c2,c3]
def W8 (g:GrT):Prop:=GOk g/\ ∀e∈g.2,1<=e.1/\e.1<=99
theorem Hs (g:GrT) (h1:g.1.length<=1048576) (h2:g.2.length<=1048576): ∃b,bs g=some b/\(b=true↔W8 g):=by
 unfold bs
 have k0:=I5 (f:=dX g) g.1.length (fun i=>0<=nth g.1 i/\nth g.1 i<=2) false (by omega) (fun i hi=>by
  unfold dX
  rw[if_pos (by simp;omega),ax (by omega) (by omega)];simp only[aa,Jl,decide_eq_true_eq]
  split
  ·rw[ai (by omega)]
  ·rfl) (by unfold dX;rw[if_neg (by simp)])
 have k1:=I5 (f:=dg g) g.2.length (fun i=>edgeP (nth g.2 i) g.1.length/\(0<i->(nth g.2 ((i:Int) - 1)).1<(nth g.2 i).1)) false (by omega) (fun i hi=>by
  unfold dg
  rw[if_pos (by simp;omega),ax (by omega) (by omega)];simp only[aa]
  have e1:=VM (nth g.2 (i:Int)) h1
  have e1:ou ((nth g.2 (i:Int)).1,(nth g.2 (i:Int)).2.1,(nth g.2 (i:Int)).2.2.1,(nth g.2 (i:Int)).2.2.2) (g.1.length:Int)=_:=e1
  rw[e1];simp only[aa,decide_eq_true_eq]
  by_cases c1:edgeP (nth g.2 (i:Int)) g.1.length
  ·rw[if_pos c1]
   by_cases c2:0<i
   ·rw[if_pos (by omega),lu (by omega),ax (by omega) (by omega)];simp only[aa]
    by_cases c3:(nth g.2 ((i:Int) - 1)).1<(nth g.2 (i:Int)).1
    ·rw[if_neg (by omega),if_pos ⟨c1,fun _=>c3⟩,ai (by omega)]
    ·rw[if_pos (by omega),if_neg (fun h=>c3 (h.2 c2))]
   ·rw[if_neg (by omega),if_pos ⟨c1,fun h=>absurd h c2⟩,ai (by omega)]
  ·rw[if_neg c1,if_neg (fun h=>c1 h.1)]) (by unfold dg;rw[if_neg (by simp)])
 rcases k0 with ⟨k0,j0⟩ | ⟨k0,j0⟩
 ·rw[af k0]
  rcases k1 with ⟨k1,j1⟩ | ⟨k1,j1⟩
  ·rw[af k1,Jl];simp only[aa,decide_eq_true_eq]
   split
   ·rename_i c
    refine ⟨_,rfl,fun hb=>?_,fun G=>decide_eq_true (by have:=G.1.m;omega)⟩
    have hb:=of_decide_eq_true hb
    refine ⟨⟨by omega,by omega,by omega,fun v hv=>?_,fun e he=>?_,fun i hi=>?_⟩,fun e he=>?_⟩
    rotate_left 3
    ·obtain ⟨i,hi,rfl⟩:=vv he
     exact (j1 i hi).1.1
    ·obtain ⟨i,hi,rfl⟩:=vv hv
     exact j0 i hi
    ·obtain ⟨i,hi,rfl⟩:=vv he
     obtain ⟨a1,a2,a3,a4⟩:=(j1 i hi).1
     exact ⟨⟨a2.1,by omega⟩,⟨a3.1,by omega⟩,a4⟩
    ·have:=(j1 (i+1) hi).2 (by omega)
     rwa [show (((i+1:Nat):Int) - 1)=(i:Int) from by omega] at this
   ·rename_i c
    exact ⟨false,rfl,(fun h=>by cases h),fun G=>absurd (by have:=G.1.n1;have:=G.1.n5;omega) c⟩
  ·rw[bN k1]
   refine ⟨false,rfl,(fun h=>by cases h),fun G=>absurd (fun i hi=>?_) j1⟩
   have hm:=bg (xs:=g.2) (i:=(i:Int)) (by omega) (by omega)
   obtain ⟨e1,e2,e3,e4⟩:=G.1.edge _ hm
   refine ⟨⟨G.2 _ hm,⟨e1.1,by omega⟩,⟨e2.1,by omega⟩,e3,e4⟩,fun h0=>?_⟩
   have:=G.1.asc (i - 1) (by omega)
   rwa [show ((i - 1:Nat):Int)=(i:Int) - 1 from by omega,show (((i - 1)+1:Nat):Int)=(i:Int) from by omega] at this
 ·rw[bN k0]
  exact ⟨false,rfl,(fun h=>by cases h),fun G=>absurd (fun i hi=>G.1.val _ (bg (by omega) (by omega))) j0⟩
theorem PF (g:GrT) (h1:g.1.length<=1048576) (h2:g.2.length<=1048576): ∃b,bs g=some b/\(b=true->GOk g):=by
 obtain ⟨b,h1,h2⟩:=Hs g h1 h2
 exact ⟨b,h1,fun h=>(h2.1 h).1⟩
theorem GOk.lt {g:GrT} (G:GOk g) {i j:Nat} (h:i<j) (hj:j<g.2.length):(nth g.2 (i:Int)).1<(nth g.2 (j:Int)).1:=by
 induction h with
 | refl=>exact G.asc i hj
 | step h ih =>
  rename_i m
  have h1:=ih (by omega)
  have h2:=G.asc m hj
  exact Int.lt_trans h1 h2
end D
namespace D
open Go.RowKit
theorem uF (m:Nat):BitVec.ofInt 64 (m:Int)=BitVec.ofNat 64 m:=by simp
theorem MB {m n:Nat} (hm:m<2 ^ 62) (hn:n<2 ^ 62):od (m:Int) (n:Int)=((m &&& n:Nat):Int):=by
 unfold od
 rw[uF,uF,BitVec.toNat_and,BitVec.toNat_ofNat,BitVec.toNat_ofNat,Nat.mod_eq_of_lt (by omega),Nat.mod_eq_of_lt (by omega)]
 have:m &&& n<=m:=Nat.and_le_left
 exact bY (by omega) (by omega)
theorem DY {m n:Nat} (hm:m<2 ^ 62) (hn:n<2 ^ 62):orI (m:Int) (n:Int)=((m ||| n:Nat):Int):=by
 unfold orI
 rw[uF,uF,BitVec.toNat_or,BitVec.toNat_ofNat,BitVec.toNat_ofNat,Nat.mod_eq_of_lt (by omega),Nat.mod_eq_of_lt (by omega)]
 have:m ||| n<2 ^ 62:=Nat.or_lt_two_pow hm hn
 exact bY (by omega) (by omega)
theorem B5 {m i:Nat} (hi:i<64):lT (m:Int) (i:Int)=((m >>> i:Nat):Int):=by
 unfold lT
 rw[show min (i:Int).toNat 64=i from by simp;omega,Nat.shiftRight_eq_div_pow,Int.fdiv_eq_ediv_of_nonneg _ (by exact_mod_cast Nat.zero_le _)]
 simp
theorem th {i:Nat} (hi:i<62):tn 1 (i:Int)=((2 ^ i:Nat):Int):=by
 unfold tn
 rw[show min (i:Int).toNat 64=i from by simp;omega,Int.one_mul]
 have:2 ^ i<2 ^ 62:=Nat.pow_lt_pow_right (by decide) hi
 rw[show ((2:Int) ^ i)=((2 ^ i:Nat):Int) from by simp]
 generalize 2 ^ i=z at this
 exact bY (by omega) (by omega)
theorem yV {m i:Nat} (hm:m<2 ^ 62) (hi:i<64):((od (lT (m:Int) (i:Int)) 1)==1)=m.testBit i:=by
 have h1:m >>> i<2 ^ 62:=Nat.lt_of_le_of_lt (by rw[Nat.shiftRight_eq_div_pow];exact Nat.div_le_self _ _) hm
 rw[B5 hi,show (1:Int)=((1:Nat):Int) from rfl,MB h1 (by decide),Nat.testBit,Nat.and_comm]
 have e:m >>> i &&& 1=m >>> i % 2:=Nat.and_one_is_mod _
 rw[Nat.and_comm 1,e]
 rcases Nat.mod_two_eq_zero_or_one (m >>> i) with h | h <;> rw[h] <;> rfl
theorem B6 {m i:Nat} (hm:m<2 ^ 62) (hi:i<64):((od (lT (m:Int) (i:Int)) 1)==0)= !m.testBit i:=by
 have h1:m >>> i<2 ^ 62:=Nat.lt_of_le_of_lt (by rw[Nat.shiftRight_eq_div_pow];exact Nat.div_le_self _ _) hm
 rw[B5 hi,show (1:Int)=((1:Nat):Int) from rfl,MB h1 (by decide),Nat.testBit,Nat.and_comm]
 have e:m >>> i &&& 1=m >>> i % 2:=Nat.and_one_is_mod _
 rw[Nat.and_comm 1,e]
 rcases Nat.mod_two_eq_zero_or_one (m >>> i) with h | h <;> rw[h] <;> rfl
def dI (m k:Nat):List Int:=((List.range k).filter fun i=>m.testBit i).map fun (i:Nat)=>(i:Int)
theorem jQ (m k:Nat):dI m (k+1)=if m.testBit k then dI m k++ [(k:Int)] else dI m k:=by
 unfold dI
 rw[List.range_succ,List.filter_append,aJ]
 by_cases h:m.testBit k=true
 ·simp[h]
 ·simp[h]
theorem rB {m k l:Nat} (h:m<2 ^ k) (hl:k<=l):dI m l=dI m k:=by
 induction hl with
 | refl=>rfl
 | step hl ih =>
  rw[jQ,Nat.testBit_lt_two_pow (aF h (Nat.pow_le_pow_right (by decide) hl)),ih];rfl
theorem lB {m k:Nat} {x:Int} :x∈dI m k↔ ∃i:Nat,i<k/\m.testBit i=true/\x=(i:Int):=by
 unfold dI
 simp only[List.mem_map,List.mem_filter,List.mem_range]
 constructor
 ·rintro ⟨i,⟨h1,h2⟩,rfl⟩;exact ⟨i,h1,h2,rfl⟩
 ·rintro ⟨i,h1,h2,rfl⟩;exact ⟨i,⟨h1,h2⟩,rfl⟩
theorem lC (m k:Nat):(dI m k).length<=k:=by
 unfold dI;rw[List.length_map];exact Nat.le_trans (List.length_filter_le _ _) (by simp)
theorem AJ {m:Nat} : ∀ {k:Nat},(∀i,i<k->m.testBit i=false)->dI m k= []
 | 0,_=>rfl
 | k+1,h=>by rw[jQ,h k (by omega),AJ fun i hi=>h i (by omega)];rfl
theorem DZ {s k:Nat} (h:s<k):dI (2 ^ s) k= [(s:Int)]:=by
 rw[rB (k:=s+1) (Nat.pow_lt_pow_right (by decide) (by omega)) h,jQ,Nat.testBit_two_pow,AJ fun i hi=>by rw[Nat.testBit_two_pow];simp;omega]
 simp
theorem kV (m i j:Nat):(m ||| 2 ^ i).testBit j=(m.testBit j || decide (i=j)):=by
 rw[Nat.testBit_or,Nat.testBit_two_pow]
theorem uG {m i k:Nat} (h:m<2 ^ k) (hi:i<k):m ||| 2 ^ i<2 ^ k:=Nat.or_lt_two_pow h (Nat.pow_lt_pow_right (by decide) hi)
theorem PG {m i:Nat} (h:m >>> i=0):m<2 ^ i:=by
 rw[Nat.shiftRight_eq_div_pow] at h
 exact (Nat.div_eq_zero_iff_lt (Nat.two_pow_pos i)).1 h
end D
namespace D
open Go.RowKit
theorem p62 {n:Nat} (h:n<=30):2 ^ n<=2 ^ 62:=Nat.pow_le_pow_right (by decide) (by omega)
theorem qM {M:Nat} (hM:M<2 ^ 30):gP (M:Int)=some (dI M 30):=by
 have h62:M<2 ^ 62:=aF hM (p62 (by decide))
 obtain ⟨o,e,hq⟩:=bX (f:=nW (M:Int)) (fun i s=>s=(dI M i,(i:Int))) (fun o=> ∃k,o= .brk (dI M 30,k)) 30 (s:=([],0)) (by
  rintro i s hi rfl
  unfold nW
  have e0:chk ((0:Int)<=(i:Int))=some ():=by unfold chk;rw[if_pos (by omega)]
  simp only[e0,aa]
  by_cases c:M >>> i=0
  ·refine .inr ⟨.brk (dI M i,(i:Int)),?_,(fun s' e=>by cases e),(i:Int),by rw[rB (PG c) hi]⟩
   rw[B5 (by omega),c];rfl
  ·have hi':i<30:=by
    rcases Nat.lt_or_ge i 30 with h | h
    ·exact h
    ·exfalso;apply c
     rw[Nat.shiftRight_eq_div_pow]
     exact Nat.div_eq_of_lt (aF hM (Nat.pow_le_pow_right (by decide) h))
   refine .inl ⟨hi',(dI M (i+1),((i+1:Nat):Int)),?_,rfl⟩
   have c':((lT (M:Int) (i:Int)) !=0)=true:=by
    rw[B5 (by omega)]
    simp only[bne_iff_ne,ne_eq]
    omega
   rw[if_pos c',yV h62 (by omega),jQ,ai (by omega)]
   by_cases b:M.testBit i=true
   ·rw[if_pos b,if_pos b,aI (by have:=lC M i;simp;omega)];rfl
   ·rw[if_neg b,if_neg b];rfl) rfl (by unfold aQ;omega)
 obtain ⟨k,rfl⟩:=hq
 unfold gP
 exact af e
def ClI (n:Nat) (i:Nat) (st:Int×Int):Prop:=(-1<=st.2/\st.2<n)/\ ∃(M:Nat) (L:List Int),st.1=(M:Int)/\M<2 ^ n/\L.length=i/\L.Nodup/\(∀x∈L,0<=x/\x<n)/\ ∀j:Nat,M.testBit j=true↔(j:Int)∈L
theorem VN {n:Nat} {L:List Int} (h:L.Nodup) (k: ∀x∈L,0<=x/\x<n):L.length<=n:=by
 have:=h.length_le_of_subset (l₂:=(List.range n).map fun i:Nat=>(i:Int)) (fun x hx=>by
  obtain ⟨h0,h1⟩:=k x hx
  exact List.mem_map.2 ⟨x.toNat,List.mem_range.2 (by omega),by omega⟩)
 simpa using this
section
variable {a:AutT} {n:Nat} (V:VA a n) (hn:n<=12)
include V hn
theorem MC {v:Int} (hv:0<=v/\v<=2) {i:Nat} {st:Int×Int} (h:ClI n i st) :
  (i<n/\ ∃st',bQ a v st=some (.nxt st')/\ClI n (i+1) st')\/bQ a v st=some (.brk st):=by
 obtain ⟨⟨h1,h2⟩,M,L,e1,hM,hl,hd,hr,hb⟩:=h
 obtain ⟨m,s⟩:=st
 obtain rfl:m=(M:Int):=e1
 have h62:M<2 ^ 62:=aF hM (p62 (by omega))
 unfold bQ
 by_cases c:s≥0
 ·obtain ⟨k,rfl⟩: ∃k:Nat,s=(k:Int):=⟨s.toNat,by omega⟩
  have hk:k<n:=by simp only at h2;omega
  have e0:chk ((0:Int)<=(k:Int))=some ():=by unfold chk;rw[if_pos (by omega)]
  simp only[e0,aa]
  rw[if_pos (by simp),B6 h62 (by omega)]
  by_cases b:M.testBit k=true
  ·right;rw[if_neg (by simp[b])]
  ·left
   have b':(k:Int)∉L:=fun hh=>b ((hb k).2 hh)
   have hle:=VN (n:=n) (L:=(k:Int)::L) (List.nodup_cons.2 ⟨b',hd⟩) (fun x hx=>by
    rcases az hx with rfl | hx
    ·omega
    ·exact hr x hx)
   simp only[au] at hle
   obtain ⟨u,rfl⟩: ∃u:Nat,v=(u:Int):=⟨v.toNat,by omega⟩
   have hu:u<=2:=by omega
   have ew:IntKind.i64.wrap (6+(u:Int))=((6+u:Nat):Int):=by rw[bY (by omega) (by omega)];omega
   refine ⟨by omega,(((M ||| 2 ^ k:Nat):Int),mv a (k:Int) (6+u)),?_,?_,M ||| 2 ^ k,(k:Int)::L,rfl,uG hM hk,by simp[hl],List.nodup_cons.2 ⟨b',hd⟩,?_,?_⟩
   ·rw[if_pos (by simp[b]),ew]
    have e2:=we V (s:=(k:Int)) (k:=6+u) (by omega) (by omega) (by omega)
    have e2:aS (a.1,a.2.1,a.2.2) (k:Int) ((6+u:Nat):Int)=_:=e2
    rw[e2,th (by omega),DY h62 (Nat.pow_lt_pow_right (by decide) (by omega))];rfl
   ·exact V.mv (by omega) (by omega) (by omega)
   ·intro x hx
    rcases az hx with rfl | hx
    ·omega
    ·exact hr x hx
   ·intro j
    rw[kV,Bool.or_eq_true,hb j,List.mem_cons,decide_eq_true_eq]
    constructor
    ·rintro (h | h)
     ·exact .inr h
     ·left;omega
    ·rintro (h | h)
     ·right;omega
     ·exact .inl h
 ·right
  rw[if_neg (by simpa using c)]
theorem D0 {s v:Int} (hs:0<=s/\s<n) (hv:0<=v/\v<=2): ∃C:Nat,dY a s v=some (C:Int)/\C<2 ^ n:=by
 have h0:ClI n 0 (0,s):=⟨⟨by simp only;omega,hs.2⟩,0,[],rfl,Nat.two_pow_pos n,rfl,List.nodup_nil,by simp,by simp⟩
 obtain ⟨o,e,C,s',rfl,hC⟩:=bX (f:=bQ a v) (ClI n) (fun o=> ∃(C:Nat) (s':Int),o= .brk ((C:Int),s')/\C<2 ^ n) n (s:=(0,s)) (fun i st hi h=>by
  rcases MC V hn hv h with h' | h'
  ·exact .inl h'
  ·obtain ⟨_,M,L,e1,hM,_⟩:=h
   obtain ⟨m,s'⟩:=st
   obtain rfl:m=(M:Int):=e1
   exact .inr ⟨_,h',(fun s' e=>by cases e),M,s',rfl,hM⟩) h0 (by unfold aQ;omega)
 exact ⟨C,by unfold dY;exact af e,hC⟩
end
def cS (a:AutT) (s v:Int):Nat:=((dY a s v).getD 0).toNat
section
variable {a:AutT} {n:Nat} (V:VA a n) (hn:n<=12)
include V hn
theorem jl {s v:Int} (hs:0<=s/\s<n) (hv:0<=v/\v<=2):dY a s v=some (cS a s v:Int)/\cS a s v<2 ^ n:=by
 obtain ⟨C,e,h⟩:=D0 V hn hs hv
 unfold cS
 rw[e]
 exact ⟨rfl,by simpa using h⟩
end
def afS (a:AutT) (k:Nat) (C:Nat):Nat->Nat
 | 0=>0
 | q+1=>if C.testBit q=true/\0<=mv a (q:Int) k then afS a k C q ||| 2 ^ (mv a (q:Int) k).toNat else afS a k C q
def afL (a:AutT) (k:Nat) (l:List Int):Nat:=l.foldl (fun m t=>if 0<=mv a t k then m ||| 2 ^ (mv a t k).toNat else m) 0
theorem FK (a:AutT) (k C:Nat): ∀q,afL a k (dI C q)=afS a k C q
 | 0=>rfl
 | q+1=>by
  rw[jQ,afS]
  by_cases b:C.testBit q=true
  ·rw[if_pos b]
   unfold afL
   rw[List.foldl_append]
   have:=FK a k C q
   unfold afL at this
   rw[this]
   simp[b]
  ·rw[if_neg b,if_neg (fun h=>b h.1)]
   exact FK a k C q
section
variable {a:AutT} {n:Nat} (V:VA a n) (hn:n<=12)
include V
theorem MF {k C:Nat} (hk:k<9): ∀q,q<=n->afS a k C q<2 ^ n
 | 0,_=>Nat.two_pow_pos n
 | q+1,hq=>by
  rw[afS]
  have:=MF (C:=C) hk q (by omega)
  split
  ·rename_i c
   have:=(V.mv (s:=(q:Int)) (by omega) (by omega) hk).2
   exact uG (by assumption) (by omega)
  ·exact this
theorem QZ {k:Nat} (hk:k<9) {l:List Int} (h: ∀x∈l,0<=x/\x<n):afL a k l<2 ^ n:=by
 unfold afL
 have key: ∀(l:List Int) (m:Nat),(∀x∈l,0<=x/\x<n)->m<2 ^ n->l.foldl (fun m t=>if 0<=mv a t k then m ||| 2 ^ (mv a t k).toNat else m) m<2 ^ n:=by
  intro l
  induction l with
  | nil=>intro m _ h;exact h
  | cons x l ih =>
   intro m hx hm
   rw[List.foldl_cons]
   refine ih _ (fun y hy=>hx y (by simp[hy])) ?_
   split
   ·have:=(V.mv (hx x (by simp)).1 (hx x (by simp)).2 hk).2
    exact uG hm (by omega)
   ·exact hm
 exact key l 0 h (Nat.two_pow_pos n)
include hn
theorem mb {C:Nat} (hC:C<2 ^ n): ∀x∈dI C 30,0<=x/\x<(n:Int):=by
 intro x hx
 obtain ⟨i,hi,hb,rfl⟩:=lB.1 hx
 refine ⟨by omega,?_⟩
 rcases Nat.lt_or_ge i n with h | h
 ·omega
 ·rw[Nat.testBit_lt_two_pow (aF hC (Nat.pow_le_pow_right (by decide) h))] at hb;cases hb
theorem I6 {k:Nat} (hk:k<6) {l:List Int} (hl: ∀x∈l,0<=x/\x<n) (hlen:l.length<=30):ay (lf a (k:Int) l) aQ (0,0)=some (.brk ((afL a k l:Int),(l.length:Int))):=by
 have:=aN (f:=lf a (k:Int) l) (fun i=>((afL a k (l.take i):Int),(i:Int))) l.length (fun i hi=>by
  unfold lf
  simp only
  have hx:=hl _ (bg (xs:=l) (i:=(i:Int)) (by omega) (by omega))
  rw[if_pos (by simp;omega),ax (by omega) (by omega)];simp only[aa]
  have e2:=we V (s:=nth l (i:Int)) (k:=k) hx.1 hx.2 (by omega)
  have e2:aS (a.1,a.2.1,a.2.2) (nth l (i:Int)) (k:Int)=_:=e2
  rw[e2,ai (by omega)];simp only[aa]
  have et:l.take (i+1)=l.take i++ [nth l (i:Int)]:=by rw[List.take_add_one,bT hi];simp[hi]
  have ef:afL a k (l.take (i+1))=if 0<=mv a (nth l (i:Int)) k then afL a k (l.take i) ||| 2 ^ (mv a (nth l (i:Int)) k).toNat else afL a k (l.take i):=by
   rw[et];unfold afL;rw[List.foldl_append];rfl
  have hlt:=QZ V (k:=k) (by omega) (l:=l.take i) (fun x hx=>hl x (List.mem_of_mem_take hx))
  have hmv:=(V.mv (s:=nth l (i:Int)) (k:=k) hx.1 hx.2 (by omega)).2
  rw[ef]
  by_cases c:0<=mv a (nth l (i:Int)) k
  ·rw[if_pos (by simpa using c),if_pos c]
   obtain ⟨t,ht⟩: ∃t:Nat,mv a (nth l (i:Int)) k=(t:Int):=⟨_,(Int.toNat_of_nonneg c).symm⟩
   have e0:chk ((0:Int)<=mv a (nth l (i:Int)) k)=some ():=by unfold chk;rw[if_pos c]
   rw[e0,ht,th (by omega),DY (aF hlt (p62 (by omega))) (Nat.pow_lt_pow_right (by decide) (by omega))];rfl
  ·rw[if_neg (by simpa using c),if_neg c];rfl) (by unfold lf;simp) (ju (by omega))
 simpa [afL] using this
theorem VO {s v:Int} {k:Nat} (hs:0<=s/\s<n) (hv:0<=v/\v<=2) (hk:k<6):qg a (tn 1 s) v (k:Int)=some (afL a k (dI (cS a s v) 30):Int):=by
 obtain ⟨t,rfl⟩: ∃t:Nat,s=(t:Int):=⟨s.toNat,by omega⟩
 obtain ⟨e1,h1⟩:=jl V hn hs hv
 have hC:cS a (t:Int) v<2 ^ 30:=aF h1 (Nat.pow_le_pow_right (by decide) (by omega))
 unfold qg
 rw[th (by omega),qM (Nat.pow_lt_pow_right (by decide) (by omega)),DZ (by omega)];simp only[aa]
 have h0:gQ a v (k:Int) [(t:Int)] (0,0)=some (.nxt ((afL a k (dI (cS a (t:Int) v) 30):Int),1)):=by
  unfold gQ
  simp only
  rw[if_pos (by simp),show aP [(t:Int)] 0=some (t:Int) from rfl];simp only[aa]
  have e1:dY (a.1,a.2.1,a.2.2) (t:Int) v=_:=e1
  rw[e1];simp only[aa]
  rw[qM hC];simp only[aa]
  rw[I6 V hn hk (mb V hn h1) (lC _ _)]
  rfl
 have h1': ∀m:Int,gQ a v (k:Int) [(t:Int)] (m,1)=some (.brk (m,1)):=fun m=>by
  unfold gQ;rw[if_neg (by simp)]
 have:=aN (f:=gQ a v (k:Int) [(t:Int)]) (fun i=>if i=0 then (0,0) else ((afL a k (dI (cS a (t:Int) v) 30):Int),1)) 1 (fun i hi=>by
  obtain rfl:i=0:=by omega
  exact h0) (h1' _) (by unfold aQ;omega)
 have this:ay (gQ a v (k:Int) [(t:Int)]) aQ (0,0)=some (.brk ((afL a k (dI (cS a (t:Int) v) 30):Int),1)):=this
 rw[this];rfl
end
end D
namespace D
open Go.RowKit
theorem jm {p:Prop} [Decidable p] (h:p):chk p=some ():=by unfold chk;rw[if_pos h]
def rm {α:Type} (N:Nat) (F:Nat->α):List α:=(List.range N).map F
section
variable {α:Type} {N:Nat} {F G:Nat->α}
theorem wi:(rm N F).length=N:=by simp[rm]
theorem mc (h: ∀z,z<N->F z=G z):rm N F=rm N G:=by
 unfold rm
 exact List.map_congr_left fun z hz=>h z (List.mem_range.1 hz)
theorem vB {c:Nat} (h:c<N):aP (rm N F) (c:Int)=some (F c):=by
 rw[aO (by rw[wi];exact h)]
 simp[rm]
theorem MG {c:Nat} {v:α} :(rm N F).set c v=rm N fun z=>if z=c then v else F z:=by
 refine List.ext_getElem (by simp[rm]) fun i h1 h2=>?_
 simp only[rm,List.getElem_set,List.getElem_map,List.getElem_range]
 by_cases e:c=i
 ·subst e;simp
 ·rw[if_neg e,if_neg (fun h=>e h.symm)]
theorem tj {xs:List α} [Inhabited α] {k:Nat} (h:k<xs.length):xs.take (k+1)=xs.take k++ [nth xs (k:Int)]:=by
 rw[List.take_add_one,bT h];simp[h]
end
theorem Q0 {α:Type} {b n:Nat} {z:α} (h:n*b<=140737488355328):mkI b (n:Int) z=some (rm n fun _=>z):=by
 have:rm n (fun _=>z)=List.replicate n z:=by
  unfold rm;exact List.ext_getElem (by simp) fun i h1 h2=>by simp
 rw[this,Vj h]
abbrev EdT:=Int×Int×Int×Int
abbrev ArT:=(Int×Bool)×Int×Int
def fwd (e:EdT):ArT:=((e.1,false),2*e.2.2.2,e.2.2.1)
def inv (e:EdT):ArT:=((e.1,true),2*e.2.2.2+1,e.2.1)
def Q2 (e:EdT) (x:Int):List ArT:=(if e.2.1=x then [fwd e] else [])++(if e.2.2.1=x then [inv e] else [])
def arcL (es:List EdT) (x:Nat):List ArT:=es.flatMap fun e=>Q2 e x
theorem PH (e:EdT) (x:Int):(Q2 e x).length<=2:=by
 unfold Q2;rw[aj];split <;> split <;> simp
theorem qN {α β:Type} {f:α->List β} {B:Nat} : ∀ {xs:List α},(∀x∈xs,(f x).length<=B)->(xs.flatMap f).length<=B*xs.length
 | [],_=>by simp
 | x::xs,h=>by
  rw[List.flatMap_cons,aj,au,Nat.mul_add]
  have:=h x (by simp)
  have:=qN (xs:=xs) fun y hy=>h y (by simp[hy])
  omega
theorem rC (es:List EdT) (x:Nat):(arcL es x).length<=2*es.length:=qN fun e _=>PH e x
theorem MH (e:EdT) (h:0<=e.2.2.2/\e.2.2.2<=2) (b:Bool):qf e b=some (if b then 2*e.2.2.2+1 else 2*e.2.2.2):=by
 unfold qf
 rw[bY (n:=2*e.2.2.2) (by omega) (by omega),bY (by omega) (by omega)]
 cases b <;> rfl
theorem VP {g:GrT} (G:GOk g):tX g=some (rm g.1.length (arcL g.2)):=by
 unfold tX
 rw[Q0 (by have:=G.n5;omega)];simp only[aa]
 have:=aN (f:=mN g) (fun i=>((i:Int),rm g.1.length (arcL (g.2.take i)))) g.2.length (fun i hi=>by
  unfold mN
  simp only
  have hm:=G.m
  obtain ⟨⟨a1,a2⟩,⟨b1,b2⟩,c1⟩:=G.edge _ (bg (xs:=g.2) (i:=(i:Int)) (by omega) (by omega))
  rw[if_pos (by simp;omega),ax (by omega) (by omega)];simp only[aa]
  generalize he:nth g.2 (i:Int)=e at a1 a2 b1 b2 c1
  obtain ⟨id,fr,to,lb⟩:=e
  obtain ⟨p,rfl⟩: ∃p:Nat,fr=(p:Int):=⟨fr.toNat,by simp only at a1;omega⟩
  obtain ⟨q,rfl⟩: ∃q:Nat,to=(q:Int):=⟨to.toNat,by simp only at b1;omega⟩
  simp only at a1 a2 b1 b2 c1
  have hp:p<g.1.length:=by omega
  have hq:q<g.1.length:=by omega
  have r1:=MH (id,(p:Int),(q:Int),lb) c1 false
  have r2:=MH (id,(p:Int),(q:Int),lb) c1 true
  have l1:=rC (g.2.take i) p
  have l2:=rC (g.2.take i) q
  have l3:(g.2.take i).length<=12:=by rw[aE];omega
  simp only[vB hp,vB hq,aa,r1,r2,Int.toNat_natCast,MG,Bool.false_eq_true,if_false,if_true]
  rw[aI (by simp;omega)];simp only[aa,MG]
  rw[jm (by rw[wi];omega),jm trivial];simp only[aa]
  rw[aI (by split <;> simp <;> omega)];simp only[aa]
  rw[jm (by rw[wi];omega)];simp only[aa]
  try rw[jm rfl];simp only[aa]
  rw[ai (by omega)]
  congr 3
  refine mc fun z hz=>?_
  rw[tj hi,he]
  unfold arcL
  rw[List.flatMap_append]
  simp only[List.flatMap_cons,List.flatMap_nil,List.append_nil,Q2]
  by_cases e1:z=q
  ·subst e1
   by_cases e2:z=p
   ·subst e2;simp[fwd,inv]
   ·simp[e2,fwd,inv,show¬((p:Int)=(z:Int)) from by omega]
  ·by_cases e2:z=p
   ·subst e2;simp[e1,fwd,inv,show¬((q:Int)=(z:Int)) from by omega]
   ·simp[e1,e2,show¬((p:Int)=(z:Int)) from by omega,show¬((q:Int)=(z:Int)) from by omega]) (by unfold mN;simp) (ju (by have:=G.m;omega))
 have this:ay (mN g) aQ (0,rm g.1.length fun _=>[])=_:=this
 rw[this,List.take_length];rfl
end D
namespace D
open Go.RowKit
def behind (a:AutT) (s v k:Int):List Int:=dI (afL a k.toNat (dI (cS a s v) 30)) 30
def nbA (g:GrT) (a:AutT) (x s:Nat) (y:ArT):List Int:=(behind a s (nth g.1 x) y.2.1).map fun t=>y.2.2*(a.2.1.length:Int)+t
def nbV (g:GrT) (a:AutT) (x s:Nat):List Int:=(arcL g.2 x).flatMap (nbA g a x s)
def nbC (g:GrT) (a:AutT) (c:Nat):List Int:=nbV g a (c / a.2.1.length) (c % a.2.1.length)
theorem qO {g:GrT} (G:GOk g) {x:Nat} {y:ArT} (h:y∈arcL g.2 x):(0<=y.2.1/\y.2.1<6)/\0<=y.2.2/\y.2.2<g.1.length:=by
 obtain ⟨e,he,hy⟩:=List.mem_flatMap.1 h
 obtain ⟨h1,h2,h3⟩:=G.edge e he
 unfold Q2 at hy
 rcases aH hy with hy | hy <;> split at hy
 ·obtain rfl:y=fwd e:=by simpa using hy
  exact ⟨⟨by simp[fwd];omega,by simp[fwd];omega⟩,h2⟩
 ·cases hy
 ·obtain rfl:y=inv e:=by simpa using hy
  exact ⟨⟨by simp[inv];omega,by simp[inv];omega⟩,h1⟩
 ·cases hy
section
variable {g:GrT} {a:AutT} (G:GOk g) (V:VA a a.2.1.length) (hn:a.2.1.length<=12)
include G V hn
theorem uH {s v:Int} {k:Int} (hs:0<=s/\s<a.2.1.length) (hv:0<=v/\v<=2) (hk:0<=k/\k<6):(∀t∈behind a s v k,0<=t/\t<(a.2.1.length:Int))/\(behind a s v k).length<=30/\afL a k.toNat (dI (cS a s v) 30)<2 ^ 30:=by
 have h1:=(jl V hn hs hv).2
 have h2:=QZ V (k:=k.toNat) (by omega) (mb V hn h1)
 exact ⟨mb V hn h2,lC _ _,aF h2 (Nat.pow_le_pow_right (by decide) (by omega))⟩
theorem Q3 {x s:Nat} {y:ArT} (hx:x<g.1.length) (hs:s<a.2.1.length) (hy:y∈arcL g.2 x): ∀z∈nbA g a x s y,0<=z/\z<((a.2.1.length*g.1.length:Nat):Int):=by
 intro z hz
 obtain ⟨t,ht,rfl⟩:=List.mem_map.1 hz
 obtain ⟨k1,k2,k3⟩:=qO G hy
 have hv:=G.val _ (bg (xs:=g.1) (i:=(x:Int)) (by omega) (by omega))
 obtain ⟨t0,t1⟩:=(uH G V hn (s:=(s:Int)) ⟨by omega,by omega⟩ hv k1).1 t ht
 obtain ⟨q,hq⟩: ∃q:Nat,y.2.2=(q:Int):=⟨y.2.2.toNat,by omega⟩
 obtain ⟨r,rfl⟩: ∃r:Nat,t=(r:Int):=⟨t.toNat,by omega⟩
 rw[hq] at k3⊢
 have:q*a.2.1.length+r<g.1.length*a.2.1.length:=by
  have:(q+1)*a.2.1.length<=g.1.length*a.2.1.length:=Nat.mul_le_mul_right _ (by omega)
  rw[Nat.add_mul] at this;omega
 rw[Nat.mul_comm a.2.1.length]
 constructor
 ·exact_mod_cast Nat.zero_le _
 ·exact_mod_cast this
theorem VQ {x s:Nat} (hx:x<g.1.length) (hs:s<a.2.1.length): ∀z∈nbV g a x s,0<=z/\z<((a.2.1.length*g.1.length:Nat):Int):=by
 intro z hz
 obtain ⟨y,hy,hz⟩:=List.mem_flatMap.1 hz
 exact Q3 G V hn hx hs hy z hz
theorem MI {x s:Nat} {y:ArT} (hx:x<g.1.length) (hs:s<a.2.1.length) (hy:y∈arcL g.2 x):(nbA g a x s y).length<=30:=by
 unfold nbA
 rw[List.length_map]
 exact lC _ _
end
section
variable {g:GrT} {a:AutT} {F:Nat->List Int} {N:Nat}
theorem W9 {x s:Nat} {o1 o2:List (List Int)} {y:ArT} {T:List Int} (hc:x*a.2.1.length+s<N) (hN:N<=60) (hF:(F (x*a.2.1.length+s)).length<=10000) (hT:T.length<=30) (hy: ∀t∈T,0<=y.2.2*(a.2.1.length:Int)+t/\y.2.2*(a.2.1.length:Int)+t<60/\0<=t/\t<=60) :
  ay (dh a ((x:Int),o1) ((s:Int),o2) y T) aQ (0,rm N F)=some (.brk ((T.length:Int),rm N fun z=>if z=x*a.2.1.length+s then F z++T.map fun t=>y.2.2*(a.2.1.length:Int)+t else F z)):=by
 have ec:IntKind.i64.wrap (IntKind.i64.wrap ((x:Int)*(a.2.1.length:Int))+(s:Int))=((x*a.2.1.length+s:Nat):Int):=by
  have:((x:Int)*(a.2.1.length:Int))=((x*a.2.1.length:Nat):Int):=by simp
  rw[this,uv (by omega),bY (by omega) (by omega)];rfl
 have:=aN (f:=dh a ((x:Int),o1) ((s:Int),o2) y T) (fun j=>((j:Int),rm N fun z=>if z=x*a.2.1.length+s then F z++(T.take j).map fun t=>y.2.2*(a.2.1.length:Int)+t else F z)) T.length (fun j hj=>by
  unfold dh
  simp only
  obtain ⟨y0,y1,t0,t1⟩:=hy _ (bg (xs:=T) (i:=(j:Int)) (by omega) (by omega))
  rw[if_pos (by simp;omega),ax (by omega) (by omega)];simp only[aa,ec,vB hc,if_true]
  have ev:IntKind.i64.wrap (IntKind.i64.wrap (y.2.2*(a.2.1.length:Int))+nth T (j:Int))=y.2.2*(a.2.1.length:Int)+nth T (j:Int):=by
   rw[bY (n:=y.2.2*(a.2.1.length:Int)) (by omega) (by omega),bY (by omega) (by omega)]
  rw[ev,aI (by simp;omega)];simp only[aa,Int.toNat_natCast,MG]
  rw[jm (by rw[wi];omega),jm trivial,ai (by omega)];simp only[aa]
  congr 3
  refine mc fun z hz=>?_
  by_cases e:z=x*a.2.1.length+s
  ·subst e
   rw[if_pos rfl,if_pos rfl,tj hj,aJ,ak];rfl
  ·simp only[if_neg e]) (by unfold dh;simp) (ju (by omega))
 rw[List.take_length] at this
 rw[<-this]
 congr 2
 refine mc fun z hz=>?_
 split <;> simp
end
section
variable {g:GrT} {a:AutT} (G:GOk g) (V:VA a a.2.1.length) (hn:a.2.1.length<=12)
include G V hn
theorem nN:a.2.1.length*g.1.length<=60:=by
 have:=Nat.mul_le_mul hn G.n5;omega
theorem cN {x s:Nat} (hx:x<g.1.length) (hs:s<a.2.1.length):x*a.2.1.length+s<a.2.1.length*g.1.length:=by
 have:(x+1)*a.2.1.length<=g.1.length*a.2.1.length:=Nat.mul_le_mul_right _ (by omega)
 rw[Nat.add_mul,Nat.mul_comm g.1.length] at this;omega
theorem Xa {F:Nat->List Int} {x s:Nat} {o1 o2:List (List Int)} (hx:x<g.1.length) (hs:s<a.2.1.length) (hF:F (x*a.2.1.length+s)= []) :
  ay (dZ g a ((x:Int),o1) (arcL g.2 x) ((s:Int),o2)) aQ (0,rm (a.2.1.length*g.1.length) F)=some (.brk (((arcL g.2 x).length:Int),rm (a.2.1.length*g.1.length) fun z=>if z=x*a.2.1.length+s then nbV g a x s else F z)):=by
 have hl:=rC g.2 x
 have hm:=G.m
 have:=aN (f:=dZ g a ((x:Int),o1) (arcL g.2 x) ((s:Int),o2)) (fun j=>((j:Int),rm (a.2.1.length*g.1.length) fun z=>if z=x*a.2.1.length+s then ((arcL g.2 x).take j).flatMap (nbA g a x s) else F z)) (arcL g.2 x).length (fun j hj=>by
  unfold dZ
  simp only
  have hy:=bg (xs:=arcL g.2 x) (i:=(j:Int)) (by omega) (by omega)
  obtain ⟨k1,k2,k3⟩:=qO G hy
  have hv:=G.val _ (bg (xs:=g.1) (i:=(x:Int)) (by omega) (by omega))
  obtain ⟨q1,q2,q3⟩:=uH G V hn (s:=(s:Int)) (v:=nth g.1 (x:Int)) (k:=(nth (arcL g.2 x) (j:Int)).2.1) ⟨by omega,by omega⟩ hv k1
  rw[if_pos (by simp;omega),ax (by omega) (by omega)];simp only[aa]
  rw[jm (by omega),ax (xs:=g.1) (by omega) (by omega)];simp only[aa]
  obtain ⟨k,hk⟩: ∃k:Nat,(nth (arcL g.2 x) (j:Int)).2.1=(k:Int):=⟨_,(Int.toNat_of_nonneg k1.1).symm⟩
  have ea:=VO V hn (s:=(s:Int)) (v:=nth g.1 (x:Int)) (k:=k) ⟨by omega,by omega⟩ hv (by omega)
  have ea:qg (a.1,a.2.1,a.2.2) (tn 1 (s:Int)) (nth g.1 (x:Int)) (k:Int)=_:=ea
  rw[hk,ea];simp only[aa]
  have ek:k=(nth (arcL g.2 x) (j:Int)).2.1.toNat:=by rw[hk];rfl
  rw[ek,qM q3];simp only[aa]
  have hb:(((arcL g.2 x).take j).flatMap (nbA g a x s)).length<=30*((arcL g.2 x).take j).length:=qN fun y hy=>MI G V hn hx hs (List.mem_of_mem_take hy)
  have ht:((arcL g.2 x).take j).length<=24:=by rw[aE];omega
  have h3:=W9 (F:=fun z=>if z=x*a.2.1.length+s then ((arcL g.2 x).take j).flatMap (nbA g a x s) else F z) (o1:=o1) (o2:=o2) (y:=nth (arcL g.2 x) (j:Int)) (T:=behind a (s:Int) (nth g.1 (x:Int)) (nth (arcL g.2 x) (j:Int)).2.1) (cN G V hn hx hs) (nN G V hn) (by simp only[if_true];omega) q2 (fun t ht=>by
   have h1:=Q3 G V hn hx hs hy _ (List.mem_map.2 ⟨t,ht,rfl⟩)
   have h2:=q1 t ht
   have:=nN G V hn
   omega)
  unfold behind at h3
  have h3:ay (dh a ((x:Int),o1) ((s:Int),o2) (nth (arcL g.2 x) (j:Int)) (dI (afL a (nth (arcL g.2 x) (j:Int)).2.1.toNat (dI (cS a (s:Int) (nth g.1 (x:Int))) 30)) 30)) aQ (0,rm (a.2.1.length*g.1.length) fun z=>if z=x*a.2.1.length+s then ((arcL g.2 x).take j).flatMap (nbA g a x s) else F z)=_:=h3
  rw[af h3,ai (by omega)]
  congr 3
  refine mc fun z hz=>?_
  by_cases e:z=x*a.2.1.length+s
  ·subst e
   rw[if_pos rfl,if_pos rfl,tj hj,List.flatMap_append]
   simp[nbA,behind]
  ·simp only[if_neg e]) (by unfold dZ;simp) (ju (by omega))
 rw[List.take_length] at this
 rw[show nbV g a x s=(arcL g.2 x).flatMap (nbA g a x s) from rfl,<-this]
 congr 2
 refine mc fun z hz=>?_
 split
 ·rename_i e;subst e;rw[hF];simp
 ·rfl
theorem Q4 {x s:Nat} (hs:s<a.2.1.length):nbC g a (x*a.2.1.length+s)=nbV g a x s:=by
 unfold nbC
 rw[Nat.mul_comm,Nat.mul_add_div (by omega),Nat.mul_add_mod,Nat.div_eq_of_lt hs,Nat.mod_eq_of_lt hs,Nat.add_zero]
theorem Xb {x:Nat} {o1:List (List Int)} (hx:x<g.1.length) :
  ay (eg g a ((x:Int),o1) (arcL g.2 x)) aQ (0,rm (a.2.1.length*g.1.length) fun z=>if z<x*a.2.1.length then nbC g a z else [])=some (.brk ((a.2.1.length:Int),rm (a.2.1.length*g.1.length) fun z=>if z<(x+1)*a.2.1.length then nbC g a z else [])):=by
 have:=aN (f:=eg g a ((x:Int),o1) (arcL g.2 x)) (fun j=>((j:Int),rm (a.2.1.length*g.1.length) fun z=>if z<x*a.2.1.length+j then nbC g a z else [])) a.2.1.length (fun j hj=>by
  unfold eg
  simp only
  rw[if_pos (by simp;omega)]
  have h2:=Xa G V hn (F:=fun z=>if z<x*a.2.1.length+j then nbC g a z else []) (o1:=o1) (o2:=rm (a.2.1.length*g.1.length) fun z=>if z<x*a.2.1.length+j then nbC g a z else []) hx hj (by simp)
  rw[af h2,ai (by omega)]
  congr 3
  refine mc fun z hz=>?_
  by_cases e:z=x*a.2.1.length+j
  ·subst e
   rw[if_pos rfl,if_pos (by omega),Q4 G V hn hj]
  ·rw[if_neg e]
   by_cases e2:z<x*a.2.1.length+j
   ·rw[if_pos e2,if_pos (by omega)]
   ·rw[if_neg e2,if_neg (by omega)]) (by unfold eg;simp) (ju (by omega))
 rw[Nat.add_mul,Nat.one_mul]
 exact this
theorem Tx:eK g a=some (rm (a.2.1.length*g.1.length) (nbC g a)):=by
 have hN:=nN G V hn
 unfold eK
 have ew:IntKind.i64.wrap ((a.2.1.length:Int)*(g.1.length:Int))=((a.2.1.length*g.1.length:Nat):Int):=by
  rw[show ((a.2.1.length:Int)*(g.1.length:Int))=((a.2.1.length*g.1.length:Nat):Int) from by simp,uv (by omega)]
 have ea:=VP G
 have ea:tX (g.1,g.2)=_:=ea
 rw[ew,Q0 (by omega),ea];simp only[aa]
 have:=aN (f:=fV g a (rm g.1.length (arcL g.2))) (fun j=>((j:Int),rm (a.2.1.length*g.1.length) fun z=>if z<j*a.2.1.length then nbC g a z else [])) g.1.length (fun j hj=>by
  unfold fV
  simp only
  rw[if_pos (by rw[wi];simp;omega),vB hj];simp only[aa]
  rw[af (Xb G V hn hj),ai (by have:=G.n5;omega)]) (by unfold fV;rw[wi];simp) (ju (by have:=G.n5;omega))
 have e0:(rm (a.2.1.length*g.1.length) fun _=>([] :List Int))=rm (a.2.1.length*g.1.length) fun z=>if z<0*a.2.1.length then nbC g a z else []:=mc fun z hz=>by rw[if_neg (by omega)]
 rw[e0,show (0:Int)=((0:Nat):Int) from rfl,af this]
 congr 1
 refine mc fun z hz=>?_
 rw[if_pos (by rw[Nat.mul_comm g.1.length];exact hz)]
end
end D
namespace D
open Go.RowKit
def XR {R S T:Type} (φ:S->T):Out R S->Out R T
 | .ret r=>.ret r
 | .nxt s=>.nxt (φ s)
 | .brk s=>.brk (φ s)
theorem D1 {R S T:Type} {f:S->Option (Out R S)} {f':T->Option (Out R T)} (φ:S->T) (Inv:S->Prop)
  (h: ∀s,Inv s->f' (φ s)=(f s).map (XR φ)) (hi: ∀s s',Inv s->f s=some (.nxt s')->Inv s'): ∀n s,Inv s->ay f' n (φ s)=(ay f n s).map (XR φ)
 | 0,_,_=>rfl
 | n+1,s,hs=>by
  have e:=h s hs
  unfold ay
  rw[e]
  cases hf:f s with
  | none=>rfl
  | some o =>
   cases o with
   | ret r=>rfl
   | brk s'=>rfl
   | nxt s'=>exact D1 φ Inv h hi n s' (hi s s' hs hf)
section
variable {a:AutT} {n:Nat} (V:VA a n) (hn:n<=12)
include V hn
theorem D2 {s v:Int} (hs:0<=s/\s<n) (hv:0<=v/\v<=2):fb a s v=some (cS a s v:Int):=by
 have e:=(jl V hn hs hv).1
 have k:=D1 (f:=bQ a v) (f':=kE a v) (fun st=>(st.2,st.1)) (fun st=> -1<=st.2/\st.2<n) (by
  rintro ⟨m,s⟩ ⟨h0,h1⟩
  unfold kE bQ
  simp only at h0 h1⊢
  by_cases c:0<=s
  ·simp only[decide_eq_true (show s≥0 from c),if_true,jm c,aa]
   have ew:IntKind.i64.wrap (6+v)=(((6+v).toNat:Nat):Int):=by rw[bY (by omega) (by omega)];omega
   have e2:=we V (s:=s) (k:=(6+v).toNat) c h1 (by omega)
   have e2:aS (a.1,a.2.1,a.2.2) s (((6+v).toNat:Nat):Int)=_:=e2
   rw[ew,e2,V.get c h1];simp only[aa]
   rw[V.get2 c h1 (by omega)];simp only[aa]
   split <;> rfl
  ·simp only[decide_eq_false (show¬s≥0 from c),Bool.false_eq_true,if_false];rfl) (by
  rintro ⟨m,s⟩ ⟨m',s'⟩ ⟨h0,h1⟩ hf
  unfold bQ at hf
  simp only at h0 h1 hf⊢
  by_cases c:0<=s
  ·simp only[decide_eq_true (show s≥0 from c),if_true,jm c,aa] at hf
   have ew:IntKind.i64.wrap (6+v)=(((6+v).toNat:Nat):Int):=by rw[bY (by omega) (by omega)];omega
   have e2:=we V (s:=s) (k:=(6+v).toNat) c h1 (by omega)
   have e2:aS (a.1,a.2.1,a.2.2) s (((6+v).toNat:Nat):Int)=_:=e2
   rw[ew,e2] at hf;simp only[aa] at hf
   split at hf
   ·cases hf
    exact V.mv c h1 (by omega)
   ·cases hf
  ·simp only[decide_eq_false (show¬s≥0 from c),Bool.false_eq_true,if_false] at hf;cases hf) aQ (0,s) ⟨by simp only;omega,hs.2⟩
 unfold dY at e
 unfold fb
 simp only at k
 rw[k]
 cases hl:ay (bQ a v) aQ (0,s) with
 | none=>rw[hl] at e;cases e
 | some o =>
  rw[hl] at e
  cases o with
  | ret r=>exact e
  | brk s'=>exact e
  | nxt s'=>cases e
end
def zg (y:ArT):Int×Bool:=y.1
theorem VR {g:GrT} (G:GOk g) {x:Nat} :ox g x=some ((arcL g.2 x).map zg):=by
 unfold ox
 have:=aN (f:=j9 g x) (fun i=>((arcL (g.2.take i) x).map zg,(i:Int))) g.2.length (fun i hi=>by
  unfold j9
  simp only
  have hm:=G.m
  have l1:=rC (g.2.take i) x
  have l3:(g.2.take i).length<=12:=by rw[aE];omega
  rw[if_pos (by simp;omega),ax (by omega) (by omega)];simp only[aa]
  rw[tj hi,ai (by omega)]
  generalize nth g.2 (i:Int)=e
  have ea:arcL (g.2.take i++ [e]) x=arcL (g.2.take i) x++Q2 e x:=by simp[arcL]
  rw[ea,aJ]
  generalize hL:(arcL (g.2.take i) x).map zg=L
  have hl:L.length<=24:=by rw[<-hL,List.length_map];omega
  unfold Q2
  by_cases c1:e.2.1=(x:Int)
  ·rw[if_pos (by simpa using c1),if_pos c1,aI (by simp;omega)];simp only[aa]
   by_cases c2:e.2.2.1=(x:Int)
   ·rw[if_pos (by simpa using c2),if_pos c2,aI (by simp;omega)];simp[zg,fwd,inv]
   ·rw[if_neg (by simpa using c2),if_neg c2];simp[zg,fwd,inv]
  ·rw[if_neg (by simpa using c1),if_neg c1];simp only[aa]
   by_cases c2:e.2.2.1=(x:Int)
   ·rw[if_pos (by simpa using c2),if_pos c2,aI (by simp;omega)];simp[zg,fwd,inv]
   ·rw[if_neg (by simpa using c2),if_neg c2];simp[zg,fwd,inv]) (by unfold j9;simp) (ju (by have:=G.m;omega))
 have this:ay (j9 g x) aQ (([] :List (Int×Bool)),0)=_:=this
 rw[this,List.take_length];rfl
theorem Ht {g:GrT} (G:GOk g) {j:Nat} (hj:j<g.2.length):iC g (nth g.2 (j:Int)).1=some (j:Int):=by
 unfold iC
 have hm:=G.m
 obtain ⟨o,e,hq⟩:=bX (f:=lG g (nth g.2 (j:Int)).1) (fun i s=>s=(i:Int)/\i<=j) (fun o=>o= .ret (j:Int)) 12 (s:=0) (by
  rintro i s hi ⟨rfl,hij⟩
  unfold lG
  rw[if_pos (by simp;omega),ax (by omega) (by omega)];simp only[aa]
  by_cases c:i=j
  ·subst c
   exact .inr ⟨_,by rw[if_pos (by simp)],(fun s' e=>by cases e),rfl⟩
  ·have h1:=G.lt (i:=i) (j:=j) (by omega) hj
   exact .inl ⟨by omega,_,by rw[if_neg (by simp;omega),ai (by omega)],rfl,by omega⟩) ⟨rfl,by omega⟩ (by unfold aQ;omega)
 subst hq
 rw[e];rfl
theorem PI {g:GrT} (G:GOk g) {x:Nat} {y:ArT} (h:y∈arcL g.2 x): ∃(j:Int) (e:EdT),iC g y.1.1=some j/\aP g.2 j=some e/\fW e y.1.2=some y.2.1/\mP e y.1.2=some y.2.2:=by
 obtain ⟨e,he,hy⟩:=List.mem_flatMap.1 h
 obtain ⟨j,hj,rfl⟩:=vv he
 obtain ⟨h1,h2,h3⟩:=G.edge _ he
 refine ⟨j,nth g.2 (j:Int),?_,ax (by omega) (by omega),?_,?_⟩
 all_goals
  unfold Q2 at hy
  rcases aH hy with hy | hy <;> split at hy
  ·obtain rfl:=al hy
   simp only[fwd]
   first | exact Ht G hj | (unfold fW;rw[bY (n:=2*_) (by omega) (by omega)];rfl) | (unfold mP;rfl)
  ·cases hy
  ·obtain rfl:=al hy
   simp only[inv]
   first | exact Ht G hj | (unfold fW;rw[bY (n:=2*_) (by omega) (by omega),bY (by omega) (by omega)];rfl) | (unfold mP;rfl)
  ·cases hy
abbrev Tz:=(Int×Bool)×Int×Int
def stA (g:GrT) (a:AutT) (x s:Nat) (y:ArT):List Tz:=(behind a s (nth g.1 x) y.2.1).map fun t=>(y.1,y.2.2,t)
def stV (g:GrT) (a:AutT) (x s:Nat):List Tz:=(arcL g.2 x).flatMap (stA g a x s)
theorem VS (g:GrT) (a:AutT) (x s:Nat):(stV g a x s).map (fun p=>p.2.1*(a.2.1.length:Int)+p.2.2)=nbV g a x s:=by
 unfold stV nbV
 rw[List.map_flatMap]
 congr 1
 funext y
 unfold stA nbA
 rw[List.map_map];rfl
section
variable {g:GrT} {a:AutT} (G:GOk g) (V:VA a a.2.1.length) (hn:a.2.1.length<=12)
include G V hn
theorem TA {x s:Nat} {y:ArT} (hx:x<g.1.length) (hs:s<a.2.1.length) (hy:y∈arcL g.2 x):(stA g a x s y).length<=30:=by
 unfold stA;rw[List.length_map]
 exact (uH G V hn (s:=s) ⟨by omega,by omega⟩ (G.val _ (bg (by omega) (by omega))) (qO G hy).1).2.1
theorem Xc {x:Nat} {i:Nat} {e:EdT} {o:List Tz} {y:ArT} {C:Nat} (hC:C<2 ^ a.2.1.length) (hy:y∈arcL g.2 x) (hi:aP ((arcL g.2 x).map zg) (i:Int)=some (zg y)) (he:fW e y.1.2=some y.2.1) :
  ay (gT a (C:Int) ((arcL g.2 x).map zg) (o,(i:Int)) e) aQ (0,0)=some (.brk ((afS a y.2.1.toNat C a.2.1.length:Int),(a.2.1.length:Int))):=by
 obtain ⟨k0,k1⟩:=(qO G hy).1
 have:=aN (f:=gT a (C:Int) ((arcL g.2 x).map zg) (o,(i:Int)) e) (fun q=>((afS a y.2.1.toNat C q:Int),(q:Int))) a.2.1.length (fun q hq=>by
  unfold gT
  simp only
  have he:fW (e.1,e.2.1,e.2.2.1,e.2.2.2) (zg y).2=some y.2.1:=he
  have ek:y.2.1=((y.2.1.toNat:Nat):Int):=by omega
  have em:=V.get2 (s:=(q:Int)) (k:=y.2.1.toNat) (by omega) (by omega) (by omega)
  rw[<-ek] at em
  have hlt:=MF V (k:=y.2.1.toNat) (C:=C) (by omega) q (by omega)
  have hC':C<2 ^ 62:=aF hC (p62 (by omega))
  have hmv:=(V.mv (s:=(q:Int)) (k:=y.2.1.toNat) (by omega) (by omega) (by omega)).2
  rw[if_pos (by simp;omega),V.get (by omega) (by omega)];simp only[aa]
  rw[hi];simp only[aa]
  rw[he];simp only[aa]
  rw[em];simp only[aa]
  rw[jm (by omega),yV hC' (by omega),ai (by omega),afS];simp only[aa]
  by_cases b:C.testBit q=true
  ·rw[if_pos b]
   by_cases c:0<=D.mv a (q:Int) y.2.1.toNat
   ·obtain ⟨t,ht⟩: ∃t:Nat,D.mv a (q:Int) y.2.1.toNat=(t:Int):=⟨_,(Int.toNat_of_nonneg c).symm⟩
    rw[if_pos (by simpa using c),if_pos ⟨b,c⟩,jm c,ht,th (by omega),DY (aF hlt (p62 (by omega))) (Nat.pow_lt_pow_right (by decide) (by omega))];rfl
   ·rw[if_neg (by simpa using c),if_neg (fun h=>c h.2)];rfl
  ·rw[if_neg b,if_neg (fun h=>b h.1)];rfl) (by unfold gT;simp) (ju (by omega))
 exact this
theorem Xd {x:Nat} {i:Nat} {e:EdT} {o:List Tz} {y:ArT} {m:Nat} (hm:m<2 ^ a.2.1.length) (ho:o.length<=100000) (hi:aP ((arcL g.2 x).map zg) (i:Int)=some (zg y)) (he:mP e y.1.2=some y.2.2) {z:Int} :
  ay (gU a ((arcL g.2 x).map zg) (o,(i:Int)) e ((m:Int),z)) aQ (o,0)=some (.brk (o++(dI m 30).map (fun t=>(y.1,y.2.2,t)),(a.2.1.length:Int))):=by
 have:=aN (f:=gU a ((arcL g.2 x).map zg) (o,(i:Int)) e ((m:Int),z)) (fun q=>(o++(dI m q).map (fun t=>(y.1,y.2.2,t)),(q:Int))) a.2.1.length (fun q hq=>by
  unfold gU
  simp only
  have he:mP (e.1,e.2.1,e.2.2.1,e.2.2.2) (zg y).2=some y.2.2:=he
  have hm':m<2 ^ 62:=aF hm (p62 (by omega))
  have hl:=lC m q
  rw[if_pos (by simp;omega),jm (by omega),yV hm' (by omega),ai (by omega),jQ];simp only[aa]
  by_cases b:m.testBit q=true
  ·rw[if_pos b,if_pos b,hi];simp only[aa]
   rw[he];simp only[aa]
   rw[aI (by simp;omega)];simp only[aa,aJ,ak];rfl
  ·rw[if_neg b,if_neg b];rfl) (by unfold gU;simp) (ju (by omega))
 rw[rB hm (show a.2.1.length<=30 by omega)]
 simpa [dI] using this
theorem TC {x s:Nat} (hx:x<g.1.length) (hs:s<a.2.1.length):jI g a x s=some (stV g a x s):=by
 have hv:=G.val _ (bg (xs:=g.1) (i:=(x:Int)) (by omega) (by omega))
 have ec:=D2 V hn (s:=(s:Int)) ⟨by omega,by omega⟩ hv
 have hC:=(jl V hn (s:=(s:Int)) ⟨by omega,by omega⟩ hv).2
 unfold jI
 rw[ax (by omega) (by omega)];simp only[aa]
 have ec:fb (a.1,a.2.1,a.2.2) (s:Int) (nth g.1 (x:Int))=_:=ec
 have ef:ox (g.1,g.2) (x:Int)=_:=VR G
 rw[ec,ef];simp only[aa]
 generalize hCC:cS a (s:Int) (nth g.1 (x:Int))=C at hC
 have l1:=rC g.2 x
 have hm:=G.m
 have:=aN (f:=gV g a (C:Int) ((arcL g.2 x).map zg)) (fun i=>(((arcL g.2 x).take i).flatMap (stA g a x s),(i:Int))) (arcL g.2 x).length (fun i hi=>by
  unfold gV
  simp only
  have hy:=List.getElem_mem hi
  generalize hyy:(arcL g.2 x)[i] =y at hy
  have hi2:aP ((arcL g.2 x).map zg) (i:Int)=some (zg y):=by rw[aO (by simpa using hi)];simp[hyy]
  obtain ⟨j,e,e1,e2,e3,e4⟩:=PI G hy
  obtain ⟨k0,k1⟩:=(qO G hy).1
  rw[if_pos (by simp;omega),hi2];simp only[aa]
  have e1:iC (g.1,g.2) (zg y).1=_:=e1
  rw[e1];simp only[aa]
  rw[e2];simp only[aa]
  rw[af (Xc G V hn hC hy hi2 e3)]
  have hlt:=MF V (k:=y.2.1.toNat) (C:=C) (by omega) a.2.1.length (aC _)
  have hol:=qN (f:=stA g a x s) (B:=30) (xs:=(arcL g.2 x).take i) fun z hz=>TA G V hn hx hs (List.mem_of_mem_take hz)
  have hol2:((arcL g.2 x).take i).length<=24:=by rw[aE];omega
  rw[af (Xd G V hn hlt (by omega) hi2 e4),ai (by omega)]
  congr 3
  have et:(arcL g.2 x).take (i+1)=(arcL g.2 x).take i++ [y]:=by rw[List.take_add_one];simp[hi,hyy]
  rw[et,List.flatMap_append]
  congr 1
  simp only[List.flatMap_cons,List.flatMap_nil,List.append_nil]
  unfold stA behind
  rw[hCC,rB hC (show a.2.1.length<=30 by omega),FK]) (by unfold gV;simp) (ju (by omega))
 rw[List.take_length] at this
 have this:ay (gV g a (C:Int) ((arcL g.2 x).map zg)) aQ (([] :List Tz),0)=_:=this
 rw[af this];rfl
end
end D
namespace D
open Go.RowKit
abbrev BfT:=List Int×List Int
def Q5 (d:Int) (s:BfT) (x:Int):BfT:=if nth s.1 x<0 then (s.1.set x.toNat d,s.2++ [x]) else s
def AK (d:Int) (s:BfT) (xs:List Int):BfT:=xs.foldl (Q5 d) s
theorem D3 (d:Int) (s:BfT) (xs:List Int) (x:Int):AK d s (xs++ [x])=Q5 d (AK d s xs) x:=by simp[AK]
structure BI (N:Nat) (s:BfT):Prop where
 len:s.1.length=N
 nd:s.2.Nodup
 rng: ∀x∈s.2,0<=x/\x<N
 seen: ∀x:Int,0<=x->x<N->(nth s.1 x<0↔x∉s.2)
 top: ∀x:Int,0<=x->x<N-> -1<=nth s.1 x/\nth s.1 x<s.2.length
theorem BI.le {N:Nat} {s:BfT} (h:BI N s):s.2.length<=N:=by
 have:=h.nd.length_le_of_subset (l₂:=(List.range N).map fun i:Nat=>(i:Int)) (fun x hx=>by
  obtain ⟨h0,h1⟩:=h.rng x hx
  exact List.mem_map.2 ⟨x.toNat,List.mem_range.2 (by omega),by omega⟩)
 simpa using this
theorem BI.one {N:Nat} {s:BfT} (h:BI N s) {d x:Int} (hx:0<=x/\x<N) (hd:0<=d/\d<=s.2.length):BI N (Q5 d s x)/\s.2 <+:(Q5 d s x).2/\ ∀y,0<=y->0<=nth s.1 y->nth (Q5 d s x).1 y=nth s.1 y:=by
 unfold Q5
 split
 ·rename_i hn
  have hnot:=(h.seen x hx.1 hx.2).1 hn
  refine ⟨⟨by simp[h.len],?_,?_,?_,?_⟩,List.prefix_append _ _,?_⟩
  ·exact List.nodup_append.2 ⟨h.nd,by simp,by rintro a ha b hb rfl;simp at hb;exact hnot (hb ▸ ha)⟩
  ·intro y hy
   rcases aH hy with hy | hy
   ·exact h.rng y hy
   ·obtain rfl:y=x:=by simpa using hy
    exact hx
  ·intro y h0 h1
   by_cases e:x=y
   ·subst e
    rw[hZ hx.1 (by rw[h.len];exact hx.2)]
    simp;omega
   ·rw[iI hx.1 h0 e,h.seen y h0 h1]
    simp;omega
  ·intro y h0 h1
   by_cases e:x=y
   ·subst e
    rw[hZ hx.1 (by rw[h.len];exact hx.2)]
    simp;omega
   ·rw[iI hx.1 h0 e]
    have:=h.top y h0 h1
    simp;omega
  ·intro y h0 h1
   refine iI hx.1 h0 ?_
   rintro rfl
   omega
 ·exact ⟨h,List.prefix_refl _,fun y _ _=>rfl⟩
theorem BI.all {N:Nat} {d:Int} : ∀ {xs:List Int} {s:BfT},BI N s->(∀x∈xs,0<=x/\x<N)->(0<=d/\d<=s.2.length)->BI N (AK d s xs)/\s.2 <+:(AK d s xs).2/\ ∀y,0<=y->0<=nth s.1 y->nth (AK d s xs).1 y=nth s.1 y
 | [],s,h,_,_=>⟨h,List.prefix_refl _,fun _ _ _=>rfl⟩
 | x::xs,s,h,hx,hd=>by
  obtain ⟨h1,h2,h3⟩:=h.one (hx x (by simp)) hd
  have hl:=h2.length_le
  obtain ⟨k1,k2,k3⟩:=BI.all (xs:=xs) h1 (fun y hy=>hx y (by simp[hy])) ⟨hd.1,by omega⟩
  refine ⟨k1,h2.trans k2,fun y h0 hy=>?_⟩
  have e:=h3 y h0 hy
  exact (k3 y h0 (by rw[e];exact hy)).trans e
def bsS (nx:Int->List Int) (N:Nat) (v:Int):Nat->BfT
 | 0=>((List.replicate N (-1)).set v.toNat 0,[v])
 | i+1=>match (bsS nx N v i).2[i]? with
  | some x=>AK (nth (bsS nx N v i).1 x+1) (bsS nx N v i) (nx x)
  | none=>bsS nx N v i
section
variable {nx:Int->List Int} {N:Nat} {v:Int} (hv:0<=v/\v<N) (hn: ∀x:Int,0<=x->x<N-> ∀y∈nx x,0<=y/\y<N)
include hv
theorem TE {x:Int} (h0:0<=x) (h1:x<N):nth (List.replicate N (-1:Int)) x= -1:=by
 have:x.toNat<N:=by omega
 simp[nth,List.getD_eq_getElem?_getD,List.getElem?_replicate,this]
theorem BI.zero:BI N (bsS nx N v 0):=by
 refine ⟨by simp[bsS],by simp[bsS],fun x hx=>?_,fun x h0 h1=>?_,fun x h0 h1=>?_⟩
 ·obtain rfl:x=v:=by simpa [bsS] using hx
  exact hv
 all_goals
  unfold bsS
  by_cases e:v=x
  ·subst e
   rw[hZ hv.1 (by simpa using hv.2)]
   simp
  ·rw[iI hv.1 h0 e,TE hv h0 h1]
   first | omega | (simp;omega) | simp
include hn
theorem B7 {i:Nat} (h:BI N (bsS nx N v i)):BI N (bsS nx N v (i+1))/\(bsS nx N v i).2 <+:(bsS nx N v (i+1)).2:=by
 rw[bsS]
 split
 ·rename_i x hx
  have hm:=List.mem_of_getElem? hx
  obtain ⟨x0,x1⟩:=h.rng x hm
  have hp: ¬nth (bsS nx N v i).1 x<0:=fun c=>(h.seen x x0 x1).1 c hm
  have ht:=h.top x x0 x1
  obtain ⟨k1,k2,_⟩:=h.all (xs:=nx x) (d:=nth (bsS nx N v i).1 x+1) (hn x x0 x1) ⟨by omega,by omega⟩
  exact ⟨k1,k2⟩
 ·exact ⟨h,List.prefix_refl _⟩
theorem yW: ∀i,BI N (bsS nx N v i)
 | 0=>BI.zero hv
 | i+1=>(B7 hv hn (yW i)).1
theorem FL: ∃K,K<=N/\K=(bsS nx N v K).2.length/\ ∀i,i<K->i<(bsS nx N v i).2.length:=by
 have key: ∀m i,i+m=N->(∀j,j<i->j<(bsS nx N v j).2.length)-> ∃K,K<=N/\K=(bsS nx N v K).2.length/\ ∀i,i<K->i<(bsS nx N v i).2.length:=by
  have hge: ∀i,(∀j,j<i->j<(bsS nx N v j).2.length)->i<=(bsS nx N v i).2.length:=by
   intro i hj
   cases i with
   | zero=>omega
   | succ i =>
    have:=hj i (by omega)
    have hp:=(B7 hv hn (yW hv hn i)).2.length_le
    omega
  intro m
  induction m with
  | zero =>
   intro i hi hj
   have h1:=(yW hv hn i).le
   have h2:=hge i hj
   exact ⟨i,by omega,by omega,hj⟩
  | succ m ih =>
   intro i hi hj
   by_cases h:i<(bsS nx N v i).2.length
   ·exact ih (i+1) (by omega) fun j hj'=>by
     by_cases e:j=i
     ·subst e;exact h
     ·exact hj j (by omega)
   ·have h2:=hge i hj
    exact ⟨i,by omega,by omega,hj⟩
 exact key N 0 (by omega) (by omega)
end
end D
namespace D
open Go.RowKit
theorem TG:(List.range 61).all (fun N=>decide (cf [-1] (N:Int)=some (List.replicate N (-1))))=true:=by kernel_rfl
theorem VT {N:Nat} (h:N<=60):cf [-1] (N:Int)=some (List.replicate N (-1)):=
 of_decide_eq_true (List.all_eq_true.1 TG N (List.mem_range.2 (by omega)))
theorem PJ {α:Type} {xs:List α} {i:Nat} {x:α} (h:i<=xs.length):(xs++ [x]).drop i=xs.drop i++ [x]:=List.drop_append_of_le_length h
theorem AL {α:Type} {xs:List α} {i:Nat} {x:α} (h:xs[i]? =some x):aP (xs.drop i) 0=some x:=by
 unfold aP
 rw[if_pos (by decide)]
 simpa using h
section
variable {nx:Int->List Int} {N:Nat} {v:Int} (hN:N<=60) (hv:0<=v/\v<N) (hn: ∀x:Int,0<=x->x<N-> ∀y∈nx x,0<=y/\y<N) (hl: ∀x,(nx x).length<=100000)
include hN hv hn hl
theorem TH {i:Nat} {x:Int} (hx:(bsS nx N v i).2[i]? =some x) (j:Nat) :
  BI N (AK (nth (bsS nx N v i).1 x+1) (bsS nx N v i) ((nx x).take j))/\(AK (nth (bsS nx N v i).1 x+1) (bsS nx N v i) ((nx x).take j)).2[i]? =some x/\nth (AK (nth (bsS nx N v i).1 x+1) (bsS nx N v i) ((nx x).take j)).1 x=nth (bsS nx N v i).1 x/\(0<=x/\x<N)/\(0<=nth (bsS nx N v i).1 x/\nth (bsS nx N v i).1 x<60)/\i<(AK (nth (bsS nx N v i).1 x+1) (bsS nx N v i) ((nx x).take j)).2.length:=by
 have h:=yW hv hn i
 have hm:=List.mem_of_getElem? hx
 obtain ⟨x0,x1⟩:=h.rng x hm
 have hp: ¬nth (bsS nx N v i).1 x<0:=fun c=>(h.seen x x0 x1).1 c hm
 have ht:=h.top x x0 x1
 have hle:=h.le
 obtain ⟨k1,k2,k3⟩:=h.all (xs:=(nx x).take j) (d:=nth (bsS nx N v i).1 x+1) (fun y hy=>hn x x0 x1 y (List.mem_of_mem_take hy)) ⟨by omega,by omega⟩
 obtain ⟨t,ht'⟩:=k2
 have hi:=(List.getElem?_eq_some_iff.1 hx).1
 have e:(AK (nth (bsS nx N v i).1 x+1) (bsS nx N v i) ((nx x).take j)).2[i]? =some x:=by
  rw[<-ht',List.getElem?_append_left hi,hx]
 exact ⟨k1,e,k3 x x0 (by omega),⟨x0,x1⟩,⟨by omega,by omega⟩,(List.getElem?_eq_some_iff.1 e).1⟩
theorem Xe {i:Nat} {x:Int} (hx:(bsS nx N v i).2[i]? =some x) :
  ay (dO (nx x)) aQ ((bsS nx N v i).2.drop i,0,(bsS nx N v i).1)=some (.brk ((bsS nx N v (i+1)).2.drop i,((nx x).length:Int),(bsS nx N v (i+1)).1)):=by
 have:=aN (f:=dO (nx x)) (fun j=>((AK (nth (bsS nx N v i).1 x+1) (bsS nx N v i) ((nx x).take j)).2.drop i,(j:Int),(AK (nth (bsS nx N v i).1 x+1) (bsS nx N v i) ((nx x).take j)).1)) (nx x).length (fun j hj=>by
  have hlx:=hl x
  obtain ⟨k1,k2,k3,⟨x0,x1⟩,k4,k5⟩:=TH hN hv hn hl hx j
  have hy:=hn x x0 x1 _ (bg (xs:=nx x) (i:=(j:Int)) (by omega) (by omega))
  unfold dO
  simp only
  rw[tj hj,D3]
  generalize AK (nth (bsS nx N v i).1 x+1) (bsS nx N v i) ((nx x).take j)=s at k1 k2 k3 k5
  have hle:=k1.le
  have hlen:=k1.len
  rw[if_pos (by simp;omega),ax (by omega) (by omega)];simp only[aa]
  rw[ax (xs:=s.1) hy.1 (by omega)];simp only[aa]
  rw[AL k2];simp only[aa]
  rw[ax (xs:=s.1) x0 (by omega)];simp only[aa]
  rw[aI (by simp;omega),ai (by omega),k3,bY (by omega) (by omega)]
  unfold Q5
  by_cases c:nth s.1 (nth (nx x) (j:Int))<0
  ·rw[if_pos (by simpa using c),if_pos c,PJ (by omega)];rfl
  ·rw[if_neg (by simpa using c),if_neg c];rfl) (by unfold dO;simp) (ju (by have:=hl x;omega))
 rw[List.take_length] at this
 have e:bsS nx N v (i+1)=AK (nth (bsS nx N v i).1 x+1) (bsS nx N v i) (nx x):=by rw[bsS,hx]
 rw[e]
 exact this
theorem Hu {K:Nat} (hK:K<=N) (hE:K=(bsS nx N v K).2.length) (hR: ∀i,i<K->i<(bsS nx N v i).2.length):mi (rm N fun z=>nx (z:Int)) [v] =some (bsS nx N v K).1:=by
 unfold mi
 rw[wi,VT hN];simp only[aa]
 have e0:ay (dN [v]) aQ (([] :List Int),0,List.replicate N (-1))=some (.brk ([v],1,(bsS nx N v 0).1)):=by
  have:=aN (f:=dN [v]) (fun j=>if j=0 then (([] :List Int),(0:Int),List.replicate N (-1:Int)) else ([v],1,(bsS nx N v 0).1)) 1 (fun j hj=>by
   obtain rfl:j=0:=by omega
   unfold dN
   simp only[if_true]
   rw[if_pos (by simp),show aP [v] 0=some v from rfl];simp only[aa]
   rw[ax (xs:=List.replicate N (-1)) hv.1 (by simpa using hv.2)];simp only[aa]
   rw[aI (by simp)];rfl) (by unfold dN;simp) (by unfold aQ;omega)
  exact this
 rw[af e0]
 have:=aN (f:=eS (rm N fun z=>nx (z:Int))) (fun i=>((bsS nx N v i).2.drop i,(bsS nx N v i).1)) K (fun i hi=>by
  have hi2:=hR i hi
  obtain ⟨x,hx⟩: ∃x,(bsS nx N v i).2[i]? =some x:=⟨_,List.getElem?_eq_getElem hi2⟩
  obtain ⟨k1,k2,k3,⟨x0,x1⟩,k4,k5⟩:=TH hN hv hn hl hx 0
  unfold eS
  simp only
  rw[if_pos (by simp;omega),AL hx];simp only[aa]
  obtain ⟨z,rfl⟩: ∃z:Nat,x=(z:Int):=⟨_,(Int.toNat_of_nonneg x0).symm⟩
  rw[vB (by omega)];simp only[aa]
  rw[af (Xe hN hv hn hl hx)]
  have hp:=(B7 hv hn (yW hv hn i)).2.length_le
  rw[jm (by simp;omega)];simp only[aa]
  rw[List.drop_drop]) (by
  unfold eS
  rw[if_neg (by simp;omega)]) (ju (by omega))
 have this:ay (eS (rm N fun z=>nx (z:Int))) aQ ([v],(bsS nx N v 0).1)=_:=this
 rw[af this]
end
end D
namespace D
open Go.RowKit
theorem D4 (g:GrT):cg g=bs g:=by
 have h0:mO g=dX g:=rfl
 have h1:jz g=dg g:=by
  funext s
  unfold jz dg
  split
  ·cases hx:aP g.2 s with
   | none=>rfl
   | some x=>rfl
  ·rfl
 unfold cg bs
 rw[h0,h1];rfl
def GOOD (g:GrT) (a:AutT):Prop:=GOk g/\a.2.1.length<=12/\VA a a.2.1.length
theorem FM (g:GrT) (a:AutT) (hg:Data.sm g) (ha:Data.sm a): ∃b c,cg g=some b/\bs g=some b/\a6 a=some c/\aW a=some c/\(b=true↔W8 g)/\(c=true↔a.2.1.length<=12/\VA a a.2.1.length):=by
 obtain ⟨b,e1,k1⟩:=Hs g (cX hg.1).1 (cX hg.2).1
 have hb:=(cX ha.2.1).1
 have hn:=cX ha.2.2
 obtain ⟨c,e2,k2⟩:=Mz a (by omega) (by omega) (fun r hr=>by have:=(cX (hn.2 r hr)).1;omega)
 obtain ⟨c',e3,k3⟩:=FI a (by omega) (by omega)
 have hc:c'=c:=by
  cases c <;> cases c' <;> simp_all
 subst hc
 exact ⟨b,c',by rw[D4,e1],e1,e3,e2,k1,k2⟩
theorem TJ (g:GrT) (a:AutT) (hg:Data.sm g) (ha:Data.sm a): ∃b c,cg g=some b/\bs g=some b/\a6 a=some c/\aW a=some c/\(b=true->GOk g)/\(c=true->a.2.1.length<=12/\VA a a.2.1.length):=by
 obtain ⟨b,c,h1,h2,h3,h4,h5,h6⟩:=FM g a hg ha
 exact ⟨b,c,h1,h2,h3,h4,fun h=>(h5.1 h).1,h6.1⟩
theorem PK (g:GrT) (a:AutT) (hg:Data.sm g) (ha:Data.sm a) (x:Int): ∃b,gS g a x 0=some b/\bZ g a [x] =some b/\(b=true↔(W8 g/\GOOD g a)/\0<=x/\x<g.1.length):=by
 obtain ⟨b,c,e1,e2,e3,e4,k1,k2⟩:=FM g a hg ha
 have hl:=(cX hg.1).1
 have hla:=(cX ha.2.1).1
 have ew:IntKind.i64.wrap ((g.1.length:Int) - 1)=(g.1.length:Int) - 1:=bY (by omega) (by omega)
 have ew2:IntKind.i64.wrap ((a.2.1.length:Int) - 1)=(a.2.1.length:Int) - 1:=bY (by omega) (by omega)
 have es:gS g a x 0=some (b&&(c&&(decide (0<=x/\x<=(g.1.length:Int) - 1)))):=by
  unfold gS
  have e1:cg (g.1,g.2)=_:=e1
  have e3:a6 (a.1,a.2.1,a.2.2)=_:=e3
  rw[e1,e3,QL,QL,ew,ew2];simp only[aa]
  cases b <;> cases c <;> simp only[Bool.false_eq_true,if_false,if_true,Bool.false_and,Bool.true_and]
  by_cases h:0<=x/\x<=(g.1.length:Int) - 1
  ·have:=(k2.1 rfl).2.start
   simp only[h,and_self,decide_true,if_true]
   rw[decide_eq_true (by omega)]
  ·rw[decide_eq_false h];rfl
 have ei:bZ g a [x] =some (b&&(c&&(decide (0<=x/\x<=(g.1.length:Int) - 1)))):=by
  unfold bZ
  have e2:bs (g.1,g.2)=_:=e2
  have e4:aW (a.1,a.2.1,a.2.2)=_:=e4
  rcases I5 (f:=cq g [x]) 1 (fun _=>0<=x/\x<=(g.1.length:Int) - 1) false (by decide) (fun i hi=>by
   obtain rfl:i=0:=by omega
   unfold cq
   rw[if_pos (by simp),show aP [x] ((0:Nat):Int)=some x from rfl];simp only[aa]
   rw[Jl,ew];simp only[aa,decide_eq_true_eq]
   split <;> rfl) (by unfold cq;simp) with ⟨k,h⟩ | ⟨k,h⟩
  ·rw[af k,e2,e4];simp only[aa]
   rw[decide_eq_true (h 0 (by decide))]
   cases b <;> cases c <;> rfl
  ·rw[bN k,decide_eq_false (fun c=>h fun _ _=>c)]
   cases b <;> cases c <;> rfl
 refine ⟨_,es,ei,fun hb=>?_,fun hb=>?_⟩
 ·simp only[ah,decide_eq_true_eq] at hb
  obtain ⟨h1,h2,h3⟩:=hb
  exact ⟨⟨k1.1 h1,(k1.1 h1).1,(k2.1 h2).1,(k2.1 h2).2⟩,h3.1,by omega⟩
 ·simp only[ah,decide_eq_true_eq]
  exact ⟨k1.2 hb.1.1,k2.2 hb.1.2.2,hb.2.1,by have:=hb.2.2;omega⟩
theorem MJ (g:GrT) (a:AutT) (hg:Data.sm g) (ha:Data.sm a) (x:Int): ∃b,gS g a x 0=some b/\bZ g a [x] =some b/\(b=true->GOOD g a/\0<=x/\x<g.1.length):=by
 obtain ⟨b,h1,h2,h3⟩:=PK g a hg ha x
 exact ⟨b,h1,h2,fun h=>⟨(h3.1 h).1.2,(h3.1 h).2⟩⟩
def nxC (g:GrT) (a:AutT) (z:Int):List Int:=nbC g a z.toNat
section
variable {g:GrT} {a:AutT} (H:GOOD g a)
include H
theorem GOOD.divmod {x:Int} (h0:0<=x) (h1:x<(a.2.1.length*g.1.length:Nat)):x.toNat / a.2.1.length<g.1.length/\x.toNat % a.2.1.length<a.2.1.length:=by
 have hp:=H.2.2.pos
 exact ⟨(Nat.div_lt_iff_lt_mul hp).2 (by rw[Nat.mul_comm];omega),Nat.mod_lt _ hp⟩
theorem VU (x:Int) (h0:0<=x) (h1:x<(a.2.1.length*g.1.length:Nat)): ∀y∈nxC g a x,0<=y/\y<(a.2.1.length*g.1.length:Nat):=by
 obtain ⟨k1,k2⟩:=H.divmod h0 h1
 exact VQ H.1 H.2.2 H.2.1 k1 k2
theorem TK {x:Int} (h0:0<=x) (h1:x<(a.2.1.length*g.1.length:Nat)):(nxC g a x).length<=720:=by
 obtain ⟨k1,k2⟩:=H.divmod h0 h1
 have:=qN (f:=nbA g a (x.toNat / a.2.1.length) (x.toNat % a.2.1.length)) (B:=30) (xs:=arcL g.2 (x.toNat / a.2.1.length)) fun y hy=>MI H.1 H.2.2 H.2.1 k1 k2 hy
 have l1:=rC g.2 (x.toNat / a.2.1.length)
 have:=H.1.m
 show (nbV g a _ _).length<=720
 unfold nbV
 omega
end
def nxN (g:GrT) (a:AutT) (z:Int):List Int:=if 0<=z/\z<(a.2.1.length*g.1.length:Nat) then nxC g a z else []
section
variable {g:GrT} {a:AutT} (H:GOOD g a)
include H
theorem oQ: ∀x:Int,0<=x->x<(a.2.1.length*g.1.length:Nat)-> ∀y∈nxN g a x,0<=y/\y<(a.2.1.length*g.1.length:Nat):=fun x h0 h1=>by
 unfold nxN;rw[if_pos ⟨h0,h1⟩];exact VU H x h0 h1
theorem yX (x:Int):(nxN g a x).length<=720:=by
 unfold nxN;split
 ·rename_i h;exact TK H h.1 h.2
 ·simp
theorem TL:eK g a=some (rm (a.2.1.length*g.1.length) fun z=>nxN g a (z:Int)):=by
 rw[Tx H.1 H.2.2 H.2.1]
 congr 1
 refine mc fun z hz=>?_
 unfold nxN
 rw[if_pos ⟨by omega,by omega⟩];rfl
theorem PL {x:Int} (h0:0<=x) (h1:x<(a.2.1.length*g.1.length:Nat)): ∃l:List Tz,jI g a (Ed x (a.2.1.length:Int)) (Int.tmod x (a.2.1.length:Int))=some l/\l.map (fun p=>p.2.1*(a.2.1.length:Int)+p.2.2)=nxN g a x/\ ∀p∈l,(0<=p.2.1/\p.2.1<60)/\0<=p.2.2/\p.2.2<60:=by
 obtain ⟨k1,k2⟩:=H.divmod h0 h1
 have hp:=H.2.2.pos
 have hN:=nN H.1 H.2.2 H.2.1
 have e1:Ed x (a.2.1.length:Int)=((x.toNat / a.2.1.length:Nat):Int):=by
  unfold Ed
  have:x.tdiv (a.2.1.length:Int)=((x.toNat / a.2.1.length:Nat):Int):=by
   rw[Int.tdiv_eq_ediv_of_nonneg h0]
   rw[show x / (a.2.1.length:Int)=((x.toNat:Nat):Int) / (a.2.1.length:Int) from by rw[Int.toNat_of_nonneg h0]]
   simp
  rw[this,uv (by have:=H.1.n5;omega)]
 have e2:Int.tmod x (a.2.1.length:Int)=((x.toNat % a.2.1.length:Nat):Int):=by
  rw[Int.tmod_eq_emod_of_nonneg h0]
  rw[show x % (a.2.1.length:Int)=((x.toNat:Nat):Int) % (a.2.1.length:Int) from by rw[Int.toNat_of_nonneg h0]]
  simp
 refine ⟨_,by rw[e1,e2];exact TC H.1 H.2.2 H.2.1 k1 k2,?_,fun p hp=>?_⟩
 ·rw[VS];unfold nxN;rw[if_pos ⟨h0,h1⟩];rfl
 ·obtain ⟨y,hy,hp⟩:=List.mem_flatMap.1 hp
  obtain ⟨t,ht,rfl⟩:=List.mem_map.1 hp
  have h2:=(qO H.1 hy).2
  have h3:=(uH H.1 H.2.2 H.2.1 (s:=((x.toNat % a.2.1.length:Nat):Int)) ⟨by omega,by omega⟩ (H.1.val _ (bg (xs:=g.1) (i:=((x.toNat / a.2.1.length:Nat):Int)) (Int.natCast_nonneg _) (Int.ofNat_lt.2 k1))) (qO H.1 hy).1).1 t ht
  have:=H.1.n5
  have:=H.2.1
  exact ⟨⟨h2.1,by simp only;omega⟩,h3.1,by simp only;omega⟩
end
def RKs (g:GrT) (a:AutT) (v:Int):List Int:=(bsS (nxN g a) (a.2.1.length*g.1.length) v (a.2.1.length*g.1.length)).1
theorem wW {nx:Int->List Int} {N:Nat} {v:Int} (hv:0<=v/\v<N) (hn: ∀x:Int,0<=x->x<N-> ∀y∈nx x,0<=y/\y<N) {K:Nat} (hE:K=(bsS nx N v K).2.length): ∀d,bsS nx N v (K+d)=bsS nx N v K
 | 0=>rfl
 | d+1=>by
  have ih:=wW hv hn hE d
  rw[<-Nat.add_assoc,bsS,ih]
  have:(bsS nx N v K).2[K+d]? =none:=List.getElem?_eq_none (by omega)
  rw[this]
section
variable {g:GrT} {a:AutT} (H:GOOD g a) {x:Int} (hx:0<=x/\x<g.1.length)
include H hx
theorem I7:0<=x*(a.2.1.length:Int)+a.1/\x*(a.2.1.length:Int)+a.1<(a.2.1.length*g.1.length:Nat):=by
 obtain ⟨z,rfl⟩: ∃z:Nat,x=(z:Int):=⟨_,(Int.toNat_of_nonneg hx.1).symm⟩
 have hs:=H.2.2.start
 obtain ⟨s,hs'⟩: ∃s:Nat,a.1=(s:Int):=⟨_,(Int.toNat_of_nonneg hs.1).symm⟩
 rw[hs'] at hs⊢
 have:=cN H.1 H.2.2 H.2.1 (x:=z) (s:=s) (by omega) (by omega)
 constructor
 ·exact Int.add_nonneg (Int.mul_nonneg (by omega) (by omega)) (by omega)
 ·exact_mod_cast this
theorem Q6:IntKind.i64.wrap ((IntKind.i64.wrap (x*(a.2.1.length:Int)))+a.1)=x*(a.2.1.length:Int)+a.1:=by
 have h:=I7 H hx
 have hN:=nN H.1 H.2.2 H.2.1
 have hs:=H.2.2.start
 have hn:=H.2.1
 have h5:=H.1.n5
 rw[bY (n:=x*(a.2.1.length:Int)) (by omega) (by omega),bY (by omega) (by omega)]
theorem Xf:BI (a.2.1.length*g.1.length) (bsS (nxN g a) (a.2.1.length*g.1.length) (x*(a.2.1.length:Int)+a.1) (a.2.1.length*g.1.length)):=yW (I7 H hx) (oQ H) _
theorem Hv:(RKs g a (x*(a.2.1.length:Int)+a.1)).length=a.2.1.length*g.1.length:=(Xf H hx).len
theorem VV (e:bZ g a [x] =some true):fG g a x=some (RKs g a (x*(a.2.1.length:Int)+a.1)):=by
 unfold fG
 have e:bZ (g.1,g.2) (a.1,a.2.1,a.2.2) [x] =_:=e
 rw[e];simp only[aa,if_true]
 have e2:eK (g.1,g.2) (a.1,a.2.1,a.2.2)=_:=TL H
 rw[e2];simp only[aa]
 have hN:=nN H.1 H.2.2 H.2.1
 obtain ⟨K,hK,hE,hR⟩:=FL (I7 H hx) (oQ H)
 rw[Q6 H hx,Hu hN (I7 H hx) (oQ H) (fun x=>by have:=yX H x;omega) hK hE hR];simp only[aa]
 have hk:bsS (nxN g a) (a.2.1.length*g.1.length) (x*(a.2.1.length:Int)+a.1) K=bsS (nxN g a) (a.2.1.length*g.1.length) (x*(a.2.1.length:Int)+a.1) (a.2.1.length*g.1.length):=by
  have:=wW (I7 H hx) (oQ H) hE (a.2.1.length*g.1.length - K)
  rw[show K+(a.2.1.length*g.1.length - K)=a.2.1.length*g.1.length from by omega] at this
  exact this.symm
 have hl:=Hv H hx
 rw[hk]
 show ((chk _).bind fun _=>_).bind _=_
 have hv:=I7 H hx
 rw[jm (by rw[show (bsS _ _ _ _).1.length=_ from hl];omega)];rfl
theorem Xg {o1 o2:List Int} {i:Nat} {z:Int} {l:List Tz} (hz:(bsS (nxN g a) (a.2.1.length*g.1.length) (x*(a.2.1.length:Int)+a.1) i).2[i]? =some z)
  (hl:l.map (fun p=>p.2.1*(a.2.1.length:Int)+p.2.2)=nxN g a z) (hp: ∀p∈l,(0<=p.2.1/\p.2.1<60)/\0<=p.2.2/\p.2.2<60) :
  ay (gX a (o1,o2,(i:Int)) l) aQ ((bsS (nxN g a) (a.2.1.length*g.1.length) (x*(a.2.1.length:Int)+a.1) i).1,(bsS (nxN g a) (a.2.1.length*g.1.length) (x*(a.2.1.length:Int)+a.1) i).2,0)=some (.brk ((bsS (nxN g a) (a.2.1.length*g.1.length) (x*(a.2.1.length:Int)+a.1) (i+1)).1,(bsS (nxN g a) (a.2.1.length*g.1.length) (x*(a.2.1.length:Int)+a.1) (i+1)).2,(l.length:Int))):=by
 have hN:=nN H.1 H.2.2 H.2.1
 have hv:=I7 H hx
 have hnn:=H.2.1
 generalize hV:x*(a.2.1.length:Int)+a.1=v at hz hv⊢
 have hlen:l.length<=720:=by have:=yX H z;rw[<-hl,List.length_map] at this;exact this
 have e:bsS (nxN g a) (a.2.1.length*g.1.length) v (i+1)=AK (nth (bsS (nxN g a) (a.2.1.length*g.1.length) v i).1 z+1) (bsS (nxN g a) (a.2.1.length*g.1.length) v i) (nxN g a z):=by rw[bsS,hz]
 have:=aN (f:=gX a (o1,o2,(i:Int)) l) (fun j=>((AK (nth (bsS (nxN g a) (a.2.1.length*g.1.length) v i).1 z+1) (bsS (nxN g a) (a.2.1.length*g.1.length) v i) ((nxN g a z).take j)).1,(AK (nth (bsS (nxN g a) (a.2.1.length*g.1.length) v i).1 z+1) (bsS (nxN g a) (a.2.1.length*g.1.length) v i) ((nxN g a z).take j)).2,(j:Int))) l.length (fun j hj=>by
  obtain ⟨k1,k2,k3,⟨x0,x1⟩,k4,k5⟩:=TH hN hv (oQ H) (fun x=>by have:=yX H x;omega) hz j
  have hjn:j<(nxN g a z).length:=by rw[<-hl,List.length_map];exact hj
  have hy:=oQ H z x0 x1 _ (bg (xs:=nxN g a z) (i:=(j:Int)) (by omega) (by omega))
  have hq:=hp _ (bg (xs:=l) (i:=(j:Int)) (by omega) (by omega))
  have hyl:nth (nxN g a z) (j:Int)=(nth l (j:Int)).2.1*(a.2.1.length:Int)+(nth l (j:Int)).2.2:=by rw[<-hl,LR (by omega) (by omega)]
  unfold gX
  simp only
  rw[tj hjn,D3]
  generalize AK (nth (bsS (nxN g a) (a.2.1.length*g.1.length) v i).1 z+1) (bsS (nxN g a) (a.2.1.length*g.1.length) v i) ((nxN g a z).take j)=s at k1 k2 k3 k5
  have hle:=k1.le
  have hsl:=k1.len
  rw[if_pos (by simp;omega),ax (by omega) (by omega)];simp only[aa]
  rw[bY (n:=(nth l (j:Int)).2.1*(a.2.1.length:Int)) (by omega) (by omega),<-hyl,bY (by omega) (by omega)]
  rw[ax (xs:=s.1) hy.1 (by omega)];simp only[aa]
  rw[show aP s.2 (i:Int)=some z from by unfold aP;rw[if_pos (by omega)];exact k2];simp only[aa]
  rw[ax (xs:=s.1) x0 (by omega)];simp only[aa]
  rw[aI (by simp;omega),ai (by omega),k3,bY (by omega) (by omega)]
  unfold Q5
  by_cases c:nth s.1 (nth (nxN g a z) (j:Int))<0
  ·rw[if_pos (by simpa using c),if_pos c];rfl
  ·rw[if_neg (by simpa using c),if_neg c];rfl) (by unfold gX;simp) (ju (by omega))
 have et:(nxN g a z).take l.length=nxN g a z:=by
  have:l.length=(nxN g a z).length:=by rw[<-hl,List.length_map]
  rw[this,List.take_length]
 rw[et] at this
 rw[e]
 exact this
theorem TM:lg g a x=some (RKs g a (x*(a.2.1.length:Int)+a.1)):=by
 have hN:=nN H.1 H.2.2 H.2.1
 have hv:=I7 H hx
 have hpos:=H.2.2.pos
 unfold lg
 have ew:IntKind.i64.wrap ((g.1.length:Int)*(a.2.1.length:Int))=((a.2.1.length*g.1.length:Nat):Int):=by
  rw[show ((g.1.length:Int)*(a.2.1.length:Int))=((a.2.1.length*g.1.length:Nat):Int) from by rw[Nat.mul_comm];simp,uv (by omega)]
 have e0:ay (gW g a) aQ (([] :List Int),0)=some (.brk (List.replicate (a.2.1.length*g.1.length) (-1),((a.2.1.length*g.1.length:Nat):Int))):=by
  have:=aN (f:=gW g a) (fun i=>(List.replicate i (-1),(i:Int))) (a.2.1.length*g.1.length) (fun i hi=>by
   unfold gW
   simp only
   rw[ew,if_pos (by simp only[decide_eq_true_eq];omega),aI (by simp;omega),ai (by omega)];simp only[aa]
   rw[List.replicate_succ']) (by unfold gW;simp only;rw[ew,if_neg (by simp)]) (ju (by omega))
  exact this
 rw[af e0,Q6 H hx]
 simp only
 generalize hV:x*(a.2.1.length:Int)+a.1=v at hv
 rw[show aP [v] 0=some v from rfl];simp only[aa]
 rw[ax (xs:=List.replicate _ (-1:Int)) hv.1 (by simpa using hv.2)];simp only[aa]
 obtain ⟨K,hK,hE,hR⟩:=FL hv (oQ H)
 have:=aN (f:=gY g a) (fun i=>((bsS (nxN g a) (a.2.1.length*g.1.length) v i).1,(bsS (nxN g a) (a.2.1.length*g.1.length) v i).2,(i:Int))) K (fun i hi=>by
  have hi2:=hR i hi
  obtain ⟨z,hz⟩: ∃z,(bsS (nxN g a) (a.2.1.length*g.1.length) v i).2[i]? =some z:=⟨_,List.getElem?_eq_getElem hi2⟩
  obtain ⟨z0,z1⟩:=(yW hv (oQ H) i).rng z (List.mem_of_getElem? hz)
  obtain ⟨l,es,hl,hp⟩:=PL H z0 z1
  have es:jI (g.1,g.2) (a.1,a.2.1,a.2.2) (Ed z (a.2.1.length:Int)) (Int.tmod z (a.2.1.length:Int))=_:=es
  unfold gY
  simp only
  rw[if_pos (by simp only[decide_eq_true_eq];omega)]
  rw[show aP (bsS (nxN g a) (a.2.1.length*g.1.length) v i).2 (i:Int)=some z from by unfold aP;rw[if_pos (by omega)];exact hz];simp only[aa]
  rw[jm (by omega),es];simp only[aa]
  have h2:=Xg H hx (o1:=(bsS (nxN g a) (a.2.1.length*g.1.length) v i).1) (o2:=(bsS (nxN g a) (a.2.1.length*g.1.length) v i).2) (by rw[hV];exact hz) hl hp
  rw[hV] at h2
  rw[af h2,ai (by omega)]) (by unfold gY;simp only;rw[if_neg (by simp;omega)]) (ju (by omega))
 have this:ay (gY g a) aQ ((List.replicate (a.2.1.length*g.1.length) (-1)).set v.toNat 0,[v],0)=_:=this
 rw[af this]
 simp only
 have:=wW hv (oQ H) hE (a.2.1.length*g.1.length - K)
 rw[show K+(a.2.1.length*g.1.length - K)=a.2.1.length*g.1.length from by omega] at this
 unfold RKs
 rw[this]
end
end D
namespace D
open Go.RowKit
theorem I8 {c:Prop} [Decidable c] (h:c):chk c=some ():=if_pos h
theorem I9 {α:Type} {xs:List α} {i n:Nat} {z:α} (h:i<=xs.length):(rE xs i n z).take i=xs.take i:=by
 unfold rE
 rw[List.take_append_of_le_length (by rw[aE];omega),List.take_take,Nat.min_self]
theorem ML {α:Type} {xs:List α} {i:Nat} {z:α} (h:i<=xs.length):(rE xs i xs.length z).length=xs.length:=vK h (aC _)
theorem PN {α:Type} {ys:List α} {i:Nat} {x:α} (h:i<ys.length):(ys.set i x).take (i+1)=ys.take i++ [x]:=by
 rw[List.take_succ_eq_append_getElem (by simpa using h)]
 simp[List.take_set_of_le]
theorem set_drop {α:Type} {ys:List α} {i j:Nat} {x:α} (h:i<j):(ys.set i x).drop j=ys.drop j:=by
 apply List.ext_getElem?
 intro q
 rw[List.getElem?_drop,List.getElem?_drop,List.getElem?_set_ne (by omega)]
theorem MM {α:Type} {ys xs:List α} {j:Nat} (h:ys.drop j=xs.drop j):ys.drop (j+1)=xs.drop (j+1):=by
 rw[<-List.drop_drop,h,List.drop_drop]
theorem Hw {α:Type} {ys xs:List α} {j q:Nat} (h:ys.drop j=xs.drop j) (hq:j<=q) (h1:q<ys.length) (h2:q<xs.length):ys[q] =xs[q]:=by
 have e:=congrArg (fun l=>l[q - j]?) h
 simp only[List.getElem?_drop,show j+(q - j)=q from by omega] at e
 rw[List.getElem?_eq_getElem h1,List.getElem?_eq_getElem h2] at e
 exact ae e
section
variable {α:Type} [DecidableEq α]
def pT:List α->List α
 | [] =>[]
 | [a] =>[a]
 | a::b::l=>if a=b then pT (b::l) else a::pT (b::l)
theorem wX {x:α} : ∀ {l:List α},x∈pT l↔x∈l
 | [] =>Iff.rfl
 | [a] =>Iff.rfl
 | a::b::l=>by
  rw[pT]
  split
  ·rename_i e;subst e;rw[wX];simp
  ·rw[List.mem_cons,wX,List.mem_cons (l:=b::l)]
theorem D5: ∀(l:List α) (b:α),l≠ [] ->pT (l++ [b])=if l.getLast? =some b then pT l else pT l++ [b]
 | [],b,h=>absurd rfl h
 | [a],b,_=>by
  by_cases e:a=b
  ·subst e;simp[pT]
  ·simp[pT,e]
 | a::c::l,b,_=>by
  have ih:=D5 (c::l) b (by simp)
  have hg:(a::c::l).getLast? =(c::l).getLast? :=by simp[List.getLast?_cons_cons]
  rw[hg]
  show pT (a::c::(l++ [b]))=_
  rw[pT,pT]
  rw[show c::(l++ [b])=(c::l)++ [b] from rfl,ih]
  by_cases e:a=c
  ·rw[if_pos e,if_pos e]
  ·rw[if_neg e,if_neg e]
   split <;> simp
theorem yY {xs:List α} {j:Nat} (h0:0<j) (h:j<xs.length):pT (xs.take (j+1))=if xs[j - 1] =xs[j] then pT (xs.take j) else pT (xs.take j)++ [xs[j]]:=by
 rw[List.take_succ_eq_append_getElem h,D5 _ _ (by
  intro e
  have h9:=congrArg List.length e
  rw[aE,Nat.min_eq_left (Nat.le_of_lt h),aD] at h9
  omega)]
 have hg:(xs.take j).getLast? =some xs[j - 1]:=by
  rw[List.getLast?_eq_getElem?,aE,Nat.min_eq_left (Nat.le_of_lt h),List.getElem?_take,if_pos (show j - 1<j by omega),List.getElem?_eq_getElem (show j - 1<xs.length by omega)]
 rw[hg]
 by_cases e:xs[j - 1] =xs[j]
 ·rw[if_pos (by rw[e]),if_pos e]
 ·rw[if_neg (by simpa using e),if_neg e]
theorem D6 {xs:List α} : ∀(j:Nat),j<=xs.length->(∀q (hq:q<j) (h0:0<q) (hx:j<=xs.length),xs[q - 1]'(by omega)≠xs[q]'(by omega))->pT (xs.take j)=xs.take j
 | 0,_,_=>by simp[pT]
 | 1,h,_=>by
  cases xs with
  | nil=>simp[pT]
  | cons a l=>simp[pT]
 | j+2,h,hq=>by
  rw[yY (by omega) (by omega),if_neg (hq (j+1) (by omega) (by omega) h),D6 (j+1) (by omega) (fun q h1 h2 h3=>hq q (by omega) h2 h),<-List.take_succ_eq_append_getElem]
end
theorem B8: ∀ {l:List Int},l.Pairwise (fun a b=>a<=b)->(pT l).Pairwise (fun a b=>a<b)
 | [],_=>List.Pairwise.nil
 | [a],_=>by simp[pT]
 | a::b::l,h=>by
  obtain ⟨h1,h2⟩:=List.pairwise_cons.1 h
  rw[pT]
  split
  ·exact B8 h2
  ·rename_i hn
   refine List.pairwise_cons.2 ⟨fun x hx=>?_,B8 h2⟩
   have hab:a<b:=by have:=h1 b (List.mem_cons_self ..);omega
   rcases az (wX.1 hx) with rfl | hx
   ·exact hab
   ·have:=(List.pairwise_cons.1 h2).1 x hx
    omega
theorem D7: ∀ {l m:List Int},l.Pairwise (fun a b=>a<b)->m.Pairwise (fun a b=>a<b)->(∀x,x∈l↔x∈m)->l=m
 | [],[],_,_,_=>rfl
 | [],b::m,_,_,h=>absurd ((h b).2 (by simp)) (by simp)
 | a::l,[],_,_,h=>absurd ((h a).1 (by simp)) (by simp)
 | a::l,b::m,h1,h2,h=>by
  obtain ⟨k1,k2⟩:=List.pairwise_cons.1 h1
  obtain ⟨j1,j2⟩:=List.pairwise_cons.1 h2
  have hab:a=b:=by
   have ha:=(h a).1 (by simp)
   have hb:=(h b).2 (by simp)
   rcases az ha with e | ha
   ·exact e
   ·rcases az hb with e | hb
    ·exact e.symm
    ·have:=k1 b hb;have:=j1 a ha;omega
  subst hab
  rw[D7 k2 j2 fun x=>?_]
  have:=h x
  rw[List.mem_cons,List.mem_cons] at this
  constructor
  ·intro hx
   rcases this.1 (.inr hx) with e | e
   ·subst e;have:=k1 x hx;omega
   ·exact e
  ·intro hx
   rcases this.2 (.inr hx) with e | e
   ·subst e;have:=j1 x hx;omega
   ·exact e
end D
namespace D
open Go.RowKit
theorem XS {a b:Int} :(a==b)=decide (a=b):=by rw[Bool.eq_iff_iff];simp
theorem FN (xs:List Int) (hl:xs.length<=1073741824):cM xs=some (pT xs):=by
 unfold cM
 by_cases h2:xs.length<2
 ·rw[if_pos (by simp;omega)]
  cases xs with
  | nil=>rfl
  | cons a l =>
   cases l with
   | nil=>rfl
   | cons b l=>simp only[au] at h2;omega
 rw[if_neg (by simp;omega)]
 have key:(ay (bM xs) aQ 1=some (.ret (pT xs)))\/(∃s,ay (bM xs) aQ 1=some (.brk s)/\pT xs=xs):=by
  obtain ⟨o,e,hQ⟩:=bX (f:=bM xs) (fun t s=>s=((t+1:Nat):Int)/\pT (xs.take (t+1))=xs.take (t+1)) (fun o=>o= .ret (pT xs)\/ ∃s,o= .brk s/\pT xs=xs) (xs.length - 1) (fun t s ht hI=>by
   obtain ⟨rfl,hI⟩:=hI
   unfold bM
   by_cases h1:t+1<xs.length
   ·have hp:((t+1:Nat):Int) - 1=((t:Nat):Int):=by omega
    rw[cW h1,if_pos rfl,aO h1,bY (n:=((t+1:Nat):Int) - 1) (by omega) (by omega),hp,aO (show t<xs.length by omega)]
    simp only[aa,XS]
    have hn:=yY (xs:=xs) (j:=t+1) (by omega) h1
    rw[hI] at hn
    simp only[Nat.add_sub_cancel] at hn
    by_cases he:xs[t+1] =xs[t]
    ·rw[if_pos (decide_eq_true he),I8 (by omega),aa]
     rw[if_pos he.symm] at hn
     have hlt:(xs.take (t+1)).length=t+1:=by rw[aE];omega
     obtain ⟨s,e1,ys,rfl,k1,k2,k3,k4⟩:=db (f:=cr xs ((t+1:Nat):Int)) (fun u s=> ∃ys:List Int,s=(((pT (xs.take (t+2+u))).length:Int),((u+1:Nat):Int),ys)/\ys.length=xs.length/\ys.take (pT (xs.take (t+2+u))).length=pT (xs.take (t+2+u))/\ys.drop (t+1+u)=xs.drop (t+1+u)/\(pT (xs.take (t+2+u))).length<=t+1+u) (xs.length - (t+2)) (fun u s hu hI=>by
      obtain ⟨ys,rfl,k1,k2,k3,k4⟩:=hI
      have hj:t+2+u<xs.length:=by clear k4 k2;omega
      have hj1:t+1+u<xs.length:=by clear k4 k2;omega
      have hj2:t+2+u<ys.length:=by clear k4 k2;omega
      have hj3:t+1+u<ys.length:=by clear k4 k2;omega
      have a1:(0+((t+1:Nat):Int))+((u+1:Nat):Int)=((t+2+u:Nat):Int):=by omega
      have a2:((u+1:Nat):Int) - 1=((u:Nat):Int):=by omega
      have a3:(0+((t+1:Nat):Int))+((u:Nat):Int)=((t+1+u:Nat):Int):=by omega
      unfold cr
      dsimp only
      rw[if_pos (by simp;omega),I8 (by omega)]
      simp only[aa]
      rw[bY (n:=((u+1:Nat):Int) - 1) (by omega) (by omega),a1,a2,a3,aO (xs:=ys) hj2,aO (xs:=ys) hj3,I8 (by omega),Hw k3 (by omega) hj2 hj,Hw k3 (aC _) hj3 hj1]
      simp only[aa,XS,iP]
      have e9:t+2+u - 1=t+1+u:=by clear k4 k2;omega
      have e8:0<t+2+u:=by clear k4 k2;omega
      have hnx:=yY (xs:=xs) (j:=t+2+u) e8 hj
      simp only[e9] at hnx
      have hd:=MM k3
      rw[show t+1+u+1=t+1+(u+1) from by omega] at hd
      rw[show t+2+(u+1)=t+2+u+1 from by omega,hnx]
      generalize pT (xs.take (t+2+u))=K at *
      by_cases hq:xs[t+2+u] =xs[t+1+u]
      ·rw[if_neg (by simpa using hq),if_pos hq.symm]
       simp only[aa]
       rw[ai (by omega)]
       exact ⟨_,rfl,ys,rfl,k1,k2,hd,by omega⟩
      ·rw[if_pos (by simpa using hq),if_neg (fun e=>hq e.symm),aO (xs:=ys) (show K.length<ys.length by omega)]
       simp only[aa]
       rw[ai (by omega),ai (by omega)]
       refine ⟨_,rfl,ys.set K.length xs[t+2+u],?_,by simpa using k1,?_,?_,?_⟩
       ·rw[aj,List.length_singleton];rfl
       ·rw[aj,List.length_singleton,PN (by omega),k2]
       ·rw[set_drop (by omega)];exact hd
       ·rw[aj,List.length_singleton];omega) (fun s hI=>by
      obtain ⟨ys,rfl,k1,k2,k3,k4⟩:=hI
      unfold cr
      rw[if_neg (by simp;omega)]) (s:=(((t+1:Nat):Int),1,xs)) ⟨xs,by rw[Nat.add_zero,hn,hlt];rfl,rfl,by rw[Nat.add_zero,hn,hlt],rfl,by rw[Nat.add_zero,hn,hlt];omega⟩ (jO _ (by omega))
     refine .inr ⟨.ret (pT xs),?_,fun s' hh=>(by simp at hh),.inl rfl⟩
     rw[af e1]
     have hall:xs.take (t+2+(xs.length - (t+2)))=xs:=List.take_of_length_le (by omega)
     rw[hall] at k2 k4⊢
     generalize pT xs=K at *
     have q0:K.length<=ys.length:=by omega
     have z1:((0:Int)+((K.length:Nat):Int)).toNat=K.length:=by omega
     have z2:((0:Int)+(((ys.length:Nat):Int) - 0)).toNat=ys.length:=by omega
     simp only[z1,z2]
     have zl:=ML (z:=(0:Int)) q0
     rw[I8 (by omega),aa,I8 (by omega),aa,I8 (by rw[zl];omega),aa,I9 q0,k2,List.drop_zero]
    ·rw[if_neg (by simpa using he),ai (by omega)]
     rw[if_neg (fun e=>he e.symm),<-List.take_succ_eq_append_getElem h1] at hn
     exact .inl ⟨by omega,_,rfl,rfl,hn⟩
   ·refine .inr ⟨.brk ((t+1:Nat):Int),?_,fun s' hh=>(by simp at hh),.inr ⟨_,rfl,?_⟩⟩
    ·rw[if_neg (by simp;omega)]
    ·rw[List.take_of_length_le (by omega)] at hI;exact hI) (s:=1) ⟨rfl,D6 1 (by omega) (fun q h1 h0=>by omega)⟩ (jO _ (by omega))
  rcases hQ with rfl | ⟨s,rfl,h⟩
  ·exact .inl e
  ·exact .inr ⟨s,e,h⟩
 rcases key with e | ⟨s,e,h⟩
 ·rw[bN e]
 ·rw[af e,h]
theorem yZ (m:Nat): ∀k,(dI m k).Pairwise (fun a b=>a<b)
 | 0=>List.Pairwise.nil
 | k+1=>by
  rw[jQ]
  split
  ·refine List.pairwise_append.2 ⟨yZ m k,List.pairwise_singleton _ _,fun a ha b hb=>?_⟩
   obtain ⟨i,hi,_,rfl⟩:=lB.1 ha
   obtain rfl:b=(k:Int):=by simpa using hb
   omega
  ·exact yZ m k
theorem TN {X:List Int} {m:Nat} (h: ∀x∈X,∃i:Nat,i<30/\x=(i:Int)) (hm: ∀i:Nat,i<30->(m.testBit i=true↔(i:Int)∈X)):pT (X.mergeSort fun x y=>decide (x<=y))=dI m 30:=by
 have hp:(X.mergeSort fun x y=>decide (x<=y)).Pairwise (fun a b=>a<=b):=by
  have:=List.pairwise_mergeSort (le:=fun (x y:Int)=>decide (x<=y)) (fun a b c h1 h2=>by
   have h1:=of_decide_eq_true h1;have h2:=of_decide_eq_true h2
   exact decide_eq_true (by omega)) (fun a b=>by
   rw[Bool.or_eq_true,decide_eq_true_eq,decide_eq_true_eq];omega) X
  exact this.imp fun h=>of_decide_eq_true h
 refine D7 (B8 hp) (yZ m 30) fun x=>?_
 rw[wX,List.mem_mergeSort,lB]
 constructor
 ·intro hx
  obtain ⟨i,hi,rfl⟩:=h x hx
  exact ⟨i,hi,(hm i hi).2 hx,rfl⟩
 ·rintro ⟨i,hi,hb,rfl⟩
  exact (hm i hi).1 hb
end D
namespace D
open Go.RowKit
theorem Q7 {p:Prop} [Decidable p] (h:p):chk p=some ():=by unfold chk;rw[if_pos h]
theorem Xh {m:Nat} (hm:m<2 ^ 30):tZ (m:Int)=some (dI m 30):=by
 have hm':m<2 ^ 62:=aF hm (Nat.pow_le_pow_right (by decide) (by decide))
 unfold tZ
 have:=aN (f:=lh (m:Int)) (fun i=>(dI m i,(i:Int))) 30 (fun i hi=>by
  have hl:=lC m i
  unfold lh
  simp only
  rw[if_pos (by simp;omega),Q7 (by omega),yV hm' (by omega),ai (by omega),jQ];simp only[aa]
  by_cases b:m.testBit i=true
  ·rw[if_pos b,if_pos b,aI (by simp;omega)];rfl
  ·rw[if_neg b,if_neg b];rfl) (by unfold lh;simp) (by unfold aQ;omega)
 have this:ay (lh (m:Int)) aQ (([] :List Int),0)=_:=this
 rw[af this]
theorem FO (xs:List Int) (h:xs.length<=1000000):j8 xs=some (pT (xs.mergeSort fun x y=>decide (x<=y))):=by
 unfold j8 eR eZ R.O9
 rw[aI (by simp;omega)];simp only[aa,List.nil_append]
 rw[Q7 (by omega)];simp only[aa]
 rw[FN _ (by rw[List.length_mergeSort];omega)];rfl
end D
namespace D
open Go.RowKit
def FP (a:AutT) (s v:Int):Bool:=decide (∃q∈dI (cS a s v) 30,nth a.2.1 q=true)
section
variable {a:AutT} {n:Nat} (V:VA a n) (hn:n<=12)
include V hn
theorem FQ {s v:Int} (hs:0<=s/\s<n) (hv:0<=v/\v<=2):j7 a (tn 1 s) v=some (FP a s v):=by
 obtain ⟨t,rfl⟩: ∃t:Nat,s=(t:Int):=⟨s.toNat,by omega⟩
 obtain ⟨e1,h1⟩:=jl V hn hs hv
 have hC:cS a (t:Int) v<2 ^ 30:=aF h1 (Nat.pow_le_pow_right (by decide) (by omega))
 unfold j7
 rw[th (by omega),qM (Nat.pow_lt_pow_right (by decide) (by omega)),DZ (by omega)];simp only[aa]
 have hlen:=lC (cS a (t:Int) v) 30
 have h0:eL a v [(t:Int)] 0=some (if FP a (t:Int) v=true then .ret true else .nxt 1):=by
  unfold eL
  rw[if_pos (by simp),show aP [(t:Int)] 0=some (t:Int) from rfl];simp only[aa]
  have e1:dY (a.1,a.2.1,a.2.2) (t:Int) v=_:=e1
  rw[e1];simp only[aa]
  rw[qM hC];simp only[aa]
  rcases scan (f:=jr a (dI (cS a (t:Int) v) 30)) (dI (cS a (t:Int) v) 30) (fun q=> ¬nth a.2.1 q=true) true (by omega) (fun i hi=>by
   have hq:=mb V hn h1 _ (bg (xs:=dI (cS a (t:Int) v) 30) (i:=(i:Int)) (by omega) (by omega))
   unfold jr
   rw[if_pos (by simp;omega),ax (by omega) (by omega)];simp only[aa]
   rw[V.acc hq.1 hq.2,ai (by omega)];simp only[aa]
   cases nth a.2.1 (nth (dI (cS a (t:Int) v) 30) (i:Int)) <;> rfl) (by unfold jr;simp) with ⟨e,h⟩ | ⟨e,h⟩
  ·rw[af e,if_neg (by unfold FP;rw[decide_eq_true_eq];rintro ⟨q,hq,hqa⟩;exact h q hq hqa)];rfl
  ·rw[bN e,if_pos (by
    unfold FP;rw[decide_eq_true_eq]
    by_cases c: ∃q∈dI (cS a (t:Int) v) 30,nth a.2.1 q=true
    ·exact c
    ·exact absurd (fun q hq hqa=>c ⟨q,hq,hqa⟩) h)]
 have h1':eL a v [(t:Int)] 1=some (.brk 1):=by
  unfold eL;rw[if_neg (by simp)]
 rcases I5 (f:=eL a v [(t:Int)]) 1 (fun _=> ¬FP a (t:Int) v=true) true (by decide) (fun i hi=>by
  obtain rfl:i=0:=by omega
  rw[show ((0:Nat):Int)=0 from rfl,h0]
  cases FP a (t:Int) v <;> rfl) h1' with ⟨e,h⟩ | ⟨e,h⟩
 ·rw[af e]
  have:=h 0 (by decide)
  rw[Bool.not_eq_true] at this
  rw[this]
 ·rw[bN e]
  have:FP a (t:Int) v=true:=by
   cases hb:FP a (t:Int) v with
   | true=>rfl
   | false=>exact absurd (fun _ _=>by rw[hb];decide) h
  rw[this]
theorem D8 {C:Nat} (hC:C<2 ^ n):aM (ay (fI a (C:Int)) aQ 0) (fun r=>some r) (fun _=>some false)=some (decide (∃q∈dI C 30,nth a.2.1 q=true)):=by
 have hC':C<2 ^ 62:=aF hC (p62 (by omega))
 rcases I5 (f:=fI a (C:Int)) n (fun i=> ¬(C.testBit i=true/\nth a.2.1 (i:Int)=true)) true (by omega) (fun i hi=>by
  unfold fI
  rw[V.len,if_pos (by simp;omega),jm (by omega),yV hC' (by omega),V.acc (by omega) (by omega),ai (by omega)];simp only[aa]
  cases C.testBit i <;> cases nth a.2.1 (i:Int) <;> rfl) (by unfold fI;rw[V.len];simp) with ⟨e,h⟩ | ⟨e,h⟩
 ·rw[af e,decide_eq_false]
  rintro ⟨q,hq,hqa⟩
  have hr:=mb V hn hC q hq
  obtain ⟨i,hi,hb,rfl⟩:=lB.1 hq
  exact h i (by omega) ⟨hb,hqa⟩
 ·rw[bN e,decide_eq_true]
  by_cases c: ∃q∈dI C 30,nth a.2.1 q=true
  ·exact c
  ·exact absurd (fun (i:Nat) (hi:i<n) (hh:C.testBit i=true/\nth a.2.1 (i:Int)=true)=>c ⟨(i:Int),lB.2 ⟨i,by omega,hh.1,rfl⟩,hh.2⟩) h
end
section
variable {g:GrT} {a:AutT} (H:GOOD g a)
include H
theorem MN {x s:Nat} (hx:x<g.1.length) (hs:s<a.2.1.length):jh g a (x:Int) (s:Int)=some (FP a (s:Int) (nth g.1 (x:Int))):=by
 have hv:=H.1.val _ (bg (xs:=g.1) (i:=(x:Int)) (by omega) (by omega))
 have ec:=D2 H.2.2 H.2.1 (s:=(s:Int)) ⟨by omega,by omega⟩ hv
 have hC:=(jl H.2.2 H.2.1 (s:=(s:Int)) ⟨by omega,by omega⟩ hv).2
 unfold jh
 rw[ax (by omega) (by omega)];simp only[aa]
 have ec:fb (a.1,a.2.1,a.2.2) (s:Int) (nth g.1 (x:Int))=_:=ec
 rw[ec];simp only[aa]
 have:=D8 H.2.2 H.2.1 hC
 exact this
end
def TO (g:GrT) (a:AutT) (R:List Int) (i:Nat):Bool:=decide (0<=nth R (i:Int))&&FP a ((i % a.2.1.length:Nat):Int) (nth g.1 ((i / a.2.1.length:Nat):Int))
def Ef (g:GrT) (a:AutT) (R:List Int):Nat->List Int
 | 0=>[]
 | i+1=>if TO g a R i=true then Ef g a R i++ [((i / a.2.1.length:Nat):Int)] else Ef g a R i
def Jn (g:GrT) (a:AutT) (R:List Int):Nat->Nat
 | 0=>0
 | i+1=>if TO g a R i=true then Jn g a R i ||| 2 ^ (i / a.2.1.length) else Jn g a R i
theorem B9 (g:GrT) (a:AutT) (R:List Int): ∀i,(Ef g a R i).length<=i
 | 0=>by simp[Ef]
 | i+1=>by
  have:=B9 g a R i
  rw[Ef];split
  ·rw[aj];simp;omega
  ·omega
theorem MO {x:Nat} {n:Nat} (hx:x<=1000000):Ed (x:Int) (n:Int)=((x / n:Nat):Int)/\Int.tmod (x:Int) (n:Int)=((x % n:Nat):Int):=by
 refine ⟨?_,?_⟩
 ·unfold Ed
  rw[Int.tdiv_eq_ediv_of_nonneg (Int.natCast_nonneg _),<-Int.natCast_ediv,uv (by have:=Nat.div_le_self x n;omega)]
 ·rw[Int.tmod_eq_emod_of_nonneg (Int.natCast_nonneg _),Int.natCast_emod]
section
variable {g:GrT} {a:AutT} (H:GOOD g a) {R:List Int} (hR:R.length=a.2.1.length*g.1.length)
include H
theorem Hx {i:Nat} (hi:i<a.2.1.length*g.1.length):i / a.2.1.length<g.1.length/\i % a.2.1.length<a.2.1.length/\0<a.2.1.length/\g.1.length<=5:=by
 obtain ⟨k1,k2⟩:=H.divmod (x:=(i:Int)) (by omega) (by omega)
 exact ⟨k1,k2,H.2.2.pos,H.1.n5⟩
theorem FR: ∀i,i<=a.2.1.length*g.1.length->Jn g a R i<2 ^ 5
 | 0,_=>by simp[Jn]
 | i+1,hi=>by
  have h:=FR i (by omega)
  obtain ⟨k1,k2,k3,k4⟩:=Hx H (i:=i) (by omega)
  rw[Jn];split
  ·exact uG h (by omega)
  ·exact h
theorem Ca: ∀i,i<=a.2.1.length*g.1.length-> ∀j:Nat,((Jn g a R i).testBit j=true↔(j:Int)∈Ef g a R i)
 | 0,_,j=>by simp[Jn,Ef]
 | i+1,hi,j=>by
  have h:=Ca i (by omega) j
  rw[Jn,Ef];split
  ·rw[kV,Bool.or_eq_true,h,List.mem_append,List.mem_singleton,decide_eq_true_eq]
   constructor
   ·rintro (h | h)
    ·exact .inl h
    ·exact .inr (by rw[h])
   ·rintro (h | h)
    ·exact .inl h
    ·exact .inr (Int.ofNat_inj.1 h).symm
  ·exact h
theorem FU: ∀i,i<=a.2.1.length*g.1.length-> ∀x∈Ef g a R i,∃j:Nat,j<30/\x=(j:Int)
 | 0,_,x,hx=>by cases hx
 | i+1,hi,x,hx=>by
  obtain ⟨k1,k2,k3,k4⟩:=Hx H (i:=i) (by omega)
  rw[Ef] at hx;split at hx
  ·rcases aH hx with hx | hx
   ·exact FU i (by omega) x hx
   ·exact ⟨_,by omega,al hx⟩
  ·exact FU i (by omega) x hx
include hR
theorem VW:ay (ji g a R) aQ (0,0)=some (.brk ((Jn g a R (a.2.1.length*g.1.length):Int),((a.2.1.length*g.1.length:Nat):Int))):=by
 have hN:=nN H.1 H.2.2 H.2.1
 have:=aN (f:=ji g a R) (fun i=>((Jn g a R i:Int),(i:Int))) (a.2.1.length*g.1.length) (fun i hi=>by
  obtain ⟨k1,k2,k3,k4⟩:=Hx H hi
  obtain ⟨q1,q2⟩:=MO (x:=i) (n:=a.2.1.length) (by omega)
  have hs:=FR H (R:=R) i (by omega)
  unfold ji
  simp only
  rw[if_pos (by simp only[decide_eq_true_eq];omega),ax (by omega) (by omega),jm (by omega),q1,q2,ai (by omega)];simp only[aa]
  have ea:jh (g.1,g.2) (a.1,a.2.1,a.2.2) ((i / a.2.1.length:Nat):Int) ((i % a.2.1.length:Nat):Int)=_:=MN H k1 k2
  rw[ea,Jn];simp only[aa]
  unfold TO
  by_cases c:0<=nth R (i:Int)
  ·rw[if_pos (by simpa using c),decide_eq_true c,Bool.true_and]
   cases FP a ((i % a.2.1.length:Nat):Int) (nth g.1 ((i / a.2.1.length:Nat):Int)) with
   | false=>rfl
   | true =>
    simp only[if_true]
    rw[jm (Int.natCast_nonneg _),th (by omega),DY (aF hs (Nat.pow_le_pow_right (by decide) (by decide))) (Nat.pow_lt_pow_right (by decide) (by omega))];rfl
  ·rw[if_neg (by simpa using c),decide_eq_false c,Bool.false_and];rfl) (by unfold ji;simp only;rw[if_neg (by simp;omega)]) (ju (by omega))
 exact this
theorem VX:ay (eT g a R) aQ (([] :List Int),0)=some (.brk (Ef g a R (a.2.1.length*g.1.length),((a.2.1.length*g.1.length:Nat):Int))):=by
 have hN:=nN H.1 H.2.2 H.2.1
 have:=aN (f:=eT g a R) (fun i=>(Ef g a R i,(i:Int))) (a.2.1.length*g.1.length) (fun i hi=>by
  obtain ⟨k1,k2,k3,k4⟩:=Hx H hi
  obtain ⟨q1,q2⟩:=MO (x:=i) (n:=a.2.1.length) (by omega)
  have hl:=B9 g a R i
  have hv:=H.1.val _ (bg (xs:=g.1) (i:=((i / a.2.1.length:Nat):Int)) (Int.natCast_nonneg _) (Int.ofNat_lt.2 k1))
  unfold eT
  simp only
  rw[if_pos (by simp only[decide_eq_true_eq];omega),ax (by omega) (by omega),jm (by omega),q1,q2,ai (by omega),jm (Int.natCast_nonneg _)];simp only[aa]
  have ea:j7 (a.1,a.2.1,a.2.2) (tn 1 ((i % a.2.1.length:Nat):Int)) (nth g.1 ((i / a.2.1.length:Nat):Int))=_:=FQ H.2.2 H.2.1 ⟨Int.natCast_nonneg _,Int.ofNat_lt.2 k2⟩ hv
  rw[ax (xs:=g.1) (i:=((i / a.2.1.length:Nat):Int)) (Int.natCast_nonneg _) (Int.ofNat_lt.2 k1)];simp only[aa]
  rw[ea,Ef];simp only[aa]
  unfold TO
  by_cases c:0<=nth R (i:Int)
  ·rw[if_pos (by simpa using c),decide_eq_true c,Bool.true_and]
   cases FP a ((i % a.2.1.length:Nat):Int) (nth g.1 ((i / a.2.1.length:Nat):Int)) with
   | false=>rfl
   | true =>
    simp only[if_true]
    rw[aI (by simp;omega)];rfl
  ·rw[if_neg (by simpa using c),decide_eq_false c,Bool.false_and];rfl) (by unfold eT;simp only;rw[if_neg (by simp;omega)]) (ju (by omega))
 exact this
end
def Jo (g:GrT) (a:AutT) (x:Int):List Int:=dI (Jn g a (RKs g a (x*(a.2.1.length:Int)+a.1)) (a.2.1.length*g.1.length)) 30
theorem Cb (g:GrT) (a:AutT) (x:Int):(Jo g a x).length<=30:=lC _ _
section
variable {g:GrT} {a:AutT} (H:GOOD g a) {x:Int} (hx:0<=x/\x<g.1.length)
include H hx
theorem PO:mQ g a x=some (Jo g a x):=by
 unfold mQ
 have e:lg (g.1,g.2) (a.1,a.2.1,a.2.2) x=_:=TM H hx
 have hR:=Hv H hx
 rw[e];simp only[aa]
 rw[af (VW H hR),Xh (aF (FR H _ (aC _)) (Nat.pow_le_pow_right (by decide) (by decide)))];rfl
theorem VY (e:bZ g a [x] =some true):gR g a x=some (Jo g a x):=by
 have hN:=nN H.1 H.2.2 H.2.1
 have hp:=H.2.2.pos
 have h1:=H.1.n1
 have hpp:0<a.2.1.length*g.1.length:=Nat.mul_pos hp (by omega)
 unfold gR
 have e:fG (g.1,g.2) (a.1,a.2.1,a.2.2) x=_:=VV H hx e
 have hR:=Hv H hx
 rw[e];simp only[aa]
 have hl:=B9 g a (RKs g a (x*(a.2.1.length:Int)+a.1)) (a.2.1.length*g.1.length)
 rw[if_neg (by simp only[decide_eq_true_eq];omega),af (VX H hR),FO _ (by simp only;omega)];simp only[aa]
 unfold Jo
 rw[TN (FU H _ (aC _)) fun i _=>Ca H _ (aC _) i]
end
theorem Hy (g:GrT) (a:AutT) (hg:Data.sm g) (ha:Data.sm a): ∃b,gS g a 0 0=some b/\bZ g a [] =some b/\(b=true->GOOD g a/\ ∀x:Int,0<=x->x<g.1.length->bZ g a [x] =some true):=by
 obtain ⟨b,c,e1,e2,e3,e4,k1,k2⟩:=TJ g a hg ha
 obtain ⟨b',es,ei,k⟩:=MJ g a hg ha 0
 have e2':bs (g.1,g.2)=_:=e2
 have e4':aW (a.1,a.2.1,a.2.2)=_:=e4
 have hl:=(cX hg.1).1
 have ew:IntKind.i64.wrap ((g.1.length:Int) - 1)=(g.1.length:Int) - 1:=bY (by omega) (by omega)
 have en:bZ g a [] =some (b&&c):=by
  unfold bZ
  have:ay (cq g []) aQ 0=some (.brk 0):=by
   have:=aN (f:=cq g []) (fun _=>(0:Int)) 0 (fun i hi=>absurd hi (Nat.not_lt_zero _)) (by unfold cq;simp) (by unfold aQ;omega)
   exact this
  rw[af this,e2',e4']
  cases b <;> cases c <;> rfl
 have e0: ∀x:Int,bZ g a [x] =if 0<=x/\x<=(g.1.length:Int) - 1 then some (b&&c) else some false:=fun x=>by
  unfold bZ
  rcases I5 (f:=cq g [x]) 1 (fun _=>0<=x/\x<=(g.1.length:Int) - 1) false (by decide) (fun i hi=>by
   obtain rfl:i=0:=by omega
   unfold cq
   rw[if_pos (by simp),show aP [x] ((0:Nat):Int)=some x from rfl];simp only[aa]
   rw[Jl,ew];simp only[aa,decide_eq_true_eq]
   split <;> rfl) (by unfold cq;simp) with ⟨k,h⟩ | ⟨k,h⟩
  ·rw[af k,e2',e4',if_pos (h 0 (by decide))]
   cases b <;> cases c <;> rfl
  ·rw[bN k,if_neg (fun c=>h fun _ _=>c)]
 have hbb:b'=(b&&c):=by
  have h:=e0 0
  rw[ei] at h
  by_cases c0:(0:Int)<=0/\(0:Int)<=(g.1.length:Int) - 1
  ·rw[if_pos c0] at h;exact ae h
  ·rw[if_neg c0] at h
   have:b'=false:=ae h
   rw[this]
   cases b with
   | false=>rfl
   | true=>have:=(k1 rfl).n1;omega
 refine ⟨b',es,by rw[en,hbb],fun hb=>⟨(k hb).1,fun x h0 h1=>?_⟩⟩
 rw[e0,if_pos ⟨h0,by omega⟩,<-hbb,hb]
def Ja (g:GrT) (a:AutT):Nat->List (Int×Int)
 | 0=>[]
 | x+1=>Ja g a x++(Jo g a (x:Int)).map fun y=>((x:Int),y)
theorem wY (g:GrT) (a:AutT): ∀x,(Ja g a x).length<=30*x
 | 0=>by simp[Ja]
 | x+1=>by
  have h1:=wY g a x
  have h2:=Cb g a (x:Int)
  rw[Ja,aj,List.length_map];omega
theorem Hz {f:Yq4×Int->Option (Out Yq4 (Yq4×Int))} {l:List Int} {x:Int} {o:List (Int×Int)} (hl:l.length<=30) (ho:o.length<=1000)
  (hf: ∀(o:List (Int×Int)) (j:Nat),j<l.length->o.length<=2000->f (o,(j:Int))=some (.nxt (o++ [(x,nth l (j:Int))],((j+1:Nat):Int)))) (he: ∀o,f (o,(l.length:Int))=some (.brk (o,(l.length:Int)))) :
  ay f aQ (o,0)=some (.brk (o++l.map fun y=>(x,y),(l.length:Int))):=by
 have:=aN (f:=f) (fun j=>(o++(l.take j).map fun y=>(x,y),(j:Int))) l.length (fun j hj=>by
  rw[hf _ j hj (by rw[aj,List.length_map,aE];omega),tj hj,aJ,ak];rfl) (he _) (ju (by omega))
 rw[List.take_length] at this
 simpa using this
theorem Cc (g:GrT) (a:AutT) (hg:Data.sm g) (ha:Data.sm a): ∃(b:Bool) (l:List (Int×Int)),bZ g a [] =some b/\gl g a=some l/\fa g a=some l/\l.length<=150/\(b=false->l= [])/\(b=true->GOOD g a/\l=Ja g a g.1.length):=by
 obtain ⟨b,es,ei,hb⟩:=Hy g a hg ha
 refine ⟨b,?_⟩
 have ei0:=ei
 have es:gS (g.1,g.2) (a.1,a.2.1,a.2.2) 0 0=_:=es
 have ei:bZ (g.1,g.2) (a.1,a.2.1,a.2.2) [] =_:=ei
 have hl:=(cX hg.1).1
 unfold gl fa
 rw[ei];simp only[aa]
 cases b with
 | false =>
  refine ⟨[],(by first | exact ei0 | trivial),?_,rfl,by decide,fun _=>rfl,fun h=>by cases h⟩
  have:=aN (f:=di g a) (fun _=>(([] :List (Int×Int)),(0:Int))) 0 (fun i hi=>absurd hi (Nat.not_lt_zero _)) (by
   unfold di
   rw[es];simp only[aa,Bool.false_eq_true,if_false]
   split <;> rfl) (by unfold aQ;omega)
  rw[af this]
 | true =>
  obtain ⟨H,hok⟩:=hb rfl
  have h5:=H.1.n5
  refine ⟨Ja g a g.1.length,(by first | exact ei0 | trivial),?_,?_,by have:=wY g a g.1.length;omega,(fun h=>by cases h),fun _=>⟨H,rfl⟩⟩
  ·have:=aN (f:=di g a) (fun x=>(Ja g a x,(x:Int))) g.1.length (fun x hx=>by
    have h1:=wY g a x
    have h2:=Cb g a (x:Int)
    unfold di
    simp only
    have ef:mQ (g.1,g.2) (a.1,a.2.1,a.2.2) (x:Int)=_:=PO H (x:=(x:Int)) ⟨by omega,by omega⟩
    rw[if_pos (by simp only[decide_eq_true_eq];omega),es,ef];simp only[aa,if_true]
    rw[af (Hz (x:=(x:Int)) (l:=Jo g a (x:Int)) h2 (by omega) (fun o j hj ho=>by
     unfold kF
     simp only
     rw[if_pos (by simp;omega),ax (by omega) (by omega)];simp only[aa]
     rw[aI (by simp;omega),ai (by omega)];rfl) (fun o=>by unfold kF;simp)),ai (by omega)]
    rfl) (by unfold di;simp) (ju (by omega))
   have this:ay (di g a) aQ (([] :List (Int×Int)),0)=_:=this
   rw[af this]
  ·simp only[if_true]
   have:=aN (f:=fH g a) (fun x=>(Ja g a x,(x:Int))) g.1.length (fun x hx=>by
    have h1:=wY g a x
    have h2:=Cb g a (x:Int)
    unfold fH
    simp only
    have ef:gR (g.1,g.2) (a.1,a.2.1,a.2.2) (x:Int)=_:=VY H (x:=(x:Int)) ⟨by omega,by omega⟩ (hok _ (by omega) (by omega))
    rw[if_pos (by simp only[decide_eq_true_eq];omega),ef];simp only[aa]
    rw[af (Hz (x:=(x:Int)) (l:=Jo g a (x:Int)) h2 (by omega) (fun o j hj ho=>by
     unfold kD
     simp only
     rw[if_pos (by simp;omega),ax (by omega) (by omega)];simp only[aa]
     rw[aI (by simp;omega),ai (by omega)];rfl) (fun o=>by unfold kD;simp)),ai (by omega)]
    rfl) (by unfold fH;simp) (ju (by omega))
   have this:ay (fH g a) aQ (([] :List (Int×Int)),0)=_:=this
   rw[af this]
theorem PP (g:GrT) (a:AutT) (hg:Data.sm g) (ha:Data.sm a): ∃l,gl g a=some l/\fa g a=some l/\l.length<=150:=by
 obtain ⟨b,l,-,h1,h2,h3,-⟩:=Cc g a hg ha
 exact ⟨l,h1,h2,h3⟩
theorem Cd {g:GrT} {a:AutT} {p:Int×Int} : ∀N,p∈Ja g a N↔ ∃x:Nat,x<N/\p.1=(x:Int)/\p.2∈Jo g a (x:Int)
 | 0=>by simp[Ja]
 | N+1=>by
  rw[Ja,List.mem_append,Cd N,List.mem_map]
  constructor
  ·rintro (⟨x,h1,h2⟩ | ⟨y,h1,rfl⟩)
   ·exact ⟨x,by omega,h2⟩
   ·exact ⟨N,by omega,rfl,h1⟩
  ·rintro ⟨x,h1,h2,h3⟩
   by_cases c:x=N
   ·subst c
    exact .inr ⟨p.2,h3,Prod.ext h2.symm rfl⟩
   ·exact .inl ⟨x,by omega,h2,h3⟩
end D
set_option synthInstance.maxSize 20000
set_option synthInstance.maxHeartbeats 2000000
namespace D
open Go.RowKit
theorem qP {r:rM} (hr:Data.sm r) {g:GrT} (hg:Data.sm g) (id:Int): ∃(l:List (Int×Int)) (b:Bool),cZ r g id=some (l,b)/\eM r g id=some (l,b)/\l.length<=150/\ ∃(a:AutT) (q v:Bool),br r id=some (a,q)/\Data.sm a/\cg g=some v/\b=(q&&v)/\(b=false->l= [])/\(b=true->fa g a=some l):=by
 obtain ⟨⟨a,q⟩,es,ei,sa⟩:=I3 hr id
 obtain ⟨b,e1,k1⟩:=PF g (cX hg.1).1 (cX hg.2).1
 have es:br (r.1,r.2) id=_:=es
 have ei:cz (r.1,r.2) id=_:=ei
 have e2:cg (g.1,g.2)=some b:=by rw[D4];exact e1
 have e1:bs (g.1,g.2)=_:=e1
 obtain ⟨l,f1,f2,hl⟩:=PP g a hg sa
 have f1:gl (g.1,g.2) (a.1,a.2.1,a.2.2)=_:=f1
 have f2:fa (g.1,g.2) (a.1,a.2.1,a.2.2)=_:=f2
 unfold cZ eM
 rw[es,ei,e1,e2];simp only[aa]
 rw[f1,f2]
 cases q with
 | false=>exact ⟨[],false,rfl,rfl,by decide,a,false,b,(by first | exact es | rfl),sa,(by first | exact e2 | rfl),rfl,fun _=>rfl,fun h=>by cases h⟩
 | true =>
  cases b with
  | false=>exact ⟨[],false,rfl,rfl,by decide,a,true,false,(by first | exact es | rfl),sa,(by first | exact e2 | rfl),rfl,fun _=>rfl,fun h=>by cases h⟩
  | true=>exact ⟨l,true,rfl,rfl,hl,a,true,true,(by first | exact es | rfl),sa,(by first | exact e2 | rfl),rfl,(fun h=>by cases h),fun _=>(by first | exact f2 | rfl)⟩
theorem wj {r:rM} (hr:Data.sm r) {g:GrT} (hg:Data.sm g) (id:Int): ∃(l:List (Int×Int)) (b:Bool),cZ r g id=some (l,b)/\eM r g id=some (l,b)/\l.length<=150:=by
 obtain ⟨l,b,h1,h2,h3,-⟩:=qP hr hg id
 exact ⟨l,b,h1,h2,h3⟩
end D
namespace D
open Go.RowKit
structure Dst (N:Nat) (nx:Int->Int->Prop) (src:Int->Prop) (o:List Int):Prop where
 len:o.length=N
 rng: ∀t:Int,0<=t->t<N-> -1<=nth o t
 zero: ∀t:Int,0<=t->t<N->(nth o t=0↔src t)
 pred: ∀t:Int,0<=t->t<N->0<nth o t-> ∃u:Int,0<=u/\u<N/\nx u t/\nth o u=nth o t - 1
 next: ∀u t:Int,0<=u->u<N->0<=t->t<N->nx u t->0<=nth o u->0<=nth o t/\nth o t<=nth o u+1
def cntN (o:List Int):Nat:=o.countP fun x=>decide (0<=x)
theorem MP (o:List Int):cntN o<=o.length:=List.countP_le_length
theorem HA {o:List Int} {k:Int} {v:Int} (h0:0<=k) (h1:k<o.length) (hk:nth o k<0) (hv:0<=v):cntN (o.set k.toNat v)=cntN o+1:=by
 have hl:k.toNat<o.length:=by omega
 have e:nth o k=o[k.toNat]:=by
  have:=bT (xs:=o) (i:=k.toNat) hl
  rwa [show ((k.toNat:Nat):Int)=k by omega] at this
 unfold cntN
 rw[List.countP_set hl,<-e,if_neg (by simpa using hk),if_pos (by simpa using hv)];omega
structure DI (N:Nat) (nx:Int->List Int) (src:Int->Prop) (Q o:List Int) (i:Nat) (b:Int):Prop where
 len:o.length=N
 q: ∀t∈Q,(0<=t/\t<N)/\0<=nth o t
 rng: ∀t:Int,0<=t->t<N-> -1<=nth o t/\nth o t<=b
 zero: ∀t:Int,0<=t->t<N->(nth o t=0↔src t)
 pred: ∀t:Int,0<=t->t<N->0<nth o t-> ∃u:Int,0<=u/\u<N/\t∈nx u/\nth o u=nth o t - 1
 closed: ∀u:Int,0<=u->u<N->0<=nth o u->u∈Q\/ ∀t∈nx u,0<=nth o t/\nth o t<=nth o u+1
 sorted:Q.Pairwise fun x y=>nth o x<=nth o y
 span: ∀h:Int,Q.head? =some h-> ∀t:Int,0<=t->t<N->nth o t<=nth o h+1
 all:i+Q.length=cntN o
section
variable {N:Nat} {nx:Int->List Int} {src:Int->Prop} (hn: ∀x:Int,0<=x->x<N-> ∀y∈nx x,0<=y/\y<N)
include hn
theorem DI.turn {s k:Int} {Q o:List Int} {i:Nat} {b:Int} (H:DI N nx src (s::Q) o i b) (hk:k∈nx s) (hb:nth o k<0) (hs:nth o s+1<=b):DI N nx src (s::(Q++ [k])) (o.set k.toNat (nth o s+1)) i b:=by
 obtain ⟨⟨s0,s1⟩,sm⟩:=H.q s (List.mem_cons_self ..)
 obtain ⟨k0,k1⟩:=hn s s0 s1 k hk
 have hl:=H.len
 have hk':nth (o.set k.toNat (nth o s+1)) k=nth o s+1:=hZ k0 (by omega)
 have ho: ∀t,0<=t->0<=nth o t->nth (o.set k.toNat (nth o s+1)) t=nth o t:=fun t t0 ht=>iI k0 t0 (by rintro rfl;omega)
 have hne: ∀t,0<=t->k≠t->nth (o.set k.toNat (nth o s+1)) t=nth o t:=fun t t0 e=>iI k0 t0 e
 have hcase: ∀t,0<=t->(t=k/\nth (o.set k.toNat (nth o s+1)) t=nth o s+1)\/(k≠t/\nth (o.set k.toNat (nth o s+1)) t=nth o t):=fun t t0=>by
  by_cases e:k=t
  ·subst e;exact .inl ⟨rfl,hk'⟩
  ·exact .inr ⟨e,hne t t0 e⟩
 have hsp: ∀t:Int,0<=t->t<N->nth o t<=nth o s+1:=H.span s rfl
 refine ⟨by rw[List.length_set];exact hl,fun t ht=>?_,fun t t0 t1=>?_,fun t t0 t1=>?_,fun t t0 t1 ht=>?_,fun u u0 u1 hu=>?_,?_,fun h hh t t0 t1=>?_,?_⟩
 ·rcases az ht with rfl | ht
  ·exact ⟨⟨s0,s1⟩,by rw[ho _ s0 sm];exact sm⟩
  ·rcases aH ht with ht | ht
   ·obtain ⟨⟨u0,u1⟩,u2⟩:=H.q t (bu _ ht)
    exact ⟨⟨u0,u1⟩,by rw[ho _ u0 u2];exact u2⟩
   ·obtain rfl:=al ht
    exact ⟨⟨k0,k1⟩,by rw[hk'];omega⟩
 ·have:=H.rng t t0 t1
  rcases hcase t t0 with ⟨-,e⟩ | ⟨-,e⟩ <;> rw[e] <;> omega
 ·rcases hcase t t0 with ⟨rfl,e⟩ | ⟨-,e⟩
  ·rw[e]
   have:=H.zero t t0 t1
   constructor
   ·intro h;omega
   ·intro h;have:=this.2 h;omega
  ·rw[e];exact H.zero t t0 t1
 ·rcases hcase t t0 with ⟨rfl,e⟩ | ⟨-,e⟩
  ·exact ⟨s,s0,s1,hk,by rw[e,ho s s0 sm];omega⟩
  ·rw[e] at ht⊢
   obtain ⟨u,u0,u1,h1,h2⟩:=H.pred t t0 t1 ht
   exact ⟨u,u0,u1,h1,by rw[ho u u0 (by omega)];exact h2⟩
 ·rcases hcase u u0 with ⟨rfl,e⟩ | ⟨-,e⟩
  ·exact .inl (bu _ (List.mem_append.2 (.inr (List.mem_singleton.2 rfl))))
  ·rw[e] at hu⊢
   rcases H.closed u u0 u1 hu with h | h
   ·refine .inl ?_
    rcases az h with rfl | h
    ·exact List.mem_cons_self ..
    ·exact bu _ (List.mem_append.2 (.inl h))
   ·refine .inr fun t ht=>?_
    have h2:=h t ht
    have ht0:=hn u u0 u1 t ht
    rw[ho t ht0.1 h2.1];exact h2
 ·have hs':=H.sorted
  rw[show s::(Q++ [k])=(s::Q)++ [k] from rfl]
  refine List.pairwise_append.2 ⟨hs'.imp_of_mem fun {x y} hx hy h=>?_,List.pairwise_singleton _ _,fun x hx y hy=>?_⟩
  ·rw[ho x (H.q x hx).1.1 (H.q x hx).2,ho y (H.q y hy).1.1 (H.q y hy).2];exact h
  ·obtain rfl:=al hy
   rw[hk',ho x (H.q x hx).1.1 (H.q x hx).2]
   exact hsp x (H.q x hx).1.1 (H.q x hx).1.2
 ·obtain rfl:s=h:=by simpa using hh
  rw[ho s s0 sm]
  rcases hcase t t0 with ⟨-,e⟩ | ⟨-,e⟩ <;> rw[e]
  ·omega
  ·exact hsp t t0 t1
 ·have:=H.all
  rw[HA k0 (by omega) hb (by omega)]
  simp at this⊢
  omega
theorem PQ (hN:N<=1000) (hl: ∀x,(nx x).length<=100000) {s:Int} {Q o:List Int} {i:Nat} {b:Int} (hb:b<=1000000) (H:DI N nx src (s::Q) o i b) (hs:nth o s+1<=b) :
  ∃Q' o',ay (dO (nx s)) aQ (s::Q,0,o)=some (.brk (s::Q',((nx s).length:Int),o'))/\DI N nx src (s::Q') o' i b/\nth o' s=nth o s/\ ∀t∈nx s,0<=nth o' t:=by
 obtain ⟨⟨s0,s1⟩,sm⟩:=H.q s (List.mem_cons_self ..)
 have hls:=hl s
 obtain ⟨st,e,Q',o',rfl,H',hs',hp⟩:=db (f:=dO (nx s)) (fun j st=> ∃Q' o',st=(s::Q',(j:Int),o')/\DI N nx src (s::Q') o' i b/\nth o' s=nth o s/\ ∀t∈(nx s).take j,0<=nth o' t) (nx s).length (by
  rintro j st hj ⟨Q1,o1,rfl,H1,e1,hp⟩
  have hk:=List.getElem_mem hj
  obtain ⟨k0,k1⟩:=hn s s0 s1 _ hk
  have hl1:=H1.len
  have hall:=H1.all
  have hc:=MP o1
  unfold dO
  simp only
  rw[cW hj,if_pos rfl,aO hj];simp only[aa,ai (show j<9223372036854775807 by omega)]
  rw[ax k0 (by omega),show aP (s::Q1) 0=some s from rfl];simp only[aa]
  rw[ax s0 (by omega),e1];simp only[aa]
  rw[bY (by omega) (by omega),aI (by simp at hall⊢;omega)];simp only[aa]
  by_cases c:nth o1 (nx s)[j] < 0
  ·rw[if_pos (decide_eq_true c)]
   have H2:=H1.turn hn hk c (by omega)
   rw[e1] at H2
   refine ⟨_,rfl,Q1++ [(nx s)[j]],o1.set (nx s)[j].toNat (nth o s+1),rfl,H2,?_,fun t ht=>?_⟩
   ·rw[iI k0 s0 (by intro e;rw[e] at c;omega)];exact e1
   ·rw[List.take_succ_eq_append_getElem hj] at ht
    rcases aH ht with ht | ht
    ·have h3:=hp t ht
     have ht0:=hn s s0 s1 t (List.mem_of_mem_take ht)
     rw[iI k0 ht0.1 (by intro e;rw[e] at c;omega)];exact h3
    ·obtain rfl:=al ht
     rw[hZ k0 (by omega)];omega
  ·rw[if_neg (by simpa using c)]
   refine ⟨_,rfl,Q1,o1,rfl,H1,e1,fun t ht=>?_⟩
   rw[List.take_succ_eq_append_getElem hj] at ht
   rcases aH ht with ht | ht
   ·exact hp t ht
   ·obtain rfl:=al ht
    omega) (by
  rintro st ⟨Q1,o1,rfl,-⟩
  unfold dO
  simp only
  rw[cx];rfl) (s:=(s::Q,0,o)) ⟨Q,o,rfl,H,rfl,fun t ht=>by simp at ht⟩ (ju (by omega))
 rw[List.take_of_length_le (aC _)] at hp
 exact ⟨Q',o',e,H',hs',hp⟩
theorem MQ (hN:N<=1000) (hl: ∀x,(nx x).length<=100000) {Q o:List Int} (H:DI N nx src Q o 0 0) :
  ∃o',ay (eS (rm N fun z=>nx (z:Int))) aQ (Q,o)=some (.brk ([],o'))/\Dst N (fun u t=>t∈nx u) src o':=by
 obtain ⟨r,e,o',rfl,hD⟩:=bX (f:=eS (rm N fun z=>nx (z:Int))) (fun i st=>DI N nx src st.1 st.2 i (i:Int)) (fun r=> ∃o',r= .brk ([],o')/\Dst N (fun u t=>t∈nx u) src o') N (s:=(Q,o)) (by
  rintro i ⟨Q,o⟩ hi H
  have H:DI N nx src Q o i (i:Int):=H
  unfold eS
  simp only
  cases Q with
  | nil =>
   right
   refine ⟨_,by rw[if_neg (by simp)],fun s' e=>(by cases e),o,rfl,H.len,fun t t0 t1=>(H.rng t t0 t1).1,H.zero,H.pred,fun u t u0 u1 t0 t1 h hu=>?_⟩
   rcases H.closed u u0 u1 hu with h1 | h1
   ·cases h1
   ·exact h1 t h
  | cons s Q =>
   left
   have hall:=H.all
   have hc:=MP o
   have hlen:=H.len
   obtain ⟨⟨s0,s1⟩,sm⟩:=H.q s (List.mem_cons_self ..)
   have hrs:=H.rng s s0 s1
   simp at hall
   refine ⟨by omega,?_⟩
   have H0:DI N nx src (s::Q) o i ((i+1:Nat):Int):= { H with rng:=fun t t0 t1=>by have:=H.rng t t0 t1;omega }
   obtain ⟨Q',o',e,H',hs',hp⟩:=PQ hn hN hl (by omega) H0 (by omega)
   obtain ⟨z,rfl⟩: ∃z:Nat,s=(z:Int):=⟨_,(Int.toNat_of_nonneg s0).symm⟩
   rw[if_pos (by simp),show aP ((z:Int)::Q) 0=some (z:Int) from rfl];simp only[aa]
   rw[vB (by omega)];simp only[aa]
   rw[af e];simp only
   rw[jm (by simp;omega)];simp only[aa]
   have hsp:=H'.span _ rfl
   refine ⟨_,rfl,H'.len,fun t ht=>H'.q t (bu _ ht),H'.rng,H'.zero,H'.pred,fun u u0 u1 hu=>?_,(List.pairwise_cons.1 H'.sorted).2,fun h hh t t0 t1=>?_,?_⟩
   ·rcases H'.closed u u0 u1 hu with h | h
    ·rcases az h with rfl | h
     ·refine .inr fun t ht=>⟨hp t ht,?_⟩
      have ht0:=hn _ s0 s1 t ht
      exact hsp t ht0.1 ht0.2
     ·exact .inl h
    ·exact .inr h
   ·have h1:=(List.pairwise_cons.1 H'.sorted).1 h (by
     have hh:Q'.head? =some h:=hh
     exact List.mem_of_head? hh)
    have:=hsp t t0 t1
    show nth o' t<=nth o' h+1
    omega
   ·have:=H'.all
    simp at this⊢
    omega) H (ju (by omega))
 exact ⟨o',e,hD⟩
omit hn in
theorem FV {vs:List Int} (hN:N<=1000) (hv: ∀v∈vs,0<=v/\v<N) (hd:vs.Nodup) :
  ∃o,ay (dN vs) aQ ([],0,List.replicate N (-1))=some (.brk (vs,(vs.length:Int),o))/\DI N nx (· ∈ vs) vs o 0 0:=by
 have hle:vs.length<=N:=by
  have:=hd.length_le_of_subset (l₂:=(List.range N).map fun i:Nat=>(i:Int)) (fun x hx=>by
   obtain ⟨h0,h1⟩:=hv x hx
   exact List.mem_map.2 ⟨x.toNat,List.mem_range.2 (by omega),by omega⟩)
  simpa using this
 have hrep: ∀t:Int,0<=t->t<N->nth (List.replicate N (-1:Int)) t= -1:=fun t t0 t1=>by
  have:t.toNat<N:=by omega
  simp[nth,List.getD_eq_getElem?_getD,List.getElem?_replicate,this]
 obtain ⟨st,e,o,rfl,hl,hz,hc⟩:=db (f:=dN vs) (fun j st=> ∃o,st=(vs.take j,(j:Int),o)/\o.length=N/\(∀t:Int,0<=t->t<N->nth o t=if t∈vs.take j then 0 else -1)/\j=cntN o) vs.length (by
  rintro j st hj ⟨o,rfl,hl,hz,hc⟩
  obtain ⟨v0,v1⟩:=hv _ (List.getElem_mem hj)
  have hnot:vs[j] ∉ vs.take j:=fun h=>by
   obtain ⟨q,hq,e⟩:=List.getElem_of_mem h
   rw[aE] at hq
   rw[List.getElem_take] at e
   have:=(List.getElem_inj hd).1 e
   omega
  unfold dN
  simp only
  rw[cW hj,if_pos rfl,aO hj];simp only[aa]
  rw[ax v0 (by omega),aI (by simp;omega),ai (by omega)];simp only[aa]
  refine ⟨_,rfl,o.set vs[j].toNat 0,?_,by rw[List.length_set];exact hl,fun t t0 t1=>?_,?_⟩
  ·rw[List.take_succ_eq_append_getElem hj]
  ·by_cases e:vs[j] =t
   ·subst e
    rw[hZ v0 (by omega),if_pos (by rw[List.take_succ_eq_append_getElem hj];exact List.mem_append.2 (.inr (List.mem_singleton.2 rfl)))]
   ·rw[iI v0 t0 e,hz t t0 t1]
    have:t∈vs.take (j+1)↔t∈vs.take j:=by
     rw[List.take_succ_eq_append_getElem hj,List.mem_append,List.mem_singleton]
     exact ⟨fun h=>h.resolve_right fun h=>e h.symm,.inl⟩
    simp only[this]
  ·rw[HA v0 (by omega) (by rw[hz _ v0 v1,if_neg hnot];omega) (by omega),<-hc]) (by
  rintro st ⟨o,rfl,-⟩
  unfold dN
  simp only
  rw[cx];rfl) (s:=([],0,List.replicate N (-1))) ⟨List.replicate N (-1),by simp,by simp,fun t t0 t1=>by rw[hrep t t0 t1];simp,by
   unfold cntN
   symm
   rw[List.countP_eq_zero]
   intro x hx
   obtain ⟨-,rfl⟩:=List.mem_replicate.1 hx
   simp⟩ (ju (by omega))
 rw[List.take_of_length_le (aC _)] at e hz
 have hin: ∀t∈vs,nth o t=0:=fun t ht=>by rw[hz t (hv t ht).1 (hv t ht).2,if_pos ht]
 have hval: ∀t:Int,0<=t->t<N->(nth o t=0/\t∈vs)\/(nth o t= -1/\t∉vs):=fun t t0 t1=>by
  rw[hz t t0 t1]
  by_cases h:t∈vs
  ·exact .inl ⟨if_pos h,h⟩
  ·exact .inr ⟨if_neg h,h⟩
 refine ⟨o,e,hl,fun t ht=>⟨hv t ht,by rw[hin t ht];omega⟩,fun t t0 t1=>?_,fun t t0 t1=>?_,fun t t0 t1 h=>?_,fun u u0 u1 hu=>.inl ?_,?_,fun h hh t t0 t1=>?_,by omega⟩
 ·rcases hval t t0 t1 with ⟨h,-⟩ | ⟨h,-⟩ <;> omega
 ·rcases hval t t0 t1 with ⟨h,h2⟩ | ⟨h,h2⟩
  ·exact ⟨fun _=>h2,fun _=>h⟩
  ·exact ⟨fun h3=>by omega,fun h3=>absurd h3 h2⟩
 ·rcases hval t t0 t1 with ⟨h2,-⟩ | ⟨h2,-⟩ <;> omega
 ·rcases hval u u0 u1 with ⟨-,h2⟩ | ⟨h2,-⟩
  ·exact h2
  ·omega
 ·exact List.Pairwise.imp_of_mem (fun {x y} hx hy _=>by rw[hin x hx,hin y hy];omega) hd
 ·have:h∈vs:=List.mem_of_head? hh
  have:=hin h this
  rcases hval t t0 t1 with ⟨h2,-⟩ | ⟨h2,-⟩ <;> omega
theorem Xi {vs:List Int} (hN:N<=60) (hl: ∀x,(nx x).length<=100000) (hv: ∀v∈vs,0<=v/\v<N) (hd:vs.Nodup): ∃o,mi (rm N fun z=>nx (z:Int)) vs=some o/\Dst N (fun u t=>t∈nx u) (· ∈ vs) o:=by
 obtain ⟨o,e1,H⟩:=FV (nx:=nx) (by omega) hv hd
 obtain ⟨o',e2,hD⟩:=MQ hn (by omega) hl H
 unfold mi
 rw[wi,VT hN];simp only[aa]
 rw[af e1];simp only
 rw[af e2]
 exact ⟨o',rfl,hD⟩
end
end D
namespace D
open Go.RowKit
section
variable {g:GrT} {a:AutT} (H:GOOD g a) {x:Int} (hx:0<=x/\x<g.1.length)
include H hx
theorem MR:Dst (a.2.1.length*g.1.length) (fun u t=>t∈nxN g a u) (· ∈ [x*(a.2.1.length:Int)+a.1]) (RKs g a (x*(a.2.1.length:Int)+a.1)):=by
 have hN:=nN H.1 H.2.2 H.2.1
 obtain ⟨K,hK,hE,hR⟩:=FL (I7 H hx) (oQ H)
 have e1:=Hu hN (I7 H hx) (oQ H) (fun x=>by have:=yX H x;omega) hK hE hR
 have hk:bsS (nxN g a) (a.2.1.length*g.1.length) (x*(a.2.1.length:Int)+a.1) K=bsS (nxN g a) (a.2.1.length*g.1.length) (x*(a.2.1.length:Int)+a.1) (a.2.1.length*g.1.length):=by
  have:=wW (I7 H hx) (oQ H) hE (a.2.1.length*g.1.length - K)
  rw[show K+(a.2.1.length*g.1.length - K)=a.2.1.length*g.1.length from by omega] at this
  exact this.symm
 obtain ⟨o,e2,hD⟩:=Xi (nx:=nxN g a) (oQ H) hN (fun x=>by have:=yX H x;omega) (vs:=[x*(a.2.1.length:Int)+a.1]) (fun v hv=>by obtain rfl:=al hv;exact I7 H hx) (by simp)
 rw[e1,hk] at e2
 rw[show RKs g a (x*(a.2.1.length:Int)+a.1)=o from ae e2]
 exact hD
end
end D
namespace D
open Go.RowKit
section
variable {κ:Type} [DecidableEq κ] {nx:κ->List (Option κ)} {first:κ} {N:Nat}
theorem TP: ∀ {l:List κ} {x:κ} (h:x∈l),l[l.idxOf x]'(List.idxOf_lt_length_iff.2 h)=x:=fun {l x} h=>by simp
def Jp (nx:κ->List (Option κ)):Option κ->List Nat->Option κ
 | x,[] =>x
 | none,_::_=>none
 | some x,k::w=>Jp nx (nth (nx x) (k:Int)) w
theorem uI (nx:κ->List (Option κ)): ∀w,Jp nx none w=none
 | [] =>rfl
 | _::_=>rfl
theorem VZ (E:bfE nx first N) {i:Nat} (hi:i<N) {j:Nat} (hij:i<j) (hj:j<=N):nth (bfR nx first j) (i:Int)=nbR (bfS nx first i) (nx ((bfS nx first i)[i]'(E.2 i hi))):=by
 induction j with
 | zero=>omega
 | succ j ih =>
  rw[rv (E.2 j (by omega))]
  have hl:(bfR nx first j).length=j:=iL fun m hm=>E.2 m (by omega)
  by_cases h:i<j
  ·rw[hY (by omega) (by omega),ih h (by omega)]
  ·obtain rfl:i=j:=by omega
   rw[bT (by rw[aj,hl];simp)]
   simp[hl]
theorem V0 {i:Nat} (h:i<(bfS nx first i).length) {j:Nat} (hij:i<=j):(bfS nx first j)[i]? =some ((bfS nx first i)[i]):=by
 have hp:=kJ (nx:=nx) (first:=first) hij
 obtain ⟨t,ht⟩:=hp
 rw[<-ht,List.getElem?_append_left h,List.getElem?_eq_getElem h]
theorem TQ (E:bfE nx first N) {x:κ} (hx:x∈bfS nx first N) {k:Nat} (hk:k<(nx x).length) :
  nth (nth (bfR nx first N) ((bfS nx first N).idxOf x:Int)) (k:Int)=(match nth (nx x) (k:Int) with | none=> -1 | some y=>((bfS nx first N).idxOf y:Int))/\ ∀y,nth (nx x) (k:Int)=some y->y∈bfS nx first N:=by
 have hlt:(bfS nx first N).idxOf x<N:=by
  have:=List.idxOf_lt_length_iff.2 hx
  have:=E.1
  omega
 generalize hi:(bfS nx first N).idxOf x=i at hlt⊢
 have hl:=E.2 i hlt
 have hxi:(bfS nx first i)[i] =x:=by
  have h1:=V0 hl (Nat.le_of_lt hlt)
  have h2:(bfS nx first N)[i]? =some x:=by
   rw[<-hi,List.getElem?_eq_getElem (List.idxOf_lt_length_iff.2 hx),TP hx]
  rw[h1] at h2;exact ae h2
 rw[VZ E hlt hlt (aC _),hxi,Mj _ _ _ hk]
 have hs:nbS (bfS nx first i) (nx x)=bfS nx first (i+1):=by rw[wQ hl,hxi]
 have hp:nbS (bfS nx first i) (nx x) <+:bfS nx first N:=by rw[hs];exact kJ hlt
 cases ho:nth (nx x) (k:Int) with
 | none=>exact ⟨rfl,fun y hy=>by cases hy⟩
 | some y =>
  have hm:some y∈nx x:=by
   rw[<-ho];exact bg (by omega) (by omega)
  have hy:y∈nbS (bfS nx first i) (nx x):=n9.2 (.inr hm)
  refine ⟨?_,fun z hz=>?_⟩
  ·show ((nbS (bfS nx first i) (nx x)).idxOf y:Int)=_
   exact (AE hp hy).symm
  ·obtain rfl:=ae hz
   exact hp.subset hy
end
def y6 (a:AutT) (s:Int) (w:List Nat):Int:=w.foldl (mvn a) s
def acw (a:AutT) (w:List Nat):Bool:=acn a (y6 a a.1 w)
theorem uJ (a:AutT): ∀(w:List Nat) (s:Int),s<0->y6 a s w<0
 | [],s,h=>h
 | k::w,s,h=>by
  show y6 a (mvn a s k) w<0
  exact uJ a w _ (by unfold mvn;rw[if_pos h];omega)
theorem nl (a:AutT) (s:Int) (v w:List Nat):y6 a s (v++w)=y6 a (y6 a s v) w:=by unfold y6;rw[List.foldl_append]
section
variable {κ:Type} [DecidableEq κ] {nx:κ->List (Option κ)} {first:κ} {N:Nat}
structure NumA (r:AutT) (nx:κ->List (Option κ)) (first:κ) (ac:κ->Bool) (N:Nat):Prop where
 E:bfE nx first N
 st:r.1=0
 accs:r.2.1=(bfS nx first N).map ac
 rows:r.2.2=bfR nx first N
 len: ∀x∈bfS nx first N,(nx x).length=9
theorem NumA.run {r:AutT} {ac:κ->Bool} (H:NumA r nx first ac N): ∀(w:List Nat) (x:κ),(∀k∈w,k<9)->x∈bfS nx first N->(Jp nx (some x) w=none/\D.y6 r ((bfS nx first N).idxOf x:Int) w<0)\/ ∃y∈bfS nx first N,Jp nx (some x) w=some y/\D.y6 r ((bfS nx first N).idxOf x:Int) w=((bfS nx first N).idxOf y:Int)
 | [],x,_,hx=>.inr ⟨x,hx,rfl,rfl⟩
 | k::w,x,hw,hx=>by
  obtain ⟨h1,h2⟩:=TQ H.E hx (k:=k) (by rw[H.len x hx];exact hw k (by simp))
  have e:D.y6 r ((bfS nx first N).idxOf x:Int) (k::w)=D.y6 r (mvn r ((bfS nx first N).idxOf x:Int) k) w:=rfl
  have em:mvn r ((bfS nx first N).idxOf x:Int) k=nth (nth (bfR nx first N) ((bfS nx first N).idxOf x:Int)) (k:Int):=by
   unfold mvn mv;rw[if_neg (by omega),H.rows]
  have ek:Jp nx (some x) (k::w)=Jp nx (nth (nx x) (k:Int)) w:=rfl
  rw[e,em,h1,ek]
  cases ho:nth (nx x) (k:Int) with
  | none=>exact .inl ⟨uI nx w,uJ r w _ (by show (-1:Int)<0;omega)⟩
  | some y=>exact NumA.run H w y (fun j hj=>hw j (bu _ hj)) (h2 y ho)
end
section
variable {κ:Type} [DecidableEq κ] {nx:κ->List (Option κ)} {N:Nat} {a:AutT} {good inR:Int->Prop} {f:Int->κ} {ac:κ->Bool}
end
theorem y7 {a b:AutT} : ∀(w:List Nat) (s t:Int),(∀k∈w,k<9)->Jp (nxP a b) (some (s,t)) w=some (y6 a s w,y6 b t w)
 | [],s,t,_=>rfl
 | k::w,s,t,hw=>by
  show Jp (nxP a b) (nth (nxP a b (s,t)) (k:Int)) w=_
  rw[Mx (hw k (by simp))]
  exact y7 w _ _ fun j hj=>hw j (bu _ hj)
end D
end Go.Proofs.YtbhafdfiplkacaaGreat
