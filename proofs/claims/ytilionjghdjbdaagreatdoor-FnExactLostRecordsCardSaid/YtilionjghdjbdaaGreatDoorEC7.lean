/- FnExactLostRecords: for every input the law returns true and changes nothing that was there. Part 8 of 8. -/
import Derived.Test.YtilionjghdjbdaaGreatDoorEC6
import Derived.Test.YtilionjghdjbdaaGreatDoorEC0
set_option linter.unusedVariables false
set_option linter.unusedSimpArgs false
set_option linter.unnecessarySimpa false
set_option linter.unusedSectionVars false
set_option maxRecDepth 1000000
namespace Go.Proofs.YtilionjghdjbdaaGreatDoor
namespace D
open Go.RowKit
def nothing:AutT:=(0,[false],[[-1,-1,-1,-1,-1,-1,-1,-1,-1]])
theorem Lc:mz=some nothing:=by kernel_rfl
theorem Ld:re=some nothing:=by kernel_rfl
theorem Le {n:Nat} (h:n<=1000000):iOk (n:Int)=true:=by
 have h1:IntKind.i64.min= -9223372036854775808:=by decide
 have h2:IntKind.i64.max=9223372036854775807:=by decide
 simp only[iOk,Lit.wf,h1,h2,ai,decide_eq_true_eq]
 omega
theorem take_one {α:Type} [Inhabited α] {xs:List α} {k:Nat} (h:k<xs.length):xs.take (k+1)=xs.take k++ [nth xs (k:Int)]:=by
 rw[List.take_succ_eq_append_getElem h,b8 h]
theorem iC {α:Type} [Inhabited α] {xs ys:List α} (h:xs <+:ys) {i:Int} (h0:0<=i) (h1:i<xs.length):nth ys i=nth xs i:=by
 obtain ⟨t,rfl⟩:=h
 exact gh h0 h1
structure NumOk {κ:Type} [DecidableEq κ] (nx:κ->List (Option κ)) (first:κ) (G:κ->Prop) (B:Nat):Prop where
 g0:G first
 gn: ∀x,G x-> ∀y,some y∈nx x->G y
 len: ∀x,G x->(nx x).length=9
 bound: ∀l:List κ,l.Nodup->(∀x∈l,G x)->l.length<=B
section
variable {κ:Type} [DecidableEq κ] [Inhabited κ] {nx:κ->List (Option κ)} {first:κ} {G:κ->Prop} {B:Nat}
theorem NumOk.le (H:NumOk nx first G B) (i:Nat):(bfS nx first i).length<=B:=H.bound _ (lJ i) (jk H.g0 H.gn i)
theorem NumOk.at (H:NumOk nx first G B) {i:Nat} (h:i<(bfS nx first i).length):G (nth (bfS nx first i) (i:Int)):=jk H.g0 H.gn i _ (jj (by omega) (by omega))
theorem jm {i:Nat} (h:i<(bfS nx first i).length):bfS nx first (i+1)=nbS (bfS nx first i) (nx (nth (bfS nx first i) (i:Int))):=by rw[A5 h,b8 h]
theorem sQ {i:Nat} (h:i<(bfS nx first i).length):bfR nx first (i+1)=bfR nx first i++ [nbR (bfS nx first i) (nx (nth (bfS nx first i) (i:Int)))]:=by rw[sJ h,b8 h]
theorem vO {β:Type} {acc:κ->β} {i:Nat} (h:i<(bfS nx first i).length):((bfS nx first (i+1)).take (i+1)).map acc=((bfS nx first i).take i).map acc++ [acc (nth (bfS nx first i) (i:Int))]:=by
 have hp:=bI (nx:=nx) (first:=first) i
 have hl:=hp.length_le
 have e:(bfS nx first (i+1)).take i=(bfS nx first i).take i:=by
  obtain ⟨t,ht⟩:=hp
  rw[<-ht,List.take_append_of_le_length (by omega)]
 rw[take_one (by omega),aM,e,iC hp (by omega) (by omega)];rfl
def MapOf (M:List (κ×Int)) (l:List κ):Prop:=M.length=l.length/\ ∀x,M.lookup x=if x∈l then some (l.idxOf x:Int) else none
theorem MapOf.one (x:κ):MapOf [(x,0)] [x]:=by
 refine ⟨rfl,fun y=>?_⟩
 rw[List.lookup_cons]
 by_cases e:y=x
 ·subst e;simp
 ·simp only[show (y==x)=false from by simp[e]];simp[e]
theorem MapOf.put {M:List (κ×Int)} {l:List κ} (h:MapOf M l) {x:κ} (hx:x∉l):MapOf ((x,(l.length:Int))::M) (l++ [x]):=by
 refine ⟨by simp[h.1],fun y=>?_⟩
 rw[List.lookup_cons]
 by_cases e:y=x
 ·subst e
  simp[List.idxOf_append,hx]
 ·simp only[show (y==x)=false from by simp[e],h.2 y,List.mem_append,List.mem_singleton,e,or_false]
  by_cases k:y∈l
  ·simp[k,List.idxOf_append]
  ·simp[k]
end
section
variable {nx:Int->List (Option Int)} {first:Int} {G:Int->Prop} {B:Nat}
theorem Df {p3:Int->Int->Option (Int×Bool)} {l:List Int} {M:List (Int×Int)} {os:List (Option Int)} {acs:List Bool} {rws:List (List Int)} {i:Nat}
  (hi:i<l.length) (hos:os.length=9) (hM:MapOf M l) (hok: ∀y,some y∈os->iOk y=true) (hB: ∀k,(nbS l (os.take k)).length<=1000000)
  (hp: ∀(k:Nat) (hk:k<9),∃j,p3 (nth l (i:Int)) (k:Int)=some (match nth os (k:Int) with | some y=>(y,true) | none=>(j,false))) :
  ∃M',aB (dw p3 (l,M,(i:Int),0,acs,rws)) bg (l,M,[],0)=some (.brk (nbS l os,M',nbR l os,9))/\MapOf M' (nbS l os):=by
 obtain ⟨s',e,M',rfl,hM'⟩:=lI (f:=dw p3 (l,M,(i:Int),0,acs,rws)) (fun k s=> ∃M',s=(nbS l (os.take k),M',nbR l (os.take k),(k:Int))/\MapOf M' (nbS l (os.take k))) 9 (by
  rintro k s hk ⟨M1,rfl,hM1⟩
  have hpre:=jH l (os.take k)
  have hlen:=hpre.length_le
  have hBk:=hB k
  obtain ⟨j,hj⟩:=hp k hk
  have hrl:(nbR l (os.take k)).length<=9:=by rw[dK,aC];omega
  unfold dw
  simp only
  rw[if_pos (by simp;omega),aK (by omega) (by omega)];simp only[aa]
  rw[iC hpre (by omega) (by omega),hj,take_one (by omega),sI,ql]
  simp only[aa,aj (show k<9223372036854775807 by omega)]
  cases ho:nth os (k:Int) with
  | none =>
   simp only[Bool.false_eq_true,if_false]
   rw[aQ (by simp;omega)]
   exact ⟨_,rfl,M1,rfl,hM1⟩
  | some y =>
   have hy:iOk y=true:=hok y (ho ▸ jj (by omega) (by omega))
   simp only[if_true]
   rw[show chk (iOk y=true)=some () from by unfold chk;rw[if_pos hy]];simp only[aa]
   rw[show lkM M1 y=_ from hM1.2 y]
   by_cases c:y∈nbS l (os.take k)
   ·simp only[c,if_true,Option.isSome_some,Option.getD_some,aa]
    rw[aQ (by simp;omega)]
    exact ⟨_,rfl,M1,by rw[kC c];rfl,by rw[kC c];exact hM1⟩
   ·have hput:Ij M1 iOk iOk y ((nbS l (os.take k)).length:Int)=some ((y,((nbS l (os.take k)).length:Int))::M1):=by
     unfold Ij
     rw[if_pos ⟨by have:=hM1.1;omega,hy,Le hBk⟩]
    simp only[c,if_false,Option.isSome_none,Bool.false_eq_true,hput,aa]
    rw[aQ (by simp;omega)];simp only[aa]
    rw[aQ (by simp;omega)]
    refine ⟨_,rfl,(y,((nbS l (os.take k)).length:Int))::M1,?_,?_⟩
    ·rw[jI c];simp only[nbI,np c]
    ·rw[jI c];exact hM1.put c) (by
  rintro s ⟨M1,rfl,hM1⟩
  unfold dw
  simp) (s:=(l,M,[],0)) ⟨M,rfl,hM⟩ (by unfold bg;omega)
 rw[List.take_of_length_le (by omega)] at e hM'
 exact ⟨M',e,hM'⟩
theorem Tb {most:Int} {p2:Int->Option Bool} {p3:Int->Int->Option (Int×Bool)} {acc:Int->Bool} (H:NumOk nx first G B) (hB:B<=1000000) (hmost:(B:Int)<=most) (hok: ∀x,G x->iOk x=true)
  (h2: ∀x,G x->p2 x=some (acc x)) (h3: ∀x (k:Nat),G x->k<9-> ∃j,p3 x (k:Int)=some (match nth (nx x) (k:Int) with | some y=>(y,true) | none=>(j,false))) :
  ∃N,bfE nx first N/\dJ first most p2 p3=some ((0,(bfS nx first N).map acc,bfR nx first N),true):=by
 obtain ⟨N,hNB,hN⟩:=O4 (nx:=nx) (first:=first) (H.le)
 refine ⟨N,hN,?_⟩
 unfold dJ
 rw[show Ij ([] :List (Int×Int)) iOk iOk first 0=some [(first,0)] from by unfold Ij;rw[if_pos ⟨by simp,hok _ H.g0,by decide⟩]];simp only[aa]
 obtain ⟨s',e,M',rfl,hM'⟩:=lI (f:=bR most p2 p3) (fun i s=> ∃M,s=(bfS nx first i,M,(i:Int),0,((bfS nx first i).take i).map acc,bfR nx first i)/\MapOf M (bfS nx first i)) N (by
  rintro i s hi ⟨M,rfl,hM⟩
  have hlt:=hN.2 i hi
  have hG:=H.at hlt
  have hle:=H.le i
  have hle':=H.le (i+1)
  obtain ⟨M',e,hM'⟩:=Df (p3:=p3) (l:=bfS nx first i) (M:=M) (os:=nx (nth (bfS nx first i) (i:Int))) (acs:=((bfS nx first i).take i).map acc) (rws:=bfR nx first i) hlt (H.len _ hG) hM (fun y hy=>hok y (H.gn _ hG y hy))
   (fun k=>by
    have:(nbS (bfS nx first i) ((nx (nth (bfS nx first i) (i:Int))).take k)).length<=B:=H.bound _ (pM (lJ i)) fun x hx=>by
     rcases tV.1 hx with hx | hx
     ·exact jk H.g0 H.gn i x hx
     ·exact H.gn _ hG x (List.mem_of_mem_take hx)
    omega) (fun k hk=>h3 _ k hG hk)
  unfold bR
  simp only
  rw[if_pos (by simp;omega),aD e,<-jm hlt]
  rw[<-jm hlt] at hM'
  have hl2:=(bI (nx:=nx) (first:=first) i).length_le
  simp only
  rw[if_neg (by simp;omega),aK (by omega) (by omega)];simp only[aa]
  rw[iC (bI i) (by omega) (by omega),h2 _ hG];simp only[aa]
  have hr:(bfR nx first i).length=i:=iA fun j hj=>hN.2 j (by omega)
  rw[aQ (by simp;omega)];simp only[aa]
  rw[aQ (by simp;omega)];simp only[aa,aj (show i<9223372036854775807 by omega)]
  exact ⟨_,rfl,M',by rw[vO hlt,sQ hlt],hM'⟩) (by
  rintro s ⟨M,rfl,hM⟩
  unfold bR
  simp only
  rw[if_neg (by have:=hN.1;simp;omega)]) (s:=([first],[(first,0)],0,0,[],[])) ⟨_,rfl,MapOf.one first⟩ (rH (by omega))
 rw[aD e]
 simp only
 rw[List.take_of_length_le (by have:=hN.1;omega)]
end
theorem Pp {l:List Int} {x:Int} (h:l.length<=9223372036854775807):ln l x=some (if x∈l then (l.idxOf x:Int) else -1):=by
 unfold ln
 obtain ⟨o,e,hq⟩:=cO (f:=my l x) (fun i s=>s=(i:Int)/\x∉l.take i) (fun o=>(x∈l/\o= .ret (l.idxOf x:Int))\/(x∉l/\ ∃s,o= .brk s)) l.length (s:=0) (by
  rintro i s hi ⟨rfl,hx⟩
  unfold my
  by_cases hl:i<l.length
  ·rw[if_pos (by simp;omega),aK (by omega) (by omega)];simp only[aa]
   by_cases c:nth l (i:Int)=x
   ·refine .inr ⟨_,by rw[if_pos (by simpa using c)],(fun s' e=>by cases e),.inl ?_⟩
    have e:l=l.take i++(x::l.drop (i+1)):=by
     rw[<-c,b8 hl,<-List.drop_eq_getElem_cons hl,List.take_append_drop]
    refine ⟨by rw[e];simp,?_⟩
    congr 1
    conv=>rhs;rw[e,List.idxOf_append,if_neg hx,List.idxOf_cons_self]
    simp[aC];first | done | omega
   ·refine .inl ⟨hl,_,by rw[if_neg (by simpa using c)],by rw[aj (by omega)],?_⟩
    rw[take_one hl,List.mem_append,List.mem_singleton]
    rintro (h | h)
    ·exact hx h
    ·exact c h.symm
  ·refine .inr ⟨_,by rw[if_neg (by simp;omega)],(fun s' e=>by cases e),.inr ⟨?_,_,rfl⟩⟩
   rwa [List.take_of_length_le (by omega)] at hx) ⟨rfl,by simp⟩ (rH h)
 rcases hq with ⟨hx,rfl⟩ | ⟨hx,s,rfl⟩
 ·rw[cv e,if_pos hx]
 ·rw[aD e,if_neg hx]
section
variable {a:AutT} {n:Nat} {c:List Int} {lv:List Bool} {nx:Int->List (Option Int)} {G:Int->Prop} {B:Nat} {acc:Int->Bool}
def good (n:Nat) (lv:List Bool) (r:Int):Prop:=0<=r/\r<n/\nth lv r=true
def ub (a:AutT) (c:List Int) (lv:List Bool) (r:Int):List (Option Int):=(List.range 9).map fun k=>if mv a r k≥0/\nth lv (mv a r k)=true then some (nth c (mv a r k)) else none
theorem Gp {r:Int} {k:Nat} (hk:k<9):nth (ub a c lv r) (k:Int)=if mv a r k≥0/\nth lv (mv a r k)=true then some (nth c (mv a r k)) else none:=by
 have:k<(ub a c lv r).length:=by simp[ub];omega
 rw[b8 this];simp[ub]
def RepsOf (n:Nat) (lv:List Bool) (c:List Int) (rs l:List Int):Prop:=rs.length=l.length/\ ∀j:Nat,j<l.length->good n lv (nth rs j)/\nth c (nth rs j)=nth l (j:Int)
theorem RepsOf.snoc {rs l:List Int} (h:RepsOf n lv c rs l) {t:Int} (ht:good n lv t):RepsOf n lv c (rs++ [t]) (l++ [nth c t]):=by
 refine ⟨by simp[h.1],fun j hj=>?_⟩
 by_cases e:j<l.length
 ·rw[gh (by omega) (by have:=h.1;omega),gh (by omega) (by omega)];exact h.2 j e
 ·have e:j=l.length:=by simp at hj;omega
  subst e
  have h1:nth (rs++ [t]) (l.length:Int)=t:=by rw[b8 (by simp[h.1])];simp[<-h.1]
  have h2:nth (l++ [nth c t]) (l.length:Int)=nth c t:=by rw[b8 (by simp)];simp
  rw[h1,h2];exact ⟨ht,rfl⟩
theorem Lf (V:VA a n) (hn:n<=1000000) (hc:c.length=n) (hlv:lv.length=n) {l rs:List Int} {acs:List Bool} {rws:List (List Int)} {i:Nat} (hi:i<l.length) (hR:RepsOf n lv c rs l) {os:List (Option Int)} (hos:os.length=9)
  (ho: ∀r,good n lv r->nth c r=nth l (i:Int)->ub a c lv r=os) (hB: ∀k,(nbS l (os.take k)).length<=1000000) :
  ∃rs',aB (fx a c lv (l,rs,(i:Int),0,acs,rws)) bg (l,rs,[],0)=some (.brk (nbS l os,rs',nbR l os,9))/\RepsOf n lv c rs' (nbS l os):=by
 obtain ⟨s',e,rs',rfl,hR'⟩:=lI (f:=fx a c lv (l,rs,(i:Int),0,acs,rws)) (fun k s=> ∃rs',s=(nbS l (os.take k),rs',nbR l (os.take k),(k:Int))/\RepsOf n lv c rs' (nbS l (os.take k))) 9 (by
  rintro k s hk ⟨r1,rfl,hR1⟩
  have hpre:=jH l (os.take k)
  have hlen:=hpre.length_le
  have hBk:=hB k
  have hrl:(nbR l (os.take k)).length<=9:=by rw[dK,aC];omega
  have hr1:=hR1.1
  obtain ⟨⟨g0,g1,g2⟩,gc⟩:=hR1.2 i (by omega)
  rw[iC hpre (by omega) (by omega)] at gc
  have hsu:=ho _ ⟨g0,g1,g2⟩ gc
  have hok:nth os (k:Int)=if mv a (nth r1 (i:Int)) k≥0/\nth lv (mv a (nth r1 (i:Int)) k)=true then some (nth c (mv a (nth r1 (i:Int)) k)) else none:=by
   rw[<-hsu];exact Gp hk
  have hmv:=V.mv (s:=nth r1 (i:Int)) (k:=k) g0 g1 hk
  unfold fx
  simp only
  rw[if_pos (by simp;omega),aK (xs:=r1) (by omega) (by omega)];simp only[aa]
  rw[V.get g0 g1];simp only[aa]
  rw[V.get2 g0 g1 hk,take_one (by omega),sI,ql]
  simp only[aa,aj (show k<9223372036854775807 by omega)]
  by_cases c1:mv a (nth r1 (i:Int)) k≥0
  ·rw[if_pos (by simpa using c1),aK (xs:=lv) c1 (by omega)];simp only[aa]
   by_cases c2:nth lv (mv a (nth r1 (i:Int)) k)=true
   ·rw[if_pos ⟨c1,c2⟩] at hok
    rw[if_pos c2,aK (xs:=c) c1 (by omega),hok];simp only[aa]
    rw[Pp (by omega)];simp only[aa]
    by_cases c3:nth c (mv a (nth r1 (i:Int)) k)∈nbS l (os.take k)
    ·rw[if_pos c3,if_neg (by simp)];simp only[aa]
     rw[aQ (by simp;omega)]
     exact ⟨_,rfl,r1,by rw[kC c3];rfl,by rw[kC c3];exact hR1⟩
    ·rw[if_neg c3,if_pos (by decide)]
     rw[aQ (by simp;omega)];simp only[aa]
     rw[aQ (by simp;omega)];simp only[aa]
     rw[aQ (by simp;omega)];simp only[aa]
     refine ⟨_,rfl,r1++ [mv a (nth r1 (i:Int)) k],?_,?_⟩
     ·rw[jI c3];simp only[nbI,np c3]
     ·rw[jI c3];exact hR1.snoc ⟨c1,hmv.2,c2⟩
   ·rw[if_neg (fun h=>c2 h.2)] at hok
    rw[if_neg c2,hok];simp only[aa]
    rw[aQ (by simp;omega)]
    exact ⟨_,rfl,r1,rfl,hR1⟩
  ·rw[if_neg (fun h=>c1 h.1)] at hok
   rw[if_neg (by simpa using c1),hok];simp only[aa]
   rw[aQ (by simp;omega)]
   exact ⟨_,rfl,r1,rfl,hR1⟩) (by
  rintro s ⟨r1,rfl,hR1⟩
  unfold fx
  simp) (s:=(l,rs,[],0)) ⟨rs,rfl,hR⟩ (by unfold bg;omega)
 rw[List.take_of_length_le (by omega)] at e hR'
 exact ⟨rs',e,hR'⟩
theorem Tc (V:VA a n) (hn:n<=1000000) (hc:c.length=n) (hlv:lv.length=n) (hs:nth lv a.1=true) (H:NumOk nx (nth c a.1) G B) (hB:B<=1000000)
  (hnx: ∀r,good n lv r->nx (nth c r)=ub a c lv r) (hacc: ∀r,good n lv r->acc (nth c r)=nth a.2.1 r) :
  ∃N,bfE nx (nth c a.1) N/\gp a c lv=some (0,(bfS nx (nth c a.1) N).map acc,bfR nx (nth c a.1) N):=by
 obtain ⟨N,hNB,hN⟩:=O4 (nx:=nx) (first:=nth c a.1) (H.le)
 refine ⟨N,hN,?_⟩
 have hst:=V.start
 have hlen:=V.len
 unfold gp
 rw[aK hst.1 (by omega)];simp only[aa]
 rw[if_pos hs,aK hst.1 (by omega)];simp only[aa]
 obtain ⟨s',e,rs,rfl,hR⟩:=lI (f:=gO a c lv) (fun i s=> ∃rs,s=(bfS nx (nth c a.1) i,rs,(i:Int),0,((bfS nx (nth c a.1) i).take i).map acc,bfR nx (nth c a.1) i)/\RepsOf n lv c rs (bfS nx (nth c a.1) i)) N (by
  rintro i s hi ⟨rs,rfl,hR⟩
  have hlt:=hN.2 i hi
  have hG:=H.at hlt
  have hle:=H.le i
  have hle':=H.le (i+1)
  obtain ⟨rs',e,hR'⟩:=Lf (acs:=((bfS nx (nth c a.1) i).take i).map acc) (rws:=bfR nx (nth c a.1) i) V hn hc hlv hlt hR (os:=nx (nth (bfS nx (nth c a.1) i) (i:Int))) (H.len _ hG) (fun r hr e=>by rw[<-hnx r hr,e]) (fun k=>by
    have:(nbS (bfS nx (nth c a.1) i) ((nx (nth (bfS nx (nth c a.1) i) (i:Int))).take k)).length<=B:=H.bound _ (pM (lJ i)) fun x hx=>by
     rcases tV.1 hx with hx | hx
     ·exact jk H.g0 H.gn i x hx
     ·exact H.gn _ hG x (List.mem_of_mem_take hx)
    omega)
  unfold gO
  simp only
  rw[if_pos (by simp;omega),aD e]
  rw[<-jm hlt] at hR'
  have hl2:=(bI (nx:=nx) (first:=nth c a.1) i).length_le
  have hr1:=hR'.1
  obtain ⟨⟨g0,g1,g2⟩,gc⟩:=hR'.2 i (by omega)
  rw[iC (bI i) (by omega) (by omega)] at gc
  rw[aK (xs:=rs') (by omega) (by omega)];simp only[aa]
  rw[V.acc g0 g1,<-hacc _ ⟨g0,g1,g2⟩,gc];simp only[aa]
  have hr:(bfR nx (nth c a.1) i).length=i:=iA fun j hj=>hN.2 j (by omega)
  rw[aQ (by simp;omega)];simp only[aa]
  rw[aQ (by simp;omega)];simp only[aa,aj (show i<9223372036854775807 by omega)]
  exact ⟨_,rfl,rs',by rw[<-jm hlt,vO hlt,sQ hlt],hR'⟩) (by
  rintro s ⟨rs,rfl,hR⟩
  unfold gO
  simp only
  rw[if_neg (by have:=hN.1;simp;omega)]) (s:=([nth c a.1],[a.1],0,0,[],[])) ⟨[a.1],rfl,rfl,fun j hj=>by
   obtain rfl:j=0:=by simpa [bfS] using hj
   exact ⟨⟨hst.1,hst.2,hs⟩,rfl⟩⟩ (rH (by omega))
 rw[aD e]
 simp only
 rw[List.take_of_length_le (by have:=hN.1;omega)]
theorem EM (V:VA a n) (hlv:lv.length=n) (hs:nth lv a.1=false):gp a c lv=some nothing:=by
 have hst:=V.start
 unfold gp
 rw[aK hst.1 (by omega)];simp only[aa]
 rw[hs,Lc];rfl
end
end D
namespace D
open Go.RowKit
abbrev Dn:=(List Int)×Int×Int×(List Int)×Bool
abbrev N4 (x:Int) (j:Nat):Bool:=(vS (qw x (j:Int)) 1)==1
def N5 (F:List Int) (set m0:Int):Nat->Int
 | 0=>m0
 | i+1=>if N4 set (i+1) then orI (N5 F set m0 i) (nth F (i:Int)) else N5 F set m0 i
def pick (L:List Int) (m letter:Int):Nat->Int
 | 0=>0
 | i+1=>if nth L (i:Int)=letter/\N4 m i=true then orI (pick L m letter i) (EX 1 ((i+1:Nat):Int)) else pick L m letter i
def aft (p:Dn) (set letter:Int):Int:=pick p.1 (N5 p.2.2.2.1 set (if (vS set 1)==1 then p.2.1 else 0) p.2.2.2.1.length) letter p.1.length
def sR (p:Dn) (set:Int):Bool:=if (vS set 1)==1 then (if p.2.2.2.2 then true else (vS (qw set 1) p.2.2.1) !=0) else (vS (qw set 1) p.2.2.1) !=0
theorem pR (i:Nat):chk (0<=(i:Int))=some ():=by unfold chk;rw[if_pos (by omega)]
theorem Rw {p:Dn} {set letter:Int} (hl:p.2.2.2.1.length=p.1.length) (hb:p.1.length<=1000000):lX p set letter=some (aft p set letter):=by
 have h0: ∀m0,aB (fR p set) bg (m0,0)=some (.brk (N5 p.2.2.2.1 set m0 p.1.length,(p.1.length:Int))):=fun m0 =>
  bK (f:=fR p set) (fun i=>(N5 p.2.2.2.1 set m0 i,(i:Int))) p.1.length (fun i hi=>by
   unfold fR
   simp only
   rw[if_pos (by simp;omega),aj (by omega),pR];simp only[aa]
   rw[N5]
   by_cases c:N4 set (i+1)=true
   ·rw[if_pos c,if_pos c,aK (by omega) (by omega)];rfl
   ·rw[if_neg c,if_neg c];rfl) (by unfold fR;simp) (rH (by omega))
 have h1: ∀s7:Int×Int,aB (fS p letter s7) bg (0,0)=some (.brk (pick p.1 s7.1 letter p.1.length,(p.1.length:Int))):=fun s7 =>
  bK (f:=fS p letter s7) (fun i=>(pick p.1 s7.1 letter i,(i:Int))) p.1.length (fun i hi=>by
   unfold fS
   simp only
   rw[if_pos (by simp;omega),aj (by omega),pR,pR];simp only[aa]
   rw[pick]
   by_cases c:N4 s7.1 i=true
   ·rw[if_pos c,aK (by omega) (by omega)];simp only[aa]
    by_cases d:nth p.1 (i:Int)=letter
    ·rw[if_pos (by simpa using d),if_pos ⟨d,c⟩];rfl
    ·rw[if_neg (by simpa using d),if_neg (fun h=>d h.1)];rfl
   ·rw[if_neg c,if_neg (fun h=>c h.2)];rfl) (by unfold fS;simp) (rH (by omega))
 unfold lX aft
 rw[hl]
 by_cases c:((vS set 1)==1)=true
 ·rw[if_pos c,if_pos c];simp only[aa]
  rw[aD (h0 _),aD (h1 _)]
 ·rw[if_neg c,if_neg c];simp only[aa]
  rw[aD (h0 _),aD (h1 _)]
theorem Rx {p:Dn} {set letter:Int} (hl:p.2.2.2.1.length=p.1.length) (hb:p.1.length<=1000000):fg p set letter=some (aft p set letter):=by
 have h0: ∀m0,aB (cH p set) bg (m0,0)=some (.brk (N5 p.2.2.2.1 set m0 p.2.2.2.1.length,(p.2.2.2.1.length:Int))):=fun m0 =>
  bK (f:=cH p set) (fun i=>(N5 p.2.2.2.1 set m0 i,(i:Int))) p.2.2.2.1.length (fun i hi=>by
   unfold cH
   simp only
   rw[if_pos (by simp;omega),aK (by omega) (by omega)];simp only[aa]
   rw[aj (by omega),pR];simp only[aa]
   rw[N5]
   by_cases c:N4 set (i+1)=true
   ·rw[if_pos c,if_pos c];rfl
   ·rw[if_neg c,if_neg c];rfl) (by unfold cH;simp) (rH (by omega))
 have h1: ∀s7:Int×Int,aB (cJ p letter s7) bg (0,0)=some (.brk (pick p.1 s7.1 letter p.1.length,(p.1.length:Int))):=fun s7 =>
  bK (f:=cJ p letter s7) (fun i=>(pick p.1 s7.1 letter i,(i:Int))) p.1.length (fun i hi=>by
   unfold cJ
   simp only
   rw[if_pos (by simp;omega),aK (by omega) (by omega)];simp only[aa]
   rw[aj (by omega),pR,pR];simp only[aa]
   rw[pick]
   by_cases d:nth p.1 (i:Int)=letter
   ·rw[if_pos (by simpa using d)]
    by_cases c:N4 s7.1 i=true
    ·rw[if_pos c,if_pos ⟨d,c⟩];rfl
    ·rw[if_neg c,if_neg (fun h=>c h.2)];rfl
   ·rw[if_neg (by simpa using d),if_neg (fun h=>d h.1)];rfl) (by unfold cJ;simp) (rH (by omega))
 unfold fg aft
 by_cases c:((vS set 1)==1)=true
 ·rw[if_pos c,if_pos c];simp only[aa]
  rw[aD (h0 _),aD (h1 _)]
 ·rw[if_neg c,if_neg c];simp only[aa]
  rw[aD (h0 _),aD (h1 _)]
theorem Td (p:Dn) (x:Int):jP p x=some (sR p x):=by
 unfold jP sR
 split <;> (try split) <;> rfl
theorem Te (p:Dn) (x:Int):cU p x=some (sR p x):=by
 unfold cU sR
 split <;> (try split) <;> rfl
theorem HL (x:Int): -9223372036854775808<=IntKind.i64.wrap x/\IntKind.i64.wrap x<=9223372036854775807:=by
 simp only[IntKind.wrap,IntKind.bits,IntKind.signed,Bool.true_and]
 split <;> rename_i h <;> simp at h <;> omega
theorem Ry (x:Int):iOk (IntKind.i64.wrap x)=true:=by
 have h1:IntKind.i64.min= -9223372036854775808:=by decide
 have h2:IntKind.i64.max=9223372036854775807:=by decide
 have h3:=HL x
 simp only[iOk,Lit.wf,h1,h2,ai,decide_eq_true_eq]
 omega
theorem Tf (m n:Int):iOk (orI m n)=true:=Ry _
theorem Lg (L:List Int) (m letter:Int): ∀i,iOk (pick L m letter i)=true
 | 0=>by unfold pick;decide
 | i+1=>by
  rw[pick]
  split
  ·exact Tf _ _
  ·exact Lg L m letter i
def nxS (p:Dn) (x:Int):List (Option Int):=(List.range 9).map fun k:Nat=>if aft p x (k:Int)=0 then none else some (aft p x (k:Int))
theorem Pq {p:Dn} {x:Int} {k:Nat} (hk:k<9):nth (nxS p x) (k:Int)=if aft p x k=0 then none else some (aft p x k):=by
 have:k<(nxS p x).length:=by simp[nxS];omega
 rw[b8 this];simp[nxS]
theorem Bm (p:Dn) (x:Int):(nxS p x).length=9:=by simp[nxS]
theorem Tg {p:Dn} {x y:Int} (h:some y∈nxS p x):iOk y=true:=by
 obtain ⟨k,hk,e⟩:=List.mem_map.1 h
 split at e
 ·cases e
 ·obtain rfl:=ae e
  exact Lg _ _ _ _
theorem Lh {κ:Type} [DecidableEq κ] : ∀(l:List κ) (os:List (Option κ)),(nbS l os).length<=l.length+os.length
 | l,[] =>by simp[nbS]
 | l,o::os=>by
  have h:=Lh (nbL l o) os
  have h2:(nbL l o).length<=l.length+1:=by
   cases o with
   | none=>simp[nbL]
   | some x=>unfold nbL;simp only;split <;> simp
  show (nbS (nbL l o) os).length<=_
  simp only[ak];omega
section
variable {κ:Type} [DecidableEq κ] (nx:κ->List (Option κ)) (first:κ) (acc:κ->Bool) (most:Nat)
def goM:Nat->Nat->AutT×Bool
 | 0,i=>((0,[],[]),false)
 | f+1,i=>if i<(bfS nx first i).length then (if (bfS nx first (i+1)).length>most then ((0,[],[]),false) else goM f (i+1)) else ((0,((bfS nx first i).take i).map acc,bfR nx first i),true)
end
section
variable {κ:Type} [DecidableEq κ] {nx:κ->List (Option κ)} {first:κ} {acc:κ->Bool} {most:Nat}
theorem Bn {i:Nat} (h: ∀j,j<i->j<(bfS nx first j).length):i<=(bfS nx first i).length:=by
 cases i with
 | zero=>omega
 | succ i =>
  have h1:=h i (by omega)
  have h2:=(bI (nx:=nx) (first:=first) i).length_le
  omega
theorem Gq {S:Type} {f:S->Option (Out (AutT×Bool) S)} (hm:most<=1000000) (h1:1<=most) (st:Nat->S->Prop)
  (hs: ∀i s,st i s->(∀j,j<i->j<(bfS nx first j).length)->(bfS nx first i).length<=most->i<(bfS nx first i).length->((bfS nx first (i+1)).length>most->f s=some (.ret ((0,[],[]),false)))/\((bfS nx first (i+1)).length<=most-> ∃s',f s=some (.nxt s')/\st (i+1) s'))
  (he: ∀i s,st i s-> ¬i<(bfS nx first i).length->f s=some (.brk s)) {s:S} (h0:st 0 s) :
  (aB f bg s=some (.ret ((0,[],[]),false))/\goM nx first acc most (most+2) 0=((0,[],[]),false)) \/
  ∃N s',aB f bg s=some (.brk s')/\st N s'/\bfE nx first N/\N<=most/\goM nx first acc most (most+2) 0=((0,(bfS nx first N).map acc,bfR nx first N),true):=by
 obtain ⟨o,e,hq⟩:=cO (f:=f) (fun i s=>st i s/\(∀j,j<i->j<(bfS nx first j).length)/\(bfS nx first i).length<=most/\goM nx first acc most (most+2) 0=goM nx first acc most (most+2 - i) i)
  (fun o=>(o= .ret ((0,[],[]),false)/\goM nx first acc most (most+2) 0=((0,[],[]),false))\/ ∃N s',o= .brk s'/\st N s'/\bfE nx first N/\N<=most/\goM nx first acc most (most+2) 0=((0,(bfS nx first N).map acc,bfR nx first N),true)) most (s:=s) (by
  rintro i s hi ⟨k1,k2,k3,k4⟩
  have hle:=Bn k2
  rw[show most+2 - i=(most+1 - i)+1 from by omega] at k4
  have k5:goM nx first acc most (most+1 - i+1) i=if i<(bfS nx first i).length then (if (bfS nx first (i+1)).length>most then ((0,[],[]),false) else goM nx first acc most (most+1 - i) (i+1)) else ((0,((bfS nx first i).take i).map acc,bfR nx first i),true):=rfl
  rw[k5] at k4
  by_cases c:i<(bfS nx first i).length
  ·rw[if_pos c] at k4
   obtain ⟨q1,q2⟩:=hs i s k1 k2 k3 c
   by_cases d:(bfS nx first (i+1)).length>most
   ·rw[if_pos d] at k4
    exact .inr ⟨_,q1 d,(fun s' e=>by cases e),.inl ⟨rfl,k4⟩⟩
   ·rw[if_neg d] at k4
    obtain ⟨s',e,hs'⟩:=q2 (by omega)
    exact .inl ⟨by omega,s',e,hs',fun j hj=>(by
     by_cases ej:j=i
     ·subst ej;exact c
     ·exact k2 j (by omega)),by omega,by rw[k4];congr 1;omega⟩
  ·rw[if_neg c] at k4
   refine .inr ⟨_,he i s k1 c,(fun s' e=>by cases e),.inr ⟨i,s,rfl,k1,⟨by omega,k2⟩,hi,?_⟩⟩
   rw[k4,List.take_of_length_le (by omega)]) ⟨h0,fun j hj=>by omega,by simp[bfS];omega,rfl⟩ (rH (by omega))
 rcases hq with ⟨rfl,h⟩ | ⟨N,s',rfl,h⟩
 ·exact .inl ⟨e,h⟩
 ·exact .inr ⟨N,s',e,h⟩
end
section
variable {p:Dn} {most:Nat} (hl:p.2.2.2.1.length=p.1.length) (hb:p.1.length<=1000000) (hm:most<=900000) (h1:1<=most)
include hl hb hm h1
theorem Uy:fY p most=some (goM (nxS p) 1 (sR p) most (most+2) 0):=by
 have hp3: ∀(l:List Int) (i k:Nat),k<9-> ∃j,(fun a0 a1=>cM a0 a1 (p.1,p.2.1,p.2.2.1,p.2.2.2.1,p.2.2.2.2)) (nth l (i:Int)) (k:Int)=some (match nth (nxS p (nth l (i:Int))) (k:Int) with | some y=>(y,true) | none=>(j,false)):=by
  intro l i k hk
  refine ⟨0,?_⟩
  show cM _ _ p=_
  unfold cM
  simp only[eT]
  rw[Rx hl hb,Pq hk];simp only[aa]
  by_cases c:aft p (nth l (i:Int)) k=0
  ·rw[if_pos c];simp[c]
  ·rw[if_neg c];simp[c]
 unfold fY dJ
 rw[show Ij ([] :List (Int×Int)) iOk iOk 1 0=some [(1,0)] from by unfold Ij;rw[if_pos ⟨by simp,by decide,by decide⟩]];simp only[aa]
 rcases Gq (nx:=nxS p) (first:=1) (acc:=sR p) (most:=most) (f:=bR most (fun a0=>cU (p.1,p.2.1,p.2.2.1,p.2.2.2.1,p.2.2.2.2) a0) (fun a0 a1=>cM a0 a1 (p.1,p.2.1,p.2.2.1,p.2.2.2.1,p.2.2.2.2)))
  (by omega) h1 (fun i s=> ∃M,s=(bfS (nxS p) 1 i,M,(i:Int),0,((bfS (nxS p) 1 i).take i).map (sR p),bfR (nxS p) 1 i)/\MapOf M (bfS (nxS p) 1 i)) (by
   rintro i s ⟨M,rfl,hM⟩ hj hle hlt
   have hil:=Bn hj
   obtain ⟨M',e,hM'⟩:=Df (p3:=fun a0 a1=>cM a0 a1 (p.1,p.2.1,p.2.2.1,p.2.2.2.1,p.2.2.2.2)) (l:=bfS (nxS p) 1 i) (M:=M) (os:=nxS p (nth (bfS (nxS p) 1 i) (i:Int))) (acs:=((bfS (nxS p) 1 i).take i).map (sR p)) (rws:=bfR (nxS p) 1 i) hlt (Bm _ _) hM (fun y hy=>Tg hy)
    (fun k=>by
     have:=Lh (bfS (nxS p) 1 i) ((nxS p (nth (bfS (nxS p) 1 i) (i:Int))).take k)
     have h9:=Bm p (nth (bfS (nxS p) 1 i) (i:Int))
     rw[aC] at this
     omega) (fun k hk=>hp3 _ i k hk)
   rw[<-jm hlt] at hM'
   have hl2:=(bI (nx:=nxS p) (first:=1) i).length_le
   constructor
   ·intro hgt
    unfold bR
    simp only
    rw[if_pos (by simp;omega),aD e,<-jm hlt]
    simp only
    rw[if_pos (by simp;omega)]
   ·intro hle2
    unfold bR
    simp only
    rw[if_pos (by simp;omega),aD e,<-jm hlt]
    simp only
    rw[if_neg (by simp;omega),aK (by omega) (by omega)];simp only[aa]
    rw[iC (bI i) (by omega) (by omega)]
    simp only[eT]
    rw[Te];simp only[aa]
    have hr:(bfR (nxS p) 1 i).length=i:=iA hj
    rw[aQ (by simp;omega)];simp only[aa]
    rw[aQ (by simp;omega)];simp only[aa,aj (show i<9223372036854775807 by omega)]
    exact ⟨_,rfl,M',by rw[vO hlt,sQ hlt],hM'⟩) (by
   rintro i s ⟨M,rfl,hM⟩ hn
   unfold bR
   simp only
   rw[if_neg (by simp;omega)]) (s:=([1],[(1,0)],0,0,[],[])) ⟨_,rfl,MapOf.one 1⟩ with ⟨e,hg⟩ | ⟨N,s',e,⟨M,rfl,hM⟩,hN,hNm,hg⟩
 ·rw[cv e,hg];rfl
 ·rw[aD e,hg];simp only[aa]
  rw[List.take_of_length_le (by have:=hN.1;omega)]
theorem N6 {l:List Int} {acs:List Bool} {rws:List (List Int)} {i:Nat} (hi:i<l.length) (hle:l.length<=most) :
  aB (eJ p (l,(i:Int),0,acs,rws)) bg (l,[],0)=some (.brk (nbS l (nxS p (nth l (i:Int))),nbR l (nxS p (nth l (i:Int))),9)):=by
 have h9:=Bm p (nth l (i:Int))
 have:=bK (f:=eJ p (l,(i:Int),0,acs,rws)) (fun k=>(nbS l ((nxS p (nth l (i:Int))).take k),nbR l ((nxS p (nth l (i:Int))).take k),(k:Int))) 9 (fun k hk=>by
  have hpre:=jH l ((nxS p (nth l (i:Int))).take k)
  have hlen:=hpre.length_le
  have hB:=Lh l ((nxS p (nth l (i:Int))).take k)
  rw[aC] at hB
  have hrl:(nbR l ((nxS p (nth l (i:Int))).take k)).length<=9:=by rw[dK,aC];omega
  unfold eJ
  simp only[eT]
  rw[if_pos (by simp;omega),aK (by omega) (by omega)];simp only[aa]
  rw[iC hpre (by omega) (by omega),Rw hl hb];simp only[aa]
  rw[take_one (by omega),sI,ql,Pq hk]
  simp only[aj (show k<9223372036854775807 by omega)]
  by_cases c:aft p (nth l (i:Int)) k=0
  ·rw[if_pos c,if_neg (by simp[c])];simp only[aa]
   rw[aQ (by simp;omega)];rfl
  ·rw[if_neg c,if_pos (by simpa using c),Pp (by omega)];simp only[aa]
   by_cases d:aft p (nth l (i:Int)) k∈nbS l ((nxS p (nth l (i:Int))).take k)
   ·rw[if_pos d,if_neg (by simp),kC d];simp only[aa]
    rw[aQ (by simp;omega)];rfl
   ·rw[if_neg d,if_pos (by decide),aQ (by simp;omega),jI d];simp only[aa]
    rw[aQ (by simp;omega)];simp only[nbI,np d,aa]) (by
  unfold eJ
  simp) (by unfold bg;omega)
 have e9:(nxS p (nth l (i:Int))).take 9=nxS p (nth l (i:Int)):=List.take_of_length_le (by omega)
 rw[e9] at this
 exact this
theorem Uz:gH p most=some (goM (nxS p) 1 (sR p) most (most+2) 0):=by
 unfold gH
 rcases Gq (nx:=nxS p) (first:=1) (acc:=sR p) (most:=most) (f:=eK p most)
  (by omega) h1 (fun i s=>s=(bfS (nxS p) 1 i,(i:Int),0,((bfS (nxS p) 1 i).take i).map (sR p),bfR (nxS p) 1 i)) (by
   rintro i s rfl hj hle hlt
   have hil:=Bn hj
   have e:=N6 hl hb hm h1 (acs:=((bfS (nxS p) 1 i).take i).map (sR p)) (rws:=bfR (nxS p) 1 i) hlt hle
   have hl2:=(bI (nx:=nxS p) (first:=1) i).length_le
   constructor
   ·intro hgt
    unfold eK
    simp only
    rw[if_pos (by simp;omega),aD e,<-jm hlt]
    simp only
    rw[if_pos (by simp;omega)]
   ·intro hle2
    unfold eK
    simp only
    rw[if_pos (by simp;omega),aD e,<-jm hlt]
    simp only
    rw[if_neg (by simp;omega),aK (by omega) (by omega)];simp only[aa]
    rw[iC (bI i) (by omega) (by omega)]
    simp only[eT]
    rw[Td];simp only[aa]
    have hr:(bfR (nxS p) 1 i).length=i:=iA hj
    rw[aQ (by simp;omega)];simp only[aa]
    rw[aQ (by simp;omega)];simp only[aa,aj (show i<9223372036854775807 by omega)]
    exact ⟨_,rfl,by rw[vO hlt,sQ hlt]⟩) (by
   rintro i s rfl hn
   unfold eK
   simp only
   rw[if_neg (by simp;omega)]) (s:=([1],0,0,[],[])) rfl with ⟨e,hg⟩ | ⟨N,s',e,rfl,hN,hNm,hg⟩
 ·rw[cv e,hg]
 ·rw[aD e,hg];simp only
  rw[List.take_of_length_le (by have:=hN.1;omega)]
end
end D
namespace D
open Go.RowKit
theorem N7 (m n:Int):orI m n=orI n m:=by unfold orI;rw[BitVec.or_comm]
def lk (F:List Int) (from_ to_:Int):Nat->List Int
 | 0=>F
 | i+1=>if N4 from_ i then (lk F from_ to_ i).set i (orI (nth (lk F from_ to_ i) (i:Int)) to_) else lk F from_ to_ i
theorem xS (F:List Int) (f t:Int): ∀i,(lk F f t i).length=F.length
 | 0=>rfl
 | i+1=>by
  rw[lk]
  split
  ·rw[List.length_set,xS]
  ·exact xS F f t i
theorem Ps {p:Dn} {f t:Int} (hl:p.2.2.2.1.length<=1000000):lj p f t=some (p.1,p.2.1,p.2.2.1,lk p.2.2.2.1 f t p.2.2.2.1.length,p.2.2.2.2):=by
 have hL:aB (gG f t) bg (0,p.2.2.2.1)=some (.brk ((p.2.2.2.1.length:Int),lk p.2.2.2.1 f t p.2.2.2.1.length)):=bK (f:=gG f t) (fun i=>((i:Int),lk p.2.2.2.1 f t i)) p.2.2.2.1.length (fun i hi=>by
  have hk:=xS p.2.2.2.1 f t i
  unfold gG
  simp only
  rw[if_pos (by simp;omega),pR];simp only[aa]
  rw[lk,aj (by omega)]
  by_cases c:N4 f i=true
  ·rw[if_pos c,if_pos c,aK (by omega) (by omega)];simp only[aa,Int.toNat_natCast]
  ·rw[if_neg c,if_neg c];rfl) (by unfold gG;simp[xS]) (rH (by omega))
 unfold lj
 rw[aD hL]
theorem Gr {p:Dn} {f t:Int} (hl:p.2.2.2.1.length<=1000000):db p f t=some (p.1,p.2.1,p.2.2.1,lk p.2.2.2.1 f t p.2.2.2.1.length,p.2.2.2.2):=by
 have hL:aB (cC p f t) bg (0,p.2.2.2.1)=some (.brk ((p.2.2.2.1.length:Int),lk p.2.2.2.1 f t p.2.2.2.1.length)):=bK (f:=cC p f t) (fun i=>((i:Int),lk p.2.2.2.1 f t i)) p.2.2.2.1.length (fun i hi=>by
  have hk:=xS p.2.2.2.1 f t i
  unfold cC
  simp only
  rw[if_pos (by simp;omega),pR];simp only[aa]
  rw[lk,aj (by omega)]
  by_cases c:N4 f i=true
  ·rw[if_pos c,if_pos c,aK (by omega) (by omega)];simp only[aa,Int.toNat_natCast]
  ·rw[if_neg c,if_neg c];rfl) (by unfold cC;simp) (rH (by omega))
 unfold db
 rw[aD hL]
def BOk (x:Tr Tok):Prop:= ∀(n m:Nat) (p:Dn),(flat x).length<=n->(flat x).length<=m->p.2.2.2.1.length=p.1.length->p.1.length+(flat x).length<=100000->
 ∃(nu:Bool) (fi la:Int) (q:Dn),cQ n p (flat x)=some ((nu,fi,la),q)/\bt m p x=some ((fi,la,nu),q)/\q.2.2.2.1.length=q.1.length/\q.1.length<=p.1.length+(flat x).length
theorem N8 {x:Tr Tok} (h:WT x):BOk x:=by
 refine WT.ind (p:=BOk) ?_ ?_ ?_ h
 ·intro t e n m p hn hm hF hl
  rw[yO] at hn hm hl⊢
  simp only[ak,aH] at hl
  match n,m,hn,hm with
  | n+1,m+1,_,_ =>
   rw[cQ,bt];simp only[nt,aa]
   have:=(kS (A:=[]) (t:=t) (by simp)).1
   rw[List.nil_append] at this
   rw[this];simp only[aa,eT]
   rcases lL (show 0<=ar t by omega) with ⟨k,_⟩ | ⟨k,_⟩ | ⟨_,k⟩
   ·omega
   ·omega
   rcases k with k | k | k
   ·exact ⟨false,0,0,p,by simp[k],by simp[k],hF,by simp⟩
   ·exact ⟨true,0,0,p,by simp[k],by simp[k],hF,by simp⟩
   ·refine ⟨false,EX 1 (p.1.length:Int),EX 1 (p.1.length:Int),(p.1++ [t.2.1],p.2.1,p.2.2.1,p.2.2.2.1++ [0],p.2.2.2.2),?_,?_,by simp[hF],by simp⟩
    ·rw[if_neg (by simp[k]),if_pos (by simp[k]),aQ (by simp;omega)];simp only[aa]
     rw[aQ (by simp;omega)];rfl
    ·rw[if_neg (by simp[k]),if_pos (by simp[k]),aQ (by simp;omega)];simp only[aa]
     rw[aQ (by simp;omega)];rfl
 ·intro t a e wa ih n m p hn hm hF hl
  rw[Bg] at hn hm hl⊢
  simp only[aq,ak,aH] at hn hm hl
  match n,m,hn,hm with
  | n+1,m+1,hn,hm =>
   rw[cQ,bt];simp only[nt,aa,eT]
   obtain ⟨l1,l2⟩:=kS (A:=flat a) (t:=t) (by omega)
   rw[l1];simp only[aa]
   obtain ⟨nu,fi,la,q,hs,hi,hq1,hq2⟩:=ih n m p (by omega) (by omega) hF (by omega)
   rcases NZ e with ⟨k1,k2⟩ | ⟨k1,k2,k3⟩
   ·have g2:(t.1==2)=false:=by simp[k2]
    have g3:(t.1==3)=false:=by simp[k2]
    have g4:(t.1==4)=false:=by simp[k2]
    have g5:(t.1==5)=false:=by simp[k2]
    simp only[g2,g3,g4,g5,k1,Bool.false_eq_true,if_false,if_true]
    rw[l2,Int.toNat_natCast,List.take_left,kG (by simp only[aq,ak,aH];omega)];simp only[aa]
    rw[hs,show aY [a] 0=some a from rfl];simp only[aa]
    rw[hi];simp only[aa,eT]
    rw[Ps (by omega),Gr (by omega)];simp only[aa]
    refine ⟨true,fi,la,_,rfl,rfl,?_,?_⟩
    ·simp only[xS];exact hq1
    ·simp only[aq,ak,aH];omega
   ·have g2:(t.1==2)=false:=by simp[k3]
    have g3:(t.1==3)=false:=by simp[k3]
    have g4:(t.1==4)=false:=by simp[k3]
    have g5:(t.1==5)=false:=by simp[k3]
    simp only[g2,g3,g4,g5,k1,Bool.false_eq_true,if_false]
    exact ⟨false,0,0,p,rfl,rfl,hF,by omega⟩
 ·intro t a b e wa wb iha ihb n m p hn hm hF hl
  rw[rD] at hn hm hl⊢
  have hl2:((flat a++flat b)++ [t]).length<=1000000:=by omega
  obtain ⟨p1,p2,p3,p4⟩:=xR (a:=a) (t:=t) wb hl2
  simp only[aq,ak,aH] at hn hm hl
  match n,m,hn,hm with
  | n+1,m+1,hn,hm =>
   have hpa:=wa.pos
   have hpb:=wb.pos
   rw[cQ,bt];simp only[nt,aa,eT]
   obtain ⟨l1,l2⟩:=kS (A:=flat a++flat b) (t:=t) (by rw[aq];omega)
   rw[l1];simp only[aa]
   obtain ⟨nu,fi,la,q,hs,hi,hq1,hq2⟩:=iha n m p (by omega) (by omega) hF (by omega)
   obtain ⟨nu2,fi2,la2,q2,hs2,hi2,hq3,hq4⟩:=ihb n m q (by omega) (by omega) hq1 (by omega)
   have c1: ∀r:Int,0<=r->r<=((flat a++flat b++ [t]).length:Int)->chk (0<=r/\r<=((flat a++flat b++ [t]).length:Int))=some ():=fun r h1 h2=>kG ⟨h1,h2⟩
   have g0:aY [a,b] 0=some a:=rfl
   have g1:aY [a,b] 1=some b:=rfl
   rcases lL (show 0<=ar t by omega) with ⟨_,k⟩ | ⟨k,_⟩ | ⟨k,_⟩
   ·rcases k with k | k
    ·have g2:(t.1==2)=false:=by simp[k]
     have g3:(t.1==3)=false:=by simp[k]
     have g4:(t.1==4)=true:=by simp[k]
     have g5:(t.1==5)=false:=by simp[k]
     simp only[g2,g3,g4,g5,Bool.false_eq_true,if_false,if_true]
     rw[l2,p1,p2,kG (by simp only[aq,ak,aH];omega)];simp only[aa]
     rw[kG (by simp only[aq,ak,aH];omega),p3,p4,hs,g0,g1];simp only[aa]
     rw[hi,kG (by simp only[aq,ak,aH];omega)];simp only[aa,eT]
     rw[hs2,hi2];simp only[aa,eT]
     rw[Ps (by omega),Gr (by omega)];simp only[aa]
     refine ⟨nu&&nu2,if nu then orI fi fi2 else fi,if nu2 then orI la la2 else la2,(q2.1,q2.2.1,q2.2.2.1,lk q2.2.2.2.1 la fi2 q2.2.2.2.1.length,q2.2.2.2.2),?_,?_,?_,?_⟩
     ·cases nu <;> cases nu2 <;> rfl
     ·rw[N7 la la2]
      cases nu <;> cases nu2 <;> rfl
     ·simp only[xS];exact hq3
     ·simp only[aq,ak,aH];omega
    ·have g2:(t.1==2)=false:=by simp[k]
     have g3:(t.1==3)=false:=by simp[k]
     have g4:(t.1==4)=false:=by simp[k]
     have g5:(t.1==5)=true:=by simp[k]
     simp only[g2,g3,g4,g5,Bool.false_eq_true,if_false,if_true]
     rw[l2,p1,p2,kG (by simp only[aq,ak,aH];omega)];simp only[aa]
     rw[kG (by simp only[aq,ak,aH];omega),p3,p4,hs,g0,g1];simp only[aa]
     rw[hi,kG (by simp only[aq,ak,aH];omega)];simp only[aa,eT]
     rw[hs2,hi2];simp only[aa,eT]
     refine ⟨nu || nu2,orI fi fi2,orI la la2,q2,?_,?_,hq3,?_⟩
     ·cases nu <;> simp
     ·cases nu <;> simp
     ·simp only[aq,ak,aH];omega
   ·omega
   ·omega
def EN (e:List Tok):Nat->Nat
 | 0=>0
 | i+1=>if (nth e (i:Int)).1=3 then EN e i+1 else EN e i
theorem EO (e:List Tok): ∀i,EN e i<=i
 | 0=>az _
 | i+1=>by
  have:=EO e i
  rw[EN];split <;> omega
theorem UA {r:List Tok×Bool} (hl:r.1.length<=1000000):aB (cR r) bg (0,0)=some (.brk ((EN r.1 r.1.length:Int),(r.1.length:Int))):=
 bK (f:=cR r) (fun i=>((EN r.1 i:Int),(i:Int))) r.1.length (fun i hi=>by
  have:=EO r.1 i
  unfold cR
  simp only
  rw[if_pos (by simp;omega),aK (by omega) (by omega)];simp only[aa]
  rw[EN,aj (show i<9223372036854775807 by omega),aj (show EN r.1 i<9223372036854775807 by omega)]
  by_cases c:(nth r.1 (i:Int)).1=3
  ·rw[if_pos (by simpa using c),if_pos c];rfl
  ·rw[if_neg (by simpa using c),if_neg c];rfl) (by unfold cR;simp) (rH (by omega))
theorem UB {r:List Tok×Bool} (hl:r.1.length<=1000000):aB (cT r) bg (0,0)=some (.brk ((EN r.1 r.1.length:Int),(r.1.length:Int))):=
 bK (f:=cT r) (fun i=>((EN r.1 i:Int),(i:Int))) r.1.length (fun i hi=>by
  have:=EO r.1 i
  unfold cT
  simp only
  rw[if_pos (by simp;omega),aK (by omega) (by omega)];simp only[aa]
  rw[EN,aj (show i<9223372036854775807 by omega),aj (show EN r.1 i<9223372036854775807 by omega)]
  by_cases c:(nth r.1 (i:Int)).1=3
  ·rw[if_pos (by simpa using c),if_pos c];rfl
  ·rw[if_neg (by simpa using c),if_neg c];rfl) (by unfold cT;simp) (rH (by omega))
theorem rF {e:List Tok} (he:e.length<=1048576): ∃r:Dn×Bool,fH e=some r/\fI e=some r/\r.1.2.2.2.1.length=r.1.1.length/\r.1.1.length<=100000:=by
 have hF:=sP
 obtain ⟨e1,e2⟩:=EK he
 unfold fH fI
 rw[e1,e2];simp only[aa]
 by_cases c:(HK e).2=true
 ·obtain ⟨y,wy,ey,ly⟩:=Rt c
  rw[if_pos c,if_pos c,aD (UA (by rw[ey];omega)),aD (UB (by rw[ey];omega))]
  simp only
  by_cases d:(EN (HK e).1 (HK e).1.length:Int)>20
  ·have d':decide ((EN (HK e).1 (HK e).1.length:Int)>20)=true:=decide_eq_true d
   simp only[d',if_true]
   exact ⟨_,rfl,rfl,rfl,by simp⟩
  ·have d':decide ((EN (HK e).1 (HK e).1.length:Int)>20)=false:=decide_eq_false d
   simp only[d',Bool.false_eq_true,if_false]
   rw[ey,Bi (by omega),tY wy];simp only[aa]
   obtain ⟨nu,fi,la,q,hs,hi,hq1,hq2⟩:=N8 wy fu fu ([],0,0,[],false) (by omega) (by omega) rfl (by simp;omega)
   rw[hs,hi];simp only[aa]
   exact ⟨_,rfl,rfl,hq1,by simp at hq2;show q.1.length<=_;omega⟩
 ·rw[if_neg c,if_neg c]
  exact ⟨_,rfl,rfl,rfl,by simp⟩
end D
namespace D
open Go.RowKit
theorem HM (n:Nat) (l:List Int) (hd:l.Nodup) (h: ∀x∈l,0<=x/\x<n):l.length<=n:=by
 have:=hd.length_le_of_subset (l₂:=(List.range n).map Int.ofNat) (fun x hx=>by
  obtain ⟨h0,h1⟩:=h x hx
  exact List.mem_map.2 ⟨x.toNat,List.mem_range.2 (by omega),by show ((x.toNat:Nat):Int)=x;omega⟩)
 simpa using this
theorem Ti {n:Nat} {x:Int} (hn:n<=1000000) (h0:0<=x) (h1:x<n):iOk x=true:=by
 have:=Le (n:=x.toNat) (by omega)
 rwa [show ((x.toNat:Nat):Int)=x from by omega] at this
theorem Tj {κ:Type} [DecidableEq κ] {nx:κ->List (Option κ)} {first:κ} {G:κ->Prop} {B N:Nat} {acc:κ->Bool} (H:NumOk nx first G B) (hB:B<=1000000) (hN:bfE nx first N):Data.sm ((0,(bfS nx first N).map acc,bfR nx first N):AutT):=by
 have hl:=H.bound _ (lJ (nx:=nx) (first:=first) N) (jk H.g0 H.gn N)
 refine ⟨trivial,⟨by rw[List.length_map];omega,fun _ _=>trivial⟩,?_,?_⟩
 ·rw[iA hN.2];have:=hN.1;omega
 ·have key: ∀i,i<=N-> ∀r∈bfR nx first i,r.length=9:=by
   intro i
   induction i with
   | zero=>intro _ r hr;cases hr
   | succ i ih =>
    intro hi r hr
    have hlt:=hN.2 i (by omega)
    rw[sJ hlt] at hr
    rcases aG hr with hr | hr
    ·exact ih (by omega) r hr
    ·obtain rfl:=aw hr
     rw[dK,H.len _ (jk H.g0 H.gn i _ (List.getElem_mem hlt))]
  intro r hr
  exact ⟨by rw[key N (az _) r hr];decide,fun _ _=>trivial⟩
theorem HO:Data.sm nothing:=⟨trivial,⟨by decide,fun _ _=>trivial⟩,by decide,fun r hr=>by
 obtain rfl:=aw hr
 exact ⟨by decide,fun _ _=>trivial⟩⟩
end D
namespace D
open Go.RowKit
theorem HP {κ:Type} [DecidableEq κ] {l m:List κ} (h:l <+:m) {y:κ} (hy:y∈l):(m.idxOf y:Int)=l.idxOf y:=by
 obtain ⟨t,rfl⟩:=h
 rw[List.idxOf_append,if_pos hy]
theorem Pt {κ:Type} [DecidableEq κ] : ∀(l:List κ) (os:List (Option κ)) (i:Nat),i<os.length->nth (nbR l os) (i:Int)=nbI (nbS l os) (nth os (i:Int))
 | l,o::os,0,_=>by
  show nbI l o=nbI (nbS (nbL l o) os) o
  cases o with
  | none=>rfl
  | some y =>
   have hm:y∈nbL l (some y):=Kz.2 (.inr rfl)
   simp only[nbI]
   rw[HP (jH _ os) hm]
   by_cases c:y∈l
   ·rw[kC c]
   ·rw[jI c,List.idxOf_append,if_neg c,np c];simp
 | l,o::os,i+1,h=>by
  have h':i<os.length:=by simpa using h
  have ih:=Pt (nbL l o) os i h'
  have e1:nth (nbR l (o::os)) ((i+1:Nat):Int)=nth (nbR (nbL l o) os) (i:Int):=by
   rw[b8 (by rw[dK];exact h),b8 (by rw[dK];exact h')];rfl
  have e2:nth (o::os) ((i+1:Nat):Int)=nth os (i:Int):=by rw[b8 h,b8 h'];rfl
  rw[e1,e2];exact ih
theorem mC {κ:Type} [DecidableEq κ] {l:List κ} {y:κ} (h:y∈l): ∃(q:Nat) (hq:q<l.length),nbI l (some y)=(q:Int)/\l[q] =y:=
 ⟨l.idxOf y,List.idxOf_lt_length_of_mem h,rfl,by simp⟩
theorem Bo {κ:Type} [DecidableEq κ] {l:List κ} {y:κ} (h:y∉l):nbI l (some y)=(l.length:Int):=by simp only[nbI,np h]
def Pu:List Int->Nat->Nat->Prop
 | [],c,m=>c=m
 | x::xs,c,m=>(x= -1/\Pu xs c m)\/(0<=x/\x<c/\Pu xs c m)\/(x=c/\Pu xs (c+1) m)
theorem Bp {κ:Type} [DecidableEq κ] : ∀(os:List (Option κ)) (l:List κ),Pu (nbR l os) l.length (nbS l os).length
 | [],l=>rfl
 | none::os,l=>.inl ⟨rfl,Bp os l⟩
 | some y::os,l=>by
  by_cases c:y∈l
  ·refine .inr (.inl ⟨Int.natCast_nonneg _,?_,?_⟩)
   ·have:=List.idxOf_lt_length_of_mem c
    simp only[nbI];omega
   ·show Pu (nbR (nbL l (some y)) os) l.length (nbS (nbL l (some y)) os).length
    rw[kC c];exact Bp os l
  ·refine .inr (.inr ⟨by simp only[nbI,np c],?_⟩)
   show Pu (nbR (nbL l (some y)) os) (l.length+1) (nbS (nbL l (some y)) os).length
   have:=Bp os (l++ [y])
   rw[jI c]
   simpa using this
def T0:List Int->List (Option (List Int))->Prop
 | [],[] =>True
 | x::xs,o::os=>((x<0/\o=none)\/(0<=x/\ ∃t,o=some (x::t)))/\T0 xs os
 | _,_=>False
theorem Li: ∀(xs:List Int) (os:List (Option (List Int))),xs.length=os.length->(∀i (h:i<xs.length) (h':i<os.length),(xs[i] < 0/\os[i] =none)\/(0<=xs[i] /\ ∃t,os[i] =some (xs[i] ::t)))->T0 xs os
 | [],[],_,_=>trivial
 | x::xs,o::os,hl,h=>⟨h 0 (by simp) (by simp),Li xs os (by simpa using hl) fun i h1 h2=>h (i+1) (by simpa using h1) (by simpa using h2)⟩
theorem lM: ∀(xs:List Int) (os:List (Option (List Int))) (l:List (List Int)) (c m:Nat),T0 xs os->Pu xs c m->(∀y∈l,∃h t,y=h::t/\h<c)->
  m+l.length<=(nbS l os).length+c/\(l.length=c->(∀(q:Nat) (hq:q<l.length),∃t,l[q] =(q:Int)::t)->(nbS l os).length=m->nbR l os=xs)
 | [],[],l,c,m,_,hn,_=>by
  have hn:c=m:=hn
  subst hn
  exact ⟨by simp[nbS];omega,fun _ _ _=>rfl⟩
 | x::xs,o::os,l,c,m,hr,hn,hh=>by
  obtain ⟨hr1,hr2⟩:=hr
  rcases hn with ⟨rfl,hn⟩ | ⟨hx0,hxc,hn⟩ | ⟨rfl,hn⟩
  ·have ho:o=none:=by
    rcases hr1 with ⟨-,h⟩ | ⟨h,-⟩
    ·exact h
    ·omega
   subst ho
   obtain ⟨i1,i2⟩:=lM xs os l c m hr2 hn hh
   exact ⟨i1,fun h1 h2 h3=>by show -1::nbR l os=_;rw[i2 h1 h2 h3]⟩
  ·obtain ⟨t,rfl⟩: ∃t,o=some (x::t):=by
    rcases hr1 with ⟨h,-⟩ | ⟨-,h⟩
    ·omega
    ·exact h
   by_cases k:(x::t)∈l
   ·obtain ⟨i1,i2⟩:=lM xs os l c m hr2 hn hh
    have hb:nbL l (some (x::t))=l:=kC k
    refine ⟨by show m+l.length<=(nbS (nbL l (some (x::t))) os).length+c;rw[hb];exact i1,fun h1 h2 h3=>?_⟩
    have h3:(nbS (nbL l (some (x::t))) os).length=m:=h3
    rw[hb] at h3
    obtain ⟨q,hq,e1,e2⟩:=mC k
    obtain ⟨t',ht'⟩:=h2 _ hq
    rw[e2] at ht'
    have:x=(q:Int):=by injection ht'
    show nbI l (some (x::t))::nbR (nbL l (some (x::t))) os=_
    rw[e1,<-this,hb,i2 h1 h2 h3]
   ·have hb:nbL l (some (x::t))=l++ [x::t]:=jI k
    obtain ⟨i1,i2⟩:=lM xs os (l++ [x::t]) c m hr2 hn (fun y hy=>by
     rcases aG hy with hy | hy
     ·exact hh y hy
     ·obtain rfl:=aw hy
      exact ⟨x,t,rfl,hxc⟩)
    rw[aq,List.length_singleton] at i1
    refine ⟨by show m+l.length<=(nbS (nbL l (some (x::t))) os).length+c;rw[hb];omega,fun h1 h2 h3=>?_⟩
    have h3:(nbS (nbL l (some (x::t))) os).length=m:=h3
    rw[hb] at h3
    omega
  ·obtain ⟨t,rfl⟩: ∃t,o=some ((c:Int)::t):=by
    rcases hr1 with ⟨h,-⟩ | ⟨-,h⟩
    ·omega
    ·exact h
   have k:((c:Int)::t)∉l:=fun k=>by
    obtain ⟨h,t',e,hlt⟩:=hh _ k
    have:(c:Int)=h:=by injection e
    omega
   have hb:nbL l (some ((c:Int)::t))=l++ [(c:Int)::t]:=jI k
   obtain ⟨i1,i2⟩:=lM xs os (l++ [(c:Int)::t]) (c+1) m hr2 hn (fun y hy=>by
    rcases aG hy with hy | hy
    ·obtain ⟨h,t',e,hlt⟩:=hh y hy
     exact ⟨h,t',e,by omega⟩
    ·obtain rfl:=aw hy
     exact ⟨c,t,rfl,by omega⟩)
   have hlen:(l++ [(c:Int)::t]).length=l.length+1:=by simp
   rw[hlen] at i1
   refine ⟨by show m+l.length<=(nbS (nbL l (some ((c:Int)::t))) os).length+c;rw[hb];omega,fun h1 h2 h3=>?_⟩
   have h3:(nbS (nbL l (some ((c:Int)::t))) os).length=m:=h3
   rw[hb] at h3
   have:=i2 (by rw[hlen,h1]) (fun q hq=>by
    by_cases e:q<l.length
    ·rw[List.getElem_append_left e];exact h2 q e
    ·have e:q=l.length:=by omega
     subst e
     exact ⟨t,by simp;omega⟩) h3
   show nbI l (some ((c:Int)::t))::nbR (nbL l (some ((c:Int)::t))) os=_
   rw[hb,this,Bo k,h1]
theorem Bq (xs ys:List Int) (hN:xs.length<=1048576): ∃r,lf xs ys=some r/\(r=0↔xs=ys):=by
 unfold lf
 have h0:=SS (f:=lW xs ys) xs ys (fun i h h'=>by
  simp only[lW,bO h,bO h',if_true,aF h,aF h',aa,aj (show i<9223372036854775807 by omega)]
  by_cases h1:xs[i] < ys[i]
  ·simp[h1]
  ·by_cases h2:xs[i] > ys[i]
   ·simp[h1,h2]
   ·simp[h1,h2]) (fun i hi=>by
  simp only[lW]
  by_cases h1:i<xs.length
  ·have h2: ¬i<ys.length:=by omega
   simp[h1,h2]
  ·simp[h1]) xs.length 0 bg (by omega) (gg _ (by omega))
 rw[show (((0:Nat):Int))=(0:Int) from rfl] at h0
 rcases h0 with ⟨r,e,h1,h2⟩ | ⟨s,e,h1⟩
 ·exact ⟨r,by rw[e];rfl,by simp[h1,h2]⟩
 ·rw[e]
  simp only[aV]
  by_cases c1:xs.length<ys.length
  ·exact ⟨-1,by simp[c1],by simp;intro e;subst e;omega⟩
  ·by_cases c2:xs.length>ys.length
   ·exact ⟨1,by simp[c1,c2],by simp;intro e;subst e;omega⟩
   ·exact ⟨0,by simp[c1,c2],by simpa using h1 (by omega)⟩
theorem xT (xs ys:List Int) (hN:xs.length<=9223372036854775807):bU xs ys=some (decide (xs=ys)):=
 eqL (f:=cd xs ys) xs ys hN (fun i h h'=>by
  simp only[cd,bO h,if_true,aF h,aF h',aa,aj (show i<9223372036854775807 by omega)]
  by_cases c:xs[i] =ys[i] <;> simp[c]) (by simp only[cd,bG];rfl)
def H3 (a:AutT):List Int:=(List.range a.2.1.length).map fun s:Nat=>if nth (live a) (s:Int)=true then (if nth a.2.1 (s:Int)=true then 1 else 0) else -1
def ent (a:AutT) (c:List Int) (s:Int) (k:Nat):Int:=if mv a s k<0 then -1 else nth c (mv a s k)
def Br (a:AutT) (c:List Int) (s:Int):List Int:=nth c s::(List.range 9).map fun k=>ent a c s k
def Bw (a:AutT) (c:List Int) (s:Nat):Option (List Int):=if nth c (s:Int)<0 then none else some (Br a c s)
def keys (a:AutT) (c:List Int):List (Option (List Int)):=(List.range a.2.1.length).map (Bw a c)
def zP (a:AutT) (c:List Int):List Int:=nbR [] (keys a c)
def vP (a:AutT) (c:List Int):Nat:=(nbS [] (keys a c)).length
def cI (a:AutT):Nat->List Int
 | 0=>H3 a
 | j+1=>zP a (cI a j)
section
variable {a:AutT} {n:Nat}
theorem dy (a:AutT) (c:List Int):(keys a c).length=a.2.1.length:=by simp[keys]
theorem EP {c:List Int} {s:Nat} (h:s<a.2.1.length):nth (keys a c) (s:Int)=Bw a c s:=by
 rw[b8 (by simpa [keys] using h)];simp[keys]
theorem xU (a:AutT) (c:List Int):(zP a c).length=a.2.1.length:=by rw[zP,dK,dy]
theorem lN (a:AutT): ∀j,(cI a j).length=a.2.1.length
 | 0=>by simp[cI,H3]
 | j+1=>xU a _
theorem n8 {κ:Type} [DecidableEq κ] : ∀(l:List κ) (os:List (Option κ)),(nbS l os).length<=l.length+os.length
 | l,[] =>by simp[nbS]
 | l,o::os=>by
  have h:=n8 (nbL l o) os
  have:(nbL l o).length<=l.length+1:=by
   cases o with
   | none=>simp[nbL]
   | some x=>unfold nbL;simp only;split <;> simp
  show (nbS (nbL l o) os).length<=_
  rw[ak];omega
theorem ER (a:AutT) (c:List Int):vP a c<=a.2.1.length:=by
 have:=n8 ([] :List (List Int)) (keys a c)
 rw[dy] at this
 simpa [vP] using this
theorem Bs {c:List Int} {s:Nat} (h:s<a.2.1.length):nth (zP a c) (s:Int)=nbI (nbS [] (keys a c)) (Bw a c s):=by
 rw[zP,Pt _ _ _ (by rw[dy];exact h),EP h]
theorem xV {c:List Int} {s:Nat} (h:s<a.2.1.length) (hc: ¬nth c (s:Int)<0):Br a c s∈nbS [] (keys a c):=by
 refine tV.2 (.inr ?_)
 refine List.mem_map.2 ⟨s,List.mem_range.2 h,?_⟩
 unfold Bw;rw[if_neg hc]
theorem vQ {c:List Int} {s:Nat} (h:s<a.2.1.length):(nth (zP a c) (s:Int)<0↔nth c (s:Int)<0)/\(nth (zP a c) (s:Int)<0->nth (zP a c) (s:Int)= -1):=by
 rw[Bs h]
 unfold Bw
 by_cases hc:nth c (s:Int)<0
 ·rw[if_pos hc];simp[nbI,hc]
 ·rw[if_neg hc]
  obtain ⟨q,hq,e,-⟩:=mC (xV h hc)
  rw[e]
  exact ⟨⟨fun h=>by omega,fun h=>absurd h hc⟩,fun h=>by omega⟩
theorem Rz {c:List Int} {s:Nat} (h:s<a.2.1.length):nth (zP a c) (s:Int)<(a.2.1.length:Int):=by
 rw[Bs h]
 unfold Bw
 by_cases hc:nth c (s:Int)<0
 ·rw[if_pos hc];simp only[nbI];omega
 ·rw[if_neg hc]
  obtain ⟨q,hq,e,-⟩:=mC (xV h hc)
  have:=ER a c
  unfold vP at this
  rw[e];omega
theorem Lj {c:List Int} {s t:Nat} (hs:s<a.2.1.length) (ht:t<a.2.1.length) (h0:0<=nth (zP a c) (s:Int)) (h:nth (zP a c) (s:Int)=nth (zP a c) (t:Int)):Br a c s=Br a c t:=by
 have n1: ¬nth c (s:Int)<0:=fun k=>by have:=(vQ hs).1.2 k;omega
 have n2: ¬nth c (t:Int)<0:=fun k=>by have:=(vQ ht).1.2 k;omega
 rw[Bs hs,Bs ht] at h
 unfold Bw at h
 rw[if_neg n1,if_neg n2] at h
 obtain ⟨q,hq,e1,e2⟩:=mC (xV hs n1)
 obtain ⟨q',hq',e1',e2'⟩:=mC (xV ht n2)
 rw[e1,e1'] at h
 obtain rfl:q=q':=by omega
 rw[<-e2,<-e2']
theorem zQ (a:AutT) {s:Nat} (h:s<a.2.1.length): ∀j,(nth (cI a j) (s:Int)<0↔nth (live a) (s:Int)=false)/\(nth (cI a j) (s:Int)<0->nth (cI a j) (s:Int)= -1)
 | 0=>by
  have e:nth (cI a 0) (s:Int)=if nth (live a) (s:Int)=true then (if nth a.2.1 (s:Int)=true then 1 else 0) else -1:=by
   show nth (H3 a) (s:Int)=_
   rw[b8 (by simpa [H3] using h)];simp[H3]
  rw[e]
  cases nth (live a) (s:Int) <;> cases nth a.2.1 (s:Int) <;> simp
 | j+1=>by
  have ih:=zQ a h j
  have:=vQ (c:=cI a j) h
  exact ⟨this.1.trans ih.1,this.2⟩
theorem Pv (a:AutT) {s t:Nat} (hs:s<a.2.1.length) (ht:t<a.2.1.length): ∀j,0<=nth (cI a j) (s:Int)->nth (cI a j) (s:Int)=nth (cI a j) (t:Int)->nth a.2.1 (s:Int)=nth a.2.1 (t:Int)
 | 0,h0,h=>by
  have e: ∀ {s:Nat},s<a.2.1.length->nth (cI a 0) (s:Int)=if nth (live a) (s:Int)=true then (if nth a.2.1 (s:Int)=true then 1 else 0) else -1:=by
   intro s h
   show nth (H3 a) (s:Int)=_
   rw[b8 (by simpa [H3] using h)];simp[H3]
  rw[e hs] at h0 h
  rw[e ht] at h
  revert h0 h
  cases nth (live a) (s:Int) <;> cases nth a.2.1 (s:Int) <;> cases nth (live a) (t:Int) <;> cases nth a.2.1 (t:Int) <;> simp
 | j+1,h0,h=>by
  have k:=Lj (c:=cI a j) hs ht h0 h
  have h1:nth (cI a j) (s:Int)=nth (cI a j) (t:Int):=by
   unfold Br at k;injection k
  refine Pv a hs ht j ?_ h1
  have:=(vQ (c:=cI a j) hs).1
  by_cases q:nth (cI a j) (s:Int)<0
  ·have:=this.2 q
   have h0:0<=nth (zP a (cI a j)) (s:Int):=h0
   omega
  ·omega
theorem RA (a:AutT) (j:Nat):Pu (cI a (j+1)) 0 (vP a (cI a j)):=Bp (keys a (cI a j)) []
theorem N9 (a:AutT) {c:List Int} (hc:c.length=a.2.1.length):T0 c (keys a c):=by
 refine Li _ _ (by rw[dy,hc]) fun i h h'=>?_
 have e1:c[i] =nth c (i:Int):=(b8 h).symm
 have e2:(keys a c)[i] =Bw a c i:=by simp[keys]
 rw[e1,e2]
 unfold Bw
 by_cases k:nth c (i:Int)<0
 ·exact .inl ⟨k,by rw[if_pos k]⟩
 ·exact .inr ⟨by omega,_,by rw[if_neg k];rfl⟩
theorem Lk (a:AutT) (j:Nat):vP a (cI a j)<=vP a (cI a (j+1))/\(vP a (cI a (j+1))=vP a (cI a j)->cI a (j+2)=cI a (j+1)):=by
 obtain ⟨h1,h2⟩:=lM (cI a (j+1)) (keys a (cI a (j+1))) [] 0 (vP a (cI a j)) (N9 a (lN a _)) (RA a j) (fun y hy=>by cases hy)
 exact ⟨by simpa [vP] using h1,fun h=>h2 rfl (fun q hq=>absurd hq (Nat.not_lt_zero q)) h⟩
theorem Pw {j k:Nat} (h:cI a (j+1)=cI a j) (hk:j<=k):cI a k=cI a j:=by
 induction hk with
 | refl=>rfl
 | step _ ih=>rw[cI,ih];exact h
theorem Ll {j k:Nat} (h:cI a (j+1)=cI a j) (h':cI a (k+1)=cI a k):cI a j=cI a k:=by
 rcases Nat.le_total j k with e | e
 ·exact (Pw h e).symm
 ·exact Pw h' e
theorem RB (a:AutT): ∃j,j<=a.2.1.length/\cI a (j+1)=cI a j:=by
 by_cases h0:cI a 1=cI a 0
 ·exact ⟨0,Nat.zero_le _,h0⟩
 have hpos:1<=vP a (cI a 0):=by
  refine Nat.one_le_iff_ne_zero.2 fun hz=>h0 ?_
  have hnone: ∀s:Nat,s<a.2.1.length->nth (cI a 0) (s:Int)<0:=fun s hs=>by
   refine Classical.byContradiction fun k=>?_
   have:=xV (c:=cI a 0) hs k
   have hl:=List.length_pos_of_mem this
   unfold vP at hz;omega
  refine Rh (by rw[lN,lN]) fun i hi=>?_
  rw[lN] at hi
  have h1:=(zQ a hi 0).2 (hnone i hi)
  have h2:=(zQ a hi 1).2 (((zQ a hi 1).1.trans (zQ a hi 0).1.symm).2 (hnone i hi))
  rw[h1,h2]
 have key: ∀m,(∃j,j<=m/\cI a (j+1)=cI a j)\/m+1<=vP a (cI a m):=by
  intro m
  induction m with
  | zero=>exact .inr hpos
  | succ m ih =>
   rcases ih with ⟨j,hj,e⟩ | ih
   ·exact .inl ⟨j,by omega,e⟩
   ·obtain ⟨g1,g2⟩:=Lk a m
    by_cases e:vP a (cI a (m+1))=vP a (cI a m)
    ·exact .inl ⟨m+1,az _,g2 e⟩
    ·exact .inr (by omega)
 rcases key a.2.1.length with h | h
 ·exact h
 ·have:=ER a (cI a a.2.1.length);omega
end
end D
namespace D
open Go.RowKit
section
variable {a:AutT} {n:Nat} {c:List Int}
theorem Gs (k:Nat) (s:Int):(List.range (k+1)).map (fun k=>ent a c s k)=(List.range k).map (fun k=>ent a c s k)++ [ent a c s k]:=by simp[List.range_succ]
theorem UC (V:VA a n) (hn:n<=1000000) (hc:c.length=n) {s:Nat} (hs:s<n):mN a c s=some (Br a c s):=by
 unfold mN
 rw[aK (by omega) (by omega)];simp only[aa]
 have:=bK (f:=kJ a c s) (fun k=>(nth c (s:Int)::(List.range k).map (fun k=>ent a c s k),(k:Int))) 9 (fun k hk=>by
  have hm:=V.mv (s:=s) (k:=k) (by omega) (by omega) hk
  unfold kJ
  simp only
  rw[if_pos (by simp;omega),V.get (by omega) (by omega)];simp only[aa]
  rw[V.get2 (by omega) (by omega) hk,Gs];simp only[aa,aj (show k<9223372036854775807 by omega)]
  by_cases h:mv a s k<0
  ·rw[if_pos (by simpa using h),aQ (by simp;omega),show ent a c s k= -1 from by unfold ent;rw[if_pos h]];rfl
  ·rw[if_neg (by simpa using h),aK (by omega) (by omega)];simp only[aa]
   rw[aQ (by simp;omega),show ent a c s k=nth c (mv a s k) from by unfold ent;rw[if_neg h]];rfl) (by unfold kJ;simp) (by unfold bg;omega)
 exact aD this
theorem UD (V:VA a n) (hn:n<=1000000) (hc:c.length=n) {s:Nat} (hs:s<n):aB (cD c (nth a.2.2 (s:Int))) bg (0,[nth c (s:Int)])=some (.brk (9,Br a c s)):=by
 have hr:=V.rowAt (s:=s) (by omega) (by omega)
 exact bK (f:=cD c (nth a.2.2 (s:Int))) (fun k=>((k:Int),nth c (s:Int)::(List.range k).map (fun k=>ent a c s k))) 9 (fun k hk=>by
  have hm:=V.mv (s:=s) (k:=k) (by omega) (by omega) hk
  unfold cD
  simp only
  rw[if_pos (by simp[hr];omega),V.get2 (by omega) (by omega) hk,Gs];simp only[aa,aj (show k<9223372036854775807 by omega)]
  by_cases h:mv a s k<0
  ·have e:mv a s k= -1:=by omega
   rw[if_neg (by simp;omega)];simp only[aa]
   rw[aQ (by simp;omega),show ent a c s k=mv a s k from by unfold ent;rw[if_pos h,e]];rfl
  ·rw[if_pos (by simp;omega),aK (by omega) (by omega)];simp only[aa]
   rw[aQ (by simp;omega),show ent a c s k=nth c (mv a s k) from by unfold ent;rw[if_neg h]];rfl) (by unfold cD;simp[hr]) (by unfold bg;omega)
theorem Dg {κ:Type} [DecidableEq κ] {l t r:List κ} {x:κ} (e:l=t++x::r) (hx:x∉t):nbI l (some x)=(t.length:Int):=by
 subst e
 simp only[nbI]
 rw[List.idxOf_append,if_neg hx,List.idxOf_cons_self,Nat.zero_add]
def Tk (l:List (List Int)) (x:List Int):Int:=if x∈l then nbI l (some x) else -1
theorem Tl {l:List (List Int)} {x cs:List Int} {q:Int} (hl:l.length<=1000000) (hd:l.Nodup) (hx: ∀y∈l,y.length<=1048576):aB (eM (l,cs,q) x) bg (-1,0)=some (.brk (Tk l x,(l.length:Int))):=by
 have:=bK (f:=eM (l,cs,q) x) (fun k=>(if x∈l.take k then nbI l (some x) else -1,(k:Int))) l.length (fun k hk=>by
  unfold eM
  simp only
  rw[if_pos (by simp;omega),aK (by omega) (by omega)];simp only[aa,Int.toNat_natCast,aj (show k<9223372036854775807 by omega)]
  obtain ⟨r,e,hr⟩:=Bq (nth l (k:Int)) x (hx _ (jj (by omega) (by omega)))
  rw[e,take_one hk];simp only[aa,List.mem_append,List.mem_singleton]
  by_cases h:nth l (k:Int)=x
  ·have h0:r=0:=hr.2 h
   have hm:x∈l:=h ▸ jj (by omega) (by omega)
   obtain ⟨q,hq,e1,e2⟩:=mC hm
   have:q=k:=by
    have h1:l[q]? =some x:=by rw[List.getElem?_eq_getElem hq,e2]
    have h2:l[k]? =some x:=by rw[List.getElem?_eq_getElem hk,<-b8 hk,h]
    exact (List.getElem?_inj hq hd).1 (h1.trans h2.symm)
   subst this
   rw[if_pos (by simp[h0]),if_pos (.inr h.symm),e1];rfl
  ·have h0:r≠0:=fun e=>h (hr.1 e)
   have hn: ¬x=nth l (k:Int):=fun e=>h e.symm
   rw[if_neg (by simpa using h0)]
   simp[hn]) (by unfold eM;simp) (rH (by omega))
 rw[List.take_of_length_le (az _)] at this
 exact this
theorem Tm {l:List (List Int)} {x:List Int} {f:List Int->Option Bool} (hl:l.length<=1000000) (hf: ∀y∈l,f y=some (decide (y=x))):bM l f=some (Tk l x):=by
 unfold bM
 obtain ⟨o,e,hq⟩:=cO (f:=bV l f) (fun k s=>s=(k:Int)/\x∉l.take k) (fun o=>(x∈l/\o= .ret (nbI l (some x)))\/(x∉l/\ ∃s,o= .brk s)) l.length (s:=0) (by
  rintro k s hk ⟨rfl,hx⟩
  unfold bV
  by_cases hkl:k<l.length
  ·rw[if_pos (by simp;omega),aK (by omega) (by omega)];simp only[aa]
   rw[hf _ (jj (by omega) (by omega))];simp only[aa]
   by_cases h:nth l (k:Int)=x
   ·refine .inr ⟨_,by rw[if_pos (by simpa using h)],(fun s' e=>by cases e),.inl ?_⟩
    have hm:x∈l:=h ▸ jj (by omega) (by omega)
    refine ⟨hm,?_⟩
    have e:l=l.take k++(x::l.drop (k+1)):=by
     rw[<-h,b8 hkl,<-List.drop_eq_getElem_cons hkl,List.take_append_drop]
    rw[Dg e hx,aC,Nat.min_eq_left (by omega)]
   ·refine .inl ⟨hkl,_,by rw[if_neg (by simpa using h)],by rw[aj (by omega)],?_⟩
    rw[take_one hkl,List.mem_append,List.mem_singleton]
    rintro (h' | h')
    ·exact hx h'
    ·exact h h'.symm
  ·refine .inr ⟨_,by rw[if_neg (by simp;omega)],(fun s' e=>by cases e),.inr ⟨?_,_,rfl⟩⟩
   rwa [List.take_of_length_le (by omega)] at hx) ⟨rfl,by simp⟩ (rH (by omega))
 unfold Tk
 rcases hq with ⟨hx,rfl⟩ | ⟨hx,s,rfl⟩
 ·rw[cv e,if_pos hx]
 ·rw[aD e,if_neg hx]
theorem xW {os:List (Option (List Int))} (h: ∀y,some y∈os->y.length=10): ∀y∈nbS [] os,y.length=10:=fun y hy=>by
 rcases tV.1 hy with hy | hy
 ·cases hy
 ·exact h y hy
theorem zR (a:AutT) (c:List Int): ∀y,some y∈keys a c->y.length=10:=by
 intro y hy
 obtain ⟨s,-,e⟩:=List.mem_map.1 hy
 unfold Bw at e
 split at e
 ·cases e
 ·rw[<-ae e];simp[Br]
section
variable (V:VA a n) (hn:n<=1000000) (hc:c.length=n)
include V hn hc
theorem Gt (s:Nat):(nbS [] ((keys a c).take s)).length<=n:=by
 have:=n8 ([] :List (List Int)) ((keys a c).take s)
 rw[aC,dy,V.len] at this
 simp at this;omega
theorem Oa {m:Int} :aB (eN a (c,m)) bg ([],[],0)=some (.brk (nbS [] (keys a c),zP a c,(n:Int))):=by
 have hlen:=V.len
 have:=bK (f:=eN a (c,m)) (fun s=>(nbS [] ((keys a c).take s),nbR [] ((keys a c).take s),(s:Int))) n (fun s hs=>by
  have hkl:=Gt V hn hc s
  have hrl:(nbR [] ((keys a c).take s)).length<=n:=by rw[dK,aC,dy];omega
  unfold eN
  simp only
  rw[if_pos (by simp;omega),aK (by omega) (by omega)];simp only[aa]
  rw[take_one (by rw[dy];omega),sI,ql,EP (by omega)]
  simp only[aj (show s<9223372036854775807 by omega)]
  by_cases h:nth c (s:Int)<0
  ·rw[if_pos (by simpa using h),aQ (by simp;omega),show Bw a c s=none from by unfold Bw;rw[if_pos h]];rfl
  ·rw[if_neg (by simpa using h),show Bw a c s=some (Br a c s) from by unfold Bw;rw[if_neg h]]
   rw[show mN (a.1,a.2.1,a.2.2) c (s:Int)=some (Br a c s) from UC V hn hc hs];simp only[aa]
   rw[aD (Tl (by omega) (pM (by simp)) (fun y hy=>by rw[xW (fun y hy=>zR a c y (List.mem_of_mem_take hy)) y hy];decide))]
   simp only
   unfold Tk
   by_cases k:Br a c s∈nbS [] ((keys a c).take s)
   ·obtain ⟨q,hq,e1,e2⟩:=mC k
    rw[if_pos k,kC k,e1,if_neg (by simp)];simp only[aa]
    rw[aQ (by simp;omega)];rfl
   ·rw[if_neg k,jI k,Bo k,if_pos (show decide ((-1:Int)<0)=true from rfl),aQ (by simp;omega)];simp only[aa]
    rw[aQ (by simp;omega)];rfl) (by
  unfold eN
  simp only
  rw[if_neg (by simp;omega)]) (rH (by omega))
 rw[show (keys a c).take n=keys a c from List.take_of_length_le (by rw[dy];omega)] at this
 exact this
theorem Ob:de a c=some (zP a c,(vP a c:Int)):=by
 have hlen:=V.len
 unfold de
 have:=bK (f:=df a c) (fun s=>(nbS [] ((keys a c).take s),nbR [] ((keys a c).take s),(s:Int))) n (fun s hs=>by
  have hkl:=Gt V hn hc s
  have hrl:(nbR [] ((keys a c).take s)).length<=n:=by rw[dK,aC,dy];omega
  unfold df
  simp only
  rw[if_pos (by simp;omega),aK (by omega) (by omega)];simp only[aa]
  rw[take_one (by rw[dy];omega),sI,ql,EP (by omega)]
  simp only[aj (show s<9223372036854775807 by omega)]
  by_cases h:nth c (s:Int)<0
  ·rw[if_pos (by simpa using h),aQ (by simp;omega),show Bw a c s=none from by unfold Bw;rw[if_pos h]];rfl
  ·rw[if_neg (by simpa using h),show Bw a c s=some (Br a c s) from by unfold Bw;rw[if_neg h],V.get (by omega) (by omega)];simp only[aa]
   rw[aD (UD V hn hc hs)];simp only
   rw[Tm (x:=Br a c s) (by omega) (fun y hy=>by
    unfold fF
    rw[xT _ _ (by rw[xW (fun y hy=>zR a c y (List.mem_of_mem_take hy)) y hy];decide)];rfl)];simp only[aa]
   unfold Tk
   by_cases k:Br a c s∈nbS [] ((keys a c).take s)
   ·obtain ⟨q,hq,e1,e2⟩:=mC k
    rw[if_pos k,kC k,e1,if_neg (by simp)];simp only[aa]
    rw[aQ (by simp;omega)];rfl
   ·rw[if_neg k,jI k,Bo k,if_pos (show decide ((-1:Int)<0)=true from rfl),aQ (by simp;omega)];simp only[aa]
    rw[aQ (by simp;omega)];rfl) (by
  unfold df
  simp only
  rw[if_neg (by simp;omega)]) (rH (by omega))
 rw[show (keys a c).take n=keys a c from List.take_of_length_le (by rw[dy];omega)] at this
 exact aD this
end
end
section
variable {a:AutT} {n:Nat} (V:VA a n) (hn:n<=1000000)
include V hn
theorem Dh (s:Nat):(List.range (s+1)).map (fun s:Nat=>if nth (live a) (s:Int)=true then (if nth a.2.1 (s:Int)=true then (1:Int) else 0) else -1)=(List.range s).map (fun s:Nat=>if nth (live a) (s:Int)=true then (if nth a.2.1 (s:Int)=true then 1 else 0) else -1)++ [if nth (live a) (s:Int)=true then (if nth a.2.1 (s:Int)=true then 1 else 0) else -1]:=by simp[List.range_succ]
theorem Tn:aB (eL a (live a)) bg ([],0)=some (.brk (H3 a,(n:Int))):=by
 have hlen:=V.len
 have hll:(live a).length=n:=by rw[rE,hlen]
 have:=bK (f:=eL a (live a)) (fun s=>((List.range s).map (fun s:Nat=>if nth (live a) (s:Int)=true then (if nth a.2.1 (s:Int)=true then (1:Int) else 0) else -1),(s:Int))) n (fun s hs=>by
  unfold eL
  simp only
  rw[if_pos (by simp;omega),V.acc (by omega) (by omega)];simp only[aa]
  rw[Dh V hn,aK (xs:=live a) (by omega) (by omega)];simp only[aj (show s<9223372036854775807 by omega)]
  cases nth (live a) (s:Int) <;> cases nth a.2.1 (s:Int) <;> simp only[if_true,if_false,Bool.false_eq_true,aa] <;> rw[aQ (by simp;omega)] <;> rfl) (by
  unfold eL
  simp only
  rw[if_neg (by simp;omega)]) (rH (by omega))
 unfold H3
 rw[hlen]
 exact this
theorem To:aB (cm a (live a)) bg ([],0)=some (.brk (H3 a,(n:Int))):=by
 have hlen:=V.len
 have hll:(live a).length=n:=by rw[rE,hlen]
 have:=bK (f:=cm a (live a)) (fun s=>((List.range s).map (fun s:Nat=>if nth (live a) (s:Int)=true then (if nth a.2.1 (s:Int)=true then (1:Int) else 0) else -1),(s:Int))) n (fun s hs=>by
  unfold cm
  simp only
  rw[if_pos (by simp;omega),aK (xs:=live a) (by omega) (by omega)];simp only[aa]
  rw[Dh V hn,V.acc (by omega) (by omega)];simp only[aj (show s<9223372036854775807 by omega)]
  cases nth (live a) (s:Int) <;> cases nth a.2.1 (s:Int) <;> simp only[if_true,if_false,Bool.false_eq_true,aa] <;> rw[aQ (by simp;omega)] <;> rfl) (by
  unfold cm
  simp only
  rw[if_neg (by simp;omega)]) (rH (by omega))
 unfold H3
 rw[hlen]
 exact this
theorem Lm: ∃J,cI a (J+1)=cI a J/\gK a=some (cI a J):=by
 have hlen:=V.len
 unfold gK
 rw[show jz (a.1,a.2.1,a.2.2)=some (live a) from Po V hn];simp only[aa]
 rw[aD (Tn V hn)]
 obtain ⟨J0,hJ0,hfix⟩:=RB a
 obtain ⟨o,e,j,rfl,hj⟩:=cO (f:=jA a) (fun j s=>s=(cI a j,(j:Int))/\j<=J0) (fun o=> ∃j,o= .ret (cI a j)/\cI a (j+1)=cI a j) (J0+1) (s:=(cI a 0,0)) (by
  rintro j s hj ⟨rfl,hjJ⟩
  have hcl:(cI a j).length=n:=by rw[lN,hlen]
  unfold jA
  simp only
  rw[if_pos (by simp;omega),aD (Oa V hn hcl)]
  simp only
  obtain ⟨r,er,hr⟩:=Bq (zP a (cI a j)) (cI a j) (by rw[xU];omega)
  rw[er];simp only[aa,aj (show j<9223372036854775807 by omega)]
  by_cases h:zP a (cI a j)=cI a j
  ·exact .inr ⟨_,by rw[if_pos (by simpa using hr.2 h)],(fun s' e=>by cases e),j,rfl,h⟩
  ·refine .inl ⟨by omega,(cI a (j+1),((j+1:Nat):Int)),by rw[if_neg (by simpa using fun e=>h (hr.1 e))];rfl,rfl,?_⟩
   by_cases e:j=J0
   ·subst e;exact absurd hfix h
   ·omega) ⟨rfl,Nat.zero_le _⟩ (rH (by omega))
 exact ⟨j,hj,cv e⟩
theorem Ln: ∃J,cI a (J+1)=cI a J/\cX a=some (cI a J):=by
 have hlen:=V.len
 unfold cX
 rw[show dO (a.1,a.2.1,a.2.2)=some (live a) from Ta V hn];simp only[aa]
 rw[aD (To V hn)]
 let kk:Nat->Int:=fun j=>match j with | 0=> -1 | i+1=>(vP a (cI a i):Int)
 obtain ⟨o,e,j,rfl,hj⟩:=cO (f:=eR a) (fun j s=>s=(cI a j,kk j)/\(j:Int)<=kk j+1) (fun o=> ∃j,o= .ret (cI a j)/\cI a (j+1)=cI a j) (n+2) (s:=(cI a 0,-1)) (by
  rintro j s hj ⟨rfl,hjk⟩
  have hcl:(cI a j).length=n:=by rw[lN,hlen]
  have hle:=ER a (cI a j)
  unfold eR
  simp only
  rw[show de (a.1,a.2.1,a.2.2) (cI a j)=some (zP a (cI a j),(vP a (cI a j):Int)) from Ob V hn hcl];simp only[aa]
  cases j with
  | zero =>
   refine .inl ⟨by omega,(cI a 1,kk 1),by rw[if_neg (by show¬((vP a (cI a 0):Int) == -1)=true;simp)];rfl,rfl,?_⟩
   show (1:Int)<=(vP a (cI a 0):Int)+1
   omega
  | succ i =>
   obtain ⟨g1,g2⟩:=Lk a i
   have hki:kk (i+1)=(vP a (cI a i):Int):=rfl
   rw[hki] at hjk⊢
   by_cases h:vP a (cI a (i+1))=vP a (cI a i)
   ·refine .inr ⟨.ret (cI a (i+2)),by rw[if_pos (by simp[h])];rfl,(fun s' e=>by cases e),i+2,rfl,?_⟩
    have:=g2 h
    show zP a (cI a (i+2))=cI a (i+2)
    rw[this];exact this
   ·refine .inl ⟨?_,(cI a (i+2),kk (i+2)),by rw[if_neg (by simp;omega)];rfl,rfl,?_⟩
    ·omega
    ·show ((i+1+1:Nat):Int)<=(vP a (cI a (i+1)):Int)+1
     omega) ⟨rfl,by show ((0:Nat):Int)<= -1+1;omega⟩ (rH (by omega))
 exact ⟨j,hj,cv e⟩
theorem HQ: ∃c,gK a=some c/\cX a=some c/\c.length=n/\zP a c=c/\ ∃j,c=cI a j:=by
 obtain ⟨J,hJ,es⟩:=Lm V hn
 obtain ⟨J',hJ',ei⟩:=Ln V hn
 have:=Ll hJ hJ'
 exact ⟨cI a J,es,by rw[this];exact ei,by rw[lN,V.len],hJ,J,rfl⟩
end
end D
namespace D
open Go.RowKit
section
variable {κ:Type} [DecidableEq κ] [Inhabited κ] {nx:κ->List (Option κ)} {first:κ} {G:κ->Prop} {B N:Nat} {acc:κ->Bool}
theorem xX: ∀(l:List κ) (os:List (Option κ)),∀t∈nbR l os,-1<=t/\t<((nbS l os).length:Int)
 | l,[] =>fun t ht=>by cases ht
 | l,o::os=>fun t ht=>by
  have hp:=jH (nbL l o) os
  have hl:=hp.length_le
  rcases aA ht with rfl | ht
  ·show -1<=nbI l o/\nbI l o<((nbS (nbL l o) os).length:Int)
   cases o with
   | none=>exact ⟨by simp[nbI],by simp only[nbI];omega⟩
   | some y =>
    by_cases c:y∈l
    ·obtain ⟨q,hq,e,-⟩:=mC c
     rw[kC c] at hl
     rw[e];exact ⟨by omega,by rw[kC c];omega⟩
    ·rw[jI c] at hl
     rw[Bo c];rw[aq] at hl
     exact ⟨by omega,by rw[jI c];simp at hl;omega⟩
  ·exact xX (nbL l o) os t ht
theorem Tp (H:NumOk nx first G B) (hN:bfE nx first N):VA ((0,(bfS nx first N).map acc,bfR nx first N):AutT) N:=by
 have h0:0<N:=by
  have:=C7 (nx:=nx) (first:=first) N
  have:=(List.getElem?_eq_some_iff.1 this).1
  have:=hN.1;omega
 have key: ∀i,i<=N-> ∀r∈bfR nx first i,r.length=9/\ ∀t∈r,-1<=t/\t<(N:Int):=by
  intro i
  induction i with
  | zero=>intro _ r hr;cases hr
  | succ i ih =>
   intro hi r hr
   have hlt:=hN.2 i (by omega)
   rw[sJ hlt] at hr
   rcases aG hr with hr | hr
   ·exact ih (by omega) r hr
   ·obtain rfl:=aw hr
    refine ⟨by rw[dK,H.len _ (jk H.g0 H.gn i _ (List.getElem_mem hlt))],fun t ht=>?_⟩
    have:=xX _ _ t ht
    rw[<-A5 hlt] at this
    have hl:=(tW (nx:=nx) (first:=first) hi).length_le
    have:=hN.1
    omega
 exact ⟨by show ((bfS nx first N).map acc).length=N;rw[List.length_map];exact hN.1.symm,⟨Int.le_refl _,by show (0:Int)<N;omega⟩,iA hN.2,fun r hr=>(key N (az _) r hr).1,fun r hr=>(key N (az _) r hr).2⟩
theorem RC (hlen: ∀x,(nx x).length=9) (hN:bfE nx first N):VA ((0,(bfS nx first N).map acc,bfR nx first N):AutT) N:=by
 have h0:0<N:=by
  have:=C7 (nx:=nx) (first:=first) N
  have:=(List.getElem?_eq_some_iff.1 this).1
  have:=hN.1;omega
 have key: ∀i,i<=N-> ∀r∈bfR nx first i,r.length=9/\ ∀t∈r,-1<=t/\t<(N:Int):=by
  intro i
  induction i with
  | zero=>intro _ r hr;cases hr
  | succ i ih =>
   intro hi r hr
   have hlt:=hN.2 i (by omega)
   rw[sJ hlt] at hr
   rcases aG hr with hr | hr
   ·exact ih (by omega) r hr
   ·obtain rfl:=aw hr
    refine ⟨by rw[dK,hlen _],fun t ht=>?_⟩
    have:=xX _ _ t ht
    rw[<-A5 hlt] at this
    have hl:=(tW (nx:=nx) (first:=first) hi).length_le
    have:=hN.1
    omega
 exact ⟨by show ((bfS nx first N).map acc).length=N;rw[List.length_map];exact hN.1.symm,⟨Int.le_refl _,by show (0:Int)<N;omega⟩,iA hN.2,fun r hr=>(key N (az _) r hr).1,fun r hr=>(key N (az _) r hr).2⟩
end
theorem VA.self {a:AutT} {n:Nat} (v:VA a n):VA a a.2.1.length:=by
 have e:=v.len
 subst e
 exact v
theorem HS:VA nothing 1:=⟨rfl,⟨by decide,by decide⟩,rfl,fun r hr=>by
 obtain rfl:=aw hr
 decide,fun r hr=>by
 obtain rfl:=aw hr
 decide⟩
end D
namespace D
open Go.RowKit
theorem RD {l:List Int} {x:Int} (hl:l.length<=1000000) (hx:x∈l):a7 x l=some (nbI l (some x)):=by
 unfold a7 dE
 obtain ⟨o,e,hq⟩:=cO (f:=c8 l x) (fun k s=>s=(k:Int)/\x∉l.take k) (fun o=>o= .ret (nbI l (some x))) l.length (s:=0) (by
  rintro k s hk ⟨rfl,hx'⟩
  unfold c8
  by_cases hkl:k<l.length
  ·rw[if_pos (by simp;omega),aK (by omega) (by omega)];simp only[aa]
   by_cases h:nth l (k:Int)=x
   ·refine .inr ⟨_,by rw[if_pos (by simp[h])],(fun s' e=>by cases e),?_⟩
    have e:l=l.take k++(x::l.drop (k+1)):=by
     rw[<-h,b8 hkl,<-List.drop_eq_getElem_cons hkl,List.take_append_drop]
    rw[Dg e hx',aC,Nat.min_eq_left (by omega)]
   ·have h': ¬x=nth l (k:Int):=fun e=>h e.symm
    refine .inl ⟨hkl,_,by rw[if_neg (by simpa using h')],by rw[aj (by omega)],?_⟩
    rw[take_one hkl,List.mem_append,List.mem_singleton]
    rintro (h' | h')
    ·exact hx' h'
    ·exact h h'.symm
  ·rw[List.take_of_length_le (by omega)] at hx'
   exact absurd hx hx') ⟨rfl,by simp⟩ (rH (by omega))
 subst hq
 rw[cv e];rfl
section
variable {a:AutT} {n:Nat}
def rep (c:List Int) (x:Int):Int:=nbI c (some x)
theorem Lo {c:List Int} {x:Int} (h:x∈c):0<=rep c x/\rep c x<c.length/\nth c (rep c x)=x:=by
 obtain ⟨q,hq,e1,e2⟩:=mC h
 unfold rep
 rw[e1]
 exact ⟨by omega,by omega,by rw[b8 hq,e2]⟩
theorem HT (V:VA a n) (hn:n<=1000000): ∃r,fT a=some r/\cK a=some r/\Data.sm r/\VA r r.2.1.length/\r.2.1.length<=n:=by
 have hlen:=V.len
 have hst:=V.start
 have hll:(live a).length=n:=by rw[rE,hlen]
 obtain ⟨c,es,ei,hcl,hfix,j,hj⟩:=HQ V hn
 have hneg: ∀s:Int,0<=s->s<n->(nth c s<0↔nth (live a) s=false):=fun s h0 h1=>by
  have:=(zQ a (s:=s.toNat) (by omega) j).1
  rw[<-hj,show ((s.toNat:Nat):Int)=s from by omega] at this
  exact this
 have hlt: ∀s:Int,0<=s->s<n->nth c s<n:=fun s h0 h1=>by
  have:=Rz (c:=c) (a:=a) (s:=s.toNat) (by omega)
  rw[hfix,hlen,show ((s.toNat:Nat):Int)=s from by omega] at this
  exact this
 have hpos: ∀r,good n (live a) r->0<=nth c r:=fun r hr=>by
  have:=hneg r hr.1 hr.2.1
  by_cases k:nth c r<0
  ·have:=this.1 k;rw[hr.2.2] at this;cases this
  ·omega
 have hkey: ∀r t:Int,0<=r->r<n->0<=t->t<n->0<=nth c r->nth c r=nth c t->Br a c r=Br a c t:=fun r t r0 r1 t0 t1 h0 h=>by
  have:=Lj (a:=a) (c:=c) (s:=r.toNat) (t:=t.toNat) (by omega) (by omega) (by rw[hfix,show ((r.toNat:Nat):Int)=r from by omega];exact h0) (by rw[hfix,show ((r.toNat:Nat):Int)=r from by omega,show ((t.toNat:Nat):Int)=t from by omega];exact h)
  rwa [show ((r.toNat:Nat):Int)=r from by omega,show ((t.toNat:Nat):Int)=t from by omega] at this
 have hacc: ∀r t:Int,0<=r->r<n->0<=t->t<n->0<=nth c r->nth c r=nth c t->nth a.2.1 r=nth a.2.1 t:=fun r t r0 r1 t0 t1 h0 h=>by
  have:=Pv a (s:=r.toNat) (t:=t.toNat) (by omega) (by omega) j (by rw[<-hj,show ((r.toNat:Nat):Int)=r from by omega];exact h0) (by rw[<-hj,show ((r.toNat:Nat):Int)=r from by omega,show ((t.toNat:Nat):Int)=t from by omega];exact h)
  rwa [show ((r.toNat:Nat):Int)=r from by omega,show ((t.toNat:Nat):Int)=t from by omega] at this
 have hsuccs: ∀r,good n (live a) r->ub a c (live a) r=(List.range 9).map fun k=>if 0<=ent a c r k then some (ent a c r k) else none:=fun r hr=>by
  refine List.map_congr_left fun k hk=>?_
  have hk:k<9:=List.mem_range.1 hk
  have hm:=V.mv hr.1 hr.2.1 hk
  unfold ent
  by_cases h:mv a r k<0
  ·rw[if_pos h,if_neg (fun h'=>by omega),if_neg (by omega)]
  ·rw[if_neg h]
   have:=hneg (mv a r k) (by omega) hm.2
   cases hl:nth (live a) (mv a r k) with
   | false =>
    have:=this.2 hl
    rw[if_neg (fun h'=>by cases h'.2),if_neg (by omega)]
   | true =>
    have: ¬nth c (mv a r k)<0:=fun h'=>by have:=this.1 h';rw[hl] at this;cases this
    rw[if_pos ⟨by omega,rfl⟩,if_pos (by omega)]
 have hent: ∀r t:Int,Br a c r=Br a c t-> ∀k,k<9->ent a c r k=ent a c t k:=fun r t h k hk=>by
  have h:(List.range 9).map (fun k=>ent a c r k)=(List.range 9).map (fun k=>ent a c t k):=by unfold Br at h;injection h
  have:=congrArg (fun l:List Int=>l[k]?) h
  simpa [hk] using this
 let nx:Int->List (Option Int):=fun x=>ub a c (live a) (rep c x)
 let acc:Int->Bool:=fun x=>nth a.2.1 (rep c x)
 let G:Int->Prop:=fun x=> ∃r,good n (live a) r/\nth c r=x
 have Gm: ∀x,G x->x∈c/\0<=x/\good n (live a) (rep c x):=by
  rintro x ⟨r,hr,rfl⟩
  have hm:nth c r∈c:=jj hr.1 (by rw[hcl];exact hr.2.1)
  obtain ⟨h0,h1,h2⟩:=Lo hm
  have hp:=hpos r hr
  refine ⟨hm,hp,h0,by omega,?_⟩
  have:=hneg (rep c (nth c r)) h0 (by omega)
  rw[h2] at this
  cases hl:nth (live a) (rep c (nth c r)) with
  | true=>rfl
  | false=>have:=this.2 hl;omega
 have hnx: ∀r,good n (live a) r->nx (nth c r)=ub a c (live a) r:=fun r hr=>by
  obtain ⟨hm,hp,hg⟩:=Gm _ ⟨r,hr,rfl⟩
  obtain ⟨h0,h1,h2⟩:=Lo hm
  show ub a c (live a) (rep c (nth c r))=_
  rw[hsuccs _ hg,hsuccs _ hr]
  refine List.map_congr_left fun k hk=>?_
  rw[hent _ _ (hkey _ _ hg.1 hg.2.1 hr.1 hr.2.1 (by rw[h2];exact hp) h2) k (List.mem_range.1 hk)]
 have hac: ∀r,good n (live a) r->acc (nth c r)=nth a.2.1 r:=fun r hr=>by
  obtain ⟨hm,hp,hg⟩:=Gm _ ⟨r,hr,rfl⟩
  obtain ⟨h0,h1,h2⟩:=Lo hm
  exact hacc _ _ hg.1 hg.2.1 hr.1 hr.2.1 (by rw[h2];exact hp) h2
 have hgn: ∀r,good n (live a) r-> ∀y,some y∈ub a c (live a) r->G y:=fun r hr y h=>by
  obtain ⟨k,hk,e⟩:=List.mem_map.1 h
  have hk:k<9:=List.mem_range.1 hk
  split at e
  ·rename_i hc
   exact ⟨mv a r k,⟨hc.1,(V.mv hr.1 hr.2.1 hk).2,hc.2⟩,ae e⟩
  ·cases e
 unfold fT cK
 simp only[eT]
 rw[es,ei,Po V hn];simp only[aa]
 rw[aK hst.1 (by omega)];simp only[aa]
 cases hs:nth (live a) a.1 with
 | false =>
  have:=(hneg a.1 hst.1 hst.2).2 hs
  rw[EM V hll hs,if_pos (by simpa using this),Ld]
  exact ⟨nothing,rfl,rfl,HO,HS,V.pos⟩
 | true =>
  have hst':good n (live a) a.1:=⟨hst.1,hst.2,hs⟩
  have hp:=hpos _ hst'
  have H:NumOk nx (nth c a.1) G n:=⟨⟨a.1,hst',rfl⟩,fun x hx y hy=>hgn _ (Gm x hx).2.2 y hy,fun x hx=>by simp[nx,ub],fun l hd h=>HM n l hd fun x hx=>by
   obtain ⟨r,hr,rfl⟩:=h x hx
   exact ⟨hpos r hr,hlt r hr.1 hr.2.1⟩⟩
  obtain ⟨N,hN,e1⟩:=Tc (acc:=acc) V hn hcl hll hs H hn hnx hac
  have hfirst: ∀x,G x->a7 x c=some (rep c x):=fun x hx=>RD (by omega) (Gm x hx).1
  obtain ⟨N',hN',e2⟩:=Tb (most:=(c.length:Int)) (p2:=fun a0=>cn a0 (a.1,a.2.1,a.2.2) (fun a0=>a7 a0 c)) (p3:=fun a0 a1=>cq a0 a1 (a.1,a.2.1,a.2.2) (fun a0=>a7 a0 c) c) (acc:=acc) H hn (by omega) (fun x hx=>Ti hn (Gm x hx).2.1 (by
    obtain ⟨r,hr,rfl⟩:=hx
    exact hlt r hr.1 hr.2.1)) (fun x hx=>by
   show cn x (a.1,a.2.1,a.2.2) (fun a0=>a7 a0 c)=_
   unfold cn
   simp only
   rw[hfirst x hx];simp only[aa]
   rw[V.acc (Gm x hx).2.2.1 (Gm x hx).2.2.2.1];rfl) (fun x k hx hk=>by
   obtain ⟨hm,hx0,hg⟩:=Gm x hx
   have hm':=V.mv hg.1 hg.2.1 hk
   refine ⟨0,?_⟩
   show cq x k (a.1,a.2.1,a.2.2) (fun a0=>a7 a0 c) c=_
   unfold cq
   simp only
   rw[hfirst x hx];simp only[aa]
   rw[show dP (a.1,a.2.1,a.2.2) (rep c x) k=some (mv a (rep c x) k) from SW V hg.1 hg.2.1 hk];simp only[aa]
   show _=some (match nth (ub a c (live a) (rep c x)) (k:Int) with | some y=>(y,true) | none=>(0,false))
   rw[Gp hk]
   by_cases h:mv a (rep c x) k<0
   ·rw[if_pos (by simpa using h),if_neg (fun h'=>by omega)]
   ·rw[if_neg (by simpa using h),aK (by omega) (by omega)];simp only[aa]
    have hng:=hneg (mv a (rep c x) k) (by omega) hm'.2
    cases hl:nth (live a) (mv a (rep c x) k) with
    | false =>
     have:=hng.2 hl
     rw[if_pos (by simpa using this),if_neg (fun h'=>by cases h'.2)]
    | true =>
     have: ¬nth c (mv a (rep c x) k)<0:=fun h'=>by have:=hng.1 h';rw[hl] at this;cases this
     rw[if_neg (by simpa using this),if_pos ⟨by omega,rfl⟩])
  obtain rfl:=NH hN hN'
  have v:=Tp (acc:=acc) H hN
  refine ⟨_,by rw[e1];rfl,?_,Tj H hn hN,v.self,?_⟩
  rotate_left
  ·rw[v.len,hN.1];exact H.bound _ (lJ N) (jk H.g0 H.gn N)
  rw[if_neg (by simp;omega)]
  exact (congrArg (fun x=>Option.bind x _) e2).trans rfl
theorem Oc (V:VA a n) (hn:n<=1000000): ∃r,fT a=some r/\cK a=some r/\Data.sm r:=by
 obtain ⟨r,h1,h2,h3,-⟩:=HT V hn
 exact ⟨r,h1,h2,h3⟩
end
end D
namespace D
open Go.RowKit
theorem Bt:Data.sm ((0,[],[]):AutT):=⟨trivial,⟨by decide,fun _ h=>by cases h⟩,by decide,fun _ h=>by cases h⟩
theorem Lp {κ:Type} [DecidableEq κ] {nx:κ->List (Option κ)} {first:κ} {acc:κ->Bool} {most:Nat} : ∀(f i:Nat),(∀j,j<i->j<(bfS nx first j).length)->(bfS nx first i).length<=most->goM nx first acc most f i=((0,[],[]),false)\/ ∃N,bfE nx first N/\N<=most/\goM nx first acc most f i=((0,(bfS nx first N).map acc,bfR nx first N),true)
 | 0,i,_,_=>.inl rfl
 | f+1,i,h,hl=>by
  have hle:=Bn h
  rw[goM]
  by_cases c:i<(bfS nx first i).length
  ·rw[if_pos c]
   by_cases d:(bfS nx first (i+1)).length>most
   ·rw[if_pos d];exact .inl rfl
   ·rw[if_neg d]
    exact Lp f (i+1) (fun j hj=>by
     by_cases e:j=i
     ·subst e;exact c
     ·exact h j (by omega)) (by omega)
  ·rw[if_neg c]
   exact .inr ⟨i,⟨by omega,h⟩,by omega,by rw[List.take_of_length_le (by omega)]⟩
theorem Di {e:List Tok} (he:e.length<=1048576): ∃r:AutT×Bool,fU e=some r/\gb e=some r/\Data.sm r.1:=by
 obtain ⟨⟨p,b⟩,e1,e2,h1,h2⟩:=rF he
 have h1:p.2.2.2.1.length=p.1.length:=h1
 have h2:p.1.length<=100000:=h2
 unfold fU gb
 rw[e1,e2];simp only[aa,eT]
 cases b with
 | false=>exact ⟨((0,[],[]),false),rfl,rfl,Bt⟩
 | true =>
  have d1:=Uz (p:=p) (most:=200) h1 (by omega) (by omega) (by omega)
  have d2:=Uy (p:=p) (most:=200) h1 (by omega) (by omega) (by omega)
  have d1:gH p 200=_:=d1
  have d2:fY p 200=_:=d2
  rw[d1,d2];simp only[if_true,aa]
  rcases Lp (nx:=nxS p) (first:=1) (acc:=sR p) (most:=200) (200+2) 0 (fun j hj=>by omega) (by simp[bfS]) with e | ⟨N,hN,hNm,e⟩
  ·rw[e]
   exact ⟨((0,[],[]),false),rfl,rfl,Bt⟩
  ·rw[e];simp only[if_true]
   have V:=RC (acc:=sR p) (Bm p) hN
   obtain ⟨r,es,ei,hr⟩:=Oc V (by omega)
   unfold wV
   rw[es];simp only[aa,eT]
   rw[ei];simp only[aa,eT]
   by_cases c:(r.2.1.length:Int)>12
   ·have c':decide ((r.2.1.length:Int)>12)=true:=decide_eq_true c
    simp only[c',if_true,aa]
    exact ⟨((0,[],[]),false),rfl,rfl,Bt⟩
   ·have c':decide ((r.2.1.length:Int)>12)=false:=decide_eq_false c
    simp only[c',Bool.false_eq_true,if_false,aa]
    exact ⟨(r,true),rfl,rfl,hr⟩
theorem ES {e:List Tok} (he:e.length<=1048576): ∃r:AutT×Bool,fU e=some r/\gb e=some r/\Data.sm r.1:=Di he
end D
set_option synthInstance.maxSize 20000
set_option synthInstance.maxHeartbeats 2000000
namespace D
open Go.RowKit
theorem xY (x y:AutT) (hx:Data.sm x):eO x y=some (decide (x=y)):=by
 obtain ⟨-,⟨ha,-⟩,hn,hr⟩:=hx
 unfold eO
 by_cases c1:x.1=y.1
 case neg=>rw[if_pos (by simpa using c1)];simp[Prod.ext_iff,c1]
 rw[if_neg (by simpa using c1)]
 by_cases c2:x.2.1.length=y.2.1.length
 case neg=>rw[if_pos (by simp;omega)];simp[Prod.ext_iff];exact fun _ e=>absurd (by rw[e]) c2
 rw[if_neg (by simp;omega)]
 by_cases c3:x.2.2.length=y.2.2.length
 case neg=>rw[if_pos (by simp;omega)];simp[Prod.ext_iff];exact fun _ _ e=>absurd (by rw[e]) c3
 rw[if_neg (by simp;omega)]
 rw[eqB (f:=eA x y) x.2.1 y.2.1 (by omega) c2 (fun i h h'=>by
  simp only[eA,bO h,if_true,aF h,aF h',aa,aj (show i<9223372036854775807 by omega)]
  by_cases c:x.2.1[i] =y.2.1[i] <;> simp[c]) (by simp only[eA,bG];rfl)]
 by_cases c4:x.2.1=y.2.1
 case neg=>rw[if_neg c4];simp[Prod.ext_iff,c4]
 rw[if_pos c4]
 rw[eqB (f:=eB x y) x.2.2 y.2.2 (by omega) c3 (fun i h h'=>by
  obtain ⟨r,e,hr'⟩:=Bq x.2.2[i] y.2.2[i] ((hr _ (List.getElem_mem h)).1)
  simp only[eB,bO h,if_true,aF h,aF h',aa,aj (show i<9223372036854775807 by omega),e]
  by_cases c:x.2.2[i] =y.2.2[i]
  ·rw[if_neg (by simpa using hr'.2 c),if_pos c]
  ·rw[if_pos (by simpa using fun e=>c (hr'.1 e)),if_neg c]) (by simp only[eB,bG];rfl)]
 by_cases c5:x.2.2=y.2.2
 ·rw[if_pos c5];simp[Prod.ext_iff,c1,c4,c5]
 ·rw[if_neg c5];simp[Prod.ext_iff,c5]
theorem Od (xs ys:List Bool) (hN:xs.length<=9223372036854775807):dh xs ys=some (decide (xs=ys)):=
 eqL (f:=bT xs ys) xs ys hN (fun i h h'=>by
  simp only[bT,bO h,if_true,aF h,aF h',aa,aj (show i<9223372036854775807 by omega)]
  by_cases c:xs[i] =ys[i] <;> simp[c]) (by simp only[bT,bG];rfl)
theorem xZ (x y:AutT) (hx:Data.sm x):dn x y=some (decide (x=y)):=by
 obtain ⟨-,⟨ha,-⟩,hn,hr⟩:=hx
 unfold dn
 by_cases c1:x.1=y.1
 case neg=>rw[if_neg (by simpa using c1)];simp[Prod.ext_iff,c1]
 rw[if_pos (by simpa using c1),Od _ _ (by omega)];simp only[aa]
 by_cases c2:x.2.1=y.2.1
 case neg=>rw[if_neg (by simpa using c2)];simp[Prod.ext_iff,c2]
 rw[if_pos (by simpa using c2)]
 have:bD x.2.2 y.2.2 (fun a0 a1=>fh a0 a1)=some (decide (x.2.2=y.2.2)):=
  eqL (f:=aW x.2.2 y.2.2 _) x.2.2 y.2.2 (by omega) (fun i h h'=>by
   simp only[aW,bO h,if_true,aF h,aF h',aa,aj (show i<9223372036854775807 by omega),fh]
   rw[xT _ _ (by have:x.2.2[i].length<=1048576:=(hr _ (List.getElem_mem h)).1;omega)];simp only[aa]
   by_cases c:x.2.2[i] =y.2.2[i] <;> simp[c]) (by simp only[aW,bG];rfl)
 rw[this]
 by_cases c3:x.2.2=y.2.2 <;> simp[Prod.ext_iff,c1,c2,c3]
abbrev QT:=Int×List Tok×Int
abbrev Lq:=List AutT×List QT
theorem Oe (x y:List Tok) (hx:x.length<=1048576):jR x y=some (decide (x=y)):=by
 unfold jR
 exact eqL (f:=gq x y) x y (by omega) (fun i h h'=>by
  simp only[gq,bO h,if_true,aF h,aF h',aa,eT,aj (show i<9223372036854775807 by omega)]
  refine eS ?_;simp only[Bool.and_true,ai,beq_iff_eq];exact Vd) (by simp only[gq,bG];rfl)
theorem Lr (x y:List Tok) (hx:x.length<=1048576):bX x y=some (decide (x=y)):=by
 unfold bX
 exact eqL (f:=bN x y) x y (by omega) (fun i h h'=>by
  simp only[bN,bO h,if_true,aF h,aF h',aa,eT,aj (show i<9223372036854775807 by omega)]
  refine eS ?_;simp only[Bool.and_true,ai,beq_iff_eq];exact Vd) (by simp only[bN,bG];rfl)
theorem Of (x y:List Tok) (hx:x.length<=1048576):jX x y=some (decide (x=y)):=by
 unfold jX
 rw[Lr x y hx];rfl
theorem Bu (x y:Lq) (hx:Data.sm x):fb x y=some (decide (x=y)):=by
 obtain ⟨⟨ha,hA⟩,hq,hQ⟩:=hx
 unfold fb
 by_cases h1:x.1.length=y.1.length
 ·by_cases h2:x.2.length=y.2.length
  ·rw[if_neg (by rw[h1];simp),if_neg (by rw[h2];simp)]
   rw[eqB (f:=dA x y) x.1 y.1 (by omega) h1 (fun i h h'=>by
    simp only[dA,bO h,if_true,aF h,aF h',aa,eT,xY x.1[i] y.1[i] (hA _ (List.getElem_mem h)),aj (show i<9223372036854775807 by omega)]
    exact eS (by simp)) (by simp only[dA,bG];rfl)]
   rw[eqB (f:=dB x y) x.2 y.2 (by omega) h2 (fun i h h'=>by
    have e:=Oe x.2[i].2.1 y.2[i].2.1 (hQ _ (List.getElem_mem h)).2.1.1
    simp only[dB,bO h,if_true,aF h,aF h',aa,e,aj (show i<9223372036854775807 by omega)]
    generalize x.2[i] =u;generalize y.2[i] =v
    by_cases e1:u.1=v.1 <;> by_cases e2:u.2.1=v.2.1 <;> by_cases e3:u.2.2=v.2.2 <;> simp[Prod.ext_iff,e1,e2,e3]) (by simp only[dB,bG];rfl)]
   by_cases e1:x.1=y.1 <;> by_cases e2:x.2=y.2 <;> simp[Prod.ext_iff,e1,e2]
  ·have:x.2≠y.2:=fun e=>h2 (by rw[e])
   rw[if_neg (by rw[h1];simp),if_pos (by simp;omega)];simp[Prod.ext_iff,this]
 ·have:x.1≠y.1:=fun e=>h1 (by rw[e])
  rw[if_pos (by simp;omega)];simp[Prod.ext_iff,this]
theorem HU (x y:QT) (hx:Data.sm x):fy x y=some (decide (x=y)):=by
 unfold fy
 rw[Of x.2.1 y.2.1 hx.2.1.1];simp only[aa]
 by_cases h1:x.1=y.1 <;> by_cases h2:x.2.1=y.2.1 <;> by_cases h3:x.2.2=y.2.2 <;> simp[Prod.ext_iff,h1,h2,h3]
theorem Bv (x y:Lq) (hx:Data.sm x):fj x y=some (decide (x=y)):=by
 obtain ⟨⟨ha,hA⟩,hq,hQ⟩:=hx
 unfold fj
 have e:aU x.1 y.1 (fun a0 a1=>dn a0 a1)=some (decide (x.1=y.1)):=
  eqL (f:=aL x.1 y.1 _) x.1 y.1 (by omega) (fun i h h'=>by
   simp only[aL,bO h,if_true,aF h,aF h',aa,eT,aj (show i<9223372036854775807 by omega),xZ x.1[i] y.1[i] (hA _ (List.getElem_mem h))]
   exact eS (by simp)) (by simp only[aL,bG];rfl)
 have e':aR x.2 y.2 (fun a0 a1=>fy a0 a1)=some (decide (x.2=y.2)):=
  eqL (f:=aJ x.2 y.2 _) x.2 y.2 (by omega) (fun i h h'=>by
   simp only[aJ,bO h,if_true,aF h,aF h',aa,eT,aj (show i<9223372036854775807 by omega),HU x.2[i] y.2[i] (hQ _ (List.getElem_mem h))]
   exact eS (by simp)) (by simp only[aJ,bG];rfl)
 rw[e,e'];simp only[aa]
 by_cases h1:x.1=y.1 <;> by_cases h2:x.2=y.2 <;> simp[Prod.ext_iff,h1,h2]
theorem qq {R S:Type} {f g:S->Option (Out R S)} (Inv:Nat->S->Prop) (h: ∀i s,Inv i s->g s=f s/\ ∀s',f s=some (.nxt s')->Inv (i+1) s'): ∀(k i:Nat) (s:S),Inv i s->aB g k s=aB f k s
 | 0,_,_,_=>rfl
 | k+1,i,s,hI=>by
  obtain ⟨h1,h2⟩:=h i s hI
  rw[aB,aB,h1]
  cases e:f s with
  | none=>rfl
  | some o =>
   cases o with
   | nxt s'=>exact qq Inv h k (i+1) s' (h2 s' e)
   | brk s'=>rfl
   | ret r=>rfl
theorem Gu {f g:Int->Option (Out Int Int)} (N:Nat) (hN:N<=1048576) (h: ∀i:Nat,i<N->f (i:Int)=some (.ret (i:Int))\/f (i:Int)=some (.nxt ((i+1:Nat):Int))) (he:f (N:Int)=some (.brk (N:Int))) (hfg: ∀i:Nat,i<=N->g (i:Int)=f (i:Int)) :
  ∃r:Int,aV (aB f bg 0) (fun r=>some r) (fun _=>some (-1))=some r/\aV (aB g bg 0) (fun r=>some r) (fun _=>some (-1))=some r/\(r= -1\/ ∃i:Nat,i<N/\r=(i:Int)):=by
 have hs:aB g bg 0=aB f bg 0:=qq (fun i s=>s=(i:Int)/\i<=N) (fun i s ⟨e,hi⟩=>by
  subst e
  refine ⟨hfg i hi,fun s' e=>?_⟩
  by_cases c:i<N
  ·rcases h i c with e2 | e2
   ·rw[e2] at e;cases e
   ·rw[e2] at e;cases e;exact ⟨rfl,c⟩
  ·obtain rfl:i=N:=by omega
   rw[he] at e;cases e) bg 0 0 ⟨rfl,Nat.zero_le _⟩
 rw[hs]
 obtain ⟨o,e,ho⟩:=cO (f:=f) (fun i s=>s=(i:Int)) (fun o=>o= .brk (N:Int)\/ ∃i:Nat,i<N/\o= .ret (i:Int)) N (fun i s hi hs=>by
  subst hs
  by_cases h1:i<N
  ·rcases h i h1 with h2 | h2
   ·exact .inr ⟨_,h2,(fun s' e=>by cases e),.inr ⟨i,h1,rfl⟩⟩
   ·exact .inl ⟨h1,_,h2,rfl⟩
  ·obtain rfl:i=N:=by omega
   exact .inr ⟨_,he,(fun s' e=>by cases e),.inl rfl⟩) (s:=0) rfl (gg _ (by omega))
 rw[e]
 rcases ho with rfl | ⟨i,hi,rfl⟩
 ·exact ⟨-1,rfl,rfl,.inl rfl⟩
 ·exact ⟨i,rfl,rfl,.inr ⟨i,hi,rfl⟩⟩
theorem HV (l:List AutT) (a:AutT) (hl:l.length<=1048576) (hs: ∀x∈l,Data.sm x) (ha:Data.sm a): ∃r:Int,kc l a=some r/\aX l (fun a0=>ke a0 a)=some r/\(r= -1\/ ∃i:Nat,i<l.length/\r=(i:Int)):=by
 unfold kc aX
 have hf: ∀i (h:i<l.length),fV l a (i:Int)=if l[i] =a then some (.ret (i:Int)) else some (.nxt ((i+1:Nat):Int)):=fun i h=>by
  simp only[fV,bO h,if_true,aF h,aa,eT,xY l[i] a (hs _ (List.getElem_mem h)),aj (show i<9223372036854775807 by omega)]
  by_cases c:l[i] =a <;> simp[c]
 refine Gu l.length hl (fun i h=>?_) (by simp only[fV,bG];rfl) (fun i hi=>?_)
 ·rw[hf i h];by_cases c:l[i] =a <;> simp[c]
 ·by_cases h:i<l.length
  ·rw[hf i h]
   simp only[bH,ke,bO h,if_true,aF h,aa,eT,xZ a l[i] ha,aj (show i<9223372036854775807 by omega)]
   by_cases c:l[i] =a
   ·simp[c]
   ·have: ¬a=l[i]:=fun e=>c e.symm
    simp[c,this]
  ·obtain rfl:i=l.length:=by omega
   simp only[fV,bH,bG];rfl
def ET (n i:Nat) (s:Int×List AutT×List QT):Prop:=s.1=(i:Int)/\i<=n/\s.2.2.length=i/\s.2.1.length<=i/\(∀a∈s.2.1,Data.sm a)/\ ∀q∈s.2.2,Data.sm q/\0<=q.2.2/\q.2.2<(s.2.1.length:Int)
theorem Gv {qs:List QT} (hq:Data.sm qs) {i:Nat} {s:Int×List AutT×List QT} (hI:ET qs.length i s):iX qs s=cS qs s /\
  ((i<qs.length/\ ∃s',cS qs s=some (.nxt s')/\ET qs.length (i+1) s')\/ ∃o,cS qs s=some o/\(∀s',o≠ .nxt s')/\(o= .ret (([],[]),false)\/o= .brk s/\i=qs.length)):=by
 obtain ⟨hn,hs⟩:=aZ hq
 obtain ⟨s1,A,Q⟩:=s
 obtain ⟨h1,h2,h3,h4,h5,h6⟩:=hI
 simp only at h1 h3 h4 h5 h6
 subst h1
 by_cases hi:i<qs.length
 ·have hqi:=hs _ (List.getElem_mem hi)
  obtain ⟨r,es,ei,hr⟩:=ES (e:=qs[i].2.1) hqi.2.1.1
  obtain ⟨k,ks,ki,hk⟩:=HV A r.1 (by omega) h5 hr
  have a1:di 56 A [r.1] =some (A++ [r.1]):=aQ (by simp;omega)
  have a2: ∀y,di 40 Q [y] =some (Q++ [y]):=fun y=>aQ (by simp;omega)
  have a3:jx qs[i].2.1=some qs[i].2.1:=by unfold jx;rw[aQ (by have:=hqi.2.1.1;simp;omega)];rfl
  have a4:kg qs[i].2.1=some qs[i].2.1:=by unfold kg;rw[aQ (by have:=hqi.2.1.1;simp;omega)];rfl
  unfold iX cS
  simp only[bO hi,if_true,aF hi,aa,es,ei,H2,Dm,eT,ks,ki,a1,a2,a3,a4,aj (show i<9223372036854775807 by omega)]
  by_cases c1:r.2=true
  case neg =>
   simp only[c1,Bool.false_eq_true,if_false]
   exact ⟨by first | trivial | rfl,.inr ⟨_,rfl,(fun s' e=>by cases e),.inl rfl⟩⟩
  simp only[c1,if_true]
  by_cases c2:1<=qs[i].1/\qs[i].1<=99
  case neg =>
   simp only[c2,decide_false,Bool.false_eq_true,if_false]
   exact ⟨by first | trivial | rfl,.inr ⟨_,rfl,(fun s' e=>by cases e),.inl rfl⟩⟩
  simp only[c2,decide_true,if_true]
  have fin: ∃s':Int×List AutT×List QT,(∀(y:Option (Out (Lq×Bool) (Int×List AutT×List QT))),True)/\(Option.bind (if decide (k<0) then some ((A.length:Int),A++ [r.1],Q) else some (k,A,Q)) fun s10:Int×List AutT×List QT=>(di 40 s10.2.2 [(qs[i].1,qs[i].2.1,s10.1)]).bind fun z18=>some (.nxt (((i+1:Nat):Int),s10.2.1,z18)):Option (Out (Lq×Bool) (Int×List AutT×List QT)))=some (.nxt s')/\ET qs.length (i+1) s':=by
   rcases hk with rfl | ⟨j,hj,rfl⟩
   ·refine ⟨(((i+1:Nat):Int),A++ [r.1],Q++ [(qs[i].1,qs[i].2.1,(A.length:Int))]),fun _=>trivial,?_,rfl,hi,by simp;omega,by simp;omega,fun a ha=>?_,fun q hq'=>?_⟩
    ·simp only[show decide ((-1:Int)<0)=true from rfl,if_true,aa,a2]
    ·simp only[List.mem_append,List.mem_singleton] at ha
     rcases ha with ha | rfl
     ·exact h5 a ha
     ·exact hr
    ·simp only[List.mem_append,List.mem_singleton] at hq'
     simp only[aq,List.length_singleton]
     rcases hq' with hq' | rfl
     ·obtain ⟨b1,b2,b3⟩:=h6 q hq'
      exact ⟨b1,b2,by omega⟩
     ·exact ⟨⟨trivial,hqi.2.1,trivial⟩,by simp,by simp;omega⟩
   ·refine ⟨(((i+1:Nat):Int),A,Q++ [(qs[i].1,qs[i].2.1,(j:Int))]),fun _=>trivial,?_,rfl,hi,by simp;omega,by simp only;omega,h5,fun q hq'=>?_⟩
    ·have:decide ((j:Int)<0)=false:=by simp
     simp only[this,Bool.false_eq_true,if_false,aa,a2]
    ·simp only[List.mem_append,List.mem_singleton] at hq'
     rcases hq' with hq' | rfl
     ·exact h6 q hq'
     ·exact ⟨⟨trivial,hqi.2.1,trivial⟩,by simp,by simp;omega⟩
  obtain ⟨s',-,e,hI'⟩:=fin
  by_cases c3:(i:Int)>0
  ·have hp:i - 1<qs.length:=by omega
   have hw:IntKind.i64.wrap ((i:Int) - 1)=((i - 1:Nat):Int):=by rw[nl (by omega)];omega
   simp only[c3,decide_true,if_true,hw,aF hp,aa]
   by_cases c4:qs[i - 1].1≥qs[i].1
   ·simp only[c4,decide_true,if_true]
    exact ⟨by first | trivial | rfl,.inr ⟨_,rfl,(fun s' e=>by cases e),.inl rfl⟩⟩
   ·simp only[c4,decide_false,Bool.false_eq_true,if_false]
    exact ⟨by first | trivial | rfl,.inl ⟨hi,s',e,hI'⟩⟩
  ·simp only[c3,decide_false,Bool.false_eq_true,if_false]
   exact ⟨by first | trivial | rfl,.inl ⟨hi,s',e,hI'⟩⟩
 ·obtain rfl:i=qs.length:=by omega
  unfold iX cS
  simp only[bG,Bool.false_eq_true,if_false]
  exact ⟨by first | trivial | rfl,.inr ⟨_,rfl,(fun s' e=>by cases e),.inr (by first | exact ⟨rfl,rfl⟩ | exact ⟨trivial,rfl⟩ | exact ⟨rfl,trivial⟩ | simp)⟩⟩
def RegOk (r:Lq):Prop:=Data.sm r/\ ∀q∈r.2,0<=q.2.2/\q.2.2<(r.1.length:Int)
theorem Og {qs:List QT} (hq:Data.sm qs): ∃r:Lq,∃b:Bool,lY qs=(if (qs.length:Int)>4 then some (([],[]),false) else some (r,b))/\qf qs=some (r,b&&decide ((qs.length:Int)<=4))/\RegOk r:=by
 have hn:=(aZ hq).1
 have h0:ET qs.length 0 (0,[],[]):=⟨rfl,Nat.zero_le _,rfl,az _,fun _ h=>(by cases h),fun _ h=>(by cases h)⟩
 have hs:aB (iX qs) bg (0,[],[])=aB (cS qs) bg (0,[],[]):=qq (ET qs.length) (fun i s hI=>by
  obtain ⟨e,h⟩:=Gv hq hI
  refine ⟨e,fun s' e'=>?_⟩
  rcases h with ⟨_,s2,e2,hI2⟩ | ⟨o,e2,hne,-⟩
  ·rw[e2] at e';cases e';exact hI2
  ·rw[e2] at e';cases e';exact absurd rfl (hne s')) bg 0 _ h0
 obtain ⟨o,e,ho⟩:=cO (f:=cS qs) (ET qs.length) (fun o=>o= .ret (([],[]),false)\/ ∃A Q,o= .brk ((qs.length:Int),A,Q)/\ET qs.length qs.length ((qs.length:Int),A,Q)) qs.length (fun i s hi hI=>by
  rcases (Gv hq hI).2 with h | ⟨o,e,hne,h⟩
  ·exact .inl h
  ·refine .inr ⟨o,e,hne,?_⟩
   rcases h with h | ⟨h,rfl⟩
   ·exact .inl h
   ·obtain ⟨s1,A,Q⟩:=s
    obtain ⟨rfl,-⟩:=id hI
    exact .inr ⟨A,Q,h,hI⟩) h0 (gg _ (by omega))
 unfold lY qf
 rw[hs,e]
 rcases ho with rfl | ⟨A,Q,rfl,-,-,h3,h4,h5,h6⟩
 ·refine ⟨([],[]),false,?_,rfl,⟨⟨Nat.zero_le _,fun _ h=>(by cases h)⟩,Nat.zero_le _,fun _ h=>(by cases h)⟩,fun _ h=>(by cases h)⟩
  by_cases c:(qs.length:Int)>4 <;> simp[c,aV]
 ·simp only at h3 h4 h5 h6
  refine ⟨(A,Q),true,?_,by simp[aV],⟨⟨show A.length<=1048576 by omega,h5⟩,show Q.length<=1048576 by omega,fun q h=>(h6 q h).1⟩,fun q h=>(h6 q h).2⟩
  by_cases c:(qs.length:Int)>4 <;> simp[c,aV]
theorem HW {r:Lq} (hr:Data.sm r): ∃b,fc r=some b/\fl r=some b/\(b=true->RegOk r):=by
 obtain ⟨x,b,e1,e2,hx⟩:=Og hr.2
 unfold fc fl
 rw[e1,e2]
 by_cases c:(r.2.length:Int)>4
 ·have c': ¬(r.2.length:Int)<=4:=by omega
  exact ⟨false,by simp[c],by simp[c'],fun e=>by cases e⟩
 ·have c':(r.2.length:Int)<=4:=by omega
  cases b with
  | false=>exact ⟨false,by simp[c],by simp,fun e=>by cases e⟩
  | true =>
   simp only[c,if_false,aa,if_true,c',decide_true,Bool.and_true,eT,Bu x r hx.1,Bv x r hx.1]
   exact ⟨_,rfl,rfl,fun e=>by rw[<-of_decide_eq_true e];exact hx⟩
end D
set_option synthInstance.maxSize 20000
set_option synthInstance.maxHeartbeats 2000000
namespace D
open Go.RowKit
abbrev RE:=Int×(List GrT)
abbrev UE:=Int×Int×Int
theorem zS {g:GrT} (hg:Data.sm g): ∃b,b9 g=some b:=by
 obtain ⟨b,e,_⟩:=NS g (aZ hg.1).1 (aZ hg.2).1
 exact ⟨b,e⟩
def okG (h:RE) (g:GrT):Prop:=b9 g=some true/\g.1=(nth h.2 0).1
instance (h g):Decidable (okG h g):=by unfold okG;infer_instance
theorem Ls (h:RE) (hh:Data.sm h): ∃b,m_s_IsValidHistory h=some b/\m_i_IsValidHistory h=some b/\(b=true->(1<=h.2.length/\h.2.length<=8)/\1<=h.1/\h.1<=1000 - (h.2.length:Int)):=by
 obtain ⟨hl,hs⟩:=aZ hh.2
 have ew:IntKind.i64.wrap ((IntKind.i64.wrap (999 - (h.2.length:Int)))+1)=1000 - (h.2.length:Int):=by
  rw[dY (n:=999 - (h.2.length:Int)) (by omega) (by omega),dY (by omega) (by omega)];omega
 have ks:=scan (f:=dL h) h.2 (okG h) false (by omega) (fun i hi=>by
  have hg:=hs _ (jj (xs:=h.2) (i:=(i:Int)) (by omega) (by omega))
  obtain ⟨b,e⟩:=zS hg
  obtain ⟨r,er,hr⟩:=Bq (nth h.2 (i:Int)).1 (nth h.2 0).1 (aZ hg.1).1
  have e':fw ((nth h.2 (i:Int)).1,(nth h.2 (i:Int)).2)=some b:=by rw[KW];exact e
  have hk:okG h (nth h.2 (i:Int))↔b=true/\(nth h.2 (i:Int)).1=(nth h.2 0).1:=by unfold okG;rw[e];simp
  unfold dL
  rw[if_pos (by simp;omega),aK (by omega) (by omega)];simp only[aa]
  rw[e',aK (xs:=h.2) (i:=0) (by omega) (by omega)];simp only[aa]
  rw[er,aj (by omega)];simp only[aa]
  cases b with
  | false=>rw[if_neg (by decide),if_neg (fun c=>by cases (hk.1 c).1)]
  | true =>
   rw[if_pos rfl]
   by_cases c:r=0
   ·rw[if_neg (by simp[c]),if_pos (hk.2 ⟨rfl,hr.1 c⟩)]
   ·rw[if_pos (by simpa using c),if_neg (fun k=>c (hr.2 (hk.1 k).2))]) (by unfold dL;simp)
 have ki:=scan (f:=dN h) h.2 (okG h) false (by omega) (fun i hi=>by
  have hg:=hs _ (jj (xs:=h.2) (i:=(i:Int)) (by omega) (by omega))
  obtain ⟨b,e⟩:=zS hg
  have er:=xT (nth h.2 (i:Int)).1 (nth h.2 0).1 (by have:=(aZ hg.1).1;omega)
  have e':b9 ((nth h.2 (i:Int)).1,(nth h.2 (i:Int)).2)=some b:=e
  have hk:okG h (nth h.2 (i:Int))↔b=true/\(nth h.2 (i:Int)).1=(nth h.2 0).1:=by unfold okG;rw[e];simp
  unfold dN
  rw[if_pos (by simp;omega),aK (by omega) (by omega)];simp only[aa]
  rw[e',aK (xs:=h.2) (i:=0) (by omega) (by omega)];simp only[aa]
  rw[er,aj (by omega)];simp only[aa]
  cases b with
  | false=>rw[if_neg (by decide),if_neg (fun c=>by cases (hk.1 c).1)]
  | true =>
   rw[if_pos rfl]
   by_cases c:(nth h.2 (i:Int)).1=(nth h.2 0).1
   ·rw[if_pos (decide_eq_true c),if_pos (hk.2 ⟨rfl,c⟩)]
   ·rw[if_neg (by simpa using c),if_neg (fun k=>c (hk.1 k).2)]) (by unfold dN;simp)
 unfold m_s_IsValidHistory m_i_IsValidHistory
 rw[H2,H2,Dm,Dm,ew];simp only[aa]
 by_cases c1:(1:Int)<=(h.2.length:Int)/\(h.2.length:Int)<=8
 ·by_cases c2:1<=h.1/\h.1<=1000 - (h.2.length:Int)
  ·rw[decide_eq_true c1,decide_eq_true c2];simp only[if_true]
   rcases ks with ⟨es,k1⟩ | ⟨es,k1⟩ <;> rcases ki with ⟨ei,k2⟩ | ⟨ei,k2⟩
   ·rw[aD es,aD ei]
    exact ⟨true,rfl,rfl,fun _=>⟨by omega,c2⟩⟩
   ·exact absurd k1 k2
   ·exact absurd k2 k1
   ·rw[cv es,cv ei]
    exact ⟨false,rfl,rfl,fun c=>by cases c⟩
  ·rw[decide_eq_true c1,decide_eq_false c2];simp only[if_true,Bool.false_eq_true,if_false]
   rcases ks with ⟨es,k1⟩ | ⟨es,k1⟩
   ·rw[aD es];exact ⟨false,rfl,rfl,fun c=>by cases c⟩
   ·rw[cv es];exact ⟨false,rfl,rfl,fun c=>by cases c⟩
 ·rw[decide_eq_false c1];simp only[Bool.false_eq_true,if_false]
  rcases ks with ⟨es,k1⟩ | ⟨es,k1⟩
  ·rw[aD es];exact ⟨false,rfl,rfl,fun c=>by cases c⟩
  ·rw[cv es];exact ⟨false,rfl,rfl,fun c=>by cases c⟩
def latV (h:RE):Int:=h.1+(h.2.length:Int) - 1
theorem Lt {h:RE} (hs:m_s_IsValidHistory h=some true) (hi:m_i_IsValidHistory h=some true) (k:(1<=h.2.length/\h.2.length<=8)/\1<=h.1/\h.1<=1000 - (h.2.length:Int)):cg h=some (latV h)/\gy h=some (latV h):=by
 unfold cg gy latV
 have hs:m_s_IsValidHistory (h.1,h.2)=_:=hs
 have hi:m_i_IsValidHistory (h.1,h.2)=_:=hi
 rw[hs,hi];simp only[aa,if_true]
 rw[dY (n:=h.1+(h.2.length:Int)) (by omega) (by omega),dY (by omega) (by omega)]
 exact ⟨rfl,rfl⟩
end D
set_option synthInstance.maxSize 20000
set_option synthInstance.maxHeartbeats 2000000
namespace D
open Go.RowKit
end D
set_option synthInstance.maxSize 20000
set_option synthInstance.maxHeartbeats 2000000
namespace D
open Go.RowKit
theorem Lu (r:Lq) (id:Int) (hl:r.2.length<=1048576): ∃k:Int,iR r id=some k/\iZ r id=some k/\(k= -1\/ ∃i:Nat,i<r.2.length/\k=(i:Int)):=by
 unfold iR iZ bL
 have hf: ∀i (h:i<r.2.length),dG r id (i:Int)=if r.2[i].1=id then some (.ret (i:Int)) else some (.nxt ((i+1:Nat):Int)):=fun i h=>by
  simp only[dG,bO h,if_true,aF h,aa,aj (show i<9223372036854775807 by omega)]
  by_cases c:r.2[i].1=id <;> simp[c]
 obtain ⟨k,e1,e2,h⟩:=Gu (f:=dG r id) (g:=bd r.2 fun a0=>iY a0 id) r.2.length hl (fun i h=>by
  rw[hf i h];by_cases c:r.2[i].1=id <;> simp[c]) (by simp only[dG,bG];rfl) (fun i hi=>by
  by_cases h:i<r.2.length
  ·rw[hf i h]
   simp only[bd,iY,bO h,if_true,aF h,aa,aj (show i<9223372036854775807 by omega)]
   by_cases c:r.2[i].1=id <;> simp[c]
  ·obtain rfl:i=r.2.length:=by omega
   simp only[dG,bd,bG];rfl)
 refine ⟨k,e1,?_,h⟩
 rw[e2];rfl
end D
set_option synthInstance.maxSize 20000
set_option synthInstance.maxHeartbeats 2000000
namespace D
open Go.RowKit
abbrev EngT:=RE×Lq×List UE×ByteArray
theorem Gw {h:RE} {r:Lq} {ss:List UE} {lg:ByteArray} {v:Int} (hs:cg h=some v) (hr:r.2.length<=1048576) (hn:ss.length<=1048576) {i:Nat} (h1:i<ss.length) :
  bW (h,r,ss,lg) v (i:Int)=cz (h,r,ss,lg) (i:Int)/\(cz (h,r,ss,lg) (i:Int)=some (.nxt ((i+1:Nat):Int))\/cz (h,r,ss,lg) (i:Int)=some (.ret false)):=by
 obtain ⟨k,k1,k2,-⟩:=Lu r ss[i].2.1 hr
 have hw:IntKind.i64.wrap ((i:Int)+1)=((i+1:Nat):Int):=aj (by omega)
 unfold bW cz
 simp only[eT,bO h1,if_true,aF h1,aa,H2,Dm,k1,k2,hs,hw]
 by_cases c:decide ((i:Int)>0)=true
 ·have g:aY ss (IntKind.i64.wrap ((i:Int) - 1))=some (nth ss ((i:Int) - 1)):=by
   have:(i:Int)>0:=of_decide_eq_true c
   rw[nl (by omega),aK (by omega) (by omega)]
  simp only[if_pos c,g,aa]
  refine ⟨trivial,?_⟩
  repeat' split
  all_goals first | exact .inr rfl | exact .inl rfl
 ·simp only[if_neg c]
  refine ⟨trivial,?_⟩
  repeat' split
  all_goals first | exact .inr rfl | exact .inl rfl
theorem Oh {h:RE} {r:Lq} {ss:List UE} {lg:ByteArray} {v:Int} (hs:cg h=some v) (hr:r.2.length<=1048576) (hn:ss.length<=1048576): ∃o,aB (cz (h,r,ss,lg)) bg 0=some o/\aB (bW (h,r,ss,lg) v) bg 0=some o/\(o= .ret false\/ ∃s,o= .brk s):=by
 have hend:cz (h,r,ss,lg) (ss.length:Int)=some (.brk (ss.length:Int)):=by
  unfold cz
  simp only[]
  rw[bG];rfl
 have hend2:bW (h,r,ss,lg) v (ss.length:Int)=some (.brk (ss.length:Int)):=by
  unfold bW
  simp only[]
  rw[bG];rfl
 obtain ⟨o,e,hQ⟩:=cO (f:=cz (h,r,ss,lg)) (fun i s=>s=(i:Int)) (fun o=>o= .ret false\/ ∃s,o= .brk s) ss.length (fun i s hi hI=>by
  subst hI
  by_cases h1:i<ss.length
  ·rcases (Gw (lg:=lg) hs hr hn h1).2 with k | k
   ·exact .inl ⟨h1,_,k,rfl⟩
   ·exact .inr ⟨_,k,fun s' h=>(by simp at h),.inl rfl⟩
  ·obtain rfl:i=ss.length:=by omega
   exact .inr ⟨_,hend,fun s' h=>(by simp at h),.inr ⟨_,rfl⟩⟩) (s:=(0:Int)) rfl (gg _ (by omega))
 refine ⟨o,e,?_,hQ⟩
 rw[<-e]
 refine qq (f:=cz (h,r,ss,lg)) (g:=bW (h,r,ss,lg) v) (fun i s=>s=(i:Int)/\i<=ss.length) (fun i s hI=>?_) bg 0 0 ⟨rfl,Nat.zero_le _⟩
 obtain ⟨rfl,hi⟩:=hI
 by_cases h1:i<ss.length
 ·obtain ⟨a,b⟩:=Gw (lg:=lg) hs hr hn h1
  refine ⟨a,fun s' hs'=>?_⟩
  rcases b with b | b
  ·rw[b] at hs'
   obtain rfl:=ae hs' |> Out.nxt.inj
   exact ⟨rfl,h1⟩
  ·rw[b] at hs';simp at hs'
 ·obtain rfl:i=ss.length:=by omega
  exact ⟨by rw[hend,hend2],fun s' hs'=>by rw[hend] at hs';simp at hs'⟩
structure EngOk (e:EngT):Prop where
 hs:m_s_IsValidHistory e.1=some true
 hi:m_i_IsValidHistory e.1=some true
 hb:(1<=e.1.2.length/\e.1.2.length<=8)/\1<=e.1.1/\e.1.1<=1000 - (e.1.2.length:Int)
 reg:RegOk e.2.1
 sub:e.2.2.1.length<=4
 log:e.2.2.2.size<=4000
 sc: ∃(r:List Int) (q:List (List ChT)) (n:Nat),m_s_ScanLog e.2.2.2=some (r,q,(n:Int))/\m_i_ScanLog e.2.2.2=some (r,q,(n:Int))/\r.length<=4000/\ScOk r q/\totL r q r.length<=4000/\(r.length=0\/nth r ((r.length:Int) - 1)=latV e.1)
theorem Oi (e:EngT) (he:Data.sm e): ∃b,gr e=some b/\gz e=some b/\(b=true->EngOk e):=by
 obtain ⟨h,r,ss,lg⟩:=e
 obtain ⟨sh,sr,ssb,slg⟩:=he
 obtain ⟨b1,e1,e2,k1⟩:=Ls h sh
 obtain ⟨b2,f1,f2,k2⟩:=HW sr
 have slg:lg.size<=1048576:=slg
 obtain ⟨l,rfl⟩:=Pa lg
 have hlz:(mkB l).size=l.length:=bF l
 have hl:l.length<=1048576:=by rw[<-hlz];exact slg
 unfold gr gz ra tC
 simp only[eT,e1,e2,f1,f2,aa,hlz]
 cases b1 with
 | false=>exact ⟨false,rfl,rfl,fun c=>by cases c⟩
 | true =>
  cases b2 with
  | false=>exact ⟨false,rfl,rfl,fun c=>by cases c⟩
  | true =>
   obtain ⟨l1,l2⟩:=Lt e1 e2 (k1 rfl)
   obtain ⟨o,o1,o2,ho⟩:=Oh (h:=h) (r:=r) (ss:=ss) (lg:=mkB l) l1 (aZ sr.2).1 (aZ ssb).1
   obtain ⟨vs,bs,n,g1,g2,g3,g4,g5,g6⟩:=pQ l (by omega)
   simp only[if_true,l1,l2,g1,g2,aa,o1,o2]
   by_cases c1:(ss.length:Int)<=4
   ·rw[if_neg (show¬decide ((ss.length:Int)>4)=true by rw[decide_eq_true_eq];omega),decide_eq_true c1]
    by_cases c2:(l.length:Int)<=4000
    ·rw[if_neg (show¬decide ((l.length:Int)>4000)=true by rw[decide_eq_true_eq];omega)]
     rcases ho with rfl | ⟨s,rfl⟩
     ·exact ⟨false,rfl,rfl,fun c=>by cases c⟩
     ·simp only[aV,if_true,aa]
      by_cases c3:((n:Int)==(l.length:Int))=true
      ·simp only[if_pos c3,if_pos (decide_eq_true c2)]
       by_cases c4:((vs.length:Int)==0)=true
       ·simp only[if_pos c4,aa]
        exact ⟨true,rfl,rfl,fun _=>⟨e1,e2,k1 rfl,k2 rfl,by show ss.length<=4;omega,by show (mkB l).size<=4000;omega,vs,bs,n,g1,g2,g4,g5,by omega,.inl (by have:=eq_of_beq c4;omega)⟩⟩
       ·have hp:0<vs.length:=by
         rcases Nat.eq_zero_or_pos vs.length with q | q
         ·exact absurd (by rw[q];rfl) c4
         ·exact q
        simp only[if_neg c4,nl (show vs.length<=9223372036854775807 by omega),aK (xs:=vs) (i:=(vs.length:Int) - 1) (by omega) (by omega),aa]
        refine ⟨_,rfl,rfl,fun c=>⟨e1,e2,k1 rfl,k2 rfl,by show ss.length<=4;omega,by show (mkB l).size<=4000;omega,vs,bs,n,g1,g2,g4,g5,by omega,.inr (eq_of_beq c)⟩⟩
      ·simp only[if_neg c3,aa]
       exact ⟨false,rfl,rfl,fun c=>by cases c⟩
    ·rw[if_pos (decide_eq_true (show (l.length:Int)>4000 by omega))]
     rcases ho with rfl | ⟨s,rfl⟩
     ·exact ⟨false,rfl,rfl,fun c=>by cases c⟩
     ·simp only[aV,if_true,aa]
      by_cases c3:((n:Int)==(l.length:Int))=true
      ·simp only[if_pos c3,if_neg (show¬decide ((l.length:Int)<=4000)=true by rw[decide_eq_true_eq];exact c2),aa]
       exact ⟨false,rfl,rfl,fun c=>by cases c⟩
      ·simp only[if_neg c3,aa]
       exact ⟨false,rfl,rfl,fun c=>by cases c⟩
   ·rw[if_pos (decide_eq_true (show (ss.length:Int)>4 by omega)),decide_eq_false c1]
    rcases ho with rfl | ⟨s,rfl⟩
    ·exact ⟨false,rfl,rfl,fun c=>by cases c⟩
    ·exact ⟨false,rfl,rfl,fun c=>by cases c⟩
end D
set_option synthInstance.maxSize 20000
set_option synthInstance.maxHeartbeats 2000000
namespace D
open Go.RowKit
theorem Lv (e:EngT) (he:Data.sm e) (n:Int): ∃k:Int,jd e n=some k/\je e n=some k:=by
 obtain ⟨b,es,ei,-⟩:=Oi e he
 obtain ⟨l,hl⟩:=Pa e.2.2.2
 have hz:e.2.2.2.size=l.length:=by rw[hl];exact bF l
 have hs:e.2.2.2.size<=1048576:=he.2.2.2
 unfold jd je
 simp only[eT,es,ei,aa,H2,Dm]
 cases b with
 | false =>
  by_cases c:0<=n/\n<=(e.2.2.2.size:Int)
  ·rw[decide_eq_true c];exact ⟨_,rfl,rfl⟩
  ·rw[decide_eq_false c];exact ⟨_,rfl,rfl⟩
 | true =>
  by_cases c:0<=n/\n<=(e.2.2.2.size:Int)
  ·rw[decide_eq_true c]
   simp only[if_true]
   obtain ⟨k,rfl⟩: ∃k:Nat,n=(k:Int):=⟨n.toNat,by omega⟩
   obtain ⟨v1,b1,n1,g1,g2,-⟩:=pQ l (by omega)
   obtain ⟨v2,b2,n2,f1,f2,-⟩:=pQ ((l.take k).drop 0) (by rw[aS,aC];omega)
   have hsl:mr (mkB l) 0 (k:Int)=some (mkB ((l.take k).drop 0)):=slB (l:=l) (a:=0) (b:=k) (by omega) (by omega)
   rw[hl,g1,g2]
   simp only[aa]
   rw[hsl]
   simp only[aa]
   rw[f1,f2]
   exact ⟨_,rfl,rfl⟩
  ·rw[decide_eq_false c];exact ⟨_,rfl,rfl⟩
theorem yP (x:EngT) (n:Int) (hx:Data.lim x) (hn:I64 n):dC x n=some true:=by
 unfold dC
 simp only[eT]
 obtain ⟨r1,e1,k1⟩:=HB x 1048576 hx (by decide) (by decide)
 rw[e1];simp only[aa]
 rcases k1 with k1 | ⟨k1,j1,s1⟩
 ·rw[if_pos (decide_eq_true k1)]
 rw[if_neg (by simpa using k1)]
 obtain ⟨k,es,ei⟩:=Lv x s1 n
 simp only[HE x s1,es,ei,HH x x s1 s1,aa,eT,decide_true,if_true]
 simp only[bne_self_eq_false,Bool.false_eq_true,if_false]
end D
open Go.ChangeShapes Go.WideShapes Go.ChangeAt Go.RowKit
theorem own:ownKnob Tryz.prog.godebug=none:=by kernel_rfl
theorem laidOut:laidOutB Tryz.prog=true:=by kernel_rfl
theorem sS {H:Type} {enc:TypeId×Value->H} {P:Program} (hl:laidOutB P=true) {W W':World} (hb:Below W.heap.size W W') :
  ∀ {ts:List TypeId} {vs:List Value} {ds:List (DataW H)} {ps:List MemPlace},(∀t∈ts,P.readableRec t=true/\t<P.types.size)->
   DataW.TrodAll enc P W 0 (fun _=>true) true ts vs ds ps->(∀x∈ps,x.block<W.heap.size)->DataW.TrodAll enc P W' 0 (fun b=>decide (b<W.heap.size)) true ts vs ds ps
 | [],[],[],ps,_,h,_=>h
 | t::ts,v::vs,d::ds,ps,hr,⟨p,q,h1,h2,h3⟩,hlt=>by
  subst h3
  exact ⟨p,q,Below.trod hl (hr t (by simp)).1 (hr t (by simp)).2 h1 hb fun x hx=>hlt x (by simp[hx]),sS hl hb (fun t ht=>hr t (by simp[ht])) h2 fun x hx=>hlt x (by simp[hx]),rfl⟩
 | [],_::_,_,_,_,h,_=>h.elim
 | [],[],_::_,_,_,h,_=>h.elim
 | _::_,[],_,_,_,h,_=>h.elim
 | _::_,_::_,[],_,_,h,_=>h.elim
theorem Oj {H:Type} {enc:TypeId×Value->H} {f:Func} {s:ChangeSpec} {W W':World} {args:Array Value} {ds:List (DataW H)} {before:List MemPlace} (tb:TypeId)
  (hb:Tryz.prog.underlying tb=some .bool) (hr:f.resultTypes= #[tb]) (hp:(f.params.toList.all fun t=>Tryz.prog.readableRec t&&decide (t<Tryz.prog.types.size))=true) (hv:s.vars= [])
  (hW:DataW.Whole enc Tryz.prog f.params.toList s.vars false W args.toList ds [] before) (hres:(s.fn H (ds++ [])).results= [.lit (.bool true)]) (hargs:(s.fn H (ds++ [])).args=ds) (hvars:(s.fn H (ds++ [])).vars= [])
  (hbel:Below W.heap.size W W'):s.post enc Tryz.prog f false true false false W args (.bool true) W':=by
 obtain ⟨p,q,h1,h2,h3,h4,h5⟩:=hW
 have hW':DataW.Whole enc Tryz.prog f.params.toList s.vars false W args.toList ds [] before:=⟨p,q,h1,h2,h3,h4,h5⟩
 have hq:q= []:=by rw[hv] at h2;exact h2
 subst hq
 simp only[List.append_nil] at h3
 subst h3
 refine ⟨ds,[],before,[],before,[],hW',?_,?_,?_,hbel.frame _,fun h=>by cases h⟩
 ·rw[hres,hr]
  exact trodAll_mk1 (shut_bool hb true)
 ·rw[hargs]
  exact sS laidOut hbel (fun t ht=>by have:=List.all_eq_true.1 hp t ht;simpa using this) h1 fun x hx=>by simpa using hW'.lt x hx
 ·rw[hvars,hv];rfl
namespace R
open Go.Shelf
def EU:Go.Shelf.Ren:=⟨fun | 146=>171 | 221=>225 | 268=>265 | 138=>266 | 143=>267 | 195=>302 | 197=>303 | 218=>304 | 219=>305 | 260=>330 | 217=>170 | 225=>331 | 224=>332 | 267=>333 | 266=>224 | 314=>349 | n=>n,fun | 9=>9 | 31=>205 | 3=>3 | 4=>4 | 0=>0 | 105=>309 | 21=>21 | 5=>5 | 46=>295 | 119=>354 | 139=>357 | 138=>356 | 146=>358 | 51=>344 | n=>n,fun | 1=>0 | 3=>4 | 4=>5 | n=>n⟩
theorem RF:Go.Proofs.LaysM.n146 Tryz.prog EU:= {
 mixed:=by kernel_rfl
 f138:=Tryz.func266.trans (congrArg some (by kernel_rfl))
 f143:=Tryz.func267.trans (congrArg some (by kernel_rfl))
 f146:=Tryz.func171.trans (congrArg some (by kernel_rfl))
 f195:=Tryz.func302.trans (congrArg some (by kernel_rfl))
 f197:=Tryz.func303.trans (congrArg some (by kernel_rfl))
 f217:=Tryz.func170.trans (congrArg some (by kernel_rfl))
 f218:=Tryz.func304.trans (congrArg some (by kernel_rfl))
 f219:=Tryz.func305.trans (congrArg some (by kernel_rfl))
 f221:=Tryz.func225.trans (congrArg some (by kernel_rfl))
 f224:=Tryz.func332.trans (congrArg some (by kernel_rfl))
 f225:=Tryz.func331.trans (congrArg some (by kernel_rfl))
 f260:=Tryz.func330.trans (congrArg some (by kernel_rfl))
 f266:=Tryz.func224.trans (congrArg some (by kernel_rfl))
 f267:=Tryz.func333.trans (congrArg some (by kernel_rfl))
 f268:=Tryz.func265.trans (congrArg some (by kernel_rfl))
 f314:=Tryz.func349.trans (congrArg some (by kernel_rfl))
 t0:=Tryz.underlying0
 a0:=Tryz.isAgg0
 z0:=Tryz.sizeOf0
 v0:=Tryz.zeroValue0
 t3:=Tryz.underlying3
 a3:=Tryz.isAgg3
 z3:=Tryz.sizeOf3
 v3:=Tryz.zeroValue3
 t4:=Tryz.underlying4
 a4:=Tryz.isAgg4
 z4:=Tryz.sizeOf4
 v4:=Tryz.zeroValue4
 t5:=Tryz.underlying5
 a5:=Tryz.isAgg5
 z5:=Tryz.sizeOf5
 v5:=Tryz.zeroValue5
 t9:=Tryz.underlying9
 a9:=Tryz.isAgg9
 z9:=Tryz.sizeOf9
 v9:=Tryz.zeroValue9
 t21:=Tryz.underlying21
 a21:=Tryz.isAgg21
 z21:=Tryz.sizeOf21
 v21:=Tryz.zeroValue21
 t31:=Tryz.underlying205
 a31:=Tryz.isAgg205
 z31:=Tryz.sizeOf205
 v31:=Tryz.zeroValue205
 t46:=Tryz.underlying295
 a46:=Tryz.isAgg295
 z46:=Tryz.sizeOf295
 v46:=Tryz.zeroValue295
 t51:=Tryz.underlying344
 a51:=Tryz.isAgg344
 z51:=Tryz.sizeOf344
 v51:=Tryz.zeroValue344
 t105:=Tryz.underlying309
 a105:=Tryz.isAgg309
 z105:=Tryz.sizeOf309
 v105:=Tryz.zeroValue309
 t119:=Tryz.underlying354
 a119:=Tryz.isAgg354
 z119:=Tryz.sizeOf354
 t138:=Tryz.underlying356
 a138:=Tryz.isAgg356
 z138:=Tryz.sizeOf356
 v138:=Tryz.zeroValue356
 t139:=Tryz.underlying357
 a139:=Tryz.isAgg357
 z139:=Tryz.sizeOf357
 v139:=Tryz.zeroValue357
 t146:=Tryz.underlying358
 a146:=Tryz.isAgg358
 z146:=Tryz.sizeOf358
 v146:=Tryz.zeroValue358
 g1:=by kernel_rfl
 g3:=by kernel_rfl
 g4:=by kernel_rfl
 i0:=by kernel_rfl
 i3:=by kernel_rfl
 i4:=by kernel_rfl
 i5:=by kernel_rfl
 i9:=by kernel_rfl
 i21:=by kernel_rfl
 i31:=by kernel_rfl
 i46:=by kernel_rfl
 i51:=by kernel_rfl
 i105:=by kernel_rfl
 i138:=by kernel_rfl
 i139:=by kernel_rfl
 i146:=by kernel_rfl
 m1:=by kernel_rfl
 s1_3:=fun w h=>Go.Proofs.cell_of_shapedOpen_int (zero:= #[.int .i64 0]) (t:=3) h (of_decide_eq_true (by kernel_rfl)) (by kernel_rfl) rfl (by kernel_rfl) (by kernel_rfl) Tryz.underlying3
 m3:=by kernel_rfl
 m4:=by kernel_rfl }
end R
open Go.ChangeShapes Go.WideShapes Go.ChangeAt Go.RowKit
namespace D
theorem op3:Opens Tryz.prog 3 a8:=Kj Tryz.underlying3
theorem Vi:Opens Tryz.prog 91 (af 3 a8):=fq Tryz.underlying91 (by kernel_rfl) (by decide) op3
theorem UF:Opens Tryz.prog 172 (aE a8 (aE a8 (aE a8 a8))):=by
 refine dm Tryz.underlying172 (by kernel_rfl) ?_
 refine bZ (R:=a8) (S:=aE (a8) (aE (a8) (a8))) rfl (by kernel_rfl) op3 ?_
 refine bZ (R:=a8) (S:=aE (a8) (a8)) rfl (by kernel_rfl) op3 ?_
 refine bZ (R:=a8) (S:=a8) rfl (by kernel_rfl) op3 ?_
 exact fE rfl (by kernel_rfl) op3
theorem UG:Opens Tryz.prog 177 (af 172 (aE a8 (aE a8 (aE a8 a8)))):=fq Tryz.underlying177 (by kernel_rfl) (by decide) UF
theorem UH:Opens Tryz.prog 179 (aE (af 3 a8) (af 172 (aE a8 (aE a8 (aE a8 a8))))):=by
 refine dm Tryz.underlying179 (by kernel_rfl) ?_
 refine bZ (R:=af 3 a8) (S:=af 172 (aE a8 (aE a8 (aE a8 a8)))) rfl (by kernel_rfl) Vi ?_
 exact fE rfl (by kernel_rfl) UG
theorem VC:Opens Tryz.prog 22 (af 179 (aE (af 3 a8) (af 172 (aE a8 (aE a8 (aE a8 a8)))))):=fq Tryz.underlying22 (by kernel_rfl) (by decide) UH
theorem VD:Opens Tryz.prog 24 (aE a8 (af 179 (aE (af 3 a8) (af 172 (aE a8 (aE a8 (aE a8 a8))))))):=by
 refine dm Tryz.underlying24 (by kernel_rfl) ?_
 refine bZ (R:=a8) (S:=af 179 (aE (af 3 a8) (af 172 (aE a8 (aE a8 (aE a8 a8)))))) rfl (by kernel_rfl) op3 ?_
 exact fE rfl (by kernel_rfl) VC
theorem op4:Opens Tryz.prog 4 lO:=Hy Tryz.underlying4
theorem UI:Opens Tryz.prog 181 (af 4 lO):=fq Tryz.underlying181 (by kernel_rfl) (by decide) op4
theorem UJ:Opens Tryz.prog 182 (af 91 (af 3 a8)):=fq Tryz.underlying182 (by kernel_rfl) (by decide) Vi
theorem UK:Opens Tryz.prog 184 (aE a8 (aE (af 4 lO) (af 91 (af 3 a8)))):=by
 refine dm Tryz.underlying184 (by kernel_rfl) ?_
 refine bZ (R:=a8) (S:=aE (af 4 lO) (af 91 (af 3 a8))) rfl (by kernel_rfl) op3 ?_
 refine bZ (R:=af 4 lO) (S:=af 91 (af 3 a8)) rfl (by kernel_rfl) UI ?_
 exact fE rfl (by kernel_rfl) UJ
theorem VE:Opens Tryz.prog 25 (af 184 (aE a8 (aE (af 4 lO) (af 91 (af 3 a8))))):=fq Tryz.underlying25 (by kernel_rfl) (by decide) UK
theorem UL:Opens Tryz.prog 163 (aE a8 (aE a8 (aE a8 a8))):=by
 refine dm Tryz.underlying163 (by kernel_rfl) ?_
 refine bZ (R:=a8) (S:=aE (a8) (aE (a8) (a8))) rfl (by kernel_rfl) op3 ?_
 refine bZ (R:=a8) (S:=aE (a8) (a8)) rfl (by kernel_rfl) op3 ?_
 refine bZ (R:=a8) (S:=a8) rfl (by kernel_rfl) op3 ?_
 exact fE rfl (by kernel_rfl) op3
theorem VF:Opens Tryz.prog 54 (af 163 (aE a8 (aE a8 (aE a8 a8)))):=fq Tryz.underlying54 (by kernel_rfl) (by decide) UL
theorem VG:Opens Tryz.prog 56 (af 163 (aE a8 (aE a8 (aE a8 a8)))):=by
 refine dm Tryz.underlying56 (by kernel_rfl) ?_
 exact fE rfl (by kernel_rfl) VF
theorem UM:Opens Tryz.prog 187 (aE a8 (aE (af 163 (aE a8 (aE a8 (aE a8 a8)))) a8)):=by
 refine dm Tryz.underlying187 (by kernel_rfl) ?_
 refine bZ (R:=a8) (S:=aE (af 163 (aE a8 (aE a8 (aE a8 a8)))) (a8)) rfl (by kernel_rfl) op3 ?_
 refine bZ (R:=af 163 (aE a8 (aE a8 (aE a8 a8)))) (S:=a8) rfl (by kernel_rfl) VG ?_
 exact fE rfl (by kernel_rfl) op3
theorem VH:Opens Tryz.prog 26 (af 187 (aE a8 (aE (af 163 (aE a8 (aE a8 (aE a8 a8)))) a8))):=fq Tryz.underlying26 (by kernel_rfl) (by decide) UM
theorem VI:Opens Tryz.prog 28 (aE (af 184 (aE a8 (aE (af 4 lO) (af 91 (af 3 a8))))) (af 187 (aE a8 (aE (af 163 (aE a8 (aE a8 (aE a8 a8)))) a8)))):=by
 refine dm Tryz.underlying28 (by kernel_rfl) ?_
 refine bZ (R:=af 184 (aE a8 (aE (af 4 lO) (af 91 (af 3 a8))))) (S:=af 187 (aE a8 (aE (af 163 (aE a8 (aE a8 (aE a8 a8)))) a8))) rfl (by kernel_rfl) VE ?_
 exact fE rfl (by kernel_rfl) VH
theorem UN:Opens Tryz.prog 133 (aE a8 (aE a8 a8)):=by
 refine dm Tryz.underlying133 (by kernel_rfl) ?_
 refine bZ (R:=a8) (S:=aE (a8) (a8)) rfl (by kernel_rfl) op3 ?_
 refine bZ (R:=a8) (S:=a8) rfl (by kernel_rfl) op3 ?_
 exact fE rfl (by kernel_rfl) op3
theorem VJ:Opens Tryz.prog 29 (af 133 (aE a8 (aE a8 a8))):=fq Tryz.underlying29 (by kernel_rfl) (by decide) UN
theorem op9:Opens Tryz.prog 9 zT:=CZ Tryz.underlying9
theorem VK:Opens Tryz.prog 31 (aE (aE a8 (af 179 (aE (af 3 a8) (af 172 (aE a8 (aE a8 (aE a8 a8))))))) (aE (aE (af 184 (aE a8 (aE (af 4 lO) (af 91 (af 3 a8))))) (af 187 (aE a8 (aE (af 163 (aE a8 (aE a8 (aE a8 a8)))) a8)))) (aE (af 133 (aE a8 (aE a8 a8))) zT))):=by
 refine dm Tryz.underlying31 (by kernel_rfl) ?_
 refine bZ (R:=aE a8 (af 179 (aE (af 3 a8) (af 172 (aE a8 (aE a8 (aE a8 a8))))))) (S:=aE (aE (af 184 (aE a8 (aE (af 4 lO) (af 91 (af 3 a8))))) (af 187 (aE a8 (aE (af 163 (aE a8 (aE a8 (aE a8 a8)))) a8)))) (aE (af 133 (aE a8 (aE a8 a8))) (zT))) rfl (by kernel_rfl) VD ?_
 refine bZ (R:=aE (af 184 (aE a8 (aE (af 4 lO) (af 91 (af 3 a8))))) (af 187 (aE a8 (aE (af 163 (aE a8 (aE a8 (aE a8 a8)))) a8)))) (S:=aE (af 133 (aE a8 (aE a8 a8))) (zT)) rfl (by kernel_rfl) VI ?_
 refine bZ (R:=af 133 (aE a8 (aE a8 a8))) (S:=zT) rfl (by kernel_rfl) VJ ?_
 exact fE rfl (by kernel_rfl) op9
theorem UO {W:World} {base:Nat} {z:Value} {H:Type} {enc:TypeId×Value->H} {d:DataW H} {p:List MemPlace} (hv:Value.okWide Tryz.prog W .any base 31 z) (h:DataW.Trod enc Tryz.prog W 0 (fun _=>true) true 31 z d p) :
  ∃(x:(Int×(List ((List Int)×(List (Int×Int×Int×Int)))))×((List (Int×(List Bool)×(List (List Int))))×(List (Int×((List (Int×Int×Int×Int)))×Int)))×(List (Int×Int×Int))×ByteArray) (v0:Value) (v1:Value) (v2:Value) (v3:Value),z= .agg #[.int .i64 x.1.1,v0,v1,v2,v3,.string x.2.2.2] /\Data.lim x/\(af 179 (aE (af 3 a8) (af 172 (aE a8 (aE a8 (aE a8 a8)))))).rd (hp W) [v0] x.1.2/\(af 184 (aE a8 (aE (af 4 lO) (af 91 (af 3 a8))))).rd (hp W) [v1] x.2.1.1/\(af 187 (aE a8 (aE (af 163 (aE a8 (aE a8 (aE a8 a8)))) a8))).rd (hp W) [v2] x.2.1.2/\(af 133 (aE a8 (aE a8 a8))).rd (hp W) [v3] x.2.2.1:=by
 obtain ⟨fuel,hf⟩:=h
 obtain ⟨⟨cs⟩,rfl,-⟩:=okWide_struct Tryz.underlying31 hv
 obtain ⟨x,hx,hl⟩:=VK.out enc W _ _ _ hf
 have hx:(aE (aE a8 (af 179 (aE (af 3 a8) (af 172 (aE a8 (aE a8 (aE a8 a8))))))) (aE (aE (af 184 (aE a8 (aE (af 4 lO) (af 91 (af 3 a8))))) (af 187 (aE a8 (aE (af 163 (aE a8 (aE a8 (aE a8 a8)))) a8)))) (aE (af 133 (aE a8 (aE a8 a8))) zT))).rd (hp W) cs x:=hx
 obtain ⟨_,_,rfl,⟨_,_,rfl,rfl,r0⟩,⟨_,_,rfl,⟨_,_,rfl,r1,r2⟩,⟨_,_,rfl,r3,rfl⟩⟩⟩:=hx
 obtain ⟨v0,rfl⟩:=vv r0 rfl
 obtain ⟨v1,rfl⟩:=vv r1 rfl
 obtain ⟨v2,rfl⟩:=vv r2 rfl
 obtain ⟨v3,rfl⟩:=vv r3 rfl
 exact ⟨x,v0,v1,v2,v3,rfl,hl,r0,r1,r2,r3⟩
theorem VL {W:World} {base:Nat} {z:Value} {H:Type} {enc:TypeId×Value->H} {d:DataW H} {p:List MemPlace} (hv:Value.okWide Tryz.prog W .any base 3 z) (h:DataW.Trod enc Tryz.prog W 0 (fun _=>true) true 3 z d p) :
  ∃(x:Int),z= .int .i64 x/\Data.lim x:=by
 obtain ⟨fuel,hf⟩:=h
 obtain ⟨n,rfl⟩:=okWide_int Tryz.underlying3 hv
 obtain ⟨x,hx,hl⟩:=op3.out enc W _ _ _ hf
 exact ⟨x,(List.cons.inj (show [_] = [_] from hx)).1,hl⟩
end D
open D (Data)
theorem uc {H:Type} {enc:TypeId×Value->H} {a:Assume} {C:Checked} {os:Os} {f:FuncId} {fn:Func} {s:ChangeSpec} {conds:List PathCond} {apart fresh handsOn again:Bool} {X:World->Array Value->Prop}
  (hX: ∀(w w':World) (args:Array Value),w.heap=w'.heap->X w args->X w' args)
  (own:ownKnob C.prog.godebug=none) (started:os.Started) (noInit:C.prog.inits.idxOf? f=none) (hfn:C.prog.funcs[f]? =some fn)
  (witness: ∃(w:World) (tape:Tape) (i:Input),w.os=os/\(w.forCall tape i).Shaped C.prog/\i.vars= [] /\Input.okWide C.prog (w.forCall tape i) .any w.heap.size f i /\
   ((s.pre enc C.prog fn conds apart (w.forCall tape i).memory i.args/\X (w.forCall tape i).memory i.args)/\sizedMet enc C.prog fn (OpenSpec.ofChange s) apart (w.forCall tape i).memory i.args)/\a.holds C.prog (lone (Frame.enter C.prog f i.args .normal) [] (w.forCall tape i)))
  (contract: ∀(W:World) (base:Nat) (args:Array Value) (ds gs:List (DataW H)) (before:List MemPlace),
   (∀(j:Nat) t v,fn.params[j]? =some t->args[j]? =some v->Value.okWide C.prog W .any base t v)->
   DataW.Whole enc C.prog fn.params.toList s.vars apart W args.toList ds gs before->X W args->W.ShapedOpen C.prog->
   Calls C.prog f args W fun e W'=> ∃v,e= .returned v/\s.post enc C.prog fn apart fresh handsOn again W args v W') :
  ReturnsInHanded a C os f .any (fun w args=>(s.pre enc C.prog fn conds apart w args/\X w args)/\sizedMet enc C.prog fn (OpenSpec.ofChange s) apart w args) (s.post enc C.prog fn apart fresh handsOn again):=by
 refine returnsInHanded_of_calls own started noInit witness ?_
 intro w tape i _ hsh _ hok hpre _
 obtain ⟨_,_,_,fn',hfn',_,_,_,_,hval⟩:=hok
 have e:fn'=fn:=ae (hfn'.symm.trans hfn)
 subst e
 obtain ⟨⟨⟨ds,gs,before,hw,hc⟩,hx⟩,_⟩:=hpre
 have hw':=DataW.Whole.of_heap (w':=w.forCall tape i) (by rfl) hw
 refine (contract (w.forCall tape i) w.heap.size i.args ds gs before hval hw' (hX (w.forCall tape i).memory (w.forCall tape i) _ rfl hx) hsh).mono fun e W' ⟨v,he,hp⟩=>?_
 subst he
 exact ChangeSpec.post_blind hp
theorem Px (u:TypeId) (h:Tryz.prog.typeName? 3 u=some "*errors.errorString"):u=362:=
 typeName_ptr_named (nm:= "errors.errorString") (by kernel_rfl) (by kernel_rfl) (by decide) u h
theorem yQ {W:World} (h:laidMetH Tryz.prog Rows.fnExactLostRecordsRow.laid W) (hsh:W.ShapedOpen Tryz.prog):D.LayW Tryz.prog W:=by
 rw[MakeChecks.laidMetH_plain _ _ _ (by kernel_rfl)] at h
 obtain ⟨a5,s5,hv5,-⟩:=laid_sentinel (g:=2) (ti:=243) (tp:=362) (te:=364) (ts:=9) (h.tail.tail.tail.tail) (by kernel_rfl) (by kernel_rfl) Tryz.underlying243 Px Tryz.underlying362 Tryz.underlying364 rfl rfl Tryz.underlying9 (by kernel_rfl) (by kernel_rfl)
 obtain ⟨a6,s6,hv6,-⟩:=laid_sentinel (g:=1) (ti:=243) (tp:=362) (te:=364) (ts:=9) (h.tail.tail.tail.tail.tail) (by kernel_rfl) (by kernel_rfl) Tryz.underlying243 Px Tryz.underlying362 Tryz.underlying364 rfl rfl Tryz.underlying9 (by kernel_rfl) (by kernel_rfl)
 have ht:Lib.TabIs Tryz.prog W "internal/strconv.uint64pow10" .u64 Lib.pow10Tab:=Lib.tabIs_of_head (g:=3) (by kernel_rfl) (by kernel_rfl) Tryz.underlying343 Tryz.underlying321 (by kernel_rfl) (by kernel_rfl) (h.tail.tail)
 exact ⟨⟨0,(R.RF.s1_3 W hsh).imp fun m hm=>⟨by kernel_rfl,hm⟩⟩,ht,⟨_,_,hv6⟩,⟨_,_,hv5⟩⟩
theorem ya (W:World) (hL:laidMetH Tryz.prog Rows.fnExactLostRecordsRow.laid W) (hsh:W.ShapedOpen Tryz.prog) (args:Array Value) (H:Type) (enc:TypeId×Value->H) (base:Nat) (ds gs:List (DataW H)) (before:List MemPlace)
  (hval: ∀(j:Nat) t v,Tryz.f4.params[j]? =some t->args[j]? =some v->Value.okWide Tryz.prog W .any base t v)
  (hW:DataW.Whole enc Tryz.prog Tryz.f4.params.toList Rows.fnExactLostRecordsSpec.vars false W args.toList ds gs before) :
  Calls Tryz.prog 4 args W fun e W'=> ∃v,e= .returned v/\Rows.fnExactLostRecordsSpec.post enc Tryz.prog Tryz.f4 false true false false W args v W':=by
 have hW':=hW
 obtain ⟨p,q,hA,hV,rfl,hfz,hnd⟩:=hW
 rw[Tryz.params4] at hA hval
 obtain ⟨z0,vs0,d0,ds0,p0,q0,hargs,rfl,rfl,h0,r0⟩:=trodAll_cons hA
 obtain ⟨z1,vs1,d1,ds1,p1,q1,rfl,rfl,rfl,h1,r1⟩:=trodAll_cons r0
 obtain ⟨rfl,rfl,rfl⟩:=trodAll_nil r1
 obtain rfl:args= #[z0,z1]:=by cases args;simp_all
 obtain ⟨rfl,rfl⟩:=trodVars_none hV
 obtain ⟨x0,v0_0,v0_1,v0_2,v0_3,rfl,l0,r0_0,r0_1,r0_2,r0_3⟩:=D.UO (hval 0 _ _ rfl rfl) h0
 obtain ⟨x1,rfl,l1⟩:=D.VL (hval 1 _ _ rfl rfl) h1
 have hc:=D.oR x0 x1 true (D.yP x0 x1 l0 l1) (I:=D.hp W) (w0:=W) v0_0 v0_1 v0_2 v0_3 r0_0 r0_1 r0_2 r0_3 (D.Lay.of (yQ hL hsh)) W [] (D.St.init W)
 refine hc.mono fun e W' ⟨v,he,hv,hs⟩=>?_
 subst he;subst hv
 exact ⟨_,rfl,Oj (f:=Tryz.f4) (s:=Rows.fnExactLostRecordsSpec) 4 Tryz.underlying4 rfl (by kernel_rfl) rfl hW' rfl rfl rfl (D.St.below hs)⟩
set_option maxRecDepth 100000 in
theorem sU (os:Os) (started:os.Started) (H:Type) (enc:TypeId×Value->H) :
  ReturnsInHanded {} Tryz.checked os 4 .any (fun w args=>(Rows.fnExactLostRecordsSpec.pre enc Tryz.prog Tryz.f4 [] false w args/\laidMetH Tryz.prog Rows.fnExactLostRecordsRow.laid w)/\sizedMet enc Tryz.prog Tryz.f4 (OpenSpec.ofChange Rows.fnExactLostRecordsSpec) false w args) (Rows.fnExactLostRecordsSpec.post enc Tryz.prog Tryz.f4 false true false false):=by
 refine uc (C:=Tryz.checked) (X:=fun w _=>laidMetH Tryz.prog Rows.fnExactLostRecordsRow.laid w) (fun _ _ _ hh h=>h.of_heap hh) own started (by kernel_rfl) Tryz.func4
  (ChangeSpec.witness_shaped (enc:=enc) (C:=Tryz.checked) (os:=os) (X:=fun w _=>laidMetH Tryz.prog Rows.fnExactLostRecordsRow.laid w) false (World.laidAll Tryz.prog os Rows.fnExactLostRecordsRow.laid) #[.agg #[.int .i64 0,.slice none 0 0,.slice none 0 0,.slice none 0 0,.slice none 0 0,.string ⟨#[]⟩],.int .i64 0] 8 (World.laidAll_os _ _ _) (World.shaped_of_ZipB (by kernel_rfl) (by kernel_rfl)) (by kernel_rfl) (by kernel_rfl) (by kernel_rfl) (by rw[MakeChecks.laidMetH_plain _ _ _ (by kernel_rfl)];exact laidMet_laidAll _ (by kernel_rfl) (by kernel_rfl))) ?_
 intro W base args ds gs before hval hW hL hsh
 exact ya W hL hsh args H enc base ds gs before hval hW
theorem ud:Rows.FnExactLostRecordsSaid:=
 OpenClaim.holds_of_wide 4 Tryz.f4 rfl rfl rfl rfl rfl rfl rfl ⟨rfl,rfl,rfl,rfl,rfl⟩ rfl rfl rfl rfl rfl (by kernel_rfl) Tryz.func4 rI
  (of_decide_eq_true (by kernel_rfl)) (by unfold Func.isWrapper;first | (rw[if_pos (by decide +kernel)];kernel_rfl) | (rw[if_neg (by decide +kernel)];exact ⟨rfl,rfl⟩))
  (fun os started H enc _=>sU os started H enc)
theorem cardLLostRecords:Rows.FnExactLostRecordsCardSaid:=
 Claim7.holds_tied_plain_at .later [] [.data,.data,.data,.data,.sentinel,.sentinel,.pinned] true (true,"cff0790423b5df951cc606f0fc8fb4ad82e67faf05c9a9573691dcb8680664a3") true
  ud (fun _ h=>by cases h) (by kernel_rfl) (fun _ h=>by cases h) fnExactLostRecords_row_tie rfl ⟨rfl,rfl⟩ yg rfl
  (fun f fn hf hfn=>by
   obtain rfl:f=4:=ae (yd.symm.trans hf) |>.symm
   obtain rfl:fn=Tryz.f4:=(ae (Tryz.func4.symm.trans hfn)).symm
   exact ⟨ye,fun j t ht=>by
    rw[Tryz.params4] at ht
    have hm:t ∈ [31,3]:=by simpa using Array.mem_of_getElem? ht
    have hall:([31,3].all fun u=> !Tryz.prog.wantsStandIn u)=true:=by kernel_rfl
    exact (show Tryz.prog.wantsStandIn t=false by simpa using List.all_eq_true.1 hall t hm)⟩)
  yf
end Go.Proofs.YtilionjghdjbdaaGreatDoor
