/- FnExactLostRecords: for every input the law returns true and changes nothing that was there. Part 8 of 8. -/
import Derived.Test.YtilionjghdjbdaaGreatDoorEC6
import Derived.Test.YtilionjghdjbdaaGreatDoorEC0
set_option linter.unusedVariables false
set_option linter.unusedSimpArgs false
set_option linter.unnecessarySimpa false
set_option linter.unusedSectionVars false
set_option maxRecDepth 1000000
namespace Go.Proofs.YtilionjghdjbdaaGreatDoor
namespace D
open Go.RowKit
def nothing:AutT:=(0,[false],[[-1,-1,-1,-1,-1,-1,-1,-1,-1]])
theorem KU:ma=some nothing:=by kernel_rfl
theorem KV:qQ=some nothing:=by kernel_rfl
theorem KW {n:Nat} (h:n<=1000000):iOk (n:Int)=true:=by
 have h1:IntKind.i64.min= -9223372036854775808:=by decide
 have h2:IntKind.i64.max=9223372036854775807:=by decide
 simp only[iOk,Lit.wf,h1,h2,ae,decide_eq_true_eq]
 omega
theorem take_one {α:Type} [Inhabited α] {xs:List α} {k:Nat} (h:k<xs.length):xs.take (k+1)=xs.take k++ [nth xs (k:Int)]:=by
 rw[List.take_succ_eq_append_getElem h,bM h]
theorem hY {α:Type} [Inhabited α] {xs ys:List α} (h:xs <+:ys) {i:Int} (h0:0<=i) (h1:i<xs.length):nth ys i=nth xs i:=by
 obtain ⟨t,rfl⟩:=h
 exact fP h0 h1
structure NumOk {κ:Type} [DecidableEq κ] (nx:κ->List (Option κ)) (first:κ) (G:κ->Prop) (B:Nat):Prop where
 g0:G first
 gn: ∀x,G x-> ∀y,some y∈nx x->G y
 len: ∀x,G x->(nx x).length=9
 bound: ∀l:List κ,l.Nodup->(∀x∈l,G x)->l.length<=B
section
variable {κ:Type} [DecidableEq κ] [Inhabited κ] {nx:κ->List (Option κ)} {first:κ} {G:κ->Prop} {B:Nat}
theorem NumOk.le (H:NumOk nx first G B) (i:Nat):(bfS nx first i).length<=B:=H.bound _ (lp i) (iV H.g0 H.gn i)
theorem NumOk.at (H:NumOk nx first G B) {i:Nat} (h:i<(bfS nx first i).length):G (nth (bfS nx first i) (i:Int)):=iV H.g0 H.gn i _ (iU (by omega) (by omega))
theorem iX {i:Nat} (h:i<(bfS nx first i).length):bfS nx first (i+1)=nbS (bfS nx first i) (nx (nth (bfS nx first i) (i:Int))):=by rw[AP h,bM h]
theorem sB {i:Nat} (h:i<(bfS nx first i).length):bfR nx first (i+1)=bfR nx first i++ [nbR (bfS nx first i) (nx (nth (bfS nx first i) (i:Int)))]:=by rw[sq h,bM h]
theorem vz {β:Type} {acc:κ->β} {i:Nat} (h:i<(bfS nx first i).length):((bfS nx first (i+1)).take (i+1)).map acc=((bfS nx first i).take i).map acc++ [acc (nth (bfS nx first i) (i:Int))]:=by
 have hp:=bp (nx:=nx) (first:=first) i
 have hl:=hp.length_le
 have e:(bfS nx first (i+1)).take i=(bfS nx first i).take i:=by
  obtain ⟨t,ht⟩:=hp
  rw[<-ht,List.take_append_of_le_length (by omega)]
 rw[take_one (by omega),aliasOf20,e,hY hp (by omega) (by omega)];rfl
def MapOf (M:List (κ×Int)) (l:List κ):Prop:=M.length=l.length/\ ∀x,M.lookup x=if x∈l then some (l.idxOf x:Int) else none
theorem MapOf.one (x:κ):MapOf [(x,0)] [x]:=by
 refine ⟨rfl,fun y=>?_⟩
 rw[List.lookup_cons]
 by_cases e:y=x
 ·subst e;simp
 ·simp only[show (y==x)=false from by simp[e]];simp[e]
theorem MapOf.put {M:List (κ×Int)} {l:List κ} (h:MapOf M l) {x:κ} (hx:x∉l):MapOf ((x,(l.length:Int))::M) (l++ [x]):=by
 refine ⟨by simp[h.1],fun y=>?_⟩
 rw[List.lookup_cons]
 by_cases e:y=x
 ·subst e
  simp[List.idxOf_append,hx]
 ·simp only[show (y==x)=false from by simp[e],h.2 y,List.mem_append,List.mem_singleton,e,or_false]
  by_cases k:y∈l
  ·simp[k,List.idxOf_append]
  ·simp[k]
end
section
variable {nx:Int->List (Option Int)} {first:Int} {G:Int->Prop} {B:Nat}
theorem CZ {p3:Int->Int->Option (Int×Bool)} {l:List Int} {M:List (Int×Int)} {os:List (Option Int)} {acs:List Bool} {rws:List (List Int)} {i:Nat}
  (hi:i<l.length) (hos:os.length=9) (hM:MapOf M l) (hok: ∀y,some y∈os->iOk y=true) (hB: ∀k,(nbS l (os.take k)).length<=1000000)
  (hp: ∀(k:Nat) (hk:k<9),∃j,p3 (nth l (i:Int)) (k:Int)=some (match nth os (k:Int) with | some y=>(y,true) | none=>(j,false))) :
  ∃M',aq (c7 p3 (l,M,(i:Int),0,acs,rws)) aS (l,M,[],0)=some (.brk (nbS l os,M',nbR l os,9))/\MapOf M' (nbS l os):=by
 obtain ⟨s',e,M',rfl,hM'⟩:=ln (f:=c7 p3 (l,M,(i:Int),0,acs,rws)) (fun k s=> ∃M',s=(nbS l (os.take k),M',nbR l (os.take k),(k:Int))/\MapOf M' (nbS l (os.take k))) 9 (by
  rintro k s hk ⟨M1,rfl,hM1⟩
  have hpre:=jr l (os.take k)
  have hlen:=hpre.length_le
  have hBk:=hB k
  obtain ⟨j,hj⟩:=hp k hk
  have hrl:(nbR l (os.take k)).length<=9:=by rw[du,aliasOf12];omega
  unfold c7
  simp only
  rw[if_pos (by simp;omega),aA (by omega) (by omega)];simp only[aliasOf0]
  rw[hY hpre (by omega) (by omega),hj,take_one (by omega),sp,pY]
  simp only[aliasOf0,af (show k<9223372036854775807 by omega)]
  cases ho:nth os (k:Int) with
  | none =>
   simp only[Bool.false_eq_true,if_false]
   rw[aD (by simp;omega)]
   exact ⟨_,rfl,M1,rfl,hM1⟩
  | some y =>
   have hy:iOk y=true:=hok y (ho ▸ iU (by omega) (by omega))
   simp only[if_true]
   rw[show chk (iOk y=true)=some () from by unfold chk;rw[if_pos hy]];simp only[aliasOf0]
   rw[show lkM M1 y=_ from hM1.2 y]
   by_cases c:y∈nbS l (os.take k)
   ·simp only[c,if_true,Option.isSome_some,Option.getD_some,aliasOf0]
    rw[aD (by simp;omega)]
    exact ⟨_,rfl,M1,by rw[ke c];rfl,by rw[ke c];exact hM1⟩
   ·have hput:H3 M1 iOk iOk y ((nbS l (os.take k)).length:Int)=some ((y,((nbS l (os.take k)).length:Int))::M1):=by
     unfold H3
     rw[if_pos ⟨by have:=hM1.1;omega,hy,KW hBk⟩]
    simp only[c,if_false,Option.isSome_none,Bool.false_eq_true,hput,aliasOf0]
    rw[aD (by simp;omega)];simp only[aliasOf0]
    rw[aD (by simp;omega)]
    refine ⟨_,rfl,(y,((nbS l (os.take k)).length:Int))::M1,?_,?_⟩
    ·rw[jt c];simp only[nbI,mU c]
    ·rw[jt c];exact hM1.put c) (by
  rintro s ⟨M1,rfl,hM1⟩
  unfold c7
  simp) (s:=(l,M,[],0)) ⟨M,rfl,hM⟩ (by unfold aS;omega)
 rw[List.take_of_length_le (by omega)] at e hM'
 exact ⟨M',e,hM'⟩
theorem SR {most:Int} {p2:Int->Option Bool} {p3:Int->Int->Option (Int×Bool)} {acc:Int->Bool} (H:NumOk nx first G B) (hB:B<=1000000) (hmost:(B:Int)<=most) (hok: ∀x,G x->iOk x=true)
  (h2: ∀x,G x->p2 x=some (acc x)) (h3: ∀x (k:Nat),G x->k<9-> ∃j,p3 x (k:Int)=some (match nth (nx x) (k:Int) with | some y=>(y,true) | none=>(j,false))) :
  ∃N,bfE nx first N/\dt first most p2 p3=some ((0,(bfS nx first N).map acc,bfR nx first N),true):=by
 obtain ⟨N,hNB,hN⟩:=OP (nx:=nx) (first:=first) (H.le)
 refine ⟨N,hN,?_⟩
 unfold dt
 rw[show H3 ([] :List (Int×Int)) iOk iOk first 0=some [(first,0)] from by unfold H3;rw[if_pos ⟨by simp,hok _ H.g0,by decide⟩]];simp only[aliasOf0]
 obtain ⟨s',e,M',rfl,hM'⟩:=ln (f:=bC most p2 p3) (fun i s=> ∃M,s=(bfS nx first i,M,(i:Int),0,((bfS nx first i).take i).map acc,bfR nx first i)/\MapOf M (bfS nx first i)) N (by
  rintro i s hi ⟨M,rfl,hM⟩
  have hlt:=hN.2 i hi
  have hG:=H.at hlt
  have hle:=H.le i
  have hle':=H.le (i+1)
  obtain ⟨M',e,hM'⟩:=CZ (p3:=p3) (l:=bfS nx first i) (M:=M) (os:=nx (nth (bfS nx first i) (i:Int))) (acs:=((bfS nx first i).take i).map acc) (rws:=bfR nx first i) hlt (H.len _ hG) hM (fun y hy=>hok y (H.gn _ hG y hy))
   (fun k=>by
    have:(nbS (bfS nx first i) ((nx (nth (bfS nx first i) (i:Int))).take k)).length<=B:=H.bound _ (px (lp i)) fun x hx=>by
     rcases tG.1 hx with hx | hx
     ·exact iV H.g0 H.gn i x hx
     ·exact H.gn _ hG x (List.mem_of_mem_take hx)
    omega) (fun k hk=>h3 _ k hG hk)
  unfold bC
  simp only
  rw[if_pos (by simp;omega),au e,<-iX hlt]
  rw[<-iX hlt] at hM'
  have hl2:=(bp (nx:=nx) (first:=first) i).length_le
  simp only
  rw[if_neg (by simp;omega),aA (by omega) (by omega)];simp only[aliasOf0]
  rw[hY (bp i) (by omega) (by omega),h2 _ hG];simp only[aliasOf0]
  have hr:(bfR nx first i).length=i:=hH fun j hj=>hN.2 j (by omega)
  rw[aD (by simp;omega)];simp only[aliasOf0]
  rw[aD (by simp;omega)];simp only[aliasOf0,af (show i<9223372036854775807 by omega)]
  exact ⟨_,rfl,M',by rw[vz hlt,sB hlt],hM'⟩) (by
  rintro s ⟨M,rfl,hM⟩
  unfold bC
  simp only
  rw[if_neg (by have:=hN.1;simp;omega)]) (s:=([first],[(first,0)],0,0,[],[])) ⟨_,rfl,MapOf.one first⟩ (rm (by omega))
 rw[au e]
 simp only
 rw[List.take_of_length_le (by have:=hN.1;omega)]
end
theorem O8 {l:List Int} {x:Int} (h:l.length<=9223372036854775807):kS l x=some (if x∈l then (l.idxOf x:Int) else -1):=by
 unfold kS
 obtain ⟨o,e,hq⟩:=cy (f:=l9 l x) (fun i s=>s=(i:Int)/\x∉l.take i) (fun o=>(x∈l/\o= .ret (l.idxOf x:Int))\/(x∉l/\ ∃s,o= .brk s)) l.length (s:=0) (by
  rintro i s hi ⟨rfl,hx⟩
  unfold l9
  by_cases hl:i<l.length
  ·rw[if_pos (by simp;omega),aA (by omega) (by omega)];simp only[aliasOf0]
   by_cases c:nth l (i:Int)=x
   ·refine .inr ⟨_,by rw[if_pos (by simpa using c)],(fun s' e=>by cases e),.inl ?_⟩
    have e:l=l.take i++(x::l.drop (i+1)):=by
     rw[<-c,bM hl,<-List.drop_eq_getElem_cons hl,List.take_append_drop]
    refine ⟨by rw[e];simp,?_⟩
    congr 1
    conv=>rhs;rw[e,List.idxOf_append,if_neg hx,List.idxOf_cons_self]
    simp[aliasOf12];first | done | omega
   ·refine .inl ⟨hl,_,by rw[if_neg (by simpa using c)],by rw[af (by omega)],?_⟩
    rw[take_one hl,List.mem_append,List.mem_singleton]
    rintro (h | h)
    ·exact hx h
    ·exact c h.symm
  ·refine .inr ⟨_,by rw[if_neg (by simp;omega)],(fun s' e=>by cases e),.inr ⟨?_,_,rfl⟩⟩
   rwa [List.take_of_length_le (by omega)] at hx) ⟨rfl,by simp⟩ (rm h)
 rcases hq with ⟨hx,rfl⟩ | ⟨hx,s,rfl⟩
 ·rw[bX e,if_pos hx]
 ·rw[au e,if_neg hx]
section
variable {a:AutT} {n:Nat} {c:List Int} {lv:List Bool} {nx:Int->List (Option Int)} {G:Int->Prop} {B:Nat} {acc:Int->Bool}
def good (n:Nat) (lv:List Bool) (r:Int):Prop:=0<=r/\r<n/\nth lv r=true
def tM (a:AutT) (c:List Int) (lv:List Bool) (r:Int):List (Option Int):=(List.range 9).map fun k=>if mv a r k≥0/\nth lv (mv a r k)=true then some (nth c (mv a r k)) else none
theorem F5 {r:Int} {k:Nat} (hk:k<9):nth (tM a c lv r) (k:Int)=if mv a r k≥0/\nth lv (mv a r k)=true then some (nth c (mv a r k)) else none:=by
 have:k<(tM a c lv r).length:=by simp[tM];omega
 rw[bM this];simp[tM]
def RepsOf (n:Nat) (lv:List Bool) (c:List Int) (rs l:List Int):Prop:=rs.length=l.length/\ ∀j:Nat,j<l.length->good n lv (nth rs j)/\nth c (nth rs j)=nth l (j:Int)
theorem RepsOf.snoc {rs l:List Int} (h:RepsOf n lv c rs l) {t:Int} (ht:good n lv t):RepsOf n lv c (rs++ [t]) (l++ [nth c t]):=by
 refine ⟨by simp[h.1],fun j hj=>?_⟩
 by_cases e:j<l.length
 ·rw[fP (by omega) (by have:=h.1;omega),fP (by omega) (by omega)];exact h.2 j e
 ·have e:j=l.length:=by simp at hj;omega
  subst e
  have h1:nth (rs++ [t]) (l.length:Int)=t:=by rw[bM (by simp[h.1])];simp[<-h.1]
  have h2:nth (l++ [nth c t]) (l.length:Int)=nth c t:=by rw[bM (by simp)];simp
  rw[h1,h2];exact ⟨ht,rfl⟩
theorem KX (V:VA a n) (hn:n<=1000000) (hc:c.length=n) (hlv:lv.length=n) {l rs:List Int} {acs:List Bool} {rws:List (List Int)} {i:Nat} (hi:i<l.length) (hR:RepsOf n lv c rs l) {os:List (Option Int)} (hos:os.length=9)
  (ho: ∀r,good n lv r->nth c r=nth l (i:Int)->tM a c lv r=os) (hB: ∀k,(nbS l (os.take k)).length<=1000000) :
  ∃rs',aq (fb a c lv (l,rs,(i:Int),0,acs,rws)) aS (l,rs,[],0)=some (.brk (nbS l os,rs',nbR l os,9))/\RepsOf n lv c rs' (nbS l os):=by
 obtain ⟨s',e,rs',rfl,hR'⟩:=ln (f:=fb a c lv (l,rs,(i:Int),0,acs,rws)) (fun k s=> ∃rs',s=(nbS l (os.take k),rs',nbR l (os.take k),(k:Int))/\RepsOf n lv c rs' (nbS l (os.take k))) 9 (by
  rintro k s hk ⟨r1,rfl,hR1⟩
  have hpre:=jr l (os.take k)
  have hlen:=hpre.length_le
  have hBk:=hB k
  have hrl:(nbR l (os.take k)).length<=9:=by rw[du,aliasOf12];omega
  have hr1:=hR1.1
  obtain ⟨⟨g0,g1,g2⟩,gc⟩:=hR1.2 i (by omega)
  rw[hY hpre (by omega) (by omega)] at gc
  have hsu:=ho _ ⟨g0,g1,g2⟩ gc
  have hok:nth os (k:Int)=if mv a (nth r1 (i:Int)) k≥0/\nth lv (mv a (nth r1 (i:Int)) k)=true then some (nth c (mv a (nth r1 (i:Int)) k)) else none:=by
   rw[<-hsu];exact F5 hk
  have hmv:=V.mv (s:=nth r1 (i:Int)) (k:=k) g0 g1 hk
  unfold fb
  simp only
  rw[if_pos (by simp;omega),aA (xs:=r1) (by omega) (by omega)];simp only[aliasOf0]
  rw[V.get g0 g1];simp only[aliasOf0]
  rw[V.get2 g0 g1 hk,take_one (by omega),sp,pY]
  simp only[aliasOf0,af (show k<9223372036854775807 by omega)]
  by_cases c1:mv a (nth r1 (i:Int)) k≥0
  ·rw[if_pos (by simpa using c1),aA (xs:=lv) c1 (by omega)];simp only[aliasOf0]
   by_cases c2:nth lv (mv a (nth r1 (i:Int)) k)=true
   ·rw[if_pos ⟨c1,c2⟩] at hok
    rw[if_pos c2,aA (xs:=c) c1 (by omega),hok];simp only[aliasOf0]
    rw[O8 (by omega)];simp only[aliasOf0]
    by_cases c3:nth c (mv a (nth r1 (i:Int)) k)∈nbS l (os.take k)
    ·rw[if_pos c3,if_neg (by simp)];simp only[aliasOf0]
     rw[aD (by simp;omega)]
     exact ⟨_,rfl,r1,by rw[ke c3];rfl,by rw[ke c3];exact hR1⟩
    ·rw[if_neg c3,if_pos (by decide)]
     rw[aD (by simp;omega)];simp only[aliasOf0]
     rw[aD (by simp;omega)];simp only[aliasOf0]
     rw[aD (by simp;omega)];simp only[aliasOf0]
     refine ⟨_,rfl,r1++ [mv a (nth r1 (i:Int)) k],?_,?_⟩
     ·rw[jt c3];simp only[nbI,mU c3]
     ·rw[jt c3];exact hR1.snoc ⟨c1,hmv.2,c2⟩
   ·rw[if_neg (fun h=>c2 h.2)] at hok
    rw[if_neg c2,hok];simp only[aliasOf0]
    rw[aD (by simp;omega)]
    exact ⟨_,rfl,r1,rfl,hR1⟩
  ·rw[if_neg (fun h=>c1 h.1)] at hok
   rw[if_neg (by simpa using c1),hok];simp only[aliasOf0]
   rw[aD (by simp;omega)]
   exact ⟨_,rfl,r1,rfl,hR1⟩) (by
  rintro s ⟨r1,rfl,hR1⟩
  unfold fb
  simp) (s:=(l,rs,[],0)) ⟨rs,rfl,hR⟩ (by unfold aS;omega)
 rw[List.take_of_length_le (by omega)] at e hR'
 exact ⟨rs',e,hR'⟩
theorem SS (V:VA a n) (hn:n<=1000000) (hc:c.length=n) (hlv:lv.length=n) (hs:nth lv a.1=true) (H:NumOk nx (nth c a.1) G B) (hB:B<=1000000)
  (hnx: ∀r,good n lv r->nx (nth c r)=tM a c lv r) (hacc: ∀r,good n lv r->acc (nth c r)=nth a.2.1 r) :
  ∃N,bfE nx (nth c a.1) N/\fV a c lv=some (0,(bfS nx (nth c a.1) N).map acc,bfR nx (nth c a.1) N):=by
 obtain ⟨N,hNB,hN⟩:=OP (nx:=nx) (first:=nth c a.1) (H.le)
 refine ⟨N,hN,?_⟩
 have hst:=V.start
 have hlen:=V.len
 unfold fV
 rw[aA hst.1 (by omega)];simp only[aliasOf0]
 rw[if_pos hs,aA hst.1 (by omega)];simp only[aliasOf0]
 obtain ⟨s',e,rs,rfl,hR⟩:=ln (f:=gz a c lv) (fun i s=> ∃rs,s=(bfS nx (nth c a.1) i,rs,(i:Int),0,((bfS nx (nth c a.1) i).take i).map acc,bfR nx (nth c a.1) i)/\RepsOf n lv c rs (bfS nx (nth c a.1) i)) N (by
  rintro i s hi ⟨rs,rfl,hR⟩
  have hlt:=hN.2 i hi
  have hG:=H.at hlt
  have hle:=H.le i
  have hle':=H.le (i+1)
  obtain ⟨rs',e,hR'⟩:=KX (acs:=((bfS nx (nth c a.1) i).take i).map acc) (rws:=bfR nx (nth c a.1) i) V hn hc hlv hlt hR (os:=nx (nth (bfS nx (nth c a.1) i) (i:Int))) (H.len _ hG) (fun r hr e=>by rw[<-hnx r hr,e]) (fun k=>by
    have:(nbS (bfS nx (nth c a.1) i) ((nx (nth (bfS nx (nth c a.1) i) (i:Int))).take k)).length<=B:=H.bound _ (px (lp i)) fun x hx=>by
     rcases tG.1 hx with hx | hx
     ·exact iV H.g0 H.gn i x hx
     ·exact H.gn _ hG x (List.mem_of_mem_take hx)
    omega)
  unfold gz
  simp only
  rw[if_pos (by simp;omega),au e]
  rw[<-iX hlt] at hR'
  have hl2:=(bp (nx:=nx) (first:=nth c a.1) i).length_le
  have hr1:=hR'.1
  obtain ⟨⟨g0,g1,g2⟩,gc⟩:=hR'.2 i (by omega)
  rw[hY (bp i) (by omega) (by omega)] at gc
  rw[aA (xs:=rs') (by omega) (by omega)];simp only[aliasOf0]
  rw[V.acc g0 g1,<-hacc _ ⟨g0,g1,g2⟩,gc];simp only[aliasOf0]
  have hr:(bfR nx (nth c a.1) i).length=i:=hH fun j hj=>hN.2 j (by omega)
  rw[aD (by simp;omega)];simp only[aliasOf0]
  rw[aD (by simp;omega)];simp only[aliasOf0,af (show i<9223372036854775807 by omega)]
  exact ⟨_,rfl,rs',by rw[<-iX hlt,vz hlt,sB hlt],hR'⟩) (by
  rintro s ⟨rs,rfl,hR⟩
  unfold gz
  simp only
  rw[if_neg (by have:=hN.1;simp;omega)]) (s:=([nth c a.1],[a.1],0,0,[],[])) ⟨[a.1],rfl,rfl,fun j hj=>by
   obtain rfl:j=0:=by simpa [bfS] using hj
   exact ⟨⟨hst.1,hst.2,hs⟩,rfl⟩⟩ (rm (by omega))
 rw[au e]
 simp only
 rw[List.take_of_length_le (by have:=hN.1;omega)]
theorem Ex (V:VA a n) (hlv:lv.length=n) (hs:nth lv a.1=false):fV a c lv=some nothing:=by
 have hst:=V.start
 unfold fV
 rw[aA hst.1 (by omega)];simp only[aliasOf0]
 rw[hs,KU];rfl
end
end D
namespace D
open Go.RowKit
abbrev C8:=(List Int)×Int×Int×(List Int)×Bool
abbrev NO (x:Int) (j:Nat):Bool:=(vD (qd x (j:Int)) 1)==1
def NP (F:List Int) (set m0:Int):Nat->Int
 | 0=>m0
 | i+1=>if NO set (i+1) then orI (NP F set m0 i) (nth F (i:Int)) else NP F set m0 i
def pick (L:List Int) (m letter:Int):Nat->Int
 | 0=>0
 | i+1=>if nth L (i:Int)=letter/\NO m i=true then orI (pick L m letter i) (EH 1 ((i+1:Nat):Int)) else pick L m letter i
def aft (p:C8) (set letter:Int):Int:=pick p.1 (NP p.2.2.2.1 set (if (vD set 1)==1 then p.2.1 else 0) p.2.2.2.1.length) letter p.1.length
def sC (p:C8) (set:Int):Bool:=if (vD set 1)==1 then (if p.2.2.2.2 then true else (vD (qd set 1) p.2.2.1) !=0) else (vD (qd set 1) p.2.2.1) !=0
theorem pC (i:Nat):chk (0<=(i:Int))=some ():=by unfold chk;rw[if_pos (by omega)]
theorem Rh {p:C8} {set letter:Int} (hl:p.2.2.2.1.length=p.1.length) (hb:p.1.length<=1000000):lI p set letter=some (aft p set letter):=by
 have h0: ∀m0,aq (fC p set) aS (m0,0)=some (.brk (NP p.2.2.2.1 set m0 p.1.length,(p.1.length:Int))):=fun m0 =>
  br (f:=fC p set) (fun i=>(NP p.2.2.2.1 set m0 i,(i:Int))) p.1.length (fun i hi=>by
   unfold fC
   simp only
   rw[if_pos (by simp;omega),af (by omega),pC];simp only[aliasOf0]
   rw[NP]
   by_cases c:NO set (i+1)=true
   ·rw[if_pos c,if_pos c,aA (by omega) (by omega)];rfl
   ·rw[if_neg c,if_neg c];rfl) (by unfold fC;simp) (rm (by omega))
 have h1: ∀s7:Int×Int,aq (fD p letter s7) aS (0,0)=some (.brk (pick p.1 s7.1 letter p.1.length,(p.1.length:Int))):=fun s7 =>
  br (f:=fD p letter s7) (fun i=>(pick p.1 s7.1 letter i,(i:Int))) p.1.length (fun i hi=>by
   unfold fD
   simp only
   rw[if_pos (by simp;omega),af (by omega),pC,pC];simp only[aliasOf0]
   rw[pick]
   by_cases c:NO s7.1 i=true
   ·rw[if_pos c,aA (by omega) (by omega)];simp only[aliasOf0]
    by_cases d:nth p.1 (i:Int)=letter
    ·rw[if_pos (by simpa using d),if_pos ⟨d,c⟩];rfl
    ·rw[if_neg (by simpa using d),if_neg (fun h=>d h.1)];rfl
   ·rw[if_neg c,if_neg (fun h=>c h.2)];rfl) (by unfold fD;simp) (rm (by omega))
 unfold lI aft
 rw[hl]
 by_cases c:((vD set 1)==1)=true
 ·rw[if_pos c,if_pos c];simp only[aliasOf0]
  rw[au (h0 _),au (h1 _)]
 ·rw[if_neg c,if_neg c];simp only[aliasOf0]
  rw[au (h0 _),au (h1 _)]
theorem Ri {p:C8} {set letter:Int} (hl:p.2.2.2.1.length=p.1.length) (hb:p.1.length<=1000000):eS p set letter=some (aft p set letter):=by
 have h0: ∀m0,aq (cq p set) aS (m0,0)=some (.brk (NP p.2.2.2.1 set m0 p.2.2.2.1.length,(p.2.2.2.1.length:Int))):=fun m0 =>
  br (f:=cq p set) (fun i=>(NP p.2.2.2.1 set m0 i,(i:Int))) p.2.2.2.1.length (fun i hi=>by
   unfold cq
   simp only
   rw[if_pos (by simp;omega),aA (by omega) (by omega)];simp only[aliasOf0]
   rw[af (by omega),pC];simp only[aliasOf0]
   rw[NP]
   by_cases c:NO set (i+1)=true
   ·rw[if_pos c,if_pos c];rfl
   ·rw[if_neg c,if_neg c];rfl) (by unfold cq;simp) (rm (by omega))
 have h1: ∀s7:Int×Int,aq (cr p letter s7) aS (0,0)=some (.brk (pick p.1 s7.1 letter p.1.length,(p.1.length:Int))):=fun s7 =>
  br (f:=cr p letter s7) (fun i=>(pick p.1 s7.1 letter i,(i:Int))) p.1.length (fun i hi=>by
   unfold cr
   simp only
   rw[if_pos (by simp;omega),aA (by omega) (by omega)];simp only[aliasOf0]
   rw[af (by omega),pC,pC];simp only[aliasOf0]
   rw[pick]
   by_cases d:nth p.1 (i:Int)=letter
   ·rw[if_pos (by simpa using d)]
    by_cases c:NO s7.1 i=true
    ·rw[if_pos c,if_pos ⟨d,c⟩];rfl
    ·rw[if_neg c,if_neg (fun h=>c h.2)];rfl
   ·rw[if_neg (by simpa using d),if_neg (fun h=>d h.1)];rfl) (by unfold cr;simp) (rm (by omega))
 unfold eS aft
 by_cases c:((vD set 1)==1)=true
 ·rw[if_pos c,if_pos c];simp only[aliasOf0]
  rw[au (h0 _),au (h1 _)]
 ·rw[if_neg c,if_neg c];simp only[aliasOf0]
  rw[au (h0 _),au (h1 _)]
theorem SU (p:C8) (x:Int):jA p x=some (sC p x):=by
 unfold jA sC
 split <;> (try split) <;> rfl
theorem SV (p:C8) (x:Int):cE p x=some (sC p x):=by
 unfold cE sC
 split <;> (try split) <;> rfl
theorem Hw (x:Int): -9223372036854775808<=IntKind.i64.wrap x/\IntKind.i64.wrap x<=9223372036854775807:=by
 simp only[IntKind.wrap,IntKind.bits,IntKind.signed,Bool.true_and]
 split <;> rename_i h <;> simp at h <;> omega
theorem Rj (x:Int):iOk (IntKind.i64.wrap x)=true:=by
 have h1:IntKind.i64.min= -9223372036854775808:=by decide
 have h2:IntKind.i64.max=9223372036854775807:=by decide
 have h3:=Hw x
 simp only[iOk,Lit.wf,h1,h2,ae,decide_eq_true_eq]
 omega
theorem SW (m n:Int):iOk (orI m n)=true:=Rj _
theorem KY (L:List Int) (m letter:Int): ∀i,iOk (pick L m letter i)=true
 | 0=>by unfold pick;decide
 | i+1=>by
  rw[pick]
  split
  ·exact SW _ _
  ·exact KY L m letter i
def nxS (p:C8) (x:Int):List (Option Int):=(List.range 9).map fun k:Nat=>if aft p x (k:Int)=0 then none else some (aft p x (k:Int))
theorem O9 {p:C8} {x:Int} {k:Nat} (hk:k<9):nth (nxS p x) (k:Int)=if aft p x k=0 then none else some (aft p x k):=by
 have:k<(nxS p x).length:=by simp[nxS];omega
 rw[bM this];simp[nxS]
theorem A7 (p:C8) (x:Int):(nxS p x).length=9:=by simp[nxS]
theorem SX {p:C8} {x y:Int} (h:some y∈nxS p x):iOk y=true:=by
 obtain ⟨k,hk,e⟩:=List.mem_map.1 h
 split at e
 ·cases e
 ·obtain rfl:=aliasOf1 e
  exact KY _ _ _ _
theorem KZ {κ:Type} [DecidableEq κ] : ∀(l:List κ) (os:List (Option κ)),(nbS l os).length<=l.length+os.length
 | l,[] =>by simp[nbS]
 | l,o::os=>by
  have h:=KZ (nbL l o) os
  have h2:(nbL l o).length<=l.length+1:=by
   cases o with
   | none=>simp[nbL]
   | some x=>unfold nbL;simp only;split <;> simp
  show (nbS (nbL l o) os).length<=_
  simp only[aliasOf6];omega
section
variable {κ:Type} [DecidableEq κ] (nx:κ->List (Option κ)) (first:κ) (acc:κ->Bool) (most:Nat)
def goM:Nat->Nat->AutT×Bool
 | 0,i=>((0,[],[]),false)
 | f+1,i=>if i<(bfS nx first i).length then (if (bfS nx first (i+1)).length>most then ((0,[],[]),false) else goM f (i+1)) else ((0,((bfS nx first i).take i).map acc,bfR nx first i),true)
end
section
variable {κ:Type} [DecidableEq κ] {nx:κ->List (Option κ)} {first:κ} {acc:κ->Bool} {most:Nat}
theorem A8 {i:Nat} (h: ∀j,j<i->j<(bfS nx first j).length):i<=(bfS nx first i).length:=by
 cases i with
 | zero=>omega
 | succ i =>
  have h1:=h i (by omega)
  have h2:=(bp (nx:=nx) (first:=first) i).length_le
  omega
theorem F6 {S:Type} {f:S->Option (Out (AutT×Bool) S)} (hm:most<=1000000) (h1:1<=most) (st:Nat->S->Prop)
  (hs: ∀i s,st i s->(∀j,j<i->j<(bfS nx first j).length)->(bfS nx first i).length<=most->i<(bfS nx first i).length->((bfS nx first (i+1)).length>most->f s=some (.ret ((0,[],[]),false)))/\((bfS nx first (i+1)).length<=most-> ∃s',f s=some (.nxt s')/\st (i+1) s'))
  (he: ∀i s,st i s-> ¬i<(bfS nx first i).length->f s=some (.brk s)) {s:S} (h0:st 0 s) :
  (aq f aS s=some (.ret ((0,[],[]),false))/\goM nx first acc most (most+2) 0=((0,[],[]),false)) \/
  ∃N s',aq f aS s=some (.brk s')/\st N s'/\bfE nx first N/\N<=most/\goM nx first acc most (most+2) 0=((0,(bfS nx first N).map acc,bfR nx first N),true):=by
 obtain ⟨o,e,hq⟩:=cy (f:=f) (fun i s=>st i s/\(∀j,j<i->j<(bfS nx first j).length)/\(bfS nx first i).length<=most/\goM nx first acc most (most+2) 0=goM nx first acc most (most+2 - i) i)
  (fun o=>(o= .ret ((0,[],[]),false)/\goM nx first acc most (most+2) 0=((0,[],[]),false))\/ ∃N s',o= .brk s'/\st N s'/\bfE nx first N/\N<=most/\goM nx first acc most (most+2) 0=((0,(bfS nx first N).map acc,bfR nx first N),true)) most (s:=s) (by
  rintro i s hi ⟨k1,k2,k3,k4⟩
  have hle:=A8 k2
  rw[show most+2 - i=(most+1 - i)+1 from by omega] at k4
  have k5:goM nx first acc most (most+1 - i+1) i=if i<(bfS nx first i).length then (if (bfS nx first (i+1)).length>most then ((0,[],[]),false) else goM nx first acc most (most+1 - i) (i+1)) else ((0,((bfS nx first i).take i).map acc,bfR nx first i),true):=rfl
  rw[k5] at k4
  by_cases c:i<(bfS nx first i).length
  ·rw[if_pos c] at k4
   obtain ⟨q1,q2⟩:=hs i s k1 k2 k3 c
   by_cases d:(bfS nx first (i+1)).length>most
   ·rw[if_pos d] at k4
    exact .inr ⟨_,q1 d,(fun s' e=>by cases e),.inl ⟨rfl,k4⟩⟩
   ·rw[if_neg d] at k4
    obtain ⟨s',e,hs'⟩:=q2 (by omega)
    exact .inl ⟨by omega,s',e,hs',fun j hj=>(by
     by_cases ej:j=i
     ·subst ej;exact c
     ·exact k2 j (by omega)),by omega,by rw[k4];congr 1;omega⟩
  ·rw[if_neg c] at k4
   refine .inr ⟨_,he i s k1 c,(fun s' e=>by cases e),.inr ⟨i,s,rfl,k1,⟨by omega,k2⟩,hi,?_⟩⟩
   rw[k4,List.take_of_length_le (by omega)]) ⟨h0,fun j hj=>by omega,by simp[bfS];omega,rfl⟩ (rm (by omega))
 rcases hq with ⟨rfl,h⟩ | ⟨N,s',rfl,h⟩
 ·exact .inl ⟨e,h⟩
 ·exact .inr ⟨N,s',e,h⟩
end
section
variable {p:C8} {most:Nat} (hl:p.2.2.2.1.length=p.1.length) (hb:p.1.length<=1000000) (hm:most<=900000) (h1:1<=most)
include hl hb hm h1
theorem Uj:fJ p most=some (goM (nxS p) 1 (sC p) most (most+2) 0):=by
 have hp3: ∀(l:List Int) (i k:Nat),k<9-> ∃j,(fun a0 a1=>cw a0 a1 (p.1,p.2.1,p.2.2.1,p.2.2.2.1,p.2.2.2.2)) (nth l (i:Int)) (k:Int)=some (match nth (nxS p (nth l (i:Int))) (k:Int) with | some y=>(y,true) | none=>(j,false)):=by
  intro l i k hk
  refine ⟨0,?_⟩
  show cw _ _ p=_
  unfold cw
  simp only[eE]
  rw[Ri hl hb,O9 hk];simp only[aliasOf0]
  by_cases c:aft p (nth l (i:Int)) k=0
  ·rw[if_pos c];simp[c]
  ·rw[if_neg c];simp[c]
 unfold fJ dt
 rw[show H3 ([] :List (Int×Int)) iOk iOk 1 0=some [(1,0)] from by unfold H3;rw[if_pos ⟨by simp,by decide,by decide⟩]];simp only[aliasOf0]
 rcases F6 (nx:=nxS p) (first:=1) (acc:=sC p) (most:=most) (f:=bC most (fun a0=>cE (p.1,p.2.1,p.2.2.1,p.2.2.2.1,p.2.2.2.2) a0) (fun a0 a1=>cw a0 a1 (p.1,p.2.1,p.2.2.1,p.2.2.2.1,p.2.2.2.2)))
  (by omega) h1 (fun i s=> ∃M,s=(bfS (nxS p) 1 i,M,(i:Int),0,((bfS (nxS p) 1 i).take i).map (sC p),bfR (nxS p) 1 i)/\MapOf M (bfS (nxS p) 1 i)) (by
   rintro i s ⟨M,rfl,hM⟩ hj hle hlt
   have hil:=A8 hj
   obtain ⟨M',e,hM'⟩:=CZ (p3:=fun a0 a1=>cw a0 a1 (p.1,p.2.1,p.2.2.1,p.2.2.2.1,p.2.2.2.2)) (l:=bfS (nxS p) 1 i) (M:=M) (os:=nxS p (nth (bfS (nxS p) 1 i) (i:Int))) (acs:=((bfS (nxS p) 1 i).take i).map (sC p)) (rws:=bfR (nxS p) 1 i) hlt (A7 _ _) hM (fun y hy=>SX hy)
    (fun k=>by
     have:=KZ (bfS (nxS p) 1 i) ((nxS p (nth (bfS (nxS p) 1 i) (i:Int))).take k)
     have h9:=A7 p (nth (bfS (nxS p) 1 i) (i:Int))
     rw[aliasOf12] at this
     omega) (fun k hk=>hp3 _ i k hk)
   rw[<-iX hlt] at hM'
   have hl2:=(bp (nx:=nxS p) (first:=1) i).length_le
   constructor
   ·intro hgt
    unfold bC
    simp only
    rw[if_pos (by simp;omega),au e,<-iX hlt]
    simp only
    rw[if_pos (by simp;omega)]
   ·intro hle2
    unfold bC
    simp only
    rw[if_pos (by simp;omega),au e,<-iX hlt]
    simp only
    rw[if_neg (by simp;omega),aA (by omega) (by omega)];simp only[aliasOf0]
    rw[hY (bp i) (by omega) (by omega)]
    simp only[eE]
    rw[SV];simp only[aliasOf0]
    have hr:(bfR (nxS p) 1 i).length=i:=hH hj
    rw[aD (by simp;omega)];simp only[aliasOf0]
    rw[aD (by simp;omega)];simp only[aliasOf0,af (show i<9223372036854775807 by omega)]
    exact ⟨_,rfl,M',by rw[vz hlt,sB hlt],hM'⟩) (by
   rintro i s ⟨M,rfl,hM⟩ hn
   unfold bC
   simp only
   rw[if_neg (by simp;omega)]) (s:=([1],[(1,0)],0,0,[],[])) ⟨_,rfl,MapOf.one 1⟩ with ⟨e,hg⟩ | ⟨N,s',e,⟨M,rfl,hM⟩,hN,hNm,hg⟩
 ·rw[bX e,hg];rfl
 ·rw[au e,hg];simp only[aliasOf0]
  rw[List.take_of_length_le (by have:=hN.1;omega)]
theorem NQ {l:List Int} {acs:List Bool} {rws:List (List Int)} {i:Nat} (hi:i<l.length) (hle:l.length<=most) :
  aq (dX p (l,(i:Int),0,acs,rws)) aS (l,[],0)=some (.brk (nbS l (nxS p (nth l (i:Int))),nbR l (nxS p (nth l (i:Int))),9)):=by
 have h9:=A7 p (nth l (i:Int))
 have:=br (f:=dX p (l,(i:Int),0,acs,rws)) (fun k=>(nbS l ((nxS p (nth l (i:Int))).take k),nbR l ((nxS p (nth l (i:Int))).take k),(k:Int))) 9 (fun k hk=>by
  have hpre:=jr l ((nxS p (nth l (i:Int))).take k)
  have hlen:=hpre.length_le
  have hB:=KZ l ((nxS p (nth l (i:Int))).take k)
  rw[aliasOf12] at hB
  have hrl:(nbR l ((nxS p (nth l (i:Int))).take k)).length<=9:=by rw[du,aliasOf12];omega
  unfold dX
  simp only[eE]
  rw[if_pos (by simp;omega),aA (by omega) (by omega)];simp only[aliasOf0]
  rw[hY hpre (by omega) (by omega),Rh hl hb];simp only[aliasOf0]
  rw[take_one (by omega),sp,pY,O9 hk]
  simp only[af (show k<9223372036854775807 by omega)]
  by_cases c:aft p (nth l (i:Int)) k=0
  ·rw[if_pos c,if_neg (by simp[c])];simp only[aliasOf0]
   rw[aD (by simp;omega)];rfl
  ·rw[if_neg c,if_pos (by simpa using c),O8 (by omega)];simp only[aliasOf0]
   by_cases d:aft p (nth l (i:Int)) k∈nbS l ((nxS p (nth l (i:Int))).take k)
   ·rw[if_pos d,if_neg (by simp),ke d];simp only[aliasOf0]
    rw[aD (by simp;omega)];rfl
   ·rw[if_neg d,if_pos (by decide),aD (by simp;omega),jt d];simp only[aliasOf0]
    rw[aD (by simp;omega)];simp only[nbI,mU d,aliasOf0]) (by
  unfold dX
  simp) (by unfold aS;omega)
 have e9:(nxS p (nth l (i:Int))).take 9=nxS p (nth l (i:Int)):=List.take_of_length_le (by omega)
 rw[e9] at this
 exact this
theorem Uk:gm p most=some (goM (nxS p) 1 (sC p) most (most+2) 0):=by
 unfold gm
 rcases F6 (nx:=nxS p) (first:=1) (acc:=sC p) (most:=most) (f:=dY p most)
  (by omega) h1 (fun i s=>s=(bfS (nxS p) 1 i,(i:Int),0,((bfS (nxS p) 1 i).take i).map (sC p),bfR (nxS p) 1 i)) (by
   rintro i s rfl hj hle hlt
   have hil:=A8 hj
   have e:=NQ hl hb hm h1 (acs:=((bfS (nxS p) 1 i).take i).map (sC p)) (rws:=bfR (nxS p) 1 i) hlt hle
   have hl2:=(bp (nx:=nxS p) (first:=1) i).length_le
   constructor
   ·intro hgt
    unfold dY
    simp only
    rw[if_pos (by simp;omega),au e,<-iX hlt]
    simp only
    rw[if_pos (by simp;omega)]
   ·intro hle2
    unfold dY
    simp only
    rw[if_pos (by simp;omega),au e,<-iX hlt]
    simp only
    rw[if_neg (by simp;omega),aA (by omega) (by omega)];simp only[aliasOf0]
    rw[hY (bp i) (by omega) (by omega)]
    simp only[eE]
    rw[SU];simp only[aliasOf0]
    have hr:(bfR (nxS p) 1 i).length=i:=hH hj
    rw[aD (by simp;omega)];simp only[aliasOf0]
    rw[aD (by simp;omega)];simp only[aliasOf0,af (show i<9223372036854775807 by omega)]
    exact ⟨_,rfl,by rw[vz hlt,sB hlt]⟩) (by
   rintro i s rfl hn
   unfold dY
   simp only
   rw[if_neg (by simp;omega)]) (s:=([1],0,0,[],[])) rfl with ⟨e,hg⟩ | ⟨N,s',e,rfl,hN,hNm,hg⟩
 ·rw[bX e,hg]
 ·rw[au e,hg];simp only
  rw[List.take_of_length_le (by have:=hN.1;omega)]
end
end D
namespace D
open Go.RowKit
theorem NR (m n:Int):orI m n=orI n m:=by unfold orI;rw[BitVec.or_comm]
def lk (F:List Int) (from_ to_:Int):Nat->List Int
 | 0=>F
 | i+1=>if NO from_ i then (lk F from_ to_ i).set i (orI (nth (lk F from_ to_ i) (i:Int)) to_) else lk F from_ to_ i
theorem xD (F:List Int) (f t:Int): ∀i,(lk F f t i).length=F.length
 | 0=>rfl
 | i+1=>by
  rw[lk]
  split
  ·rw[List.length_set,xD]
  ·exact xD F f t i
theorem Pa {p:C8} {f t:Int} (hl:p.2.2.2.1.length<=1000000):kR p f t=some (p.1,p.2.1,p.2.2.1,lk p.2.2.2.1 f t p.2.2.2.1.length,p.2.2.2.2):=by
 have hL:aq (gl f t) aS (0,p.2.2.2.1)=some (.brk ((p.2.2.2.1.length:Int),lk p.2.2.2.1 f t p.2.2.2.1.length)):=br (f:=gl f t) (fun i=>((i:Int),lk p.2.2.2.1 f t i)) p.2.2.2.1.length (fun i hi=>by
  have hk:=xD p.2.2.2.1 f t i
  unfold gl
  simp only
  rw[if_pos (by simp;omega),pC];simp only[aliasOf0]
  rw[lk,af (by omega)]
  by_cases c:NO f i=true
  ·rw[if_pos c,if_pos c,aA (by omega) (by omega)];simp only[aliasOf0,Int.toNat_natCast]
  ·rw[if_neg c,if_neg c];rfl) (by unfold gl;simp[xD]) (rm (by omega))
 unfold kR
 rw[au hL]
theorem F7 {p:C8} {f t:Int} (hl:p.2.2.2.1.length<=1000000):cO p f t=some (p.1,p.2.1,p.2.2.1,lk p.2.2.2.1 f t p.2.2.2.1.length,p.2.2.2.2):=by
 have hL:aq (cf p f t) aS (0,p.2.2.2.1)=some (.brk ((p.2.2.2.1.length:Int),lk p.2.2.2.1 f t p.2.2.2.1.length)):=br (f:=cf p f t) (fun i=>((i:Int),lk p.2.2.2.1 f t i)) p.2.2.2.1.length (fun i hi=>by
  have hk:=xD p.2.2.2.1 f t i
  unfold cf
  simp only
  rw[if_pos (by simp;omega),pC];simp only[aliasOf0]
  rw[lk,af (by omega)]
  by_cases c:NO f i=true
  ·rw[if_pos c,if_pos c,aA (by omega) (by omega)];simp only[aliasOf0,Int.toNat_natCast]
  ·rw[if_neg c,if_neg c];rfl) (by unfold cf;simp) (rm (by omega))
 unfold cO
 rw[au hL]
def BOk (x:Tr Tok):Prop:= ∀(n m:Nat) (p:C8),(flat x).length<=n->(flat x).length<=m->p.2.2.2.1.length=p.1.length->p.1.length+(flat x).length<=100000->
 ∃(nu:Bool) (fi la:Int) (q:C8),cA n p (flat x)=some ((nu,fi,la),q)/\aZ m p x=some ((fi,la,nu),q)/\q.2.2.2.1.length=q.1.length/\q.1.length<=p.1.length+(flat x).length
theorem NS {x:Tr Tok} (h:WT x):BOk x:=by
 refine WT.ind (p:=BOk) ?_ ?_ ?_ h
 ·intro t e n m p hn hm hF hl
  rw[yz] at hn hm hl⊢
  simp only[aliasOf6,aliasOf19] at hl
  match n,m,hn,hm with
  | n+1,m+1,_,_ =>
   rw[cA,aZ];simp only[mW,aliasOf0]
   have:=(kD (A:=[]) (t:=t) (by simp)).1
   rw[List.nil_append] at this
   rw[this];simp only[aliasOf0,eE]
   rcases lr (show 0<=ar t by omega) with ⟨k,_⟩ | ⟨k,_⟩ | ⟨_,k⟩
   ·omega
   ·omega
   rcases k with k | k | k
   ·exact ⟨false,0,0,p,by simp[k],by simp[k],hF,by simp⟩
   ·exact ⟨true,0,0,p,by simp[k],by simp[k],hF,by simp⟩
   ·refine ⟨false,EH 1 (p.1.length:Int),EH 1 (p.1.length:Int),(p.1++ [t.2.1],p.2.1,p.2.2.1,p.2.2.2.1++ [0],p.2.2.2.2),?_,?_,by simp[hF],by simp⟩
    ·rw[if_neg (by simp[k]),if_pos (by simp[k]),aD (by simp;omega)];simp only[aliasOf0]
     rw[aD (by simp;omega)];rfl
    ·rw[if_neg (by simp[k]),if_pos (by simp[k]),aD (by simp;omega)];simp only[aliasOf0]
     rw[aD (by simp;omega)];rfl
 ·intro t a e wa ih n m p hn hm hF hl
  rw[A1] at hn hm hl⊢
  simp only[aliasOf5,aliasOf6,aliasOf19] at hn hm hl
  match n,m,hn,hm with
  | n+1,m+1,hn,hm =>
   rw[cA,aZ];simp only[mW,aliasOf0,eE]
   obtain ⟨l1,l2⟩:=kD (A:=flat a) (t:=t) (by omega)
   rw[l1];simp only[aliasOf0]
   obtain ⟨nu,fi,la,q,hs,hi,hq1,hq2⟩:=ih n m p (by omega) (by omega) hF (by omega)
   rcases NK e with ⟨k1,k2⟩ | ⟨k1,k2,k3⟩
   ·have g2:(t.1==2)=false:=by simp[k2]
    have g3:(t.1==3)=false:=by simp[k2]
    have g4:(t.1==4)=false:=by simp[k2]
    have g5:(t.1==5)=false:=by simp[k2]
    simp only[g2,g3,g4,g5,k1,Bool.false_eq_true,if_false,if_true]
    rw[l2,Int.toNat_natCast,List.take_left,kl (by simp only[aliasOf5,aliasOf6,aliasOf19];omega)];simp only[aliasOf0]
    rw[hs,show aK [a] 0=some a from rfl];simp only[aliasOf0]
    rw[hi];simp only[aliasOf0,eE]
    rw[Pa (by omega),F7 (by omega)];simp only[aliasOf0]
    refine ⟨true,fi,la,_,rfl,rfl,?_,?_⟩
    ·simp only[xD];exact hq1
    ·simp only[aliasOf5,aliasOf6,aliasOf19];omega
   ·have g2:(t.1==2)=false:=by simp[k3]
    have g3:(t.1==3)=false:=by simp[k3]
    have g4:(t.1==4)=false:=by simp[k3]
    have g5:(t.1==5)=false:=by simp[k3]
    simp only[g2,g3,g4,g5,k1,Bool.false_eq_true,if_false]
    exact ⟨false,0,0,p,rfl,rfl,hF,by omega⟩
 ·intro t a b e wa wb iha ihb n m p hn hm hF hl
  rw[ri] at hn hm hl⊢
  have hl2:((flat a++flat b)++ [t]).length<=1000000:=by omega
  obtain ⟨p1,p2,p3,p4⟩:=xC (a:=a) (t:=t) wb hl2
  simp only[aliasOf5,aliasOf6,aliasOf19] at hn hm hl
  match n,m,hn,hm with
  | n+1,m+1,hn,hm =>
   have hpa:=wa.pos
   have hpb:=wb.pos
   rw[cA,aZ];simp only[mW,aliasOf0,eE]
   obtain ⟨l1,l2⟩:=kD (A:=flat a++flat b) (t:=t) (by rw[aliasOf5];omega)
   rw[l1];simp only[aliasOf0]
   obtain ⟨nu,fi,la,q,hs,hi,hq1,hq2⟩:=iha n m p (by omega) (by omega) hF (by omega)
   obtain ⟨nu2,fi2,la2,q2,hs2,hi2,hq3,hq4⟩:=ihb n m q (by omega) (by omega) hq1 (by omega)
   have c1: ∀r:Int,0<=r->r<=((flat a++flat b++ [t]).length:Int)->chk (0<=r/\r<=((flat a++flat b++ [t]).length:Int))=some ():=fun r h1 h2=>kl ⟨h1,h2⟩
   have g0:aK [a,b] 0=some a:=rfl
   have g1:aK [a,b] 1=some b:=rfl
   rcases lr (show 0<=ar t by omega) with ⟨_,k⟩ | ⟨k,_⟩ | ⟨k,_⟩
   ·rcases k with k | k
    ·have g2:(t.1==2)=false:=by simp[k]
     have g3:(t.1==3)=false:=by simp[k]
     have g4:(t.1==4)=true:=by simp[k]
     have g5:(t.1==5)=false:=by simp[k]
     simp only[g2,g3,g4,g5,Bool.false_eq_true,if_false,if_true]
     rw[l2,p1,p2,kl (by simp only[aliasOf5,aliasOf6,aliasOf19];omega)];simp only[aliasOf0]
     rw[kl (by simp only[aliasOf5,aliasOf6,aliasOf19];omega),p3,p4,hs,g0,g1];simp only[aliasOf0]
     rw[hi,kl (by simp only[aliasOf5,aliasOf6,aliasOf19];omega)];simp only[aliasOf0,eE]
     rw[hs2,hi2];simp only[aliasOf0,eE]
     rw[Pa (by omega),F7 (by omega)];simp only[aliasOf0]
     refine ⟨nu&&nu2,if nu then orI fi fi2 else fi,if nu2 then orI la la2 else la2,(q2.1,q2.2.1,q2.2.2.1,lk q2.2.2.2.1 la fi2 q2.2.2.2.1.length,q2.2.2.2.2),?_,?_,?_,?_⟩
     ·cases nu <;> cases nu2 <;> rfl
     ·rw[NR la la2]
      cases nu <;> cases nu2 <;> rfl
     ·simp only[xD];exact hq3
     ·simp only[aliasOf5,aliasOf6,aliasOf19];omega
    ·have g2:(t.1==2)=false:=by simp[k]
     have g3:(t.1==3)=false:=by simp[k]
     have g4:(t.1==4)=false:=by simp[k]
     have g5:(t.1==5)=true:=by simp[k]
     simp only[g2,g3,g4,g5,Bool.false_eq_true,if_false,if_true]
     rw[l2,p1,p2,kl (by simp only[aliasOf5,aliasOf6,aliasOf19];omega)];simp only[aliasOf0]
     rw[kl (by simp only[aliasOf5,aliasOf6,aliasOf19];omega),p3,p4,hs,g0,g1];simp only[aliasOf0]
     rw[hi,kl (by simp only[aliasOf5,aliasOf6,aliasOf19];omega)];simp only[aliasOf0,eE]
     rw[hs2,hi2];simp only[aliasOf0,eE]
     refine ⟨nu || nu2,orI fi fi2,orI la la2,q2,?_,?_,hq3,?_⟩
     ·cases nu <;> simp
     ·cases nu <;> simp
     ·simp only[aliasOf5,aliasOf6,aliasOf19];omega
   ·omega
   ·omega
def Ey (e:List Tok):Nat->Nat
 | 0=>0
 | i+1=>if (nth e (i:Int)).1=3 then Ey e i+1 else Ey e i
theorem Ez (e:List Tok): ∀i,Ey e i<=i
 | 0=>al _
 | i+1=>by
  have:=Ez e i
  rw[Ey];split <;> omega
theorem Ul {r:List Tok×Bool} (hl:r.1.length<=1000000):aq (cB r) aS (0,0)=some (.brk ((Ey r.1 r.1.length:Int),(r.1.length:Int))):=
 br (f:=cB r) (fun i=>((Ey r.1 i:Int),(i:Int))) r.1.length (fun i hi=>by
  have:=Ez r.1 i
  unfold cB
  simp only
  rw[if_pos (by simp;omega),aA (by omega) (by omega)];simp only[aliasOf0]
  rw[Ey,af (show i<9223372036854775807 by omega),af (show Ey r.1 i<9223372036854775807 by omega)]
  by_cases c:(nth r.1 (i:Int)).1=3
  ·rw[if_pos (by simpa using c),if_pos c];rfl
  ·rw[if_neg (by simpa using c),if_neg c];rfl) (by unfold cB;simp) (rm (by omega))
theorem Um {r:List Tok×Bool} (hl:r.1.length<=1000000):aq (cD r) aS (0,0)=some (.brk ((Ey r.1 r.1.length:Int),(r.1.length:Int))):=
 br (f:=cD r) (fun i=>((Ey r.1 i:Int),(i:Int))) r.1.length (fun i hi=>by
  have:=Ez r.1 i
  unfold cD
  simp only
  rw[if_pos (by simp;omega),aA (by omega) (by omega)];simp only[aliasOf0]
  rw[Ey,af (show i<9223372036854775807 by omega),af (show Ey r.1 i<9223372036854775807 by omega)]
  by_cases c:(nth r.1 (i:Int)).1=3
  ·rw[if_pos (by simpa using c),if_pos c];rfl
  ·rw[if_neg (by simpa using c),if_neg c];rfl) (by unfold cD;simp) (rm (by omega))
theorem rk {e:List Tok} (he:e.length<=1048576): ∃r:C8×Bool,fo e=some r/\fp e=some r/\r.1.2.2.2.1.length=r.1.1.length/\r.1.1.length<=100000:=by
 have hF:=sA
 obtain ⟨e1,e2⟩:=Ev he
 unfold fo fp
 rw[e1,e2];simp only[aliasOf0]
 by_cases c:(Hv e).2=true
 ·obtain ⟨y,wy,ey,ly⟩:=Re c
  rw[if_pos c,if_pos c,au (Ul (by rw[ey];omega)),au (Um (by rw[ey];omega))]
  simp only
  by_cases d:(Ey (Hv e).1 (Hv e).1.length:Int)>20
  ·have d':decide ((Ey (Hv e).1 (Hv e).1.length:Int)>20)=true:=decide_eq_true d
   simp only[d',if_true]
   exact ⟨_,rfl,rfl,rfl,by simp⟩
  ·have d':decide ((Ey (Hv e).1 (Hv e).1.length:Int)>20)=false:=decide_eq_false d
   simp only[d',Bool.false_eq_true,if_false]
   rw[ey,A3 (by omega),tJ wy];simp only[aliasOf0]
   obtain ⟨nu,fi,la,q,hs,hi,hq1,hq2⟩:=NS wy e7 e7 ([],0,0,[],false) (by omega) (by omega) rfl (by simp;omega)
   rw[hs,hi];simp only[aliasOf0]
   exact ⟨_,rfl,rfl,hq1,by simp at hq2;show q.1.length<=_;omega⟩
 ·rw[if_neg c,if_neg c]
  exact ⟨_,rfl,rfl,rfl,by simp⟩
end D
namespace D
open Go.RowKit
theorem Hx (n:Nat) (l:List Int) (hd:l.Nodup) (h: ∀x∈l,0<=x/\x<n):l.length<=n:=by
 have:=hd.length_le_of_subset (l₂:=(List.range n).map Int.ofNat) (fun x hx=>by
  obtain ⟨h0,h1⟩:=h x hx
  exact List.mem_map.2 ⟨x.toNat,List.mem_range.2 (by omega),by show ((x.toNat:Nat):Int)=x;omega⟩)
 simpa using this
theorem SY {n:Nat} {x:Int} (hn:n<=1000000) (h0:0<=x) (h1:x<n):iOk x=true:=by
 have:=KW (n:=x.toNat) (by omega)
 rwa [show ((x.toNat:Nat):Int)=x from by omega] at this
theorem SZ {κ:Type} [DecidableEq κ] {nx:κ->List (Option κ)} {first:κ} {G:κ->Prop} {B N:Nat} {acc:κ->Bool} (H:NumOk nx first G B) (hB:B<=1000000) (hN:bfE nx first N):Data.sm ((0,(bfS nx first N).map acc,bfR nx first N):AutT):=by
 have hl:=H.bound _ (lp (nx:=nx) (first:=first) N) (iV H.g0 H.gn N)
 refine ⟨trivial,⟨by rw[List.length_map];omega,fun _ _=>trivial⟩,?_,?_⟩
 ·rw[hH hN.2];have:=hN.1;omega
 ·have key: ∀i,i<=N-> ∀r∈bfR nx first i,r.length=9:=by
   intro i
   induction i with
   | zero=>intro _ r hr;cases hr
   | succ i ih =>
    intro hi r hr
    have hlt:=hN.2 i (by omega)
    rw[sq hlt] at hr
    rcases aliasOf9 hr with hr | hr
    ·exact ih (by omega) r hr
    ·obtain rfl:=aliasOf7 hr
     rw[du,H.len _ (iV H.g0 H.gn i _ (List.getElem_mem hlt))]
  intro r hr
  exact ⟨by rw[key N (al _) r hr];decide,fun _ _=>trivial⟩
theorem Hy:Data.sm nothing:=⟨trivial,⟨by decide,fun _ _=>trivial⟩,by decide,fun r hr=>by
 obtain rfl:=aliasOf7 hr
 exact ⟨by decide,fun _ _=>trivial⟩⟩
end D
namespace D
open Go.RowKit
theorem Hz {κ:Type} [DecidableEq κ] {l m:List κ} (h:l <+:m) {y:κ} (hy:y∈l):(m.idxOf y:Int)=l.idxOf y:=by
 obtain ⟨t,rfl⟩:=h
 rw[List.idxOf_append,if_pos hy]
theorem Pb {κ:Type} [DecidableEq κ] : ∀(l:List κ) (os:List (Option κ)) (i:Nat),i<os.length->nth (nbR l os) (i:Int)=nbI (nbS l os) (nth os (i:Int))
 | l,o::os,0,_=>by
  show nbI l o=nbI (nbS (nbL l o) os) o
  cases o with
  | none=>rfl
  | some y =>
   have hm:y∈nbL l (some y):=Kk.2 (.inr rfl)
   simp only[nbI]
   rw[Hz (jr _ os) hm]
   by_cases c:y∈l
   ·rw[ke c]
   ·rw[jt c,List.idxOf_append,if_neg c,mU c];simp
 | l,o::os,i+1,h=>by
  have h':i<os.length:=by simpa using h
  have ih:=Pb (nbL l o) os i h'
  have e1:nth (nbR l (o::os)) ((i+1:Nat):Int)=nth (nbR (nbL l o) os) (i:Int):=by
   rw[bM (by rw[du];exact h),bM (by rw[du];exact h')];rfl
  have e2:nth (o::os) ((i+1:Nat):Int)=nth os (i:Int):=by rw[bM h,bM h'];rfl
  rw[e1,e2];exact ih
theorem me {κ:Type} [DecidableEq κ] {l:List κ} {y:κ} (h:y∈l): ∃(q:Nat) (hq:q<l.length),nbI l (some y)=(q:Int)/\l[q] =y:=
 ⟨l.idxOf y,List.idxOf_lt_length_of_mem h,rfl,by simp⟩
theorem A9 {κ:Type} [DecidableEq κ] {l:List κ} {y:κ} (h:y∉l):nbI l (some y)=(l.length:Int):=by simp only[nbI,mU h]
def Pc:List Int->Nat->Nat->Prop
 | [],c,m=>c=m
 | x::xs,c,m=>(x= -1/\Pc xs c m)\/(0<=x/\x<c/\Pc xs c m)\/(x=c/\Pc xs (c+1) m)
theorem Ba {κ:Type} [DecidableEq κ] : ∀(os:List (Option κ)) (l:List κ),Pc (nbR l os) l.length (nbS l os).length
 | [],l=>rfl
 | none::os,l=>.inl ⟨rfl,Ba os l⟩
 | some y::os,l=>by
  by_cases c:y∈l
  ·refine .inr (.inl ⟨Int.natCast_nonneg _,?_,?_⟩)
   ·have:=List.idxOf_lt_length_of_mem c
    simp only[nbI];omega
   ·show Pc (nbR (nbL l (some y)) os) l.length (nbS (nbL l (some y)) os).length
    rw[ke c];exact Ba os l
  ·refine .inr (.inr ⟨by simp only[nbI,mU c],?_⟩)
   show Pc (nbR (nbL l (some y)) os) (l.length+1) (nbS (nbL l (some y)) os).length
   have:=Ba os (l++ [y])
   rw[jt c]
   simpa using this
def TH:List Int->List (Option (List Int))->Prop
 | [],[] =>True
 | x::xs,o::os=>((x<0/\o=none)\/(0<=x/\ ∃t,o=some (x::t)))/\TH xs os
 | _,_=>False
theorem K0: ∀(xs:List Int) (os:List (Option (List Int))),xs.length=os.length->(∀i (h:i<xs.length) (h':i<os.length),(xs[i] < 0/\os[i] =none)\/(0<=xs[i] /\ ∃t,os[i] =some (xs[i] ::t)))->TH xs os
 | [],[],_,_=>trivial
 | x::xs,o::os,hl,h=>⟨h 0 (by simp) (by simp),K0 xs os (by simpa using hl) fun i h1 h2=>h (i+1) (by simpa using h1) (by simpa using h2)⟩
theorem lu: ∀(xs:List Int) (os:List (Option (List Int))) (l:List (List Int)) (c m:Nat),TH xs os->Pc xs c m->(∀y∈l,∃h t,y=h::t/\h<c)->
  m+l.length<=(nbS l os).length+c/\(l.length=c->(∀(q:Nat) (hq:q<l.length),∃t,l[q] =(q:Int)::t)->(nbS l os).length=m->nbR l os=xs)
 | [],[],l,c,m,_,hn,_=>by
  have hn:c=m:=hn
  subst hn
  exact ⟨by simp[nbS];omega,fun _ _ _=>rfl⟩
 | x::xs,o::os,l,c,m,hr,hn,hh=>by
  obtain ⟨hr1,hr2⟩:=hr
  rcases hn with ⟨rfl,hn⟩ | ⟨hx0,hxc,hn⟩ | ⟨rfl,hn⟩
  ·have ho:o=none:=by
    rcases hr1 with ⟨-,h⟩ | ⟨h,-⟩
    ·exact h
    ·omega
   subst ho
   obtain ⟨i1,i2⟩:=lu xs os l c m hr2 hn hh
   exact ⟨i1,fun h1 h2 h3=>by show -1::nbR l os=_;rw[i2 h1 h2 h3]⟩
  ·obtain ⟨t,rfl⟩: ∃t,o=some (x::t):=by
    rcases hr1 with ⟨h,-⟩ | ⟨-,h⟩
    ·omega
    ·exact h
   by_cases k:(x::t)∈l
   ·obtain ⟨i1,i2⟩:=lu xs os l c m hr2 hn hh
    have hb:nbL l (some (x::t))=l:=ke k
    refine ⟨by show m+l.length<=(nbS (nbL l (some (x::t))) os).length+c;rw[hb];exact i1,fun h1 h2 h3=>?_⟩
    have h3:(nbS (nbL l (some (x::t))) os).length=m:=h3
    rw[hb] at h3
    obtain ⟨q,hq,e1,e2⟩:=me k
    obtain ⟨t',ht'⟩:=h2 _ hq
    rw[e2] at ht'
    have:x=(q:Int):=by injection ht'
    show nbI l (some (x::t))::nbR (nbL l (some (x::t))) os=_
    rw[e1,<-this,hb,i2 h1 h2 h3]
   ·have hb:nbL l (some (x::t))=l++ [x::t]:=jt k
    obtain ⟨i1,i2⟩:=lu xs os (l++ [x::t]) c m hr2 hn (fun y hy=>by
     rcases aliasOf9 hy with hy | hy
     ·exact hh y hy
     ·obtain rfl:=aliasOf7 hy
      exact ⟨x,t,rfl,hxc⟩)
    rw[aliasOf5,List.length_singleton] at i1
    refine ⟨by show m+l.length<=(nbS (nbL l (some (x::t))) os).length+c;rw[hb];omega,fun h1 h2 h3=>?_⟩
    have h3:(nbS (nbL l (some (x::t))) os).length=m:=h3
    rw[hb] at h3
    omega
  ·obtain ⟨t,rfl⟩: ∃t,o=some ((c:Int)::t):=by
    rcases hr1 with ⟨h,-⟩ | ⟨-,h⟩
    ·omega
    ·exact h
   have k:((c:Int)::t)∉l:=fun k=>by
    obtain ⟨h,t',e,hlt⟩:=hh _ k
    have:(c:Int)=h:=by injection e
    omega
   have hb:nbL l (some ((c:Int)::t))=l++ [(c:Int)::t]:=jt k
   obtain ⟨i1,i2⟩:=lu xs os (l++ [(c:Int)::t]) (c+1) m hr2 hn (fun y hy=>by
    rcases aliasOf9 hy with hy | hy
    ·obtain ⟨h,t',e,hlt⟩:=hh y hy
     exact ⟨h,t',e,by omega⟩
    ·obtain rfl:=aliasOf7 hy
     exact ⟨c,t,rfl,by omega⟩)
   have hlen:(l++ [(c:Int)::t]).length=l.length+1:=by simp
   rw[hlen] at i1
   refine ⟨by show m+l.length<=(nbS (nbL l (some ((c:Int)::t))) os).length+c;rw[hb];omega,fun h1 h2 h3=>?_⟩
   have h3:(nbS (nbL l (some ((c:Int)::t))) os).length=m:=h3
   rw[hb] at h3
   have:=i2 (by rw[hlen,h1]) (fun q hq=>by
    by_cases e:q<l.length
    ·rw[List.getElem_append_left e];exact h2 q e
    ·have e:q=l.length:=by omega
     subst e
     exact ⟨t,by simp;omega⟩) h3
   show nbI l (some ((c:Int)::t))::nbR (nbL l (some ((c:Int)::t))) os=_
   rw[hb,this,A9 k,h1]
theorem Bb (xs ys:List Int) (hN:xs.length<=1048576): ∃r,kP xs ys=some r/\(r=0↔xs=ys):=by
 unfold kP
 have h0:=SD (f:=lH xs ys) xs ys (fun i h h'=>by
  simp only[lH,bz h,bz h',if_true,ax h,ax h',aliasOf0,af (show i<9223372036854775807 by omega)]
  by_cases h1:xs[i] < ys[i]
  ·simp[h1]
  ·by_cases h2:xs[i] > ys[i]
   ·simp[h1,h2]
   ·simp[h1,h2]) (fun i hi=>by
  simp only[lH]
  by_cases h1:i<xs.length
  ·have h2: ¬i<ys.length:=by omega
   simp[h1,h2]
  ·simp[h1]) xs.length 0 aS (by omega) (fO _ (by omega))
 rw[show (((0:Nat):Int))=(0:Int) from rfl] at h0
 rcases h0 with ⟨r,e,h1,h2⟩ | ⟨s,e,h1⟩
 ·exact ⟨r,by rw[e];rfl,by simp[h1,h2]⟩
 ·rw[e]
  simp only[aH]
  by_cases c1:xs.length<ys.length
  ·exact ⟨-1,by simp[c1],by simp;intro e;subst e;omega⟩
  ·by_cases c2:xs.length>ys.length
   ·exact ⟨1,by simp[c1,c2],by simp;intro e;subst e;omega⟩
   ·exact ⟨0,by simp[c1,c2],by simpa using h1 (by omega)⟩
theorem xE (xs ys:List Int) (hN:xs.length<=9223372036854775807):bF xs ys=some (decide (xs=ys)):=
 eqL (f:=bO xs ys) xs ys hN (fun i h h'=>by
  simp only[bO,bz h,if_true,ax h,ax h',aliasOf0,af (show i<9223372036854775807 by omega)]
  by_cases c:xs[i] =ys[i] <;> simp[c]) (by simp only[bO,bj];rfl)
def HL (a:AutT):List Int:=(List.range a.2.1.length).map fun s:Nat=>if nth (live a) (s:Int)=true then (if nth a.2.1 (s:Int)=true then 1 else 0) else -1
def ent (a:AutT) (c:List Int) (s:Int) (k:Nat):Int:=if mv a s k<0 then -1 else nth c (mv a s k)
def Bc (a:AutT) (c:List Int) (s:Int):List Int:=nth c s::(List.range 9).map fun k=>ent a c s k
def Bh (a:AutT) (c:List Int) (s:Nat):Option (List Int):=if nth c (s:Int)<0 then none else some (Bc a c s)
def keys (a:AutT) (c:List Int):List (Option (List Int)):=(List.range a.2.1.length).map (Bh a c)
def zA (a:AutT) (c:List Int):List Int:=nbR [] (keys a c)
def vA (a:AutT) (c:List Int):Nat:=(nbS [] (keys a c)).length
def cI (a:AutT):Nat->List Int
 | 0=>HL a
 | j+1=>zA a (cI a j)
section
variable {a:AutT} {n:Nat}
theorem da (a:AutT) (c:List Int):(keys a c).length=a.2.1.length:=by simp[keys]
theorem EA {c:List Int} {s:Nat} (h:s<a.2.1.length):nth (keys a c) (s:Int)=Bh a c s:=by
 rw[bM (by simpa [keys] using h)];simp[keys]
theorem xF (a:AutT) (c:List Int):(zA a c).length=a.2.1.length:=by rw[zA,du,da]
theorem lx (a:AutT): ∀j,(cI a j).length=a.2.1.length
 | 0=>by simp[cI,HL]
 | j+1=>xF a _
theorem nM {κ:Type} [DecidableEq κ] : ∀(l:List κ) (os:List (Option κ)),(nbS l os).length<=l.length+os.length
 | l,[] =>by simp[nbS]
 | l,o::os=>by
  have h:=nM (nbL l o) os
  have:(nbL l o).length<=l.length+1:=by
   cases o with
   | none=>simp[nbL]
   | some x=>unfold nbL;simp only;split <;> simp
  show (nbS (nbL l o) os).length<=_
  rw[aliasOf6];omega
theorem EB (a:AutT) (c:List Int):vA a c<=a.2.1.length:=by
 have:=nM ([] :List (List Int)) (keys a c)
 rw[da] at this
 simpa [vA] using this
theorem Bd {c:List Int} {s:Nat} (h:s<a.2.1.length):nth (zA a c) (s:Int)=nbI (nbS [] (keys a c)) (Bh a c s):=by
 rw[zA,Pb _ _ _ (by rw[da];exact h),EA h]
theorem xG {c:List Int} {s:Nat} (h:s<a.2.1.length) (hc: ¬nth c (s:Int)<0):Bc a c s∈nbS [] (keys a c):=by
 refine tG.2 (.inr ?_)
 refine List.mem_map.2 ⟨s,List.mem_range.2 h,?_⟩
 unfold Bh;rw[if_neg hc]
theorem vB {c:List Int} {s:Nat} (h:s<a.2.1.length):(nth (zA a c) (s:Int)<0↔nth c (s:Int)<0)/\(nth (zA a c) (s:Int)<0->nth (zA a c) (s:Int)= -1):=by
 rw[Bd h]
 unfold Bh
 by_cases hc:nth c (s:Int)<0
 ·rw[if_pos hc];simp[nbI,hc]
 ·rw[if_neg hc]
  obtain ⟨q,hq,e,-⟩:=me (xG h hc)
  rw[e]
  exact ⟨⟨fun h=>by omega,fun h=>absurd h hc⟩,fun h=>by omega⟩
theorem Rk {c:List Int} {s:Nat} (h:s<a.2.1.length):nth (zA a c) (s:Int)<(a.2.1.length:Int):=by
 rw[Bd h]
 unfold Bh
 by_cases hc:nth c (s:Int)<0
 ·rw[if_pos hc];simp only[nbI];omega
 ·rw[if_neg hc]
  obtain ⟨q,hq,e,-⟩:=me (xG h hc)
  have:=EB a c
  unfold vA at this
  rw[e];omega
theorem K4 {c:List Int} {s t:Nat} (hs:s<a.2.1.length) (ht:t<a.2.1.length) (h0:0<=nth (zA a c) (s:Int)) (h:nth (zA a c) (s:Int)=nth (zA a c) (t:Int)):Bc a c s=Bc a c t:=by
 have n1: ¬nth c (s:Int)<0:=fun k=>by have:=(vB hs).1.2 k;omega
 have n2: ¬nth c (t:Int)<0:=fun k=>by have:=(vB ht).1.2 k;omega
 rw[Bd hs,Bd ht] at h
 unfold Bh at h
 rw[if_neg n1,if_neg n2] at h
 obtain ⟨q,hq,e1,e2⟩:=me (xG hs n1)
 obtain ⟨q',hq',e1',e2'⟩:=me (xG ht n2)
 rw[e1,e1'] at h
 obtain rfl:q=q':=by omega
 rw[<-e2,<-e2']
theorem zB (a:AutT) {s:Nat} (h:s<a.2.1.length): ∀j,(nth (cI a j) (s:Int)<0↔nth (live a) (s:Int)=false)/\(nth (cI a j) (s:Int)<0->nth (cI a j) (s:Int)= -1)
 | 0=>by
  have e:nth (cI a 0) (s:Int)=if nth (live a) (s:Int)=true then (if nth a.2.1 (s:Int)=true then 1 else 0) else -1:=by
   show nth (HL a) (s:Int)=_
   rw[bM (by simpa [HL] using h)];simp[HL]
  rw[e]
  cases nth (live a) (s:Int) <;> cases nth a.2.1 (s:Int) <;> simp
 | j+1=>by
  have ih:=zB a h j
  have:=vB (c:=cI a j) h
  exact ⟨this.1.trans ih.1,this.2⟩
theorem Pd (a:AutT) {s t:Nat} (hs:s<a.2.1.length) (ht:t<a.2.1.length): ∀j,0<=nth (cI a j) (s:Int)->nth (cI a j) (s:Int)=nth (cI a j) (t:Int)->nth a.2.1 (s:Int)=nth a.2.1 (t:Int)
 | 0,h0,h=>by
  have e: ∀ {s:Nat},s<a.2.1.length->nth (cI a 0) (s:Int)=if nth (live a) (s:Int)=true then (if nth a.2.1 (s:Int)=true then 1 else 0) else -1:=by
   intro s h
   show nth (HL a) (s:Int)=_
   rw[bM (by simpa [HL] using h)];simp[HL]
  rw[e hs] at h0 h
  rw[e ht] at h
  revert h0 h
  cases nth (live a) (s:Int) <;> cases nth a.2.1 (s:Int) <;> cases nth (live a) (t:Int) <;> cases nth a.2.1 (t:Int) <;> simp
 | j+1,h0,h=>by
  have k:=K4 (c:=cI a j) hs ht h0 h
  have h1:nth (cI a j) (s:Int)=nth (cI a j) (t:Int):=by
   unfold Bc at k;injection k
  refine Pd a hs ht j ?_ h1
  have:=(vB (c:=cI a j) hs).1
  by_cases q:nth (cI a j) (s:Int)<0
  ·have:=this.2 q
   have h0:0<=nth (zA a (cI a j)) (s:Int):=h0
   omega
  ·omega
theorem Rl (a:AutT) (j:Nat):Pc (cI a (j+1)) 0 (vA a (cI a j)):=Ba (keys a (cI a j)) []
theorem NT (a:AutT) {c:List Int} (hc:c.length=a.2.1.length):TH c (keys a c):=by
 refine K0 _ _ (by rw[da,hc]) fun i h h'=>?_
 have e1:c[i] =nth c (i:Int):=(bM h).symm
 have e2:(keys a c)[i] =Bh a c i:=by simp[keys]
 rw[e1,e2]
 unfold Bh
 by_cases k:nth c (i:Int)<0
 ·exact .inl ⟨k,by rw[if_pos k]⟩
 ·exact .inr ⟨by omega,_,by rw[if_neg k];rfl⟩
theorem K5 (a:AutT) (j:Nat):vA a (cI a j)<=vA a (cI a (j+1))/\(vA a (cI a (j+1))=vA a (cI a j)->cI a (j+2)=cI a (j+1)):=by
 obtain ⟨h1,h2⟩:=lu (cI a (j+1)) (keys a (cI a (j+1))) [] 0 (vA a (cI a j)) (NT a (lx a _)) (Rl a j) (fun y hy=>by cases hy)
 exact ⟨by simpa [vA] using h1,fun h=>h2 rfl (fun q hq=>absurd hq (Nat.not_lt_zero q)) h⟩
theorem Pe {j k:Nat} (h:cI a (j+1)=cI a j) (hk:j<=k):cI a k=cI a j:=by
 induction hk with
 | refl=>rfl
 | step _ ih=>rw[cI,ih];exact h
theorem K6 {j k:Nat} (h:cI a (j+1)=cI a j) (h':cI a (k+1)=cI a k):cI a j=cI a k:=by
 rcases Nat.le_total j k with e | e
 ·exact (Pe h e).symm
 ·exact Pe h' e
theorem Rm (a:AutT): ∃j,j<=a.2.1.length/\cI a (j+1)=cI a j:=by
 by_cases h0:cI a 1=cI a 0
 ·exact ⟨0,Nat.zero_le _,h0⟩
 have hpos:1<=vA a (cI a 0):=by
  refine Nat.one_le_iff_ne_zero.2 fun hz=>h0 ?_
  have hnone: ∀s:Nat,s<a.2.1.length->nth (cI a 0) (s:Int)<0:=fun s hs=>by
   refine Classical.byContradiction fun k=>?_
   have:=xG (c:=cI a 0) hs k
   have hl:=List.length_pos_of_mem this
   unfold vA at hz;omega
  refine Q2 (by rw[lx,lx]) fun i hi=>?_
  rw[lx] at hi
  have h1:=(zB a hi 0).2 (hnone i hi)
  have h2:=(zB a hi 1).2 (((zB a hi 1).1.trans (zB a hi 0).1.symm).2 (hnone i hi))
  rw[h1,h2]
 have key: ∀m,(∃j,j<=m/\cI a (j+1)=cI a j)\/m+1<=vA a (cI a m):=by
  intro m
  induction m with
  | zero=>exact .inr hpos
  | succ m ih =>
   rcases ih with ⟨j,hj,e⟩ | ih
   ·exact .inl ⟨j,by omega,e⟩
   ·obtain ⟨g1,g2⟩:=K5 a m
    by_cases e:vA a (cI a (m+1))=vA a (cI a m)
    ·exact .inl ⟨m+1,al _,g2 e⟩
    ·exact .inr (by omega)
 rcases key a.2.1.length with h | h
 ·exact h
 ·have:=EB a (cI a a.2.1.length);omega
end
end D
namespace D
open Go.RowKit
section
variable {a:AutT} {n:Nat} {c:List Int}
theorem F8 (k:Nat) (s:Int):(List.range (k+1)).map (fun k=>ent a c s k)=(List.range k).map (fun k=>ent a c s k)++ [ent a c s k]:=by simp[List.range_succ]
theorem Un (V:VA a n) (hn:n<=1000000) (hc:c.length=n) {s:Nat} (hs:s<n):my a c s=some (Bc a c s):=by
 unfold my
 rw[aA (by omega) (by omega)];simp only[aliasOf0]
 have:=br (f:=kp a c s) (fun k=>(nth c (s:Int)::(List.range k).map (fun k=>ent a c s k),(k:Int))) 9 (fun k hk=>by
  have hm:=V.mv (s:=s) (k:=k) (by omega) (by omega) hk
  unfold kp
  simp only
  rw[if_pos (by simp;omega),V.get (by omega) (by omega)];simp only[aliasOf0]
  rw[V.get2 (by omega) (by omega) hk,F8];simp only[aliasOf0,af (show k<9223372036854775807 by omega)]
  by_cases h:mv a s k<0
  ·rw[if_pos (by simpa using h),aD (by simp;omega),show ent a c s k= -1 from by unfold ent;rw[if_pos h]];rfl
  ·rw[if_neg (by simpa using h),aA (by omega) (by omega)];simp only[aliasOf0]
   rw[aD (by simp;omega),show ent a c s k=nth c (mv a s k) from by unfold ent;rw[if_neg h]];rfl) (by unfold kp;simp) (by unfold aS;omega)
 exact au this
theorem Uo (V:VA a n) (hn:n<=1000000) (hc:c.length=n) {s:Nat} (hs:s<n):aq (cg c (nth a.2.2 (s:Int))) aS (0,[nth c (s:Int)])=some (.brk (9,Bc a c s)):=by
 have hr:=V.rowAt (s:=s) (by omega) (by omega)
 exact br (f:=cg c (nth a.2.2 (s:Int))) (fun k=>((k:Int),nth c (s:Int)::(List.range k).map (fun k=>ent a c s k))) 9 (fun k hk=>by
  have hm:=V.mv (s:=s) (k:=k) (by omega) (by omega) hk
  unfold cg
  simp only
  rw[if_pos (by simp[hr];omega),V.get2 (by omega) (by omega) hk,F8];simp only[aliasOf0,af (show k<9223372036854775807 by omega)]
  by_cases h:mv a s k<0
  ·have e:mv a s k= -1:=by omega
   rw[if_neg (by simp;omega)];simp only[aliasOf0]
   rw[aD (by simp;omega),show ent a c s k=mv a s k from by unfold ent;rw[if_pos h,e]];rfl
  ·rw[if_pos (by simp;omega),aA (by omega) (by omega)];simp only[aliasOf0]
   rw[aD (by simp;omega),show ent a c s k=nth c (mv a s k) from by unfold ent;rw[if_neg h]];rfl) (by unfold cg;simp[hr]) (by unfold aS;omega)
theorem C1 {κ:Type} [DecidableEq κ] {l t r:List κ} {x:κ} (e:l=t++x::r) (hx:x∉t):nbI l (some x)=(t.length:Int):=by
 subst e
 simp only[nbI]
 rw[List.idxOf_append,if_neg hx,List.idxOf_cons_self,Nat.zero_add]
def S4 (l:List (List Int)) (x:List Int):Int:=if x∈l then nbI l (some x) else -1
theorem S5 {l:List (List Int)} {x cs:List Int} {q:Int} (hl:l.length<=1000000) (hd:l.Nodup) (hx: ∀y∈l,y.length<=1048576):aq (ep (l,cs,q) x) aS (-1,0)=some (.brk (S4 l x,(l.length:Int))):=by
 have:=br (f:=ep (l,cs,q) x) (fun k=>(if x∈l.take k then nbI l (some x) else -1,(k:Int))) l.length (fun k hk=>by
  unfold ep
  simp only
  rw[if_pos (by simp;omega),aA (by omega) (by omega)];simp only[aliasOf0,Int.toNat_natCast,af (show k<9223372036854775807 by omega)]
  obtain ⟨r,e,hr⟩:=Bb (nth l (k:Int)) x (hx _ (iU (by omega) (by omega)))
  rw[e,take_one hk];simp only[aliasOf0,List.mem_append,List.mem_singleton]
  by_cases h:nth l (k:Int)=x
  ·have h0:r=0:=hr.2 h
   have hm:x∈l:=h ▸ iU (by omega) (by omega)
   obtain ⟨q,hq,e1,e2⟩:=me hm
   have:q=k:=by
    have h1:l[q]? =some x:=by rw[List.getElem?_eq_getElem hq,e2]
    have h2:l[k]? =some x:=by rw[List.getElem?_eq_getElem hk,<-bM hk,h]
    exact (List.getElem?_inj hq hd).1 (h1.trans h2.symm)
   subst this
   rw[if_pos (by simp[h0]),if_pos (.inr h.symm),e1];rfl
  ·have h0:r≠0:=fun e=>h (hr.1 e)
   have hn: ¬x=nth l (k:Int):=fun e=>h e.symm
   rw[if_neg (by simpa using h0)]
   simp[hn]) (by unfold ep;simp) (rm (by omega))
 rw[List.take_of_length_le (al _)] at this
 exact this
theorem S6 {l:List (List Int)} {x:List Int} {f:List Int->Option Bool} (hl:l.length<=1000000) (hf: ∀y∈l,f y=some (decide (y=x))):bu l f=some (S4 l x):=by
 unfold bu
 obtain ⟨o,e,hq⟩:=cy (f:=bG l f) (fun k s=>s=(k:Int)/\x∉l.take k) (fun o=>(x∈l/\o= .ret (nbI l (some x)))\/(x∉l/\ ∃s,o= .brk s)) l.length (s:=0) (by
  rintro k s hk ⟨rfl,hx⟩
  unfold bG
  by_cases hkl:k<l.length
  ·rw[if_pos (by simp;omega),aA (by omega) (by omega)];simp only[aliasOf0]
   rw[hf _ (iU (by omega) (by omega))];simp only[aliasOf0]
   by_cases h:nth l (k:Int)=x
   ·refine .inr ⟨_,by rw[if_pos (by simpa using h)],(fun s' e=>by cases e),.inl ?_⟩
    have hm:x∈l:=h ▸ iU (by omega) (by omega)
    refine ⟨hm,?_⟩
    have e:l=l.take k++(x::l.drop (k+1)):=by
     rw[<-h,bM hkl,<-List.drop_eq_getElem_cons hkl,List.take_append_drop]
    rw[C1 e hx,aliasOf12,Nat.min_eq_left (by omega)]
   ·refine .inl ⟨hkl,_,by rw[if_neg (by simpa using h)],by rw[af (by omega)],?_⟩
    rw[take_one hkl,List.mem_append,List.mem_singleton]
    rintro (h' | h')
    ·exact hx h'
    ·exact h h'.symm
  ·refine .inr ⟨_,by rw[if_neg (by simp;omega)],(fun s' e=>by cases e),.inr ⟨?_,_,rfl⟩⟩
   rwa [List.take_of_length_le (by omega)] at hx) ⟨rfl,by simp⟩ (rm (by omega))
 unfold S4
 rcases hq with ⟨hx,rfl⟩ | ⟨hx,s,rfl⟩
 ·rw[bX e,if_pos hx]
 ·rw[au e,if_neg hx]
theorem xH {os:List (Option (List Int))} (h: ∀y,some y∈os->y.length=10): ∀y∈nbS [] os,y.length=10:=fun y hy=>by
 rcases tG.1 hy with hy | hy
 ·cases hy
 ·exact h y hy
theorem zC (a:AutT) (c:List Int): ∀y,some y∈keys a c->y.length=10:=by
 intro y hy
 obtain ⟨s,-,e⟩:=List.mem_map.1 hy
 unfold Bh at e
 split at e
 ·cases e
 ·rw[<-aliasOf1 e];simp[Bc]
section
variable (V:VA a n) (hn:n<=1000000) (hc:c.length=n)
include V hn hc
theorem F9 (s:Nat):(nbS [] ((keys a c).take s)).length<=n:=by
 have:=nM ([] :List (List Int)) ((keys a c).take s)
 rw[aliasOf12,da,V.len] at this
 simp at this;omega
theorem NU {m:Int} :aq (eu a (c,m)) aS ([],[],0)=some (.brk (nbS [] (keys a c),zA a c,(n:Int))):=by
 have hlen:=V.len
 have:=br (f:=eu a (c,m)) (fun s=>(nbS [] ((keys a c).take s),nbR [] ((keys a c).take s),(s:Int))) n (fun s hs=>by
  have hkl:=F9 V hn hc s
  have hrl:(nbR [] ((keys a c).take s)).length<=n:=by rw[du,aliasOf12,da];omega
  unfold eu
  simp only
  rw[if_pos (by simp;omega),aA (by omega) (by omega)];simp only[aliasOf0]
  rw[take_one (by rw[da];omega),sp,pY,EA (by omega)]
  simp only[af (show s<9223372036854775807 by omega)]
  by_cases h:nth c (s:Int)<0
  ·rw[if_pos (by simpa using h),aD (by simp;omega),show Bh a c s=none from by unfold Bh;rw[if_pos h]];rfl
  ·rw[if_neg (by simpa using h),show Bh a c s=some (Bc a c s) from by unfold Bh;rw[if_neg h]]
   rw[show my (a.1,a.2.1,a.2.2) c (s:Int)=some (Bc a c s) from Un V hn hc hs];simp only[aliasOf0]
   rw[au (S5 (by omega) (px (by simp)) (fun y hy=>by rw[xH (fun y hy=>zC a c y (List.mem_of_mem_take hy)) y hy];decide))]
   simp only
   unfold S4
   by_cases k:Bc a c s∈nbS [] ((keys a c).take s)
   ·obtain ⟨q,hq,e1,e2⟩:=me k
    rw[if_pos k,ke k,e1,if_neg (by simp)];simp only[aliasOf0]
    rw[aD (by simp;omega)];rfl
   ·rw[if_neg k,jt k,A9 k,if_pos (show decide ((-1:Int)<0)=true from rfl),aD (by simp;omega)];simp only[aliasOf0]
    rw[aD (by simp;omega)];rfl) (by
  unfold eu
  simp only
  rw[if_neg (by simp;omega)]) (rm (by omega))
 rw[show (keys a c).take n=keys a c from List.take_of_length_le (by rw[da];omega)] at this
 exact this
theorem NV:cP a c=some (zA a c,(vA a c:Int)):=by
 have hlen:=V.len
 unfold cP
 have:=br (f:=cQ a c) (fun s=>(nbS [] ((keys a c).take s),nbR [] ((keys a c).take s),(s:Int))) n (fun s hs=>by
  have hkl:=F9 V hn hc s
  have hrl:(nbR [] ((keys a c).take s)).length<=n:=by rw[du,aliasOf12,da];omega
  unfold cQ
  simp only
  rw[if_pos (by simp;omega),aA (by omega) (by omega)];simp only[aliasOf0]
  rw[take_one (by rw[da];omega),sp,pY,EA (by omega)]
  simp only[af (show s<9223372036854775807 by omega)]
  by_cases h:nth c (s:Int)<0
  ·rw[if_pos (by simpa using h),aD (by simp;omega),show Bh a c s=none from by unfold Bh;rw[if_pos h]];rfl
  ·rw[if_neg (by simpa using h),show Bh a c s=some (Bc a c s) from by unfold Bh;rw[if_neg h],V.get (by omega) (by omega)];simp only[aliasOf0]
   rw[au (Uo V hn hc hs)];simp only
   rw[S6 (x:=Bc a c s) (by omega) (fun y hy=>by
    unfold fl
    rw[xE _ _ (by rw[xH (fun y hy=>zC a c y (List.mem_of_mem_take hy)) y hy];decide)];rfl)];simp only[aliasOf0]
   unfold S4
   by_cases k:Bc a c s∈nbS [] ((keys a c).take s)
   ·obtain ⟨q,hq,e1,e2⟩:=me k
    rw[if_pos k,ke k,e1,if_neg (by simp)];simp only[aliasOf0]
    rw[aD (by simp;omega)];rfl
   ·rw[if_neg k,jt k,A9 k,if_pos (show decide ((-1:Int)<0)=true from rfl),aD (by simp;omega)];simp only[aliasOf0]
    rw[aD (by simp;omega)];rfl) (by
  unfold cQ
  simp only
  rw[if_neg (by simp;omega)]) (rm (by omega))
 rw[show (keys a c).take n=keys a c from List.take_of_length_le (by rw[da];omega)] at this
 exact au this
end
end
section
variable {a:AutT} {n:Nat} (V:VA a n) (hn:n<=1000000)
include V hn
theorem C2 (s:Nat):(List.range (s+1)).map (fun s:Nat=>if nth (live a) (s:Int)=true then (if nth a.2.1 (s:Int)=true then (1:Int) else 0) else -1)=(List.range s).map (fun s:Nat=>if nth (live a) (s:Int)=true then (if nth a.2.1 (s:Int)=true then 1 else 0) else -1)++ [if nth (live a) (s:Int)=true then (if nth a.2.1 (s:Int)=true then 1 else 0) else -1]:=by simp[List.range_succ]
theorem S7:aq (dZ a (live a)) aS ([],0)=some (.brk (HL a,(n:Int))):=by
 have hlen:=V.len
 have hll:(live a).length=n:=by rw[rj,hlen]
 have:=br (f:=dZ a (live a)) (fun s=>((List.range s).map (fun s:Nat=>if nth (live a) (s:Int)=true then (if nth a.2.1 (s:Int)=true then (1:Int) else 0) else -1),(s:Int))) n (fun s hs=>by
  unfold dZ
  simp only
  rw[if_pos (by simp;omega),V.acc (by omega) (by omega)];simp only[aliasOf0]
  rw[C2 V hn,aA (xs:=live a) (by omega) (by omega)];simp only[af (show s<9223372036854775807 by omega)]
  cases nth (live a) (s:Int) <;> cases nth a.2.1 (s:Int) <;> simp only[if_true,if_false,Bool.false_eq_true,aliasOf0] <;> rw[aD (by simp;omega)] <;> rfl) (by
  unfold dZ
  simp only
  rw[if_neg (by simp;omega)]) (rm (by omega))
 unfold HL
 rw[hlen]
 exact this
theorem S8:aq (bS a (live a)) aS ([],0)=some (.brk (HL a,(n:Int))):=by
 have hlen:=V.len
 have hll:(live a).length=n:=by rw[rj,hlen]
 have:=br (f:=bS a (live a)) (fun s=>((List.range s).map (fun s:Nat=>if nth (live a) (s:Int)=true then (if nth a.2.1 (s:Int)=true then (1:Int) else 0) else -1),(s:Int))) n (fun s hs=>by
  unfold bS
  simp only
  rw[if_pos (by simp;omega),aA (xs:=live a) (by omega) (by omega)];simp only[aliasOf0]
  rw[C2 V hn,V.acc (by omega) (by omega)];simp only[af (show s<9223372036854775807 by omega)]
  cases nth (live a) (s:Int) <;> cases nth a.2.1 (s:Int) <;> simp only[if_true,if_false,Bool.false_eq_true,aliasOf0] <;> rw[aD (by simp;omega)] <;> rfl) (by
  unfold bS
  simp only
  rw[if_neg (by simp;omega)]) (rm (by omega))
 unfold HL
 rw[hlen]
 exact this
theorem K7: ∃J,cI a (J+1)=cI a J/\gr a=some (cI a J):=by
 have hlen:=V.len
 unfold gr
 rw[show ji (a.1,a.2.1,a.2.2)=some (live a) from O7 V hn];simp only[aliasOf0]
 rw[au (S7 V hn)]
 obtain ⟨J0,hJ0,hfix⟩:=Rm a
 obtain ⟨o,e,j,rfl,hj⟩:=cy (f:=jj a) (fun j s=>s=(cI a j,(j:Int))/\j<=J0) (fun o=> ∃j,o= .ret (cI a j)/\cI a (j+1)=cI a j) (J0+1) (s:=(cI a 0,0)) (by
  rintro j s hj ⟨rfl,hjJ⟩
  have hcl:(cI a j).length=n:=by rw[lx,hlen]
  unfold jj
  simp only
  rw[if_pos (by simp;omega),au (NU V hn hcl)]
  simp only
  obtain ⟨r,er,hr⟩:=Bb (zA a (cI a j)) (cI a j) (by rw[xF];omega)
  rw[er];simp only[aliasOf0,af (show j<9223372036854775807 by omega)]
  by_cases h:zA a (cI a j)=cI a j
  ·exact .inr ⟨_,by rw[if_pos (by simpa using hr.2 h)],(fun s' e=>by cases e),j,rfl,h⟩
  ·refine .inl ⟨by omega,(cI a (j+1),((j+1:Nat):Int)),by rw[if_neg (by simpa using fun e=>h (hr.1 e))];rfl,rfl,?_⟩
   by_cases e:j=J0
   ·subst e;exact absurd hfix h
   ·omega) ⟨rfl,Nat.zero_le _⟩ (rm (by omega))
 exact ⟨j,hj,bX e⟩
theorem K8: ∃J,cI a (J+1)=cI a J/\cH a=some (cI a J):=by
 have hlen:=V.len
 unfold cH
 rw[show dz (a.1,a.2.1,a.2.2)=some (live a) from SQ V hn];simp only[aliasOf0]
 rw[au (S8 V hn)]
 let kk:Nat->Int:=fun j=>match j with | 0=> -1 | i+1=>(vA a (cI a i):Int)
 obtain ⟨o,e,j,rfl,hj⟩:=cy (f:=eC a) (fun j s=>s=(cI a j,kk j)/\(j:Int)<=kk j+1) (fun o=> ∃j,o= .ret (cI a j)/\cI a (j+1)=cI a j) (n+2) (s:=(cI a 0,-1)) (by
  rintro j s hj ⟨rfl,hjk⟩
  have hcl:(cI a j).length=n:=by rw[lx,hlen]
  have hle:=EB a (cI a j)
  unfold eC
  simp only
  rw[show cP (a.1,a.2.1,a.2.2) (cI a j)=some (zA a (cI a j),(vA a (cI a j):Int)) from NV V hn hcl];simp only[aliasOf0]
  cases j with
  | zero =>
   refine .inl ⟨by omega,(cI a 1,kk 1),by rw[if_neg (by show¬((vA a (cI a 0):Int) == -1)=true;simp)];rfl,rfl,?_⟩
   show (1:Int)<=(vA a (cI a 0):Int)+1
   omega
  | succ i =>
   obtain ⟨g1,g2⟩:=K5 a i
   have hki:kk (i+1)=(vA a (cI a i):Int):=rfl
   rw[hki] at hjk⊢
   by_cases h:vA a (cI a (i+1))=vA a (cI a i)
   ·refine .inr ⟨.ret (cI a (i+2)),by rw[if_pos (by simp[h])];rfl,(fun s' e=>by cases e),i+2,rfl,?_⟩
    have:=g2 h
    show zA a (cI a (i+2))=cI a (i+2)
    rw[this];exact this
   ·refine .inl ⟨?_,(cI a (i+2),kk (i+2)),by rw[if_neg (by simp;omega)];rfl,rfl,?_⟩
    ·omega
    ·show ((i+1+1:Nat):Int)<=(vA a (cI a (i+1)):Int)+1
     omega) ⟨rfl,by show ((0:Nat):Int)<= -1+1;omega⟩ (rm (by omega))
 exact ⟨j,hj,bX e⟩
theorem HA: ∃c,gr a=some c/\cH a=some c/\c.length=n/\zA a c=c/\ ∃j,c=cI a j:=by
 obtain ⟨J,hJ,es⟩:=K7 V hn
 obtain ⟨J',hJ',ei⟩:=K8 V hn
 have:=K6 hJ hJ'
 exact ⟨cI a J,es,by rw[this];exact ei,by rw[lx,V.len],hJ,J,rfl⟩
end
end D
namespace D
open Go.RowKit
section
variable {κ:Type} [DecidableEq κ] [Inhabited κ] {nx:κ->List (Option κ)} {first:κ} {G:κ->Prop} {B N:Nat} {acc:κ->Bool}
theorem xI: ∀(l:List κ) (os:List (Option κ)),∀t∈nbR l os,-1<=t/\t<((nbS l os).length:Int)
 | l,[] =>fun t ht=>by cases ht
 | l,o::os=>fun t ht=>by
  have hp:=jr (nbL l o) os
  have hl:=hp.length_le
  rcases aliasOf8 ht with rfl | ht
  ·show -1<=nbI l o/\nbI l o<((nbS (nbL l o) os).length:Int)
   cases o with
   | none=>exact ⟨by simp[nbI],by simp only[nbI];omega⟩
   | some y =>
    by_cases c:y∈l
    ·obtain ⟨q,hq,e,-⟩:=me c
     rw[ke c] at hl
     rw[e];exact ⟨by omega,by rw[ke c];omega⟩
    ·rw[jt c] at hl
     rw[A9 c];rw[aliasOf5] at hl
     exact ⟨by omega,by rw[jt c];simp at hl;omega⟩
  ·exact xI (nbL l o) os t ht
theorem S9 (H:NumOk nx first G B) (hN:bfE nx first N):VA ((0,(bfS nx first N).map acc,bfR nx first N):AutT) N:=by
 have h0:0<N:=by
  have:=CR (nx:=nx) (first:=first) N
  have:=(List.getElem?_eq_some_iff.1 this).1
  have:=hN.1;omega
 have key: ∀i,i<=N-> ∀r∈bfR nx first i,r.length=9/\ ∀t∈r,-1<=t/\t<(N:Int):=by
  intro i
  induction i with
  | zero=>intro _ r hr;cases hr
  | succ i ih =>
   intro hi r hr
   have hlt:=hN.2 i (by omega)
   rw[sq hlt] at hr
   rcases aliasOf9 hr with hr | hr
   ·exact ih (by omega) r hr
   ·obtain rfl:=aliasOf7 hr
    refine ⟨by rw[du,H.len _ (iV H.g0 H.gn i _ (List.getElem_mem hlt))],fun t ht=>?_⟩
    have:=xI _ _ t ht
    rw[<-AP hlt] at this
    have hl:=(tH (nx:=nx) (first:=first) hi).length_le
    have:=hN.1
    omega
 exact ⟨by show ((bfS nx first N).map acc).length=N;rw[List.length_map];exact hN.1.symm,⟨Int.le_refl _,by show (0:Int)<N;omega⟩,hH hN.2,fun r hr=>(key N (al _) r hr).1,fun r hr=>(key N (al _) r hr).2⟩
theorem Rn (hlen: ∀x,(nx x).length=9) (hN:bfE nx first N):VA ((0,(bfS nx first N).map acc,bfR nx first N):AutT) N:=by
 have h0:0<N:=by
  have:=CR (nx:=nx) (first:=first) N
  have:=(List.getElem?_eq_some_iff.1 this).1
  have:=hN.1;omega
 have key: ∀i,i<=N-> ∀r∈bfR nx first i,r.length=9/\ ∀t∈r,-1<=t/\t<(N:Int):=by
  intro i
  induction i with
  | zero=>intro _ r hr;cases hr
  | succ i ih =>
   intro hi r hr
   have hlt:=hN.2 i (by omega)
   rw[sq hlt] at hr
   rcases aliasOf9 hr with hr | hr
   ·exact ih (by omega) r hr
   ·obtain rfl:=aliasOf7 hr
    refine ⟨by rw[du,hlen _],fun t ht=>?_⟩
    have:=xI _ _ t ht
    rw[<-AP hlt] at this
    have hl:=(tH (nx:=nx) (first:=first) hi).length_le
    have:=hN.1
    omega
 exact ⟨by show ((bfS nx first N).map acc).length=N;rw[List.length_map];exact hN.1.symm,⟨Int.le_refl _,by show (0:Int)<N;omega⟩,hH hN.2,fun r hr=>(key N (al _) r hr).1,fun r hr=>(key N (al _) r hr).2⟩
end
theorem VA.self {a:AutT} {n:Nat} (v:VA a n):VA a a.2.1.length:=by
 have e:=v.len
 subst e
 exact v
theorem HB:VA nothing 1:=⟨rfl,⟨by decide,by decide⟩,rfl,fun r hr=>by
 obtain rfl:=aliasOf7 hr
 decide,fun r hr=>by
 obtain rfl:=aliasOf7 hr
 decide⟩
end D
namespace D
open Go.RowKit
theorem Ro {l:List Int} {x:Int} (hl:l.length<=1000000) (hx:x∈l):aM x l=some (nbI l (some x)):=by
 unfold aM dj
 obtain ⟨o,e,hq⟩:=cy (f:=cM l x) (fun k s=>s=(k:Int)/\x∉l.take k) (fun o=>o= .ret (nbI l (some x))) l.length (s:=0) (by
  rintro k s hk ⟨rfl,hx'⟩
  unfold cM
  by_cases hkl:k<l.length
  ·rw[if_pos (by simp;omega),aA (by omega) (by omega)];simp only[aliasOf0]
   by_cases h:nth l (k:Int)=x
   ·refine .inr ⟨_,by rw[if_pos (by simp[h])],(fun s' e=>by cases e),?_⟩
    have e:l=l.take k++(x::l.drop (k+1)):=by
     rw[<-h,bM hkl,<-List.drop_eq_getElem_cons hkl,List.take_append_drop]
    rw[C1 e hx',aliasOf12,Nat.min_eq_left (by omega)]
   ·have h': ¬x=nth l (k:Int):=fun e=>h e.symm
    refine .inl ⟨hkl,_,by rw[if_neg (by simpa using h')],by rw[af (by omega)],?_⟩
    rw[take_one hkl,List.mem_append,List.mem_singleton]
    rintro (h' | h')
    ·exact hx' h'
    ·exact h h'.symm
  ·rw[List.take_of_length_le (by omega)] at hx'
   exact absurd hx hx') ⟨rfl,by simp⟩ (rm (by omega))
 subst hq
 rw[bX e];rfl
section
variable {a:AutT} {n:Nat}
def rep (c:List Int) (x:Int):Int:=nbI c (some x)
theorem K9 {c:List Int} {x:Int} (h:x∈c):0<=rep c x/\rep c x<c.length/\nth c (rep c x)=x:=by
 obtain ⟨q,hq,e1,e2⟩:=me h
 unfold rep
 rw[e1]
 exact ⟨by omega,by omega,by rw[bM hq,e2]⟩
theorem HC (V:VA a n) (hn:n<=1000000): ∃r,fE a=some r/\ct a=some r/\Data.sm r/\VA r r.2.1.length/\r.2.1.length<=n:=by
 have hlen:=V.len
 have hst:=V.start
 have hll:(live a).length=n:=by rw[rj,hlen]
 obtain ⟨c,es,ei,hcl,hfix,j,hj⟩:=HA V hn
 have hneg: ∀s:Int,0<=s->s<n->(nth c s<0↔nth (live a) s=false):=fun s h0 h1=>by
  have:=(zB a (s:=s.toNat) (by omega) j).1
  rw[<-hj,show ((s.toNat:Nat):Int)=s from by omega] at this
  exact this
 have hlt: ∀s:Int,0<=s->s<n->nth c s<n:=fun s h0 h1=>by
  have:=Rk (c:=c) (a:=a) (s:=s.toNat) (by omega)
  rw[hfix,hlen,show ((s.toNat:Nat):Int)=s from by omega] at this
  exact this
 have hpos: ∀r,good n (live a) r->0<=nth c r:=fun r hr=>by
  have:=hneg r hr.1 hr.2.1
  by_cases k:nth c r<0
  ·have:=this.1 k;rw[hr.2.2] at this;cases this
  ·omega
 have hkey: ∀r t:Int,0<=r->r<n->0<=t->t<n->0<=nth c r->nth c r=nth c t->Bc a c r=Bc a c t:=fun r t r0 r1 t0 t1 h0 h=>by
  have:=K4 (a:=a) (c:=c) (s:=r.toNat) (t:=t.toNat) (by omega) (by omega) (by rw[hfix,show ((r.toNat:Nat):Int)=r from by omega];exact h0) (by rw[hfix,show ((r.toNat:Nat):Int)=r from by omega,show ((t.toNat:Nat):Int)=t from by omega];exact h)
  rwa [show ((r.toNat:Nat):Int)=r from by omega,show ((t.toNat:Nat):Int)=t from by omega] at this
 have hacc: ∀r t:Int,0<=r->r<n->0<=t->t<n->0<=nth c r->nth c r=nth c t->nth a.2.1 r=nth a.2.1 t:=fun r t r0 r1 t0 t1 h0 h=>by
  have:=Pd a (s:=r.toNat) (t:=t.toNat) (by omega) (by omega) j (by rw[<-hj,show ((r.toNat:Nat):Int)=r from by omega];exact h0) (by rw[<-hj,show ((r.toNat:Nat):Int)=r from by omega,show ((t.toNat:Nat):Int)=t from by omega];exact h)
  rwa [show ((r.toNat:Nat):Int)=r from by omega,show ((t.toNat:Nat):Int)=t from by omega] at this
 have hsuccs: ∀r,good n (live a) r->tM a c (live a) r=(List.range 9).map fun k=>if 0<=ent a c r k then some (ent a c r k) else none:=fun r hr=>by
  refine List.map_congr_left fun k hk=>?_
  have hk:k<9:=List.mem_range.1 hk
  have hm:=V.mv hr.1 hr.2.1 hk
  unfold ent
  by_cases h:mv a r k<0
  ·rw[if_pos h,if_neg (fun h'=>by omega),if_neg (by omega)]
  ·rw[if_neg h]
   have:=hneg (mv a r k) (by omega) hm.2
   cases hl:nth (live a) (mv a r k) with
   | false =>
    have:=this.2 hl
    rw[if_neg (fun h'=>by cases h'.2),if_neg (by omega)]
   | true =>
    have: ¬nth c (mv a r k)<0:=fun h'=>by have:=this.1 h';rw[hl] at this;cases this
    rw[if_pos ⟨by omega,rfl⟩,if_pos (by omega)]
 have hent: ∀r t:Int,Bc a c r=Bc a c t-> ∀k,k<9->ent a c r k=ent a c t k:=fun r t h k hk=>by
  have h:(List.range 9).map (fun k=>ent a c r k)=(List.range 9).map (fun k=>ent a c t k):=by unfold Bc at h;injection h
  have:=congrArg (fun l:List Int=>l[k]?) h
  simpa [hk] using this
 let nx:Int->List (Option Int):=fun x=>tM a c (live a) (rep c x)
 let acc:Int->Bool:=fun x=>nth a.2.1 (rep c x)
 let G:Int->Prop:=fun x=> ∃r,good n (live a) r/\nth c r=x
 have Gm: ∀x,G x->x∈c/\0<=x/\good n (live a) (rep c x):=by
  rintro x ⟨r,hr,rfl⟩
  have hm:nth c r∈c:=iU hr.1 (by rw[hcl];exact hr.2.1)
  obtain ⟨h0,h1,h2⟩:=K9 hm
  have hp:=hpos r hr
  refine ⟨hm,hp,h0,by omega,?_⟩
  have:=hneg (rep c (nth c r)) h0 (by omega)
  rw[h2] at this
  cases hl:nth (live a) (rep c (nth c r)) with
  | true=>rfl
  | false=>have:=this.2 hl;omega
 have hnx: ∀r,good n (live a) r->nx (nth c r)=tM a c (live a) r:=fun r hr=>by
  obtain ⟨hm,hp,hg⟩:=Gm _ ⟨r,hr,rfl⟩
  obtain ⟨h0,h1,h2⟩:=K9 hm
  show tM a c (live a) (rep c (nth c r))=_
  rw[hsuccs _ hg,hsuccs _ hr]
  refine List.map_congr_left fun k hk=>?_
  rw[hent _ _ (hkey _ _ hg.1 hg.2.1 hr.1 hr.2.1 (by rw[h2];exact hp) h2) k (List.mem_range.1 hk)]
 have hac: ∀r,good n (live a) r->acc (nth c r)=nth a.2.1 r:=fun r hr=>by
  obtain ⟨hm,hp,hg⟩:=Gm _ ⟨r,hr,rfl⟩
  obtain ⟨h0,h1,h2⟩:=K9 hm
  exact hacc _ _ hg.1 hg.2.1 hr.1 hr.2.1 (by rw[h2];exact hp) h2
 have hgn: ∀r,good n (live a) r-> ∀y,some y∈tM a c (live a) r->G y:=fun r hr y h=>by
  obtain ⟨k,hk,e⟩:=List.mem_map.1 h
  have hk:k<9:=List.mem_range.1 hk
  split at e
  ·rename_i hc
   exact ⟨mv a r k,⟨hc.1,(V.mv hr.1 hr.2.1 hk).2,hc.2⟩,aliasOf1 e⟩
  ·cases e
 unfold fE ct
 simp only[eE]
 rw[es,ei,O7 V hn];simp only[aliasOf0]
 rw[aA hst.1 (by omega)];simp only[aliasOf0]
 cases hs:nth (live a) a.1 with
 | false =>
  have:=(hneg a.1 hst.1 hst.2).2 hs
  rw[Ex V hll hs,if_pos (by simpa using this),KV]
  exact ⟨nothing,rfl,rfl,Hy,HB,V.pos⟩
 | true =>
  have hst':good n (live a) a.1:=⟨hst.1,hst.2,hs⟩
  have hp:=hpos _ hst'
  have H:NumOk nx (nth c a.1) G n:=⟨⟨a.1,hst',rfl⟩,fun x hx y hy=>hgn _ (Gm x hx).2.2 y hy,fun x hx=>by simp[nx,tM],fun l hd h=>Hx n l hd fun x hx=>by
   obtain ⟨r,hr,rfl⟩:=h x hx
   exact ⟨hpos r hr,hlt r hr.1 hr.2.1⟩⟩
  obtain ⟨N,hN,e1⟩:=SS (acc:=acc) V hn hcl hll hs H hn hnx hac
  have hfirst: ∀x,G x->aM x c=some (rep c x):=fun x hx=>Ro (by omega) (Gm x hx).1
  obtain ⟨N',hN',e2⟩:=SR (most:=(c.length:Int)) (p2:=fun a0=>bT a0 (a.1,a.2.1,a.2.2) (fun a0=>aM a0 c)) (p3:=fun a0 a1=>bU a0 a1 (a.1,a.2.1,a.2.2) (fun a0=>aM a0 c) c) (acc:=acc) H hn (by omega) (fun x hx=>SY hn (Gm x hx).2.1 (by
    obtain ⟨r,hr,rfl⟩:=hx
    exact hlt r hr.1 hr.2.1)) (fun x hx=>by
   show bT x (a.1,a.2.1,a.2.2) (fun a0=>aM a0 c)=_
   unfold bT
   simp only
   rw[hfirst x hx];simp only[aliasOf0]
   rw[V.acc (Gm x hx).2.2.1 (Gm x hx).2.2.2.1];rfl) (fun x k hx hk=>by
   obtain ⟨hm,hx0,hg⟩:=Gm x hx
   have hm':=V.mv hg.1 hg.2.1 hk
   refine ⟨0,?_⟩
   show bU x k (a.1,a.2.1,a.2.2) (fun a0=>aM a0 c) c=_
   unfold bU
   simp only
   rw[hfirst x hx];simp only[aliasOf0]
   rw[show dA (a.1,a.2.1,a.2.2) (rep c x) k=some (mv a (rep c x) k) from SG V hg.1 hg.2.1 hk];simp only[aliasOf0]
   show _=some (match nth (tM a c (live a) (rep c x)) (k:Int) with | some y=>(y,true) | none=>(0,false))
   rw[F5 hk]
   by_cases h:mv a (rep c x) k<0
   ·rw[if_pos (by simpa using h),if_neg (fun h'=>by omega)]
   ·rw[if_neg (by simpa using h),aA (by omega) (by omega)];simp only[aliasOf0]
    have hng:=hneg (mv a (rep c x) k) (by omega) hm'.2
    cases hl:nth (live a) (mv a (rep c x) k) with
    | false =>
     have:=hng.2 hl
     rw[if_pos (by simpa using this),if_neg (fun h'=>by cases h'.2)]
    | true =>
     have: ¬nth c (mv a (rep c x) k)<0:=fun h'=>by have:=hng.1 h';rw[hl] at this;cases this
     rw[if_neg (by simpa using this),if_pos ⟨by omega,rfl⟩])
  obtain rfl:=Nr hN hN'
  have v:=S9 (acc:=acc) H hN
  refine ⟨_,by rw[e1];rfl,?_,SZ H hn hN,v.self,?_⟩
  rotate_left
  ·rw[v.len,hN.1];exact H.bound _ (lp N) (iV H.g0 H.gn N)
  rw[if_neg (by simp;omega)]
  exact (congrArg (fun x=>Option.bind x _) e2).trans rfl
theorem NW (V:VA a n) (hn:n<=1000000): ∃r,fE a=some r/\ct a=some r/\Data.sm r:=by
 obtain ⟨r,h1,h2,h3,-⟩:=HC V hn
 exact ⟨r,h1,h2,h3⟩
end
end D
namespace D
open Go.RowKit
theorem Be:Data.sm ((0,[],[]):AutT):=⟨trivial,⟨by decide,fun _ h=>by cases h⟩,by decide,fun _ h=>by cases h⟩
theorem La {κ:Type} [DecidableEq κ] {nx:κ->List (Option κ)} {first:κ} {acc:κ->Bool} {most:Nat} : ∀(f i:Nat),(∀j,j<i->j<(bfS nx first j).length)->(bfS nx first i).length<=most->goM nx first acc most f i=((0,[],[]),false)\/ ∃N,bfE nx first N/\N<=most/\goM nx first acc most f i=((0,(bfS nx first N).map acc,bfR nx first N),true)
 | 0,i,_,_=>.inl rfl
 | f+1,i,h,hl=>by
  have hle:=A8 h
  rw[goM]
  by_cases c:i<(bfS nx first i).length
  ·rw[if_pos c]
   by_cases d:(bfS nx first (i+1)).length>most
   ·rw[if_pos d];exact .inl rfl
   ·rw[if_neg d]
    exact La f (i+1) (fun j hj=>by
     by_cases e:j=i
     ·subst e;exact c
     ·exact h j (by omega)) (by omega)
  ·rw[if_neg c]
   exact .inr ⟨i,⟨by omega,h⟩,by omega,by rw[List.take_of_length_le (by omega)]⟩
theorem C3 {e:List Tok} (he:e.length<=1048576): ∃r:AutT×Bool,fF e=some r/\fM e=some r/\Data.sm r.1:=by
 obtain ⟨⟨p,b⟩,e1,e2,h1,h2⟩:=rk he
 have h1:p.2.2.2.1.length=p.1.length:=h1
 have h2:p.1.length<=100000:=h2
 unfold fF fM
 rw[e1,e2];simp only[aliasOf0,eE]
 cases b with
 | false=>exact ⟨((0,[],[]),false),rfl,rfl,Be⟩
 | true =>
  have d1:=Uk (p:=p) (most:=200) h1 (by omega) (by omega) (by omega)
  have d2:=Uj (p:=p) (most:=200) h1 (by omega) (by omega) (by omega)
  have d1:gm p 200=_:=d1
  have d2:fJ p 200=_:=d2
  rw[d1,d2];simp only[if_true,aliasOf0]
  rcases La (nx:=nxS p) (first:=1) (acc:=sC p) (most:=200) (200+2) 0 (fun j hj=>by omega) (by simp[bfS]) with e | ⟨N,hN,hNm,e⟩
  ·rw[e]
   exact ⟨((0,[],[]),false),rfl,rfl,Be⟩
  ·rw[e];simp only[if_true]
   have V:=Rn (acc:=sC p) (A7 p) hN
   obtain ⟨r,es,ei,hr⟩:=NW V (by omega)
   unfold wG
   rw[es];simp only[aliasOf0,eE]
   rw[ei];simp only[aliasOf0,eE]
   by_cases c:(r.2.1.length:Int)>12
   ·have c':decide ((r.2.1.length:Int)>12)=true:=decide_eq_true c
    simp only[c',if_true,aliasOf0]
    exact ⟨((0,[],[]),false),rfl,rfl,Be⟩
   ·have c':decide ((r.2.1.length:Int)>12)=false:=decide_eq_false c
    simp only[c',Bool.false_eq_true,if_false,aliasOf0]
    exact ⟨(r,true),rfl,rfl,hr⟩
theorem EC {e:List Tok} (he:e.length<=1048576): ∃r:AutT×Bool,fF e=some r/\fM e=some r/\Data.sm r.1:=C3 he
end D
set_option synthInstance.maxSize 20000
set_option synthInstance.maxHeartbeats 2000000
namespace D
open Go.RowKit
theorem xJ (x y:AutT) (hx:Data.sm x):ez x y=some (decide (x=y)):=by
 obtain ⟨-,⟨ha,-⟩,hn,hr⟩:=hx
 unfold ez
 by_cases c1:x.1=y.1
 case neg=>rw[if_pos (by simpa using c1)];simp[Prod.ext_iff,c1]
 rw[if_neg (by simpa using c1)]
 by_cases c2:x.2.1.length=y.2.1.length
 case neg=>rw[if_pos (by simp;omega)];simp[Prod.ext_iff];exact fun _ e=>absurd (by rw[e]) c2
 rw[if_neg (by simp;omega)]
 by_cases c3:x.2.2.length=y.2.2.length
 case neg=>rw[if_pos (by simp;omega)];simp[Prod.ext_iff];exact fun _ _ e=>absurd (by rw[e]) c3
 rw[if_neg (by simp;omega)]
 rw[eqB (f:=dN x y) x.2.1 y.2.1 (by omega) c2 (fun i h h'=>by
  simp only[dN,bz h,if_true,ax h,ax h',aliasOf0,af (show i<9223372036854775807 by omega)]
  by_cases c:x.2.1[i] =y.2.1[i] <;> simp[c]) (by simp only[dN,bj];rfl)]
 by_cases c4:x.2.1=y.2.1
 case neg=>rw[if_neg c4];simp[Prod.ext_iff,c4]
 rw[if_pos c4]
 rw[eqB (f:=dO x y) x.2.2 y.2.2 (by omega) c3 (fun i h h'=>by
  obtain ⟨r,e,hr'⟩:=Bb x.2.2[i] y.2.2[i] ((hr _ (List.getElem_mem h)).1)
  simp only[dO,bz h,if_true,ax h,ax h',aliasOf0,af (show i<9223372036854775807 by omega),e]
  by_cases c:x.2.2[i] =y.2.2[i]
  ·rw[if_neg (by simpa using hr'.2 c),if_pos c]
  ·rw[if_pos (by simpa using fun e=>c (hr'.1 e)),if_neg c]) (by simp only[dO,bj];rfl)]
 by_cases c5:x.2.2=y.2.2
 ·rw[if_pos c5];simp[Prod.ext_iff,c1,c4,c5]
 ·rw[if_neg c5];simp[Prod.ext_iff,c5]
theorem NX (xs ys:List Bool) (hN:xs.length<=9223372036854775807):cR xs ys=some (decide (xs=ys)):=
 eqL (f:=bE xs ys) xs ys hN (fun i h h'=>by
  simp only[bE,bz h,if_true,ax h,ax h',aliasOf0,af (show i<9223372036854775807 by omega)]
  by_cases c:xs[i] =ys[i] <;> simp[c]) (by simp only[bE,bj];rfl)
theorem xK (x y:AutT) (hx:Data.sm x):cW x y=some (decide (x=y)):=by
 obtain ⟨-,⟨ha,-⟩,hn,hr⟩:=hx
 unfold cW
 by_cases c1:x.1=y.1
 case neg=>rw[if_neg (by simpa using c1)];simp[Prod.ext_iff,c1]
 rw[if_pos (by simpa using c1),NX _ _ (by omega)];simp only[aliasOf0]
 by_cases c2:x.2.1=y.2.1
 case neg=>rw[if_neg (by simpa using c2)];simp[Prod.ext_iff,c2]
 rw[if_pos (by simpa using c2)]
 have:bf x.2.2 y.2.2 (fun a0 a1=>eT a0 a1)=some (decide (x.2.2=y.2.2)):=
  eqL (f:=aI x.2.2 y.2.2 _) x.2.2 y.2.2 (by omega) (fun i h h'=>by
   simp only[aI,bz h,if_true,ax h,ax h',aliasOf0,af (show i<9223372036854775807 by omega),eT]
   rw[xE _ _ (by have:x.2.2[i].length<=1048576:=(hr _ (List.getElem_mem h)).1;omega)];simp only[aliasOf0]
   by_cases c:x.2.2[i] =y.2.2[i] <;> simp[c]) (by simp only[aI,bj];rfl)
 rw[this]
 by_cases c3:x.2.2=y.2.2 <;> simp[Prod.ext_iff,c1,c2,c3]
abbrev QT:=Int×List Tok×Int
abbrev Lb:=List AutT×List QT
theorem NY (x y:List Tok) (hx:x.length<=1048576):jC x y=some (decide (x=y)):=by
 unfold jC
 exact eqL (f:=fW x y) x y (by omega) (fun i h h'=>by
  simp only[fW,bz h,if_true,ax h,ax h',aliasOf0,eE,af (show i<9223372036854775807 by omega)]
  refine eD ?_;simp only[Bool.and_true,ae,beq_iff_eq];exact UX) (by simp only[fW,bj];rfl)
theorem Lc (x y:List Tok) (hx:x.length<=1048576):bI x y=some (decide (x=y)):=by
 unfold bI
 exact eqL (f:=bw x y) x y (by omega) (fun i h h'=>by
  simp only[bw,bz h,if_true,ax h,ax h',aliasOf0,eE,af (show i<9223372036854775807 by omega)]
  refine eD ?_;simp only[Bool.and_true,ae,beq_iff_eq];exact UX) (by simp only[bw,bj];rfl)
theorem NZ (x y:List Tok) (hx:x.length<=1048576):jI x y=some (decide (x=y)):=by
 unfold jI
 rw[Lc x y hx];rfl
theorem Bf (x y:Lb) (hx:Data.sm x):eO x y=some (decide (x=y)):=by
 obtain ⟨⟨ha,hA⟩,hq,hQ⟩:=hx
 unfold eO
 by_cases h1:x.1.length=y.1.length
 ·by_cases h2:x.2.length=y.2.length
  ·rw[if_neg (by rw[h1];simp),if_neg (by rw[h2];simp)]
   rw[eqB (f:=de x y) x.1 y.1 (by omega) h1 (fun i h h'=>by
    simp only[de,bz h,if_true,ax h,ax h',aliasOf0,eE,xJ x.1[i] y.1[i] (hA _ (List.getElem_mem h)),af (show i<9223372036854775807 by omega)]
    exact eD (by simp)) (by simp only[de,bj];rfl)]
   rw[eqB (f:=df x y) x.2 y.2 (by omega) h2 (fun i h h'=>by
    have e:=NY x.2[i].2.1 y.2[i].2.1 (hQ _ (List.getElem_mem h)).2.1.1
    simp only[df,bz h,if_true,ax h,ax h',aliasOf0,e,af (show i<9223372036854775807 by omega)]
    generalize x.2[i] =u;generalize y.2[i] =v
    by_cases e1:u.1=v.1 <;> by_cases e2:u.2.1=v.2.1 <;> by_cases e3:u.2.2=v.2.2 <;> simp[Prod.ext_iff,e1,e2,e3]) (by simp only[df,bj];rfl)]
   by_cases e1:x.1=y.1 <;> by_cases e2:x.2=y.2 <;> simp[Prod.ext_iff,e1,e2]
  ·have:x.2≠y.2:=fun e=>h2 (by rw[e])
   rw[if_neg (by rw[h1];simp),if_pos (by simp;omega)];simp[Prod.ext_iff,this]
 ·have:x.1≠y.1:=fun e=>h1 (by rw[e])
  rw[if_pos (by simp;omega)];simp[Prod.ext_iff,this]
theorem HD (x y:QT) (hx:Data.sm x):fc x y=some (decide (x=y)):=by
 unfold fc
 rw[NZ x.2.1 y.2.1 hx.2.1.1];simp only[aliasOf0]
 by_cases h1:x.1=y.1 <;> by_cases h2:x.2.1=y.2.1 <;> by_cases h3:x.2.2=y.2.2 <;> simp[Prod.ext_iff,h1,h2,h3]
theorem Bg (x y:Lb) (hx:Data.sm x):eU x y=some (decide (x=y)):=by
 obtain ⟨⟨ha,hA⟩,hq,hQ⟩:=hx
 unfold eU
 have e:aG x.1 y.1 (fun a0 a1=>cW a0 a1)=some (decide (x.1=y.1)):=
  eqL (f:=aB x.1 y.1 _) x.1 y.1 (by omega) (fun i h h'=>by
   simp only[aB,bz h,if_true,ax h,ax h',aliasOf0,eE,af (show i<9223372036854775807 by omega),xK x.1[i] y.1[i] (hA _ (List.getElem_mem h))]
   exact eD (by simp)) (by simp only[aB,bj];rfl)
 have e':aE x.2 y.2 (fun a0 a1=>fc a0 a1)=some (decide (x.2=y.2)):=
  eqL (f:=az x.2 y.2 _) x.2 y.2 (by omega) (fun i h h'=>by
   simp only[az,bz h,if_true,ax h,ax h',aliasOf0,eE,af (show i<9223372036854775807 by omega),HD x.2[i] y.2[i] (hQ _ (List.getElem_mem h))]
   exact eD (by simp)) (by simp only[az,bj];rfl)
 rw[e,e'];simp only[aliasOf0]
 by_cases h1:x.1=y.1 <;> by_cases h2:x.2=y.2 <;> simp[Prod.ext_iff,h1,h2]
theorem qa {R S:Type} {f g:S->Option (Out R S)} (Inv:Nat->S->Prop) (h: ∀i s,Inv i s->g s=f s/\ ∀s',f s=some (.nxt s')->Inv (i+1) s'): ∀(k i:Nat) (s:S),Inv i s->aq g k s=aq f k s
 | 0,_,_,_=>rfl
 | k+1,i,s,hI=>by
  obtain ⟨h1,h2⟩:=h i s hI
  rw[aq,aq,h1]
  cases e:f s with
  | none=>rfl
  | some o =>
   cases o with
   | nxt s'=>exact qa Inv h k (i+1) s' (h2 s' e)
   | brk s'=>rfl
   | ret r=>rfl
theorem Gc {f g:Int->Option (Out Int Int)} (N:Nat) (hN:N<=1048576) (h: ∀i:Nat,i<N->f (i:Int)=some (.ret (i:Int))\/f (i:Int)=some (.nxt ((i+1:Nat):Int))) (he:f (N:Int)=some (.brk (N:Int))) (hfg: ∀i:Nat,i<=N->g (i:Int)=f (i:Int)) :
  ∃r:Int,aH (aq f aS 0) (fun r=>some r) (fun _=>some (-1))=some r/\aH (aq g aS 0) (fun r=>some r) (fun _=>some (-1))=some r/\(r= -1\/ ∃i:Nat,i<N/\r=(i:Int)):=by
 have hs:aq g aS 0=aq f aS 0:=qa (fun i s=>s=(i:Int)/\i<=N) (fun i s ⟨e,hi⟩=>by
  subst e
  refine ⟨hfg i hi,fun s' e=>?_⟩
  by_cases c:i<N
  ·rcases h i c with e2 | e2
   ·rw[e2] at e;cases e
   ·rw[e2] at e;cases e;exact ⟨rfl,c⟩
  ·obtain rfl:i=N:=by omega
   rw[he] at e;cases e) aS 0 0 ⟨rfl,Nat.zero_le _⟩
 rw[hs]
 obtain ⟨o,e,ho⟩:=cy (f:=f) (fun i s=>s=(i:Int)) (fun o=>o= .brk (N:Int)\/ ∃i:Nat,i<N/\o= .ret (i:Int)) N (fun i s hi hs=>by
  subst hs
  by_cases h1:i<N
  ·rcases h i h1 with h2 | h2
   ·exact .inr ⟨_,h2,(fun s' e=>by cases e),.inr ⟨i,h1,rfl⟩⟩
   ·exact .inl ⟨h1,_,h2,rfl⟩
  ·obtain rfl:i=N:=by omega
   exact .inr ⟨_,he,(fun s' e=>by cases e),.inl rfl⟩) (s:=0) rfl (fO _ (by omega))
 rw[e]
 rcases ho with rfl | ⟨i,hi,rfl⟩
 ·exact ⟨-1,rfl,rfl,.inl rfl⟩
 ·exact ⟨i,rfl,rfl,.inr ⟨i,hi,rfl⟩⟩
theorem HE (l:List AutT) (a:AutT) (hl:l.length<=1048576) (hs: ∀x∈l,Data.sm x) (ha:Data.sm a): ∃r:Int,jS l a=some r/\aJ l (fun a0=>jU a0 a)=some r/\(r= -1\/ ∃i:Nat,i<l.length/\r=(i:Int)):=by
 unfold jS aJ
 have hf: ∀i (h:i<l.length),fG l a (i:Int)=if l[i] =a then some (.ret (i:Int)) else some (.nxt ((i+1:Nat):Int)):=fun i h=>by
  simp only[fG,bz h,if_true,ax h,aliasOf0,eE,xJ l[i] a (hs _ (List.getElem_mem h)),af (show i<9223372036854775807 by omega)]
  by_cases c:l[i] =a <;> simp[c]
 refine Gc l.length hl (fun i h=>?_) (by simp only[fG,bj];rfl) (fun i hi=>?_)
 ·rw[hf i h];by_cases c:l[i] =a <;> simp[c]
 ·by_cases h:i<l.length
  ·rw[hf i h]
   simp only[bm,jU,bz h,if_true,ax h,aliasOf0,eE,xK a l[i] ha,af (show i<9223372036854775807 by omega)]
   by_cases c:l[i] =a
   ·simp[c]
   ·have: ¬a=l[i]:=fun e=>c e.symm
    simp[c,this]
  ·obtain rfl:i=l.length:=by omega
   simp only[fG,bm,bj];rfl
def ED (n i:Nat) (s:Int×List AutT×List QT):Prop:=s.1=(i:Int)/\i<=n/\s.2.2.length=i/\s.2.1.length<=i/\(∀a∈s.2.1,Data.sm a)/\ ∀q∈s.2.2,Data.sm q/\0<=q.2.2/\q.2.2<(s.2.1.length:Int)
theorem Ge {qs:List QT} (hq:Data.sm qs) {i:Nat} {s:Int×List AutT×List QT} (hI:ED qs.length i s):iI qs s=cC qs s /\
  ((i<qs.length/\ ∃s',cC qs s=some (.nxt s')/\ED qs.length (i+1) s')\/ ∃o,cC qs s=some o/\(∀s',o≠ .nxt s')/\(o= .ret (([],[]),false)\/o= .brk s/\i=qs.length)):=by
 obtain ⟨hn,hs⟩:=aL hq
 obtain ⟨s1,A,Q⟩:=s
 obtain ⟨h1,h2,h3,h4,h5,h6⟩:=hI
 simp only at h1 h3 h4 h5 h6
 subst h1
 by_cases hi:i<qs.length
 ·have hqi:=hs _ (List.getElem_mem hi)
  obtain ⟨r,es,ei,hr⟩:=EC (e:=qs[i].2.1) hqi.2.1.1
  obtain ⟨k,ks,ki,hk⟩:=HE A r.1 (by omega) h5 hr
  have a1:cS 56 A [r.1] =some (A++ [r.1]):=aD (by simp;omega)
  have a2: ∀y,cS 40 Q [y] =some (Q++ [y]):=fun y=>aD (by simp;omega)
  have a3:jg qs[i].2.1=some qs[i].2.1:=by unfold jg;rw[aD (by have:=hqi.2.1.1;simp;omega)];rfl
  have a4:jV qs[i].2.1=some qs[i].2.1:=by unfold jV;rw[aD (by have:=hqi.2.1.1;simp;omega)];rfl
  unfold iI cC
  simp only[bz hi,if_true,ax hi,aliasOf0,es,ei,HK,C7,eE,ks,ki,a1,a2,a3,a4,af (show i<9223372036854775807 by omega)]
  by_cases c1:r.2=true
  case neg =>
   simp only[c1,Bool.false_eq_true,if_false]
   exact ⟨by first | trivial | rfl,.inr ⟨_,rfl,(fun s' e=>by cases e),.inl rfl⟩⟩
  simp only[c1,if_true]
  by_cases c2:1<=qs[i].1/\qs[i].1<=99
  case neg =>
   simp only[c2,decide_false,Bool.false_eq_true,if_false]
   exact ⟨by first | trivial | rfl,.inr ⟨_,rfl,(fun s' e=>by cases e),.inl rfl⟩⟩
  simp only[c2,decide_true,if_true]
  have fin: ∃s':Int×List AutT×List QT,(∀(y:Option (Out (Lb×Bool) (Int×List AutT×List QT))),True)/\(Option.bind (if decide (k<0) then some ((A.length:Int),A++ [r.1],Q) else some (k,A,Q)) fun s10:Int×List AutT×List QT=>(cS 40 s10.2.2 [(qs[i].1,qs[i].2.1,s10.1)]).bind fun z18=>some (.nxt (((i+1:Nat):Int),s10.2.1,z18)):Option (Out (Lb×Bool) (Int×List AutT×List QT)))=some (.nxt s')/\ED qs.length (i+1) s':=by
   rcases hk with rfl | ⟨j,hj,rfl⟩
   ·refine ⟨(((i+1:Nat):Int),A++ [r.1],Q++ [(qs[i].1,qs[i].2.1,(A.length:Int))]),fun _=>trivial,?_,rfl,hi,by simp;omega,by simp;omega,fun a ha=>?_,fun q hq'=>?_⟩
    ·simp only[show decide ((-1:Int)<0)=true from rfl,if_true,aliasOf0,a2]
    ·simp only[List.mem_append,List.mem_singleton] at ha
     rcases ha with ha | rfl
     ·exact h5 a ha
     ·exact hr
    ·simp only[List.mem_append,List.mem_singleton] at hq'
     simp only[aliasOf5,List.length_singleton]
     rcases hq' with hq' | rfl
     ·obtain ⟨b1,b2,b3⟩:=h6 q hq'
      exact ⟨b1,b2,by omega⟩
     ·exact ⟨⟨trivial,hqi.2.1,trivial⟩,by simp,by simp;omega⟩
   ·refine ⟨(((i+1:Nat):Int),A,Q++ [(qs[i].1,qs[i].2.1,(j:Int))]),fun _=>trivial,?_,rfl,hi,by simp;omega,by simp only;omega,h5,fun q hq'=>?_⟩
    ·have:decide ((j:Int)<0)=false:=by simp
     simp only[this,Bool.false_eq_true,if_false,aliasOf0,a2]
    ·simp only[List.mem_append,List.mem_singleton] at hq'
     rcases hq' with hq' | rfl
     ·exact h6 q hq'
     ·exact ⟨⟨trivial,hqi.2.1,trivial⟩,by simp,by simp;omega⟩
  obtain ⟨s',-,e,hI'⟩:=fin
  by_cases c3:(i:Int)>0
  ·have hp:i - 1<qs.length:=by omega
   have hw:IntKind.i64.wrap ((i:Int) - 1)=((i - 1:Nat):Int):=by rw[mT (by omega)];omega
   simp only[c3,decide_true,if_true,hw,ax hp,aliasOf0]
   by_cases c4:qs[i - 1].1≥qs[i].1
   ·simp only[c4,decide_true,if_true]
    exact ⟨by first | trivial | rfl,.inr ⟨_,rfl,(fun s' e=>by cases e),.inl rfl⟩⟩
   ·simp only[c4,decide_false,Bool.false_eq_true,if_false]
    exact ⟨by first | trivial | rfl,.inl ⟨hi,s',e,hI'⟩⟩
  ·simp only[c3,decide_false,Bool.false_eq_true,if_false]
   exact ⟨by first | trivial | rfl,.inl ⟨hi,s',e,hI'⟩⟩
 ·obtain rfl:i=qs.length:=by omega
  unfold iI cC
  simp only[bj,Bool.false_eq_true,if_false]
  exact ⟨by first | trivial | rfl,.inr ⟨_,rfl,(fun s' e=>by cases e),.inr (by first | exact ⟨rfl,rfl⟩ | exact ⟨trivial,rfl⟩ | exact ⟨rfl,trivial⟩ | simp)⟩⟩
def RegOk (r:Lb):Prop:=Data.sm r/\ ∀q∈r.2,0<=q.2.2/\q.2.2<(r.1.length:Int)
theorem N1 {qs:List QT} (hq:Data.sm qs): ∃r:Lb,∃b:Bool,lJ qs=(if (qs.length:Int)>4 then some (([],[]),false) else some (r,b))/\pT qs=some (r,b&&decide ((qs.length:Int)<=4))/\RegOk r:=by
 have hn:=(aL hq).1
 have h0:ED qs.length 0 (0,[],[]):=⟨rfl,Nat.zero_le _,rfl,al _,fun _ h=>(by cases h),fun _ h=>(by cases h)⟩
 have hs:aq (iI qs) aS (0,[],[])=aq (cC qs) aS (0,[],[]):=qa (ED qs.length) (fun i s hI=>by
  obtain ⟨e,h⟩:=Ge hq hI
  refine ⟨e,fun s' e'=>?_⟩
  rcases h with ⟨_,s2,e2,hI2⟩ | ⟨o,e2,hne,-⟩
  ·rw[e2] at e';cases e';exact hI2
  ·rw[e2] at e';cases e';exact absurd rfl (hne s')) aS 0 _ h0
 obtain ⟨o,e,ho⟩:=cy (f:=cC qs) (ED qs.length) (fun o=>o= .ret (([],[]),false)\/ ∃A Q,o= .brk ((qs.length:Int),A,Q)/\ED qs.length qs.length ((qs.length:Int),A,Q)) qs.length (fun i s hi hI=>by
  rcases (Ge hq hI).2 with h | ⟨o,e,hne,h⟩
  ·exact .inl h
  ·refine .inr ⟨o,e,hne,?_⟩
   rcases h with h | ⟨h,rfl⟩
   ·exact .inl h
   ·obtain ⟨s1,A,Q⟩:=s
    obtain ⟨rfl,-⟩:=id hI
    exact .inr ⟨A,Q,h,hI⟩) h0 (fO _ (by omega))
 unfold lJ pT
 rw[hs,e]
 rcases ho with rfl | ⟨A,Q,rfl,-,-,h3,h4,h5,h6⟩
 ·refine ⟨([],[]),false,?_,rfl,⟨⟨Nat.zero_le _,fun _ h=>(by cases h)⟩,Nat.zero_le _,fun _ h=>(by cases h)⟩,fun _ h=>(by cases h)⟩
  by_cases c:(qs.length:Int)>4 <;> simp[c,aH]
 ·simp only at h3 h4 h5 h6
  refine ⟨(A,Q),true,?_,by simp[aH],⟨⟨show A.length<=1048576 by omega,h5⟩,show Q.length<=1048576 by omega,fun q h=>(h6 q h).1⟩,fun q h=>(h6 q h).2⟩
  by_cases c:(qs.length:Int)>4 <;> simp[c,aH]
theorem HF {r:Lb} (hr:Data.sm r): ∃b,eP r=some b/\eV r=some b/\(b=true->RegOk r):=by
 obtain ⟨x,b,e1,e2,hx⟩:=N1 hr.2
 unfold eP eV
 rw[e1,e2]
 by_cases c:(r.2.length:Int)>4
 ·have c': ¬(r.2.length:Int)<=4:=by omega
  exact ⟨false,by simp[c],by simp[c'],fun e=>by cases e⟩
 ·have c':(r.2.length:Int)<=4:=by omega
  cases b with
  | false=>exact ⟨false,by simp[c],by simp,fun e=>by cases e⟩
  | true =>
   simp only[c,if_false,aliasOf0,if_true,c',decide_true,Bool.and_true,eE,Bf x r hx.1,Bg x r hx.1]
   exact ⟨_,rfl,rfl,fun e=>by rw[<-of_decide_eq_true e];exact hx⟩
end D
set_option synthInstance.maxSize 20000
set_option synthInstance.maxHeartbeats 2000000
namespace D
open Go.RowKit
abbrev Rp:=Int×(List GrT)
abbrev Up:=Int×Int×Int
theorem zD {g:GrT} (hg:Data.sm g): ∃b,bN g=some b:=by
 obtain ⟨b,e,_⟩:=NC g (aL hg.1).1 (aL hg.2).1
 exact ⟨b,e⟩
def okG (h:Rp) (g:GrT):Prop:=bN g=some true/\g.1=(nth h.2 0).1
instance (h g):Decidable (okG h g):=by unfold okG;infer_instance
theorem Ld (h:Rp) (hh:Data.sm h): ∃b,m_s_IsValidHistory h=some b/\m_i_IsValidHistory h=some b/\(b=true->(1<=h.2.length/\h.2.length<=8)/\1<=h.1/\h.1<=1000 - (h.2.length:Int)):=by
 obtain ⟨hl,hs⟩:=aL hh.2
 have ew:IntKind.i64.wrap ((IntKind.i64.wrap (999 - (h.2.length:Int)))+1)=1000 - (h.2.length:Int):=by
  rw[dI (n:=999 - (h.2.length:Int)) (by omega) (by omega),dI (by omega) (by omega)];omega
 have ks:=scan (f:=dw h) h.2 (okG h) false (by omega) (fun i hi=>by
  have hg:=hs _ (iU (xs:=h.2) (i:=(i:Int)) (by omega) (by omega))
  obtain ⟨b,e⟩:=zD hg
  obtain ⟨r,er,hr⟩:=Bb (nth h.2 (i:Int)).1 (nth h.2 0).1 (aL hg.1).1
  have e':fa ((nth h.2 (i:Int)).1,(nth h.2 (i:Int)).2)=some b:=by rw[KH];exact e
  have hk:okG h (nth h.2 (i:Int))↔b=true/\(nth h.2 (i:Int)).1=(nth h.2 0).1:=by unfold okG;rw[e];simp
  unfold dw
  rw[if_pos (by simp;omega),aA (by omega) (by omega)];simp only[aliasOf0]
  rw[e',aA (xs:=h.2) (i:=0) (by omega) (by omega)];simp only[aliasOf0]
  rw[er,af (by omega)];simp only[aliasOf0]
  cases b with
  | false=>rw[if_neg (by decide),if_neg (fun c=>by cases (hk.1 c).1)]
  | true =>
   rw[if_pos rfl]
   by_cases c:r=0
   ·rw[if_neg (by simp[c]),if_pos (hk.2 ⟨rfl,hr.1 c⟩)]
   ·rw[if_pos (by simpa using c),if_neg (fun k=>c (hr.2 (hk.1 k).2))]) (by unfold dw;simp)
 have ki:=scan (f:=dy h) h.2 (okG h) false (by omega) (fun i hi=>by
  have hg:=hs _ (iU (xs:=h.2) (i:=(i:Int)) (by omega) (by omega))
  obtain ⟨b,e⟩:=zD hg
  have er:=xE (nth h.2 (i:Int)).1 (nth h.2 0).1 (by have:=(aL hg.1).1;omega)
  have e':bN ((nth h.2 (i:Int)).1,(nth h.2 (i:Int)).2)=some b:=e
  have hk:okG h (nth h.2 (i:Int))↔b=true/\(nth h.2 (i:Int)).1=(nth h.2 0).1:=by unfold okG;rw[e];simp
  unfold dy
  rw[if_pos (by simp;omega),aA (by omega) (by omega)];simp only[aliasOf0]
  rw[e',aA (xs:=h.2) (i:=0) (by omega) (by omega)];simp only[aliasOf0]
  rw[er,af (by omega)];simp only[aliasOf0]
  cases b with
  | false=>rw[if_neg (by decide),if_neg (fun c=>by cases (hk.1 c).1)]
  | true =>
   rw[if_pos rfl]
   by_cases c:(nth h.2 (i:Int)).1=(nth h.2 0).1
   ·rw[if_pos (decide_eq_true c),if_pos (hk.2 ⟨rfl,c⟩)]
   ·rw[if_neg (by simpa using c),if_neg (fun k=>c (hk.1 k).2)]) (by unfold dy;simp)
 unfold m_s_IsValidHistory m_i_IsValidHistory
 rw[HK,HK,C7,C7,ew];simp only[aliasOf0]
 by_cases c1:(1:Int)<=(h.2.length:Int)/\(h.2.length:Int)<=8
 ·by_cases c2:1<=h.1/\h.1<=1000 - (h.2.length:Int)
  ·rw[decide_eq_true c1,decide_eq_true c2];simp only[if_true]
   rcases ks with ⟨es,k1⟩ | ⟨es,k1⟩ <;> rcases ki with ⟨ei,k2⟩ | ⟨ei,k2⟩
   ·rw[au es,au ei]
    exact ⟨true,rfl,rfl,fun _=>⟨by omega,c2⟩⟩
   ·exact absurd k1 k2
   ·exact absurd k2 k1
   ·rw[bX es,bX ei]
    exact ⟨false,rfl,rfl,fun c=>by cases c⟩
  ·rw[decide_eq_true c1,decide_eq_false c2];simp only[if_true,Bool.false_eq_true,if_false]
   rcases ks with ⟨es,k1⟩ | ⟨es,k1⟩
   ·rw[au es];exact ⟨false,rfl,rfl,fun c=>by cases c⟩
   ·rw[bX es];exact ⟨false,rfl,rfl,fun c=>by cases c⟩
 ·rw[decide_eq_false c1];simp only[Bool.false_eq_true,if_false]
  rcases ks with ⟨es,k1⟩ | ⟨es,k1⟩
  ·rw[au es];exact ⟨false,rfl,rfl,fun c=>by cases c⟩
  ·rw[bX es];exact ⟨false,rfl,rfl,fun c=>by cases c⟩
def latV (h:Rp):Int:=h.1+(h.2.length:Int) - 1
theorem Le {h:Rp} (hs:m_s_IsValidHistory h=some true) (hi:m_i_IsValidHistory h=some true) (k:(1<=h.2.length/\h.2.length<=8)/\1<=h.1/\h.1<=1000 - (h.2.length:Int)):bQ h=some (latV h)/\ga h=some (latV h):=by
 unfold bQ ga latV
 have hs:m_s_IsValidHistory (h.1,h.2)=_:=hs
 have hi:m_i_IsValidHistory (h.1,h.2)=_:=hi
 rw[hs,hi];simp only[aliasOf0,if_true]
 rw[dI (n:=h.1+(h.2.length:Int)) (by omega) (by omega),dI (by omega) (by omega)]
 exact ⟨rfl,rfl⟩
end D
set_option synthInstance.maxSize 20000
set_option synthInstance.maxHeartbeats 2000000
namespace D
open Go.RowKit
end D
set_option synthInstance.maxSize 20000
set_option synthInstance.maxHeartbeats 2000000
namespace D
open Go.RowKit
theorem Lf (r:Lb) (id:Int) (hl:r.2.length<=1048576): ∃k:Int,iC r id=some k/\iK r id=some k/\(k= -1\/ ∃i:Nat,i<r.2.length/\k=(i:Int)):=by
 unfold iC iK bt
 have hf: ∀i (h:i<r.2.length),dm r id (i:Int)=if r.2[i].1=id then some (.ret (i:Int)) else some (.nxt ((i+1:Nat):Int)):=fun i h=>by
  simp only[dm,bz h,if_true,ax h,aliasOf0,af (show i<9223372036854775807 by omega)]
  by_cases c:r.2[i].1=id <;> simp[c]
 obtain ⟨k,e1,e2,h⟩:=Gc (f:=dm r id) (g:=aQ r.2 fun a0=>iJ a0 id) r.2.length hl (fun i h=>by
  rw[hf i h];by_cases c:r.2[i].1=id <;> simp[c]) (by simp only[dm,bj];rfl) (fun i hi=>by
  by_cases h:i<r.2.length
  ·rw[hf i h]
   simp only[aQ,iJ,bz h,if_true,ax h,aliasOf0,af (show i<9223372036854775807 by omega)]
   by_cases c:r.2[i].1=id <;> simp[c]
  ·obtain rfl:i=r.2.length:=by omega
   simp only[dm,aQ,bj];rfl)
 refine ⟨k,e1,?_,h⟩
 rw[e2];rfl
end D
set_option synthInstance.maxSize 20000
set_option synthInstance.maxHeartbeats 2000000
namespace D
open Go.RowKit
abbrev EngT:=Rp×Lb×List Up×ByteArray
theorem Gf {h:Rp} {r:Lb} {ss:List Up} {lg:ByteArray} {v:Int} (hs:bQ h=some v) (hr:r.2.length<=1048576) (hn:ss.length<=1048576) {i:Nat} (h1:i<ss.length) :
  bH (h,r,ss,lg) v (i:Int)=b8 (h,r,ss,lg) (i:Int)/\(b8 (h,r,ss,lg) (i:Int)=some (.nxt ((i+1:Nat):Int))\/b8 (h,r,ss,lg) (i:Int)=some (.ret false)):=by
 obtain ⟨k,k1,k2,-⟩:=Lf r ss[i].2.1 hr
 have hw:IntKind.i64.wrap ((i:Int)+1)=((i+1:Nat):Int):=af (by omega)
 unfold bH b8
 simp only[eE,bz h1,if_true,ax h1,aliasOf0,HK,C7,k1,k2,hs,hw]
 by_cases c:decide ((i:Int)>0)=true
 ·have g:aK ss (IntKind.i64.wrap ((i:Int) - 1))=some (nth ss ((i:Int) - 1)):=by
   have:(i:Int)>0:=of_decide_eq_true c
   rw[mT (by omega),aA (by omega) (by omega)]
  simp only[if_pos c,g,aliasOf0]
  refine ⟨trivial,?_⟩
  repeat' split
  all_goals first | exact .inr rfl | exact .inl rfl
 ·simp only[if_neg c]
  refine ⟨trivial,?_⟩
  repeat' split
  all_goals first | exact .inr rfl | exact .inl rfl
theorem N2 {h:Rp} {r:Lb} {ss:List Up} {lg:ByteArray} {v:Int} (hs:bQ h=some v) (hr:r.2.length<=1048576) (hn:ss.length<=1048576): ∃o,aq (b8 (h,r,ss,lg)) aS 0=some o/\aq (bH (h,r,ss,lg) v) aS 0=some o/\(o= .ret false\/ ∃s,o= .brk s):=by
 have hend:b8 (h,r,ss,lg) (ss.length:Int)=some (.brk (ss.length:Int)):=by
  unfold b8
  simp only[]
  rw[bj];rfl
 have hend2:bH (h,r,ss,lg) v (ss.length:Int)=some (.brk (ss.length:Int)):=by
  unfold bH
  simp only[]
  rw[bj];rfl
 obtain ⟨o,e,hQ⟩:=cy (f:=b8 (h,r,ss,lg)) (fun i s=>s=(i:Int)) (fun o=>o= .ret false\/ ∃s,o= .brk s) ss.length (fun i s hi hI=>by
  subst hI
  by_cases h1:i<ss.length
  ·rcases (Gf (lg:=lg) hs hr hn h1).2 with k | k
   ·exact .inl ⟨h1,_,k,rfl⟩
   ·exact .inr ⟨_,k,fun s' h=>(by simp at h),.inl rfl⟩
  ·obtain rfl:i=ss.length:=by omega
   exact .inr ⟨_,hend,fun s' h=>(by simp at h),.inr ⟨_,rfl⟩⟩) (s:=(0:Int)) rfl (fO _ (by omega))
 refine ⟨o,e,?_,hQ⟩
 rw[<-e]
 refine qa (f:=b8 (h,r,ss,lg)) (g:=bH (h,r,ss,lg) v) (fun i s=>s=(i:Int)/\i<=ss.length) (fun i s hI=>?_) aS 0 0 ⟨rfl,Nat.zero_le _⟩
 obtain ⟨rfl,hi⟩:=hI
 by_cases h1:i<ss.length
 ·obtain ⟨a,b⟩:=Gf (lg:=lg) hs hr hn h1
  refine ⟨a,fun s' hs'=>?_⟩
  rcases b with b | b
  ·rw[b] at hs'
   obtain rfl:=aliasOf1 hs' |> Out.nxt.inj
   exact ⟨rfl,h1⟩
  ·rw[b] at hs';simp at hs'
 ·obtain rfl:i=ss.length:=by omega
  exact ⟨by rw[hend,hend2],fun s' hs'=>by rw[hend] at hs';simp at hs'⟩
structure EngOk (e:EngT):Prop where
 hs:m_s_IsValidHistory e.1=some true
 hi:m_i_IsValidHistory e.1=some true
 hb:(1<=e.1.2.length/\e.1.2.length<=8)/\1<=e.1.1/\e.1.1<=1000 - (e.1.2.length:Int)
 reg:RegOk e.2.1
 sub:e.2.2.1.length<=4
 log:e.2.2.2.size<=4000
 sc: ∃(r:List Int) (q:List (List ChT)) (n:Nat),m_s_ScanLog e.2.2.2=some (r,q,(n:Int))/\m_i_ScanLog e.2.2.2=some (r,q,(n:Int))/\r.length<=4000/\ScOk r q/\totL r q r.length<=4000/\(r.length=0\/nth r ((r.length:Int) - 1)=latV e.1)
theorem N3 (e:EngT) (he:Data.sm e): ∃b,fX e=some b/\gb e=some b/\(b=true->EngOk e):=by
 obtain ⟨h,r,ss,lg⟩:=e
 obtain ⟨sh,sr,ssb,slg⟩:=he
 obtain ⟨b1,e1,e2,k1⟩:=Ld h sh
 obtain ⟨b2,f1,f2,k2⟩:=HF sr
 have slg:lg.size<=1048576:=slg
 obtain ⟨l,rfl⟩:=OV lg
 have hlz:(mkB l).size=l.length:=bh l
 have hl:l.length<=1048576:=by rw[<-hlz];exact slg
 unfold fX gb qO tc
 simp only[eE,e1,e2,f1,f2,aliasOf0,hlz]
 cases b1 with
 | false=>exact ⟨false,rfl,rfl,fun c=>by cases c⟩
 | true =>
  cases b2 with
  | false=>exact ⟨false,rfl,rfl,fun c=>by cases c⟩
  | true =>
   obtain ⟨l1,l2⟩:=Le e1 e2 (k1 rfl)
   obtain ⟨o,o1,o2,ho⟩:=N2 (h:=h) (r:=r) (ss:=ss) (lg:=mkB l) l1 (aL sr.2).1 (aL ssb).1
   obtain ⟨vs,bs,n,g1,g2,g3,g4,g5,g6⟩:=pB l (by omega)
   simp only[if_true,l1,l2,g1,g2,aliasOf0,o1,o2]
   by_cases c1:(ss.length:Int)<=4
   ·rw[if_neg (show¬decide ((ss.length:Int)>4)=true by rw[decide_eq_true_eq];omega),decide_eq_true c1]
    by_cases c2:(l.length:Int)<=4000
    ·rw[if_neg (show¬decide ((l.length:Int)>4000)=true by rw[decide_eq_true_eq];omega)]
     rcases ho with rfl | ⟨s,rfl⟩
     ·exact ⟨false,rfl,rfl,fun c=>by cases c⟩
     ·simp only[aH,if_true,aliasOf0]
      by_cases c3:((n:Int)==(l.length:Int))=true
      ·simp only[if_pos c3,if_pos (decide_eq_true c2)]
       by_cases c4:((vs.length:Int)==0)=true
       ·simp only[if_pos c4,aliasOf0]
        exact ⟨true,rfl,rfl,fun _=>⟨e1,e2,k1 rfl,k2 rfl,by show ss.length<=4;omega,by show (mkB l).size<=4000;omega,vs,bs,n,g1,g2,g4,g5,by omega,.inl (by have:=eq_of_beq c4;omega)⟩⟩
       ·have hp:0<vs.length:=by
         rcases Nat.eq_zero_or_pos vs.length with q | q
         ·exact absurd (by rw[q];rfl) c4
         ·exact q
        simp only[if_neg c4,mT (show vs.length<=9223372036854775807 by omega),aA (xs:=vs) (i:=(vs.length:Int) - 1) (by omega) (by omega),aliasOf0]
        refine ⟨_,rfl,rfl,fun c=>⟨e1,e2,k1 rfl,k2 rfl,by show ss.length<=4;omega,by show (mkB l).size<=4000;omega,vs,bs,n,g1,g2,g4,g5,by omega,.inr (eq_of_beq c)⟩⟩
      ·simp only[if_neg c3,aliasOf0]
       exact ⟨false,rfl,rfl,fun c=>by cases c⟩
    ·rw[if_pos (decide_eq_true (show (l.length:Int)>4000 by omega))]
     rcases ho with rfl | ⟨s,rfl⟩
     ·exact ⟨false,rfl,rfl,fun c=>by cases c⟩
     ·simp only[aH,if_true,aliasOf0]
      by_cases c3:((n:Int)==(l.length:Int))=true
      ·simp only[if_pos c3,if_neg (show¬decide ((l.length:Int)<=4000)=true by rw[decide_eq_true_eq];exact c2),aliasOf0]
       exact ⟨false,rfl,rfl,fun c=>by cases c⟩
      ·simp only[if_neg c3,aliasOf0]
       exact ⟨false,rfl,rfl,fun c=>by cases c⟩
   ·rw[if_pos (decide_eq_true (show (ss.length:Int)>4 by omega)),decide_eq_false c1]
    rcases ho with rfl | ⟨s,rfl⟩
    ·exact ⟨false,rfl,rfl,fun c=>by cases c⟩
    ·exact ⟨false,rfl,rfl,fun c=>by cases c⟩
end D
set_option synthInstance.maxSize 20000
set_option synthInstance.maxHeartbeats 2000000
namespace D
open Go.RowKit
theorem Lg (e:EngT) (he:Data.sm e) (n:Int): ∃k:Int,iO e n=some k/\iP e n=some k:=by
 obtain ⟨b,es,ei,-⟩:=N3 e he
 obtain ⟨l,hl⟩:=OV e.2.2.2
 have hz:e.2.2.2.size=l.length:=by rw[hl];exact bh l
 have hs:e.2.2.2.size<=1048576:=he.2.2.2
 unfold iO iP
 simp only[eE,es,ei,aliasOf0,HK,C7]
 cases b with
 | false =>
  by_cases c:0<=n/\n<=(e.2.2.2.size:Int)
  ·rw[decide_eq_true c];exact ⟨_,rfl,rfl⟩
  ·rw[decide_eq_false c];exact ⟨_,rfl,rfl⟩
 | true =>
  by_cases c:0<=n/\n<=(e.2.2.2.size:Int)
  ·rw[decide_eq_true c]
   simp only[if_true]
   obtain ⟨k,rfl⟩: ∃k:Nat,n=(k:Int):=⟨n.toNat,by omega⟩
   obtain ⟨v1,b1,n1,g1,g2,-⟩:=pB l (by omega)
   obtain ⟨v2,b2,n2,f1,f2,-⟩:=pB ((l.take k).drop 0) (by rw[aliasOf13,aliasOf12];omega)
   have hsl:l6 (mkB l) 0 (k:Int)=some (mkB ((l.take k).drop 0)):=slB (l:=l) (a:=0) (b:=k) (by omega) (by omega)
   rw[hl,g1,g2]
   simp only[aliasOf0]
   rw[hsl]
   simp only[aliasOf0]
   rw[f1,f2]
   exact ⟨_,rfl,rfl⟩
  ·rw[decide_eq_false c];exact ⟨_,rfl,rfl⟩
theorem yA (x:EngT) (n:Int) (hx:Data.lim x) (hn:I64 n):dh x n=some true:=by
 unfold dh
 simp only[eE]
 obtain ⟨r1,e1,k1⟩:=Hl x 1048576 hx (by decide) (by decide)
 rw[e1];simp only[aliasOf0]
 rcases k1 with k1 | ⟨k1,j1,s1⟩
 ·rw[if_pos (decide_eq_true k1)]
 rw[if_neg (by simpa using k1)]
 obtain ⟨k,es,ei⟩:=Lg x s1 n
 simp only[Ho x s1,es,ei,Hs x x s1 s1,aliasOf0,eE,decide_true,if_true]
 simp only[bne_self_eq_false,Bool.false_eq_true,if_false]
end D
open Go.ChangeShapes Go.WideShapes Go.ChangeAt Go.RowKit
theorem own:ownKnob Tryz.prog.godebug=none:=by kernel_rfl
theorem laidOut:laidOutB Tryz.prog=true:=by kernel_rfl
theorem sD {H:Type} {enc:TypeId×Value->H} {P:Program} (hl:laidOutB P=true) {W W':World} (hb:Below W.heap.size W W') :
  ∀ {ts:List TypeId} {vs:List Value} {ds:List (DataW H)} {ps:List MemPlace},(∀t∈ts,P.readableRec t=true/\t<P.types.size)->
   DataW.TrodAll enc P W 0 (fun _=>true) true ts vs ds ps->(∀x∈ps,x.block<W.heap.size)->DataW.TrodAll enc P W' 0 (fun b=>decide (b<W.heap.size)) true ts vs ds ps
 | [],[],[],ps,_,h,_=>h
 | t::ts,v::vs,d::ds,ps,hr,⟨p,q,h1,h2,h3⟩,hlt=>by
  subst h3
  exact ⟨p,q,Below.trod hl (hr t (by simp)).1 (hr t (by simp)).2 h1 hb fun x hx=>hlt x (by simp[hx]),sD hl hb (fun t ht=>hr t (by simp[ht])) h2 fun x hx=>hlt x (by simp[hx]),rfl⟩
 | [],_::_,_,_,_,h,_=>h.elim
 | [],[],_::_,_,_,h,_=>h.elim
 | _::_,[],_,_,_,h,_=>h.elim
 | _::_,_::_,[],_,_,h,_=>h.elim
theorem N4 {H:Type} {enc:TypeId×Value->H} {f:Func} {s:ChangeSpec} {W W':World} {args:Array Value} {ds:List (DataW H)} {before:List MemPlace} (tb:TypeId)
  (hb:Tryz.prog.underlying tb=some .bool) (hr:f.resultTypes= #[tb]) (hp:(f.params.toList.all fun t=>Tryz.prog.readableRec t&&decide (t<Tryz.prog.types.size))=true) (hv:s.vars= [])
  (hW:DataW.Whole enc Tryz.prog f.params.toList s.vars false W args.toList ds [] before) (hres:(s.fn H (ds++ [])).results= [.lit (.bool true)]) (hargs:(s.fn H (ds++ [])).args=ds) (hvars:(s.fn H (ds++ [])).vars= [])
  (hbel:Below W.heap.size W W'):s.post enc Tryz.prog f false true false false W args (.bool true) W':=by
 obtain ⟨p,q,h1,h2,h3,h4,h5⟩:=hW
 have hW':DataW.Whole enc Tryz.prog f.params.toList s.vars false W args.toList ds [] before:=⟨p,q,h1,h2,h3,h4,h5⟩
 have hq:q= []:=by rw[hv] at h2;exact h2
 subst hq
 simp only[List.append_nil] at h3
 subst h3
 refine ⟨ds,[],before,[],before,[],hW',?_,?_,?_,hbel.frame _,fun h=>by cases h⟩
 ·rw[hres,hr]
  exact trodAll_mk1 (shut_bool hb true)
 ·rw[hargs]
  exact sD laidOut hbel (fun t ht=>by have:=List.all_eq_true.1 hp t ht;simpa using this) h1 fun x hx=>by simpa using hW'.lt x hx
 ·rw[hvars,hv];rfl
namespace R
open Go.Shelf
def EE:Go.Shelf.Ren:=⟨fun | 146=>171 | 221=>225 | 268=>265 | 138=>266 | 143=>267 | 195=>302 | 197=>303 | 218=>304 | 219=>305 | 260=>330 | 217=>170 | 225=>331 | 224=>332 | 267=>333 | 266=>224 | 314=>349 | n=>n,fun | 9=>9 | 31=>205 | 3=>3 | 4=>4 | 0=>0 | 105=>309 | 21=>21 | 5=>5 | 46=>295 | 119=>354 | 139=>357 | 138=>356 | 146=>358 | 51=>344 | n=>n,fun | 1=>0 | 3=>4 | 4=>5 | n=>n⟩
theorem Rq:Go.Proofs.LaysM.n146 Tryz.prog EE:= {
 mixed:=by kernel_rfl
 f138:=Tryz.func266.trans (congrArg some (by kernel_rfl))
 f143:=Tryz.func267.trans (congrArg some (by kernel_rfl))
 f146:=Tryz.func171.trans (congrArg some (by kernel_rfl))
 f195:=Tryz.func302.trans (congrArg some (by kernel_rfl))
 f197:=Tryz.func303.trans (congrArg some (by kernel_rfl))
 f217:=Tryz.func170.trans (congrArg some (by kernel_rfl))
 f218:=Tryz.func304.trans (congrArg some (by kernel_rfl))
 f219:=Tryz.func305.trans (congrArg some (by kernel_rfl))
 f221:=Tryz.func225.trans (congrArg some (by kernel_rfl))
 f224:=Tryz.func332.trans (congrArg some (by kernel_rfl))
 f225:=Tryz.func331.trans (congrArg some (by kernel_rfl))
 f260:=Tryz.func330.trans (congrArg some (by kernel_rfl))
 f266:=Tryz.func224.trans (congrArg some (by kernel_rfl))
 f267:=Tryz.func333.trans (congrArg some (by kernel_rfl))
 f268:=Tryz.func265.trans (congrArg some (by kernel_rfl))
 f314:=Tryz.func349.trans (congrArg some (by kernel_rfl))
 t0:=Tryz.underlying0
 a0:=Tryz.isAgg0
 z0:=Tryz.sizeOf0
 v0:=Tryz.zeroValue0
 t3:=Tryz.underlying3
 a3:=Tryz.isAgg3
 z3:=Tryz.sizeOf3
 v3:=Tryz.zeroValue3
 t4:=Tryz.underlying4
 a4:=Tryz.isAgg4
 z4:=Tryz.sizeOf4
 v4:=Tryz.zeroValue4
 t5:=Tryz.underlying5
 a5:=Tryz.isAgg5
 z5:=Tryz.sizeOf5
 v5:=Tryz.zeroValue5
 t9:=Tryz.underlying9
 a9:=Tryz.isAgg9
 z9:=Tryz.sizeOf9
 v9:=Tryz.zeroValue9
 t21:=Tryz.underlying21
 a21:=Tryz.isAgg21
 z21:=Tryz.sizeOf21
 v21:=Tryz.zeroValue21
 t31:=Tryz.underlying205
 a31:=Tryz.isAgg205
 z31:=Tryz.sizeOf205
 v31:=Tryz.zeroValue205
 t46:=Tryz.underlying295
 a46:=Tryz.isAgg295
 z46:=Tryz.sizeOf295
 v46:=Tryz.zeroValue295
 t51:=Tryz.underlying344
 a51:=Tryz.isAgg344
 z51:=Tryz.sizeOf344
 v51:=Tryz.zeroValue344
 t105:=Tryz.underlying309
 a105:=Tryz.isAgg309
 z105:=Tryz.sizeOf309
 v105:=Tryz.zeroValue309
 t119:=Tryz.underlying354
 a119:=Tryz.isAgg354
 z119:=Tryz.sizeOf354
 t138:=Tryz.underlying356
 a138:=Tryz.isAgg356
 z138:=Tryz.sizeOf356
 v138:=Tryz.zeroValue356
 t139:=Tryz.underlying357
 a139:=Tryz.isAgg357
 z139:=Tryz.sizeOf357
 v139:=Tryz.zeroValue357
 t146:=Tryz.underlying358
 a146:=Tryz.isAgg358
 z146:=Tryz.sizeOf358
 v146:=Tryz.zeroValue358
 g1:=by kernel_rfl
 g3:=by kernel_rfl
 g4:=by kernel_rfl
 i0:=by kernel_rfl
 i3:=by kernel_rfl
 i4:=by kernel_rfl
 i5:=by kernel_rfl
 i9:=by kernel_rfl
 i21:=by kernel_rfl
 i31:=by kernel_rfl
 i46:=by kernel_rfl
 i51:=by kernel_rfl
 i105:=by kernel_rfl
 i138:=by kernel_rfl
 i139:=by kernel_rfl
 i146:=by kernel_rfl
 m1:=by kernel_rfl
 s1_3:=fun w h=>Go.Proofs.cell_of_shapedOpen_int (zero:= #[.int .i64 0]) (t:=3) h (of_decide_eq_true (by kernel_rfl)) (by kernel_rfl) rfl (by kernel_rfl) (by kernel_rfl) Tryz.underlying3
 m3:=by kernel_rfl
 m4:=by kernel_rfl }
end R
open Go.ChangeShapes Go.WideShapes Go.ChangeAt Go.RowKit
namespace D
theorem op3:Opens Tryz.prog 3 aN:=JZ Tryz.underlying3
theorem U2:Opens Tryz.prog 91 (aa 3 aN):=eZ Tryz.underlying91 (by kernel_rfl) (by decide) op3
theorem Uq:Opens Tryz.prog 172 (aw aN (aw aN (aw aN aN))):=by
 refine cV Tryz.underlying172 (by kernel_rfl) ?_
 refine bK (R:=aN) (S:=aw (aN) (aw (aN) (aN))) rfl (by kernel_rfl) op3 ?_
 refine bK (R:=aN) (S:=aw (aN) (aN)) rfl (by kernel_rfl) op3 ?_
 refine bK (R:=aN) (S:=aN) rfl (by kernel_rfl) op3 ?_
 exact fj rfl (by kernel_rfl) op3
theorem Ur:Opens Tryz.prog 177 (aa 172 (aw aN (aw aN (aw aN aN)))):=eZ Tryz.underlying177 (by kernel_rfl) (by decide) Uq
theorem Us:Opens Tryz.prog 179 (aw (aa 3 aN) (aa 172 (aw aN (aw aN (aw aN aN))))):=by
 refine cV Tryz.underlying179 (by kernel_rfl) ?_
 refine bK (R:=aa 3 aN) (S:=aa 172 (aw aN (aw aN (aw aN aN)))) rfl (by kernel_rfl) U2 ?_
 exact fj rfl (by kernel_rfl) Ur
theorem Vl:Opens Tryz.prog 22 (aa 179 (aw (aa 3 aN) (aa 172 (aw aN (aw aN (aw aN aN)))))):=eZ Tryz.underlying22 (by kernel_rfl) (by decide) Us
theorem Vm:Opens Tryz.prog 24 (aw aN (aa 179 (aw (aa 3 aN) (aa 172 (aw aN (aw aN (aw aN aN))))))):=by
 refine cV Tryz.underlying24 (by kernel_rfl) ?_
 refine bK (R:=aN) (S:=aa 179 (aw (aa 3 aN) (aa 172 (aw aN (aw aN (aw aN aN)))))) rfl (by kernel_rfl) op3 ?_
 exact fj rfl (by kernel_rfl) Vl
theorem op4:Opens Tryz.prog 4 lz:=Hi Tryz.underlying4
theorem Ut:Opens Tryz.prog 181 (aa 4 lz):=eZ Tryz.underlying181 (by kernel_rfl) (by decide) op4
theorem Uu:Opens Tryz.prog 182 (aa 91 (aa 3 aN)):=eZ Tryz.underlying182 (by kernel_rfl) (by decide) U2
theorem Uv:Opens Tryz.prog 184 (aw aN (aw (aa 4 lz) (aa 91 (aa 3 aN)))):=by
 refine cV Tryz.underlying184 (by kernel_rfl) ?_
 refine bK (R:=aN) (S:=aw (aa 4 lz) (aa 91 (aa 3 aN))) rfl (by kernel_rfl) op3 ?_
 refine bK (R:=aa 4 lz) (S:=aa 91 (aa 3 aN)) rfl (by kernel_rfl) Ut ?_
 exact fj rfl (by kernel_rfl) Uu
theorem Vn:Opens Tryz.prog 25 (aa 184 (aw aN (aw (aa 4 lz) (aa 91 (aa 3 aN))))):=eZ Tryz.underlying25 (by kernel_rfl) (by decide) Uv
theorem Uw:Opens Tryz.prog 163 (aw aN (aw aN (aw aN aN))):=by
 refine cV Tryz.underlying163 (by kernel_rfl) ?_
 refine bK (R:=aN) (S:=aw (aN) (aw (aN) (aN))) rfl (by kernel_rfl) op3 ?_
 refine bK (R:=aN) (S:=aw (aN) (aN)) rfl (by kernel_rfl) op3 ?_
 refine bK (R:=aN) (S:=aN) rfl (by kernel_rfl) op3 ?_
 exact fj rfl (by kernel_rfl) op3
theorem Vo:Opens Tryz.prog 54 (aa 163 (aw aN (aw aN (aw aN aN)))):=eZ Tryz.underlying54 (by kernel_rfl) (by decide) Uw
theorem Vp:Opens Tryz.prog 56 (aa 163 (aw aN (aw aN (aw aN aN)))):=by
 refine cV Tryz.underlying56 (by kernel_rfl) ?_
 exact fj rfl (by kernel_rfl) Vo
theorem Ux:Opens Tryz.prog 187 (aw aN (aw (aa 163 (aw aN (aw aN (aw aN aN)))) aN)):=by
 refine cV Tryz.underlying187 (by kernel_rfl) ?_
 refine bK (R:=aN) (S:=aw (aa 163 (aw aN (aw aN (aw aN aN)))) (aN)) rfl (by kernel_rfl) op3 ?_
 refine bK (R:=aa 163 (aw aN (aw aN (aw aN aN)))) (S:=aN) rfl (by kernel_rfl) Vp ?_
 exact fj rfl (by kernel_rfl) op3
theorem Vq:Opens Tryz.prog 26 (aa 187 (aw aN (aw (aa 163 (aw aN (aw aN (aw aN aN)))) aN))):=eZ Tryz.underlying26 (by kernel_rfl) (by decide) Ux
theorem Vr:Opens Tryz.prog 28 (aw (aa 184 (aw aN (aw (aa 4 lz) (aa 91 (aa 3 aN))))) (aa 187 (aw aN (aw (aa 163 (aw aN (aw aN (aw aN aN)))) aN)))):=by
 refine cV Tryz.underlying28 (by kernel_rfl) ?_
 refine bK (R:=aa 184 (aw aN (aw (aa 4 lz) (aa 91 (aa 3 aN))))) (S:=aa 187 (aw aN (aw (aa 163 (aw aN (aw aN (aw aN aN)))) aN))) rfl (by kernel_rfl) Vn ?_
 exact fj rfl (by kernel_rfl) Vq
theorem Uy:Opens Tryz.prog 133 (aw aN (aw aN aN)):=by
 refine cV Tryz.underlying133 (by kernel_rfl) ?_
 refine bK (R:=aN) (S:=aw (aN) (aN)) rfl (by kernel_rfl) op3 ?_
 refine bK (R:=aN) (S:=aN) rfl (by kernel_rfl) op3 ?_
 exact fj rfl (by kernel_rfl) op3
theorem Vs:Opens Tryz.prog 29 (aa 133 (aw aN (aw aN aN))):=eZ Tryz.underlying29 (by kernel_rfl) (by decide) Uy
theorem op9:Opens Tryz.prog 9 zE:=CK Tryz.underlying9
theorem Vt:Opens Tryz.prog 31 (aw (aw aN (aa 179 (aw (aa 3 aN) (aa 172 (aw aN (aw aN (aw aN aN))))))) (aw (aw (aa 184 (aw aN (aw (aa 4 lz) (aa 91 (aa 3 aN))))) (aa 187 (aw aN (aw (aa 163 (aw aN (aw aN (aw aN aN)))) aN)))) (aw (aa 133 (aw aN (aw aN aN))) zE))):=by
 refine cV Tryz.underlying31 (by kernel_rfl) ?_
 refine bK (R:=aw aN (aa 179 (aw (aa 3 aN) (aa 172 (aw aN (aw aN (aw aN aN))))))) (S:=aw (aw (aa 184 (aw aN (aw (aa 4 lz) (aa 91 (aa 3 aN))))) (aa 187 (aw aN (aw (aa 163 (aw aN (aw aN (aw aN aN)))) aN)))) (aw (aa 133 (aw aN (aw aN aN))) (zE))) rfl (by kernel_rfl) Vm ?_
 refine bK (R:=aw (aa 184 (aw aN (aw (aa 4 lz) (aa 91 (aa 3 aN))))) (aa 187 (aw aN (aw (aa 163 (aw aN (aw aN (aw aN aN)))) aN)))) (S:=aw (aa 133 (aw aN (aw aN aN))) (zE)) rfl (by kernel_rfl) Vr ?_
 refine bK (R:=aa 133 (aw aN (aw aN aN))) (S:=zE) rfl (by kernel_rfl) Vs ?_
 exact fj rfl (by kernel_rfl) op9
theorem Uz {W:World} {base:Nat} {z:Value} {H:Type} {enc:TypeId×Value->H} {d:DataW H} {p:List MemPlace} (hv:Value.okWide Tryz.prog W .any base 31 z) (h:DataW.Trod enc Tryz.prog W 0 (fun _=>true) true 31 z d p) :
  ∃(x:(Int×(List ((List Int)×(List (Int×Int×Int×Int)))))×((List (Int×(List Bool)×(List (List Int))))×(List (Int×((List (Int×Int×Int×Int)))×Int)))×(List (Int×Int×Int))×ByteArray) (v0:Value) (v1:Value) (v2:Value) (v3:Value),z= .agg #[.int .i64 x.1.1,v0,v1,v2,v3,.string x.2.2.2] /\Data.lim x/\(aa 179 (aw (aa 3 aN) (aa 172 (aw aN (aw aN (aw aN aN)))))).rd (hp W) [v0] x.1.2/\(aa 184 (aw aN (aw (aa 4 lz) (aa 91 (aa 3 aN))))).rd (hp W) [v1] x.2.1.1/\(aa 187 (aw aN (aw (aa 163 (aw aN (aw aN (aw aN aN)))) aN))).rd (hp W) [v2] x.2.1.2/\(aa 133 (aw aN (aw aN aN))).rd (hp W) [v3] x.2.2.1:=by
 obtain ⟨fuel,hf⟩:=h
 obtain ⟨⟨cs⟩,rfl,-⟩:=okWide_struct Tryz.underlying31 hv
 obtain ⟨x,hx,hl⟩:=Vt.out enc W _ _ _ hf
 have hx:(aw (aw aN (aa 179 (aw (aa 3 aN) (aa 172 (aw aN (aw aN (aw aN aN))))))) (aw (aw (aa 184 (aw aN (aw (aa 4 lz) (aa 91 (aa 3 aN))))) (aa 187 (aw aN (aw (aa 163 (aw aN (aw aN (aw aN aN)))) aN)))) (aw (aa 133 (aw aN (aw aN aN))) zE))).rd (hp W) cs x:=hx
 obtain ⟨_,_,rfl,⟨_,_,rfl,rfl,r0⟩,⟨_,_,rfl,⟨_,_,rfl,r1,r2⟩,⟨_,_,rfl,r3,rfl⟩⟩⟩:=hx
 obtain ⟨v0,rfl⟩:=ve r0 rfl
 obtain ⟨v1,rfl⟩:=ve r1 rfl
 obtain ⟨v2,rfl⟩:=ve r2 rfl
 obtain ⟨v3,rfl⟩:=ve r3 rfl
 exact ⟨x,v0,v1,v2,v3,rfl,hl,r0,r1,r2,r3⟩
theorem Vu {W:World} {base:Nat} {z:Value} {H:Type} {enc:TypeId×Value->H} {d:DataW H} {p:List MemPlace} (hv:Value.okWide Tryz.prog W .any base 3 z) (h:DataW.Trod enc Tryz.prog W 0 (fun _=>true) true 3 z d p) :
  ∃(x:Int),z= .int .i64 x/\Data.lim x:=by
 obtain ⟨fuel,hf⟩:=h
 obtain ⟨n,rfl⟩:=okWide_int Tryz.underlying3 hv
 obtain ⟨x,hx,hl⟩:=op3.out enc W _ _ _ hf
 exact ⟨x,(List.cons.inj (show [_] = [_] from hx)).1,hl⟩
end D
open D (Data)
theorem tN {H:Type} {enc:TypeId×Value->H} {a:Assume} {C:Checked} {os:Os} {f:FuncId} {fn:Func} {s:ChangeSpec} {conds:List PathCond} {apart fresh handsOn again:Bool} {X:World->Array Value->Prop}
  (hX: ∀(w w':World) (args:Array Value),w.heap=w'.heap->X w args->X w' args)
  (own:ownKnob C.prog.godebug=none) (started:os.Started) (noInit:C.prog.inits.idxOf? f=none) (hfn:C.prog.funcs[f]? =some fn)
  (witness: ∃(w:World) (tape:Tape) (i:Input),w.os=os/\(w.forCall tape i).Shaped C.prog/\i.vars= [] /\Input.okWide C.prog (w.forCall tape i) .any w.heap.size f i /\
   ((s.pre enc C.prog fn conds apart (w.forCall tape i).memory i.args/\X (w.forCall tape i).memory i.args)/\sizedMet enc C.prog fn (OpenSpec.ofChange s) apart (w.forCall tape i).memory i.args)/\a.holds C.prog (lone (Frame.enter C.prog f i.args .normal) [] (w.forCall tape i)))
  (contract: ∀(W:World) (base:Nat) (args:Array Value) (ds gs:List (DataW H)) (before:List MemPlace),
   (∀(j:Nat) t v,fn.params[j]? =some t->args[j]? =some v->Value.okWide C.prog W .any base t v)->
   DataW.Whole enc C.prog fn.params.toList s.vars apart W args.toList ds gs before->X W args->W.ShapedOpen C.prog->
   Calls C.prog f args W fun e W'=> ∃v,e= .returned v/\s.post enc C.prog fn apart fresh handsOn again W args v W') :
  ReturnsInHanded a C os f .any (fun w args=>(s.pre enc C.prog fn conds apart w args/\X w args)/\sizedMet enc C.prog fn (OpenSpec.ofChange s) apart w args) (s.post enc C.prog fn apart fresh handsOn again):=by
 refine returnsInHanded_of_calls own started noInit witness ?_
 intro w tape i _ hsh _ hok hpre _
 obtain ⟨_,_,_,fn',hfn',_,_,_,_,hval⟩:=hok
 have e:fn'=fn:=aliasOf1 (hfn'.symm.trans hfn)
 subst e
 obtain ⟨⟨⟨ds,gs,before,hw,hc⟩,hx⟩,_⟩:=hpre
 have hw':=DataW.Whole.of_heap (w':=w.forCall tape i) (by rfl) hw
 refine (contract (w.forCall tape i) w.heap.size i.args ds gs before hval hw' (hX (w.forCall tape i).memory (w.forCall tape i) _ rfl hx) hsh).mono fun e W' ⟨v,he,hp⟩=>?_
 subst he
 exact ChangeSpec.post_blind hp
theorem Pf (u:TypeId) (h:Tryz.prog.typeName? 3 u=some "*errors.errorString"):u=362:=
 typeName_ptr_named (nm:= "errors.errorString") (by kernel_rfl) (by kernel_rfl) (by decide) u h
theorem yB {W:World} (h:laidMetH Tryz.prog Rows.fnExactLostRecordsRow.laid W) (hsh:W.ShapedOpen Tryz.prog):D.LayW Tryz.prog W:=by
 rw[MakeChecks.laidMetH_plain _ _ _ (by kernel_rfl)] at h
 obtain ⟨a5,s5,hv5,-⟩:=laid_sentinel (g:=2) (ti:=243) (tp:=362) (te:=364) (ts:=9) (h.tail.tail.tail.tail) (by kernel_rfl) (by kernel_rfl) Tryz.underlying243 Pf Tryz.underlying362 Tryz.underlying364 rfl rfl Tryz.underlying9 (by kernel_rfl) (by kernel_rfl)
 obtain ⟨a6,s6,hv6,-⟩:=laid_sentinel (g:=1) (ti:=243) (tp:=362) (te:=364) (ts:=9) (h.tail.tail.tail.tail.tail) (by kernel_rfl) (by kernel_rfl) Tryz.underlying243 Pf Tryz.underlying362 Tryz.underlying364 rfl rfl Tryz.underlying9 (by kernel_rfl) (by kernel_rfl)
 have ht:Lib.TabIs Tryz.prog W "internal/strconv.uint64pow10" .u64 Lib.pow10Tab:=Lib.tabIs_of_head (g:=3) (by kernel_rfl) (by kernel_rfl) Tryz.underlying343 Tryz.underlying321 (by kernel_rfl) (by kernel_rfl) (h.tail.tail)
 exact ⟨⟨0,(R.Rq.s1_3 W hsh).imp fun m hm=>⟨by kernel_rfl,hm⟩⟩,ht,⟨_,_,hv6⟩,⟨_,_,hv5⟩⟩
theorem xL (W:World) (hL:laidMetH Tryz.prog Rows.fnExactLostRecordsRow.laid W) (hsh:W.ShapedOpen Tryz.prog) (args:Array Value) (H:Type) (enc:TypeId×Value->H) (base:Nat) (ds gs:List (DataW H)) (before:List MemPlace)
  (hval: ∀(j:Nat) t v,Tryz.f4.params[j]? =some t->args[j]? =some v->Value.okWide Tryz.prog W .any base t v)
  (hW:DataW.Whole enc Tryz.prog Tryz.f4.params.toList Rows.fnExactLostRecordsSpec.vars false W args.toList ds gs before) :
  Calls Tryz.prog 4 args W fun e W'=> ∃v,e= .returned v/\Rows.fnExactLostRecordsSpec.post enc Tryz.prog Tryz.f4 false true false false W args v W':=by
 have hW':=hW
 obtain ⟨p,q,hA,hV,rfl,hfz,hnd⟩:=hW
 rw[Tryz.params4] at hA hval
 obtain ⟨z0,vs0,d0,ds0,p0,q0,hargs,rfl,rfl,h0,r0⟩:=trodAll_cons hA
 obtain ⟨z1,vs1,d1,ds1,p1,q1,rfl,rfl,rfl,h1,r1⟩:=trodAll_cons r0
 obtain ⟨rfl,rfl,rfl⟩:=trodAll_nil r1
 obtain rfl:args= #[z0,z1]:=by cases args;simp_all
 obtain ⟨rfl,rfl⟩:=trodVars_none hV
 obtain ⟨x0,v0_0,v0_1,v0_2,v0_3,rfl,l0,r0_0,r0_1,r0_2,r0_3⟩:=D.Uz (hval 0 _ _ rfl rfl) h0
 obtain ⟨x1,rfl,l1⟩:=D.Vu (hval 1 _ _ rfl rfl) h1
 have hc:=D.oB x0 x1 true (D.yA x0 x1 l0 l1) (I:=D.hp W) (w0:=W) v0_0 v0_1 v0_2 v0_3 r0_0 r0_1 r0_2 r0_3 (D.Lay.of (yB hL hsh)) W [] (D.St.init W)
 refine hc.mono fun e W' ⟨v,he,hv,hs⟩=>?_
 subst he;subst hv
 exact ⟨_,rfl,N4 (f:=Tryz.f4) (s:=Rows.fnExactLostRecordsSpec) 4 Tryz.underlying4 rfl (by kernel_rfl) rfl hW' rfl rfl rfl (D.St.below hs)⟩
set_option maxRecDepth 100000 in
theorem sE (os:Os) (started:os.Started) (H:Type) (enc:TypeId×Value->H) :
  ReturnsInHanded {} Tryz.checked os 4 .any (fun w args=>(Rows.fnExactLostRecordsSpec.pre enc Tryz.prog Tryz.f4 [] false w args/\laidMetH Tryz.prog Rows.fnExactLostRecordsRow.laid w)/\sizedMet enc Tryz.prog Tryz.f4 (OpenSpec.ofChange Rows.fnExactLostRecordsSpec) false w args) (Rows.fnExactLostRecordsSpec.post enc Tryz.prog Tryz.f4 false true false false):=by
 refine tN (C:=Tryz.checked) (X:=fun w _=>laidMetH Tryz.prog Rows.fnExactLostRecordsRow.laid w) (fun _ _ _ hh h=>h.of_heap hh) own started (by kernel_rfl) Tryz.func4
  (ChangeSpec.witness_shaped (enc:=enc) (C:=Tryz.checked) (os:=os) (X:=fun w _=>laidMetH Tryz.prog Rows.fnExactLostRecordsRow.laid w) false (World.laidAll Tryz.prog os Rows.fnExactLostRecordsRow.laid) #[.agg #[.int .i64 0,.slice none 0 0,.slice none 0 0,.slice none 0 0,.slice none 0 0,.string ⟨#[]⟩],.int .i64 0] 8 (World.laidAll_os _ _ _) (World.shaped_of_ZipB (by kernel_rfl) (by kernel_rfl)) (by kernel_rfl) (by kernel_rfl) (by kernel_rfl) (by rw[MakeChecks.laidMetH_plain _ _ _ (by kernel_rfl)];exact laidMet_laidAll _ (by kernel_rfl) (by kernel_rfl))) ?_
 intro W base args ds gs before hval hW hL hsh
 exact xL W hL hsh args H enc base ds gs before hval hW
theorem tO:Rows.FnExactLostRecordsSaid:=
 OpenClaim.holds_of_wide 4 Tryz.f4 rfl rfl rfl rfl rfl rfl rfl ⟨rfl,rfl,rfl,rfl,rfl⟩ rfl rfl rfl rfl rfl (by kernel_rfl) Tryz.func4 rp
  (of_decide_eq_true (by kernel_rfl)) (by unfold Func.isWrapper;first | (rw[if_pos (by decide +kernel)];kernel_rfl) | (rw[if_neg (by decide +kernel)];exact ⟨rfl,rfl⟩))
  (fun os started H enc _=>sE os started H enc)
theorem cardLLostRecords:Rows.FnExactLostRecordsCardSaid:=
 Claim7.holds_tied_plain_at .later [] [.data,.data,.data,.data,.sentinel,.sentinel,.pinned] true (true,"cff0790423b5df951cc606f0fc8fb4ad82e67faf05c9a9573691dcb8680664a3") true
  tO (fun _ h=>by cases h) (by kernel_rfl) (fun _ h=>by cases h) fnExactLostRecords_row_tie rfl ⟨rfl,rfl⟩ xQ rfl
  (fun f fn hf hfn=>by
   obtain rfl:f=4:=aliasOf1 (xN.symm.trans hf) |>.symm
   obtain rfl:fn=Tryz.f4:=(aliasOf1 (Tryz.func4.symm.trans hfn)).symm
   exact ⟨xO,fun j t ht=>by
    rw[Tryz.params4] at ht
    have hm:t ∈ [31,3]:=by simpa using Array.mem_of_getElem? ht
    have hall:([31,3].all fun u=> !Tryz.prog.wantsStandIn u)=true:=by kernel_rfl
    exact (show Tryz.prog.wantsStandIn t=false by simpa using List.all_eq_true.1 hall t hm)⟩)
  xP
end Go.Proofs.YtilionjghdjbdaaGreatDoor
