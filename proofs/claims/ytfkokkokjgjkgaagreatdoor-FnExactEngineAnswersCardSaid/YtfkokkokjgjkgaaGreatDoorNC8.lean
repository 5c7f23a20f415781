/- FnExactEngineAnswers: for every input the law returns true and changes nothing that was there. Part 9 of 9. -/
import Derived.Test.YtfkokkokjgjkgaaGreatDoorNC7
import Derived.Test.YtfkokkokjgjkgaaGreatDoorNKEngineAnswers
set_option synthInstance.maxSize 20000
set_option synthInstance.maxHeartbeats 2000000
set_option linter.unusedVariables false
set_option linter.unusedSimpArgs false
set_option linter.unnecessarySimpa false
set_option linter.unusedSectionVars false
set_option maxRecDepth 1000000
namespace Go.Proofs.YtfkokkokjgjkgaaGreatDoor
open Go.IntKind (i64)
namespace D
open Go.RowKit
def Ny (a:AutT) (s v:Int):Bool:=decide (∃q∈e7 (cS a s v) 30,nth a.2.1 q=true)
section
variable {a:AutT} {n:Nat} (V:VA a n) (hn:n<=12)
include V hn
theorem Ka {s v:Int} (hs:0<=s/\s<n) (hv:0<=v/\v<=2):kT a (xf 1 s) v=some (Ny a s v):=by
 obtain ⟨t,rfl⟩: ∃t:Nat,s=(t:Int):=⟨s.toNat,by omega⟩
 obtain ⟨e1,h1⟩:=H1 V hn hs hv
 have hC:cS a (t:Int) v<2 ^ 30:=ay h1 (Nat.pow_le_pow_right (by decide) (by omega))
 unfold kT
 rw[ye (by omega),tj (Nat.pow_lt_pow_right (by decide) (by omega)),HY (by omega)];simp only[aa]
 have hlen:=mR (cS a (t:Int) v) 30
 have h0:eK a v [(t:Int)] 0=some (if Ny a (t:Int) v=true then .ret true else .nxt 1):=by
  unfold eK
  rw[if_pos (by simp),show aG [(t:Int)] 0=some (t:Int) from rfl];simp only[aa]
  have e1:j5 (a.1,a.2.1,a.2.2) (t:Int) v=_:=e1
  rw[e1];simp only[aa]
  rw[tj hC];simp only[aa]
  rcases scan (f:=jL a (e7 (cS a (t:Int) v) 30)) (e7 (cS a (t:Int) v) 30) (fun q=> ¬nth a.2.1 q=true) true (by omega) (fun i hi=>by
   have hq:=w4 V hn h1 _ (bq (xs:=e7 (cS a (t:Int) v) 30) (i:=(i:Int)) (by omega) (by omega))
   unfold jL
   rw[if_pos (by simp;omega),aq (by omega) (by omega)];simp only[aa]
   rw[V.acc hq.1 hq.2,ae (by omega)];simp only[aa]
   cases nth a.2.1 (nth (e7 (cS a (t:Int) v) 30) (i:Int)) <;> rfl) (by unfold jL;simp) with ⟨e,h⟩ | ⟨e,h⟩
  ·rw[ah e,if_neg (by unfold Ny;rw[decide_eq_true_eq];rintro ⟨q,hq,hqa⟩;exact h q hq hqa)];rfl
  ·rw[bp e,if_pos (by
    unfold Ny;rw[decide_eq_true_eq]
    by_cases c: ∃q∈e7 (cS a (t:Int) v) 30,nth a.2.1 q=true
    ·exact c
    ·exact absurd (fun q hq hqa=>c ⟨q,hq,hqa⟩) h)]
 have h1':eK a v [(t:Int)] 1=some (.brk 1):=by
  unfold eK;rw[if_neg (by simp)]
 rcases Nf (f:=eK a v [(t:Int)]) 1 (fun _=> ¬Ny a (t:Int) v=true) true (by decide) (fun i hi=>by
  obtain rfl:i=0:=by omega
  rw[show ((0:Nat):Int)=0 from rfl,h0]
  cases Ny a (t:Int) v <;> rfl) h1' with ⟨e,h⟩ | ⟨e,h⟩
 ·rw[ah e]
  have:=h 0 (by decide)
  rw[Bool.not_eq_true] at this
  rw[this]
 ·rw[bp e]
  have:Ny a (t:Int) v=true:=by
   cases hb:Ny a (t:Int) v with
   | true=>rfl
   | false=>exact absurd (fun _ _=>by rw[hb];decide) h
  rw[this]
theorem Ig {C:Nat} (hC:C<2 ^ n):aJ (ak (fI a (C:Int)) aP 0) (fun r=>some r) (fun _=>some false)=some (decide (∃q∈e7 C 30,nth a.2.1 q=true)):=by
 have hC':C<2 ^ 62:=ay hC (p62 (by omega))
 rcases Nf (f:=fI a (C:Int)) n (fun i=> ¬(C.testBit i=true/\nth a.2.1 (i:Int)=true)) true (by omega) (fun i hi=>by
  unfold fI
  rw[V.len,if_pos (by simp;omega),kp (by omega),BX hC' (by omega),V.acc (by omega) (by omega),ae (by omega)];simp only[aa]
  cases C.testBit i <;> cases nth a.2.1 (i:Int) <;> rfl) (by unfold fI;rw[V.len];simp) with ⟨e,h⟩ | ⟨e,h⟩
 ·rw[ah e,decide_eq_false]
  rintro ⟨q,hq,hqa⟩
  have hr:=w4 V hn hC q hq
  obtain ⟨i,hi,hb,rfl⟩:=th.1 hq
  exact h i (by omega) ⟨hb,hqa⟩
 ·rw[bp e,decide_eq_true]
  by_cases c: ∃q∈e7 C 30,nth a.2.1 q=true
  ·exact c
  ·exact absurd (fun (i:Nat) (hi:i<n) (hh:C.testBit i=true/\nth a.2.1 (i:Int)=true)=>c ⟨(i:Int),th.2 ⟨i,by omega,hh.1,rfl⟩,hh.2⟩) h
end
section
variable {g:GrT} {a:AutT} (H:GOOD g a)
include H
theorem Rw {x s:Nat} (hx:x<g.1.length) (hs:s<a.2.1.length):jv g a (x:Int) (s:Int)=some (Ny a (s:Int) (nth g.1 (x:Int))):=by
 have hv:=H.1.val _ (bq (xs:=g.1) (i:=(x:Int)) (by omega) (by omega))
 have ec:=BY H.2.2 H.2.1 (s:=(s:Int)) ⟨by omega,by omega⟩ hv
 have hC:=Uj H.2.2 H.2.1 (s:=(s:Int)) ⟨by omega,by omega⟩ hv
 unfold jv
 rw[aq (by omega) (by omega)];simp only[aa]
 have ec:cr (a.1,a.2.1,a.2.2) (s:Int) (nth g.1 (x:Int))=_:=ec
 rw[ec];simp only[aa]
 have:=Ig H.2.2 H.2.1 hC
 exact this
end
def aa9 (g:GrT) (a:AutT) (R:List Int) (i:Nat):Bool:=decide (0<=nth R (i:Int))&&Ny a ((i % a.2.1.length:Nat):Int) (nth g.1 ((i / a.2.1.length:Nat):Int))
def Nw (g:GrT) (a:AutT) (R:List Int):Nat->List Int
 | 0=>[]
 | i+1=>if aa9 g a R i=true then Nw g a R i++ [((i / a.2.1.length:Nat):Int)] else Nw g a R i
def Nz (g:GrT) (a:AutT) (R:List Int):Nat->Nat
 | 0=>0
 | i+1=>if aa9 g a R i=true then Nz g a R i ||| 2 ^ (i / a.2.1.length) else Nz g a R i
theorem FX (g:GrT) (a:AutT) (R:List Int): ∀i,(Nw g a R i).length<=i
 | 0=>by simp[Nw]
 | i+1=>by
  have:=FX g a R i
  rw[Nw];split
  ·rw[aC];simp;omega
  ·omega
theorem Rx {x:Nat} {n:Nat} (hx:x<=1000000):CZ (x:Int) (n:Int)=((x / n:Nat):Int)/\Int.tmod (x:Int) (n:Int)=((x % n:Nat):Int):=by
 refine ⟨?_,?_⟩
 ·unfold CZ
  rw[Int.tdiv_eq_ediv_of_nonneg (Int.natCast_nonneg _),<-Int.natCast_ediv,wS (by have:=Nat.div_le_self x n;omega)]
 ·rw[Int.tmod_eq_emod_of_nonneg (Int.natCast_nonneg _),Int.natCast_emod]
section
variable {g:GrT} {a:AutT} (H:GOOD g a) {R:List Int} (hR:R.length=a.2.1.length*g.1.length)
include H
theorem LO {i:Nat} (hi:i<a.2.1.length*g.1.length):i / a.2.1.length<g.1.length/\i % a.2.1.length<a.2.1.length/\0<a.2.1.length/\g.1.length<=5:=by
 obtain ⟨k1,k2⟩:=H.divmod (x:=(i:Int)) (by omega) (by omega)
 exact ⟨k1,k2,H.2.2.pos,H.1.n5⟩
theorem Kb: ∀i,i<=a.2.1.length*g.1.length->Nz g a R i<2 ^ 5
 | 0,_=>by simp[Nz]
 | i+1,hi=>by
  have h:=Kb i (by omega)
  obtain ⟨k1,k2,k3,k4⟩:=LO H (i:=i) (by omega)
  rw[Nz];split
  ·exact wZ h (by omega)
  ·exact h
theorem Ry: ∀i,i<=a.2.1.length*g.1.length-> ∀j:Nat,((Nz g a R i).testBit j=true↔(j:Int)∈Nw g a R i)
 | 0,_,j=>by simp[Nz,Nw]
 | i+1,hi,j=>by
  have h:=Ry i (by omega) j
  rw[Nz,Nw];split
  ·rw[uO,Bool.or_eq_true,h,List.mem_append,List.mem_singleton,decide_eq_true_eq]
   constructor
   ·rintro (h | h)
    ·exact .inl h
    ·exact .inr (by rw[h])
   ·rintro (h | h)
    ·exact .inl h
    ·exact .inr (Int.ofNat_inj.1 h).symm
  ·exact h
theorem Kc: ∀i,i<=a.2.1.length*g.1.length-> ∀x∈Nw g a R i,∃j:Nat,j<30/\x=(j:Int)
 | 0,_,x,hx=>by cases hx
 | i+1,hi,x,hx=>by
  obtain ⟨k1,k2,k3,k4⟩:=LO H (i:=i) (by omega)
  rw[Nw] at hx;split at hx
  ·rcases aH hx with hx | hx
   ·exact Kc i (by omega) x hx
   ·exact ⟨_,by omega,au hx⟩
  ·exact Kc i (by omega) x hx
include hR
theorem aaC:ak (jw g a R) aP (0,0)=some (.brk ((Nz g a R (a.2.1.length*g.1.length):Int),((a.2.1.length*g.1.length:Nat):Int))):=by
 have hN:=nN H.1 H.2.2 H.2.1
 have:=aO (f:=jw g a R) (fun i=>((Nz g a R i:Int),(i:Int))) (a.2.1.length*g.1.length) (fun i hi=>by
  obtain ⟨k1,k2,k3,k4⟩:=LO H hi
  obtain ⟨q1,q2⟩:=Rx (x:=i) (n:=a.2.1.length) (by omega)
  have hs:=Kb H (R:=R) i (by omega)
  unfold jw
  simp only
  rw[if_pos (by simp only[decide_eq_true_eq];omega),aq (by omega) (by omega),kp (by omega),q1,q2,ae (by omega)];simp only[aa]
  have ea:jv (g.1,g.2) (a.1,a.2.1,a.2.2) ((i / a.2.1.length:Nat):Int) ((i % a.2.1.length:Nat):Int)=_:=Rw H k1 k2
  rw[ea,Nz];simp only[aa]
  unfold aa9
  by_cases c:0<=nth R (i:Int)
  ·rw[if_pos (by simpa using c),decide_eq_true c,Bool.true_and]
   cases Ny a ((i % a.2.1.length:Nat):Int) (nth g.1 ((i / a.2.1.length:Nat):Int)) with
   | false=>rfl
   | true =>
    simp only[if_true]
    rw[kp (Int.natCast_nonneg _),ye (by omega),Ly (ay hs (Nat.pow_le_pow_right (by decide) (by decide))) (Nat.pow_lt_pow_right (by decide) (by omega))];rfl
  ·rw[if_neg (by simpa using c),decide_eq_false c,Bool.false_and];rfl) (by unfold jw;simp only;rw[if_neg (by simp;omega)]) (mV (by omega))
 exact this
theorem aaD:ak (eV g a R) aP (([] :List Int),0)=some (.brk (Nw g a R (a.2.1.length*g.1.length),((a.2.1.length*g.1.length:Nat):Int))):=by
 have hN:=nN H.1 H.2.2 H.2.1
 have:=aO (f:=eV g a R) (fun i=>(Nw g a R i,(i:Int))) (a.2.1.length*g.1.length) (fun i hi=>by
  obtain ⟨k1,k2,k3,k4⟩:=LO H hi
  obtain ⟨q1,q2⟩:=Rx (x:=i) (n:=a.2.1.length) (by omega)
  have hl:=FX g a R i
  have hv:=H.1.val _ (bq (xs:=g.1) (i:=((i / a.2.1.length:Nat):Int)) (Int.natCast_nonneg _) (Int.ofNat_lt.2 k1))
  unfold eV
  simp only
  rw[if_pos (by simp only[decide_eq_true_eq];omega),aq (by omega) (by omega),kp (by omega),q1,q2,ae (by omega),kp (Int.natCast_nonneg _)];simp only[aa]
  have ea:kT (a.1,a.2.1,a.2.2) (xf 1 ((i % a.2.1.length:Nat):Int)) (nth g.1 ((i / a.2.1.length:Nat):Int))=_:=Ka H.2.2 H.2.1 ⟨Int.natCast_nonneg _,Int.ofNat_lt.2 k2⟩ hv
  rw[aq (xs:=g.1) (i:=((i / a.2.1.length:Nat):Int)) (Int.natCast_nonneg _) (Int.ofNat_lt.2 k1)];simp only[aa]
  rw[ea,Nw];simp only[aa]
  unfold aa9
  by_cases c:0<=nth R (i:Int)
  ·rw[if_pos (by simpa using c),decide_eq_true c,Bool.true_and]
   cases Ny a ((i % a.2.1.length:Nat):Int) (nth g.1 ((i / a.2.1.length:Nat):Int)) with
   | false=>rfl
   | true =>
    simp only[if_true]
    rw[aL (by simp;omega)];rfl
  ·rw[if_neg (by simpa using c),decide_eq_false c,Bool.false_and];rfl) (by unfold eV;simp only;rw[if_neg (by simp;omega)]) (mV (by omega))
 exact this
end
def YI (g:GrT) (a:AutT) (x:Int):List Int:=e7 (Nz g a (RKs g a (x*(a.2.1.length:Int)+a.1)) (a.2.1.length*g.1.length)) 30
theorem FY (g:GrT) (a:AutT) (x:Int):(YI g a x).length<=30:=mR _ _
section
variable {g:GrT} {a:AutT} (H:GOOD g a) {x:Int} (hx:0<=x/\x<g.1.length)
include H hx
theorem UR:oc g a x=some (YI g a x):=by
 unfold oc
 have e:mD (g.1,g.2) (a.1,a.2.1,a.2.2) x=_:=Yo H hx
 have hR:=QY H hx
 rw[e];simp only[aa]
 rw[ah (aaC H hR),ab9 (ay (Kb H _ (aF _)) (Nat.pow_le_pow_right (by decide) (by decide)))];rfl
theorem aaE (e:cn g a [x] =some true):iJ g a x=some (YI g a x):=by
 have hN:=nN H.1 H.2.2 H.2.1
 have hp:=H.2.2.pos
 have h1:=H.1.n1
 have hpp:0<a.2.1.length*g.1.length:=Nat.mul_pos hp (by omega)
 unfold iJ
 have e:fK (g.1,g.2) (a.1,a.2.1,a.2.2) x=_:=aaf H hx e
 have hR:=QY H hx
 rw[e];simp only[aa]
 have hl:=FX g a (RKs g a (x*(a.2.1.length:Int)+a.1)) (a.2.1.length*g.1.length)
 rw[if_neg (by simp only[decide_eq_true_eq];omega),ah (aaD H hR),J9 _ (by simp only;omega)];simp only[aa]
 unfold YI
 rw[YH (Kc H _ (aF _)) fun i _=>Ry H _ (aF _) i]
end
theorem US (g:GrT) (a:AutT) (hg:Data.sm g) (ha:Data.sm a): ∃b,iw g a 0 0=some b/\cn g a [] =some b/\(b=true->GOOD g a/\ ∀x:Int,0<=x->x<g.1.length->cn g a [x] =some true):=by
 obtain ⟨b,c,e1,e2,e3,e4,k1,k2⟩:=Yl g a hg ha
 obtain ⟨b',es,ei,k⟩:=QX g a hg ha 0
 have e2':aW (g.1,g.2)=_:=e2
 have e4':bP (a.1,a.2.1,a.2.2)=_:=e4
 have hl:=(aE hg.1).1
 have ew:i64.wrap ((g.1.length:Int) - 1)=(g.1.length:Int) - 1:=b7 (by omega) (by omega)
 have en:cn g a [] =some (b&&c):=by
  unfold cn
  have:ak (dk g []) aP 0=some (.brk 0):=by
   have:=aO (f:=dk g []) (fun _=>(0:Int)) 0 (fun i hi=>absurd hi (Nat.not_lt_zero _)) (by unfold dk;simp) (by unfold aP;omega)
   exact this
  rw[ah this,e2',e4']
  cases b <;> cases c <;> rfl
 have e0: ∀x:Int,cn g a [x] =if 0<=x/\x<=(g.1.length:Int) - 1 then some (b&&c) else some false:=fun x=>by
  unfold cn
  rcases Nf (f:=dk g [x]) 1 (fun _=>0<=x/\x<=(g.1.length:Int) - 1) false (by decide) (fun i hi=>by
   obtain rfl:i=0:=by omega
   unfold dk
   rw[if_pos (by simp),show aG [x] ((0:Nat):Int)=some x from rfl];simp only[aa]
   rw[DQ,ew];simp only[aa,decide_eq_true_eq]
   split <;> rfl) (by unfold dk;simp) with ⟨k,h⟩ | ⟨k,h⟩
  ·rw[ah k,e2',e4',if_pos (h 0 (by decide))]
   cases b <;> cases c <;> rfl
  ·rw[bp k,if_neg (fun c=>h fun _ _=>c)]
 have hbb:b'=(b&&c):=by
  have h:=e0 0
  rw[ei] at h
  by_cases c0:(0:Int)<=0/\(0:Int)<=(g.1.length:Int) - 1
  ·rw[if_pos c0] at h;exact ad h
  ·rw[if_neg c0] at h
   have:b'=false:=ad h
   rw[this]
   cases b with
   | false=>rfl
   | true=>have:=(k1 rfl).n1;omega
 refine ⟨b',es,by rw[en,hbb],fun hb=>⟨(k hb).1,fun x h0 h1=>?_⟩⟩
 rw[e0,if_pos ⟨h0,by omega⟩,<-hbb,hb]
def V7 (g:GrT) (a:AutT):Nat->List (Int×Int)
 | 0=>[]
 | x+1=>V7 g a x++(YI g a (x:Int)).map fun y=>((x:Int),y)
theorem Ai (g:GrT) (a:AutT): ∀x,(V7 g a x).length<=30*x
 | 0=>by simp[V7]
 | x+1=>by
  have h1:=Ai g a x
  have h2:=FY g a (x:Int)
  rw[V7,aC,List.length_map];omega
theorem LP {f:Yq9×Int->Option (Out Yq9 (Yq9×Int))} {l:List Int} {x:Int} {o:List (Int×Int)} (hl:l.length<=30) (ho:o.length<=1000)
  (hf: ∀(o:List (Int×Int)) (j:Nat),j<l.length->o.length<=2000->f (o,(j:Int))=some (.nxt (o++ [(x,nth l (j:Int))],((j+1:Nat):Int)))) (he: ∀o,f (o,(l.length:Int))=some (.brk (o,(l.length:Int)))) :
  ak f aP (o,0)=some (.brk (o++l.map fun y=>(x,y),(l.length:Int))):=by
 have:=aO (f:=f) (fun j=>(o++(l.take j).map fun y=>(x,y),(j:Int))) l.length (fun j hj=>by
  rw[hf _ j hj (by rw[aC,List.length_map,aI];omega),vB hj,aS,aA];rfl) (he _) (mV (by omega))
 rw[List.take_length] at this
 simpa using this
theorem UT (g:GrT) (a:AutT) (hg:Data.sm g) (ha:Data.sm a): ∃(b:Bool) (l:List (Int×Int)),cn g a [] =some b/\gI g a=some l/\fg g a=some l/\l.length<=150/\(b=false->l= [])/\(b=true->GOOD g a/\l=V7 g a g.1.length):=by
 obtain ⟨b,es,ei,hb⟩:=US g a hg ha
 refine ⟨b,?_⟩
 have ei0:=ei
 have es:iw (g.1,g.2) (a.1,a.2.1,a.2.2) 0 0=_:=es
 have ei:cn (g.1,g.2) (a.1,a.2.1,a.2.2) [] =_:=ei
 have hl:=(aE hg.1).1
 unfold gI fg
 rw[ei];simp only[aa]
 cases b with
 | false =>
  refine ⟨[],(by first | exact ei0 | trivial),?_,rfl,by decide,fun _=>rfl,fun h=>by cases h⟩
  have:=aO (f:=da g a) (fun _=>(([] :List (Int×Int)),(0:Int))) 0 (fun i hi=>absurd hi (Nat.not_lt_zero _)) (by
   unfold da
   rw[es];simp only[aa,Bool.false_eq_true,if_false]
   split <;> rfl) (by unfold aP;omega)
  rw[ah this]
 | true =>
  obtain ⟨H,hok⟩:=hb rfl
  have h5:=H.1.n5
  refine ⟨V7 g a g.1.length,(by first | exact ei0 | trivial),?_,?_,by have:=Ai g a g.1.length;omega,(fun h=>by cases h),fun _=>⟨H,rfl⟩⟩
  ·have:=aO (f:=da g a) (fun x=>(V7 g a x,(x:Int))) g.1.length (fun x hx=>by
    have h1:=Ai g a x
    have h2:=FY g a (x:Int)
    unfold da
    simp only
    have ef:oc (g.1,g.2) (a.1,a.2.1,a.2.2) (x:Int)=_:=UR H (x:=(x:Int)) ⟨by omega,by omega⟩
    rw[if_pos (by simp only[decide_eq_true_eq];omega),es,ef];simp only[aa,if_true]
    rw[ah (LP (x:=(x:Int)) (l:=YI g a (x:Int)) h2 (by omega) (fun o j hj ho=>by
     unfold lL
     simp only
     rw[if_pos (by simp;omega),aq (by omega) (by omega)];simp only[aa]
     rw[aL (by simp;omega),ae (by omega)];rfl) (fun o=>by unfold lL;simp)),ae (by omega)]
    rfl) (by unfold da;simp) (mV (by omega))
   have this:ak (da g a) aP (([] :List (Int×Int)),0)=_:=this
   rw[ah this]
  ·simp only[if_true]
   have:=aO (f:=fL g a) (fun x=>(V7 g a x,(x:Int))) g.1.length (fun x hx=>by
    have h1:=Ai g a x
    have h2:=FY g a (x:Int)
    unfold fL
    simp only
    have ef:iJ (g.1,g.2) (a.1,a.2.1,a.2.2) (x:Int)=_:=aaE H (x:=(x:Int)) ⟨by omega,by omega⟩ (hok _ (by omega) (by omega))
    rw[if_pos (by simp only[decide_eq_true_eq];omega),ef];simp only[aa]
    rw[ah (LP (x:=(x:Int)) (l:=YI g a (x:Int)) h2 (by omega) (fun o j hj ho=>by
     unfold lM
     simp only
     rw[if_pos (by simp;omega),aq (by omega) (by omega)];simp only[aa]
     rw[aL (by simp;omega),ae (by omega)];rfl) (fun o=>by unfold lM;simp)),ae (by omega)]
    rfl) (by unfold fL;simp) (mV (by omega))
   have this:ak (fL g a) aP (([] :List (Int×Int)),0)=_:=this
   rw[ah this]
theorem UU (g:GrT) (a:AutT) (hg:Data.sm g) (ha:Data.sm a): ∃l,gI g a=some l/\fg g a=some l/\l.length<=150:=by
 obtain ⟨b,l,-,h1,h2,h3,-⟩:=UT g a hg ha
 exact ⟨l,h1,h2,h3⟩
end D
namespace D
open Go.RowKit
theorem UV {l:List (Int×Int)} (h:l.length<=1048576):Data.sm l:=⟨h,fun _ _=>⟨trivial,trivial⟩⟩
theorem Ih {r:LJ} (hr:Data.sm r) {g:GrT} (hg:Data.sm g) (id:Int): ∃(l:List (Int×Int)) (b:Bool),gC r g id=some (l,b)/\gF r g id=some (l,b)/\l.length<=150/\ ∃(a:AutT) (q v:Bool),dC r id=some (a,q)/\Data.sm a/\bC g=some v/\b=(q&&v)/\(b=false->l= [])/\(b=true->fg g a=some l):=by
 obtain ⟨⟨a,q⟩,es,ei,sa⟩:=Nt hr id
 obtain ⟨b,e1,k1⟩:=Lx g (aE hg.1).1 (aE hg.2).1
 have es:dC (r.1,r.2) id=_:=es
 have ei:eU (r.1,r.2) id=_:=ei
 have e2:bC (g.1,g.2)=some b:=by rw[B3];exact e1
 have e1:aW (g.1,g.2)=_:=e1
 obtain ⟨l,f1,f2,hl⟩:=UU g a hg sa
 have f1:gI (g.1,g.2) (a.1,a.2.1,a.2.2)=_:=f1
 have f2:fg (g.1,g.2) (a.1,a.2.1,a.2.2)=_:=f2
 unfold gC gF
 rw[es,ei,e1,e2];simp only[aa]
 rw[f1,f2]
 cases q with
 | false=>exact ⟨[],false,rfl,rfl,by decide,a,false,b,(by first | exact es | rfl),sa,(by first | exact e2 | rfl),rfl,fun _=>rfl,fun h=>by cases h⟩
 | true =>
  cases b with
  | false=>exact ⟨[],false,rfl,rfl,by decide,a,true,false,(by first | exact es | rfl),sa,(by first | exact e2 | rfl),rfl,fun _=>rfl,fun h=>by cases h⟩
  | true=>exact ⟨l,true,rfl,rfl,hl,a,true,true,(by first | exact es | rfl),sa,(by first | exact e2 | rfl),rfl,(fun h=>by cases h),fun _=>(by first | exact f2 | rfl)⟩
theorem Ii {r:LJ} (hr:Data.sm r) {g:GrT} (hg:Data.sm g) (id:Int): ∃(l:List (Int×Int)) (b:Bool),gC r g id=some (l,b)/\gF r g id=some (l,b)/\l.length<=150:=by
 obtain ⟨l,b,h1,h2,h3,-⟩:=Ih hr hg id
 exact ⟨l,b,h1,h2,h3⟩
end D
namespace D
open Go.RowKit
theorem Rz (e:EngT) (he:Data.sm e) (id:Int): ∃(l:List (Int×Int)) (b:Bool),iX e id=some (l,b)/\fM e id=some (l,b)/\l.length<=150:=by
 obtain ⟨b,es,ei,kb⟩:=UP e he
 unfold iX fM
 simp only[eY,es,ei,aa]
 cases b with
 | false=>exact ⟨[],false,rfl,rfl,by decide⟩
 | true =>
  have ok:=kb rfl
  have hb:=ok.hb.1
  have hm:=(aE he.1.2).2 _ (bq (xs:=e.1.2) (i:=(e.1.2.length:Int) - 1) (by omega) (by omega))
  obtain ⟨l,c,f1,f2,hl⟩:=Ii he.2.1 hm id
  have g:=aq (xs:=e.1.2) (i:=(e.1.2.length:Int) - 1) (by omega) (by omega)
  refine ⟨l,c,?_,?_,hl⟩
  ·simp only[if_true]
   rw[b7 (by omega) (by omega),g];simp only[aa,eY]
   rw[f1];rfl
  ·unfold qQ
   simp only[if_true]
   rw[b7 (by omega) (by omega),g];simp only[aa,eY]
   rw[f2];rfl
end D
namespace D
open Go.RowKit
theorem zL (x:EngT) (id:Int) (hx:Data.lim x) (hn:Data.lim id):dE x id=some true:=by
 unfold dE
 simp only[eY]
 obtain ⟨r1,e1,k1⟩:=M3 x 1048576 hx (by decide) (by decide)
 rw[e1];simp only[aa]
 rcases k1 with k1 | ⟨k1,j1,s1⟩
 ·rw[if_pos (decide_eq_true k1)]
 rw[if_neg (by simpa using k1)]
 obtain ⟨l,b,es,ei,hl⟩:=Rz x s1 id
 have sl:=UV (l:=l) (by omega)
 have b1:=Qt x s1
 have b3:=TV l sl
 have em1:jz x 1=_:=Qu x s1 (k:=1) (by omega)
 have em3:k7 l 1=_:=TW l sl (k:=1) (by omega)
 have eh3:jg (mkd ji yc l 1) 1=_:=TX l sl (k:=1) (by omega)
 simp only[M6 x s1,es,ei,Qe l l sl sl,M9 x x s1 s1,aa,eY,em1,em3,eh3,decide_true,if_true,acP,bne_self_eq_false,Bool.false_eq_true,if_false]
end D
namespace R
open Go.Shelf
def Ke:Go.Shelf.Ren:=⟨fun | 146=>126 | 221=>161 | 268=>202 | 138=>203 | 143=>204 | 195=>240 | 197=>241 | 218=>242 | 219=>243 | 260=>278 | 217=>125 | 225=>279 | 224=>280 | 267=>281 | 266=>160 | 314=>305 | n=>n,fun | 9=>9 | 31=>171 | 3=>3 | 4=>4 | 0=>0 | 105=>282 | 21=>21 | 5=>5 | 46=>263 | 119=>344 | 139=>347 | 138=>346 | 146=>330 | 51=>307 | n=>n,fun | 1=>0 | 3=>3 | 4=>4 | n=>n⟩
theorem YJ:Go.Proofs.LaysM.n146 Tryz.prog Ke:= {
 mixed:=by kernel_rfl
 f138:=Tryz.func203.trans (congrArg some (by kernel_rfl))
 f143:=Tryz.func204.trans (congrArg some (by kernel_rfl))
 f146:=Tryz.func126.trans (congrArg some (by kernel_rfl))
 f195:=Tryz.func240.trans (congrArg some (by kernel_rfl))
 f197:=Tryz.func241.trans (congrArg some (by kernel_rfl))
 f217:=Tryz.func125.trans (congrArg some (by kernel_rfl))
 f218:=Tryz.func242.trans (congrArg some (by kernel_rfl))
 f219:=Tryz.func243.trans (congrArg some (by kernel_rfl))
 f221:=Tryz.func161.trans (congrArg some (by kernel_rfl))
 f224:=Tryz.func280.trans (congrArg some (by kernel_rfl))
 f225:=Tryz.func279.trans (congrArg some (by kernel_rfl))
 f260:=Tryz.func278.trans (congrArg some (by kernel_rfl))
 f266:=Tryz.func160.trans (congrArg some (by kernel_rfl))
 f267:=Tryz.func281.trans (congrArg some (by kernel_rfl))
 f268:=Tryz.func202.trans (congrArg some (by kernel_rfl))
 f314:=Tryz.func305.trans (congrArg some (by kernel_rfl))
 t0:=Tryz.underlying0
 a0:=Tryz.isAgg0
 z0:=Tryz.sizeOf0
 v0:=Tryz.zeroValue0
 t3:=Tryz.underlying3
 a3:=Tryz.isAgg3
 z3:=Tryz.sizeOf3
 v3:=Tryz.zeroValue3
 t4:=Tryz.underlying4
 a4:=Tryz.isAgg4
 z4:=Tryz.sizeOf4
 v4:=Tryz.zeroValue4
 t5:=Tryz.underlying5
 a5:=Tryz.isAgg5
 z5:=Tryz.sizeOf5
 v5:=Tryz.zeroValue5
 t9:=Tryz.underlying9
 a9:=Tryz.isAgg9
 z9:=Tryz.sizeOf9
 v9:=Tryz.zeroValue9
 t21:=Tryz.underlying21
 a21:=Tryz.isAgg21
 z21:=Tryz.sizeOf21
 v21:=Tryz.zeroValue21
 t31:=Tryz.underlying171
 a31:=Tryz.isAgg171
 z31:=Tryz.sizeOf171
 v31:=Tryz.zeroValue171
 t46:=Tryz.underlying263
 a46:=Tryz.isAgg263
 z46:=Tryz.sizeOf263
 v46:=Tryz.zeroValue263
 t51:=Tryz.underlying307
 a51:=Tryz.isAgg307
 z51:=Tryz.sizeOf307
 v51:=Tryz.zeroValue307
 t105:=Tryz.underlying282
 a105:=Tryz.isAgg282
 z105:=Tryz.sizeOf282
 v105:=Tryz.zeroValue282
 t119:=Tryz.underlying344
 a119:=Tryz.isAgg344
 z119:=Tryz.sizeOf344
 t138:=Tryz.underlying346
 a138:=Tryz.isAgg346
 z138:=Tryz.sizeOf346
 v138:=Tryz.zeroValue346
 t139:=Tryz.underlying347
 a139:=Tryz.isAgg347
 z139:=Tryz.sizeOf347
 v139:=Tryz.zeroValue347
 t146:=Tryz.underlying330
 a146:=Tryz.isAgg330
 z146:=Tryz.sizeOf330
 v146:=Tryz.zeroValue330
 g1:=by kernel_rfl
 g3:=by kernel_rfl
 g4:=by kernel_rfl
 i0:=by kernel_rfl
 i3:=by kernel_rfl
 i4:=by kernel_rfl
 i5:=by kernel_rfl
 i9:=by kernel_rfl
 i21:=by kernel_rfl
 i31:=by kernel_rfl
 i46:=by kernel_rfl
 i51:=by kernel_rfl
 i105:=by kernel_rfl
 i138:=by kernel_rfl
 i139:=by kernel_rfl
 i146:=by kernel_rfl
 m1:=by kernel_rfl
 s1_3:=fun w h=>Go.Proofs.cell_of_shapedOpen_int (zero:= #[.int .i64 0]) (t:=3) h (of_decide_eq_true (by kernel_rfl)) (by kernel_rfl) rfl (by kernel_rfl) (by kernel_rfl) Tryz.underlying3
 m3:=by kernel_rfl
 m4:=by kernel_rfl }
end R
open Go.ChangeShapes Go.WideShapes Go.ChangeAt Go.RowKit
namespace D
theorem op3:Opens Tryz.prog 3 a7:=P4 Tryz.underlying3
theorem acW:Opens Tryz.prog 57 (af 3 a7):=gr Tryz.underlying57 (by kernel_rfl) (by decide) op3
theorem aca:Opens Tryz.prog 199 (aD a7 (aD a7 (aD a7 a7))):=by
 refine dN Tryz.underlying199 (by kernel_rfl) ?_
 refine cq (R:=a7) (S:=aD (a7) (aD (a7) (a7))) rfl (by kernel_rfl) op3 ?_
 refine cq (R:=a7) (S:=aD (a7) (a7)) rfl (by kernel_rfl) op3 ?_
 refine cq (R:=a7) (S:=a7) rfl (by kernel_rfl) op3 ?_
 exact gK rfl (by kernel_rfl) op3
theorem acb:Opens Tryz.prog 107 (af 199 (aD a7 (aD a7 (aD a7 a7)))):=gr Tryz.underlying107 (by kernel_rfl) (by decide) aca
theorem acd:Opens Tryz.prog 109 (aD (af 3 a7) (af 199 (aD a7 (aD a7 (aD a7 a7))))):=by
 refine dN Tryz.underlying109 (by kernel_rfl) ?_
 refine cq (R:=af 3 a7) (S:=af 199 (aD a7 (aD a7 (aD a7 a7)))) rfl (by kernel_rfl) acW ?_
 exact gK rfl (by kernel_rfl) acb
theorem ado:Opens Tryz.prog 22 (af 109 (aD (af 3 a7) (af 199 (aD a7 (aD a7 (aD a7 a7)))))):=gr Tryz.underlying22 (by kernel_rfl) (by decide) acd
theorem adp:Opens Tryz.prog 24 (aD a7 (af 109 (aD (af 3 a7) (af 199 (aD a7 (aD a7 (aD a7 a7))))))):=by
 refine dN Tryz.underlying24 (by kernel_rfl) ?_
 refine cq (R:=a7) (S:=af 109 (aD (af 3 a7) (af 199 (aD a7 (aD a7 (aD a7 a7)))))) rfl (by kernel_rfl) op3 ?_
 exact gK rfl (by kernel_rfl) ado
theorem op4:Opens Tryz.prog 4 oJ:=MZ Tryz.underlying4
theorem adq:Opens Tryz.prog 79 (af 4 oJ):=gr Tryz.underlying79 (by kernel_rfl) (by decide) op4
theorem adr:Opens Tryz.prog 80 (af 57 (af 3 a7)):=gr Tryz.underlying80 (by kernel_rfl) (by decide) acW
theorem ace:Opens Tryz.prog 111 (aD a7 (aD (af 4 oJ) (af 57 (af 3 a7)))):=by
 refine dN Tryz.underlying111 (by kernel_rfl) ?_
 refine cq (R:=a7) (S:=aD (af 4 oJ) (af 57 (af 3 a7))) rfl (by kernel_rfl) op3 ?_
 refine cq (R:=af 4 oJ) (S:=af 57 (af 3 a7)) rfl (by kernel_rfl) adq ?_
 exact gK rfl (by kernel_rfl) adr
theorem ads:Opens Tryz.prog 25 (af 111 (aD a7 (aD (af 4 oJ) (af 57 (af 3 a7))))):=gr Tryz.underlying25 (by kernel_rfl) (by decide) ace
theorem acf:Opens Tryz.prog 236 (aD a7 (aD a7 (aD a7 a7))):=by
 refine dN Tryz.underlying236 (by kernel_rfl) ?_
 refine cq (R:=a7) (S:=aD (a7) (aD (a7) (a7))) rfl (by kernel_rfl) op3 ?_
 refine cq (R:=a7) (S:=aD (a7) (a7)) rfl (by kernel_rfl) op3 ?_
 refine cq (R:=a7) (S:=a7) rfl (by kernel_rfl) op3 ?_
 exact gK rfl (by kernel_rfl) op3
theorem acg:Opens Tryz.prog 113 (af 236 (aD a7 (aD a7 (aD a7 a7)))):=gr Tryz.underlying113 (by kernel_rfl) (by decide) acf
theorem ach:Opens Tryz.prog 115 (af 236 (aD a7 (aD a7 (aD a7 a7)))):=by
 refine dN Tryz.underlying115 (by kernel_rfl) ?_
 exact gK rfl (by kernel_rfl) acg
theorem aci:Opens Tryz.prog 117 (aD a7 (aD (af 236 (aD a7 (aD a7 (aD a7 a7)))) a7)):=by
 refine dN Tryz.underlying117 (by kernel_rfl) ?_
 refine cq (R:=a7) (S:=aD (af 236 (aD a7 (aD a7 (aD a7 a7)))) (a7)) rfl (by kernel_rfl) op3 ?_
 refine cq (R:=af 236 (aD a7 (aD a7 (aD a7 a7)))) (S:=a7) rfl (by kernel_rfl) ach ?_
 exact gK rfl (by kernel_rfl) op3
theorem adt:Opens Tryz.prog 26 (af 117 (aD a7 (aD (af 236 (aD a7 (aD a7 (aD a7 a7)))) a7))):=gr Tryz.underlying26 (by kernel_rfl) (by decide) aci
theorem adu:Opens Tryz.prog 28 (aD (af 111 (aD a7 (aD (af 4 oJ) (af 57 (af 3 a7))))) (af 117 (aD a7 (aD (af 236 (aD a7 (aD a7 (aD a7 a7)))) a7)))):=by
 refine dN Tryz.underlying28 (by kernel_rfl) ?_
 refine cq (R:=af 111 (aD a7 (aD (af 4 oJ) (af 57 (af 3 a7))))) (S:=af 117 (aD a7 (aD (af 236 (aD a7 (aD a7 (aD a7 a7)))) a7))) rfl (by kernel_rfl) ads ?_
 exact gK rfl (by kernel_rfl) adt
theorem adv:Opens Tryz.prog 93 (aD a7 (aD a7 a7)):=by
 refine dN Tryz.underlying93 (by kernel_rfl) ?_
 refine cq (R:=a7) (S:=aD (a7) (a7)) rfl (by kernel_rfl) op3 ?_
 refine cq (R:=a7) (S:=a7) rfl (by kernel_rfl) op3 ?_
 exact gK rfl (by kernel_rfl) op3
theorem adw:Opens Tryz.prog 29 (af 93 (aD a7 (aD a7 a7))):=gr Tryz.underlying29 (by kernel_rfl) (by decide) adv
theorem op9:Opens Tryz.prog 9 D0:=HI Tryz.underlying9
theorem adx:Opens Tryz.prog 31 (aD (aD a7 (af 109 (aD (af 3 a7) (af 199 (aD a7 (aD a7 (aD a7 a7))))))) (aD (aD (af 111 (aD a7 (aD (af 4 oJ) (af 57 (af 3 a7))))) (af 117 (aD a7 (aD (af 236 (aD a7 (aD a7 (aD a7 a7)))) a7)))) (aD (af 93 (aD a7 (aD a7 a7))) D0))):=by
 refine dN Tryz.underlying31 (by kernel_rfl) ?_
 refine cq (R:=aD a7 (af 109 (aD (af 3 a7) (af 199 (aD a7 (aD a7 (aD a7 a7))))))) (S:=aD (aD (af 111 (aD a7 (aD (af 4 oJ) (af 57 (af 3 a7))))) (af 117 (aD a7 (aD (af 236 (aD a7 (aD a7 (aD a7 a7)))) a7)))) (aD (af 93 (aD a7 (aD a7 a7))) (D0))) rfl (by kernel_rfl) adp ?_
 refine cq (R:=aD (af 111 (aD a7 (aD (af 4 oJ) (af 57 (af 3 a7))))) (af 117 (aD a7 (aD (af 236 (aD a7 (aD a7 (aD a7 a7)))) a7)))) (S:=aD (af 93 (aD a7 (aD a7 a7))) (D0)) rfl (by kernel_rfl) adu ?_
 refine cq (R:=af 93 (aD a7 (aD a7 a7))) (S:=D0) rfl (by kernel_rfl) adw ?_
 exact gK rfl (by kernel_rfl) op9
theorem acj {W:World} {base:Nat} {z:Value} {H:Type} {enc:TypeId×Value->H} {d:DataW H} {p:List MemPlace} (hv:Value.okWide Tryz.prog W .any base 31 z) (h:DataW.Trod enc Tryz.prog W 0 (fun _=>true) true 31 z d p) :
  ∃(x:(Int×(List ((List Int)×(List (Int×Int×Int×Int)))))×((List (Int×(List Bool)×(List (List Int))))×(List (Int×((List (Int×Int×Int×Int)))×Int)))×(List (Int×Int×Int))×ByteArray) (v0:Value) (v1:Value) (v2:Value) (v3:Value),z= .agg #[.int .i64 x.1.1,v0,v1,v2,v3,.string x.2.2.2] /\Data.lim x/\(af 109 (aD (af 3 a7) (af 199 (aD a7 (aD a7 (aD a7 a7)))))).rd (hp W) [v0] x.1.2/\(af 111 (aD a7 (aD (af 4 oJ) (af 57 (af 3 a7))))).rd (hp W) [v1] x.2.1.1/\(af 117 (aD a7 (aD (af 236 (aD a7 (aD a7 (aD a7 a7)))) a7))).rd (hp W) [v2] x.2.1.2/\(af 93 (aD a7 (aD a7 a7))).rd (hp W) [v3] x.2.2.1:=by
 obtain ⟨fuel,hf⟩:=h
 obtain ⟨⟨cs⟩,rfl,-⟩:=okWide_struct Tryz.underlying31 hv
 obtain ⟨x,hx,hl⟩:=adx.out enc W _ _ _ hf
 have hx:(aD (aD a7 (af 109 (aD (af 3 a7) (af 199 (aD a7 (aD a7 (aD a7 a7))))))) (aD (aD (af 111 (aD a7 (aD (af 4 oJ) (af 57 (af 3 a7))))) (af 117 (aD a7 (aD (af 236 (aD a7 (aD a7 (aD a7 a7)))) a7)))) (aD (af 93 (aD a7 (aD a7 a7))) D0))).rd (hp W) cs x:=hx
 obtain ⟨_,_,rfl,⟨_,_,rfl,rfl,r0⟩,⟨_,_,rfl,⟨_,_,rfl,r1,r2⟩,⟨_,_,rfl,r3,rfl⟩⟩⟩:=hx
 obtain ⟨v0,rfl⟩:=one_cell r0 rfl
 obtain ⟨v1,rfl⟩:=one_cell r1 rfl
 obtain ⟨v2,rfl⟩:=one_cell r2 rfl
 obtain ⟨v3,rfl⟩:=one_cell r3 rfl
 exact ⟨x,v0,v1,v2,v3,rfl,hl,r0,r1,r2,r3⟩
theorem ady {W:World} {base:Nat} {z:Value} {H:Type} {enc:TypeId×Value->H} {d:DataW H} {p:List MemPlace} (hv:Value.okWide Tryz.prog W .any base 3 z) (h:DataW.Trod enc Tryz.prog W 0 (fun _=>true) true 3 z d p) :
  ∃(x:Int),z= .int .i64 x/\Data.lim x:=by
 obtain ⟨fuel,hf⟩:=h
 obtain ⟨n,rfl⟩:=okWide_int Tryz.underlying3 hv
 obtain ⟨x,hx,hl⟩:=op3.out enc W _ _ _ hf
 exact ⟨x,(List.cons.inj (show [_] = [_] from hx)).1,hl⟩
end D
open D (Data)
theorem ym {H:Type} {enc:TypeId×Value->H} {a:Assume} {C:Checked} {os:Os} {f:FuncId} {fn:Func} {s:ChangeSpec} {conds:List PathCond} {apart fresh handsOn again:Bool} {X:World->Array Value->Prop}
  (hX: ∀(w w':World) (args:Array Value),w.heap=w'.heap->X w args->X w' args)
  (own:ownKnob C.prog.godebug=none) (started:os.Started) (noInit:C.prog.inits.idxOf? f=none) (hfn:C.prog.funcs[f]? =some fn)
  (witness: ∃(w:World) (tape:Tape) (i:Input),w.os=os/\(w.forCall tape i).Shaped C.prog/\i.vars= [] /\Input.okWide C.prog (w.forCall tape i) .any w.heap.size f i /\
   ((s.pre enc C.prog fn conds apart (w.forCall tape i).memory i.args/\X (w.forCall tape i).memory i.args)/\sizedMet enc C.prog fn (OpenSpec.ofChange s) apart (w.forCall tape i).memory i.args)/\a.holds C.prog (lone (Frame.enter C.prog f i.args .normal) [] (w.forCall tape i)))
  (contract: ∀(W:World) (base:Nat) (args:Array Value) (ds gs:List (DataW H)) (before:List MemPlace),
   (∀(j:Nat) t v,fn.params[j]? =some t->args[j]? =some v->Value.okWide C.prog W .any base t v)->
   DataW.Whole enc C.prog fn.params.toList s.vars apart W args.toList ds gs before->X W args->W.ShapedOpen C.prog->
   Calls C.prog f args W fun e W'=> ∃v,e= .returned v/\s.post enc C.prog fn apart fresh handsOn again W args v W') :
  ReturnsInHanded a C os f .any (fun w args=>(s.pre enc C.prog fn conds apart w args/\X w args)/\sizedMet enc C.prog fn (OpenSpec.ofChange s) apart w args) (s.post enc C.prog fn apart fresh handsOn again):=by
 refine returnsInHanded_of_calls own started noInit witness ?_
 intro w tape i _ hsh _ hok hpre _
 obtain ⟨_,_,_,fn',hfn',_,_,_,_,hval⟩:=hok
 have e:fn'=fn:=ad (hfn'.symm.trans hfn)
 subst e
 obtain ⟨⟨⟨ds,gs,before,hw,hc⟩,hx⟩,_⟩:=hpre
 have hw':=DataW.Whole.of_heap (w':=w.forCall tape i) (by rfl) hw
 refine (contract (w.forCall tape i) w.heap.size i.args ds gs before hval hw' (hX (w.forCall tape i).memory (w.forCall tape i) _ rfl hx) hsh).mono fun e W' ⟨v,he,hp⟩=>?_
 subst he
 exact ChangeSpec.post_blind hp
theorem V8 (u:TypeId) (h:Tryz.prog.typeName? 3 u=some "*errors.errorString"):u=351:=
 typeName_ptr_named (nm:= "errors.errorString") (by kernel_rfl) (by kernel_rfl) (by decide) u h
theorem zM {W:World} (h:laidMetH Tryz.prog Rows.fnExactEngineAnswersRow.laid W) (hsh:W.ShapedOpen Tryz.prog):D.LayW Tryz.prog W:=by
 rw[MakeChecks.laidMetH_plain _ _ _ (by kernel_rfl)] at h
 obtain ⟨a5,s5,hv5,-⟩:=laid_sentinel (g:=2) (ti:=205) (tp:=351) (te:=353) (ts:=9) (h.tail.tail.tail.tail) (by kernel_rfl) (by kernel_rfl) Tryz.underlying205 V8 Tryz.underlying351 Tryz.underlying353 rfl rfl Tryz.underlying9 (by kernel_rfl) (by kernel_rfl)
 obtain ⟨a6,s6,hv6,-⟩:=laid_sentinel (g:=1) (ti:=205) (tp:=351) (te:=353) (ts:=9) (h.tail.tail.tail.tail.tail) (by kernel_rfl) (by kernel_rfl) Tryz.underlying205 V8 Tryz.underlying351 Tryz.underlying353 rfl rfl Tryz.underlying9 (by kernel_rfl) (by kernel_rfl)
 have ht:Lib.TabIs Tryz.prog W "internal/strconv.uint64pow10" .u64 Lib.pow10Tab:=Lib.tabIs_of_head (g:=5) (by kernel_rfl) (by kernel_rfl) Tryz.underlying355 Tryz.underlying309 (by kernel_rfl) (by kernel_rfl) (h.tail.tail)
 exact ⟨⟨0,(R.YJ.s1_3 W hsh).imp fun m hm=>⟨by kernel_rfl,hm⟩⟩,ht,⟨_,_,hv6⟩,⟨_,_,hv5⟩⟩
theorem yn (W:World) (hL:laidMetH Tryz.prog Rows.fnExactEngineAnswersRow.laid W) (hsh:W.ShapedOpen Tryz.prog) (args:Array Value) (H:Type) (enc:TypeId×Value->H) (base:Nat) (ds gs:List (DataW H)) (before:List MemPlace)
  (hval: ∀(j:Nat) t v,Tryz.f3.params[j]? =some t->args[j]? =some v->Value.okWide Tryz.prog W .any base t v)
  (hW:DataW.Whole enc Tryz.prog Tryz.f3.params.toList Rows.fnExactEngineAnswersSpec.vars false W args.toList ds gs before) :
  Calls Tryz.prog 3 args W fun e W'=> ∃v,e= .returned v/\Rows.fnExactEngineAnswersSpec.post enc Tryz.prog Tryz.f3 false true false false W args v W':=by
 have hW':=hW
 obtain ⟨p,q,hA,hV,rfl,hfz,hnd⟩:=hW
 rw[Tryz.params3] at hA hval
 obtain ⟨z0,vs0,d0,ds0,p0,q0,hargs,rfl,rfl,h0,r0⟩:=trodAll_cons hA
 obtain ⟨z1,vs1,d1,ds1,p1,q1,rfl,rfl,rfl,h1,r1⟩:=trodAll_cons r0
 obtain ⟨rfl,rfl,rfl⟩:=trodAll_nil r1
 obtain rfl:args= #[z0,z1]:=by cases args;simp_all
 obtain ⟨rfl,rfl⟩:=trodVars_none hV
 obtain ⟨x0,v0_0,v0_1,v0_2,v0_3,rfl,l0,r0_0,r0_1,r0_2,r0_3⟩:=D.acj (hval 0 _ _ rfl rfl) h0
 obtain ⟨x1,rfl,l1⟩:=D.ady (hval 1 _ _ rfl rfl) h1
 have hc:=D.qp x0 x1 true (D.zL x0 x1 l0 l1) (I:=D.hp W) (w0:=W) v0_0 v0_1 v0_2 v0_3 r0_0 r0_1 r0_2 r0_3 (D.Lay.of (zM hL hsh)) W [] (D.St.init W)
 refine hc.mono fun e W' ⟨v,he,hv,hs⟩=>?_
 subst he;subst hv
 exact ⟨_,rfl,UJ (f:=Tryz.f3) (s:=Rows.fnExactEngineAnswersSpec) 4 Tryz.underlying4 rfl (by kernel_rfl) rfl hW' rfl rfl rfl (D.St.below hs)⟩
set_option maxRecDepth 100000 in
theorem ui (os:Os) (started:os.Started) (H:Type) (enc:TypeId×Value->H) :
  ReturnsInHanded {} Tryz.checked os 3 .any (fun w args=>(Rows.fnExactEngineAnswersSpec.pre enc Tryz.prog Tryz.f3 [] false w args/\laidMetH Tryz.prog Rows.fnExactEngineAnswersRow.laid w)/\sizedMet enc Tryz.prog Tryz.f3 (OpenSpec.ofChange Rows.fnExactEngineAnswersSpec) false w args) (Rows.fnExactEngineAnswersSpec.post enc Tryz.prog Tryz.f3 false true false false):=by
 refine ym (C:=Tryz.checked) (X:=fun w _=>laidMetH Tryz.prog Rows.fnExactEngineAnswersRow.laid w) (fun _ _ _ hh h=>h.of_heap hh) own started (by kernel_rfl) Tryz.func3
  (ChangeSpec.witness_shaped (enc:=enc) (C:=Tryz.checked) (os:=os) (X:=fun w _=>laidMetH Tryz.prog Rows.fnExactEngineAnswersRow.laid w) false (World.laidAll Tryz.prog os Rows.fnExactEngineAnswersRow.laid) #[.agg #[.int .i64 0,.slice none 0 0,.slice none 0 0,.slice none 0 0,.slice none 0 0,.string ⟨#[]⟩],.int .i64 0] 8 (World.laidAll_os _ _ _) (World.shaped_of_ZipB (by kernel_rfl) (by kernel_rfl)) (by kernel_rfl) (by kernel_rfl) (by kernel_rfl) (by rw[MakeChecks.laidMetH_plain _ _ _ (by kernel_rfl)];exact laidMet_laidAll _ (by kernel_rfl) (by kernel_rfl))) ?_
 intro W base args ds gs before hval hW hL hsh
 exact yn W hL hsh args H enc base ds gs before hval hW
theorem vE:Rows.FnExactEngineAnswersSaid:=
 OpenClaim.holds_of_wide 3 Tryz.f3 rfl rfl rfl rfl rfl rfl rfl ⟨rfl,rfl,rfl,rfl,rfl⟩ rfl rfl rfl rfl rfl (by kernel_rfl) Tryz.func3 closedLEngineAnswers
  (of_decide_eq_true (by kernel_rfl)) (by unfold Func.isWrapper;first | (rw[if_pos (by decide +kernel)];kernel_rfl) | (rw[if_neg (by decide +kernel)];exact ⟨rfl,rfl⟩))
  (fun os started H enc _=>ui os started H enc)
theorem cardLEngineAnswers:Rows.FnExactEngineAnswersCardSaid:=
 Claim7.holds_tied_plain_at .later [] [.data,.data,.data,.data,.sentinel,.sentinel,.pinned] true (true,"3827e2d3ebabca6dd897c7616aa3f902394a5bdc887833cc3b92cd51dd71d025") true
  vE (fun _ h=>by cases h) (by kernel_rfl) (fun _ h=>by cases h) fnExactEngineAnswers_row_tie rfl ⟨rfl,rfl⟩ kf4EngineAnswers rfl
  (fun f fn hf hfn=>by
   obtain rfl:f=3:=ad (kf1EngineAnswers.symm.trans hf) |>.symm
   obtain rfl:fn=Tryz.f3:=(ad (Tryz.func3.symm.trans hfn)).symm
   exact ⟨kf2EngineAnswers,fun j t ht=>by
    rw[Tryz.params3] at ht
    have hm:t ∈ [31,3]:=by simpa using Array.mem_of_getElem? ht
    have hall:([31,3].all fun u=> !Tryz.prog.wantsStandIn u)=true:=by kernel_rfl
    exact (show Tryz.prog.wantsStandIn t=false by simpa using List.all_eq_true.1 hall t hm)⟩)
  kf3EngineAnswers
end Go.Proofs.YtfkokkokjgjkgaaGreatDoor
