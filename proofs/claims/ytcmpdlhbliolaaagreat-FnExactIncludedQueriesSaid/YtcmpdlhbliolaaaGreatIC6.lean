/- FnExactIncludedQueries: for every input the law returns true and changes nothing that was there. Part 7 of 7. -/
import Derived.Test.YtcmpdlhbliolaaaGreatIC5
set_option linter.unusedVariables false
set_option linter.unusedSimpArgs false
set_option linter.unnecessarySimpa false
set_option linter.unusedSectionVars false
set_option maxRecDepth 1000000
namespace Go.Proofs.YtcmpdlhbliolaaaGreat
namespace D
open Go.RowKit
section
variable {κ:Type} [DecidableEq κ] [Inhabited κ] {nx:κ→List (Option κ)} {first:κ} {G:κ→Prop} {B N:Nat} {acc:κ→Bool}
theorem uI: ∀(l:List κ) (os:List (Option κ)),∀t∈nbR l os,-1≤t∧t<((nbS l os).length:Int)
 | l,[] =>fun t ht=>by cases ht
 | l,o::os=>fun t ht=>by
  have hp:=fc (nbL l o) os
  have hl:=hp.length_le
  rcases List.mem_cons.1 ht with rfl | ht
  ·show -1≤nbI l o∧nbI l o<((nbS (nbL l o) os).length:Int)
   cases o with
   | none=>exact ⟨by simp[nbI],by simp only[nbI];omega⟩
   | some y =>
    by_cases c:y∈l
    ·obtain ⟨q,hq,e,-⟩:=kY c
     rw[fS c] at hl
     rw[e];exact ⟨by omega,by rw[fS c];omega⟩
    ·rw[fm c] at hl
     rw[xO c];rw[List.length_append] at hl
     exact ⟨by omega,by rw[fm c];simp at hl;omega⟩
  ·exact uI (nbL l o) os t ht
theorem Qf (H:NumOk nx first G B) (hN:bfE nx first N):VA ((0,(bfS nx first N).map acc,bfR nx first N):AutT) N:=by
 have h0:0<N:=by
  have:=zM (nx:=nx) (first:=first) N
  have:=(List.getElem?_eq_some_iff.1 this).1
  have:=hN.1;omega
 have key: ∀i,i≤N→ ∀r∈bfR nx first i,r.length=9∧ ∀t∈r,-1≤t∧t<(N:Int):=by
  intro i
  induction i with
  | zero=>intro _ r hr;cases hr
  | succ i ih =>
   intro hi r hr
   have hlt:=hN.2 i (by omega)
   rw[ql hlt] at hr
   rcases List.mem_append.1 hr with hr | hr
   ·exact ih (by omega) r hr
   ·obtain rfl:=List.mem_singleton.1 hr
    refine ⟨by rw[cS,H.len _ (fO H.g0 H.gn i _ (List.getElem_mem hlt))],fun t ht=>?_⟩
    have:=uI _ _ t ht
    rw[←xy hlt] at this
    have hl:=(lK (nx:=nx) (first:=first) hi).length_le
    have:=hN.1
    omega
 exact ⟨by show ((bfS nx first N).map acc).length=N;rw[List.length_map];exact hN.1.symm,⟨Int.le_refl _,by show (0:Int)<N;omega⟩,gk hN.2,fun r hr=>(key N (Nat.le_refl _) r hr).1,fun r hr=>(key N (Nat.le_refl _) r hr).2⟩
theorem MZ (hlen: ∀x,(nx x).length=9) (hN:bfE nx first N):VA ((0,(bfS nx first N).map acc,bfR nx first N):AutT) N:=by
 have h0:0<N:=by
  have:=zM (nx:=nx) (first:=first) N
  have:=(List.getElem?_eq_some_iff.1 this).1
  have:=hN.1;omega
 have key: ∀i,i≤N→ ∀r∈bfR nx first i,r.length=9∧ ∀t∈r,-1≤t∧t<(N:Int):=by
  intro i
  induction i with
  | zero=>intro _ r hr;cases hr
  | succ i ih =>
   intro hi r hr
   have hlt:=hN.2 i (by omega)
   rw[ql hlt] at hr
   rcases List.mem_append.1 hr with hr | hr
   ·exact ih (by omega) r hr
   ·obtain rfl:=List.mem_singleton.1 hr
    refine ⟨by rw[cS,hlen _],fun t ht=>?_⟩
    have:=uI _ _ t ht
    rw[←xy hlt] at this
    have hl:=(lK (nx:=nx) (first:=first) hi).length_le
    have:=hN.1
    omega
 exact ⟨by show ((bfS nx first N).map acc).length=N;rw[List.length_map];exact hN.1.symm,⟨Int.le_refl _,by show (0:Int)<N;omega⟩,gk hN.2,fun r hr=>(key N (Nat.le_refl _) r hr).1,fun r hr=>(key N (Nat.le_refl _) r hr).2⟩
end
end D
namespace D
open Go.RowKit
theorem qv:Data.sm ((0,[],[]):AutT):=⟨trivial,⟨by decide,fun _ h=>by cases h⟩,by decide,fun _ h=>by cases h⟩
theorem GX {κ:Type} [DecidableEq κ] {nx:κ→List (Option κ)} {first:κ} {acc:κ→Bool} {most:Nat} : ∀(f i:Nat),(∀j,j<i→j<(bfS nx first j).length)→(bfS nx first i).length≤most→goM nx first acc most f i=((0,[],[]),false)∨ ∃N,bfE nx first N∧N≤most∧goM nx first acc most f i=((0,(bfS nx first N).map acc,bfR nx first N),true)
 | 0,i,_,_=>.inl rfl
 | f+1,i,h,hl=>by
  have hle:=xN h
  rw[goM]
  by_cases c:i<(bfS nx first i).length
  ·rw[if_pos c]
   by_cases d:(bfS nx first (i+1)).length>most
   ·rw[if_pos d];exact .inl rfl
   ·rw[if_neg d]
    exact GX f (i+1) (fun j hj=>by
     by_cases e:j=i
     ·subst e;exact c
     ·exact h j (by omega)) (by omega)
  ·rw[if_neg c]
   exact .inr ⟨i,⟨by omega,h⟩,by omega,by rw[List.take_of_length_le (by omega)]⟩
theorem zU {e:List Tok} (he:e.length≤1048576): ∃r:AutT×Bool,eL e=some r∧eQ e=some r∧Data.sm r.1:=by
 obtain ⟨⟨p,b⟩,e1,e2,h1,h2⟩:=pw he
 have h1:p.2.2.2.1.length=p.1.length:=h1
 have h2:p.1.length≤100000:=h2
 unfold eL eQ
 rw[e1,e2];simp only[Option.bind_some,eD]
 cases b with
 | false=>exact ⟨((0,[],[]),false),rfl,rfl,qv⟩
 | true =>
  have d1:=PI (p:=p) (most:=200) h1 (by omega) (by omega) (by omega)
  have d2:=PH (p:=p) (most:=200) h1 (by omega) (by omega) (by omega)
  have d1:fA p 200=_:=d1
  have d2:eN p 200=_:=d2
  rw[d1,d2];simp only[if_true,Option.bind_some]
  rcases GX (nx:=nxS p) (first:=1) (acc:=qu p) (most:=200) (200+2) 0 (fun j hj=>by omega) (by simp[bfS]) with e | ⟨N,hN,hNm,e⟩
  ·rw[e]
   exact ⟨((0,[],[]),false),rfl,rfl,qv⟩
  ·rw[e];simp only[if_true]
   have V:=MZ (acc:=qu p) (xM p) hN
   obtain ⟨r,es,ei,hr⟩:=JA V (by omega)
   unfold tK
   rw[es];simp only[Option.bind_some,eD]
   rw[ei];simp only[Option.bind_some,eD]
   by_cases c:(r.2.1.length:Int)>12
   ·have c':decide ((r.2.1.length:Int)>12)=true:=decide_eq_true c
    simp only[c',if_true,Option.bind_some]
    exact ⟨((0,[],[]),false),rfl,rfl,qv⟩
   ·have c':decide ((r.2.1.length:Int)>12)=false:=decide_eq_false c
    simp only[c',Bool.false_eq_true,if_false,Option.bind_some]
    exact ⟨(r,true),rfl,rfl,hr⟩
theorem Br {e:List Tok} (he:e.length≤1048576): ∃r:AutT×Bool,eL e=some r∧eQ e=some r∧Data.sm r.1:=zU he
end D
set_option synthInstance.maxSize 20000
set_option synthInstance.maxHeartbeats 2000000
namespace D
open Go.RowKit
theorem uJ (x y:AutT) (hx:Data.sm x):dx x y=some (decide (x=y)):=by
 obtain ⟨-,⟨ha,-⟩,hn,hr⟩:=hx
 unfold dx
 by_cases c1:x.1=y.1
 case neg=>rw[if_pos (by simpa using c1)];simp[Prod.ext_iff,c1]
 rw[if_neg (by simpa using c1)]
 by_cases c2:x.2.1.length=y.2.1.length
 case neg=>rw[if_pos (by simp;omega)];simp[Prod.ext_iff];exact fun _ e=>absurd (by rw[e]) c2
 rw[if_neg (by simp;omega)]
 by_cases c3:x.2.2.length=y.2.2.length
 case neg=>rw[if_pos (by simp;omega)];simp[Prod.ext_iff];exact fun _ _ e=>absurd (by rw[e]) c3
 rw[if_neg (by simp;omega)]
 rw[eqB (f:=db x y) x.2.1 y.2.1 (by omega) c2 (fun i h h'=>by
  simp only[db,cd h,if_true,aw h,aw h',Option.bind_some,ae (show i<9223372036854775807 by omega)]
  by_cases c:x.2.1[i] =y.2.1[i] <;> simp[c]) (by simp only[db,bu];rfl)]
 by_cases c4:x.2.1=y.2.1
 case neg=>rw[if_neg c4];simp[Prod.ext_iff,c4]
 rw[if_pos c4]
 rw[eqB (f:=de x y) x.2.2 y.2.2 (by omega) c3 (fun i h h'=>by
  obtain ⟨r,e,hr'⟩:=Bo x.2.2[i] y.2.2[i] ((hr _ (List.getElem_mem h)).1)
  simp only[de,cd h,if_true,aw h,aw h',Option.bind_some,ae (show i<9223372036854775807 by omega),e]
  by_cases c:x.2.2[i] =y.2.2[i]
  ·rw[if_neg (by simpa using hr'.2 c),if_pos c]
  ·rw[if_pos (by simpa using fun e=>c (hr'.1 e)),if_neg c]) (by simp only[de,bu];rfl)]
 by_cases c5:x.2.2=y.2.2
 ·rw[if_pos c5];simp[Prod.ext_iff,c1,c4,c5]
 ·rw[if_neg c5];simp[Prod.ext_iff,c5]
theorem JB (xs ys:List Bool) (hN:xs.length≤9223372036854775807):cx xs ys=some (decide (xs=ys)):=
 eqL (f:=br xs ys) xs ys hN (fun i h h'=>by
  simp only[br,cd h,if_true,aw h,aw h',Option.bind_some,ae (show i<9223372036854775807 by omega)]
  by_cases c:xs[i] =ys[i] <;> simp[c]) (by simp only[br,bu];rfl)
theorem uK (x y:AutT) (hx:Data.sm x):cz x y=some (decide (x=y)):=by
 obtain ⟨-,⟨ha,-⟩,hn,hr⟩:=hx
 unfold cz
 by_cases c1:x.1=y.1
 case neg=>rw[if_neg (by simpa using c1)];simp[Prod.ext_iff,c1]
 rw[if_pos (by simpa using c1),JB _ _ (by omega)];simp only[Option.bind_some]
 by_cases c2:x.2.1=y.2.1
 case neg=>rw[if_neg (by simpa using c2)];simp[Prod.ext_iff,c2]
 rw[if_pos (by simpa using c2)]
 have:aY x.2.2 y.2.2 (fun a0 a1=>dK a0 a1)=some (decide (x.2.2=y.2.2)):=
  eqL (f:=aB x.2.2 y.2.2 _) x.2.2 y.2.2 (by omega) (fun i h h'=>by
   simp only[aB,cd h,if_true,aw h,aw h',Option.bind_some,ae (show i<9223372036854775807 by omega),dK]
   rw[zR _ _ (by have:x.2.2[i].length≤1048576:=(hr _ (List.getElem_mem h)).1;omega)];simp only[Option.bind_some]
   by_cases c:x.2.2[i] =y.2.2[i] <;> simp[c]) (by simp only[aB,bu];rfl)
 rw[this]
 by_cases c3:x.2.2=y.2.2 <;> simp[Prod.ext_iff,c1,c2,c3]
abbrev QT:=Int×List Tok×Int
abbrev GY:=List AutT×List QT
theorem JC (x y:List Tok) (hx:x.length≤1048576):iC x y=some (decide (x=y)):=by
 unfold iC
 exact eqL (f:=e7 x y) x y (by omega) (fun i h h'=>by
  simp only[e7,cd h,if_true,aw h,aw h',Option.bind_some,eD,ae (show i<9223372036854775807 by omega)]
  refine gj ?_;simp only[Bool.and_true,Bool.and_eq_true,beq_iff_eq];exact Qc) (by simp only[e7,bu];rfl)
theorem GZ (x y:List Tok) (hx:x.length≤1048576):bw x y=some (decide (x=y)):=by
 unfold bw
 exact eqL (f:=bj x y) x y (by omega) (fun i h h'=>by
  simp only[bj,cd h,if_true,aw h,aw h',Option.bind_some,eD,ae (show i<9223372036854775807 by omega)]
  refine gj ?_;simp only[Bool.and_true,Bool.and_eq_true,beq_iff_eq];exact Qc) (by simp only[bj,bu];rfl)
theorem JD (x y:List Tok) (hx:x.length≤1048576):iH x y=some (decide (x=y)):=by
 unfold iH
 rw[GZ x y hx];rfl
theorem xS (x y:GY) (hx:Data.sm x):dF x y=some (decide (x=y)):=by
 obtain ⟨⟨ha,hA⟩,hq,hQ⟩:=hx
 unfold dF
 by_cases h1:x.1.length=y.1.length
 ·by_cases h2:x.2.length=y.2.length
  ·rw[if_neg (by rw[h1];simp),if_neg (by rw[h2];simp)]
   rw[eqB (f:=cH x y) x.1 y.1 (by omega) h1 (fun i h h'=>by
    simp only[cH,cd h,if_true,aw h,aw h',Option.bind_some,eD,uJ x.1[i] y.1[i] (hA _ (List.getElem_mem h)),ae (show i<9223372036854775807 by omega)]
    exact gj (by simp)) (by simp only[cH,bu];rfl)]
   rw[eqB (f:=cJ x y) x.2 y.2 (by omega) h2 (fun i h h'=>by
    have e:=JC x.2[i].2.1 y.2[i].2.1 (hQ _ (List.getElem_mem h)).2.1.1
    simp only[cJ,cd h,if_true,aw h,aw h',Option.bind_some,e,ae (show i<9223372036854775807 by omega)]
    generalize x.2[i] =u;generalize y.2[i] =v
    by_cases e1:u.1=v.1 <;> by_cases e2:u.2.1=v.2.1 <;> by_cases e3:u.2.2=v.2.2 <;> simp[Prod.ext_iff,e1,e2,e3]) (by simp only[cJ,bu];rfl)]
   by_cases e1:x.1=y.1 <;> by_cases e2:x.2=y.2 <;> simp[Prod.ext_iff,e1,e2]
  ·have:x.2≠y.2:=fun e=>h2 (by rw[e])
   rw[if_neg (by rw[h1];simp),if_pos (by simp;omega)];simp[Prod.ext_iff,this]
 ·have:x.1≠y.1:=fun e=>h1 (by rw[e])
  rw[if_pos (by simp;omega)];simp[Prod.ext_iff,this]
theorem DP (x y:QT) (hx:Data.sm x):dX x y=some (decide (x=y)):=by
 unfold dX
 rw[JD x.2.1 y.2.1 hx.2.1.1];simp only[Option.bind_some]
 by_cases h1:x.1=y.1 <;> by_cases h2:x.2.1=y.2.1 <;> by_cases h3:x.2.2=y.2.2 <;> simp[Prod.ext_iff,h1,h2,h3]
theorem xT (x y:GY) (hx:Data.sm x):dL x y=some (decide (x=y)):=by
 obtain ⟨⟨ha,hA⟩,hq,hQ⟩:=hx
 unfold dL
 have e:aA x.1 y.1 (fun a0 a1=>cz a0 a1)=some (decide (x.1=y.1)):=
  eqL (f:=aq x.1 y.1 _) x.1 y.1 (by omega) (fun i h h'=>by
   simp only[aq,cd h,if_true,aw h,aw h',Option.bind_some,eD,ae (show i<9223372036854775807 by omega),uK x.1[i] y.1[i] (hA _ (List.getElem_mem h))]
   exact gj (by simp)) (by simp only[aq,bu];rfl)
 have e':az x.2 y.2 (fun a0 a1=>dX a0 a1)=some (decide (x.2=y.2)):=
  eqL (f:=al x.2 y.2 _) x.2 y.2 (by omega) (fun i h h'=>by
   simp only[al,cd h,if_true,aw h,aw h',Option.bind_some,eD,ae (show i<9223372036854775807 by omega),DP x.2[i] y.2[i] (hQ _ (List.getElem_mem h))]
   exact gj (by simp)) (by simp only[al,bu];rfl)
 rw[e,e'];simp only[Option.bind_some]
 by_cases h1:x.1=y.1 <;> by_cases h2:x.2=y.2 <;> simp[Prod.ext_iff,h1,h2]
theorem oc {R S:Type} {f g:S→Option (Out R S)} (Inv:Nat→S→Prop) (h: ∀i s,Inv i s→g s=f s∧ ∀s',f s=some (.nxt s')→Inv (i+1) s'): ∀(k i:Nat) (s:S),Inv i s→ak g k s=ak f k s
 | 0,_,_,_=>rfl
 | k+1,i,s,hI=>by
  obtain ⟨h1,h2⟩:=h i s hI
  rw[ak,ak,h1]
  cases e:f s with
  | none=>rfl
  | some o =>
   cases o with
   | nxt s'=>exact oc Inv h k (i+1) s' (h2 s' e)
   | brk s'=>rfl
   | ret r=>rfl
theorem CE {f g:Int→Option (Out Int Int)} (N:Nat) (hN:N≤1048576) (h: ∀i:Nat,i<N→f (i:Int)=some (.ret (i:Int))∨f (i:Int)=some (.nxt ((i+1:Nat):Int))) (he:f (N:Int)=some (.brk (N:Int))) (hfg: ∀i:Nat,i≤N→g (i:Int)=f (i:Int)) :
  ∃r:Int,aE (ak f aN 0) (fun r=>some r) (fun _=>some (-1))=some r∧aE (ak g aN 0) (fun r=>some r) (fun _=>some (-1))=some r∧(r= -1∨ ∃i:Nat,i<N∧r=(i:Int)):=by
 have hs:ak g aN 0=ak f aN 0:=oc (fun i s=>s=(i:Int)∧i≤N) (fun i s ⟨e,hi⟩=>by
  subst e
  refine ⟨hfg i hi,fun s' e=>?_⟩
  by_cases c:i<N
  ·rcases h i c with e2 | e2
   ·rw[e2] at e;cases e
   ·rw[e2] at e;cases e;exact ⟨rfl,c⟩
  ·obtain rfl:i=N:=by omega
   rw[he] at e;cases e) aN 0 0 ⟨rfl,Nat.zero_le _⟩
 rw[hs]
 obtain ⟨o,e,ho⟩:=cW (f:=f) (fun i s=>s=(i:Int)) (fun o=>o= .brk (N:Int)∨ ∃i:Nat,i<N∧o= .ret (i:Int)) N (fun i s hi hs=>by
  subst hs
  by_cases h1:i<N
  ·rcases h i h1 with h2 | h2
   ·exact .inr ⟨_,h2,(fun s' e=>by cases e),.inr ⟨i,h1,rfl⟩⟩
   ·exact .inl ⟨h1,_,h2,rfl⟩
  ·obtain rfl:i=N:=by omega
   exact .inr ⟨_,he,(fun s' e=>by cases e),.inl rfl⟩) (s:=0) rfl (oH _ (by omega))
 rw[e]
 rcases ho with rfl | ⟨i,hi,rfl⟩
 ·exact ⟨-1,rfl,rfl,.inl rfl⟩
 ·exact ⟨i,rfl,rfl,.inr ⟨i,hi,rfl⟩⟩
theorem DQ (l:List AutT) (a:AutT) (hl:l.length≤1048576) (hs: ∀x∈l,Data.sm x) (ha:Data.sm a): ∃r:Int,iP l a=some r∧aC l (fun a0=>iR a0 a)=some r∧(r= -1∨ ∃i:Nat,i<l.length∧r=(i:Int)):=by
 unfold iP aC
 have hf: ∀i (h:i<l.length),eM l a (i:Int)=if l[i] =a then some (.ret (i:Int)) else some (.nxt ((i+1:Nat):Int)):=fun i h=>by
  simp only[eM,cd h,if_true,aw h,Option.bind_some,eD,uJ l[i] a (hs _ (List.getElem_mem h)),ae (show i<9223372036854775807 by omega)]
  by_cases c:l[i] =a <;> simp[c]
 refine CE l.length hl (fun i h=>?_) (by simp only[eM,bu];rfl) (fun i hi=>?_)
 ·rw[hf i h];by_cases c:l[i] =a <;> simp[c]
 ·by_cases h:i<l.length
  ·rw[hf i h]
   simp only[a8,iR,cd h,if_true,aw h,Option.bind_some,eD,uK a l[i] ha,ae (show i<9223372036854775807 by omega)]
   by_cases c:l[i] =a
   ·simp[c]
   ·have: ¬a=l[i]:=fun e=>c e.symm
    simp[c,this]
  ·obtain rfl:i=l.length:=by omega
   simp only[eM,a8,bu];rfl
def Bs (n i:Nat) (s:Int×List AutT×List QT):Prop:=s.1=(i:Int)∧i≤n∧s.2.2.length=i∧s.2.1.length≤i∧(∀a∈s.2.1,Data.sm a)∧ ∀q∈s.2.2,Data.sm q∧0≤q.2.2∧q.2.2<(s.2.1.length:Int)
theorem CF {qs:List QT} (hq:Data.sm qs) {i:Nat} {s:Int×List AutT×List QT} (hI:Bs qs.length i s):gL qs s=bX qs s ∧
  ((i<qs.length∧ ∃s',bX qs s=some (.nxt s')∧Bs qs.length (i+1) s')∨ ∃o,bX qs s=some o∧(∀s',o≠ .nxt s')∧(o= .ret (([],[]),false)∨o= .brk s∧i=qs.length)):=by
 obtain ⟨hn,hs⟩:=aM hq
 obtain ⟨s1,A,Q⟩:=s
 obtain ⟨h1,h2,h3,h4,h5,h6⟩:=hI
 simp only at h1 h3 h4 h5 h6
 subst h1
 by_cases hi:i<qs.length
 ·have hqi:=hs _ (List.getElem_mem hi)
  obtain ⟨r,es,ei,hr⟩:=Br (e:=qs[i].2.1) hqi.2.1.1
  obtain ⟨k,ks,ki,hk⟩:=DQ A r.1 (by omega) h5 hr
  have a1:cP 56 A [r.1] =some (A++ [r.1]):=ay (by simp;omega)
  have a2: ∀y,cP 40 Q [y] =some (Q++ [y]):=fun y=>ay (by simp;omega)
  have a3:hZ qs[i].2.1=some qs[i].2.1:=by unfold hZ;rw[ay (by have:=hqi.2.1.1;simp;omega)];rfl
  have a4:iS qs[i].2.1=some qs[i].2.1:=by unfold iS;rw[ay (by have:=hqi.2.1.1;simp;omega)];rfl
  unfold gL bX
  simp only[cd hi,if_true,aw hi,Option.bind_some,es,ei,Ol,ML,eD,ks,ki,a1,a2,a3,a4,ae (show i<9223372036854775807 by omega)]
  by_cases c1:r.2=true
  case neg =>
   simp only[c1,Bool.false_eq_true,if_false]
   exact ⟨by first | trivial | rfl,.inr ⟨_,rfl,(fun s' e=>by cases e),.inl rfl⟩⟩
  simp only[c1,if_true]
  by_cases c2:1≤qs[i].1∧qs[i].1≤99
  case neg =>
   simp only[c2,decide_false,Bool.false_eq_true,if_false]
   exact ⟨by first | trivial | rfl,.inr ⟨_,rfl,(fun s' e=>by cases e),.inl rfl⟩⟩
  simp only[c2,decide_true,if_true]
  have fin: ∃s':Int×List AutT×List QT,(∀(y:Option (Out (GY×Bool) (Int×List AutT×List QT))),True)∧(Option.bind (if decide (k<0) then some ((A.length:Int),A++ [r.1],Q) else some (k,A,Q)) fun s10:Int×List AutT×List QT=>(cP 40 s10.2.2 [(qs[i].1,qs[i].2.1,s10.1)]).bind fun z18=>some (.nxt (((i+1:Nat):Int),s10.2.1,z18)):Option (Out (GY×Bool) (Int×List AutT×List QT)))=some (.nxt s')∧Bs qs.length (i+1) s':=by
   rcases hk with rfl | ⟨j,hj,rfl⟩
   ·refine ⟨(((i+1:Nat):Int),A++ [r.1],Q++ [(qs[i].1,qs[i].2.1,(A.length:Int))]),fun _=>trivial,?_,rfl,hi,by simp;omega,by simp;omega,fun a ha=>?_,fun q hq'=>?_⟩
    ·simp only[show decide ((-1:Int)<0)=true from rfl,if_true,Option.bind_some,a2]
    ·simp only[List.mem_append,List.mem_singleton] at ha
     rcases ha with ha | rfl
     ·exact h5 a ha
     ·exact hr
    ·simp only[List.mem_append,List.mem_singleton] at hq'
     simp only[List.length_append,List.length_singleton]
     rcases hq' with hq' | rfl
     ·obtain ⟨b1,b2,b3⟩:=h6 q hq'
      exact ⟨b1,b2,by omega⟩
     ·exact ⟨⟨trivial,hqi.2.1,trivial⟩,by simp,by simp;omega⟩
   ·refine ⟨(((i+1:Nat):Int),A,Q++ [(qs[i].1,qs[i].2.1,(j:Int))]),fun _=>trivial,?_,rfl,hi,by simp;omega,by simp only;omega,h5,fun q hq'=>?_⟩
    ·have:decide ((j:Int)<0)=false:=by simp
     simp only[this,Bool.false_eq_true,if_false,Option.bind_some,a2]
    ·simp only[List.mem_append,List.mem_singleton] at hq'
     rcases hq' with hq' | rfl
     ·exact h6 q hq'
     ·exact ⟨⟨trivial,hqi.2.1,trivial⟩,by simp,by simp;omega⟩
  obtain ⟨s',-,e,hI'⟩:=fin
  by_cases c3:(i:Int)>0
  ·have hp:i - 1<qs.length:=by omega
   have hw:IntKind.i64.wrap ((i:Int) - 1)=((i - 1:Nat):Int):=by rw[nD (by omega)];omega
   simp only[c3,decide_true,if_true,hw,aw hp,Option.bind_some]
   by_cases c4:qs[i - 1].1≥qs[i].1
   ·simp only[c4,decide_true,if_true]
    exact ⟨by first | trivial | rfl,.inr ⟨_,rfl,(fun s' e=>by cases e),.inl rfl⟩⟩
   ·simp only[c4,decide_false,Bool.false_eq_true,if_false]
    exact ⟨by first | trivial | rfl,.inl ⟨hi,s',e,hI'⟩⟩
  ·simp only[c3,decide_false,Bool.false_eq_true,if_false]
   exact ⟨by first | trivial | rfl,.inl ⟨hi,s',e,hI'⟩⟩
 ·obtain rfl:i=qs.length:=by omega
  unfold gL bX
  simp only[bu,Bool.false_eq_true,if_false]
  exact ⟨by first | trivial | rfl,.inr ⟨_,rfl,(fun s' e=>by cases e),.inr (by first | exact ⟨rfl,rfl⟩ | exact ⟨trivial,rfl⟩ | exact ⟨rfl,trivial⟩ | simp)⟩⟩
def M0 (r:GY):Prop:=Data.sm r∧ ∀q∈r.2,0≤q.2.2∧q.2.2<(r.1.length:Int)
theorem JE {qs:List QT} (hq:Data.sm qs): ∃r:GY,∃b:Bool,kF qs=(if (qs.length:Int)>4 then some (([],[]),false) else some (r,b))∧nX qs=some (r,b&&decide ((qs.length:Int)≤4))∧M0 r:=by
 have hn:=(aM hq).1
 have h0:Bs qs.length 0 (0,[],[]):=⟨rfl,Nat.zero_le _,rfl,Nat.le_refl _,fun _ h=>(by cases h),fun _ h=>(by cases h)⟩
 have hs:ak (gL qs) aN (0,[],[])=ak (bX qs) aN (0,[],[]):=oc (Bs qs.length) (fun i s hI=>by
  obtain ⟨e,h⟩:=CF hq hI
  refine ⟨e,fun s' e'=>?_⟩
  rcases h with ⟨_,s2,e2,hI2⟩ | ⟨o,e2,hne,-⟩
  ·rw[e2] at e';cases e';exact hI2
  ·rw[e2] at e';cases e';exact absurd rfl (hne s')) aN 0 _ h0
 obtain ⟨o,e,ho⟩:=cW (f:=bX qs) (Bs qs.length) (fun o=>o= .ret (([],[]),false)∨ ∃A Q,o= .brk ((qs.length:Int),A,Q)∧Bs qs.length qs.length ((qs.length:Int),A,Q)) qs.length (fun i s hi hI=>by
  rcases (CF hq hI).2 with h | ⟨o,e,hne,h⟩
  ·exact .inl h
  ·refine .inr ⟨o,e,hne,?_⟩
   rcases h with h | ⟨h,rfl⟩
   ·exact .inl h
   ·obtain ⟨s1,A,Q⟩:=s
    obtain ⟨rfl,-⟩:=id hI
    exact .inr ⟨A,Q,h,hI⟩) h0 (oH _ (by omega))
 unfold kF nX
 rw[hs,e]
 rcases ho with rfl | ⟨A,Q,rfl,-,-,h3,h4,h5,h6⟩
 ·refine ⟨([],[]),false,?_,rfl,⟨⟨Nat.zero_le _,fun _ h=>(by cases h)⟩,Nat.zero_le _,fun _ h=>(by cases h)⟩,fun _ h=>(by cases h)⟩
  by_cases c:(qs.length:Int)>4 <;> simp[c,aE]
 ·simp only at h3 h4 h5 h6
  refine ⟨(A,Q),true,?_,by simp[aE],⟨⟨show A.length≤1048576 by omega,h5⟩,show Q.length≤1048576 by omega,fun q h=>(h6 q h).1⟩,fun q h=>(h6 q h).2⟩
  by_cases c:(qs.length:Int)>4 <;> simp[c,aE]
theorem DR {r:GY} (hr:Data.sm r): ∃b,dG r=some b∧dM r=some b∧(b=true→M0 r):=by
 obtain ⟨x,b,e1,e2,hx⟩:=JE hr.2
 unfold dG dM
 rw[e1,e2]
 by_cases c:(r.2.length:Int)>4
 ·have c': ¬(r.2.length:Int)≤4:=by omega
  exact ⟨false,by simp[c],by simp[c'],fun e=>by cases e⟩
 ·have c':(r.2.length:Int)≤4:=by omega
  cases b with
  | false=>exact ⟨false,by simp[c],by simp,fun e=>by cases e⟩
  | true =>
   simp only[c,if_false,Option.bind_some,if_true,c',decide_true,Bool.and_true,eD,xS x r hx.1,xT x r hx.1]
   exact ⟨_,rfl,rfl,fun e=>by rw[←of_decide_eq_true e];exact hx⟩
end D
set_option synthInstance.maxSize 20000
set_option synthInstance.maxHeartbeats 2000000
namespace D
open Go.RowKit
theorem M2 (a:AutT) (ha:Data.sm a):l5 a=some a:=by
 obtain ⟨-,⟨hb,-⟩,hn,hr⟩:=ha
 unfold l5
 rw[ay (by simp;omega)];simp only[Option.bind_some,List.nil_append]
 have:=a7 (f:=fB a) (fun i=>((i:Int),a.1,a.2.1,a.2.2.take i)) a.2.2.length (fun i hi=>by
  unfold fB
  have h1:cP 8 ([] :List Int) a.2.2[i] =some a.2.2[i]:=by rw[ay (by have:a.2.2[i].length≤1048576:=(hr _ (List.getElem_mem hi)).1;simp;omega)];rfl
  simp only[cd hi,if_true,aw hi,Option.bind_some,h1,ae (show i<9223372036854775807 by omega)]
  rw[ay (by simp;omega)]
  simp only[Option.bind_some]
  rw[List.take_succ_eq_append_getElem hi]) (by
  unfold fB
  simp only[bu,Bool.false_eq_true,if_false]) (oH _ (by omega))
 have e:ak (fB a) aN (0,a.1,a.2.1,[])=_:=this
 rw[e]
 simp only[aE,List.take_length]
theorem M3 (a:AutT) (ha:Data.sm a):fa a=some a:=by
 obtain ⟨-,⟨hb,-⟩,hn,hr⟩:=ha
 unfold fa
 rw[ay (by simp;omega)];simp only[Option.bind_some,List.nil_append]
 have:=a7 (f:=cr a) (fun i=>((i:Int),a.1,a.2.1,a.2.2.take i)) a.2.2.length (fun i hi=>by
  unfold cr eR
  have h1:cP 8 ([] :List Int) a.2.2[i] =some a.2.2[i]:=by rw[ay (by have:a.2.2[i].length≤1048576:=(hr _ (List.getElem_mem hi)).1;simp;omega)];rfl
  simp only[cd hi,if_true,aw hi,Option.bind_some,h1,ae (show i<9223372036854775807 by omega)]
  rw[ay (by simp;omega)]
  simp only[Option.bind_some]
  rw[List.take_succ_eq_append_getElem hi]) (by
  unfold cr
  simp only[bu,Bool.false_eq_true,if_false]) (oH _ (by omega))
 have e:ak (cr a) aN (0,a.1,a.2.1,[])=_:=this
 rw[e]
 simp only[aE,List.take_length]
end D
set_option synthInstance.maxSize 20000
set_option synthInstance.maxHeartbeats 2000000
namespace D
open Go.RowKit
theorem G0 (r:GY) (id:Int) (hl:r.2.length≤1048576): ∃k:Int,jt r id=some k∧jy r id=some k∧(k= -1∨ ∃i:Nat,i<r.2.length∧k=(i:Int)):=by
 unfold jt jy bc
 have hf: ∀i (h:i<r.2.length),cQ r id (i:Int)=if r.2[i].1=id then some (.ret (i:Int)) else some (.nxt ((i+1:Nat):Int)):=fun i h=>by
  simp only[cQ,cd h,if_true,aw h,Option.bind_some,ae (show i<9223372036854775807 by omega)]
  by_cases c:r.2[i].1=id <;> simp[c]
 obtain ⟨k,e1,e2,h⟩:=CE (f:=cQ r id) (g:=aJ r.2 fun a0=>gJ a0 id) r.2.length hl (fun i h=>by
  rw[hf i h];by_cases c:r.2[i].1=id <;> simp[c]) (by simp only[cQ,bu];rfl) (fun i hi=>by
  by_cases h:i<r.2.length
  ·rw[hf i h]
   simp only[aJ,gJ,cd h,if_true,aw h,Option.bind_some,ae (show i<9223372036854775807 by omega)]
   by_cases c:r.2[i].1=id <;> simp[c]
  ·obtain rfl:i=r.2.length:=by omega
   simp only[cQ,aJ,bu];rfl)
 refine ⟨k,e1,?_,h⟩
 rw[e2];rfl
end D
set_option synthInstance.maxSize 20000
set_option synthInstance.maxHeartbeats 2000000
namespace D
open Go.RowKit
end D
namespace D
open Go.RowKit
section
variable {nx:Int×Int→List (Option (Int×Int))} {first:Int×Int} {G:Int×Int→Prop} {B:Nat}
end
end D
namespace D
open Go.RowKit
theorem G5 {a:AutT} {n:Nat} (V:VA a n) {s:Int} (h0:0≤s) (h1:s<n):bd a s=some (nth a.2.1 s):=by
 unfold bd
 rw[if_pos (by simpa using h0),V.acc h0 h1];rfl
theorem xU {a:AutT} {s:Int} (h0:s<0):bd a s=some false:=by
 unfold bd;rw[if_neg (by simp;omega)]
end D
namespace D
open Go.RowKit
section
variable {a b:AutT} {n m:Nat}
def mvn (a:AutT) (s:Int) (k:Nat):Int:=if s<0 then -1 else mv a s k
def acn (a:AutT) (s:Int):Bool:=if s<0 then false else nth a.2.1 s
theorem KI (V:VA a n) {s:Int} {k:Nat} (h0: -1≤s) (h1:s<n) (hk:k<9): -1≤mvn a s k∧mvn a s k<n:=by
 unfold mvn
 split
 ·have:=V.pos;omega
 ·exact V.mv (by omega) h1 hk
theorem OH (V:VA a n) {s:Int} {k:Nat} (h0: -1≤s) (h1:s<n) (hk:k<9):ba a s (k:Int)=some (mvn a s k):=by
 unfold mvn
 split
 ·exact DI ‹_›
 ·exact Kt V (by omega) h1 hk
theorem OI (V:VA a n) {s:Int} {k:Nat} (h0: -1≤s) (h1:s<n) (hk:k<9):jU a s (k:Int)=some (mvn a s k):=by
 unfold mvn jU
 by_cases c:s<0
 ·rw[if_pos (by simpa using c),if_pos c]
 ·rw[if_neg (by simpa using c),if_neg c,V.get (by omega) h1];simp only[Option.bind_some]
  rw[V.get2 (by omega) h1 hk];rfl
theorem OJ (V:VA a n) {s:Int} (h0: -1≤s) (h1:s<n):bd a s=some (acn a s):=by
 unfold acn
 split
 ·exact xU ‹_›
 ·exact G5 V (by omega) h1
theorem OK (V:VA a n) {s:Int} (h0: -1≤s) (h1:s<n):gF a s=some (acn a s):=by
 unfold acn gF
 by_cases c:s<0
 ·rw[if_neg (by simp;omega),if_pos c]
 ·rw[if_pos (by simp;omega),if_neg c,V.acc (by omega) h1];rfl
def nxP (a b:AutT) (x:Int×Int):List (Option (Int×Int)):=(List.range 9).map fun k=>some (mvn a x.1 k,mvn b x.2 k)
def inP (n m:Nat) (x:Int×Int):Prop:=(-1≤x.1∧x.1<n)∧ -1≤x.2∧x.2<m
theorem KJ {x:Int×Int} {k:Nat} (hk:k<9):nth (nxP a b x) (k:Int)=some (mvn a x.1 k,mvn b x.2 k):=by
 have:k<(nxP a b x).length:=by simp[nxP];omega
 rw[bq this];simp[nxP]
theorem Bt (n m:Nat) (l:List (Int×Int)) (hd:l.Nodup) (h: ∀x∈l,inP n m x):l.length≤(n+1)*(m+1):=by
 have:=hd.length_le_of_subset (l₂:=(List.range (n+1)).flatMap fun i:Nat=>(List.range (m+1)).map fun j:Nat=>((i:Int) - 1,(j:Int) - 1)) (fun x hx=>by
  obtain ⟨⟨h0,h1⟩,h2,h3⟩:=h x hx
  refine List.mem_flatMap.2 ⟨(x.1+1).toNat,List.mem_range.2 (by omega),List.mem_map.2 ⟨(x.2+1).toNat,List.mem_range.2 (by omega),?_⟩⟩
  exact Prod.ext (by show (((x.1+1).toNat:Nat):Int) - 1=x.1;omega) (by show (((x.2+1).toNat:Nat):Int) - 1=x.2;omega))
 have e:((List.range (n+1)).flatMap fun i:Nat=>(List.range (m+1)).map fun j:Nat=>((i:Int) - 1,(j:Int) - 1)).length=(n+1)*(m+1):=by
  rw[List.length_flatMap]
  simp only[List.length_map,List.length_range]
  rw[List.map_const',List.sum_replicate_nat,List.length_range]
 omega
theorem uL (Va:VA a n) (Vb:VA b m) (hn:n≤12) (hm:m≤12):NumOk (nxP a b) (a.1,b.1) (inP n m) 169 where
 g0:=⟨⟨by have:=Va.start.1;show -1≤a.1;omega,Va.start.2⟩,by have:=Vb.start.1;show -1≤b.1;omega,Vb.start.2⟩
 gn x hx y hy:=by
  obtain ⟨k,hk,e⟩:=List.mem_map.1 hy
  have hk:k<9:=List.mem_range.1 hk
  obtain rfl:=Option.some.inj e
  exact ⟨KI Va hx.1.1 hx.1.2 hk,KI Vb hx.2.1 hx.2.2 hk⟩
 len x _:=by simp[nxP]
 bound l hd h:=by
  have h1:=Bt n m l hd h
  have:(n+1)*(m+1)≤13*13:=Nat.mul_le_mul (by omega) (by omega)
  omega
end
end D
namespace D
open Go.RowKit
theorem cpw {l:List Int} (h:l.length≤1000000):eR l=some l:=by
 unfold eR
 rw[ay (by simp;omega)];rfl
section
variable {κ:Type} [DecidableEq κ]
def SeenOf (M:List (κ×Bool)) (l:List (κ)):Prop:=M.length=l.length∧ ∀x,M.lookup x=if x∈l then some true else none
theorem SeenOf.one (x:κ):SeenOf [(x,true)] [x]:=by
 refine ⟨rfl,fun y=>?_⟩
 rw[List.lookup_cons]
 by_cases e:y=x
 ·subst e;simp
 ·simp only[show (y==x)=false from by simp[e]];simp[e]
theorem SeenOf.put {M:List (κ×Bool)} {l:List (κ)} (h:SeenOf M l) {x:κ} (hx:x∉l):SeenOf ((x,true)::M) (l++ [x]):=by
 refine ⟨by simp[h.1],fun y=>?_⟩
 rw[List.lookup_cons]
 by_cases e:y=x
 ·subst e;simp
 ·simp only[show (y==x)=false from by simp[e],h.2 y,List.mem_append,List.mem_singleton,e,or_false]
end
section
variable {nx:Int×Int→List (Option (Int×Int))} {first:Int×Int} {G:Int×Int→Prop} {B:Nat} {p1:Int×Int→Int→Option (Int×Int)} {p2:Int×Int→Option Bool} {tt:Int×Int→Bool}
theorem DS {l:List (Int×Int)} {Q:List ((Int×Int)×List Int)} {M:List ((Int×Int)×Bool)} {os:List (Option (Int×Int))} {i:Nat} {x4:(Int×Int)×List Int}
  (hi:i≤l.length) (hos:os.length=9) (hM:SeenOf M l) (hQ:Q.map (·.1)=l.drop i) (hw: ∀q∈Q,q.2.length≤i) (hx:x4.2.length≤i) (hok: ∀y,some y∈os→Ad y=true) (hB: ∀k,(nbS l (os.take k)).length≤1000)
  (hp: ∀(k:Nat),k<9→ ∃y,p1 x4.1 (k:Int)=some y∧nth os (k:Int)=some y) :
  ∃Q' M',ak (bM p1 x4) aN (Q,0,M)=some (.brk (Q',9,M'))∧SeenOf M' (nbS l os)∧Q'.map (·.1)=(nbS l os).drop i∧ ∀q∈Q',q.2.length≤i+1:=by
 obtain ⟨s',e,Q',M',rfl,hM',hQ',hw'⟩:=iY (f:=bM p1 x4) (fun k s=> ∃Q' M',s=(Q',(k:Int),M')∧SeenOf M' (nbS l (os.take k))∧Q'.map (·.1)=(nbS l (os.take k)).drop i∧ ∀q∈Q',q.2.length≤i+1) 9 (by
  rintro k s hk ⟨Q1,M1,rfl,hM1,hQ1,hw1⟩
  have hpre:=fc l (os.take k)
  have hlen:=hpre.length_le
  have hBk:=hB k
  have hB0:=hB 0
  obtain ⟨y,hy,ho⟩:=hp k hk
  have hoky:Ad y=true:=hok y (ho ▸ bT (by omega) (by omega))
  have hQl:Q1.length≤1000:=by
   have:=congrArg List.length hQ1
   simp at this;omega
  unfold bM
  simp only[eD]
  rw[if_pos (by simp;omega),hy,take_one (by omega),mi];simp only[Option.bind_some]
  rw[show chk (Ad y=true)=some () from by unfold chk;rw[if_pos hoky]];simp only[Option.bind_some,ae (show k<9223372036854775807 by omega)]
  rw[show lkM M1 y=_ from hM1.2 y,ho]
  by_cases c:y∈nbS l (os.take k)
  ·simp only[c,if_true,Option.getD_some,Option.bind_some]
   refine ⟨_,rfl,Q1,M1,rfl,?_,?_,hw1⟩
   ·rw[fS c];exact hM1
   ·rw[fS c];exact hQ1
  ·have hput:yf M1 Ad bOk y true=some ((y,true)::M1):=by
    unfold yf
    rw[if_pos ⟨by have:=hM1.1;omega,hoky,rfl⟩]
   have hl9:l.length≤1000:=by omega
   simp only[c,if_false,Option.getD_none,Bool.false_eq_true,hput,Option.bind_some]
   rw[cpw (by omega)];simp only[Option.bind_some]
   rw[ay (by simp;omega)];simp only[Option.bind_some]
   rw[ay (by simp;omega)];simp only[Option.bind_some]
   refine ⟨_,rfl,_,_,rfl,?_,?_,?_⟩
   ·rw[fm c];exact hM1.put c
   ·rw[fm c,List.map_append,hQ1,List.drop_append_of_le_length (by omega)];rfl
   ·intro q hq
    rcases List.mem_append.1 hq with h | h
    ·exact hw1 q h
    ·obtain rfl:=List.mem_singleton.1 h
     simp;omega) (by
  rintro s ⟨Q1,M1,rfl,-⟩
  unfold bM
  simp) (s:=(Q,0,M)) ⟨Q,M,rfl,hM,hQ,fun q hq=>by have:=hw q hq;omega⟩ (by unfold aN;omega)
 rw[List.take_of_length_le (by omega)] at hM' hQ'
 exact ⟨Q',M',e,hM',hQ',hw'⟩
theorem M4 (H:NumOk nx first G B) (hB:B≤1000) (hok: ∀x,G x→Ad x=true) (h2: ∀x,G x→p2 x=some (tt x)) (h1: ∀x (k:Nat),G x→k<9→ ∃y,p1 x (k:Int)=some y∧nth (nx x) (k:Int)=some y) :
  ∃N w,bfE nx first N∧ct first p1 p2=some (w,(bfS nx first N).any tt):=by
 obtain ⟨N,hNB,hN⟩:=Cu (nx:=nx) (first:=first) (H.le)
 refine ⟨N,?_⟩
 unfold ct
 simp only[eD]
 rw[show yf ([] :List ((Int×Int)×Bool)) Ad bOk first true=some [(first,true)] from by unfold yf;rw[if_pos ⟨by simp,hok _ H.g0,rfl⟩]];simp only[Option.bind_some]
 obtain ⟨o,e,ho⟩:=cW (f:=dN p1 p2) (fun i s=> ∃Q M,s=(Q,M)∧SeenOf M (bfS nx first i)∧Q.map (·.1)=(bfS nx first i).drop i∧(∀q∈Q,q.2.length≤i)∧((bfS nx first i).take i).any tt=false)
  (fun o=>(∃w,o= .ret (w,true)∧(bfS nx first N).any tt=true)∨ ∃s,o= .brk s∧(bfS nx first N).any tt=false) N (s:=([(first,([] :List Int))],[(first,true)])) (by
  rintro i s hi ⟨Q,M,rfl,hM,hQ,hw,ha⟩
  unfold dN
  simp only[eD]
  have hl:=congrArg List.length hQ
  simp only[List.length_map,List.length_drop] at hl
  by_cases hiN:i<N
  ·have hlt:=hN.2 i hiN
   have hle:=H.le i
   have hG:=H.at hlt
   cases Q with
   | nil=>simp at hl;omega
   | cons q Q =>
    have hq1:q.1=nth (bfS nx first i) (i:Int):=by
     have:(q.1::Q.map (·.1))=(bfS nx first i).drop i:=hQ
     rw[List.drop_eq_getElem_cons hlt] at this
     rw[bq hlt];exact (List.cons.inj this).1
    rw[if_pos (by simp <;> omega),show aI (q::Q) 0=some q from rfl];simp only[Option.bind_some]
    rw[h2 _ (hq1 ▸ hG)];simp only[Option.bind_some]
    cases ht:tt q.1 with
    | true =>
     refine .inr ⟨_,by rw[if_pos rfl,cpw (by have:=hw q (by simp);omega)];rfl,(fun s' e=>by cases e),.inl ⟨_,rfl,?_⟩⟩
     refine List.any_eq_true.2 ⟨q.1,?_,ht⟩
     exact (lK (nx:=nx) (first:=first) (by omega:i≤N)).subset (hq1 ▸ bT (by omega) (by omega))
    | false =>
     left
     refine ⟨hiN,?_⟩
     obtain ⟨Q',M',e,hM',hQ',hw'⟩:=DS (p1:=p1) (l:=bfS nx first i) (Q:=q::Q) (M:=M) (os:=nx (nth (bfS nx first i) (i:Int))) (i:=i) (x4:=q) (by omega) (H.len _ hG) hM hQ hw (hw q (by simp)) (fun y hy=>hok y (H.gn _ hG y hy)) (fun k=>by
      have:(nbS (bfS nx first i) ((nx (nth (bfS nx first i) (i:Int))).take k)).length≤B:=H.bound _ (kh (iZ i)) fun x hx=>by
       rcases nE.1 hx with hx | hx
       ·exact fO H.g0 H.gn i x hx
       ·exact H.gn _ hG x (List.mem_of_mem_take hx)
      omega) (fun k hk=>by rw[hq1];exact h1 _ k hG hk)
     rw[←eT hlt] at hM' hQ'
     have hp:=aZ (nx:=nx) (first:=first) i
     have hpl:=hp.length_le
     have hl':=congrArg List.length hQ'
     simp only[List.length_map,List.length_drop] at hl'
     simp only[Bool.false_eq_true,if_false]
     rw[ai e]
     simp only
     rw[show chk ((0:Int)≤1∧(1:Int)≤(Q'.length:Int))=some () from by unfold chk;rw[if_pos ⟨by omega,by omega⟩]]
     refine ⟨_,rfl,_,_,rfl,hM',?_,?_,?_⟩
     ·rw[List.map_drop,hQ',List.drop_drop]
     ·exact fun z hz=>hw' z (List.mem_of_mem_drop hz)
     ·have e:=n9 (nx:=nx) (first:=first) (acc:=tt) hlt
      have f: ∀l:List (Int×Int),l.any tt=(l.map tt).any id:=fun l=>by simp[List.any_map]
      rw[f,e,List.any_append,←f,ha,←hq1];simp[ht]
  ·obtain rfl:i=N:=by omega
   cases Q with
   | nil =>
    refine .inr ⟨_,by rw[if_neg (by simp)],(fun s' e=>by cases e),.inr ⟨_,rfl,?_⟩⟩
    rw[List.take_of_length_le (by have:=hN.1;omega)] at ha;exact ha
   | cons q Q=>have:=hN.1;simp at hl;omega) ⟨_,_,rfl,SeenOf.one first,rfl,by simp,rfl⟩ (nC (by omega))
 rcases ho with ⟨w,rfl,h⟩ | ⟨s,rfl,h⟩
 ·exact ⟨w,hN,by rw[cv e,h]⟩
 ·exact ⟨[],hN,by rw[ai e,h]⟩
end
end D
namespace D
open Go.RowKit
abbrev EntT:=Int×Int×Bool×Int×Int
def pr (z:EntT):Int×Int:=(z.1,z.2.1)
structure Ent (l:List EntT) (L:List (Int×Int)):Prop where
 map:l.map pr=L
 flat: ∀z∈l,z.2.2.1=false
 back: ∀j:Nat,0<j→j<l.length→0≤(nth l (j:Int)).2.2.2.1∧(nth l (j:Int)).2.2.2.1<j
theorem Ent.len {l:List EntT} {L:List (Int×Int)} (h:Ent l L):l.length=L.length:=by rw[←h.map];simp
theorem Ent.at {l:List EntT} {L:List (Int×Int)} (h:Ent l L) {i:Nat} (hi:i<l.length):(nth l (i:Int)).1=(nth L (i:Int)).1∧(nth l (i:Int)).2.1=(nth L (i:Int)).2:=by
 rw[←h.map,MF (by omega) (by omega)];exact ⟨rfl,rfl⟩
theorem Ent.snoc {l:List EntT} {L:List (Int×Int)} (h:Ent l L) {x y:Int} {i:Nat} (hi:i<l.length) (k:Int):Ent (l++ [(x,y,false,(i:Int),k)]) (L++ [(x,y)]) where
 map:=by rw[List.map_append,h.map];rfl
 flat z hz:=by
  rcases List.mem_append.1 hz with hz | hz
  ·exact h.flat z hz
  ·obtain rfl:=List.mem_singleton.1 hz;rfl
 back j h0 hj:=by
  by_cases c:j<l.length
  ·rw[gS (by omega) (by omega)];exact h.back j h0 c
  ·have:j=l.length:=by simp at hj;omega
   subst this
   have:nth (l++ [(x,y,false,(i:Int),k)]) (l.length:Int)=(x,y,false,(i:Int),k):=by rw[bq (by simp)];simp
   rw[this];exact ⟨by show (0:Int)≤(i:Int);omega,by show (i:Int)<(l.length:Int);omega⟩
theorem JF {l:List EntT} {L:List (Int×Int)} (h:Ent l L) (hl:l.length≤1000000) (x y f k:Int):nT l (x,y,false,f,k)=some (decide ((x,y)∈L)):=by
 unfold nT
 have:=scan (f:=jw l (x,y,false,f,k)) l (fun z=> ¬pr z=(x,y)) true (by omega) (by
  intro i hi
  have hf:=h.flat _ (bT (i:=(i:Int)) (by omega) (by omega))
  unfold jw
  rw[if_pos (by simp;omega),aj (by omega) (by omega)];simp only[Option.bind_some,ae (show i<9223372036854775807 by omega),hf]
  by_cases c1:(nth l (i:Int)).1=x
  ·by_cases c2:(nth l (i:Int)).2.1=y
   ·rw[if_pos (by simpa using c1),if_pos (by simpa using c2),if_pos (by rfl),if_neg (fun hc=>hc (Prod.ext c1 c2))]
   ·rw[if_pos (by simpa using c1),if_neg (by simpa using c2),if_pos (fun e=>c2 (congrArg Prod.snd e))]
  ·rw[if_neg (by simpa using c1),if_pos (fun e=>c1 (congrArg Prod.fst e))]) (by
  unfold jw
  rw[if_neg (by simp)])
 rcases this with ⟨e,hp⟩ | ⟨e,hp⟩
 ·rw[ai e,decide_eq_false]
  rintro hm
  rw[←h.map] at hm
  obtain ⟨z,hz,e⟩:=List.mem_map.1 hm
  exact hp z hz e
 ·rw[cv e,decide_eq_true]
  by_cases c:(x,y)∈L
  ·exact c
  ·refine absurd (fun z hz e=>c ?_) hp
   rw[←h.map,←e];exact List.mem_map.2 ⟨z,hz,rfl⟩
theorem G6 {l:List EntT} {L:List (Int×Int)} (h:Ent l L) (hl:l.length≤1000000) {i:Nat} (hi:i<l.length): ∃w,l6 l (i:Int)=some w:=by
 unfold l6
 obtain ⟨o,e,s,rfl⟩:=cW (f:=kX l) (fun n s=>0≤s.1∧s.1+n≤i∧s.2.length≤n) (fun o=> ∃s,o= .brk s) i (s:=((i:Int),[])) (by
  rintro n ⟨j,w⟩ hn ⟨h0,h1,h2⟩
  simp only at h0 h1 h2
  unfold kX
  simp only
  by_cases c:j>0
  ·have hb:=h.back j.toNat (by omega) (by omega)
   rw[Int.toNat_of_nonneg h0] at hb
   left
   refine ⟨by omega,?_⟩
   rw[if_pos (by simpa using c),aj (by omega) (by omega)];simp only[Option.bind_some]
   rw[ay (by simp;omega)];simp only[Option.bind_some]
   refine ⟨_,rfl,hb.1,?_,?_⟩
   ·show (nth l j).2.2.2.1+((n+1:Nat):Int)≤i;omega
   ·simp;omega
  ·exact .inr ⟨_,by rw[if_neg (by simpa using c)],(fun s' e=>by cases e),_,rfl⟩) ⟨by show (0:Int)≤(i:Int);omega,by show (i:Int)+((0:Nat):Int)≤(i:Int);omega,by simp⟩ (nC (by omega))
 exact ⟨_,ai e⟩
section
variable {a b:AutT} {n m:Nat}
def uM (a b:AutT) (x:Int×Int):Bool:=acn b x.2 && !acn a x.1
theorem Bu (Va:VA a n) (Vb:VA b m) (hn:n≤12) (hm:m≤12) {l:List EntT} {L:List (Int×Int)} {i:Nat} (hE:Ent l L) (hd:L.Nodup) (hG: ∀x∈L,inP n m x) (hi:i<L.length) :
  ∃l',ak (dW a b (l,(i:Int))) aN (l,0)=some (.brk (l',9))∧Ent l' (nbS L (nxP a b (nth L (i:Int)))):=by
 have hx:=hG _ (bT (i:=(i:Int)) (by omega) (by omega))
 have hos:(nxP a b (nth L (i:Int))).length=9:=by simp[nxP]
 have H:=uL Va Vb hn hm
 have hB: ∀k,(nbS L ((nxP a b (nth L (i:Int))).take k)).length≤169:=fun k=>H.bound _ (kh hd) fun x hx'=>by
  rcases nE.1 hx' with h | h
  ·exact hG x h
  ·exact H.gn _ hx x (List.mem_of_mem_take h)
 obtain ⟨s',e,l',rfl,hE'⟩:=iY (f:=dW a b (l,(i:Int))) (fun k s=> ∃l',s=(l',(k:Int))∧Ent l' (nbS L ((nxP a b (nth L (i:Int))).take k))) 9 (by
  rintro k s hk ⟨l1,rfl,hE1⟩
  have hpre:=fc L ((nxP a b (nth L (i:Int))).take k)
  have hlen:=hpre.length_le
  have hBk:=hB k
  have hl1:=hE1.len
  obtain ⟨g1,g2⟩:=hE1.at (i:=i) (by omega)
  rw[fe hpre (by omega) (by omega)] at g1 g2
  unfold dW
  simp only[eD]
  rw[if_pos (by simp;omega),aj (by omega) (by omega)];simp only[Option.bind_some]
  rw[g1,g2,OI Va hx.1.1 hx.1.2 hk];simp only[Option.bind_some]
  rw[OI Vb hx.2.1 hx.2.2 hk];simp only[Option.bind_some]
  rw[JF hE1 (by omega)];simp only[Option.bind_some,ae (show k<9223372036854775807 by omega)]
  rw[take_one (by omega),mi,KJ hk]
  by_cases c:(mvn a (nth L (i:Int)).1 k,mvn b (nth L (i:Int)).2 k)∈nbS L ((nxP a b (nth L (i:Int))).take k)
  ·rw[if_pos (by simpa using c),fS c]
   exact ⟨_,rfl,l1,rfl,hE1⟩
  ·rw[if_neg (by simpa using c),fm c,ay (by simp;omega)]
   exact ⟨_,rfl,_,rfl,hE1.snoc (by omega) _⟩) (by
  rintro s ⟨l1,rfl,-⟩
  unfold dW
  simp) (s:=(l,0)) ⟨l,rfl,hE⟩ (by unfold aN;omega)
 rw[List.take_of_length_le (by omega)] at hE'
 exact ⟨l',e,hE'⟩
theorem JG (Va:VA a n) (Vb:VA b m) (hn:n≤12) (hm:m≤12): ∃N w,bfE (nxP a b) (a.1,b.1) N∧gG a a.1 b b.1 true=some (w,(bfS (nxP a b) (a.1,b.1) N).any (uM a b)):=by
 have H:=uL Va Vb hn hm
 obtain ⟨N,hNB,hN⟩:=Cu (nx:=nxP a b) (first:=(a.1,b.1)) (H.le)
 refine ⟨N,?_⟩
 unfold gG
 obtain ⟨o,e,ho⟩:=cW (f:=jd a b true) (fun i s=> ∃l,s=(l,(i:Int))∧Ent l (bfS (nxP a b) (a.1,b.1) i)∧((bfS (nxP a b) (a.1,b.1) i).take i).any (uM a b)=false)
  (fun o=>(∃w,o= .ret (w,true)∧(bfS (nxP a b) (a.1,b.1) N).any (uM a b)=true)∨ ∃s,o= .brk s∧(bfS (nxP a b) (a.1,b.1) N).any (uM a b)=false) N (s:=([(a.1,b.1,false,0,0)],0)) (by
  rintro i s hi ⟨l,rfl,hE,ha⟩
  have hl:=hE.len
  have hle:=H.le i
  unfold jd
  simp only[eD]
  by_cases hiN:i<N
  ·have hlt:=hN.2 i hiN
   have hG:=H.at hlt
   obtain ⟨g1,g2⟩:=hE.at (i:=i) (by omega)
   rw[if_pos (by simp;omega),aj (by omega) (by omega)];simp only[Option.bind_some]
   rw[g1,g2,OK Va hG.1.1 hG.1.2];simp only[Option.bind_some]
   rw[OK Vb hG.2.1 hG.2.2];simp only[Option.bind_some]
   have hb: ∀r50 r49:Bool,(if r50 then (if r49 then (if r49 then (if r50 then some false else some (!true)) else some false) else some true) else (if r49 then (if r50 then some false else some (!true)) else some false):Option Bool)=some (r50 && !r49):=by decide
   rw[hb];simp only[Option.bind_some]
   have hlp:(acn b (nth (bfS (nxP a b) (a.1,b.1) i) (i:Int)).2 && !acn a (nth (bfS (nxP a b) (a.1,b.1) i) (i:Int)).1)=uM a b (nth (bfS (nxP a b) (a.1,b.1) i) (i:Int)):=rfl
   rw[hlp]
   cases ht:uM a b (nth (bfS (nxP a b) (a.1,b.1) i) (i:Int)) with
   | true =>
    obtain ⟨w,hw⟩:=G6 hE (by omega) (i:=i) (by omega)
    refine .inr ⟨_,by rw[if_pos rfl,hw];rfl,(fun s' e=>by cases e),.inl ⟨_,rfl,?_⟩⟩
    refine List.any_eq_true.2 ⟨_,?_,ht⟩
    exact (lK (nx:=nxP a b) (first:=(a.1,b.1)) (by omega:i≤N)).subset (bT (by omega) (by omega))
   | false =>
    left
    refine ⟨hiN,?_⟩
    obtain ⟨l',e,hE'⟩:=Bu Va Vb hn hm hE (iZ i) (fO H.g0 H.gn i) hlt
    rw[if_neg (by simp),ai e]
    rw[←eT hlt] at hE'
    simp only[ae (show i<9223372036854775807 by omega)]
    refine ⟨_,rfl,l',rfl,hE',?_⟩
    have e:=n9 (nx:=nxP a b) (first:=(a.1,b.1)) (acc:=uM a b) hlt
    have f: ∀l:List (Int×Int),l.any (uM a b)=(l.map (uM a b)).any id:=fun l=>by simp[List.any_map]
    rw[f,e,List.any_append,←f,ha];simp[ht]
  ·obtain rfl:i=N:=by omega
   have hN1:=hN.1
   refine .inr ⟨_,by rw[if_neg (by simp;omega)],(fun s' e=>by cases e),.inr ⟨_,rfl,?_⟩⟩
   rw[List.take_of_length_le (by omega)] at ha;exact ha) ⟨_,rfl,⟨rfl,by simp,by intro j h0 h1;simp at h1;omega⟩,rfl⟩ (nC (by omega))
 rcases ho with ⟨w,rfl,h⟩ | ⟨s,rfl,h⟩
 ·exact ⟨w,hN,by rw[cv e,h]⟩
 ·exact ⟨[],hN,by rw[ai e,h]⟩
theorem M5 {x:Int×Int} (hn:n≤12) (hm:m≤12) (h:inP n m x):Ad x=true:=by
 obtain ⟨⟨h0,h1⟩,h2,h3⟩:=h
 have e1:IntKind.i64.min= -9223372036854775808:=by decide
 have e2:IntKind.i64.max=9223372036854775807:=by decide
 simp only[Ad,Lit.wf,e1,e2,Bool.and_eq_true,decide_eq_true_eq]
 omega
theorem zV (Va:VA a n) (Vb:VA b m) (hn:n≤12) (hm:m≤12): ∃w w' r,gG a a.1 b b.1 true=some (w,r) ∧
  ct (a.1,b.1) (fun u6 u7=>fC u6 u7 a b) (fun u8=>dz u8 b a)=some (w',r):=by
 have H:=uL Va Vb hn hm
 obtain ⟨N,w,hN,e⟩:=JG Va Vb hn hm
 obtain ⟨N',w',hN',e'⟩:=M4 (p1:=fun u6 u7=>fC u6 u7 a b) (p2:=fun u8=>dz u8 b a) (tt:=uM a b) H (by omega) (fun x hx=>M5 hn hm hx) (fun x hx=>by
  unfold dz uM
  simp only[eD]
  rw[OJ Vb hx.2.1 hx.2.2];simp only[Option.bind_some]
  rw[OJ Va hx.1.1 hx.1.2];simp only[Option.bind_some]
  cases acn b x.2 <;> rfl) (fun x k hx hk=>⟨_,by
   unfold fC
   simp only[eD]
   rw[OH Va hx.1.1 hx.1.2 hk];simp only[Option.bind_some]
   rw[OH Vb hx.2.1 hx.2.2 hk];rfl,KJ hk⟩)
 obtain rfl:=Cv hN hN'
 exact ⟨w,w',_,e,e'⟩
end
end D
namespace D
open Go.RowKit
theorem xV {n:Nat} {r:List Int} :(∀t∈r,-1≤t∧t≤(n:Int) - 1)↔ ∀t∈r,-1≤t∧t<(n:Int):=forall_congr' fun t=>forall_congr' fun _=>and_congr Iff.rfl (by omega)
theorem OL (a:AutT) (h1:a.2.1.length≤9223372036854775807) (h2:a.2.2.length≤9223372036854775807): ∃b,jT a=some b∧(b=true↔VA a a.2.1.length):=by
 unfold jT
 rw[Ol];simp only[Option.bind_some,nD h1]
 by_cases c1:0≤a.1∧a.1≤(a.2.1.length:Int) - 1
 case neg=>exact ⟨false,by rw[if_neg (by simpa using c1)],by simp;exact fun h=>c1 ⟨h.start.1,by have:=h.start.2;omega⟩⟩
 rw[if_pos (by simpa using c1)]
 by_cases c2:a.2.2.length=a.2.1.length
 case neg=>exact ⟨false,by rw[if_pos (by simp;omega)],by simp;exact fun h=>c2 h.nlen⟩
 rw[if_neg (by simp;omega)]
 have inner: ∀i:Nat,i<a.2.2.length→(nth a.2.2 i).length=9→(ak (ed a i) aN 0=some (.brk 9)∧ ∀t∈nth a.2.2 (i:Int),-1≤t∧t≤(a.2.1.length:Int) - 1)∨(ak (ed a i) aN 0=some (.ret false)∧ ¬ ∀t∈nth a.2.2 (i:Int),-1≤t∧t≤(a.2.1.length:Int) - 1):=by
  intro i hi hr
  have:=scan (f:=ed a i) (nth a.2.2 (i:Int)) (fun t=> -1≤t∧t≤(a.2.1.length:Int) - 1) false (by omega) (fun j hj=>by
   unfold ed
   rw[if_pos (by simp;omega),aj (by omega) (by omega)];simp only[Option.bind_some]
   rw[aj (by omega) (by omega)];simp only[Option.bind_some,nD h1]
   rw[Ol];simp only[Option.bind_some,ae (show j<9223372036854775807 by omega)]
   by_cases c: -1≤nth (nth a.2.2 (i:Int)) (j:Int)∧nth (nth a.2.2 (i:Int)) (j:Int)≤(a.2.1.length:Int) - 1
   ·rw[if_pos (by simpa using c),if_pos c]
   ·rw[if_neg (by simpa using c),if_neg c]) (by unfold ed;rw[if_neg (by simp[hr])])
  rwa [hr] at this
 have outer:=scan (f:=iD a) a.2.2 (fun r=>r.length=9∧ ∀t∈r,-1≤t∧t≤(a.2.1.length:Int) - 1) false h2 (fun i hi=>by
  unfold iD
  rw[if_pos (by simp;omega),aj (by omega) (by omega)];simp only[Option.bind_some]
  by_cases c:(nth a.2.2 (i:Int)).length=9
  ·rw[if_neg (by simp;omega)]
   rcases inner i hi c with ⟨e,k⟩ | ⟨e,k⟩
   ·rw[ai e,if_pos ⟨c,k⟩,ae (show i<9223372036854775807 by omega)]
   ·rw[cv e,if_neg (fun h=>k h.2)]
  ·rw[if_pos (by simp;omega),if_neg (fun h=>c h.1)]) (by unfold iD;rw[if_neg (by simp;omega)])
 rcases outer with ⟨e,k⟩ | ⟨e,k⟩
 ·exact ⟨true,by rw[ai e],by simp;exact ⟨rfl,⟨c1.1,by omega⟩,c2,fun r hr=>(k r hr).1,fun r hr=>xV.1 (k r hr).2⟩⟩
 ·exact ⟨false,by rw[cv e],by simp;exact fun h=>k fun r hr=>⟨h.row r hr,xV.2 (h.ent r hr)⟩⟩
theorem M6 (a:AutT) (h1:a.2.1.length≤9223372036854775807) (h2:a.2.2.length≤9223372036854775807): ∃b,bg a=some b∧(b=true↔a.2.1.length≤12∧VA a a.2.1.length):=by
 unfold bg
 by_cases c:a.2.1.length≤12
 ·rw[if_pos (by simp;omega)]
  obtain ⟨b,e,hb⟩:=OL a h1 h2
  exact ⟨b,by show (jT a).bind _=_;rw[e];rfl,by rw[hb];simp[c]⟩
 ·exact ⟨false,by rw[if_neg (by simp;omega)],by simp;exact fun h=>absurd h c⟩
theorem M7 (a:AutT) (h1:a.2.1.length≤9223372036854775807) (h2:a.2.2.length≤9223372036854775807) (h3: ∀r∈a.2.2,r.length≤9223372036854775807): ∃b,bh a=some b∧(b=true↔a.2.1.length≤12∧VA a a.2.1.length):=by
 unfold bh
 rw[ML];simp only[Option.bind_some,nD h1]
 by_cases c0:1≤(a.2.1.length:Int)∧(a.2.1.length:Int)≤12
 case neg=>exact ⟨false,by rw[if_neg (by simpa using c0)],by simp;exact fun h h'=>c0 ⟨by have:=h'.start;omega,by omega⟩⟩
 rw[if_pos (by simpa using c0),ML];simp only[Option.bind_some]
 by_cases c1:0≤a.1∧a.1≤(a.2.1.length:Int) - 1
 case neg=>exact ⟨false,by rw[if_neg (by simpa using c1)],by simp;exact fun _ h=>c1 ⟨h.start.1,by have:=h.start.2;omega⟩⟩
 rw[if_pos (by simpa using c1)]
 by_cases c2:a.2.2.length=a.2.1.length
 case neg=>exact ⟨false,by rw[if_pos (by simp;omega)],by simp;exact fun _ h=>c2 h.nlen⟩
 rw[if_neg (by simp;omega)]
 have inner: ∀x:List Int,x.length≤9223372036854775807→(ak (bs a x) aN 0=some (.brk (x.length:Int))∧ ∀t∈x,-1≤t∧t≤(a.2.1.length:Int) - 1)∨(ak (bs a x) aN 0=some (.ret false)∧ ¬ ∀t∈x,-1≤t∧t≤(a.2.1.length:Int) - 1):=by
  intro x hx
  refine scan (f:=bs a x) x (fun t=> -1≤t∧t≤(a.2.1.length:Int) - 1) false hx (fun j hj=>?_) (by unfold bs;rw[if_neg (by simp)])
  unfold bs
  rw[if_pos (by simp;omega),aj (by omega) (by omega)];simp only[Option.bind_some,nD h1]
  rw[ML];simp only[Option.bind_some,ae (show j<9223372036854775807 by omega)]
  by_cases c: -1≤nth x (j:Int)∧nth x (j:Int)≤(a.2.1.length:Int) - 1
  ·rw[if_pos (by simpa using c),if_pos c]
  ·rw[if_neg (by simpa using c),if_neg c]
 have outer:=scan (f:=cy a) a.2.2 (fun r=>(∀t∈r,-1≤t∧t≤(a.2.1.length:Int) - 1)∧r.length=9) false h2 (fun i hi=>by
  unfold cy
  rw[if_pos (by simp;omega),aj (by omega) (by omega)];simp only[Option.bind_some]
  rcases inner (nth a.2.2 (i:Int)) (h3 _ (bT (by omega) (by omega))) with ⟨e,k⟩ | ⟨e,k⟩
  ·rw[ai e]
   by_cases c:(nth a.2.2 (i:Int)).length=9
   ·rw[if_neg (by simp;omega),if_pos ⟨k,c⟩,ae (show i<9223372036854775807 by omega)]
   ·rw[if_pos (by simp;omega),if_neg (fun h=>c h.2)]
  ·rw[cv e,if_neg (fun h=>k h.1)]) (by unfold cy;rw[if_neg (by simp)])
 rcases outer with ⟨e,k⟩ | ⟨e,k⟩
 ·exact ⟨true,by rw[ai e],by simp;exact ⟨by omega,rfl,⟨c1.1,by omega⟩,c2,fun r hr=>(k r hr).2,fun r hr=>xV.1 (k r hr).1⟩⟩
 ·exact ⟨false,by rw[cv e],by simp;exact fun _ h=>k fun r hr=>⟨xV.2 (h.ent r hr),h.row r hr⟩⟩
end D
set_option synthInstance.maxSize 20000
set_option synthInstance.maxHeartbeats 2000000
namespace D
open Go.RowKit
theorem uN (a:AutT) (hs:Data.sm a): ∃b,bg a=some b∧bh a=some b∧(b=true→a.2.1.length≤12∧VA a a.2.1.length):=by
 obtain ⟨-,⟨ha,-⟩,hn,hr⟩:=hs
 obtain ⟨b1,e1,k1⟩:=M6 a (by omega) (by omega)
 obtain ⟨b2,e2,k2⟩:=M7 a (by omega) (by omega) (fun r h=>by have:r.length≤1048576:=(hr r h).1;omega)
 have:b2=b1:=by
  cases h1:b1 <;> cases h2:b2
  ·rfl
  ·have:=k1.2 (k2.1 h2);rw[h1] at this;cases this
  ·have:=k2.2 (k1.1 h1);rw[h2] at this;cases this
  ·rfl
 subst this
 exact ⟨b2,e1,e2,k1.1⟩
theorem G7 (a b:AutT) (ha:Data.sm a) (hb:Data.sm b): ∃r,df a b=some r∧dh a b=some r:=by
 obtain ⟨va,e1,e2,ka⟩:=uN a ha
 obtain ⟨vb,e3,e4,kb⟩:=uN b hb
 unfold df dh jV jX
 simp only[eD]
 rw[e1,e2,e3,e4];simp only[Option.bind_some]
 cases va with
 | false=>exact ⟨false,rfl,rfl⟩
 | true =>
  cases vb with
  | false=>exact ⟨false,rfl,rfl⟩
  | true =>
   obtain ⟨hn,Va⟩:=ka rfl
   obtain ⟨hm,Vb⟩:=kb rfl
   obtain ⟨w,w',r,es,ei⟩:=zV Va Vb hn hm
   simp only[if_true]
   rw[es,ei]
   exact ⟨!r,rfl,rfl⟩
theorem Bv {r:GY} (hr:Data.sm r) (id:Int): ∃x:AutT×Bool,eu r id=some x∧ez r id=some x∧Data.sm x.1∧(x.2=true→M0 r):=by
 obtain ⟨k,f1,f2,hk⟩:=G0 r id (aM hr.2).1
 obtain ⟨b,v1,v2,hv⟩:=DR hr
 unfold eu ez
 simp only[f1,f2,v1,v2,Option.bind_some,eD]
 rcases hk with rfl | ⟨i,hi,rfl⟩
 ·refine ⟨((0,[],[]),false),?_,?_,qv,fun h=>by cases h⟩
  ·cases b <;> rfl
  ·rfl
 ·have hk:decide ((i:Int)<0)=false:=by simp
  cases b with
  | false=>exact ⟨((0,[],[]),false),by simp[hk],by simp[hk],qv,fun h=>by cases h⟩
  | true =>
   obtain ⟨hs,hq⟩:=hv rfl
   obtain ⟨q1,q2⟩:=hq _ (List.getElem_mem hi)
   have e1:aI r.1 r.2[i].2.2=some (nth r.1 r.2[i].2.2):=aj q1 q2
   have hm:Data.sm (nth r.1 r.2[i].2.2):=(aM hs.1).2 _ (bT q1 q2)
   simp only[if_true,hk,Bool.false_eq_true,if_false,aw hi,Option.bind_some,e1,eD,M2 _ hm,M3 _ hm]
   exact ⟨_,rfl,rfl,hm,fun _=>⟨hs,hq⟩⟩
theorem xW {r:GY} (hr:Data.sm r) (id:Int): ∃v,dH r id=some v∧cE r id=some v∧Data.sm v:=by
 obtain ⟨x,q1,q2,hx,hv⟩:=Bv hr id
 have hl:=(aM hr.2).1
 unfold dH cE
 simp only[eD]
 rw[q1,q2];simp only[Option.bind_some]
 obtain ⟨xa,xb⟩:=x
 cases xb with
 | false =>
  refine ⟨[],?_,rfl,by decide,fun _ h=>by cases h⟩
  have:ak (aF r id (xa,false)) aN ([],0)=some (.brk ([],0)):=by
   refine a7 (f:=aF r id (xa,false)) (fun _=>(([] :List Int),0)) 0 (fun i hi=>by omega) ?_ (by unfold aN;omega)
   unfold aF
   simp
  rw[ai this]
 | true =>
  have hR:=hv rfl
  have step: ∀i:Nat,i<r.2.length→ ∀acc:List Int,acc.length≤i→ ∃acc':List Int,acc'.length≤i+1∧aF r id (xa,true) (acc,(i:Int))=some (.nxt (acc',((i+1:Nat):Int)))∧bA r id (xa,true) (acc,(i:Int))=some (.nxt (acc',((i+1:Nat):Int))):=by
   intro i hi acc ha
   have hg:aI r.2 (i:Int)=some (nth r.2 (i:Int)):=aj (by omega) (by omega)
   obtain ⟨g1,g2⟩:=hR.2 _ (bT (xs:=r.2) (i:=(i:Int)) (by omega) (by omega))
   have hm:Data.sm (nth r.1 (nth r.2 (i:Int)).2.2):=(aM hR.1.1).2 _ (bT g1 g2)
   obtain ⟨b,b1,b2⟩:=G7 xa _ hx hm
   have hlt:decide ((i:Int)<(r.2.length:Int))=true:=by simp;omega
   unfold aF bA
   simp only[eD,hlt,if_true,hg,Option.bind_some,aj g1 g2,b1,b2,ae (show i<9223372036854775807 by omega)]
   cases (nth r.2 (i:Int)).1 !=id with
   | false=>exact ⟨acc,by omega,rfl,rfl⟩
   | true =>
    cases b with
    | false=>exact ⟨acc,by omega,rfl,rfl⟩
    | true =>
     simp only[if_true]
     rw[ay (by simp;omega)]
     exact ⟨acc++ [(nth r.2 (i:Int)).1],by simp;omega,rfl,rfl⟩
  have hsame:=oc (f:=aF r id (xa,true)) (g:=bA r id (xa,true)) (fun i s=>i≤r.2.length∧s.2=(i:Int)∧s.1.length≤i) (fun i s hI=>by
   obtain ⟨acc,j⟩:=s
   obtain ⟨h0,rfl,h2⟩:=hI
   by_cases c:i<r.2.length
   ·obtain ⟨acc',h3,h4,h5⟩:=step i c acc h2
    refine ⟨by rw[h4,h5],fun s' e=>?_⟩
    rw[h4] at e;cases e
    exact ⟨by omega,rfl,h3⟩
   ·have hlt:decide ((i:Int)<(r.2.length:Int))=false:=by simp;omega
    have hs:aF r id (xa,true) (acc,(i:Int))=some (.brk (acc,(i:Int))):=by
     unfold aF
     simp only[hlt,Bool.false_eq_true,if_false]
    have hi':bA r id (xa,true) (acc,(i:Int))=some (.brk (acc,(i:Int))):=by
     unfold bA
     simp only[hlt,Bool.false_eq_true,if_false]
    refine ⟨by rw[hs,hi'],fun s' e=>?_⟩
    rw[hs] at e;cases e) aN 0 ([],0) ⟨by omega,rfl,by simp⟩
  obtain ⟨s',e,h1,h2⟩:=iY (f:=aF r id (xa,true)) (fun i s=>s.2=(i:Int)∧s.1.length≤i) r.2.length (by
   rintro i ⟨acc,j⟩ hi ⟨rfl,h2⟩
   obtain ⟨acc',h3,h4,-⟩:=step i hi acc h2
   exact ⟨_,h4,rfl,h3⟩) (by
   rintro ⟨acc,j⟩ ⟨rfl,h2⟩
   unfold aF
   simp) (s:=([],0)) ⟨rfl,by simp⟩ (nC (by omega))
  refine ⟨s'.1,by rw[ai e],?_,?_,fun _ _=>trivial⟩
  ·simp only[if_true]
   rw[ai (hsame.trans e)]
  ·show s'.1.length≤1048576;omega
theorem qw (x:GY) (id:Int) (hx:Data.lim x) (_:Data.lim id):bP x id=some true:=by
 unfold bP
 simp only[eD]
 obtain ⟨r1,e1,k1⟩:=zI x 1048576 hx (by decide) (by decide)
 rw[e1];simp only[Option.bind_some]
 rcases k1 with k1 | ⟨k1,j1,s1⟩
 ·rw[if_pos (decide_eq_true k1)]
 rw[if_neg (by simpa using k1)]
 obtain ⟨v,es,ei,sv⟩:=xW s1 id
 have hn:=Bd x s1
 have hc:=Gt v sv
 have em1:dY x 1=_:=Be x s1 (k:=1) (by omega)
 have em2:fZ v 1=_:=Gu v sv (k:=1) (by omega)
 have eh2:ga (mkd fD uA v 1) 1=_:=MJ v sv (k:=1) (by omega)
 simp only[zJ x s1,es,ei,Ct v v sv sv,zK x x s1 s1,Option.bind_some,eD,em1,em2,eh2,decide_true,if_true]
 have n1: ¬((1+gl x:Nat):Int)<0:=by omega
 have n2: ¬((1+smk fD v:Nat):Int)<0:=by omega
 simp only[decide_eq_true_eq,n1,n2,if_false,bne_self_eq_false,Bool.false_eq_true]
end D
open Go.ChangeShapes Go.WideShapes Go.ChangeAt Go.RowKit
theorem own:ownKnob Tryz.prog.godebug=none:=by kernel_rfl
theorem laidOut:laidOutB Tryz.prog=true:=by kernel_rfl
theorem qx {H:Type} {enc:TypeId×Value→H} {P:Program} (hl:laidOutB P=true) {W W':World} (hb:Below W.heap.size W W') :
  ∀ {ts:List TypeId} {vs:List Value} {ds:List (DataW H)} {ps:List MemPlace},(∀t∈ts,P.readableRec t=true∧t<P.types.size)→
   DataW.TrodAll enc P W 0 (fun _=>true) true ts vs ds ps→(∀x∈ps,x.block<W.heap.size)→DataW.TrodAll enc P W' 0 (fun b=>decide (b<W.heap.size)) true ts vs ds ps
 | [],[],[],ps,_,h,_=>h
 | t::ts,v::vs,d::ds,ps,hr,⟨p,q,h1,h2,h3⟩,hlt=>by
  subst h3
  exact ⟨p,q,Below.trod hl (hr t (by simp)).1 (hr t (by simp)).2 h1 hb fun x hx=>hlt x (by simp[hx]),qx hl hb (fun t ht=>hr t (by simp[ht])) h2 fun x hx=>hlt x (by simp[hx]),rfl⟩
 | [],_::_,_,_,_,h,_=>h.elim
 | [],[],_::_,_,_,h,_=>h.elim
 | _::_,[],_,_,_,h,_=>h.elim
 | _::_,_::_,[],_,_,h,_=>h.elim
theorem JH {H:Type} {enc:TypeId×Value→H} {f:Func} {s:ChangeSpec} {W W':World} {args:Array Value} {ds:List (DataW H)} {before:List MemPlace} (tb:TypeId)
  (hb:Tryz.prog.underlying tb=some .bool) (hr:f.resultTypes= #[tb]) (hp:(f.params.toList.all fun t=>Tryz.prog.readableRec t&&decide (t<Tryz.prog.types.size))=true) (hv:s.vars= [])
  (hW:DataW.Whole enc Tryz.prog f.params.toList s.vars false W args.toList ds [] before) (hres:(s.fn H (ds++ [])).results= [.lit (.bool true)]) (hargs:(s.fn H (ds++ [])).args=ds) (hvars:(s.fn H (ds++ [])).vars= [])
  (hbel:Below W.heap.size W W'):s.post enc Tryz.prog f false true false false W args (.bool true) W':=by
 obtain ⟨p,q,h1,h2,h3,h4,h5⟩:=hW
 have hW':DataW.Whole enc Tryz.prog f.params.toList s.vars false W args.toList ds [] before:=⟨p,q,h1,h2,h3,h4,h5⟩
 have hq:q= []:=by rw[hv] at h2;exact h2
 subst hq
 simp only[List.append_nil] at h3
 subst h3
 refine ⟨ds,[],before,[],before,[],hW',?_,?_,?_,hbel.frame _,fun h=>by cases h⟩
 ·rw[hres,hr]
  exact trodAll_mk1 (shut_bool hb true)
 ·rw[hargs]
  exact qx laidOut hbel (fun t ht=>by have:=List.all_eq_true.1 hp t ht;simpa using this) h1 fun x hx=>by simpa using hW'.lt x hx
 ·rw[hvars,hv];rfl
open Go.ChangeShapes Go.WideShapes Go.ChangeAt Go.RowKit
namespace D
theorem op3:Opens Tryz.prog 3 cA:=Gc Tryz.underlying3
theorem op4:Opens Tryz.prog 4 mN:=DB Tryz.underlying4
theorem Qp:Opens Tryz.prog 22 (aa 4 mN):=im Tryz.underlying22 (by kernel_rfl) (by decide) op4
theorem Qq:Opens Tryz.prog 39 (aa 3 cA):=im Tryz.underlying39 (by kernel_rfl) (by decide) op3
theorem Qr:Opens Tryz.prog 23 (aa 39 (aa 3 cA)):=im Tryz.underlying23 (by kernel_rfl) (by decide) Qq
theorem Qs:Opens Tryz.prog 25 (aU cA (aU (aa 4 mN) (aa 39 (aa 3 cA)))):=by
 refine iX Tryz.underlying25 (by kernel_rfl) ?_
 refine gi (R:=cA) (S:=aU (aa 4 mN) (aa 39 (aa 3 cA))) rfl (by kernel_rfl) op3 ?_
 refine gi (R:=aa 4 mN) (S:=aa 39 (aa 3 cA)) rfl (by kernel_rfl) Qp ?_
 exact lI rfl (by kernel_rfl) Qr
theorem Qt:Opens Tryz.prog 34 (aa 25 (aU cA (aU (aa 4 mN) (aa 39 (aa 3 cA))))):=im Tryz.underlying34 (by kernel_rfl) (by decide) Qs
theorem PO:Opens Tryz.prog 181 (aU cA (aU cA (aU cA cA))):=by
 refine iX Tryz.underlying181 (by kernel_rfl) ?_
 refine gi (R:=cA) (S:=aU (cA) (aU (cA) (cA))) rfl (by kernel_rfl) op3 ?_
 refine gi (R:=cA) (S:=aU (cA) (cA)) rfl (by kernel_rfl) op3 ?_
 refine gi (R:=cA) (S:=cA) rfl (by kernel_rfl) op3 ?_
 exact lI rfl (by kernel_rfl) op3
theorem Qu:Opens Tryz.prog 51 (aa 181 (aU cA (aU cA (aU cA cA)))):=im Tryz.underlying51 (by kernel_rfl) (by decide) PO
theorem Qv:Opens Tryz.prog 53 (aa 181 (aU cA (aU cA (aU cA cA)))):=by
 refine iX Tryz.underlying53 (by kernel_rfl) ?_
 exact lI rfl (by kernel_rfl) Qu
theorem PP:Opens Tryz.prog 163 (aU cA (aU (aa 181 (aU cA (aU cA (aU cA cA)))) cA)):=by
 refine iX Tryz.underlying163 (by kernel_rfl) ?_
 refine gi (R:=cA) (S:=aU (aa 181 (aU cA (aU cA (aU cA cA)))) (cA)) rfl (by kernel_rfl) op3 ?_
 refine gi (R:=aa 181 (aU cA (aU cA (aU cA cA)))) (S:=cA) rfl (by kernel_rfl) Qv ?_
 exact lI rfl (by kernel_rfl) op3
theorem Qw:Opens Tryz.prog 35 (aa 163 (aU cA (aU (aa 181 (aU cA (aU cA (aU cA cA)))) cA))):=im Tryz.underlying35 (by kernel_rfl) (by decide) PP
theorem Qx:Opens Tryz.prog 37 (aU (aa 25 (aU cA (aU (aa 4 mN) (aa 39 (aa 3 cA))))) (aa 163 (aU cA (aU (aa 181 (aU cA (aU cA (aU cA cA)))) cA)))):=by
 refine iX Tryz.underlying37 (by kernel_rfl) ?_
 refine gi (R:=aa 25 (aU cA (aU (aa 4 mN) (aa 39 (aa 3 cA))))) (S:=aa 163 (aU cA (aU (aa 181 (aU cA (aU cA (aU cA cA)))) cA))) rfl (by kernel_rfl) Qt ?_
 exact lI rfl (by kernel_rfl) Qw
theorem PQ {W:World} {base:Nat} {z:Value} {H:Type} {enc:TypeId×Value→H} {d:DataW H} {p:List MemPlace} (hv:Value.okWide Tryz.prog W .any base 37 z) (h:DataW.Trod enc Tryz.prog W 0 (fun _=>true) true 37 z d p) :
  ∃(x:(List (Int×(List Bool)×(List (List Int))))×(List (Int×((List (Int×Int×Int×Int)))×Int))) (v0:Value) (v1:Value),z= .agg #[v0,v1] ∧Data.lim x∧(aa 25 (aU cA (aU (aa 4 mN) (aa 39 (aa 3 cA))))).rd (hp W) [v0] x.1∧(aa 163 (aU cA (aU (aa 181 (aU cA (aU cA (aU cA cA)))) cA))).rd (hp W) [v1] x.2:=by
 obtain ⟨fuel,hf⟩:=h
 obtain ⟨⟨cs⟩,rfl,-⟩:=okWide_struct Tryz.underlying37 hv
 obtain ⟨x,hx,hl⟩:=Qx.out enc W _ _ _ hf
 have hx:(aU (aa 25 (aU cA (aU (aa 4 mN) (aa 39 (aa 3 cA))))) (aa 163 (aU cA (aU (aa 181 (aU cA (aU cA (aU cA cA)))) cA)))).rd (hp W) cs x:=hx
 obtain ⟨_,_,rfl,r0,r1⟩:=hx
 obtain ⟨v0,rfl⟩:=BD r0 rfl
 obtain ⟨v1,rfl⟩:=BD r1 rfl
 exact ⟨x,v0,v1,rfl,hl,r0,r1⟩
theorem Qy {W:World} {base:Nat} {z:Value} {H:Type} {enc:TypeId×Value→H} {d:DataW H} {p:List MemPlace} (hv:Value.okWide Tryz.prog W .any base 3 z) (h:DataW.Trod enc Tryz.prog W 0 (fun _=>true) true 3 z d p) :
  ∃(x:Int),z= .int .i64 x∧Data.lim x:=by
 obtain ⟨fuel,hf⟩:=h
 obtain ⟨n,rfl⟩:=okWide_int Tryz.underlying3 hv
 obtain ⟨x,hx,hl⟩:=op3.out enc W _ _ _ hf
 exact ⟨x,(List.cons.inj (show [_] = [_] from hx)).1,hl⟩
end D
open D (Data)
theorem px (W:World) (args:Array Value) (H:Type) (enc:TypeId×Value→H) (base:Nat) (ds gs:List (DataW H)) (before:List MemPlace)
  (hval: ∀(j:Nat) t v,Tryz.f5.params[j]? =some t→args[j]? =some v→Value.okWide Tryz.prog W .any base t v)
  (hW:DataW.Whole enc Tryz.prog Tryz.f5.params.toList Rows.fnExactIncludedQueriesSpec.vars false W args.toList ds gs before) :
  Calls Tryz.prog 5 args W fun e W'=> ∃v,e= .returned v∧Rows.fnExactIncludedQueriesSpec.post enc Tryz.prog Tryz.f5 false true false false W args v W':=by
 have hW':=hW
 obtain ⟨p,q,hA,hV,rfl,hfz,hnd⟩:=hW
 rw[Tryz.params5] at hA hval
 obtain ⟨z0,vs0,d0,ds0,p0,q0,hargs,rfl,rfl,h0,r0⟩:=trodAll_cons hA
 obtain ⟨z1,vs1,d1,ds1,p1,q1,rfl,rfl,rfl,h1,r1⟩:=trodAll_cons r0
 obtain ⟨rfl,rfl,rfl⟩:=trodAll_nil r1
 obtain rfl:args= #[z0,z1]:=by cases args;simp_all
 obtain ⟨rfl,rfl⟩:=trodVars_none hV
 obtain ⟨x0,v0_0,v0_1,rfl,l0,r0_0,r0_1⟩:=D.PQ (hval 0 _ _ rfl rfl) h0
 obtain ⟨x1,rfl,l1⟩:=D.Qy (hval 1 _ _ rfl rfl) h1
 have hc:=D.ku x0 x1 true (D.qw x0 x1 l0 l1) (I:=D.hp W) (w0:=W) v0_0 v0_1 r0_0 r0_1 D.Lay.all W [] (D.St.init W)
 refine hc.mono fun e W' ⟨v,he,hv,hs⟩=>?_
 subst he;subst hv
 exact ⟨_,rfl,JH (f:=Tryz.f5) (s:=Rows.fnExactIncludedQueriesSpec) 4 Tryz.underlying4 rfl (by kernel_rfl) rfl hW' rfl rfl rfl (D.St.below hs)⟩
theorem mK (os:Os) (started:os.Started) (H:Type) (enc:TypeId×Value→H) :
  ReturnsInHanded {} Tryz.checked os 5 .any (Rows.fnExactIncludedQueriesSpec.pre6 enc Tryz.prog Tryz.f5 Rows.fnExactIncludedQueriesRow.domain false) (Rows.fnExactIncludedQueriesSpec.post enc Tryz.prog Tryz.f5 false true false false):=by
 refine returnsInHanded_of_change_sized (C:=Tryz.checked) own started (by kernel_rfl) Tryz.func5
  (ChangeSpec.witness6 (enc:=enc) (C:=Tryz.checked) false ⟨#[],#[.agg #[.slice none 0 0,.slice none 0 0],.int .i64 0],[]⟩ 8 (by kernel_rfl) (by kernel_rfl) (by kernel_rfl) (by kernel_rfl)) ?_
 intro W base args ds gs before hval hW hcnd hsz _
 exact px W args H enc base ds gs before hval hW
set_option maxHeartbeats 4000000 in
theorem mL:joinedFacts Tryz.pinned.checked.prog 5 Tryz.f5 Rows.fnExactIncludedQueriesSpec Rows.fnExactIncludedQueriesRow=true:=by
 unfold joinedFacts
 repeat' (with_reducible refine Bool.and_eq_true_iff.2 ⟨?_,?_⟩)
 all_goals as_aux_lemma=>kernel_rfl
theorem holdsLIncludedQueries:Rows.FnExactIncludedQueriesSaid:=
 OpenClaim.holds_of_wide 5 Tryz.f5 rfl rfl rfl rfl rfl rfl rfl ⟨rfl,rfl,rfl,rfl,rfl⟩ rfl rfl rfl rfl rfl (by kernel_rfl) Tryz.func5 mL
  (of_decide_eq_true (by kernel_rfl)) (by unfold Func.isWrapper;first | (rw[if_pos (by decide +kernel)];kernel_rfl) | (rw[if_neg (by decide +kernel)];exact ⟨rfl,rfl⟩))
  (fun os started H enc _=>mK os started H enc)
end Go.Proofs.YtcmpdlhbliolaaaGreat
