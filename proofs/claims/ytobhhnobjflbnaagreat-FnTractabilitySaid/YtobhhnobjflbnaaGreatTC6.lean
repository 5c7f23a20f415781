/- FnTractability: for every input the law returns true and changes nothing that was there. Part 7 of 7. -/
import Derived.Test.YtobhhnobjflbnaaGreatTC5
set_option linter.unusedVariables false
set_option linter.unusedSimpArgs false
set_option linter.unnecessarySimpa false
set_option linter.unusedSectionVars false
set_option maxRecDepth 1000000
namespace Go.Proofs.YtobhhnobjflbnaaGreat
namespace D
open Go.RowKit
def orM (ms:Int->Nat) (S:Nat):Nat->Nat
 | 0=>0
 | k+1=>if S.testBit k=true then orM ms S k ||| ms ((k:Int) - 1) else orM ms S k
theorem AO (ms:Int->Nat) (S j:Nat): ∀k,(orM ms S k).testBit j=true↔ ∃i:Nat,i<k/\S.testBit i=true/\(ms ((i:Int) - 1)).testBit j=true
 | 0=>by
  rw[orM,Nat.zero_testBit]
  constructor
  ·intro h;cases h
  ·rintro ⟨i,h,-⟩;omega
 | k+1=>by
  have ih:=AO ms S j k
  rw[orM]
  split
  ·rename_i hb
   rw[Nat.testBit_or,Bool.or_eq_true,ih]
   constructor
   ·rintro (⟨i,h1,h2⟩ | h)
    ·exact ⟨i,by omega,h2⟩
    ·exact ⟨k,by omega,hb,h⟩
   ·rintro ⟨i,h1,h2,h3⟩
    by_cases e:i=k
    ·subst e;exact .inr h3
    ·exact .inl ⟨i,by omega,h2,h3⟩
  ·rename_i hb
   rw[ih]
   constructor
   ·rintro ⟨i,h1,h2⟩
    exact ⟨i,by omega,h2⟩
   ·rintro ⟨i,h1,h2,h3⟩
    by_cases e:i=k
    ·subst e;exact absurd h2 hb
    ·exact ⟨i,by omega,h2,h3⟩
theorem Cb {ms:Int->Nat} {S B:Nat} (h: ∀i:Nat,S.testBit i=true->ms ((i:Int) - 1)<2 ^ B): ∀k,orM ms S k<2 ^ B
 | 0=>Nat.two_pow_pos _
 | k+1=>by
  rw[orM]
  split
  ·exact Nat.or_lt_two_pow (Cb h k) (h k ‹_›)
  ·exact Cb h k
theorem AP {m:Nat} (hm:m<2 ^ 30):aG (dX (iY m)) aV (0,0)=some (.brk ((m:Int),((iY m).length:Int))):=by
 have hlen:=pH m
 obtain ⟨s',e,x,rfl,hx1,hx2⟩:=b0 (f:=dX (iY m)) (fun i s=> ∃x:Nat,s=((x:Int),(i:Int))/\x<2 ^ 30/\ ∀j:Nat,x.testBit j=true↔(j:Int) - 1∈(iY m).take i) (iY m).length (by
  rintro i s hi ⟨x,rfl,hx1,hx2⟩
  obtain ⟨t,h1,h2,h3⟩:=iH.1 (bK (xs:=iY m) (i:=(i:Int)) (by omega) (by omega))
  unfold dX
  simp only
  rw[if_pos (by simp;omega),aF (by omega) (by omega)];simp only[aa]
  rw[h3,show (t:Int) - 1+1=(t:Int) by omega,rB (by omega),qV (by omega),AL (by omega),aB (by omega)];simp only[aa]
  rw[GR (aD hx1 (Nat.pow_le_pow_right (by decide) (by decide))) (Nat.pow_lt_pow_right (by decide) (by omega))]
  refine ⟨_,rfl,_,rfl,y7 hx1 h1,fun j=>?_⟩
  rw[nQ,Bool.or_eq_true,hx2 j,decide_eq_true_eq,take_one hi,List.mem_append,List.mem_singleton,h3]
  constructor
  ·rintro (h | rfl)
   ·exact .inl h
   ·exact .inr rfl
  ·rintro (h | h)
   ·exact .inl h
   ·exact .inr (by omega)) (by
  rintro s ⟨x,rfl,-⟩
  unfold dX
  simp) (s:=(0,0)) ⟨0,rfl,Nat.two_pow_pos _,fun j=>by simp⟩ (ju (by omega))
 rw[List.take_of_length_le (ay _)] at hx2
 have:x=m:=Nm hx1 hm fun j hj=>by
  rw[Bool.eq_iff_iff,hx2 j,iH]
  constructor
  ·rintro ⟨i,h1,h2,h3⟩
   obtain rfl:i=j:=by omega
   exact h2
  ·intro h;exact ⟨j,hj,h,rfl⟩
 rw[e,this]
def KU (ms:Int->Nat) (i:Nat):Int:=((ms ((i:Int) - 1):Nat):Int)
section
variable {a:AutT} {n:Nat} {q:Int} {ms:Int->Nat} (V:VA a n) (hn:n<=12) (hms: ∀s:Int,-1<=s->s<n->ms s<2 ^ (n+1)/\c8 a s q=some (iY (ms s))/\ix a s q=some (iY (ms s)))
include V hn hms
theorem za {p3:Int} (hp3:0<p3):aG (dY a q p3) aV ([],-1)=some (.brk ((List.range (n+1)).map (KU ms),(n:Int))):=by
 have:=bp (f:=dY a q p3) (fun i=>((List.range i).map (KU ms),(i:Int) - 1)) (n+1) (fun i hi=>by
  obtain ⟨h1,h2,-⟩:=hms ((i:Int) - 1) (by omega) (by omega)
  unfold dY
  simp only[ic]
  rw[V.len,if_pos (by simp;omega),if_pos (by simpa using hp3),h2];simp only[aa]
  rw[ax (AP (aD h1 (Nat.pow_le_pow_right (by decide) (by omega))))]
  simp only
  rw[aP (by simp;omega),show (i:Int) - 1+1=(i:Int) by omega,rB (by omega),List.range_succ,aH]
  simp only[aa,List.map_cons,List.map_nil]
  rw[show (((i+1:Nat):Int) - 1)=(i:Int) by omega];rfl) (by
  unfold dY
  simp only
  rw[V.len,if_neg (by simp)]) (ju (by omega))
 have e:(((n+1:Nat):Int) - 1)=(n:Int):=by omega
 simp only[e] at this
 exact this
theorem AQ {S:Nat} (hS:S<2 ^ (n+1)) {k x:Int} :aG (dZ ((List.range (n+1)).map (KU ms),x) ((S:Int),k)) aV (0,0)=some (.brk (((orM ms S (n+1):Nat):Int),((n+1:Nat):Int))):=by
 have hS62:S<2 ^ 62:=aD hS (Nat.pow_le_pow_right (by decide) (by omega))
 have hb: ∀i:Nat,S.testBit i=true->ms ((i:Int) - 1)<2 ^ (n+1):=fun i hi=>by
  have:i<n+1:=by
   apply Classical.byContradiction
   intro hc
   rw[Nat.testBit_lt_two_pow (aD hS (Nat.pow_le_pow_right (by decide) (by omega)))] at hi
   cases hi
  exact (hms ((i:Int) - 1) (by omega) (by omega)).1
 have p62':2 ^ (n+1)<=2 ^ 62:=Nat.pow_le_pow_right (by decide) (by omega)
 exact bp (f:=dZ ((List.range (n+1)).map (KU ms),x) ((S:Int),k)) (fun i=>(((orM ms S i:Nat):Int),(i:Int))) (n+1) (fun i hi=>by
  have ho:=Cb hb i
  have hg:a8 ((List.range (n+1)).map (KU ms)) (i:Int)=some ((ms ((i:Int) - 1):Nat):Int):=by
   rw[aF (by omega) (by simp;omega),aZ (by simp;omega)];simp[KU]
  unfold dZ
  simp only
  rw[if_pos (by simp;omega),qV (by omega),GS hS62 (by omega),aB (by omega)];simp only[aa]
  rw[orM]
  by_cases c:S.testBit i=true
  ·rw[if_pos c,if_pos c,hg];simp only[aa]
   rw[GR (by omega) (by have:=hb i c;omega)]
  ·rw[if_neg c,if_neg c];rfl) (by
  unfold dZ
  simp only
  rw[if_neg (by simp)]) (ju (by omega))
end
theorem JH (m:Nat): ∃k:Int,aG cY aV (eD m 30,0)=some (.brk (iY m,k)):=by
 have hlen:=pG m 30
 have hrng: ∀x∈eD m 30,0<=x/\x<30:=fun x hx=>by
  obtain ⟨i,h1,-,rfl⟩:=mU.1 hx
  omega
 obtain ⟨s',e,l2,rfl,h2⟩:=b0 (f:=cY) (fun i s=> ∃l2,s=(l2,(i:Int))/\l2=((eD m 30).take i).map (fun x=>x - 1)++(eD m 30).drop i) (eD m 30).length (by
  rintro i s hi ⟨l2,rfl,h2⟩
  have hl2:l2.length=(eD m 30).length:=by rw[h2];simp;omega
  have hat:nth l2 (i:Int)=nth (eD m 30) (i:Int):=by
   rw[aZ (by omega),aZ hi]
   simp only[h2]
   rw[List.getElem_append_right (by simp;omega)]
   simp[aE,Nat.min_eq_left (Nat.le_of_lt hi)]
  have hr:=hrng _ (bK (xs:=eD m 30) (i:=(i:Int)) (by omega) (by omega))
  unfold cY
  simp only
  rw[if_pos (by simp;omega),aF (by omega) (by omega)];simp only[aa,aB (show i<9223372036854775807 by omega)]
  rw[hat,cP (by omega) (by omega)]
  refine ⟨_,rfl,_,rfl,?_⟩
  rw[h2,take_one hi,aH,show ((i:Int)).toNat=i by omega,List.set_append_right _ _ (by simp;omega)]
  simp[aE,Nat.min_eq_left (Nat.le_of_lt hi)]
  rw[List.drop_eq_getElem_cons hi];rfl) (by
  rintro s ⟨l2,rfl,h2⟩
  have hl2:l2.length=(eD m 30).length:=by rw[h2];simp
  unfold cY
  simp only
  rw[if_neg (by simp;omega)]) (s:=(eD m 30,0)) ⟨_,rfl,by simp⟩ (ju (by omega))
 have e':aG cY aV (eD m 30,0)=_:=e
 have h3:l2=iY m:=by rw[h2];simp[iY]
 exact ⟨_,h3 ▸ e'⟩
def ql (ms:Int->Nat) (n S:Nat):Nat->Nat
 | 0=>S
 | k+1=>orM ms (ql ms n S k) (n+1)
section
variable {a:AutT} {n:Nat} {p q:Int} {ms:Int->Nat} (V:VA a n) (hn:n<=12) (hms: ∀s:Int,-1<=s->s<n->ms s<2 ^ (n+1)/\c8 a s q=some (iY (ms s))/\ix a s q=some (iY (ms s)))
include hn hms
theorem Cc {S:Nat} (hS:S<2 ^ (n+1)): ∀i:Nat,S.testBit i=true->i<n+1/\ms ((i:Int) - 1)<2 ^ (n+1):=fun i hi=>by
 have:i<n+1:=by
  apply Classical.byContradiction
  intro hc
  rw[Nat.testBit_lt_two_pow (aD hS (Nat.pow_le_pow_right (by decide) (by omega)))] at hi
  cases hi
 exact ⟨this,(hms ((i:Int) - 1) (by omega) (by omega)).1⟩
theorem pI {S:Nat} (hS:S<2 ^ (n+1)): ∀k,ql ms n S k<2 ^ (n+1)
 | 0=>hS
 | k+1=>Cb (fun i hi=>(Cc hn hms (pI hS k) i hi).2) _
include V
theorem JI (hp: -1<=p/\p<n) (h0:0<n):ji a p q (n:Int)=some (iY (ql ms n (2 ^ (p+1).toNat) n)):=by
 obtain ⟨t,rfl⟩: ∃t:Nat,p=(t:Int) - 1:=⟨(p+1).toNat,by omega⟩
 have et:((t:Int) - 1+1).toNat=t:=by omega
 have hS:2 ^ t<2 ^ (n+1):=Nat.pow_lt_pow_right (by decide) (by omega)
 rw[et]
 unfold ji
 rw[ax (za V hn hms (p3:=(n:Int)) (by omega))]
 rw[show (t:Int) - 1+1=(t:Int) by omega,rB (by omega),qV (by omega),AL (by omega)];simp only[aa]
 have:=bp (f:=eb (n:Int) ((List.range (n+1)).map (KU ms),(n:Int))) (fun k=>(((ql ms n (2 ^ t) k:Nat):Int),(k:Int))) n (fun k hk=>by
  unfold eb
  simp only
  rw[if_pos (by simp;omega),ax (AQ V hn hms (pI hn hms hS k)),aB (by omega)];rfl) (by
  unfold eb
  simp only
  rw[if_neg (by simp)]) (ju (by omega))
 have this:aG (eb (n:Int) ((List.range (n+1)).map (KU ms),(n:Int))) aV (((2 ^ t:Nat):Int),0)=_:=this
 rw[ax this]
 rw[Pc (aD (pI hn hms hS n) (Nat.pow_le_pow_right (by decide) (by omega)))];simp only[aa]
 obtain ⟨k,e⟩:=JH (ql ms n (2 ^ t) n)
 rw[ax e]
theorem GU {S:Nat} (hS:S<2 ^ (n+1)) {x:Int} : ∃out k,aG (cN a q (x,iY S)) aV ([],0)=some (.brk (out,k))/\fA out=some (iY (orM ms S (n+1))):=by
 have hlen:=pH S
 have hin: ∀z∈iY S,-1<=z/\z<n:=fun z hz=>by
  obtain ⟨i,h1,h2,rfl⟩:=iH.1 hz
  have:=(Cc hn hms hS i h2).1
  omega
 have hfl: ∀i,(((iY S).take i).flatMap fun s=>iY (ms s)).length<=900:=fun i=>by
  have: ∀l:List Int,(l.flatMap fun s=>iY (ms s)).length<=l.length*30:=fun l=>by
   induction l with
   | nil=>simp
   | cons z l ih=>have:=pH (ms z);rw[List.flatMap_cons,aq,az];omega
  have h1:=this ((iY S).take i)
  have h2:((iY S).take i).length<=30:=by rw[aE];omega
  omega
 have:=bp (f:=cN a q (x,iY S)) (fun i=>(((iY S).take i).flatMap fun s=>iY (ms s),(i:Int))) (iY S).length (fun i hi=>by
  have hz:=hin _ (bK (xs:=iY S) (i:=(i:Int)) (by omega) (by omega))
  have h2:=hfl i
  have h3:=pH (ms (nth (iY S) (i:Int)))
  unfold cN
  simp only[ic]
  rw[if_pos (by simp;omega),aF (by omega) (by omega)];simp only[aa]
  rw[(hms _ hz.1 hz.2).2.2];simp only[aa]
  rw[aP (by omega),aB (by omega),take_one hi,List.flatMap_append];simp) (by
  unfold cN
  simp only
  rw[if_neg (by simp)]) (ju (by omega))
 have h2:=hfl (iY S).length
 rw[List.take_of_length_le (ay _)] at this h2
 refine ⟨_,_,this,?_⟩
 rw[tx _ (by omega),B9 (m:=orM ms S (n+1)) fun z=>?_]
 rw[List.mem_flatMap,iH]
 constructor
 ·rintro ⟨s,h3,h4⟩
  obtain ⟨i,h5,h6,rfl⟩:=iH.1 h3
  obtain ⟨j,h7,h8,rfl⟩:=iH.1 h4
  exact ⟨j,h7,(AO ms S j (n+1)).2 ⟨i,(Cc hn hms hS i h6).1,h6,h8⟩,rfl⟩
 ·rintro ⟨j,h3,h4,rfl⟩
  obtain ⟨i,h5,h6,h7⟩:=(AO ms S j (n+1)).1 h4
  exact ⟨(i:Int) - 1,iH.2 ⟨i,by omega,h6,rfl⟩,iH.2 ⟨j,h3,h7,rfl⟩⟩
theorem JJ (hp: -1<=p/\p<n) (hok:eY a [p,q] =some true):dR a p q (n:Int)=some (iY (ql ms n (2 ^ (p+1).toNat) n)):=by
 obtain ⟨t,rfl⟩: ∃t:Nat,p=(t:Int) - 1:=⟨(p+1).toNat,by omega⟩
 have et:((t:Int) - 1+1).toNat=t:=by omega
 have hS:2 ^ t<2 ^ (n+1):=Nat.pow_lt_pow_right (by decide) (by omega)
 rw[et]
 unfold dR
 simp only[ic]
 rw[hok];simp only[aa,if_true]
 rw[NI];simp only[aa]
 rw[if_pos (by simp;omega)]
 have h1:iY (2 ^ t)= [(t:Int) - 1]:=by unfold iY;rw[GT (by omega)];rfl
 have:=bp (f:=dJ a q) (fun k=>((n:Int) - (k:Int),iY (ql ms n (2 ^ t) k))) n (fun k hk=>by
  obtain ⟨out,j,e1,e2⟩:=GU V hn hms (pI hn hms hS k) (x:=(n:Int) - (k:Int))
  unfold dJ
  simp only
  rw[if_pos (by simp;omega),ax e1]
  simp only
  rw[e2,cP (by omega) (by omega)];simp only[aa]
  rw[show (n:Int) - (k:Int) - 1=(n:Int) - ((k+1:Nat):Int) by omega];rfl) (by
  unfold dJ
  simp only
  rw[if_neg (by simp)]) (ju (by omega))
 have e0:(((n:Int) - ((0:Nat):Int)),iY (ql ms n (2 ^ t) 0))=((n:Int),[(t:Int) - 1]):=by
  rw[show ql ms n (2 ^ t) 0=2 ^ t from rfl,h1];simp
 simp only[e0] at this
 rw[ax this]
end
end D
namespace D
open Go.RowKit
theorem wY {n:Nat} {r:List Int} :(∀t∈r,-1<=t/\t<=(n:Int) - 1)↔ ∀t∈r,-1<=t/\t<(n:Int):=forall_congr' fun t=>forall_congr' fun _=>and_congr Iff.rfl (by omega)
theorem Pd (a:AutT) (h1:a.2.1.length<=9223372036854775807) (h2:a.2.2.length<=9223372036854775807): ∃b,jG a=some b/\(b=true↔VA a a.2.1.length):=by
 unfold jG
 rw[OU];simp only[aa,pz h1]
 by_cases c1:0<=a.1/\a.1<=(a.2.1.length:Int) - 1
 case neg=>exact ⟨false,by rw[if_neg (by simpa using c1)],by simp;exact fun h=>c1 ⟨h.start.1,by have:=h.start.2;omega⟩⟩
 rw[if_pos (by simpa using c1)]
 by_cases c2:a.2.2.length=a.2.1.length
 case neg=>exact ⟨false,by rw[if_pos (by simp;omega)],by simp;exact fun h=>c2 h.nlen⟩
 rw[if_neg (by simp;omega)]
 have inner: ∀i:Nat,i<a.2.2.length->(nth a.2.2 i).length=9->(aG (eu a i) aV 0=some (.brk 9)/\ ∀t∈nth a.2.2 (i:Int),-1<=t/\t<=(a.2.1.length:Int) - 1)\/(aG (eu a i) aV 0=some (.ret false)/\ ¬ ∀t∈nth a.2.2 (i:Int),-1<=t/\t<=(a.2.1.length:Int) - 1):=by
  intro i hi hr
  have:=scan (f:=eu a i) (nth a.2.2 (i:Int)) (fun t=> -1<=t/\t<=(a.2.1.length:Int) - 1) false (by omega) (fun j hj=>by
   unfold eu
   rw[if_pos (by simp;omega),aF (by omega) (by omega)];simp only[aa]
   rw[aF (by omega) (by omega)];simp only[aa,pz h1]
   rw[OU];simp only[aa,aB (show j<9223372036854775807 by omega)]
   by_cases c: -1<=nth (nth a.2.2 (i:Int)) (j:Int)/\nth (nth a.2.2 (i:Int)) (j:Int)<=(a.2.1.length:Int) - 1
   ·rw[if_pos (by simpa using c),if_pos c]
   ·rw[if_neg (by simpa using c),if_neg c]) (by unfold eu;rw[if_neg (by simp[hr])])
  rwa [hr] at this
 have outer:=scan (f:=iB a) a.2.2 (fun r=>r.length=9/\ ∀t∈r,-1<=t/\t<=(a.2.1.length:Int) - 1) false h2 (fun i hi=>by
  unfold iB
  rw[if_pos (by simp;omega),aF (by omega) (by omega)];simp only[aa]
  by_cases c:(nth a.2.2 (i:Int)).length=9
  ·rw[if_neg (by simp;omega)]
   rcases inner i hi c with ⟨e,k⟩ | ⟨e,k⟩
   ·rw[ax e,if_pos ⟨c,k⟩,aB (show i<9223372036854775807 by omega)]
   ·rw[bm e,if_neg (fun h=>k h.2)]
  ·rw[if_pos (by simp;omega),if_neg (fun h=>c h.1)]) (by unfold iB;rw[if_neg (by simp;omega)])
 rcases outer with ⟨e,k⟩ | ⟨e,k⟩
 ·exact ⟨true,by rw[ax e],by simp;exact ⟨rfl,⟨c1.1,by omega⟩,c2,fun r hr=>(k r hr).1,fun r hr=>wY.1 (k r hr).2⟩⟩
 ·exact ⟨false,by rw[bm e],by simp;exact fun h=>k fun r hr=>⟨h.row r hr,wY.2 (h.ent r hr)⟩⟩
theorem AR (a:AutT) (h1:a.2.1.length<=9223372036854775807) (h2:a.2.2.length<=9223372036854775807): ∃b,aY a=some b/\(b=true↔a.2.1.length<=12/\VA a a.2.1.length):=by
 unfold aY
 by_cases c:a.2.1.length<=12
 ·rw[if_pos (by simp;omega)]
  obtain ⟨b,e,hb⟩:=Pd a h1 h2
  exact ⟨b,by show (jG a).bind _=_;rw[e];rfl,by rw[hb];simp[c]⟩
 ·exact ⟨false,by rw[if_neg (by simp;omega)],by simp;exact fun h=>absurd h c⟩
theorem AS (a:AutT) (h1:a.2.1.length<=9223372036854775807) (h2:a.2.2.length<=9223372036854775807) (h3: ∀r∈a.2.2,r.length<=9223372036854775807): ∃b,bd a=some b/\(b=true↔a.2.1.length<=12/\VA a a.2.1.length):=by
 unfold bd
 rw[NI];simp only[aa,pz h1]
 by_cases c0:1<=(a.2.1.length:Int)/\(a.2.1.length:Int)<=12
 case neg=>exact ⟨false,by rw[if_neg (by simpa using c0)],by simp;exact fun h h'=>c0 ⟨by have:=h'.start;omega,by omega⟩⟩
 rw[if_pos (by simpa using c0),NI];simp only[aa]
 by_cases c1:0<=a.1/\a.1<=(a.2.1.length:Int) - 1
 case neg=>exact ⟨false,by rw[if_neg (by simpa using c1)],by simp;exact fun _ h=>c1 ⟨h.start.1,by have:=h.start.2;omega⟩⟩
 rw[if_pos (by simpa using c1)]
 by_cases c2:a.2.2.length=a.2.1.length
 case neg=>exact ⟨false,by rw[if_pos (by simp;omega)],by simp;exact fun _ h=>c2 h.nlen⟩
 rw[if_neg (by simp;omega)]
 have inner: ∀x:List Int,x.length<=9223372036854775807->(aG (bw a x) aV 0=some (.brk (x.length:Int))/\ ∀t∈x,-1<=t/\t<=(a.2.1.length:Int) - 1)\/(aG (bw a x) aV 0=some (.ret false)/\ ¬ ∀t∈x,-1<=t/\t<=(a.2.1.length:Int) - 1):=by
  intro x hx
  refine scan (f:=bw a x) x (fun t=> -1<=t/\t<=(a.2.1.length:Int) - 1) false hx (fun j hj=>?_) (by unfold bw;rw[if_neg (by simp)])
  unfold bw
  rw[if_pos (by simp;omega),aF (by omega) (by omega)];simp only[aa,pz h1]
  rw[NI];simp only[aa,aB (show j<9223372036854775807 by omega)]
  by_cases c: -1<=nth x (j:Int)/\nth x (j:Int)<=(a.2.1.length:Int) - 1
  ·rw[if_pos (by simpa using c),if_pos c]
  ·rw[if_neg (by simpa using c),if_neg c]
 have outer:=scan (f:=cB a) a.2.2 (fun r=>(∀t∈r,-1<=t/\t<=(a.2.1.length:Int) - 1)/\r.length=9) false h2 (fun i hi=>by
  unfold cB
  rw[if_pos (by simp;omega),aF (by omega) (by omega)];simp only[aa]
  rcases inner (nth a.2.2 (i:Int)) (h3 _ (bK (by omega) (by omega))) with ⟨e,k⟩ | ⟨e,k⟩
  ·rw[ax e]
   by_cases c:(nth a.2.2 (i:Int)).length=9
   ·rw[if_neg (by simp;omega),if_pos ⟨k,c⟩,aB (show i<9223372036854775807 by omega)]
   ·rw[if_pos (by simp;omega),if_neg (fun h=>c h.2)]
  ·rw[bm e,if_neg (fun h=>k h.1)]) (by unfold cB;rw[if_neg (by simp)])
 rcases outer with ⟨e,k⟩ | ⟨e,k⟩
 ·exact ⟨true,by rw[ax e],by simp;exact ⟨by omega,rfl,⟨c1.1,by omega⟩,c2,fun r hr=>(k r hr).2,fun r hr=>wY.1 (k r hr).1⟩⟩
 ·exact ⟨false,by rw[bm e],by simp;exact fun _ h=>k fun r hr=>⟨wY.2 (h.ent r hr),h.row r hr⟩⟩
end D
namespace D
open Go.RowKit
section
variable {a:AutT} (V:VA a a.2.1.length) (hn:a.2.1.length<=12) (hs:Data.sm a)
include V hn hs
theorem AT:aY a=some true:=by
 obtain ⟨-,⟨ha,-⟩,hl,hr⟩:=hs
 obtain ⟨b1,e1,k1⟩:=AR a (by omega) (by omega)
 rw[e1,k1.2 ⟨hn,V⟩]
theorem AU:bd a=some true:=by
 obtain ⟨-,⟨ha,-⟩,hl,hr⟩:=hs
 obtain ⟨b1,e1,k1⟩:=AS a (by omega) (by omega) (fun r h=>by have:r.length<=1048576:=(hr r h).1;omega)
 rw[e1,k1.2 ⟨hn,V⟩]
theorem AW (s:Int):gA a s=some (decide (0<=s/\s<(a.2.1.length:Int))):=by
 unfold gA
 simp only[ic]
 rw[AT V hn hs];simp only[aa,if_true]
 rw[cP (by omega) (by omega),OU];simp only[aa]
 congr 1
 exact decide_eq_decide.2 (by omega)
theorem wZ (l:List Int) (hl:l.length<=1000):eY a l=some (decide (∀x∈l,0<=x/\x<(a.2.1.length:Int))):=by
 unfold eY
 rcases scan (f:=gU a l) l (fun x=>0<=x/\x<(a.2.1.length:Int)) false (by omega) (fun i hi=>by
  unfold gU
  rw[if_pos (by simp;omega),aF (by omega) (by omega)];simp only[aa]
  rw[cP (by omega) (by omega),NI,aB (by omega)];simp only[aa]
  by_cases c:0<=nth l (i:Int)/\nth l (i:Int)<(a.2.1.length:Int)
  ·rw[if_pos (by simp;omega),if_pos c]
  ·rw[if_neg (by simp;omega),if_neg c]) (by unfold gU;simp) with ⟨e,h⟩ | ⟨e,h⟩
 ·rw[ax e,decide_eq_true h]
  simp only[ic]
  rw[AU V hn hs];rfl
 ·rw[bm e,decide_eq_false h]
end
end D
namespace D
open Go.RowKit
def Step (a:AutT) (x y:Int):Prop:= ∃k:Nat,k<9/\mv a x k=y/\0<=y
def ofw (a:AutT) (x:Int) (out:List Bool):Nat->List Bool
 | 0=>out
 | k+1=>if mv a x k≥0 then (ofw a x out k).set (mv a x k).toNat true else ofw a x out k
theorem fD (a:AutT) (x:Int) (out:List Bool): ∀k,(ofw a x out k).length=out.length
 | 0=>rfl
 | k+1=>by rw[ofw];split <;> simp[fD a x out k]
section
variable {a:AutT} {n:Nat}
theorem zb (V:VA a n) {x:Int} (h0:0<=x) (h1:x<n) {out:List Bool} (hl:out.length=n) {t:Int} (t0:0<=t) (t1:t<n): ∀k,k<=9->(nth (ofw a x out k) t=true↔nth out t=true\/ ∃j:Nat,j<k/\mv a x j=t)
 | 0,_=>by
  rw[ofw]
  constructor
  ·exact .inl
  ·rintro (h | ⟨j,h,-⟩)
   ·exact h
   ·omega
 | k+1,hk=>by
  have ih:=zb V h0 h1 hl t0 t1 k (by omega)
  have hm:=V.mv (s:=x) (k:=k) h0 h1 (by omega)
  have hlen:=fD a x out k
  rw[ofw]
  split
  ·rename_i c
   by_cases e:mv a x k=t
   ·subst e
    rw[dC (by omega) (by omega)]
    exact ⟨fun _=>.inr ⟨k,by omega,rfl⟩,fun _=>rfl⟩
   ·rw[gG (by omega) (by omega) e,ih]
    constructor
    ·rintro (h | ⟨j,h,h2⟩)
     ·exact .inl h
     ·exact .inr ⟨j,by omega,h2⟩
    ·rintro (h | ⟨j,h,h2⟩)
     ·exact .inl h
     ·by_cases f:j=k
      ·subst f;exact absurd h2 e
      ·exact .inr ⟨j,by omega,h2⟩
  ·rename_i c
   rw[ih]
   constructor
   ·rintro (h | ⟨j,h,h2⟩)
    ·exact .inl h
    ·exact .inr ⟨j,by omega,h2⟩
   ·rintro (h | ⟨j,h,h2⟩)
    ·exact .inl h
    ·by_cases f:j=k
     ·subst f;omega
     ·exact .inr ⟨j,by omega,h2⟩
theorem AX (V:VA a n) {x:Int} (h0:0<=x) (h1:x<n) {out:List Bool} (hl:out.length=n):aG (dS a x) aV (out,0)=some (.brk (ofw a x out 9,9)):=by
 exact bp (f:=dS a x) (fun k=>(ofw a x out k,(k:Int))) 9 (fun k hk=>by
  have hm:=V.mv (s:=x) (k:=k) h0 h1 hk
  have hlen:=fD a x out k
  unfold dS
  simp only
  rw[if_pos (by simp;omega),V.get h0 h1];simp only[aa]
  rw[V.get2 h0 h1 hk];simp only[aa,aB (show k<9223372036854775807 by omega)]
  rw[ofw]
  by_cases c:mv a x k≥0
  ·rw[if_pos (by simpa using c),if_pos c,aF c (by omega)];rfl
  ·rw[if_neg (by simpa using c),if_neg c];rfl) (by
  unfold dS
  simp) (by unfold aV;omega)
def ub (a:AutT) (x:Int) (out:List Bool):List Bool:=if nth out x=true then ofw a x out 9 else out
theorem JK (V:VA a n) {x:Int} (h0:0<=x) (h1:x<n) {out:List Bool} (hl:out.length=n) {k:Nat} (hk:k<=9) (hx:nth out x=true):nth (ofw a x out k) x=true:=(zb V h0 h1 hl h0 h1 k hk).2 (.inl hx)
theorem JL (V:VA a n) {x:Int} (h0:0<=x) (h1:x<n) {out out0:List Bool} (hl:out.length=n):aG (bX a (out0,x)) aV (out,0)=some (.brk (ub a x out,9)):=by
 unfold ub
 by_cases b:nth out x=true
 ·rw[if_pos b]
  exact bp (f:=bX a (out0,x)) (fun k=>(ofw a x out k,(k:Int))) 9 (fun k hk=>by
   have hm:=V.mv (s:=x) (k:=k) h0 h1 hk
   have hlen:=fD a x out k
   unfold bX
   simp only
   rw[if_pos (by simp;omega),aF h0 (by omega),JK V h0 h1 hl (by omega) b];simp only[aa,if_true]
   rw[V.get h0 h1];simp only[aa]
   rw[V.get2 h0 h1 hk];simp only[aa,aB (show k<9223372036854775807 by omega)]
   rw[ofw]
   by_cases c:mv a x k≥0
   ·rw[if_pos (by simpa using c),if_pos c,aF c (by omega)];rfl
   ·rw[if_neg (by simpa using c),if_neg c];rfl) (by
   unfold bX
   simp) (by unfold aV;omega)
 ·rw[if_neg b]
  exact bp (f:=bX a (out0,x)) (fun k=>(out,(k:Int))) 9 (fun k hk=>by
   unfold bX
   simp only
   rw[if_pos (by simp;omega),aF h0 (by omega)];simp only[aa,aB (show k<9223372036854775807 by omega)]
   rw[if_neg b];rfl) (by
   unfold bX
   simp) (by unfold aV;omega)
theorem zf (a:AutT) (x:Int) (out:List Bool):(ub a x out).length=out.length:=by
 unfold ub
 split
 ·exact fD a x out 9
 ·rfl
def rnd (a:AutT) (out:List Bool):Nat->List Bool
 | 0=>out
 | s+1=>ub a (s:Int) (rnd a out s)
theorem gI (a:AutT) (out:List Bool): ∀s,(rnd a out s).length=out.length
 | 0=>rfl
 | s+1=>by rw[rnd,zf,gI a out s]
def vn (a:AutT) (n:Nat) (out:List Bool):Nat->List Bool
 | 0=>out
 | j+1=>rnd a (vn a n out j) n
theorem dg (a:AutT) (n:Nat) (out:List Bool): ∀j,(vn a n out j).length=out.length
 | 0=>rfl
 | j+1=>by rw[vn,gI,dg a n out j]
theorem tz (V:VA a n) (hn:n<=1000000) {out:List Bool} (hl:out.length=n):aG (cX a) aV (out,0)=some (.brk (rnd a out n,(n:Int))):=by
 exact bp (f:=cX a) (fun s=>(rnd a out s,(s:Int))) n (fun s hs=>by
  unfold cX
  simp only
  rw[V.len,if_pos (by simp;omega),ax (JL V (by omega) (by omega) ((gI a out s).trans hl)),aB (by omega)];rfl) (by
  unfold cX
  simp only
  rw[V.len,if_neg (by simp)]) (ju (by omega))
def onw (a:AutT) (n:Nat) (x:Int):List Bool:=vn a n (ofw a x (List.replicate n false) 9) n
theorem qm (a:AutT) (n:Nat) (x:Int):(onw a n x).length=n:=by unfold onw;rw[dg,fD,List.length_replicate]
theorem w7 (V:VA a n) (hn:n<=1000000) {x:Int} (h0:0<=x) (h1:x<n):fB a x=some (onw a n x):=by
 have hl0:(ofw a x (List.replicate n false) 9).length=n:=by rw[fD,List.length_replicate]
 unfold fB
 rw[V.len,show mkI 1 (n:Int) false=some (List.replicate n false) from by unfold mkI;rw[if_pos (by omega)];simp];simp only[aa]
 rw[ax (AX V h0 h1 (List.length_replicate ..))]
 simp only
 have:=bp (f:=dU a) (fun j=>(vn a n (ofw a x (List.replicate n false) 9) j,(j:Int))) n (fun j hj=>by
  unfold dU
  simp only
  rw[V.len,if_pos (by simp;omega),ax (tz V hn ((dg a n _ j).trans hl0)),aB (by omega)];rfl) (by
  unfold dU
  simp only
  rw[V.len,if_neg (by simp)]) (ju (by omega))
 have this:aG (dU a) aV (ofw a x (List.replicate n false) 9,0)=_:=this
 rw[ax this];rfl
theorem w8 (V:VA a n) {x:Int} (h0:0<=x) (h1:x<n) {out:List Bool} (hl:out.length=n) {t:Int} (t0:0<=t) (t1:t<n):nth (ub a x out) t=true↔nth out t=true\/(nth out x=true/\Step a x t):=by
 unfold ub
 split
 ·rename_i b
  rw[zb V h0 h1 hl t0 t1 9 (by omega)]
  constructor
  ·rintro (h | ⟨j,h2,h3⟩)
   ·exact .inl h
   ·exact .inr ⟨b,j,h2,h3,t0⟩
  ·rintro (h | ⟨-,j,h2,h3,-⟩)
   ·exact .inl h
   ·exact .inr ⟨j,h2,h3⟩
 ·rename_i b
  constructor
  ·exact .inl
  ·rintro (h | ⟨h,-⟩)
   ·exact h
   ·exact absurd h b
theorem tC (V:VA a n) {P:Int->Prop} (hP: ∀x y,0<=x->x<n->P x->Step a x y->P y) {out:List Bool} (hl:out.length=n) (ho: ∀t:Int,0<=t->t<n->nth out t=true->P t): ∀s,s<=n-> ∀t:Int,0<=t->t<n->nth (rnd a out s) t=true->P t
 | 0,_=>ho
 | s+1,hs=>fun t t0 t1 h=>by
  rw[rnd] at h
  rcases (w8 V (x:=(s:Int)) (by omega) (by omega) ((gI a out s).trans hl) t0 t1).1 h with h | ⟨h,h2⟩
  ·exact tC V hP hl ho s (by omega) t t0 t1 h
  ·exact hP _ _ (by omega) (by omega) (tC V hP hl ho s (by omega) (s:Int) (by omega) (by omega) h) h2
theorem No {out:List Bool} {i:Nat} (h:i<out.length):out.set i true=out\/cnt out<cnt (out.set i true):=by
 cases hb:out[i] with
 | true=>exact .inl (wM h hb)
 | false=>exact .inr (by rw[wN h hb];omega)
theorem GV (V:VA a n) {x:Int} (h0:0<=x) (h1:x<n) {out:List Bool} (hl:out.length=n): ∀k,k<=9->ofw a x out k=out\/cnt out<cnt (ofw a x out k)
 | 0,_=>.inl rfl
 | k+1,hk=>by
  have ih:=GV V h0 h1 hl k (by omega)
  have hm:=V.mv (s:=x) (k:=k) h0 h1 (by omega)
  have hlen:=fD a x out k
  rw[ofw]
  split
  ·have:=No (out:=ofw a x out k) (i:=(mv a x k).toNat) (by omega)
   rcases this with e | e
   ·rw[e];exact ih
   ·rcases ih with f | f
    ·rw[f] at e⊢;exact .inr e
    ·exact .inr (by omega)
  ·exact ih
theorem zg (V:VA a n) {x:Int} (h0:0<=x) (h1:x<n) {out:List Bool} (hl:out.length=n):ub a x out=out\/cnt out<cnt (ub a x out):=by
 unfold ub
 split
 ·exact GV V h0 h1 hl 9 (by omega)
 ·exact .inl rfl
theorem w9 (V:VA a n) {out:List Bool} (hl:out.length=n): ∀s,s<=n->rnd a out s=out\/cnt out<cnt (rnd a out s)
 | 0,_=>.inl rfl
 | s+1,hs=>by
  have ih:=w9 V hl s (by omega)
  rw[rnd]
  rcases zg V (x:=(s:Int)) (by omega) (by omega) ((gI a out s).trans hl) with e | e
  ·rw[e];exact ih
  ·rcases ih with f | f
   ·rw[f] at e⊢;exact .inr e
   ·exact .inr (by omega)
theorem KV (V:VA a n) {out:List Bool} (hl:out.length=n) {s:Nat} : ∀d,s+d<=n->cnt (rnd a out s)<=cnt (rnd a out (s+d))
 | 0,_=>ay _
 | d+1,hd=>by
  have ih:=KV V hl (s:=s) d (by omega)
  rw[show s+(d+1)=(s+d)+1 from rfl,rnd]
  rcases zg V (x:=((s+d:Nat):Int)) (by omega) (by omega) ((gI a out (s+d)).trans hl) with e | e
  ·rw[e];exact ih
  ·omega
theorem AY (V:VA a n) {out:List Bool} (hl:out.length=n) (hf:rnd a out n=out) {x t:Int} (x0:0<=x) (x1:x<n) (t1:t<n) (hx:nth out x=true) (hs:Step a x t):nth out t=true:=by
 have t0:0<=t:=by obtain ⟨_,_,_,h⟩:=hs;exact h
 have same: ∀s,s<=n->rnd a out s=out:=fun s hs=>by
  rcases w9 V hl s hs with e | e
  ·exact e
  ·have:=KV V hl (s:=s) (n - s) (by omega)
   rw[show s+(n - s)=n by omega,hf] at this
   omega
 have h1:=same (x.toNat+1) (by omega)
 rw[rnd,same x.toNat (by omega),show ((x.toNat:Nat):Int)=x by omega] at h1
 rw[<-h1]
 exact (w8 V x0 x1 hl t0 t1).2 (.inr ⟨hx,hs⟩)
theorem xa (V:VA a n) {out:List Bool} (hl:out.length=n):rnd a (vn a n out n) n=vn a n out n:=by
 have key: ∀j,rnd a (vn a n out j) n=vn a n out j\/j<=cnt (vn a n out j):=fun j=>by
  induction j with
  | zero=>exact .inr (Nat.zero_le _)
  | succ j ih =>
   have hl1:=(dg a n out j).trans hl
   rcases ih with e | e
   ·left
    rw[vn,e,e]
   ·rcases w9 V hl1 n (ay _) with f | f
    ·left
     rw[vn,f,f]
    ·right
     rw[vn];omega
 rcases key n with e | e
 ·exact e
 ·have hl1:=(dg a n out n).trans hl
  rcases w9 V hl1 n (ay _) with f | f
  ·exact f
  ·have:=B1 (rnd a (vn a n out n) n)
   rw[gI,hl1] at this
   omega
theorem qn (V:VA a n) {x y:Int} (h0:0<=x) (h1:x<n) (h:Step a x y):0<=y/\y<n:=by
 obtain ⟨k,hk,rfl,hy⟩:=h
 exact ⟨hy,(V.mv h0 h1 hk).2⟩
theorem lL (V:VA a n) {x y:Int} (h0:0<=x) (h1:x<n) (h:Relation.TransGen (Step a) x y):0<=y/\y<n:=by
 induction h with
 | single h=>exact qn V h0 h1 h
 | tail _ h ih=>exact qn V ih.1 ih.2 h
theorem qo (V:VA a n) {P:Int->Prop} (hP: ∀x y,0<=x->x<n->P x->Step a x y->P y) {out:List Bool} (hl:out.length=n) (ho: ∀t:Int,0<=t->t<n->nth out t=true->P t): ∀j,∀t:Int,0<=t->t<n->nth (vn a n out j) t=true->P t
 | 0=>ho
 | j+1=>tC V hP ((dg a n out j).trans hl) (qo V hP hl ho j) n (ay _)
theorem Cd (V:VA a n) {out:List Bool} (hl:out.length=n) {t:Int} (t0:0<=t) (t1:t<n) (h:nth out t=true): ∀s,s<=n->nth (rnd a out s) t=true
 | 0,_=>h
 | s+1,hs=>by
  rw[rnd]
  exact (w8 V (by omega) (by omega) ((gI a out s).trans hl) t0 t1).2 (.inl (Cd V hl t0 t1 h s (by omega)))
theorem tD (V:VA a n) {out:List Bool} (hl:out.length=n) {t:Int} (t0:0<=t) (t1:t<n) (h:nth out t=true): ∀j,nth (vn a n out j) t=true
 | 0=>h
 | j+1=>by
  rw[vn]
  exact Cd V ((dg a n out j).trans hl) t0 t1 (tD V hl t0 t1 h j) n (ay _)
theorem qp (n:Nat) (t:Int):nth (List.replicate n false) t=false:=by
 unfold nth
 rw[List.getD_eq_getElem?_getD,List.getElem?_replicate]
 split <;> rfl
theorem xb (V:VA a n) {x:Int} (h0:0<=x) (h1:x<n) {t:Int} (t0:0<=t) (t1:t<n):nth (onw a n x) t=true↔Relation.TransGen (Step a) x t:=by
 have hl0:(ofw a x (List.replicate n false) 9).length=n:=by rw[fD,List.length_replicate]
 have hl1:=(dg a n _ n).trans hl0
 unfold onw
 constructor
 ·refine qo V (P:=fun t=>Relation.TransGen (Step a) x t) (fun y z _ _ hy hs=>.tail hy hs) hl0 (fun u u0 u1 hu=>?_) n t t0 t1
  rcases (zb V h0 h1 (List.length_replicate ..) u0 u1 9 (by omega)).1 hu with h | ⟨j,h2,h3⟩
  ·rw[qp] at h;cases h
  ·exact .single ⟨j,h2,h3,u0⟩
 ·intro h
  induction h with
  | single hs =>
   obtain ⟨k,hk,e,hy⟩:=hs
   exact tD V hl0 t0 t1 ((zb V h0 h1 (List.length_replicate ..) t0 t1 9 (by omega)).2 (.inr ⟨k,hk,e⟩)) n
  | tail ht hs ih =>
   have hb:=lL V h0 h1 ht
   exact AY V hl1 (xa V hl0) hb.1 hb.2 t1 (ih hb.1 hb.2) hs
end
structure FI (a:AutT) (n:Nat) (x:Int) (Q:List Int) (out:List Bool) (i:Nat):Prop where
 len:out.length=n
 q: ∀t∈Q,0<=t/\t<n/\nth out t=true
 first:nth out x=true
 sound: ∀t:Int,0<=t->t<n->nth out t=true->t=x\/Relation.TransGen (Step a) x t
 all:i+Q.length=cnt out
 closed: ∀s:Int,0<=s->s<n->nth out s=true->s∈Q\/ ∀t,Step a s t->nth out t=true
section
variable {a:AutT} {n:Nat}
theorem pJ {out:List Bool} {m t:Int} (m0:0<=m) (m1:m<out.length) (t0:0<=t) (h:nth out t=true):nth (out.set m.toNat true) t=true:=by
 by_cases e:m=t
 ·subst e;exact dC m0 m1
 ·rw[gG m0 t0 e];exact h
theorem FI.turn (V:VA a n) {x s m:Int} {Q:List Int} {out:List Bool} {i:Nat} (H:FI a n x (s::Q) out i) (x0:0<=x) (hm:Step a s m) (hb: ¬nth out m=true):FI a n x (s::(Q++ [m])) (out.set m.toNat true) i:=by
 obtain ⟨s0,s1,sm⟩:=H.q s (List.mem_cons_self ..)
 obtain ⟨m0,m1⟩:=qn V s0 s1 hm
 have hl:=H.len
 refine ⟨by rw[List.length_set];exact hl,fun t ht=>?_,pJ m0 (by omega) x0 H.first,fun t t0 t1 ht=>?_,?_,fun t t0 t1 ht=>?_⟩
 ·rcases au ht with rfl | ht
  ·exact ⟨s0,s1,pJ m0 (by omega) s0 sm⟩
  ·rcases aC ht with ht | ht
   ·obtain ⟨u0,u1,u2⟩:=H.q t (aS _ ht)
    exact ⟨u0,u1,pJ m0 (by omega) u0 u2⟩
   ·obtain rfl:=aj ht
    exact ⟨m0,m1,dC m0 (by omega)⟩
 ·by_cases e:m=t
  ·subst e
   rcases H.sound s s0 s1 sm with rfl | h
   ·exact .inr (.single hm)
   ·exact .inr (.tail h hm)
  ·rw[gG m0 t0 e] at ht
   exact H.sound t t0 t1 ht
 ·have hall:=H.all
  have e:out[m.toNat]'(by omega)=false:=by
   have:nth out m=out[m.toNat]'(by omega):=by
    have:=aZ (xs:=out) (i:=m.toNat) (by omega)
    rwa [show ((m.toNat:Nat):Int)=m by omega] at this
   rw[this] at hb
   simpa using hb
  rw[wN (by omega) e]
  simp at hall⊢
  omega
 ·by_cases e:m=t
  ·subst e
   exact .inl (aS _ (List.mem_append.2 (.inr (List.mem_singleton.2 rfl))))
  ·rw[gG m0 t0 e] at ht
   rcases H.closed t t0 t1 ht with h | h
   ·refine .inl ?_
    rcases au h with rfl | h
    ·exact List.mem_cons_self ..
    ·exact aS _ (List.mem_append.2 (.inl h))
   ·exact .inr fun u hu=>pJ m0 (by omega) (qn V t0 t1 hu).1 (h u hu)
theorem DB (V:VA a n) (hn:n<=1000000) {x:Int} (x0:0<=x) {s:Int} {Q:List Int} {out:List Bool} {i:Nat} (H:FI a n x (s::Q) out i) :
  ∃Q' out',aG (bY (nth a.2.2 s)) aV (s::Q,0,out)=some (.brk (s::Q',9,out'))/\FI a n x (s::Q') out' i/\ ∀t,Step a s t->nth out' t=true:=by
 obtain ⟨s0,s1,sm⟩:=H.q s (List.mem_cons_self ..)
 have hr:=V.rowAt s0 s1
 obtain ⟨st,e,Q',out',rfl,H',hp⟩:=b0 (f:=bY (nth a.2.2 s)) (fun k st=> ∃Q' out',st=(s::Q',(k:Int),out')/\FI a n x (s::Q') out' i/\ ∀j:Nat,j<k->0<=mv a s j->nth out' (mv a s j)=true) 9 (by
  rintro k st hk ⟨Q1,o1,rfl,H1,hp⟩
  have hm:=V.mv (s:=s) (k:=k) s0 s1 hk
  have hl:=H1.len
  have hall:=H1.all
  have hc:=B1 o1
  unfold bY
  simp only
  rw[if_pos (by simp;omega),V.get2 s0 s1 hk];simp only[aa,aB (show k<9223372036854775807 by omega)]
  by_cases c:mv a s k≥0
  ·rw[if_pos (by simpa using c),aF c (by omega)];simp only[aa]
   by_cases b:nth o1 (mv a s k)=true
   ·rw[if_pos b]
    refine ⟨_,rfl,Q1,o1,rfl,H1,fun j hj h0=>?_⟩
    by_cases e:j=k
    ·subst e;exact b
    ·exact hp j (by omega) h0
   ·rw[if_neg b,aP (by simp at hall⊢;omega)]
    refine ⟨_,rfl,Q1++ [mv a s k],o1.set (mv a s k).toNat true,rfl,H1.turn V x0 ⟨k,hk,rfl,c⟩ b,fun j hj h0=>?_⟩
    by_cases e:j=k
    ·subst e;exact dC c (by omega)
    ·exact pJ c (by omega) h0 (hp j (by omega) h0)
  ·rw[if_neg (by simpa using c)]
   refine ⟨_,rfl,Q1,o1,rfl,H1,fun j hj h0=>?_⟩
   by_cases e:j=k
   ·subst e;exact absurd h0 c
   ·exact hp j (by omega) h0) (by
  rintro st ⟨Q1,o1,rfl,-⟩
  unfold bY
  simp only
  rw[if_neg (by simp;omega)]) (s:=(s::Q,0,out)) ⟨Q,out,rfl,H,fun j hj=>by omega⟩ (by unfold aV;omega)
 exact ⟨Q',out',e,H',fun t ⟨k,hk,e,h0⟩=>by subst e;exact hp k hk h0⟩
theorem GW (V:VA a n) (hn:n<=1000000) {x:Int} (h0:0<=x) (h1:x<n): ∃out,b7 (x,a.2.1,a.2.2)=some out/\out.length=n/\ ∀t:Int,0<=t->t<n->(nth out t=true↔t=x\/Relation.TransGen (Step a) x t):=by
 have hx:(x.toNat:Int)=x:=by omega
 have hlr:(List.replicate n false).length=n:=List.length_replicate ..
 have hx':((List.replicate n false).set x.toNat true).length=n:=by rw[List.length_set,hlr]
 have hS: ∀t:Int,0<=t->t<n->(nth ((List.replicate n false).set x.toNat true) t=true↔t=x):=fun t t0 t1=>by
  by_cases e:x=t
  ·subst e
   rw[dC h0 (by omega)];simp
  ·rw[gG h0 t0 e,qp]
   constructor
   ·intro h;cases h
   ·intro h;exact absurd h.symm e
 unfold b7
 simp only
 rw[V.len,show mkI 1 (n:Int) false=some (List.replicate n false) from by unfold mkI;rw[if_pos (by omega)];simp];simp only[aa]
 rw[aF h0 (by omega)];simp only[aa]
 obtain ⟨o,e,out,rfl,hl,hs,hc,hf⟩:=cd (f:=eA (x,a.2.1,a.2.2)) (fun i st=>FI a n x st.1 st.2 i) (fun o=> ∃out,o= .brk ([],out)/\out.length=n/\(∀t:Int,0<=t->t<n->nth out t=true->t=x\/Relation.TransGen (Step a) x t)/\(∀s:Int,0<=s->s<n->nth out s=true-> ∀t,Step a s t->nth out t=true)/\nth out x=true) n (s:=([x],(List.replicate n false).set x.toNat true)) (by
  rintro i ⟨Q,out⟩ hi H
  have H:FI a n x Q out i:=H
  unfold eA
  simp only
  cases Q with
  | nil =>
   right
   refine ⟨_,by rw[if_neg (by simp)],fun s' e=>(by cases e),out,rfl,H.len,H.sound,fun s s0 s1 hs=>?_,H.first⟩
   rcases H.closed s s0 s1 hs with h | h
   ·cases h
   ·exact h
  | cons s Q =>
   left
   have hall:=H.all
   have hc:=B1 out
   have hl:=H.len
   obtain ⟨s0,s1,sm⟩:=H.q s (List.mem_cons_self ..)
   simp at hall
   refine ⟨by omega,?_⟩
   obtain ⟨Q',out',e,H',hp⟩:=DB V hn h0 H
   rw[if_pos (by simp),show a8 (s::Q) 0=some s from rfl];simp only[aa]
   rw[V.get s0 s1];simp only[aa]
   rw[ax e];simp only
   rw[qV (by simp;omega)];simp only[aa]
   refine ⟨_,rfl,H'.len,fun t ht=>H'.q t (aS _ ht),H'.first,H'.sound,?_,fun t t0 t1 ht=>?_⟩
   ·have:=H'.all
    simp at this⊢
    omega
   ·rcases H'.closed t t0 t1 ht with h | h
    ·rcases au h with rfl | h
     ·exact .inr hp
     ·exact .inl h
    ·exact .inr h) (by
  refine ⟨hx',fun t ht=>?_,(hS x h0 h1).2 rfl,fun t t0 t1 ht=>.inl ((hS t t0 t1).1 ht),?_,fun t t0 t1 ht=>.inl ?_⟩
  ·obtain rfl:=aj ht
   exact ⟨h0,h1,(hS _ h0 h1).2 rfl⟩
  ·show 0+1=_
   rw[wN (by omega) (by simp)]
   unfold cnt
   rw[List.count_replicate];rfl
  ·rw[(hS t t0 t1).1 ht];exact List.mem_singleton.2 rfl) (ju (by omega))
 rw[ax e]
 refine ⟨out,rfl,hl,fun t t0 t1=>⟨hs t t0 t1,?_⟩⟩
 rintro (rfl | h)
 ·exact hf
 ·have key: ∀u,Relation.TransGen (Step a) x u->nth out u=true:=fun u hu=>by
   induction hu with
   | single h=>exact hc x h0 h1 hf _ h
   | tail h k ih =>
    have hb:=lL V h0 h1 h
    exact hc _ hb.1 hb.2 ih _ k
  exact key t h
end
end D
namespace D
open Go.RowKit
theorem rI {R:Type} {f:Int->Option (Out R Int)} (l:List Int) (b:Int->Bool) (r:Nat->R) (hN:l.length<=9223372036854775807) (h: ∀i (hi:i<l.length),f (i:Int)=some (if b l[i] then .ret (r i) else .nxt ((i+1:Nat):Int))) (he:f (l.length:Int)=some (.brk (l.length:Int))) :
  (∃(i:Nat) (hi:i<l.length),b l[i] =true/\aG f aV 0=some (.ret (r i)))\/((∀x,x∈l->b x=false)/\aG f aV 0=some (.brk (l.length:Int))):=by
 obtain ⟨o,e,hQ⟩:=cd (f:=f) (fun i s=>s=(i:Int)/\ ∀j (hj:j<l.length),j<i->b l[j] =false) (fun o=>(∃(i:Nat) (hi:i<l.length),b l[i] =true/\o= .ret (r i))\/((∀x,x∈l->b x=false)/\o= .brk (l.length:Int))) l.length (fun i s hi hI=>by
  obtain ⟨rfl,hI⟩:=hI
  by_cases h1:i<l.length
  ·cases hb:b l[i] with
   | true=>exact .inr ⟨_,by rw[h i h1,hb,if_pos rfl],fun s' hh=>by simp at hh,.inl ⟨i,h1,hb,by simp⟩⟩
   | false=>exact .inl ⟨h1,_,by rw[h i h1,hb,if_neg (by simp)],rfl,fun j hj hji=>by
     by_cases c:j=i
     ·subst c;exact hb
     ·exact hI j hj (by omega)⟩
  ·obtain rfl:i=l.length:=by omega
   exact .inr ⟨_,he,fun s' hh=>by simp at hh,.inr ⟨fun x hx=>by
    obtain ⟨j,hj,rfl⟩:=List.getElem_of_mem hx
    exact hI j hj hj,rfl⟩⟩) (s:=0) ⟨rfl,fun j hj h0=>by omega⟩ (th _ hN)
 rcases hQ with ⟨i,hi,h1,rfl⟩ | ⟨h1,rfl⟩
 ·exact .inl ⟨i,hi,h1,e⟩
 ·exact .inr ⟨h1,e⟩
section
variable {l:List Int} {b:Int->Bool} {f:Int->Option Bool}
theorem tE (hl:l.length<=1073741824) (hf: ∀x∈l,f x=some (b x)):(∃(i:Nat) (hi:i<l.length),b l[i] =true/\aJ l f=some (i:Int))\/((∀x,x∈l->b x=false)/\aJ l f=some (-1)):=by
 unfold aJ
 rcases rI (f:=bt l f) l b (fun i=>(i:Int)) (by omega) (fun i hi=>by
   unfold bt
   rw[qT hi,if_pos rfl,fC hi]
   simp only[aa,hf _ (List.getElem_mem hi),aB (show i<9223372036854775807 by omega)]
   split <;> rfl) (by
   unfold bt
   rw[tg];rfl) with ⟨i,hi,h1,e⟩ | ⟨h1,e⟩
 ·exact .inl ⟨i,hi,h1,by rw[bm e]⟩
 ·exact .inr ⟨h1,by rw[ax e]⟩
theorem kK (hl:l.length<=1073741824) (hf: ∀x∈l,f x=some (b x)):aL l f=some (l.any b):=by
 unfold aL
 rcases tE hl hf with ⟨i,hi,h1,e⟩ | ⟨h1,e⟩
 ·have e:aJ l (fun a0=>f a0)=_:=e
  rw[e];simp only[aa]
  rw[show l.any b=true from List.any_eq_true.2 ⟨_,List.getElem_mem hi,h1⟩,decide_eq_true (show (i:Int)≥0 by omega)]
 ·have e:aJ l (fun a0=>f a0)=_:=e
  rw[e];simp only[aa]
  rw[show l.any b=false from by
   rw[List.any_eq_false]
   intro x hx
   rw[h1 x hx];simp];rfl
theorem DC {x:Int} (hl:l.length<=1073741824):bH l x=some (decide (x∈l)):=by
 unfold bH bA
 rcases rI (f:=a6 l x) l (fun y=>x==y) (fun i=>(i:Int)) (by omega) (fun i hi=>by
   unfold a6
   rw[qT hi,if_pos rfl,fC hi]
   simp only[aa,aB (show i<9223372036854775807 by omega)]
   split <;> rfl) (by
   unfold a6
   rw[tg];rfl) with ⟨i,hi,h1,e⟩ | ⟨h1,e⟩
 ·rw[bm e];simp only[aa]
  rw[decide_eq_true (show (i:Int)≥0 by omega),decide_eq_true (by rw[eq_of_beq h1];exact List.getElem_mem hi)]
 ·rw[ax e];simp only[aa]
  rw[decide_eq_false (show x∉l from fun hm=>by have:=h1 x hm;simp at this)];rfl
end
end D
namespace D
open Go.RowKit
theorem zh {a:AutT} {out:List Bool} {s:Nat} : ∀d,s+d<=out.length->cnt (cF a out s)<=cnt (cF a out (s+d))
 | 0,_=>ay _
 | d+1,hd=>by
  have ih:=zh (a:=a) (out:=out) (s:=s) d (by omega)
  rw[show s+(d+1)=(s+d)+1 from rfl,cF]
  rcases mT (a:=a) (out:=cF a out (s+d)) (s:=s+d) (by rw[dN];omega) with ⟨e,-⟩ | ⟨e,-,-⟩
  ·rw[e];exact ih
  ·omega
section
variable {a:AutT} {n:Nat}
theorem tF (V:VA a n) {s t:Int} (s0:0<=s) (s1:s<n) (h:Step a s t) (ht:nth (live a) t=true):nth (live a) s=true:=by
 have hn:=V.len
 have hll:=jU a
 have hf:cF a (live a) a.2.1.length=live a:=Gj a
 have same: ∀i,i<=a.2.1.length->cF a (live a) i=live a:=fun i hi=>by
  rcases nC (a:=a) (out:=live a) i (by omega) with e | e
  ·exact e.1
  ·have:=zh (a:=a) (out:=live a) (s:=i) (a.2.1.length - i) (by omega)
   rw[show i+(a.2.1.length - i)=a.2.1.length by omega,hf] at this
   omega
 have h1:=same (s.toNat+1) (by omega)
 rw[cF,same s.toNat (by omega)] at h1
 have hh:hit (live a) (nth a.2.2 ((s.toNat:Nat):Int))=true:=by
  rw[show ((s.toNat:Nat):Int)=s by omega]
  obtain ⟨k,hk,e,h0⟩:=h
  unfold hit
  rw[List.any_eq_true]
  refine ⟨t,?_,?_⟩
  ·rw[<-e];exact bK (by omega) (by rw[V.rowAt s0 s1];omega)
  ·unfold Dr;simp[h0,ht]
 unfold kq at h1
 rw[if_pos hh] at h1
 rw[<-h1]
 exact dC s0 (by omega)
theorem vo (V:VA a n) {s t:Int} (s0:0<=s) (s1:s<n) (h:Relation.TransGen (Step a) s t):nth (live a) t=true->nth (live a) s=true:=by
 induction h with
 | single h=>exact fun ht=>tF V s0 s1 h ht
 | tail h k ih =>
  have hb:=lL V s0 s1 h
  exact fun ht=>ih (tF V hb.1 hb.2 k ht)
def Use (a:AutT) (x:Int):Prop:=(x=a.1\/Relation.TransGen (Step a) a.1 x)/\nth (live a) x=true
theorem Use.in (V:VA a n) {x:Int} (h:Use a x):0<=x/\x<n:=by
 rcases h.1 with rfl | h
 ·exact V.start
 ·exact lL V V.start.1 V.start.2 h
theorem Use.next (V:VA a n) {x y:Int} (h:Use a x) (k:Relation.TransGen (Step a) x y) (hl:nth (live a) y=true):Use a y:=by
 refine ⟨.inr ?_,hl⟩
 rcases h.1 with rfl | h
 ·exact k
 ·exact h.trans k
theorem oz {x y:Int} (h:Relation.TransGen (Step a) x y): ∃u,Step a x u/\(u=y\/Relation.TransGen (Step a) u y):=by
 induction h with
 | single h=>exact ⟨_,h,.inl rfl⟩
 | tail _ k ih =>
  obtain ⟨u,h1,rfl | h2⟩:=ih
  ·exact ⟨_,h1,.inr (.single k)⟩
  ·exact ⟨u,h1,.inr (.tail h2 k)⟩
theorem Np (V:VA a n) {s:Int} (hs:Use a s) (hc:Relation.TransGen (Step a) s s): ∃C:Int->Prop,C s/\(∀x,C x->Use a x)/\ ∀x,C x-> ∃y,C y/\Step a x y:=by
 have hi:=hs.in V
 refine ⟨fun x=>Relation.TransGen (Step a) s x/\Relation.TransGen (Step a) x s,⟨hc,hc⟩,fun x ⟨h1,h2⟩=>?_,fun x ⟨h1,h2⟩=>?_⟩
 ·have hx:=lL V hi.1 hi.2 h1
  exact hs.next V h1 (vo V hx.1 hx.2 h2 hs.2)
 ·obtain ⟨u,h3,h4⟩:=oz h2
  refine ⟨u,⟨h1.tail h3,?_⟩,h3⟩
  rcases h4 with rfl | h4
  ·exact hc
  ·exact h4
theorem Pe {U:List Int} (h0:U≠ []) (h: ∀x∈U,∃y∈U,Step a x y): ∃x∈U,Relation.TransGen (Step a) x x:=by
 obtain ⟨f,hf⟩:=Classical.axiomOfChoice (r:=fun (x:Int) (y:Int)=>x∈U->y∈U/\Step a x y) (fun x=>by
  by_cases hx:x∈U
  ·obtain ⟨y,hy⟩:=h x hx
   exact ⟨y,fun _=>hy⟩
  ·exact ⟨0,fun h=>absurd h hx⟩)
 obtain ⟨x0,hx0⟩:=List.exists_mem_of_ne_nil U h0
 let sq:Nat->Int:=fun i=>Nat.rec x0 (fun _ y=>f y) i
 have hin: ∀i,sq i∈U:=fun i=>by
  induction i with
  | zero=>exact hx0
  | succ i ih=>exact (hf _ ih).1
 have hst: ∀i,Step a (sq i) (sq (i+1)):=fun i=>(hf _ (hin i)).2
 have htr: ∀i d,Relation.TransGen (Step a) (sq i) (sq (i+d+1)):=fun i d=>by
  induction d with
  | zero=>exact .single (hst i)
  | succ d ih=>exact .tail ih (hst (i+d+1))
 apply Classical.byContradiction
 intro hno
 have hd: ∀i j,i<j->sq i≠sq j:=fun i j hij e=>by
  refine hno ⟨sq i,hin i,?_⟩
  have:=htr i (j - i - 1)
  rw[show i+(j - i - 1)+1=j by omega,<-e] at this
  exact this
 have hnd:((List.range (U.length+1)).map sq).Nodup:=by
  rw[List.nodup_iff_pairwise_ne,List.pairwise_map]
  exact List.pairwise_lt_range.imp fun h=>hd _ _ h
 have:=hnd.length_le_of_subset (l₂:=U) (fun x hx=>by
  obtain ⟨i,-,rfl⟩:=List.mem_map.1 hx
  exact hin i)
 simp at this
 omega
end
end D
namespace D
open Go.RowKit
section
variable {b:AutT} (V:VA b b.2.1.length) (hn:b.2.1.length<=12) (hs:Data.sm b)
include V hn hs
theorem GX {s t:Int} (h0:0<=s/\s<b.2.1.length) (h1:0<=t/\t<b.2.1.length): ∃r,fY b s t=some r/\(r=true↔(s=t\/Relation.TransGen (Step b) s t)):=by
 have hl:=qm b b.2.1.length s
 have hm:=xb V h0.1 h0.2 h1.1 h1.2
 unfold fY
 simp only[ic]
 rw[AW V hn hs,AW V hn hs];simp only[aa]
 rw[if_pos (decide_eq_true h0),if_pos (decide_eq_true h1),w7 V (by omega) h0.1 h0.2];simp only[aa]
 rw[aF h1.1 (by omega)]
 by_cases c:s=t
 ·exact ⟨true,by simp[c],by simp[c]⟩
 ·refine ⟨nth (onw b b.2.1.length s) t,by simp[c],?_⟩
  rw[hm];simp[c]
theorem Ce {s:Int} (h0:0<=s/\s<b.2.1.length): ∃r,jL b s=some r/\(r=true↔Relation.TransGen (Step b) s s):=by
 have hl:=qm b b.2.1.length s
 unfold jL
 simp only[ic]
 rw[AW V hn hs];simp only[aa]
 rw[if_pos (decide_eq_true h0),w7 V (by omega) h0.1 h0.2];simp only[aa]
 rw[aF h0.1 (by omega)]
 exact ⟨_,rfl,xb V h0.1 h0.2 h0.1 h0.2⟩
theorem AZ {s t:Int} (h0:0<=s/\s<b.2.1.length) (h1:0<=t/\t<b.2.1.length): ∃r,cW b s t=some r/\(r=true↔(t=s\/Relation.TransGen (Step b) s t)):=by
 obtain ⟨out,e,hl,hm⟩:=GW V (by omega) h0.1 h0.2
 unfold cW
 simp only[ic]
 have e2:=wZ V hn hs [s,t] (by simp)
 rw[e2,decide_eq_true (by
  intro x hx
  rcases au hx with rfl | hx
  ·exact h0
  ·obtain rfl:=aj hx
   exact h1)];simp only[aa,if_true]
 rw[e];simp only[aa]
 rw[aF h1.1 (by omega)]
 exact ⟨_,rfl,hm t h1.1 h1.2⟩
theorem Cf {s t:Int} (h0:0<=s/\s<b.2.1.length) (ht:t∈nth b.2.2 s) (t0:0<=t):Step b s t:=by
 obtain ⟨k,hk,e⟩:=wI ht
 rw[V.rowAt h0.1 h0.2] at hk
 exact ⟨k,hk,e,t0⟩
theorem Cg {s:Int} (h0:0<=s/\s<b.2.1.length): ∃r,gj b s=some r/\(r=true↔Relation.TransGen (Step b) s s):=by
 classical
 unfold gj
 simp only[ic]
 rw[wZ V hn hs [s] (by simp),decide_eq_true (by
  intro x hx
  obtain rfl:=aj hx
  exact h0)];simp only[aa,if_true]
 rw[V.get h0.1 h0.2];simp only[aa]
 have hr:=V.rowAt h0.1 h0.2
 have hf: ∀t∈nth b.2.2 s,fy t b s=some (decide (0<=t/\(s=t\/Relation.TransGen (Step b) t s))):=fun t ht=>by
  have hb:=V.ent _ (bK h0.1 (by rw[V.nlen];exact h0.2)) t ht
  unfold fy
  by_cases c:t≥0
  ·obtain ⟨r,e,k⟩:=AZ V hn hs (s:=t) (t:=s) ⟨c,hb.2⟩ h0
   simp only[ic]
   rw[if_pos (by simpa using c),e];simp only[aa]
   congr 1
   rw[Bool.eq_iff_iff,k,decide_eq_true_eq]
   exact ⟨fun h=>⟨c,h⟩,fun h=>h.2⟩
  ·rw[if_neg (by simpa using c),decide_eq_false (fun h=>c h.1)]
 have e:=kK (f:=fun a0=>fy a0 b s) (by omega) hf
 have e:aL (nth b.2.2 s) (fun a0=>fy a0 (b.1,b.2.1,b.2.2) s)=_:=e
 rw[e]
 refine ⟨_,rfl,?_⟩
 rw[List.any_eq_true]
 constructor
 ·rintro ⟨t,ht,h⟩
  obtain ⟨t0,h⟩:=of_decide_eq_true h
  have hst:=Cf V hn hs h0 ht t0
  rcases h with rfl | h
  ·exact .single hst
  ·exact .trans (.single hst) h
 ·intro h
  obtain ⟨u,h1,h2⟩:=oz h
  obtain ⟨k,hk,e,u0⟩:=h1
  refine ⟨u,by rw[<-e];exact bK (by omega) (by omega),decide_eq_true ⟨u0,?_⟩⟩
  rcases h2 with rfl | h2
  ·exact .inl rfl
  ·exact .inr h2
theorem Ci {p q:Int} (hp:0<=p/\p<b.2.1.length) (hq:0<=q/\q<b.2.1.length): ∃L r,dR b p q (b.2.1.length:Int)=some L/\aL L (fun u=>iG u b q)=some r/\nr b p q=some r:=by
 have hch: ∀s:Int,∃m:Nat,-1<=s->s<b.2.1.length->m<2 ^ (b.2.1.length+1)/\c8 b s q=some (iY m)/\ix b s q=some (iY m):=fun s=>by
  by_cases c: -1<=s/\s<b.2.1.length
  ·obtain ⟨m,h⟩:=AN V hn c hq
   exact ⟨m,fun _ _=>h⟩
  ·exact ⟨0,fun h1 h2=>absurd ⟨h1,h2⟩ c⟩
 obtain ⟨ms,hms⟩:=Classical.axiomOfChoice hch
 have hS:2 ^ (p+1).toNat<2 ^ (b.2.1.length+1):=Nat.pow_lt_pow_right (by decide) (by omega)
 have hlt:=pI hn hms hS b.2.1.length
 have hlen:=pH (ql ms b.2.1.length (2 ^ (p+1).toNat) b.2.1.length)
 have hin: ∀x∈iY (ql ms b.2.1.length (2 ^ (p+1).toNat) b.2.1.length),-1<=x/\x<b.2.1.length:=fun x hx=>by
  obtain ⟨i,-,h2,rfl⟩:=iH.1 hx
  have:=(Cc hn hms hlt i h2).1
  omega
 have hb: ∀x∈iY (ql ms b.2.1.length (2 ^ (p+1).toNat) b.2.1.length),∃w,dM b x b q true=some (w,(ew b x q).getD false)/\ew b x q=some ((ew b x q).getD false):=fun x hx=>by
  obtain ⟨w,r,e1,e2⟩:=AK V hn (s0:=x) (q:=q) ⟨hin x hx,by show -1<=q;omega,hq.2⟩
  exact ⟨w,by rw[e1,e2];rfl,by rw[e2];rfl⟩
 have ei:=JJ V hn hms (p:=p) ⟨by omega,hp.2⟩ (by
  rw[wZ V hn hs [p,q] (by simp),decide_eq_true (by
   intro x hx
   rcases au hx with rfl | hx
   ·exact hp
   ·obtain rfl:=aj hx
    exact hq)])
 have es:=JI V hn hms (p:=p) ⟨by omega,hp.2⟩ (by omega)
 generalize iY (ql ms b.2.1.length (2 ^ (p+1).toNat) b.2.1.length)=L at *
 refine ⟨L,L.any (fun x=>(ew b x q).getD false),ei,kK (by omega) (fun x hx=>?_),?_⟩
 ·obtain ⟨w,-,e⟩:=hb x hx
  unfold iG
  simp only[ic]
  rw[e];rfl
 ·unfold nr
  simp only[ic]
  rw[es];simp only[aa]
  rcases rI (f:=jj b q L) L (fun x=>(ew b x q).getD false) (fun _=>true) (by omega) (fun i hi=>by
    obtain ⟨w,e,-⟩:=hb _ (List.getElem_mem hi)
    unfold jj
    simp only[ic]
    rw[qT hi,if_pos rfl,fC hi];simp only[aa]
    rw[e];simp only[aa,aB (show i<9223372036854775807 by omega)]
    split <;> rfl) (by
    unfold jj
    rw[tg];rfl) with ⟨i,hi,h1,e⟩ | ⟨h1,e⟩
  ·rw[bm e,show L.any _=true from List.any_eq_true.2 ⟨_,List.getElem_mem hi,h1⟩]
  ·rw[ax e,show L.any (fun x=>(ew b x q).getD false)=false from by
    rw[List.any_eq_false]
    intro x hx
    rw[h1 x hx];simp]
end
theorem zi {R:Type} {f g:Int->Option (Out R Int)} (n:Nat) (hn:n<=9223372036854775807) (h: ∀i:Nat,i<n->f (i:Int)=g (i:Int)/\(f (i:Int)=some (.nxt ((i+1:Nat):Int))\/ ∃r,f (i:Int)=some (.ret r))) (hf:f (n:Int)=some (.brk (n:Int))) (hg:g (n:Int)=some (.brk (n:Int))) :
  aG f aV 0=aG g aV 0/\((∃r,aG f aV 0=some (.ret r))\/aG f aV 0=some (.brk (n:Int))):=by
 constructor
 ·have key: ∀k (i:Nat),i<=n->aG f k (i:Int)=aG g k (i:Int):=fun k=>by
   induction k with
   | zero=>intro i hi;rfl
   | succ k ih =>
    intro i hi
    rw[aG,aG]
    by_cases c:i<n
    ·obtain ⟨e,h2⟩:=h i c
     rw[<-e]
     rcases h2 with h2 | ⟨r,h2⟩
     ·rw[h2];exact ih (i+1) (by omega)
     ·rw[h2]
    ·obtain rfl:i=n:=by omega
     rw[hf,hg]
  exact key aV 0 (by omega)
 ·obtain ⟨o,e,hQ⟩:=cd (f:=f) (fun i s=>s=(i:Int)) (fun o=>(∃r,o= .ret r)\/o= .brk (n:Int)) n (fun i s hi hI=>by
   subst hI
   by_cases c:i<n
   ·rcases (h i c).2 with h2 | ⟨r,h2⟩
    ·exact .inl ⟨c,_,h2,rfl⟩
    ·exact .inr ⟨_,h2,fun s' hh=>by simp at hh,.inl ⟨r,rfl⟩⟩
   ·obtain rfl:i=n:=by omega
    exact .inr ⟨_,hf,fun s' hh=>by simp at hh,.inr rfl⟩) (s:=0) rfl (ju hn)
  rcases hQ with ⟨r,rfl⟩ | rfl
  ·exact .inl ⟨r,e⟩
  ·exact .inr e
theorem Nq {b:AutT} (V:VA b b.2.1.length) (hn:b.2.1.length<=12) (hs:Data.sm b) {p:Nat} (hp:p<b.2.1.length) :
  aG (bE b (p:Int)) aV 0=aG (gW b (p:Int)) aV 0/\((∃r,aG (bE b (p:Int)) aV 0=some (.ret r))\/aG (bE b (p:Int)) aV 0=some (.brk (b.2.1.length:Int))):=by
 refine zi b.2.1.length (by omega) (fun q hq=>?_) ?_ ?_
 ·obtain ⟨r1,e1,k1⟩:=Ce V hn hs (s:=(p:Int)) ⟨by omega,by omega⟩
  obtain ⟨r1',e1',k1'⟩:=Cg V hn hs (s:=(p:Int)) ⟨by omega,by omega⟩
  obtain ⟨r2,e2,k2⟩:=Ce V hn hs (s:=(q:Int)) ⟨by omega,by omega⟩
  obtain ⟨r2',e2',k2'⟩:=Cg V hn hs (s:=(q:Int)) ⟨by omega,by omega⟩
  obtain ⟨r3,e3,k3⟩:=GX V hn hs (s:=(p:Int)) (t:=(q:Int)) ⟨by omega,by omega⟩ ⟨by omega,by omega⟩
  obtain ⟨r3',e3',k3'⟩:=AZ V hn hs (s:=(p:Int)) (t:=(q:Int)) ⟨by omega,by omega⟩ ⟨by omega,by omega⟩
  obtain ⟨L,r4,e4,e5,e6⟩:=Ci V hn hs (p:=(p:Int)) (q:=(q:Int)) ⟨by omega,by omega⟩ ⟨by omega,by omega⟩
  obtain rfl:r1'=r1:=by rw[Bool.eq_iff_iff,k1,k1']
  obtain rfl:r2'=r2:=by rw[Bool.eq_iff_iff,k2,k2']
  obtain rfl:r3'=r3:=by rw[Bool.eq_iff_iff,k3,k3',eq_comm]
  unfold bE gW
  simp only[ic]
  rw[if_pos (by simp;omega),if_pos (by simp;omega),e1,e1'];simp only[aa]
  cases r1' with
  | false=>simp only[Bool.false_eq_true,if_false,tL,aB (show q<9223372036854775807 by omega)];simp
  | true =>
   simp only[if_true]
   rw[e2,e2'];simp only[aa]
   cases r2' with
   | false=>simp only[Bool.false_eq_true,if_false,tL,aB (show q<9223372036854775807 by omega)];simp
   | true =>
    simp only[if_true]
    rw[e3,e3'];simp only[aa]
    cases r3' with
    | false=>simp only[Bool.false_eq_true,if_false,tL,aB (show q<9223372036854775807 by omega)];simp
    | true =>
     simp only[if_true]
     rw[e4,e6];simp only[aa]
     rw[e5];simp only[aa]
     cases r4 with
     | false=>simp only[Bool.false_eq_true,if_false,tL,aB (show q<9223372036854775807 by omega)];simp
     | true=>simp only[if_true,tL];simp
 ·unfold bE;rw[if_neg (by simp)]
 ·unfold gW;rw[if_neg (by simp)]
theorem GY (a:AutT) (hs:Data.sm a): ∃r,gB a=some r/\fb a=some r:=by
 have hsm:=hs
 obtain ⟨-,⟨ha,-⟩,hn,hr⟩:=hs
 obtain ⟨b1,e1,k1⟩:=AR a (by omega) (by omega)
 obtain ⟨b2,e2,k2⟩:=AS a (by omega) (by omega) (fun r h=>by have:r.length<=1048576:=(hr r h).1;omega)
 have:b2=b1:=by rw[Bool.eq_iff_iff,k1,k2]
 subst this
 unfold gB fb eS
 simp only[ic]
 rw[e1,e2];simp only[aa]
 cases b2 with
 | false =>
  simp only[Bool.false_eq_true,if_false,aa]
  have:aG (bF (0,[],[])) aV 0=some (.brk 0):=bp (f:=bF (0,[],[])) (fun i=>(i:Int)) 0 (fun i hi=>by omega) (by unfold bF;simp) (by unfold aV;omega)
  rw[ax this]
  exact ⟨_,rfl,rfl⟩
 | true =>
  obtain ⟨h12,V⟩:=k1.1 rfl
  obtain ⟨m,em,ei,hm,Vm,hl⟩:=Dv V (by omega)
  simp only[if_true]
  rw[em,ei];simp only[aa]
  obtain ⟨e,ho⟩:=zi (f:=bF m) (g:=gX m) m.2.1.length (by omega) (fun p hp=>by
   obtain ⟨e,ho⟩:=Nq Vm (by omega) hm hp
   unfold bF gX
   rw[if_pos (by simp;omega),if_pos (by simp;omega),<-e]
   rcases ho with ⟨r,ho⟩ | ho
   ·rw[bm ho];exact ⟨rfl,.inr ⟨_,rfl⟩⟩
   ·rw[ax ho,aB (by omega)];exact ⟨rfl,.inl rfl⟩) (by
   unfold bF;rw[if_neg (by simp)]) (by
   unfold gX;rw[if_neg (by simp)])
  rw[<-e]
  rcases ho with ⟨r,ho⟩ | ho
  ·rw[bm ho];exact ⟨_,rfl,rfl⟩
  ·rw[ax ho];exact ⟨_,rfl,rfl⟩
end D
namespace D
open Go.RowKit
theorem JM:mD=cX:=rfl
theorem one_set {n:Nat} {x:Int} (h0:0<=x) (h1:x<n) {t:Int} (t0:0<=t):nth ((List.replicate n false).set x.toNat true) t=true↔t=x:=by
 by_cases e:x=t
 ·subst e
  rw[dC h0 (by rw[List.length_replicate];exact h1)];simp
 ·rw[gG h0 t0 e,qp]
  constructor
  ·intro h;cases h
  ·intro h;exact absurd h.symm e
section
variable {a:AutT} {n:Nat}
theorem GZ (V:VA a n) (hn:n<=1000000): ∃out,kg a=some out/\out.length=n/\ ∀t:Int,0<=t->t<n->(nth out t=true↔t=a.1\/Relation.TransGen (Step a) a.1 t):=by
 have h0:=V.start
 have hlr:(List.replicate n false).length=n:=List.length_replicate ..
 have hl0:((List.replicate n false).set a.1.toNat true).length=n:=by rw[List.length_set,hlr]
 have hl1:=(dg a n _ n).trans hl0
 refine ⟨vn a n ((List.replicate n false).set a.1.toNat true) n,?_,hl1,fun t t0 t1=>⟨?_,?_⟩⟩
 ·unfold kg
  rw[V.len,show mkI 1 (n:Int) false=some (List.replicate n false) from by unfold mkI;rw[if_pos (by omega)];simp];simp only[aa]
  rw[aF h0.1 (by omega)];simp only[aa]
  have:=bp (f:=fc a) (fun j=>(vn a n ((List.replicate n false).set a.1.toNat true) j,(j:Int))) n (fun j hj=>by
   have e:=tz V hn ((dg a n _ j).trans hl0)
   unfold fc
   simp only
   rw[V.len,if_pos (by simp;omega),JM,ax e,aB (by omega)];rfl) (by
   unfold fc
   simp only
   rw[V.len,if_neg (by simp)]) (ju (by omega))
  have this:aG (fc a) aV ((List.replicate n false).set a.1.toNat true,0)=_:=this
  rw[ax this]
 ·refine qo V (P:=fun t=>t=a.1\/Relation.TransGen (Step a) a.1 t) (fun y z _ _ hy hs=>?_) hl0 (fun u u0 u1 hu=>.inl ((one_set h0.1 h0.2 u0).1 hu)) n t t0 t1
  rcases hy with hy | hy
  ·rw[hy] at hs;exact .inr (.single hs)
  ·exact .inr (.tail hy hs)
 ·have hst:=tD V hl0 h0.1 h0.2 ((one_set h0.1 h0.2 h0.1).2 rfl) n
  have key: ∀u,Relation.TransGen (Step a) a.1 u->nth (vn a n ((List.replicate n false).set a.1.toNat true) n) u=true:=fun u hu=>by
   induction hu with
   | single h=>exact AY V hl1 (xa V hl0) h0.1 h0.2 (qn V h0.1 h0.2 h).2 hst h
   | tail h k ih =>
    have hb:=lL V h0.1 h0.2 h
    exact AY V hl1 (xa V hl0) hb.1 hb.2 (qn V hb.1 hb.2 k).2 ih k
  rintro (rfl | h)
  ·exact hst
  ·exact key t h
def zo (x y:List Bool):Nat->List Int
 | 0=>[]
 | k+1=>if nth x k=true/\nth y k=true then zo x y k++ [(k:Int)] else zo x y k
theorem rJ (x y:List Bool): ∀k,(zo x y k).length<=k
 | 0=>ay _
 | k+1=>by
  have:=rJ x y k
  rw[zo];split <;> simp <;> omega
theorem Cj {x y:List Bool} {t:Int} : ∀k,(t∈zo x y k↔0<=t/\t<(k:Int)/\nth x t=true/\nth y t=true)
 | 0=>by simp[zo];omega
 | k+1=>by
  have ih:=Cj (x:=x) (y:=y) (t:=t) k
  rw[zo]
  split
  ·rename_i c
   rw[List.mem_append,ih,List.mem_singleton]
   constructor
   ·rintro (h | rfl)
    ·exact ⟨h.1,by omega,h.2.2⟩
    ·exact ⟨by omega,by omega,c⟩
   ·rintro ⟨h1,h2,h3⟩
    by_cases e:t=(k:Int)
    ·exact .inr e
    ·exact .inl ⟨h1,by omega,h3⟩
  ·rename_i c
   rw[ih]
   constructor
   ·rintro h;exact ⟨h.1,by omega,h.2.2⟩
   ·rintro ⟨h1,h2,h3⟩
    by_cases e:t=(k:Int)
    ·subst e;exact absurd h3 c
    ·exact ⟨h1,by omega,h3⟩
theorem Ck (V:VA a a.2.1.length) (hn:a.2.1.length<=12) (hs:Data.sm a): ∃U,fX a=some U/\fV a=some U/\U.length<=12/\ ∀x,x∈U↔Use a x:=by
 obtain ⟨r,er,hl,hr⟩:=GZ V (by omega)
 obtain ⟨f,ef,hfl,hf⟩:=GW V (by omega) V.start.1 V.start.2
 have ef:b7 a=some f:=ef
 have hll:=jU a
 have e1:r=f:=F8 (by omega) (fun i hi=>by
  rw[Bool.eq_iff_iff,hr i (by omega) (by omega),hf i (by omega) (by omega)])
 subst e1
 have esw: ∀k,zo (live a) r k=zo r (live a) k:=fun k=>by
  induction k with
  | zero=>rfl
  | succ k ih=>rw[zo,zo,ih];simp only[and_comm]
 refine ⟨zo r (live a) a.2.1.length,?_,?_,by have:=rJ r (live a) a.2.1.length;omega,fun x=>?_⟩
 ·unfold fX
  simp only[ic]
  rw[AT V hn hs];simp only[aa,if_true]
  rw[er,Gl V (by omega)];simp only[aa]
  have:=bp (f:=cO a r (live a)) (fun k=>(zo r (live a) k,(k:Int))) a.2.1.length (fun k hk=>by
   have:=rJ r (live a) k
   unfold cO
   simp only
   rw[if_pos (by simp;omega),aF (by omega) (by omega),aF (by omega) (by omega),aP (by simp;omega),aB (by omega),zo];simp only[aa]
   cases nth r (k:Int) <;> cases nth (live a) (k:Int) <;> simp) (by
   unfold cO
   simp only
   rw[if_neg (by simp)]) (ju (by omega))
  have this:aG (cO a r (live a)) aV (([] :List Int),0)=_:=this
  rw[ax this]
 ·unfold fV
  simp only[ic]
  rw[AU V hn hs];simp only[aa,if_true]
  rw[ef,KL V (by omega)];simp only[aa]
  have:=bp (f:=cK (live a) r) (fun k=>(zo (live a) r k,(k:Int))) a.2.1.length (fun k hk=>by
   have:=rJ (live a) r k
   unfold cK
   simp only
   rw[if_pos (by simp;omega),aF (by omega) (by omega),aF (by omega) (by omega),aP (by simp;omega),aB (by omega),zo];simp only[aa]
   cases nth r (k:Int) <;> cases nth (live a) (k:Int) <;> simp) (by
   unfold cK
   simp only
   rw[if_neg (by simp;omega)]) (ju (by omega))
  have this:aG (cK (live a) r) aV (([] :List Int),0)=_:=this
  rw[ax this,esw]
 ·rw[Cj]
  constructor
  ·rintro ⟨h0,h1,h2,h3⟩
   exact ⟨(hr x h0 h1).1 h2,h3⟩
  ·intro h
   obtain ⟨h0,h1⟩:=h.in V
   exact ⟨h0,h1,(hr x h0 h1).2 h.1,h.2⟩
theorem JN (V:VA a a.2.1.length) (hn:a.2.1.length<=12) (hs:Data.sm a): ∃r,bC a=some r/\(r=true↔ ∀x,Use a x-> ¬Relation.TransGen (Step a) x x):=by
 obtain ⟨U,es,-,hU,hm⟩:=Ck V hn hs
 unfold bC
 simp only[ic]
 rw[AT V hn hs];simp only[aa,if_true]
 rw[es];simp only[aa]
 rcases rI (f:=cD a U) U (fun x=>nth (onw a a.2.1.length x) x) (fun _=>false) (by omega) (fun i hi=>by
   obtain ⟨h0,h1⟩:=((hm _).1 (List.getElem_mem hi)).in V
   have hl:=qm a a.2.1.length U[i]
   unfold cD
   simp only[ic]
   rw[qT hi,if_pos rfl,fC hi];simp only[aa]
   rw[w7 V (by omega) h0 h1];simp only[aa]
   rw[aF h0 (by omega)];simp only[aa,aB (show i<9223372036854775807 by omega)]
   split <;> rfl) (by
   unfold cD
   rw[tg];rfl) with ⟨i,hi,h1,e⟩ | ⟨h1,e⟩
 ·refine ⟨false,bm e,?_⟩
  obtain ⟨h0,h2⟩:=((hm _).1 (List.getElem_mem hi)).in V
  constructor
  ·intro h;cases h
  ·intro h
   exact absurd ((xb V h0 h2 h0 h2).1 h1) (h _ ((hm _).1 (List.getElem_mem hi)))
 ·refine ⟨true,ax e,?_⟩
  constructor
  ·intro _ x hx hc
   obtain ⟨h0,h2⟩:=hx.in V
   have:=h1 x ((hm x).2 hx)
   rw[(xb V h0 h2 h0 h2).2 hc] at this
   cases this
  ·intro _;rfl
structure FinI (a:AutT) (U:List Int) (i:Nat):Prop where
 len:U.length+i<=12
 use: ∀x∈U,Use a x
 cyc: ∀C:Int->Prop,(∀x,C x->Use a x)->(∀x,C x-> ∃y,C y/\Step a x y)-> ∀x,C x->x∈U
theorem JO (V:VA a a.2.1.length) (hn:a.2.1.length<=12) (hs:Data.sm a): ∃r,be a=some r/\(r=true↔ ∀x,Use a x-> ¬Relation.TransGen (Step a) x x):=by
 obtain ⟨U,-,ei,hU,hm⟩:=Ck V hn hs
 unfold be
 simp only[ic]
 rw[AU V hn hs];simp only[aa,if_true]
 rw[ei];simp only[aa]
 obtain ⟨o,e,hQ⟩:=cd (f:=dH a) (fun i U=>FinI a U i) (fun o=>(o= .brk [] /\ ∀x,Use a x-> ¬Relation.TransGen (Step a) x x)\/(o= .ret false/\ ∃x,Use a x/\Relation.TransGen (Step a) x x)) 12 (s:=U) (by
  intro i U hi H
  have hlen:=H.len
  unfold dH
  simp only[ic]
  cases hU:U with
  | nil =>
   subst hU
   refine .inr ⟨_,by rw[if_neg (by simp)],fun s' h=>(by cases h),.inl ⟨rfl,fun x hx hc=>?_⟩⟩
   obtain ⟨C,h1,h2,h3⟩:=Np V hx hc
   cases H.cyc C h2 h3 x h1
  | cons z zs =>
   rw[<-hU]
   have hpos:0<U.length:=by rw[hU];simp
   rw[if_pos (by simp;omega)]
   have hf: ∀s∈U,bs s a U=some (!((nth a.2.2 s).any fun t=>decide (t∈U))):=fun s hs'=>by
    obtain ⟨s0,s1⟩:=(H.use s hs').in V
    have hrw:=V.rowAt s0 s1
    unfold bs
    rw[V.get s0 s1];simp only[aa]
    rw[kK (b:=fun t=>decide (t∈U)) (by omega) (fun t _=>by
     unfold dy
     rw[DC (by omega)];rfl)];rfl
   have hrow: ∀s∈U,((nth a.2.2 s).any fun t=>decide (t∈U))=true↔ ∃y∈U,Step a s y:=fun s hs'=>by
    have hi':=(H.use s hs').in V
    have hrw:=V.rowAt hi'.1 hi'.2
    rw[List.any_eq_true]
    constructor
    ·rintro ⟨t,ht,h⟩
     have h:=of_decide_eq_true h
     exact ⟨t,h,Cf V hn hs hi' ht ((H.use t h).in V).1⟩
    ·rintro ⟨y,hy,k,hk,e,h0⟩
     exact ⟨y,by rw[<-e];exact bK (by omega) (by omega),decide_eq_true hy⟩
   rcases tE (f:=fun u=>bs u a U) (by omega) hf with ⟨k,hk,h1,e⟩ | ⟨h1,e⟩
   ·left
    have e:aJ U (fun u=>bs u (a.1,a.2.1,a.2.2) U)=_:=e
    rw[e];simp only[aa]
    rw[if_neg (by simp),aB (by omega)]
    unfold cL R.PD
    rw[qV (by omega)];simp only[aa]
    have hsp:U.take k++(U[k] ::U.drop (k+1))=U:=by rw[<-List.drop_eq_getElem_cons hk,List.take_append_drop]
    refine ⟨by omega,_,rfl,?_,fun x hx=>?_,fun C h2 h3 x hx=>?_⟩
    ·simp;omega
    ·refine H.use x ?_
     have hx:x∈U.take k++U.drop (k+1):=hx
     rw[<-hsp]
     rcases aC hx with h | h
     ·exact List.mem_append.2 (.inl h)
     ·exact List.mem_append.2 (.inr (aS _ h))
    ·have hin:=H.cyc C h2 h3
     have hne:x≠U[k]:=fun e=>by
      obtain ⟨y,h4,h5⟩:=h3 x hx
      have:=(hrow U[k] (List.getElem_mem hk)).2 ⟨y,hin y h4,by rw[<-e];exact h5⟩
      rw[this] at h1
      cases h1
     have hx':=hin x hx
     rw[<-hsp] at hx'
     show x∈U.take k++U.drop (k+1)
     rcases aC hx' with h | h
     ·exact List.mem_append.2 (.inl h)
     ·rcases au h with h | h
      ·exact absurd h hne
      ·exact List.mem_append.2 (.inr h)
   ·right
    have e:aJ U (fun u=>bs u (a.1,a.2.1,a.2.2) U)=_:=e
    rw[e];simp only[aa]
    refine ⟨_,by rw[if_pos (by decide)],fun s' h=>(by cases h),.inr ⟨rfl,?_⟩⟩
    obtain ⟨x,hx,hc⟩:=Pe (a:=a) (U:=U) (by intro h;rw[h] at hpos;simp at hpos) (fun x hx=>by
     have:=h1 x hx
     refine (hrow x hx).1 ?_
     simpa using this)
    exact ⟨x,H.use x hx,hc⟩) ⟨by omega,fun x hx=>(hm x).1 hx,fun C h1 h2 x hx=>(hm x).2 (h1 x hx)⟩ (by unfold aV;omega)
 rcases hQ with ⟨rfl,hQ⟩ | ⟨rfl,x,hx,hc⟩
 ·exact ⟨true,ax e,fun _=>hQ,fun _=>rfl⟩
 ·refine ⟨false,bm e,fun h=>(by cases h),fun h=>absurd hc (h x hx)⟩
end
end D
namespace D
open Go.RowKit
section
variable {κ:Type} [DecidableEq κ] {nx:κ->List (Option κ)} {first:κ} {N:Nat}
theorem A0: ∀ {l:List κ} {x:κ} (h:x∈l),l[l.idxOf x]'(List.idxOf_lt_length_iff.2 h)=x:=fun {l x} h=>by simp
def krun (nx:κ->List (Option κ)):Option κ->List Nat->Option κ
 | x,[] =>x
 | none,_::_=>none
 | some x,k::w=>krun nx (nth (nx x) (k:Int)) w
theorem mV (nx:κ->List (Option κ)): ∀w,krun nx none w=none
 | [] =>rfl
 | _::_=>rfl
theorem Pf (E:bfE nx first N) {i:Nat} (hi:i<N) {j:Nat} (hij:i<j) (hj:j<=N):nth (bfR nx first j) (i:Int)=nbR (bfS nx first i) (nx ((bfS nx first i)[i]'(E.2 i hi))):=by
 induction j with
 | zero=>omega
 | succ j ih =>
  rw[nB (E.2 j (by omega))]
  have hl:(bfR nx first j).length=j:=gH fun m hm=>E.2 m (by omega)
  by_cases h:i<j
  ·rw[fj (by omega) (by omega),ih h (by omega)]
  ·obtain rfl:i=j:=by omega
   rw[aZ (by rw[aq,hl];simp)]
   simp[hl]
theorem Pg {i:Nat} (h:i<(bfS nx first i).length) {j:Nat} (hij:i<=j):(bfS nx first j)[i]? =some ((bfS nx first i)[i]):=by
 have hp:=iz (nx:=nx) (first:=first) hij
 obtain ⟨t,ht⟩:=hp
 rw[<-ht,List.getElem?_append_left h,List.getElem?_eq_getElem h]
theorem Nr (E:bfE nx first N) {x:κ} (hx:x∈bfS nx first N) {k:Nat} (hk:k<(nx x).length) :
  nth (nth (bfR nx first N) ((bfS nx first N).idxOf x:Int)) (k:Int)=(match nth (nx x) (k:Int) with | none=> -1 | some y=>((bfS nx first N).idxOf y:Int))/\ ∀y,nth (nx x) (k:Int)=some y->y∈bfS nx first N:=by
 have hlt:(bfS nx first N).idxOf x<N:=by
  have:=List.idxOf_lt_length_iff.2 hx
  have:=E.1
  omega
 generalize hi:(bfS nx first N).idxOf x=i at hlt⊢
 have hl:=E.2 i hlt
 have hxi:(bfS nx first i)[i] =x:=by
  have h1:=Pg hl (Nat.le_of_lt hlt)
  have h2:(bfS nx first N)[i]? =some x:=by
   rw[<-hi,List.getElem?_eq_getElem (List.idxOf_lt_length_iff.2 hx),A0 hx]
  rw[h1] at h2;exact ae h2
 rw[Pf E hlt hlt (ay _),hxi,Gx _ _ _ hk]
 have hs:nbS (bfS nx first i) (nx x)=bfS nx first (i+1):=by rw[rC hl,hxi]
 have hp:nbS (bfS nx first i) (nx x) <+:bfS nx first N:=by rw[hs];exact iz hlt
 cases ho:nth (nx x) (k:Int) with
 | none=>exact ⟨rfl,fun y hy=>by cases hy⟩
 | some y =>
  have hm:some y∈nx x:=by
   rw[<-ho];exact bK (by omega) (by omega)
  have hy:y∈nbS (bfS nx first i) (nx x):=iX.2 (.inr hm)
  refine ⟨?_,fun z hz=>?_⟩
  ·show ((nbS (bfS nx first i) (nx x)).idxOf y:Int)=_
   exact (u9 hp hy).symm
  ·obtain rfl:=ae hz
   exact hp.subset hy
end
def gL (a:AutT) (s:Int) (w:List Nat):Int:=w.foldl (mvn a) s
def acw (a:AutT) (w:List Nat):Bool:=acn a (gL a a.1 w)
theorem rK (a:AutT): ∀(w:List Nat) (s:Int),s<0->gL a s w<0
 | [],s,h=>h
 | k::w,s,h=>by
  show gL a (mvn a s k) w<0
  exact rK a w _ (by unfold mvn;rw[if_pos h];omega)
theorem gq (a:AutT) (s:Int) (v w:List Nat):gL a s (v++w)=gL a (gL a s v) w:=by unfold gL;rw[List.foldl_append]
section
variable {κ:Type} [DecidableEq κ] {nx:κ->List (Option κ)} {first:κ} {N:Nat}
structure NumA (r:AutT) (nx:κ->List (Option κ)) (first:κ) (ac:κ->Bool) (N:Nat):Prop where
 E:bfE nx first N
 st:r.1=0
 accs:r.2.1=(bfS nx first N).map ac
 rows:r.2.2=bfR nx first N
 len: ∀x∈bfS nx first N,(nx x).length=9
theorem NumA.run {r:AutT} {ac:κ->Bool} (H:NumA r nx first ac N): ∀(w:List Nat) (x:κ),(∀k∈w,k<9)->x∈bfS nx first N->(krun nx (some x) w=none/\D.gL r ((bfS nx first N).idxOf x:Int) w<0)\/ ∃y∈bfS nx first N,krun nx (some x) w=some y/\D.gL r ((bfS nx first N).idxOf x:Int) w=((bfS nx first N).idxOf y:Int)
 | [],x,_,hx=>.inr ⟨x,hx,rfl,rfl⟩
 | k::w,x,hw,hx=>by
  obtain ⟨h1,h2⟩:=Nr H.E hx (k:=k) (by rw[H.len x hx];exact hw k (by simp))
  have e:D.gL r ((bfS nx first N).idxOf x:Int) (k::w)=D.gL r (mvn r ((bfS nx first N).idxOf x:Int) k) w:=rfl
  have em:mvn r ((bfS nx first N).idxOf x:Int) k=nth (nth (bfR nx first N) ((bfS nx first N).idxOf x:Int)) (k:Int):=by
   unfold mvn mv;rw[if_neg (by omega),H.rows]
  have ek:krun nx (some x) (k::w)=krun nx (nth (nx x) (k:Int)) w:=rfl
  rw[e,em,h1,ek]
  cases ho:nth (nx x) (k:Int) with
  | none=>exact .inl ⟨mV nx w,rK r w _ (by show (-1:Int)<0;omega)⟩
  | some y=>exact NumA.run H w y (fun j hj=>hw j (aS _ hj)) (h2 y ho)
theorem NumA.acw {r:AutT} {ac:κ->Bool} (H:NumA r nx first ac N) {w:List Nat} (hw: ∀k∈w,k<9):D.acw r w=(match krun nx (some first) w with | none=>false | some y=>ac y):=by
 have hf:first∈bfS nx first N:=List.mem_of_getElem? (k9 N)
 have h0:(bfS nx first N).idxOf first=0:=by
  have h1:=k9 (nx:=nx) (first:=first) N
  cases hL:bfS nx first N with
  | nil=>rw[hL] at h1;cases h1
  | cons z l =>
   rw[hL] at h1
   obtain rfl:=ae (show some z=some first from h1)
   simp
 unfold D.acw
 rw[H.st]
 have hr:=H.run w first hw hf
 rw[h0] at hr
 rcases hr with ⟨h1,h2⟩ | ⟨y,hy,h1,h2⟩
 ·rw[h1]
  have h2:D.gL r 0 w<0:=h2
  unfold acn
  rw[if_pos h2]
 ·rw[h1]
  have h2:D.gL r 0 w=_:=h2
  rw[h2]
  have hlt:=List.idxOf_lt_length_iff.2 hy
  unfold acn
  rw[if_neg (by omega),H.accs]
  show nth (List.map ac (bfS nx first N)) (((bfS nx first N).idxOf y:Nat):Int)=ac y
  rw[aZ (by rw[List.length_map];exact hlt),List.getElem_map,A0 hy]
end
section
variable {κ:Type} [DecidableEq κ] {nx:κ->List (Option κ)} {N:Nat} {a:AutT} {good inR:Int->Prop} {f:Int->κ} {ac:κ->Bool}
structure Quot (a:AutT) (nx:κ->List (Option κ)) (ac:κ->Bool) (f:Int->κ) (good inR:Int->Prop):Prop where
 r0:inR a.1
 rin: ∀s k,inR s->k<9->inR (mvn a s k)
 pos: ∀s,good s->0<=s
 yes: ∀s k,good s->k<9->good (mv a s k)->nth (nx (f s)) (k:Int)=some (f (mv a s k))
 no: ∀s k,good s->k<9-> ¬good (mv a s k)->nth (nx (f s)) (k:Int)=none
 acc: ∀s,good s->ac (f s)=nth a.2.1 s
 back: ∀s k,inR s->k<9-> ¬good s-> ¬good (mvn a s k)
 bad: ∀s,inR s-> ¬good s->acn a s=false
theorem Quot.bad_run (Q:Quot a nx ac f good inR): ∀(w:List Nat) (s:Int),(∀k∈w,k<9)->inR s-> ¬good s-> ¬good (gL a s w)/\inR (gL a s w)
 | [],s,_,hi,h=>⟨h,hi⟩
 | k::w,s,hw,hi,h=>Q.bad_run w (mvn a s k) (fun j hj=>hw j (aS _ hj)) (Q.rin s k hi (hw k (by simp))) (Q.back s k hi (hw k (by simp)) h)
theorem Quot.krun (Q:Quot a nx ac f good inR): ∀(w:List Nat) (s:Int),(∀k∈w,k<9)->inR s->good s->(good (gL a s w)/\D.krun nx (some (f s)) w=some (f (gL a s w)))\/(¬good (gL a s w)/\inR (gL a s w)/\D.krun nx (some (f s)) w=none)
 | [],s,_,hi,h=>.inl ⟨h,rfl⟩
 | k::w,s,hw,hi,h=>by
  have hk:k<9:=hw k (by simp)
  have hw': ∀j∈w,j<9:=fun j hj=>hw j (aS _ hj)
  have em:mvn a s k=mv a s k:=by unfold mvn;rw[if_neg (by have:=Q.pos s h;omega)]
  have hi':=Q.rin s k hi hk
  show (good (gL a (mvn a s k) w)/\D.krun nx (nth (nx (f s)) (k:Int)) w=some (f (gL a (mvn a s k) w)))\/(¬good (gL a (mvn a s k) w)/\inR (gL a (mvn a s k) w)/\D.krun nx (nth (nx (f s)) (k:Int)) w=none)
  by_cases hg:good (mv a s k)
  ·rw[Q.yes s k h hk hg,em]
   rw[em] at hi'
   exact Q.krun w _ hw' hi' hg
  ·rw[Q.no s k h hk hg,mV]
   obtain ⟨h1,h2⟩:=Q.bad_run w (mvn a s k) hw' hi' (by rw[em];exact hg)
   exact .inr ⟨h1,h2,rfl⟩
theorem Quot.acw {r:AutT} (Q:Quot a nx ac f good inR) (h0:good a.1) (H:NumA r nx (f a.1) ac N) {w:List Nat} (hw: ∀k∈w,k<9):D.acw r w=D.acw a w:=by
 rw[H.acw hw]
 rcases Q.krun w a.1 hw Q.r0 h0 with ⟨h1,h2⟩ | ⟨h1,h2,h3⟩
 ·rw[h2]
  show ac (f (gL a a.1 w))=acn a (gL a a.1 w)
  rw[Q.acc _ h1]
  unfold acn
  rw[if_neg (by have:=Q.pos _ h1;omega)]
 ·rw[h3]
  exact (Q.bad _ h2 h1).symm
end
end D
namespace D
open Go.RowKit
section
variable {a:AutT} {n:Nat}
def In1 (n:Nat) (s:Int):Prop:= -1<=s/\s<n
theorem G0 (V:VA a n) {s:Int} (h:In1 n s) {k:Nat} (hk:k<9):In1 n (mvn a s k):=by
 unfold mvn
 split
 ·exact ⟨Int.le_refl _,by omega⟩
 ·exact V.mv (by omega) h.2 hk
theorem Cl (V:VA a n): ∀(w:List Nat) {s:Int},(∀k∈w,k<9)->In1 n s->In1 n (gL a s w)
 | [],s,_,h=>h
 | k::w,s,hw,h=>Cl V w (s:=mvn a s k) (fun j hj=>hw j (aS _ hj)) (G0 V h (hw k (by simp)))
theorem G5 {x y:Int} (V:VA a n) (h0:0<=x) (h1:x<n) (h:Relation.TransGen (Step a) x y): ∃w:List Nat,w≠ [] /\(∀k∈w,k<9)/\gL a x w=y:=by
 induction h with
 | single h =>
  obtain ⟨k,hk,e,-⟩:=h
  refine ⟨[k],by simp,fun j hj=>?_,?_⟩
  ·obtain rfl:=aj hj;exact hk
  ·show mvn a x k=_
   unfold mvn;rw[if_neg (by omega)];exact e
 | tail h k ih =>
  obtain ⟨w,hw,hk,e⟩:=ih
  obtain ⟨j,hj,e2,-⟩:=k
  have hb:=lL V h0 h1 h
  refine ⟨w++ [j],by simp,fun i hi=>?_,?_⟩
  ·rcases aC hi with q | q
   ·exact hk i q
   ·obtain rfl:=aj q;exact hj
  ·rw[gq,e]
   show mvn a _ j=_
   unfold mvn;rw[if_neg (by omega)];exact e2
theorem zj (V:VA a n): ∀(w:List Nat) {x:Int},(∀k∈w,k<9)->0<=x->x<n->0<=gL a x w->gL a x w=x/\w= [] \/Relation.TransGen (Step a) x (gL a x w)
 | [],x,_,_,_,_=>.inl ⟨rfl,rfl⟩
 | k::w,x,hw,h0,h1,h=>by
  have hk:k<9:=hw k (by simp)
  have em:mvn a x k=mv a x k:=by unfold mvn;rw[if_neg (by omega)]
  have e:gL a x (k::w)=gL a (mv a x k) w:=by show gL a (mvn a x k) w=_;rw[em]
  rw[e] at h⊢
  have hm:0<=mv a x k:=by
   rcases Int.lt_or_le (mv a x k) 0 with q | q
   ·have:=rK a w _ q;omega
   ·exact q
  have st:Step a x (mv a x k):=⟨k,hk,rfl,hm⟩
  rcases zj V w (x:=mv a x k) (fun j hj=>hw j (aS _ hj)) hm (V.mv h0 h1 hk).2 h with ⟨q,-⟩ | q
  ·right;rw[q];exact .single st
  ·right;exact Relation.TransGen.trans (.single st) q
theorem G6 {out:List Bool} {s:Nat} {t:Int} (hs:s<out.length) (t0:0<=t) (h:nth (kq a out s) t=true):nth out t=true\/(t=(s:Int)/\hit out (nth a.2.2 (s:Int))=true):=by
 unfold kq at h
 split at h
 ·rename_i hh
  by_cases e:(s:Int)=t
  ·exact .inr ⟨e.symm,hh⟩
  ·have h2:nth (out.set ((s:Int)).toNat true) t=true:=by simpa using h
   rw[gG (by omega) t0 e] at h2
   exact .inl h2
 ·exact .inl h
theorem zk (V:VA a n): ∀(j:Nat) {s:Int},0<=s->s<n->nth (it a j) s=true-> ∃w:List Nat,(∀k∈w,k<9)/\acn a (gL a s w)=true
 | 0,s,h0,h1,h=>⟨[],fun k hk=>(by cases hk),by show acn a s=true;unfold acn;rw[if_neg (by omega)];exact h⟩
 | j+1,s,h0,h1,h=>by
  have key: ∀(m:Nat),m<=n-> ∀ {s:Int},0<=s->s<n->nth (cF a (it a j) m) s=true-> ∃w:List Nat,(∀k∈w,k<9)/\acn a (gL a s w)=true:=by
   intro m
   induction m with
   | zero=>intro _ s h0 h1 h;exact zk V j h0 h1 h
   | succ m ih =>
    intro hm s h0 h1 h
    have hlen:(cF a (it a j) m).length=n:=by rw[dN,jT,V.len]
    rcases G6 (by omega) h0 (show nth (kq a (cF a (it a j) m) m) s=true from h) with q | ⟨q,hh⟩
    ·exact ih (by omega) h0 h1 q
    ·subst q
     unfold hit at hh
     obtain ⟨t,ht,hT⟩:=List.any_eq_true.1 hh
     unfold Dr at hT
     rw[af,decide_eq_true_eq] at hT
     obtain ⟨t0,tl⟩:=hT
     obtain ⟨k,hk,ek⟩:=wI ht
     rw[V.rowAt h0 h1] at hk
     have hmv:mv a (m:Int) k=t:=ek
     have hb:=V.mv h0 h1 hk
     obtain ⟨w,hw,hacc⟩:=ih (by omega) (s:=t) t0 (by omega) tl
     refine ⟨k::w,fun i hi=>?_,?_⟩
     ·rcases au hi with rfl | hi
      ·exact hk
      ·exact hw i hi
     ·show acn a (gL a (mvn a (m:Int) k) w)=true
      have:mvn a (m:Int) k=t:=by unfold mvn;rw[if_neg (by omega),hmv]
      rw[this];exact hacc
  have e:it a (j+1)=cF a (it a j) a.2.1.length:=rfl
  rw[e,V.len] at h
  exact key n (ay _) h0 h1 h
theorem A1 {out:List Bool} {s:Nat} {t:Int} (t0:0<=t) (h:nth out t=true):nth (kq a out s) t=true:=by
 unfold kq
 split
 ·by_cases e:(s:Int)=t
  ·subst e
   by_cases hl:s<out.length
   ·rw[aZ (by rw[List.length_set];exact hl)];simp
   ·rw[List.set_eq_of_length_le (by omega)];exact h
  ·have:=gG (xs:=out) (x:=true) (i:=(s:Int)) (j:=t) (by omega) t0 e
   have h2:nth (out.set s true) t=nth out t:=by simpa using this
   rw[h2];exact h
 ·exact h
theorem G7 {t:Int} (t0:0<=t) (h:nth a.2.1 t=true): ∀j,nth (it a j) t=true
 | 0=>h
 | j+1=>by
  have key: ∀m,nth (cF a (it a j) m) t=true:=by
   intro m
   induction m with
   | zero=>exact G7 t0 h j
   | succ m ih=>exact A1 t0 ih
  exact key _
theorem mW (V:VA a n) {w:List Nat} {s:Int} (hw: ∀k∈w,k<9) (h0:0<=s) (h1:s<n) (h:acn a (gL a s w)=true):nth (live a) s=true:=by
 have hr:0<=gL a s w:=by
  unfold acn at h
  split at h
  ·cases h
  ·omega
 have hl:nth (live a) (gL a s w)=true:=G7 hr (by
  unfold acn at h
  rw[if_neg (by omega)] at h;exact h) _
 rcases zj V w hw h0 h1 hr with ⟨q,-⟩ | q
 ·rw[q] at hl;exact hl
 ·exact vo V h0 h1 q hl
theorem Cm (V:VA a n) {s:Int} (h0:0<=s) (h1:s<n):nth (live a) s=true↔ ∃w:List Nat,(∀k∈w,k<9)/\acn a (gL a s w)=true:=
 ⟨fun h=>zk V _ h0 h1 h,fun ⟨w,hw,h⟩=>mW V hw h0 h1 h⟩
end
section
variable {a:AutT} {n:Nat}
theorem G8 {w:List Nat} (hw: ∀k∈w,k<9) (i:Nat): ∀k∈w.take i,k<9:=fun k hk=>hw k (List.mem_of_mem_take hk)
theorem Ns {w:List Nat} (h:acw a w=true):0<=gL a a.1 w:=by
 unfold acw acn at h
 split at h
 ·cases h
 ·omega
theorem Nt {w:List Nat} {s:Int} (h:0<=gL a s w) (i:Nat):0<=gL a s (w.take i):=by
 rcases Int.lt_or_le (gL a s (w.take i)) 0 with q | q
 ·have e:gL a s w=gL a (gL a s (w.take i)) (w.drop i):=by rw[<-gq,List.take_append_drop]
  have:=rK a (w.drop i) _ q
  omega
 ·exact q
theorem A2 (V:VA a n) {w:List Nat} (hw: ∀k∈w,k<9) (h:acw a w=true) (i:Nat):Use a (gL a a.1 (w.take i)):=by
 have hp:=Nt (Ns h) i
 have hin:=Cl V (w.take i) (G8 hw i) (s:=a.1) ⟨by have:=V.start;omega,V.start.2⟩
 refine ⟨?_,?_⟩
 ·rcases zj V (w.take i) (G8 hw i) V.start.1 V.start.2 hp with ⟨q,-⟩ | q
  ·exact .inl q
  ·exact .inr q
 ·refine mW V (w:=w.drop i) (fun k hk=>hw k (List.mem_of_mem_drop hk)) hp hin.2 ?_
  rw[<-gq,List.take_append_drop];exact h
theorem DD (V:VA a n) {w:List Nat} (hw: ∀k∈w,k<9) (h:acw a w=true) (hl:n<=w.length): ∃x,Use a x/\Relation.TransGen (Step a) x x:=by
 apply Classical.byContradiction
 intro hno
 have inj: ∀i j,i<j->j<=w.length->gL a a.1 (w.take i)≠gL a a.1 (w.take j):=by
  intro i j hij hj e
  apply hno
  refine ⟨_,A2 V hw h i,?_⟩
  have hu:=(A2 V hw h i).in V
  have e2:w.take j=w.take i++(w.drop i).take (j - i):=by
   have:j=i+(j - i):=by omega
   rw[this,List.take_add]
   congr 2;omega
  have e3:gL a (gL a a.1 (w.take i)) ((w.drop i).take (j - i))=gL a a.1 (w.take i):=by rw[<-gq,<-e2];exact e.symm
  rcases zj V ((w.drop i).take (j - i)) (fun k hk=>hw k (List.mem_of_mem_drop (List.mem_of_mem_take hk))) hu.1 hu.2 (by rw[e3];exact hu.1) with ⟨-,q⟩ | q
  ·have:=congrArg List.length q
   rw[aE,aU,aI] at this;omega
  ·rw[e3] at q;exact q
 have nd:((List.range (n+1)).map fun i=>gL a a.1 (w.take i)).Nodup:=by
  rw[List.nodup_iff_pairwise_ne,List.pairwise_map]
  refine List.Pairwise.imp_of_mem ?_ (List.pairwise_lt_range)
  intro i j hi hj hij
  rw[List.mem_range] at hj
  exact inj i j hij (by omega)
 have hb:=u7 n _ nd fun x hx=>by
  obtain ⟨i,hi,rfl⟩:=List.mem_map.1 hx
  exact (A2 V hw h i).in V
 rw[List.length_map,List.length_range] at hb
 omega
def Nu (v:List Nat):Nat->List Nat
 | 0=>[]
 | k+1=>v++Nu v k
theorem Cn {v:List Nat} (h:v≠ []): ∀k,k<=(Nu v k).length
 | 0=>Nat.zero_le _
 | k+1=>by
  have:=Cn h k
  have:=List.length_pos_iff.2 h
  rw[Nu,aq];omega
theorem G9 {v:List Nat} (h: ∀k∈v,k<9): ∀j,∀k∈Nu v j,k<9
 | 0,k,hk=>by cases hk
 | j+1,k,hk=>by
  rcases aC hk with q | q
  ·exact h k q
  ·exact G9 h j k q
theorem Co {v:List Nat} {x:Int} (h:gL a x v=x): ∀j,gL a x (Nu v j)=x
 | 0=>rfl
 | j+1=>by rw[Nu,gq,h,Co h j]
theorem DE (V:VA a n) {x:Int} (hu:Use a x) (hc:Relation.TransGen (Step a) x x) (K:Nat): ∃w:List Nat,(∀k∈w,k<9)/\K<=w.length/\acw a w=true:=by
 have hx:=hu.in V
 obtain ⟨v,v0,vl,ve⟩:=G5 V hx.1 hx.2 hc
 obtain ⟨u,ul,ue⟩: ∃u:List Nat,(∀k∈u,k<9)/\gL a a.1 u=x:=by
  rcases hu.1 with q | q
  ·exact ⟨[],fun k hk=>(by cases hk),q.symm⟩
  ·obtain ⟨u,-,ul,ue⟩:=G5 V V.start.1 V.start.2 q
   exact ⟨u,ul,ue⟩
 obtain ⟨z,zl,ze⟩:=(Cm V hx.1 hx.2).1 hu.2
 refine ⟨u++(Nu v K++z),fun k hk=>?_,?_,?_⟩
 ·rcases aC hk with q | q
  ·exact ul k q
  ·rcases aC q with q | q
   ·exact G9 vl K k q
   ·exact zl k q
 ·have:=Cn v0 K
  rw[aq,aq];omega
 ·unfold acw
  rw[gq,ue,gq,Co ve];exact ze
theorem JP {b:AutT} {m:Nat} (Va:VA a n) (Vb:VA b m) (h: ∀w:List Nat,(∀k∈w,k<9)->acw b w=acw a w):(∃x,Use b x/\Relation.TransGen (Step b) x x)-> ∃x,Use a x/\Relation.TransGen (Step a) x x:=by
 rintro ⟨x,hu,hc⟩
 obtain ⟨w,hw,hl,ha⟩:=DE Vb hu hc n
 exact DD Va hw (by rw[<-h w hw];exact ha) hl
end
end D
namespace D
open Go.RowKit
theorem vp {a:AutT} {n:Nat} (V:VA a n) {c:List Int} {nx:Int->List (Option Int)} {ac:Int->Bool} (hnx: ∀r,good n (live a) r->nx (nth c r)=kI a c (live a) r) (hac: ∀r,good n (live a) r->ac (nth c r)=nth a.2.1 r):Quot a nx ac (fun s=>nth c s) (good n (live a)) (In1 n):=by
 have hs: ∀(s:Int) (k:Nat),k<9->nth (kI a c (live a) s) (k:Int)=if 0<=mv a s k/\nth (live a) (mv a s k)=true then some (nth c (mv a s k)) else none:=fun s k hk=>by
  unfold kI;rw[aZ (by simpa using hk)];simp
 refine ⟨⟨by have:=V.start;omega,V.start.2⟩,fun s k hi hk=>G0 V hi hk,fun s h=>h.1,fun s k h hk hg=>?_,fun s k h hk hg=>?_,fun s h=>hac s h,fun s k hi hk hb hg=>?_,fun s hi hb=>?_⟩
 ·show nth (nx (nth c s)) (k:Int)=_
  rw[hnx s h,hs s k hk,if_pos ⟨hg.1,hg.2.2⟩]
 ·show nth (nx (nth c s)) (k:Int)=_
  rw[hnx s h,hs s k hk,if_neg fun q=>hg ⟨q.1,(V.mv h.1 h.2.1 hk).2,q.2⟩]
 ·rcases Int.lt_or_le s 0 with q | q
  ·have:mvn a s k= -1:=by unfold mvn;rw[if_pos q]
   rw[this] at hg
   have:=hg.1;omega
  ·have e:mvn a s k=mv a s k:=by unfold mvn;rw[if_neg (by omega)]
   rw[e] at hg
   exact hb ⟨q,hi.2,tF V q hi.2 ⟨k,hk,rfl,hg.1⟩ hg.2.2⟩
 ·rcases Int.lt_or_le s 0 with q | q
  ·unfold acn;rw[if_pos q]
  ·cases h:acn a s with
   | false=>rfl
   | true=>exact absurd ⟨q,hi.2,mW V (w:=[]) (fun k hk=>by cases hk) q hi.2 h⟩ hb
theorem Ha {a r:AutT} {n N:Nat} (V:VA a n) {c:List Int} {nx:Int->List (Option Int)} {ac:Int->Bool} (hnx: ∀r,good n (live a) r->nx (nth c r)=kI a c (live a) r) (hac: ∀r,good n (live a) r->ac (nth c r)=nth a.2.1 r) (hs:nth (live a) a.1=true) (H:NumA r nx (nth c a.1) ac N) {w:List Nat} (hw: ∀k∈w,k<9):acw r w=acw a w:=
 (vp V hnx hac).acw ⟨V.start.1,V.start.2,hs⟩ H hw
theorem Cp {a:AutT} {n:Nat} (V:VA a n) (hs:nth (live a) a.1=false) {w:List Nat} (hw: ∀k∈w,k<9):acw a w=false:=by
 cases h:acw a w with
 | false=>rfl
 | true =>
  have:=mW V hw V.start.1 V.start.2 h
  rw[hs] at this;cases this
end D
namespace D
open Go.RowKit
section
variable {a b:AutT} {n m:Nat}
end
section
variable {κ μ:Type} [DecidableEq κ] [DecidableEq μ] {f:κ->μ}
variable {nx:κ->List (Option κ)} {nx':μ->List (Option μ)} {first:κ}
end
end D
namespace D
open Go.RowKit
theorem A3 {w:List Nat} (hw: ∀k∈w,k<9):acw nothing w=false:=Cp vh (by decide) hw
theorem Nv {a r:AutT} {n:Nat} (V:VA a n) (h:Qf a n r) {w:List Nat} (hw: ∀k∈w,k<9):acw r w=acw a w:=by
 rcases h with ⟨hs,rfl⟩ | ⟨hs,j,c,nx,ac,N,-,hnx,hac,hE,hl,rfl⟩
 ·rw[Cp V hs hw,A3 hw]
 ·exact Ha V hnx hac hs ⟨hE,rfl,rfl,rfl,hl⟩ hw
end D
namespace D
open Go.RowKit
section
variable {κ μ:Type} [DecidableEq κ] [DecidableEq μ] {F:κ->μ} {nx:κ->List (Option κ)} {ny:μ->List (Option μ)} {first:κ} {G:κ->Prop}
end
section
variable {a:AutT} {n:Nat}
end
section
variable {a:AutT} {n:Nat}
theorem Quot.res {κ:Type} [DecidableEq κ] {nx:κ->List (Option κ)} {ac:κ->Bool} {f:Int->κ} {good inR:Int->Prop} (Q:Quot a nx ac f good inR) {s:Int} (hi:inR s) (hg:good s) {w:List Nat} (hw: ∀k∈w,k<9):acn a (gL a s w)=(match D.krun nx (some (f s)) w with | none=>false | some y=>ac y):=by
 rcases Q.krun w s hw hi hg with ⟨h1,h2⟩ | ⟨h1,h2,h3⟩
 ·rw[h2]
  show acn a (gL a s w)=ac (f (gL a s w))
  rw[Q.acc _ h1]
  unfold acn
  rw[if_neg (by have:=Q.pos _ h1;omega)]
 ·rw[h3];exact Q.bad _ h2 h1
end
end D
namespace D
open Go.RowKit
section
variable {κ:Type} [DecidableEq κ] {nx:κ->List (Option κ)} {first:κ}
theorem tG: ∀(v w:List Nat) (x:Option κ),krun nx x (v++w)=krun nx (krun nx x v) w
 | [],w,x=>by cases x <;> rfl
 | k::v,w,none=>by rw[List.cons_append,mV,mV,mV]
 | k::v,w,some x=>tG v w (nth (nx x) (k:Int))
theorem nD (hl: ∀i,∀x∈bfS nx first i,(nx x).length=9): ∀i,∀y∈bfS nx first i,∃w:List Nat,(∀k∈w,k<9)/\krun nx (some first) w=some y
 | 0,y,h=>by
  obtain rfl:=aj h
  exact ⟨[],fun k hk=>(by cases hk),rfl⟩
 | i+1,y,h=>by
  rw[bfS] at h
  cases hx:(bfS nx first i)[i]? with
  | none=>rw[hx] at h;exact nD hl i y h
  | some x =>
   rw[hx] at h
   have h:y∈nbS (bfS nx first i) (nx x):=h
   rcases iX.1 h with q | q
   ·exact nD hl i y q
   ·have hxm:=List.mem_of_getElem? hx
    obtain ⟨w,hw,e⟩:=nD hl i x hxm
    obtain ⟨k,hk,ek⟩:=wI q
    rw[hl i x hxm] at hk
    refine ⟨w++ [k],fun j hj=>?_,?_⟩
    ·rcases aC hj with q | q
     ·exact hw j q
     ·obtain rfl:=aj q;exact hk
    ·rw[tG,e];exact ek
end
section
variable {a r:AutT} {n m N:Nat}
theorem Hb (V:VA a n) (Vr:VA r m) {c:List Int} {nx:Int->List (Option Int)} {ac:Int->Bool} (hnx: ∀r,good n (live a) r->nx (nth c r)=kI a c (live a) r) (hac: ∀r,good n (live a) r->ac (nth c r)=nth a.2.1 r) (hs:nth (live a) a.1=true) (H:NumA r nx (nth c a.1) ac N) {p:Int} (h0:0<=p) (h1:p<m):Use r p:=by
 have Q:=vp V hnx hac
 have hm:m=N:=by
  have e1:=H.E.1
  have e2:=Vr.len
  rw[H.accs,List.length_map] at e2
  omega
 have hpl:p.toNat<(bfS nx (nth c a.1) N).length:=by have:=H.E.1;omega
 obtain ⟨y,ey⟩: ∃y,y=(bfS nx (nth c a.1) N)[p.toNat]:=⟨_,rfl⟩
 have hy:y∈bfS nx (nth c a.1) N:=ey ▸ List.getElem_mem hpl
 have hidx:((bfS nx (nth c a.1) N).idxOf y:Int)=p:=by
  have:=(eh (nx:=nx) (first:=nth c a.1) N).idxOf_getElem p.toNat hpl
  rw[<-ey] at this
  omega
 have hst:good n (live a) a.1:=⟨V.start.1,V.start.2,hs⟩
 have gS: ∀i,∀x∈bfS nx (nth c a.1) i,∃s,good n (live a) s/\nth c s=x:=fun i x hx=>by
  refine c9 (G:=fun x=> ∃s,good n (live a) s/\nth c s=x) ⟨a.1,hst,rfl⟩ ?_ i x hx
  rintro x ⟨s,h,rfl⟩ y hy
  rw[hnx s h] at hy
  obtain ⟨k,hk,e⟩:=List.mem_map.1 hy
  split at e
  ·rename_i q
   exact ⟨mv a s k,⟨q.1,(V.mv h.1 h.2.1 (List.mem_range.1 hk)).2,q.2⟩,ae e⟩
  ·cases e
 have hl: ∀i,∀x∈bfS nx (nth c a.1) i,(nx x).length=9:=fun i x hx=>by
  obtain ⟨s,h,rfl⟩:=gS i x hx
  rw[hnx s h];unfold kI;simp
 have hf:nth c a.1∈bfS nx (nth c a.1) N:=List.mem_of_getElem? (k9 N)
 have hz:(bfS nx (nth c a.1) N).idxOf (nth c a.1)=0:=by
  have h1:=k9 (nx:=nx) (first:=nth c a.1) N
  cases hL:bfS nx (nth c a.1) N with
  | nil=>rw[hL] at h1;cases h1
  | cons z l =>
   rw[hL] at h1
   obtain rfl:=ae (show some z=some (nth c a.1) from h1)
   simp
 obtain ⟨w,hw,e⟩:=nD hl N y hy
 have hrun:gL r r.1 w=p:=by
  have:=H.run w _ hw hf
  rw[hz,e] at this
  rcases this with ⟨h,-⟩ | ⟨z,hz2,e2,e3⟩
  ·cases h
  ·obtain rfl:=ae e2
   rw[H.st,<-hidx];exact e3
 obtain ⟨s,hg,es⟩:=gS N y hy
 obtain ⟨z,hzw,hza⟩:=(Cm V hg.1 hg.2.1).1 hg.2.2
 refine ⟨?_,?_⟩
 ·rcases zj Vr w hw Vr.start.1 Vr.start.2 (by rw[hrun];exact h0) with ⟨q,-⟩ | q
  ·rw[hrun] at q;exact .inl q
  ·rw[hrun] at q;exact .inr q
 ·refine mW Vr hzw h0 h1 ?_
  have hres:=Q.res (s:=s) ⟨by have:=hg.1;omega,hg.2.1⟩ hg hzw
  rw[hza] at hres
  have hr:=H.run z y hzw hy
  rw[hidx] at hr
  rw[es] at hres
  rcases hr with ⟨k1,-⟩ | ⟨u,hu,k1,k2⟩
  ·rw[k1] at hres;cases hres
  ·rw[k1] at hres
   rw[k2]
   have hlt:=List.idxOf_lt_length_iff.2 hu
   unfold acn
   rw[if_neg (by omega),H.accs]
   show nth (List.map ac (bfS nx (nth c a.1) N)) (((bfS nx (nth c a.1) N).idxOf u:Nat):Int)=true
   rw[aZ (by rw[List.length_map];exact hlt),List.getElem_map,A0 hu]
   exact hres.symm
end
end D
namespace D
open Go.RowKit
theorem Cq {R:Type} {f:Int->Option (Out R Int)} (G:R->Prop) (n:Nat) (hn:n<=9223372036854775807) (h: ∀i:Nat,i<n->f (i:Int)=some (.nxt ((i+1:Nat):Int))\/ ∃r,f (i:Int)=some (.ret r)/\G r) (hf:f (n:Int)=some (.brk (n:Int))):(∃r,aG f aV 0=some (.ret r)/\G r)\/aG f aV 0=some (.brk (n:Int)):=by
 obtain ⟨o,e,hQ⟩:=cd (f:=f) (fun i s=>s=(i:Int)) (fun o=>(∃r,o= .ret r/\G r)\/o= .brk (n:Int)) n (fun i s hi hI=>by
  subst hI
  by_cases c:i<n
  ·rcases h i c with h2 | ⟨r,h2,hg⟩
   ·exact .inl ⟨c,_,h2,rfl⟩
   ·exact .inr ⟨_,h2,fun s' hh=>by simp at hh,.inl ⟨r,rfl,hg⟩⟩
  ·obtain rfl:i=n:=by omega
   exact .inr ⟨_,hf,fun s' hh=>by simp at hh,.inr rfl⟩) (s:=0) rfl (ju hn)
 rcases hQ with ⟨r,rfl,hg⟩ | rfl
 ·exact .inl ⟨r,e,hg⟩
 ·exact .inr e
def JQ (b:AutT) (r:Int×Int×Bool):Prop:=(0<=r.1/\r.1<b.2.1.length)/\(0<=r.2.1/\r.2.1<b.2.1.length)/\Relation.TransGen (Step b) r.1 r.1/\Relation.TransGen (Step b) r.2.1 r.2.1/\(r.1=r.2.1\/Relation.TransGen (Step b) r.1 r.2.1)
theorem Nw {b:AutT} (V:VA b b.2.1.length) (hn:b.2.1.length<=12) (hs:Data.sm b) {p:Nat} (hp:p<b.2.1.length):(∃r,aG (bE b (p:Int)) aV 0=some (.ret r)/\JQ b r)\/aG (bE b (p:Int)) aV 0=some (.brk (b.2.1.length:Int)):=by
 refine Cq (JQ b) b.2.1.length (by omega) (fun q hq=>?_) ?_
 ·obtain ⟨r1,e1,k1⟩:=Ce V hn hs (s:=(p:Int)) ⟨by omega,by omega⟩
  obtain ⟨r2,e2,k2⟩:=Ce V hn hs (s:=(q:Int)) ⟨by omega,by omega⟩
  obtain ⟨r3,e3,k3⟩:=GX V hn hs (s:=(p:Int)) (t:=(q:Int)) ⟨by omega,by omega⟩ ⟨by omega,by omega⟩
  obtain ⟨L,r4,e4,e5,e6⟩:=Ci V hn hs (p:=(p:Int)) (q:=(q:Int)) ⟨by omega,by omega⟩ ⟨by omega,by omega⟩
  unfold bE
  simp only[ic]
  rw[if_pos (by simp;omega),e1,cP (by omega) (by omega)];simp only[aa]
  cases r1 with
  | false=>exact .inl rfl
  | true =>
   rw[if_pos rfl,e2];simp only[aa]
   cases r2 with
   | false=>exact .inl rfl
   | true =>
    rw[if_pos rfl,e3];simp only[aa]
    cases r3 with
    | false=>exact .inl rfl
    | true =>
     rw[if_pos rfl,e6];simp only[aa]
     cases r4 with
     | false=>exact .inl rfl
     | true=>exact .inr ⟨_,rfl,⟨by show (0:Int)<=p;omega,by show (p:Int)<_;omega⟩,⟨by show (0:Int)<=q;omega,by show (q:Int)<_;omega⟩,k1.1 rfl,k2.1 rfl,k3.1 rfl⟩
 ·unfold bE;rw[if_neg (by simp)]
theorem zm {y:Int} : ¬Step nothing 0 y:=by
 rintro ⟨k,hk,h1,h2⟩
 have: ∀k,k<9->mv nothing 0 k= -1:=by decide
 have:=this k hk
 omega
theorem Nx {a r:AutT} {n:Nat} (V:VA a n) (Vr:VA r r.2.1.length) (h:Qf a n r) {p:Int} (hp:0<=p/\p<r.2.1.length) (hc:Relation.TransGen (Step r) p p):Use r p:=by
 rcases h with ⟨hs,rfl⟩ | ⟨hs,j,c,nx,ac,N,-,hnx,hac,hE,hl,hr⟩
 ·obtain ⟨u,h1,-⟩:=oz hc
  have:p=0:=by have:=hp.2;simp[nothing] at this;omega
  subst this
  exact absurd h1 zm
 ·exact Hb V Vr hnx hac hs ⟨hE,by rw[hr],by rw[hr],by rw[hr],hl⟩ hp.1 hp.2
theorem Ny {xs:List Int} (hl:xs.length<=1048576): ∃r:AutT,b9 xs=some r/\Data.sm r:=by
 unfold b9
 obtain ⟨r0,e0,k0⟩:=P5 hl
 rw[e0];simp only[aa]
 obtain ⟨r1,e1,h1,-⟩:=Qe (h:=r0.2) hl k0
 rw[e1]
 exact ⟨_,rfl,h1⟩
theorem qq (xs:List Int) (hx:Data.lim xs):eG xs=some true:=by
 unfold eG Ao
 simp only[aa]
 by_cases c:(xs.length:Int)>1048576
 ·rw[if_pos (by simpa using c)]
 rw[if_neg (by simpa using c)]
 have hl:xs.length<=1048576:=by omega
 obtain ⟨a,e2,sa⟩:=Ny hl
 rw[e2];simp only[aa,ic]
 have nf: ∀p:Bool,(p !=p)=false:=fun p=>by cases p <;> rfl
 have ni: ∀p:Int,(p !=p)=false:=fun p=>by simp
 obtain ⟨hp,p1,p2⟩:=GY a sa
 have hsm:=sa
 obtain ⟨-,⟨hA,-⟩,hN,hr⟩:=sa
 obtain ⟨b1,v1,k1⟩:=AR a (by omega) (by omega)
 obtain ⟨b2,v2,k2⟩:=AS a (by omega) (by omega) (fun r h=>by have:r.length<=1048576:=(hr r h).1;omega)
 have:b2=b1:=by rw[Bool.eq_iff_iff,k1,k2]
 subst this
 cases b2 with
 | false =>
  have c1:bO a=some 0:=by
   unfold bO
   simp only[ic]
   rw[p2,v2];rfl
  have c2:bP a=some 0:=by
   unfold bP
   simp only[ic]
   rw[v1];rfl
  have f1:be a=some false:=by
   unfold be
   simp only[ic]
   rw[v2];rfl
  have f2:bC a=some false:=by
   unfold bC
   simp only[ic]
   rw[v1];rfl
  have hno:hp=(0,0,false):=by
   have:fb a=some (0,0,false):=by
    unfold fb
    simp only[ic]
    rw[v2];rfl
   rw[p2] at this;exact ae this
  subst hno
  rw[c1,c2];simp only[aa]
  rw[f1,f2,p1,p2,v1];rfl
 | true =>
  obtain ⟨h12,V⟩:=k1.1 rfl
  obtain ⟨f1,g1,m1⟩:=JN V h12 hsm
  obtain ⟨f2,g2,m2⟩:=JO V h12 hsm
  obtain rfl:f2=f1:=by rw[Bool.eq_iff_iff,m1,m2]
  obtain ⟨m,em,ei,hm,Vm,hlm,hF⟩:=vi V (by omega)
  have hG:hp.2.2=true->JQ m hp:=fun ht=>by
   have e:=p1
   unfold gB eS at e
   simp only[ic] at e
   rw[v1] at e;simp only[aa,if_true] at e
   rw[em] at e;simp only[aa] at e
   rcases Cq (f:=bF m) (JQ m) m.2.1.length (by omega) (fun p hpm=>by
    unfold bF
    rw[if_pos (by simp;omega)]
    rcases Nw Vm (by omega) hm hpm with ⟨r,ho,hg⟩ | ho
    ·rw[bm ho];exact .inr ⟨_,rfl,hg⟩
    ·rw[ax ho,cP (by omega) (by omega)];exact .inl rfl) (by
    unfold bF;rw[if_neg (by simp)]) with ⟨r,ho,hg⟩ | ho
   ·rw[bm ho] at e
    rw[<-ae e];exact hg
   ·rw[ax ho] at e
    rw[<-ae e] at ht;cases ht
  have hcyc:hp.2.2=true->f2=false:=fun ht=>by
   cases hf:f2 with
   | false=>rfl
   | true =>
    obtain ⟨q1,q2,q3,q4,q5⟩:=hG ht
    obtain ⟨x,hx1,hx2⟩:=JP V Vm (fun w hw=>Nv V hF hw) ⟨hp.1,Nx V Vm hF q1 q3,q3⟩
    exact absurd hx2 (m1.1 hf x hx1)
  have c1:bO a=some (if f2 then 1 else if hp.2.2 then 3 else 2):=by
   unfold bO
   simp only[ic]
   rw[p2,v2];simp only[aa,if_true]
   rw[g2];simp only[aa]
   cases f2 <;> cases hp.2.2 <;> rfl
  have c2:bP a=some (if f2 then 1 else if hp.2.2 then 3 else 2):=by
   unfold bP
   simp only[ic]
   rw[v1];simp only[aa,if_true]
   rw[g1];simp only[aa]
   cases f2 with
   | true=>rfl
   | false =>
    rw[if_neg (by simp),p1];simp only[aa]
    cases hp.2.2 <;> rfl
  rw[c1,c2];simp only[aa]
  rw[ni];simp only[Bool.false_eq_true,if_false]
  rw[g1,g2];simp only[aa]
  rw[nf];simp only[Bool.false_eq_true,if_false]
  rw[p1,p2];simp only[aa]
  rw[nf,ni,ni];simp only[Bool.false_eq_true,if_false]
  rw[v1];simp only[aa,if_true]
  have eM:eS a=some m:=by
   unfold eS
   simp only[ic]
   rw[v1];simp only[aa,if_true]
   rw[em];rfl
  rw[eM];simp only[aa,ic]
  cases ht:hp.2.2 with
  | false =>
   simp only[Bool.false_eq_true,if_false]
   cases f2 <;> rfl
  | true =>
   have hff:=hcyc ht
   subst hff
   obtain ⟨q1,q2,q3,q4,q5⟩:=hG ht
   obtain ⟨r1,e1,j1⟩:=Cg Vm (by omega) hm (s:=hp.1) q1
   obtain ⟨r3,e3,j3⟩:=Cg Vm (by omega) hm (s:=hp.2.1) q2
   obtain ⟨r4,e4,j4⟩:=AZ Vm (by omega) hm (s:=hp.1) (t:=hp.2.1) q1 q2
   have t1:=j1.2 q3
   have t3:=j3.2 q4
   have t4:r4=true:=j4.2 (by rcases q5 with h | h;exact .inl h.symm;exact .inr h)
   subst t1;subst t3;subst t4
   simp only[Bool.false_eq_true,if_false,if_true]
   rw[if_neg (by decide),e1];simp only[aa,if_true]
   rw[e3];simp only[aa,if_true]
   rw[e4];simp only[aa,if_true]
   rfl
end D
open Go.ChangeShapes Go.WideShapes Go.ChangeAt Go.RowKit
theorem own:ownKnob Tryz.prog.godebug=none:=by kernel_rfl
theorem laidOut:laidOutB Tryz.prog=true:=by kernel_rfl
theorem pK {H:Type} {enc:TypeId×Value->H} {P:Program} (hl:laidOutB P=true) {W W':World} (hb:Below W.heap.size W W') :
  ∀ {ts:List TypeId} {vs:List Value} {ds:List (DataW H)} {ps:List MemPlace},(∀t∈ts,P.readableRec t=true/\t<P.types.size)->
   DataW.TrodAll enc P W 0 (fun _=>true) true ts vs ds ps->(∀x∈ps,x.block<W.heap.size)->DataW.TrodAll enc P W' 0 (fun b=>decide (b<W.heap.size)) true ts vs ds ps
 | [],[],[],ps,_,h,_=>h
 | t::ts,v::vs,d::ds,ps,hr,⟨p,q,h1,h2,h3⟩,hlt=>by
  subst h3
  exact ⟨p,q,Below.trod hl (hr t (by simp)).1 (hr t (by simp)).2 h1 hb fun x hx=>hlt x (by simp[hx]),pK hl hb (fun t ht=>hr t (by simp[ht])) h2 fun x hx=>hlt x (by simp[hx]),rfl⟩
 | [],_::_,_,_,_,h,_=>h.elim
 | [],[],_::_,_,_,h,_=>h.elim
 | _::_,[],_,_,_,h,_=>h.elim
 | _::_,_::_,[],_,_,h,_=>h.elim
theorem JR {H:Type} {enc:TypeId×Value->H} {f:Func} {s:ChangeSpec} {W W':World} {args:Array Value} {ds:List (DataW H)} {before:List MemPlace} (tb:TypeId)
  (hb:Tryz.prog.underlying tb=some .bool) (hr:f.resultTypes= #[tb]) (hp:(f.params.toList.all fun t=>Tryz.prog.readableRec t&&decide (t<Tryz.prog.types.size))=true) (hv:s.vars= [])
  (hW:DataW.Whole enc Tryz.prog f.params.toList s.vars false W args.toList ds [] before) (hres:(s.fn H (ds++ [])).results= [.lit (.bool true)]) (hargs:(s.fn H (ds++ [])).args=ds) (hvars:(s.fn H (ds++ [])).vars= [])
  (hbel:Below W.heap.size W W'):s.post enc Tryz.prog f false true false false W args (.bool true) W':=by
 obtain ⟨p,q,h1,h2,h3,h4,h5⟩:=hW
 have hW':DataW.Whole enc Tryz.prog f.params.toList s.vars false W args.toList ds [] before:=⟨p,q,h1,h2,h3,h4,h5⟩
 have hq:q= []:=by rw[hv] at h2;exact h2
 subst hq
 simp only[List.append_nil] at h3
 subst h3
 refine ⟨ds,[],before,[],before,[],hW',?_,?_,?_,hbel.frame _,fun h=>by cases h⟩
 ·rw[hres,hr]
  exact trodAll_mk1 (shut_bool hb true)
 ·rw[hargs]
  exact pK laidOut hbel (fun t ht=>by have:=List.all_eq_true.1 hp t ht;simpa using this) h1 fun x hx=>by simpa using hW'.lt x hx
 ·rw[hvars,hv];rfl
open Go.ChangeShapes Go.WideShapes Go.ChangeAt Go.RowKit
namespace D
theorem op5:Opens Tryz.prog 5 rU8:=Jh Tryz.underlying5
theorem QO:Opens Tryz.prog 22 (al 5 rU8):=Ax Tryz.underlying22 (by kernel_rfl) (by decide) op5
theorem Qg {W:World} {base:Nat} {z:Value} {H:Type} {enc:TypeId×Value->H} {d:DataW H} {p:List MemPlace} (hv:Value.okWide Tryz.prog W .any base 22 z) (h:DataW.Trod enc Tryz.prog W 0 (fun _=>true) true 22 z d p) :
  ∃(x:List Int) (v0:Value),z=v0/\Data.lim x/\(al 5 rU8).rd (hp W) [v0] x:=by
 obtain ⟨fuel,hf⟩:=h
 obtain ⟨a,l,c,rfl⟩:=okWide_slice Tryz.underlying22 hv
 obtain ⟨x,hx,hl⟩:=QO.out enc W _ _ _ hf
 exact ⟨x,_,rfl,hl,hx⟩
end D
open D (Data)
theorem pL (W:World) (args:Array Value) (H:Type) (enc:TypeId×Value->H) (base:Nat) (ds gs:List (DataW H)) (before:List MemPlace)
  (hval: ∀(j:Nat) t v,Tryz.f7.params[j]? =some t->args[j]? =some v->Value.okWide Tryz.prog W .any base t v)
  (hW:DataW.Whole enc Tryz.prog Tryz.f7.params.toList Rows.fnTractabilitySpec.vars false W args.toList ds gs before) :
  Calls Tryz.prog 7 args W fun e W'=> ∃v,e= .returned v/\Rows.fnTractabilitySpec.post enc Tryz.prog Tryz.f7 false true false false W args v W':=by
 have hW':=hW
 obtain ⟨p,q,hA,hV,rfl,hfz,hnd⟩:=hW
 rw[Tryz.params7] at hA hval
 obtain ⟨z0,vs0,d0,ds0,p0,q0,hargs,rfl,rfl,h0,r0⟩:=trodAll_cons hA
 obtain ⟨rfl,rfl,rfl⟩:=trodAll_nil r0
 obtain rfl:args= #[z0]:=by cases args;simp_all
 obtain ⟨rfl,rfl⟩:=trodVars_none hV
 obtain ⟨x0,v0_0,rfl,l0,r0_0⟩:=D.Qg (hval 0 _ _ rfl rfl) h0
 have hc:=D.py x0 true (D.qq x0 l0) (I:=D.hp W) (w0:=W) z0 r0_0 D.Lay.all W [] (D.St.init W)
 refine hc.mono fun e W' ⟨v,he,hv,hs⟩=>?_
 subst he;subst hv
 exact ⟨_,rfl,JR (f:=Tryz.f7) (s:=Rows.fnTractabilitySpec) 4 Tryz.underlying4 rfl (by kernel_rfl) rfl hW' rfl rfl rfl (D.St.below hs)⟩
theorem mX (os:Os) (started:os.Started) (H:Type) (enc:TypeId×Value->H) :
  ReturnsInHanded {} Tryz.checked os 7 .any (Rows.fnTractabilitySpec.pre6 enc Tryz.prog Tryz.f7 Rows.fnTractabilityRow.domain false) (Rows.fnTractabilitySpec.post enc Tryz.prog Tryz.f7 false true false false):=by
 refine returnsInHanded_of_change_sized (C:=Tryz.checked) own started (by kernel_rfl) Tryz.func7
  (ChangeSpec.witness6 (enc:=enc) (C:=Tryz.checked) false ⟨#[],#[.slice none 0 0],[]⟩ 8 (by kernel_rfl) (by kernel_rfl) (by kernel_rfl) (by kernel_rfl)) ?_
 intro W base args ds gs before hval hW hcnd hsz _
 exact pL W args H enc base ds gs before hval hW
set_option maxHeartbeats 4000000 in
theorem mY:joinedFacts Tryz.pinned.checked.prog 7 Tryz.f7 Rows.fnTractabilitySpec Rows.fnTractabilityRow=true:=by
 unfold joinedFacts
 repeat' (with_reducible refine Bool.and_eq_true_iff.2 ⟨?_,?_⟩)
 all_goals as_aux_lemma=>kernel_rfl
theorem holdsLFnTractability:Rows.FnTractabilitySaid:=
 OpenClaim.holds_of_wide 7 Tryz.f7 rfl rfl rfl rfl rfl rfl rfl ⟨rfl,rfl,rfl,rfl,rfl⟩ rfl rfl rfl rfl rfl (by kernel_rfl) Tryz.func7 mY
  (of_decide_eq_true (by kernel_rfl)) (by unfold Func.isWrapper;first | (rw[if_pos (by decide +kernel)];kernel_rfl) | (rw[if_neg (by decide +kernel)];exact ⟨rfl,rfl⟩))
  (fun os started H enc _=>mX os started H enc)
end Go.Proofs.YtobhhnobjflbnaaGreat
