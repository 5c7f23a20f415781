/- FnRegistry: for every input the law returns true and changes nothing that was there. Part 7 of 7. -/
import Derived.Test.YtbhafdfiplkacaaGreatRC5
set_option linter.unusedVariables false
set_option linter.unusedSimpArgs false
set_option linter.unnecessarySimpa false
set_option linter.unusedSectionVars false
set_option maxRecDepth 1000000
namespace Go.Proofs.YtbhafdfiplkacaaGreat
set_option synthInstance.maxSize 20000
set_option synthInstance.maxHeartbeats 2000000
namespace D
open Go.RowKit
theorem NP (r:qL) (hr:Data.sm r):iK r=some r:=by
 obtain ⟨h1,h2⟩:=gP hr.1
 obtain ⟨h3,h4⟩:=gP hr.2
 unfold iK
 have a:=bg (f:=gB r) (fun i=>((i:Int),r.1.take i,([] :List QT))) r.1.length (fun i hi=>by
  unfold gB
  simp only[dS hi,if_true,aY hi,aa,jj,NO _ (h2 _ (List.getElem_mem hi)),aC (show i<9223372036854775807 by omega)]
  rw[aI (by simp;omega)]
  simp only[aa]
  rw[List.take_succ_eq_append_getElem hi]) (by
  unfold gB
  simp only[cH,Bool.false_eq_true,if_false]) (jC _ (by omega))
 have e:aF (gB r) br (0,[],[])=_:=a
 rw[e]
 simp only[a6,List.take_length]
 have a:=bg (f:=gC r) (fun i=>((i:Int),r.1,r.2.take i)) r.2.length (fun i hi=>by
  unfold gC
  have c:dJ r.2[i].2.1=some r.2[i].2.1:=by unfold dJ;rw[aI (by have:=(h4 _ (List.getElem_mem hi)).2.1.1;simp;omega)];rfl
  simp only[dS hi,if_true,aY hi,aa,jj,c,aC (show i<9223372036854775807 by omega)]
  rw[aI (by simp;omega)]
  simp only[aa]
  rw[List.take_succ_eq_append_getElem hi]) (by
  unfold gC
  simp only[cH,Bool.false_eq_true,if_false]) (jC _ (by omega))
 have e:aF (gC r) br (0,r.1,[])=_:=a
 rw[e]
 simp only[List.take_length]
theorem NQ (r:qL) (hr:Data.sm r):cx r=some r:=by
 obtain ⟨h1,h2⟩:=gP hr.1
 obtain ⟨h3,h4⟩:=gP hr.2
 unfold cx
 have a:=bg (f:=dt r) (fun i=>((i:Int),r.1.take i,([] :List QT))) r.1.length (fun i hi=>by
  unfold dt
  simp only[dS hi,if_true,aY hi,aa,jj,Hr _ (h2 _ (List.getElem_mem hi)),aC (show i<9223372036854775807 by omega)]
  rw[aI (by simp;omega)]
  simp only[aa]
  rw[List.take_succ_eq_append_getElem hi]) (by
  unfold dt
  simp only[cH,Bool.false_eq_true,if_false]) (jC _ (by omega))
 have e:aF (dt r) br (0,[],[])=_:=a
 rw[e]
 simp only[a6,List.take_length]
 have a:=bg (f:=du r) (fun i=>((i:Int),r.1,r.2.take i)) r.2.length (fun i hi=>by
  unfold du
  have c:eJ r.2[i].2.1=some r.2[i].2.1:=by unfold eJ;rw[aI (by have:=(h4 _ (List.getElem_mem hi)).2.1.1;simp;omega)];rfl
  simp only[dS hi,if_true,aY hi,aa,jj,c,aC (show i<9223372036854775807 by omega)]
  rw[aI (by simp;omega)]
  simp only[aa]
  rw[List.take_succ_eq_append_getElem hi]) (by
  unfold du
  simp only[cH,Bool.false_eq_true,if_false]) (jC _ (by omega))
 have e:aF (du r) br (0,r.1,[])=_:=a
 rw[e]
 simp only[List.take_length]
theorem Hs {r:qL} (hr:Data.sm r) (h:ba r=some true):r.2.length<=4:=by
 obtain ⟨x,b,e1,e2,hx⟩:=qN hr.2
 unfold ba at h
 rw[e2] at h
 by_cases c:(r.2.length:Int)<=4
 ·omega
 ·simp[c] at h
end D
set_option synthInstance.maxSize 20000
set_option synthInstance.maxHeartbeats 2000000
namespace D
open Go.RowKit
theorem CW {α:Type} [Data α] {xs:List α} {y:α} (h:Data.sm xs) (hy:Data.sm y) (i:Nat) (hl:xs.length<=1048575):Data.sm (xs.take i++([y] ++xs.drop i)):=by
 obtain ⟨h1,h2⟩:=gP h
 refine ⟨?_,fun x hx=>?_⟩
 ·simp only[ah,aA,aT,au,ay];omega
 ·rcases aD hx with hx | hx
  ·exact h2 _ (List.mem_of_mem_take hx)
  ·rcases aD hx with hx | hx
   ·rw[ak hx];exact hy
   ·exact h2 _ (List.mem_of_mem_drop hx)
end D
set_option synthInstance.maxSize 20000
set_option synthInstance.maxHeartbeats 2000000
namespace D
open Go.RowKit
theorem PE {α:Type} [Data α] {xs:List α} (h:Data.sm xs) (i j:Nat) (hj:i<=j):Data.sm (xs.take i++xs.drop j):=by
 obtain ⟨h1,h2⟩:=gP h
 refine ⟨?_,fun x hx=>?_⟩
 ·simp only[ah,aA,aT];omega
 ·rcases aD hx with hx | hx
  ·exact h2 _ (List.mem_of_mem_take hx)
  ·exact h2 _ (List.mem_of_mem_drop hx)
end D
set_option synthInstance.maxSize 20000
set_option synthInstance.maxHeartbeats 2000000
namespace D
open Go.RowKit
theorem mK {r:qL} (hr:Data.sm r):bL r=some true↔bd r.2=some (r,true):=by
 obtain ⟨x,b,e1,-,hx⟩:=qN hr.2
 unfold bL
 by_cases c:(r.2.length:Int)>4
 ·rw[if_pos c] at e1
  rw[e1];simp
 ·rw[if_neg c] at e1
  rw[e1];simp only[aa,jj]
  cases b with
  | false=>simp
  | true =>
   simp only[if_true]
   rw[qM x r hx.1];simp only[aa,Option.some.injEq,decide_eq_true_eq,Prod.mk.injEq,and_true]
theorem Li (r:qL) (id:Int) (hl:r.2.length<=1048576):(eP r id=some (-1)/\ ∀q∈r.2,q.1≠id)\/ ∃(i:Nat) (hi:i<r.2.length),eP r id=some (i:Int)/\r.2[i].1=id:=by
 have hf:=Hn (f:=b7 r id) r.2 (fun u=>decide (u.1=id)) (fun i=>(i:Int)) (by omega) (fun i h=>by
  simp only[b7,dS h,if_true,aY h,aa,aC (show i<9223372036854775807 by omega)]
  by_cases c:r.2[i].1=id <;> simp[c]) (by simp only[b7,cH];rfl)
 unfold eP
 rcases hf with ⟨i,hi,h1,-,e⟩ | ⟨h1,e⟩
 ·rw[dx e]
  exact .inr ⟨i,hi,rfl,of_decide_eq_true h1⟩
 ·rw[aE e]
  exact .inl ⟨rfl,fun q h=>by simpa using h1 q h⟩
theorem wR {r:qL} (hr:Data.sm r) (id:Int) {e:List Tok} (he:Data.sm e): ∃x:qL×Bool,dj r id e=some x/\fY r id e=some x/\Data.sm x.1/\(x.2=true->bd r.2=some (r,true)/\ ∃i:Nat,i<=r.2.length/\bd (r.2.take i++([(id,e,0)] ++r.2.drop i))=some (x.1,true))/\(x.2=false->x.1=r):=by
 obtain ⟨hn,hq⟩:=gP hr.2
 obtain ⟨k,f1,f2,hk⟩:=vh r id hn
 obtain ⟨b,v1,v2,hv⟩:=l7 hr
 have hvb:=mK hr
 unfold dj fY
 simp only[f1,f2,v1,v2,aa,jj,NP r hr,NQ r hr]
 cases b with
 | false=>exact ⟨(r,false),rfl,rfl,hr,(fun h=>by cases h),fun _=>rfl⟩
 | true =>
  have hvb:=hvb.1 v1
  simp only[if_true]
  by_cases hk0:k≥0
  ·exact ⟨(r,false),by simp[hk0],by simp[hk0],hr,(fun h=>by cases h),fun _=>rfl⟩
  ·have h4:=Hs hr v2
   have hk0:decide (k≥0)=false:=by simpa using hk0
   simp only[hk0,Bool.false_eq_true,if_false]
   have lp: ∀f:Int->Option (Out (qL×Bool) Int),(∀s,f s=if decide (s<(r.2.length:Int)) then ((bj r.2 s).bind fun x5=>if decide (x5.1<id) then (some (.nxt (IntKind.i64.wrap (s+1)))) else (some (.brk s))) else (some (.brk s)))-> ∃i:Nat,i<=r.2.length/\aF f br 0=some (.brk (i:Int)):=by
    intro f hf
    obtain ⟨o,e,i,hi,rfl⟩:=cM (f:=f) (fun i s=>s=(i:Int)) (fun o=> ∃i:Nat,i<=r.2.length/\o= .brk (i:Int)) r.2.length (fun i s hi hI=>by
     subst hI
     rw[hf]
     by_cases h1:i<r.2.length
     ·simp only[dS h1,if_true,aY h1,aa,aC (show i<9223372036854775807 by omega)]
      by_cases h2:r.2[i].1<id
      ·exact .inl ⟨h1,_,by simp[h2],rfl⟩
      ·exact .inr ⟨.brk (i:Int),by simp[h2],(fun s' e=>by cases e),i,hi,rfl⟩
     ·obtain rfl:i=r.2.length:=by omega
      exact .inr ⟨.brk (r.2.length:Int),by simp only[cH,Bool.false_eq_true,if_false],(fun s' e=>by cases e),_,hi,rfl⟩) (s:=0) rfl (jC _ (by omega))
    exact ⟨i,hi,e⟩
   obtain ⟨i,hi,l1⟩:=lp (jw r id) (fun s=>rfl)
   have l2:aF (jx r id) br 0=some (.brk (i:Int)):=by
    rw[<-l1]
    congr 1
   simp only[l1,l2,a6]
   have hy:Data.sm ((id,e,(0:Int)):QT):=⟨trivial,he,trivial⟩
   have hs:=CW (y:=((id,e,(0:Int)):QT)) hr.2 hy i (by omega)
   obtain ⟨x,c,e1,e2,hx⟩:=qN hs
   have e1':=e1
   have q1:(chk (0<=(i:Int)/\(i:Int)<=(r.2.length:Int)))=some ():=if_pos (by omega)
   have a1:cm 40 ([] :List QT) (r.2.take i)=some (r.2.take i):=by rw[aI (by simp only[ay,aA];omega)];rfl
   have a2:cm 40 (r.2.take i) [((id,e,(0:Int)):QT)] =some (r.2.take i++ [(id,e,0)]):=aI (by simp only[aA,au,ay];omega)
   have a3:cm 40 (r.2.take i++ [((id,e,(0:Int)):QT)]) (r.2.drop i)=some (r.2.take i++([(id,e,0)] ++r.2.drop i)):=by
    rw[aI (by simp only[ah,aA,aT,au,ay];omega),ai]
   have a4:aM r.2=some r.2:=by unfold aM;rw[aI (by simp only[ay];omega)];rfl
   have a5:bu r.2 (i:Int) [((id,e,(0:Int)):QT)] =some (r.2.take i++([(id,e,0)] ++r.2.drop i),[(id,e,0)]):=by
    unfold bu R.Ns
    have:(chk (0<=(i:Int)/\(i:Int)<=(r.2.length:Int)/\ [((id,e,(0:Int)):QT)].length=1/\1<=40/\(r.2.length+1)*40<=140737488355328))=some ():=if_pos ⟨by omega,by omega,rfl,by omega,by omega⟩
    rw[this];rfl
   simp only[q1,aa,Int.toNat_natCast,a1,a2,a3,a4,a5,e1,e2]
   by_cases hl:((r.2.take i++([((id,e,(0:Int)):QT)] ++r.2.drop i)).length:Int)>4
   ·have hl': ¬((r.2.take i++([((id,e,(0:Int)):QT)] ++r.2.drop i)).length:Int)<=4:=by omega
    simp only[hl,if_true,aa,Bool.false_eq_true,if_false,hl',decide_false,Bool.and_false]
    exact ⟨_,rfl,rfl,hr,(fun h=>by cases h),fun _=>rfl⟩
   ·have hl':((r.2.take i++([((id,e,(0:Int)):QT)] ++r.2.drop i)).length:Int)<=4:=by omega
    rw[if_neg hl] at e1'
    simp only[hl,if_false,aa,hl',decide_true,Bool.and_true]
    cases c with
    | true=>exact ⟨_,rfl,rfl,hx.1,fun _=>⟨hvb,i,hi,e1'⟩,fun c=>by cases c⟩
    | false=>exact ⟨_,rfl,rfl,hr,(fun h=>by cases h),fun _=>rfl⟩
theorem yj {qs:List QT} (hq:Data.sm qs) {x:qL} (e:bd qs=some (x,true)):x.2.map prQ=qs.map prQ/\x.2.length=qs.length/\bd x.2=some (x,true):=by
 obtain ⟨-,hB⟩:=mJ hq e
 have h1:=hB.pr
 rw[List.take_length] at h1
 refine ⟨h1,by simpa using congrArg List.length h1,?_⟩
 rw[CV h1];exact e
theorem CX {qs:List QT} {A:List AutT} {Q:List QT} (hB:BIn qs qs.length A Q) {i j:Nat} (hij:i<j) (hj:j<qs.length):qs[i].1<qs[j].1:=by
 induction j with
 | zero=>omega
 | succ j ih =>
  have h1:=hB.asc j hj hj
  by_cases c:i=j
  ·subst c;exact h1
  ·have:=ih (by omega) (by omega)
   omega
theorem D5 {r x:qL} (hr:Data.sm r) (hx:Data.sm x) {id:Int} {e:List Tok} (he:Data.sm e) {i:Nat} (hi:i<=r.2.length) (e0:bd r.2=some (r,true)) (e1:bd (r.2.take i++([(id,e,0)] ++r.2.drop i))=some (x,true)):eS x id=some (r,true):=by
 have h4:=(mJ hr.2 e0).1
 have hins:=CW (y:=((id,e,(0:Int)):QT)) hr.2 ⟨trivial,he,trivial⟩ i (by omega)
 generalize hL:r.2.take i++([((id,e,(0:Int)):QT)] ++r.2.drop i)=L at e1 hins
 obtain ⟨-,hB⟩:=mJ hins e1
 obtain ⟨p1,p2,p3⟩:=yj hins e1
 have hLl:L.length=r.2.length+1:=by
  rw[<-hL];simp only[ah,aA,au,ay,aT];omega
 have hLi:L[i]'(by omega)=(id,e,0):=by
  subst hL
  rw[List.getElem_append_right (by simp;omega)]
  simp[aA,Nat.min_eq_left hi]
 have hid: ∀j (hj:j<x.2.length),x.2[j].1=(L[j]'(by omega)).1:=fun j hj=>by
  have h1:(x.2.map prQ)[j]'(by simpa using hj)=(L.map prQ)[j]'(by simp;omega):=by simp only[p1]
  simp only[List.getElem_map,prQ,Prod.mk.injEq] at h1
  exact h1.1
 have hfind:cL x id=some (i:Int):=by
  obtain ⟨k,f1,f2,-⟩:=vh x id (by omega)
  rw[f2]
  rcases Li x id (by omega) with ⟨g1,g2⟩ | ⟨j,hj,g1,g2⟩
  ·exact absurd (by rw[hid i (by omega),hLi]) (g2 _ (List.getElem_mem (show i<x.2.length by omega)))
  ·rw[f1] at g1
   have hji:j=i:=by
    have h1:=hid j hj
    rw[g2] at h1
    rcases Nat.lt_trichotomy j i with c | c | c
    ·have:=CX hB (i:=j) (j:=i) c (by omega)
     rw[hLi] at this;omega
    ·exact c
    ·have:=CX hB (i:=i) (j:=j) c (by omega)
     rw[hLi] at this;omega
   rw[ae g1,hji]
 have hval:ba x=some true:=by
  obtain ⟨b,v1,v2,-⟩:=l7 hx
  rw[v2,<-v1]
  exact (mK hx).2 p3
 have hs:=PE hx.2 i (i+1) (by omega)
 have hpr:(x.2.take i++x.2.drop (i+1)).map prQ=r.2.map prQ:=by
  rw[aK,List.map_take,List.map_drop,p1,<-List.map_take,<-List.map_drop,<-aK]
  congr 1
  subst hL
  rw[List.take_append_of_le_length (by simp;omega),List.take_take,Nat.min_self]
  rw[List.drop_append,aA,Nat.min_eq_left hi,List.drop_of_length_le (by simp;omega),show i+1 - i=1 from by omega]
  simp[List.take_append_drop]
 obtain ⟨z,c,z1,z2,-⟩:=qN hs
 have hl3:((x.2.take i++x.2.drop (i+1)).length:Int)<=4:=by
  simp only[ah,aA,aT];omega
 rw[CV hpr,e0,if_neg (by omega)] at z1
 simp only[Option.some.injEq,Prod.mk.injEq] at z1
 obtain ⟨rfl,rfl⟩:=z1
 have hw:IntKind.i64.wrap ((i:Int)+1)=((i+1:Nat):Int):=aC (by omega)
 have a3:aM x.2=some x.2:=by unfold aM;rw[aI (by simp only[ay];omega)];rfl
 have q3:(chk (0<=(i:Int)/\(i:Int)<=((i+1:Nat):Int)/\((i+1:Nat):Int)<=(x.2.length:Int)))=some ():=if_pos (by omega)
 have a4:bw x.2 (i:Int) ((i+1:Nat):Int)=some (x.2.take i++x.2.drop (i+1)):=by
  unfold bw R.Qa
  rw[q3];rfl
 unfold eS
 simp only[jj,hfind,hval,aa,if_true,hw,a3,a4,z2,show decide ((i:Int)<0)=false from by simp,Bool.false_eq_true,if_false,decide_eq_true hl3,Bool.and_self]
theorem Af {r x:qL} (hr:Data.sm r) (hx:Data.sm x) {id:Int} {e:List Tok} (he:Data.sm e) {i:Nat} (hi:i<=r.2.length) (e0:bd r.2=some (r,true)) (e1:bd (r.2.take i++([(id,e,0)] ++r.2.drop i))=some (x,true)): ∃hj:i<x.2.length,cL x id=some (i:Int)/\ba x=some true/\x.2[i].2.1=e/\ ∃(j:Nat) (hj:j<x.1.length),x.2[i].2.2=(j:Int)/\m_s_CompileExpr e=some (x.1[j],true):=by
 have h4:=(mJ hr.2 e0).1
 have hins:=CW (y:=((id,e,(0:Int)):QT)) hr.2 ⟨trivial,he,trivial⟩ i (by omega)
 generalize hL:r.2.take i++([((id,e,(0:Int)):QT)] ++r.2.drop i)=L at e1 hins
 obtain ⟨-,hB⟩:=mJ hins e1
 obtain ⟨p1,p2,p3⟩:=yj hins e1
 have hLl:L.length=r.2.length+1:=by
  rw[<-hL];simp only[ah,aA,au,ay,aT];omega
 have hLi:L[i]'(by omega)=(id,e,0):=by
  subst hL
  rw[List.getElem_append_right (by simp;omega)]
  simp[aA,Nat.min_eq_left hi]
 have hid2: ∀j (hj:j<x.2.length),x.2[j].1=(L[j]'(by omega)).1/\x.2[j].2.1=(L[j]'(by omega)).2.1:=fun j hj=>by
  have h1:(x.2.map prQ)[j]'(by simpa using hj)=(L.map prQ)[j]'(by simp;omega):=by simp only[p1]
  simp only[List.getElem_map,prQ,Prod.mk.injEq] at h1
  exact h1
 have hxi:i<x.2.length:=by omega
 have hfind:cL x id=some (i:Int):=by
  obtain ⟨k,f1,f2,-⟩:=vh x id (by omega)
  rw[f2]
  rcases Li x id (by omega) with ⟨g1,g2⟩ | ⟨j,hj,g1,g2⟩
  ·exact absurd (by rw[(hid2 i (by omega)).1,hLi]) (g2 _ (List.getElem_mem hxi))
  ·rw[f1] at g1
   have hji:j=i:=by
    have h1:=(hid2 j hj).1
    rw[g2] at h1
    rcases Nat.lt_trichotomy j i with c | c | c
    ·have:=CX hB (i:=j) (j:=i) c (by omega)
     rw[hLi] at this;omega
    ·exact c
    ·have:=CX hB (i:=i) (j:=j) c (by omega)
     rw[hLi] at this;omega
   rw[ae g1,hji]
 have hval:ba x=some true:=by
  obtain ⟨b,v1,v2,-⟩:=l7 hx
  rw[v2,<-v1]
  exact (mK hx).2 p3
 have he':x.2[i].2.1=e:=by rw[(hid2 i hxi).2,hLi]
 obtain ⟨j,hj,k1,k2⟩:=hB.at_ _ (List.getElem_mem hxi)
 rw[he'] at k2
 exact ⟨hxi,hfind,hval,he',j,hj,k1,k2⟩
theorem Kc {r x:qL} (hr:Data.sm r) (hx:Data.sm x) {id:Int} {e:List Tok} (he:Data.sm e) {i:Nat} (hi:i<=r.2.length) (e0:bd r.2=some (r,true)) (e1:bd (r.2.take i++([(id,e,0)] ++r.2.drop i))=some (x,true)): ∃a:AutT,Data.sm a/\m_s_CompileExpr e=some (a,true)/\fu x id=some (a,true):=by
 obtain ⟨hj,f1,f2,f3,j,hj1,f4,f5⟩:=Af hr hx he hi e0 e1
 have hm:Data.sm x.1[j]:=(gP hx.1).2 _ (List.getElem_mem hj1)
 refine ⟨x.1[j],hm,f5,?_⟩
 unfold fu
 simp only[jj,f1,f2,aa,if_true,aY hj,f4,aY hj1,show decide ((i:Int)<0)=false from by simp,Bool.false_eq_true,if_false,Hr _ hm]
end D
namespace D
open Go.RowKit
section
variable {nx:Int×Int->List (Option (Int×Int))} {first:Int×Int} {G:Int×Int->Prop} {B:Nat}
end
end D
namespace D
open Go.RowKit
end D
namespace D
open Go.RowKit
section
variable {a b:AutT} {n m:Nat}
def mvn (a:AutT) (s:Int) (k:Nat):Int:=if s<0 then -1 else mv a s k
def acn (a:AutT) (s:Int):Bool:=if s<0 then false else nth a.2.1 s
theorem Lj (V:VA a n) {s:Int} {k:Nat} (h0: -1<=s) (h1:s<n) (hk:k<9): -1<=mvn a s k/\mvn a s k<n:=by
 unfold mvn
 split
 ·have:=V.pos;omega
 ·exact V.mv (by omega) h1 hk
theorem PF (V:VA a n) {s:Int} {k:Nat} (h0: -1<=s) (h1:s<n) (hk:k<9):kh a s (k:Int)=some (mvn a s k):=by
 unfold mvn kh
 by_cases c:s<0
 ·rw[if_pos (by simpa using c),if_pos c]
 ·rw[if_neg (by simpa using c),if_neg c,V.get (by omega) h1];simp only[aa]
  rw[V.get2 (by omega) h1 hk];rfl
theorem PG (V:VA a n) {s:Int} (h0: -1<=s) (h1:s<n):ix a s=some (acn a s):=by
 unfold acn ix
 by_cases c:s<0
 ·rw[if_neg (by simp;omega),if_pos c]
 ·rw[if_pos (by simp;omega),if_neg c,V.acc (by omega) h1];rfl
def nxP (a b:AutT) (x:Int×Int):List (Option (Int×Int)):=(List.range 9).map fun k=>some (mvn a x.1 k,mvn b x.2 k)
def inP (n m:Nat) (x:Int×Int):Prop:=(-1<=x.1/\x.1<n)/\ -1<=x.2/\x.2<m
theorem Lk {x:Int×Int} {k:Nat} (hk:k<9):nth (nxP a b x) (k:Int)=some (mvn a x.1 k,mvn b x.2 k):=by
 have:k<(nxP a b x).length:=by simp[nxP];omega
 rw[bN this];simp[nxP]
theorem BF (n m:Nat) (l:List (Int×Int)) (hd:l.Nodup) (h: ∀x∈l,inP n m x):l.length<=(n+1)*(m+1):=by
 have:=hd.length_le_of_subset (l₂:=(List.range (n+1)).flatMap fun i:Nat=>(List.range (m+1)).map fun j:Nat=>((i:Int) - 1,(j:Int) - 1)) (fun x hx=>by
  obtain ⟨⟨h0,h1⟩,h2,h3⟩:=h x hx
  refine List.mem_flatMap.2 ⟨(x.1+1).toNat,List.mem_range.2 (by omega),List.mem_map.2 ⟨(x.2+1).toNat,List.mem_range.2 (by omega),?_⟩⟩
  exact Prod.ext (by show (((x.1+1).toNat:Nat):Int) - 1=x.1;omega) (by show (((x.2+1).toNat:Nat):Int) - 1=x.2;omega))
 have e:((List.range (n+1)).flatMap fun i:Nat=>(List.range (m+1)).map fun j:Nat=>((i:Int) - 1,(j:Int) - 1)).length=(n+1)*(m+1):=by
  rw[List.length_flatMap]
  simp only[List.length_map,List.length_range]
  rw[List.map_const',List.sum_replicate_nat,List.length_range]
 omega
theorem qO (Va:VA a n) (Vb:VA b m) (hn:n<=12) (hm:m<=12):NumOk (nxP a b) (a.1,b.1) (inP n m) 169 where
 g0:=⟨⟨by have:=Va.start.1;show -1<=a.1;omega,Va.start.2⟩,by have:=Vb.start.1;show -1<=b.1;omega,Vb.start.2⟩
 gn x hx y hy:=by
  obtain ⟨k,hk,e⟩:=List.mem_map.1 hy
  have hk:k<9:=List.mem_range.1 hk
  obtain rfl:=ae e
  exact ⟨Lj Va hx.1.1 hx.1.2 hk,Lj Vb hx.2.1 hx.2.2 hk⟩
 len x _:=by simp[nxP]
 bound l hd h:=by
  have h1:=BF n m l hd h
  have:(n+1)*(m+1)<=13*13:=Nat.mul_le_mul (by omega) (by omega)
  omega
end
end D
namespace D
open Go.RowKit
section
variable {κ:Type} [DecidableEq κ] {nx:κ->List (Option κ)} {first:κ} {N:Nat}
theorem Ht: ∀ {l:List κ} {x:κ} (h:x∈l),l[l.idxOf x]'(List.idxOf_lt_length_iff.2 h)=x:=fun {l x} h=>by simp
def krun (nx:κ->List (Option κ)):Option κ->List Nat->Option κ
 | x,[] =>x
 | none,_::_=>none
 | some x,k::w=>krun nx (nth (nx x) (k:Int)) w
theorem nR (nx:κ->List (Option κ)): ∀w,krun nx none w=none
 | [] =>rfl
 | _::_=>rfl
theorem PH (E:bfE nx first N) {i:Nat} (hi:i<N) {j:Nat} (hij:i<j) (hj:j<=N):nth (bfR nx first j) (i:Int)=nbR (bfS nx first i) (nx ((bfS nx first i)[i]'(E.2 i hi))):=by
 induction j with
 | zero=>omega
 | succ j ih =>
  rw[oC (E.2 j (by omega))]
  have hl:(bfR nx first j).length=j:=ga fun m hm=>E.2 m (by omega)
  by_cases h:i<j
  ·rw[fO (by omega) (by omega),ih h (by omega)]
  ·obtain rfl:i=j:=by omega
   rw[bN (by rw[ah,hl];simp)]
   simp[hl]
theorem PI {i:Nat} (h:i<(bfS nx first i).length) {j:Nat} (hij:i<=j):(bfS nx first j)[i]? =some ((bfS nx first i)[i]):=by
 have hp:=jT (nx:=nx) (first:=first) hij
 obtain ⟨t,ht⟩:=hp
 rw[<-ht,List.getElem?_append_left h,List.getElem?_eq_getElem h]
theorem NR (E:bfE nx first N) {x:κ} (hx:x∈bfS nx first N) {k:Nat} (hk:k<(nx x).length) :
  nth (nth (bfR nx first N) ((bfS nx first N).idxOf x:Int)) (k:Int)=(match nth (nx x) (k:Int) with | none=> -1 | some y=>((bfS nx first N).idxOf y:Int))/\ ∀y,nth (nx x) (k:Int)=some y->y∈bfS nx first N:=by
 have hlt:(bfS nx first N).idxOf x<N:=by
  have:=List.idxOf_lt_length_iff.2 hx
  have:=E.1
  omega
 generalize hi:(bfS nx first N).idxOf x=i at hlt⊢
 have hl:=E.2 i hlt
 have hxi:(bfS nx first i)[i] =x:=by
  have h1:=PI hl (Nat.le_of_lt hlt)
  have h2:(bfS nx first N)[i]? =some x:=by
   rw[<-hi,List.getElem?_eq_getElem (List.idxOf_lt_length_iff.2 hx),Ht hx]
  rw[h1] at h2;exact ae h2
 rw[PH E hlt hlt (aB _),hxi,He _ _ _ hk]
 have hs:nbS (bfS nx first i) (nx x)=bfS nx first (i+1):=by rw[sW hl,hxi]
 have hp:nbS (bfS nx first i) (nx x) <+:bfS nx first N:=by rw[hs];exact jT hlt
 cases ho:nth (nx x) (k:Int) with
 | none=>exact ⟨rfl,fun y hy=>by cases hy⟩
 | some y =>
  have hm:some y∈nx x:=by
   rw[<-ho];exact eH (by omega) (by omega)
  have hy:y∈nbS (bfS nx first i) (nx x):=mC.2 (.inr hm)
  refine ⟨?_,fun z hz=>?_⟩
  ·show ((nbS (bfS nx first i) (nx x)).idxOf y:Int)=_
   exact (wM hp hy).symm
  ·obtain rfl:=ae hz
   exact hp.subset hy
end
def jD (a:AutT) (s:Int) (w:List Nat):Int:=w.foldl (mvn a) s
def acw (a:AutT) (w:List Nat):Bool:=acn a (jD a a.1 w)
theorem tc (a:AutT): ∀(w:List Nat) (s:Int),s<0->jD a s w<0
 | [],s,h=>h
 | k::w,s,h=>by
  show jD a (mvn a s k) w<0
  exact tc a w _ (by unfold mvn;rw[if_pos h];omega)
section
variable {κ:Type} [DecidableEq κ] {nx:κ->List (Option κ)} {first:κ} {N:Nat}
structure NumA (r:AutT) (nx:κ->List (Option κ)) (first:κ) (ac:κ->Bool) (N:Nat):Prop where
 E:bfE nx first N
 st:r.1=0
 accs:r.2.1=(bfS nx first N).map ac
 rows:r.2.2=bfR nx first N
 len: ∀x∈bfS nx first N,(nx x).length=9
theorem NumA.run {r:AutT} {ac:κ->Bool} (H:NumA r nx first ac N): ∀(w:List Nat) (x:κ),(∀k∈w,k<9)->x∈bfS nx first N->(krun nx (some x) w=none/\D.jD r ((bfS nx first N).idxOf x:Int) w<0)\/ ∃y∈bfS nx first N,krun nx (some x) w=some y/\D.jD r ((bfS nx first N).idxOf x:Int) w=((bfS nx first N).idxOf y:Int)
 | [],x,_,hx=>.inr ⟨x,hx,rfl,rfl⟩
 | k::w,x,hw,hx=>by
  obtain ⟨h1,h2⟩:=NR H.E hx (k:=k) (by rw[H.len x hx];exact hw k (by simp))
  have e:D.jD r ((bfS nx first N).idxOf x:Int) (k::w)=D.jD r (mvn r ((bfS nx first N).idxOf x:Int) k) w:=rfl
  have em:mvn r ((bfS nx first N).idxOf x:Int) k=nth (nth (bfR nx first N) ((bfS nx first N).idxOf x:Int)) (k:Int):=by
   unfold mvn mv;rw[if_neg (by omega),H.rows]
  have ek:krun nx (some x) (k::w)=krun nx (nth (nx x) (k:Int)) w:=rfl
  rw[e,em,h1,ek]
  cases ho:nth (nx x) (k:Int) with
  | none=>exact .inl ⟨nR nx w,tc r w _ (by show (-1:Int)<0;omega)⟩
  | some y=>exact NumA.run H w y (fun j hj=>hw j (bh _ hj)) (h2 y ho)
theorem NumA.acw {r:AutT} {ac:κ->Bool} (H:NumA r nx first ac N) {w:List Nat} (hw: ∀k∈w,k<9):D.acw r w=(match krun nx (some first) w with | none=>false | some y=>ac y):=by
 have hf:first∈bfS nx first N:=List.mem_of_getElem? (nO N)
 have h0:(bfS nx first N).idxOf first=0:=by
  have h1:=nO (nx:=nx) (first:=first) N
  cases hL:bfS nx first N with
  | nil=>rw[hL] at h1;cases h1
  | cons z l =>
   rw[hL] at h1
   obtain rfl:=ae (show some z=some first from h1)
   simp
 unfold D.acw
 rw[H.st]
 have hr:=H.run w first hw hf
 rw[h0] at hr
 rcases hr with ⟨h1,h2⟩ | ⟨y,hy,h1,h2⟩
 ·rw[h1]
  have h2:D.jD r 0 w<0:=h2
  unfold acn
  rw[if_pos h2]
 ·rw[h1]
  have h2:D.jD r 0 w=_:=h2
  rw[h2]
  have hlt:=List.idxOf_lt_length_iff.2 hy
  unfold acn
  rw[if_neg (by omega),H.accs]
  show nth (List.map ac (bfS nx first N)) (((bfS nx first N).idxOf y:Nat):Int)=ac y
  rw[bN (by rw[List.length_map];exact hlt),List.getElem_map,Ht hy]
end
section
variable {κ:Type} [DecidableEq κ] {nx:κ->List (Option κ)} {N:Nat} {a:AutT} {good inR:Int->Prop} {f:Int->κ} {ac:κ->Bool}
structure Quot (a:AutT) (nx:κ->List (Option κ)) (ac:κ->Bool) (f:Int->κ) (good inR:Int->Prop):Prop where
 r0:inR a.1
 rin: ∀s k,inR s->k<9->inR (mvn a s k)
 pos: ∀s,good s->0<=s
 yes: ∀s k,good s->k<9->good (mv a s k)->nth (nx (f s)) (k:Int)=some (f (mv a s k))
 no: ∀s k,good s->k<9-> ¬good (mv a s k)->nth (nx (f s)) (k:Int)=none
 acc: ∀s,good s->ac (f s)=nth a.2.1 s
 back: ∀s k,inR s->k<9-> ¬good s-> ¬good (mvn a s k)
 bad: ∀s,inR s-> ¬good s->acn a s=false
theorem Quot.bad_run (Q:Quot a nx ac f good inR): ∀(w:List Nat) (s:Int),(∀k∈w,k<9)->inR s-> ¬good s-> ¬good (jD a s w)/\inR (jD a s w)
 | [],s,_,hi,h=>⟨h,hi⟩
 | k::w,s,hw,hi,h=>Q.bad_run w (mvn a s k) (fun j hj=>hw j (bh _ hj)) (Q.rin s k hi (hw k (by simp))) (Q.back s k hi (hw k (by simp)) h)
theorem Quot.krun (Q:Quot a nx ac f good inR): ∀(w:List Nat) (s:Int),(∀k∈w,k<9)->inR s->good s->(good (jD a s w)/\D.krun nx (some (f s)) w=some (f (jD a s w)))\/(¬good (jD a s w)/\inR (jD a s w)/\D.krun nx (some (f s)) w=none)
 | [],s,_,hi,h=>.inl ⟨h,rfl⟩
 | k::w,s,hw,hi,h=>by
  have hk:k<9:=hw k (by simp)
  have hw': ∀j∈w,j<9:=fun j hj=>hw j (bh _ hj)
  have em:mvn a s k=mv a s k:=by unfold mvn;rw[if_neg (by have:=Q.pos s h;omega)]
  have hi':=Q.rin s k hi hk
  show (good (jD a (mvn a s k) w)/\D.krun nx (nth (nx (f s)) (k:Int)) w=some (f (jD a (mvn a s k) w)))\/(¬good (jD a (mvn a s k) w)/\inR (jD a (mvn a s k) w)/\D.krun nx (nth (nx (f s)) (k:Int)) w=none)
  by_cases hg:good (mv a s k)
  ·rw[Q.yes s k h hk hg,em]
   rw[em] at hi'
   exact Q.krun w _ hw' hi' hg
  ·rw[Q.no s k h hk hg,nR]
   obtain ⟨h1,h2⟩:=Q.bad_run w (mvn a s k) hw' hi' (by rw[em];exact hg)
   exact .inr ⟨h1,h2,rfl⟩
theorem Quot.acw {r:AutT} (Q:Quot a nx ac f good inR) (h0:good a.1) (H:NumA r nx (f a.1) ac N) {w:List Nat} (hw: ∀k∈w,k<9):D.acw r w=D.acw a w:=by
 rw[H.acw hw]
 rcases Q.krun w a.1 hw Q.r0 h0 with ⟨h1,h2⟩ | ⟨h1,h2,h3⟩
 ·rw[h2]
  show ac (f (jD a a.1 w))=acn a (jD a a.1 w)
  rw[Q.acc _ h1]
  unfold acn
  rw[if_neg (by have:=Q.pos _ h1;omega)]
 ·rw[h3]
  exact (Q.bad _ h2 h1).symm
end
theorem vj {a b:AutT} : ∀(w:List Nat) (s t:Int),(∀k∈w,k<9)->krun (nxP a b) (some (s,t)) w=some (jD a s w,jD b t w)
 | [],s,t,_=>rfl
 | k::w,s,t,hw=>by
  show krun (nxP a b) (nth (nxP a b (s,t)) (k:Int)) w=_
  rw[Lk (hw k (by simp))]
  exact vj w _ _ fun j hj=>hw j (bh _ hj)
end D
namespace D
open Go.RowKit
theorem Hu {n:Nat} {r:List Int} :(∀t∈r,-1<=t/\t<=(n:Int) - 1)↔ ∀t∈r,-1<=t/\t<(n:Int):=forall_congr' fun t=>forall_congr' fun _=>and_congr Iff.rfl (by omega)
theorem PJ (a:AutT) (h1:a.2.1.length<=9223372036854775807) (h2:a.2.2.length<=9223372036854775807): ∃b,kg a=some b/\(b=true↔VA a a.2.1.length):=by
 unfold kg
 rw[N7];simp only[aa,qB h1]
 by_cases c1:0<=a.1/\a.1<=(a.2.1.length:Int) - 1
 case neg=>exact ⟨false,by rw[if_neg (by simpa using c1)],by simp;exact fun h=>c1 ⟨h.start.1,by have:=h.start.2;omega⟩⟩
 rw[if_pos (by simpa using c1)]
 by_cases c2:a.2.2.length=a.2.1.length
 case neg=>exact ⟨false,by rw[if_pos (by simp;omega)],by simp;exact fun h=>c2 h.nlen⟩
 rw[if_neg (by simp;omega)]
 have inner: ∀i:Nat,i<a.2.2.length->(nth a.2.2 i).length=9->(aF (fj a i) br 0=some (.brk 9)/\ ∀t∈nth a.2.2 (i:Int),-1<=t/\t<=(a.2.1.length:Int) - 1)\/(aF (fj a i) br 0=some (.ret false)/\ ¬ ∀t∈nth a.2.2 (i:Int),-1<=t/\t<=(a.2.1.length:Int) - 1):=by
  intro i hi hr
  have:=scan (f:=fj a i) (nth a.2.2 (i:Int)) (fun t=> -1<=t/\t<=(a.2.1.length:Int) - 1) false (by omega) (fun j hj=>by
   unfold fj
   rw[if_pos (by simp;omega),aG (by omega) (by omega)];simp only[aa]
   rw[aG (by omega) (by omega)];simp only[aa,qB h1]
   rw[N7];simp only[aa,aC (show j<9223372036854775807 by omega)]
   by_cases c: -1<=nth (nth a.2.2 (i:Int)) (j:Int)/\nth (nth a.2.2 (i:Int)) (j:Int)<=(a.2.1.length:Int) - 1
   ·rw[if_pos (by simpa using c),if_pos c]
   ·rw[if_neg (by simpa using c),if_neg c]) (by unfold fj;rw[if_neg (by simp[hr])])
  rwa [hr] at this
 have outer:=scan (f:=iY a) a.2.2 (fun r=>r.length=9/\ ∀t∈r,-1<=t/\t<=(a.2.1.length:Int) - 1) false h2 (fun i hi=>by
  unfold iY
  rw[if_pos (by simp;omega),aG (by omega) (by omega)];simp only[aa]
  by_cases c:(nth a.2.2 (i:Int)).length=9
  ·rw[if_neg (by simp;omega)]
   rcases inner i hi c with ⟨e,k⟩ | ⟨e,k⟩
   ·rw[aE e,if_pos ⟨c,k⟩,aC (show i<9223372036854775807 by omega)]
   ·rw[dx e,if_neg (fun h=>k h.2)]
  ·rw[if_pos (by simp;omega),if_neg (fun h=>c h.1)]) (by unfold iY;rw[if_neg (by simp;omega)])
 rcases outer with ⟨e,k⟩ | ⟨e,k⟩
 ·exact ⟨true,by rw[aE e],by simp;exact ⟨rfl,⟨c1.1,by omega⟩,c2,fun r hr=>(k r hr).1,fun r hr=>Hu.1 (k r hr).2⟩⟩
 ·exact ⟨false,by rw[dx e],by simp;exact fun h=>k fun r hr=>⟨h.row r hr,Hu.2 (h.ent r hr)⟩⟩
theorem NS (a:AutT) (h1:a.2.1.length<=9223372036854775807) (h2:a.2.2.length<=9223372036854775807): ∃b,bQ a=some b/\(b=true↔a.2.1.length<=12/\VA a a.2.1.length):=by
 unfold bQ
 by_cases c:a.2.1.length<=12
 ·rw[if_pos (by simp;omega)]
  obtain ⟨b,e,hb⟩:=PJ a h1 h2
  exact ⟨b,by show (kg a).bind _=_;rw[e];rfl,by rw[hb];simp[c]⟩
 ·exact ⟨false,by rw[if_neg (by simp;omega)],by simp;exact fun h=>absurd h c⟩
end D
namespace D
open Go.RowKit
section
variable {a:AutT} (V:VA a a.2.1.length) (hn:a.2.1.length<=12) (hs:Data.sm a)
include V hn hs
end
end D
namespace D
open Go.RowKit
section
variable {α:Type} [DecidableEq α]
end
end D
namespace D
open Go.RowKit
end D
namespace D
open Go.RowKit
end D
namespace D
open Go.RowKit
end D
namespace D
open Go.RowKit
def Step (a:AutT) (x y:Int):Prop:= ∃k:Nat,k<9/\mv a x k=y/\0<=y
section
variable {a:AutT} {n:Nat}
theorem Hv (V:VA a n) {x y:Int} (h0:0<=x) (h1:x<n) (h:Step a x y):0<=y/\y<n:=by
 obtain ⟨k,hk,rfl,hy⟩:=h
 exact ⟨hy,(V.mv h0 h1 hk).2⟩
theorem Ke (V:VA a n) {x y:Int} (h0:0<=x) (h1:x<n) (h:Relation.TransGen (Step a) x y):0<=y/\y<n:=by
 induction h with
 | single h=>exact Hv V h0 h1 h
 | tail _ h ih=>exact Hv V ih.1 ih.2 h
end
section
variable {a:AutT} {n:Nat}
end
end D
namespace D
open Go.RowKit
theorem Ag {a:AutT} {out:List Bool} {s:Nat} : ∀d,s+d<=out.length->cnt (dg a out s)<=cnt (dg a out (s+d))
 | 0,_=>aB _
 | d+1,hd=>by
  have ih:=Ag (a:=a) (out:=out) (s:=s) d (by omega)
  rw[show s+(d+1)=(s+d)+1 from rfl,dg]
  rcases nP (a:=a) (out:=dg a out (s+d)) (s:=s+d) (by rw[eX];omega) with ⟨e,-⟩ | ⟨e,-,-⟩
  ·rw[e];exact ih
  ·omega
section
variable {a:AutT} {n:Nat}
theorem vl (V:VA a n) {s t:Int} (s0:0<=s) (s1:s<n) (h:Step a s t) (ht:nth (live a) t=true):nth (live a) s=true:=by
 have hn:=V.len
 have hll:=mE a
 have hf:dg a (live a) a.2.1.length=live a:=G0 a
 have same: ∀i,i<=a.2.1.length->dg a (live a) i=live a:=fun i hi=>by
  rcases oE (a:=a) (out:=live a) i (by omega) with e | e
  ·exact e.1
  ·have:=Ag (a:=a) (out:=live a) (s:=i) (a.2.1.length - i) (by omega)
   rw[show i+(a.2.1.length - i)=a.2.1.length by omega,hf] at this
   omega
 have h1:=same (s.toNat+1) (by omega)
 rw[dg,same s.toNat (by omega)] at h1
 have hh:hit (live a) (nth a.2.2 ((s.toNat:Nat):Int))=true:=by
  rw[show ((s.toNat:Nat):Int)=s by omega]
  obtain ⟨k,hk,e,h0⟩:=h
  unfold hit
  rw[List.any_eq_true]
  refine ⟨t,?_,?_⟩
  ·rw[<-e];exact eH (by omega) (by rw[V.rowAt s0 s1];omega)
  ·unfold DX;simp[h0,ht]
 unfold lf at h1
 rw[if_pos hh] at h1
 rw[<-h1]
 exact su s0 (by omega)
theorem D6 (V:VA a n) {s t:Int} (s0:0<=s) (s1:s<n) (h:Relation.TransGen (Step a) s t):nth (live a) t=true->nth (live a) s=true:=by
 induction h with
 | single h=>exact fun ht=>vl V s0 s1 h ht
 | tail h k ih =>
  have hb:=Ke V s0 s1 h
  exact fun ht=>ih (vl V hb.1 hb.2 k ht)
end
end D
namespace D
open Go.RowKit
section
variable {a:AutT} {n:Nat}
def In1 (n:Nat) (s:Int):Prop:= -1<=s/\s<n
theorem NT (V:VA a n) {s:Int} (h:In1 n s) {k:Nat} (hk:k<9):In1 n (mvn a s k):=by
 unfold mvn
 split
 ·exact ⟨Int.le_refl _,by omega⟩
 ·exact V.mv (by omega) h.2 hk
theorem Ll (V:VA a n): ∀(w:List Nat) {x:Int},(∀k∈w,k<9)->0<=x->x<n->0<=jD a x w->jD a x w=x/\w= [] \/Relation.TransGen (Step a) x (jD a x w)
 | [],x,_,_,_,_=>.inl ⟨rfl,rfl⟩
 | k::w,x,hw,h0,h1,h=>by
  have hk:k<9:=hw k (by simp)
  have em:mvn a x k=mv a x k:=by unfold mvn;rw[if_neg (by omega)]
  have e:jD a x (k::w)=jD a (mv a x k) w:=by show jD a (mvn a x k) w=_;rw[em]
  rw[e] at h⊢
  have hm:0<=mv a x k:=by
   rcases Int.lt_or_le (mv a x k) 0 with q | q
   ·have:=tc a w _ q;omega
   ·exact q
  have st:Step a x (mv a x k):=⟨k,hk,rfl,hm⟩
  rcases Ll V w (x:=mv a x k) (fun j hj=>hw j (bh _ hj)) hm (V.mv h0 h1 hk).2 h with ⟨q,-⟩ | q
  ·right;rw[q];exact .single st
  ·right;exact Relation.TransGen.trans (.single st) q
theorem Hw {out:List Bool} {s:Nat} {t:Int} (hs:s<out.length) (t0:0<=t) (h:nth (lf a out s) t=true):nth out t=true\/(t=(s:Int)/\hit out (nth a.2.2 (s:Int))=true):=by
 unfold lf at h
 split at h
 ·rename_i hh
  by_cases e:(s:Int)=t
  ·exact .inr ⟨e.symm,hh⟩
  ·have h2:nth (out.set ((s:Int)).toNat true) t=true:=by simpa using h
   rw[wJ (by omega) t0 e] at h2
   exact .inl h2
 ·exact .inl h
theorem Ah (V:VA a n): ∀(j:Nat) {s:Int},0<=s->s<n->nth (it a j) s=true-> ∃w:List Nat,(∀k∈w,k<9)/\acn a (jD a s w)=true
 | 0,s,h0,h1,h=>⟨[],fun k hk=>(by cases hk),by show acn a s=true;unfold acn;rw[if_neg (by omega)];exact h⟩
 | j+1,s,h0,h1,h=>by
  have key: ∀(m:Nat),m<=n-> ∀ {s:Int},0<=s->s<n->nth (dg a (it a j) m) s=true-> ∃w:List Nat,(∀k∈w,k<9)/\acn a (jD a s w)=true:=by
   intro m
   induction m with
   | zero=>intro _ s h0 h1 h;exact Ah V j h0 h1 h
   | succ m ih =>
    intro hm s h0 h1 h
    have hlen:(dg a (it a j) m).length=n:=by rw[eX,kF,V.len]
    rcases Hw (by omega) h0 (show nth (lf a (dg a (it a j) m) m) s=true from h) with q | ⟨q,hh⟩
    ·exact ih (by omega) h0 h1 q
    ·subst q
     unfold hit at hh
     obtain ⟨t,ht,hT⟩:=List.any_eq_true.1 hh
     unfold DX at hT
     rw[af,decide_eq_true_eq] at hT
     obtain ⟨t0,tl⟩:=hT
     obtain ⟨k,hk,ek⟩:=Bs ht
     rw[V.rowAt h0 h1] at hk
     have hmv:mv a (m:Int) k=t:=ek
     have hb:=V.mv h0 h1 hk
     obtain ⟨w,hw,hacc⟩:=ih (by omega) (s:=t) t0 (by omega) tl
     refine ⟨k::w,fun i hi=>?_,?_⟩
     ·rcases ax hi with rfl | hi
      ·exact hk
      ·exact hw i hi
     ·show acn a (jD a (mvn a (m:Int) k) w)=true
      have:mvn a (m:Int) k=t:=by unfold mvn;rw[if_neg (by omega),hmv]
      rw[this];exact hacc
  have e:it a (j+1)=dg a (it a j) a.2.1.length:=rfl
  rw[e,V.len] at h
  exact key n (aB _) h0 h1 h
theorem BG {out:List Bool} {s:Nat} {t:Int} (t0:0<=t) (h:nth out t=true):nth (lf a out s) t=true:=by
 unfold lf
 split
 ·by_cases e:(s:Int)=t
  ·subst e
   by_cases hl:s<out.length
   ·rw[bN (by rw[List.length_set];exact hl)];simp
   ·rw[List.set_eq_of_length_le (by omega)];exact h
  ·have:=wJ (xs:=out) (x:=true) (i:=(s:Int)) (j:=t) (by omega) t0 e
   have h2:nth (out.set s true) t=nth out t:=by simpa using this
   rw[h2];exact h
 ·exact h
theorem Hx {t:Int} (t0:0<=t) (h:nth a.2.1 t=true): ∀j,nth (it a j) t=true
 | 0=>h
 | j+1=>by
  have key: ∀m,nth (dg a (it a j) m) t=true:=by
   intro m
   induction m with
   | zero=>exact Hx t0 h j
   | succ m ih=>exact BG t0 ih
  exact key _
theorem vm (V:VA a n) {w:List Nat} {s:Int} (hw: ∀k∈w,k<9) (h0:0<=s) (h1:s<n) (h:acn a (jD a s w)=true):nth (live a) s=true:=by
 have hr:0<=jD a s w:=by
  unfold acn at h
  split at h
  ·cases h
  ·omega
 have hl:nth (live a) (jD a s w)=true:=Hx hr (by
  unfold acn at h
  rw[if_neg (by omega)] at h;exact h) _
 rcases Ll V w hw h0 h1 hr with ⟨q,-⟩ | q
 ·rw[q] at hl;exact hl
 ·exact D6 V h0 h1 q hl
theorem Kf (V:VA a n) {s:Int} (h0:0<=s) (h1:s<n):nth (live a) s=true↔ ∃w:List Nat,(∀k∈w,k<9)/\acn a (jD a s w)=true:=
 ⟨fun h=>Ah V _ h0 h1 h,fun ⟨w,hw,h⟩=>vm V hw h0 h1 h⟩
end
section
variable {a:AutT} {n:Nat}
end
end D
namespace D
open Go.RowKit
theorem wS {a:AutT} {n:Nat} (V:VA a n) {c:List Int} {nx:Int->List (Option Int)} {ac:Int->Bool} (hnx: ∀r,good n (live a) r->nx (nth c r)=lB a c (live a) r) (hac: ∀r,good n (live a) r->ac (nth c r)=nth a.2.1 r):Quot a nx ac (fun s=>nth c s) (good n (live a)) (In1 n):=by
 have hs: ∀(s:Int) (k:Nat),k<9->nth (lB a c (live a) s) (k:Int)=if 0<=mv a s k/\nth (live a) (mv a s k)=true then some (nth c (mv a s k)) else none:=fun s k hk=>by
  unfold lB;rw[bN (by simpa using hk)];simp
 refine ⟨⟨by have:=V.start;omega,V.start.2⟩,fun s k hi hk=>NT V hi hk,fun s h=>h.1,fun s k h hk hg=>?_,fun s k h hk hg=>?_,fun s h=>hac s h,fun s k hi hk hb hg=>?_,fun s hi hb=>?_⟩
 ·show nth (nx (nth c s)) (k:Int)=_
  rw[hnx s h,hs s k hk,if_pos ⟨hg.1,hg.2.2⟩]
 ·show nth (nx (nth c s)) (k:Int)=_
  rw[hnx s h,hs s k hk,if_neg fun q=>hg ⟨q.1,(V.mv h.1 h.2.1 hk).2,q.2⟩]
 ·rcases Int.lt_or_le s 0 with q | q
  ·have:mvn a s k= -1:=by unfold mvn;rw[if_pos q]
   rw[this] at hg
   have:=hg.1;omega
  ·have e:mvn a s k=mv a s k:=by unfold mvn;rw[if_neg (by omega)]
   rw[e] at hg
   exact hb ⟨q,hi.2,vl V q hi.2 ⟨k,hk,rfl,hg.1⟩ hg.2.2⟩
 ·rcases Int.lt_or_le s 0 with q | q
  ·unfold acn;rw[if_pos q]
  ·cases h:acn a s with
   | false=>rfl
   | true=>exact absurd ⟨q,hi.2,vm V (w:=[]) (fun k hk=>by cases hk) q hi.2 h⟩ hb
theorem Hy {a r:AutT} {n N:Nat} (V:VA a n) {c:List Int} {nx:Int->List (Option Int)} {ac:Int->Bool} (hnx: ∀r,good n (live a) r->nx (nth c r)=lB a c (live a) r) (hac: ∀r,good n (live a) r->ac (nth c r)=nth a.2.1 r) (hs:nth (live a) a.1=true) (H:NumA r nx (nth c a.1) ac N) {w:List Nat} (hw: ∀k∈w,k<9):acw r w=acw a w:=
 (wS V hnx hac).acw ⟨V.start.1,V.start.2,hs⟩ H hw
theorem CY {a:AutT} {n:Nat} (V:VA a n) (hs:nth (live a) a.1=false) {w:List Nat} (hw: ∀k∈w,k<9):acw a w=false:=by
 cases h:acw a w with
 | false=>rfl
 | true =>
  have:=vm V hw V.start.1 V.start.2 h
  rw[hs] at this;cases this
end D
namespace D
open Go.RowKit
section
variable {a b:AutT} {n m:Nat}
end
section
variable {κ μ:Type} [DecidableEq κ] [DecidableEq μ] {f:κ->μ}
theorem Hz (hf: ∀x y,f x=f y->x=y) (l:List κ) (o:Option κ):nbL (l.map f) (o.map f)=(nbL l o).map f:=by
 cases o with
 | none=>rfl
 | some x =>
  by_cases c:x∈l
  ·rw[gQ c];exact gQ (List.mem_map.2 ⟨x,c,rfl⟩)
  ·have c':f x∉l.map f:=fun h=>by
    obtain ⟨y,hy,e⟩:=List.mem_map.1 h
    exact c (hf _ _ e ▸ hy)
   rw[gl c]
   show nbL (l.map f) (some (f x))=_
   rw[gl c'];simp
theorem Ai (hf: ∀x y,f x=f y->x=y): ∀(l:List κ) (x:κ),(l.map f).idxOf (f x)=l.idxOf x
 | [],x=>rfl
 | y::l,x=>by
  rw[List.map_cons,List.idxOf_cons,List.idxOf_cons,Ai hf l x]
  by_cases c:y=x
  ·subst c;simp
  ·have: ¬f y=f x:=fun e=>c (hf _ _ e)
   simp[show (y==x)=false from by simpa using c,show (f y==f x)=false from by simpa using this]
theorem NU (hf: ∀x y,f x=f y->x=y) (l:List κ) (o:Option κ):nbI (l.map f) (o.map f)=nbI l o:=by
 cases o with
 | none=>rfl
 | some x=>show ((l.map f).idxOf (f x):Int)=(l.idxOf x:Int);rw[Ai hf]
theorem HA (hf: ∀x y,f x=f y->x=y): ∀(l:List κ) (os:List (Option κ)),nbS (l.map f) (os.map (Option.map f))=(nbS l os).map f
 | l,[] =>rfl
 | l,o::os=>by
  show nbS (nbL (l.map f) (o.map f)) (os.map (Option.map f))=(nbS (nbL l o) os).map f
  rw[Hz hf,HA hf]
theorem HB (hf: ∀x y,f x=f y->x=y): ∀(l:List κ) (os:List (Option κ)),nbR (l.map f) (os.map (Option.map f))=nbR l os
 | l,[] =>rfl
 | l,o::os=>by
  show nbI (l.map f) (o.map f)::nbR (nbL (l.map f) (o.map f)) (os.map (Option.map f))=nbI l o::nbR (nbL l o) os
  rw[NU hf,Hz hf,HB hf]
variable {nx:κ->List (Option κ)} {nx':μ->List (Option μ)} {first:κ}
end
end D
namespace D
open Go.RowKit
section
variable {κ μ:Type} [DecidableEq κ] [DecidableEq μ] {F:κ->μ} {nx:κ->List (Option κ)} {ny:μ->List (Option μ)} {first:κ} {G:κ->Prop}
theorem qP (hf: ∀x y,F x=F y->x=y) (g0:G first) (gn: ∀x,G x-> ∀y,some y∈nx x->G y) (hn: ∀x,G x->ny (F x)=(nx x).map (Option.map F)): ∀i,bfS ny (F first) i=(bfS nx first i).map F
 | 0=>rfl
 | i+1=>by
  have ih:=qP hf g0 gn hn i
  rw[bfS,bfS,ih,List.getElem?_map]
  cases h:(bfS nx first i)[i]? with
  | none=>rfl
  | some x =>
   have hx:G x:=eW g0 gn i x (List.mem_of_getElem? h)
   show nbS ((bfS nx first i).map F) (ny (F x))=(nbS (bfS nx first i) (nx x)).map F
   rw[hn x hx,HA hf]
theorem CZ (hf: ∀x y,F x=F y->x=y) (g0:G first) (gn: ∀x,G x-> ∀y,some y∈nx x->G y) (hn: ∀x,G x->ny (F x)=(nx x).map (Option.map F)): ∀i,bfR ny (F first) i=bfR nx first i
 | 0=>rfl
 | i+1=>by
  have ih:=CZ hf g0 gn hn i
  rw[bfR,bfR,ih,qP hf g0 gn hn i,List.getElem?_map]
  cases h:(bfS nx first i)[i]? with
  | none=>rfl
  | some x =>
   have hx:G x:=eW g0 gn i x (List.mem_of_getElem? h)
   show bfR nx first i++ [nbR ((bfS nx first i).map F) (ny (F x))] =bfR nx first i++ [nbR (bfS nx first i) (nx x)]
   rw[hn x hx,HB hf]
theorem Kg (hf: ∀x y,F x=F y->x=y) (g0:G first) (gn: ∀x,G x-> ∀y,some y∈nx x->G y) (hn: ∀x,G x->ny (F x)=(nx x).map (Option.map F)) {N:Nat} (h:bfE nx first N):bfE ny (F first) N:=by
 refine ⟨by rw[qP hf g0 gn hn,List.length_map];exact h.1,fun i hi=>?_⟩
 rw[qP hf g0 gn hn,List.length_map];exact h.2 i hi
end
section
variable {a:AutT} {n:Nat}
def oF (a:AutT) (s:Int) (w:List Nat):Bool:=decide (∀k∈w,k<9)&&acn a (jD a s w)
theorem yk {s:Int} {w:List Nat} (hw: ∀k∈w,k<9):oF a s w=acn a (jD a s w):=by
 unfold oF;rw[decide_eq_true hw];rfl
theorem nS {s:Int} (h0:0<=s) {k:Nat} (hk:k<9) (w:List Nat):oF a s (k::w)=oF a (mv a s k) w:=by
 unfold oF
 have e:jD a s (k::w)=jD a (mv a s k) w:=by
  show jD a (mvn a s k) w=_
  unfold mvn;rw[if_neg (by omega)]
 rw[e]
 congr 1
 rw[decide_eq_decide]
 exact ⟨fun h j hj=>h j (bh _ hj),fun h j hj=>by
  rcases ax hj with rfl | hj
  ·exact hk
  ·exact h j hj⟩
theorem gE (V:VA a n) {s:Int} (h0:0<=s) (h1:s<n):nth (live a) s=true↔ ∃w,oF a s w=true:=by
 rw[Kf V h0 h1]
 constructor
 ·rintro ⟨w,hw,h⟩
  exact ⟨w,by rw[yk hw];exact h⟩
 ·rintro ⟨w,h⟩
  unfold oF at h
  rw[af,decide_eq_true_eq] at h
  exact ⟨w,h.1,h.2⟩
theorem ym {s:Int} (h:s<0) (w:List Nat):oF a s w=false:=by
 unfold oF acn
 rw[if_pos (tc a w s h),Bool.and_false]
theorem rH (V:VA a n): ∀(j:Nat) {s t:Int},0<=s->s<n->0<=t->t<n->nth (live a) s=true->oF a s=oF a t->nth (cI a j) s=nth (cI a j) t
 | 0,s,t,s0,s1,t0,t1,hl,h=>by
  have hlt:nth (live a) t=true:=by
   obtain ⟨w,hw⟩:=(gE V s0 s1).1 hl
   exact (gE V t0 t1).2 ⟨w,by rw[<-h];exact hw⟩
  have ha:nth a.2.1 s=nth a.2.1 t:=by
   have:=congrFun h []
   unfold oF at this
   have e1:acn a (jD a s [])=nth a.2.1 s:=by show acn a s=_;unfold acn;rw[if_neg (by omega)]
   have e2:acn a (jD a t [])=nth a.2.1 t:=by show acn a t=_;unfold acn;rw[if_neg (by omega)]
   rw[e1,e2] at this
   simpa using this
  have at0: ∀u:Int,0<=u->u<n->nth (cI a 0) u=if nth (live a) u=true then (if nth a.2.1 u=true then 1 else 0) else -1:=fun u u0 u1=>by
   show nth (CQ a) u=_
   unfold CQ
   have hlen:=V.len
   obtain ⟨m,rfl⟩: ∃m:Nat,u=(m:Int):=⟨u.toNat,by omega⟩
   rw[bN (by simp;omega)];simp
  rw[at0 s s0 s1,at0 t t0 t1,hl,hlt,ha]
 | j+1,s,t,s0,s1,t0,t1,hl,h=>by
  have hlen:=V.len
  have hlt:nth (live a) t=true:=by
   obtain ⟨w,hw⟩:=(gE V s0 s1).1 hl
   exact (gE V t0 t1).2 ⟨w,by rw[<-h];exact hw⟩
  have neg: ∀u:Int,0<=u->u<n->(nth (cI a j) u<0↔nth (live a) u=false)/\(nth (cI a j) u<0->nth (cI a j) u= -1):=fun u u0 u1=>by
   have:=u9 a (s:=u.toNat) (by omega) j
   rwa [show ((u.toNat:Nat):Int)=u by omega] at this
  have hs0: ¬nth (cI a j) s<0:=fun q=>by have:=(neg s s0 s1).1.1 q;rw[hl] at this;cases this
  have ht0: ¬nth (cI a j) t<0:=fun q=>by have:=(neg t t0 t1).1.1 q;rw[hlt] at this;cases this
  have hent: ∀k,k<9->ent a (cI a j) s k=ent a (cI a j) t k:=fun k hk=>by
   have hres:oF a (mv a s k)=oF a (mv a t k):=by
    funext w
    rw[<-nS s0 hk,<-nS t0 hk,h]
   have bs:=V.mv s0 s1 hk
   have bt:=V.mv t0 t1 hk
   have dead: ∀u:Int,-1<=u->u<n->(∀w,oF a u w=false)->(if u<0 then -1 else nth (cI a j) u)=(-1:Int):=fun u u0 u1 hw=>by
    split
    ·rfl
    ·refine (neg u (by omega) u1).2 ((neg u (by omega) u1).1.2 ?_)
     cases q:nth (live a) u with
     | false=>rfl
     | true =>
      obtain ⟨w,e⟩:=(gE V (by omega) u1).1 q
      rw[hw w] at e;cases e
   unfold ent
   by_cases hd: ∃w,oF a (mv a s k) w=true
   ·obtain ⟨w,hw⟩:=hd
    have p1:0<=mv a s k:=by
     rcases Int.lt_or_le (mv a s k) 0 with q | q
     ·rw[ym q] at hw;cases hw
     ·exact q
    have p2:0<=mv a t k:=by
     rcases Int.lt_or_le (mv a t k) 0 with q | q
     ·rw[hres,ym q] at hw;cases hw
     ·exact q
    rw[if_neg (by omega),if_neg (by omega)]
    exact rH V j p1 bs.2 p2 bt.2 ((gE V p1 bs.2).2 ⟨w,hw⟩) hres
   ·have d1: ∀w,oF a (mv a s k) w=false:=fun w=>by
     cases q:oF a (mv a s k) w with
     | false=>rfl
     | true=>exact absurd ⟨w,q⟩ hd
    rw[dead _ bs.1 bs.2 d1,dead _ bt.1 bt.2 fun w=>by rw[<-hres];exact d1 w]
  have hkey:vO a (cI a j) s.toNat=vO a (cI a j) t.toNat:=by
   unfold vO wN
   rw[show ((s.toNat:Nat):Int)=s by omega,show ((t.toNat:Nat):Int)=t by omega,if_neg hs0,if_neg ht0,rH V j s0 s1 t0 t1 hl h]
   congr 2
   exact List.map_congr_left fun k hk=>hent k (List.mem_range.1 hk)
  have e1:=rF (a:=a) (c:=cI a j) (s:=s.toNat) (by omega)
  have e2:=rF (a:=a) (c:=cI a j) (s:=t.toNat) (by omega)
  rw[show ((s.toNat:Nat):Int)=s by omega] at e1
  rw[show ((t.toNat:Nat):Int)=t by omega] at e2
  show nth (vq a (cI a j)) s=nth (vq a (cI a j)) t
  rw[e1,e2,hkey]
end
def LK:Type:=(List Nat->Bool) ⊕ Int
noncomputable instance:DecidableEq LK:=fun _ _=>Classical.propDecidable _
open Classical in
noncomputable def nyL:LK->List (Option LK)
 | .inl L=>(List.range 9).map fun k=>if h: ∃w,L (k::w)=true then some (.inl fun w=>L (k::w)) else none
 | .inr _=>[]
def acL:LK->Bool
 | .inl L=>L []
 | .inr _=>false
section
variable {a:AutT} {n:Nat}
theorem Quot.res {κ:Type} [DecidableEq κ] {nx:κ->List (Option κ)} {ac:κ->Bool} {f:Int->κ} {good inR:Int->Prop} (Q:Quot a nx ac f good inR) {s:Int} (hi:inR s) (hg:good s) {w:List Nat} (hw: ∀k∈w,k<9):acn a (jD a s w)=(match D.krun nx (some (f s)) w with | none=>false | some y=>ac y):=by
 rcases Q.krun w s hw hi hg with ⟨h1,h2⟩ | ⟨h1,h2,h3⟩
 ·rw[h2]
  show acn a (jD a s w)=ac (f (jD a s w))
  rw[Q.acc _ h1]
  unfold acn
  rw[if_neg (by have:=Q.pos _ h1;omega)]
 ·rw[h3];exact Q.bad _ h2 h1
theorem Aj (V:VA a n) {j:Nat} {nx:Int->List (Option Int)} {ac:Int->Bool} {N:Nat} (hnx: ∀r,good n (live a) r->nx (nth (cI a j) r)=lB a (cI a j) (live a) r) (hac: ∀r,good n (live a) r->ac (nth (cI a j) r)=nth a.2.1 r) (hs:nth (live a) a.1=true) (E:bfE nx (nth (cI a j) a.1) N) :
  bfE nyL (.inl (oF a a.1)) N/\(bfS nx (nth (cI a j) a.1) N).map ac=(bfS nyL (.inl (oF a a.1)) N).map acL/\bfR nx (nth (cI a j) a.1) N=bfR nyL (.inl (oF a a.1)) N:=by
 let G:Int->Prop:=fun x=> ∃r,good n (live a) r/\nth (cI a j) r=x
 let lang:Int->List Nat->Bool:=fun x w=>decide (∀k∈w,k<9)&&(match krun nx (some x) w with | none=>false | some y=>ac y)
 have Q:=wS V hnx hac
 have hl: ∀s,good n (live a) s->lang (nth (cI a j) s)=oF a s:=fun s h=>by
  funext w
  show (decide (∀k∈w,k<9)&&_)=(decide (∀k∈w,k<9)&&_)
  by_cases hw: ∀k∈w,k<9
  ·have e:=Q.res (s:=s) ⟨by have:=h.1;omega,h.2.1⟩ h hw
   rw[e]
   show _=(_&&_)
   generalize D.krun nx (some (nth (cI a j) s)) w=o
   cases o <;> rfl
  ·rw[decide_eq_false hw];rfl
 have dG: ∀x,Decidable (G x):=fun x=>Classical.propDecidable _
 let F:Int->LK:=fun x=>if G x then .inl (lang x) else .inr x
 have FG: ∀x,G x->F x= .inl (lang x):=fun x h=>if_pos h
 have FN: ∀x,¬G x->F x= .inr x:=fun x h=>if_neg h
 have inj: ∀x y,F x=F y->x=y:=fun x y h=>by
  by_cases hx:G x
  ·by_cases hy:G y
   ·rw[FG x hx,FG y hy] at h
    have h:=Sum.inl.inj h
    obtain ⟨s,hs,rfl⟩:=hx
    obtain ⟨t,ht,rfl⟩:=hy
    rw[hl s hs,hl t ht] at h
    exact rH V j hs.1 hs.2.1 ht.1 ht.2.1 hs.2.2 h
   ·rw[FG x hx,FN y hy] at h;cases h
  ·by_cases hy:G y
   ·rw[FN x hx,FG y hy] at h;cases h
   ·rw[FN x hx,FN y hy] at h;exact Sum.inr.inj h
 have hst:good n (live a) a.1:=⟨V.start.1,V.start.2,hs⟩
 have gn: ∀x,G x-> ∀y,some y∈nx x->G y:=by
  rintro x ⟨s,h,rfl⟩ y hy
  rw[hnx s h] at hy
  obtain ⟨k,hk,e⟩:=List.mem_map.1 hy
  split at e
  ·rename_i c
   exact ⟨mv a s k,⟨c.1,(V.mv h.1 h.2.1 (List.mem_range.1 hk)).2,c.2⟩,ae e⟩
  ·cases e
 have hn: ∀x,G x->nyL (F x)=(nx x).map (Option.map F):=by
  rintro x ⟨s,h,rfl⟩
  rw[FG _ ⟨s,h,rfl⟩,hl s h,hnx s h]
  have en:nyL (Sum.inl (oF a s))=(List.range 9).map fun k=> @dite (Option LK) (∃w,oF a s (k::w)=true) (Classical.propDecidable _) (fun _=>some (Sum.inl fun w=>oF a s (k::w))) (fun _=>none):=rfl
  refine en.trans ?_
  unfold lB
  rw[List.map_map]
  refine List.map_congr_left fun k hk=>?_
  have hk:=List.mem_range.1 hk
  have hb:=V.mv h.1 h.2.1 hk
  have hres:(fun w=>oF a s (k::w))=oF a (mv a s k):=by
   funext w;exact nS h.1 hk w
  by_cases c:0<=mv a s k/\nth (live a) (mv a s k)=true
  ·have hg:good n (live a) (mv a s k):=⟨c.1,hb.2,c.2⟩
   have hex: ∃w,oF a s (k::w)=true:=by
    obtain ⟨w,hw⟩:=(gE V c.1 hb.2).1 c.2
    exact ⟨w,by rw[nS h.1 hk];exact hw⟩
   rw[dif_pos hex,hres]
   show _=Option.map F (if _ then _ else _)
   rw[if_pos c]
   show _=some (F (nth (cI a j) (mv a s k)))
   rw[FG _ ⟨_,hg,rfl⟩,hl _ hg]
  ·have hex: ¬ ∃w,oF a s (k::w)=true:=by
    rintro ⟨w,hw⟩
    rw[nS h.1 hk] at hw
    have p:0<=mv a s k:=by
     rcases Int.lt_or_le (mv a s k) 0 with q | q
     ·rw[ym q] at hw;cases hw
     ·exact q
    exact c ⟨p,(gE V p hb.2).2 ⟨w,hw⟩⟩
   rw[dif_neg hex]
   show _=Option.map F (if _ then _ else _)
   rw[if_neg c];rfl
 have g0:G (nth (cI a j) a.1):=⟨a.1,hst,rfl⟩
 have e0:F (nth (cI a j) a.1)= .inl (oF a a.1):=by rw[FG _ g0,hl _ hst]
 have hS:=qP (first:=nth (cI a j) a.1) inj g0 gn hn N
 have hR:=CZ (first:=nth (cI a j) a.1) inj g0 gn hn N
 have hE:=Kg (first:=nth (cI a j) a.1) inj g0 gn hn E
 rw[e0] at hS hR hE
 refine ⟨hE,?_,hR.symm⟩
 rw[hS,List.map_map]
 refine List.map_congr_left fun x hx=>?_
 obtain ⟨s,h,rfl⟩:G x:=eW g0 gn N x hx
 show ac (nth (cI a j) s)=acL (F (nth (cI a j) s))
 rw[FG _ ⟨s,h,rfl⟩,hl s h,hac s h]
 show nth a.2.1 s=oF a s []
 rw[yk (fun k hk=>by cases hk)]
 show _=acn a s
 unfold acn
 rw[if_neg (by have:=h.1;omega)]
end
end D
namespace D
open Go.RowKit
theorem BH {w:List Nat} (hw: ∀k∈w,k<9):acw nothing w=false:=CY wP (by decide) hw
theorem HC {a r:AutT} {n:Nat} (V:VA a n) (h:PC a n r) {w:List Nat} (hw: ∀k∈w,k<9):acw r w=acw a w:=by
 rcases h with ⟨hs,rfl⟩ | ⟨hs,j,c,nx,ac,N,-,hnx,hac,hE,hl,rfl⟩
 ·rw[CY V hs hw,BH hw]
 ·exact Hy V hnx hac hs ⟨hE,rfl,rfl,rfl,hl⟩ hw
end D
namespace D
open Go.RowKit
section
variable {κ:Type} [DecidableEq κ] {nx:κ->List (Option κ)} {first:κ}
theorem vn: ∀(v w:List Nat) (x:Option κ),krun nx x (v++w)=krun nx (krun nx x v) w
 | [],w,x=>by cases x <;> rfl
 | k::v,w,none=>by rw[List.cons_append,nR,nR,nR]
 | k::v,w,some x=>vn v w (nth (nx x) (k:Int))
theorem oG (hl: ∀i,∀x∈bfS nx first i,(nx x).length=9): ∀i,∀y∈bfS nx first i,∃w:List Nat,(∀k∈w,k<9)/\krun nx (some first) w=some y
 | 0,y,h=>by
  obtain rfl:=ak h
  exact ⟨[],fun k hk=>(by cases hk),rfl⟩
 | i+1,y,h=>by
  rw[bfS] at h
  cases hx:(bfS nx first i)[i]? with
  | none=>rw[hx] at h;exact oG hl i y h
  | some x =>
   rw[hx] at h
   have h:y∈nbS (bfS nx first i) (nx x):=h
   rcases mC.1 h with q | q
   ·exact oG hl i y q
   ·have hxm:=List.mem_of_getElem? hx
    obtain ⟨w,hw,e⟩:=oG hl i x hxm
    obtain ⟨k,hk,ek⟩:=Bs q
    rw[hl i x hxm] at hk
    refine ⟨w++ [k],fun j hj=>?_,?_⟩
    ·rcases aD hj with q | q
     ·exact hw j q
     ·obtain rfl:=ak q;exact hk
    ·rw[vn,e];exact ek
end
section
variable {a r:AutT} {n m N:Nat}
end
end D
namespace D
open Go.RowKit
section
variable {κ:Type} [DecidableEq κ]
end
section
variable {nx:Int×Int->List (Option (Int×Int))} {first:Int×Int} {G:Int×Int->Prop} {B:Nat} {p1:Int×Int->Int->Option (Int×Int)} {p2:Int×Int->Option Bool} {tt:Int×Int->Bool}
end
end D
namespace D
open Go.RowKit
abbrev EntT:=Int×Int×Bool×Int×Int
def pr (z:EntT):Int×Int:=(z.1,z.2.1)
structure Ent (l:List EntT) (L:List (Int×Int)):Prop where
 map:l.map pr=L
 flat: ∀z∈l,z.2.2.1=false
 back: ∀j:Nat,0<j->j<l.length->0<=(nth l (j:Int)).2.2.2.1/\(nth l (j:Int)).2.2.2.1<j
theorem Ent.len {l:List EntT} {L:List (Int×Int)} (h:Ent l L):l.length=L.length:=by rw[<-h.map];simp
theorem Ent.at {l:List EntT} {L:List (Int×Int)} (h:Ent l L) {i:Nat} (hi:i<l.length):(nth l (i:Int)).1=(nth L (i:Int)).1/\(nth l (i:Int)).2.1=(nth L (i:Int)).2:=by
 rw[<-h.map,Ny (by omega) (by omega)];exact ⟨rfl,rfl⟩
theorem Ent.snoc {l:List EntT} {L:List (Int×Int)} (h:Ent l L) {x y:Int} {i:Nat} (hi:i<l.length) (k:Int):Ent (l++ [(x,y,false,(i:Int),k)]) (L++ [(x,y)]) where
 map:=by rw[aK,h.map];rfl
 flat z hz:=by
  rcases aD hz with hz | hz
  ·exact h.flat z hz
  ·obtain rfl:=ak hz;rfl
 back j h0 hj:=by
  by_cases c:j<l.length
  ·rw[fO (by omega) (by omega)];exact h.back j h0 c
  ·have:j=l.length:=by simp at hj;omega
   subst this
   have:nth (l++ [(x,y,false,(i:Int),k)]) (l.length:Int)=(x,y,false,(i:Int),k):=by rw[bN (by simp)];simp
   rw[this];exact ⟨by show (0:Int)<=(i:Int);omega,by show (i:Int)<(l.length:Int);omega⟩
theorem Kh {l:List EntT} {L:List (Int×Int)} (h:Ent l L) (hl:l.length<=1000000) (x y f k:Int):oo l (x,y,false,f,k)=some (decide ((x,y)∈L)):=by
 unfold oo
 have:=scan (f:=jI l (x,y,false,f,k)) l (fun z=> ¬pr z=(x,y)) true (by omega) (by
  intro i hi
  have hf:=h.flat _ (eH (i:=(i:Int)) (by omega) (by omega))
  unfold jI
  rw[if_pos (by simp;omega),aG (by omega) (by omega)];simp only[aa,aC (show i<9223372036854775807 by omega),hf]
  by_cases c1:(nth l (i:Int)).1=x
  ·by_cases c2:(nth l (i:Int)).2.1=y
   ·rw[if_pos (by simpa using c1),if_pos (by simpa using c2),if_pos (by rfl),if_neg (fun hc=>hc (Prod.ext c1 c2))]
   ·rw[if_pos (by simpa using c1),if_neg (by simpa using c2),if_pos (fun e=>c2 (congrArg Prod.snd e))]
  ·rw[if_neg (by simpa using c1),if_pos (fun e=>c1 (congrArg Prod.fst e))]) (by
  unfold jI
  rw[if_neg (by simp)])
 rcases this with ⟨e,hp⟩ | ⟨e,hp⟩
 ·rw[aE e,decide_eq_false]
  rintro hm
  rw[<-h.map] at hm
  obtain ⟨z,hz,e⟩:=List.mem_map.1 hm
  exact hp z hz e
 ·rw[dx e,decide_eq_true]
  by_cases c:(x,y)∈L
  ·exact c
  ·refine absurd (fun z hz e=>c ?_) hp
   rw[<-h.map,<-e];exact List.mem_map.2 ⟨z,hz,rfl⟩
theorem HD {l:List EntT} {L:List (Int×Int)} (h:Ent l L) (hl:l.length<=1000000) {i:Nat} (hi:i<l.length): ∃w,my l (i:Int)=some w:=by
 unfold my
 obtain ⟨o,e,s,rfl⟩:=cM (f:=lz l) (fun n s=>0<=s.1/\s.1+n<=i/\s.2.length<=n) (fun o=> ∃s,o= .brk s) i (s:=((i:Int),[])) (by
  rintro n ⟨j,w⟩ hn ⟨h0,h1,h2⟩
  simp only at h0 h1 h2
  unfold lz
  simp only
  by_cases c:j>0
  ·have hb:=h.back j.toNat (by omega) (by omega)
   rw[Int.toNat_of_nonneg h0] at hb
   left
   refine ⟨by omega,?_⟩
   rw[if_pos (by simpa using c),aG (by omega) (by omega)];simp only[aa]
   rw[aI (by simp;omega)];simp only[aa]
   refine ⟨_,rfl,hb.1,?_,?_⟩
   ·show (nth l j).2.2.2.1+((n+1:Nat):Int)<=i;omega
   ·simp;omega
  ·exact .inr ⟨_,by rw[if_neg (by simpa using c)],(fun s' e=>by cases e),_,rfl⟩) ⟨by show (0:Int)<=(i:Int);omega,by show (i:Int)+((0:Nat):Int)<=(i:Int);omega,by simp⟩ (m6 (by omega))
 exact ⟨_,aE e⟩
section
variable {a b:AutT} {n m:Nat}
def vP (a b:AutT) (x:Int×Int):Bool:=acn b x.2 && !acn a x.1
theorem BI (Va:VA a n) (Vb:VA b m) (hn:n<=12) (hm:m<=12) {l:List EntT} {L:List (Int×Int)} {i:Nat} (hE:Ent l L) (hd:L.Nodup) (hG: ∀x∈L,inP n m x) (hi:i<L.length) :
  ∃l',aF (fe a b (l,(i:Int))) br (l,0)=some (.brk (l',9))/\Ent l' (nbS L (nxP a b (nth L (i:Int)))):=by
 have hx:=hG _ (eH (i:=(i:Int)) (by omega) (by omega))
 have hos:(nxP a b (nth L (i:Int))).length=9:=by simp[nxP]
 have H:=qO Va Vb hn hm
 have hB: ∀k,(nbS L ((nxP a b (nth L (i:Int))).take k)).length<=169:=fun k=>H.bound _ (lY hd) fun x hx'=>by
  rcases mC.1 hx' with h | h
  ·exact hG x h
  ·exact H.gn _ hx x (List.mem_of_mem_take h)
 obtain ⟨s',e,l',rfl,hE'⟩:=jk (f:=fe a b (l,(i:Int))) (fun k s=> ∃l',s=(l',(k:Int))/\Ent l' (nbS L ((nxP a b (nth L (i:Int))).take k))) 9 (by
  rintro k s hk ⟨l1,rfl,hE1⟩
  have hpre:=g9 L ((nxP a b (nth L (i:Int))).take k)
  have hlen:=hpre.length_le
  have hBk:=hB k
  have hl1:=hE1.len
  obtain ⟨g1,g2⟩:=hE1.at (i:=i) (by omega)
  rw[gb hpre (by omega) (by omega)] at g1 g2
  unfold fe
  simp only[jj]
  rw[if_pos (by simp;omega),aG (by omega) (by omega)];simp only[aa]
  rw[g1,g2,PF Va hx.1.1 hx.1.2 hk];simp only[aa]
  rw[PF Vb hx.2.1 hx.2.2 hk];simp only[aa]
  rw[Kh hE1 (by omega)];simp only[aa,aC (show k<9223372036854775807 by omega)]
  rw[take_one (by omega),oA,Lk hk]
  by_cases c:(mvn a (nth L (i:Int)).1 k,mvn b (nth L (i:Int)).2 k)∈nbS L ((nxP a b (nth L (i:Int))).take k)
  ·rw[if_pos (by simpa using c),gQ c]
   exact ⟨_,rfl,l1,rfl,hE1⟩
  ·rw[if_neg (by simpa using c),gl c,aI (by simp;omega)]
   exact ⟨_,rfl,_,rfl,hE1.snoc (by omega) _⟩) (by
  rintro s ⟨l1,rfl,-⟩
  unfold fe
  simp) (s:=(l,0)) ⟨l,rfl,hE⟩ (by unfold br;omega)
 rw[List.take_of_length_le (by omega)] at hE'
 exact ⟨l',e,hE'⟩
theorem D7 (Va:VA a n) (Vb:VA b m) (hn:n<=12) (hm:m<=12) {x:Int×Int} (hx:inP n m x):NumOk (nxP a b) x (inP n m) 169 where
 g0:=hx
 gn:=(qO Va Vb hn hm).gn
 len:=(qO Va Vb hn hm).len
 bound:=(qO Va Vb hn hm).bound
theorem Ki (Va:VA a n) (Vb:VA b m) (hn:n<=12) (hm:m<=12) {s0 t0:Int} (h0:inP n m (s0,t0)): ∃N w,bfE (nxP a b) (s0,t0) N/\iy a s0 b t0 true=some (w,(bfS (nxP a b) (s0,t0) N).any (vP a b)):=by
 have H:=D7 Va Vb hn hm h0
 obtain ⟨N,hNB,hN⟩:=GP (nx:=nxP a b) (first:=(s0,t0)) (H.le)
 refine ⟨N,?_⟩
 unfold iy
 obtain ⟨o,e,ho⟩:=cM (f:=jq a b true) (fun i s=> ∃l,s=(l,(i:Int))/\Ent l (bfS (nxP a b) (s0,t0) i)/\((bfS (nxP a b) (s0,t0) i).take i).any (vP a b)=false)
  (fun o=>(∃w,o= .ret (w,true)/\(bfS (nxP a b) (s0,t0) N).any (vP a b)=true)\/ ∃s,o= .brk s/\(bfS (nxP a b) (s0,t0) N).any (vP a b)=false) N (s:=([(s0,t0,false,0,0)],0)) (by
  rintro i s hi ⟨l,rfl,hE,ha⟩
  have hl:=hE.len
  have hle:=H.le i
  unfold jq
  simp only[jj]
  by_cases hiN:i<N
  ·have hlt:=hN.2 i hiN
   have hG:=H.at hlt
   obtain ⟨g1,g2⟩:=hE.at (i:=i) (by omega)
   rw[if_pos (by simp;omega),aG (by omega) (by omega)];simp only[aa]
   rw[g1,g2,PG Va hG.1.1 hG.1.2];simp only[aa]
   rw[PG Vb hG.2.1 hG.2.2];simp only[aa]
   have hb: ∀r50 r49:Bool,(if r50 then (if r49 then (if r49 then (if r50 then some false else some (!true)) else some false) else some true) else (if r49 then (if r50 then some false else some (!true)) else some false):Option Bool)=some (r50 && !r49):=by decide
   rw[hb];simp only[aa]
   have hlp:(acn b (nth (bfS (nxP a b) (s0,t0) i) (i:Int)).2 && !acn a (nth (bfS (nxP a b) (s0,t0) i) (i:Int)).1)=vP a b (nth (bfS (nxP a b) (s0,t0) i) (i:Int)):=rfl
   rw[hlp]
   cases ht:vP a b (nth (bfS (nxP a b) (s0,t0) i) (i:Int)) with
   | true =>
    obtain ⟨w,hw⟩:=HD hE (by omega) (i:=i) (by omega)
    refine .inr ⟨_,by rw[if_pos rfl,hw];rfl,(fun s' e=>by cases e),.inl ⟨_,rfl,?_⟩⟩
    refine List.any_eq_true.2 ⟨_,?_,ht⟩
    exact (jT (nx:=nxP a b) (first:=(s0,t0)) (by omega:i<=N)).subset (eH (by omega) (by omega))
   | false =>
    left
    refine ⟨hiN,?_⟩
    obtain ⟨l',e,hE'⟩:=BI Va Vb hn hm hE (jl i) (eW H.g0 H.gn i) hlt
    rw[if_neg (by simp),aE e]
    rw[<-gD hlt] at hE'
    simp only[aC (show i<9223372036854775807 by omega)]
    refine ⟨_,rfl,l',rfl,hE',?_⟩
    have e:=qI (nx:=nxP a b) (first:=(s0,t0)) (acc:=vP a b) hlt
    have f: ∀l:List (Int×Int),l.any (vP a b)=(l.map (vP a b)).any id:=fun l=>by simp[List.any_map]
    rw[f,e,List.any_append,<-f,ha];simp[ht]
  ·obtain rfl:i=N:=by omega
   have hN1:=hN.1
   refine .inr ⟨_,by rw[if_neg (by simp;omega)],(fun s' e=>by cases e),.inr ⟨_,rfl,?_⟩⟩
   rw[List.take_of_length_le (by omega)] at ha;exact ha) ⟨_,rfl,⟨rfl,by simp,by intro j h0 h1;simp at h1;omega⟩,rfl⟩ (m6 (by omega))
 rcases ho with ⟨w,rfl,h⟩ | ⟨s,rfl,h⟩
 ·exact ⟨w,hN,by rw[dx e,h]⟩
 ·exact ⟨[],hN,by rw[aE e,h]⟩
end
end D
namespace D
open Go.RowKit
theorem NV {a b:AutT} {N:Nat} (hE:bfE (nxP a b) (a.1,b.1) N) {w:List Nat} (hw: ∀k∈w,k<9):(jD a a.1 w,jD b b.1 w)∈bfS (nxP a b) (a.1,b.1) N:=by
 have H:NumA (0,(bfS (nxP a b) (a.1,b.1) N).map (fun _=>true),bfR (nxP a b) (a.1,b.1) N) (nxP a b) (a.1,b.1) (fun _=>true) N:=⟨hE,rfl,rfl,rfl,fun x _=>by simp[nxP]⟩
 have hf:(a.1,b.1)∈bfS (nxP a b) (a.1,b.1) N:=List.mem_of_getElem? (nO N)
 have hp:=vj (a:=a) (b:=b) w a.1 b.1 hw
 rcases H.run w _ hw hf with ⟨h1,-⟩ | ⟨y,hy,h1,-⟩
 ·rw[hp] at h1;cases h1
 ·rw[hp] at h1
  rw[ae h1];exact hy
theorem HE {a b:AutT} {N:Nat} {x:Int×Int} (hx:x∈bfS (nxP a b) (a.1,b.1) N): ∃w:List Nat,(∀k∈w,k<9)/\x=(jD a a.1 w,jD b b.1 w):=by
 obtain ⟨w,hw,h⟩:=oG (nx:=nxP a b) (first:=(a.1,b.1)) (fun i y _=>by simp[nxP]) N x hx
 rw[vj w a.1 b.1 hw] at h
 exact ⟨w,hw,(ae h).symm⟩
theorem Kj {a b:AutT} {N:Nat} (hE:bfE (nxP a b) (a.1,b.1) N):(bfS (nxP a b) (a.1,b.1) N).any (vP a b)=false↔ ∀w:List Nat,(∀k∈w,k<9)->acw b w=true->acw a w=true:=by
 rw[List.any_eq_false]
 constructor
 ·intro h w hw hb
  have h1:=h _ (NV hE hw)
  have h2: ¬(acw b w && !acw a w)=true:=h1
  cases ha:acw a w with
  | true=>rfl
  | false=>rw[hb,ha] at h2;exact absurd rfl h2
 ·intro h x hx
  obtain ⟨w,hw,rfl⟩:=HE hx
  show¬(acw b w && !acw a w)=true
  intro hc
  rw[af] at hc
  rw[h w hw hc.1] at hc
  cases hc.2
theorem D8 {a b:AutT} {n m:Nat} (Va:VA a n) (Vb:VA b m) (hn:n<=12) (hm:m<=12): ∃w r,iy a a.1 b b.1 true=some (w,r)/\(r=false↔ ∀w:List Nat,(∀k∈w,k<9)->acw b w=true->acw a w=true):=by
 have h1:=Va.start
 have h2:=Vb.start
 obtain ⟨N,w,hE,hd⟩:=Ki Va Vb hn hm (s0:=a.1) (t0:=b.1) ⟨⟨by omega,h1.2⟩,by show -1<=b.1;omega,h2.2⟩
 exact ⟨w,_,hd,Kj hE⟩
end D
set_option synthInstance.maxSize 20000
set_option synthInstance.maxHeartbeats 2000000
namespace D
open Go.RowKit
theorem HF {a b r t:AutT} {n m:Nat} (Va:VA a n) (Vb:VA b m) (ha:PC a n r) (hb:PC b m t) (he: ∀w:List Nat,(∀k∈w,k<9)->acw r w=acw t w):r=t:=by
 have hres:oF a a.1=oF b b.1:=by
  funext w
  by_cases hw: ∀k∈w,k<9
  ·rw[yk hw,yk hw]
   have h1:=HC Va ha hw
   have h2:=HC Vb hb hw
   have h3:=he w hw
   rw[h1,h2] at h3
   exact h3
  ·unfold oF
   rw[decide_eq_false hw];rfl
 have la:=gE Va Va.start.1 Va.start.2
 have lb:=gE Vb Vb.start.1 Vb.start.2
 rw[hres] at la
 have hl:nth (live a) a.1=true↔nth (live b) b.1=true:=la.trans lb.symm
 rcases ha with ⟨hs,rfl⟩ | ⟨hs,j,c,nx,ac,N,rfl,hnx,hac,hE,-,rfl⟩
 ·rcases hb with ⟨-,rfl⟩ | ⟨ht,-⟩
  ·rfl
  ·rw[hl.2 ht] at hs;cases hs
 ·rcases hb with ⟨ht,-⟩ | ⟨ht,j',c',nx',ac',N',rfl,hnx',hac',hE',-,rfl⟩
  ·rw[hl.1 hs] at ht;cases ht
  ·obtain ⟨f1,f2,f3⟩:=Aj Va hnx hac hs hE
   obtain ⟨g1,g2,g3⟩:=Aj Vb hnx' hac' ht hE'
   rw[hres] at f1 f2 f3
   obtain rfl:=CH f1 g1
   rw[f2,f3,g2,g3]
theorem sw {e:List Tok} (he:e.length<=1048576) {r:AutT} (h:m_s_CompileExpr e=some (r,true)):VA r r.2.1.length/\r.2.1.length<=12/\ ∃(a:AutT) (n:Nat),VA a n/\PC a n r:=by
 obtain ⟨⟨p,b⟩,e1,e2,h1,h2⟩:=kG he
 have h1:p.2.2.2.1.length=p.1.length:=h1
 have h2:p.1.length<=100000:=h2
 unfold m_s_CompileExpr at h
 rw[e1] at h;simp only[aa,jj] at h
 cases b with
 | false=>simp at h
 | true =>
  have d1:=NI (p:=p) (most:=200) h1 (by omega) (by omega) (by omega)
  have d1:cq p 200=_:=d1
  rw[d1] at h;simp only[if_true,aa] at h
  rcases yh (nx:=nxS p) (first:=1) (acc:=mF p) (most:=200) (200+2) 0 (fun j hj=>by omega) (by simp[bfS]) with e | ⟨N,hN,hNm,e⟩
  ·rw[e] at h;simp at h
  ·rw[e] at h;simp only[if_true] at h
   have V:=BD (acc:=mF p) (rE p) hN
   obtain ⟨q,es,ei,hr,hv,-,hf⟩:=wQ V (by omega)
   rw[es] at h;simp only[aa,jj] at h
   by_cases c:(q.2.1.length:Int)>12
   ·have c':decide ((q.2.1.length:Int)>12)=true:=decide_eq_true c
    simp[c'] at h
   ·have c':decide ((q.2.1.length:Int)>12)=false:=decide_eq_false c
    simp only[c',Bool.false_eq_true,if_false,aa,Option.some.injEq,Prod.mk.injEq,and_true] at h
    have h:q=r:=by first | exact h | (obtain ⟨k1,k2,k3⟩:=h;exact Prod.ext k1 (Prod.ext k2 k3))
    subst h
    exact ⟨hv,by omega,_,_,V,hf⟩
theorem HG {a:AutT} (sa:Data.sm a) (V:VA a a.2.1.length) (h:a.2.1.length<=12):bQ a=some true:=by
 have h2:=(gP sa.2.2).1
 obtain ⟨b,e,k⟩:=NS a (by omega) (by omega)
 rw[e,k.2 ⟨h,V⟩]
theorem Lm {a b:AutT} (sa:Data.sm a) (sb:Data.sm b) (Va:VA a a.2.1.length) (Vb:VA b b.2.1.length) (ha:a.2.1.length<=12) (hb:b.2.1.length<=12): ∃c,da a b=some c/\(c=true↔ ∀w:List Nat,(∀k∈w,k<9)->acw b w=true->acw a w=true):=by
 obtain ⟨w,r,e,k⟩:=D8 Va Vb ha hb
 unfold da kj
 simp only[jj,HG sa Va ha,HG sb Vb hb,aa,if_true,e]
 refine ⟨_,rfl,?_⟩
 rw[<-k]
 cases r <;> simp
theorem PK {qs:List QT} {A:List AutT} {Q:List QT} {n:Nat} (hB:BIn qs n A Q) {i k:Nat} (hi:i<A.length) (hk:k<i):eF A[i] A[k] =some false:=by
 have hne:A[i] ≠A[k]:=fun h=>by
  have:=(List.getElem_inj hB.nd).1 h
  omega
 have si:=hB.sm _ (List.getElem_mem hi)
 have sk:=hB.sm _ (List.getElem_mem (show k<A.length by omega))
 obtain ⟨ei,hei,ci⟩:=hB.cmp _ (List.getElem_mem hi)
 obtain ⟨ek,hek,ck⟩:=hB.cmp _ (List.getElem_mem (show k<A.length by omega))
 obtain ⟨vi,li,a,n1,Va,Ma⟩:=sw hei ci
 obtain ⟨vk,lk,b,n2,Vb,Mb⟩:=sw hek ck
 obtain ⟨c1,e1,k1⟩:=Lm si sk vi vk li lk
 obtain ⟨c2,e2,k2⟩:=Lm sk si vk vi lk li
 unfold eF
 simp only[jj,e1,aa]
 cases c1 with
 | false=>rfl
 | true =>
  simp only[if_true,e2,aa]
  cases c2 with
  | false=>rfl
  | true =>
   exfalso
   refine hne (HF Va Vb Ma Mb fun w hw=>?_)
   have h1:=k1.1 rfl w hw
   have h2:=k2.1 rfl w hw
   cases ha:acw A[i] w with
   | true=>exact (h2 ha).symm
   | false =>
    cases hb:acw A[k] w with
    | false=>rfl
    | true=>rw[h1 hb] at ha;cases ha
end D
namespace D
open Go.RowKit
theorem C1 (x:Int):0<=pB x 255/\pB x 255<=255:=by
 have h:(BitVec.ofInt 64 x &&& BitVec.ofInt 64 255).toNat<=255:=by
  rw[BitVec.toNat_and]
  exact Nat.le_trans Nat.and_le_right (by decide)
 unfold pB
 rw[dY (by omega) (by omega)]
 omega
def mL (xs:List Int) (i:Int):Prop:=0<=i/\i<=(xs.length:Int)
section
variable {xs:List Int} {i h:Int}
theorem QQ (hl:xs.length<=1048576): ∃r:Int×Int,qg xs=some r/\mL xs r.1:=by
 have key: ∃s,aF (kP xs) br (IntKind.i64.wrap (10101+(xs.length:Int)),0)=some (.brk s):=by
  obtain ⟨o,e,s,rfl⟩:=cM (f:=kP xs) (fun j s=>s.2=(j:Int)) (fun o=> ∃s,o= .brk s) xs.length (fun j s hj hb=>by
   obtain ⟨a,b⟩:=s
   obtain rfl:b=(j:Int):=hb
   unfold kP
   simp only
   rw[Nx]
   by_cases c0:j<xs.length
   ·rw[if_pos (by simpa using c0)]
    by_cases c:((j:Nat):Int)<4000
    ·rw[if_pos (by simpa using c),aG (by omega) (by omega)];simp only[aa]
     exact .inl ⟨c0,_,rfl,by show IntKind.i64.wrap ((j:Int)+1)=_;rw[dY (by omega) (by omega)];omega⟩
    ·rw[if_neg (by simpa using c)]
     exact .inr ⟨_,rfl,(fun s' e=>by cases e),_,rfl⟩
   ·rw[if_neg (by simpa using c0)]
    exact .inr ⟨_,rfl,(fun s' e=>by cases e),_,rfl⟩) (s:=(IntKind.i64.wrap (10101+(xs.length:Int)),0)) rfl (m6 (by omega))
  exact ⟨s,e⟩
 obtain ⟨s,hs⟩:=key
 unfold qg
 rw[aE hs]
 exact ⟨_,rfl,by show (0:Int)<=0;omega,by show (0:Int)<=_;omega⟩
theorem Ak (hl:xs.length<=1048576) (hc:mL xs i): ∃r:Int×Int×Int,gT (xs,i,h)=some r/\(0<=r.1/\r.1<=255)/\mL xs r.2.1:=by
 unfold gT
 simp only
 by_cases c:i<(xs.length:Int)
 ·rw[if_pos (by simpa using c),aG hc.1 c];simp only[aa]
  refine ⟨_,rfl,C1 _,?_⟩
  show mL xs (IntKind.i64.wrap (i+1))
  have:=hc.1
  rw[dY (by omega) (by omega)]
  exact ⟨by omega,by omega⟩
 ·rw[if_neg (by simpa using c)];simp only[aa]
  exact ⟨_,rfl,C1 _,hc⟩
theorem eY (hl:xs.length<=1048576) (hc:mL xs i) {n:Int} (hn:0<n): ∃r:Int×Int×Int,bm (xs,i,h) n=some r/\(0<=r.1/\r.1<n)/\mL xs r.2.1:=by
 unfold bm
 simp only
 rw[if_neg (by simpa using hn)]
 have hck:chk (n≠0)=some ():=by unfold chk;rw[if_pos (by omega)]
 by_cases c:n<=256
 ·rw[if_pos (by simpa using c)]
  obtain ⟨r,e,h1,h2⟩:=Ak (h:=h) hl hc
  rw[e,hck];simp only[aa]
  exact ⟨_,rfl,⟨Int.tmod_nonneg _ h1.1,Int.tmod_lt_of_pos _ hn⟩,h2⟩
 ·rw[if_neg (by simpa using c)]
  obtain ⟨r1,e1,h1,k1⟩:=Ak (h:=h) hl hc
  rw[e1];simp only[aa]
  obtain ⟨r2,e2,h2,k2⟩:=Ak (h:=r1.2.2) hl k1
  rw[e2];simp only[aa]
  obtain ⟨r3,e3,h3,k3⟩:=Ak (h:=r2.2.2) hl k2
  rw[e3];simp only[aa]
  obtain ⟨r4,e4,h4,k4⟩:=Ak (h:=r3.2.2) hl k3
  rw[e4,hck];simp only[aa]
  have w1:IntKind.i64.wrap (r1.1*16777216)=r1.1*16777216:=dY (by omega) (by omega)
  have w2:IntKind.i64.wrap (r2.1*65536)=r2.1*65536:=dY (by omega) (by omega)
  have w3:IntKind.i64.wrap (r3.1*256)=r3.1*256:=dY (by omega) (by omega)
  have w4:IntKind.i64.wrap (r1.1*16777216+r2.1*65536)=r1.1*16777216+r2.1*65536:=dY (by omega) (by omega)
  have w5:IntKind.i64.wrap (r1.1*16777216+r2.1*65536+r3.1*256)=r1.1*16777216+r2.1*65536+r3.1*256:=dY (by omega) (by omega)
  have w6:IntKind.i64.wrap (r1.1*16777216+r2.1*65536+r3.1*256+r4.1)=r1.1*16777216+r2.1*65536+r3.1*256+r4.1:=dY (by omega) (by omega)
  rw[w1,w2,w3,w4,w5,w6]
  exact ⟨_,rfl,⟨Int.tmod_nonneg _ (by omega),Int.tmod_lt_of_pos _ hn⟩,k4⟩
theorem wT (hl:xs.length<=1048576) (hc:mL xs i) {n:Int} (hn:0<n): ∃r:Bool×Int×Int,fX (xs,i,h) n=some r/\mL xs r.2.1:=by
 obtain ⟨r,e,-,k⟩:=eY (h:=h) hl hc hn
 unfold fX
 simp only
 rw[e]
 exact ⟨_,rfl,k⟩
theorem qQ (hl:xs.length<=1048576) (hc:mL xs i) {l:List Int} (h0:l≠ []): ∃r:Int×Int×Int,eN (xs,i,h) l=some r/\r.1∈l/\mL xs r.2.1:=by
 have hp:0<(l.length:Int):=by have:=List.length_pos_iff.2 h0;omega
 obtain ⟨r,e,h1,k⟩:=eY (h:=h) hl hc hp
 unfold eN
 simp only
 rw[e];simp only[aa]
 rw[aG h1.1 h1.2];simp only[aa]
 exact ⟨_,rfl,eH h1.1 h1.2,k⟩
theorem PL (hl:xs.length<=1048576) (hc:mL xs i) {l:List ByteArray} (h0:l≠ []): ∃r:ByteArray×Int×Int,oh (xs,i,h) l=some r/\r.1∈l/\mL xs r.2.1:=by
 have hp:0<(l.length:Int):=by have:=List.length_pos_iff.2 h0;omega
 obtain ⟨r,e,h1,k⟩:=eY (h:=h) hl hc hp
 unfold oh
 simp only
 rw[e];simp only[aa]
 rw[aG h1.1 h1.2];simp only[aa]
 exact ⟨_,rfl,eH h1.1 h1.2,k⟩
end
end D
namespace D
open Go.RowKit
def Rj (x:Tr Tok):Prop:= ∀(n:Nat) (p:wL),(flat x).length<=n->p.2.2.2.1.length=p.1.length->p.1.length+(flat x).length<=100000->
 ∃(nu:Bool) (fi la:Int) (q:wL),bT n p (flat x)=some ((nu,fi,la),q)/\q.2.2.2.1.length=q.1.length/\q.1.length<=p.1.length+(flat x).length
theorem Kk {x:Tr Tok} (h:WT x):Rj x:=by
 refine WT.ind (p:=Rj) ?_ ?_ ?_ h
 ·intro t e n p hn hF hl
  rw[uU] at hn hl⊢
  simp only[au,ay] at hl
  match n,hn with
  | n+1,_ =>
   rw[bT]
   have:=(gJ (A:=[]) (t:=t) (by simp)).1
   rw[List.nil_append] at this
   rw[this];simp only[aa,jj]
   rcases iQ (show 0<=ar t by omega) with ⟨k,_⟩ | ⟨k,_⟩ | ⟨_,k⟩
   ·omega
   ·omega
   rcases k with k | k | k
   ·exact ⟨false,0,0,p,by simp[k],hF,by simp⟩
   ·exact ⟨true,0,0,p,by simp[k],hF,by simp⟩
   ·refine ⟨false,An 1 (p.1.length:Int),An 1 (p.1.length:Int),(p.1++ [t.2.1],p.2.1,p.2.2.1,p.2.2.2.1++ [0],p.2.2.2.2),?_,by simp[hF],by simp⟩
    rw[if_neg (by simp[k]),if_pos (by simp[k]),aI (by simp;omega)];simp only[aa]
    rw[aI (by simp;omega)];rfl
 ·intro t a e wa ih n p hn hF hl
  rw[vN] at hn hl⊢
  simp only[ah,au,ay] at hn hl
  match n,hn with
  | n+1,hn =>
   rw[bT];simp only[jj]
   obtain ⟨l1,l2⟩:=gJ (A:=flat a) (t:=t) (by omega)
   rw[l1];simp only[aa]
   obtain ⟨nu,fi,la,q,hs,hq1,hq2⟩:=ih n p (by omega) hF (by omega)
   rcases GU e with ⟨k1,k2⟩ | ⟨k1,k2,k3⟩
   ·have g2:(t.1==2)=false:=by simp[k2]
    have g3:(t.1==3)=false:=by simp[k2]
    have g4:(t.1==4)=false:=by simp[k2]
    have g5:(t.1==5)=false:=by simp[k2]
    simp only[g2,g3,g4,g5,k1,Bool.false_eq_true,if_false,if_true]
    rw[l2,Int.toNat_natCast,List.take_left,chk_of (by simp only[ah,au,ay];omega)];simp only[aa]
    rw[hs];simp only[aa,jj]
    rw[CO (by omega)];simp only[aa]
    refine ⟨true,fi,la,_,rfl,?_,?_⟩
    ·simp only[qJ];exact hq1
    ·simp only[ah,au,ay];omega
   ·have g2:(t.1==2)=false:=by simp[k3]
    have g3:(t.1==3)=false:=by simp[k3]
    have g4:(t.1==4)=false:=by simp[k3]
    have g5:(t.1==5)=false:=by simp[k3]
    simp only[g2,g3,g4,g5,k1,Bool.false_eq_true,if_false]
    exact ⟨false,0,0,p,rfl,hF,by omega⟩
 ·intro t a b e wa wb iha ihb n p hn hF hl
  rw[oL] at hn hl⊢
  have hl2:((flat a++flat b)++ [t]).length<=1000000:=by omega
  obtain ⟨p1,p2,p3,p4⟩:=qF (a:=a) (t:=t) wb hl2
  simp only[ah,au,ay] at hn hl
  match n,hn with
  | n+1,hn =>
   have hpa:=wa.pos
   have hpb:=wb.pos
   rw[bT];simp only[jj]
   obtain ⟨l1,l2⟩:=gJ (A:=flat a++flat b) (t:=t) (by rw[ah];omega)
   rw[l1];simp only[aa]
   obtain ⟨nu,fi,la,q,hs,hq1,hq2⟩:=iha n p (by omega) hF (by omega)
   obtain ⟨nu2,fi2,la2,q2,hs2,hq3,hq4⟩:=ihb n q (by omega) hq1 (by omega)
   rcases iQ (show 0<=ar t by omega) with ⟨_,k⟩ | ⟨k,_⟩ | ⟨k,_⟩
   ·rcases k with k | k
    ·have g2:(t.1==2)=false:=by simp[k]
     have g3:(t.1==3)=false:=by simp[k]
     have g4:(t.1==4)=true:=by simp[k]
     have g5:(t.1==5)=false:=by simp[k]
     simp only[g2,g3,g4,g5,Bool.false_eq_true,if_false,if_true]
     rw[l2,p1,p2,chk_of (by simp only[ah,au,ay];omega)];simp only[aa]
     rw[chk_of (by simp only[ah,au,ay];omega),p3,p4,hs];simp only[aa]
     rw[chk_of (by simp only[ah,au,ay];omega)];simp only[aa,jj]
     rw[hs2];simp only[aa,jj]
     rw[CO (by omega)];simp only[aa]
     refine ⟨nu&&nu2,if nu then orI fi fi2 else fi,if nu2 then orI la la2 else la2,(q2.1,q2.2.1,q2.2.2.1,lk q2.2.2.2.1 la fi2 q2.2.2.2.1.length,q2.2.2.2.2),?_,?_,?_⟩
     ·cases nu <;> cases nu2 <;> rfl
     ·simp only[qJ];exact hq3
     ·simp only[ah,au,ay];omega
    ·have g2:(t.1==2)=false:=by simp[k]
     have g3:(t.1==3)=false:=by simp[k]
     have g4:(t.1==4)=false:=by simp[k]
     have g5:(t.1==5)=true:=by simp[k]
     simp only[g2,g3,g4,g5,Bool.false_eq_true,if_false,if_true]
     rw[l2,p1,p2,chk_of (by simp only[ah,au,ay];omega)];simp only[aa]
     rw[chk_of (by simp only[ah,au,ay];omega),p3,p4,hs];simp only[aa]
     rw[chk_of (by simp only[ah,au,ay];omega)];simp only[aa,jj]
     rw[hs2];simp only[aa,jj]
     refine ⟨nu || nu2,orI fi fi2,orI la la2,q2,?_,hq3,?_⟩
     ·cases nu <;> simp
     ·simp only[ah,au,ay];omega
   ·omega
   ·omega
theorem HH {e:List Tok} (he:e.length<=1048576):fh e=some (vp e):=by
 have hF:=kE
 unfold fh vp
 rw[uW he];simp only[aa]
 by_cases c:(decide (e.length<=24)&&isX e)=true
 ·rw[if_pos c,if_pos c]
  rw[af] at c
  obtain ⟨x,h1,hw,rfl⟩:=CI c.2
  have h24:(flat x).length<=24:=by simpa using c.1
  have hr:=dy hw
  rw[oD hw,K8 hw dE (by omega) (by omega)];simp only[aa]
  by_cases c2:5000<szX x
  ·simp only[gt_iff_lt,c2,decide_true,if_true]
  ·simp only[gt_iff_lt,c2,decide_false,if_false,Bool.false_eq_true]
   have hl:=uX hw (by omega)
   rw[CJ hw dE (by omega) (by omega) (by omega)];simp only[aa]
   by_cases c3:400<(flat (mD x)).length
   ·have c3':decide (((flat (mD x)).length:Int)>400)=true:=decide_eq_true (by omega)
    simp only[c3',c3,if_true]
   ·have c3':decide (((flat (mD x)).length:Int)>400)=false:=decide_eq_false (by omega)
    simp only[c3',c3,if_false,Bool.false_eq_true]
 ·rw[if_neg c,if_neg c]
theorem BJ {e:List Tok} (he:e.length<=1048576): ∃r:wL×Bool,ct e=some r/\r.1.2.2.2.1.length=r.1.1.length/\r.1.1.length<=400:=by
 have hF:=kE
 unfold ct
 rw[HH he];simp only[aa]
 by_cases c:(vp e).2=true
 ·obtain ⟨y,wy,ey,ly⟩:=GY c
  rw[if_pos c,aE (Pt (by rw[ey];omega))]
  simp only
  by_cases d:(yo (vp e).1 (vp e).1.length:Int)>20
  ·have d':decide ((yo (vp e).1 (vp e).1.length:Int)>20)=true:=decide_eq_true d
   simp only[d',if_true]
   exact ⟨_,rfl,rfl,by simp⟩
  ·have d':decide ((yo (vp e).1 (vp e).1.length:Int)>20)=false:=decide_eq_false d
   simp only[d',Bool.false_eq_true,if_false]
   rw[ey]
   obtain ⟨nu,fi,la,q,hs,hq1,hq2⟩:=Kk wy dE ([],0,0,[],false) (by omega) rfl (by simp;omega)
   rw[hs];simp only[aa]
   exact ⟨_,rfl,hq1,by simp at hq2;show q.1.length<=_;omega⟩
 ·rw[if_neg c]
  exact ⟨_,rfl,rfl,by simp⟩
theorem HI {p:wL} (h1:p.2.2.2.1.length=p.1.length) (h2:p.1.length<=100000): ∃r:AutT×Bool,cq p 12=some r/\(r.2=true-> ∃N,N<=12/\bfE (nxS p) 1 N/\r.1=(0,(bfS (nxS p) 1 N).map (mF p),bfR (nxS p) 1 N)/\VA r.1 N):=by
 have d1:=NI (p:=p) (most:=12) h1 (by omega) (by omega) (by omega)
 have d1:cq p 12=_:=d1
 rw[d1]
 rcases yh (nx:=nxS p) (first:=1) (acc:=mF p) (most:=12) (12+2) 0 (fun j hj=>by omega) (by simp[bfS]) with e | ⟨N,hN,hNm,e⟩
 ·exact ⟨_,rfl,fun h=>by rw[e] at h;cases h⟩
 ·rw[e]
  have V:=BD (acc:=mF p) (rE p) hN
  exact ⟨_,rfl,fun _=>⟨N,hNm,hN,rfl,V⟩⟩
end D
namespace D
open Go.RowKit
def C2:List ByteArray:=[⟨#[97]⟩,⟨#[97,32,98,32,46]⟩,⟨#[97,32,42]⟩,⟨#[97,32,98,32,124,32,42]⟩,⟨#[97,32,97,45,32,46]⟩,⟨#[97,32,42,32,98,32,46]⟩,⟨#[97,32,98,32,42,32,46,32,99,32,46]⟩,⟨#[97,32,97,32,124,32,42]⟩,⟨#[97,32,98,32,46,32,42]⟩,⟨#[48,32,97,32,46,32,42]⟩,⟨#[97,32,49,32,46,32,98,32,46]⟩,⟨#[97,32,123,48,44,50,125]⟩,⟨#[97,32,98,32,124,32,123,49,44,51,125]⟩,⟨#[40,41]⟩,⟨#[33]⟩,⟨#[97,45,32,42,32,97,32,46]⟩,⟨#[97,32,98,45,32,46,32,42,32,99,32,124]⟩,⟨#[97,32,42,32,97,32,42,32,46]⟩,⟨#[97,32,48,32,124,32,42,32,98,32,46]⟩,⟨#[97,32,97,32,46,32,42]⟩,⟨#[97,32,98,32,46,32,98,32,97,32,46,32,124,32,42]⟩]
def HJ (t:ByteArray):Bool:=match fW t with
 | some r=>r.2&&Nat.ble 1 r.1.length&&Nat.ble r.1.length 24
 | none=>false
theorem HK:C2.all HJ=true:=by kernel_rfl
theorem Kl {t:ByteArray} (h:t∈C2): ∃r:List Tok×Bool,fW t=some r/\r.2=true/\1<=r.1.length/\r.1.length<=24:=by
 have h1:HJ t=true:=List.all_eq_true.1 HK t h
 unfold HJ at h1
 split at h1
 ·rename_i r hr
  rw[af,af] at h1
  exact ⟨r,hr,h1.1.1,bO h1.1.2,bO h1.2⟩
 ·cases h1
section
variable {xs:List Int} {i h:Int}
theorem HL (hl:xs.length<=1048576) (hc:mL xs i): ∃r:List Tok×Int×Int,kd (xs,i,h)=some r/\(1<=r.1.length/\r.1.length<=24)/\mL xs r.2.1:=by
 obtain ⟨r,e,h1,k⟩:=PL (h:=h) hl hc (l:=C2) (by unfold C2;simp)
 obtain ⟨q,e2,-,h2⟩:=Kl h1
 unfold kd
 have hb:=congrArg (fun o:Option (ByteArray×Int×Int)=>Option.bind o (fun r0:ByteArray×Int×Int=>(fW r0.1).bind fun r1=>some (r1.1,r0.2.1,r0.2.2))) e
 refine ⟨(q.1,r.2.1,r.2.2),hb.trans ?_,h2,k⟩
 show (fW r.1).bind _=_
 rw[e2];rfl
theorem Al (hl:xs.length<=1048576): ∀(d n:Nat) (i h:Int),d<n->d<=3->mL xs i-> ∃r:List Tok×Int×Int,cX n (xs,i,h) (d:Int)=some r/\(1<=r.1.length/\r.1.length+1<=2 ^ (d+1))/\mL xs r.2.1
 | 0,n+1,i,h,_,_,hc=>by
  rw[cX];simp only
  rw[if_pos (by decide)]
  obtain ⟨r,e,k⟩:=wT (h:=h) hl hc (n:=12) (by omega)
  rw[e];simp only[aa]
  by_cases c:r.1=true
  ·rw[if_pos c]
   obtain ⟨q,e2,-,k2⟩:=qQ (h:=r.2.2) hl k (l:=[1,2]) (by simp)
   rw[e2];simp only[aa]
   exact ⟨_,rfl,⟨aB _,aB _⟩,k2⟩
  ·rw[if_neg c]
   obtain ⟨q,e2,-,k2⟩:=qQ (h:=r.2.2) hl k (l:=[0,0,2,2,1,4,3,6,7]) (by simp)
   rw[e2];simp only[aa]
   exact ⟨_,rfl,⟨aB _,aB _⟩,k2⟩
 | d+1,n+1,i,h,hd,h3,hc=>by
  have hp:2 ^ (d+1+1)=2*2 ^ (d+1):=by rw[Nat.pow_succ,Nat.mul_comm]
  have hb:2 ^ (d+1)<=8:=by
   have:d<=2:=by omega
   match d,this with
   | 0,_=>decide
   | 1,_=>decide
   | 2,_=>decide
  rw[cX];simp only
  rw[if_neg (by simp;omega)]
  have hw:IntKind.i64.wrap (((d+1:Nat):Int) - 1)=(d:Int):=by rw[dY (by omega) (by omega)];omega
  rw[hw]
  obtain ⟨r,e,-,k⟩:=eY (h:=h) hl hc (n:=6) (by omega)
  rw[e];simp only[aa]
  have two: ∀(t:Tok) (i h:Int),mL xs i-> ∃r:List Tok×Int×Int,((cX n (xs,i,h) (d:Int)).bind fun r7=>(cX n (xs,r7.2.1,r7.2.2) (d:Int)).bind fun r8=>(dh r7.1 r8.1 t).bind fun r9=>some (r9,r8.2.1,r8.2.2))=some r/\(1<=r.1.length/\r.1.length+1<=2 ^ (d+1+1))/\mL xs r.2.1:=fun t i h hc=>by
   obtain ⟨r7,e7,h7,k7⟩:=Al hl d n i h (by omega) (by omega) hc
   rw[e7];simp only[aa]
   obtain ⟨r8,e8,h8,k8⟩:=Al hl d n r7.2.1 r7.2.2 (by omega) (by omega) k7
   rw[e8];simp only[aa]
   rw[uY (by omega)];simp only[aa]
   refine ⟨_,rfl,?_,k8⟩
   simp only[ah,au,ay]
   omega
  have one: ∀(t:Tok) (i h:Int),mL xs i-> ∃r:List Tok×Int×Int,((cX n (xs,i,h) (d:Int)).bind fun r14=>(dh r14.1 ([] :List Yq1) t).bind fun r15=>some (r15,r14.2.1,r14.2.2))=some r/\(1<=r.1.length/\r.1.length+1<=2 ^ (d+1+1))/\mL xs r.2.1:=fun t i h hc=>by
   obtain ⟨r7,e7,h7,k7⟩:=Al hl d n i h (by omega) (by omega) hc
   rw[e7];simp only[aa]
   rw[uY (by simp only[ay];omega)];simp only[aa]
   refine ⟨_,rfl,?_,k7⟩
   simp only[ah,au,ay]
   omega
  have if2: ∀(p q:Bool),(if p then (some p) else (some q):Option Bool)=some (p || q):=fun p q=>by cases p <;> rfl
  rw[if2];simp only[aa]
  by_cases c1:(r.1==0 || r.1==1)=true
  ·rw[if_pos c1]
   exact two _ _ _ k
  ·rw[if_neg c1,if2];simp only[aa]
   by_cases c2:(r.1==2 || r.1==3)=true
   ·rw[if_pos c2]
    exact two _ _ _ k
   ·rw[if_neg c2]
    by_cases c3:(r.1==4)=true
    ·rw[if_pos c3]
     exact one _ _ _ k
    ·rw[if_neg c3]
     obtain ⟨q,e2,h2,k2⟩:=eY (h:=r.2.2) hl k (n:=3) (by omega)
     rw[e2];simp only[aa]
     obtain ⟨r7,e7,h7,k7⟩:=Al hl d n q.2.1 q.2.2 (by omega) (by omega) k2
     rw[e7];simp only[aa]
     have w:IntKind.i64.wrap (IntKind.i64.wrap (1+q.1)+1)=q.1+2:=by
      rw[dY (n:=1+q.1) (by omega) (by omega),dY (by omega) (by omega)];omega
     obtain ⟨u,e3,-,k3⟩:=eY (h:=r7.2.2) hl k7 (n:=q.1+2) (by omega)
     rw[w,e3];simp only[aa]
     rw[uY (by simp only[ay];omega)];simp only[aa]
     refine ⟨_,rfl,?_,k3⟩
     simp only[ah,au,ay]
     omega
theorem Ln (hl:xs.length<=1048576) (hc:mL xs i): ∃r:List Tok×Int×Int,lL (xs,i,h)=some r/\(1<=r.1.length/\r.1.length<=24)/\mL xs r.2.1:=by
 have hF:=kE
 unfold lL
 simp only
 obtain ⟨r,e,k⟩:=wT (h:=h) hl hc (n:=2) (by omega)
 rw[e];simp only[aa]
 by_cases c:r.1=true
 ·rw[if_pos c]
  obtain ⟨q,e2,h2,k2⟩:=HL (h:=r.2.2) hl k
  rw[e2]
  exact ⟨_,rfl,h2,k2⟩
 ·rw[if_neg c]
  obtain ⟨q,e2,h2,k2⟩:=eY (h:=r.2.2) hl k (n:=3) (by omega)
  rw[e2];simp only[aa]
  have w:IntKind.i64.wrap (1+q.1)=(((q.1.toNat+1:Nat)):Int):=by rw[dY (by omega) (by omega)];omega
  obtain ⟨u,e3,h3,k3⟩:=Al hl (q.1.toNat+1) dE q.2.1 q.2.2 (by omega) (by omega) k2
  rw[w,e3]
  refine ⟨_,rfl,⟨h3.1,?_⟩,k3⟩
  have:q.1.toNat<=2:=by omega
  have h4:=h3.2
  show u.1.length<=24
  generalize q.1.toNat=z at this h4
  match z,this with
  | 0,_=>simp at h4;omega
  | 1,_=>simp at h4;omega
  | 2,_=>simp at h4;omega
def AutD (a:AutT):Prop:=(1<=a.2.1.length/\a.2.1.length<=12)/\(1<=a.2.2.length/\a.2.2.length<=12)/\ ∀r∈a.2.2,r.length=9
theorem AutD.sm {a:AutT} (h:AutD a):Data.sm a:=⟨trivial,⟨by have:=h.1.2;omega,fun _ _=>trivial⟩,by have:=h.2.1.2;omega,fun r hr=>⟨by rw[h.2.2 r hr];decide,fun _ _=>trivial⟩⟩
theorem VA.autD {a:AutT} {n:Nat} (V:VA a n) (hn:n<=12):AutD a:=by
 have h0:=V.pos
 have h1:=V.len
 have h2:=V.nlen
 exact ⟨by omega,by omega,V.row⟩
theorem QR (hl:xs.length<=1048576) {p:List Int×Int×Int} {r0:Int×Int×Int} (hp:p.1=xs) (hr:0<=r0.1/\r0.1<4) (hc:mL xs i): ∃s,aF (fb p r0) br (([] :List Int),0,i,h)=some (.brk s)/\s.1.length=9/\mL xs s.2.2.1:=by
 have w:IntKind.i64.wrap (1+r0.1)=1+r0.1:=dY (by omega) (by omega)
 obtain ⟨s,e,h1,h2,h3⟩:=jk (f:=fb p r0) (fun j s=>s.2.1=(j:Int)/\s.1.length=j/\mL xs s.2.2.1) 9 (fun j s hj hI=>by
  obtain ⟨h1,h2,h3⟩:=hI
  unfold fb
  rw[h1,hp,if_pos (by simp;omega)]
  obtain ⟨r,e,k⟩:=wT (h:=s.2.2.2) hl h3 (n:=3) (by omega)
  rw[e];simp only[aa]
  have key: ∃q:Int×Int×Int,(if r.1 then (some ((-1),r.2.1,r.2.2)) else ((bm (xs,r.2.1,r.2.2) (IntKind.i64.wrap (1+r0.1))).bind fun r8=>some (r8.1,r8.2.1,r8.2.2)):Option (Int×Int×Int))=some q/\mL xs q.2.1:=by
   by_cases c:r.1=true
   ·rw[if_pos c];exact ⟨_,rfl,k⟩
   ·rw[if_neg c,w]
    obtain ⟨q,e2,-,k2⟩:=eY (h:=r.2.2) hl k (n:=1+r0.1) (by omega)
    rw[e2];exact ⟨_,rfl,k2⟩
  obtain ⟨q,e2,k2⟩:=key
  rw[e2];simp only[aa]
  have e4: ∃z:Int,(if decide ((j:Int)>3) then (some (-1)) else (some q.1):Option Int)=some z:=by
   by_cases c:decide ((j:Int)>3)=true
   ·exact ⟨_,if_pos c⟩
   ·exact ⟨_,if_neg c⟩
  obtain ⟨z,e4⟩:=e4
  rw[e4];simp only[aa]
  rw[aI (by simp only[au,ay];omega)];simp only[aa]
  refine ⟨_,rfl,?_,?_,k2⟩
  ·show IntKind.i64.wrap ((j:Int)+1)=((j+1:Nat):Int)
   rw[dY (by omega) (by omega)];omega
  ·simp only[ah,au,ay];omega) (fun s hI=>by
  unfold fb
  rw[hI.1,if_neg (by simp)]
  obtain ⟨a,b,c,d⟩:=s
  obtain rfl:b=_:=hI.1
  rfl) (s:=(([] :List Int),0,i,h)) ⟨rfl,rfl,hc⟩ (m6 (by omega))
 exact ⟨s,e,h2,h3⟩
theorem C3 (hl:xs.length<=1048576) (hc:mL xs i): ∃r:AutT×Int×Int,iq (xs,i,h)=some r/\AutD r.1/\mL xs r.2.1:=by
 unfold iq
 simp only
 obtain ⟨r0,e0,h0,k0⟩:=eY (h:=h) hl hc (n:=4) (by omega)
 rw[e0];simp only[aa]
 have w:IntKind.i64.wrap (1+r0.1)=((r0.1.toNat+1:Nat):Int):=by rw[dY (by omega) (by omega)];omega
 obtain ⟨r1,e1,-,k1⟩:=eY (h:=r0.2.2) hl k0 (n:=((r0.1.toNat+1:Nat):Int)) (by omega)
 rw[w,e1];simp only[aa]
 obtain ⟨s,e,h1,h2,h3,h4,h5⟩:=jk (f:=gH (xs,i,h) r0) (fun j s=>s.1=(j:Int)/\s.2.2.1.length=j/\s.2.2.2.1.length=j/\(∀r∈s.2.2.2.1,r.length=9)/\mL xs s.2.2.2.2.1) (r0.1.toNat+1) (fun j s hj hI=>by
  obtain ⟨h1,h2,h3,h4,h5⟩:=hI
  unfold gH
  rw[h1,w,if_pos (by simp;omega)]
  obtain ⟨q,e,hq,k⟩:=QR (p:=(xs,i,h)) (r0:=r0) (i:=s.2.2.2.2.1) (h:=s.2.2.2.2.2) hl rfl h0 h5
  rw[aE e]
  simp only
  obtain ⟨o,e2,k2⟩:=wT (h:=q.2.2.2) hl k (n:=3) (by omega)
  rw[e2];simp only[aa]
  rw[aI (by simp only[au,ay];omega)];simp only[aa]
  rw[aI (by simp only[au,ay];omega)];simp only[aa]
  refine ⟨_,rfl,?_,by simp[h2],by simp[h3],fun r hr=>?_,k2⟩
  ·show IntKind.i64.wrap ((j:Int)+1)=((j+1:Nat):Int)
   rw[dY (by omega) (by omega)];omega
  ·rcases aD hr with hr | hr
   ·exact h4 r hr
   ·obtain rfl:=ak hr
    exact hq) (fun s hI=>by
  unfold gH
  rw[hI.1,w,if_neg (by simp)]
  obtain ⟨a,b⟩:=s
  obtain rfl:a=_:=hI.1
  rfl) (s:=(0,r1.1,([] :List Bool),([] :List (List Int)),r1.2.1,r1.2.2)) ⟨rfl,rfl,rfl,fun r hr=>(by cases hr),k1⟩ (m6 (by omega))
 rw[aE e]
 refine ⟨_,rfl,⟨?_,?_,h4⟩,h5⟩
 ·show 1<=s.2.2.1.length/\s.2.2.1.length<=12
  omega
 ·show 1<=s.2.2.2.1.length/\s.2.2.2.1.length<=12
  omega
theorem QS (hl:xs.length<=1048576) (hc:mL xs i): ∃r:AutT×Int×Int,oi (xs,i,h)=some r/\AutD r.1/\mL xs r.2.1:=by
 unfold oi
 simp only
 obtain ⟨r,e,k⟩:=wT (h:=h) hl hc (n:=3) (by omega)
 rw[e];simp only[aa]
 by_cases c:r.1=true
 ·rw[if_pos c]
  obtain ⟨q,e2,h2,k2⟩:=C3 (h:=r.2.2) hl k
  rw[e2]
  exact ⟨_,rfl,h2,k2⟩
 ·rw[if_neg c]
  obtain ⟨q,e2,h2,k2⟩:=Ln (h:=r.2.2) hl k
  rw[e2];simp only[aa]
  obtain ⟨p,e3,p1,p2⟩:=BJ (e:=q.1) (by omega)
  rw[e3];simp only[aa]
  obtain ⟨a,e4,h4⟩:=HI (p:=p.1) p1 (by omega)
  have e4:cq (p.1.1,p.1.2.1,p.1.2.2.1,p.1.2.2.2.1,p.1.2.2.2.2) 12=some a:=e4
  rw[e4];simp only[aa]
  by_cases c2:a.2=true
  ·rw[if_pos c2]
   obtain ⟨N,hN,-,-,V⟩:=h4 c2
   exact ⟨_,rfl,V.autD hN,k2⟩
  ·rw[if_neg c2]
   obtain ⟨u,e5,h5,k5⟩:=C3 (h:=q.2.2) hl k2
   rw[e5]
   exact ⟨_,rfl,h5,k5⟩
end
end D
namespace D
open Go.RowKit
theorem pA {l:List Tok} (h:l.length<=1048576):Data.sm l:=⟨h,fun _ _=>⟨trivial,trivial,trivial,trivial⟩⟩
theorem QU {l:List Tok} (h1:1<=l.length) (h2:l.length<=24): ∃s:List Tok,aF (kS) br l=some (.brk s)/\s.length<=24:=by
 obtain ⟨o,e,s,hs,rfl⟩:=cM (f:=kS) (fun i s=>s.length=l.length+i/\s.length<=24) (fun o=> ∃s:List Tok,s.length<=24/\o= .brk s) 24 (fun i s hi hI=>by
  obtain ⟨k1,k2⟩:=hI
  unfold kS
  have c0:decide ((s.length:Int)>0)=true:=decide_eq_true (by omega)
  by_cases c:(s.length:Int)<24
  ·refine .inl ⟨by omega,s++ [(6,0,0,0)],?_,by simp;omega,by simp;omega⟩
   simp only[c0,if_true,decide_eq_true c]
   rw[aI (by simp;omega)];rfl
  ·refine .inr ⟨.brk s,?_,(fun s' e=>by cases e),s,k2,rfl⟩
   simp only[c0,if_true,decide_eq_false c,Bool.false_eq_true,if_false]) (s:=l) ⟨by omega,h2⟩ (m6 (by omega))
 exact ⟨s,e,hs⟩
section
variable {xs:List Int} {i h:Int}
theorem PN (hl:xs.length<=1048576) (hc:mL xs i): ∃r:List Tok×Int×Int,qj (xs,i,h)=some r/\Data.sm r.1/\mL xs r.2.1:=by
 unfold qj
 simp only
 obtain ⟨r0,e0,l0,k0⟩:=Ln (h:=h) hl hc
 rw[e0];simp only[aa]
 obtain ⟨r1,e1,-,k1⟩:=eY (h:=r0.2.2) hl k0 (n:=14) (by omega)
 rw[e1];simp only[aa]
 by_cases c0:(r1.1==0)=true
 ·rw[if_pos c0,show chk (And ((0:Int)<=1) (1<=(r0.1.length:Int)))=some () from if_pos (by omega)]
  exact ⟨_,rfl,pA (by simp only[aT];omega),k1⟩
 ·rw[if_neg c0]
  by_cases c1:(r1.1==1)=true
  ·rw[if_pos c1]
   obtain ⟨r8,e8,-,k8⟩:=eY (h:=r1.2.2) hl k1 (n:=9) (by omega)
   rw[e8];simp only[aa]
   obtain ⟨r9,e9,-,k9⟩:=eY (h:=r8.2.2) hl k8 (n:=10) (by omega)
   rw[e9];simp only[aa]
   obtain ⟨r10,e10,-,k10⟩:=eY (h:=r9.2.2) hl k9 (n:=3) (by omega)
   rw[e10];simp only[aa]
   obtain ⟨r11,e11,-,k11⟩:=eY (h:=r10.2.2) hl k10 (n:=5) (by omega)
   rw[e11];simp only[aa]
   rw[aG (by omega) (by omega)]
   exact ⟨_,rfl,pA (by simp only[List.length_set];omega),k11⟩
  ·rw[if_neg c1]
   by_cases c2:(r1.1==2)=true
   ·rw[if_pos c2]
    obtain ⟨s,es,hs⟩:=QU l0.1 l0.2
    rw[aE es]
    obtain ⟨q,eq,kq⟩:=wT (h:=r1.2.2) hl k1 (n:=2) (by omega)
    rw[eq];simp only[aa]
    by_cases c3:q.1=true
    ·rw[if_pos c3,aI (by simp;omega)]
     exact ⟨_,rfl,pA (by simp only[ah,au,ay];omega),kq⟩
    ·rw[if_neg c3]
     exact ⟨_,rfl,pA (by show s.length<=_;omega),kq⟩
   ·rw[if_neg c2]
    exact ⟨_,rfl,pA (by show r0.1.length<=_;omega),k1⟩
theorem Am (hl:xs.length<=1048576) {p:List Int×Int×Int} (hp:p.1=xs): ∀(n:Nat) (f:Nat) {i h:Int} {r:qL},n<900->n<f->mL xs i->Data.sm r->r.1.length<=4->r.2.length<=4-> ∃s:Int×Int×qL,aF (cW p) f ((n:Int),i,h,r.1,r.2)=some (.brk (0,s.1,s.2.1,s.2.2.1,s.2.2.2))/\mL xs s.1/\Data.sm s.2.2/\s.2.2.1.length<=4
 | 0,f+1,i,h,r,_,_,hc,hr,hb,_=>by
  refine ⟨(i,h,r),?_,hc,hr,hb⟩
  have:cW p (((0:Nat):Int),i,h,r.1,r.2)=some (.brk (0,i,h,r.1,r.2)):=by
   unfold cW
   simp only
   rw[if_neg (by simp)];rfl
  rw[aF,this]
 | n+1,f+1,i,h,r,hn,hf,hc,hr,hb,hb2=>by
  obtain ⟨r7,e7,-,k7⟩:=eY (h:=h) hl hc (n:=6) (by omega)
  obtain ⟨r8,e8,l8,k8⟩:=HL (h:=r7.2.2) hl k7
  obtain ⟨x,ex,-,hx,hx1,hx2⟩:=wR hr (IntKind.i64.wrap (1+r7.1)) (e:=r8.1) (pA (by omega))
  have hxl:x.1.1.length<=4/\x.1.2.length<=4:=by
   cases hk:x.2 with
   | false=>rw[hx2 hk];exact ⟨hb,hb2⟩
   | true =>
    obtain ⟨-,i0,hi0,e3⟩:=hx1 hk
    have h8:Data.sm r8.1:=pA (by omega)
    have hins:=CW (y:=((IntKind.i64.wrap (1+r7.1),r8.1,(0:Int)):QT)) hr.2 ⟨trivial,h8,trivial⟩ i0 (by omega)
    obtain ⟨q4,hB⟩:=mJ hins e3
    have:=hB.len
    have:=(yj hins e3).2.1
    omega
  have ex:dj (r.1,r.2) (IntKind.i64.wrap (1+r7.1)) r8.1=_:=ex
  obtain ⟨t,e2,h4,h5⟩:=Am hl hp n f (h:=r8.2.2) (r:=x.1) (by omega) (by omega) k8 hx hxl.1 hxl.2
  refine ⟨t,?_,h4,h5⟩
  have:cW p (((n+1:Nat):Int),i,h,r.1,r.2)=some (.nxt ((n:Int),r8.2.1,r8.2.2,x.1.1,x.1.2)):=by
   unfold cW
   simp only
   rw[if_pos (decide_eq_true (show ((n+1:Nat):Int)>0 by omega)),hp,e7];simp only[aa]
   rw[e8];simp only[aa]
   rw[ex];simp only[aa]
   rw[show IntKind.i64.wrap (((n+1:Nat):Int) - 1)=(n:Int) from by rw[dY (by omega) (by omega)];omega]
  rw[aF,this]
  exact e2
theorem NW:Data.sm (([],[]):qL):=⟨⟨Nat.zero_le _,fun _ h=>by cases h⟩,Nat.zero_le _,fun _ h=>by cases h⟩
theorem D9 (hl:xs.length<=1048576) (hc:mL xs i): ∃r:qL×Int×Int,im (xs,i,h)=some r/\(Data.sm r.1/\r.1.1.length<=4)/\mL xs r.2.1:=by
 unfold im
 simp only
 obtain ⟨r,e,hr,kr⟩:=eY (h:=h) hl hc (n:=3) (by omega)
 rw[e];simp only[aa]
 obtain ⟨k,hk⟩: ∃k:Nat,IntKind.i64.wrap (1+r.1)=(k:Int):=⟨(1+r.1).toNat,by rw[dY (by omega) (by omega)];omega⟩
 have hk3:k<=3:=by
  rw[dY (by omega) (by omega)] at hk;omega
 obtain ⟨s,es,h1,h2⟩:=Am hl (p:=(xs,i,h)) rfl k br (h:=r.2.2) (r:=([],[])) (by omega) (by unfold br;omega) kr NW (Nat.zero_le _) (Nat.zero_le _)
 rw[hk,aE es]
 exact ⟨_,rfl,h2,h1⟩
theorem PO (hl:xs.length<=1048576) (hc:mL xs i): ∃r:qL×Int×Int,oj (xs,i,h)=some r/\Data.sm r.1/\mL xs r.2.1:=by
 unfold oj
 simp only
 obtain ⟨r0,e0,s0,k0⟩:=D9 (h:=h) hl hc
 rw[e0];simp only[aa]
 obtain ⟨r1,e1,-,k1⟩:=eY (h:=r0.2.2) hl k0 (n:=16) (by omega)
 rw[e1];simp only[aa]
 obtain ⟨⟨sa,sq⟩,la⟩:=s0
 obtain ⟨hq,hqs⟩:=gP sq
 have hset: ∀y:QT,Data.sm y->Data.sm (r0.1.2.set 0 y):=fun y hy=>⟨by rw[List.length_set];exact hq,fun q h=>by
  rcases List.mem_or_eq_of_mem_set h with h | rfl
  ·exact hqs q h
  ·exact hy⟩
 by_cases c0:(r1.1==0)=true
 ·rw[if_pos c0]
  by_cases c:(r0.1.2.length:Int)>0
  ·rw[if_pos (decide_eq_true c)]
   obtain ⟨r4,e4,-,k4⟩:=eY (h:=r1.2.2) hl k1 (n:=3) (by omega)
   rw[e4];simp only[aa]
   rw[aG (by omega) c]
   have hm:=hqs _ (eH (xs:=r0.1.2) (i:=0) (by omega) c)
   exact ⟨_,rfl,⟨sa,hset _ ⟨trivial,hm.2.1,trivial⟩⟩,k4⟩
  ·rw[if_neg (by simpa using c)]
   exact ⟨_,rfl,⟨sa,sq⟩,k1⟩
 ·rw[if_neg c0]
  by_cases c1:(r1.1==1)=true
  ·rw[if_pos c1]
   by_cases c:(r0.1.2.length:Int)>0
   ·rw[if_pos (decide_eq_true c)]
    obtain ⟨r8,e8,-,k8⟩:=qQ (h:=r1.2.2) hl k1 (l:=[0,100,99]) (by simp)
    rw[e8];simp only[aa]
    rw[aG (by omega) c]
    have hm:=hqs _ (eH (xs:=r0.1.2) (i:=0) (by omega) c)
    exact ⟨_,rfl,⟨sa,hset _ ⟨trivial,hm.2.1,hm.2.2⟩⟩,k8⟩
   ·rw[if_neg (by simpa using c)]
    exact ⟨_,rfl,⟨sa,sq⟩,k1⟩
  ·rw[if_neg c1]
   by_cases c2:(r1.1==2)=true
   ·rw[if_pos c2]
    obtain ⟨r12,e12,h12,k12⟩:=QS (h:=r1.2.2) hl k1
    rw[e12];simp only[aa]
    obtain ⟨ha,has⟩:=gP sa
    rw[aI (by simp only[au,ay];omega)]
    refine ⟨_,rfl,⟨⟨?_,fun a h=>?_⟩,sq⟩,k12⟩
    ·show (r0.1.1++ [(r12.1.1,r12.1.2.1,r12.1.2.2)]).length<=_
     rw[ah];simp only[au,ay];omega
    ·rcases aD h with h | h
     ·exact has a h
     ·rw[ak h];exact h12.sm
   ·rw[if_neg c2]
    exact ⟨_,rfl,⟨sa,sq⟩,k1⟩
end
theorem HM {xs:List Int} (hl:xs.length<=1048576): ∃r:qL×Int×List Tok,dO xs=some r/\Data.sm r.1/\Data.sm r.2.2:=by
 unfold dO
 obtain ⟨r0,e0,k0⟩:=QQ hl
 rw[e0];simp only[aa]
 obtain ⟨r1,e1,s1,k1⟩:=PO (h:=r0.2) hl k0
 rw[e1];simp only[aa]
 obtain ⟨r4,e4,-,k4⟩:=qQ (h:=r1.2.2) hl k1 (l:=[1,2,3,4,5,6,7,99,0,100]) (by simp)
 rw[e4];simp only[aa]
 obtain ⟨r5,e5,s5,-⟩:=PN (h:=r4.2.2) hl k4
 rw[e5]
 exact ⟨_,rfl,s1,s5⟩
end D
set_option synthInstance.maxSize 20000
set_option synthInstance.maxHeartbeats 2000000
namespace D
open Go.RowKit
theorem Km {x:qL×Bool} (hx:Data.sm x.1): ∃s,aF (cG x) br 0=some (.brk s):=by
 have hl:=(gP hx.1).1
 obtain ⟨b,v1,v2,hv⟩:=l7 hx
 have v1':bL (x.1.1,x.1.2)=_:=v1
 cases b with
 | false =>
  refine ⟨0,?_⟩
  have:=bg (f:=cG x) (fun _=>(0:Int)) 0 (fun i hi=>by omega) (by
   unfold cG
   rw[v1'];simp only[aa,Bool.false_eq_true,if_false]
   split <;> rfl) (by unfold br;omega)
  exact this
 | true =>
  obtain ⟨h4,hB⟩:=mJ hx.2 ((mK hx).1 v1)
  refine ⟨(x.1.1.length:Int),?_⟩
  have:=bg (f:=cG x) (fun i=>(i:Int)) x.1.1.length (fun i hi=>by
   unfold cG
   rw[dS hi,if_pos rfl,v1'];simp only[aa,if_true]
   have hin:=bg (f:=eG x (i:Int)) (fun k=>(k:Int)) i (fun k hk=>by
    unfold eG
    have e:=PK hB hi hk
    have e:eF (x.1.1[i].1,x.1.1[i].2.1,x.1.1[i].2.2) (x.1.1[k].1,x.1.1[k].2.1,x.1.1[k].2.2)=_:=e
    rw[if_pos (by simp;omega),aY hi,aY (show k<x.1.1.length by omega)];simp only[aa]
    rw[e,aC (by omega)];rfl) (by
    unfold eG
    rw[if_neg (by simp)]) (m6 (by omega))
   have hin:aF (eG x (i:Int)) br 0=_:=hin
   rw[aE hin,aC (by omega)]) (by
   unfold cG
   rw[cH];rfl) (m6 (by omega))
  exact this
theorem yn (xs:List Int) (hx:Data.lim xs):iZ xs=some true:=by
 unfold iZ Bh
 simp only[aa]
 by_cases c:(xs.length:Int)>1048576
 ·rw[if_pos (by simpa using c)]
 rw[if_neg (by simpa using c)]
 have hl:xs.length<=1048576:=by omega
 have nf: ∀p:Bool,(p !=p)=false:=fun p=>by cases p <;> rfl
 obtain ⟨⟨r,id,e⟩,e1,sr,se⟩:=HM hl
 have sr:Data.sm r:=sr
 have se:Data.sm e:=se
 rw[e1];simp only[aa,jj]
 obtain ⟨x,x1,x2,sx,k1,k2⟩:=wR sr id se
 obtain ⟨b,v1,v2,hv⟩:=l7 sr
 obtain ⟨s,es⟩:=Km sx
 rw[x1,x2];simp only[aa]
 rw[nf,mI x.1 x.1 sx,decide_eq_true rfl,v1,v2];simp only[aa,Bool.false_eq_true,if_false,if_true]
 rw[nf,es];simp only[Bool.false_eq_true,if_false]
 cases hk:x.2 with
 | false=>rfl
 | true =>
  obtain ⟨h0,i,hi,h1⟩:=k1 hk
  have u1:=D5 sr sx se hi h0 h1
  obtain ⟨hj,f1,f2,f3,j,hj2,f4,f5⟩:=Af sr sx se hi h0 h1
  obtain ⟨a,sa,qa,qb⟩:=Kc sr sx se hi h0 h1
  simp only[if_true]
  rw[u1,qb,qa];simp only[aa,if_true]
  rw[mI r r sr,decide_eq_true rfl];simp only[aa,if_true]
  rw[mH a a sa,decide_eq_true rfl,f1];simp only[aa,if_true]
  rw[if_neg (by simp)];rfl
end D
open Go.ChangeShapes Go.WideShapes Go.ChangeAt Go.RowKit
namespace D
theorem op5:Opens Tryz.prog 5 rU8:=JL Tryz.underlying5
theorem Rt:Opens Tryz.prog 22 (aq 5 rU8):=Br Tryz.underlying22 (by kernel_rfl) (by decide) op5
theorem QV {W:World} {base:Nat} {z:Value} {H:Type} {enc:TypeId×Value->H} {d:DataW H} {p:List MemPlace} (hv:Value.okWide Tryz.prog W .any base 22 z) (h:DataW.Trod enc Tryz.prog W 0 (fun _=>true) true 22 z d p) :
  ∃(x:List Int) (v0:Value),z=v0/\Data.lim x/\(aq 5 rU8).rd (hp W) [v0] x:=by
 obtain ⟨fuel,hf⟩:=h
 obtain ⟨a,l,c,rfl⟩:=okWide_slice Tryz.underlying22 hv
 obtain ⟨x,hx,hl⟩:=Rt.out enc W _ _ _ hf
 exact ⟨x,_,rfl,hl,hx⟩
end D
open D (Data)
theorem vQ (W:World) (args:Array Value) (H:Type) (enc:TypeId×Value->H) (base:Nat) (ds gs:List (DataW H)) (before:List MemPlace)
  (hval: ∀(j:Nat) t v,Tryz.f3.params[j]? =some t->args[j]? =some v->Value.okWide Tryz.prog W .any base t v)
  (hW:DataW.Whole enc Tryz.prog Tryz.f3.params.toList Rows.fnRegistrySpec.vars false W args.toList ds gs before) :
  Calls Tryz.prog 3 args W fun e W'=> ∃v,e= .returned v/\Rows.fnRegistrySpec.post enc Tryz.prog Tryz.f3 false true false false W args v W':=by
 have hW':=hW
 obtain ⟨p,q,hA,hV,rfl,hfz,hnd⟩:=hW
 rw[Tryz.params3] at hA hval
 obtain ⟨z0,vs0,d0,ds0,p0,q0,hargs,rfl,rfl,h0,r0⟩:=trodAll_cons hA
 obtain ⟨rfl,rfl,rfl⟩:=trodAll_nil r0
 obtain rfl:args= #[z0]:=by cases args;simp_all
 obtain ⟨rfl,rfl⟩:=trodVars_none hV
 obtain ⟨x0,v0_0,rfl,l0,r0_0⟩:=D.QV (hval 0 _ _ rfl rfl) h0
 have hc:=D.vM x0 true (D.yn x0 l0) (I:=D.hp W) (w0:=W) z0 r0_0 D.Lay.all W [] (D.St.init W)
 refine hc.mono fun e W' ⟨v,he,hv,hs⟩=>?_
 subst he;subst hv
 exact ⟨_,rfl,J7 (f:=Tryz.f3) (s:=Rows.fnRegistrySpec) 4 Tryz.underlying4 rfl (by kernel_rfl) rfl hW' rfl rfl rfl (D.St.below hs)⟩
theorem rI (os:Os) (started:os.Started) (H:Type) (enc:TypeId×Value->H) :
  ReturnsInHanded {} Tryz.checked os 3 .any (Rows.fnRegistrySpec.pre6 enc Tryz.prog Tryz.f3 Rows.fnRegistryRow.domain false) (Rows.fnRegistrySpec.post enc Tryz.prog Tryz.f3 false true false false):=by
 refine returnsInHanded_of_change_sized (C:=Tryz.checked) own started (by kernel_rfl) Tryz.func3
  (ChangeSpec.witness6 (enc:=enc) (C:=Tryz.checked) false ⟨#[],#[.slice none 0 0],[]⟩ 8 (by kernel_rfl) (by kernel_rfl) (by kernel_rfl) (by kernel_rfl)) ?_
 intro W base args ds gs before hval hW hcnd hsz _
 exact vQ W args H enc base ds gs before hval hW
set_option maxHeartbeats 4000000 in
theorem rJ:joinedFacts Tryz.pinned.checked.prog 3 Tryz.f3 Rows.fnRegistrySpec Rows.fnRegistryRow=true:=by
 unfold joinedFacts
 repeat' (with_reducible refine Bool.and_eq_true_iff.2 ⟨?_,?_⟩)
 all_goals as_aux_lemma=>kernel_rfl
theorem holdsLFnRegistry:Rows.FnRegistrySaid:=
 OpenClaim.holds_of_wide 3 Tryz.f3 rfl rfl rfl rfl rfl rfl rfl ⟨rfl,rfl,rfl,rfl,rfl⟩ rfl rfl rfl rfl rfl (by kernel_rfl) Tryz.func3 rJ
  (of_decide_eq_true (by kernel_rfl)) (by unfold Func.isWrapper;first | (rw[if_pos (by decide +kernel)];kernel_rfl) | (rw[if_neg (by decide +kernel)];exact ⟨rfl,rfl⟩))
  (fun os started H enc _=>rI os started H enc)
end Go.Proofs.YtbhafdfiplkacaaGreat
