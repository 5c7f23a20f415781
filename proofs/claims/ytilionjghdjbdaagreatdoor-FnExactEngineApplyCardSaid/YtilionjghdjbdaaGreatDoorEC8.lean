/- FnExactEngineApply: for every input the law returns true and changes nothing that was there. Part 9 of 9. -/
import Derived.Test.YtilionjghdjbdaaGreatDoorEC7
import Derived.Test.YtilionjghdjbdaaGreatDoorEKEngineApply
set_option linter.unusedVariables false
set_option linter.unusedSimpArgs false
set_option linter.unnecessarySimpa false
set_option linter.unusedSectionVars false
set_option maxRecDepth 1000000
namespace Go.Proofs.YtilionjghdjbdaaGreatDoor
set_option synthInstance.maxSize 20000
set_option synthInstance.maxHeartbeats 2000000
namespace D
open Go.RowKit
abbrev EngT:=NF×Ns×List aaI×ByteArray
theorem LY {h:NF} {r:Ns} {ss:List aaI} {lg:ByteArray} {v:Int} (hs:bJ h=some v) (hr:r.2.length<=1048576) (hn:ss.length<=1048576) {i:Nat} (h1:i<ss.length) :
  ct (h,r,ss,lg) v (i:Int)=cQ (h,r,ss,lg) (i:Int)/\(cQ (h,r,ss,lg) (i:Int)=some (.nxt ((i+1:Nat):Int))\/cQ (h,r,ss,lg) (i:Int)=some (.ret false)):=by
 obtain ⟨k,k1,k2,-⟩:=Rc r ss[i].2.1 hr
 have hw:IntKind.i64.wrap ((i:Int)+1)=((i+1:Nat):Int):=af (by omega)
 unfold ct cQ
 simp only[di,bF h1,if_true,aB h1,aa,NC,IC,k1,k2,hs,hw]
 by_cases c:decide ((i:Int)>0)=true
 ·have g:aQ ss (IntKind.i64.wrap ((i:Int) - 1))=some (nth ss ((i:Int) - 1)):=by
   have:(i:Int)>0:=of_decide_eq_true c
   rw[oS (by omega),aI (by omega) (by omega)]
  simp only[if_pos c,g,aa]
  refine ⟨trivial,?_⟩
  repeat' split
  all_goals first | exact .inr rfl | exact .inl rfl
 ·simp only[if_neg c]
  refine ⟨trivial,?_⟩
  repeat' split
  all_goals first | exact .inr rfl | exact .inl rfl
theorem Ud {h:NF} {r:Ns} {ss:List aaI} {lg:ByteArray} {v:Int} (hs:bJ h=some v) (hr:r.2.length<=1048576) (hn:ss.length<=1048576): ∃o,ax (cQ (h,r,ss,lg)) aV 0=some o/\ax (ct (h,r,ss,lg) v) aV 0=some o/\(o= .ret false\/ ∃s,o= .brk s):=by
 have hend:cQ (h,r,ss,lg) (ss.length:Int)=some (.brk (ss.length:Int)):=by
  unfold cQ
  simp only[]
  rw[ba];rfl
 have hend2:ct (h,r,ss,lg) v (ss.length:Int)=some (.brk (ss.length:Int)):=by
  unfold ct
  simp only[]
  rw[ba];rfl
 obtain ⟨o,e,hQ⟩:=cM (f:=cQ (h,r,ss,lg)) (fun i s=>s=(i:Int)) (fun o=>o= .ret false\/ ∃s,o= .brk s) ss.length (fun i s hi hI=>by
  subst hI
  by_cases h1:i<ss.length
  ·rcases (LY (lg:=lg) hs hr hn h1).2 with k | k
   ·exact .inl ⟨h1,_,k,rfl⟩
   ·exact .inr ⟨_,k,fun s' h=>(by simp at h),.inl rfl⟩
  ·obtain rfl:i=ss.length:=by omega
   exact .inr ⟨_,hend,fun s' h=>(by simp at h),.inr ⟨_,rfl⟩⟩) (s:=(0:Int)) rfl (dB _ (by omega))
 refine ⟨o,e,?_,hQ⟩
 rw[<-e]
 refine qD (f:=cQ (h,r,ss,lg)) (g:=ct (h,r,ss,lg) v) (fun i s=>s=(i:Int)/\i<=ss.length) (fun i s hI=>?_) aV 0 0 ⟨rfl,Nat.zero_le _⟩
 obtain ⟨rfl,hi⟩:=hI
 by_cases h1:i<ss.length
 ·obtain ⟨a,b⟩:=LY (lg:=lg) hs hr hn h1
  refine ⟨a,fun s' hs'=>?_⟩
  rcases b with b | b
  ·rw[b] at hs'
   obtain rfl:=ae hs' |> Out.nxt.inj
   exact ⟨rfl,h1⟩
  ·rw[b] at hs';simp at hs'
 ·obtain rfl:i=ss.length:=by omega
  exact ⟨by rw[hend,hend2],fun s' hs'=>by rw[hend] at hs';simp at hs'⟩
structure EngOk (e:EngT):Prop where
 hs:m_s_IsValidHistory e.1=some true
 hi:m_i_IsValidHistory e.1=some true
 hb:(1<=e.1.2.length/\e.1.2.length<=8)/\1<=e.1.1/\e.1.1<=1000 - (e.1.2.length:Int)
 reg:RegOk e.2.1
 sub:e.2.2.1.length<=4
 log:e.2.2.2.size<=4000
 sc: ∃(r:List Int) (q:List (List ChT)) (n:Nat),m_s_ScanLog e.2.2.2=some (r,q,(n:Int))/\m_i_ScanLog e.2.2.2=some (r,q,(n:Int))/\r.length<=4000/\ScOk r q/\totL r q r.length<=4000/\(r.length=0\/nth r ((r.length:Int) - 1)=latV e.1)
theorem Ue (e:EngT) (he:Data.sm e): ∃b,iS e=some b/\iV e=some b/\(b=true->EngOk e):=by
 obtain ⟨h,r,ss,lg⟩:=e
 obtain ⟨sh,sr,ssb,slg⟩:=he
 obtain ⟨b1,e1,e2,k1⟩:=CC h sh
 obtain ⟨b2,f1,f2,k2⟩:=Nv sr
 have slg:lg.size<=1048576:=slg
 obtain ⟨l,rfl⟩:=U6 lg
 have hlz:(mkB l).size=l.length:=bG l
 have hl:l.length<=1048576:=by rw[<-hlz];exact slg
 unfold iS iV vA ya
 simp only[di,e1,e2,f1,f2,aa,hlz]
 cases b1 with
 | false=>exact ⟨false,rfl,rfl,fun c=>by cases c⟩
 | true =>
  cases b2 with
  | false=>exact ⟨false,rfl,rfl,fun c=>by cases c⟩
  | true =>
   obtain ⟨l1,l2⟩:=CD e1 e2 (k1 rfl)
   obtain ⟨o,o1,o2,ho⟩:=Ud (h:=h) (r:=r) (ss:=ss) (lg:=mkB l) l1 (aC sr.2).1 (aC ssb).1
   obtain ⟨vs,bs,n,g1,g2,g3,g4,g5,g6⟩:=Ir l (by omega)
   simp only[if_true,l1,l2,g1,g2,aa,o1,o2]
   by_cases c1:(ss.length:Int)<=4
   ·rw[if_neg (show¬decide ((ss.length:Int)>4)=true by rw[decide_eq_true_eq];omega),decide_eq_true c1]
    by_cases c2:(l.length:Int)<=4000
    ·rw[if_neg (show¬decide ((l.length:Int)>4000)=true by rw[decide_eq_true_eq];omega)]
     rcases ho with rfl | ⟨s,rfl⟩
     ·exact ⟨false,rfl,rfl,fun c=>by cases c⟩
     ·simp only[aN,if_true,aa]
      by_cases c3:((n:Int)==(l.length:Int))=true
      ·simp only[if_pos c3,if_pos (decide_eq_true c2)]
       by_cases c4:((vs.length:Int)==0)=true
       ·simp only[if_pos c4,aa]
        exact ⟨true,rfl,rfl,fun _=>⟨e1,e2,k1 rfl,k2 rfl,by show ss.length<=4;omega,by show (mkB l).size<=4000;omega,vs,bs,n,g1,g2,g4,g5,by omega,.inl (by have:=eq_of_beq c4;omega)⟩⟩
       ·have hp:0<vs.length:=by
         rcases Nat.eq_zero_or_pos vs.length with q | q
         ·exact absurd (by rw[q];rfl) c4
         ·exact q
        simp only[if_neg c4,oS (show vs.length<=9223372036854775807 by omega),aI (xs:=vs) (i:=(vs.length:Int) - 1) (by omega) (by omega),aa]
        refine ⟨_,rfl,rfl,fun c=>⟨e1,e2,k1 rfl,k2 rfl,by show ss.length<=4;omega,by show (mkB l).size<=4000;omega,vs,bs,n,g1,g2,g4,g5,by omega,.inr (eq_of_beq c)⟩⟩
      ·simp only[if_neg c3,aa]
       exact ⟨false,rfl,rfl,fun c=>by cases c⟩
    ·rw[if_pos (decide_eq_true (show (l.length:Int)>4000 by omega))]
     rcases ho with rfl | ⟨s,rfl⟩
     ·exact ⟨false,rfl,rfl,fun c=>by cases c⟩
     ·simp only[aN,if_true,aa]
      by_cases c3:((n:Int)==(l.length:Int))=true
      ·simp only[if_pos c3,if_neg (show¬decide ((l.length:Int)<=4000)=true by rw[decide_eq_true_eq];exact c2),aa]
       exact ⟨false,rfl,rfl,fun c=>by cases c⟩
      ·simp only[if_neg c3,aa]
       exact ⟨false,rfl,rfl,fun c=>by cases c⟩
   ·rw[if_pos (decide_eq_true (show (ss.length:Int)>4 by omega)),decide_eq_false c1]
    rcases ho with rfl | ⟨s,rfl⟩
    ·exact ⟨false,rfl,rfl,fun c=>by cases c⟩
    ·exact ⟨false,rfl,rfl,fun c=>by cases c⟩
end D
set_option synthInstance.maxSize 20000
set_option synthInstance.maxHeartbeats 2000000
namespace D
open Go.RowKit
theorem XN (r:Ns) (hr:Data.sm r):q9 r=some r:=by
 obtain ⟨h1,h2⟩:=aC hr.1
 obtain ⟨h3,h4⟩:=aC hr.2
 unfold q9
 have a:=bm (f:=jy r) (fun i=>((i:Int),r.1.take i,([] :List QT))) r.1.length (fun i hi=>by
  unfold jy
  simp only[bF hi,if_true,aB hi,aa,di,XL _ (h2 _ (List.getElem_mem hi)),af (show i<9223372036854775807 by omega)]
  rw[aK (by simp;omega)]
  simp only[aa]
  rw[List.take_succ_eq_append_getElem hi]) (by
  unfold jy
  simp only[ba,Bool.false_eq_true,if_false]) (dB _ (by omega))
 have e:ax (jy r) aV (0,[],[])=_:=a
 rw[e]
 simp only[aN,List.take_length]
 have a:=bm (f:=jz r) (fun i=>((i:Int),r.1,r.2.take i)) r.2.length (fun i hi=>by
  unfold jz
  have c:gN r.2[i].2.1=some r.2[i].2.1:=by unfold gN;rw[aK (by have:=(h4 _ (List.getElem_mem hi)).2.1.1;simp;omega)];rfl
  simp only[bF hi,if_true,aB hi,aa,di,c,af (show i<9223372036854775807 by omega)]
  rw[aK (by simp;omega)]
  simp only[aa]
  rw[List.take_succ_eq_append_getElem hi]) (by
  unfold jz
  simp only[ba,Bool.false_eq_true,if_false]) (dB _ (by omega))
 have e:ax (jz r) aV (0,r.1,[])=_:=a
 rw[e]
 simp only[List.take_length]
theorem XO (r:Ns) (hr:Data.sm r):jL r=some r:=by
 obtain ⟨h1,h2⟩:=aC hr.1
 obtain ⟨h3,h4⟩:=aC hr.2
 unfold jL
 have a:=bm (f:=dY r) (fun i=>((i:Int),r.1.take i,([] :List QT))) r.1.length (fun i hi=>by
  unfold dY
  simp only[bF hi,if_true,aB hi,aa,di,XM _ (h2 _ (List.getElem_mem hi)),af (show i<9223372036854775807 by omega)]
  rw[aK (by simp;omega)]
  simp only[aa]
  rw[List.take_succ_eq_append_getElem hi]) (by
  unfold dY
  simp only[ba,Bool.false_eq_true,if_false]) (dB _ (by omega))
 have e:ax (dY r) aV (0,[],[])=_:=a
 rw[e]
 simp only[aN,List.take_length]
 have a:=bm (f:=dZ r) (fun i=>((i:Int),r.1,r.2.take i)) r.2.length (fun i hi=>by
  unfold dZ
  have c:fW r.2[i].2.1=some r.2[i].2.1:=by unfold fW;rw[aK (by have:=(h4 _ (List.getElem_mem hi)).2.1.1;simp;omega)];rfl
  simp only[bF hi,if_true,aB hi,aa,di,c,af (show i<9223372036854775807 by omega)]
  rw[aK (by simp;omega)]
  simp only[aa]
  rw[List.take_succ_eq_append_getElem hi]) (by
  unfold dZ
  simp only[ba,Bool.false_eq_true,if_false]) (dB _ (by omega))
 have e:ax (dZ r) aV (0,r.1,[])=_:=a
 rw[e]
 simp only[List.take_length]
end D
set_option synthInstance.maxSize 20000
set_option synthInstance.maxHeartbeats 2000000
namespace D
open Go.RowKit
theorem Kq (h:NF) (hh:Data.sm h):qb h=some h:=by
 obtain ⟨hl,hs⟩:=aC hh.2
 have e:=bm (f:=k7 h) (fun i=>((i:Int),h.1,h.2.take i)) h.2.length (fun i hi=>by
  have e:cx (h.2[i].1,h.2[i].2)=some h.2[i]:=CA h.2[i] (hs _ (List.getElem_mem hi))
  have hx: ∀z:GrT,cm 48 (h.2.take i) [z] =some (h.2.take i++ [z]):=fun z=>aK (by rw[ay];simp only[ak,aF];omega)
  unfold k7
  simp only[]
  rw[bF hi,if_pos rfl,aB hi]
  simp only[aa]
  rw[e]
  simp only[aa]
  rw[hx,af (by omega),List.take_succ_eq_append_getElem hi];rfl) (by
  unfold k7
  simp only[]
  rw[ba];rfl) (dB _ (by omega))
 rw[List.take_length] at e
 have e:ax (k7 h) aV (0,h.1,[])=_:=e
 unfold qb
 rw[au e]
theorem Kr (h:NF) (hh:Data.sm h):iE h=some h:=by
 obtain ⟨hl,hs⟩:=aC hh.2
 have e:=bm (f:=eZ h) (fun i=>((i:Int),h.1,h.2.take i)) h.2.length (fun i hi=>by
  have e:dL (h.2[i].1,h.2[i].2)=some h.2[i]:=CB h.2[i] (hs _ (List.getElem_mem hi))
  have hx: ∀z:GrT,cm 48 (h.2.take i) [z] =some (h.2.take i++ [z]):=fun z=>aK (by rw[ay];simp only[ak,aF];omega)
  unfold eZ
  simp only[]
  rw[bF hi,if_pos rfl,aB hi]
  simp only[aa]
  rw[e]
  simp only[aa]
  rw[hx,af (by omega),List.take_succ_eq_append_getElem hi];rfl) (by
  unfold eZ
  simp only[]
  rw[ba];rfl) (dB _ (by omega))
 rw[List.take_length] at e
 have e:ax (eZ h) aV (0,h.1,[])=_:=e
 unfold iE
 rw[au e]
theorem XP (e:EngT) (he:Data.sm e):ra e=some e:=by
 obtain ⟨s1,s2,s3,s4⟩:=he
 have h3:=(aC s3).1
 unfold ra
 simp only[di,Kq e.1 s1,XN e.2.1 s2,aa]
 rw[aK (by simp;omega)];rfl
theorem XQ (e:EngT) (he:Data.sm e):mu e=some e:=by
 obtain ⟨s1,s2,s3,s4⟩:=he
 have h3:=(aC s3).1
 unfold mu
 simp only[di,Kr e.1 s1,XO e.2.1 s2,aa]
 rw[aK (by simp;omega)];rfl
theorem XR {α:Type} [Data α] {l:List α} (h:Data.sm l) (n:Nat):Data.sm (l.drop n):=
 ⟨by have:=(aC h).1;rw[aR];omega,fun x hx=>(aC h).2 x (List.mem_of_mem_drop hx)⟩
end D
set_option synthInstance.maxSize 20000
set_option synthInstance.maxHeartbeats 2000000
namespace D
open Go.RowKit
theorem Zr {α:Type} [Data α] {xs:List α} {y:α} (h:Data.sm xs) (hy:Data.sm y) (i:Nat) (hl:xs.length<=1048575):Data.sm (xs.take i++([y] ++xs.drop i)):=by
 obtain ⟨h1,h2⟩:=aC h
 refine ⟨?_,fun x hx=>?_⟩
 ·simp only[al,ay,aR,ak,aF];omega
 ·rcases aJ hx with hx | hx
  ·exact h2 _ (List.mem_of_mem_take hx)
  ·rcases aJ hx with hx | hx
   ·rw[az hx];exact hy
   ·exact h2 _ (List.mem_of_mem_drop hx)
end D
set_option synthInstance.maxSize 20000
set_option synthInstance.maxHeartbeats 2000000
namespace D
open Go.RowKit
theorem Zs {α:Type} [Data α] {xs:List α} (h:Data.sm xs) (i j:Nat) (hj:i<=j):Data.sm (xs.take i++xs.drop j):=by
 obtain ⟨h1,h2⟩:=aC h
 refine ⟨?_,fun x hx=>?_⟩
 ·simp only[al,ay,aR];omega
 ·rcases aJ hx with hx | hx
  ·exact h2 _ (List.mem_of_mem_take hx)
  ·exact h2 _ (List.mem_of_mem_drop hx)
end D
set_option synthInstance.maxSize 20000
set_option synthInstance.maxHeartbeats 2000000
namespace D
open Go.RowKit
theorem CE (g:GrT) (id:Int) (hl:g.2.length<=1048576): ∃k:Int,jb g id=some k/\lj g id=some k/\((k= -1/\ ∀e∈g.2,e.1≠id)\/ ∃(i:Nat) (hi:i<g.2.length),k=(i:Int)/\g.2[i].1=id):=by
 have hs:=Qp (f:=gF g id) g.2 (fun u=>u.1==id) (fun i=>(i:Int)) (by omega) (fun i hi=>by
  unfold gF
  rw[bF hi,if_pos rfl,aB hi]
  simp only[aa,af (show i<9223372036854775807 by omega)]
  split <;> rfl) (by
  unfold gF
  rw[ba];rfl)
 have e2:ep g.2 (fun a0=>oy a0 id)=gF g id:=by
  funext s;rfl
 unfold jb lj c7
 rw[e2]
 rcases hs with ⟨i,hi1,h1,h2,e1⟩ | ⟨h1,e1⟩
 ·rw[cq e1]
  exact ⟨_,rfl,rfl,.inr ⟨i,hi1,rfl,by simpa using h1⟩⟩
 ·rw[au e1]
  exact ⟨_,rfl,rfl,.inl ⟨rfl,fun e he=>by simpa using h1 e he⟩⟩
theorem Zt (l:List Yq1) (e:Int×Int×Int×Int) (hl:l.length<=1048576):cf l e=some (decide (e∈l)):=by
 have k: ∀x:Int×Int×Int×Int,((e.1==x.1)&&((e.2.1==x.2.1)&&((e.2.2.1==x.2.2.1)&&((e.2.2.2==x.2.2.2)&&true))))=decide (e=x):=fun x=>by
  obtain ⟨a,b,c,d⟩:=e
  obtain ⟨a',b',c',d'⟩:=x
  rw[Bool.eq_iff_iff];simp
 have hs:=Qp (f:=bz l e) l (fun u=>decide (e=u)) (fun i=>(i:Int)) (by omega) (fun i hi=>by
  unfold bz
  rw[bF hi,if_pos rfl,aB hi]
  simp only[aa,k,af (show i<9223372036854775807 by omega)]
  split <;> rfl) (by
  unfold bz
  rw[ba];rfl)
 unfold cf dM
 have el:bz l (e.1,e.2.1,e.2.2.1,e.2.2.2)=bz l e:=rfl
 rw[el]
 rcases hs with ⟨i,hi1,h1,h2,e1⟩ | ⟨h1,e1⟩
 ·rw[cq e1]
  simp only[aa]
  have:e∈l:=by
   have:=of_decide_eq_true h1
   rw[this];exact List.getElem_mem hi1
  rw[decide_eq_true this];simp
 ·rw[au e1]
  simp only[aa]
  have: ¬e∈l:=fun h=>by simpa using h1 e h
  rw[decide_eq_false this];rfl
theorem Uf (g:GrT) (e:Int×Int×Int×Int):pX g e=fP e (g.1.length:Int):=by
 unfold pX fP
 simp only[NC,IC,aa]
theorem Rd (x:GrT) (hx:Data.sm x) (e:Int×Int×Int×Int): ∃r:GrT×Bool,mB x e=some r/\mE x e=some r/\Data.sm r.1:=by
 obtain ⟨h1,h1'⟩:=aC hx.1
 obtain ⟨h2,h2'⟩:=aC hx.2
 obtain ⟨b,ev,kv⟩:=xr x h1 h2
 obtain ⟨k,k1,k2,-⟩:=CE x e.1 h2
 have eo:=Vg e (n:=x.1.length) h1
 unfold mB mE
 simp only[di,xt,ev,CA x hx,CB x hx,Uf,eo,k1,k2,aa]
 cases b with
 | false=>exact ⟨(x,false),rfl,rfl,hx⟩
 | true =>
  have G:=kv rfl
  have g12:=G.m
  simp only[if_true]
  by_cases c1:decide (edgeP e (x.1.length:Int))=true
  ·by_cases c2:decide (k≥0)=true
   ·simp only[if_pos c1,if_pos c2];exact ⟨(x,false),rfl,rfl,hx⟩
   ·by_cases c3:((x.2.length:Int)==12)=true
    ·simp only[if_pos c1,if_neg c2,if_pos c3];exact ⟨(x,false),rfl,rfl,hx⟩
    ·simp only[if_pos c1,if_neg c2,if_neg c3]
     have lp: ∃i:Nat,i<=x.2.length/\ax (jc x e) aV 0=some (.brk (i:Int)):=by
      obtain ⟨o,eo,i,hi,rfl⟩:=cM (f:=jc x e) (fun i s=>s=(i:Int)) (fun o=> ∃i:Nat,i<=x.2.length/\o= .brk (i:Int)) x.2.length (fun i s hi hI=>by
       subst hI
       unfold jc
       by_cases h1:i<x.2.length
       ·simp only[bF h1,if_true,aB h1,aa,af (show i<9223372036854775807 by omega)]
        by_cases h2:x.2[i].1<e.1
        ·exact .inl ⟨h1,_,by simp[h2],rfl⟩
        ·exact .inr ⟨.brk (i:Int),by simp[h2],(fun s' e=>by cases e),i,hi,rfl⟩
       ·obtain rfl:i=x.2.length:=by omega
        exact .inr ⟨.brk (x.2.length:Int),by simp only[ba,Bool.false_eq_true,if_false],(fun s' e=>by cases e),_,hi,rfl⟩) (s:=0) rfl (dB _ (by omega))
      exact ⟨i,hi,eo⟩
     obtain ⟨i,hi,l1⟩:=lp
     have l2:ax (qc e x) aV 0=some (.brk (i:Int)):=by
      rw[<-l1];congr 1
     simp only[l1,l2,aN]
     have hs:=Zr (y:=e) hx.2 ⟨trivial,trivial,trivial,trivial⟩ i (by omega)
     have q1:(chk (0<=(i:Int)/\(i:Int)<=(x.2.length:Int)))=some ():=if_pos (by omega)
     have a0:cm 8 ([] :List Int) x.1=some x.1:=by rw[aK (by simp only[aF];omega)];rfl
     have a1:cm 32 ([] :List Yq1) (x.2.take i)=some (x.2.take i):=by rw[aK (by simp only[aF,ay];omega)];rfl
     have a2:cm 32 (x.2.take i) [e] =some (x.2.take i++ [e]):=aK (by simp only[ay,ak,aF];omega)
     have a3:cm 32 (x.2.take i++ [e]) (x.2.drop i)=some (x.2.take i++([e] ++x.2.drop i)):=by
      rw[aK (by simp only[al,ay,aR,ak,aF];omega),ai]
     have a5:cC x.2 (i:Int) [e] =some (x.2.take i++([e] ++x.2.drop i),[e]):=by
      unfold cC R.Xe
      have:(chk (0<=(i:Int)/\(i:Int)<=(x.2.length:Int)/\ [e].length=1/\1<=32/\(x.2.length+1)*32<=140737488355328))=some ():=if_pos ⟨by omega,by omega,rfl,by omega,by omega⟩
      rw[this];rfl
     simp only[q1,aa,Int.toNat_natCast,a0,a1,a2,a3,a5]
     exact ⟨_,rfl,rfl,hx.1,hs⟩
  ·simp only[if_neg c1];exact ⟨(x,false),rfl,rfl,hx⟩
theorem Re (x:GrT) (hx:Data.sm x) (id:Int): ∃r:GrT×Bool,mC x id=some r/\mF x id=some r/\Data.sm r.1/\(bK x=some false->r.2=false):=by
 obtain ⟨h1,h1'⟩:=aC hx.1
 obtain ⟨h2,h2'⟩:=aC hx.2
 obtain ⟨b,ev,kv⟩:=xr x h1 h2
 obtain ⟨k,k1,k2,hk⟩:=CE x id h2
 unfold mC mF
 simp only[di,xt,ev,CA x hx,CB x hx,k1,k2,aa]
 by_cases c:decide (k<0)=true
 ·simp only[if_pos c]
  cases b with
  | false=>exact ⟨(x,false),rfl,rfl,hx,fun _=>rfl⟩
  | true=>exact ⟨(x,false),rfl,rfl,hx,fun _=>rfl⟩
 ·simp only[if_neg c]
  cases b with
  | false=>exact ⟨(x,false),rfl,rfl,hx,fun _=>rfl⟩
  | true =>
   rcases hk with ⟨rfl,-⟩ | ⟨i,hi,rfl,-⟩
   ·exact absurd rfl c
   ·have hw:IntKind.i64.wrap ((i:Int)+1)=((i+1:Nat):Int):=af (by omega)
    have c1:(0:Int)<=(i:Int)/\(i:Int)<=(x.2.length:Int):=by omega
    have c2:(0:Int)<=((i+1:Nat):Int)/\((i+1:Nat):Int)<=(x.2.length:Int):=by omega
    have c3:(0:Int)<=(i:Int)/\(i:Int)<=((i+1:Nat):Int)/\((i+1:Nat):Int)<=(x.2.length:Int):=by omega
    have q1:(chk (0<=(i:Int)/\(i:Int)<=(x.2.length:Int)))=some ():=if_pos c1
    have q2:(chk (0<=((i+1:Nat):Int)/\((i+1:Nat):Int)<=(x.2.length:Int)))=some ():=if_pos c2
    have q3:(chk (0<=(i:Int)/\(i:Int)<=((i+1:Nat):Int)/\((i+1:Nat):Int)<=(x.2.length:Int)))=some ():=if_pos c3
    have a0:cm 8 ([] :List Int) x.1=some x.1:=by rw[aK (by simp only[aF];omega)];rfl
    have a1:cm 32 ([] :List Yq1) (x.2.take i)=some (x.2.take i):=by rw[aK (by simp only[aF,ay];omega)];rfl
    have a2:cm 32 (x.2.take i) (x.2.drop (i+1))=some (x.2.take i++x.2.drop (i+1)):=aK (by simp only[ay,aR];omega)
    have a4:cD x.2 (i:Int) ((i+1:Nat):Int)=some (x.2.take i++x.2.drop (i+1)):=by
     unfold cD R.ZO
     rw[q3];rfl
    simp only[if_true,hw,q1,q2,aa,Int.toNat_natCast,a0,a1,a2,a4]
    exact ⟨_,rfl,rfl,⟨hx.1,Zs hx.2 i (i+1) (by omega)⟩,fun c=>by simp at c⟩
theorem IA (g:GrT) (hg:Data.sm g) (b:List ChT) (hb:b.length<=6) {i:Nat} (hi:i<b.length) (x:GrT) (hx:Data.sm x):fg g b ((i:Int),x)=bV g b ((i:Int),x)/\(bV g b ((i:Int),x)=some (.ret (g,false))\/ ∃y:GrT,Data.sm y/\bV g b ((i:Int),x)=some (.nxt (((i+1:Nat):Int),y))):=by
 have h2:=(aC hx.2).1
 obtain ⟨r,r1,r2,r3⟩:=Rd x hx b[i].2
 obtain ⟨d,d1,d2,d3,d4⟩:=Re x hx b[i].2.1
 obtain ⟨k,k1,k2,hk⟩:=CE x b[i].2.1 h2
 obtain ⟨v,ev,kv⟩:=xr x (aC hx.1).1 h2
 have hc:=Zt x.2 b[i].2 h2
 have hw:IntKind.i64.wrap ((i:Int)+1)=((i+1:Nat):Int):=af (by omega)
 unfold fg bV
 simp only[di,bF hi,if_true,aB hi,aa,if_pos (decide_eq_true (show (i:Int)<=6 by omega)),r1,r2,k1,d1,d2,hc,CA g hg,CB g hg,hw]
 generalize b[i] =ch at *
 by_cases c:ch.1=true
 ·simp only[if_pos c]
  by_cases c2:r.2=true
  ·simp only[if_pos c2,aa,vl]
   exact ⟨trivial,.inr ⟨_,r3,rfl⟩⟩
  ·simp only[if_neg c2,aa,vl]
   exact ⟨trivial,.inl trivial⟩
 ·simp only[if_neg c]
  rcases hk with ⟨rfl,hn⟩ | ⟨j,hj,rfl,hid⟩
  ·have hnot: ¬ch.2∈x.2:=fun h=>hn _ h rfl
   rw[if_pos (by decide),if_neg (by simpa using hnot)]
   simp only[aa,vl]
   exact ⟨rfl,.inl rfl⟩
  ·rw[if_neg (by simp),aB hj]
   simp only[aa]
   have eb:((x.2[j].1==ch.2.1)&&((x.2[j].2.1==ch.2.2.1)&&((x.2[j].2.2.1==ch.2.2.2.1)&&((x.2[j].2.2.2==ch.2.2.2.2)&&true))))=decide (x.2[j] =ch.2):=by
    generalize x.2[j] =u
    obtain ⟨a,b,c,d⟩:=u
    obtain ⟨t,a',b',c',d'⟩:=ch
    rw[Bool.eq_iff_iff];simp
   rw[eb]
   by_cases ce:x.2[j] =ch.2
   ·have hin:ch.2∈x.2:=ce ▸ List.getElem_mem hj
    rw[if_pos (decide_eq_true ce),if_pos (decide_eq_true hin)]
    by_cases c2:d.2=true
    ·simp only[if_pos c2,aa,vl]
     exact ⟨trivial,.inr ⟨_,d3,rfl⟩⟩
    ·simp only[if_neg c2,aa,vl]
     exact ⟨trivial,.inl trivial⟩
   ·rw[if_neg (by simpa using ce)]
    by_cases hin:ch.2∈x.2
    ·
     have hv:v=false:=by
      cases v with
      | false=>rfl
      | true =>
       exfalso
       have G:=kv rfl
       obtain ⟨m,hm,em⟩:=List.getElem_of_mem hin
       have e1:nth x.2 (m:Int)=x.2[m]:=bW hm
       have e2:nth x.2 (j:Int)=x.2[j]:=bW hj
       rcases Nat.lt_trichotomy m j with q | q | q
       ·have:=G.lt q hj
        rw[e1,e2,em,hid] at this;omega
       ·subst q;exact ce em
       ·have:=G.lt q hm
        rw[e1,e2,em,hid] at this;omega
     subst hv
     have c2: ¬d.2=true:=by rw[d4 ev];decide
     rw[if_pos (decide_eq_true hin)]
     simp only[if_neg c2,aa,vl]
     exact ⟨trivial,.inl trivial⟩
    ·rw[if_neg (by simpa using hin)]
     simp only[aa,vl]
     exact ⟨rfl,.inl rfl⟩
theorem Nw (g:GrT) (hg:Data.sm g) (b:List ChT): ∃r:GrT×Bool,mD g b=some r/\mG g b=some r/\Data.sm r.1:=by
 obtain ⟨h1,h1'⟩:=aC hg.1
 obtain ⟨v,ev,kv⟩:=xr g h1 (aC hg.2).1
 unfold mD mG vG
 simp only[di,xt,ev,CA g hg,CB g hg,aa]
 cases v with
 | false=>exact ⟨(g,false),rfl,rfl,hg⟩
 | true =>
  simp only[if_true]
  by_cases c:decide ((b.length:Int)>6)=true
  ·simp only[if_pos c];exact ⟨(g,false),rfl,rfl,hg⟩
  ·simp only[if_neg c]
   have hb:b.length<=6:=by
    rw[decide_eq_true_eq] at c;omega
   have hend: ∀x:GrT,bV g b ((b.length:Int),x)=some (.brk ((b.length:Int),x)):=fun x=>by
    unfold bV
    simp only[]
    rw[ba];rfl
   have hend2: ∀x:GrT,fg g b ((b.length:Int),x)=some (.brk ((b.length:Int),x)):=fun x=>by
    unfold fg
    simp only[]
    rw[ba];rfl
   have same:ax (fg g b) aV (0,g)=ax (bV g b) aV (0,g):=by
    refine qD (f:=bV g b) (g:=fg g b) (fun i s=> ∃x:GrT,s=((i:Int),x)/\Data.sm x/\i<=b.length) (fun i s hI=>?_) aV 0 (0,g) ⟨g,rfl,hg,Nat.zero_le _⟩
    obtain ⟨x,rfl,hx,hi⟩:=hI
    by_cases h:i<b.length
    ·obtain ⟨a1,a2⟩:=IA g hg b hb h x hx
     refine ⟨a1,fun s' hs'=>?_⟩
     rcases a2 with a2 | ⟨y,hy,a2⟩
     ·rw[a2] at hs';simp at hs'
     ·rw[a2] at hs'
      obtain rfl:=ae hs' |> Out.nxt.inj
      exact ⟨y,rfl,hy,h⟩
    ·obtain rfl:i=b.length:=by omega
     exact ⟨by rw[hend,hend2],fun s' hs'=>by rw[hend] at hs';simp at hs'⟩
   obtain ⟨o,e,hQ⟩:=cM (f:=bV g b) (fun i s=> ∃x:GrT,s=((i:Int),x)/\Data.sm x) (fun o=>o= .ret (g,false)\/ ∃(n:Int) (x:GrT),o= .brk (n,x)/\Data.sm x) b.length (fun i s hi hI=>by
    obtain ⟨x,rfl,hx⟩:=hI
    by_cases h:i<b.length
    ·obtain ⟨-,a2⟩:=IA g hg b hb h x hx
     rcases a2 with a2 | ⟨y,hy,a2⟩
     ·exact .inr ⟨_,a2,fun s' h=>(by simp at h),.inl rfl⟩
     ·exact .inl ⟨h,_,a2,y,rfl,hy⟩
    ·obtain rfl:i=b.length:=by omega
     exact .inr ⟨_,hend x,fun s' h=>(by simp at h),.inr ⟨_,x,rfl,hx⟩⟩) (s:=(0,g)) ⟨g,rfl,hg⟩ (dB _ (by omega))
   rw[same,e]
   rcases hQ with rfl | ⟨n,x,rfl,hx⟩
   ·exact ⟨_,rfl,rfl,hg⟩
   ·exact ⟨_,rfl,rfl,hx⟩
theorem Ks (h:NF) (hh:Data.sm h) (b:List ChT): ∃r:NF×Bool,iF h b=some r/\iG h b=some r/\Data.sm r.1:=by
 obtain ⟨v,es,ei,k⟩:=CC h hh
 cases v with
 | false =>
  unfold iF iG cd
  simp only[di,Kq h hh,Kr h hh,es,ei,aa]
  exact ⟨(h,false),rfl,rfl,hh⟩
 | true =>
  have kk:=k rfl
  obtain ⟨l1,l2⟩:=CD es ei kk
  have hlat: ¬(latV h==0)=true:=by
   rw[beq_iff_eq];unfold latV;omega
  unfold iF iG
  simp only[di,Kq h hh,Kr h hh,es,l1,l2,aa,if_true,if_neg hlat]
  by_cases c:(latV h==999)=true
  ·simp only[if_pos c];exact ⟨(h,false),rfl,rfl,hh⟩
  ·simp only[if_neg c]
   have hm:=(aC hh.2).2 _ (cj (xs:=h.2) (i:=(h.2.length:Int) - 1) (by omega) (by omega))
   obtain ⟨r,r1,r2,r3⟩:=Nw _ hm b
   rw[oS (by omega),aI (xs:=h.2) (by omega) (by omega)]
   simp only[aa,di,r1,r2]
   by_cases c2:r.2=true
   ·simp only[if_pos c2]
    rw[aK (by simp only[ak,aF];omega)]
    simp only[aa]
    have sa:Data.sm (h.2++ [r.1]):=⟨by rw[al];simp only[ak,aF];omega,fun x hx=>by
     rcases aJ hx with q | q
     ·exact (aC hh.2).2 x q
     ·obtain rfl:=az q;exact r3⟩
    by_cases c3:decide (((h.2++ [r.1]).length:Int)>8)=true
    ·have q1:(chk ((0:Int)<=1/\1<=((h.2++ [r.1]).length:Int)))=some ():=if_pos ⟨by omega,by rw[decide_eq_true_eq] at c3;omega⟩
     simp only[if_pos c3,q1,aa]
     exact ⟨_,rfl,rfl,trivial,XR sa 1⟩
    ·simp only[if_neg c3,aa]
     exact ⟨_,rfl,rfl,trivial,sa⟩
   ·simp only[if_neg c2];exact ⟨(h,false),rfl,rfl,hh⟩
theorem Ug (h:NF) (hh:Data.sm h): ∃v:Int,bJ h=some v/\cd h=some v:=by
 obtain ⟨v,es,ei,k⟩:=CC h hh
 cases v with
 | false =>
  unfold bJ cd
  simp only[di,es,ei,aa]
  exact ⟨0,rfl,rfl⟩
 | true=>exact ⟨_,CD es ei (k rfl)⟩
theorem Kt (e:EngT) (he:Data.sm e) (b:List ChT): ∃y:EngT×Bool,lh e b=some y/\iH e b=some y/\Data.sm y.1:=by
 obtain ⟨v,es,ei,kb⟩:=Ue e he
 obtain ⟨r,r1,r2,r3⟩:=Ks e.1 he.1 b
 obtain ⟨w,w1,w2⟩:=Ug r.1 r3
 obtain ⟨t1,t2,t3⟩:=Vf w b
 obtain ⟨l,hl⟩:=U6 e.2.2.2
 have hz:e.2.2.2.size=l.length:=by rw[hl];exact bG l
 unfold lh iH
 simp only[di,XP e he,XQ e he,es,ei,r1,r2,aa]
 cases v with
 | false=>exact ⟨(e,false),rfl,rfl,he⟩
 | true =>
  have h4:e.2.2.2.size<=4000:=(kb rfl).log
  simp only[if_true]
  by_cases c:r.2=true
  ·simp only[if_pos c,w1,w2,t1,t2,aa,hl,bG]
   rw[Em _ _ (by omega),fj (n:=(l.length:Int)+((recT w b).length:Int)) (by omega) (by omega)]
   simp only[aa,bG,al]
   by_cases c2:l.length+(recT w b).length>4000
   ·rw[if_pos (decide_eq_true (by omega)),if_pos (decide_eq_true (by omega))]
    exact ⟨(e,false),rfl,rfl,he⟩
   ·rw[if_neg (by rw[decide_eq_true_eq];omega),if_neg (by rw[decide_eq_true_eq];omega)]
    refine ⟨_,rfl,rfl,r3,he.2.1,he.2.2.1,?_⟩
    show (mkB (l++recT w b)).size<=1048576
    rw[bG,al];omega
  ·simp only[if_neg c];exact ⟨(e,false),rfl,rfl,he⟩
end D
set_option synthInstance.maxSize 20000
set_option synthInstance.maxHeartbeats 2000000
namespace D
open Go.RowKit
theorem DB (x:EngT) (y:List ChT) (hx:Data.lim x) (hy:Data.lim y):eG x y=some true:=by
 unfold eG
 simp only[di]
 obtain ⟨r1,e1,k1⟩:=M3 x 1048576 hx (by decide) (by decide)
 rw[e1];simp only[aa]
 rcases k1 with k1 | ⟨k1,j1,s1⟩
 ·rw[if_pos (decide_eq_true k1)]
 rw[if_neg (by simpa using k1)]
 obtain ⟨r2,e2,k2⟩:=P9 y r1 hy k1 j1
 rw[e2];simp only[aa]
 rcases k2 with k2 | ⟨k2,j2,s2⟩
 ·rw[if_pos (decide_eq_true k2)]
 rw[if_neg (by simpa using k2)]
 obtain ⟨r,es,ei,sr⟩:=Kt x s1 y
 have b3:=Tw y s2
 have b1:=Ik x s1
 have b2:=Ik r.1 sr
 have em1:ff x 1=_:=Il x s1 (k:=1) (by omega)
 have em2:ff r.1 1=_:=Il r.1 sr (k:=1) (by omega)
 have em3:=Tx y s2 (k:=1+ji x) (by omega)
 have eh2:gO ((r.1.1.1,(ur r.1 1).1.2),(ur r.1 1).2.1,(ur r.1 1).2.2.1,r.1.2.2.2) 1=_:=Qo r.1 sr (k:=1) (by omega)
 simp only[M6 x s1,Qa y s2,Qb y y s2 s2,em3,es,ei,El r.1 r.1 sr sr,El x x s1 s1,aa,di,em1,em2,eh2,decide_true,if_true,Nc,bne_self_eq_false,Bool.false_eq_true,if_false]
end D
open Go.ChangeShapes Go.WideShapes Go.ChangeAt Go.RowKit
theorem own:ownKnob Tryz.prog.godebug=none:=by kernel_rfl
theorem laidOut:laidOutB Tryz.prog=true:=by kernel_rfl
theorem xB {H:Type} {enc:TypeId×Value->H} {P:Program} (hl:laidOutB P=true) {W W':World} (hb:Below W.heap.size W W') :
  ∀ {ts:List TypeId} {vs:List Value} {ds:List (DataW H)} {ps:List MemPlace},(∀t∈ts,P.readableRec t=true/\t<P.types.size)->
   DataW.TrodAll enc P W 0 (fun _=>true) true ts vs ds ps->(∀x∈ps,x.block<W.heap.size)->DataW.TrodAll enc P W' 0 (fun b=>decide (b<W.heap.size)) true ts vs ds ps
 | [],[],[],ps,_,h,_=>h
 | t::ts,v::vs,d::ds,ps,hr,⟨p,q,h1,h2,h3⟩,hlt=>by
  subst h3
  exact ⟨p,q,Below.trod hl (hr t (by simp)).1 (hr t (by simp)).2 h1 hb fun x hx=>hlt x (by simp[hx]),xB hl hb (fun t ht=>hr t (by simp[ht])) h2 fun x hx=>hlt x (by simp[hx]),rfl⟩
 | [],_::_,_,_,_,h,_=>h.elim
 | [],[],_::_,_,_,h,_=>h.elim
 | _::_,[],_,_,_,h,_=>h.elim
 | _::_,_::_,[],_,_,h,_=>h.elim
theorem Uh {H:Type} {enc:TypeId×Value->H} {f:Func} {s:ChangeSpec} {W W':World} {args:Array Value} {ds:List (DataW H)} {before:List MemPlace} (tb:TypeId)
  (hb:Tryz.prog.underlying tb=some .bool) (hr:f.resultTypes= #[tb]) (hp:(f.params.toList.all fun t=>Tryz.prog.readableRec t&&decide (t<Tryz.prog.types.size))=true) (hv:s.vars= [])
  (hW:DataW.Whole enc Tryz.prog f.params.toList s.vars false W args.toList ds [] before) (hres:(s.fn H (ds++ [])).results= [.lit (.bool true)]) (hargs:(s.fn H (ds++ [])).args=ds) (hvars:(s.fn H (ds++ [])).vars= [])
  (hbel:Below W.heap.size W W'):s.post enc Tryz.prog f false true false false W args (.bool true) W':=by
 obtain ⟨p,q,h1,h2,h3,h4,h5⟩:=hW
 have hW':DataW.Whole enc Tryz.prog f.params.toList s.vars false W args.toList ds [] before:=⟨p,q,h1,h2,h3,h4,h5⟩
 have hq:q= []:=by rw[hv] at h2;exact h2
 subst hq
 simp only[List.append_nil] at h3
 subst h3
 refine ⟨ds,[],before,[],before,[],hW',?_,?_,?_,hbel.frame _,fun h=>by cases h⟩
 ·rw[hres,hr]
  exact trodAll_mk1 (shut_bool hb true)
 ·rw[hargs]
  exact xB laidOut hbel (fun t ht=>by have:=List.all_eq_true.1 hp t ht;simpa using this) h1 fun x hx=>by simpa using hW'.lt x hx
 ·rw[hvars,hv];rfl
namespace R
open Go.Shelf
def Ku:Go.Shelf.Ren:=⟨fun | 146=>171 | 221=>225 | 268=>265 | 138=>266 | 143=>267 | 195=>302 | 197=>303 | 218=>304 | 219=>305 | 260=>330 | 217=>170 | 225=>331 | 224=>332 | 267=>333 | 266=>224 | 314=>349 | n=>n,fun | 9=>9 | 31=>205 | 3=>3 | 4=>4 | 0=>0 | 105=>309 | 21=>21 | 5=>5 | 46=>295 | 119=>354 | 139=>357 | 138=>356 | 146=>358 | 51=>344 | n=>n,fun | 1=>0 | 3=>4 | 4=>5 | n=>n⟩
theorem XS:Go.Proofs.LaysM.n146 Tryz.prog Ku:= {
 mixed:=by kernel_rfl
 f138:=Tryz.func266.trans (congrArg some (by kernel_rfl))
 f143:=Tryz.func267.trans (congrArg some (by kernel_rfl))
 f146:=Tryz.func171.trans (congrArg some (by kernel_rfl))
 f195:=Tryz.func302.trans (congrArg some (by kernel_rfl))
 f197:=Tryz.func303.trans (congrArg some (by kernel_rfl))
 f217:=Tryz.func170.trans (congrArg some (by kernel_rfl))
 f218:=Tryz.func304.trans (congrArg some (by kernel_rfl))
 f219:=Tryz.func305.trans (congrArg some (by kernel_rfl))
 f221:=Tryz.func225.trans (congrArg some (by kernel_rfl))
 f224:=Tryz.func332.trans (congrArg some (by kernel_rfl))
 f225:=Tryz.func331.trans (congrArg some (by kernel_rfl))
 f260:=Tryz.func330.trans (congrArg some (by kernel_rfl))
 f266:=Tryz.func224.trans (congrArg some (by kernel_rfl))
 f267:=Tryz.func333.trans (congrArg some (by kernel_rfl))
 f268:=Tryz.func265.trans (congrArg some (by kernel_rfl))
 f314:=Tryz.func349.trans (congrArg some (by kernel_rfl))
 t0:=Tryz.underlying0
 a0:=Tryz.isAgg0
 z0:=Tryz.sizeOf0
 v0:=Tryz.zeroValue0
 t3:=Tryz.underlying3
 a3:=Tryz.isAgg3
 z3:=Tryz.sizeOf3
 v3:=Tryz.zeroValue3
 t4:=Tryz.underlying4
 a4:=Tryz.isAgg4
 z4:=Tryz.sizeOf4
 v4:=Tryz.zeroValue4
 t5:=Tryz.underlying5
 a5:=Tryz.isAgg5
 z5:=Tryz.sizeOf5
 v5:=Tryz.zeroValue5
 t9:=Tryz.underlying9
 a9:=Tryz.isAgg9
 z9:=Tryz.sizeOf9
 v9:=Tryz.zeroValue9
 t21:=Tryz.underlying21
 a21:=Tryz.isAgg21
 z21:=Tryz.sizeOf21
 v21:=Tryz.zeroValue21
 t31:=Tryz.underlying205
 a31:=Tryz.isAgg205
 z31:=Tryz.sizeOf205
 v31:=Tryz.zeroValue205
 t46:=Tryz.underlying295
 a46:=Tryz.isAgg295
 z46:=Tryz.sizeOf295
 v46:=Tryz.zeroValue295
 t51:=Tryz.underlying344
 a51:=Tryz.isAgg344
 z51:=Tryz.sizeOf344
 v51:=Tryz.zeroValue344
 t105:=Tryz.underlying309
 a105:=Tryz.isAgg309
 z105:=Tryz.sizeOf309
 v105:=Tryz.zeroValue309
 t119:=Tryz.underlying354
 a119:=Tryz.isAgg354
 z119:=Tryz.sizeOf354
 t138:=Tryz.underlying356
 a138:=Tryz.isAgg356
 z138:=Tryz.sizeOf356
 v138:=Tryz.zeroValue356
 t139:=Tryz.underlying357
 a139:=Tryz.isAgg357
 z139:=Tryz.sizeOf357
 v139:=Tryz.zeroValue357
 t146:=Tryz.underlying358
 a146:=Tryz.isAgg358
 z146:=Tryz.sizeOf358
 v146:=Tryz.zeroValue358
 g1:=by kernel_rfl
 g3:=by kernel_rfl
 g4:=by kernel_rfl
 i0:=by kernel_rfl
 i3:=by kernel_rfl
 i4:=by kernel_rfl
 i5:=by kernel_rfl
 i9:=by kernel_rfl
 i21:=by kernel_rfl
 i31:=by kernel_rfl
 i46:=by kernel_rfl
 i51:=by kernel_rfl
 i105:=by kernel_rfl
 i138:=by kernel_rfl
 i139:=by kernel_rfl
 i146:=by kernel_rfl
 m1:=by kernel_rfl
 s1_3:=fun w h=>Go.Proofs.cell_of_shapedOpen_int (zero:= #[.int .i64 0]) (t:=3) h (of_decide_eq_true (by kernel_rfl)) (by kernel_rfl) rfl (by kernel_rfl) (by kernel_rfl) Tryz.underlying3
 m3:=by kernel_rfl
 m4:=by kernel_rfl }
end R
open Go.ChangeShapes Go.WideShapes Go.ChangeAt Go.RowKit
namespace D
theorem op3:Opens Tryz.prog 3 aX:=PU Tryz.underlying3
theorem abk:Opens Tryz.prog 91 (ah 3 aX):=fh Tryz.underlying91 (by kernel_rfl) (by decide) op3
theorem Zu:Opens Tryz.prog 172 (aG aX (aG aX (aG aX aX))):=by
 refine cZ Tryz.underlying172 (by kernel_rfl) ?_
 refine cg (R:=aX) (S:=aG (aX) (aG (aX) (aX))) rfl (by kernel_rfl) op3 ?_
 refine cg (R:=aX) (S:=aG (aX) (aX)) rfl (by kernel_rfl) op3 ?_
 refine cg (R:=aX) (S:=aX) rfl (by kernel_rfl) op3 ?_
 exact eQ rfl (by kernel_rfl) op3
theorem aaJ:Opens Tryz.prog 177 (ah 172 (aG aX (aG aX (aG aX aX)))):=fh Tryz.underlying177 (by kernel_rfl) (by decide) Zu
theorem aaK:Opens Tryz.prog 179 (aG (ah 3 aX) (ah 172 (aG aX (aG aX (aG aX aX))))):=by
 refine cZ Tryz.underlying179 (by kernel_rfl) ?_
 refine cg (R:=ah 3 aX) (S:=ah 172 (aG aX (aG aX (aG aX aX)))) rfl (by kernel_rfl) abk ?_
 exact eQ rfl (by kernel_rfl) aaJ
theorem abD:Opens Tryz.prog 22 (ah 179 (aG (ah 3 aX) (ah 172 (aG aX (aG aX (aG aX aX)))))):=fh Tryz.underlying22 (by kernel_rfl) (by decide) aaK
theorem abE:Opens Tryz.prog 24 (aG aX (ah 179 (aG (ah 3 aX) (ah 172 (aG aX (aG aX (aG aX aX))))))):=by
 refine cZ Tryz.underlying24 (by kernel_rfl) ?_
 refine cg (R:=aX) (S:=ah 179 (aG (ah 3 aX) (ah 172 (aG aX (aG aX (aG aX aX)))))) rfl (by kernel_rfl) op3 ?_
 exact eQ rfl (by kernel_rfl) abD
theorem op4:Opens Tryz.prog 4 kB:=MZ Tryz.underlying4
theorem aaL:Opens Tryz.prog 181 (ah 4 kB):=fh Tryz.underlying181 (by kernel_rfl) (by decide) op4
theorem aaM:Opens Tryz.prog 182 (ah 91 (ah 3 aX)):=fh Tryz.underlying182 (by kernel_rfl) (by decide) abk
theorem aaN:Opens Tryz.prog 184 (aG aX (aG (ah 4 kB) (ah 91 (ah 3 aX)))):=by
 refine cZ Tryz.underlying184 (by kernel_rfl) ?_
 refine cg (R:=aX) (S:=aG (ah 4 kB) (ah 91 (ah 3 aX))) rfl (by kernel_rfl) op3 ?_
 refine cg (R:=ah 4 kB) (S:=ah 91 (ah 3 aX)) rfl (by kernel_rfl) aaL ?_
 exact eQ rfl (by kernel_rfl) aaM
theorem abF:Opens Tryz.prog 25 (ah 184 (aG aX (aG (ah 4 kB) (ah 91 (ah 3 aX))))):=fh Tryz.underlying25 (by kernel_rfl) (by decide) aaN
theorem aaO:Opens Tryz.prog 163 (aG aX (aG aX (aG aX aX))):=by
 refine cZ Tryz.underlying163 (by kernel_rfl) ?_
 refine cg (R:=aX) (S:=aG (aX) (aG (aX) (aX))) rfl (by kernel_rfl) op3 ?_
 refine cg (R:=aX) (S:=aG (aX) (aX)) rfl (by kernel_rfl) op3 ?_
 refine cg (R:=aX) (S:=aX) rfl (by kernel_rfl) op3 ?_
 exact eQ rfl (by kernel_rfl) op3
theorem abG:Opens Tryz.prog 54 (ah 163 (aG aX (aG aX (aG aX aX)))):=fh Tryz.underlying54 (by kernel_rfl) (by decide) aaO
theorem abH:Opens Tryz.prog 56 (ah 163 (aG aX (aG aX (aG aX aX)))):=by
 refine cZ Tryz.underlying56 (by kernel_rfl) ?_
 exact eQ rfl (by kernel_rfl) abG
theorem aaP:Opens Tryz.prog 187 (aG aX (aG (ah 163 (aG aX (aG aX (aG aX aX)))) aX)):=by
 refine cZ Tryz.underlying187 (by kernel_rfl) ?_
 refine cg (R:=aX) (S:=aG (ah 163 (aG aX (aG aX (aG aX aX)))) (aX)) rfl (by kernel_rfl) op3 ?_
 refine cg (R:=ah 163 (aG aX (aG aX (aG aX aX)))) (S:=aX) rfl (by kernel_rfl) abH ?_
 exact eQ rfl (by kernel_rfl) op3
theorem abI:Opens Tryz.prog 26 (ah 187 (aG aX (aG (ah 163 (aG aX (aG aX (aG aX aX)))) aX))):=fh Tryz.underlying26 (by kernel_rfl) (by decide) aaP
theorem abJ:Opens Tryz.prog 28 (aG (ah 184 (aG aX (aG (ah 4 kB) (ah 91 (ah 3 aX))))) (ah 187 (aG aX (aG (ah 163 (aG aX (aG aX (aG aX aX)))) aX)))):=by
 refine cZ Tryz.underlying28 (by kernel_rfl) ?_
 refine cg (R:=ah 184 (aG aX (aG (ah 4 kB) (ah 91 (ah 3 aX))))) (S:=ah 187 (aG aX (aG (ah 163 (aG aX (aG aX (aG aX aX)))) aX))) rfl (by kernel_rfl) abF ?_
 exact eQ rfl (by kernel_rfl) abI
theorem aaQ:Opens Tryz.prog 133 (aG aX (aG aX aX)):=by
 refine cZ Tryz.underlying133 (by kernel_rfl) ?_
 refine cg (R:=aX) (S:=aG (aX) (aX)) rfl (by kernel_rfl) op3 ?_
 refine cg (R:=aX) (S:=aX) rfl (by kernel_rfl) op3 ?_
 exact eQ rfl (by kernel_rfl) op3
theorem abK:Opens Tryz.prog 29 (ah 133 (aG aX (aG aX aX))):=fh Tryz.underlying29 (by kernel_rfl) (by decide) aaQ
theorem op9:Opens Tryz.prog 9 Eu:=Ib Tryz.underlying9
theorem abL:Opens Tryz.prog 31 (aG (aG aX (ah 179 (aG (ah 3 aX) (ah 172 (aG aX (aG aX (aG aX aX))))))) (aG (aG (ah 184 (aG aX (aG (ah 4 kB) (ah 91 (ah 3 aX))))) (ah 187 (aG aX (aG (ah 163 (aG aX (aG aX (aG aX aX)))) aX)))) (aG (ah 133 (aG aX (aG aX aX))) Eu))):=by
 refine cZ Tryz.underlying31 (by kernel_rfl) ?_
 refine cg (R:=aG aX (ah 179 (aG (ah 3 aX) (ah 172 (aG aX (aG aX (aG aX aX))))))) (S:=aG (aG (ah 184 (aG aX (aG (ah 4 kB) (ah 91 (ah 3 aX))))) (ah 187 (aG aX (aG (ah 163 (aG aX (aG aX (aG aX aX)))) aX)))) (aG (ah 133 (aG aX (aG aX aX))) (Eu))) rfl (by kernel_rfl) abE ?_
 refine cg (R:=aG (ah 184 (aG aX (aG (ah 4 kB) (ah 91 (ah 3 aX))))) (ah 187 (aG aX (aG (ah 163 (aG aX (aG aX (aG aX aX)))) aX)))) (S:=aG (ah 133 (aG aX (aG aX aX))) (Eu)) rfl (by kernel_rfl) abJ ?_
 refine cg (R:=ah 133 (aG aX (aG aX aX))) (S:=Eu) rfl (by kernel_rfl) abK ?_
 exact eQ rfl (by kernel_rfl) op9
theorem aaR {W:World} {base:Nat} {z:Value} {H:Type} {enc:TypeId×Value->H} {d:DataW H} {p:List MemPlace} (hv:Value.okWide Tryz.prog W .any base 31 z) (h:DataW.Trod enc Tryz.prog W 0 (fun _=>true) true 31 z d p) :
  ∃(x:(Int×(List ((List Int)×(List (Int×Int×Int×Int)))))×((List (Int×(List Bool)×(List (List Int))))×(List (Int×((List (Int×Int×Int×Int)))×Int)))×(List (Int×Int×Int))×ByteArray) (v0:Value) (v1:Value) (v2:Value) (v3:Value),z= .agg #[.int .i64 x.1.1,v0,v1,v2,v3,.string x.2.2.2] /\Data.lim x/\(ah 179 (aG (ah 3 aX) (ah 172 (aG aX (aG aX (aG aX aX)))))).rd (hp W) [v0] x.1.2/\(ah 184 (aG aX (aG (ah 4 kB) (ah 91 (ah 3 aX))))).rd (hp W) [v1] x.2.1.1/\(ah 187 (aG aX (aG (ah 163 (aG aX (aG aX (aG aX aX)))) aX))).rd (hp W) [v2] x.2.1.2/\(ah 133 (aG aX (aG aX aX))).rd (hp W) [v3] x.2.2.1:=by
 obtain ⟨fuel,hf⟩:=h
 obtain ⟨⟨cs⟩,rfl,-⟩:=okWide_struct Tryz.underlying31 hv
 obtain ⟨x,hx,hl⟩:=abL.out enc W _ _ _ hf
 have hx:(aG (aG aX (ah 179 (aG (ah 3 aX) (ah 172 (aG aX (aG aX (aG aX aX))))))) (aG (aG (ah 184 (aG aX (aG (ah 4 kB) (ah 91 (ah 3 aX))))) (ah 187 (aG aX (aG (ah 163 (aG aX (aG aX (aG aX aX)))) aX)))) (aG (ah 133 (aG aX (aG aX aX))) Eu))).rd (hp W) cs x:=hx
 obtain ⟨_,_,rfl,⟨_,_,rfl,rfl,r0⟩,⟨_,_,rfl,⟨_,_,rfl,r1,r2⟩,⟨_,_,rfl,r3,rfl⟩⟩⟩:=hx
 obtain ⟨v0,rfl⟩:=wk r0 rfl
 obtain ⟨v1,rfl⟩:=wk r1 rfl
 obtain ⟨v2,rfl⟩:=wk r2 rfl
 obtain ⟨v3,rfl⟩:=wk r3 rfl
 exact ⟨x,v0,v1,v2,v3,rfl,hl,r0,r1,r2,r3⟩
theorem aaS:Opens Tryz.prog 174 (aG kB (aG aX (aG aX (aG aX aX)))):=by
 refine cZ Tryz.underlying174 (by kernel_rfl) ?_
 refine cg (R:=kB) (S:=aG aX (aG aX (aG aX aX))) rfl (by kernel_rfl) op4 ?_
 exact eQ rfl (by kernel_rfl) Zu
theorem abM:Opens Tryz.prog 66 (ah 174 (aG kB (aG aX (aG aX (aG aX aX))))):=fh Tryz.underlying66 (by kernel_rfl) (by decide) aaS
theorem abN:Opens Tryz.prog 68 (ah 174 (aG kB (aG aX (aG aX (aG aX aX))))):=by
 refine cZ Tryz.underlying68 (by kernel_rfl) ?_
 exact eQ rfl (by kernel_rfl) abM
theorem aaT {W:World} {base:Nat} {z:Value} {H:Type} {enc:TypeId×Value->H} {d:DataW H} {p:List MemPlace} (hv:Value.okWide Tryz.prog W .any base 68 z) (h:DataW.Trod enc Tryz.prog W 0 (fun _=>true) true 68 z d p) :
  ∃(x:(List (Bool×(Int×Int×Int×Int)))) (v0:Value),z= .agg #[v0] /\Data.lim x/\(ah 174 (aG kB (aG aX (aG aX (aG aX aX))))).rd (hp W) [v0] x:=by
 obtain ⟨fuel,hf⟩:=h
 obtain ⟨⟨cs⟩,rfl,-⟩:=okWide_struct Tryz.underlying68 hv
 obtain ⟨x,hx,hl⟩:=abN.out enc W _ _ _ hf
 have hx:(ah 174 (aG kB (aG aX (aG aX (aG aX aX))))).rd (hp W) cs x:=hx
 have r0:=hx
 obtain ⟨v0,rfl⟩:=wk r0 rfl
 exact ⟨x,v0,rfl,hl,r0⟩
end D
open D (Data)
theorem yL {H:Type} {enc:TypeId×Value->H} {a:Assume} {C:Checked} {os:Os} {f:FuncId} {fn:Func} {s:ChangeSpec} {conds:List PathCond} {apart fresh handsOn again:Bool} {X:World->Array Value->Prop}
  (hX: ∀(w w':World) (args:Array Value),w.heap=w'.heap->X w args->X w' args)
  (own:ownKnob C.prog.godebug=none) (started:os.Started) (noInit:C.prog.inits.idxOf? f=none) (hfn:C.prog.funcs[f]? =some fn)
  (witness: ∃(w:World) (tape:Tape) (i:Input),w.os=os/\(w.forCall tape i).Shaped C.prog/\i.vars= [] /\Input.okWide C.prog (w.forCall tape i) .any w.heap.size f i /\
   ((s.pre enc C.prog fn conds apart (w.forCall tape i).memory i.args/\X (w.forCall tape i).memory i.args)/\sizedMet enc C.prog fn (OpenSpec.ofChange s) apart (w.forCall tape i).memory i.args)/\a.holds C.prog (lone (Frame.enter C.prog f i.args .normal) [] (w.forCall tape i)))
  (contract: ∀(W:World) (base:Nat) (args:Array Value) (ds gs:List (DataW H)) (before:List MemPlace),
   (∀(j:Nat) t v,fn.params[j]? =some t->args[j]? =some v->Value.okWide C.prog W .any base t v)->
   DataW.Whole enc C.prog fn.params.toList s.vars apart W args.toList ds gs before->X W args->W.ShapedOpen C.prog->
   Calls C.prog f args W fun e W'=> ∃v,e= .returned v/\s.post enc C.prog fn apart fresh handsOn again W args v W') :
  ReturnsInHanded a C os f .any (fun w args=>(s.pre enc C.prog fn conds apart w args/\X w args)/\sizedMet enc C.prog fn (OpenSpec.ofChange s) apart w args) (s.post enc C.prog fn apart fresh handsOn again):=by
 refine returnsInHanded_of_calls own started noInit witness ?_
 intro w tape i _ hsh _ hok hpre _
 obtain ⟨_,_,_,fn',hfn',_,_,_,_,hval⟩:=hok
 have e:fn'=fn:=ae (hfn'.symm.trans hfn)
 subst e
 obtain ⟨⟨⟨ds,gs,before,hw,hc⟩,hx⟩,_⟩:=hpre
 have hw':=DataW.Whole.of_heap (w':=w.forCall tape i) (by rfl) hw
 refine (contract (w.forCall tape i) w.heap.size i.args ds gs before hval hw' (hX (w.forCall tape i).memory (w.forCall tape i) _ rfl hx) hsh).mono fun e W' ⟨v,he,hp⟩=>?_
 subst he
 exact ChangeSpec.post_blind hp
theorem Vt (u:TypeId) (h:Tryz.prog.typeName? 3 u=some "*errors.errorString"):u=362:=
 typeName_ptr_named (nm:= "errors.errorString") (by kernel_rfl) (by kernel_rfl) (by decide) u h
theorem DC {W:World} (h:laidMetH Tryz.prog Rows.fnExactEngineApplyRow.laid W) (hsh:W.ShapedOpen Tryz.prog):D.LayW Tryz.prog W:=by
 rw[MakeChecks.laidMetH_plain _ _ _ (by kernel_rfl)] at h
 obtain ⟨a5,s5,hv5,-⟩:=laid_sentinel (g:=2) (ti:=243) (tp:=362) (te:=364) (ts:=9) (h.tail.tail.tail.tail) (by kernel_rfl) (by kernel_rfl) Tryz.underlying243 Vt Tryz.underlying362 Tryz.underlying364 rfl rfl Tryz.underlying9 (by kernel_rfl) (by kernel_rfl)
 obtain ⟨a6,s6,hv6,-⟩:=laid_sentinel (g:=1) (ti:=243) (tp:=362) (te:=364) (ts:=9) (h.tail.tail.tail.tail.tail) (by kernel_rfl) (by kernel_rfl) Tryz.underlying243 Vt Tryz.underlying362 Tryz.underlying364 rfl rfl Tryz.underlying9 (by kernel_rfl) (by kernel_rfl)
 have ht:Lib.TabIs Tryz.prog W "internal/strconv.uint64pow10" .u64 Lib.pow10Tab:=Lib.tabIs_of_head (g:=3) (by kernel_rfl) (by kernel_rfl) Tryz.underlying343 Tryz.underlying321 (by kernel_rfl) (by kernel_rfl) (h.tail.tail)
 exact ⟨⟨0,(R.XS.s1_3 W hsh).imp fun m hm=>⟨by kernel_rfl,hm⟩⟩,ht,⟨_,_,hv6⟩,⟨_,_,hv5⟩⟩
theorem CF (W:World) (hL:laidMetH Tryz.prog Rows.fnExactEngineApplyRow.laid W) (hsh:W.ShapedOpen Tryz.prog) (args:Array Value) (H:Type) (enc:TypeId×Value->H) (base:Nat) (ds gs:List (DataW H)) (before:List MemPlace)
  (hval: ∀(j:Nat) t v,Tryz.f10.params[j]? =some t->args[j]? =some v->Value.okWide Tryz.prog W .any base t v)
  (hW:DataW.Whole enc Tryz.prog Tryz.f10.params.toList Rows.fnExactEngineApplySpec.vars false W args.toList ds gs before) :
  Calls Tryz.prog 10 args W fun e W'=> ∃v,e= .returned v/\Rows.fnExactEngineApplySpec.post enc Tryz.prog Tryz.f10 false true false false W args v W':=by
 have hW':=hW
 obtain ⟨p,q,hA,hV,rfl,hfz,hnd⟩:=hW
 rw[Tryz.params10] at hA hval
 obtain ⟨z0,vs0,d0,ds0,p0,q0,hargs,rfl,rfl,h0,r0⟩:=trodAll_cons hA
 obtain ⟨z1,vs1,d1,ds1,p1,q1,rfl,rfl,rfl,h1,r1⟩:=trodAll_cons r0
 obtain ⟨rfl,rfl,rfl⟩:=trodAll_nil r1
 obtain rfl:args= #[z0,z1]:=by cases args;simp_all
 obtain ⟨rfl,rfl⟩:=trodVars_none hV
 obtain ⟨x0,v0_0,v0_1,v0_2,v0_3,rfl,l0,r0_0,r0_1,r0_2,r0_3⟩:=D.aaR (hval 0 _ _ rfl rfl) h0
 obtain ⟨x1,v1_0,rfl,l1,r1_0⟩:=D.aaT (hval 1 _ _ rfl rfl) h1
 have hc:=D.si x0 x1 true (D.DB x0 x1 l0 l1) (I:=D.hp W) (w0:=W) v0_0 v0_1 v0_2 v0_3 v1_0 r0_0 r0_1 r0_2 r0_3 r1_0 (D.Lay.of (DC hL hsh)) W [] (D.St.init W)
 refine hc.mono fun e W' ⟨v,he,hv,hs⟩=>?_
 subst he;subst hv
 exact ⟨_,rfl,Uh (f:=Tryz.f10) (s:=Rows.fnExactEngineApplySpec) 4 Tryz.underlying4 rfl (by kernel_rfl) rfl hW' rfl rfl rfl (D.St.below hs)⟩
set_option maxRecDepth 100000 in
theorem xC (os:Os) (started:os.Started) (H:Type) (enc:TypeId×Value->H) :
  ReturnsInHanded {} Tryz.checked os 10 .any (fun w args=>(Rows.fnExactEngineApplySpec.pre enc Tryz.prog Tryz.f10 [] false w args/\laidMetH Tryz.prog Rows.fnExactEngineApplyRow.laid w)/\sizedMet enc Tryz.prog Tryz.f10 (OpenSpec.ofChange Rows.fnExactEngineApplySpec) false w args) (Rows.fnExactEngineApplySpec.post enc Tryz.prog Tryz.f10 false true false false):=by
 refine yL (C:=Tryz.checked) (X:=fun w _=>laidMetH Tryz.prog Rows.fnExactEngineApplyRow.laid w) (fun _ _ _ hh h=>h.of_heap hh) own started (by kernel_rfl) Tryz.func10
  (ChangeSpec.witness_shaped (enc:=enc) (C:=Tryz.checked) (os:=os) (X:=fun w _=>laidMetH Tryz.prog Rows.fnExactEngineApplyRow.laid w) false (World.laidAll Tryz.prog os Rows.fnExactEngineApplyRow.laid) #[.agg #[.int .i64 0,.slice none 0 0,.slice none 0 0,.slice none 0 0,.slice none 0 0,.string ⟨#[]⟩],.agg #[.slice none 0 0]] 8 (World.laidAll_os _ _ _) (World.shaped_of_ZipB (by kernel_rfl) (by kernel_rfl)) (by kernel_rfl) (by kernel_rfl) (by kernel_rfl) (by rw[MakeChecks.laidMetH_plain _ _ _ (by kernel_rfl)];exact laidMet_laidAll _ (by kernel_rfl) (by kernel_rfl))) ?_
 intro W base args ds gs before hval hW hL hsh
 exact CF W hL hsh args H enc base ds gs before hval hW
theorem yM:Rows.FnExactEngineApplySaid:=
 OpenClaim.holds_of_wide 10 Tryz.f10 rfl rfl rfl rfl rfl rfl rfl ⟨rfl,rfl,rfl,rfl,rfl⟩ rfl rfl rfl rfl rfl (by kernel_rfl) Tryz.func10 closedLEngineApply
  (of_decide_eq_true (by kernel_rfl)) (by unfold Func.isWrapper;first | (rw[if_pos (by decide +kernel)];kernel_rfl) | (rw[if_neg (by decide +kernel)];exact ⟨rfl,rfl⟩))
  (fun os started H enc _=>xC os started H enc)
theorem cardLEngineApply:Rows.FnExactEngineApplyCardSaid:=
 Claim7.holds_tied_plain_at .later [] [.data,.data,.data,.data,.sentinel,.sentinel,.pinned] true (true,"cff0790423b5df951cc606f0fc8fb4ad82e67faf05c9a9573691dcb8680664a3") true
  yM (fun _ h=>by cases h) (by kernel_rfl) (fun _ h=>by cases h) fnExactEngineApply_row_tie rfl ⟨rfl,rfl⟩ kf4EngineApply rfl
  (fun f fn hf hfn=>by
   obtain rfl:f=10:=ae (kf1EngineApply.symm.trans hf) |>.symm
   obtain rfl:fn=Tryz.f10:=(ae (Tryz.func10.symm.trans hfn)).symm
   exact ⟨kf2EngineApply,fun j t ht=>by
    rw[Tryz.params10] at ht
    have hm:t ∈ [31,68]:=by simpa using Array.mem_of_getElem? ht
    have hall:([31,68].all fun u=> !Tryz.prog.wantsStandIn u)=true:=by kernel_rfl
    exact (show Tryz.prog.wantsStandIn t=false by simpa using List.all_eq_true.1 hall t hm)⟩)
  kf3EngineApply
end Go.Proofs.YtilionjghdjbdaaGreatDoor
