/- FnExactEngineAnswers: for every input the law returns true and changes nothing that was there. Part 8 of 9. -/
import Derived.Test.YtfkokkokjgjkgaaGreatDoorNC6
set_option synthInstance.maxSize 20000
set_option synthInstance.maxHeartbeats 2000000
set_option linter.unusedVariables false
set_option linter.unusedSimpArgs false
set_option linter.unnecessarySimpa false
set_option linter.unusedSectionVars false
set_option maxRecDepth 1000000
namespace Go.Proofs.YtfkokkokjgjkgaaGreatDoor
open Go.IntKind (i64)
namespace D
open Go.RowKit
def Ck (y:ArT):Int×Bool:=y.1
theorem aab {g:GrT} (G:GOk g) {x:Nat} :pQ g x=some ((lx g.2 x).map Ck):=by
 unfold pQ
 have:=aO (f:=kJ g x) (fun i=>((lx (g.2.take i) x).map Ck,(i:Int))) g.2.length (fun i hi=>by
  unfold kJ
  simp only
  have hm:=G.m
  have l1:=ub (g.2.take i) x
  have l3:(g.2.take i).length<=12:=by rw[aI];omega
  rw[if_pos (by simp;omega),aq (by omega) (by omega)];simp only[aa]
  rw[vB hi,ae (by omega)]
  generalize nth g.2 (i:Int)=e
  have ea:lx (g.2.take i++ [e]) x=lx (g.2.take i) x++VQ e x:=by simp[lx]
  rw[ea,aS]
  generalize hL:(lx (g.2.take i) x).map Ck=L
  have hl:L.length<=24:=by rw[<-hL,List.length_map];omega
  unfold VQ
  by_cases c1:e.2.1=(x:Int)
  ·rw[if_pos (by simpa using c1),if_pos c1,aL (by simp;omega)];simp only[aa]
   by_cases c2:e.2.2.1=(x:Int)
   ·rw[if_pos (by simpa using c2),if_pos c2,aL (by simp;omega)];simp[Ck,fwd,inv]
   ·rw[if_neg (by simpa using c2),if_neg c2];simp[Ck,fwd,inv]
  ·rw[if_neg (by simpa using c1),if_neg c1];simp only[aa]
   by_cases c2:e.2.2.1=(x:Int)
   ·rw[if_pos (by simpa using c2),if_pos c2,aL (by simp;omega)];simp[Ck,fwd,inv]
   ·rw[if_neg (by simpa using c2),if_neg c2];simp[Ck,fwd,inv]) (by unfold kJ;simp) (mV (by have:=G.m;omega))
 have this:ak (kJ g x) aP (([] :List (Int×Bool)),0)=_:=this
 rw[this,List.take_length];rfl
theorem Lz {g:GrT} (G:GOk g) {j:Nat} (hj:j<g.2.length):iW g (nth g.2 (j:Int)).1=some (j:Int):=by
 unfold iW
 have hm:=G.m
 obtain ⟨o,e,hq⟩:=cz (f:=mY g (nth g.2 (j:Int)).1) (fun i s=>s=(i:Int)/\i<=j) (fun o=>o= .ret (j:Int)) 12 (s:=0) (by
  rintro i s hi ⟨rfl,hij⟩
  unfold mY
  rw[if_pos (by simp;omega),aq (by omega) (by omega)];simp only[aa]
  by_cases c:i=j
  ·subst c
   exact .inr ⟨_,by rw[if_pos (by simp)],(fun s' e=>by cases e),rfl⟩
  ·have h1:=G.lt (i:=i) (j:=j) (by omega) hj
   exact .inl ⟨by omega,_,by rw[if_neg (by simp;omega),ae (by omega)],rfl,by omega⟩) ⟨rfl,by omega⟩ (by unfold aP;omega)
 subst hq
 rw[e];rfl
theorem Ul {g:GrT} (G:GOk g) {x:Nat} {y:ArT} (h:y∈lx g.2 x): ∃(j:Int) (e:EdT),iW g y.1.1=some j/\aG g.2 j=some e/\ga e y.1.2=some y.2.1/\n9 e y.1.2=some y.2.2:=by
 obtain ⟨e,he,hy⟩:=List.mem_flatMap.1 h
 obtain ⟨j,hj,rfl⟩:=BU he
 obtain ⟨h1,h2,h3⟩:=G.edge _ he
 refine ⟨j,nth g.2 (j:Int),?_,aq (by omega) (by omega),?_,?_⟩
 all_goals
  unfold VQ at hy
  rcases aH hy with hy | hy <;> split at hy
  ·obtain rfl:=au hy
   simp only[fwd]
   first | exact Lz G hj | (unfold ga;rw[b7 (n:=2*_) (by omega) (by omega)];rfl) | (unfold n9;rfl)
  ·cases hy
  ·obtain rfl:=au hy
   simp only[inv]
   first | exact Lz G hj | (unfold ga;rw[b7 (n:=2*_) (by omega) (by omega),b7 (by omega) (by omega)];rfl) | (unfold n9;rfl)
  ·cases hy
abbrev Yd:=(Int×Bool)×Int×Int
def stA (g:GrT) (a:AutT) (x s:Nat) (y:ArT):List Yd:=(behind a s (nth g.1 x) y.2.1).map fun t=>(y.1,y.2.2,t)
def stV (g:GrT) (a:AutT) (x s:Nat):List Yd:=(lx g.2 x).flatMap (stA g a x s)
theorem aac (g:GrT) (a:AutT) (x s:Nat):(stV g a x s).map (fun p=>p.2.1*(a.2.1.length:Int)+p.2.2)=nbV g a x s:=by
 unfold stV nbV
 rw[List.map_flatMap]
 congr 1
 funext y
 unfold stA nbA
 rw[List.map_map];rfl
section
variable {g:GrT} {a:AutT} (G:GOk g) (V:VA a a.2.1.length) (hn:a.2.1.length<=12)
include G V hn
theorem Ye {x s:Nat} {y:ArT} (hx:x<g.1.length) (hs:s<a.2.1.length) (hy:y∈lx g.2 x):(stA g a x s y).length<=30:=by
 unfold stA;rw[List.length_map]
 exact (w5 G V hn (s:=s) ⟨by omega,by omega⟩ (G.val _ (bq (by omega) (by omega))) (B1 G hy).1).2.1
theorem abV {x:Nat} {i:Nat} {e:EdT} {o:List Yd} {y:ArT} {C:Nat} (hC:C<2 ^ a.2.1.length) (hy:y∈lx g.2 x) (hi:aG ((lx g.2 x).map Ck) (i:Int)=some (Ck y)) (he:ga e y.1.2=some y.2.1) :
  ak (ix a (C:Int) ((lx g.2 x).map Ck) (o,(i:Int)) e) aP (0,0)=some (.brk ((afS a y.2.1.toNat C a.2.1.length:Int),(a.2.1.length:Int))):=by
 obtain ⟨k0,k1⟩:=(B1 G hy).1
 have:=aO (f:=ix a (C:Int) ((lx g.2 x).map Ck) (o,(i:Int)) e) (fun q=>((afS a y.2.1.toNat C q:Int),(q:Int))) a.2.1.length (fun q hq=>by
  unfold ix
  simp only
  have he:ga (e.1,e.2.1,e.2.2.1,e.2.2.2) (Ck y).2=some y.2.1:=he
  have ek:y.2.1=((y.2.1.toNat:Nat):Int):=by omega
  have em:=V.get2 (s:=(q:Int)) (k:=y.2.1.toNat) (by omega) (by omega) (by omega)
  rw[<-ek] at em
  have hlt:=QQ V (k:=y.2.1.toNat) (C:=C) (by omega) q (by omega)
  have hC':C<2 ^ 62:=ay hC (p62 (by omega))
  have hmv:=(V.mv (s:=(q:Int)) (k:=y.2.1.toNat) (by omega) (by omega) (by omega)).2
  rw[if_pos (by simp;omega),V.get (by omega) (by omega)];simp only[aa]
  rw[hi];simp only[aa]
  rw[he];simp only[aa]
  rw[em];simp only[aa]
  rw[kp (by omega),BX hC' (by omega),ae (by omega),afS];simp only[aa]
  by_cases b:C.testBit q=true
  ·rw[if_pos b]
   by_cases c:0<=D.mv a (q:Int) y.2.1.toNat
   ·obtain ⟨t,ht⟩: ∃t:Nat,D.mv a (q:Int) y.2.1.toNat=(t:Int):=⟨_,(Int.toNat_of_nonneg c).symm⟩
    rw[if_pos (by simpa using c),if_pos ⟨b,c⟩,kp c,ht,ye (by omega),Ly (ay hlt (p62 (by omega))) (Nat.pow_lt_pow_right (by decide) (by omega))];rfl
   ·rw[if_neg (by simpa using c),if_neg (fun h=>c h.2)];rfl
  ·rw[if_neg b,if_neg (fun h=>b h.1)];rfl) (by unfold ix;simp) (mV (by omega))
 exact this
theorem abW {x:Nat} {i:Nat} {e:EdT} {o:List Yd} {y:ArT} {m:Nat} (hm:m<2 ^ a.2.1.length) (ho:o.length<=100000) (hi:aG ((lx g.2 x).map Ck) (i:Int)=some (Ck y)) (he:n9 e y.1.2=some y.2.2) {z:Int} :
  ak (iy a ((lx g.2 x).map Ck) (o,(i:Int)) e ((m:Int),z)) aP (o,0)=some (.brk (o++(e7 m 30).map (fun t=>(y.1,y.2.2,t)),(a.2.1.length:Int))):=by
 have:=aO (f:=iy a ((lx g.2 x).map Ck) (o,(i:Int)) e ((m:Int),z)) (fun q=>(o++(e7 m q).map (fun t=>(y.1,y.2.2,t)),(q:Int))) a.2.1.length (fun q hq=>by
  unfold iy
  simp only
  have he:n9 (e.1,e.2.1,e.2.2.1,e.2.2.2) (Ck y).2=some y.2.2:=he
  have hm':m<2 ^ 62:=ay hm (p62 (by omega))
  have hl:=mR m q
  rw[if_pos (by simp;omega),kp (by omega),BX hm' (by omega),ae (by omega),ko];simp only[aa]
  by_cases b:m.testBit q=true
  ·rw[if_pos b,if_pos b,hi];simp only[aa]
   rw[he];simp only[aa]
   rw[aL (by simp;omega)];simp only[aa,aS,aA];rfl
  ·rw[if_neg b,if_neg b];rfl) (by unfold iy;simp) (mV (by omega))
 rw[ua hm (show a.2.1.length<=30 by omega)]
 simpa [e7] using this
theorem Yf {x s:Nat} (hx:x<g.1.length) (hs:s<a.2.1.length):mC g a x s=some (stV g a x s):=by
 have hv:=G.val _ (bq (xs:=g.1) (i:=(x:Int)) (by omega) (by omega))
 have ec:=BY V hn (s:=(s:Int)) ⟨by omega,by omega⟩ hv
 have hC:=Uj V hn (s:=(s:Int)) ⟨by omega,by omega⟩ hv
 unfold mC
 rw[aq (by omega) (by omega)];simp only[aa]
 have ec:cr (a.1,a.2.1,a.2.2) (s:Int) (nth g.1 (x:Int))=_:=ec
 have ef:pQ (g.1,g.2) (x:Int)=_:=aab G
 rw[ec,ef];simp only[aa]
 generalize hCC:cS a (s:Int) (nth g.1 (x:Int))=C at hC
 have l1:=ub g.2 x
 have hm:=G.m
 have:=aO (f:=iz g a (C:Int) ((lx g.2 x).map Ck)) (fun i=>(((lx g.2 x).take i).flatMap (stA g a x s),(i:Int))) (lx g.2 x).length (fun i hi=>by
  unfold iz
  simp only
  have hy:=List.getElem_mem hi
  generalize hyy:(lx g.2 x)[i] =y at hy
  have hi2:aG ((lx g.2 x).map Ck) (i:Int)=some (Ck y):=by rw[az (by simpa using hi)];simp[hyy]
  obtain ⟨j,e,e1,e2,e3,e4⟩:=Ul G hy
  obtain ⟨k0,k1⟩:=(B1 G hy).1
  rw[if_pos (by simp;omega),hi2];simp only[aa]
  have e1:iW (g.1,g.2) (Ck y).1=_:=e1
  rw[e1];simp only[aa]
  rw[e2];simp only[aa]
  rw[ah (abV G V hn hC hy hi2 e3)]
  have hlt:=QQ V (k:=y.2.1.toNat) (C:=C) (by omega) a.2.1.length (aF _)
  have hol:=tk (f:=stA g a x s) (B:=30) (xs:=(lx g.2 x).take i) fun z hz=>Ye G V hn hx hs (List.mem_of_mem_take hz)
  have hol2:((lx g.2 x).take i).length<=24:=by rw[aI];omega
  rw[ah (abW G V hn hlt (by omega) hi2 e4),ae (by omega)]
  congr 3
  have et:(lx g.2 x).take (i+1)=(lx g.2 x).take i++ [y]:=by rw[List.take_add_one];simp[hi,hyy]
  rw[et,List.flatMap_append]
  congr 1
  simp only[List.flatMap_cons,List.flatMap_nil,List.append_nil]
  unfold stA behind
  rw[hCC,ua hC (show a.2.1.length<=30 by omega),JR]) (by unfold iz;simp) (mV (by omega))
 rw[List.take_length] at this
 have this:ak (iz g a (C:Int) ((lx g.2 x).map Ck)) aP (([] :List Yd),0)=_:=this
 rw[ah this];rfl
end
end D
namespace D
open Go.RowKit
abbrev BfT:=List Int×List Int
def VS (d:Int) (s:BfT) (x:Int):BfT:=if nth s.1 x<0 then (s.1.set x.toNat d,s.2++ [x]) else s
def DS (d:Int) (s:BfT) (xs:List Int):BfT:=xs.foldl (VS d) s
theorem H2 (d:Int) (s:BfT) (xs:List Int) (x:Int):DS d s (xs++ [x])=VS d (DS d s xs) x:=by simp[DS]
structure BI (N:Nat) (s:BfT):Prop where
 len:s.1.length=N
 nd:s.2.Nodup
 rng: ∀x∈s.2,0<=x/\x<N
 seen: ∀x:Int,0<=x->x<N->(nth s.1 x<0↔x∉s.2)
 top: ∀x:Int,0<=x->x<N-> -1<=nth s.1 x/\nth s.1 x<s.2.length
theorem BI.le {N:Nat} {s:BfT} (h:BI N s):s.2.length<=N:=by
 have:=h.nd.length_le_of_subset (l₂:=(List.range N).map fun i:Nat=>(i:Int)) (fun x hx=>by
  obtain ⟨h0,h1⟩:=h.rng x hx
  exact List.mem_map.2 ⟨x.toNat,List.mem_range.2 (by omega),by omega⟩)
 simpa using this
theorem BI.one {N:Nat} {s:BfT} (h:BI N s) {d x:Int} (hx:0<=x/\x<N) (hd:0<=d/\d<=s.2.length):BI N (VS d s x)/\s.2 <+:(VS d s x).2/\ ∀y,0<=y->0<=nth s.1 y->nth (VS d s x).1 y=nth s.1 y:=by
 unfold VS
 split
 ·rename_i hn
  have hnot:=(h.seen x hx.1 hx.2).1 hn
  refine ⟨⟨by simp[h.len],?_,?_,?_,?_⟩,List.prefix_append _ _,?_⟩
  ·exact List.nodup_append.2 ⟨h.nd,by simp,by rintro a ha b hb rfl;simp at hb;exact hnot (hb ▸ ha)⟩
  ·intro y hy
   rcases aH hy with hy | hy
   ·exact h.rng y hy
   ·obtain rfl:y=x:=by simpa using hy
    exact hx
  ·intro y h0 h1
   by_cases e:x=y
   ·subst e
    rw[pf hx.1 (by rw[h.len];exact hx.2)]
    simp;omega
   ·rw[tV hx.1 h0 e,h.seen y h0 h1]
    simp;omega
  ·intro y h0 h1
   by_cases e:x=y
   ·subst e
    rw[pf hx.1 (by rw[h.len];exact hx.2)]
    simp;omega
   ·rw[tV hx.1 h0 e]
    have:=h.top y h0 h1
    simp;omega
  ·intro y h0 h1
   refine tV hx.1 h0 ?_
   rintro rfl
   omega
 ·exact ⟨h,List.prefix_refl _,fun y _ _=>rfl⟩
theorem BI.all {N:Nat} {d:Int} : ∀ {xs:List Int} {s:BfT},BI N s->(∀x∈xs,0<=x/\x<N)->(0<=d/\d<=s.2.length)->BI N (DS d s xs)/\s.2 <+:(DS d s xs).2/\ ∀y,0<=y->0<=nth s.1 y->nth (DS d s xs).1 y=nth s.1 y
 | [],s,h,_,_=>⟨h,List.prefix_refl _,fun _ _ _=>rfl⟩
 | x::xs,s,h,hx,hd=>by
  obtain ⟨h1,h2,h3⟩:=h.one (hx x (by simp)) hd
  have hl:=h2.length_le
  obtain ⟨k1,k2,k3⟩:=BI.all (xs:=xs) h1 (fun y hy=>hx y (by simp[hy])) ⟨hd.1,by omega⟩
  refine ⟨k1,h2.trans k2,fun y h0 hy=>?_⟩
  have e:=h3 y h0 hy
  exact (k3 y h0 (by rw[e];exact hy)).trans e
def bsS (nx:Int->List Int) (N:Nat) (v:Int):Nat->BfT
 | 0=>((List.replicate N (-1)).set v.toNat 0,[v])
 | i+1=>match (bsS nx N v i).2[i]? with
  | some x=>DS (nth (bsS nx N v i).1 x+1) (bsS nx N v i) (nx x)
  | none=>bsS nx N v i
section
variable {nx:Int->List Int} {N:Nat} {v:Int} (hv:0<=v/\v<N) (hn: ∀x:Int,0<=x->x<N-> ∀y∈nx x,0<=y/\y<N)
include hv
theorem Yg {x:Int} (h0:0<=x) (h1:x<N):nth (List.replicate N (-1:Int)) x= -1:=by
 have:x.toNat<N:=by omega
 simp[nth,List.getD_eq_getElem?_getD,List.getElem?_replicate,this]
theorem BI.zero:BI N (bsS nx N v 0):=by
 refine ⟨by simp[bsS],by simp[bsS],fun x hx=>?_,fun x h0 h1=>?_,fun x h0 h1=>?_⟩
 ·obtain rfl:x=v:=by simpa [bsS] using hx
  exact hv
 all_goals
  unfold bsS
  by_cases e:v=x
  ·subst e
   rw[pf hv.1 (by simpa using hv.2)]
   simp
  ·rw[tV hv.1 h0 e,Yg hv h0 h1]
   first | omega | (simp;omega) | simp
include hn
theorem FE {i:Nat} (h:BI N (bsS nx N v i)):BI N (bsS nx N v (i+1))/\(bsS nx N v i).2 <+:(bsS nx N v (i+1)).2:=by
 rw[bsS]
 split
 ·rename_i x hx
  have hm:=List.mem_of_getElem? hx
  obtain ⟨x0,x1⟩:=h.rng x hm
  have hp: ¬nth (bsS nx N v i).1 x<0:=fun c=>(h.seen x x0 x1).1 c hm
  have ht:=h.top x x0 x1
  obtain ⟨k1,k2,_⟩:=h.all (xs:=nx x) (d:=nth (bsS nx N v i).1 x+1) (hn x x0 x1) ⟨by omega,by omega⟩
  exact ⟨k1,k2⟩
 ·exact ⟨h,List.prefix_refl _⟩
theorem B2: ∀i,BI N (bsS nx N v i)
 | 0=>BI.zero hv
 | i+1=>(FE hv hn (B2 i)).1
theorem QV: ∃K,K<=N/\K=(bsS nx N v K).2.length/\ ∀i,i<K->i<(bsS nx N v i).2.length:=by
 have key: ∀m i,i+m=N->(∀j,j<i->j<(bsS nx N v j).2.length)-> ∃K,K<=N/\K=(bsS nx N v K).2.length/\ ∀i,i<K->i<(bsS nx N v i).2.length:=by
  have hge: ∀i,(∀j,j<i->j<(bsS nx N v j).2.length)->i<=(bsS nx N v i).2.length:=by
   intro i hj
   cases i with
   | zero=>omega
   | succ i =>
    have:=hj i (by omega)
    have hp:=(FE hv hn (B2 hv hn i)).2.length_le
    omega
  intro m
  induction m with
  | zero =>
   intro i hi hj
   have h1:=(B2 hv hn i).le
   have h2:=hge i hj
   exact ⟨i,by omega,by omega,hj⟩
  | succ m ih =>
   intro i hi hj
   by_cases h:i<(bsS nx N v i).2.length
   ·exact ih (i+1) (by omega) fun j hj'=>by
     by_cases e:j=i
     ·subst e;exact h
     ·exact hj j (by omega)
   ·have h2:=hge i hj
    exact ⟨i,by omega,by omega,hj⟩
 exact key N 0 (by omega) (by omega)
end
end D
namespace D
open Go.RowKit
theorem Yh:(List.range 61).all (fun N=>decide (bU [-1] (N:Int)=some (List.replicate N (-1))))=true:=by kernel_rfl
theorem abX {N:Nat} (h:N<=60):bU [-1] (N:Int)=some (List.replicate N (-1)):=
 of_decide_eq_true (List.all_eq_true.1 Yh N (List.mem_range.2 (by omega)))
theorem Um {α:Type} {xs:List α} {i:Nat} {x:α} (h:i<=xs.length):(xs++ [x]).drop i=xs.drop i++ [x]:=List.drop_append_of_le_length h
theorem DT {α:Type} {xs:List α} {i:Nat} {x:α} (h:xs[i]? =some x):aG (xs.drop i) 0=some x:=by
 unfold aG
 rw[if_pos (by decide)]
 simpa using h
section
variable {nx:Int->List Int} {N:Nat} {v:Int} (hN:N<=60) (hv:0<=v/\v<N) (hn: ∀x:Int,0<=x->x<N-> ∀y∈nx x,0<=y/\y<N) (hl: ∀x,(nx x).length<=100000)
include hN hv hn hl
theorem Yi {i:Nat} {x:Int} (hx:(bsS nx N v i).2[i]? =some x) (j:Nat) :
  BI N (DS (nth (bsS nx N v i).1 x+1) (bsS nx N v i) ((nx x).take j))/\(DS (nth (bsS nx N v i).1 x+1) (bsS nx N v i) ((nx x).take j)).2[i]? =some x/\nth (DS (nth (bsS nx N v i).1 x+1) (bsS nx N v i) ((nx x).take j)).1 x=nth (bsS nx N v i).1 x/\(0<=x/\x<N)/\(0<=nth (bsS nx N v i).1 x/\nth (bsS nx N v i).1 x<60)/\i<(DS (nth (bsS nx N v i).1 x+1) (bsS nx N v i) ((nx x).take j)).2.length:=by
 have h:=B2 hv hn i
 have hm:=List.mem_of_getElem? hx
 obtain ⟨x0,x1⟩:=h.rng x hm
 have hp: ¬nth (bsS nx N v i).1 x<0:=fun c=>(h.seen x x0 x1).1 c hm
 have ht:=h.top x x0 x1
 have hle:=h.le
 obtain ⟨k1,k2,k3⟩:=h.all (xs:=(nx x).take j) (d:=nth (bsS nx N v i).1 x+1) (fun y hy=>hn x x0 x1 y (List.mem_of_mem_take hy)) ⟨by omega,by omega⟩
 obtain ⟨t,ht'⟩:=k2
 have hi:=(List.getElem?_eq_some_iff.1 hx).1
 have e:(DS (nth (bsS nx N v i).1 x+1) (bsS nx N v i) ((nx x).take j)).2[i]? =some x:=by
  rw[<-ht',List.getElem?_append_left hi,hx]
 exact ⟨k1,e,k3 x x0 (by omega),⟨x0,x1⟩,⟨by omega,by omega⟩,(List.getElem?_eq_some_iff.1 e).1⟩
theorem abY {i:Nat} {x:Int} (hx:(bsS nx N v i).2[i]? =some x) :
  ak (kR (nx x)) aP ((bsS nx N v i).2.drop i,0,(bsS nx N v i).1)=some (.brk ((bsS nx N v (i+1)).2.drop i,((nx x).length:Int),(bsS nx N v (i+1)).1)):=by
 have:=aO (f:=kR (nx x)) (fun j=>((DS (nth (bsS nx N v i).1 x+1) (bsS nx N v i) ((nx x).take j)).2.drop i,(j:Int),(DS (nth (bsS nx N v i).1 x+1) (bsS nx N v i) ((nx x).take j)).1)) (nx x).length (fun j hj=>by
  have hlx:=hl x
  obtain ⟨k1,k2,k3,⟨x0,x1⟩,k4,k5⟩:=Yi hN hv hn hl hx j
  have hy:=hn x x0 x1 _ (bq (xs:=nx x) (i:=(j:Int)) (by omega) (by omega))
  unfold kR
  simp only
  rw[vB hj,H2]
  generalize DS (nth (bsS nx N v i).1 x+1) (bsS nx N v i) ((nx x).take j)=s at k1 k2 k3 k5
  have hle:=k1.le
  have hlen:=k1.len
  rw[if_pos (by simp;omega),aq (by omega) (by omega)];simp only[aa]
  rw[aq (xs:=s.1) hy.1 (by omega)];simp only[aa]
  rw[DT k2];simp only[aa]
  rw[aq (xs:=s.1) x0 (by omega)];simp only[aa]
  rw[aL (by simp;omega),ae (by omega),k3,b7 (by omega) (by omega)]
  unfold VS
  by_cases c:nth s.1 (nth (nx x) (j:Int))<0
  ·rw[if_pos (by simpa using c),if_pos c,Um (by omega)];rfl
  ·rw[if_neg (by simpa using c),if_neg c];rfl) (by unfold kR;simp) (mV (by have:=hl x;omega))
 rw[List.take_length] at this
 have e:bsS nx N v (i+1)=DS (nth (bsS nx N v i).1 x+1) (bsS nx N v i) (nx x):=by rw[bsS,hx]
 rw[e]
 exact this
theorem Un {K:Nat} (hK:K<=N) (hE:K=(bsS nx N v K).2.length) (hR: ∀i,i<K->i<(bsS nx N v i).2.length):tO (rm N fun z=>nx (z:Int)) [v] =some (bsS nx N v K).1:=by
 unfold tO
 rw[BZ,abX hN];simp only[aa]
 have e0:ak (kQ [v]) aP (([] :List Int),0,List.replicate N (-1))=some (.brk ([v],1,(bsS nx N v 0).1)):=by
  have:=aO (f:=kQ [v]) (fun j=>if j=0 then (([] :List Int),(0:Int),List.replicate N (-1:Int)) else ([v],1,(bsS nx N v 0).1)) 1 (fun j hj=>by
   obtain rfl:j=0:=by omega
   unfold kQ
   simp only[if_true]
   rw[if_pos (by simp),show aG [v] 0=some v from rfl];simp only[aa]
   rw[aq (xs:=List.replicate N (-1)) hv.1 (by simpa using hv.2)];simp only[aa]
   rw[aL (by simp)];rfl) (by unfold kQ;simp) (by unfold aP;omega)
  exact this
 rw[ah e0]
 have:=aO (f:=kS (rm N fun z=>nx (z:Int))) (fun i=>((bsS nx N v i).2.drop i,(bsS nx N v i).1)) K (fun i hi=>by
  have hi2:=hR i hi
  obtain ⟨x,hx⟩: ∃x,(bsS nx N v i).2[i]? =some x:=⟨_,List.getElem?_eq_getElem hi2⟩
  obtain ⟨k1,k2,k3,⟨x0,x1⟩,k4,k5⟩:=Yi hN hv hn hl hx 0
  unfold kS
  simp only
  rw[if_pos (by simp;omega),DT hx];simp only[aa]
  obtain ⟨z,rfl⟩: ∃z:Nat,x=(z:Int):=⟨_,(Int.toNat_of_nonneg x0).symm⟩
  rw[B0 (by omega)];simp only[aa]
  rw[ah (abY hN hv hn hl hx)]
  have hp:=(FE hv hn (B2 hv hn i)).2.length_le
  rw[kp (by simp;omega)];simp only[aa]
  rw[List.drop_drop]) (by
  unfold kS
  rw[if_neg (by simp;omega)]) (mV (by omega))
 have this:ak (kS (rm N fun z=>nx (z:Int))) aP ([v],(bsS nx N v 0).1)=_:=this
 rw[ah this]
end
end D
namespace D
open Go.RowKit
theorem FF {n:Nat} {r:List Int} :(∀t∈r,-1<=t/\t<=(n:Int) - 1)↔ ∀t∈r,-1<=t/\t<(n:Int):=forall_congr' fun t=>forall_congr' fun _=>and_congr Iff.rfl (by omega)
theorem aad (a:AutT) (h1:a.2.1.length<=9223372036854775807) (h2:a.2.2.length<=9223372036854775807): ∃b,n8 a=some b/\(b=true↔VA a a.2.1.length):=by
 unfold n8
 rw[JP];simp only[aa,jB h1]
 by_cases c1:0<=a.1/\a.1<=(a.2.1.length:Int) - 1
 case neg=>exact ⟨false,by rw[if_neg (by simpa using c1)],by simp;exact fun h=>c1 ⟨h.start.1,by have:=h.start.2;omega⟩⟩
 rw[if_pos (by simpa using c1)]
 by_cases c2:a.2.2.length=a.2.1.length
 case neg=>exact ⟨false,by rw[if_pos (by simp;omega)],by simp;exact fun h=>c2 h.nlen⟩
 rw[if_neg (by simp;omega)]
 have inner: ∀i:Nat,i<a.2.2.length->(nth a.2.2 i).length=9->(ak (gH a i) aP 0=some (.brk 9)/\ ∀t∈nth a.2.2 (i:Int),-1<=t/\t<=(a.2.1.length:Int) - 1)\/(ak (gH a i) aP 0=some (.ret false)/\ ¬ ∀t∈nth a.2.2 (i:Int),-1<=t/\t<=(a.2.1.length:Int) - 1):=by
  intro i hi hr
  have:=scan (f:=gH a i) (nth a.2.2 (i:Int)) (fun t=> -1<=t/\t<=(a.2.1.length:Int) - 1) false (by omega) (fun j hj=>by
   unfold gH
   rw[if_pos (by simp;omega),aq (by omega) (by omega)];simp only[aa]
   rw[aq (by omega) (by omega)];simp only[aa,jB h1]
   rw[JP];simp only[aa,ae (show j<9223372036854775807 by omega)]
   by_cases c: -1<=nth (nth a.2.2 (i:Int)) (j:Int)/\nth (nth a.2.2 (i:Int)) (j:Int)<=(a.2.1.length:Int) - 1
   ·rw[if_pos (by simpa using c),if_pos c]
   ·rw[if_neg (by simpa using c),if_neg c]) (by unfold gH;rw[if_neg (by simp[hr])])
  rwa [hr] at this
 have outer:=scan (f:=mb a) a.2.2 (fun r=>r.length=9/\ ∀t∈r,-1<=t/\t<=(a.2.1.length:Int) - 1) false h2 (fun i hi=>by
  unfold mb
  rw[if_pos (by simp;omega),aq (by omega) (by omega)];simp only[aa]
  by_cases c:(nth a.2.2 (i:Int)).length=9
  ·rw[if_neg (by simp;omega)]
   rcases inner i hi c with ⟨e,k⟩ | ⟨e,k⟩
   ·rw[ah e,if_pos ⟨c,k⟩,ae (show i<9223372036854775807 by omega)]
   ·rw[bp e,if_neg (fun h=>k h.2)]
  ·rw[if_pos (by simp;omega),if_neg (fun h=>c h.1)]) (by unfold mb;rw[if_neg (by simp;omega)])
 rcases outer with ⟨e,k⟩ | ⟨e,k⟩
 ·exact ⟨true,by rw[ah e],by simp;exact ⟨rfl,⟨c1.1,by omega⟩,c2,fun r hr=>(k r hr).1,fun r hr=>FF.1 (k r hr).2⟩⟩
 ·exact ⟨false,by rw[bp e],by simp;exact fun h=>k fun r hr=>⟨h.row r hr,FF.2 (h.ent r hr)⟩⟩
theorem Yj (a:AutT) (h1:a.2.1.length<=9223372036854775807) (h2:a.2.2.length<=9223372036854775807): ∃b,b8 a=some b/\(b=true↔a.2.1.length<=12/\VA a a.2.1.length):=by
 unfold b8
 by_cases c:a.2.1.length<=12
 ·rw[if_pos (by simp;omega)]
  obtain ⟨b,e,hb⟩:=aad a h1 h2
  exact ⟨b,by show (n8 a).bind _=_;rw[e];rfl,by rw[hb];simp[c]⟩
 ·exact ⟨false,by rw[if_neg (by simp;omega)],by simp;exact fun h=>absurd h c⟩
theorem Yk (a:AutT) (h1:a.2.1.length<=9223372036854775807) (h2:a.2.2.length<=9223372036854775807) (h3: ∀r∈a.2.2,r.length<=9223372036854775807): ∃b,bP a=some b/\(b=true↔a.2.1.length<=12/\VA a a.2.1.length):=by
 unfold bP
 rw[DQ];simp only[aa,jB h1]
 by_cases c0:1<=(a.2.1.length:Int)/\(a.2.1.length:Int)<=12
 case neg=>exact ⟨false,by rw[if_neg (by simpa using c0)],by simp;exact fun h h'=>c0 ⟨by have:=h'.start;omega,by omega⟩⟩
 rw[if_pos (by simpa using c0),DQ];simp only[aa]
 by_cases c1:0<=a.1/\a.1<=(a.2.1.length:Int) - 1
 case neg=>exact ⟨false,by rw[if_neg (by simpa using c1)],by simp;exact fun _ h=>c1 ⟨h.start.1,by have:=h.start.2;omega⟩⟩
 rw[if_pos (by simpa using c1)]
 by_cases c2:a.2.2.length=a.2.1.length
 case neg=>exact ⟨false,by rw[if_pos (by simp;omega)],by simp;exact fun _ h=>c2 h.nlen⟩
 rw[if_neg (by simp;omega)]
 have inner: ∀x:List Int,x.length<=9223372036854775807->(ak (bY a x) aP 0=some (.brk (x.length:Int))/\ ∀t∈x,-1<=t/\t<=(a.2.1.length:Int) - 1)\/(ak (bY a x) aP 0=some (.ret false)/\ ¬ ∀t∈x,-1<=t/\t<=(a.2.1.length:Int) - 1):=by
  intro x hx
  refine scan (f:=bY a x) x (fun t=> -1<=t/\t<=(a.2.1.length:Int) - 1) false hx (fun j hj=>?_) (by unfold bY;rw[if_neg (by simp)])
  unfold bY
  rw[if_pos (by simp;omega),aq (by omega) (by omega)];simp only[aa,jB h1]
  rw[DQ];simp only[aa,ae (show j<9223372036854775807 by omega)]
  by_cases c: -1<=nth x (j:Int)/\nth x (j:Int)<=(a.2.1.length:Int) - 1
  ·rw[if_pos (by simpa using c),if_pos c]
  ·rw[if_neg (by simpa using c),if_neg c]
 have outer:=scan (f:=dM a) a.2.2 (fun r=>(∀t∈r,-1<=t/\t<=(a.2.1.length:Int) - 1)/\r.length=9) false h2 (fun i hi=>by
  unfold dM
  rw[if_pos (by simp;omega),aq (by omega) (by omega)];simp only[aa]
  rcases inner (nth a.2.2 (i:Int)) (h3 _ (bq (by omega) (by omega))) with ⟨e,k⟩ | ⟨e,k⟩
  ·rw[ah e]
   by_cases c:(nth a.2.2 (i:Int)).length=9
   ·rw[if_neg (by simp;omega),if_pos ⟨k,c⟩,ae (show i<9223372036854775807 by omega)]
   ·rw[if_pos (by simp;omega),if_neg (fun h=>c h.2)]
  ·rw[bp e,if_neg (fun h=>k h.1)]) (by unfold dM;rw[if_neg (by simp)])
 rcases outer with ⟨e,k⟩ | ⟨e,k⟩
 ·exact ⟨true,by rw[ah e],by simp;exact ⟨by omega,rfl,⟨c1.1,by omega⟩,c2,fun r hr=>(k r hr).2,fun r hr=>FF.1 (k r hr).1⟩⟩
 ·exact ⟨false,by rw[bp e],by simp;exact fun _ h=>k fun r hr=>⟨FF.2 (h.ent r hr),h.row r hr⟩⟩
end D
namespace D
open Go.RowKit
theorem B3 (g:GrT):bC g=aW g:=by
 have h0:nX g=dS g:=rfl
 have h1:j4 g=db g:=by
  funext s
  unfold j4 db
  split
  ·cases hx:aG g.2 s with
   | none=>rfl
   | some x=>rfl
  ·rfl
 unfold bC aW
 rw[h0,h1];rfl
def GOOD (g:GrT) (a:AutT):Prop:=GOk g/\a.2.1.length<=12/\VA a a.2.1.length
theorem QW (g:GrT) (a:AutT) (hg:Data.sm g) (ha:Data.sm a): ∃b c,bC g=some b/\aW g=some b/\b8 a=some c/\bP a=some c/\(b=true↔abR g)/\(c=true↔a.2.1.length<=12/\VA a a.2.1.length):=by
 obtain ⟨b,e1,k1⟩:=Lw g (aE hg.1).1 (aE hg.2).1
 have hb:=(aE ha.2.1).1
 have hn:=aE ha.2.2
 obtain ⟨c,e2,k2⟩:=Yk a (by omega) (by omega) (fun r hr=>by have:=(aE (hn.2 r hr)).1;omega)
 obtain ⟨c',e3,k3⟩:=Yj a (by omega) (by omega)
 have hc:c'=c:=by
  cases c <;> cases c' <;> simp_all
 subst hc
 exact ⟨b,c',by rw[B3,e1],e1,e3,e2,k1,k2⟩
theorem Yl (g:GrT) (a:AutT) (hg:Data.sm g) (ha:Data.sm a): ∃b c,bC g=some b/\aW g=some b/\b8 a=some c/\bP a=some c/\(b=true->GOk g)/\(c=true->a.2.1.length<=12/\VA a a.2.1.length):=by
 obtain ⟨b,c,h1,h2,h3,h4,h5,h6⟩:=QW g a hg ha
 exact ⟨b,c,h1,h2,h3,h4,fun h=>(h5.1 h).1,h6.1⟩
theorem Uo (g:GrT) (a:AutT) (hg:Data.sm g) (ha:Data.sm a) (x:Int): ∃b,iw g a x 0=some b/\cn g a [x] =some b/\(b=true↔(abR g/\GOOD g a)/\0<=x/\x<g.1.length):=by
 obtain ⟨b,c,e1,e2,e3,e4,k1,k2⟩:=QW g a hg ha
 have hl:=(aE hg.1).1
 have hla:=(aE ha.2.1).1
 have ew:i64.wrap ((g.1.length:Int) - 1)=(g.1.length:Int) - 1:=b7 (by omega) (by omega)
 have ew2:i64.wrap ((a.2.1.length:Int) - 1)=(a.2.1.length:Int) - 1:=b7 (by omega) (by omega)
 have es:iw g a x 0=some (b&&(c&&(decide (0<=x/\x<=(g.1.length:Int) - 1)))):=by
  unfold iw
  have e1:bC (g.1,g.2)=_:=e1
  have e3:b8 (a.1,a.2.1,a.2.2)=_:=e3
  rw[e1,e3,JP,JP,ew,ew2];simp only[aa]
  cases b <;> cases c <;> simp only[Bool.false_eq_true,if_false,if_true,Bool.false_and,Bool.true_and]
  by_cases h:0<=x/\x<=(g.1.length:Int) - 1
  ·have:=(k2.1 rfl).2.start
   simp only[h,and_self,decide_true,if_true]
   rw[decide_eq_true (by omega)]
  ·rw[decide_eq_false h];rfl
 have ei:cn g a [x] =some (b&&(c&&(decide (0<=x/\x<=(g.1.length:Int) - 1)))):=by
  unfold cn
  have e2:aW (g.1,g.2)=_:=e2
  have e4:bP (a.1,a.2.1,a.2.2)=_:=e4
  rcases Nf (f:=dk g [x]) 1 (fun _=>0<=x/\x<=(g.1.length:Int) - 1) false (by decide) (fun i hi=>by
   obtain rfl:i=0:=by omega
   unfold dk
   rw[if_pos (by simp),show aG [x] ((0:Nat):Int)=some x from rfl];simp only[aa]
   rw[DQ,ew];simp only[aa,decide_eq_true_eq]
   split <;> rfl) (by unfold dk;simp) with ⟨k,h⟩ | ⟨k,h⟩
  ·rw[ah k,e2,e4];simp only[aa]
   rw[decide_eq_true (h 0 (by decide))]
   cases b <;> cases c <;> rfl
  ·rw[bp k,decide_eq_false (fun c=>h fun _ _=>c)]
   cases b <;> cases c <;> rfl
 refine ⟨_,es,ei,fun hb=>?_,fun hb=>?_⟩
 ·simp only[ai,decide_eq_true_eq] at hb
  obtain ⟨h1,h2,h3⟩:=hb
  exact ⟨⟨k1.1 h1,(k1.1 h1).1,(k2.1 h2).1,(k2.1 h2).2⟩,h3.1,by omega⟩
 ·simp only[ai,decide_eq_true_eq]
  exact ⟨k1.2 hb.1.1,k2.2 hb.1.2.2,hb.2.1,by have:=hb.2.2;omega⟩
theorem QX (g:GrT) (a:AutT) (hg:Data.sm g) (ha:Data.sm a) (x:Int): ∃b,iw g a x 0=some b/\cn g a [x] =some b/\(b=true->GOOD g a/\0<=x/\x<g.1.length):=by
 obtain ⟨b,h1,h2,h3⟩:=Uo g a hg ha x
 exact ⟨b,h1,h2,fun h=>⟨(h3.1 h).1.2,(h3.1 h).2⟩⟩
def nxC (g:GrT) (a:AutT) (z:Int):List Int:=nbC g a z.toNat
section
variable {g:GrT} {a:AutT} (H:GOOD g a)
include H
theorem GOOD.divmod {x:Int} (h0:0<=x) (h1:x<(a.2.1.length*g.1.length:Nat)):x.toNat / a.2.1.length<g.1.length/\x.toNat % a.2.1.length<a.2.1.length:=by
 have hp:=H.2.2.pos
 simp_all[Nat.div_lt_iff_lt_mul,Nat.mul_comm,Nat.mod_lt]
theorem aae (x:Int) (h0:0<=x) (h1:x<(a.2.1.length*g.1.length:Nat)): ∀y∈nxC g a x,0<=y/\y<(a.2.1.length*g.1.length:Nat):=by
 have ⟨k1,k2⟩:=H.divmod h0 h1
 exact Z9 H.1 H.2.2 H.2.1 k1 k2
theorem Ym {x:Int} (h0:0<=x) (h1:x<(a.2.1.length*g.1.length:Nat)):(nxC g a x).length<=720:=by
 have ⟨k1,k2⟩:=H.divmod h0 h1
 have:=tk (f:=nbA g a (x.toNat / a.2.1.length) (x.toNat % a.2.1.length)) (B:=30) (xs:=lx g.2 (x.toNat / a.2.1.length)) fun y hy=>QU H.1 H.2.2 H.2.1 k1 k2 hy
 have l1:=ub g.2 (x.toNat / a.2.1.length)
 have:=H.1.m
 show (nbV g a _ _).length<=720
 unfold nbV
 omega
end
def nxN (g:GrT) (a:AutT) (z:Int):List Int:=if 0<=z/\z<(a.2.1.length*g.1.length:Nat) then nxC g a z else []
section
variable {g:GrT} {a:AutT} (H:GOOD g a)
include H
theorem w6: ∀x:Int,0<=x->x<(a.2.1.length*g.1.length:Nat)-> ∀y∈nxN g a x,0<=y/\y<(a.2.1.length*g.1.length:Nat):=fun x h0 h1=>by
 unfold nxN;rw[if_pos ⟨h0,h1⟩];exact aae H x h0 h1
theorem JS (x:Int):(nxN g a x).length<=720:=by
 grind[nxN,Ym]
theorem Yn:eJ g a=some (rm (a.2.1.length*g.1.length) fun z=>nxN g a (z:Int)):=by
 rw[Yc H.1 H.2.2 H.2.1]
 congr 1
 refine nP fun z hz=>?_
 unfold nxN
 rw[if_pos ⟨by omega,by omega⟩];rfl
theorem Up {x:Int} (h0:0<=x) (h1:x<(a.2.1.length*g.1.length:Nat)): ∃l:List Yd,mC g a (CZ x (a.2.1.length:Int)) (Int.tmod x (a.2.1.length:Int))=some l/\l.map (fun p=>p.2.1*(a.2.1.length:Int)+p.2.2)=nxN g a x/\ ∀p∈l,(0<=p.2.1/\p.2.1<60)/\0<=p.2.2/\p.2.2<60:=by
 have ⟨k1,k2⟩:=H.divmod h0 h1
 have e1:CZ x (a.2.1.length:Int)=((x.toNat / a.2.1.length:Nat):Int):=by
  unfold CZ
  have:x.tdiv (a.2.1.length:Int)=((x.toNat / a.2.1.length:Nat):Int):=by
   rw[Int.tdiv_eq_ediv_of_nonneg h0]
   rw[show x / (a.2.1.length:Int)=((x.toNat:Nat):Int) / (a.2.1.length:Int) from by grind]
   simp
  rw[this,wS (by have:=H.1.n5;omega)]
 have e2:Int.tmod x (a.2.1.length:Int)=((x.toNat % a.2.1.length:Nat):Int):=by
  rw[Int.tmod_eq_emod_of_nonneg h0]
  rw[show x % (a.2.1.length:Int)=((x.toNat:Nat):Int) % (a.2.1.length:Int) from by grind]
  simp
 refine ⟨_,by rw[e1,e2];exact Yf H.1 H.2.2 H.2.1 k1 k2,?_,fun p hp=>?_⟩
 ·rw[aac];unfold nxN;rw[if_pos ⟨h0,h1⟩];rfl
 ·have ⟨y,hy,hp⟩:=List.mem_flatMap.1 hp
  obtain ⟨t,ht,rfl⟩:=List.mem_map.1 hp
  have h2:=(B1 H.1 hy).2
  have h3:=(w5 H.1 H.2.2 H.2.1 (s:=((x.toNat % a.2.1.length:Nat):Int)) ⟨by omega,by omega⟩ (H.1.val _ (bq (xs:=g.1) (i:=((x.toNat / a.2.1.length:Nat):Int)) (Int.natCast_nonneg _) (Int.ofNat_lt.2 k1))) (B1 H.1 hy).1).1 t ht
  have:=H.1.n5
  have:=H.2.1
  grind
end
def RKs (g:GrT) (a:AutT) (v:Int):List Int:=(bsS (nxN g a) (a.2.1.length*g.1.length) v (a.2.1.length*g.1.length)).1
theorem FG {nx:Int->List Int} {N:Nat} {v:Int} (hv:0<=v/\v<N) (hn: ∀x:Int,0<=x->x<N-> ∀y∈nx x,0<=y/\y<N) {K:Nat} (hE:K=(bsS nx N v K).2.length): ∀d,bsS nx N v (K+d)=bsS nx N v K
 | 0=>rfl
 | d+1=>by
  have ih:=FG hv hn hE d
  grind[Nat.add_assoc,bsS,List.getElem?_eq_none]
section
variable {g:GrT} {a:AutT} (H:GOOD g a) {x:Int} (hx:0<=x/\x<g.1.length)
include H hx
theorem VT:0<=x*(a.2.1.length:Int)+a.1/\x*(a.2.1.length:Int)+a.1<(a.2.1.length*g.1.length:Nat):=by
 obtain ⟨z,rfl⟩: ∃z:Nat,x=(z:Int):=⟨_,(Int.toNat_of_nonneg hx.1).symm⟩
 have hs:=H.2.2.start
 have ⟨s,hs'⟩: ∃s:Nat,a.1=(s:Int):=⟨_,(Int.toNat_of_nonneg hs.1).symm⟩
 have:=cN H.1 H.2.2 H.2.1 (x:=z) (s:=s) (by omega) (by omega)
 omega
theorem VU:i64.wrap ((i64.wrap (x*(a.2.1.length:Int)))+a.1)=x*(a.2.1.length:Int)+a.1:=by
 have h:=VT H hx
 have hN:=nN H.1 H.2.2 H.2.1
 have hs:=H.2.2.start
 have hn:=H.2.1
 grind[b7]
theorem abZ:BI (a.2.1.length*g.1.length) (bsS (nxN g a) (a.2.1.length*g.1.length) (x*(a.2.1.length:Int)+a.1) (a.2.1.length*g.1.length)):=B2 (VT H hx) (w6 H) _
theorem QY:(RKs g a (x*(a.2.1.length:Int)+a.1)).length=a.2.1.length*g.1.length:=(abZ H hx).len
theorem aaf (e:cn g a [x] =some true):fK g a x=some (RKs g a (x*(a.2.1.length:Int)+a.1)):=by
 unfold fK
 have e:cn (g.1,g.2) (a.1,a.2.1,a.2.2) [x] =_:=e
 rw[e];simp only[aa,if_true]
 have e2:eJ (g.1,g.2) (a.1,a.2.1,a.2.2)=_:=Yn H
 rw[e2];simp only[aa]
 have hN:=nN H.1 H.2.2 H.2.1
 obtain ⟨K,hK,hE,hR⟩:=QV (VT H hx) (w6 H)
 rw[VU H hx,Un hN (VT H hx) (w6 H) (fun x=>by have:=JS H x;omega) hK hE hR];simp only[aa]
 have hk:bsS (nxN g a) (a.2.1.length*g.1.length) (x*(a.2.1.length:Int)+a.1) K=bsS (nxN g a) (a.2.1.length*g.1.length) (x*(a.2.1.length:Int)+a.1) (a.2.1.length*g.1.length):=by
  have:=FG (VT H hx) (w6 H) hE (a.2.1.length*g.1.length - K)
  rw[show K+(a.2.1.length*g.1.length - K)=a.2.1.length*g.1.length from by omega] at this
  exact this.symm
 have hl:=QY H hx
 rw[hk]
 show ((chk _).bind fun _=>_).bind _=_
 have hv:=VT H hx
 rw[kp (by rw[show (bsS _ _ _ _).1.length=_ from hl];omega)];rfl
theorem ab0 {o1 o2:List Int} {i:Nat} {z:Int} {l:List Yd} (hz:(bsS (nxN g a) (a.2.1.length*g.1.length) (x*(a.2.1.length:Int)+a.1) i).2[i]? =some z)
  (hl:l.map (fun p=>p.2.1*(a.2.1.length:Int)+p.2.2)=nxN g a z) (hp: ∀p∈l,(0<=p.2.1/\p.2.1<60)/\0<=p.2.2/\p.2.2<60) :
  ak (iB a (o1,o2,(i:Int)) l) aP ((bsS (nxN g a) (a.2.1.length*g.1.length) (x*(a.2.1.length:Int)+a.1) i).1,(bsS (nxN g a) (a.2.1.length*g.1.length) (x*(a.2.1.length:Int)+a.1) i).2,0)=some (.brk ((bsS (nxN g a) (a.2.1.length*g.1.length) (x*(a.2.1.length:Int)+a.1) (i+1)).1,(bsS (nxN g a) (a.2.1.length*g.1.length) (x*(a.2.1.length:Int)+a.1) (i+1)).2,(l.length:Int))):=by
 have hN:=nN H.1 H.2.2 H.2.1
 have hv:=VT H hx
 generalize hV:x*(a.2.1.length:Int)+a.1=v at hz hv⊢
 have hlen:l.length<=720:=by have:=JS H z;rw[<-hl,List.length_map] at this;exact this
 have e:bsS (nxN g a) (a.2.1.length*g.1.length) v (i+1)=DS (nth (bsS (nxN g a) (a.2.1.length*g.1.length) v i).1 z+1) (bsS (nxN g a) (a.2.1.length*g.1.length) v i) (nxN g a z):=by rw[bsS,hz]
 have:=aO (f:=iB a (o1,o2,(i:Int)) l) (fun j=>((DS (nth (bsS (nxN g a) (a.2.1.length*g.1.length) v i).1 z+1) (bsS (nxN g a) (a.2.1.length*g.1.length) v i) ((nxN g a z).take j)).1,(DS (nth (bsS (nxN g a) (a.2.1.length*g.1.length) v i).1 z+1) (bsS (nxN g a) (a.2.1.length*g.1.length) v i) ((nxN g a z).take j)).2,(j:Int))) l.length (fun j hj=>by
  have ⟨k1,k2,k3,⟨x0,x1⟩,k4,k5⟩:=Yi hN hv (w6 H) (fun x=>by grind[JS]) hz j
  have hjn:j<(nxN g a z).length:=by rw[<-hl,List.length_map];exact hj
  have hy:=w6 H z x0 x1 _ (bq (xs:=nxN g a z) (i:=(j:Int)) (by omega) (by omega))
  have hq:=hp _ (bq (xs:=l) (i:=(j:Int)) (by omega) (by omega))
  have hyl:nth (nxN g a z) (j:Int)=(nth l (j:Int)).2.1*(a.2.1.length:Int)+(nth l (j:Int)).2.2:=by grind[XZ]
  unfold iB
  simp only
  rw[vB hjn,H2]
  generalize DS (nth (bsS (nxN g a) (a.2.1.length*g.1.length) v i).1 z+1) (bsS (nxN g a) (a.2.1.length*g.1.length) v i) ((nxN g a z).take j)=s at k1 k2 k3 k5
  have hle:=k1.le
  have hsl:=k1.len
  rw[if_pos (by grind),aq (by omega) (by omega)];simp[aa]
  rw[b7 (n:=(nth l (j:Int)).2.1*(a.2.1.length:Int)) (by omega) (by omega),<-hyl,b7 (by omega) (by omega)]
  rw[aq (xs:=s.1) hy.1 (by omega)];rw[show aG s.2 (i:Int)=some z from by simp_all[aG,if_pos]];simp[aa]
  rw[aq (xs:=s.1) x0 (by omega)];simp[aa]
  rw[aL (by grind),ae (by omega),k3,b7 (by omega) (by omega)]
  unfold VS
  grind) (by unfold iB;simp) (mV (by omega))
 have et:(nxN g a z).take l.length=nxN g a z:=by
  have:l.length=(nxN g a z).length:=by grind
  grind
 rw[et] at this
 rw[e]
 exact this
theorem Yo:mD g a x=some (RKs g a (x*(a.2.1.length:Int)+a.1)):=by
 have hN:=nN H.1 H.2.2 H.2.1
 have hv:=VT H hx
 have hpos:=H.2.2.pos
 unfold mD
 have ew:i64.wrap ((g.1.length:Int)*(a.2.1.length:Int))=((a.2.1.length*g.1.length:Nat):Int):=by
  grind[Nat.mul_comm,wS]
 have e0:ak (iA g a) aP (([] :List Int),0)=some (.brk (List.replicate (a.2.1.length*g.1.length) (-1),((a.2.1.length*g.1.length:Nat):Int))):=by
  have:=aO (f:=iA g a) (fun i=>(List.replicate i (-1),(i:Int))) (a.2.1.length*g.1.length) (fun i hi=>by
   unfold iA
   rw[ew,if_pos (by grind),aL (by grind),ae (by omega)];simp[aa]
   rw[List.replicate_succ']) (by simp_all[iA,if_neg]) (mV (by omega))
  exact this
 rw[ah e0,VU H hx]
 generalize hV:x*(a.2.1.length:Int)+a.1=v at hv
 rw[show aG [v] 0=some v from rfl];simp[aa]
 rw[aq (xs:=List.replicate _ (-1:Int)) hv.1 (by grind)];have ⟨K,hK,hE,hR⟩:=QV hv (w6 H)
 have:=aO (f:=iC g a) (fun i=>((bsS (nxN g a) (a.2.1.length*g.1.length) v i).1,(bsS (nxN g a) (a.2.1.length*g.1.length) v i).2,(i:Int))) K (fun i hi=>by
  have hi2:=hR i hi
  have ⟨z,hz⟩: ∃z,(bsS (nxN g a) (a.2.1.length*g.1.length) v i).2[i]? =some z:=⟨_,List.getElem?_eq_getElem hi2⟩
  have ⟨z0,z1⟩:=(B2 hv (w6 H) i).rng z (List.mem_of_getElem? hz)
  have ⟨l,es,hl,hp⟩:=Up H z0 z1
  unfold iC
  rw[show aG (bsS (nxN g a) (a.2.1.length*g.1.length) v i).2 (i:Int)=some z from by unfold aG;grind];simp only[aa]
  rw[kp (by omega),es];have h2:=ab0 H hx (o1:=(bsS (nxN g a) (a.2.1.length*g.1.length) v i).1) (o2:=(bsS (nxN g a) (a.2.1.length*g.1.length) v i).2) (by rw[hV];exact hz) hl hp
  grind[ah,ae]) (by unfold iC;grind) (mV (by omega))
 have this:ak (iC g a) aP ((List.replicate (a.2.1.length*g.1.length) (-1)).set v.toNat 0,[v],0)=_:=this
 rw[ah this]
 have:=FG hv (w6 H) hE (a.2.1.length*g.1.length - K)
 grind[RKs]
end
end D
namespace D
open Go.RowKit
abbrev Tok:=Int×Int×Int×Int
def ar (t:Tok):Int:=
 if t.1=1\/t.1=2 then (if t.2.1=0/\t.2.2.1=0/\t.2.2.2=0 then 0 else -1)
 else if t.1=3 then (if (0<=t.2.1/\t.2.1<=8)/\t.2.2.1=0/\t.2.2.2=0 then 0 else -1)
 else if t.1=4\/t.1=5 then (if t.2.1=0/\t.2.2.1=0/\t.2.2.2=0 then 2 else -1)
 else if t.1=6 then (if t.2.1=0/\t.2.2.1=0/\t.2.2.2=0 then 1 else -1)
 else if t.1=7 then (if t.2.1=0/\(0<=t.2.2.1/\t.2.2.1<=t.2.2.2)/\(1<=t.2.2.2/\t.2.2.2<=3) then 1 else -1)
 else -1
theorem Uq (x:Int):mA x=some (decide (0<=x/\x<=8)):=by unfold mA;rw[JP];rfl
theorem Ur (x:Int):ke x=some (decide (0<=x/\x<=8)):=by unfold ke;rw[DQ];rfl
theorem acT (t:Tok):nZ t=some (ar t):=by
 obtain ⟨k,l,lo,hi⟩:=t
 unfold nZ ar
 simp only[Uq,JP,aa]
 by_cases h1:k=1
 ·subst h1;simp;grind
 by_cases h2:k=2
 ·subst h2;simp;grind
 by_cases h3:k=3
 ·subst h3;simp;grind
 by_cases h4:k=4
 ·subst h4;simp;grind
 by_cases h5:k=5
 ·subst h5;simp;grind
 by_cases h6:k=6
 ·subst h6;simp;grind
 by_cases h7:k=7
 ·subst h7;simp;grind
 simp[h1,h2,h3,h4,h5,h6,h7]
theorem aag (t:Tok):qN t=some (decide (0<=ar t)):=by
 obtain ⟨k,l,lo,hi⟩:=t
 unfold qN ar
 simp only[Ur,DQ,aa]
 by_cases h1:k=1
 ·subst h1;simp;grind
 by_cases h2:k=2
 ·subst h2;simp;grind
 by_cases h3:k=3
 ·subst h3;simp only[]
  by_cases a:0<=l/\l<=8 <;> by_cases b:lo=0 <;> by_cases c:hi=0 <;> simp[a,b,c]
 by_cases h4:k=4
 ·subst h4;simp;grind
 by_cases h5:k=5
 ·subst h5;simp;grind
 by_cases h6:k=6
 ·subst h6;simp;grind
 by_cases h7:k=7
 ·subst h7;simp only[]
  by_cases a:l=0 <;> by_cases b:0<=lo/\lo<=hi <;> by_cases c:1<=hi/\hi<=3 <;> simp[a,b,c]
 simp[h1,h2,h3,h4,h5,h6,h7]
theorem w7 (t:Tok): -1<=ar t/\ar t<=2:=by
 unfold ar
 grind
theorem oG {t:Tok} (h:0<=ar t):(ar t=2/\(t.1=4\/t.1=5))\/(ar t=1/\(t.1=6\/t.1=7))\/(ar t=0/\(t.1=1\/t.1=2\/t.1=3)):=by
 unfold ar at h⊢
 grind
theorem B4 {t:Tok} (h:0<=ar t) (k:t.1=7):(0<=t.2.2.1/\t.2.2.1<=t.2.2.2)/\(1<=t.2.2.2/\t.2.2.2<=3):=by
 unfold ar at h
 grind
mutual
def flat:Tr Tok->List Tok
 | .nil=>[]
 | .node t ks=>j9 ks++ [t]
def j9:List (Tr Tok)->List Tok
 | [] =>[]
 | k::ks=>flat k++j9 ks
end
inductive WT:Tr Tok->Prop
 | node {t:Tok} {ks:List (Tr Tok)} :ar t=(ks.length:Int)->(∀k,k∈ks->WT k)->WT (.node t ks)
theorem qu: ∀(a b:List (Tr Tok)),j9 (a++b)=j9 a++j9 b
 | [],b=>rfl
 | k::a,b=>by rw[List.cons_append,j9,j9,qu a b,aA]
theorem mS (x:Tr Tok):j9 [x] =flat x:=by rw[j9,j9,List.append_nil]
theorem QZ (x y:Tr Tok):j9 [x,y] =flat x++flat y:=by rw[j9,mS]
theorem WT.cases {x:Tr Tok} (h:WT x):(∃t,x= .node t [] /\ar t=0)\/(∃t a,x= .node t [a] /\ar t=1/\WT a)\/ ∃t a b,x= .node t [a,b] /\ar t=2/\WT a/\WT b:=by
 cases h with
 | @node t ks h1 h2 =>
  have:=(w7 t).2
  match ks,h1,h2 with
  | [],h1,h2=>exact .inl ⟨t,rfl,h1⟩
  | [a],h1,h2=>exact .inr (.inl ⟨t,a,rfl,h1,h2 a (by simp)⟩)
  | [a,b],h1,h2=>exact .inr (.inr ⟨t,a,b,rfl,h1,h2 a (by simp),h2 b (by simp)⟩)
  | _::_::_::_,h1,h2=>simp at h1;omega
theorem WT.ind {p:Tr Tok->Prop} (h0: ∀t,ar t=0->p (.node t [])) (h1: ∀t a,ar t=1->WT a->p a->p (.node t [a])) (h2: ∀t a b,ar t=2->WT a->WT b->p a->p b->p (.node t [a,b])) {x:Tr Tok} (h:WT x):p x:=by
 induction h with
 | @node t ks e k ih =>
  have:=(w7 t).2
  match ks,e,k,ih with
  | [],e,k,ih=>exact h0 t e
  | [a],e,k,ih=>exact h1 t a e (k a (by simp)) (ih a (by simp))
  | [a,b],e,k,ih=>exact h2 t a b e (k a (by simp)) (k b (by simp)) (ih a (by simp)) (ih b (by simp))
  | _::_::_::_,e,_,_=>simp at e;omega
theorem H3 (t:Tok):flat (.node t [])= [t]:=by rw[flat,j9];rfl
theorem FH (t:Tok) (a:Tr Tok):flat (.node t [a])=flat a++ [t]:=by rw[flat,mS]
theorem yf (t:Tok) (a b:Tr Tok):flat (.node t [a,b])=(flat a++flat b)++ [t]:=by rw[flat,QZ]
theorem WT.pos {x:Tr Tok} (h:WT x):1<=(flat x).length:=by
 cases h with
 | node h1 h2=>rw[flat];simp
def stp (s:List (Tr Tok)) (t:Tok):Option (List (Tr Tok)):=if ar t<0\/(s.length:Int)<ar t then none else some (s.take (s.length - (ar t).toNat)++ [.node t (s.drop (s.length - (ar t).toNat))])
def run:List (Tr Tok)->List Tok->Option (List (Tr Tok))
 | s,[] =>some s
 | s,t::l=>(stp s t).bind fun s'=>run s' l
theorem FI: ∀(a:List Tok) {b:List Tok} {s:List (Tr Tok)},run s (a++b)=(run s a).bind fun s'=>run s' b
 | [],b,s=>rfl
 | t::a,b,s=>by
  rw[List.cons_append,run,run]
  cases stp s t with
  | none=>rfl
  | some s'=>exact FI a
theorem w8 {a:List Tok} {t:Tok} {s:List (Tr Tok)} :run s (a++ [t])=(run s a).bind fun s'=>stp s' t:=by
 rw[FI]
 congr 1
 funext s'
 rw[run]
 cases stp s' t <;> rfl
theorem VV: ∀ {l:List Tok} {s s':List (Tr Tok)},run s l=some s'->(∀k,k∈s->WT k)->(∀k,k∈s'->WT k)/\j9 s'=j9 s++l
 | [],s,s',h,hs=>by
  obtain rfl:=ad h
  exact ⟨hs,by simp⟩
 | t::l,s,s',h,hs=>by
  rw[run] at h
  unfold stp at h
  by_cases c:ar t<0\/(s.length:Int)<ar t
  ·rw[if_pos c] at h;cases h
  ·rw[if_neg c] at h
   have hlen:(s.drop (s.length - (ar t).toNat)).length=(ar t).toNat:=by rw[bJ];omega
   obtain ⟨k1,k2⟩:=VV (show run _ l=some s' from h) fun k hk=>by
    rcases aH hk with hk | hk
    ·exact hs k (List.mem_of_mem_take hk)
    ·obtain rfl:=au hk
     exact .node (by rw[hlen];omega) fun k hk=>hs k (List.mem_of_mem_drop hk)
   refine ⟨k1,?_⟩
   rw[k2,qu,mS,flat,<-aA,<-qu,List.take_append_drop]
   simp
theorem Us {x:Tr Tok} (h:WT x): ∀s,run s (flat x)=some (s++ [x]):=by
 refine WT.ind (p:=fun x=> ∀s,run s (flat x)=some (s++ [x])) ?_ ?_ ?_ h
 ·intro t e s
  rw[H3,run,stp,if_neg (by omega),e]
  simp[run]
 ·intro t a e _ ia s
  rw[FH,w8,ia]
  show stp (s++ [a]) t=_
  rw[stp,if_neg (by simp;omega),e]
  simp
 ·intro t a b e _ _ ia ib s
  rw[yf,w8,FI,ia]
  show ((run (s++ [a]) (flat b)).bind fun s'=>stp s' t)=_
  rw[ib]
  show stp (s++ [a] ++ [b]) t=_
  rw[stp,if_neg (by simp;omega),e]
  have:(s++ [a] ++ [b]).length - (2:Int).toNat=s.length:=by simp
  rw[this]
  simp
def isX (e:List Tok):Bool:=match run [] e with
 | some [_] =>true
 | _=>false
theorem Q0 {e:List Tok} (h:isX e=true): ∃x,run [] e=some [x] /\WT x/\flat x=e:=by
 unfold isX at h
 split at h
 ·rename_i x hx
  obtain ⟨k1,k2⟩:=VV hx (fun k hk=>by cases hk)
  refine ⟨x,hx,k1 x (by simp),?_⟩
  rw[mS] at k2
  rw[k2];rfl
 ·cases h
theorem Q1 {l:List Tok} : ∀ {s s':List (Tr Tok)},run s l=some s'->s'.length<=s.length+l.length:=by
 induction l with
 | nil=>intro s s' h;obtain rfl:=ad h;simp
 | cons t l ih =>
  intro s s' h
  rw[run] at h
  obtain ⟨s1,h1,h2⟩:=Option.bind_eq_some_iff.1 h
  have h3:=ih h2
  unfold stp at h1
  split at h1
  ·cases h1
  ·obtain rfl:=ad h1
   simp only[aC,aI,aK,bf] at h3⊢
   omega
theorem B5 {e:List Tok} {i:Nat} (h:i<e.length):e.take (i+1)=e.take i++ [nth e (i:Int)]:=by
 rw[List.take_succ_eq_append_getElem h,cf h]
theorem Ad {e:List Tok} {i:Nat} (h:i<e.length) {st:List (Tr Tok)} (h1:run [] (e.take i)=some st) (h2:stp st (nth e (i:Int))=none):run [] e=none:=by
 have:run [] (e.take (i+1))=none:=by rw[B5 h,w8,h1];exact h2
 rw[<-List.take_append_drop (i+1) e,FI,this];rfl
theorem Ut {e:List Tok} (he:e.length<=1048576):tI e=some (isX e):=by
 obtain ⟨o,eo,hq⟩:=cz (f:=qG e) (fun i s=> ∃st,s=((st.length:Int),(i:Int))/\run [] (e.take i)=some st) (fun o=>(o= .ret false/\run [] e=none)\/ ∃st,o= .brk ((st.length:Int),(e.length:Int))/\run [] e=some st) e.length (s:=(0,0)) (by
  rintro i s hi ⟨st,rfl,hst⟩
  have hl:=Q1 hst
  simp only[bf,aI] at hl
  unfold qG
  simp only[eY]
  by_cases c:i<e.length
  ·rw[if_pos (by simp;omega),aq (by omega) (by omega)];simp only[aa]
   rw[acT];simp only[aa]
   have hr:=w7 (nth e (i:Int))
   by_cases c1:ar (nth e (i:Int))<0
   ·refine .inr ⟨_,by rw[if_pos (by simpa using c1)],(fun s' e=>by cases e),.inl ⟨rfl,Ad c hst ?_⟩⟩
    rw[stp,if_pos (.inl c1)]
   ·rw[if_neg (by simpa using c1)]
    by_cases c2:ar (nth e (i:Int))>(st.length:Int)
    ·refine .inr ⟨_,by rw[if_pos (by simpa using c2)],(fun s' e=>by cases e),.inl ⟨rfl,Ad c hst ?_⟩⟩
     rw[stp,if_pos (.inr c2)]
    ·rw[if_neg (by simpa using c2)]
     refine .inl ⟨c,_,rfl,st.take (st.length - (ar (nth e (i:Int))).toNat)++ [.node (nth e (i:Int)) (st.drop (st.length - (ar (nth e (i:Int))).toNat))],?_,?_⟩
     ·rw[b7 (n:=(st.length:Int) - ar (nth e (i:Int))) (by omega) (by omega),b7 (by omega) (by omega),ae (by omega)]
      congr 1
      simp only[aC,aI,aK,bf]
      omega
     ·rw[B5 c,w8,hst]
      show stp st _=_
      rw[stp,if_neg (by omega)]
  ·obtain rfl:i=e.length:=by omega
   rw[List.take_of_length_le (by omega)] at hst
   exact .inr ⟨_,by rw[if_neg (by simp)],(fun s' e=>by cases e),.inr ⟨st,rfl,hst⟩⟩) ⟨[],rfl,rfl⟩ (mV (by omega))
 unfold tI
 rcases hq with ⟨rfl,h⟩ | ⟨st,rfl,h⟩
 ·rw[bp eo];unfold isX;rw[h]
 ·rw[ah eo];unfold isX;rw[h]
  match st with
  | [] =>rfl
  | [_] =>rfl
  | _::_::_=>simp;omega
theorem ab1 {t:Tok} (h:0<=ar t):(Option.bind ((if t.1==4 then (some (t.1==4)) else (some (t.1==5)):Option Bool)) (fun s3=>if s3 then (some 2) else (Option.bind ((if t.1==6 then (some (t.1==6)) else (some (t.1==7)):Option Bool)) (fun s4=>if s4 then (some 1) else (some 0)))):Option Int)=some (ar t):=by
 rcases oG h with ⟨e,k | k⟩ | ⟨e,k | k⟩ | ⟨e,k | k | k⟩ <;> rw[e] <;> simp[k]
theorem Yp (t:Tok): ∃n:Int,(Option.bind ((if t.1==4 then (some (t.1==4)) else (some (t.1==5)):Option Bool)) (fun s3=>if s3 then (some 2) else (Option.bind ((if t.1==6 then (some (t.1==6)) else (some (t.1==7)):Option Bool)) (fun s4=>if s4 then (some 1) else (some 0)))):Option Int)=some n:=by
 by_cases h4:t.1=4
 ·exact ⟨2,by simp[h4]⟩
 by_cases h5:t.1=5
 ·exact ⟨2,by simp[h5]⟩
 by_cases h6:t.1=6
 ·exact ⟨1,by simp[h6]⟩
 by_cases h7:t.1=7
 ·exact ⟨1,by simp[h7]⟩
 exact ⟨0,by simp[h4,h5,h6,h7]⟩
def zK (e:List Tok):Tr Tok:=match run [] e with
 | some [x] =>x
 | _=>.nil
theorem FJ {e:List Tok} (he:e.length<=1048576):nS e=some (zK e):=by
 obtain ⟨o,eo,hq⟩:=cz (f:=qO e) (fun i s=> ∃st,s=(st,(i:Int))/\run [] (e.take i)=some st) (fun o=>(o= .ret Tr.nil/\run [] e=none)\/ ∃st,o= .brk (st,(e.length:Int))/\run [] e=some st) e.length (s:=([],0)) (by
  rintro i s hi ⟨st,rfl,hst⟩
  have hl:=Q1 hst
  simp only[bf,aI] at hl
  unfold qO
  simp only[eY]
  by_cases c:i<e.length
  ·rw[if_pos (by simp;omega),aq (by omega) (by omega)];simp only[aa]
   have hr:=w7 (nth e (i:Int))
   by_cases c1:ar (nth e (i:Int))<0
   ·obtain ⟨n,hn⟩:=Yp (nth e (i:Int))
    rw[hn];simp only[aa]
    rw[aag];simp only[aa]
    refine .inr ⟨_,by rw[if_neg (by simp;omega)],(fun s' e=>by cases e),.inl ⟨rfl,Ad c hst ?_⟩⟩
    rw[stp,if_pos (.inl c1)]
   ·rw[ab1 (by omega)];simp only[aa]
    rw[aag];simp only[aa]
    rw[if_pos (by simp;omega),b7 (n:=(st.length:Int) - ar (nth e (i:Int))) (by omega) (by omega)]
    by_cases c2:ar (nth e (i:Int))>(st.length:Int)
    ·refine .inr ⟨_,by rw[if_pos (by simp;omega)],(fun s' e=>by cases e),.inl ⟨rfl,Ad c hst ?_⟩⟩
     rw[stp,if_pos (.inr c2)]
    ·rw[if_neg (by simp;omega),show∀p:Prop,∀ [Decidable p],p->chk p=some () from fun p _ hp=>by unfold chk;rw[if_pos hp]]
     ·simp only[aa]
      have e1:((st.length:Int) - ar (nth e (i:Int))).toNat=st.length - (ar (nth e (i:Int))).toNat:=by omega
      rw[e1,aL (by simp;omega)];simp only[aa]
      rw[aL (by simp;omega)];simp only[aa,List.nil_append,ae (show i<9223372036854775807 by omega)]
      refine .inl ⟨c,_,rfl,_,rfl,?_⟩
      rw[B5 c,w8,hst]
      show stp st _=_
      rw[stp,if_neg (by omega)]
     ·omega
  ·obtain rfl:i=e.length:=by omega
   rw[List.take_of_length_le (by omega)] at hst
   exact .inr ⟨_,by rw[if_neg (by simp)],(fun s' e=>by cases e),.inr ⟨st,rfl,hst⟩⟩) ⟨[],rfl,rfl⟩ (mV (by omega))
 unfold nS
 rcases hq with ⟨rfl,h⟩ | ⟨st,rfl,h⟩
 ·rw[bp eo];unfold zK;rw[h]
 ·rw[ah eo];unfold zK;rw[h]
  match st with
  | [] =>rfl
  | [x] =>rfl
  | _::_::_ =>
   simp only
   rw[if_pos (by simp;omega)]
theorem yg {x:Tr Tok} (h:WT x):zK (flat x)=x:=by unfold zK;rw[Us h];rfl
theorem Uu {e:List Tok} (he:e.length<=1048576):tM e=some (isX e):=by
 unfold tM
 rw[FJ he];simp only[aa]
 congr 1
 by_cases h:isX e=true
 ·rw[h]
  obtain ⟨x,h1,h2,h3⟩:=Q0 h
  have:zK e=x:=by unfold zK;rw[h1]
  rw[this]
  cases h2 with
  | node _ _=>rfl
 ·have:zK e= .nil:=by
   unfold zK
   unfold isX at h
   split
   ·rename_i x hx;rw[hx] at h;exact absurd rfl h
   ·rfl
  rw[this,Bool.eq_false_iff.2 h];rfl
theorem JT {e:List Tok} (he:e.length<=1048576):kH e=some (decide (e.length<=24)&&isX e):=by
 unfold kH
 rw[Ut he]
 by_cases c:e.length<=24
 ·rw[if_pos (by simp;omega)];simp[c]
 ·rw[if_neg (by simp;omega)];simp[c]
theorem JU {e:List Tok} (he:e.length<=1048576):kN e=some (decide (e.length<=24)&&isX e):=by
 unfold kN
 rw[Uu he]
 by_cases c:e.length<=24
 ·rw[if_pos (by simp;omega)];simp[c]
 ·rw[if_neg (by simp;omega)];simp[c]
theorem nt {p:Prop} [Decidable p] (h:p):chk p=some ():=by unfold chk;rw[if_pos h]
theorem Yq {A:List Tok} {x:Tr Tok} (hx:WT x) (hl:(A++flat x).length<=1000000):hZ (A++flat x)=some (A.length:Int):=by
 obtain ⟨s',e,ks,q1,q2,q3⟩: ∃s',ak (l6 (A++flat x)) aP (1,((A++flat x).length:Int))=some (.brk s')/\ ∃ks:List (Tr Tok),ks= [] /\s'.2=(A.length:Int)/\True:=by
  obtain ⟨o,eo,hq⟩:=cz (f:=l6 (A++flat x)) (fun i s=> ∃ks:List (Tr Tok),(∀k,k∈ks->WT k)/\s=((ks.length:Int),(((A++j9 ks).length:Nat):Int))/\i+(j9 ks).length=(flat x).length/\(A++flat x).take (A++j9 ks).length=A++j9 ks) (fun o=> ∃s',o= .brk s'/\s'.2=(A.length:Int)) (flat x).length (s:=(1,((A++flat x).length:Int))) (by
   rintro i s hi ⟨ks,hw,rfl,hlen,htk⟩
   unfold l6
   simp only[eY]
   rcases List.eq_nil_or_concat ks with rfl | ⟨ks',y,rfl⟩
   ·refine .inr ⟨_,by rw[if_neg (by simp)],(fun s' e=>by cases e),_,rfl,?_⟩
    simp[j9]
   ·have hy:=hw y (by simp)
    cases hy with
    | @node t cs h1 h2 =>
     have hfl:j9 (ks'++ [.node t cs])=j9 (ks'++cs)++ [t]:=by rw[qu,mS,flat,qu,aA]
     rw[List.concat_eq_append,hfl] at hlen htk⊢
     simp only[aC,aK,bf] at hlen htk hl⊢
     rw[if_pos (by simp <;> omega)]
     have hpos:i64.wrap (((A.length+((j9 (ks'++cs)).length+1):Nat):Int) - 1)=((A.length+(j9 (ks'++cs)).length:Nat):Int):=by
      rw[b7 (by omega) (by omega)];omega
     have hget:nth (A++flat x) ((A.length+(j9 (ks'++cs)).length:Nat):Int)=t:=by
      have hlt:A.length+(j9 (ks'++cs)).length<(A++flat x).length:=by rw[aC];omega
      have e1:=congrArg (fun l:List Tok=>l[A.length+(j9 (ks'++cs)).length]?) htk
      rw[List.getElem?_take_of_lt (by omega),List.getElem?_eq_getElem hlt,<-aA,List.getElem?_append_right (by rw[aC];omega),aC] at e1
      rw[cf hlt]
      simpa using e1
     rw[hpos,aq (by omega) (by simp only[aC];omega),hget];simp only[aa]
     rw[acT,h1];simp only[aa]
     have hcl:(cs.length:Int)<=2:=by rw[<-h1];exact (w7 t).2
     have hkl:ks'.length<=(j9 (ks'++cs)).length+1000000:=by
      have: ∀l:List (Tr Tok),(∀k,k∈l->WT k)->l.length<=(j9 l).length:=by
       intro l
       induction l with
       | nil=>intro _;simp
       | cons k l ih =>
        intro h
        have h1:=(h k (by simp)).pos
        have h2:=ih fun k hk=>h k (by simp[hk])
        rw[j9];simp only[aK,aC];omega
      have:=this ks' fun k hk=>hw k (by simp[hk])
      rw[qu,aC];omega
     refine .inl ⟨by omega,_,rfl,ks'++cs,fun k hk=>?_,?_,by omega,?_⟩
     ·rcases aH hk with hk | hk
      ·exact hw k (by simp[hk])
      ·exact h2 k hk
     ·rw[b7 (n:=((ks'.length+1:Nat):Int) - 1) (by omega) (by omega),b7 (by omega) (by omega)]
      congr 1
      (simp only[aC]) <;> omega
     ·have e1:=congrArg (List.take (A++j9 (ks'++cs)).length) htk
      rw[List.take_take,Nat.min_eq_left (by rw[aC];omega),<-aA,List.take_left] at e1
      rw[aC] at e1
      exact e1) ⟨[x],fun k hk=>by (obtain rfl:=au hk;exact hx),by rw[mS];rfl,by rw[mS];omega,by rw[mS,List.take_length]⟩ (mV (by rw[aC] at hl;omega))
  obtain ⟨s',rfl,h2⟩:=hq
  exact ⟨s',eo,[],rfl,h2,trivial⟩
 unfold hZ
 rw[ah e,q2]
end D
namespace D
open Go.RowKit
instance trInh {α:Type} :Inhabited (Tr α):=⟨.nil⟩
def szX:Tr Tok->Int
 | .nil=>0
 | .node t ks=>min (szL t 1 ks) 100000
where szL (t:Tok) (acc:Int):List (Tr Tok)->Int
 | [] =>acc
 | k::ks=>szL t (acc+(if t.1=7 then (szX k+3)*t.2.2.2 else szX k)) ks
theorem mT {x:Tr Tok} (h:WT x):1<=szX x/\szX x<=100000:=by
 refine WT.ind (p:=fun x=>1<=szX x/\szX x<=100000) ?_ ?_ ?_ h
 ·intro t _
  show 1<=min (1:Int) 100000/\min (1:Int) 100000<=100000
  omega
 ·intro t a e _ ih
  show 1<=min ((1:Int)+(if t.1=7 then (szX a+3)*t.2.2.2 else szX a)) 100000/\min ((1:Int)+(if t.1=7 then (szX a+3)*t.2.2.2 else szX a)) 100000<=100000
  split
  ·rename_i k
   have hr:=B4 (show 0<=ar t by omega) k
   have:0<=(szX a+3)*t.2.2.2:=Int.mul_nonneg (by omega) (by omega)
   omega
  ·omega
 ·intro t a b e _ _ iha ihb
  have k:t.1≠7:=by
   grind[oG,ar]
  show 1<=min ((1:Int)+(if t.1=7 then (szX a+3)*t.2.2.2 else szX a)+(if t.1=7 then (szX b+3)*t.2.2.2 else szX b)) 100000/\min ((1:Int)+(if t.1=7 then (szX a+3)*t.2.2.2 else szX a)+(if t.1=7 then (szX b+3)*t.2.2.2 else szX b)) 100000<=100000
  omega
theorem H4 {a h:Int} (h1:1<=a/\a<=100000) (h2:1<=h/\h<=3):i64.wrap ((i64.wrap (a+3))*h)=(a+3)*h:=by
 have k1:0<=(a+3)*h:=Int.mul_nonneg (by omega) (by omega)
 have k2:(a+3)*h<=100003*3:=Int.mul_le_mul (by omega) (by omega) (by omega) (by omega)
 grind[b7]
theorem Q2 {a h:Int} (h1:1<=a/\a<=100000) (h2:1<=h/\h<=3):0<=(a+3)*h/\(a+3)*h<=300009:=by
 have k1:0<=(a+3)*h:=Int.mul_nonneg (by omega) (by omega)
 have k2:(a+3)*h<=100003*3:=Int.mul_le_mul (by omega) (by omega) (by omega) (by omega)
 omega
theorem rN {t:Tok} {ks:List (Tr Tok)} :Tr.get (.node t ks)=some (t,ks):=rfl
theorem yh {f:Tr Tok->Option Int} {t:Tok} {ks:List (Tr Tok)} {i:Nat} {acc:Int} (hi:i<ks.length) (hf:f (nth ks (i:Int))=some (szX (nth ks (i:Int)))) (hw:WT (nth ks (i:Int))) (ht:0<=ar t) (ha:0<=acc/\acc<=1000000) (hik:i<=1000000) :
  de f (.node t ks) (t,ks) (acc,(i:Int))=some (.nxt (acc+(if t.1=7 then (szX (nth ks (i:Int))+3)*t.2.2.2 else szX (nth ks (i:Int))),((i+1:Nat):Int))):=by
 unfold de
 simp only[rN]
 have hr:=mT hw
 rw[if_pos (by grind),aq (by omega) (by omega)];simp only[aa]
 by_cases k:t.1=7
 ·have h7:=B4 ht k
  have hm:=Q2 hr h7.2
  rw[if_pos (by grind),if_pos k,hf];simp only[aa]
  rw[H4 hr h7.2,b7 (by omega) (by omega),ae (by omega)]
 ·rw[if_neg (by grind),if_neg k,hf];simp only[aa]
  rw[b7 (by omega) (by omega),ae (by omega)]
theorem Ae {α:Type} [Inhabited α] {a:α} {l:List α} :nth (a::l) ((0:Nat):Int)=a:=rfl
theorem Q3 {α:Type} [Inhabited α] {a b:α} {l:List α} :nth (a::b::l) ((1:Nat):Int)=b:=rfl
theorem Yr {x:Tr Tok} (h:WT x): ∀n,(flat x).length<=n->ct n x=some (szX x):=by
 refine WT.ind (p:=fun x=> ∀n,(flat x).length<=n->ct n x=some (szX x)) ?_ ?_ ?_ h
 ·intro t e n hn
  match n,hn with
  | n+1,_ =>
   rfl
 ·intro t a e wa ih n hn
  rw[FH,aC] at hn
  match n,hn with
  | n+1,hn =>
   rw[ct];simp[rN,aa]
   have hL:ak (de (ct n) (.node t [a]) (t,[a])) aP (1,0)=some (.brk (szX.szL t 1 [a],1)):=aO (f:=de (ct n) (.node t [a]) (t,[a])) (fun i=>(szX.szL t 1 ([a].take i),(i:Int))) 1 (fun i hi=>by
    obtain rfl:i=0:=by omega
    exact yh (acc:=1) (i:=0) (by simp) (ih n (by grind)) wa (by omega) (by omega) (by omega)) (by rfl) (by unfold aP;omega)
   rw[ah hL]
   rfl
 ·intro t a b e wa wb iha ihb n hn
  rw[yf,aC,aC] at hn
  match n,hn with
  | n+1,hn =>
   have hra:=mT wa
   have k:t.1≠7:=by
    grind[oG,ar]
   rw[ct];simp[rN,aa]
   have hL:ak (de (ct n) (.node t [a,b]) (t,[a,b])) aP (1,0)=some (.brk (szX.szL t 1 [a,b],2)):=aO (f:=de (ct n) (.node t [a,b]) (t,[a,b])) (fun i=>(szX.szL t 1 ([a,b].take i),(i:Int))) 2 (fun i hi=>by
    have:i=0\/i=1:=by omega
    rcases this with rfl | rfl
    ·exact yh (acc:=1) (i:=0) (by simp) (iha n (by grind)) wa (by omega) (by omega) (by omega)
    ·exact yh (acc:=1+(if t.1=7 then (szX a+3)*t.2.2.2 else szX a)) (i:=1) (by simp) (ihb n (by grind)) wb (by omega) (by omega) (by omega)) (by rfl) (by unfold aP;omega)
   rw[ah hL]
   rfl
theorem nQ {A:List Tok} {t:Tok} (h:A.length<=1000000):aG (A++ [t]) (i64.wrap (((A++ [t]).length:Int) - 1))=some t/\i64.wrap (((A++ [t]).length:Int) - 1)=(A.length:Int):=by
 have e:i64.wrap (((A++ [t]).length:Int) - 1)=(A.length:Int):=by
  rw[b7 (by omega) (by grind)]
  simp only[aC,aK,bf];omega
 grind[aq,aC,aK,bf,cf]
theorem acU {t:Tok} (h:ar t=2):(if t.1==4 then (some (t.1==4)) else (some (t.1==5)):Option Bool)=some true:=by
 grind[oG,ar]
theorem Uv {t:Tok} (h:ar t=1\/ar t=0):(if t.1==4 then (some (t.1==4)) else (some (t.1==5)):Option Bool)=some false:=by
 rcases oG (show 0<=ar t by omega) with ⟨e,k⟩ | ⟨e,k | k⟩ | ⟨e,k | k | k⟩
 ·omega
 all_goals simp[k]
theorem aah {t:Tok} (h:ar t=0):(t.1==6)=false/\(t.1==7)=false:=by
 grind[oG,ar]
theorem Uw {t:Tok} (h:ar t=1):((t.1==6)=true/\t.1=6)\/((t.1==6)=false/\(t.1==7)=true/\t.1=7):=by
 grind[oG,ar]
theorem B6 {a b:Tr Tok} {t:Tok} (wb:WT b) (hl:((flat a++flat b)++ [t]).length<=1000000) :
  (((flat a++flat b)++ [t]).take ((((flat a++flat b).length:Nat):Int)).toNat)=flat a++flat b /\
  hZ (flat a++flat b)=some (((flat a).length:Nat):Int) /\
  (((flat a++flat b)++ [t]).take ((((flat a).length:Nat):Int)).toNat)=flat a /\
  (flat a++flat b).drop ((((flat a).length:Nat):Int)).toNat=flat b:=by
 grind[Yq,aC,aK,bf,Int.toNat_natCast,List.take_left,aA,List.drop_left]
theorem aai {x:Tr Tok} (h:WT x): ∀n,(flat x).length<=n->(flat x).length<=1000000->dQ n (flat x)=some (szX x):=by
 refine WT.ind (p:=fun x=> ∀n,(flat x).length<=n->(flat x).length<=1000000->dQ n (flat x)=some (szX x)) ?_ ?_ ?_ h
 ·intro t e n hn hl
  rw[H3] at hn hl⊢
  match n,hn with
  | n+1,_ =>
   have hk:=aah e
   rw[dQ]
   have:=(nQ (A:=[]) (t:=t) (by simp)).1
   rw[List.nil_append] at this
   rw[this];simp only[aa]
   rw[Uv (.inr e)];simp[aa,hk.1,hk.2,Bool.false_eq_true,if_false]
   rfl
 ·intro t a e wa ih n hn hl
  rw[FH] at hn hl⊢
  simp[aC,aK,bf] at hn hl
  match n,hn with
  | n+1,hn =>
   have hr:=mT wa
   rw[dQ]
   have ⟨l1,l2⟩:=nQ (A:=flat a) (t:=t) (by omega)
   rw[l1];simp only[aa]
   rw[Uv (.inl e)];simp only[aa,Bool.false_eq_true,if_false]
   rw[l2,Int.toNat_natCast,List.take_left,nt (by grind)];simp only[aa]
   rw[ih n (by omega) (by omega)];simp only[aa]
   rcases Uw e with ⟨k1,k2⟩ | ⟨k1,k2,k3⟩
   ·rw[if_pos k1,b7 (by omega) (by omega)]
    show some (min 100000 (szX a+1))=some (min ((1:Int)+(if t.1=7 then (szX a+3)*t.2.2.2 else szX a)) 100000)
    grind
   ·have h7:=B4 (show 0<=ar t by omega) k3
    have hm:=Q2 hr h7.2
    rw[if_neg (by grind),if_pos k2,H4 hr h7.2,b7 (by omega) (by omega)]
    show some (min 100000 ((szX a+3)*t.2.2.2+1))=some (min ((1:Int)+(if t.1=7 then (szX a+3)*t.2.2.2 else szX a)) 100000)
    grind
 ·intro t a b e wa wb iha ihb n hn hl
  rw[yf] at hn hl⊢
  have ⟨p1,p2,p3,p4⟩:=B6 (a:=a) (t:=t) wb hl
  simp[aC,aK,bf] at hn hl
  match n,hn with
  | n+1,hn =>
   have hra:=mT wa
   have hrb:=mT wb
   have k:t.1≠7:=by
    rcases oG (show 0<=ar t by omega) with ⟨_,k⟩ | ⟨k,_⟩ | ⟨k,_⟩ <;> omega
   rw[dQ]
   have ⟨l1,l2⟩:=nQ (A:=flat a++flat b) (t:=t) (by grind)
   rw[l1];simp only[aa]
   rw[acU e];rw[l2,p1,p2,nt (by grind)];simp only[aa]
   rw[nt (by grind),p3,p4];rw[iha n (by omega) (by omega),nt (by simp[aC,aK,bf];omega)];rw[ihb n (by omega) (by omega)];simp only[aa]
   rw[b7 (n:=szX a+szX b) (by omega) (by omega),b7 (by omega) (by omega)]
   show some (min 100000 (szX a+szX b+1))=some (min ((1:Int)+(if t.1=7 then (szX a+3)*t.2.2.2 else szX a)+(if t.1=7 then (szX b+3)*t.2.2.2 else szX b)) 100000)
   grind
def Ux:Tr Tok:=.node (2,0,0,0) []
def Nh (x:Tr Tok):Nat->Int->Tr Tok
 | 0,_=>Ux
 | h+1,low=>if 0<low then .node (4,0,0,0) [x,Nh x h (max 0 (low - 1))] else .node (5,0,0,0) [.node (4,0,0,0) [x,Nh x h (max 0 (low - 1))],Ux]
mutual
def yi:Tr Tok->Tr Tok
 | .nil=>.nil
 | .node t ks=>if t.1=7 then Nh ((aaj ks).headD .nil) t.2.2.2.toNat t.2.2.1 else .node t (aaj ks)
def aaj:List (Tr Tok)->List (Tr Tok)
 | [] =>[]
 | k::ks=>yi k::aaj ks
end
theorem ar4:ar (4,0,0,0)=2:=by decide
theorem ar5:ar (5,0,0,0)=2:=by decide
theorem ar2:ar (2,0,0,0)=0:=by decide
theorem Q4:WT Ux:=.node ar2 fun k hk=>by cases hk
theorem B7:flat Ux= [(2,0,0,0)]:=H3 _
theorem WT.two {t:Tok} {a b:Tr Tok} (h:ar t=2) (ha:WT a) (hb:WT b):WT (.node t [a,b]):=.node h fun k hk=>by
 grind
theorem WT.one {t:Tok} {a:Tr Tok} (h:ar t=1) (ha:WT a):WT (.node t [a]):=.node h fun k hk=>by
 grind
theorem JV {x:Tr Tok} (hx:WT x): ∀(h:Nat) (low:Int),WT (Nh x h low)
 | 0,_=>Q4
 | h+1,low=>by
  rw[Nh]
  split
  ·exact .two ar4 hx (JV hx h _)
  ·exact .two ar5 (.two ar4 hx (JV hx h _)) Q4
theorem FK (x:Tr Tok): ∀(h:Nat) (low:Int),(flat (Nh x h low)).length<=((flat x).length+3)*h+1
 | 0,_=>by rw[Nh,B7];simp
 | h+1,low=>by
  have ih:=FK x h (max 0 (low - 1))
  grind[Nh,yf,aC,aK,bf,Nat.mul_succ,B7]
theorem aa6 {t:Tok} {a:Tr Tok} :yi (.node t [a])=if t.1=7 then Nh (yi a) t.2.2.2.toNat t.2.2.1 else .node t [yi a]:=by rfl
theorem exp2 {t:Tok} {a b:Tr Tok} (h:t.1≠7):yi (.node t [a,b])= .node t [yi a,yi b]:=by simp_all[yi,if_neg,aaj]
theorem aa7 {t:Tok} (h:t.1≠7):yi (.node t [])= .node t []:=by rw[yi,if_neg h,aaj]
theorem no7 {t:Tok} (h:ar t=2\/ar t=0):t.1≠7:=by
 grind[oG,ar]
theorem VW {x:Tr Tok} (h:WT x):WT (yi x):=by
 refine WT.ind (p:=fun x=>WT (yi x)) ?_ ?_ ?_ h
 ·intro t e
  rw[aa7 (no7 (.inr e))]
  exact .node e fun k hk=>by cases hk
 ·intro t a e _ ih
  rw[aa6]
  split
  ·exact JV ih _ _
  ·exact .one e ih
 ·intro t a b e _ _ iha ihb
  rw[exp2 (no7 (.inl e))]
  exact .two e iha ihb
theorem FL {x:Tr Tok} (h:WT x):szX x<100000->((flat (yi x)).length:Int)<=szX x:=by
 refine WT.ind (p:=fun x=>szX x<100000->((flat (yi x)).length:Int)<=szX x) ?_ ?_ ?_ h
 ·intro t e _
  rw[aa7 (no7 (.inr e)),H3]
  show (1:Int)<=min 1 100000
  omega
 ·intro t a e wa ih hs
  have hs':min ((1:Int)+(if t.1=7 then (szX a+3)*t.2.2.2 else szX a)) 100000<100000:=hs
  show _<=min ((1:Int)+(if t.1=7 then (szX a+3)*t.2.2.2 else szX a)) 100000
  rw[aa6]
  by_cases k:t.1=7
  ·have h7:=B4 (show 0<=ar t by omega) k
   have hge:szX a+3<=(szX a+3)*t.2.2.2:=by
    have:=Int.mul_le_mul_of_nonneg_left (c:=szX a+3) h7.2.1 (by omega)
    omega
   have h2:=FK (yi a) t.2.2.2.toNat t.2.2.1
   have h3:(((flat (yi a)).length+3)*t.2.2.2.toNat:Int)<=(szX a+3)*t.2.2.2:=by
    rw[Int.toNat_of_nonneg (by omega)]
    exact Int.mul_le_mul_of_nonneg_right (by omega) (by omega)
   grind
  ·rw[if_neg k,FH]
   grind
 ·intro t a b e wa wb iha ihb hs
  have k:=no7 (.inl e)
  have hs':min ((1:Int)+(if t.1=7 then (szX a+3)*t.2.2.2 else szX a)+(if t.1=7 then (szX b+3)*t.2.2.2 else szX b)) 100000<100000:=hs
  show _<=min ((1:Int)+(if t.1=7 then (szX a+3)*t.2.2.2 else szX a)+(if t.1=7 then (szX b+3)*t.2.2.2 else szX b)) 100000
  grind[exp2,yf,aC,aK,bf]
theorem DU {x:Tr Tok} : ∀(h n:Nat) (low:Int),h<n->h<=3->0<=low->low<=3->mF n x low (h:Int)=some (Nh x h low)
 | 0,n+1,low,_,_,_,_=>by
  rfl
 | h+1,n+1,low,h1,h2,h3,h4=>by
  rw[mF,if_neg (by grind),b7 (n:=low - 1) (by omega) (by omega),b7 (n:=((h+1:Nat):Int) - 1) (by omega) (by omega)]
  rw[show ((h+1:Nat):Int) - 1=(h:Int) from by omega,DU h n (max 0 (low - 1)) (by omega) (by omega) (by omega) (by omega)];simp[aa]
  rw[Nh]
  by_cases c:0<low
  ·grind
  ·rw[if_neg (by grind),if_neg c];rfl
theorem LA {a b:List Tok} {t:Tok} (h:a.length+b.length<=1000000):lI a b t=some ((a++b)++ [t]):=by
 unfold lI lH
 rw[aL (by simp[aC,aK,bf];omega)];simp only[aa,List.nil_append]
 rw[aL (by omega)];simp only[aa]
 rw[aL (by simp[aC,aK,bf];omega)];rfl
theorem Q5 {x:Tr Tok} : ∀(h n:Nat) (low:Int),h<n->h<=3->0<=low->low<=3->(flat x).length<=100000->mB n (flat x) low (h:Int)=some (flat (Nh x h low))
 | 0,n+1,low,_,_,_,_,_=>by
  rfl
 | h+1,n+1,low,h1,h2,h3,h4,h5=>by
  rw[mB,if_neg (by grind),b7 (n:=low - 1) (by omega) (by omega),b7 (n:=((h+1:Nat):Int) - 1) (by omega) (by omega)]
  rw[show ((h+1:Nat):Int) - 1=(h:Int) from by omega,Q5 h n (max 0 (low - 1)) (by omega) (by omega) (by omega) (by omega) h5];simp only[aa]
  have hl:=FK x h (max 0 (low - 1))
  have hl3:((flat x).length+3)*h<=100003*3:=Nat.mul_le_mul (by omega) (by omega)
  rw[LA (by omega),Nh];simp only[aa]
  by_cases c:0<low
  ·simp_all[if_pos,yf]
  ·rw[if_neg (by grind),if_neg c,yf,yf,B7]
   unfold tJ;simp only[aa]
   rw[LA (by simp[aC,aK,bf];omega)];rfl
theorem w9:1000000000000<=gx:=by rw[RT];unfold aP;omega
theorem Uy {x:Tr Tok} (h:WT x): ∀n,(flat x).length<=n->bS n x=some (yi x):=by
 have hF:=w9
 refine WT.ind (p:=fun x=> ∀n,(flat x).length<=n->bS n x=some (yi x)) ?_ ?_ ?_ h
 ·intro t e n hn
  have k:=no7 (.inr e)
  match n,hn with
  | n+1,_ =>
   rw[bS];simp[rN,aa]
   rw[if_neg (by grind),aa7 k]
   rfl
 ·intro t a e wa ih n hn
  rw[FH,aC] at hn
  match n,hn with
  | n+1,hn =>
   have ia:=ih n (by grind)
   rw[bS,aa6];simp only[rN,aa]
   rcases Uw e with ⟨k1,k2⟩ | ⟨k1,k2,k3⟩
   ·have hL:=aO (f:=dD (bS n) (t,[a])) (fun i=>((i:Int),t.1,t.2.1,t.2.2.1,t.2.2.2,[yi a].take i)) 1 (fun i hi=>by
     obtain rfl:i=0:=by omega
     unfold dD
     rw[if_pos (by simp),aq (by omega) (by simp),Ae];simp[aa]
     rw[ia];rfl) (by rfl) (by unfold aP;omega)
    grind[ah]
   ·have h7:=B4 (show 0<=ar t by omega) k3
    rw[if_pos k2,if_pos k3,show aG [a] 0=some a from rfl];simp only[aa]
    rw[ia];simp only[aa]
    have:=DU (x:=yi a) t.2.2.2.toNat gx t.2.2.1 (by omega) (by omega) (by omega) (by omega)
    rw[Int.toNat_of_nonneg (by omega)] at this
    rw[this];rfl
 ·intro t a b e wa wb iha ihb n hn
  rw[yf,aC,aC] at hn
  have k:=no7 (.inl e)
  match n,hn with
  | n+1,hn =>
   have ia:=iha n (by grind)
   have ib:=ihb n (by grind)
   rw[bS,exp2 k];simp[rN,aa]
   have hL:=aO (f:=dD (bS n) (t,[a,b])) (fun i=>((i:Int),t.1,t.2.1,t.2.2.1,t.2.2.2,[yi a,yi b].take i)) 2 (fun i hi=>by
    have:i=0\/i=1:=by omega
    rcases this with rfl | rfl
    ·unfold dD
     rw[if_pos (by simp),aq (by omega) (by simp),Ae];simp[aa]
     rw[ia];rfl
    ·unfold dD
     rw[if_pos (by simp),aq (by omega) (by simp),Q3];simp[aa]
     rw[ib];rfl) (by rfl) (by unfold aP;omega)
   grind[ah]
theorem Q6 {x:Tr Tok} (h:WT x): ∀n out,(flat x).length<=n->out.length+(flat x).length<=1000000->bM n x out=some (out++flat x):=by
 refine WT.ind (p:=fun x=> ∀n out,(flat x).length<=n->out.length+(flat x).length<=1000000->bM n x out=some (out++flat x)) ?_ ?_ ?_ h
 ·intro t e n out hn hl
  rw[H3] at hn hl⊢
  match n,hn with
  | n+1,_ =>
   rw[bM];simp[rN,aa]
   have hL:=aO (f:=cC (bM n) (t,[])) (fun i=>((i:Int),out)) 0 (fun i hi=>by omega) (by rfl) (by unfold aP;omega)
   grind[ah,aL]
 ·intro t a e wa ih n out hn hl
  rw[FH] at hn hl⊢
  simp[aC,aK,bf] at hn hl
  match n,hn with
  | n+1,hn =>
   rw[bM];simp[rN,aa]
   have hL:=aO (f:=cC (bM n) (t,[a])) (fun i=>((i:Int),if i=0 then out else out++flat a)) 1 (fun i hi=>by
    obtain rfl:i=0:=by omega
    unfold cC
    rw[if_pos (by simp),aq (by omega) (by simp),Ae];simp[aa,if_true]
    rw[ih n _ (by omega) (by omega)];rfl) (by rfl) (by unfold aP;omega)
   grind[ah,aL]
 ·intro t a b e wa wb iha ihb n out hn hl
  rw[yf] at hn hl⊢
  simp[aC,aK,bf] at hn hl
  match n,hn with
  | n+1,hn =>
   rw[bM];simp[rN,aa]
   have hL:=aO (f:=cC (bM n) (t,[a,b])) (fun i=>((i:Int),if i=0 then out else if i=1 then out++flat a else (out++flat a)++flat b)) 2 (fun i hi=>by
    have:i=0\/i=1:=by omega
    rcases this with rfl | rfl
    ·unfold cC
     rw[if_pos (by simp),aq (by omega) (by simp),Ae];simp[aa,if_true]
     rw[iha n _ (by omega) (by omega)];rfl
    ·unfold cC
     rw[if_pos (by simp),aq (by omega) (by simp),Q3];simp only[aa,if_true]
     rw[ihb n _ (by omega) (by grind)];rfl) (by rfl) (by unfold aP;omega)
   grind[ah,aL]
theorem Uz {x:Tr Tok} (h:WT x): ∀n,(flat x).length<=n->(flat x).length<=1000000->szX x<=50000->cR n (flat x)=some (flat (yi x)):=by
 have hF:=w9
 refine WT.ind (p:=fun x=> ∀n,(flat x).length<=n->(flat x).length<=1000000->szX x<=50000->cR n (flat x)=some (flat (yi x))) ?_ ?_ ?_ h
 ·intro t e n hn hl hs
  rw[H3] at hn hl⊢
  match n,hn with
  | n+1,_ =>
   have hk:=aah e
   rw[cR]
   have:=(nQ (A:=[]) (t:=t) (by simp)).1
   rw[List.nil_append] at this
   rw[this];simp only[aa]
   rw[Uv (.inr e)];simp_all[aa,Bool.false_eq_true,if_false,aa7,no7,H3]
 ·intro t a e wa ih n hn hl hs
  have hs':min ((1:Int)+(if t.1=7 then (szX a+3)*t.2.2.2 else szX a)) 100000<=50000:=hs
  rw[FH] at hn hl⊢
  simp[aC,aK,bf] at hn hl
  match n,hn with
  | n+1,hn =>
   have hr:=mT wa
   have hsa:szX a<=50000:=by
    by_cases k:t.1=7
    ·rw[if_pos k] at hs'
     have h7:=B4 (show 0<=ar t by omega) k
     have hge:szX a+3<=(szX a+3)*t.2.2.2:=by
      have:=Int.mul_le_mul_of_nonneg_left (c:=szX a+3) h7.2.1 (by omega)
      omega
     omega
    ·omega
   have hla:=FL wa (by omega)
   rw[cR]
   have ⟨l1,l2⟩:=nQ (A:=flat a) (t:=t) (by omega)
   rw[l1];simp only[aa]
   rw[Uv (.inl e)];simp only[aa,Bool.false_eq_true,if_false]
   rw[l2,Int.toNat_natCast,List.take_left,nt (by grind)];simp only[aa]
   rw[ih n (by omega) (by omega) hsa,aa6];simp only[aa]
   rcases Uw e with ⟨k1,k2⟩ | ⟨k1,k2,k3⟩
   ·rw[if_pos k1,if_neg (by omega),LA (by grind),FH];simp
   ·have h7:=B4 (show 0<=ar t by omega) k3
    rw[if_neg (by grind),if_pos k2,if_pos k3]
    grind[Q5,yi,gx,Int.toNat_of_nonneg]
 ·intro t a b e wa wb iha ihb n hn hl hs
  have k:=no7 (.inl e)
  have hs':min ((1:Int)+(if t.1=7 then (szX a+3)*t.2.2.2 else szX a)+(if t.1=7 then (szX b+3)*t.2.2.2 else szX b)) 100000<=50000:=hs
  rw[if_neg k,if_neg k] at hs'
  rw[yf] at hn hl⊢
  have ⟨p1,p2,p3,p4⟩:=B6 (a:=a) (t:=t) wb hl
  simp[aC,aK,bf] at hn hl
  match n,hn with
  | n+1,hn =>
   have hra:=mT wa
   have hrb:=mT wb
   have hla:=FL wa (by omega)
   have hlb:=FL wb (by omega)
   rw[cR]
   have ⟨l1,l2⟩:=nQ (A:=flat a++flat b) (t:=t) (by grind)
   rw[l1];simp only[aa]
   rw[acU e];simp only[aa,if_true]
   rw[l2,p1,p2,nt (by grind)];simp only[aa]
   rw[nt (by grind),p3,p4];simp only[aa]
   rw[iha n (by omega) (by omega) (by omega),nt (by grind)];simp only[aa]
   rw[ihb n (by omega) (by omega) (by omega)];simp only[aa]
   rw[LA (by omega),exp2 k,yf];rfl
def UA (e:List Tok):List Tok×Bool:=
 if decide (e.length<=24)&&isX e then (if 5000<szX (zK e) then ([],false) else (if 400<(flat (yi (zK e))).length then ([],false) else (flat (yi (zK e)),true))) else ([],false)
theorem JW {e:List Tok} (he:e.length<=1048576):l7 e=some (UA e)/\mi e=some (UA e):=by
 have hF:=w9
 unfold l7 mi UA
 rw[JT he,JU he];simp only[aa]
 by_cases c:(decide (e.length<=24)&&isX e)=true
 ·rw[if_pos c,if_pos c,if_pos c,FJ he];simp[aa]
  rw[ai] at c
  obtain ⟨x,h1,hw,rfl⟩:=Q0 c.2
  have h24:(flat x).length<=24:=by simpa using c.1
  rw[yg hw,aai hw gx (by omega) (by omega),Yr hw gx (by omega)];by_cases c2:5000<szX x
  ·grind
  ·have hl:=FL hw (by omega)
   rw[Uz hw gx (by omega) (by omega) (by omega),Uy hw gx (by omega)];simp[aa]
   unfold qP
   rw[Q6 (VW hw) gx [] (by omega) (by grind)];grind
 grind
theorem Ys {e:List Tok} (h:(UA e).2=true): ∃y,WT y/\(UA e).1=flat y/\(flat y).length<=400:=by
 unfold UA at h⊢
 split at h
 ·rename_i c
  rw[ai] at c
  obtain ⟨x,h1,hw,rfl⟩:=Q0 c.2
  rw[yg hw] at h⊢
  split at h
  ·cases h
  ·split at h
   ·cases h
   ·grind[VW]
 grind
end D
namespace D
open Go.RowKit
def Q7 (out:List Bool) (t:Int):Bool:=decide (t≥0)&&nth out t
def hit (out:List Bool) (row:List Int):Bool:=row.any (Q7 out)
def zk (a:AutT) (out:List Bool) (s:Nat):List Bool:=if hit out (nth a.2.2 s) then out.set s true else out
def ln (a:AutT) (out:List Bool):Nat->List Bool
 | 0=>out
 | s+1=>zk a (ln a out s) s
def cnt (out:List Bool):Nat:=out.count true
theorem aak (out:List Bool):cnt out<=out.length:=List.count_le_length
theorem LB {out:List Bool} {s:Nat} (h:s<out.length) (k:out[s] =true):out.set s true=out:=by
 refine List.ext_getElem (by simp) fun i h1 h2=>?_
 grind
theorem Yt {out:List Bool} {s:Nat} (h:s<out.length) (k:out[s] =false):cnt (out.set s true)=cnt out+1:=by
 unfold cnt
 rw[List.count_set h];simp[k]
section
variable {a:AutT} {n:Nat}
theorem FM (a:AutT) (out:List Bool) (s:Nat):(zk a out s).length=out.length:=by grind[zk]
theorem lp (a:AutT) (out:List Bool): ∀s,(ln a out s).length=out.length
 | 0=>rfl
 | s+1=>by rw[ln,FM,lp a out s]
theorem zm {out:List Bool} {s:Nat} (h:s<out.length):(zk a out s=out/\ ¬(hit out (nth a.2.2 s)=true/\nth out s=false))\/(cnt (zk a out s)=cnt out+1/\hit out (nth a.2.2 s)=true/\nth out s=false):=by
 grind[zk,cf,hit,nth,LB,Yt]
theorem yj {out:List Bool} : ∀s,s<=out.length->(ln a out s=out/\cnt (ln a out s)=cnt out)\/cnt out<cnt (ln a out s)
 | 0,_=>.inl ⟨rfl,rfl⟩
 | s+1,hs=>by
  have hl:s<(ln a out s).length:=by rw[lp];omega
  have ih:=yj (out:=out) s (by omega)
  grind[ln,zm]
def it (a:AutT):Nat->List Bool
 | 0=>a.2.1
 | j+1=>ln a (it a j) a.2.1.length
theorem qv (a:AutT): ∀j,(it a j).length=a.2.1.length
 | 0=>rfl
 | j+1=>by rw[it,lp,qv a j]
theorem VX (a:AutT) (j:Nat):cnt (it a j)<=a.2.1.length:=by grind[qv,aak]
theorem JX (a:AutT) (j:Nat):(it a (j+1)=it a j)\/cnt (it a j)<cnt (it a (j+1)):=by
 rcases yj (a:=a) (out:=it a j) a.2.1.length (by rw[qv];omega) with h | h
 ·exact .inl h.1
 ·exact .inr h
theorem aal {j k:Nat} (h:it a (j+1)=it a j) (hk:j<=k):it a k=it a j:=by
 induction hk with
 | refl=>rfl
 | step _ ih=>rw[it,ih];exact h
theorem Q8 {j k:Nat} (h:it a (j+1)=it a j) (h':it a (k+1)=it a k):it a j=it a k:=by
 grind[Nat.le_total,aal]
theorem Yu (a:AutT):it a (a.2.1.length+1)=it a a.2.1.length:=by
 have key: ∀j,it a (j+1)=it a j\/j+1<=cnt (it a (j+1)):=by
  intro j
  induction j with
  | zero=>grind[JX]
  | succ j ih =>
   grind[JX,it]
 grind[VX]
def live (a:AutT):List Bool:=it a a.2.1.length
theorem vC (a:AutT):(live a).length=a.2.1.length:=qv a _
theorem LC {α:Type} [Inhabited α] {row:List α} {p:α->Bool} {k:Nat} (h:k<row.length):(row.take (k+1)).any p=((row.take k).any p || p (nth row (k:Int))):=by
 rw[List.take_succ_eq_append_getElem h,List.any_append,cf h];simp
section
variable (V:VA a n) (hn:n<=1000000)
include V hn
theorem Q9 {out:List Bool} {s:Nat} (hs:s<n) (hl:out.length=n):ak (l9 a (out,(s:Int))) aP (out,0)=some (.brk (zk a out s,9)):=by
 have hr:=V.rowAt (s:=s) (by omega) (by omega)
 have:=aO (f:=l9 a (out,(s:Int))) (fun k=>(if ((nth a.2.2 (s:Int)).take k).any (Q7 out) then out.set s true else out,(k:Int))) 9 (fun k hk=>by
  unfold l9
  rw[if_pos (by grind),V.get (by omega) (by omega)];simp only[aa]
  rw[V.get2 (by omega) (by omega) hk];rw[LC (by omega),show nth (nth a.2.2 (s:Int)) (k:Int)=mv a s k from rfl]
  simp only[ae (show k<9223372036854775807 by omega)]
  by_cases c:mv a s k≥0
  ·have hm:=(V.mv (s:=s) (k:=k) (by omega) (by omega) hk).2
   by_cases q:((nth a.2.2 (s:Int)).take k).any (Q7 out)=true
   ·simp_all[if_true,Bool.true_or,aq,aa,Int.toNat_natCast]
   ·simp[q,Bool.false_eq_true,if_false,Bool.false_or,Q7]
    rw[aq c (by rw[hl];exact hm),aq (by omega) (by omega)];cases hc:nth out (mv a s k) <;> simp[hc,c]
  ·simp[Q7,c]) (by rfl) (by unfold aP;omega)
 have e9:(nth a.2.2 (s:Int)).take 9=nth a.2.2 (s:Int):=List.take_of_length_le (by omega)
 rw[e9] at this
 exact this
theorem H5 {out:List Bool} (hl:out.length=n):ak (jq a) aP (out,0)=some (.brk (ln a out n,(n:Int))):=by
 have hlen:=V.len
 refine aO (f:=jq a) (fun s=>(ln a out s,(s:Int))) n (fun s hs=>?_) ?_ (mV (by omega))
 ·unfold jq
  rw[if_pos (by grind),ah (Q9 V hn hs (by rw[lp];exact hl)),ae (by omega)]
  rfl
 simp_all[jq,if_neg]
theorem VY:lJ a=some (live a):=by
 have hlen:=V.len
 unfold lJ
 rw[aL (by grind)];have:=aO (f:=ma a) (fun j=>(it a j,(j:Int))) n (fun j hj=>by
  unfold ma
  rw[if_pos (by grind),ah (H5 V hn (by grind[qv])),ae (by omega),it,hlen]) (by
  simp_all[ma,if_neg]) (mV (by omega))
 exact (ah this).trans (by simp[live,hlen])
theorem Ra {out:List Bool} {g:Bool} {s:Nat} (hs:s<n) (hl:out.length=n):ak (dx (g,(s:Int),out) (nth a.2.2 (s:Int))) aP (g,0,out)=some (.brk (g || (hit out (nth a.2.2 (s:Int)) && !nth out (s:Int)),9,zk a out s)):=by
 have hr:=V.rowAt (s:=s) (by omega) (by omega)
 have hls:s<out.length:=by omega
 have:=aO (f:=dx (g,(s:Int),out) (nth a.2.2 (s:Int))) (fun k=>(g || (((nth a.2.2 (s:Int)).take k).any (Q7 out) && !nth out (s:Int)),(k:Int),if ((nth a.2.2 (s:Int)).take k).any (Q7 out) then out.set s true else out)) 9 (fun k hk=>by
  unfold dx
  rw[if_pos (by grind),V.get2 (by omega) (by omega) hk];rw[LC (by omega),show nth (nth a.2.2 (s:Int)) (k:Int)=mv a s k from rfl]
  simp only[ae (show k<9223372036854775807 by omega)]
  by_cases c:mv a s k≥0
  ·have hm:=(V.mv (s:=s) (k:=k) (by omega) (by omega) hk).2
   by_cases q:((nth a.2.2 (s:Int)).take k).any (Q7 out)=true
   ·simp[q,if_true,Bool.true_or]
    simp_all[nth,pf,aq,aa,Int.toNat_natCast,if_true]
   ·simp[q,Bool.false_eq_true,if_false,Bool.false_or,Q7,Bool.false_and,Bool.or_false]
    rw[aq c (by rw[hl];exact hm),aq (by omega) (by omega)];cases hc:nth out (mv a s k) with
    | false=>simp[c]
    | true =>
     cases hd:nth out (s:Int) with
     | false=>simp[c]
     | true =>
      rw[cf hls] at hd
      simp[c,LB hls hd]
  ·simp[Q7,c]) (by grind[dx]) (by unfold aP;omega)
 have e9:(nth a.2.2 (s:Int)).take 9=nth a.2.2 (s:Int):=List.take_of_length_le (by omega)
 rw[e9] at this
 have e0:(g || (((nth a.2.2 (s:Int)).take 0).any (Q7 out) && !nth out (s:Int)))=g:=by simp
 rw[e0] at this
 exact this
theorem H6 {out:List Bool} (hl:out.length=n): ∃g,ak (dy a) aP (false,0,out)=some (.brk (g,(n:Int),ln a out n))/\(g=true↔cnt out<cnt (ln a out n)):=by
 have hnl:=V.nlen
 obtain ⟨s',e,⟨g,rfl,hg⟩⟩:=mQ (f:=dy a) (fun s st=> ∃g,st=(g,(s:Int),ln a out s)/\(g=true↔cnt out<cnt (ln a out s))) n (by
  rintro s st hs ⟨g,rfl,hg⟩
  have hpl:(ln a out s).length=n:=by rw[lp];exact hl
  unfold dy
  simp only
  rw[if_pos (by grind),V.get (by omega) (by omega)];simp only[aa]
  rw[ah (Ra V hn hs hpl),ae (by omega)]
  refine ⟨_,rfl,_,rfl,?_⟩
  grind[yj,zm,ln,id,absurd]) (by
  simp_all[dy,if_neg]) ⟨false,rfl,by simp[ln]⟩ (mV (by omega))
 exact ⟨g,e,hg⟩
theorem aam:eR a=some (live a):=by
 have hlen:=V.len
 unfold eR
 rw[aL (by grind)];obtain ⟨o,e,i,rfl,hi⟩:=cz (f:=iF a) (fun i s=> ∃b,s=(b,it a i)/\(b=true->i<=cnt (it a i))/\(b=false->it a (i+1)=it a i)) (fun o=> ∃i,o= .brk (false,it a i)/\it a (i+1)=it a i) (n+1) (s:=(true,a.2.1)) (by
  rintro i s hi ⟨b,rfl,h1,h2⟩
  unfold iF
  cases b with
  | false=>grind
  | true =>
   have hc:=VX a i
   have h1:=h1 rfl
   have ⟨g,e,hg⟩:=H6 V hn (out:=it a i) (by grind[qv])
   have ee:ln a (it a i) n=it a (i+1):=by rw[it,hlen]
   rw[ee] at e hg
   refine .inl ⟨by omega,(g,it a (i+1)),by rw[if_pos rfl,ah e],g,rfl,fun h=>?_,fun h=>?_⟩
   ·grind
   grind[it,JX]) ⟨true,rfl,fun _=>Nat.zero_le _,fun h=>by cases h⟩ (mV (by omega))
 grind[ah,Q8,Yu,live]
end
end
end D
namespace D
open Go.RowKit
def nothing:AutT:=(0,[false],[[-1,-1,-1,-1,-1,-1,-1,-1,-1]])
theorem Rb:pA=some nothing:=by kernel_rfl
theorem Rc:vh=some nothing:=by kernel_rfl
theorem Re {n:Nat} (h:n<=1000000):iOk (n:Int)=true:=by
 have h1:i64.min= -9223372036854775808:=by decide
 have h2:i64.max=9223372036854775807:=by decide
 simp[iOk,Lit.wf,h1,h2,ai,decide_eq_true_eq]
 omega
theorem take_one {α:Type} [Inhabited α] {xs:List α} {k:Nat} (h:k<xs.length):xs.take (k+1)=xs.take k++ [nth xs (k:Int)]:=by
 rw[List.take_succ_eq_append_getElem h,cf h]
theorem kq {α:Type} [Inhabited α] {xs ys:List α} (h:xs <+:ys) {i:Int} (h0:0<=i) (h1:i<xs.length):nth ys i=nth xs i:=by
 obtain ⟨t,rfl⟩:=h
 exact iL h0 h1
structure NumOk {κ:Type} [DecidableEq κ] (nx:κ->List (Option κ)) (first:κ) (G:κ->Prop) (B:Nat):Prop where
 g0:G first
 gn: ∀x,G x-> ∀y,some y∈nx x->G y
 len: ∀x,G x->(nx x).length=9
 bound: ∀l:List κ,l.Nodup->(∀x∈l,G x)->l.length<=B
section
variable {κ:Type} [DecidableEq κ] [Inhabited κ] {nx:κ->List (Option κ)} {first:κ} {G:κ->Prop} {B:Nat}
theorem NumOk.le (H:NumOk nx first G B) (i:Nat):(bfS nx first i).length<=B:=H.bound _ (oE i) (lj H.g0 H.gn i)
theorem NumOk.at (H:NumOk nx first G B) {i:Nat} (h:i<(bfS nx first i).length):G (nth (bfS nx first i) (i:Int)):=lj H.g0 H.gn i _ (bq (by omega) (by omega))
theorem lq {i:Nat} (h:i<(bfS nx first i).length):bfS nx first (i+1)=nbS (bfS nx first i) (nx (nth (bfS nx first i) (i:Int))):=by rw[Fj h,cf h]
theorem xa {i:Nat} (h:i<(bfS nx first i).length):bfR nx first (i+1)=bfR nx first i++ [nbR (bfS nx first i) (nx (nth (bfS nx first i) (i:Int)))]:=by rw[wU h,cf h]
theorem Af {β:Type} {acc:κ->β} {i:Nat} (h:i<(bfS nx first i).length):((bfS nx first (i+1)).take (i+1)).map acc=((bfS nx first i).take i).map acc++ [acc (nth (bfS nx first i) (i:Int))]:=by
 have hp:=bG (nx:=nx) (first:=first) i
 have hl:=hp.length_le
 have e:(bfS nx first (i+1)).take i=(bfS nx first i).take i:=by
  have ⟨t,ht⟩:=hp
  grind
 rw[take_one (by omega),aS,e,kq hp (by omega) (by omega)];rfl
def MapOf (M:List (κ×Int)) (l:List κ):Prop:=M.length=l.length/\ ∀x,M.lookup x=if x∈l then some (l.idxOf x:Int) else none
theorem MapOf.one (x:κ):MapOf [(x,0)] [x]:=by
 refine ⟨rfl,fun y=>?_⟩
 grind
theorem MapOf.put {M:List (κ×Int)} {l:List κ} (h:MapOf M l) {x:κ} (hx:x∉l):MapOf ((x,(l.length:Int))::M) (l++ [x]):=by
 refine ⟨by simp[h.1],fun y=>?_⟩
 rw[List.lookup_cons]
 by_cases e:y=x
 ·grind
 ·simp[show (y==x)=false from by simp[e],h.2 y,List.mem_append,List.mem_singleton,e,or_false]
  grind
end
section
variable {nx:Int->List (Option Int)} {first:Int} {G:Int->Prop} {B:Nat}
theorem H7 {p3:Int->Int->Option (Int×Bool)} {l:List Int} {M:List (Int×Int)} {os:List (Option Int)} {acs:List Bool} {rws:List (List Int)} {i:Nat}
  (hi:i<l.length) (hos:os.length=9) (hM:MapOf M l) (hok: ∀y,some y∈os->iOk y=true) (hB: ∀k,(nbS l (os.take k)).length<=1000000)
  (hp: ∀(k:Nat) (hk:k<9),∃j,p3 (nth l (i:Int)) (k:Int)=some (match nth os (k:Int) with | some y=>(y,true) | none=>(j,false))) :
  ∃M',ak (dU p3 (l,M,(i:Int),0,acs,rws)) aP (l,M,[],0)=some (.brk (nbS l os,M',nbR l os,9))/\MapOf M' (nbS l os):=by
 obtain ⟨s',e,M',rfl,hM'⟩:=mQ (f:=dU p3 (l,M,(i:Int),0,acs,rws)) (fun k s=> ∃M',s=(nbS l (os.take k),M',nbR l (os.take k),(k:Int))/\MapOf M' (nbS l (os.take k))) 9 (by
  rintro k s hk ⟨M1,rfl,hM1⟩
  have hpre:=lT l (os.take k)
  have hlen:=hpre.length_le
  have hBk:=hB k
  have ⟨j,hj⟩:=hp k hk
  have hrl:(nbR l (os.take k)).length<=9:=by rw[gL,aI];omega
  unfold dU
  simp only
  rw[if_pos (by grind),aq (by omega) (by omega)];simp only[aa]
  rw[kq hpre (by omega) (by omega),hj,take_one (by omega),wT,tW]
  simp only[aa,ae (show k<9223372036854775807 by omega)]
  cases ho:nth os (k:Int) with
  | none =>
   simp only[Bool.false_eq_true,if_false]
   rw[aL (by grind)]
   exact ⟨_,rfl,M1,rfl,hM1⟩
  | some y =>
   have hy:=hok y (ho ▸ bq (by omega) (by omega))
   rw[show chk (iOk y=true)=some () from by unfold chk;grind];rw[show lkM M1 y=_ from hM1.2 y]
   by_cases c:y∈nbS l (os.take k)
   ·simp only[c,if_true,Option.isSome_some,Option.getD_some,aa]
    rw[aL (by grind)]
    exact ⟨_,rfl,M1,by rw[nj c];rfl,by grind[nj]⟩
   ·have hput:RB M1 iOk iOk y ((nbS l (os.take k)).length:Int)=some ((y,((nbS l (os.take k)).length:Int))::M1):=by
     unfold RB
     rw[if_pos ⟨by have:=hM1.1;omega,hy,Re hBk⟩]
    simp only[c,if_false,Option.isSome_none,Bool.false_eq_true,hput,aa]
    rw[aL (by grind)];simp only[aa]
    rw[aL (by grind)]
    refine ⟨_,rfl,(y,((nbS l (os.take k)).length:Int))::M1,?_,?_⟩
    ·grind[nk,nbI,qq]
    ·rw[nk c];exact hM1.put c) (by
  grind[dU]) (s:=(l,M,[],0)) ⟨M,rfl,hM⟩ (by unfold aP;omega)
 grind
theorem aan {most:Int} {p2:Int->Option Bool} {p3:Int->Int->Option (Int×Bool)} {acc:Int->Bool} (H:NumOk nx first G B) (hB:B<=1000000) (hmost:(B:Int)<=most) (hok: ∀x,G x->iOk x=true)
  (h2: ∀x,G x->p2 x=some (acc x)) (h3: ∀x (k:Nat),G x->k<9-> ∃j,p3 x (k:Int)=some (match nth (nx x) (k:Int) with | some y=>(y,true) | none=>(j,false))) :
  ∃N,bfE nx first N/\eI first most p2 p3=some ((0,(bfS nx first N).map acc,bfR nx first N),true):=by
 have ⟨N,hNB,hN⟩:=VC (nx:=nx) (first:=first) (H.le)
 refine ⟨N,hN,?_⟩
 unfold eI
 rw[show RB ([] :List (Int×Int)) iOk iOk first 0=some [(first,0)] from by unfold RB;rw[if_pos ⟨by simp,hok _ H.g0,by decide⟩]];simp[aa]
 obtain ⟨s',e,M',rfl,hM'⟩:=mQ (f:=bT most p2 p3) (fun i s=> ∃M,s=(bfS nx first i,M,(i:Int),0,((bfS nx first i).take i).map acc,bfR nx first i)/\MapOf M (bfS nx first i)) N (by
  rintro i s hi ⟨M,rfl,hM⟩
  have hlt:=hN.2 i hi
  have hG:=H.at hlt
  have hle':=H.le (i+1)
  have ⟨M',e,hM'⟩:=H7 (p3:=p3) (l:=bfS nx first i) (M:=M) (os:=nx (nth (bfS nx first i) (i:Int))) (acs:=((bfS nx first i).take i).map acc) (rws:=bfR nx first i) hlt (H.len _ hG) hM (fun y hy=>hok y (H.gn _ hG y hy))
   (fun k=>by
    have:(nbS (bfS nx first i) ((nx (nth (bfS nx first i) (i:Int))).take k)).length<=B:=H.bound _ (sZ (oE i)) fun x hx=>by
     rcases xZ.1 hx with hx | hx
     ·exact lj H.g0 H.gn i x hx
     ·exact H.gn _ hG x (List.mem_of_mem_take hx)
    omega) (fun k hk=>h3 _ k hG hk)
  unfold bT
  rw[if_pos (by grind),ah e,<-lq hlt]
  rw[<-lq hlt] at hM'
  have hl2:=(bG (nx:=nx) (first:=first) i).length_le
  simp only
  rw[if_neg (by grind),aq (by omega) (by omega)];simp only[aa]
  rw[kq (bG i) (by omega) (by omega),h2 _ hG];simp only[aa]
  have hr:(bfR nx first i).length=i:=km fun j hj=>hN.2 j (by omega)
  rw[aL (by simp;omega)];rw[aL (by simp;omega)];simp only[aa,ae (show i<9223372036854775807 by omega)]
  exact ⟨_,rfl,M',by rw[Af hlt,xa hlt],hM'⟩) (by
  rintro s ⟨M,rfl,hM⟩
  unfold bT
  rw[if_neg (by have:=hN.1;grind)]) (s:=([first],[(first,0)],0,0,[],[])) ⟨_,rfl,MapOf.one first⟩ (mV (by omega))
 rw[ah e]
 rw[List.take_of_length_le (by have:=hN.1;omega)]
end
theorem VZ {l:List Int} {x:Int} (h:l.length<=9223372036854775807):n7 l x=some (if x∈l then (l.idxOf x:Int) else -1):=by
 unfold n7
 have ⟨o,e,hq⟩:=cz (f:=pz l x) (fun i s=>s=(i:Int)/\x∉l.take i) (fun o=>(x∈l/\o= .ret (l.idxOf x:Int))\/(x∉l/\ ∃s,o= .brk s)) l.length (s:=0) (by
  rintro i s hi ⟨rfl,hx⟩
  unfold pz
  by_cases hl:i<l.length
  ·rw[if_pos (by grind),aq (by omega) (by omega)];simp[aa]
   by_cases c:nth l (i:Int)=x
   ·refine .inr ⟨_,by rw[if_pos (by grind)],(fun s' e=>by cases e),.inl ?_⟩
    have e:l=l.take i++(x::l.drop (i+1)):=by
     grind[cf,List.drop_eq_getElem_cons,List.take_append_drop]
    grind
   ·refine .inl ⟨hl,_,by rw[if_neg (by grind)],by grind[ae],?_⟩
    rw[take_one hl,List.mem_append,List.mem_singleton]
    rintro (h | h)
    ·exact hx h
    ·exact c h.symm
  simp_all[if_neg,List.take_of_length_le]) ⟨rfl,by simp⟩ (mV h)
 rcases hq with ⟨hx,rfl⟩ | ⟨hx,s,rfl⟩
 ·rw[bp e,if_pos hx]
 ·rw[ah e,if_neg hx]
section
variable {a:AutT} {n:Nat} {c:List Int} {lv:List Bool} {nx:Int->List (Option Int)} {G:Int->Prop} {B:Nat} {acc:Int->Bool}
def good (n:Nat) (lv:List Bool) (r:Int):Prop:=0<=r/\r<n/\nth lv r=true
def yk (a:AutT) (c:List Int) (lv:List Bool) (r:Int):List (Option Int):=(List.range 9).map fun k=>if mv a r k≥0/\nth lv (mv a r k)=true then some (nth c (mv a r k)) else none
theorem LD {r:Int} {k:Nat} (hk:k<9):nth (yk a c lv r) (k:Int)=if mv a r k≥0/\nth lv (mv a r k)=true then some (nth c (mv a r k)) else none:=by
 grind[yk,cf]
def RepsOf (n:Nat) (lv:List Bool) (c:List Int) (rs l:List Int):Prop:=rs.length=l.length/\ ∀j:Nat,j<l.length->good n lv (nth rs j)/\nth c (nth rs j)=nth l (j:Int)
theorem RepsOf.snoc {rs l:List Int} (h:RepsOf n lv c rs l) {t:Int} (ht:good n lv t):RepsOf n lv c (rs++ [t]) (l++ [nth c t]):=by
 refine ⟨by simp[h.1],fun j hj=>?_⟩
 by_cases e:j<l.length
 ·rw[iL (by omega) (by have:=h.1;omega),iL (by omega) (by omega)];exact h.2 j e
 ·have h1:nth (rs++ [t]) (l.length:Int)=t:=by rw[cf (by simp[h.1])];simp[<-h.1]
  grind[nth,cf]
theorem Rf (V:VA a n) (hn:n<=1000000) (hc:c.length=n) (hlv:lv.length=n) {l rs:List Int} {acs:List Bool} {rws:List (List Int)} {i:Nat} (hi:i<l.length) (hR:RepsOf n lv c rs l) {os:List (Option Int)} (hos:os.length=9)
  (ho: ∀r,good n lv r->nth c r=nth l (i:Int)->yk a c lv r=os) (hB: ∀k,(nbS l (os.take k)).length<=1000000) :
  ∃rs',ak (gA a c lv (l,rs,(i:Int),0,acs,rws)) aP (l,rs,[],0)=some (.brk (nbS l os,rs',nbR l os,9))/\RepsOf n lv c rs' (nbS l os):=by
 obtain ⟨s',e,rs',rfl,hR'⟩:=mQ (f:=gA a c lv (l,rs,(i:Int),0,acs,rws)) (fun k s=> ∃rs',s=(nbS l (os.take k),rs',nbR l (os.take k),(k:Int))/\RepsOf n lv c rs' (nbS l (os.take k))) 9 (by
  rintro k s hk ⟨r1,rfl,hR1⟩
  have hpre:=lT l (os.take k)
  have hlen:=hpre.length_le
  have hBk:=hB k
  have hrl:(nbR l (os.take k)).length<=9:=by rw[gL,aI];omega
  have hr1:=hR1.1
  have ⟨⟨g0,g1,g2⟩,gc⟩:=hR1.2 i (by omega)
  rw[kq hpre (by omega) (by omega)] at gc
  have hsu:=ho _ ⟨g0,g1,g2⟩ gc
  have hok:nth os (k:Int)=if mv a (nth r1 (i:Int)) k≥0/\nth lv (mv a (nth r1 (i:Int)) k)=true then some (nth c (mv a (nth r1 (i:Int)) k)) else none:=by
   rw[<-hsu];exact LD hk
  have hmv:=V.mv (s:=nth r1 (i:Int)) (k:=k) g0 g1 hk
  unfold gA
  simp only
  rw[if_pos (by grind),aq (xs:=r1) (by omega) (by omega)];simp only[aa]
  rw[V.get g0 g1];simp only[aa]
  rw[V.get2 g0 g1 hk,take_one (by omega),wT,tW]
  simp only[aa,ae (show k<9223372036854775807 by omega)]
  by_cases c1:mv a (nth r1 (i:Int)) k≥0
  ·rw[if_pos (by grind),aq (xs:=lv) c1 (by omega)];simp only[aa]
   by_cases c2:nth lv (mv a (nth r1 (i:Int)) k)=true
   ·rw[if_pos ⟨c1,c2⟩] at hok
    rw[if_pos c2,aq (xs:=c) c1 (by omega),hok];simp only[aa]
    rw[VZ (by omega)];simp only[aa]
    by_cases c3:nth c (mv a (nth r1 (i:Int)) k)∈nbS l (os.take k)
    ·rw[if_pos c3,if_neg (by simp)];simp only[aa]
     rw[aL (by grind)]
     exact ⟨_,rfl,r1,by rw[nj c3];rfl,by grind[nj]⟩
    ·rw[if_neg c3,if_pos (by decide)]
     rw[aL (by grind)];rw[aL (by grind)];simp only[aa]
     rw[aL (by grind)];refine ⟨_,rfl,r1++ [mv a (nth r1 (i:Int)) k],?_,?_⟩
     ·grind[nk,nbI,qq]
     ·rw[nk c3];exact hR1.snoc ⟨c1,hmv.2,c2⟩
   ·rw[if_neg (fun h=>c2 h.2)] at hok
    rw[if_neg c2,hok];simp only[aa]
    rw[aL (by grind)]
    exact ⟨_,rfl,r1,rfl,hR1⟩
  ·rw[if_neg (fun h=>c1 h.1)] at hok
   rw[if_neg (by grind),hok];simp only[aa]
   rw[aL (by grind)]
   exact ⟨_,rfl,r1,rfl,hR1⟩) (by
  grind[gA]) (s:=(l,rs,[],0)) ⟨rs,rfl,hR⟩ (by unfold aP;omega)
 grind
theorem aao (V:VA a n) (hn:n<=1000000) (hc:c.length=n) (hlv:lv.length=n) (hs:nth lv a.1=true) (H:NumOk nx (nth c a.1) G B) (hB:B<=1000000)
  (hnx: ∀r,good n lv r->nx (nth c r)=yk a c lv r) (hacc: ∀r,good n lv r->acc (nth c r)=nth a.2.1 r) :
  ∃N,bfE nx (nth c a.1) N/\iS a c lv=some (0,(bfS nx (nth c a.1) N).map acc,bfR nx (nth c a.1) N):=by
 have ⟨N,hNB,hN⟩:=VC (nx:=nx) (first:=nth c a.1) (H.le)
 refine ⟨N,hN,?_⟩
 have hst:=V.start
 unfold iS
 rw[aq hst.1 (by omega)];simp[aa]
 rw[if_pos hs,aq hst.1 (by omega)];simp[aa]
 obtain ⟨s',e,rs,rfl,hR⟩:=mQ (f:=jE a c lv) (fun i s=> ∃rs,s=(bfS nx (nth c a.1) i,rs,(i:Int),0,((bfS nx (nth c a.1) i).take i).map acc,bfR nx (nth c a.1) i)/\RepsOf n lv c rs (bfS nx (nth c a.1) i)) N (by
  rintro i s hi ⟨rs,rfl,hR⟩
  have hlt:=hN.2 i hi
  have hG:=H.at hlt
  have ⟨rs',e,hR'⟩:=Rf (acs:=((bfS nx (nth c a.1) i).take i).map acc) (rws:=bfR nx (nth c a.1) i) V hn hc hlv hlt hR (os:=nx (nth (bfS nx (nth c a.1) i) (i:Int))) (H.len _ hG) (fun r hr e=>by grind) (fun k=>by
    have:(nbS (bfS nx (nth c a.1) i) ((nx (nth (bfS nx (nth c a.1) i) (i:Int))).take k)).length<=B:=H.bound _ (sZ (oE i)) fun x hx=>by
     rcases xZ.1 hx with hx | hx
     ·exact lj H.g0 H.gn i x hx
     ·exact H.gn _ hG x (List.mem_of_mem_take hx)
    omega)
  unfold jE
  simp only
  rw[if_pos (by grind),ah e]
  rw[<-lq hlt] at hR'
  have hl2:=(bG (nx:=nx) (first:=nth c a.1) i).length_le
  have hr1:=hR'.1
  have ⟨⟨g0,g1,g2⟩,gc⟩:=hR'.2 i (by omega)
  rw[kq (bG i) (by omega) (by omega)] at gc
  rw[aq (xs:=rs') (by omega) (by omega)];simp only[aa]
  rw[V.acc g0 g1,<-hacc _ ⟨g0,g1,g2⟩,gc];simp only[aa]
  have hr:(bfR nx (nth c a.1) i).length=i:=km fun j hj=>hN.2 j (by omega)
  rw[aL (by simp;omega)];rw[aL (by simp;omega)];simp only[aa,ae (show i<9223372036854775807 by omega)]
  exact ⟨_,rfl,rs',by rw[<-lq hlt,Af hlt,xa hlt],hR'⟩) (by
  rintro s ⟨rs,rfl,hR⟩
  unfold jE
  rw[if_neg (by have:=hN.1;grind)]) (s:=([nth c a.1],[a.1],0,0,[],[])) ⟨[a.1],rfl,rfl,fun j hj=>by
   obtain rfl:j=0:=by simpa [bfS] using hj
   exact ⟨⟨hst.1,hst.2,hs⟩,rfl⟩⟩ (mV (by omega))
 rw[ah e]
 rw[List.take_of_length_le (by have:=hN.1;omega)]
theorem JY (V:VA a n) (hlv:lv.length=n) (hs:nth lv a.1=false):iS a c lv=some nothing:=by
 have hst:=V.start
 simp_all[iS,aq,aa,Rb]
end
end D
namespace D
open Go.RowKit
abbrev Il:=(List Int)×Int×Int×(List Int)×Bool
abbrev Yv (x:Int) (j:Nat):Bool:=(tn (oK x (j:Int)) 1)==1
def UB (F:List Int) (set m0:Int):Nat->Int
 | 0=>m0
 | i+1=>if Yv set (i+1) then orI (UB F set m0 i) (nth F (i:Int)) else UB F set m0 i
def pick (L:List Int) (m letter:Int):Nat->Int
 | 0=>0
 | i+1=>if nth L (i:Int)=letter/\Yv m i=true then orI (pick L m letter i) (xf 1 ((i+1:Nat):Int)) else pick L m letter i
def aft (p:Il) (set letter:Int):Int:=pick p.1 (UB p.2.2.2.1 set (if (tn set 1)==1 then p.2.1 else 0) p.2.2.2.1.length) letter p.1.length
def xb (p:Il) (set:Int):Bool:=if (tn set 1)==1 then (if p.2.2.2.2 then true else (tn (oK set 1) p.2.2.1) !=0) else (tn (oK set 1) p.2.2.1) !=0
theorem tl (i:Nat):chk (0<=(i:Int))=some ():=by rfl
theorem Yw {p:Il} {set letter:Int} (hl:p.2.2.2.1.length=p.1.length) (hb:p.1.length<=1000000):oS p set letter=some (aft p set letter):=by
 have h0: ∀m0,ak (ic p set) aP (m0,0)=some (.brk (UB p.2.2.2.1 set m0 p.1.length,(p.1.length:Int))):=fun m0 =>
  aO (f:=ic p set) (fun i=>(UB p.2.2.2.1 set m0 i,(i:Int))) p.1.length (fun i hi=>by
   unfold ic
   rw[if_pos (by grind),ae (by omega),tl];rw[UB]
   by_cases c:Yv set (i+1)=true
   ·simp_all[if_pos,aq]
   grind) (by unfold ic;simp) (mV (by omega))
 have h1: ∀s7:Int×Int,ak (ig p letter s7) aP (0,0)=some (.brk (pick p.1 s7.1 letter p.1.length,(p.1.length:Int))):=fun s7 =>
  aO (f:=ig p letter s7) (fun i=>(pick p.1 s7.1 letter i,(i:Int))) p.1.length (fun i hi=>by
   unfold ig
   rw[if_pos (by grind),ae (by omega),tl,tl];rw[pick]
   by_cases c:Yv s7.1 i=true
   ·rw[if_pos c,aq (by omega) (by omega)];grind
   grind) (by unfold ig;simp) (mV (by omega))
 unfold oS aft
 by_cases c:((tn set 1)==1)=true
 ·simp_all[if_pos,aa,ah]
 simp_all[if_neg,aa,ah]
theorem Yx {p:Il} {set letter:Int} (hl:p.2.2.2.1.length=p.1.length) (hb:p.1.length<=1000000):gf p set letter=some (aft p set letter):=by
 have h0: ∀m0,ak (cZ p set) aP (m0,0)=some (.brk (UB p.2.2.2.1 set m0 p.2.2.2.1.length,(p.2.2.2.1.length:Int))):=fun m0 =>
  aO (f:=cZ p set) (fun i=>(UB p.2.2.2.1 set m0 i,(i:Int))) p.2.2.2.1.length (fun i hi=>by
   unfold cZ
   rw[if_pos (by grind),aq (by omega) (by omega)];rw[ae (by omega),tl];rw[UB]
   grind) (by unfold cZ;simp) (mV (by omega))
 have h1: ∀s7:Int×Int,ak (c6 p letter s7) aP (0,0)=some (.brk (pick p.1 s7.1 letter p.1.length,(p.1.length:Int))):=fun s7 =>
  aO (f:=c6 p letter s7) (fun i=>(pick p.1 s7.1 letter i,(i:Int))) p.1.length (fun i hi=>by
   unfold c6
   rw[if_pos (by grind),aq (by omega) (by omega)];rw[ae (by omega),tl,tl];rw[pick]
   grind) (by unfold c6;simp) (mV (by omega))
 unfold gf aft
 by_cases c:((tn set 1)==1)=true
 ·simp_all[if_pos,aa,ah]
 simp_all[if_neg,aa,ah]
theorem aap (p:Il) (x:Int):l8 p x=some (xb p x):=by
 grind[l8,xb]
theorem aaq (p:Il) (x:Int):dw p x=some (xb p x):=by
 grind[dw,xb]
theorem Ni (x:Int): -9223372036854775808<=i64.wrap x/\i64.wrap x<=9223372036854775807:=by
 simp[IntKind.wrap,IntKind.bits,IntKind.signed,Bool.true_and]
 grind
theorem Yy (x:Int):iOk (i64.wrap x)=true:=by
 have h1:i64.min= -9223372036854775808:=by decide
 simp_all[Ni,iOk,Lit.wf,ai,decide_eq_true_eq]
theorem aar (m n:Int):iOk (orI m n)=true:=Yy _
theorem Rg (L:List Int) (m letter:Int): ∀i,iOk (pick L m letter i)=true
 | 0=>by rfl
 | i+1=>by
  rw[pick]
  split
  ·exact aar _ _
  ·exact Rg L m letter i
def nxS (p:Il) (x:Int):List (Option Int):=(List.range 9).map fun k:Nat=>if aft p x (k:Int)=0 then none else some (aft p x (k:Int))
theorem V0 {p:Il} {x:Int} {k:Nat} (hk:k<9):nth (nxS p x) (k:Int)=if aft p x k=0 then none else some (aft p x k):=by
 grind[nxS,cf]
theorem FN (p:Il) (x:Int):(nxS p x).length=9:=by simp[nxS]
theorem aas {p:Il} {x y:Int} (h:some y∈nxS p x):iOk y=true:=by
 have ⟨k,hk,e⟩:=List.mem_map.1 h
 split at e
 ·cases e
 ·cases ad e
  exact Rg _ _ _ _
theorem Rh {κ:Type} [DecidableEq κ] : ∀(l:List κ) (os:List (Option κ)),(nbS l os).length<=l.length+os.length
 | l,[] =>by simp[nbS]
 | l,o::os=>by
  have h:=Rh (nbL l o) os
  have h2:(nbL l o).length<=l.length+1:=by
   cases o with
   | none=>simp[nbL]
   | some x=>grind[nbL]
  grind[nbS,nbL,aK]
section
variable {κ:Type} [DecidableEq κ] (nx:κ->List (Option κ)) (first:κ) (acc:κ->Bool) (most:Nat)
def goM:Nat->Nat->AutT×Bool
 | 0,i=>((0,[],[]),false)
 | f+1,i=>if i<(bfS nx first i).length then (if (bfS nx first (i+1)).length>most then ((0,[],[]),false) else goM f (i+1)) else ((0,((bfS nx first i).take i).map acc,bfR nx first i),true)
end
section
variable {κ:Type} [DecidableEq κ] {nx:κ->List (Option κ)} {first:κ} {acc:κ->Bool} {most:Nat}
theorem Ri {i:Nat} (h: ∀j,j<i->j<(bfS nx first j).length):i<=(bfS nx first i).length:=by
 cases i with
 | zero=>omega
 | succ i =>
  have h1:=h i (by omega)
  grind[bG]
theorem LF {S:Type} {f:S->Option (Out (AutT×Bool) S)} (hm:most<=1000000) (h1:1<=most) (st:Nat->S->Prop)
  (hs: ∀i s,st i s->(∀j,j<i->j<(bfS nx first j).length)->(bfS nx first i).length<=most->i<(bfS nx first i).length->((bfS nx first (i+1)).length>most->f s=some (.ret ((0,[],[]),false)))/\((bfS nx first (i+1)).length<=most-> ∃s',f s=some (.nxt s')/\st (i+1) s'))
  (he: ∀i s,st i s-> ¬i<(bfS nx first i).length->f s=some (.brk s)) {s:S} (h0:st 0 s) :
  (ak f aP s=some (.ret ((0,[],[]),false))/\goM nx first acc most (most+2) 0=((0,[],[]),false)) \/
  ∃N s',ak f aP s=some (.brk s')/\st N s'/\bfE nx first N/\N<=most/\goM nx first acc most (most+2) 0=((0,(bfS nx first N).map acc,bfR nx first N),true):=by
 have ⟨o,e,hq⟩:=cz (f:=f) (fun i s=>st i s/\(∀j,j<i->j<(bfS nx first j).length)/\(bfS nx first i).length<=most/\goM nx first acc most (most+2) 0=goM nx first acc most (most+2 - i) i)
  (fun o=>(o= .ret ((0,[],[]),false)/\goM nx first acc most (most+2) 0=((0,[],[]),false))\/ ∃N s',o= .brk s'/\st N s'/\bfE nx first N/\N<=most/\goM nx first acc most (most+2) 0=((0,(bfS nx first N).map acc,bfR nx first N),true)) most (s:=s) (by
  rintro i s hi ⟨k1,k2,k3,k4⟩
  have hle:=Ri k2
  rw[show most+2 - i=(most+1 - i)+1 from by omega] at k4
  have k5:goM nx first acc most (most+1 - i+1) i=if i<(bfS nx first i).length then (if (bfS nx first (i+1)).length>most then ((0,[],[]),false) else goM nx first acc most (most+1 - i) (i+1)) else ((0,((bfS nx first i).take i).map acc,bfR nx first i),true):=rfl
  by_cases c:i<(bfS nx first i).length
  ·grind
  ·refine .inr ⟨_,he i s k1 c,(fun s' e=>by cases e),.inr ⟨i,s,rfl,k1,⟨by omega,k2⟩,hi,?_⟩⟩
   grind) ⟨h0,fun j hj=>by omega,by simp[bfS];omega,rfl⟩ (mV (by omega))
 grind
end
section
variable {p:Il} {most:Nat} (hl:p.2.2.2.1.length=p.1.length) (hb:p.1.length<=1000000) (hm:most<=900000) (h1:1<=most)
include hl hb hm h1
theorem ab2:iE p most=some (goM (nxS p) 1 (xb p) most (most+2) 0):=by
 have hp3: ∀(l:List Int) (i k:Nat),k<9-> ∃j,(fun a0 a1=>df a0 a1 (p.1,p.2.1,p.2.2.1,p.2.2.2.1,p.2.2.2.2)) (nth l (i:Int)) (k:Int)=some (match nth (nxS p (nth l (i:Int))) (k:Int) with | some y=>(y,true) | none=>(j,false)):=by
  intro l i k hk
  refine ⟨0,?_⟩
  show df _ _ p=_
  unfold df
  rw[Yx hl hb,V0 hk];by_cases c:aft p (nth l (i:Int)) k=0
  ·grind
  ·grind
 unfold iE eI
 rw[show RB ([] :List (Int×Int)) iOk iOk 1 0=some [(1,0)] from by rfl];simp[aa]
 rcases LF (nx:=nxS p) (first:=1) (acc:=xb p) (most:=most) (f:=bT most (fun a0=>dw (p.1,p.2.1,p.2.2.1,p.2.2.2.1,p.2.2.2.2) a0) (fun a0 a1=>df a0 a1 (p.1,p.2.1,p.2.2.1,p.2.2.2.1,p.2.2.2.2)))
  (by omega) h1 (fun i s=> ∃M,s=(bfS (nxS p) 1 i,M,(i:Int),0,((bfS (nxS p) 1 i).take i).map (xb p),bfR (nxS p) 1 i)/\MapOf M (bfS (nxS p) 1 i)) (by
   rintro i s ⟨M,rfl,hM⟩ hj hle hlt
   have ⟨M',e,hM'⟩:=H7 (p3:=fun a0 a1=>df a0 a1 (p.1,p.2.1,p.2.2.1,p.2.2.2.1,p.2.2.2.2)) (l:=bfS (nxS p) 1 i) (M:=M) (os:=nxS p (nth (bfS (nxS p) 1 i) (i:Int))) (acs:=((bfS (nxS p) 1 i).take i).map (xb p)) (rws:=bfR (nxS p) 1 i) hlt (FN _ _) hM (fun y hy=>aas hy)
    (fun k=>by
     grind[Rh,bfS,nxS,nth,FN,aI]) (fun k hk=>hp3 _ i k hk)
   rw[<-lq hlt] at hM'
   have hl2:=(bG (nx:=nxS p) (first:=1) i).length_le
   constructor
   ·simp_all[bT,if_pos,ah,lq]
   ·intro hle2
    unfold bT
    rw[if_pos (by grind),ah e,<-lq hlt]
    simp only
    rw[if_neg (by grind),aq (by omega) (by omega)];simp only[aa]
    rw[kq (bG i) (by omega) (by omega)]
    rw[aaq];simp only[aa]
    have hr:=km hj
    rw[aL (by simp;omega)];rw[aL (by simp;omega)];simp only[aa,ae (show i<9223372036854775807 by omega)]
    exact ⟨_,rfl,M',by rw[Af hlt,xa hlt],hM'⟩) (by
   rintro i s ⟨M,rfl,hM⟩ hn
   simp_all[bT,if_neg]) (s:=([1],[(1,0)],0,0,[],[])) ⟨_,rfl,MapOf.one 1⟩ with ⟨e,hg⟩ | ⟨N,s',e,⟨M,rfl,hM⟩,hN,hNm,hg⟩
 ·grind[bp]
 ·rw[ah e,hg];simp only[aa]
  rw[List.take_of_length_le (by have:=hN.1;omega)]
theorem UC {l:List Int} {acs:List Bool} {rws:List (List Int)} {i:Nat} (hi:i<l.length) (hle:l.length<=most) :
  ak (iR p (l,(i:Int),0,acs,rws)) aP (l,[],0)=some (.brk (nbS l (nxS p (nth l (i:Int))),nbR l (nxS p (nth l (i:Int))),9)):=by
 have h9:=FN p (nth l (i:Int))
 have:=aO (f:=iR p (l,(i:Int),0,acs,rws)) (fun k=>(nbS l ((nxS p (nth l (i:Int))).take k),nbR l ((nxS p (nth l (i:Int))).take k),(k:Int))) 9 (fun k hk=>by
  have hpre:=lT l ((nxS p (nth l (i:Int))).take k)
  have hlen:=hpre.length_le
  have hB:=Rh l ((nxS p (nth l (i:Int))).take k)
  rw[aI] at hB
  have hrl:(nbR l ((nxS p (nth l (i:Int))).take k)).length<=9:=by rw[gL,aI];omega
  unfold iR
  simp only[eY]
  rw[if_pos (by grind),aq (by omega) (by omega)];simp only[aa]
  rw[kq hpre (by omega) (by omega),Yw hl hb];simp only[aa]
  rw[take_one (by omega),wT,tW,V0 hk]
  simp only[ae (show k<9223372036854775807 by omega)]
  by_cases c:aft p (nth l (i:Int)) k=0
  ·rw[if_pos c,if_neg (by simp[c])];simp[aa]
   rw[aL (by grind)];rfl
  ·rw[if_neg c,if_pos (by grind),VZ (by omega)];simp[aa]
   by_cases d:aft p (nth l (i:Int)) k∈nbS l ((nxS p (nth l (i:Int))).take k)
   ·rw[if_pos d,if_neg (by simp),nj d];simp[aa]
    rw[aL (by grind)];rfl
   ·rw[if_neg d,if_pos (by decide),aL (by grind),nk d];simp[aa]
    rw[aL (by simp;omega)];simp[nbI,qq d,aa]) (by
  rfl) (by unfold aP;omega)
 exact this
theorem ab3:jo p most=some (goM (nxS p) 1 (xb p) most (most+2) 0):=by
 unfold jo
 rcases LF (nx:=nxS p) (first:=1) (acc:=xb p) (most:=most) (f:=fB p most)
  (by omega) h1 (fun i s=>s=(bfS (nxS p) 1 i,(i:Int),0,((bfS (nxS p) 1 i).take i).map (xb p),bfR (nxS p) 1 i)) (by
   rintro i s rfl hj hle hlt
   have e:=UC hl hb hm h1 (acs:=((bfS (nxS p) 1 i).take i).map (xb p)) (rws:=bfR (nxS p) 1 i) hlt hle
   have hl2:=(bG (nx:=nxS p) (first:=1) i).length_le
   constructor
   ·simp_all[fB,if_pos,ah,lq]
   ·intro hle2
    unfold fB
    rw[if_pos (by grind),ah e,<-lq hlt]
    simp only
    rw[if_neg (by grind),aq (by omega) (by omega)];simp only[aa]
    rw[kq (bG i) (by omega) (by omega)]
    rw[aap];simp only[aa]
    have hr:=km hj
    rw[aL (by simp;omega)];rw[aL (by simp;omega)];simp only[aa,ae (show i<9223372036854775807 by omega)]
    exact ⟨_,rfl,by rw[Af hlt,xa hlt]⟩) (by
   simp_all[fB,if_neg]) (s:=([1],0,0,[],[])) rfl with ⟨e,hg⟩ | ⟨N,s',e,rfl,hN,hNm,hg⟩
 ·rw[bp e,hg]
 ·rw[ah e,hg];rw[List.take_of_length_le (by have:=hN.1;omega)]
end
end D
namespace D
open Go.RowKit
theorem UD (m n:Int):orI m n=orI n m:=by unfold orI;rw[BitVec.or_comm]
def lk (F:List Int) (from_ to_:Int):Nat->List Int
 | 0=>F
 | i+1=>if Yv from_ i then (lk F from_ to_ i).set i (orI (nth (lk F from_ to_ i) (i:Int)) to_) else lk F from_ to_ i
theorem B8 (F:List Int) (f t:Int): ∀i,(lk F f t i).length=F.length
 | 0=>rfl
 | i+1=>by
  rw[lk]
  split
  ·rw[List.length_set,B8]
  ·exact B8 F f t i
theorem V1 {p:Il} {f t:Int} (hl:p.2.2.2.1.length<=1000000):n6 p f t=some (p.1,p.2.1,p.2.2.1,lk p.2.2.2.1 f t p.2.2.2.1.length,p.2.2.2.2):=by
 have hL:ak (jn f t) aP (0,p.2.2.2.1)=some (.brk ((p.2.2.2.1.length:Int),lk p.2.2.2.1 f t p.2.2.2.1.length)):=aO (f:=jn f t) (fun i=>((i:Int),lk p.2.2.2.1 f t i)) p.2.2.2.1.length (fun i hi=>by
  have hk:=B8 p.2.2.2.1 f t i
  unfold jn
  rw[if_pos (by grind),tl];rw[lk,ae (by omega)]
  by_cases c:Yv f i=true
  ·simp_all[if_pos,aq,aa,Int.toNat_natCast]
  grind) (by unfold jn;simp[B8]) (mV (by omega))
 grind[n6,ah]
theorem LG {p:Il} {f t:Int} (hl:p.2.2.2.1.length<=1000000):dH p f t=some (p.1,p.2.1,p.2.2.1,lk p.2.2.2.1 f t p.2.2.2.1.length,p.2.2.2.2):=by
 have hL:ak (cU p f t) aP (0,p.2.2.2.1)=some (.brk ((p.2.2.2.1.length:Int),lk p.2.2.2.1 f t p.2.2.2.1.length)):=aO (f:=cU p f t) (fun i=>((i:Int),lk p.2.2.2.1 f t i)) p.2.2.2.1.length (fun i hi=>by
  have hk:=B8 p.2.2.2.1 f t i
  unfold cU
  rw[if_pos (by grind),tl];rw[lk,ae (by omega)]
  by_cases c:Yv f i=true
  ·simp_all[if_pos,aq,aa,Int.toNat_natCast]
  grind) (by unfold cU;simp) (mV (by omega))
 grind[dH,ah]
def BOk (x:Tr Tok):Prop:= ∀(n m:Nat) (p:Il),(flat x).length<=n->(flat x).length<=m->p.2.2.2.1.length=p.1.length->p.1.length+(flat x).length<=100000->
 ∃(nu:Bool) (fi la:Int) (q:Il),dn n p (flat x)=some ((nu,fi,la),q)/\bm m p x=some ((fi,la,nu),q)/\q.2.2.2.1.length=q.1.length/\q.1.length<=p.1.length+(flat x).length
theorem UE {x:Tr Tok} (h:WT x):BOk x:=by
 refine WT.ind (p:=BOk) ?_ ?_ ?_ h
 ·intro t e n m p hn hm hF hl
  rw[H3] at hn hm hl⊢
  simp only[aK,bf] at hl
  match n,m,hn,hm with
  | n+1,m+1,_,_ =>
   rw[dn,bm];simp only[rN,aa]
   have:=(nQ (A:=[]) (t:=t) (by simp)).1
   rw[List.nil_append] at this
   rw[this];simp only[aa,eY]
   rcases oG (show 0<=ar t by omega) with ⟨k,_⟩ | ⟨k,_⟩ | ⟨_,k⟩
   ·omega
   ·omega
   rcases k with k | k | k
   ·exact ⟨false,0,0,p,by simp[k],by simp[k],hF,by simp⟩
   ·exact ⟨true,0,0,p,by simp[k],by simp[k],hF,by simp⟩
   ·refine ⟨false,xf 1 (p.1.length:Int),xf 1 (p.1.length:Int),(p.1++ [t.2.1],p.2.1,p.2.2.1,p.2.2.2.1++ [0],p.2.2.2.2),?_,?_,by grind,by simp⟩
    ·rw[if_neg (by simp[k]),if_pos (by simp[k]),aL (by grind)];simp only[aa]
     rw[aL (by simp;omega)];rfl
    ·rw[if_neg (by simp[k]),if_pos (by simp[k]),aL (by grind)];simp only[aa]
     rw[aL (by simp;omega)];rfl
 ·intro t a e wa ih n m p hn hm hF hl
  rw[FH] at hn hm hl⊢
  simp only[aC,aK,bf] at hn hm hl
  match n,m,hn,hm with
  | n+1,m+1,hn,hm =>
   rw[dn,bm];simp only[rN,aa,eY]
   obtain ⟨l1,l2⟩:=nQ (A:=flat a) (t:=t) (by omega)
   rw[l1];simp only[aa]
   obtain ⟨nu,fi,la,q,hs,hi,hq1,hq2⟩:=ih n m p (by omega) (by omega) hF (by omega)
   rcases Uw e with ⟨k1,k2⟩ | ⟨k1,k2,k3⟩
   ·have g2:(t.1==2)=false:=by simp[k2]
    have g3:(t.1==3)=false:=by simp[k2]
    have g4:(t.1==4)=false:=by simp[k2]
    have g5:(t.1==5)=false:=by simp[k2]
    simp only[g2,g3,g4,g5,k1,Bool.false_eq_true,if_false,if_true]
    rw[l2,Int.toNat_natCast,List.take_left,nt (by grind)];simp only[aa]
    rw[hs,show aG [a] 0=some a from rfl];simp only[aa]
    rw[hi];simp only[aa,eY]
    rw[V1 (by omega),LG (by omega)];simp only[aa]
    refine ⟨true,fi,la,_,rfl,rfl,?_,?_⟩
    ·simp only[B8];exact hq1
    ·simp only[aC,aK,bf];omega
   grind
 ·intro t a b e wa wb iha ihb n m p hn hm hF hl
  rw[yf] at hn hm hl⊢
  have hl2:((flat a++flat b)++ [t]).length<=1000000:=by omega
  obtain ⟨p1,p2,p3,p4⟩:=B6 (a:=a) (t:=t) wb hl2
  simp only[aC,aK,bf] at hn hm hl
  match n,m,hn,hm with
  | n+1,m+1,hn,hm =>
   have hpa:=wa.pos
   have hpb:=wb.pos
   rw[dn,bm];simp only[rN,aa,eY]
   obtain ⟨l1,l2⟩:=nQ (A:=flat a++flat b) (t:=t) (by grind)
   rw[l1];simp only[aa]
   obtain ⟨nu,fi,la,q,hs,hi,hq1,hq2⟩:=iha n m p (by omega) (by omega) hF (by omega)
   obtain ⟨nu2,fi2,la2,q2,hs2,hi2,hq3,hq4⟩:=ihb n m q (by omega) (by omega) hq1 (by omega)
   have c1: ∀r:Int,0<=r->r<=((flat a++flat b++ [t]).length:Int)->chk (0<=r/\r<=((flat a++flat b++ [t]).length:Int))=some ():=fun r h1 h2=>nt ⟨h1,h2⟩
   have g0:aG [a,b] 0=some a:=rfl
   have g1:aG [a,b] 1=some b:=rfl
   rcases oG (show 0<=ar t by omega) with ⟨_,k⟩ | ⟨k,_⟩ | ⟨k,_⟩
   ·rcases k with k | k
    ·have g2:(t.1==2)=false:=by simp[k]
     have g3:(t.1==3)=false:=by simp[k]
     have g4:(t.1==4)=true:=by simp[k]
     have g5:(t.1==5)=false:=by simp[k]
     simp only[g2,g3,g4,g5,Bool.false_eq_true,if_false,if_true]
     rw[l2,p1,p2,nt (by grind)];simp only[aa]
     rw[nt (by grind),p3,p4,hs,g0,g1];simp only[aa]
     rw[hi,nt (by grind)];simp only[aa,eY]
     rw[hs2,hi2];simp only[aa,eY]
     rw[V1 (by omega),LG (by omega)];simp only[aa]
     refine ⟨nu&&nu2,if nu then orI fi fi2 else fi,if nu2 then orI la la2 else la2,(q2.1,q2.2.1,q2.2.2.1,lk q2.2.2.2.1 la fi2 q2.2.2.2.1.length,q2.2.2.2.2),?_,?_,?_,?_⟩
     ·cases nu <;> cases nu2 <;> rfl
     ·rw[UD la la2]
      cases nu <;> cases nu2 <;> rfl
     ·grind[B8]
     grind
    ·have g2:(t.1==2)=false:=by simp[k]
     have g3:(t.1==3)=false:=by simp[k]
     have g4:(t.1==4)=false:=by simp[k]
     have g5:(t.1==5)=true:=by simp[k]
     simp only[g2,g3,g4,g5,Bool.false_eq_true,if_false,if_true]
     rw[l2,p1,p2,nt (by grind)];simp only[aa]
     rw[nt (by grind),p3,p4,hs,g0,g1];simp only[aa]
     rw[hi,nt (by grind)];simp only[aa,eY]
     rw[hs2,hi2];simp only[aa,eY]
     refine ⟨nu || nu2,orI fi fi2,orI la la2,q2,?_,?_,hq3,?_⟩
     ·cases nu <;> simp
     ·cases nu <;> simp
     grind
   ·omega
   ·omega
def Nj (e:List Tok):Nat->Nat
 | 0=>0
 | i+1=>if (nth e (i:Int)).1=3 then Nj e i+1 else Nj e i
theorem JZ (e:List Tok): ∀i,Nj e i<=i
 | 0=>aF _
 | i+1=>by
  have:=JZ e i
  grind[Nj]
theorem ab4 {r:List Tok×Bool} (hl:r.1.length<=1000000):ak (dq r) aP (0,0)=some (.brk ((Nj r.1 r.1.length:Int),(r.1.length:Int))):=
 aO (f:=dq r) (fun i=>((Nj r.1 i:Int),(i:Int))) r.1.length (fun i hi=>by
  have:=JZ r.1 i
  unfold dq
  rw[if_pos (by grind),aq (by omega) (by omega)];rw[Nj,ae (show i<9223372036854775807 by omega),ae (show Nj r.1 i<9223372036854775807 by omega)]
  grind) (by unfold dq;simp) (mV (by omega))
theorem ab5 {r:List Tok×Bool} (hl:r.1.length<=1000000):ak (du r) aP (0,0)=some (.brk ((Nj r.1 r.1.length:Int),(r.1.length:Int))):=
 aO (f:=du r) (fun i=>((Nj r.1 i:Int),(i:Int))) r.1.length (fun i hi=>by
  have:=JZ r.1 i
  unfold du
  rw[if_pos (by grind),aq (by omega) (by omega)];rw[Nj,ae (show i<9223372036854775807 by omega),ae (show Nj r.1 i<9223372036854775807 by omega)]
  grind) (by unfold du;simp) (mV (by omega))
theorem vD {e:List Tok} (he:e.length<=1048576): ∃r:Il×Bool,gO e=some r/\gP e=some r/\r.1.2.2.2.1.length=r.1.1.length/\r.1.1.length<=100000:=by
 have hF:=w9
 have ⟨e1,e2⟩:=JW he
 unfold gO gP
 rw[e1,e2];simp only[aa]
 by_cases c:(UA e).2=true
 ·have ⟨y,wy,ey,ly⟩:=Ys c
  rw[if_pos c,if_pos c,ah (ab4 (by grind)),ah (ab5 (by grind))]
  by_cases d:(Nj (UA e).1 (UA e).1.length:Int)>20
  ·simp_all
  ·have d':=decide_eq_false d
   simp only[d',Bool.false_eq_true,if_false]
   rw[ey,FJ (by omega),yg wy];simp only[aa]
   have ⟨nu,fi,la,q,hs,hi,hq1,hq2⟩:=UE wy gx gx ([],0,0,[],false) (by omega) (by omega) rfl (by grind)
   rw[hs,hi];simp[aa]
   grind
 simp_all
end D
namespace D
open Go.RowKit
theorem Nk (n:Nat) (l:List Int) (hd:l.Nodup) (h: ∀x∈l,0<=x/\x<n):l.length<=n:=by
 have:=hd.length_le_of_subset (l₂:=(List.range n).map Int.ofNat) (fun x hx=>by
  obtain ⟨h0,h1⟩:=h x hx
  exact List.mem_map.2 ⟨x.toNat,List.mem_range.2 (by omega),by show ((x.toNat:Nat):Int)=x;omega⟩)
 simpa using this
theorem aat {n:Nat} {x:Int} (hn:n<=1000000) (h0:0<=x) (h1:x<n):iOk x=true:=by
 have:=Re (n:=x.toNat) (by omega)
 rwa [show ((x.toNat:Nat):Int)=x from by omega] at this
theorem aau {κ:Type} [DecidableEq κ] {nx:κ->List (Option κ)} {first:κ} {G:κ->Prop} {B N:Nat} {acc:κ->Bool} (H:NumOk nx first G B) (hB:B<=1000000) (hN:bfE nx first N):Data.sm ((0,(bfS nx first N).map acc,bfR nx first N):AutT):=by
 have hl:=H.bound _ (oE (nx:=nx) (first:=first) N) (lj H.g0 H.gn N)
 refine ⟨trivial,⟨by rw[List.length_map];omega,fun _ _=>trivial⟩,?_,?_⟩
 ·rw[km hN.2];have:=hN.1;omega
 ·have key: ∀i,i<=N-> ∀r∈bfR nx first i,r.length=9:=by
   intro i
   induction i with
   | zero=>intro _ r hr;cases hr
   | succ i ih =>
    intro hi r hr
    have hlt:=hN.2 i (by omega)
    rw[wU hlt] at hr
    rcases aH hr with hr | hr
    ·exact ih (by omega) r hr
    ·obtain rfl:=au hr
     rw[gL,H.len _ (lj H.g0 H.gn i _ (List.getElem_mem hlt))]
  intro r hr
  exact ⟨by rw[key N (aF _) r hr];decide,fun _ _=>trivial⟩
theorem Nl:Data.sm nothing:=⟨trivial,⟨by decide,fun _ _=>trivial⟩,by decide,fun r hr=>by
 obtain rfl:=au hr
 exact ⟨by decide,fun _ _=>trivial⟩⟩
end D
namespace D
open Go.RowKit
theorem Nm {κ:Type} [DecidableEq κ] {l m:List κ} (h:l <+:m) {y:κ} (hy:y∈l):(m.idxOf y:Int)=l.idxOf y:=by
 obtain ⟨t,rfl⟩:=h
 grind
theorem V2 {κ:Type} [DecidableEq κ] : ∀(l:List κ) (os:List (Option κ)) (i:Nat),i<os.length->nth (nbR l os) (i:Int)=nbI (nbS l os) (nth os (i:Int))
 | l,o::os,0,_=>by
  show nbI l o=nbI (nbS (nbL l o) os) o
  cases o with
  | none=>rfl
  | some y =>
   have hm:y∈nbL l (some y):=Ql.2 (.inr rfl)
   simp[nbI]
   rw[Nm (lT _ os) hm]
   by_cases c:y∈l
   ·rw[nj c]
   simp_all[nk,List.idxOf_append,if_neg,qq]
 | l,o::os,i+1,h=>by
  have h':i<os.length:=by simpa using h
  have ih:=V2 (nbL l o) os i h'
  have e1:nth (nbR l (o::os)) ((i+1:Nat):Int)=nth (nbR (nbL l o) os) (i:Int):=by
   rfl
  have e2:nth (o::os) ((i+1:Nat):Int)=nth os (i:Int):=by rfl
  exact ih
theorem pI {κ:Type} [DecidableEq κ] {l:List κ} {y:κ} (h:y∈l): ∃(q:Nat) (hq:q<l.length),nbI l (some y)=(q:Int)/\l[q] =y:=
 ⟨l.idxOf y,List.idxOf_lt_length_of_mem h,rfl,by simp⟩
theorem FO {κ:Type} [DecidableEq κ] {l:List κ} {y:κ} (h:y∉l):nbI l (some y)=(l.length:Int):=by simp[nbI,qq h]
def V3:List Int->Nat->Nat->Prop
 | [],c,m=>c=m
 | x::xs,c,m=>(x= -1/\V3 xs c m)\/(0<=x/\x<c/\V3 xs c m)\/(x=c/\V3 xs (c+1) m)
theorem FP {κ:Type} [DecidableEq κ] : ∀(os:List (Option κ)) (l:List κ),V3 (nbR l os) l.length (nbS l os).length
 | [],l=>rfl
 | none::os,l=>.inl ⟨rfl,FP os l⟩
 | some y::os,l=>by
  by_cases c:y∈l
  ·refine .inr (.inl ⟨Int.natCast_nonneg _,?_,?_⟩)
   ·grind[List.idxOf_lt_length_of_mem,nbI]
   ·show V3 (nbR (nbL l (some y)) os) l.length (nbS (nbL l (some y)) os).length
    rw[nj c];exact FP os l
  ·refine .inr (.inr ⟨by simp[nbI,qq c],?_⟩)
   show V3 (nbR (nbL l (some y)) os) (l.length+1) (nbS (nbL l (some y)) os).length
   have:=FP os (l++ [y])
   grind[nk]
def aa8:List Int->List (Option (List Int))->Prop
 | [],[] =>True
 | x::xs,o::os=>((x<0/\o=none)\/(0<=x/\ ∃t,o=some (x::t)))/\aa8 xs os
 | _,_=>False
theorem Rj: ∀(xs:List Int) (os:List (Option (List Int))),xs.length=os.length->(∀i (h:i<xs.length) (h':i<os.length),(xs[i] < 0/\os[i] =none)\/(0<=xs[i] /\ ∃t,os[i] =some (xs[i] ::t)))->aa8 xs os
 | [],[],_,_=>trivial
 | x::xs,o::os,hl,h=>⟨h 0 (by simp) (by simp),Rj xs os (by grind) fun i h1 h2=>h (i+1) (by grind) (by grind)⟩
theorem oH: ∀(xs:List Int) (os:List (Option (List Int))) (l:List (List Int)) (c m:Nat),aa8 xs os->V3 xs c m->(∀y∈l,∃h t,y=h::t/\h<c)->
  m+l.length<=(nbS l os).length+c/\(l.length=c->(∀(q:Nat) (hq:q<l.length),∃t,l[q] =(q:Int)::t)->(nbS l os).length=m->nbR l os=xs)
 | [],[],l,c,m,_,hn,_=>by
  subst hn
  exact ⟨by simp[nbS];omega,fun _ _ _=>rfl⟩
 | x::xs,o::os,l,c,m,hr,hn,hh=>by
  have ⟨hr1,hr2⟩:=hr
  rcases hn with ⟨rfl,hn⟩ | ⟨hx0,hxc,hn⟩ | ⟨rfl,hn⟩
  ·have ho:o=none:=by
    rcases hr1 with ⟨-,h⟩ | ⟨h,-⟩
    ·exact h
    ·omega
   subst ho
   have ⟨i1,i2⟩:=oH xs os l c m hr2 hn hh
   exact ⟨i1,fun h1 h2 h3=>by show -1::nbR l os=_;rw[i2 h1 h2 h3]⟩
  ·obtain ⟨t,rfl⟩: ∃t,o=some (x::t):=by
    grind
   by_cases k:(x::t)∈l
   ·have ⟨i1,i2⟩:=oH xs os l c m hr2 hn hh
    grind[nbL,nj,nbS,pI,nbI,nbR]
   ·have ⟨i1,i2⟩:=oH xs os (l++ [x::t]) c m hr2 hn (fun y hy=>by
     grind)
    grind[aC,List.length_singleton,nbS,nbL]
  ·obtain ⟨t,rfl⟩: ∃t,o=some ((c:Int)::t):=by
    grind
   have k:((c:Int)::t)∉l:=fun k=>by
    grind
   have hb:=nk k
   have ⟨i1,i2⟩:=oH xs os (l++ [(c:Int)::t]) (c+1) m hr2 hn (fun y hy=>by
    grind)
   have hlen:(l++ [(c:Int)::t]).length=l.length+1:=by simp
   refine ⟨by grind[nbS,nbL],fun h1 h2 h3=>?_⟩
   have h3:(nbS (nbL l (some ((c:Int)::t))) os).length=m:=h3
   rw[hb] at h3
   have:=i2 (by omega) (fun q hq=>by
    by_cases e:q<l.length
    ·grind
    grind) h3
   grind[nbI,nbR,nbL,FO]
theorem FQ (xs ys:List Int) (hN:xs.length<=1048576): ∃r,nY xs ys=some r/\(r=0↔xs=ys):=by
 unfold nY
 have h0:=ZW (f:=oR xs ys) xs ys (fun i h h'=>by
  simp[oR,bK h,bK h',if_true,az h,az h',aa,ae (show i<9223372036854775807 by omega)]
  grind) (fun i hi=>by
  grind[oR]) xs.length 0 aP (by omega) (fV _ (by omega))
 rw[show (((0:Nat):Int))=(0:Int) from rfl] at h0
 rcases h0 with ⟨r,e,h1,h2⟩ | ⟨s,e,h1⟩
 ·exact ⟨r,by rw[e];rfl,by grind⟩
 ·simp[aJ]
  by_cases c1:xs.length<ys.length
  ·exact ⟨-1,by grind,by grind⟩
  ·by_cases c2:xs.length>ys.length
   ·exact ⟨1,by grind,by grind⟩
   ·exact ⟨0,by grind,by grind⟩
theorem B9 (xs ys:List Int) (hN:xs.length<=9223372036854775807):b6 xs ys=some (decide (xs=ys)):=
 eqL (f:=cx xs ys) xs ys hN (fun i h h'=>by
  simp[cx,bK h,if_true,az h,az h',aa,ae (show i<9223372036854775807 by omega)]
  grind) (by simp only[cx,bw];rfl)
def V4 (a:AutT):List Int:=(List.range a.2.1.length).map fun s:Nat=>if nth (live a) (s:Int)=true then (if nth a.2.1 (s:Int)=true then 1 else 0) else -1
def ent (a:AutT) (c:List Int) (s:Int) (k:Nat):Int:=if mv a s k<0 then -1 else nth c (mv a s k)
def F5 (a:AutT) (c:List Int) (s:Int):List Int:=nth c s::(List.range 9).map fun k=>ent a c s k
def F6 (a:AutT) (c:List Int) (s:Nat):Option (List Int):=if nth c (s:Int)<0 then none else some (F5 a c s)
def keys (a:AutT) (c:List Int):List (Option (List Int)):=(List.range a.2.1.length).map (F6 a c)
def DV (a:AutT) (c:List Int):List Int:=nbR [] (keys a c)
def Cl (a:AutT) (c:List Int):Nat:=(nbS [] (keys a c)).length
def cI (a:AutT):Nat->List Int
 | 0=>V4 a
 | j+1=>DV a (cI a j)
section
variable {a:AutT} {n:Nat}
theorem ej (a:AutT) (c:List Int):(keys a c).length=a.2.1.length:=by simp[keys]
theorem J4 {c:List Int} {s:Nat} (h:s<a.2.1.length):nth (keys a c) (s:Int)=F6 a c s:=by
 grind[cf,keys]
theorem Ca (a:AutT) (c:List Int):(DV a c).length=a.2.1.length:=by rw[DV,gL,ej]
theorem qw (a:AutT): ∀j,(cI a j).length=a.2.1.length
 | 0=>by simp[cI,V4]
 | j+1=>Ca a _
theorem re {κ:Type} [DecidableEq κ] : ∀(l:List κ) (os:List (Option κ)),(nbS l os).length<=l.length+os.length
 | l,[] =>by simp[nbS]
 | l,o::os=>by
  have h:=re (nbL l o) os
  have:(nbL l o).length<=l.length+1:=by
   cases o with
   | none=>simp[nbL]
   | some x=>grind[nbL]
  grind[nbS,nbL,aK]
theorem J5 (a:AutT) (c:List Int):Cl a c<=a.2.1.length:=by
 grind[re,keys,ej,Cl]
theorem FR {c:List Int} {s:Nat} (h:s<a.2.1.length):nth (DV a c) (s:Int)=nbI (nbS [] (keys a c)) (F6 a c s):=by
 grind[DV,V2,ej,J4]
theorem Cb {c:List Int} {s:Nat} (h:s<a.2.1.length) (hc: ¬nth c (s:Int)<0):F5 a c s∈nbS [] (keys a c):=by
 refine xZ.2 (.inr ?_)
 refine List.mem_map.2 ⟨s,List.mem_range.2 h,?_⟩
 unfold F6;grind
theorem Ag {c:List Int} {s:Nat} (h:s<a.2.1.length):(nth (DV a c) (s:Int)<0↔nth c (s:Int)<0)/\(nth (DV a c) (s:Int)<0->nth (DV a c) (s:Int)= -1):=by
 rw[FR h]
 unfold F6
 by_cases hc:nth c (s:Int)<0
 ·simp_all[if_pos,nbI]
 ·grind[pI,Cb,absurd]
theorem Yz {c:List Int} {s:Nat} (h:s<a.2.1.length):nth (DV a c) (s:Int)<(a.2.1.length:Int):=by
 rw[FR h]
 unfold F6
 by_cases hc:nth c (s:Int)<0
 ·grind[nbI]
 ·obtain ⟨q,hq,e,-⟩:=pI (Cb h hc)
  have:=J5 a c
  grind[Cl]
theorem Rk {c:List Int} {s t:Nat} (hs:s<a.2.1.length) (ht:t<a.2.1.length) (h0:0<=nth (DV a c) (s:Int)) (h:nth (DV a c) (s:Int)=nth (DV a c) (t:Int)):F5 a c s=F5 a c t:=by
 have n1: ¬nth c (s:Int)<0:=fun k=>by have:=(Ag hs).1.2 k;omega
 have n2: ¬nth c (t:Int)<0:=fun k=>by simp_all[Ag]
 rw[FR hs,FR ht] at h
 unfold F6 at h
 have ⟨q,hq,e1,e2⟩:=pI (Cb hs n1)
 have ⟨q',hq',e1',e2'⟩:=pI (Cb ht n2)
 grind
theorem DW (a:AutT) {s:Nat} (h:s<a.2.1.length): ∀j,(nth (cI a j) (s:Int)<0↔nth (live a) (s:Int)=false)/\(nth (cI a j) (s:Int)<0->nth (cI a j) (s:Int)= -1)
 | 0=>by
  grind[nth,cI,live,V4,cf]
 | j+1=>by
  have ih:=DW a h j
  grind[Ag,cI,trans]
theorem V5 (a:AutT) {s t:Nat} (hs:s<a.2.1.length) (ht:t<a.2.1.length): ∀j,0<=nth (cI a j) (s:Int)->nth (cI a j) (s:Int)=nth (cI a j) (t:Int)->nth a.2.1 (s:Int)=nth a.2.1 (t:Int)
 | 0,h0,h=>by
  grind[nth,cI,live,V4,cf]
 | j+1,h0,h=>by
  have k:=Rk (c:=cI a j) hs ht h0 h
  have h1:nth (cI a j) (s:Int)=nth (cI a j) (t:Int):=by
   injection k
  refine V5 a hs ht j ?_ h1
  have:=(Ag (c:=cI a j) hs).1
  grind[nth,cI,DV]
theorem YA (a:AutT) (j:Nat):V3 (cI a (j+1)) 0 (Cl a (cI a j)):=FP (keys a (cI a j)) []
theorem UF (a:AutT) {c:List Int} (hc:c.length=a.2.1.length):aa8 c (keys a c):=by
 refine Rj _ _ (by rw[ej,hc]) fun i h h'=>?_
 have e1:=(cf h).symm
 have e2:(keys a c)[i] =F6 a c i:=by simp[keys]
 rw[e1,e2]
 unfold F6
 by_cases k:nth c (i:Int)<0
 ·grind
 ·exact .inr ⟨by omega,_,by rw[if_neg k];rfl⟩
theorem Rl (a:AutT) (j:Nat):Cl a (cI a j)<=Cl a (cI a (j+1))/\(Cl a (cI a (j+1))=Cl a (cI a j)->cI a (j+2)=cI a (j+1)):=by
 have ⟨h1,h2⟩:=oH (cI a (j+1)) (keys a (cI a (j+1))) [] 0 (Cl a (cI a j)) (UF a (qw a _)) (YA a j) (fun y hy=>by cases hy)
 exact ⟨by grind[Cl],fun h=>h2 rfl (fun q hq=>absurd hq (Nat.not_lt_zero q)) h⟩
theorem aav {j k:Nat} (h:cI a (j+1)=cI a j) (hk:j<=k):cI a k=cI a j:=by
 induction hk with
 | refl=>rfl
 | step _ ih=>rw[cI,ih];exact h
theorem Rm {j k:Nat} (h:cI a (j+1)=cI a j) (h':cI a (k+1)=cI a k):cI a j=cI a k:=by
 grind[Nat.le_total,aav]
theorem YB (a:AutT): ∃j,j<=a.2.1.length/\cI a (j+1)=cI a j:=by
 by_cases h0:cI a 1=cI a 0
 ·grind
 have hpos:1<=Cl a (cI a 0):=by
  refine Nat.one_le_iff_ne_zero.2 fun hz=>h0 ?_
  have hnone: ∀s:Nat,s<a.2.1.length->nth (cI a 0) (s:Int)<0:=fun s hs=>by
   grind[Cb,cI,List.length_pos_of_mem,Cl]
  refine X0 (by grind[qw]) fun i hi=>?_
  rw[qw] at hi
  have h1:=(DW a hi 0).2 (hnone i hi)
  have h2:=(DW a hi 1).2 (((DW a hi 1).1.trans (DW a hi 0).1.symm).2 (hnone i hi))
  omega
 have key: ∀m,(∃j,j<=m/\cI a (j+1)=cI a j)\/m+1<=Cl a (cI a m):=by
  intro m
  induction m with
  | zero=>omega
  | succ m ih =>
   grind[Rl]
 rcases key a.2.1.length with h | h
 ·exact h
 grind[J5,cI]
end
end D
namespace D
open Go.RowKit
section
variable {a:AutT} {n:Nat} {c:List Int}
theorem LH (k:Nat) (s:Int):(List.range (k+1)).map (fun k=>ent a c s k)=(List.range k).map (fun k=>ent a c s k)++ [ent a c s k]:=by simp[List.range_succ]
theorem ab6 (V:VA a n) (hn:n<=1000000) (hc:c.length=n) {s:Nat} (hs:s<n):pP a c s=some (F5 a c s):=by
 unfold pP
 rw[aq (by omega) (by omega)];simp only[aa]
 have:=aO (f:=nB a c s) (fun k=>(nth c (s:Int)::(List.range k).map (fun k=>ent a c s k),(k:Int))) 9 (fun k hk=>by
  have hm:=V.mv (s:=s) (k:=k) (by omega) (by omega) hk
  unfold nB
  simp only
  rw[if_pos (by simp;omega),V.get (by omega) (by omega)];simp only[aa]
  rw[V.get2 (by omega) (by omega) hk,LH];simp only[aa,ae (show k<9223372036854775807 by omega)]
  by_cases h:mv a s k<0
  ·rw[if_pos (by simpa using h),aL (by simp;omega),show ent a c s k= -1 from by unfold ent;rw[if_pos h]];rfl
  ·rw[if_neg (by simpa using h),aq (by omega) (by omega)];simp only[aa]
   rw[aL (by simp;omega),show ent a c s k=nth c (mv a s k) from by unfold ent;rw[if_neg h]];rfl) (by unfold nB;simp) (by unfold aP;omega)
 exact ah this
theorem ab7 (V:VA a n) (hn:n<=1000000) (hc:c.length=n) {s:Nat} (hs:s<n):ak (cV c (nth a.2.2 (s:Int))) aP (0,[nth c (s:Int)])=some (.brk (9,F5 a c s)):=by
 have hr:=V.rowAt (s:=s) (by omega) (by omega)
 exact aO (f:=cV c (nth a.2.2 (s:Int))) (fun k=>((k:Int),nth c (s:Int)::(List.range k).map (fun k=>ent a c s k))) 9 (fun k hk=>by
  have hm:=V.mv (s:=s) (k:=k) (by omega) (by omega) hk
  unfold cV
  simp only
  rw[if_pos (by simp[hr];omega),V.get2 (by omega) (by omega) hk,LH];simp only[aa,ae (show k<9223372036854775807 by omega)]
  by_cases h:mv a s k<0
  ·have e:mv a s k= -1:=by omega
   rw[if_neg (by simp;omega)];simp only[aa]
   rw[aL (by simp;omega),show ent a c s k=mv a s k from by unfold ent;rw[if_pos h,e]];rfl
  ·rw[if_pos (by simp;omega),aq (by omega) (by omega)];simp only[aa]
   rw[aL (by simp;omega),show ent a c s k=nth c (mv a s k) from by unfold ent;rw[if_neg h]];rfl) (by unfold cV;simp[hr]) (by unfold aP;omega)
theorem H8 {κ:Type} [DecidableEq κ] {l t r:List κ} {x:κ} (e:l=t++x::r) (hx:x∉t):nbI l (some x)=(t.length:Int):=by
 subst e
 simp only[nbI]
 rw[List.idxOf_append,if_neg hx,List.idxOf_cons_self,Nat.zero_add]
def aaw (l:List (List Int)) (x:List Int):Int:=if x∈l then nbI l (some x) else -1
theorem aax {l:List (List Int)} {x cs:List Int} {q:Int} (hl:l.length<=1000000) (hd:l.Nodup) (hx: ∀y∈l,y.length<=1048576):ak (fD (l,cs,q) x) aP (-1,0)=some (.brk (aaw l x,(l.length:Int))):=by
 have:=aO (f:=fD (l,cs,q) x) (fun k=>(if x∈l.take k then nbI l (some x) else -1,(k:Int))) l.length (fun k hk=>by
  unfold fD
  simp only
  rw[if_pos (by simp;omega),aq (by omega) (by omega)];simp only[aa,Int.toNat_natCast,ae (show k<9223372036854775807 by omega)]
  obtain ⟨r,e,hr⟩:=FQ (nth l (k:Int)) x (hx _ (bq (by omega) (by omega)))
  rw[e,take_one hk];simp only[aa,List.mem_append,List.mem_singleton]
  by_cases h:nth l (k:Int)=x
  ·have h0:r=0:=hr.2 h
   have hm:x∈l:=h ▸ bq (by omega) (by omega)
   obtain ⟨q,hq,e1,e2⟩:=pI hm
   have:q=k:=by
    have h1:l[q]? =some x:=by rw[List.getElem?_eq_getElem hq,e2]
    have h2:l[k]? =some x:=by rw[List.getElem?_eq_getElem hk,<-cf hk,h]
    exact (List.getElem?_inj hq hd).1 (h1.trans h2.symm)
   subst this
   rw[if_pos (by simp[h0]),if_pos (.inr h.symm),e1];rfl
  ·have h0:r≠0:=fun e=>h (hr.1 e)
   have hn: ¬x=nth l (k:Int):=fun e=>h e.symm
   rw[if_neg (by simpa using h0)]
   simp[hn]) (by unfold fD;simp) (mV (by omega))
 rw[List.take_of_length_le (aF _)] at this
 exact this
theorem aay {l:List (List Int)} {x:List Int} {f:List Int->Option Bool} (hl:l.length<=1000000) (hf: ∀y∈l,f y=some (decide (y=x))):bO l f=some (aaw l x):=by
 unfold bO
 obtain ⟨o,e,hq⟩:=cz (f:=b9 l f) (fun k s=>s=(k:Int)/\x∉l.take k) (fun o=>(x∈l/\o= .ret (nbI l (some x)))\/(x∉l/\ ∃s,o= .brk s)) l.length (s:=0) (by
  rintro k s hk ⟨rfl,hx⟩
  unfold b9
  by_cases hkl:k<l.length
  ·rw[if_pos (by simp;omega),aq (by omega) (by omega)];simp only[aa]
   rw[hf _ (bq (by omega) (by omega))];simp only[aa]
   by_cases h:nth l (k:Int)=x
   ·refine .inr ⟨_,by rw[if_pos (by simpa using h)],(fun s' e=>by cases e),.inl ?_⟩
    have hm:x∈l:=h ▸ bq (by omega) (by omega)
    refine ⟨hm,?_⟩
    have e:l=l.take k++(x::l.drop (k+1)):=by
     rw[<-h,cf hkl,<-List.drop_eq_getElem_cons hkl,List.take_append_drop]
    rw[H8 e hx,aI,Nat.min_eq_left (by omega)]
   ·refine .inl ⟨hkl,_,by rw[if_neg (by simpa using h)],by rw[ae (by omega)],?_⟩
    rw[take_one hkl,List.mem_append,List.mem_singleton]
    rintro (h' | h')
    ·exact hx h'
    ·exact h h'.symm
  ·refine .inr ⟨_,by rw[if_neg (by simp;omega)],(fun s' e=>by cases e),.inr ⟨?_,_,rfl⟩⟩
   rwa [List.take_of_length_le (by omega)] at hx) ⟨rfl,by simp⟩ (mV (by omega))
 unfold aaw
 rcases hq with ⟨hx,rfl⟩ | ⟨hx,s,rfl⟩
 ·rw[bp e,if_pos hx]
 ·rw[ah e,if_neg hx]
theorem Cc {os:List (Option (List Int))} (h: ∀y,some y∈os->y.length=10): ∀y∈nbS [] os,y.length=10:=fun y hy=>by
 rcases xZ.1 hy with hy | hy
 ·cases hy
 ·exact h y hy
theorem DX (a:AutT) (c:List Int): ∀y,some y∈keys a c->y.length=10:=by
 intro y hy
 obtain ⟨s,-,e⟩:=List.mem_map.1 hy
 unfold F6 at e
 split at e
 ·cases e
 ·rw[<-ad e];simp[F5]
section
variable (V:VA a n) (hn:n<=1000000) (hc:c.length=n)
include V hn hc
theorem LI (s:Nat):(nbS [] ((keys a c).take s)).length<=n:=by
 have:=re ([] :List (List Int)) ((keys a c).take s)
 rw[aI,ej,V.len] at this
 simp at this;omega
theorem UG {m:Int} :ak (fE a (c,m)) aP ([],[],0)=some (.brk (nbS [] (keys a c),DV a c,(n:Int))):=by
 have hlen:=V.len
 have:=aO (f:=fE a (c,m)) (fun s=>(nbS [] ((keys a c).take s),nbR [] ((keys a c).take s),(s:Int))) n (fun s hs=>by
  have hkl:=LI V hn hc s
  have hrl:(nbR [] ((keys a c).take s)).length<=n:=by rw[gL,aI,ej];omega
  unfold fE
  simp only
  rw[if_pos (by simp;omega),aq (by omega) (by omega)];simp only[aa]
  rw[take_one (by rw[ej];omega),wT,tW,J4 (by omega)]
  simp only[ae (show s<9223372036854775807 by omega)]
  by_cases h:nth c (s:Int)<0
  ·rw[if_pos (by simpa using h),aL (by simp;omega),show F6 a c s=none from by unfold F6;rw[if_pos h]];rfl
  ·rw[if_neg (by simpa using h),show F6 a c s=some (F5 a c s) from by unfold F6;rw[if_neg h]]
   rw[show pP (a.1,a.2.1,a.2.2) c (s:Int)=some (F5 a c s) from ab6 V hn hc hs];simp only[aa]
   rw[ah (aax (by omega) (sZ (by simp)) (fun y hy=>by rw[Cc (fun y hy=>DX a c y (List.mem_of_mem_take hy)) y hy];decide))]
   simp only
   unfold aaw
   by_cases k:F5 a c s∈nbS [] ((keys a c).take s)
   ·obtain ⟨q,hq,e1,e2⟩:=pI k
    rw[if_pos k,nj k,e1,if_neg (by simp)];simp only[aa]
    rw[aL (by simp;omega)];rfl
   ·rw[if_neg k,nk k,FO k,if_pos (show decide ((-1:Int)<0)=true from rfl),aL (by simp;omega)];simp only[aa]
    rw[aL (by simp;omega)];rfl) (by
  unfold fE
  simp only
  rw[if_neg (by simp;omega)]) (mV (by omega))
 rw[show (keys a c).take n=keys a c from List.take_of_length_le (by rw[ej];omega)] at this
 exact this
theorem UH:dI a c=some (DV a c,(Cl a c:Int)):=by
 have hlen:=V.len
 unfold dI
 have:=aO (f:=dK a c) (fun s=>(nbS [] ((keys a c).take s),nbR [] ((keys a c).take s),(s:Int))) n (fun s hs=>by
  have hkl:=LI V hn hc s
  have hrl:(nbR [] ((keys a c).take s)).length<=n:=by rw[gL,aI,ej];omega
  unfold dK
  simp only
  rw[if_pos (by simp;omega),aq (by omega) (by omega)];simp only[aa]
  rw[take_one (by rw[ej];omega),wT,tW,J4 (by omega)]
  simp only[ae (show s<9223372036854775807 by omega)]
  by_cases h:nth c (s:Int)<0
  ·rw[if_pos (by simpa using h),aL (by simp;omega),show F6 a c s=none from by unfold F6;rw[if_pos h]];rfl
  ·rw[if_neg (by simpa using h),show F6 a c s=some (F5 a c s) from by unfold F6;rw[if_neg h],V.get (by omega) (by omega)];simp only[aa]
   rw[ah (ab7 V hn hc hs)];simp only
   rw[aay (x:=F5 a c s) (by omega) (fun y hy=>by
    unfold gM
    rw[B9 _ _ (by rw[Cc (fun y hy=>DX a c y (List.mem_of_mem_take hy)) y hy];decide)];rfl)];simp only[aa]
   unfold aaw
   by_cases k:F5 a c s∈nbS [] ((keys a c).take s)
   ·obtain ⟨q,hq,e1,e2⟩:=pI k
    rw[if_pos k,nj k,e1,if_neg (by simp)];simp only[aa]
    rw[aL (by simp;omega)];rfl
   ·rw[if_neg k,nk k,FO k,if_pos (show decide ((-1:Int)<0)=true from rfl),aL (by simp;omega)];simp only[aa]
    rw[aL (by simp;omega)];rfl) (by
  unfold dK
  simp only
  rw[if_neg (by simp;omega)]) (mV (by omega))
 rw[show (keys a c).take n=keys a c from List.take_of_length_le (by rw[ej];omega)] at this
 exact ah this
end
end
section
variable {a:AutT} {n:Nat} (V:VA a n) (hn:n<=1000000)
include V hn
theorem H9 (s:Nat):(List.range (s+1)).map (fun s:Nat=>if nth (live a) (s:Int)=true then (if nth a.2.1 (s:Int)=true then (1:Int) else 0) else -1)=(List.range s).map (fun s:Nat=>if nth (live a) (s:Int)=true then (if nth a.2.1 (s:Int)=true then 1 else 0) else -1)++ [if nth (live a) (s:Int)=true then (if nth a.2.1 (s:Int)=true then 1 else 0) else -1]:=by simp[List.range_succ]
theorem aaz:ak (fC a (live a)) aP ([],0)=some (.brk (V4 a,(n:Int))):=by
 have hlen:=V.len
 have hll:(live a).length=n:=by rw[vC,hlen]
 have:=aO (f:=fC a (live a)) (fun s=>((List.range s).map (fun s:Nat=>if nth (live a) (s:Int)=true then (if nth a.2.1 (s:Int)=true then (1:Int) else 0) else -1),(s:Int))) n (fun s hs=>by
  unfold fC
  simp only
  rw[if_pos (by simp;omega),V.acc (by omega) (by omega)];simp only[aa]
  rw[H9 V hn,aq (xs:=live a) (by omega) (by omega)];simp only[ae (show s<9223372036854775807 by omega)]
  cases nth (live a) (s:Int) <;> cases nth a.2.1 (s:Int) <;> simp only[if_true,if_false,Bool.false_eq_true,aa] <;> rw[aL (by simp;omega)] <;> rfl) (by
  unfold fC
  simp only
  rw[if_neg (by simp;omega)]) (mV (by omega))
 unfold V4
 rw[hlen]
 exact this
theorem aaA:ak (cE a (live a)) aP ([],0)=some (.brk (V4 a,(n:Int))):=by
 have hlen:=V.len
 have hll:(live a).length=n:=by rw[vC,hlen]
 have:=aO (f:=cE a (live a)) (fun s=>((List.range s).map (fun s:Nat=>if nth (live a) (s:Int)=true then (if nth a.2.1 (s:Int)=true then (1:Int) else 0) else -1),(s:Int))) n (fun s hs=>by
  unfold cE
  simp only
  rw[if_pos (by simp;omega),aq (xs:=live a) (by omega) (by omega)];simp only[aa]
  rw[H9 V hn,V.acc (by omega) (by omega)];simp only[ae (show s<9223372036854775807 by omega)]
  cases nth (live a) (s:Int) <;> cases nth a.2.1 (s:Int) <;> simp only[if_true,if_false,Bool.false_eq_true,aa] <;> rw[aL (by simp;omega)] <;> rfl) (by
  unfold cE
  simp only
  rw[if_neg (by simp;omega)]) (mV (by omega))
 unfold V4
 rw[hlen]
 exact this
theorem Rn: ∃J,cI a (J+1)=cI a J/\jr a=some (cI a J):=by
 have hlen:=V.len
 unfold jr
 rw[show lJ (a.1,a.2.1,a.2.2)=some (live a) from VY V hn];simp only[aa]
 rw[ah (aaz V hn)]
 obtain ⟨J0,hJ0,hfix⟩:=YB a
 obtain ⟨o,e,j,rfl,hj⟩:=cz (f:=lK a) (fun j s=>s=(cI a j,(j:Int))/\j<=J0) (fun o=> ∃j,o= .ret (cI a j)/\cI a (j+1)=cI a j) (J0+1) (s:=(cI a 0,0)) (by
  rintro j s hj ⟨rfl,hjJ⟩
  have hcl:(cI a j).length=n:=by rw[qw,hlen]
  unfold lK
  simp only
  rw[if_pos (by simp;omega),ah (UG V hn hcl)]
  simp only
  obtain ⟨r,er,hr⟩:=FQ (DV a (cI a j)) (cI a j) (by rw[Ca];omega)
  rw[er];simp only[aa,ae (show j<9223372036854775807 by omega)]
  by_cases h:DV a (cI a j)=cI a j
  ·exact .inr ⟨_,by rw[if_pos (by simpa using hr.2 h)],(fun s' e=>by cases e),j,rfl,h⟩
  ·refine .inl ⟨by omega,(cI a (j+1),((j+1:Nat):Int)),by rw[if_neg (by simpa using fun e=>h (hr.1 e))];rfl,rfl,?_⟩
   by_cases e:j=J0
   ·subst e;exact absurd hfix h
   ·omega) ⟨rfl,Nat.zero_le _⟩ (mV (by omega))
 exact ⟨j,hj,bp e⟩
theorem Ro: ∃J,cI a (J+1)=cI a J/\dz a=some (cI a J):=by
 have hlen:=V.len
 unfold dz
 rw[show eR (a.1,a.2.1,a.2.2)=some (live a) from aam V hn];simp only[aa]
 rw[ah (aaA V hn)]
 let kk:Nat->Int:=fun j=>match j with | 0=> -1 | i+1=>(Cl a (cI a i):Int)
 obtain ⟨o,e,j,rfl,hj⟩:=cz (f:=fJ a) (fun j s=>s=(cI a j,kk j)/\(j:Int)<=kk j+1) (fun o=> ∃j,o= .ret (cI a j)/\cI a (j+1)=cI a j) (n+2) (s:=(cI a 0,-1)) (by
  rintro j s hj ⟨rfl,hjk⟩
  have hcl:(cI a j).length=n:=by rw[qw,hlen]
  have hle:=J5 a (cI a j)
  unfold fJ
  simp only
  rw[show dI (a.1,a.2.1,a.2.2) (cI a j)=some (DV a (cI a j),(Cl a (cI a j):Int)) from UH V hn hcl];simp only[aa]
  cases j with
  | zero =>
   refine .inl ⟨by omega,(cI a 1,kk 1),by rw[if_neg (by show¬((Cl a (cI a 0):Int) == -1)=true;simp)];rfl,rfl,?_⟩
   show (1:Int)<=(Cl a (cI a 0):Int)+1
   omega
  | succ i =>
   obtain ⟨g1,g2⟩:=Rl a i
   have hki:kk (i+1)=(Cl a (cI a i):Int):=rfl
   rw[hki] at hjk⊢
   by_cases h:Cl a (cI a (i+1))=Cl a (cI a i)
   ·refine .inr ⟨.ret (cI a (i+2)),by rw[if_pos (by simp[h])];rfl,(fun s' e=>by cases e),i+2,rfl,?_⟩
    have:=g2 h
    show DV a (cI a (i+2))=cI a (i+2)
    rw[this];exact this
   ·refine .inl ⟨?_,(cI a (i+2),kk (i+2)),by rw[if_neg (by simp;omega)];rfl,rfl,?_⟩
    ·omega
    ·show ((i+1+1:Nat):Int)<=(Cl a (cI a (i+1)):Int)+1
     omega) ⟨rfl,by show ((0:Nat):Int)<= -1+1;omega⟩ (mV (by omega))
 exact ⟨j,hj,bp e⟩
theorem Nn: ∃c,jr a=some c/\dz a=some c/\c.length=n/\DV a c=c/\ ∃j,c=cI a j:=by
 obtain ⟨J,hJ,es⟩:=Rn V hn
 obtain ⟨J',hJ',ei⟩:=Ro V hn
 have:=Rm hJ hJ'
 exact ⟨cI a J,es,by rw[this];exact ei,by rw[qw,V.len],hJ,J,rfl⟩
end
end D
namespace D
open Go.RowKit
section
variable {κ:Type} [DecidableEq κ] [Inhabited κ] {nx:κ->List (Option κ)} {first:κ} {G:κ->Prop} {B N:Nat} {acc:κ->Bool}
theorem Cd: ∀(l:List κ) (os:List (Option κ)),∀t∈nbR l os,-1<=t/\t<((nbS l os).length:Int)
 | l,[] =>fun t ht=>by cases ht
 | l,o::os=>fun t ht=>by
  have hp:=lT (nbL l o) os
  have hl:=hp.length_le
  rcases ax ht with rfl | ht
  ·show -1<=nbI l o/\nbI l o<((nbS (nbL l o) os).length:Int)
   cases o with
   | none=>exact ⟨by simp[nbI],by simp only[nbI];omega⟩
   | some y =>
    by_cases c:y∈l
    ·obtain ⟨q,hq,e,-⟩:=pI c
     rw[nj c] at hl
     rw[e];exact ⟨by omega,by rw[nj c];omega⟩
    ·rw[nk c] at hl
     rw[FO c];rw[aC] at hl
     exact ⟨by omega,by rw[nk c];simp at hl;omega⟩
  ·exact Cd (nbL l o) os t ht
theorem aaB (H:NumOk nx first G B) (hN:bfE nx first N):VA ((0,(bfS nx first N).map acc,bfR nx first N):AutT) N:=by
 have h0:0<N:=by
  have:=HP (nx:=nx) (first:=first) N
  have:=(List.getElem?_eq_some_iff.1 this).1
  have:=hN.1;omega
 have key: ∀i,i<=N-> ∀r∈bfR nx first i,r.length=9/\ ∀t∈r,-1<=t/\t<(N:Int):=by
  intro i
  induction i with
  | zero=>intro _ r hr;cases hr
  | succ i ih =>
   intro hi r hr
   have hlt:=hN.2 i (by omega)
   rw[wU hlt] at hr
   rcases aH hr with hr | hr
   ·exact ih (by omega) r hr
   ·obtain rfl:=au hr
    refine ⟨by rw[gL,H.len _ (lj H.g0 H.gn i _ (List.getElem_mem hlt))],fun t ht=>?_⟩
    have:=Cd _ _ t ht
    rw[<-Fj hlt] at this
    have hl:=(ya (nx:=nx) (first:=first) hi).length_le
    have:=hN.1
    omega
 exact ⟨by show ((bfS nx first N).map acc).length=N;rw[List.length_map];exact hN.1.symm,⟨Int.le_refl _,by show (0:Int)<N;omega⟩,km hN.2,fun r hr=>(key N (aF _) r hr).1,fun r hr=>(key N (aF _) r hr).2⟩
theorem YC (hlen: ∀x,(nx x).length=9) (hN:bfE nx first N):VA ((0,(bfS nx first N).map acc,bfR nx first N):AutT) N:=by
 have h0:0<N:=by
  have:=HP (nx:=nx) (first:=first) N
  have:=(List.getElem?_eq_some_iff.1 this).1
  have:=hN.1;omega
 have key: ∀i,i<=N-> ∀r∈bfR nx first i,r.length=9/\ ∀t∈r,-1<=t/\t<(N:Int):=by
  intro i
  induction i with
  | zero=>intro _ r hr;cases hr
  | succ i ih =>
   intro hi r hr
   have hlt:=hN.2 i (by omega)
   rw[wU hlt] at hr
   rcases aH hr with hr | hr
   ·exact ih (by omega) r hr
   ·obtain rfl:=au hr
    refine ⟨by rw[gL,hlen _],fun t ht=>?_⟩
    have:=Cd _ _ t ht
    rw[<-Fj hlt] at this
    have hl:=(ya (nx:=nx) (first:=first) hi).length_le
    have:=hN.1
    omega
 exact ⟨by show ((bfS nx first N).map acc).length=N;rw[List.length_map];exact hN.1.symm,⟨Int.le_refl _,by show (0:Int)<N;omega⟩,km hN.2,fun r hr=>(key N (aF _) r hr).1,fun r hr=>(key N (aF _) r hr).2⟩
end
theorem VA.self {a:AutT} {n:Nat} (v:VA a n):VA a a.2.1.length:=by
 have e:=v.len
 subst e
 exact v
theorem No:VA nothing 1:=⟨rfl,⟨by decide,by decide⟩,rfl,fun r hr=>by
 obtain rfl:=au hr
 decide,fun r hr=>by
 obtain rfl:=au hr
 decide⟩
end D
namespace D
open Go.RowKit
theorem YD {l:List Int} {x:Int} (hl:l.length<=1000000) (hx:x∈l):aY x l=some (nbI l (some x)):=by
 unfold aY eD
 have ⟨o,e,hq⟩:=cz (f:=dG l x) (fun k s=>s=(k:Int)/\x∉l.take k) (fun o=>o= .ret (nbI l (some x))) l.length (s:=0) (by
  rintro k s hk ⟨rfl,hx'⟩
  unfold dG
  by_cases hkl:k<l.length
  ·rw[if_pos (by grind),aq (by omega) (by omega)];simp only[aa]
   by_cases h:nth l (k:Int)=x
   ·grind[cf,List.drop_eq_getElem_cons,List.take_append_drop,H8,aI,Nat.min_eq_left]
   ·refine .inl ⟨hkl,_,by rw[if_neg (by grind)],by grind[ae],?_⟩
    rw[take_one hkl,List.mem_append,List.mem_singleton]
    rintro (h' | h')
    ·exact hx' h'
    ·exact h h'.symm
  grind) ⟨rfl,by simp⟩ (mV (by omega))
 grind[bp]
section
variable {a:AutT} {n:Nat}
def rep (c:List Int) (x:Int):Int:=nbI c (some x)
theorem Rp {c:List Int} {x:Int} (h:x∈c):0<=rep c x/\rep c x<c.length/\nth c (rep c x)=x:=by
 grind[pI,rep,cf]
def adn (a:AutT) (n:Nat) (r:AutT):Prop:=(nth (live a) a.1=false/\r=nothing)\/(nth (live a) a.1=true/\ ∃(j:Nat) (c:List Int) (nx:Int->List (Option Int)) (ac:Int->Bool) (N:Nat),c=cI a j/\(∀r,good n (live a) r->nx (nth c r)=yk a c (live a) r)/\(∀r,good n (live a) r->ac (nth c r)=nth a.2.1 r)/\bfE nx (nth c a.1) N/\(∀x∈bfS nx (nth c a.1) N,(nx x).length=9)/\r=(0,(bfS nx (nth c a.1) N).map ac,bfR nx (nth c a.1) N))
theorem Np (V:VA a n) (hn:n<=1000000): ∃r,fF a=some r/\cm a=some r/\Data.sm r/\VA r r.2.1.length/\r.2.1.length<=n/\adn a n r:=by
 have hlen:=V.len
 have hst:=V.start
 have hll:(live a).length=n:=by rw[vC,hlen]
 have ⟨c,es,ei,hcl,hfix,j,hj⟩:=Nn V hn
 have hneg: ∀s:Int,0<=s->s<n->(nth c s<0↔nth (live a) s=false):=fun s h0 h1=>by
  have:=(DW a (s:=s.toNat) (by omega) j).1
  grind
 have hlt: ∀s:Int,0<=s->s<n->nth c s<n:=fun s h0 h1=>by
  have:=Yz (c:=c) (a:=a) (s:=s.toNat) (by omega)
  grind
 have hpos: ∀r,good n (live a) r->0<=nth c r:=fun r hr=>by
  have:=hneg r hr.1 hr.2.1
  by_cases k:nth c r<0
  ·have:=this.1 k;rw[hr.2.2] at this;grind
  ·omega
 have hkey: ∀r t:Int,0<=r->r<n->0<=t->t<n->0<=nth c r->nth c r=nth c t->F5 a c r=F5 a c t:=fun r t r0 r1 t0 t1 h0 h=>by
  have:=Rk (a:=a) (c:=c) (s:=r.toNat) (t:=t.toNat) (by omega) (by omega) (by grind) (by grind)
  grind
 have hacc: ∀r t:Int,0<=r->r<n->0<=t->t<n->0<=nth c r->nth c r=nth c t->nth a.2.1 r=nth a.2.1 t:=fun r t r0 r1 t0 t1 h0 h=>by
  have:=V5 a (s:=r.toNat) (t:=t.toNat) (by omega) (by omega) j (by rw[<-hj,show ((r.toNat:Nat):Int)=r from by omega];exact h0) (by rw[<-hj,show ((r.toNat:Nat):Int)=r from by omega,show ((t.toNat:Nat):Int)=t from by omega];exact h)
  rwa [show ((r.toNat:Nat):Int)=r from by omega,show ((t.toNat:Nat):Int)=t from by omega] at this
 have hsuccs: ∀r,good n (live a) r->yk a c (live a) r=(List.range 9).map fun k=>if 0<=ent a c r k then some (ent a c r k) else none:=fun r hr=>by
  refine List.map_congr_left fun k hk=>?_
  have hk:=List.mem_range.1 hk
  have hm:=V.mv hr.1 hr.2.1 hk
  unfold ent
  by_cases h:mv a r k<0
  ·rw[if_pos h,if_neg (fun h'=>by omega),if_neg (by omega)]
  ·rw[if_neg h]
   have:=hneg (mv a r k) (by omega) hm.2
   cases hl:nth (live a) (mv a r k) with
   | false =>
    grind
   | true =>
    grind
 have hent: ∀r t:Int,F5 a c r=F5 a c t-> ∀k,k<9->ent a c r k=ent a c t k:=fun r t h k hk=>by
  have h:(List.range 9).map (fun k=>ent a c r k)=(List.range 9).map (fun k=>ent a c t k):=by unfold F5 at h;injection h
  simp_all
 let nx:=fun x=>yk a c (live a) (rep c x)
 let acc:=fun x=>nth a.2.1 (rep c x)
 let G:=fun x=> ∃r,good n (live a) r/\nth c r=x
 have Gm: ∀x,G x->x∈c/\0<=x/\good n (live a) (rep c x):=by
  rintro x ⟨r,hr,rfl⟩
  have hm:=bq hr.1 (by rw[hcl];exact hr.2.1)
  have ⟨h0,h1,h2⟩:=Rp hm
  have hp:=hpos r hr
  refine ⟨hm,hp,h0,by omega,?_⟩
  have:=hneg (rep c (nth c r)) h0 (by omega)
  rw[h2] at this
  cases hl:nth (live a) (rep c (nth c r)) with
  | true=>rfl
  | false=>grind
 have hnx: ∀r,good n (live a) r->nx (nth c r)=yk a c (live a) r:=fun r hr=>by
  have ⟨hm,hp,hg⟩:=Gm _ ⟨r,hr,rfl⟩
  have ⟨h0,h1,h2⟩:=Rp hm
  show yk a c (live a) (rep c (nth c r))=_
  rw[hsuccs _ hg,hsuccs _ hr]
  refine List.map_congr_left fun k hk=>?_
  rw[hent _ _ (hkey _ _ hg.1 hg.2.1 hr.1 hr.2.1 (by omega) h2) k (List.mem_range.1 hk)]
 have hac: ∀r,good n (live a) r->acc (nth c r)=nth a.2.1 r:=fun r hr=>by
  have ⟨hm,hp,hg⟩:=Gm _ ⟨r,hr,rfl⟩
  have ⟨h0,h1,h2⟩:=Rp hm
  exact hacc _ _ hg.1 hg.2.1 hr.1 hr.2.1 (by omega) h2
 have hgn: ∀r,good n (live a) r-> ∀y,some y∈yk a c (live a) r->G y:=fun r hr y h=>by
  have ⟨k,hk,e⟩:=List.mem_map.1 h
  have hk:k<9:=List.mem_range.1 hk
  split at e
  ·rename_i hc
   exact ⟨mv a r k,⟨hc.1,(V.mv hr.1 hr.2.1 hk).2,hc.2⟩,ad e⟩
  grind
 unfold fF cm
 simp only[eY]
 rw[es,ei,VY V hn];simp only[aa]
 rw[aq hst.1 (by omega)];simp only[aa]
 cases hs:nth (live a) a.1 with
 | false =>
  have:=(hneg a.1 hst.1 hst.2).2 hs
  rw[JY V hll hs,if_pos (by grind),Rc]
  exact ⟨nothing,rfl,rfl,Nl,No,V.pos,.inl ⟨hs,rfl⟩⟩
 | true =>
  have hst':good n (live a) a.1:=⟨hst.1,hst.2,hs⟩
  have hp:=hpos _ hst'
  have H:NumOk nx (nth c a.1) G n:=⟨⟨a.1,hst',rfl⟩,fun x hx y hy=>hgn _ (Gm x hx).2.2 y hy,fun x hx=>by simp[nx,yk],fun l hd h=>Nk n l hd fun x hx=>by
   obtain ⟨r,hr,rfl⟩:=h x hx
   exact ⟨hpos r hr,hlt r hr.1 hr.2.1⟩⟩
  have ⟨N,hN,e1⟩:=aao (acc:=acc) V hn hcl hll hs H hn hnx hac
  have hfirst: ∀x,G x->aY x c=some (rep c x):=fun x hx=>YD (by omega) (Gm x hx).1
  have ⟨N',hN',e2⟩:=aan (most:=(c.length:Int)) (p2:=fun a0=>cF a0 (a.1,a.2.1,a.2.2) (fun a0=>aY a0 c)) (p3:=fun a0 a1=>cG a0 a1 (a.1,a.2.1,a.2.2) (fun a0=>aY a0 c) c) (acc:=acc) H hn (by omega) (fun x hx=>aat hn (Gm x hx).2.1 (by
    obtain ⟨r,hr,rfl⟩:=hx
    exact hlt r hr.1 hr.2.1)) (fun x hx=>by
   show cF x (a.1,a.2.1,a.2.2) (fun a0=>aY a0 c)=_
   unfold cF
   simp only
   rw[hfirst x hx];simp only[aa]
   rw[V.acc (Gm x hx).2.2.1 (Gm x hx).2.2.2.1];rfl) (fun x k hx hk=>by
   have ⟨hm,hx0,hg⟩:=Gm x hx
   have hm':=V.mv hg.1 hg.2.1 hk
   refine ⟨0,?_⟩
   show cG x k (a.1,a.2.1,a.2.2) (fun a0=>aY a0 c) c=_
   unfold cG
   simp only
   rw[hfirst x hx];simp[aa]
   rw[show bH (a.1,a.2.1,a.2.2) (rep c x) k=some (mv a (rep c x) k) from Ls V hg.1 hg.2.1 hk];simp[aa]
   show _=some (match nth (yk a c (live a) (rep c x)) (k:Int) with | some y=>(y,true) | none=>(0,false))
   rw[LD hk]
   by_cases h:mv a (rep c x) k<0
   ·rw[if_pos (by simpa using h),if_neg (fun h'=>by omega)]
   ·rw[if_neg (by simpa using h),aq (by omega) (by omega)];simp[aa]
    have hng:=hneg (mv a (rep c x) k) (by omega) hm'.2
    cases hl:nth (live a) (mv a (rep c x) k) with
    | false =>
     have:=hng.2 hl
     rw[if_pos (by simpa using this),if_neg (fun h'=>by cases h'.2)]
    | true =>
     have: ¬nth c (mv a (rep c x) k)<0:=fun h'=>by have:=hng.1 h';rw[hl] at this;cases this
     rw[if_neg (by simpa using this),if_pos ⟨by omega,rfl⟩])
  cases TS hN hN'
  have v:=aaB (acc:=acc) H hN
  refine ⟨_,by rw[e1];rfl,?_,aau H hn hN,v.self,?_,.inr ⟨hs,j,c,nx,acc,N,hj,hnx,hac,hN,fun x _=>by simp[nx,yk],rfl⟩⟩
  rotate_left
  ·rw[v.len,hN.1];exact H.bound _ (oE N) (lj H.g0 H.gn N)
  simp_all
theorem Nq (V:VA a n) (hn:n<=1000000): ∃r,fF a=some r/\cm a=some r/\Data.sm r/\VA r r.2.1.length/\r.2.1.length<=n:=by
 grind[Np]
theorem UI (V:VA a n) (hn:n<=1000000): ∃r,fF a=some r/\cm a=some r/\Data.sm r:=by
 grind[Nq]
end
end D
namespace D
open Go.RowKit
theorem Rq {κ:Type} [DecidableEq κ] {nx:κ->List (Option κ)} {first:κ} {acc:κ->Bool} {most:Nat} : ∀(f i:Nat),(∀j,j<i->j<(bfS nx first j).length)->(bfS nx first i).length<=most->goM nx first acc most f i=((0,[],[]),false)\/ ∃N,bfE nx first N/\N<=most/\goM nx first acc most f i=((0,(bfS nx first N).map acc,bfR nx first N),true)
 | 0,i,_,_=>.inl rfl
 | f+1,i,h,hl=>by
  have hle:=Ri h
  rw[goM]
  by_cases c:i<(bfS nx first i).length
  ·rw[if_pos c]
   by_cases d:(bfS nx first (i+1)).length>most
   ·rw[if_pos d];exact .inl rfl
   ·rw[if_neg d]
    exact Rq f (i+1) (fun j hj=>by
     by_cases e:j=i
     ·subst e;exact c
     ·exact h j (by omega)) (by omega)
  ·rw[if_neg c]
   exact .inr ⟨i,⟨by omega,h⟩,by omega,by rw[List.take_of_length_le (by omega)]⟩
end D
namespace D
open Go.RowKit
theorem xc:Data.sm ((0,[],[]):AutT):=⟨trivial,⟨by decide,fun _ h=>by cases h⟩,by decide,fun _ h=>by cases h⟩
theorem Ia {e:List Tok} (he:e.length<=1048576): ∃r:AutT×Bool,ij e=some r/\iG e=some r/\Data.sm r.1:=by
 obtain ⟨⟨p,b⟩,e1,e2,h1,h2⟩:=vD he
 have h1:p.2.2.2.1.length=p.1.length:=h1
 have h2:p.1.length<=100000:=h2
 unfold ij iG
 rw[e1,e2];simp only[aa,eY]
 cases b with
 | false=>exact ⟨((0,[],[]),false),rfl,rfl,xc⟩
 | true =>
  have d1:=ab3 (p:=p) (most:=200) h1 (by omega) (by omega) (by omega)
  have d2:=ab2 (p:=p) (most:=200) h1 (by omega) (by omega) (by omega)
  have d1:jo p 200=_:=d1
  have d2:iE p 200=_:=d2
  rw[d1,d2];simp only[if_true,aa]
  rcases Rq (nx:=nxS p) (first:=1) (acc:=xb p) (most:=200) (200+2) 0 (fun j hj=>by omega) (by simp[bfS]) with e | ⟨N,hN,hNm,e⟩
  ·rw[e]
   exact ⟨((0,[],[]),false),rfl,rfl,xc⟩
  ·rw[e];simp only[if_true]
   have V:=YC (acc:=xb p) (FN p) hN
   obtain ⟨r,es,ei,hr⟩:=UI V (by omega)
   unfold A1
   rw[es];simp only[aa,eY]
   rw[ei];simp only[aa,eY]
   by_cases c:(r.2.1.length:Int)>12
   ·have c':decide ((r.2.1.length:Int)>12)=true:=decide_eq_true c
    simp only[c',if_true,aa]
    exact ⟨((0,[],[]),false),rfl,rfl,xc⟩
   ·have c':decide ((r.2.1.length:Int)>12)=false:=decide_eq_false c
    simp only[c',Bool.false_eq_true,if_false,aa]
    exact ⟨(r,true),rfl,rfl,hr⟩
theorem J6 {e:List Tok} (he:e.length<=1048576): ∃r:AutT×Bool,ij e=some r/\iG e=some r/\Data.sm r.1:=Ia he
end D
open Go.ChangeShapes Go.WideShapes Go.ChangeAt Go.RowKit
theorem own:ownKnob Tryz.prog.godebug=none:=by kernel_rfl
theorem laidOut:laidOutB Tryz.prog=true:=by kernel_rfl
theorem xd {H:Type} {enc:TypeId×Value->H} {P:Program} (hl:laidOutB P=true) {W W':World} (hb:Below W.heap.size W W') :
  ∀ {ts:List TypeId} {vs:List Value} {ds:List (DataW H)} {ps:List MemPlace},(∀t∈ts,P.readableRec t=true/\t<P.types.size)->
   DataW.TrodAll enc P W 0 (fun _=>true) true ts vs ds ps->(∀x∈ps,x.block<W.heap.size)->DataW.TrodAll enc P W' 0 (fun b=>decide (b<W.heap.size)) true ts vs ds ps
 | [],[],[],ps,_,h,_=>h
 | t::ts,v::vs,d::ds,ps,hr,⟨p,q,h1,h2,h3⟩,hlt=>by
  subst h3
  exact ⟨p,q,Below.trod hl (hr t (by simp)).1 (hr t (by simp)).2 h1 hb fun x hx=>hlt x (by simp[hx]),xd hl hb (fun t ht=>hr t (by simp[ht])) h2 fun x hx=>hlt x (by simp[hx]),rfl⟩
 | [],_::_,_,_,_,h,_=>h.elim
 | [],[],_::_,_,_,h,_=>h.elim
 | _::_,[],_,_,_,h,_=>h.elim
 | _::_,_::_,[],_,_,h,_=>h.elim
theorem UJ {H:Type} {enc:TypeId×Value->H} {f:Func} {s:ChangeSpec} {W W':World} {args:Array Value} {ds:List (DataW H)} {before:List MemPlace} (tb:TypeId)
  (hb:Tryz.prog.underlying tb=some .bool) (hr:f.resultTypes= #[tb]) (hp:(f.params.toList.all fun t=>Tryz.prog.readableRec t&&decide (t<Tryz.prog.types.size))=true) (hv:s.vars= [])
  (hW:DataW.Whole enc Tryz.prog f.params.toList s.vars false W args.toList ds [] before) (hres:(s.fn H (ds++ [])).results= [.lit (.bool true)]) (hargs:(s.fn H (ds++ [])).args=ds) (hvars:(s.fn H (ds++ [])).vars= [])
  (hbel:Below W.heap.size W W'):s.post enc Tryz.prog f false true false false W args (.bool true) W':=by
 obtain ⟨p,q,h1,h2,h3,h4,h5⟩:=hW
 have hW':DataW.Whole enc Tryz.prog f.params.toList s.vars false W args.toList ds [] before:=⟨p,q,h1,h2,h3,h4,h5⟩
 have hq:q= []:=by rw[hv] at h2;exact h2
 subst hq
 simp only[List.append_nil] at h3
 subst h3
 refine ⟨ds,[],before,[],before,[],hW',?_,?_,?_,hbel.frame _,fun h=>by cases h⟩
 ·rw[hres,hr]
  exact trodAll_mk1 (shut_bool hb true)
 ·rw[hargs]
  exact xd laidOut hbel (fun t ht=>by have:=List.all_eq_true.1 hp t ht;simpa using this) h1 fun x hx=>by simpa using hW'.lt x hx
 ·rw[hvars,hv];rfl
namespace D
open Go.RowKit
theorem Ce (x y:AutT) (hx:Data.sm x):fG x y=some (decide (x=y)):=by
 obtain ⟨-,⟨ha,-⟩,hn,hr⟩:=hx
 unfold fG
 by_cases c1:x.1=y.1
 case neg=>rw[if_pos (by simpa using c1)];simp[Prod.ext_iff,c1]
 rw[if_neg (by simpa using c1)]
 by_cases c2:x.2.1.length=y.2.1.length
 case neg=>rw[if_pos (by simp;omega)];simp[Prod.ext_iff];exact fun _ e=>absurd (by rw[e]) c2
 rw[if_neg (by simp;omega)]
 by_cases c3:x.2.2.length=y.2.2.length
 case neg=>rw[if_pos (by simp;omega)];simp[Prod.ext_iff];exact fun _ _ e=>absurd (by rw[e]) c3
 rw[if_neg (by simp;omega)]
 rw[eqB (f:=fm x y) x.2.1 y.2.1 (by omega) c2 (fun i h h'=>by
  simp only[fm,bK h,if_true,az h,az h',aa,ae (show i<9223372036854775807 by omega)]
  by_cases c:x.2.1[i] =y.2.1[i] <;> simp[c]) (by simp only[fm,bw];rfl)]
 by_cases c4:x.2.1=y.2.1
 case neg=>rw[if_neg c4];simp[Prod.ext_iff,c4]
 rw[if_pos c4]
 rw[eqB (f:=fo x y) x.2.2 y.2.2 (by omega) c3 (fun i h h'=>by
  obtain ⟨r,e,hr'⟩:=FQ x.2.2[i] y.2.2[i] ((hr _ (List.getElem_mem h)).1)
  simp only[fo,bK h,if_true,az h,az h',aa,ae (show i<9223372036854775807 by omega),e]
  by_cases c:x.2.2[i] =y.2.2[i]
  ·rw[if_neg (by simpa using hr'.2 c),if_pos c]
  ·rw[if_pos (by simpa using fun e=>c (hr'.1 e)),if_neg c]) (by simp only[fo,bw];rfl)]
 by_cases c5:x.2.2=y.2.2
 ·rw[if_pos c5];simp[Prod.ext_iff,c1,c4,c5]
 ·rw[if_neg c5];simp[Prod.ext_iff,c5]
theorem UK (xs ys:List Bool) (hN:xs.length<=9223372036854775807):dL xs ys=some (decide (xs=ys)):=
 eqL (f:=bX xs ys) xs ys hN (fun i h h'=>by
  simp only[bX,bK h,if_true,az h,az h',aa,ae (show i<9223372036854775807 by omega)]
  by_cases c:xs[i] =ys[i] <;> simp[c]) (by simp only[bX,bw];rfl)
theorem Cf (x y:AutT) (hx:Data.sm x):dO x y=some (decide (x=y)):=by
 obtain ⟨-,⟨ha,-⟩,hn,hr⟩:=hx
 unfold dO
 by_cases c1:x.1=y.1
 case neg=>rw[if_neg (by simpa using c1)];simp[Prod.ext_iff,c1]
 rw[if_pos (by simpa using c1),UK _ _ (by omega)];simp only[aa]
 by_cases c2:x.2.1=y.2.1
 case neg=>rw[if_neg (by simpa using c2)];simp[Prod.ext_iff,c2]
 rw[if_pos (by simpa using c2)]
 have:bu x.2.2 y.2.2 (fun a0 a1=>gg a0 a1)=some (decide (x.2.2=y.2.2)):=
  eqL (f:=aV x.2.2 y.2.2 _) x.2.2 y.2.2 (by omega) (fun i h h'=>by
   simp only[aV,bK h,if_true,az h,az h',aa,ae (show i<9223372036854775807 by omega),gg]
   rw[B9 _ _ (by have:x.2.2[i].length<=1048576:=(hr _ (List.getElem_mem h)).1;omega)];simp only[aa]
   by_cases c:x.2.2[i] =y.2.2[i] <;> simp[c]) (by simp only[aV,bw];rfl)
 rw[this]
 by_cases c3:x.2.2=y.2.2 <;> simp[Prod.ext_iff,c1,c2,c3]
end D
namespace D
open Go.RowKit
abbrev QT:=Int×List Tok×Int
abbrev LJ:=List AutT×List QT
theorem UL (x y:List Tok) (hx:x.length<=1048576):pB x y=some (decide (x=y)):=by
 exact eqL (f:=iT x y) x y (by omega) (fun i h h'=>by
  simp[iT,bK h,if_true,az h,az h',aa,eY,ae (show i<9223372036854775807 by omega)]
  grind) (by simp_all[iT,bw])
theorem Rr (x y:List Tok) (hx:x.length<=1048576):dA x y=some (decide (x=y)):=by
 exact eqL (f:=bR x y) x y (by omega) (fun i h h'=>by
  simp[bR,bK h,if_true,az h,az h',aa,eY,ae (show i<9223372036854775807 by omega)]
  grind) (by simp_all[bR,bw])
theorem UM (x y:List Tok) (hx:x.length<=1048576):mj x y=some (decide (x=y)):=by
 grind[mj,Rr]
theorem FU (x y:LJ) (hx:Data.sm x):fY x y=some (decide (x=y)):=by
 have ⟨⟨ha,hA⟩,hq,hQ⟩:=hx
 unfold fY
 by_cases h1:x.1.length=y.1.length
 ·by_cases h2:x.2.length=y.2.length
  ·rw[eqB (f:=eu x y) x.1 y.1 (by omega) h1 (fun i h h'=>by
    simp[eu,bK h,if_true,az h,az h',aa,eY,Ce x.1[i] y.1[i] (hA _ (List.getElem_mem h)),ae (show i<9223372036854775807 by omega)]
    grind) (by simp only[eu,bw];rfl)]
   rw[eqB (f:=ez x y) x.2 y.2 (by omega) h2 (fun i h h'=>by
    have e:=UL x.2[i].2.1 y.2[i].2.1 (hQ _ (List.getElem_mem h)).2.1.1
    simp[ez,bK h,if_true,az h,az h',aa,e,ae (show i<9223372036854775807 by omega)]
    grind) (by simp only[ez,bw];rfl)]
   grind[Prod.ext_iff]
  ·have:x.2≠y.2:=fun e=>h2 (by rw[e])
   rw[if_neg (by grind),if_pos (by grind)];simp[Prod.ext_iff,this]
 ·have:x.1≠y.1:=fun e=>h1 (by rw[e])
  rw[if_pos (by grind)];simp[Prod.ext_iff,this]
theorem Nr (x y:QT) (hx:Data.sm x):gD x y=some (decide (x=y)):=by
 unfold gD
 rw[UM x.2.1 y.2.1 hx.2.1.1];by_cases h1:x.1=y.1 <;> by_cases h2:x.2.1=y.2.1 <;> by_cases h3:x.2.2=y.2.2 <;> simp[Prod.ext_iff,h1,h2,h3]
theorem FV (x y:LJ) (hx:Data.sm x):gi x y=some (decide (x=y)):=by
 have ⟨⟨ha,hA⟩,hq,hQ⟩:=hx
 unfold gi
 have e:aU x.1 y.1 (fun a0 a1=>dO a0 a1)=some (decide (x.1=y.1)):=
  eqL (f:=aN x.1 y.1 _) x.1 y.1 (by omega) (fun i h h'=>by
   simp[aN,bK h,if_true,az h,az h',aa,eY,ae (show i<9223372036854775807 by omega),Cf x.1[i] y.1[i] (hA _ (List.getElem_mem h))]
   grind) (by simp only[aN,bw];rfl)
 have e':aQ x.2 y.2 (fun a0 a1=>gD a0 a1)=some (decide (x.2=y.2)):=
  eqL (f:=aM x.2 y.2 _) x.2 y.2 (by omega) (fun i h h'=>by
   simp[aM,bK h,if_true,az h,az h',aa,eY,ae (show i<9223372036854775807 by omega),Nr x.2[i] y.2[i] (hQ _ (List.getElem_mem h))]
   grind) (by simp only[aM,bw];rfl)
 rw[e,e'];by_cases h1:x.1=y.1 <;> by_cases h2:x.2=y.2 <;> simp[Prod.ext_iff,h1,h2]
theorem uc {R S:Type} {f g:S->Option (Out R S)} (Inv:Nat->S->Prop) (h: ∀i s,Inv i s->g s=f s/\ ∀s',f s=some (.nxt s')->Inv (i+1) s'): ∀(k i:Nat) (s:S),Inv i s->ak g k s=ak f k s
 | 0,_,_,_=>rfl
 | k+1,i,s,hI=>by
  have ⟨h1,h2⟩:=h i s hI
  rw[ak,ak,h1]
  cases e:f s with
  | none=>rfl
  | some o =>
   cases o with
   | nxt s'=>exact uc Inv h k (i+1) s' (h2 s' e)
   | brk s'=>rfl
   | ret r=>rfl
theorem LK {f g:Int->Option (Out Int Int)} (N:Nat) (hN:N<=1048576) (h: ∀i:Nat,i<N->f (i:Int)=some (.ret (i:Int))\/f (i:Int)=some (.nxt ((i+1:Nat):Int))) (he:f (N:Int)=some (.brk (N:Int))) (hfg: ∀i:Nat,i<=N->g (i:Int)=f (i:Int)) :
  ∃r:Int,aJ (ak f aP 0) (fun r=>some r) (fun _=>some (-1))=some r/\aJ (ak g aP 0) (fun r=>some r) (fun _=>some (-1))=some r/\(r= -1\/ ∃i:Nat,i<N/\r=(i:Int)):=by
 have hs:ak g aP 0=ak f aP 0:=uc (fun i s=>s=(i:Int)/\i<=N) (fun i s ⟨e,hi⟩=>by
  grind) aP 0 0 ⟨rfl,Nat.zero_le _⟩
 rw[hs]
 have ⟨o,e,ho⟩:=cz (f:=f) (fun i s=>s=(i:Int)) (fun o=>o= .brk (N:Int)\/ ∃i:Nat,i<N/\o= .ret (i:Int)) N (fun i s hi hs=>by
  grind) (s:=0) rfl (fV _ (by omega))
 rw[e]
 rcases ho with rfl | ⟨i,hi,rfl⟩
 ·exact ⟨-1,rfl,rfl,.inl rfl⟩
 ·exact ⟨i,rfl,rfl,.inr ⟨i,hi,rfl⟩⟩
theorem Ns (l:List AutT) (a:AutT) (hl:l.length<=1048576) (hs: ∀x∈l,Data.sm x) (ha:Data.sm a): ∃r:Int,oT l a=some r/\bh l (fun a0=>mH a0 a)=some r/\(r= -1\/ ∃i:Nat,i<l.length/\r=(i:Int)):=by
 have hf: ∀i (h:i<l.length),il l a (i:Int)=if l[i] =a then some (.ret (i:Int)) else some (.nxt ((i+1:Nat):Int)):=fun i h=>by
  simp[il,bK h,if_true,az h,aa,eY,Ce l[i] a (hs _ (List.getElem_mem h)),ae (show i<9223372036854775807 by omega)]
  grind
 refine LK l.length hl (fun i h=>?_) (by simp only[il,bw];rfl) (fun i hi=>?_)
 ·grind
 ·by_cases h:i<l.length
  ·simp[bE,mH,bK h,if_true,az h,aa,eY,Cf a l[i] ha,ae (show i<9223372036854775807 by omega)]
   grind
  ·obtain rfl:i=l.length:=by omega
   simp_all[il,bE,bw]
def J7 (n i:Nat) (s:Int×List AutT×List QT):Prop:=s.1=(i:Int)/\i<=n/\s.2.2.length=i/\s.2.1.length<=i/\(∀a∈s.2.1,Data.sm a)/\ ∀q∈s.2.2,Data.sm q/\0<=q.2.2/\q.2.2<(s.2.1.length:Int)
theorem LL {qs:List QT} (hq:Data.sm qs) {i:Nat} {s:Int×List AutT×List QT} (hI:J7 qs.length i s):kO qs s=dt qs s /\
  ((i<qs.length/\ ∃s',dt qs s=some (.nxt s')/\J7 qs.length (i+1) s')\/ ∃o,dt qs s=some o/\(∀s',o≠ .nxt s')/\(o= .ret (([],[]),false)\/o= .brk s/\i=qs.length)):=by
 have ⟨hn,hs⟩:=aE hq
 have ⟨s1,A,Q⟩:=s
 have ⟨h1,h2,h3,h4,h5,h6⟩:=hI
 simp only at h1 h3 h4 h5 h6
 subst h1
 by_cases hi:i<qs.length
 ·have hqi:=hs _ (List.getElem_mem hi)
  have ⟨r,es,ei,hr⟩:=J6 (e:=qs[i].2.1) hqi.2.1.1
  have ⟨k,ks,ki,hk⟩:=Ns A r.1 (by omega) h5 hr
  have a1:cM 56 A [r.1] =some (A++ [r.1]):=aL (by grind)
  have a2: ∀y,cM 40 Q [y] =some (Q++ [y]):=fun y=>aL (by grind)
  have a3:lH qs[i].2.1=some qs[i].2.1:=by unfold lH;rw[aL (by have:=hqi.2.1.1;grind)];rfl
  have a4:mI qs[i].2.1=some qs[i].2.1:=by unfold mI;rw[aL (by have:=hqi.2.1.1;grind)];rfl
  unfold kO dt
  simp[bK hi,if_true,az hi,aa,es,ei,JP,DQ,eY,ks,ki,a1,a2,a3,a4,ae (show i<9223372036854775807 by omega)]
  by_cases c1:r.2=true
  case neg =>
   simp_all
  by_cases c2:1<=qs[i].1/\qs[i].1<=99
  case neg =>
   grind
  have fin: ∃s':Int×List AutT×List QT,(∀(y:Option (Out (LJ×Bool) (Int×List AutT×List QT))),True)/\(Option.bind (if decide (k<0) then some ((A.length:Int),A++ [r.1],Q) else some (k,A,Q)) fun s10:Int×List AutT×List QT=>(cM 40 s10.2.2 [(qs[i].1,qs[i].2.1,s10.1)]).bind fun z18=>some (.nxt (((i+1:Nat):Int),s10.2.1,z18)):Option (Out (LJ×Bool) (Int×List AutT×List QT)))=some (.nxt s')/\J7 qs.length (i+1) s':=by
   rcases hk with rfl | ⟨j,hj,rfl⟩
   ·refine ⟨(((i+1:Nat):Int),A++ [r.1],Q++ [(qs[i].1,qs[i].2.1,(A.length:Int))]),fun _=>trivial,?_,rfl,hi,by grind,by grind,fun a ha=>?_,fun q hq'=>?_⟩
    ·grind
    ·grind
    ·simp[List.mem_append,List.mem_singleton] at hq'
     rcases hq' with hq' | rfl
     ·grind
     ·exact ⟨⟨trivial,hqi.2.1,trivial⟩,by simp,by grind⟩
   ·refine ⟨(((i+1:Nat):Int),A,Q++ [(qs[i].1,qs[i].2.1,(j:Int))]),fun _=>trivial,?_,rfl,hi,by grind,by grind,h5,fun q hq'=>?_⟩
    ·grind
    ·simp[List.mem_append,List.mem_singleton] at hq'
     rcases hq' with hq' | rfl
     ·grind
     ·exact ⟨⟨trivial,hqi.2.1,trivial⟩,by simp,by grind⟩
  by_cases c3:(i:Int)>0
  ·have hp:i - 1<qs.length:=by omega
   have hw:i64.wrap ((i:Int) - 1)=((i - 1:Nat):Int):=by rw[jB (by omega)];omega
   simp[c3,decide_true,if_true,hw,az hp,aa]
   grind
  grind
 ·obtain rfl:i=qs.length:=by omega
  simp_all[kO,dt,bw,Bool.false_eq_true,if_false,trivial]
def RegOk (r:LJ):Prop:=Data.sm r/\ ∀q∈r.2,0<=q.2.2/\q.2.2<(r.1.length:Int)
theorem UN {qs:List QT} (hq:Data.sm qs): ∃r:LJ,∃b:Bool,oU qs=(if (qs.length:Int)>4 then some (([],[]),false) else some (r,b))/\tN qs=some (r,b&&decide ((qs.length:Int)<=4))/\RegOk r:=by
 have hn:=(aE hq).1
 have h0:J7 qs.length 0 (0,[],[]):=⟨rfl,Nat.zero_le _,rfl,aF _,fun _ h=>(by cases h),fun _ h=>(by cases h)⟩
 have hs:ak (kO qs) aP (0,[],[])=ak (dt qs) aP (0,[],[]):=uc (J7 qs.length) (fun i s hI=>by
  have ⟨e,h⟩:=LL hq hI
  grind) aP 0 _ h0
 have ⟨o,e,ho⟩:=cz (f:=dt qs) (J7 qs.length) (fun o=>o= .ret (([],[]),false)\/ ∃A Q,o= .brk ((qs.length:Int),A,Q)/\J7 qs.length qs.length ((qs.length:Int),A,Q)) qs.length (fun i s hi hI=>by
  rcases (LL hq hI).2 with h | ⟨o,e,hne,h⟩
  ·grind
  ·rcases h with h | ⟨h,rfl⟩
   ·grind
   ·have ⟨s1,A,Q⟩:=s
    obtain ⟨rfl,-⟩:=id hI
    grind) h0 (fV _ (by omega))
 unfold oU tN
 rw[hs,e]
 rcases ho with rfl | ⟨A,Q,rfl,-,-,h3,h4,h5,h6⟩
 ·refine ⟨([],[]),false,?_,rfl,⟨⟨Nat.zero_le _,fun _ h=>(by cases h)⟩,Nat.zero_le _,fun _ h=>(by cases h)⟩,fun _ h=>(by cases h)⟩
  grind[aJ]
 ·simp only at h3 h4 h5 h6
  refine ⟨(A,Q),true,?_,by rfl,⟨⟨show A.length<=1048576 by omega,h5⟩,show Q.length<=1048576 by omega,fun q h=>(h6 q h).1⟩,fun q h=>(h6 q h).2⟩
  grind[aJ]
theorem DY {r:LJ} (hr:Data.sm r): ∃b,dR r=some b/\dV r=some b/\(b=true->RegOk r):=by
 have ⟨x,b,e1,e2,hx⟩:=UN hr.2
 unfold dR dV
 rw[e1,e2]
 by_cases c:(r.2.length:Int)>4
 ·exact ⟨false,by simp[c],by grind,fun e=>by cases e⟩
 ·have c':(r.2.length:Int)<=4:=by omega
  cases b with
  | false=>exact ⟨false,by simp[c],by simp,fun e=>by cases e⟩
  | true =>
   simp[c,if_false,aa,if_true,c',decide_true,Bool.and_true,eY,FU x r hx.1,FV x r hx.1]
   grind
end D
namespace D
open Go.RowKit
abbrev YE:=Int×(List GrT)
abbrev ab8:=Int×Int×Int
theorem DZ {g:GrT} (hg:Data.sm g): ∃b,aW g=some b:=by
 obtain ⟨b,e,_⟩:=Lx g (aE hg.1).1 (aE hg.2).1
 exact ⟨b,e⟩
def okG (h:YE) (g:GrT):Prop:=aW g=some true/\g.1=(nth h.2 0).1
instance (h g):Decidable (okG h g):=by unfold okG;infer_instance
theorem Rs (h:YE) (hh:Data.sm h): ∃b,m_s_IsValidHistory h=some b/\m_i_IsValidHistory h=some b/\(b=true->(1<=h.2.length/\h.2.length<=8)/\1<=h.1/\h.1<=1000 - (h.2.length:Int)):=by
 obtain ⟨hl,hs⟩:=aE hh.2
 have ew:i64.wrap ((i64.wrap (999 - (h.2.length:Int)))+1)=1000 - (h.2.length:Int):=by
  rw[b7 (n:=999 - (h.2.length:Int)) (by omega) (by omega),b7 (by omega) (by omega)];omega
 have ks:=scan (f:=eO h) h.2 (okG h) false (by omega) (fun i hi=>by
  have hg:=hs _ (bq (xs:=h.2) (i:=(i:Int)) (by omega) (by omega))
  obtain ⟨b,e⟩:=DZ hg
  obtain ⟨r,er,hr⟩:=FQ (nth h.2 (i:Int)).1 (nth h.2 0).1 (aE hg.1).1
  have e':bC ((nth h.2 (i:Int)).1,(nth h.2 (i:Int)).2)=some b:=by rw[B3];exact e
  have hk:okG h (nth h.2 (i:Int))↔b=true/\(nth h.2 (i:Int)).1=(nth h.2 0).1:=by unfold okG;rw[e];simp
  unfold eO
  rw[if_pos (by simp;omega),aq (by omega) (by omega)];simp only[aa]
  rw[e',aq (xs:=h.2) (i:=0) (by omega) (by omega)];simp only[aa]
  rw[er,ae (by omega)];simp only[aa]
  cases b with
  | false=>rw[if_neg (by decide),if_neg (fun c=>by cases (hk.1 c).1)]
  | true =>
   rw[if_pos rfl]
   by_cases c:r=0
   ·rw[if_neg (by simp[c]),if_pos (hk.2 ⟨rfl,hr.1 c⟩)]
   ·rw[if_pos (by simpa using c),if_neg (fun k=>c (hr.2 (hk.1 k).2))]) (by unfold eO;simp)
 have ki:=scan (f:=eQ h) h.2 (okG h) false (by omega) (fun i hi=>by
  have hg:=hs _ (bq (xs:=h.2) (i:=(i:Int)) (by omega) (by omega))
  obtain ⟨b,e⟩:=DZ hg
  have er:=B9 (nth h.2 (i:Int)).1 (nth h.2 0).1 (by have:=(aE hg.1).1;omega)
  have e':aW ((nth h.2 (i:Int)).1,(nth h.2 (i:Int)).2)=some b:=e
  have hk:okG h (nth h.2 (i:Int))↔b=true/\(nth h.2 (i:Int)).1=(nth h.2 0).1:=by unfold okG;rw[e];simp
  unfold eQ
  rw[if_pos (by simp;omega),aq (by omega) (by omega)];simp only[aa]
  rw[e',aq (xs:=h.2) (i:=0) (by omega) (by omega)];simp only[aa]
  rw[er,ae (by omega)];simp only[aa]
  cases b with
  | false=>rw[if_neg (by decide),if_neg (fun c=>by cases (hk.1 c).1)]
  | true =>
   rw[if_pos rfl]
   by_cases c:(nth h.2 (i:Int)).1=(nth h.2 0).1
   ·rw[if_pos (decide_eq_true c),if_pos (hk.2 ⟨rfl,c⟩)]
   ·rw[if_neg (by simpa using c),if_neg (fun k=>c (hk.1 k).2)]) (by unfold eQ;simp)
 unfold m_s_IsValidHistory m_i_IsValidHistory
 rw[JP,JP,DQ,DQ,ew];simp only[aa]
 by_cases c1:(1:Int)<=(h.2.length:Int)/\(h.2.length:Int)<=8
 ·by_cases c2:1<=h.1/\h.1<=1000 - (h.2.length:Int)
  ·rw[decide_eq_true c1,decide_eq_true c2];simp only[if_true]
   rcases ks with ⟨es,k1⟩ | ⟨es,k1⟩ <;> rcases ki with ⟨ei,k2⟩ | ⟨ei,k2⟩
   ·rw[ah es,ah ei]
    exact ⟨true,rfl,rfl,fun _=>⟨by omega,c2⟩⟩
   ·exact absurd k1 k2
   ·exact absurd k2 k1
   ·rw[bp es,bp ei]
    exact ⟨false,rfl,rfl,fun c=>by cases c⟩
  ·rw[decide_eq_true c1,decide_eq_false c2];simp only[if_true,Bool.false_eq_true,if_false]
   rcases ks with ⟨es,k1⟩ | ⟨es,k1⟩
   ·rw[ah es];exact ⟨false,rfl,rfl,fun c=>by cases c⟩
   ·rw[bp es];exact ⟨false,rfl,rfl,fun c=>by cases c⟩
 ·rw[decide_eq_false c1];simp only[Bool.false_eq_true,if_false]
  rcases ks with ⟨es,k1⟩ | ⟨es,k1⟩
  ·rw[ah es];exact ⟨false,rfl,rfl,fun c=>by cases c⟩
  ·rw[bp es];exact ⟨false,rfl,rfl,fun c=>by cases c⟩
def latV (h:YE):Int:=h.1+(h.2.length:Int) - 1
theorem Rt {h:YE} (hs:m_s_IsValidHistory h=some true) (hi:m_i_IsValidHistory h=some true) (k:(1<=h.2.length/\h.2.length<=8)/\1<=h.1/\h.1<=1000 - (h.2.length:Int)):cD h=some (latV h)/\ja h=some (latV h):=by
 unfold cD ja latV
 have hs:m_s_IsValidHistory (h.1,h.2)=_:=hs
 have hi:m_i_IsValidHistory (h.1,h.2)=_:=hi
 rw[hs,hi];simp only[aa,if_true]
 rw[b7 (n:=h.1+(h.2.length:Int)) (by omega) (by omega),b7 (by omega) (by omega)]
 exact ⟨rfl,rfl⟩
end D
namespace D
open Go.RowKit
theorem YF (a:AutT) (ha:Data.sm a):qH a=some a:=by
 obtain ⟨-,⟨hb,-⟩,hn,hr⟩:=ha
 unfold qH
 rw[aL (by simp;omega)];simp only[aa,List.nil_append]
 have:=aO (f:=ju a) (fun i=>((i:Int),a.1,a.2.1,a.2.2.take i)) a.2.2.length (fun i hi=>by
  unfold ju
  have h1:cM 8 ([] :List Int) a.2.2[i] =some a.2.2[i]:=by rw[aL (by have:a.2.2[i].length<=1048576:=(hr _ (List.getElem_mem hi)).1;simp;omega)];rfl
  simp only[bK hi,if_true,az hi,aa,h1,ae (show i<9223372036854775807 by omega)]
  rw[aL (by simp;omega)]
  simp only[aa]
  rw[List.take_succ_eq_append_getElem hi]) (by
  unfold ju
  simp only[bw,Bool.false_eq_true,if_false]) (fV _ (by omega))
 have e:ak (ju a) aP (0,a.1,a.2.1,[])=_:=this
 rw[e]
 simp only[aJ,List.take_length]
theorem YG (a:AutT) (ha:Data.sm a):jd a=some a:=by
 obtain ⟨-,⟨hb,-⟩,hn,hr⟩:=ha
 unfold jd
 rw[aL (by simp;omega)];simp only[aa,List.nil_append]
 have:=aO (f:=dJ a) (fun i=>((i:Int),a.1,a.2.1,a.2.2.take i)) a.2.2.length (fun i hi=>by
  unfold dJ mJ
  have h1:cM 8 ([] :List Int) a.2.2[i] =some a.2.2[i]:=by rw[aL (by have:a.2.2[i].length<=1048576:=(hr _ (List.getElem_mem hi)).1;simp;omega)];rfl
  simp only[bK hi,if_true,az hi,aa,h1,ae (show i<9223372036854775807 by omega)]
  rw[aL (by simp;omega)]
  simp only[aa]
  rw[List.take_succ_eq_append_getElem hi]) (by
  unfold dJ
  simp only[bw,Bool.false_eq_true,if_false]) (fV _ (by omega))
 have e:ak (dJ a) aP (0,a.1,a.2.1,[])=_:=this
 rw[e]
 simp only[aJ,List.take_length]
end D
namespace D
open Go.RowKit
theorem Ib (r:LJ) (id:Int) (hl:r.2.length<=1048576): ∃k:Int,iU r id=some k/\jb r id=some k/\(k= -1\/ ∃i:Nat,i<r.2.length/\k=(i:Int)):=by
 unfold iU jb bI
 have hf: ∀i (h:i<r.2.length),eG r id (i:Int)=if r.2[i].1=id then some (.ret (i:Int)) else some (.nxt ((i+1:Nat):Int)):=fun i h=>by
  simp only[eG,bK h,if_true,az h,aa,ae (show i<9223372036854775807 by omega)]
  by_cases c:r.2[i].1=id <;> simp[c]
 obtain ⟨k,e1,e2,h⟩:=LK (f:=eG r id) (g:=ba r.2 fun a0=>kP a0 id) r.2.length hl (fun i h=>by
  rw[hf i h];by_cases c:r.2[i].1=id <;> simp[c]) (by simp only[eG,bw];rfl) (fun i hi=>by
  by_cases h:i<r.2.length
  ·rw[hf i h]
   simp only[ba,kP,bK h,if_true,az h,aa,ae (show i<9223372036854775807 by omega)]
   by_cases c:r.2[i].1=id <;> simp[c]
  ·obtain rfl:i=r.2.length:=by omega
   simp only[eG,ba,bw];rfl)
 refine ⟨k,e1,?_,h⟩
 rw[e2];rfl
end D
namespace D
open Go.RowKit
abbrev EngT:=YE×LJ×List ab8×ByteArray
theorem LM {h:YE} {r:LJ} {ss:List ab8} {lg:ByteArray} {v:Int} (hs:cD h=some v) (hr:r.2.length<=1048576) (hn:ss.length<=1048576) {i:Nat} (h1:i<ss.length) :
  cd (h,r,ss,lg) v (i:Int)=cO (h,r,ss,lg) (i:Int)/\(cO (h,r,ss,lg) (i:Int)=some (.nxt ((i+1:Nat):Int))\/cO (h,r,ss,lg) (i:Int)=some (.ret false)):=by
 obtain ⟨k,k1,k2,-⟩:=Ib r ss[i].2.1 hr
 have hw:i64.wrap ((i:Int)+1)=((i+1:Nat):Int):=ae (by omega)
 unfold cd cO
 simp only[eY,bK h1,if_true,az h1,aa,JP,DQ,k1,k2,hs,hw]
 by_cases c:decide ((i:Int)>0)=true
 ·have g:aG ss (i64.wrap ((i:Int) - 1))=some (nth ss ((i:Int) - 1)):=by
   have:(i:Int)>0:=of_decide_eq_true c
   rw[jB (by omega),aq (by omega) (by omega)]
  simp only[if_pos c,g,aa]
  refine ⟨trivial,?_⟩
  repeat' split
  all_goals first | exact .inr rfl | exact .inl rfl
 ·simp only[if_neg c]
  refine ⟨trivial,?_⟩
  repeat' split
  all_goals first | exact .inr rfl | exact .inl rfl
theorem UO {h:YE} {r:LJ} {ss:List ab8} {lg:ByteArray} {v:Int} (hs:cD h=some v) (hr:r.2.length<=1048576) (hn:ss.length<=1048576): ∃o,ak (cO (h,r,ss,lg)) aP 0=some o/\ak (cd (h,r,ss,lg) v) aP 0=some o/\(o= .ret false\/ ∃s,o= .brk s):=by
 have hend:cO (h,r,ss,lg) (ss.length:Int)=some (.brk (ss.length:Int)):=by
  unfold cO
  simp only[]
  rw[bw];rfl
 have hend2:cd (h,r,ss,lg) v (ss.length:Int)=some (.brk (ss.length:Int)):=by
  unfold cd
  simp only[]
  rw[bw];rfl
 obtain ⟨o,e,hQ⟩:=cz (f:=cO (h,r,ss,lg)) (fun i s=>s=(i:Int)) (fun o=>o= .ret false\/ ∃s,o= .brk s) ss.length (fun i s hi hI=>by
  subst hI
  by_cases h1:i<ss.length
  ·rcases (LM (lg:=lg) hs hr hn h1).2 with k | k
   ·exact .inl ⟨h1,_,k,rfl⟩
   ·exact .inr ⟨_,k,fun s' h=>(by simp at h),.inl rfl⟩
  ·obtain rfl:i=ss.length:=by omega
   exact .inr ⟨_,hend,fun s' h=>(by simp at h),.inr ⟨_,rfl⟩⟩) (s:=(0:Int)) rfl (fV _ (by omega))
 refine ⟨o,e,?_,hQ⟩
 rw[<-e]
 refine uc (f:=cO (h,r,ss,lg)) (g:=cd (h,r,ss,lg) v) (fun i s=>s=(i:Int)/\i<=ss.length) (fun i s hI=>?_) aP 0 0 ⟨rfl,Nat.zero_le _⟩
 obtain ⟨rfl,hi⟩:=hI
 by_cases h1:i<ss.length
 ·obtain ⟨a,b⟩:=LM (lg:=lg) hs hr hn h1
  refine ⟨a,fun s' hs'=>?_⟩
  rcases b with b | b
  ·rw[b] at hs'
   obtain rfl:=ad hs' |> Out.nxt.inj
   exact ⟨rfl,h1⟩
  ·rw[b] at hs';simp at hs'
 ·obtain rfl:i=ss.length:=by omega
  exact ⟨by rw[hend,hend2],fun s' hs'=>by rw[hend] at hs';simp at hs'⟩
structure EngOk (e:EngT):Prop where
 hs:m_s_IsValidHistory e.1=some true
 hi:m_i_IsValidHistory e.1=some true
 hb:(1<=e.1.2.length/\e.1.2.length<=8)/\1<=e.1.1/\e.1.1<=1000 - (e.1.2.length:Int)
 reg:RegOk e.2.1
 sub:e.2.2.1.length<=4
 log:e.2.2.2.size<=4000
 sc: ∃(r:List Int) (q:List (List ChT)) (n:Nat),m_s_ScanLog e.2.2.2=some (r,q,(n:Int))/\m_i_ScanLog e.2.2.2=some (r,q,(n:Int))/\r.length<=4000/\ScOk r q/\totL r q r.length<=4000/\(r.length=0\/nth r ((r.length:Int) - 1)=latV e.1)
theorem UP (e:EngT) (he:Data.sm e): ∃b,iV e=some b/\jc e=some b/\(b=true->EngOk e):=by
 obtain ⟨h,r,ss,lg⟩:=e
 obtain ⟨sh,sr,ssb,slg⟩:=he
 obtain ⟨b1,e1,e2,k1⟩:=Rs h sh
 obtain ⟨b2,f1,f2,k2⟩:=DY sr
 have slg:lg.size<=1048576:=slg
 obtain ⟨l,rfl⟩:=Z0 lg
 have hlz:(mkB l).size=l.length:=bB l
 have hl:l.length<=1048576:=by rw[<-hlz];exact slg
 unfold iV jc ve xB
 simp only[eY,e1,e2,f1,f2,aa,hlz]
 cases b1 with
 | false=>exact ⟨false,rfl,rfl,fun c=>by cases c⟩
 | true =>
  cases b2 with
  | false=>exact ⟨false,rfl,rfl,fun c=>by cases c⟩
  | true =>
   obtain ⟨l1,l2⟩:=Rt e1 e2 (k1 rfl)
   obtain ⟨o,o1,o2,ho⟩:=UO (h:=h) (r:=r) (ss:=ss) (lg:=mkB l) l1 (aE sr.2).1 (aE ssb).1
   obtain ⟨vs,bs,n,g1,g2,g3,g4,g5,g6⟩:=HW l (by omega)
   simp only[if_true,l1,l2,g1,g2,aa,o1,o2]
   by_cases c1:(ss.length:Int)<=4
   ·rw[if_neg (show¬decide ((ss.length:Int)>4)=true by rw[decide_eq_true_eq];omega),decide_eq_true c1]
    by_cases c2:(l.length:Int)<=4000
    ·rw[if_neg (show¬decide ((l.length:Int)>4000)=true by rw[decide_eq_true_eq];omega)]
     rcases ho with rfl | ⟨s,rfl⟩
     ·exact ⟨false,rfl,rfl,fun c=>by cases c⟩
     ·simp only[aJ,if_true,aa]
      by_cases c3:((n:Int)==(l.length:Int))=true
      ·simp only[if_pos c3,if_pos (decide_eq_true c2)]
       by_cases c4:((vs.length:Int)==0)=true
       ·simp only[if_pos c4,aa]
        exact ⟨true,rfl,rfl,fun _=>⟨e1,e2,k1 rfl,k2 rfl,by show ss.length<=4;omega,by show (mkB l).size<=4000;omega,vs,bs,n,g1,g2,g4,g5,by omega,.inl (by have:=eq_of_beq c4;omega)⟩⟩
       ·have hp:0<vs.length:=by
         rcases Nat.eq_zero_or_pos vs.length with q | q
         ·exact absurd (by rw[q];rfl) c4
         ·exact q
        simp only[if_neg c4,jB (show vs.length<=9223372036854775807 by omega),aq (xs:=vs) (i:=(vs.length:Int) - 1) (by omega) (by omega),aa]
        refine ⟨_,rfl,rfl,fun c=>⟨e1,e2,k1 rfl,k2 rfl,by show ss.length<=4;omega,by show (mkB l).size<=4000;omega,vs,bs,n,g1,g2,g4,g5,by omega,.inr (eq_of_beq c)⟩⟩
      ·simp only[if_neg c3,aa]
       exact ⟨false,rfl,rfl,fun c=>by cases c⟩
    ·rw[if_pos (decide_eq_true (show (l.length:Int)>4000 by omega))]
     rcases ho with rfl | ⟨s,rfl⟩
     ·exact ⟨false,rfl,rfl,fun c=>by cases c⟩
     ·simp only[aJ,if_true,aa]
      by_cases c3:((n:Int)==(l.length:Int))=true
      ·simp only[if_pos c3,if_neg (show¬decide ((l.length:Int)<=4000)=true by rw[decide_eq_true_eq];exact c2),aa]
       exact ⟨false,rfl,rfl,fun c=>by cases c⟩
      ·simp only[if_neg c3,aa]
       exact ⟨false,rfl,rfl,fun c=>by cases c⟩
   ·rw[if_pos (decide_eq_true (show (ss.length:Int)>4 by omega)),decide_eq_false c1]
    rcases ho with rfl | ⟨s,rfl⟩
    ·exact ⟨false,rfl,rfl,fun c=>by cases c⟩
    ·exact ⟨false,rfl,rfl,fun c=>by cases c⟩
end D
namespace D
open Go.RowKit
theorem Nt {r:LJ} (hr:Data.sm r) (id:Int): ∃x:AutT×Bool,dC r id=some x/\eU r id=some x/\Data.sm x.1:=by
 obtain ⟨k,f1,f2,hk⟩:=Ib r id (aE hr.2).1
 obtain ⟨b,v1,v2,hv⟩:=DY hr
 unfold dC eU
 simp only[f1,f2,v1,v2,aa,eY]
 rcases hk with rfl | ⟨i,hi,rfl⟩
 ·refine ⟨((0,[],[]),false),?_,?_,xc⟩
  ·cases b <;> rfl
  ·rfl
 ·have hk:decide ((i:Int)<0)=false:=by simp
  cases b with
  | false=>exact ⟨((0,[],[]),false),by simp[hk],by simp[hk],xc⟩
  | true =>
   obtain ⟨hs,hq⟩:=hv rfl
   obtain ⟨q1,q2⟩:=hq _ (List.getElem_mem hi)
   have e1:aG r.1 r.2[i].2.2=some (nth r.1 r.2[i].2.2):=aq q1 q2
   have hm:Data.sm (nth r.1 r.2[i].2.2):=(aE hs.1).2 _ (bq q1 q2)
   simp only[if_true,hk,Bool.false_eq_true,if_false,az hi,aa,e1,eY,YF _ hm,YG _ hm]
   exact ⟨_,rfl,rfl,hm⟩
end D
namespace D
open Go.RowKit
theorem Nu {c:Prop} [Decidable c] (h:c):chk c=some ():=if_pos h
theorem Nv {α:Type} {xs:List α} {i n:Nat} {z:α} (h:i<=xs.length):(uY xs i n z).take i=xs.take i:=by
 unfold uY
 rw[List.take_append_of_le_length (by rw[aI];omega),List.take_take,Nat.min_self]
theorem Ru {α:Type} {xs:List α} {i:Nat} {z:α} (h:i<=xs.length):(uY xs i xs.length z).length=xs.length:=yA h (aF _)
theorem UQ {α:Type} {ys:List α} {i:Nat} {x:α} (h:i<ys.length):(ys.set i x).take (i+1)=ys.take i++ [x]:=by
 rw[List.take_succ_eq_append_getElem (by simpa using h)]
 simp[List.take_set_of_le]
theorem set_drop {α:Type} {ys:List α} {i j:Nat} {x:α} (h:i<j):(ys.set i x).drop j=ys.drop j:=by
 apply List.ext_getElem?
 intro q
 rw[List.getElem?_drop,List.getElem?_drop,List.getElem?_set_ne (by omega)]
theorem Rv {α:Type} {ys xs:List α} {j:Nat} (h:ys.drop j=xs.drop j):ys.drop (j+1)=xs.drop (j+1):=by
 rw[<-List.drop_drop,h,List.drop_drop]
theorem LN {α:Type} {ys xs:List α} {j q:Nat} (h:ys.drop j=xs.drop j) (hq:j<=q) (h1:q<ys.length) (h2:q<xs.length):ys[q] =xs[q]:=by
 have e:=congrArg (fun l=>l[q - j]?) h
 simp only[List.getElem?_drop,show j+(q - j)=q from by omega] at e
 rw[List.getElem?_eq_getElem h1,List.getElem?_eq_getElem h2] at e
 exact ad e
section
variable {α:Type} [DecidableEq α]
def rT:List α->List α
 | [] =>[]
 | [a] =>[a]
 | a::b::l=>if a=b then rT (b::l) else a::rT (b::l)
theorem Ah {x:α} : ∀ {l:List α},x∈rT l↔x∈l
 | [] =>Iff.rfl
 | [a] =>Iff.rfl
 | a::b::l=>by
  rw[rT]
  split
  ·rename_i e;subst e;rw[Ah];simp
  ·rw[List.mem_cons,Ah,List.mem_cons (l:=b::l)]
theorem Ic: ∀(l:List α) (b:α),l≠ [] ->rT (l++ [b])=if l.getLast? =some b then rT l else rT l++ [b]
 | [],b,h=>absurd rfl h
 | [a],b,_=>by
  by_cases e:a=b
  ·subst e;simp[rT]
  ·simp[rT,e]
 | a::c::l,b,_=>by
  have ih:=Ic (c::l) b (by simp)
  have hg:(a::c::l).getLast? =(c::l).getLast? :=by simp[List.getLast?_cons_cons]
  rw[hg]
  show rT (a::c::(l++ [b]))=_
  rw[rT,rT]
  rw[show c::(l++ [b])=(c::l)++ [b] from rfl,ih]
  by_cases e:a=c
  ·rw[if_pos e,if_pos e]
  ·rw[if_neg e,if_neg e]
   split <;> simp
theorem Cg {xs:List α} {j:Nat} (h0:0<j) (h:j<xs.length):rT (xs.take (j+1))=if xs[j - 1] =xs[j] then rT (xs.take j) else rT (xs.take j)++ [xs[j]]:=by
 rw[List.take_succ_eq_append_getElem h,Ic _ _ (by
  intro e
  have h9:=congrArg List.length e
  rw[aI,Nat.min_eq_left (Nat.le_of_lt h),bf] at h9
  omega)]
 have hg:(xs.take j).getLast? =some xs[j - 1]:=by
  rw[List.getLast?_eq_getElem?,aI,Nat.min_eq_left (Nat.le_of_lt h),List.getElem?_take,if_pos (show j - 1<j by omega),List.getElem?_eq_getElem (show j - 1<xs.length by omega)]
 rw[hg]
 by_cases e:xs[j - 1] =xs[j]
 ·rw[if_pos (by rw[e]),if_pos e]
 ·rw[if_neg (by simpa using e),if_neg e]
theorem Ie {xs:List α} : ∀(j:Nat),j<=xs.length->(∀q (hq:q<j) (h0:0<q) (hx:j<=xs.length),xs[q - 1]'(by omega)≠xs[q]'(by omega))->rT (xs.take j)=xs.take j
 | 0,_,_=>by simp[rT]
 | 1,h,_=>by
  cases xs with
  | nil=>simp[rT]
  | cons a l=>simp[rT]
 | j+2,h,hq=>by
  rw[Cg (by omega) (by omega),if_neg (hq (j+1) (by omega) (by omega) h),Ie (j+1) (by omega) (fun q h1 h2 h3=>hq q (by omega) h2 h),<-List.take_succ_eq_append_getElem]
end
theorem FW: ∀ {l:List Int},l.Pairwise (fun a b=>a<=b)->(rT l).Pairwise (fun a b=>a<b)
 | [],_=>List.Pairwise.nil
 | [a],_=>by simp[rT]
 | a::b::l,h=>by
  obtain ⟨h1,h2⟩:=List.pairwise_cons.1 h
  rw[rT]
  split
  ·exact FW h2
  ·rename_i hn
   refine List.pairwise_cons.2 ⟨fun x hx=>?_,FW h2⟩
   have hab:a<b:=by have:=h1 b (List.mem_cons_self ..);omega
   rcases ax (Ah.1 hx) with rfl | hx
   ·exact hab
   ·have:=(List.pairwise_cons.1 h2).1 x hx
    omega
theorem If: ∀ {l m:List Int},l.Pairwise (fun a b=>a<b)->m.Pairwise (fun a b=>a<b)->(∀x,x∈l↔x∈m)->l=m
 | [],[],_,_,_=>rfl
 | [],b::m,_,_,h=>absurd ((h b).2 (by simp)) (by simp)
 | a::l,[],_,_,h=>absurd ((h a).1 (by simp)) (by simp)
 | a::l,b::m,h1,h2,h=>by
  obtain ⟨k1,k2⟩:=List.pairwise_cons.1 h1
  obtain ⟨j1,j2⟩:=List.pairwise_cons.1 h2
  have hab:a=b:=by
   have ha:=(h a).1 (by simp)
   have hb:=(h b).2 (by simp)
   rcases ax ha with e | ha
   ·exact e
   ·rcases ax hb with e | hb
    ·exact e.symm
    ·have:=k1 b hb;have:=j1 a ha;omega
  subst hab
  rw[If k2 j2 fun x=>?_]
  have:=h x
  rw[List.mem_cons,List.mem_cons] at this
  constructor
  ·intro hx
   rcases this.1 (.inr hx) with e | e
   ·subst e;have:=k1 x hx;omega
   ·exact e
  ·intro hx
   rcases this.2 (.inr hx) with e | e
   ·subst e;have:=j1 x hx;omega
   ·exact e
end D
namespace D
open Go.RowKit
theorem acV {a b:Int} :(a==b)=decide (a=b):=by rw[Bool.eq_iff_iff];simp
theorem J8 (xs:List Int) (hl:xs.length<=1073741824):cJ xs=some (rT xs):=by
 unfold cJ
 by_cases h2:xs.length<2
 ·rw[if_pos (by simp;omega)]
  cases xs with
  | nil=>rfl
  | cons a l =>
   cases l with
   | nil=>rfl
   | cons b l=>simp only[aK] at h2;omega
 rw[if_neg (by simp;omega)]
 have key:(ak (bF xs) aP 1=some (.ret (rT xs)))\/(∃s,ak (bF xs) aP 1=some (.brk s)/\rT xs=xs):=by
  obtain ⟨o,e,hQ⟩:=cz (f:=bF xs) (fun t s=>s=((t+1:Nat):Int)/\rT (xs.take (t+1))=xs.take (t+1)) (fun o=>o= .ret (rT xs)\/ ∃s,o= .brk s/\rT xs=xs) (xs.length - 1) (fun t s ht hI=>by
   obtain ⟨rfl,hI⟩:=hI
   unfold bF
   by_cases h1:t+1<xs.length
   ·have hp:((t+1:Nat):Int) - 1=((t:Nat):Int):=by omega
    rw[bK h1,if_pos rfl,az h1,b7 (n:=((t+1:Nat):Int) - 1) (by omega) (by omega),hp,az (show t<xs.length by omega)]
    simp only[aa,acV]
    have hn:=Cg (xs:=xs) (j:=t+1) (by omega) h1
    rw[hI] at hn
    simp only[Nat.add_sub_cancel] at hn
    by_cases he:xs[t+1] =xs[t]
    ·rw[if_pos (decide_eq_true he),Nu (by omega),aa]
     rw[if_pos he.symm] at hn
     have hlt:(xs.take (t+1)).length=t+1:=by rw[aI];omega
     obtain ⟨s,e1,ys,rfl,k1,k2,k3,k4⟩:=mQ (f:=bZ xs ((t+1:Nat):Int)) (fun u s=> ∃ys:List Int,s=(((rT (xs.take (t+2+u))).length:Int),((u+1:Nat):Int),ys)/\ys.length=xs.length/\ys.take (rT (xs.take (t+2+u))).length=rT (xs.take (t+2+u))/\ys.drop (t+1+u)=xs.drop (t+1+u)/\(rT (xs.take (t+2+u))).length<=t+1+u) (xs.length - (t+2)) (fun u s hu hI=>by
      obtain ⟨ys,rfl,k1,k2,k3,k4⟩:=hI
      have hj:t+2+u<xs.length:=by clear k4 k2;omega
      have hj1:t+1+u<xs.length:=by clear k4 k2;omega
      have hj2:t+2+u<ys.length:=by clear k4 k2;omega
      have hj3:t+1+u<ys.length:=by clear k4 k2;omega
      have a1:(0+((t+1:Nat):Int))+((u+1:Nat):Int)=((t+2+u:Nat):Int):=by omega
      have a2:((u+1:Nat):Int) - 1=((u:Nat):Int):=by omega
      have a3:(0+((t+1:Nat):Int))+((u:Nat):Int)=((t+1+u:Nat):Int):=by omega
      unfold bZ
      dsimp only
      rw[if_pos (by simp;omega),Nu (by omega)]
      simp only[aa]
      rw[b7 (n:=((u+1:Nat):Int) - 1) (by omega) (by omega),a1,a2,a3,az (xs:=ys) hj2,az (xs:=ys) hj3,Nu (by omega),LN k3 (by omega) hj2 hj,LN k3 (aF _) hj3 hj1]
      simp only[aa,acV,eY]
      have e9:t+2+u - 1=t+1+u:=by clear k4 k2;omega
      have e8:0<t+2+u:=by clear k4 k2;omega
      have hnx:=Cg (xs:=xs) (j:=t+2+u) e8 hj
      simp only[e9] at hnx
      have hd:=Rv k3
      rw[show t+1+u+1=t+1+(u+1) from by omega] at hd
      rw[show t+2+(u+1)=t+2+u+1 from by omega,hnx]
      generalize rT (xs.take (t+2+u))=K at *
      by_cases hq:xs[t+2+u] =xs[t+1+u]
      ·rw[if_neg (by simpa using hq),if_pos hq.symm]
       simp only[aa]
       rw[ae (by omega)]
       exact ⟨_,rfl,ys,rfl,k1,k2,hd,by omega⟩
      ·rw[if_pos (by simpa using hq),if_neg (fun e=>hq e.symm),az (xs:=ys) (show K.length<ys.length by omega)]
       simp only[aa]
       rw[ae (by omega),ae (by omega)]
       refine ⟨_,rfl,ys.set K.length xs[t+2+u],?_,by simpa using k1,?_,?_,?_⟩
       ·rw[aC,List.length_singleton];rfl
       ·rw[aC,List.length_singleton,UQ (by omega),k2]
       ·rw[set_drop (by omega)];exact hd
       ·rw[aC,List.length_singleton];omega) (fun s hI=>by
      obtain ⟨ys,rfl,k1,k2,k3,k4⟩:=hI
      unfold bZ
      rw[if_neg (by simp;omega)]) (s:=(((t+1:Nat):Int),1,xs)) ⟨xs,by rw[Nat.add_zero,hn,hlt];rfl,rfl,by rw[Nat.add_zero,hn,hlt],rfl,by rw[Nat.add_zero,hn,hlt];omega⟩ (fV _ (by omega))
     refine .inr ⟨.ret (rT xs),?_,fun s' hh=>(by simp at hh),.inl rfl⟩
     rw[ah e1]
     have hall:xs.take (t+2+(xs.length - (t+2)))=xs:=List.take_of_length_le (by omega)
     rw[hall] at k2 k4⊢
     generalize rT xs=K at *
     have q0:K.length<=ys.length:=by omega
     have z1:((0:Int)+((K.length:Nat):Int)).toNat=K.length:=by omega
     have z2:((0:Int)+(((ys.length:Nat):Int) - 0)).toNat=ys.length:=by omega
     simp only[z1,z2]
     have zl:=Ru (z:=(0:Int)) q0
     rw[Nu (by omega),aa,Nu (by omega),aa,Nu (by rw[zl];omega),aa,Nv q0,k2,List.drop_zero]
    ·rw[if_neg (by simpa using he),ae (by omega)]
     rw[if_neg (fun e=>he e.symm),<-List.take_succ_eq_append_getElem h1] at hn
     exact .inl ⟨by omega,_,rfl,rfl,hn⟩
   ·refine .inr ⟨.brk ((t+1:Nat):Int),?_,fun s' hh=>(by simp at hh),.inr ⟨_,rfl,?_⟩⟩
    ·rw[if_neg (by simp;omega)]
    ·rw[List.take_of_length_le (by omega)] at hI;exact hI) (s:=1) ⟨rfl,Ie 1 (by omega) (fun q h1 h0=>by omega)⟩ (fV _ (by omega))
  rcases hQ with rfl | ⟨s,rfl,h⟩
  ·exact .inl e
  ·exact .inr ⟨s,e,h⟩
 rcases key with e | ⟨s,e,h⟩
 ·rw[bp e]
 ·rw[ah e,h]
theorem Ci (m:Nat): ∀k,(e7 m k).Pairwise (fun a b=>a<b)
 | 0=>List.Pairwise.nil
 | k+1=>by
  rw[ko]
  split
  ·refine List.pairwise_append.2 ⟨Ci m k,List.pairwise_singleton _ _,fun a ha b hb=>?_⟩
   obtain ⟨i,hi,_,rfl⟩:=th.1 ha
   obtain rfl:b=(k:Int):=by simpa using hb
   omega
  ·exact Ci m k
theorem YH {X:List Int} {m:Nat} (h: ∀x∈X,∃i:Nat,i<30/\x=(i:Int)) (hm: ∀i:Nat,i<30->(m.testBit i=true↔(i:Int)∈X)):rT (X.mergeSort fun x y=>decide (x<=y))=e7 m 30:=by
 have hp:(X.mergeSort fun x y=>decide (x<=y)).Pairwise (fun a b=>a<=b):=by
  have:=List.pairwise_mergeSort (le:=fun (x y:Int)=>decide (x<=y)) (fun a b c h1 h2=>by
   have h1:=of_decide_eq_true h1;have h2:=of_decide_eq_true h2
   exact decide_eq_true (by omega)) (fun a b=>by
   rw[Bool.or_eq_true,decide_eq_true_eq,decide_eq_true_eq];omega) X
  exact this.imp fun h=>of_decide_eq_true h
 refine If (FW hp) (Ci m 30) fun x=>?_
 rw[Ah,List.mem_mergeSort,th]
 constructor
 ·intro hx
  obtain ⟨i,hi,rfl⟩:=h x hx
  exact ⟨i,hi,(hm i hi).2 hx,rfl⟩
 ·rintro ⟨i,hi,hb,rfl⟩
  exact (hm i hi).1 hb
end D
namespace D
open Go.RowKit
theorem V6 {p:Prop} [Decidable p] (h:p):chk p=some ():=by unfold chk;rw[if_pos h]
theorem ab9 {m:Nat} (hm:m<2 ^ 30):we (m:Int)=some (e7 m 30):=by
 have hm':m<2 ^ 62:=ay hm (Nat.pow_le_pow_right (by decide) (by decide))
 unfold we
 have:=aO (f:=mE (m:Int)) (fun i=>(e7 m i,(i:Int))) 30 (fun i hi=>by
  have hl:=mR m i
  unfold mE
  simp only
  rw[if_pos (by simp;omega),V6 (by omega),BX hm' (by omega),ae (by omega),ko];simp only[aa]
  by_cases b:m.testBit i=true
  ·rw[if_pos b,if_pos b,aL (by simp;omega)];rfl
  ·rw[if_neg b,if_neg b];rfl) (by unfold mE;simp) (by unfold aP;omega)
 have this:ak (mE (m:Int)) aP (([] :List Int),0)=_:=this
 rw[ah this]
theorem J9 (xs:List Int) (h:xs.length<=1000000):kU xs=some (rT (xs.mergeSort fun x y=>decide (x<=y))):=by
 unfold kU mJ ff R.Tz
 rw[aL (by simp;omega)];simp only[aa,List.nil_append]
 rw[V6 (by omega)];simp only[aa]
 rw[J8 _ (by rw[List.length_mergeSort];omega)];rfl
end D
end Go.Proofs.YtfkokkokjgjkgaaGreatDoor
