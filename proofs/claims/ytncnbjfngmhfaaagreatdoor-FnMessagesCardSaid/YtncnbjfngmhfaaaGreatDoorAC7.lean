/- FnMessages: for every input the law returns true and changes nothing that was there. Part 8 of 9. -/
import Derived.Test.YtncnbjfngmhfaaaGreatDoorAC6
set_option synthInstance.maxSize 20000
set_option synthInstance.maxHeartbeats 2000000
set_option linter.unusedVariables false
set_option linter.unusedSimpArgs false
set_option linter.unnecessarySimpa false
set_option linter.unusedSectionVars false
set_option maxRecDepth 1000000
namespace Go.Proofs.YtncnbjfngmhfaaaGreatDoor
open Go.IntKind (i64)
namespace D
open Go.RowKit
def Cr (y:ArT):Int×Bool:=y.1
theorem ZF {g:GrT} (G:GOk g) {x:Nat} :qF g x=some ((mn g.2 x).map Cr):=by
 unfold qF
 have:=aO (f:=lV g x) (fun i=>((mn (g.2.take i) x).map Cr,(i:Int))) g.2.length (fun i d=>by
  unfold lV;simp only;have m:=G.m;have k:=uk (g.2.take i) x;have l:(g.2.take i).length<=12:=by rw[aB];omega
  rw[if_pos (by simp;omega),au (by omega) (by omega)];simp only[aa];rw[vV d,af (by omega)];generalize nth g.2 (i:Int)=e;have h:mn (g.2.take i++ [e]) x=mn (g.2.take i) x++US e x:=by simp[mn]
  rw[h,aW];generalize c:(mn (g.2.take i) x).map Cr=L;have j:L.length<=24:=by rw[<-c,List.length_map];omega
  unfold US;by_cases b:e.2.1=(x:Int)
  ·rw[if_pos (by simpa using b),if_pos b,ay (by simp;omega)];simp only[aa];by_cases a:e.2.2.1=(x:Int)
   ·rw[if_pos (by simpa using a),if_pos a,ay (by simp;omega)];simp[Cr,fwd,inv]
   ·rw[if_neg (by simpa using a),if_neg a];simp[Cr,fwd,inv]
  ·rw[if_neg (by simpa using b),if_neg b];simp only[aa];by_cases a:e.2.2.1=(x:Int)
   ·rw[if_pos (by simpa using a),if_pos a,ay (by simp;omega)];simp[Cr,fwd,inv]
   ·rw[if_neg (by simpa using a),if_neg a];simp[Cr,fwd,inv]) (by unfold lV;simp) (kz (by have:=G.m;omega))
 have this:aq (lV g x) aT (([] :List (Int×Bool)),0)=_:=this;rw[this,List.take_length];rfl
theorem KN {g:GrT} (G:GOk g) {j:Nat} (a:j<g.2.length):dw g (nth g.2 (j:Int)).1=some (j:Int):=by
 unfold dw;have m:=G.m;obtain ⟨o,e,d⟩:=b9 (f:=fK g (nth g.2 (j:Int)).1) (fun i s=>s=(i:Int)/\i<=j) (fun o=>o= .ret (j:Int)) 12 (s:=0) (by
  rintro i s h ⟨rfl,b⟩;unfold fK;rw[if_pos (by simp;omega),au (by omega) (by omega)];simp only[aa];by_cases c:i=j
  ·subst c;exact .inr ⟨_,by rw[if_pos (by simp)],(fun k e=>by cases e),rfl⟩
  ·have l:=G.lt (i:=i) (j:=j) (by omega) a;exact .inl ⟨by omega,_,by rw[if_neg (by simp;omega),af (by omega)],rfl,by omega⟩) ⟨rfl,by omega⟩ (by unfold aT;omega)
 subst d;rw[e];rfl
theorem Tp {g:GrT} (G:GOk g) {x:Nat} {y:ArT} (h:y∈mn g.2 x): ∃(j:Int) (e:EdT),dw g y.1.1=some j/\aP g.2 j=some e/\ix e y.1.2=some y.2.1/\pa e y.1.2=some y.2.2:=by
 obtain ⟨e,c,a⟩:=List.mem_flatMap.1 h;obtain ⟨j,b,rfl⟩:=BW c;obtain ⟨d,f,i⟩:=G.edge _ c;refine ⟨j,nth g.2 (j:Int),?_,au (by omega) (by omega),?_,?_⟩
 all_goals
  unfold US at a;rcases aG a with a | a <;> split at a
  ·obtain rfl:=ak a;simp only[fwd]
   first | exact KN G b | (unfold ix;rw[bA (n:=2*_) (by omega) (by omega)];rfl) | (unfold pa;rfl)
  ·cases a
  ·obtain rfl:=ak a;simp only[inv]
   first | exact KN G b | (unfold ix;rw[bA (n:=2*_) (by omega) (by omega),bA (by omega) (by omega)];rfl) | (unfold pa;rfl)
  ·cases a
abbrev Xi:=(Int×Bool)×Int×Int
def stA (g:GrT) (a:AutT) (x s:Nat) (y:ArT):List Xi:=(behind a s (nth g.1 x) y.2.1).map fun t=>(y.1,y.2.2,t)
def stV (g:GrT) (a:AutT) (x s:Nat):List Xi:=(mn g.2 x).flatMap (stA g a x s)
theorem ZG (g:GrT) (a:AutT) (x s:Nat):(stV g a x s).map (fun p=>p.2.1*(a.2.1.length:Int)+p.2.2)=nbV g a x s:=by
 unfold stV nbV;rw[List.map_flatMap];congr 1;funext y;unfold stA nbA;rw[List.map_map];rfl
section
variable {g:GrT} {a:AutT} (G:GOk g) (V:VA a a.2.1.length) (hn:a.2.1.length<=12)
include G V hn
theorem Xj {x s:Nat} {y:ArT} (c:x<g.1.length) (hs:s<a.2.1.length) (b:y∈mn g.2 x):(stA g a x s y).length<=30:=by
 unfold stA;rw[List.length_map];exact (xx G V hn (s:=s) ⟨by omega,by omega⟩ (G.val _ (bT (by omega) (by omega))) (Cg G b).1).2.1
theorem abb {x:Nat} {i:Nat} {e:EdT} {o:List Xi} {y:ArT} {C:Nat} (r:C<2 ^ a.2.1.length) (u:y∈mn g.2 x) (hi:aP ((mn g.2 x).map Cr) (i:Int)=some (Cr y)) (j:ix e y.1.2=some y.2.1) :
  aq (jt a (C:Int) ((mn g.2 x).map Cr) (o,(i:Int)) e) aT (0,0)=some (.brk ((afS a y.2.1.toNat C a.2.1.length:Int),(a.2.1.length:Int))):=by
 obtain ⟨A,z⟩:=(Cg G u).1
 have:=aO (f:=jt a (C:Int) ((mn g.2 x).map Cr) (o,(i:Int)) e) (fun q=>((afS a y.2.1.toNat C q:Int),(q:Int))) a.2.1.length (fun q w=>by
  unfold jt;simp only;have j:ix (e.1,e.2.1,e.2.2.1,e.2.2.2) (Cr y).2=some y.2.1:=j;have p:y.2.1=((y.2.1.toNat:Nat):Int):=by omega
  have m:=V.get2 (s:=(q:Int)) (k:=y.2.1.toNat) (by omega) (by omega) (by omega);rw[<-p] at m;have l:=P2 V (k:=y.2.1.toNat) (C:=C) (by omega) q (by omega);have d:C<2 ^ 62:=aD r (p62 (by omega));have n:=(V.mv (s:=(q:Int)) (k:=y.2.1.toNat) (by omega) (by omega) (by omega)).2;rw[if_pos (by simp;omega),V.get (by omega) (by omega)];simp only[aa];rw[hi];simp only[aa];rw[j];simp only[aa];rw[m];simp only[aa];rw[lu (by omega),Cc d (by omega),af (by omega),afS];simp only[aa];by_cases b:C.testBit q=true
  ·rw[if_pos b];by_cases c:0<=D.mv a (q:Int) y.2.1.toNat
   ·obtain ⟨t,v⟩: ∃t:Nat,D.mv a (q:Int) y.2.1.toNat=(t:Int):=⟨_,(Int.toNat_of_nonneg c).symm⟩;rw[if_pos (by simpa using c),if_pos ⟨b,c⟩,lu c,v,yF (by omega),KM (aD l (p62 (by omega))) (Nat.pow_lt_pow_right (by decide) (by omega))];rfl
   ·rw[if_neg (by simpa using c),if_neg (fun h=>c h.2)];rfl
  ·rw[if_neg b,if_neg (fun h=>b h.1)];rfl) (by unfold jt;simp) (kz (by omega))
 exact this
theorem abc {x:Nat} {i:Nat} {e:EdT} {o:List Xi} {y:ArT} {m:Nat} (h:m<2 ^ a.2.1.length) (l:o.length<=100000) (hi:aP ((mn g.2 x).map Cr) (i:Int)=some (Cr y)) (d:pa e y.1.2=some y.2.2) {z:Int} :
  aq (ju a ((mn g.2 x).map Cr) (o,(i:Int)) e ((m:Int),z)) aT (o,0)=some (.brk (o++(fF m 30).map (fun t=>(y.1,y.2.2,t)),(a.2.1.length:Int))):=by
 have:=aO (f:=ju a ((mn g.2 x).map Cr) (o,(i:Int)) e ((m:Int),z)) (fun q=>(o++(fF m q).map (fun t=>(y.1,y.2.2,t)),(q:Int))) a.2.1.length (fun q k=>by
  unfold ju;simp only;have d:pa (e.1,e.2.1,e.2.2.1,e.2.2.2) (Cr y).2=some y.2.2:=d;have c:m<2 ^ 62:=aD h (p62 (by omega));have j:=nI m q;rw[if_pos (by simp;omega),lu (by omega),Cc c (by omega),af (by omega),jY];simp only[aa];by_cases b:m.testBit q=true
  ·rw[if_pos b,if_pos b,hi];simp only[aa];rw[d];simp only[aa];rw[ay (by simp;omega)];simp only[aa,aW,aC];rfl
  ·rw[if_neg b,if_neg b];rfl) (by unfold ju;simp) (kz (by omega))
 rw[ra h (show a.2.1.length<=30 by omega)];simpa [fF] using this
theorem Xk {x s:Nat} (v:x<g.1.length) (hs:s<a.2.1.length):nv g a x s=some (stV g a x s):=by
 have hv:=G.val _ (bT (xs:=g.1) (i:=(x:Int)) (by omega) (by omega));have h:=Cd V hn (s:=(s:Int)) ⟨by omega,by omega⟩ hv;have m:=Tn V hn (s:=(s:Int)) ⟨by omega,by omega⟩ hv;unfold nv;rw[au (by omega) (by omega)];simp only[aa];have h:c7 (a.1,a.2.1,a.2.2) (s:Int) (nth g.1 (x:Int))=_:=h;have t:qF (g.1,g.2) (x:Int)=_:=ZF G;rw[h,t];simp only[aa];generalize p:cS a (s:Int) (nth g.1 (x:Int))=C at m;have I:=uk g.2 x;have J:=G.m
 have:=aO (f:=jv g a (C:Int) ((mn g.2 x).map Cr)) (fun i=>(((mn g.2 x).take i).flatMap (stA g a x s),(i:Int))) (mn g.2 x).length (fun i l=>by
  unfold jv;simp only;have d:=List.getElem_mem l;generalize c:(mn g.2 x)[i] =y at d;have b:aP ((mn g.2 x).map Cr) (i:Int)=some (Cr y):=by rw[aI (by simpa using l)];simp[c]
  obtain ⟨j,e,n,w,D,r⟩:=Tp G d;obtain ⟨H,F⟩:=(Cg G d).1;rw[if_pos (by simp;omega),b];simp only[aa];have n:dw (g.1,g.2) (Cr y).1=_:=n;rw[n];simp only[aa];rw[w];simp only[aa];rw[ah (abb G V hn m d b D)];have o:=P2 V (k:=y.2.1.toNat) (C:=C) (by omega) a.2.1.length (aL _);have u:=tJ (f:=stA g a x s) (B:=30) (xs:=(mn g.2 x).take i) fun z E=>Xj G V hn v hs (List.mem_of_mem_take E);have q:((mn g.2 x).take i).length<=24:=by rw[aB];omega
  rw[ah (abc G V hn o (by omega) b r),af (by omega)];congr 3;have A:(mn g.2 x).take (i+1)=(mn g.2 x).take i++ [y]:=by rw[List.take_add_one];simp[l,c]
  rw[A,List.flatMap_append];congr 1;simp only[List.flatMap_cons,List.flatMap_nil,List.append_nil];unfold stA behind;rw[p,ra m (show a.2.1.length<=30 by omega),Jc]) (by unfold jv;simp) (kz (by omega))
 rw[List.take_length] at this;have this:aq (jv g a (C:Int) ((mn g.2 x).map Cr)) aT (([] :List Xi),0)=_:=this;rw[ah this];rfl
end
abbrev BfT:=List Int×List Int
def UU (d:Int) (s:BfT) (x:Int):BfT:=if nth s.1 x<0 then (s.1.set x.toNat d,s.2++ [x]) else s
def DT (d:Int) (s:BfT) (xs:List Int):BfT:=xs.foldl (UU d) s
theorem Hv (d:Int) (s:BfT) (xs:List Int) (x:Int):DT d s (xs++ [x])=UU d (DT d s xs) x:=by simp[DT]
structure BI (N:Nat) (s:BfT):Prop where
 len:s.1.length=N
 nd:s.2.Nodup
 rng: ∀x∈s.2,0<=x/\x<N
 seen: ∀x:Int,0<=x->x<N->(nth s.1 x<0↔x∉s.2)
 top: ∀x:Int,0<=x->x<N-> -1<=nth s.1 x/\nth s.1 x<s.2.length
theorem BI.le {N:Nat} {s:BfT} (h:BI N s):s.2.length<=N:=by
 have:=h.nd.length_le_of_subset (l₂:=(List.range N).map fun i:Nat=>(i:Int)) (fun x a=>by
  obtain ⟨c,b⟩:=h.rng x a;exact List.mem_map.2 ⟨x.toNat,List.mem_range.2 (by omega),by omega⟩)
 simpa using this
theorem BI.one {N:Nat} {s:BfT} (h:BI N s) {d x:Int} (c:0<=x/\x<N) (n:0<=d/\d<=s.2.length):BI N (UU d s x)/\s.2 <+:(UU d s x).2/\ ∀y,0<=y->0<=nth s.1 y->nth (UU d s x).1 y=nth s.1 y:=by
 unfold UU;split
 ·rename_i l;have g:=(h.seen x c.1 c.2).1 l;refine ⟨⟨by simp[h.len],?_,?_,?_,?_⟩,List.prefix_append _ _,?_⟩
  ·exact List.nodup_append.2 ⟨h.nd,by simp,by rintro a m b k rfl;simp at k;exact g (k ▸ m)⟩
  ·intro y i;rcases aG i with i | i
   ·exact h.rng y i
   ·obtain rfl:y=x:=by simpa using i
    exact c
  ·intro y f j;by_cases e:x=y
   ·subst e;rw[pX c.1 (by rw[h.len];exact c.2)];simp;omega
   ·rw[uh c.1 f e,h.seen y f j];simp;omega
  ·intro y f j;by_cases e:x=y
   ·subst e;rw[pX c.1 (by rw[h.len];exact c.2)];simp;omega
   ·rw[uh c.1 f e]
    have:=h.top y f j
    simp;omega
  ·intro y f j;refine uh c.1 f ?_;rintro rfl;omega
 ·exact ⟨h,List.prefix_refl _,fun y _ _=>rfl⟩
theorem BI.all {N:Nat} {d:Int} : ∀ {xs:List Int} {s:BfT},BI N s->(∀x∈xs,0<=x/\x<N)->(0<=d/\d<=s.2.length)->BI N (DT d s xs)/\s.2 <+:(DT d s xs).2/\ ∀y,0<=y->0<=nth s.1 y->nth (DT d s xs).1 y=nth s.1 y
 | [],s,h,_,_=>⟨h,List.prefix_refl _,fun _ _ _=>rfl⟩
 | x::xs,s,h,hx,hd=>by
  obtain ⟨j,b,k⟩:=h.one (hx x (by simp)) hd;have l:=b.length_le;obtain ⟨g,i,f⟩:=BI.all (xs:=xs) j (fun y a=>hx y (by simp[a])) ⟨hd.1,by omega⟩;refine ⟨g,b.trans i,fun y c a=>?_⟩;have e:=k y c a;exact (f y c (by rw[e];exact a)).trans e
def bsS (nx:Int->List Int) (N:Nat) (v:Int):Nat->BfT
 | 0=>((List.replicate N (-1)).set v.toNat 0,[v])
 | i+1=>match (bsS nx N v i).2[i]? with
  | some x=>DT (nth (bsS nx N v i).1 x+1) (bsS nx N v i) (nx x)
  | none=>bsS nx N v i
section
variable {nx:Int->List Int} {N:Nat} {v:Int} (hv:0<=v/\v<N) (hn: ∀x:Int,0<=x->x<N-> ∀y∈nx x,0<=y/\y<N)
include hv
theorem Xl {x:Int} (a:0<=x) (h1:x<N):nth (List.replicate N (-1:Int)) x= -1:=by
 have:x.toNat<N:=by omega
 simp[nth,List.getD_eq_getElem?_getD,List.getElem?_replicate,this]
theorem BI.zero:BI N (bsS nx N v 0):=by
 refine ⟨by simp[bsS],by simp[bsS],fun x c=>?_,fun x a b=>?_,fun x a b=>?_⟩
 ·obtain rfl:x=v:=by simpa [bsS] using c
  exact hv
 all_goals
  unfold bsS;by_cases e:v=x
  ·subst e;rw[pX hv.1 (by simpa using hv.2)];simp
  ·rw[uh hv.1 a e,Xl hv a b]
   first | omega | (simp;omega) | simp
include hn
theorem Fh {i:Nat} (h:BI N (bsS nx N v i)):BI N (bsS nx N v (i+1))/\(bsS nx N v i).2 <+:(bsS nx N v (i+1)).2:=by
 rw[bsS];split
 ·rename_i x j;have e:=List.mem_of_getElem? j;obtain ⟨b,a⟩:=h.rng x e;have hp: ¬nth (bsS nx N v i).1 x<0:=fun c=>(h.seen x b a).1 c e;have k:=h.top x b a;obtain ⟨f,g,_⟩:=h.all (xs:=nx x) (d:=nth (bsS nx N v i).1 x+1) (hn x b a) ⟨by omega,by omega⟩;exact ⟨f,g⟩
 ·exact ⟨h,List.prefix_refl _⟩
theorem Ci: ∀i,BI N (bsS nx N v i)
 | 0=>BI.zero hv
 | i+1=>(Fh hv hn (Ci i)).1
theorem P6: ∃K,K<=N/\K=(bsS nx N v K).2.length/\ ∀i,i<K->i<(bsS nx N v i).2.length:=by
 have key: ∀m i,i+m=N->(∀j,j<i->j<(bsS nx N v j).2.length)-> ∃K,K<=N/\K=(bsS nx N v K).2.length/\ ∀i,i<K->i<(bsS nx N v i).2.length:=by
  have b: ∀i,(∀j,j<i->j<(bsS nx N v j).2.length)->i<=(bsS nx N v i).2.length:=by
   intro i a;cases i with
   | zero=>omega
   | succ i =>
    have:=a i (by omega)
    have hp:=(Fh hv hn (Ci hv hn i)).2.length_le;omega
  intro m;induction m with
  | zero =>
   intro i c a;have g:=(Ci hv hn i).le;have f:=b i a;exact ⟨i,by omega,by omega,a⟩
  | succ m ih =>
   intro i c a;by_cases h:i<(bsS nx N v i).2.length
   ·exact ih (i+1) (by omega) fun j d=>by
     by_cases e:j=i
     ·subst e;exact h
     ·exact a j (by omega)
   ·have f:=b i a;exact ⟨i,by omega,by omega,a⟩
 exact key N 0 (by omega) (by omega)
end
theorem Xm:(List.range 61).all (fun N=>decide (cD [-1] (N:Int)=some (List.replicate N (-1))))=true:=by kernel_rfl
theorem abd {N:Nat} (h:N<=60):cD [-1] (N:Int)=some (List.replicate N (-1)):=
 of_decide_eq_true (List.all_eq_true.1 Xm N (List.mem_range.2 (by omega)))
theorem Tq {α:Type} {xs:List α} {i:Nat} {x:α} (h:i<=xs.length):(xs++ [x]).drop i=xs.drop i++ [x]:=List.drop_append_of_le_length h
theorem DU {α:Type} {xs:List α} {i:Nat} {x:α} (h:xs[i]? =some x):aP (xs.drop i) 0=some x:=by
 unfold aP;rw[if_pos (by decide)];simpa using h
section
variable {nx:Int->List Int} {N:Nat} {v:Int} (hN:N<=60) (hv:0<=v/\v<N) (hn: ∀x:Int,0<=x->x<N-> ∀y∈nx x,0<=y/\y<N) (hl: ∀x,(nx x).length<=100000)
include hN hv hn hl
theorem Xn {i:Nat} {x:Int} (g:(bsS nx N v i).2[i]? =some x) (j:Nat) :
  BI N (DT (nth (bsS nx N v i).1 x+1) (bsS nx N v i) ((nx x).take j))/\(DT (nth (bsS nx N v i).1 x+1) (bsS nx N v i) ((nx x).take j)).2[i]? =some x/\nth (DT (nth (bsS nx N v i).1 x+1) (bsS nx N v i) ((nx x).take j)).1 x=nth (bsS nx N v i).1 x/\(0<=x/\x<N)/\(0<=nth (bsS nx N v i).1 x/\nth (bsS nx N v i).1 x<60)/\i<(DT (nth (bsS nx N v i).1 x+1) (bsS nx N v i) ((nx x).take j)).2.length:=by
 have h:=Ci hv hn i;have k:=List.mem_of_getElem? g;obtain ⟨a,b⟩:=h.rng x k;have hp: ¬nth (bsS nx N v i).1 x<0:=fun c=>(h.seen x a b).1 c k;have r:=h.top x a b;have n:=h.le;obtain ⟨m,q,l⟩:=h.all (xs:=(nx x).take j) (d:=nth (bsS nx N v i).1 x+1) (fun y p=>hn x a b y (List.mem_of_mem_take p)) ⟨by omega,by omega⟩;obtain ⟨t,f⟩:=q;have o:=(List.getElem?_eq_some_iff.1 g).1;have e:(DT (nth (bsS nx N v i).1 x+1) (bsS nx N v i) ((nx x).take j)).2[i]? =some x:=by
  rw[<-f,List.getElem?_append_left o,g]
 exact ⟨m,e,l x a (by omega),⟨a,b⟩,⟨by omega,by omega⟩,(List.getElem?_eq_some_iff.1 e).1⟩
theorem abe {i:Nat} {x:Int} (k:(bsS nx N v i).2[i]? =some x) :
  aq (lQ (nx x)) aT ((bsS nx N v i).2.drop i,0,(bsS nx N v i).1)=some (.brk ((bsS nx N v (i+1)).2.drop i,((nx x).length:Int),(bsS nx N v (i+1)).1)):=by
 have:=aO (f:=lQ (nx x)) (fun j=>((DT (nth (bsS nx N v i).1 x+1) (bsS nx N v i) ((nx x).take j)).2.drop i,(j:Int),(DT (nth (bsS nx N v i).1 x+1) (bsS nx N v i) ((nx x).take j)).1)) (nx x).length (fun j n=>by
  have p:=hl x;obtain ⟨a,h,b,⟨d,o⟩,r,l⟩:=Xn hN hv hn hl k j;have q:=hn x d o _ (bT (xs:=nx x) (i:=(j:Int)) (by omega) (by omega));unfold lQ;simp only;rw[vV n,Hv];generalize DT (nth (bsS nx N v i).1 x+1) (bsS nx N v i) ((nx x).take j)=s at a h b l;have m:=a.le;have g:=a.len;rw[if_pos (by simp;omega),au (by omega) (by omega)];simp only[aa];rw[au (xs:=s.1) q.1 (by omega)];simp only[aa];rw[DU h];simp only[aa];rw[au (xs:=s.1) d (by omega)];simp only[aa];rw[ay (by simp;omega),af (by omega),b,bA (by omega) (by omega)];unfold UU;by_cases c:nth s.1 (nth (nx x) (j:Int))<0
  ·rw[if_pos (by simpa using c),if_pos c,Tq (by omega)];rfl
  ·rw[if_neg (by simpa using c),if_neg c];rfl) (by unfold lQ;simp) (kz (by have:=hl x;omega))
 rw[List.take_length] at this;have e:bsS nx N v (i+1)=DT (nth (bsS nx N v i).1 x+1) (bsS nx N v i) (nx x):=by rw[bsS,k]
 rw[e];exact this
theorem Ts {K:Nat} (q:K<=N) (o:K=(bsS nx N v K).2.length) (d: ∀i,i<K->i<(bsS nx N v i).2.length):ub (rm N fun z=>nx (z:Int)) [v] =some (bsS nx N v K).1:=by
 unfold ub;rw[Ce,abd hN];simp only[aa];have c:aq (lP [v]) aT (([] :List Int),0,List.replicate N (-1))=some (.brk ([v],1,(bsS nx N v 0).1)):=by
  have:=aO (f:=lP [v]) (fun j=>if j=0 then (([] :List Int),(0:Int),List.replicate N (-1:Int)) else ([v],1,(bsS nx N v 0).1)) 1 (fun j n=>by
   obtain rfl:j=0:=by omega
   unfold lP;simp only[if_true];rw[if_pos (by simp),show aP [v] 0=some v from rfl];simp only[aa];rw[au (xs:=List.replicate N (-1)) hv.1 (by simpa using hv.2)];simp only[aa];rw[ay (by simp)];rfl) (by unfold lP;simp) (by unfold aT;omega)
  exact this
 rw[ah c]
 have:=aO (f:=lR (rm N fun z=>nx (z:Int))) (fun i=>((bsS nx N v i).2.drop i,(bsS nx N v i).1)) K (fun i e=>by
  have a:=d i e;obtain ⟨x,b⟩: ∃x,(bsS nx N v i).2[i]? =some x:=⟨_,List.getElem?_eq_getElem a⟩;obtain ⟨l,r,h,⟨g,p⟩,m,k⟩:=Xn hN hv hn hl b 0;unfold lR;simp only;rw[if_pos (by simp;omega),DU b];simp only[aa];obtain ⟨z,rfl⟩: ∃z:Nat,x=(z:Int):=⟨_,(Int.toNat_of_nonneg g).symm⟩;rw[Cf (by omega)];simp only[aa];rw[ah (abe hN hv hn hl b)];have hp:=(Fh hv hn (Ci hv hn i)).2.length_le;rw[lu (by simp;omega)];simp only[aa];rw[List.drop_drop]) (by
  unfold lR;rw[if_neg (by simp;omega)]) (kz (by omega))
 have this:aq (lR (rm N fun z=>nx (z:Int))) aT ([v],(bsS nx N v 0).1)=_:=this;rw[ah this]
end
theorem Fi {n:Nat} {r:List Int} :(∀t∈r,-1<=t/\t<=(n:Int) - 1)↔ ∀t∈r,-1<=t/\t<(n:Int):=forall_congr' fun t=>forall_congr' fun _=>and_congr Iff.rfl (by omega)
theorem ZH (a:AutT) (h1:a.2.1.length<=9223372036854775807) (n:a.2.2.length<=9223372036854775807): ∃b,o9 a=some b/\(b=true↔VA a a.2.1.length):=by
 unfold o9;rw[E5];simp only[aa,nF h1];by_cases g:0<=a.1/\a.1<=(a.2.1.length:Int) - 1
 case neg=>exact ⟨false,by rw[if_neg (by simpa using g)],by simp;exact fun h=>g ⟨h.start.1,by have:=h.start.2;omega⟩⟩
 rw[if_pos (by simpa using g)];by_cases m:a.2.2.length=a.2.1.length
 case neg=>exact ⟨false,by rw[if_pos (by simp;omega)],by simp;exact fun h=>m h.nlen⟩
 rw[if_neg (by simp;omega)];have inner: ∀i:Nat,i<a.2.2.length->(nth a.2.2 i).length=9->(aq (iK a i) aT 0=some (.brk 9)/\ ∀t∈nth a.2.2 (i:Int),-1<=t/\t<=(a.2.1.length:Int) - 1)\/(aq (iK a i) aT 0=some (.ret false)/\ ¬ ∀t∈nth a.2.2 (i:Int),-1<=t/\t<=(a.2.1.length:Int) - 1):=by
  intro i l d
  have:=scan (f:=iK a i) (nth a.2.2 (i:Int)) (fun t=> -1<=t/\t<=(a.2.1.length:Int) - 1) false (by omega) (fun j o=>by
   unfold iK;rw[if_pos (by simp;omega),au (by omega) (by omega)];simp only[aa];rw[au (by omega) (by omega)];simp only[aa,nF h1];rw[E5];simp only[aa,af (show j<9223372036854775807 by omega)];by_cases c: -1<=nth (nth a.2.2 (i:Int)) (j:Int)/\nth (nth a.2.2 (i:Int)) (j:Int)<=(a.2.1.length:Int) - 1
   ·rw[if_pos (by simpa using c),if_pos c]
   ·rw[if_neg (by simpa using c),if_neg c]) (by unfold iK;rw[if_neg (by simp[d])])
  rwa [d] at this
 have outer:=scan (f:=nf a) a.2.2 (fun r=>r.length=9/\ ∀t∈r,-1<=t/\t<=(a.2.1.length:Int) - 1) false n (fun i l=>by
  unfold nf;rw[if_pos (by simp;omega),au (by omega) (by omega)];simp only[aa];by_cases c:(nth a.2.2 (i:Int)).length=9
  ·rw[if_neg (by simp;omega)];rcases inner i l c with ⟨e,k⟩ | ⟨e,k⟩
   ·rw[ah e,if_pos ⟨c,k⟩,af (show i<9223372036854775807 by omega)]
   ·rw[bg e,if_neg (fun h=>k h.2)]
  ·rw[if_pos (by simp;omega),if_neg (fun h=>c h.1)]) (by unfold nf;rw[if_neg (by simp;omega)])
 rcases outer with ⟨e,k⟩ | ⟨e,k⟩
 ·exact ⟨true,by rw[ah e],by simp;exact ⟨rfl,⟨g.1,by omega⟩,m,fun r d=>(k r d).1,fun r d=>Fi.1 (k r d).2⟩⟩
 ·exact ⟨false,by rw[bg e],by simp;exact fun h=>k fun r d=>⟨h.row r d,Fi.2 (h.ent r d)⟩⟩
theorem P7 (a:AutT) (h1:a.2.1.length<=9223372036854775807) (f:a.2.2.length<=9223372036854775807): ∃b,cR a=some b/\(b=true↔a.2.1.length<=12/\VA a a.2.1.length):=by
 unfold cR;by_cases c:a.2.1.length<=12
 ·rw[if_pos (by simp;omega)];obtain ⟨b,e,d⟩:=ZH a h1 f;exact ⟨b,by show (o9 a).bind _=_;rw[e];rfl,by rw[d];simp[c]⟩
 ·exact ⟨false,by rw[if_neg (by simp;omega)],by simp;exact fun h=>absurd h c⟩
theorem Xo (a:AutT) (h1:a.2.1.length<=9223372036854775807) (p:a.2.2.length<=9223372036854775807) (n: ∀r∈a.2.2,r.length<=9223372036854775807): ∃b,cr a=some b/\(b=true↔a.2.1.length<=12/\VA a a.2.1.length):=by
 unfold cr;rw[I0];simp only[aa,nF h1];by_cases l:1<=(a.2.1.length:Int)/\(a.2.1.length:Int)<=12
 case neg=>exact ⟨false,by rw[if_neg (by simpa using l)],by simp;exact fun h o=>l ⟨by have:=o.start;omega,by omega⟩⟩
 rw[if_pos (by simpa using l),I0];simp only[aa];by_cases g:0<=a.1/\a.1<=(a.2.1.length:Int) - 1
 case neg=>exact ⟨false,by rw[if_neg (by simpa using g)],by simp;exact fun _ h=>g ⟨h.start.1,by have:=h.start.2;omega⟩⟩
 rw[if_pos (by simpa using g)];by_cases m:a.2.2.length=a.2.1.length
 case neg=>exact ⟨false,by rw[if_pos (by simp;omega)],by simp;exact fun _ h=>m h.nlen⟩
 rw[if_neg (by simp;omega)];have inner: ∀x:List Int,x.length<=9223372036854775807->(aq (cK a x) aT 0=some (.brk (x.length:Int))/\ ∀t∈x,-1<=t/\t<=(a.2.1.length:Int) - 1)\/(aq (cK a x) aT 0=some (.ret false)/\ ¬ ∀t∈x,-1<=t/\t<=(a.2.1.length:Int) - 1):=by
  intro x q;refine scan (f:=cK a x) x (fun t=> -1<=t/\t<=(a.2.1.length:Int) - 1) false q (fun j s=>?_) (by unfold cK;rw[if_neg (by simp)]);unfold cK;rw[if_pos (by simp;omega),au (by omega) (by omega)];simp only[aa,nF h1];rw[I0];simp only[aa,af (show j<9223372036854775807 by omega)];by_cases c: -1<=nth x (j:Int)/\nth x (j:Int)<=(a.2.1.length:Int) - 1
  ·rw[if_pos (by simpa using c),if_pos c]
  ·rw[if_neg (by simpa using c),if_neg c]
 have outer:=scan (f:=fa a) a.2.2 (fun r=>(∀t∈r,-1<=t/\t<=(a.2.1.length:Int) - 1)/\r.length=9) false p (fun i u=>by
  unfold fa;rw[if_pos (by simp;omega),au (by omega) (by omega)];simp only[aa];rcases inner (nth a.2.2 (i:Int)) (n _ (bT (by omega) (by omega))) with ⟨e,k⟩ | ⟨e,k⟩
  ·rw[ah e];by_cases c:(nth a.2.2 (i:Int)).length=9
   ·rw[if_neg (by simp;omega),if_pos ⟨k,c⟩,af (show i<9223372036854775807 by omega)]
   ·rw[if_pos (by simp;omega),if_neg (fun h=>c h.2)]
  ·rw[bg e,if_neg (fun h=>k h.1)]) (by unfold fa;rw[if_neg (by simp)])
 rcases outer with ⟨e,k⟩ | ⟨e,k⟩
 ·exact ⟨true,by rw[ah e],by simp;exact ⟨by omega,rfl,⟨g.1,by omega⟩,m,fun r d=>(k r d).2,fun r d=>Fi.1 (k r d).1⟩⟩
 ·exact ⟨false,by rw[bg e],by simp;exact fun _ h=>k fun r d=>⟨Fi.2 (h.ent r d),h.row r d⟩⟩
theorem mg (g:GrT):a6 g=a7 g:=by
 have b:oS g=fq g:=rfl;have a:kO g=dK g:=by
  funext s;unfold kO dK;split
  ·cases c:aP g.2 s with
   | none=>rfl
   | some x=>rfl
  ·rfl
 unfold a6 a7;rw[b,a];rfl
def GOOD (g:GrT) (a:AutT):Prop:=GOk g/\a.2.1.length<=12/\VA a a.2.1.length
theorem P8 (g:GrT) (a:AutT) (f:Data.sm g) (h:Data.sm a): ∃b c,a6 g=some b/\a7 g=some b/\cR a=some c/\cr a=some c/\(b=true↔Zz g)/\(c=true↔a.2.1.length<=12/\VA a a.2.1.length):=by
 obtain ⟨b,e,j⟩:=rK g (bd f.1).1 (bd f.2).1;have p:=(bd h.2.1).1;have k:=bd h.2.2;obtain ⟨c,i,l⟩:=Xo a (by omega) (by omega) (fun r m=>by have:=(bd (k.2 r m)).1;omega);obtain ⟨d,n,q⟩:=P7 a (by omega) (by omega);have o:d=c:=by
  cases c <;> cases d <;> simp_all
 subst o;exact ⟨b,d,by rw[mg,e],e,n,i,j,l⟩
theorem Xp (g:GrT) (a:AutT) (l:Data.sm g) (f:Data.sm a): ∃b c,a6 g=some b/\a7 g=some b/\cR a=some c/\cr a=some c/\(b=true->GOk g)/\(c=true->a.2.1.length<=12/\VA a a.2.1.length):=by
 obtain ⟨b,c,j,i,k,d,m,e⟩:=P8 g a l f;exact ⟨b,c,j,i,k,d,fun h=>(m.1 h).1,e.1⟩
theorem Tt (g:GrT) (a:AutT) (q:Data.sm g) (r:Data.sm a) (x:Int): ∃b,gq g a x 0=some b/\cY g a [x] =some b/\(b=true↔(Zz g/\GOOD g a)/\0<=x/\x<g.1.length):=by
 obtain ⟨b,c,n,m,p,j,l,e⟩:=P8 g a q r;have B:=(bd q.1).1;have v:=(bd r.2.1).1;have t:i64.wrap ((g.1.length:Int) - 1)=(g.1.length:Int) - 1:=bA (by omega) (by omega);have o:i64.wrap ((a.2.1.length:Int) - 1)=(a.2.1.length:Int) - 1:=bA (by omega) (by omega);have w:gq g a x 0=some (b&&(c&&(decide (0<=x/\x<=(g.1.length:Int) - 1)))):=by
  unfold gq;have n:a6 (g.1,g.2)=_:=n;have p:cR (a.1,a.2.1,a.2.2)=_:=p;rw[n,p,E5,E5,t,o];simp only[aa];cases b <;> cases c <;> simp only[Bool.false_eq_true,if_false,if_true,Bool.false_and,Bool.true_and]
  by_cases h:0<=x/\x<=(g.1.length:Int) - 1
  ·have:=(e.1 rfl).2.start
   simp only[h,and_self,decide_true,if_true];rw[decide_eq_true (by omega)]
  ·rw[decide_eq_false h];rfl
 have z:cY g a [x] =some (b&&(c&&(decide (0<=x/\x<=(g.1.length:Int) - 1)))):=by
  unfold cY;have m:a7 (g.1,g.2)=_:=m;have j:cr (a.1,a.2.1,a.2.2)=_:=j;rcases MB (f:=dX g [x]) 1 (fun _=>0<=x/\x<=(g.1.length:Int) - 1) false (by decide) (fun i A=>by
   obtain rfl:i=0:=by omega
   unfold dX;rw[if_pos (by simp),show aP [x] ((0:Nat):Int)=some x from rfl];simp only[aa];rw[I0,t];simp only[aa,decide_eq_true_eq];split <;> rfl) (by unfold dX;simp) with ⟨k,h⟩ | ⟨k,h⟩
  ·rw[ah k,m,j];simp only[aa];rw[decide_eq_true (h 0 (by decide))];cases b <;> cases c <;> rfl
  ·rw[bg k,decide_eq_false (fun c=>h fun _ _=>c)];cases b <;> cases c <;> rfl
 refine ⟨_,w,z,fun d=>?_,fun d=>?_⟩
 ·simp only[aj,decide_eq_true_eq] at d;obtain ⟨s,u,y⟩:=d;exact ⟨⟨l.1 s,(l.1 s).1,(e.1 u).1,(e.1 u).2⟩,y.1,by omega⟩
 ·simp only[aj,decide_eq_true_eq];exact ⟨l.2 d.1.1,e.2 d.1.2.2,d.2.1,by have:=d.2.2;omega⟩
theorem P9 (g:GrT) (a:AutT) (i:Data.sm g) (d:Data.sm a) (x:Int): ∃b,gq g a x 0=some b/\cY g a [x] =some b/\(b=true->GOOD g a/\0<=x/\x<g.1.length):=by
 obtain ⟨b,f,e,c⟩:=Tt g a i d x;exact ⟨b,f,e,fun h=>⟨(c.1 h).1.2,(c.1 h).2⟩⟩
def nxC (g:GrT) (a:AutT) (z:Int):List Int:=nbC g a z.toNat
section
variable {g:GrT} {a:AutT} (H:GOOD g a)
include H
theorem GOOD.divmod {x:Int} (b:0<=x) (h1:x<(a.2.1.length*g.1.length:Nat)):x.toNat / a.2.1.length<g.1.length/\x.toNat % a.2.1.length<a.2.1.length:=by
 have hp:=H.2.2.pos;simp_all[Nat.div_lt_iff_lt_mul,Nat.mul_comm,Nat.mod_lt]
theorem ZI (x:Int) (d:0<=x) (h1:x<(a.2.1.length*g.1.length:Nat)): ∀y∈nxC g a x,0<=y/\y<(a.2.1.length*g.1.length:Nat):=by
 have ⟨b,c⟩:=H.divmod d h1;exact ZD H.1 H.2.2 H.2.1 b c
theorem Xq {x:Int} (e:0<=x) (h1:x<(a.2.1.length*g.1.length:Nat)):(nxC g a x).length<=720:=by
 have ⟨b,d⟩:=H.divmod e h1
 have:=tJ (f:=nbA g a (x.toNat / a.2.1.length) (x.toNat % a.2.1.length)) (B:=30) (xs:=mn g.2 (x.toNat / a.2.1.length)) fun y c=>P5 H.1 H.2.2 H.2.1 b d c
 have h:=uk g.2 (x.toNat / a.2.1.length)
 have:=H.1.m
 show (nbV g a _ _).length<=720;unfold nbV;omega
end
def nxN (g:GrT) (a:AutT) (z:Int):List Int:=if 0<=z/\z<(a.2.1.length*g.1.length:Nat) then nxC g a z else []
section
variable {g:GrT} {a:AutT} (H:GOOD g a)
include H
theorem xy: ∀x:Int,0<=x->x<(a.2.1.length*g.1.length:Nat)-> ∀y∈nxN g a x,0<=y/\y<(a.2.1.length*g.1.length:Nat):=fun x c b=>by
 unfold nxN;rw[if_pos ⟨c,b⟩];exact ZI H x c b
theorem Jd (x:Int):(nxN g a x).length<=720:=by
 grind[nxN,Xq]
theorem Xr:fP g a=some (rm (a.2.1.length*g.1.length) fun z=>nxN g a (z:Int)):=by
 rw[Xh H.1 H.2.2 H.2.1];congr 1;refine oz fun z b=>?_;unfold nxN;rw[if_pos ⟨by omega,by omega⟩];rfl
theorem Tu {x:Int} (b:0<=x) (h1:x<(a.2.1.length*g.1.length:Nat)): ∃l:List Xi,nv g a (FD x (a.2.1.length:Int)) (Int.tmod x (a.2.1.length:Int))=some l/\l.map (fun p=>p.2.1*(a.2.1.length:Int)+p.2.2)=nxN g a x/\ ∀p∈l,(0<=p.2.1/\p.2.1<60)/\0<=p.2.2/\p.2.2<60:=by
 have ⟨c,h⟩:=H.divmod b h1;have e:FD x (a.2.1.length:Int)=((x.toNat / a.2.1.length:Nat):Int):=by
  unfold FD
  have:x.tdiv (a.2.1.length:Int)=((x.toNat / a.2.1.length:Nat):Int):=by
   rw[Int.tdiv_eq_ediv_of_nonneg b];rw[show x / (a.2.1.length:Int)=((x.toNat:Nat):Int) / (a.2.1.length:Int) from by grind];simp
  rw[this,xh (by have:=H.1.n5;omega)]
 have f:Int.tmod x (a.2.1.length:Int)=((x.toNat % a.2.1.length:Nat):Int):=by
  rw[Int.tmod_eq_emod_of_nonneg b];rw[show x % (a.2.1.length:Int)=((x.toNat:Nat):Int) % (a.2.1.length:Int) from by grind];simp
 refine ⟨_,by rw[e,f];exact Xk H.1 H.2.2 H.2.1 c h,?_,fun p hp=>?_⟩
 ·rw[ZG];unfold nxN;rw[if_pos ⟨b,h1⟩];rfl
 ·have ⟨y,d,hp⟩:=List.mem_flatMap.1 hp;obtain ⟨t,j,rfl⟩:=List.mem_map.1 hp;have k:=(Cg H.1 d).2;have m:=(xx H.1 H.2.2 H.2.1 (s:=((x.toNat % a.2.1.length:Nat):Int)) ⟨by omega,by omega⟩ (H.1.val _ (bT (xs:=g.1) (i:=((x.toNat / a.2.1.length:Nat):Int)) (Int.natCast_nonneg _) (Int.ofNat_lt.2 c))) (Cg H.1 d).1).1 t j
  have:=H.1.n5
  have:=H.2.1
  grind
end
def RKs (g:GrT) (a:AutT) (v:Int):List Int:=(bsS (nxN g a) (a.2.1.length*g.1.length) v (a.2.1.length*g.1.length)).1
theorem Fj {nx:Int->List Int} {N:Nat} {v:Int} (hv:0<=v/\v<N) (b: ∀x:Int,0<=x->x<N-> ∀y∈nx x,0<=y/\y<N) {K:Nat} (a:K=(bsS nx N v K).2.length): ∀d,bsS nx N v (K+d)=bsS nx N v K
 | 0=>rfl
 | d+1=>by
  have c:=Fj hv b a d;grind[Nat.add_assoc,bsS,List.getElem?_eq_none]
section
variable {g:GrT} {a:AutT} (H:GOOD g a) {x:Int} (hx:0<=x/\x<g.1.length)
include H hx
theorem UV:0<=x*(a.2.1.length:Int)+a.1/\x*(a.2.1.length:Int)+a.1<(a.2.1.length*g.1.length:Nat):=by
 obtain ⟨z,rfl⟩: ∃z:Nat,x=(z:Int):=⟨_,(Int.toNat_of_nonneg hx.1).symm⟩;have c:=H.2.2.start;have ⟨s,b⟩: ∃s:Nat,a.1=(s:Int):=⟨_,(Int.toNat_of_nonneg c.1).symm⟩
 have:=cN H.1 H.2.2 H.2.1 (x:=z) (s:=s) (by omega) (by omega)
 omega
theorem UW:i64.wrap ((i64.wrap (x*(a.2.1.length:Int)))+a.1)=x*(a.2.1.length:Int)+a.1:=by
 have h:=UV H hx;have c:=nN H.1 H.2.2 H.2.1;have d:=H.2.2.start;have b:=H.2.1;grind[bA]
theorem abf:BI (a.2.1.length*g.1.length) (bsS (nxN g a) (a.2.1.length*g.1.length) (x*(a.2.1.length:Int)+a.1) (a.2.1.length*g.1.length)):=Ci (UV H hx) (xy H) _
theorem Qa:(RKs g a (x*(a.2.1.length:Int)+a.1)).length=a.2.1.length*g.1.length:=(abf H hx).len
theorem ZJ (e:cY g a [x] =some true):gL g a x=some (RKs g a (x*(a.2.1.length:Int)+a.1)):=by
 unfold gL;have e:cY (g.1,g.2) (a.1,a.2.1,a.2.2) [x] =_:=e;rw[e];simp only[aa,if_true];have f:fP (g.1,g.2) (a.1,a.2.1,a.2.2)=_:=Xr H;rw[f];simp only[aa];have h:=nN H.1 H.2.2 H.2.1;obtain ⟨K,j,b,c⟩:=P6 (UV H hx) (xy H);rw[UW H hx,Ts h (UV H hx) (xy H) (fun x=>by have:=Jd H x;omega) j b c];simp only[aa];have i:bsS (nxN g a) (a.2.1.length*g.1.length) (x*(a.2.1.length:Int)+a.1) K=bsS (nxN g a) (a.2.1.length*g.1.length) (x*(a.2.1.length:Int)+a.1) (a.2.1.length*g.1.length):=by
  have:=Fj (UV H hx) (xy H) b (a.2.1.length*g.1.length - K)
  rw[show K+(a.2.1.length*g.1.length - K)=a.2.1.length*g.1.length from by omega] at this;exact this.symm
 have d:=Qa H hx;rw[i];show ((chk _).bind fun _=>_).bind _=_;have hv:=UV H hx;rw[lu (by rw[show (bsS _ _ _ _).1.length=_ from d];omega)];rfl
theorem abg {o1 o2:List Int} {i:Nat} {z:Int} {l:List Xi} (h:(bsS (nxN g a) (a.2.1.length*g.1.length) (x*(a.2.1.length:Int)+a.1) i).2[i]? =some z)
  (o:l.map (fun p=>p.2.1*(a.2.1.length:Int)+p.2.2)=nxN g a z) (hp: ∀p∈l,(0<=p.2.1/\p.2.1<60)/\0<=p.2.2/\p.2.2<60) :
  aq (jx a (o1,o2,(i:Int)) l) aT ((bsS (nxN g a) (a.2.1.length*g.1.length) (x*(a.2.1.length:Int)+a.1) i).1,(bsS (nxN g a) (a.2.1.length*g.1.length) (x*(a.2.1.length:Int)+a.1) i).2,0)=some (.brk ((bsS (nxN g a) (a.2.1.length*g.1.length) (x*(a.2.1.length:Int)+a.1) (i+1)).1,(bsS (nxN g a) (a.2.1.length*g.1.length) (x*(a.2.1.length:Int)+a.1) (i+1)).2,(l.length:Int))):=by
 have u:=nN H.1 H.2.2 H.2.1;have hv:=UV H hx;generalize F:x*(a.2.1.length:Int)+a.1=v at h hv⊢;have q:l.length<=720:=by have:=Jd H z;rw[<-o,List.length_map] at this;exact this
 have e:bsS (nxN g a) (a.2.1.length*g.1.length) v (i+1)=DT (nth (bsS (nxN g a) (a.2.1.length*g.1.length) v i).1 z+1) (bsS (nxN g a) (a.2.1.length*g.1.length) v i) (nxN g a z):=by rw[bsS,h]
 have:=aO (f:=jx a (o1,o2,(i:Int)) l) (fun j=>((DT (nth (bsS (nxN g a) (a.2.1.length*g.1.length) v i).1 z+1) (bsS (nxN g a) (a.2.1.length*g.1.length) v i) ((nxN g a z).take j)).1,(DT (nth (bsS (nxN g a) (a.2.1.length*g.1.length) v i).1 z+1) (bsS (nxN g a) (a.2.1.length*g.1.length) v i) ((nxN g a z).take j)).2,(j:Int))) l.length (fun j y=>by
  have ⟨b,C,k,⟨m,A⟩,G,r⟩:=Xn u hv (xy H) (fun x=>by grind[Jd]) h j;have d:j<(nxN g a z).length:=by rw[<-o,List.length_map];exact y
  have B:=xy H z m A _ (bT (xs:=nxN g a z) (i:=(j:Int)) (by omega) (by omega));have E:=hp _ (bT (xs:=l) (i:=(j:Int)) (by omega) (by omega));have c:nth (nxN g a z) (j:Int)=(nth l (j:Int)).2.1*(a.2.1.length:Int)+(nth l (j:Int)).2.2:=by grind[W0]
  unfold jx;simp only;rw[vV d,Hv];generalize DT (nth (bsS (nxN g a) (a.2.1.length*g.1.length) v i).1 z+1) (bsS (nxN g a) (a.2.1.length*g.1.length) v i) ((nxN g a z).take j)=s at b C k r;have w:=b.le;have t:=b.len;rw[if_pos (by grind),au (by omega) (by omega)];simp[aa];rw[bA (n:=(nth l (j:Int)).2.1*(a.2.1.length:Int)) (by omega) (by omega),<-c,bA (by omega) (by omega)];rw[au (xs:=s.1) B.1 (by omega)];rw[show aP s.2 (i:Int)=some z from by simp_all[aP,if_pos]];simp[aa];rw[au (xs:=s.1) m (by omega)];simp[aa];rw[ay (by grind),af (by omega),k,bA (by omega) (by omega)];unfold UU;grind) (by unfold jx;simp) (kz (by omega))
 have D:(nxN g a z).take l.length=nxN g a z:=by
  have:l.length=(nxN g a z).length:=by grind
  grind
 rw[D] at this;rw[e];exact this
theorem Xs:nw g a x=some (RKs g a (x*(a.2.1.length:Int)+a.1)):=by
 have s:=nN H.1 H.2.2 H.2.1;have hv:=UV H hx;have d:=H.2.2.pos;unfold nw;have o:i64.wrap ((g.1.length:Int)*(a.2.1.length:Int))=((a.2.1.length*g.1.length:Nat):Int):=by
  grind[Nat.mul_comm,xh]
 have n:aq (jw g a) aT (([] :List Int),0)=some (.brk (List.replicate (a.2.1.length*g.1.length) (-1),((a.2.1.length*g.1.length:Nat):Int))):=by
  have:=aO (f:=jw g a) (fun i=>(List.replicate i (-1),(i:Int))) (a.2.1.length*g.1.length) (fun i c=>by
   unfold jw;rw[o,if_pos (by grind),ay (by grind),af (by omega)];simp[aa];rw[List.replicate_succ']) (by simp_all[jw,if_neg]) (kz (by omega))
  exact this
 rw[ah n,UW H hx];generalize k:x*(a.2.1.length:Int)+a.1=v at hv;rw[show aP [v] 0=some v from rfl];simp[aa];rw[au (xs:=List.replicate _ (-1:Int)) hv.1 (by grind)];have ⟨K,u,q,p⟩:=P6 hv (xy H)
 have:=aO (f:=jy g a) (fun i=>((bsS (nxN g a) (a.2.1.length*g.1.length) v i).1,(bsS (nxN g a) (a.2.1.length*g.1.length) v i).2,(i:Int))) K (fun i c=>by
  have b:=p i c;have ⟨z,e⟩: ∃z,(bsS (nxN g a) (a.2.1.length*g.1.length) v i).2[i]? =some z:=⟨_,List.getElem?_eq_getElem b⟩;have ⟨m,h⟩:=(Ci hv (xy H) i).rng z (List.mem_of_getElem? e);have ⟨l,j,r,hp⟩:=Tu H m h;unfold jy;rw[show aP (bsS (nxN g a) (a.2.1.length*g.1.length) v i).2 (i:Int)=some z from by unfold aP;grind];simp only[aa];rw[lu (by omega),j];have t:=abg H hx (o1:=(bsS (nxN g a) (a.2.1.length*g.1.length) v i).1) (o2:=(bsS (nxN g a) (a.2.1.length*g.1.length) v i).2) (by rw[k];exact e) r hp;grind[ah,af]) (by unfold jy;grind) (kz (by omega))
 have this:aq (jy g a) aT ((List.replicate (a.2.1.length*g.1.length) (-1)).set v.toNat 0,[v],0)=_:=this;rw[ah this]
 have:=Fj hv (xy H) q (a.2.1.length*g.1.length - K)
 grind[RKs]
end
theorem uz {c:Prop} [Decidable c] (h:c):chk c=some ():=if_pos h
theorem yG {α:Type} {xs:List α} {i n:Nat} {z:α} (h:i<=xs.length):(rl xs i n z).take i=xs.take i:=by
 unfold rl;rw[List.take_append_of_le_length (by rw[aB];omega),List.take_take,Nat.min_self]
theorem Cj {α:Type} {xs:List α} {i:Nat} {z:α} (h:i<=xs.length):(rl xs i xs.length z).length=xs.length:=yU h (aL _)
theorem Fk {α:Type} {ys:List α} {i:Nat} {x:α} (h:i<ys.length):(ys.set i x).take (i+1)=ys.take i++ [x]:=by
 rw[List.take_succ_eq_append_getElem (by simpa using h)];simp[List.take_set_of_le]
theorem set_drop {α:Type} {ys:List α} {i j:Nat} {x:α} (h:i<j):(ys.set i x).drop j=ys.drop j:=by
 apply List.ext_getElem?;intro q;rw[List.getElem?_drop,List.getElem?_drop,List.getElem?_set_ne (by omega)]
theorem xz {α:Type} {ys xs:List α} {j:Nat} (h:ys.drop j=xs.drop j):ys.drop (j+1)=xs.drop (j+1):=by
 rw[<-List.drop_drop,h,List.drop_drop]
theorem xA {α:Type} {ys xs:List α} {j q:Nat} (h:ys.drop j=xs.drop j) (b:j<=q) (h1:q<ys.length) (a:q<xs.length):ys[q] =xs[q]:=by
 have e:=congrArg (fun l=>l[q - j]?) h;simp only[List.getElem?_drop,show j+(q - j)=q from by omega] at e;rw[List.getElem?_eq_getElem h1,List.getElem?_eq_getElem a] at e;exact ae e
section
variable {α:Type} [DecidableEq α]
def ss:List α->List α
 | [] =>[]
 | [a] =>[a]
 | a::b::l=>if a=b then ss (b::l) else a::ss (b::l)
theorem Aj {x:α} : ∀ {l:List α},x∈ss l↔x∈l
 | [] =>Iff.rfl
 | [a] =>Iff.rfl
 | a::b::l=>by
  rw[ss];split
  ·rename_i e;subst e;rw[Aj];simp
  ·rw[List.mem_cons,Aj,List.mem_cons (l:=b::l)]
theorem Hw: ∀(l:List α) (b:α),l≠ [] ->ss (l++ [b])=if l.getLast? =some b then ss l else ss l++ [b]
 | [],b,h=>absurd rfl h
 | [a],b,_=>by
  by_cases e:a=b
  ·subst e;simp[ss]
  ·simp[ss,e]
 | a::c::l,b,_=>by
  have d:=Hw (c::l) b (by simp);have f:(a::c::l).getLast? =(c::l).getLast? :=by simp[List.getLast?_cons_cons]
  rw[f];show ss (a::c::(l++ [b]))=_;rw[ss,ss];rw[show c::(l++ [b])=(c::l)++ [b] from rfl,d];by_cases e:a=c
  ·rw[if_pos e,if_pos e]
  ·rw[if_neg e,if_neg e];split <;> simp
theorem Ck {xs:List α} {j:Nat} (c:0<j) (h:j<xs.length):ss (xs.take (j+1))=if xs[j - 1] =xs[j] then ss (xs.take j) else ss (xs.take j)++ [xs[j]]:=by
 rw[List.take_succ_eq_append_getElem h,Hw _ _ (by
  intro e;have a:=congrArg List.length e;rw[aB,Nat.min_eq_left (Nat.le_of_lt h),aJ] at a;omega)]
 have b:(xs.take j).getLast? =some xs[j - 1]:=by
  rw[List.getLast?_eq_getElem?,aB,Nat.min_eq_left (Nat.le_of_lt h),List.getElem?_take,if_pos (show j - 1<j by omega),List.getElem?_eq_getElem (show j - 1<xs.length by omega)]
 rw[b];by_cases e:xs[j - 1] =xs[j]
 ·rw[if_pos (by rw[e]),if_pos e]
 ·rw[if_neg (by simpa using e),if_neg e]
theorem Hx {xs:List α} : ∀(j:Nat),j<=xs.length->(∀q (b:q<j) (e:0<q) (g:j<=xs.length),xs[q - 1]'(by omega)≠xs[q]'(by omega))->ss (xs.take j)=xs.take j
 | 0,_,_=>by simp[ss]
 | 1,h,_=>by
  cases xs with
  | nil=>simp[ss]
  | cons a l=>simp[ss]
 | j+2,h,b=>by
  rw[Ck (by omega) (by omega),if_neg (b (j+1) (by omega) (by omega) h),Hx (j+1) (by omega) (fun q d c f=>b q (by omega) c h),<-List.take_succ_eq_append_getElem]
end
theorem Fl: ∀ {l:List Int},l.Pairwise (fun a b=>a<=b)->(ss l).Pairwise (fun a b=>a<b)
 | [],_=>List.Pairwise.nil
 | [a],_=>by simp[ss]
 | a::b::l,h=>by
  obtain ⟨f,c⟩:=List.pairwise_cons.1 h;rw[ss];split
  ·exact Fl c
  ·rename_i g;refine List.pairwise_cons.2 ⟨fun x e=>?_,Fl c⟩;have d:a<b:=by have:=f b (List.mem_cons_self ..);omega
   rcases aA (Aj.1 e) with rfl | e
   ·exact d
   ·have:=(List.pairwise_cons.1 c).1 x e
    omega
theorem Hy: ∀ {l m:List Int},l.Pairwise (fun a b=>a<b)->m.Pairwise (fun a b=>a<b)->(∀x,x∈l↔x∈m)->l=m
 | [],[],_,_,_=>rfl
 | [],b::m,_,_,h=>absurd ((h b).2 (by simp)) (by simp)
 | a::l,[],_,_,h=>absurd ((h a).1 (by simp)) (by simp)
 | a::l,b::m,h1,h2,h=>by
  obtain ⟨i,k⟩:=List.pairwise_cons.1 h1;obtain ⟨j,n⟩:=List.pairwise_cons.1 h2;have g:a=b:=by
   have f:=(h a).1 (by simp);have d:=(h b).2 (by simp);rcases aA f with e | f
   ·exact e
   ·rcases aA d with e | d
    ·exact e.symm
    ·have:=i b d;have:=j a f;omega
  subst g;rw[Hy k n fun x=>?_]
  have:=h x
  rw[List.mem_cons,List.mem_cons] at this;constructor
  ·intro c;rcases this.1 (.inr c) with e | e
   ·subst e;have:=i x c;omega
   ·exact e
  ·intro c;rcases this.2 (.inr c) with e | e
   ·subst e;have:=j x c;omega
   ·exact e
theorem ab1 {a b:Int} :(a==b)=decide (a=b):=by rw[Bool.eq_iff_iff];simp
theorem Je (xs:List Int) (X:xs.length<=1073741824):dk xs=some (ss xs):=by
 unfold dk;by_cases Q:xs.length<2
 ·rw[if_pos (by simp;omega)];cases xs with
  | nil=>rfl
  | cons a l =>
   cases l with
   | nil=>rfl
   | cons b l=>simp only[aH] at Q;omega
 rw[if_neg (by simp;omega)];have key:(aq (bR xs) aT 1=some (.ret (ss xs)))\/(∃s,aq (bR xs) aT 1=some (.brk s)/\ss xs=xs):=by
  obtain ⟨o,e,P⟩:=b9 (f:=bR xs) (fun t s=>s=((t+1:Nat):Int)/\ss (xs.take (t+1))=xs.take (t+1)) (fun o=>o= .ret (ss xs)\/ ∃s,o= .brk s/\ss xs=xs) (xs.length - 1) (fun t s Y i=>by
   obtain ⟨rfl,i⟩:=i;unfold bR;by_cases r:t+1<xs.length
   ·have hp:((t+1:Nat):Int) - 1=((t:Nat):Int):=by omega
    rw[cH r,if_pos rfl,aI r,bA (n:=((t+1:Nat):Int) - 1) (by omega) (by omega),hp,aI (show t<xs.length by omega)];simp only[aa,ab1];have k:=Ck (xs:=xs) (j:=t+1) (by omega) r;rw[i] at k;simp only[Nat.add_sub_cancel] at k;by_cases C:xs[t+1] =xs[t]
    ·rw[if_pos (decide_eq_true C),uz (by omega),aa];rw[if_pos C.symm] at k;have m:(xs.take (t+1)).length=t+1:=by rw[aB];omega
     obtain ⟨s,S,c,rfl,B,d,p,g⟩:=eW (f:=cL xs ((t+1:Nat):Int)) (fun u s=> ∃c:List Int,s=(((ss (xs.take (t+2+u))).length:Int),((u+1:Nat):Int),c)/\c.length=xs.length/\c.take (ss (xs.take (t+2+u))).length=ss (xs.take (t+2+u))/\c.drop (t+1+u)=xs.drop (t+1+u)/\(ss (xs.take (t+2+u))).length<=t+1+u) (xs.length - (t+2)) (fun u s W i=>by
      obtain ⟨c,rfl,B,d,p,g⟩:=i;have G:t+2+u<xs.length:=by clear g d;omega
      have E:t+1+u<xs.length:=by clear g d;omega
      have x:t+2+u<c.length:=by clear g d;omega
      have w:t+1+u<c.length:=by clear g d;omega
      have R:(0+((t+1:Nat):Int))+((u+1:Nat):Int)=((t+2+u:Nat):Int):=by omega
      have O:((u+1:Nat):Int) - 1=((u:Nat):Int):=by omega
      have U:(0+((t+1:Nat):Int))+((u:Nat):Int)=((t+1+u:Nat):Int):=by omega
      unfold cL;dsimp only;rw[if_pos (by simp;omega),uz (by omega)];simp only[aa];rw[bA (n:=((u+1:Nat):Int) - 1) (by omega) (by omega),R,O,U,aI (xs:=c) x,aI (xs:=c) w,uz (by omega),xA p (by omega) x G,xA p (aL _) w E];simp only[aa,ab1,jX];have L:t+2+u - 1=t+1+u:=by clear g d;omega
      have I:0<t+2+u:=by clear g d;omega
      have v:=Ck (xs:=xs) (j:=t+2+u) I G;simp only[L] at v;have F:=xz p;rw[show t+1+u+1=t+1+(u+1) from by omega] at F;rw[show t+2+(u+1)=t+2+u+1 from by omega,v];generalize ss (xs.take (t+2+u))=K at *;by_cases A:xs[t+2+u] =xs[t+1+u]
      ·rw[if_neg (by simpa using A),if_pos A.symm];simp only[aa];rw[af (by omega)];exact ⟨_,rfl,c,rfl,B,d,F,by omega⟩
      ·rw[if_pos (by simpa using A),if_neg (fun e=>A e.symm),aI (xs:=c) (show K.length<c.length by omega)];simp only[aa];rw[af (by omega),af (by omega)];refine ⟨_,rfl,c.set K.length xs[t+2+u],?_,by simpa using B,?_,?_,?_⟩
       ·rw[az,List.length_singleton];rfl
       ·rw[az,List.length_singleton,Fk (by omega),d]
       ·rw[set_drop (by omega)];exact F
       ·rw[az,List.length_singleton];omega) (fun s i=>by
      obtain ⟨c,rfl,B,d,p,g⟩:=i;unfold cL;rw[if_neg (by simp;omega)]) (s:=(((t+1:Nat):Int),1,xs)) ⟨xs,by rw[Nat.add_zero,k,m];rfl,rfl,by rw[Nat.add_zero,k,m],rfl,by rw[Nat.add_zero,k,m];omega⟩ (gx _ (by omega))
     refine .inr ⟨.ret (ss xs),?_,fun M D=>(by simp at D),.inl rfl⟩;rw[ah S];have y:xs.take (t+2+(xs.length - (t+2)))=xs:=List.take_of_length_le (by omega);rw[y] at d g⊢;generalize ss xs=K at *;have H:K.length<=c.length:=by omega
     have J:((0:Int)+((K.length:Nat):Int)).toNat=K.length:=by omega
     have T:((0:Int)+(((c.length:Nat):Int) - 0)).toNat=c.length:=by omega
     simp only[J,T];have N:=Cj (z:=(0:Int)) H;rw[uz (by omega),aa,uz (by omega),aa,uz (by rw[N];omega),aa,yG H,d,List.drop_zero]
    ·rw[if_neg (by simpa using C),af (by omega)];rw[if_neg (fun e=>C e.symm),<-List.take_succ_eq_append_getElem r] at k;exact .inl ⟨by omega,_,rfl,rfl,k⟩
   ·refine .inr ⟨.brk ((t+1:Nat):Int),?_,fun M D=>(by simp at D),.inr ⟨_,rfl,?_⟩⟩
    ·rw[if_neg (by simp;omega)]
    ·rw[List.take_of_length_le (by omega)] at i;exact i) (s:=1) ⟨rfl,Hx 1 (by omega) (fun q r V=>by omega)⟩ (gx _ (by omega))
  rcases P with rfl | ⟨s,rfl,h⟩
  ·exact .inl e
  ·exact .inr ⟨s,e,h⟩
 rcases key with e | ⟨s,e,h⟩
 ·rw[bg e]
 ·rw[ah e,h]
theorem Cl (m:Nat): ∀k,(fF m k).Pairwise (fun a b=>a<b)
 | 0=>List.Pairwise.nil
 | k+1=>by
  rw[jY];split
  ·refine List.pairwise_append.2 ⟨Cl m k,List.pairwise_singleton _ _,fun a d b c=>?_⟩;obtain ⟨i,e,_,rfl⟩:=tH.1 d;obtain rfl:b=(k:Int):=by simpa using c
   omega
  ·exact Cl m k
theorem Xt {X:List Int} {m:Nat} (h: ∀x∈X,∃i:Nat,i<30/\x=(i:Int)) (g: ∀i:Nat,i<30->(m.testBit i=true↔(i:Int)∈X)):ss (X.mergeSort fun x y=>decide (x<=y))=fF m 30:=by
 have hp:(X.mergeSort fun x y=>decide (x<=y)).Pairwise (fun a b=>a<=b):=by
  have:=List.pairwise_mergeSort (le:=fun (x y:Int)=>decide (x<=y)) (fun a b c e f=>by
   have e:=of_decide_eq_true e;have f:=of_decide_eq_true f;exact decide_eq_true (by omega)) (fun a b=>by
   rw[Bool.or_eq_true,decide_eq_true_eq,decide_eq_true_eq];omega) X
  exact this.imp fun h=>of_decide_eq_true h
 refine Hy (Fl hp) (Cl m 30) fun x=>?_;rw[Aj,List.mem_mergeSort,tH];constructor
 ·intro j;obtain ⟨i,d,rfl⟩:=h x j;exact ⟨i,d,(g i d).2 j,rfl⟩
 ·rintro ⟨i,d,k,rfl⟩;exact (g i d).1 k
theorem UX {p:Prop} [Decidable p] (h:p):chk p=some ():=by unfold chk;rw[if_pos h]
theorem abh {m:Nat} (c:m<2 ^ 30):wP (m:Int)=some (fF m 30):=by
 have a:m<2 ^ 62:=aD c (Nat.pow_le_pow_right (by decide) (by decide));unfold wP
 have:=aO (f:=ny (m:Int)) (fun i=>(fF m i,(i:Int))) 30 (fun i d=>by
  have e:=nI m i;unfold ny;simp only;rw[if_pos (by simp;omega),UX (by omega),Cc a (by omega),af (by omega),jY];simp only[aa];by_cases b:m.testBit i=true
  ·rw[if_pos b,if_pos b,ay (by simp;omega)];rfl
  ·rw[if_neg b,if_neg b];rfl) (by unfold ny;simp) (by unfold aT;omega)
 have this:aq (ny (m:Int)) aT (([] :List Int),0)=_:=this;rw[ah this]
theorem Jf (xs:List Int) (h:xs.length<=1000000):lT xs=some (ss (xs.mergeSort fun x y=>decide (x<=y))):=by
 unfold lT jn gl R.SI;rw[ay (by simp;omega)];simp only[aa,List.nil_append];rw[UX (by omega)];simp only[aa];rw[Je _ (by rw[List.length_mergeSort];omega)];rfl
def MQ (a:AutT) (s v:Int):Bool:=decide (∃q∈fF (cS a s v) 30,nth a.2.1 q=true)
section
variable {a:AutT} {n:Nat} (V:VA a n) (hn:n<=12)
include V hn
theorem Jg {s v:Int} (hs:0<=s/\s<n) (hv:0<=v/\v<=2):lS a (vZ 1 s) v=some (MQ a s v):=by
 obtain ⟨t,rfl⟩: ∃t:Nat,s=(t:Int):=⟨s.toNat,by omega⟩;obtain ⟨j,k⟩:=Hu V hn hs hv;have r:cS a (t:Int) v<2 ^ 30:=aD k (Nat.pow_le_pow_right (by decide) (by omega));unfold lS;rw[yF (by omega),tI (Nat.pow_lt_pow_right (by decide) (by omega)),Hr (by omega)];simp only[aa];have l:=nI (cS a (t:Int) v) 30;have o:fQ a v [(t:Int)] 0=some (if MQ a (t:Int) v=true then .ret true else .nxt 1):=by
  unfold fQ;rw[if_pos (by simp),show aP [(t:Int)] 0=some (t:Int) from rfl];simp only[aa];have j:kR (a.1,a.2.1,a.2.2) (t:Int) v=_:=j;rw[j];simp only[aa];rw[tI r];simp only[aa];rcases scan (f:=kF a (fF (cS a (t:Int) v) 30)) (fF (cS a (t:Int) v) 30) (fun q=> ¬nth a.2.1 q=true) true (by omega) (fun i p=>by
   have d:=xw V hn k _ (bT (xs:=fF (cS a (t:Int) v) 30) (i:=(i:Int)) (by omega) (by omega));unfold kF;rw[if_pos (by simp;omega),au (by omega) (by omega)];simp only[aa];rw[V.acc d.1 d.2,af (by omega)];simp only[aa];cases nth a.2.1 (nth (fF (cS a (t:Int) v) 30) (i:Int)) <;> rfl) (by unfold kF;simp) with ⟨e,h⟩ | ⟨e,h⟩
  ·rw[ah e,if_neg (by unfold MQ;rw[decide_eq_true_eq];rintro ⟨q,d,b⟩;exact h q d b)];rfl
  ·rw[bg e,if_pos (by
    unfold MQ;rw[decide_eq_true_eq];by_cases c: ∃q∈fF (cS a (t:Int) v) 30,nth a.2.1 q=true
    ·exact c
    ·exact absurd (fun q d b=>c ⟨q,d,b⟩) h)]
 have g:fQ a v [(t:Int)] 1=some (.brk 1):=by
  unfold fQ;rw[if_neg (by simp)]
 rcases MB (f:=fQ a v [(t:Int)]) 1 (fun _=> ¬MQ a (t:Int) v=true) true (by decide) (fun i p=>by
  obtain rfl:i=0:=by omega
  rw[show ((0:Nat):Int)=0 from rfl,o];cases MQ a (t:Int) v <;> rfl) g with ⟨e,h⟩ | ⟨e,h⟩
 ·rw[ah e]
  have:=h 0 (by decide)
  rw[Bool.not_eq_true] at this;rw[this]
 ·rw[bg e]
  have:MQ a (t:Int) v=true:=by
   cases m:MQ a (t:Int) v with
   | true=>rfl
   | false=>exact absurd (fun _ _=>by rw[m];decide) h
  rw[this]
theorem Hz {C:Nat} (l:C<2 ^ n):aN (aq (gP a (C:Int)) aT 0) (fun r=>some r) (fun _=>some false)=some (decide (∃q∈fF C 30,nth a.2.1 q=true)):=by
 have b:C<2 ^ 62:=aD l (p62 (by omega));rcases MB (f:=gP a (C:Int)) n (fun i=> ¬(C.testBit i=true/\nth a.2.1 (i:Int)=true)) true (by omega) (fun i g=>by
  unfold gP;rw[V.len,if_pos (by simp;omega),lu (by omega),Cc b (by omega),V.acc (by omega) (by omega),af (by omega)];simp only[aa];cases C.testBit i <;> cases nth a.2.1 (i:Int) <;> rfl) (by unfold gP;rw[V.len];simp) with ⟨e,h⟩ | ⟨e,h⟩
 ·rw[ah e,decide_eq_false];rintro ⟨q,k,d⟩;have o:=xw V hn l q k;obtain ⟨i,g,m,rfl⟩:=tH.1 k;exact h i (by omega) ⟨m,d⟩
 ·rw[bg e,decide_eq_true];by_cases c: ∃q∈fF C 30,nth a.2.1 q=true
  ·exact c
  ·exact absurd (fun (i:Nat) (g:i<n) (j:C.testBit i=true/\nth a.2.1 (i:Int)=true)=>c ⟨(i:Int),tH.2 ⟨i,by omega,j.1,rfl⟩,j.2⟩) h
end
section
variable {g:GrT} {a:AutT} (H:GOOD g a)
include H
theorem Qb {x s:Nat} (d:x<g.1.length) (hs:s<a.2.1.length):kl g a (x:Int) (s:Int)=some (MQ a (s:Int) (nth g.1 (x:Int))):=by
 have hv:=H.1.val _ (bT (xs:=g.1) (i:=(x:Int)) (by omega) (by omega));have b:=Cd H.2.2 H.2.1 (s:=(s:Int)) ⟨by omega,by omega⟩ hv;have c:=Tn H.2.2 H.2.1 (s:=(s:Int)) ⟨by omega,by omega⟩ hv;unfold kl;rw[au (by omega) (by omega)];simp only[aa];have b:c7 (a.1,a.2.1,a.2.2) (s:Int) (nth g.1 (x:Int))=_:=b;rw[b];simp only[aa]
 have:=Hz H.2.2 H.2.1 c
 exact this
end
def aau (g:GrT) (a:AutT) (R:List Int) (i:Nat):Bool:=decide (0<=nth R (i:Int))&&MQ a ((i % a.2.1.length:Nat):Int) (nth g.1 ((i / a.2.1.length:Nat):Int))
def MF (g:GrT) (a:AutT) (R:List Int):Nat->List Int
 | 0=>[]
 | i+1=>if aau g a R i=true then MF g a R i++ [((i / a.2.1.length:Nat):Int)] else MF g a R i
def MR (g:GrT) (a:AutT) (R:List Int):Nat->Nat
 | 0=>0
 | i+1=>if aau g a R i=true then MR g a R i ||| 2 ^ (i / a.2.1.length) else MR g a R i
theorem Fm (g:GrT) (a:AutT) (R:List Int): ∀i,(MF g a R i).length<=i
 | 0=>by simp[MF]
 | i+1=>by
  have:=Fm g a R i
  rw[MF];split
  ·rw[az];simp;omega
  ·omega
theorem Qc {x:Nat} {n:Nat} (a:x<=1000000):FD (x:Int) (n:Int)=((x / n:Nat):Int)/\Int.tmod (x:Int) (n:Int)=((x % n:Nat):Int):=by
 refine ⟨?_,?_⟩
 ·unfold FD;rw[Int.tdiv_eq_ediv_of_nonneg (Int.natCast_nonneg _),<-Int.natCast_ediv,xh (by have:=Nat.div_le_self x n;omega)]
 ·rw[Int.tmod_eq_emod_of_nonneg (Int.natCast_nonneg _),Int.natCast_emod]
section
variable {g:GrT} {a:AutT} (H:GOOD g a) {R:List Int} (hR:R.length=a.2.1.length*g.1.length)
include H
theorem KO {i:Nat} (hi:i<a.2.1.length*g.1.length):i / a.2.1.length<g.1.length/\i % a.2.1.length<a.2.1.length/\0<a.2.1.length/\g.1.length<=5:=by
 obtain ⟨b,c⟩:=H.divmod (x:=(i:Int)) (by omega) (by omega);exact ⟨b,c,H.2.2.pos,H.1.n5⟩
theorem Fo: ∀i,i<=a.2.1.length*g.1.length->MR g a R i<2 ^ 5
 | 0,_=>by simp[MR]
 | i+1,hi=>by
  have h:=Fo i (by omega);obtain ⟨c,d,b,e⟩:=KO H (i:=i) (by omega);rw[MR];split
  ·exact xu h (by omega)
  ·exact h
theorem Qd: ∀i,i<=a.2.1.length*g.1.length-> ∀j:Nat,((MR g a R i).testBit j=true↔(j:Int)∈MF g a R i)
 | 0,_,j=>by simp[MR,MF]
 | i+1,hi,j=>by
  have h:=Qd i (by omega) j;rw[MR,MF];split
  ·rw[uZ,Bool.or_eq_true,h,List.mem_append,List.mem_singleton,decide_eq_true_eq];constructor
   ·rintro (h | h)
    ·exact .inl h
    ·exact .inr (by rw[h])
   ·rintro (h | h)
    ·exact .inl h
    ·exact .inr (Int.ofNat_inj.1 h).symm
  ·exact h
theorem Jh: ∀i,i<=a.2.1.length*g.1.length-> ∀x∈MF g a R i,∃j:Nat,j<30/\x=(j:Int)
 | 0,_,x,b=>by cases b
 | i+1,hi,x,b=>by
  obtain ⟨d,e,c,f⟩:=KO H (i:=i) (by omega);rw[MF] at b;split at b
  ·rcases aG b with b | b
   ·exact Jh i (by omega) x b
   ·exact ⟨_,by omega,ak b⟩
  ·exact Jh i (by omega) x b
include hR
theorem ZK:aq (km g a R) aT (0,0)=some (.brk ((MR g a R (a.2.1.length*g.1.length):Int),((a.2.1.length*g.1.length:Nat):Int))):=by
 have o:=nN H.1 H.2.2 H.2.1
 have:=aO (f:=km g a R) (fun i=>((MR g a R i:Int),(i:Int))) (a.2.1.length*g.1.length) (fun i d=>by
  obtain ⟨e,j,m,p⟩:=KO H d;obtain ⟨k,b⟩:=Qc (x:=i) (n:=a.2.1.length) (by omega);have h:=Fo H (R:=R) i (by omega);unfold km;simp only;rw[if_pos (by simp only[decide_eq_true_eq];omega),au (by omega) (by omega),lu (by omega),k,b,af (by omega)];simp only[aa];have l:kl (g.1,g.2) (a.1,a.2.1,a.2.2) ((i / a.2.1.length:Nat):Int) ((i % a.2.1.length:Nat):Int)=_:=Qb H e j;rw[l,MR];simp only[aa];unfold aau;by_cases c:0<=nth R (i:Int)
  ·rw[if_pos (by simpa using c),decide_eq_true c,Bool.true_and];cases MQ a ((i % a.2.1.length:Nat):Int) (nth g.1 ((i / a.2.1.length:Nat):Int)) with
   | false=>rfl
   | true =>
    simp only[if_true];rw[lu (Int.natCast_nonneg _),yF (by omega),KM (aD h (Nat.pow_le_pow_right (by decide) (by decide))) (Nat.pow_lt_pow_right (by decide) (by omega))];rfl
  ·rw[if_neg (by simpa using c),decide_eq_false c,Bool.false_and];rfl) (by unfold km;simp only;rw[if_neg (by simp;omega)]) (kz (by omega))
 exact this
theorem ZL:aq (fZ g a R) aT (([] :List Int),0)=some (.brk (MF g a R (a.2.1.length*g.1.length),((a.2.1.length*g.1.length:Nat):Int))):=by
 have o:=nN H.1 H.2.2 H.2.1
 have:=aO (f:=fZ g a R) (fun i=>(MF g a R i,(i:Int))) (a.2.1.length*g.1.length) (fun i e=>by
  obtain ⟨b,h,m,p⟩:=KO H e;obtain ⟨j,d⟩:=Qc (x:=i) (n:=a.2.1.length) (by omega);have l:=Fm g a R i;have hv:=H.1.val _ (bT (xs:=g.1) (i:=((i / a.2.1.length:Nat):Int)) (Int.natCast_nonneg _) (Int.ofNat_lt.2 b));unfold fZ;simp only;rw[if_pos (by simp only[decide_eq_true_eq];omega),au (by omega) (by omega),lu (by omega),j,d,af (by omega),lu (Int.natCast_nonneg _)];simp only[aa];have k:lS (a.1,a.2.1,a.2.2) (vZ 1 ((i % a.2.1.length:Nat):Int)) (nth g.1 ((i / a.2.1.length:Nat):Int))=_:=Jg H.2.2 H.2.1 ⟨Int.natCast_nonneg _,Int.ofNat_lt.2 h⟩ hv;rw[au (xs:=g.1) (i:=((i / a.2.1.length:Nat):Int)) (Int.natCast_nonneg _) (Int.ofNat_lt.2 b)];simp only[aa];rw[k,MF];simp only[aa];unfold aau;by_cases c:0<=nth R (i:Int)
  ·rw[if_pos (by simpa using c),decide_eq_true c,Bool.true_and];cases MQ a ((i % a.2.1.length:Nat):Int) (nth g.1 ((i / a.2.1.length:Nat):Int)) with
   | false=>rfl
   | true =>
    simp only[if_true];rw[ay (by simp;omega)];rfl
  ·rw[if_neg (by simpa using c),decide_eq_false c,Bool.false_and];rfl) (by unfold fZ;simp only;rw[if_neg (by simp;omega)]) (kz (by omega))
 exact this
end
def Qe (g:GrT) (a:AutT) (x:Int):List Int:=fF (MR g a (RKs g a (x*(a.2.1.length:Int)+a.1)) (a.2.1.length*g.1.length)) 30
theorem Ak (g:GrT) (a:AutT) (x:Int):(Qe g a x).length<=30:=nI _ _
section
variable {g:GrT} {a:AutT} (H:GOOD g a) {x:Int} (hx:0<=x/\x<g.1.length)
include H hx
theorem KP:pb g a x=some (Qe g a x):=by
 unfold pb;have e:nw (g.1,g.2) (a.1,a.2.1,a.2.2) x=_:=Xs H hx;have b:=Qa H hx;rw[e];simp only[aa];rw[ah (ZK H b),abh (aD (Fo H _ (aL _)) (Nat.pow_le_pow_right (by decide) (by decide)))];rfl
theorem ZM (e:cY g a [x] =some true):jr g a x=some (Qe g a x):=by
 have h:=nN H.1 H.2.2 H.2.1;have hp:=H.2.2.pos;have f:=H.1.n1;have c:0<a.2.1.length*g.1.length:=Nat.mul_pos hp (by omega);unfold jr;have e:gL (g.1,g.2) (a.1,a.2.1,a.2.2) x=_:=ZJ H hx e;have b:=Qa H hx;rw[e];simp only[aa];have d:=Fm g a (RKs g a (x*(a.2.1.length:Int)+a.1)) (a.2.1.length*g.1.length);rw[if_neg (by simp only[decide_eq_true_eq];omega),ah (ZL H b),Jf _ (by simp only;omega)];simp only[aa];unfold Qe;rw[Xt (Jh H _ (aL _)) fun i _=>Qd H _ (aL _) i]
end
theorem Tv (g:GrT) (a:AutT) (l:Data.sm g) (o:Data.sm a): ∃b,gq g a 0 0=some b/\cY g a [] =some b/\(b=true->GOOD g a/\ ∀x:Int,0<=x->x<g.1.length->cY g a [x] =some true):=by
 obtain ⟨b,c,C,z,F,s,v,E⟩:=Xp g a l o;obtain ⟨m,u,A,k⟩:=P9 g a l o 0;have e:a7 (g.1,g.2)=_:=z;have d:cr (a.1,a.2.1,a.2.2)=_:=s;have D:=(bd l.1).1;have y:i64.wrap ((g.1.length:Int) - 1)=(g.1.length:Int) - 1:=bA (by omega) (by omega);have w:cY g a [] =some (b&&c):=by
  unfold cY
  have:aq (dX g []) aT 0=some (.brk 0):=by
   have:=aO (f:=dX g []) (fun _=>(0:Int)) 0 (fun i r=>absurd r (Nat.not_lt_zero _)) (by unfold dX;simp) (by unfold aT;omega)
   exact this
  rw[ah this,e,d];cases b <;> cases c <;> rfl
 have p: ∀x:Int,cY g a [x] =if 0<=x/\x<=(g.1.length:Int) - 1 then some (b&&c) else some false:=fun x=>by
  unfold cY;rcases MB (f:=dX g [x]) 1 (fun _=>0<=x/\x<=(g.1.length:Int) - 1) false (by decide) (fun i r=>by
   obtain rfl:i=0:=by omega
   unfold dX;rw[if_pos (by simp),show aP [x] ((0:Nat):Int)=some x from rfl];simp only[aa];rw[I0,y];simp only[aa,decide_eq_true_eq];split <;> rfl) (by unfold dX;simp) with ⟨k,h⟩ | ⟨k,h⟩
  ·rw[ah k,e,d,if_pos (h 0 (by decide))];cases b <;> cases c <;> rfl
  ·rw[bg k,if_neg (fun c=>h fun _ _=>c)]
 have j:m=(b&&c):=by
  have h:=p 0;rw[A] at h;by_cases q:(0:Int)<=0/\(0:Int)<=(g.1.length:Int) - 1
  ·rw[if_pos q] at h;exact ae h
  ·rw[if_neg q] at h
   have:m=false:=ae h
   rw[this];cases b with
   | false=>rfl
   | true=>have:=(v rfl).n1;omega
 refine ⟨m,u,by rw[w,j],fun n=>⟨(k n).1,fun x t B=>?_⟩⟩;rw[p,if_pos ⟨t,by omega⟩,<-j,n]
def MG (g:GrT) (a:AutT):Nat->List (Int×Int)
 | 0=>[]
 | x+1=>MG g a x++(Qe g a (x:Int)).map fun y=>((x:Int),y)
theorem um (g:GrT) (a:AutT): ∀x,(MG g a x).length<=30*x
 | 0=>by simp[MG]
 | x+1=>by
  have c:=um g a x;have b:=Ak g a (x:Int);rw[MG,az,List.length_map];omega
theorem Fp {f:Yq4×Int->Option (Out Yq4 (Yq4×Int))} {l:List Int} {x:Int} {o:List (Int×Int)} (d:l.length<=30) (e:o.length<=1000)
  (c: ∀(o:List (Int×Int)) (j:Nat),j<l.length->o.length<=2000->f (o,(j:Int))=some (.nxt (o++ [(x,nth l (j:Int))],((j+1:Nat):Int)))) (b: ∀o,f (o,(l.length:Int))=some (.brk (o,(l.length:Int)))) :
  aq f aT (o,0)=some (.brk (o++l.map fun y=>(x,y),(l.length:Int))):=by
 have:=aO (f:=f) (fun j=>(o++(l.take j).map fun y=>(x,y),(j:Int))) l.length (fun j a=>by
  rw[c _ j a (by rw[az,List.length_map,aB];omega),vV a,aW,aC];rfl) (b _) (kz (by omega))
 rw[List.take_length] at this;simpa using this
theorem KQ (g:GrT) (a:AutT) (p:Data.sm g) (r:Data.sm a): ∃(b:Bool) (l:List (Int×Int)),cY g a [] =some b/\fe g a=some l/\gm g a=some l/\l.length<=150/\(b=false->l= [])/\(b=true->GOOD g a/\l=MG g a g.1.length):=by
 obtain ⟨b,d,e,q⟩:=Tv g a p r;refine ⟨b,?_⟩;have c:=e;have d:gq (g.1,g.2) (a.1,a.2.1,a.2.2) 0 0=_:=d;have e:cY (g.1,g.2) (a.1,a.2.1,a.2.2) [] =_:=e;have z:=(bd p.1).1;unfold fe gm;rw[e];simp only[aa];cases b with
 | false =>
  refine ⟨[],(by first | exact c | trivial),?_,rfl,by decide,fun _=>rfl,fun h=>by cases h⟩
  have:=aO (f:=bt g a) (fun _=>(([] :List (Int×Int)),(0:Int))) 0 (fun i t=>absurd t (Nat.not_lt_zero _)) (by
   unfold bt;rw[d];simp only[aa,Bool.false_eq_true,if_false];split <;> rfl) (by unfold aT;omega)
  rw[ah this]
 | true =>
  obtain ⟨H,n⟩:=q rfl;have y:=H.1.n5;refine ⟨MG g a g.1.length,(by first | exact c | trivial),?_,?_,by have:=um g a g.1.length;omega,(fun h=>by cases h),fun _=>⟨H,rfl⟩⟩
  ·have:=aO (f:=bt g a) (fun x=>(MG g a x,(x:Int))) g.1.length (fun x w=>by
    have s:=um g a x;have m:=Ak g a (x:Int);unfold bt;simp only;have k:pb (g.1,g.2) (a.1,a.2.1,a.2.2) (x:Int)=_:=KP H (x:=(x:Int)) ⟨by omega,by omega⟩;rw[if_pos (by simp only[decide_eq_true_eq];omega),d,k];simp only[aa,if_true];rw[ah (Fp (x:=(x:Int)) (l:=Qe g a (x:Int)) m (by omega) (fun o j u v=>by
     unfold gQ;simp only;rw[if_pos (by simp;omega),au (by omega) (by omega)];simp only[aa];rw[ay (by simp;omega),af (by omega)];rfl) (fun o=>by unfold gQ;simp)),af (by omega)]
    rfl) (by unfold bt;simp) (kz (by omega))
   have this:aq (bt g a) aT (([] :List (Int×Int)),0)=_:=this;rw[ah this]
  ·simp only[if_true]
   have:=aO (f:=gM g a) (fun x=>(MG g a x,(x:Int))) g.1.length (fun x w=>by
    have s:=um g a x;have m:=Ak g a (x:Int);unfold gM;simp only;have k:jr (g.1,g.2) (a.1,a.2.1,a.2.2) (x:Int)=_:=ZM H (x:=(x:Int)) ⟨by omega,by omega⟩ (n _ (by omega) (by omega));rw[if_pos (by simp only[decide_eq_true_eq];omega),k];simp only[aa];rw[ah (Fp (x:=(x:Int)) (l:=Qe g a (x:Int)) m (by omega) (fun o j u v=>by
     unfold mF;simp only;rw[if_pos (by simp;omega),au (by omega) (by omega)];simp only[aa];rw[ay (by simp;omega),af (by omega)];rfl) (fun o=>by unfold mF;simp)),af (by omega)]
    rfl) (by unfold gM;simp) (kz (by omega))
   have this:aq (gM g a) aT (([] :List (Int×Int)),0)=_:=this;rw[ah this]
theorem Tw (g:GrT) (a:AutT) (h:Data.sm g) (c:Data.sm a): ∃l,fe g a=some l/\gm g a=some l/\l.length<=150:=by
 obtain ⟨b,l,-,e,d,f,-⟩:=KQ g a h c;exact ⟨l,e,d,f⟩
theorem zr {r:pB} (n:Data.sm r) {g:GrT} (j:Data.sm g) (id:Int): ∃(l:List (Int×Int)) (b:Bool),aS r g id=some (l,b)/\eQ r g id=some (l,b)/\l.length<=150/\ ∃(a:AutT) (q v:Bool),cV r id=some (a,q)/\Data.sm a/\a6 g=some v/\b=(q&&v)/\(b=false->l= [])/\(b=true->gm g a=some l):=by
 obtain ⟨⟨a,q⟩,c,k,e⟩:=MA n id;obtain ⟨b,f,p⟩:=KL g (bd j.1).1 (bd j.2).1;have c:cV (r.1,r.2) id=_:=c;have k:fY (r.1,r.2) id=_:=k;have d:a6 (g.1,g.2)=some b:=by rw[mg];exact f
 have f:a7 (g.1,g.2)=_:=f;obtain ⟨l,m,i,o⟩:=Tw g a j e;have m:fe (g.1,g.2) (a.1,a.2.1,a.2.2)=_:=m;have i:gm (g.1,g.2) (a.1,a.2.1,a.2.2)=_:=i;unfold aS eQ;rw[c,k,f,d];simp only[aa];rw[m,i];cases q with
 | false=>exact ⟨[],false,rfl,rfl,by decide,a,false,b,(by first | exact c | rfl),e,(by first | exact d | rfl),rfl,fun _=>rfl,fun h=>by cases h⟩
 | true =>
  cases b with
  | false=>exact ⟨[],false,rfl,rfl,by decide,a,true,false,(by first | exact c | rfl),e,(by first | exact d | rfl),rfl,fun _=>rfl,fun h=>by cases h⟩
  | true=>exact ⟨l,true,rfl,rfl,o,a,true,true,(by first | exact c | rfl),e,(by first | exact d | rfl),rfl,(fun h=>by cases h),fun _=>(by first | exact i | rfl)⟩
theorem zt {r:pB} (d:Data.sm r) {g:GrT} (f:Data.sm g) (id:Int): ∃(l:List (Int×Int)) (b:Bool),aS r g id=some (l,b)/\eQ r g id=some (l,b)/\l.length<=150:=by
 obtain ⟨l,b,c,a,e,-⟩:=zr d f id;exact ⟨l,b,c,a,e⟩
end D
namespace D
abbrev Pr:=Int×Int
def ltP (a b:Pr):Prop:=a.1<b.1\/a.1=b.1/\a.2<b.2
instance (a b:Pr):Decidable (ltP a b):=inferInstanceAs (Decidable (_\/_))
theorem Qf (a:Pr): ¬ltP a a:=by unfold ltP;omega
theorem HA {a b c:Pr} (h:ltP a b) (k:ltP b c):ltP a c:=by unfold ltP at *;omega
theorem Qg {a b:Pr} (h:ltP a b): ¬ltP b a:=by unfold ltP at *;omega
theorem Ji (a b:Pr):ltP a b\/a=b\/ltP b a:=by
 unfold ltP;by_cases h:a=b
 ·exact .inr (.inl h)
 ·have: ¬(a.1=b.1/\a.2=b.2):=fun e=>h (Prod.ext e.1 e.2)
  omega
abbrev Str (l:List Pr):Prop:=l.Pairwise ltP
theorem xB: ∀ {l m:List Pr},Str l->Str m->(∀x,x∈l↔x∈m)->l=m
 | [],[],_,_,_=>rfl
 | [],b::m,_,_,h=>absurd ((h b).2 (List.mem_cons_self ..)) (by simp)
 | a::l,[],_,_,h=>absurd ((h a).1 (List.mem_cons_self ..)) (by simp)
 | a::l,b::m,hl,hm,h=>by
  obtain ⟨g,j⟩:=List.pairwise_cons.1 hl;obtain ⟨i,k⟩:=List.pairwise_cons.1 hm;have d:a=b:=by
   rcases aA ((h a).1 (List.mem_cons_self ..)) with e | e
   ·exact e
   ·rcases aA ((h b).2 (List.mem_cons_self ..)) with f | f
    ·exact f.symm
    ·exact absurd (i a e) (Qg (g b f))
  subst d;rw[xB j k fun x=>?_];constructor
  ·intro c;rcases aA ((h x).1 (bY _ c)) with e | e
   ·subst e;exact absurd (g x c) (Qf x)
   ·exact e
  ·intro c;rcases aA ((h x).2 (bY _ c)) with e | e
   ·subst e;exact absurd (i x c) (Qf x)
   ·exact e
def ahd (p:Pr):List Pr->Nat
 | [] =>0
 | a::l=>if ltP a p then ahd p l+1 else 0
theorem Qh (p:Pr): ∀l:List Pr,ahd p l<=l.length
 | [] =>aL _
 | a::l=>by
  unfold ahd;split
  ·have:=Qh p l;rw[aH];omega
  ·exact Nat.zero_le _
theorem UY (p:Pr): ∀(l:List Pr) (i:Nat),i<ahd p l-> ∃x,l[i]? =some x/\ltP x p
 | [],i,h=>by simp[ahd] at h
 | a::l,i,h=>by
  unfold ahd at h;split at h
  ·rename_i b;cases i with
   | zero=>exact ⟨a,rfl,b⟩
   | succ i =>
    obtain ⟨x,c,d⟩:=UY p l i (by omega);exact ⟨x,by simpa using c,d⟩
  ·omega
theorem UZ (p:Pr): ∀(l:List Pr) x,l[ahd p l]? =some x-> ¬ltP x p
 | [],x,h=>by simp at h
 | a::l,x,h=>by
  unfold ahd at h;split at h
  ·exact UZ p l x (by simpa using h)
  ·rename_i b;simp at h;subst h;exact b
def put (l:List Pr) (p:Pr):List Pr:=if l[ahd p l]? =some p then l else l.take (ahd p l)++p::l.drop (ahd p l)
theorem KR (a:Pr) (l:List Pr) (p:Pr):put (a::l) p=if ltP a p then a::put l p else if a=p then a::l else p::a::l:=by
 unfold put;by_cases h:ltP a p
 ·have e:ahd p (a::l)=ahd p l+1:=by rw[ahd,if_pos h]
  rw[e,if_pos h];by_cases k:l[ahd p l]? =some p
  ·rw[if_pos (by simpa using k),if_pos k]
  ·rw[if_neg (by simpa using k),if_neg k];rfl
 ·have e:ahd p (a::l)=0:=by rw[ahd,if_neg h]
  rw[e,if_neg h];by_cases k:a=p
  ·rw[if_pos (by simp[k]),if_pos k]
  ·rw[if_neg (by simpa using k),if_neg k];rfl
theorem Jj {x p:Pr} : ∀l:List Pr,x∈put l p↔x=p\/x∈l
 | [] =>by simp[put,ahd]
 | a::l=>by
  rw[KR];split
  ·rw[List.mem_cons,Jj l,List.mem_cons];grind
  ·split
   ·rename_i e;subst e;rw[List.mem_cons];grind
   ·rw[List.mem_cons]
theorem Qi {p:Pr} : ∀ {l:List Pr},Str l->Str (put l p)
 | [],_=>by simp[put,ahd]
 | a::l,h=>by
  obtain ⟨e,g⟩:=List.pairwise_cons.1 h;rw[KR];split
  ·rename_i d;refine List.pairwise_cons.2 ⟨fun x b=>?_,Qi g⟩;rcases (Jj l).1 b with rfl | b
   ·exact d
   ·exact e x b
  ·rename_i d;split
   ·exact h
   ·rename_i f;have hp:ltP p a:=by
     rcases Ji p a with c | c | c
     ·exact c
     ·exact absurd c.symm f
     ·exact absurd c d
    refine List.pairwise_cons.2 ⟨fun x b=>?_,h⟩;rcases aA b with rfl | b
    ·exact hp
    ·exact HA hp (e x b)
def C1 (l m:List Pr):List Pr:=m.foldl put l
theorem xC: ∀ {m l:List Pr},Str l->Str (C1 l m)
 | [],l,h=>h
 | p::m,l,h=>xC (m:=m) (Qi h)
theorem uo {x:Pr} : ∀ {m l:List Pr},x∈C1 l m↔x∈l\/x∈m
 | [],l=>by simp[C1]
 | p::m,l=>by
  show x∈C1 (put l p) m↔_;rw[uo,Jj,List.mem_cons];grind
def nub:List Pr->List Pr
 | [] =>[]
 | [a] =>[a]
 | a::b::l=>if a=b then nub (b::l) else a::nub (b::l)
theorem Fq {x:Pr} : ∀ {l:List Pr},x∈nub l↔x∈l
 | [] =>Iff.rfl
 | [a] =>Iff.rfl
 | a::b::l=>by
  rw[nub];split
  ·rename_i e;subst e;rw[Fq];simp
  ·rw[List.mem_cons,Fq,List.mem_cons (l:=b::l)]
theorem Jk: ∀ {l:List Pr},l.Pairwise (fun a b=> ¬ltP b a)->Str (nub l)
 | [],_=>List.Pairwise.nil
 | [a],_=>by simp[nub]
 | a::b::l,h=>by
  obtain ⟨i,e⟩:=List.pairwise_cons.1 h;rw[nub];split
  ·exact Jk e
  ·rename_i g;refine List.pairwise_cons.2 ⟨fun x f=>?_,Jk e⟩;have d:ltP a b:=by
    rcases Ji a b with c | c | c
    ·exact c
    ·exact absurd c g
    ·exact absurd c (i b (List.mem_cons_self ..))
   rcases aA (Fq.1 f) with rfl | f
   ·exact d
   ·rcases Ji b x with c | c | c
    ·exact HA d c
    ·subst c;exact d
    ·exact absurd c ((List.pairwise_cons.1 e).1 x f)
theorem uq {l:List Pr} {f:Pr->Bool} (h:Str l):Str (l.filter f):=List.Pairwise.filter _ h
end D
namespace D
open Go.RowKit
theorem yH {α R:Type} {f:Int->Option (Out R Int)} (l:List α) (b:α->Bool) (r:Nat->R) (q:l.length<=9223372036854775807) (h: ∀i (hi:i<l.length),f (i:Int)=some (if b l[i] then .ret (r i) else .nxt ((i+1:Nat):Int))) (t:f (l.length:Int)=some (.brk (l.length:Int))) :
  (∃(i:Nat) (hi:i<l.length),b l[i] =true/\(∀j (a:j<i),b (l[j]'(by omega))=false)/\aq f aT 0=some (.ret (r i)))\/((∀x,x∈l->b x=false)/\aq f aT 0=some (.brk (l.length:Int))):=by
 obtain ⟨o,e,p⟩:=b9 (f:=f) (fun i s=>s=(i:Int)/\ ∀j (a:j<l.length),j<i->b l[j] =false) (fun o=>(∃(i:Nat) (hi:i<l.length),b l[i] =true/\(∀j (a:j<i),b (l[j]'(by omega))=false)/\o= .ret (r i))\/((∀x,x∈l->b x=false)/\o= .brk (l.length:Int))) l.length (fun i s hi g=>by
  obtain ⟨rfl,g⟩:=g;by_cases d:i<l.length
  ·cases k:b l[i] with
   | true=>exact .inr ⟨_,by rw[h i d,k,if_pos rfl],fun n m=>by simp at m,.inl ⟨i,d,k,fun j a=>g j (by omega) a,by simp⟩⟩
   | false=>exact .inl ⟨d,_,by rw[h i d,k,if_neg (by simp)],rfl,fun j a v=>by
     by_cases c:j=i
     ·subst c;exact k
     ·exact g j a (by omega)⟩
  ·obtain rfl:i=l.length:=by omega
   exact .inr ⟨_,t,fun n m=>by simp at m,.inr ⟨fun x w=>by
    obtain ⟨j,a,rfl⟩:=List.getElem_of_mem w;exact g j a a,rfl⟩⟩) (s:=0) ⟨rfl,fun j a y=>by omega⟩ (gx _ q)
 rcases p with ⟨i,hi,d,u,rfl⟩ | ⟨d,rfl⟩
 ·exact .inl ⟨i,hi,d,u,e⟩
 ·exact .inr ⟨d,e⟩
section
variable {l m:List Pr} {p:Pr}
theorem ZN {a b:Pr} :((a.1==b.1)&&((a.2==b.2)&&true))=decide (a=b):=by
 rw[Bool.eq_iff_iff];simp[Prod.ext_iff]
theorem abi {a b:Pr} :(Bool.and.match_1 (fun (_:Bool)=>Bool) (a.1==b.1) (fun (_:Unit)=>false) (fun (_:Unit)=>Bool.and.match_1 (fun (_:Bool)=>Bool) (a.2==b.2) (fun (_:Unit)=>false) (fun (_:Unit)=>true)))=decide (a=b):=ZN
theorem Xu (d:l.length<=1073741824):qG l p=some (decide (p∈l)):=by
 unfold qG;rcases yH (f:=oe l p) l (fun x=>decide (x=p)) (fun _=>true) (by omega) (fun i a=>by
   unfold oe;rw[cH a,if_pos rfl,aI a];simp only[aa,ZN,af (show i<9223372036854775807 by omega)];split <;> rfl) (by
   unfold oe;rw[cj];rfl) with ⟨i,a,b,-,e⟩ | ⟨b,e⟩
 ·rw[bg e,decide_eq_true (by rw[<-of_decide_eq_true b];exact List.getElem_mem a)]
 ·rw[ah e,decide_eq_false fun c=>by have:=b p c;simp at this]
theorem abj (d:l.length<=1073741824): ∃r:Int,dm l p=some r/\(0<=r↔p∈l):=by
 unfold dm;rcases yH (f:=cM l p) l (fun x=>decide (p=x)) (fun i=>(i:Int)) (by omega) (fun i a=>by
   unfold cM;rw[cH a,if_pos rfl,aI a];simp only[aa,ZN,af (show i<9223372036854775807 by omega)];split <;> rfl) (by
   unfold cM;rw[cj];rfl) with ⟨i,a,b,-,e⟩ | ⟨b,e⟩
 ·exact ⟨_,bg e,by
   have:p∈l:=by rw[of_decide_eq_true b];exact List.getElem_mem a
   simp[this]⟩
 ·exact ⟨_,ah e,by
   have:p∉l:=fun c=>by have:=b p c;simp at this
   simp[this]⟩
theorem ZO (a:l.length<=1073741824):bS l p=some (decide (p∈l)):=by
 unfold bS;obtain ⟨r,e,h⟩:=abj (l:=l) (p:=p) a;rw[jX,e,aa];congr 1;rw[Bool.eq_iff_iff,decide_eq_true_iff,decide_eq_true_iff];exact h
theorem U0 {d:Pr->Bool} {f:Pr->Option Bool} (c: ∀x,f x=some (d x)) (g:l.length<=1073741824) :
  (∃(i:Nat) (hi:i<l.length),d l[i] =true/\(∀j (h:j<i),d (l[j]'(by omega))=false)/\bs l f=some (i:Int))\/((∀x,x∈l->d x=false)/\bs l f=some (-1)):=by
 unfold bs;rcases yH (f:=b7 l f) l d (fun i=>(i:Int)) (by omega) (fun i hi=>by
   unfold b7;rw[cH hi,if_pos rfl,aI hi];simp only[aa,jX,c,af (show i<9223372036854775807 by omega)];split <;> rfl) (by
   unfold b7;rw[cj];rfl) with ⟨i,hi,a,b,e⟩ | ⟨a,e⟩
 ·exact .inl ⟨i,hi,a,b,bg e⟩
 ·exact .inr ⟨a,ah e⟩
theorem KS (c:l.length<=1073741824) (n:m.length<=1073741824):kp l m=some (decide (∃x,x∈l/\x∈m)):=by
 unfold kp db;rcases U0 (l:=l) (d:=fun x=>decide (x∈m)) (f:=fun j=>kH j m) (fun x=>by unfold kH;rw[jX,ZO n];rfl) c with ⟨i,b,a,-,e⟩ | ⟨a,e⟩
 ·rw[e];simp only[aa];congr 1;rw[Bool.eq_iff_iff,decide_eq_true_iff,decide_eq_true_iff];exact ⟨fun _=>⟨_,List.getElem_mem b,of_decide_eq_true a⟩,fun _=>by omega⟩
 ·rw[e];simp only[aa];congr 1;rw[Bool.eq_iff_iff,decide_eq_true_iff,decide_eq_true_iff];exact ⟨fun h=>by omega,fun ⟨x,g,k⟩=>by have:=a x g;simp[k] at this⟩
theorem KT (a b:Pr):mG a b=some (decide (ltP a b)):=by
 unfold mG ltP;by_cases h:a.1<b.1
 ·simp[h]
 ·by_cases k:a.1=b.1 <;> simp[h,k]
theorem ZP (a b:Pr): ∃r:Int,iF a b=some r/\(0<=r↔ ¬ltP a b):=by
 unfold iF lU ltP;by_cases k:a.1=b.1
 ·by_cases h:a.2<b.2
  ·exact ⟨-1,by simp[k,h],by simp[k,h]⟩
  ·by_cases c:b.2<a.2
   ·exact ⟨1,by simp[k,h,c],by simp[k,h]⟩
   ·exact ⟨0,by simp[k,h,c],by simp[k,h]⟩
 ·by_cases h:a.1<b.1
  ·exact ⟨-1,by simp[k,h],by simp[k,h]⟩
  ·have c:b.1<a.1:=by omega
   exact ⟨1,by simp[k,h,c],by simp[k,h]⟩
theorem xD:hY l=ff l:=by
 unfold hY ff;have e:fx l=jz l:=by
  funext s;unfold fx jz;have b:dj=bK:=rfl;rw[b];cases f:aP l s with
  | none=>rfl
  | some x =>
   have d: ∀y:Pr,((mG (y.1,y.2) (x.1,x.2)).bind fun a=>if a=true then some (Out.nxt (R:=Bool) (i64.wrap (s+1))) else some (Out.ret false))=((iF (y.1,y.2) (x.1,x.2)).bind fun a=>if decide (a≥0)=true then some (Out.ret false) else some (Out.nxt (i64.wrap (s+1)))):=fun y=>by
    rw[KT];obtain ⟨r,e,h⟩:=ZP (y.1,y.2) (x.1,x.2);rw[e];simp only[aa,jX] at h⊢;by_cases c:ltP y x
    ·rw[if_pos (decide_eq_true c),if_neg (by simpa using fun q=>(h.1 q) c)]
    ·rw[if_neg (by simpa using c),if_pos (by simpa using h.2 c)]
   simp only[aa,d]
 rw[e]
end
theorem Xv (l:List Pr) (p:Pr):(put l p).length<=l.length+1:=by
 have:=Qh p l
 unfold put;split
 ·omega
 ·rw[az,aB,aH,bP];omega
theorem ur: ∀(m l:List Pr),(C1 l m).length<=l.length+m.length
 | [],l=>aL _
 | p::m,l=>by
  have b:=ur m (put l p);have a:=Xv l p;show (C1 (put l p) m).length<=_;rw[aH];omega
theorem Qj (l m:List Pr) (p:Pr):C1 l (m++ [p])=put (C1 l m) p:=by simp[C1]
theorem abk (l:List Pr) (p:Pr) (w:l.length<=1073741824):uc l p=some (put l p):=by
 have u:=Qh p l;have e:aq (oh l p) aT 0=some (.brk ((ahd p l:Nat):Int)):=by
  obtain ⟨o,e,rfl⟩:=b9 (f:=oh l p) (fun i s=>s=(i:Int)) (fun o=>o= .brk ((ahd p l:Nat):Int)) (ahd p l) (fun i s v q=>by
   subst q;unfold oh;by_cases b:i<ahd p l
   ·obtain ⟨x,c,k⟩:=UY p l i b;have a:i<l.length:=by omega
    rw[List.getElem?_eq_getElem a] at c;obtain rfl:=ae c;refine .inl ⟨b,((i+1:Nat):Int),?_,rfl⟩;rw[cH a,if_pos rfl,aI a];simp only[aa,KT,jX];rw[if_pos (decide_eq_true k),af (by omega)]
   ·obtain rfl:i=ahd p l:=by omega
    refine .inr ⟨_,?_,fun t m=>(by simp at m),rfl⟩;by_cases a:ahd p l<l.length
    ·have g:=UZ p l _ (List.getElem?_eq_getElem a);rw[cH a,if_pos rfl,aI a];simp only[aa,KT,jX];rw[if_neg (by simpa using g)]
    ·rw[if_neg (by simp;omega)]) (s:=0) rfl (gx _ (by omega))
  exact e
 unfold uc;rw[ah e];have d:chk ((0:Int)<=((ahd p l:Nat):Int)/\((ahd p l:Nat):Int)<=(l.length:Int))=some ():=if_pos (by omega);have n:bM 16 ([] :List Pr) ((l.take (ahd p l)).drop 0)=some (l.take (ahd p l)):=by
  rw[List.drop_zero,ay (by simp only[aJ,aB];omega)];rfl
 have j:bM 16 (l.take (ahd p l)) [p] =some (l.take (ahd p l)++ [p]):=ay (by simp only[List.length_singleton,aB];omega);have r:bM 16 (l.take (ahd p l)++ [p]) ((l.take l.length).drop (ahd p l))=some (l.take (ahd p l)++p::l.drop (ahd p l)):=by
  rw[List.take_of_length_le (aL _),ay (by simp only[az,List.length_singleton,aB,bP];omega),aC];rfl
 simp only[d,aa,Int.toNat_natCast,n,j,r,jX];unfold put;by_cases a:ahd p l<l.length
 ·rw[cH a,if_pos rfl,aI a];simp only[aa,abi];rw[List.getElem?_eq_getElem a];by_cases h:l[ahd p l] =p
  ·rw[if_pos (decide_eq_true h),if_pos (by rw[h])]
  ·rw[if_neg (by simpa using h),if_neg (by simpa using h)]
 ·rw[if_neg (by simp;omega),List.getElem?_eq_none (by omega),if_neg (by simp)]
theorem oF {a b:List Pr} (l:a.length<=67108864) (k:b.length<=67108864):gR a b=some (C1 [] (a.filter fun x=> !decide (x∈b))):=by
 unfold gR;obtain ⟨m,j,rfl⟩:=eW (f:=gB a b) (fun i s=>s=(C1 [] ((a.take i).filter fun x=> !decide (x∈b)),(i:Int))) a.length (fun i s c g=>by
  subst g;have d:=ur ((a.take i).filter fun x=> !decide (x∈b)) [];have e:=List.length_filter_le (fun x=> !decide (x∈b)) (a.take i);rw[aB] at e;refine ⟨_,?_,rfl⟩;unfold gB;rw[cH c,if_pos rfl,aI c];simp only[aa,jX];rw[Xu (by omega)];simp only[aa];rw[af (by omega),List.take_succ_eq_append_getElem c,List.filter_append];by_cases h:a[i] ∈ b
  ·rw[if_pos (decide_eq_true h)];simp[h]
  ·rw[if_neg (by simpa using h),abk _ _ (by simp only[aJ] at d;omega)];simp only[aa];rw[show [a[i]].filter (fun x=> !decide (x∈b))= [a[i]] from by simp[h],Qj]) (fun s g=>by
  subst g;unfold gB;rw[cj];rfl) (s:=(([] :List Pr),0)) rfl (gx _ (by omega))
 rw[ah j,List.take_of_length_le (aL _)]
theorem abl {d:Pr->Bool} {f:Pr->Option Bool} (y: ∀x,f x=some (d x)) (xs:List Pr) (G:xs.length<=1073741824):cw xs f=some (xs.filter fun x=> !d x):=by
 unfold cw;rcases U0 (l:=xs) (d:=d) (f:=f) y G with ⟨r,C,o,E,e⟩ | ⟨o,e⟩
 ·rw[e];simp only[aa];have v:(((r:Nat):Int) == -1)=false:=beq_eq_false_iff_ne.2 (by omega);rw[v];simp only[Bool.false_eq_true,if_false];rw[af (by omega)];have c:(xs.take (r+1)).filter (fun x=> !d x)=xs.take r:=by
   rw[List.take_succ_eq_append_getElem C,List.filter_append];rw[show [xs[r]].filter (fun x=> !d x)= [] from by simp[o],List.append_nil,List.filter_eq_self];intro a n;obtain ⟨j,k,rfl⟩:=List.getElem_of_mem n;rw[aB] at k;rw[List.getElem_take,E j (by omega)];rfl
  obtain ⟨s,F,b,rfl,i,g,h,p⟩:=eW (f:=bW f) (fun t s=> ∃b:List Pr,s=((((xs.take (r+1+t)).filter (fun x=> !d x)).length:Int),((r+1+t:Nat):Int),b)/\b.length=xs.length/\b.take ((xs.take (r+1+t)).filter (fun x=> !d x)).length=(xs.take (r+1+t)).filter (fun x=> !d x)/\b.drop (r+1+t)=xs.drop (r+1+t)/\((xs.take (r+1+t)).filter (fun x=> !d x)).length<=r+t) (xs.length - (r+1)) (fun t s I u=>by
   obtain ⟨b,rfl,i,g,h,p⟩:=u;have k:r+1+t<xs.length:=by omega
   unfold bW;rw[show ((b.length:Nat):Int)=(xs.length:Int) from by rw[i],cH k,if_pos rfl,aI (xs:=b) (by omega),xA h (aL _) (by omega) k];simp only[aa,jX,y];have q:(xs.take (r+1+(t+1))).filter (fun x=> !d x)=(xs.take (r+1+t)).filter (fun x=> !d x)++ [xs[r+1+t]].filter (fun x=> !d x):=by
    rw[<-List.filter_append,<-List.take_succ_eq_append_getElem k];rfl
   generalize (xs.take (r+1+t)).filter (fun x=> !d x)=K at *;rw[q];cases A:d xs[r+1+t] with
   | true =>
    rw[if_pos rfl];simp only[aa];rw[af (by omega),show [xs[r+1+t]].filter (fun x=> !d x)= [] from by simp[A],List.append_nil];exact ⟨_,rfl,b,rfl,i,g,xz h,by omega⟩
   | false =>
    rw[if_neg (by simp),aI (xs:=b) (by omega)];simp only[aa];rw[af (by omega),af (by omega),show [xs[r+1+t]].filter (fun x=> !d x)= [xs[r+1+t]] from by simp[A]];refine ⟨_,rfl,b.set K.length xs[r+1+t],?_,by simpa using i,?_,?_,?_⟩
    ·rw[az,List.length_singleton];rfl
    ·rw[az,List.length_singleton,Fk (by omega),g]
    ·rw[set_drop (by omega)];exact xz h
    ·rw[az,List.length_singleton];omega) (fun s u=>by
   obtain ⟨b,rfl,i,g,h,p⟩:=u;unfold bW;rw[if_neg (by simp;omega)]) (s:=(((r:Nat):Int),((r+1:Nat):Int),xs)) ⟨xs,by rw[Nat.add_zero,c,aB,Nat.min_eq_left (by omega)],rfl,by rw[Nat.add_zero,c,aB,Nat.min_eq_left (by omega)],rfl,by rw[Nat.add_zero,c,aB];omega⟩ (gx _ (by omega))
  rw[ah F];have m:xs.take (r+1+(xs.length - (r+1)))=xs:=List.take_of_length_le (by omega);rw[m] at g p⊢;generalize (xs.filter fun x=> !d x)=K at *;have w:K.length<=b.length:=by omega
  have B:((0:Int)+((K.length:Nat):Int)).toNat=K.length:=by omega
  have H:((0:Int)+(((b.length:Nat):Int) - 0)).toNat=b.length:=by omega
  simp only[B,H];have D:=Cj (z:=((0,0):Pr)) w;rw[uz (by omega),aa,uz (by omega),aa,uz (by rw[D];omega),aa,yG w,g,List.drop_zero]
 ·rw[e];simp only[aa];rw[if_pos (by rfl)];congr 1;exact (List.filter_eq_self.2 fun a n=>by rw[o a n];rfl).symm
theorem KU: ∀(l:List Pr) (b:Pr),l≠ [] ->nub (l++ [b])=if l.getLast? =some b then nub l else nub l++ [b]
 | [],b,h=>absurd rfl h
 | [a],b,_=>by
  by_cases e:a=b
  ·subst e;simp[nub]
  ·simp[nub,e]
 | a::c::l,b,_=>by
  have d:=KU (c::l) b (by simp);have f:(a::c::l).getLast? =(c::l).getLast? :=by simp[List.getLast?_cons_cons]
  rw[f];show nub (a::c::(l++ [b]))=_;rw[nub,nub];rw[show c::(l++ [b])=(c::l)++ [b] from rfl,d];by_cases e:a=c
  ·rw[if_pos e,if_pos e]
  ·rw[if_neg e,if_neg e];split <;> simp
theorem Fs {xs:List Pr} {j:Nat} (c:0<j) (h:j<xs.length):nub (xs.take (j+1))=if xs[j - 1] =xs[j] then nub (xs.take j) else nub (xs.take j)++ [xs[j]]:=by
 rw[List.take_succ_eq_append_getElem h,KU _ _ (by
  intro e;have a:=congrArg List.length e;rw[aB,Nat.min_eq_left (Nat.le_of_lt h),aJ] at a;omega)]
 have b:(xs.take j).getLast? =some xs[j - 1]:=by
  rw[List.getLast?_eq_getElem?,aB,Nat.min_eq_left (Nat.le_of_lt h),List.getElem?_take,if_pos (show j - 1<j by omega),List.getElem?_eq_getElem (show j - 1<xs.length by omega)]
 rw[b];by_cases e:xs[j - 1] =xs[j]
 ·rw[if_pos (by rw[e]),if_pos e]
 ·rw[if_neg (by simpa using e),if_neg e]
theorem KV {xs:List Pr} : ∀(j:Nat),j<=xs.length->(∀q (b:q<j) (e:0<q) (g:j<=xs.length),xs[q - 1]'(by omega)≠xs[q]'(by omega))->nub (xs.take j)=xs.take j
 | 0,_,_=>by simp[nub]
 | 1,h,_=>by
  cases xs with
  | nil=>simp[nub]
  | cons a l=>simp[nub]
 | j+2,h,b=>by
  rw[Fs (by omega) (by omega),if_neg (b (j+1) (by omega) (by omega) h),KV (j+1) (by omega) (fun q d c f=>b q (by omega) c h),<-List.take_succ_eq_append_getElem]
theorem Jl (l:List Pr) (v:l.length<=1073741824): ∃b,ff l=some b:=by
 unfold ff;obtain ⟨o,e,p⟩:=b9 (f:=jz l) (fun i s=>s=(i:Int)) (fun o=>o= .ret false\/ ∃s,o= .brk s) l.length (fun i s u t=>by
  subst t;unfold jz bK;by_cases j:i<l.length
  ·rw[cH j,if_pos rfl,aI j,af (by omega)];have fin: ∀c:Prop,[Decidable c] ->(i<l.length/\ ∃a,(if c then some (.ret false) else some (.nxt ((i+1:Nat):Int)):Option (Out Bool Int))=some (.nxt a)/\a=((i+1:Nat):Int))\/ ∃o,(if c then some (.ret false) else some (.nxt ((i+1:Nat):Int)):Option (Out Bool Int))=some o/\(∀a,o≠ .nxt a)/\(o= .ret false\/ ∃s,o= .brk s):=by
    intro c _;split
    ·exact .inr ⟨_,rfl,fun a h=>by simp at h,.inl rfl⟩
    ·exact .inl ⟨j,_,rfl,rfl⟩
   have bad:(i<l.length/\ ∃a,(some (.ret false):Option (Out Bool Int))=some (.nxt a)/\a=((i+1:Nat):Int))\/ ∃o,(some (.ret false):Option (Out Bool Int))=some o/\(∀a,o≠ .nxt a)/\(o= .ret false\/ ∃s,o= .brk s):=.inr ⟨_,rfl,fun a h=>by simp at h,.inl rfl⟩;have good:(i<l.length/\ ∃a,(some (.nxt ((i+1:Nat):Int)):Option (Out Bool Int))=some (.nxt a)/\a=((i+1:Nat):Int))\/ ∃o,(some (.nxt ((i+1:Nat):Int)):Option (Out Bool Int))=some o/\(∀a,o≠ .nxt a)/\(o= .ret false\/ ∃s,o= .brk s):=.inl ⟨j,_,rfl,rfl⟩;by_cases d:l[i].1≥0
   ·by_cases g:l[i].1<=4
    ·by_cases k:l[i].2≥0
     ·by_cases m:l[i].2<=4
      ·by_cases n:(i:Int)>0
       ·have hp:i64.wrap ((i:Int) - 1)=((i - 1:Nat):Int):=by rw[bA (by omega) (by omega)];omega
        obtain ⟨r,q,-⟩:=ZP l[i - 1] l[i];simp only[aa,d,g,k,m,n,decide_true,if_true,hp,aI (show i - 1<l.length by omega),jX,q];exact fin _
       ·simp only[aa,d,g,k,m,n,decide_true,if_true,decide_false,Bool.false_eq_true,if_false];exact good
      ·simp only[aa,d,g,k,m,decide_true,if_true,decide_false,Bool.false_eq_true,if_false];exact bad
     ·simp only[aa,d,g,k,decide_true,if_true,decide_false,Bool.false_eq_true,if_false];exact bad
    ·simp only[aa,d,g,decide_true,if_true,decide_false,Bool.false_eq_true,if_false];exact bad
   ·simp only[aa,d,decide_false,Bool.false_eq_true,if_false];exact bad
  ·obtain rfl:i=l.length:=by omega
   rw[cj];exact .inr ⟨_,rfl,fun a h=>by simp at h,.inr ⟨_,rfl⟩⟩) (s:=0) rfl (gx _ (by omega))
 rcases p with rfl | ⟨s,rfl⟩
 ·exact ⟨_,bg e⟩
 ·exact ⟨_,ah e⟩
theorem Qk (xs:List Pr) (X:xs.length<=1073741824):cU xs=some (nub xs):=by
 unfold cU;by_cases Q:xs.length<2
 ·rw[if_pos (by simp;omega)];cases xs with
  | nil=>rfl
  | cons a l =>
   cases l with
   | nil=>rfl
   | cons b l=>simp only[aH] at Q;omega
 rw[if_neg (by simp;omega)];have key:(aq (bH xs) aT 1=some (.ret (nub xs)))\/(∃s,aq (bH xs) aT 1=some (.brk s)/\nub xs=xs):=by
  obtain ⟨o,e,P⟩:=b9 (f:=bH xs) (fun t s=>s=((t+1:Nat):Int)/\nub (xs.take (t+1))=xs.take (t+1)) (fun o=>o= .ret (nub xs)\/ ∃s,o= .brk s/\nub xs=xs) (xs.length - 1) (fun t s Y i=>by
   obtain ⟨rfl,i⟩:=i;unfold bH;by_cases r:t+1<xs.length
   ·have hp:((t+1:Nat):Int) - 1=((t:Nat):Int):=by omega
    rw[cH r,if_pos rfl,aI r,bA (n:=((t+1:Nat):Int) - 1) (by omega) (by omega),hp,aI (show t<xs.length by omega)];simp only[aa,abi];have k:=Fs (xs:=xs) (j:=t+1) (by omega) r;rw[i] at k;simp only[Nat.add_sub_cancel] at k;by_cases C:xs[t+1] =xs[t]
    ·rw[if_pos (decide_eq_true C),uz (by omega),aa];rw[if_pos C.symm] at k;have m:(xs.take (t+1)).length=t+1:=by rw[aB];omega
     obtain ⟨s,S,c,rfl,B,d,p,g⟩:=eW (f:=cx xs ((t+1:Nat):Int)) (fun u s=> ∃c:List Pr,s=(((nub (xs.take (t+2+u))).length:Int),((u+1:Nat):Int),c)/\c.length=xs.length/\c.take (nub (xs.take (t+2+u))).length=nub (xs.take (t+2+u))/\c.drop (t+1+u)=xs.drop (t+1+u)/\(nub (xs.take (t+2+u))).length<=t+1+u) (xs.length - (t+2)) (fun u s W i=>by
      obtain ⟨c,rfl,B,d,p,g⟩:=i;have G:t+2+u<xs.length:=by clear g d;omega
      have E:t+1+u<xs.length:=by clear g d;omega
      have x:t+2+u<c.length:=by clear g d;omega
      have w:t+1+u<c.length:=by clear g d;omega
      have R:(0+((t+1:Nat):Int))+((u+1:Nat):Int)=((t+2+u:Nat):Int):=by omega
      have O:((u+1:Nat):Int) - 1=((u:Nat):Int):=by omega
      have U:(0+((t+1:Nat):Int))+((u:Nat):Int)=((t+1+u:Nat):Int):=by omega
      unfold cx;dsimp only;rw[if_pos (by simp;omega),uz (by omega)];simp only[aa];rw[bA (n:=((u+1:Nat):Int) - 1) (by omega) (by omega),R,O,U,aI (xs:=c) x,aI (xs:=c) w,uz (by omega),xA p (by omega) x G,xA p (aL _) w E];simp only[aa,abi,jX];have L:t+2+u - 1=t+1+u:=by clear g d;omega
      have I:0<t+2+u:=by clear g d;omega
      have v:=Fs (xs:=xs) (j:=t+2+u) I G;simp only[L] at v;have F:=xz p;rw[show t+1+u+1=t+1+(u+1) from by omega] at F;rw[show t+2+(u+1)=t+2+u+1 from by omega,v];generalize nub (xs.take (t+2+u))=K at *;by_cases A:xs[t+2+u] =xs[t+1+u]
      ·rw[if_pos (decide_eq_true A),if_pos A.symm];simp only[aa];rw[af (by omega)];exact ⟨_,rfl,c,rfl,B,d,F,by omega⟩
      ·rw[if_neg (by simpa using A),if_neg (fun e=>A e.symm),aI (xs:=c) (show K.length<c.length by omega)];simp only[aa];rw[af (by omega),af (by omega)];refine ⟨_,rfl,c.set K.length xs[t+2+u],?_,by simpa using B,?_,?_,?_⟩
       ·rw[az,List.length_singleton];rfl
       ·rw[az,List.length_singleton,Fk (by omega),d]
       ·rw[set_drop (by omega)];exact F
       ·rw[az,List.length_singleton];omega) (fun s i=>by
      obtain ⟨c,rfl,B,d,p,g⟩:=i;unfold cx;rw[if_neg (by simp;omega)]) (s:=(((t+1:Nat):Int),1,xs)) ⟨xs,by rw[Nat.add_zero,k,m];rfl,rfl,by rw[Nat.add_zero,k,m],rfl,by rw[Nat.add_zero,k,m];omega⟩ (gx _ (by omega))
     refine .inr ⟨.ret (nub xs),?_,fun M D=>(by simp at D),.inl rfl⟩;rw[ah S];have y:xs.take (t+2+(xs.length - (t+2)))=xs:=List.take_of_length_le (by omega);rw[y] at d g⊢;generalize nub xs=K at *;have H:K.length<=c.length:=by omega
     have J:((0:Int)+((K.length:Nat):Int)).toNat=K.length:=by omega
     have T:((0:Int)+(((c.length:Nat):Int) - 0)).toNat=c.length:=by omega
     simp only[J,T];have N:=Cj (z:=((0,0):Pr)) H;rw[uz (by omega),aa,uz (by omega),aa,uz (by rw[N];omega),aa,yG H,d,List.drop_zero]
    ·rw[if_neg (by simpa using C),af (by omega)];rw[if_neg (fun e=>C e.symm),<-List.take_succ_eq_append_getElem r] at k;exact .inl ⟨by omega,_,rfl,rfl,k⟩
   ·refine .inr ⟨.brk ((t+1:Nat):Int),?_,fun M D=>(by simp at D),.inr ⟨_,rfl,?_⟩⟩
    ·rw[if_neg (by simp;omega)]
    ·rw[List.take_of_length_le (by omega)] at i;exact i) (s:=1) ⟨rfl,KV 1 (by omega) (fun q r V=>by omega)⟩ (gx _ (by omega))
  rcases P with rfl | ⟨s,rfl,h⟩
  ·exact .inl e
  ·exact .inr ⟨s,e,h⟩
 rcases key with e | ⟨s,e,h⟩
 ·rw[bg e]
 ·rw[ah e,h]
def X0 (l:List Pr):List Pr:=nub (R.L5 R.L6 l)
theorem Tx (l:List Pr):(R.L5 R.L6 l).Pairwise (fun a b=> ¬ltP b a):=by
 have d: ∀a b:Pr,(!(ltOf R.L6 b a))=true↔ ¬ltP b a:=fun a b=>by
  rw[Bool.not_eq_true',R.Ac];rfl
 have h:=List.pairwise_mergeSort (le:=fun x y=> !(ltOf R.L6 y x)) (fun a b c e f=>by
  rw[d] at *;intro h;unfold ltP at *;omega) (fun a b=>by
  rw[Bool.or_eq_true,d,d];unfold ltP;omega) l
 exact h.imp fun {a b} h=>(d a b).1 h
theorem KW (l:List Pr):Str (X0 l):=Jk (Tx l)
theorem KX {l:List Pr} {x:Pr} :x∈X0 l↔x∈l:=by
 unfold X0;rw[Fq];exact List.mem_mergeSort
theorem U1 (l:List Pr) (a:l.length<=268435456):o8 l=some (X0 l):=by
 unfold o8 dO R.SF;rw[ay (by simp only[aJ];omega)];simp only[aa,List.nil_append];rw[uz (by omega)];simp only[aa];rw[Qk _ (by rw[R.GR];omega)]
 rfl
theorem HB (l:List Pr):X0 l=C1 [] l:=xB (KW l) (xC List.Pairwise.nil) fun x=>by rw[KX,uo];simp
theorem Tz {a b:List Pr} (f:a.length<=67108864) (e:b.length<=67108864):dP a b=some (C1 [] (a.filter fun x=> !decide (x∈b))):=by
 have c:(X0 a).length<=a.length:=by rw[HB];have:=ur a [];simpa using this
 unfold dP;rw[U1 a (by omega)];simp only[aa];rw[abl (d:=fun x=>decide (x∈b)) (fun x=>by unfold kS;rw[jX,ZO (by omega)];rfl) _ (by omega)];simp only[aa];congr 1;refine xB (uq (KW a)) (xC List.Pairwise.nil) fun x=>?_;rw[uo,List.mem_filter,List.mem_filter,KX];simp
theorem abm {a b:List Pr} (c:a.length<=67108864) (d:b.length<=67108864):ng a b=some (C1 [] (a++b)):=by
 unfold ng;rw[ay (by simp only[aJ];omega)];simp only[aa,List.nil_append];rw[ay (by omega)];simp only[aa];rw[U1 _ (by rw[az];omega),HB];rfl
abbrev PsT:Type:=List (Int×Int)
abbrev MsT:Type:=Int×Bool×(PsT×PsT)
theorem zu {d:PsT×PsT} (h1:d.1.length<=1048576) (o:d.2.length<=1048576): ∃b,mI d=some b/\mH d=some b:=by
 obtain ⟨j,k⟩:=Jl d.1 (by omega);obtain ⟨h,m⟩:=Jl d.2 (by omega);unfold mI mH;rw[xD,xD,k,m,KS (by omega) (by omega)];rcases yH (f:=fg d) d.1 (fun x=>decide (x∈d.2)) (fun _=>false) (by omega) (fun i a=>by
   unfold fg;rw[cH a,if_pos rfl,aI a];simp only[aa,jX];rw[Xu (by omega)];simp only[aa,af (show i<9223372036854775807 by omega)];split <;> rfl) (by
   unfold fg;rw[cj];rfl) with ⟨i,a,c,-,e⟩ | ⟨c,e⟩
 ·rw[bg e];have g:decide (∃x,x∈d.1/\x∈d.2)=true:=decide_eq_true ⟨_,List.getElem_mem a,of_decide_eq_true c⟩;rw[g];refine ⟨false,rfl,?_⟩;cases j <;> cases h <;> rfl
 ·rw[ah e];have g:decide (∃x,x∈d.1/\x∈d.2)=false:=decide_eq_false fun ⟨x,n,l⟩=>by have:=c x n;simp[l] at this
  rw[g];cases j <;> cases h <;> exact ⟨_,rfl,rfl⟩
theorem TA (l:List Pr) (f:Pr->Bool):(C1 [] (l.filter f)).length<=l.length:=by
 have a:=ur (l.filter f) [];have b:=List.length_filter_le f l;rw[aJ] at a;omega
theorem ZQ (l:PsT) (h:l.length<=1048576):dY l=some l:=by
 unfold dY;rw[ay (by simp only[aJ];omega)];rfl
def PsOk (l:List (Int×Int)):Prop:=Str l/\ ∀p∈l,(0<=p.1/\p.1<=4)/\0<=p.2/\p.2<=4
theorem PsOk.nil:PsOk []:=⟨List.Pairwise.nil,fun p h=>by cases h⟩
theorem PsOk.filter {l:List (Int×Int)} (h:PsOk l) (f:Int×Int->Bool):PsOk (l.filter f):=⟨uq h.1,fun p hp=>h.2 p (List.mem_filter.1 hp).1⟩
theorem HC {l:List (Int×Int)} (h:Str l):C1 [] l=l:=xB (xC List.Pairwise.nil) h fun x=>by rw[uo];simp
theorem KY {l:List (Int×Int)} (h:PsOk l) (m:l.length<=1048576):hY l=some true:=by
 unfold hY;have e:=aO (f:=fx l) (fun i=>(i:Int)) l.length (fun i a=>by
  obtain ⟨⟨g,d⟩,k,j⟩:=h.2 _ (List.getElem_mem a);unfold fx;rw[cH a,if_pos rfl,aI a];simp only[aa];rw[E5,decide_eq_true ⟨g,d⟩];simp only[aa,if_true];rw[E5,decide_eq_true ⟨k,j⟩];simp only[aa,if_true];by_cases c:(i:Int)>0
  ·have hp:i64.wrap ((i:Int) - 1)=((i - 1:Nat):Int):=by rw[bA (by omega) (by omega)];omega
   rw[if_pos (decide_eq_true c),hp,aI (show i - 1<l.length by omega)];simp only[aa,jX];have b:ltP l[i - 1] l[i]:=List.pairwise_iff_getElem.1 h.1 (i - 1) i (by omega) a (by omega);rw[KT,decide_eq_true b];simp only[aa,if_true];rw[af (by omega)]
  ·rw[if_neg (by simpa using c),af (by omega)]) (by
  unfold fx;rw[cj];rfl) (kz (by omega))
 have e:aq (fx l) aT 0=_:=e;rw[ah e]
theorem MH {d:PsT×PsT} (h1:PsOk d.1) (g:PsOk d.2) (c:d.1.length<=1048576) (b:d.2.length<=1048576) (h: ∀p∈d.1,p∉d.2):mI d=some true:=by
 unfold mI;have e:=aO (f:=fg d) (fun i=>(i:Int)) d.1.length (fun i a=>by
  unfold fg;rw[cH a,if_pos rfl,aI a];simp only[aa,jX];rw[Xu (by omega),decide_eq_false (h _ (List.getElem_mem a))];simp only[aa];rw[if_neg (by simp),af (by omega)]) (by
  unfold fg;rw[cj];rfl) (kz (by omega))
 have e:aq (fg d) aT 0=_:=e;rw[ah e,KY h1 c];simp only[aa,if_true];rw[KY g b];rfl
def dlt (a b:PsT):PsT×PsT:=(b.filter (fun x=> !decide (x∈a)),a.filter (fun x=> !decide (x∈b)))
theorem ZR {a b:PsT} (d:PsOk a) (c:PsOk b) (f:a.length<=1000000) (e:b.length<=1000000):dE a b=some (dlt a b):=by
 unfold dE;rw[oF (by omega) (by omega),oF (by omega) (by omega)];simp only[aa];rw[HC (uq c.1),HC (uq d.1)];rfl
theorem Ql {a b:PsT} (k:PsOk a) (j:PsOk b) (F:a.length<=1000000) (C:b.length<=1000000):kt a (dlt a b)=some (b,true):=by
 have D:(dlt a b).1.length<=b.length:=List.length_filter_le _ _;have G:(dlt a b).2.length<=a.length:=List.length_filter_le _ _;have r: ∀p∈(dlt a b).1,p∉a:=fun p hp=>by
  have:=(List.mem_filter.1 hp).2
  simpa using this
 have n: ∀p∈(dlt a b).2,p∈a:=fun p hp=>(List.mem_filter.1 hp).1;have s: ∀p∈(dlt a b).1,p∉(dlt a b).2:=fun p hp u=>r p hp (n p u);have o:=MH (d:=dlt a b) (j.filter _) (k.filter _) (by omega) (by omega) s;obtain ⟨E,w,i⟩:=zu (d:=dlt a b) (by omega) (by omega);rw[w] at o;obtain rfl:=ae o;have i:mH ((dlt a b).1,(dlt a b).2)=_:=i;have q:=KY k (by omega);rw[xD] at q;unfold kt;rw[i];simp only[aa,if_true];rw[q];simp only[aa,if_true];rw[KS (l:=a) (m:=(dlt a b).1) (by omega) (by omega),decide_eq_false (fun ⟨x,g,f⟩=>r x f g)];simp only[aa,Bool.false_eq_true,if_false];rw[Tz (a:=(dlt a b).2) (b:=a) (by omega) (by omega)];simp only[aa];have t:((dlt a b).2.filter fun x=> !decide (x∈a))= []:=by
  rw[List.filter_eq_nil_iff];intro x z;simp[n x z]
 rw[t,if_neg (by decide)];rw[Tz (a:=a) (b:=(dlt a b).2) (by omega) (by omega)];simp only[aa];have B:(C1 [] (a.filter fun x=> !decide (x∈(dlt a b).2))).length<=a.length:=TA a _;rw[abm (by omega) (by omega)];simp only[aa];have e:C1 [] (C1 [] (a.filter fun x=> !decide (x∈(dlt a b).2))++(dlt a b).1)=b:=by
  refine xB (xC List.Pairwise.nil) j.1 fun x=>?_;rw[uo,List.mem_append,uo,List.mem_filter];have A:x∈(dlt a b).1↔x∈b/\x∉a:=by
   show x∈b.filter _↔_;rw[List.mem_filter];simp
  have v:x∈(dlt a b).2↔x∈a/\x∉b:=by
   show x∈a.filter _↔_;rw[List.mem_filter];simp
  rw[A];simp only[v,List.not_mem_nil,false_or,Bool.not_eq_true',decide_eq_false_iff_not];constructor
  ·rintro (⟨g,f⟩ | h)
   ·exact Classical.byContradiction fun y=>f ⟨g,y⟩
   ·exact h.1
  ·intro h;by_cases c:x∈a
   ·exact .inl ⟨c,fun f=>f.2 h⟩
   ·exact .inr ⟨h,c⟩
 rw[e]
theorem Cm (m:Nat): ∀k,(fF m k).Pairwise (· < ·)/\ ∀x∈fF m k,0<=x/\x<(k:Int)
 | 0=>⟨List.Pairwise.nil,fun x h=>by cases h⟩
 | k+1=>by
  obtain ⟨e,d⟩:=Cm m k;rw[jY];split
  ·refine ⟨List.pairwise_append.2 ⟨e,List.pairwise_singleton _ _,fun a g b f=>?_⟩,fun x c=>?_⟩
   ·rw[ak f];exact (d a g).2
   ·rcases aG c with c | c
    ·have:=d x c;omega
    ·rw[ak c];omega
  ·exact ⟨e,fun x c=>by have:=d x c;omega⟩
theorem Xw {g:GrT} {a:AutT} (H:GOOD g a) {x:Int} : ∀y∈Qe g a x,0<=y/\y<=4:=fun y b=>by
 unfold Qe at b;rw[ra (Fo H _ (aL _)) (show 5<=30 by omega)] at b
 have:=(Cm _ 5).2 y b
 omega
theorem Qm {g:GrT} {a:AutT} (H:GOOD g a): ∀N,N<=5->Str (MG g a N)/\ ∀p∈MG g a N,(0<=p.1/\p.1<(N:Int))/\0<=p.2/\p.2<=4
 | 0,_=>⟨List.Pairwise.nil,fun p h=>by cases h⟩
 | N+1,hN=>by
  obtain ⟨i,d⟩:=Qm H N (by omega);rw[MG];have b: ∀p∈(Qe g a (N:Int)).map (fun y=>((N:Int),y)),p.1=(N:Int)/\0<=p.2/\p.2<=4:=fun p hp=>by
   obtain ⟨y,k,rfl⟩:=List.mem_map.1 hp;exact ⟨rfl,Xw H y k⟩
  refine ⟨List.pairwise_append.2 ⟨i,?_,fun p hp q e=>?_⟩,fun p hp=>?_⟩
  ·rw[List.pairwise_map];refine ((Cm _ 30).1).imp fun {u v} c=>?_;exact .inr ⟨rfl,c⟩
  ·have j:=(d p hp).1;have f:=(b q e).1;exact .inl (by rw[f];exact j.2)
  ·rcases aG hp with hp | hp
   ·have:=d p hp;omega
   ·have:=b p hp;omega
theorem MI {r:pB} (k:Data.sm r) {g:GrT} (d:Data.sm g) (id:Int) {l:List (Int×Int)} {b:Bool} (h:aS r g id=some (l,b)):PsOk l:=by
 obtain ⟨m,o,e,-,-,a,q,v,y,t,-,-,u,c⟩:=zr k d id;rw[h] at e;obtain ⟨rfl,rfl⟩:l=m/\b=o:=by simpa using e
 cases b with
 | false=>rw[u rfl];exact PsOk.nil
 | true =>
  have c:=c rfl;obtain ⟨x,z,-,-,f,-,w,j⟩:=KQ g a d t;rw[c] at f;obtain rfl:=ae f;cases x with
  | false=>rw[w rfl];exact PsOk.nil
  | true =>
   obtain ⟨K,rfl⟩:=j rfl;have n:=K.1.n5;obtain ⟨s,i⟩:=Qm K g.1.length n;exact ⟨s,fun p hp=>by have:=i p hp;omega⟩
abbrev su:=Int×(List GrT)
abbrev zN:=Int×Int×Int
abbrev Cn:=Int×Bool×(Yq4×Yq4)
theorem qo (g:GrT) (a:Data.sm g):bZ g=some g:=by
 have c:=(bd a.1).1;have b:=(bd a.2).1;unfold bZ;rw[ay (by simp;omega)];simp only[aa,List.nil_append];rw[ay (by simp;omega)];rfl
theorem Xx (g:GrT) (a:Data.sm g):lO g=some g:=by
 have c:=(bd a.1).1;have b:=(bd a.2).1;unfold lO jn;rw[ay (by simp;omega)];simp only[aa,List.nil_append];rw[ay (by simp;omega)];rfl
theorem yI {g:GrT} (a:Data.sm g): ∃b,a7 g=some b:=by
 obtain ⟨b,e,_⟩:=KL g (bd a.1).1 (bd a.2).1;exact ⟨b,e⟩
def okG (h:su) (g:GrT):Prop:=a7 g=some true/\g.1=(nth h.2 0).1
instance (h g):Decidable (okG h g):=by unfold okG;infer_instance
theorem pC (h:su) (w:Data.sm h): ∃b,aX h=some b/\bf h=some b/\(b=true->(1<=h.2.length/\h.2.length<=8)/\1<=h.1/\h.1<=1000 - (h.2.length:Int)):=by
 obtain ⟨A,u⟩:=bd w.2;have x:i64.wrap ((i64.wrap (999 - (h.2.length:Int)))+1)=1000 - (h.2.length:Int):=by
  rw[bA (n:=999 - (h.2.length:Int)) (by omega) (by omega),bA (by omega) (by omega)];omega
 have t:=scan (f:=cy h) h.2 (okG h) false (by omega) (fun i y=>by
  have j:=u _ (bT (xs:=h.2) (i:=(i:Int)) (by omega) (by omega));obtain ⟨b,e⟩:=yI j;obtain ⟨r,o,v⟩:=B4 (nth h.2 (i:Int)).1 (nth h.2 0).1 (bd j.1).1;have q:a6 ((nth h.2 (i:Int)).1,(nth h.2 (i:Int)).2)=some b:=by rw[mg];exact e
  have g:okG h (nth h.2 (i:Int))↔b=true/\(nth h.2 (i:Int)).1=(nth h.2 0).1:=by unfold okG;rw[e];simp
  unfold cy;rw[if_pos (by simp;omega),au (by omega) (by omega)];simp only[aa];rw[q,au (xs:=h.2) (i:=0) (by omega) (by omega)];simp only[aa];rw[o,af (by omega)];simp only[aa];cases b with
  | false=>rw[if_neg (by decide),if_neg (fun c=>by cases (g.1 c).1)]
  | true =>
   rw[if_pos rfl];by_cases c:r=0
   ·rw[if_neg (by simp[c]),if_pos (g.2 ⟨rfl,v.1 c⟩)]
   ·rw[if_pos (by simpa using c),if_neg (fun k=>c (v.2 (g.1 k).2))]) (by unfold cy;simp)
 have z:=scan (f:=fW h) h.2 (okG h) false (by omega) (fun i y=>by
  have j:=u _ (bT (xs:=h.2) (i:=(i:Int)) (by omega) (by omega));obtain ⟨b,e⟩:=yI j;have o:=B5 (nth h.2 (i:Int)).1 (nth h.2 0).1 (by have:=(bd j.1).1;omega);have q:a7 ((nth h.2 (i:Int)).1,(nth h.2 (i:Int)).2)=some b:=e;have g:okG h (nth h.2 (i:Int))↔b=true/\(nth h.2 (i:Int)).1=(nth h.2 0).1:=by unfold okG;rw[e];simp
  unfold fW;rw[if_pos (by simp;omega),au (by omega) (by omega)];simp only[aa];rw[q,au (xs:=h.2) (i:=0) (by omega) (by omega)];simp only[aa];rw[o,af (by omega)];simp only[aa];cases b with
  | false=>rw[if_neg (by decide),if_neg (fun c=>by cases (g.1 c).1)]
  | true =>
   rw[if_pos rfl];by_cases c:(nth h.2 (i:Int)).1=(nth h.2 0).1
   ·rw[if_pos (decide_eq_true c),if_pos (g.2 ⟨rfl,c⟩)]
   ·rw[if_neg (by simpa using c),if_neg (fun k=>c (g.1 k).2)]) (by unfold fW;simp)
 unfold aX bf;rw[E5,E5,I0,I0,x];simp only[aa];by_cases m:(1:Int)<=(h.2.length:Int)/\(h.2.length:Int)<=8
 ·by_cases l:1<=h.1/\h.1<=1000 - (h.2.length:Int)
  ·rw[decide_eq_true m,decide_eq_true l];simp only[if_true];rcases t with ⟨a,d⟩ | ⟨a,d⟩ <;> rcases z with ⟨p,s⟩ | ⟨p,s⟩
   ·rw[ah a,ah p];exact ⟨true,rfl,rfl,fun _=>⟨by omega,l⟩⟩
   ·exact absurd d s
   ·exact absurd s d
   ·rw[bg a,bg p];exact ⟨false,rfl,rfl,fun c=>by cases c⟩
  ·rw[decide_eq_true m,decide_eq_false l];simp only[if_true,Bool.false_eq_true,if_false];rcases t with ⟨a,d⟩ | ⟨a,d⟩
   ·rw[ah a];exact ⟨false,rfl,rfl,fun c=>by cases c⟩
   ·rw[bg a];exact ⟨false,rfl,rfl,fun c=>by cases c⟩
 ·rw[decide_eq_false m];simp only[Bool.false_eq_true,if_false];rcases t with ⟨a,d⟩ | ⟨a,d⟩
  ·rw[ah a];exact ⟨false,rfl,rfl,fun c=>by cases c⟩
  ·rw[bg a];exact ⟨false,rfl,rfl,fun c=>by cases c⟩
def oA (h:su):Int:=h.1+(h.2.length:Int) - 1
theorem nJ {h:su} (hs:aX h=some true) (hi:bf h=some true) (k:(1<=h.2.length/\h.2.length<=8)/\1<=h.1/\h.1<=1000 - (h.2.length:Int)):aR h=some (oA h)/\cq h=some (oA h):=by
 unfold aR cq oA;have hs:aX (h.1,h.2)=_:=hs;have hi:bf (h.1,h.2)=_:=hi;rw[hs,hi];simp only[aa,if_true];rw[bA (n:=h.1+(h.2.length:Int)) (by omega) (by omega),bA (by omega) (by omega)];exact ⟨rfl,rfl⟩
theorem zw (h:su) (p:Data.sm h) (v:Int): ∃(g:GrT) (q:Bool),b8 h v=some (g,q)/\o6 h v=some (g,q)/\Data.sm g/\(bf h=some true->h.1<=v->v<=oA h->q=true)/\(q=false->g=([],[])):=by
 obtain ⟨b,m,r,k⟩:=pC h p;have l:aX (h.1,h.2)=_:=m;have d:bf (h.1,h.2)=_:=r;have o:Data.sm (([],[]):GrT):=⟨⟨by decide,fun _ j=>by cases j⟩,by decide,fun _ j=>by cases j⟩;unfold b8 o6;rw[l,d];simp only[aa];cases b with
 | false=>exact ⟨_,false,rfl,rfl,o,fun c=>(by cases c),fun _=>rfl⟩
 | true =>
  have s:=k rfl;obtain ⟨e,a⟩:=nJ m r s;have e:aR (h.1,h.2)=_:=e;have a:cq (h.1,h.2)=_:=a;simp only[if_true,e,a,aa,E5,I0,decide_eq_true_eq];by_cases c:h.1<=v/\v<=oA h
  ·have y:=c;unfold oA at y;have f:=(bd p.2).2 _ (bT (xs:=h.2) (i:=v - h.1) (by omega) (by omega));have x:bZ ((nth h.2 (v - h.1)).1,(nth h.2 (v - h.1)).2)=_:=qo _ f;have u:lO ((nth h.2 (v - h.1)).1,(nth h.2 (v - h.1)).2)=_:=Xx _ f;rw[if_pos c,if_pos c,bA (n:=v - h.1) (by omega) (by omega),au (by omega) (by omega)];simp only[aa];rw[x,u];exact ⟨_,true,rfl,rfl,f,fun _ _ _=>rfl,fun c=>by cases c⟩
  ·rw[if_neg c,if_neg c];exact ⟨_,false,rfl,rfl,o,fun _ t w=>absurd ⟨t,w⟩ c,fun _=>rfl⟩
abbrev ZS:=Int×Int×Int×Int
abbrev Qn:=Bool×ZS
theorem abn (g:GrT) (id:Int) (a:g.2.length<=1048576): ∃k:Int,dw g id=some k/\(k= -1\/ ∃(i:Nat) (hi:i<g.2.length),k=(i:Int)):=by
 have b:=yH (f:=fK g id) g.2 (fun u=>u.1==id) (fun i=>(i:Int)) (by omega) (fun i hi=>by
  unfold fK;rw[cH hi,if_pos rfl,aI hi];simp[aa,af (show i<9223372036854775807 by omega)];split <;> rfl) (by
  simp_all[fK,cj])
 grind[dw,bg,ah]
theorem acf (g:GrT) (e:ZS):tT g e=oD e (g.1.length:Int):=by
 rfl
theorem ZT {α:Type} [Data α] {xs:List α} {y:α} (h:Data.sm xs) (b:Data.sm y) (i:Nat) (a:xs.length<=1048575):Data.sm (xs.take i++([y] ++xs.drop i)):=by
 have ⟨d,c⟩:=bd h;refine ⟨by grind,fun x e=>?_⟩;grind
theorem Xy {α:Type} [Data α] {xs:List α} (h:Data.sm xs) (i:Nat):Data.sm (xs.take i++xs.drop (i+1)):=by
 have ⟨b,a⟩:=bd h;refine ⟨by grind,fun x c=>?_⟩;grind
theorem acg (x:GrT) (c:Data.sm x) (e:ZS): ∃r:GrT×Bool,mT x e=some r/\Data.sm r.1:=by
 have ⟨a,m⟩:=bd c.1;have ⟨h,D⟩:=bd c.2;have ⟨b,ev,kv⟩:=rK x a h;have ⟨k,t,H⟩:=abn x e.1 h;have g:=UP e (n:=x.1.length) a;unfold mT;simp only[jX,mg,ev,qo x c,acf,g,t,aa];cases b with
 | false=>grind
 | true =>
  have G:=kv.1 rfl;have w:=G.1.m;by_cases p:decide (edgeP e (x.1.length:Int))=true
  ·by_cases j:decide (k≥0)=true
   ·simp_all
   ·by_cases E:((x.2.length:Int)==12)=true
    ·simp_all
    ·simp only[if_pos p,if_neg j,if_neg E];have A: ∃i:Nat,i<=x.2.length/\aq (jL x e) aT 0=some (.brk (i:Int)):=by
      obtain ⟨o,g,i,d,rfl⟩:=b9 (f:=jL x e) (fun i s=>s=(i:Int)) (fun o=> ∃i:Nat,i<=x.2.length/\o= .brk (i:Int)) x.2.length (fun i s d B=>by
       subst B;unfold jL;by_cases a:i<x.2.length
       ·simp[cH a,if_true,aI a,aa,af (show i<9223372036854775807 by omega)];grind
       grind) (s:=0) rfl (gx _ (by omega))
      exact ⟨i,d,g⟩
     have ⟨i,d,v⟩:=A;simp only[v,aN];have l:=ZT (y:=e) c.2 ⟨trivial,trivial,trivial,trivial⟩ i (by omega);have z:(chk (0<=(i:Int)/\(i:Int)<=(x.2.length:Int)))=some ():=if_pos (by omega);have u:bM 8 ([] :List Int) x.1=some x.1:=by rw[ay (by grind)];rfl
     have C:bM 32 ([] :List Yq1) (x.2.take i)=some (x.2.take i):=by rw[ay (by grind)];rfl
     have q:bM 32 (x.2.take i) [e] =some (x.2.take i++ [e]):=ay (by grind);have F:bM 32 (x.2.take i++ [e]) (x.2.drop i)=some (x.2.take i++([e] ++x.2.drop i)):=by
      grind[ay,az,aB,bP,aH,aJ,aC]
     simp only[z,aa,Int.toNat_natCast,u,C,q,F];exact ⟨_,rfl,⟨c.1,l⟩⟩
  simp_all
theorem ach (x:GrT) (a:Data.sm x) (id:Int): ∃r:GrT×Bool,mU x id=some r/\Data.sm r.1:=by
 have ⟨m,g⟩:=bd a.1;have ⟨d,s⟩:=bd a.2;have ⟨b,ev,kv⟩:=rK x m d;have ⟨k,l,n⟩:=abn x id d;unfold mU;simp only[jX,mg,ev,qo x a,l,aa];cases b with
 | false=>grind
 | true =>
  by_cases c:decide (k<0)=true
  ·simp_all
  ·rcases n with rfl | ⟨i,u,rfl⟩
   ·grind
   ·have t:i64.wrap ((i:Int)+1)=((i+1:Nat):Int):=af (by omega);have h:(0:Int)<=(i:Int)/\(i:Int)<=(x.2.length:Int):=by omega
    have f:(0:Int)<=((i+1:Nat):Int)/\((i+1:Nat):Int)<=(x.2.length:Int):=by omega
    have p:(chk (0<=(i:Int)/\(i:Int)<=(x.2.length:Int)))=some ():=if_pos h;have e:(chk (0<=((i+1:Nat):Int)/\((i+1:Nat):Int)<=(x.2.length:Int)))=some ():=if_pos f;have o:bM 8 ([] :List Int) x.1=some x.1:=by rw[ay (by grind)];rfl
    have q:bM 32 ([] :List Yq1) (x.2.take i)=some (x.2.take i):=by rw[ay (by grind)];rfl
    have j:bM 32 (x.2.take i) (x.2.drop (i+1))=some (x.2.take i++x.2.drop (i+1)):=ay (by grind);simp only[if_true,t,p,e,aa,Int.toNat_natCast,o,q,j];exact ⟨_,rfl,⟨a.1,Xy a.2 i⟩⟩
theorem KZ (g:GrT) (l:Data.sm g) (b:List Qn): ∃r:GrT×Bool,eN g b=some r/\Data.sm r.1:=by
 unfold eN;simp only[jX,qo g l,aa];have ⟨o,e,u⟩:=b9 (f:=qd g b) (fun i s=> ∃x:GrT,s=((i:Int),x)/\Data.sm x) (fun o=>o= .ret (g,false)\/ ∃(n:Int) (x:GrT),o= .brk (n,x)/\Data.sm x) 7 (fun i s G A=>by
  obtain ⟨x,rfl,a⟩:=A;have y:=(bd a.2).1;unfold qd;simp only[jX];by_cases h:i<b.length
  ·by_cases F:i<7
   ·rw[if_pos (by grind),if_pos (decide_eq_true (show (i:Int)<=6 by omega)),aI h];simp only[aa];have ⟨r,z,E⟩:=acg x a b[i].2;have ⟨d,q,C⟩:=ach x a b[i].2.1;have ⟨k,t,v⟩:=abn x b[i].2.1 y;have B:i64.wrap ((i:Int)+1)=((i+1:Nat):Int):=af (by omega);simp only[z,q,t,qo g l,B,aa];generalize b[i] =p at *;by_cases c:p.1=true
    ·simp[if_pos c];by_cases m:r.2=true
     ·simp[if_pos m,aa,Cv];grind
     simp_all[if_neg,aa,Cv]
    ·simp only[if_neg c];rcases v with rfl | ⟨j,w,rfl⟩
     ·simp_all[if_pos,aa,Cv]
     ·rw[if_neg (by simp),aI w];simp only[aa];split
      ·by_cases m:d.2=true
       ·simp[if_pos m,aa,Cv];grind
       simp_all[if_neg,aa,Cv]
      ·exact .inr ⟨_,rfl,(fun D h=>by simp at h),.inl rfl⟩
   ·rw[if_pos (by grind),if_neg (by grind)];grind
  ·rw[if_neg (by grind)];grind) (s:=(0,g)) ⟨g,rfl,l⟩ (gx _ (by omega))
 rw[e];rcases u with rfl | ⟨n,x,rfl,a⟩
 ·exact ⟨_,rfl,l⟩
 ·exact ⟨_,rfl,a⟩
theorem ZU (g:GrT) (a:Data.sm g) (b:List Qn): ∃r:GrT×Bool,mV g b=some r/\Data.sm r.1:=by
 have ⟨v,ev⟩:=yI a;have ⟨r,c,d⟩:=KZ g a b;unfold mV;simp only[jX,mg,ev,qo g a,c,aa];grind
theorem U2 (h:su) (c:Data.sm h):qx h=some h:=by
 have ⟨g,b⟩:=bd c.2;have e:=aO (f:=lI h) (fun i=>((i:Int),h.1,h.2.take i)) h.2.length (fun i a=>by
  have e:=qo h.2[i] (b _ (List.getElem_mem a));have d: ∀z:GrT,bM 48 (h.2.take i) [z] =some (h.2.take i++ [z]):=fun z=>ay (by grind);unfold lI;rw[cH a,if_pos rfl,aI a];simp[aa];rw[e];simp[aa];rw[d,af (by omega),List.take_succ_eq_append_getElem a];rfl) (by
  simp_all[lI,cj]) (gx _ (by omega))
 grind[List.take_length,aq,lI,aT,qx,ah]
def X1 (h:su):Prop:=Data.sm h/\1<=h.2.length
theorem zx {n:Int} {l:List GrT} (a:l.length<=1048576) (h: ∀g∈l,Data.sm g):Data.sm ((n,l):su):=⟨trivial,a,h⟩
theorem aci (h:su) (a:Data.sm h): ∃v,aR h=some v:=by
 have ⟨b,c,d,k⟩:=pC h a;cases b with
 | true=>simp_all[nJ]
 | false =>
  simp_all[aR,aX]
theorem Xz (h:su) (p:X1 h) (b:List Qn): ∃r:su×Bool,je h b=some r/\X1 r.1:=by
 have ⟨a,f⟩:=p;have ⟨v,l,s,k⟩:=pC h a;have ⟨x,t⟩:=bd a.2;unfold je;simp only[jX,U2 h a,l,aa];cases v with
 | false=>exact ⟨(h,false),rfl,a,f⟩
 | true =>
  obtain ⟨w,-⟩:=k rfl;simp only[if_true,(nJ l s (k rfl)).1,aa];by_cases c:(oA h==999)=true
  ·rw[if_pos c];exact ⟨(h,false),rfl,a,f⟩
  ·rw[if_neg c,bA (by omega) (by omega),au (by omega) (by omega)];simp only[aa];have d:=t _ (bT (xs:=h.2) (i:=(h.2.length:Int) - 1) (by omega) (by omega));have ⟨r,e,u⟩:=ZU _ d b;rw[e];simp only[aa];by_cases j:r.2=true
   ·rw[if_pos j,ay (by grind)];simp only[aa];have m: ∀g∈h.2++ [(r.1.1,r.1.2)],Data.sm g:=fun g d=>by
     grind
    have q:(h.2++ [(r.1.1,r.1.2)]).length=h.2.length+1:=by simp
    have o:(h.2++ [r.1]).length=h.2.length+1:=by simp
    by_cases n:decide (((h.2++ [(r.1.1,r.1.2)]).length:Int)>8)=true
    ·rw[if_pos n,show chk (And ((0:Int)<=1) (1<=((h.2++ [(r.1.1,r.1.2)]).length:Int)))=some () from if_pos (by omega)];refine ⟨_,rfl,zx ?_ fun g d=>m g (List.mem_of_mem_drop d),?_⟩
     ·grind
     grind
    ·rw[if_neg n];refine ⟨_,rfl,zx (by omega) m,?_⟩;grind
   ·rw[if_neg j];exact ⟨(h,false),rfl,a,f⟩
theorem TC (h:su) (hs:Data.sm h) (v:Int): ∃r:su×Bool,fU h v=some r/\Data.sm r.1/\(1<=h.2.length->1<=r.1.2.length):=by
 have ⟨b,a,f,k⟩:=pC h hs;have ⟨j,d⟩:=bd hs.2;unfold fU;simp only[jX,U2 h hs,a,aa];cases b with
 | false=>grind
 | true =>
  simp only[if_true,(nJ a f (k rfl)).1,aa,E5];by_cases c:h.1<=v/\v<=oA h
  ·have i:=c;unfold oA at i;rw[if_pos (decide_eq_true c),bA (n:=v - h.1) (by omega) (by omega),show chk (And (0<=v - h.1) (v - h.1<=(h.2.length:Int)))=some () from if_pos (by omega)];refine ⟨_,rfl,zx (by grind) fun g e=>d g (List.mem_of_mem_drop e),fun _=>?_⟩;grind
  simp_all[if_neg]
theorem acj {g:GrT} (a:Data.sm g) (G:Zz g) {v:Int} (hv:1<=v/\v<=4):j6 g v=some ((v,[g]),true):=by
 have j:a6 g=some true:=by
  have ⟨b,e,k⟩:=rK g (bd a.1).1 (bd a.2).1;rw[mg,e,k.2 G]
 have ⟨c,h,l⟩:=B4 g.1 g.1 (bd a.1).1;cases l.2 rfl;have L:=aO (f:=cy (v,[g])) (fun i=>(i:Int)) 1 (fun i o=>by
  obtain rfl:i=0:=by omega
  unfold cy;have m:aP [g] 0=some g:=by rfl
  simp[aH,aJ,Int.natCast_zero,m,aa,j,h,if_true]
  rfl) (by
  rfl) (kz (by omega))
 have L:aq (cy (v,[g])) aT 0=_:=L;have d:aX (v,[g])=some true:=by
  unfold aX;rw[ah L,E5,E5];have n:i64.wrap (i64.wrap (999 - ((0+1:Nat):Int))+1)=999:=by decide
  refine congrArg some (decide_eq_true ⟨hv.1,?_⟩);show v<=i64.wrap (i64.wrap (999 - ((0+1:Nat):Int))+1);omega
 unfold j6;simp[jX,qo g a,aa];rw[d];rfl
theorem ZV (g:GrT) (a:AutT) (j:Data.sm g) (e:Data.sm a): ∃b,gq g a 0 0=some b/\(b=true->GOOD g a):=by
 have ⟨b,d,l⟩:=rK g (bd j.1).1 (bd j.2).1;have k:=(bd e.2.1).1;have i:=(bd e.2.2).1;have ⟨c,m,f⟩:=P7 a (by omega) (by omega);have d:a6 (g.1,g.2)=some b:=by rw[mg];exact d
 unfold gq;rw[d,m,E5,E5];cases b with
 | false=>grind
 | true =>
  cases c with
  | false=>grind
  | true =>
   by_cases h:(0:Int)<=0/\(0:Int)<=i64.wrap ((g.1.length:Int) - 1)
   ·rw[decide_eq_true h];exact ⟨_,rfl,fun _=>⟨(l.1 rfl).1,(f.1 rfl).1,(f.1 rfl).2⟩⟩
   grind
theorem abo (g:GrT) (a:AutT) (e:Data.sm g) (k:Data.sm a): ∃l,fe g a=some l/\l.length<=150:=by
 have ⟨b,h,c⟩:=ZV g a e k;unfold fe;cases b with
 | false =>
  refine ⟨[],?_,by decide⟩
  have:=aO (f:=bt g a) (fun _=>(([] :List (Int×Int)),(0:Int))) 0 (fun i m=>absurd m (Nat.not_lt_zero _)) (by
   simp_all[bt,aa,Bool.false_eq_true,if_false]) (by unfold aT;omega)
  rw[ah this]
 | true =>
  have H:=c rfl;have q:=H.1.n5;refine ⟨MG g a g.1.length,?_,by grind[um]⟩
  have:=aO (f:=bt g a) (fun x=>(MG g a x,(x:Int))) g.1.length (fun x t=>by
   have p:=um g a x;have n:=Ak g a (x:Int);unfold bt;have d:=KP H (x:=(x:Int)) ⟨by omega,by omega⟩;rw[if_pos (by grind),h,d];simp[aa,if_true];rw[ah (Fp (x:=(x:Int)) (l:=Qe g a (x:Int)) n (by omega) (fun o j r s=>by
    unfold gQ;rw[if_pos (by grind),au (by omega) (by omega)];simp[aa];rw[ay (by simp;omega),af (by omega)];rfl) (fun o=>by unfold gQ;simp)),af (by omega)]
   rfl) (by unfold bt;simp) (kz (by omega))
  have this:aq (bt g a) aT (([] :List (Int×Int)),0)=_:=this;rw[ah this]
theorem abp {r:pB} (m:Data.sm r) {g:GrT} (e:Data.sm g) (id:Int): ∃(l:List (Int×Int)) (b:Bool),aS r g id=some (l,b)/\l.length<=150:=by
 have ⟨k,p,A,f⟩:=tG r id (bd m.2).1;have ⟨b,t,B,hv⟩:=q9 m;have d: ∃x:AutT×Bool,cV r id=some x/\Data.sm x.1:=by
  unfold cV;simp only[p,t,aa,jX];rcases f with rfl | ⟨i,n,rfl⟩
  ·simp_all[rJ]
  ·have f:decide ((i:Int)<0)=false:=by simp
   cases b with
   | false=>grind[rJ]
   | true =>
    have ⟨s,d⟩:=hv rfl;have ⟨o,j⟩:=d _ (List.getElem_mem n);have h:=au o j;have v:=(bd s.1).2 _ (bT o j);simp[if_true,f,Bool.false_eq_true,if_false,aI n,aa,h,jX,Jb _ v];grind
 have ⟨⟨a,q⟩,w,u⟩:=d;obtain ⟨c,h,-⟩:=rK g (bd e.1).1 (bd e.2).1;have y:a6 (g.1,g.2)=some c:=by rw[mg];exact h
 have ⟨l,p,z⟩:=abo g a e u;unfold aS;simp[aa];cases q with
 | false=>grind
 | true =>
  cases c with
  | false=>grind
  | true=>simp_all
theorem Qo (h:su) (j:Data.sm h) {r:pB} (p:Data.sm r) (id v:Int): ∃(g:GrT) (q:Bool) (l:List (Int×Int)) (b:Bool),b8 h v=some (g,q)/\aS r g id=some (l,b)/\l.length<=150:=by
 suffices m: ∃(g:GrT) (q:Bool),b8 h v=some (g,q)/\Data.sm g by
  have ⟨g,q,e,s⟩:=m;have ⟨l,b,w,A⟩:=abp p s id;grind
 have ⟨b,f,u,k⟩:=pC h j;have d:=f;have z:Data.sm (([],[]):GrT):=⟨⟨by decide,fun _ a=>by cases a⟩,by decide,fun _ a=>by cases a⟩;unfold b8;rw[d];simp only[aa];cases b with
 | false=>grind
 | true =>
  have o:=k rfl;have t:=(nJ f u o).1;simp only[if_true,t,aa,E5,decide_eq_true_eq];by_cases c:h.1<=v/\v<=oA h
  ·have y:=c;unfold oA at y;have x:=(bd j.2).2 _ (bT (xs:=h.2) (i:=v - h.1) (by omega) (by omega));have w:=qo _ x;rw[if_pos c,bA (n:=v - h.1) (by omega) (by omega),au (by omega) (by omega)];simp_all
  simp_all[if_neg]
def abq (m:Cn):Prop:=m.2.2.1.length<=150/\m.2.2.2.length<=150
theorem ZW (a b:List (Int×Int)) (e:a.length<=1000000) (c:b.length<=1000000): ∃d:Yq4×Yq4,dE a b=some d/\d.1.length<=b.length/\d.2.length<=a.length:=by
 unfold dE;rw[oF (by omega) (by omega),oF (by omega) (by omega)];have k: ∀(l:List (Int×Int)) (f:Int×Int->Bool),(C1 [] (l.filter f)).length<=l.length:=fun l f=>by
  have:=ur (l.filter f) []
  have g:=List.length_filter_le f l;simp at this;omega
 exact ⟨_,rfl,k _ _,k _ _⟩
theorem ack (h:su) (o:Data.sm h) {r:pB} (n:Data.sm r) (s:zN) (j:Int): ∃m:Cn,du h r s j=some m/\abq m:=by
 obtain ⟨g,q,l,b,i,f,v⟩:=Qo h o n s.2.1 j;have i:b8 (h.1,h.2) j=_:=i;have f:aS (r.1,r.2) (g.1,g.2) s.2.1=_:=f;unfold du;rw[i];simp only[aa];rw[f];simp only[aa];by_cases c:s.2.2<h.1
 ·rw[if_pos (decide_eq_true c)];exact ⟨_,rfl,v,Nat.zero_le _⟩
 ·rw[if_neg (by simpa using c)];obtain ⟨k,y,p,x,a,e,t⟩:=Qo h o n s.2.1 s.2.2;have a:b8 (h.1,h.2) s.2.2=_:=a;have e:aS (r.1,r.2) (k.1,k.2) s.2.1=_:=e;rw[a];simp only[aa];rw[e];simp only[aa];obtain ⟨d,u,w,z⟩:=ZW p l (by omega) (by omega);rw[u];exact ⟨_,rfl,by show d.1.length<=150;omega,by show d.2.length<=150;omega⟩
def yJ (h:su) (r:pB) (id v:Int):List (Int×Int):=(((b8 h v).bind fun g=>aS r g.1 id).getD ([],false)).1
section
variable {h:su} (hh:Data.sm h) {r:pB} (hr:Data.sm r)
include hh hr
theorem Co (id v:Int): ∃(g:GrT) (q b:Bool),b8 h v=some (g,q)/\aS r g id=some (yJ h r id v,b)/\(yJ h r id v).length<=150/\PsOk (yJ h r id v):=by
 obtain ⟨g,q,c,-,d,-,-⟩:=zw h hh v;obtain ⟨l,b,a,-,f⟩:=zt hr d id;have e:yJ h r id v=l:=by
  unfold yJ;rw[c];simp only[aa];rw[a];rfl
 rw[e];exact ⟨g,q,b,c,a,f,MI hr d id a⟩
theorem HD (s:zN) (e:Int) {l:List (Int×Int)} (u:l.length<=1000000) (hs:h.1<=s.2.2->l=yJ h r s.2.1 s.2.2): ∃m:Cn,du h r s e=some m/\m.1=e/\aV l m=some (yJ h r s.2.1 e,true)/\PsOk m.2.2.1/\PsOk m.2.2.2:=by
 obtain ⟨g,q,b,n,k,p,a⟩:=Co hh hr s.2.1 e;have n:b8 (h.1,h.2) e=_:=n;have k:aS (r.1,r.2) (g.1,g.2) s.2.1=_:=k;unfold du;rw[n];simp only[aa];rw[k];simp only[aa];by_cases c:s.2.2<h.1
 ·rw[if_pos (decide_eq_true c)];refine ⟨_,rfl,rfl,?_,a,PsOk.nil⟩;unfold aV;simp only[if_true];rw[<-xD,KY a (by omega)];simp only[aa,if_true];rw[if_neg (by simp),ZQ _ (by omega)];rfl
 ·rw[if_neg (by simpa using c)];obtain ⟨o,v,t,i,j,f,d⟩:=Co hh hr s.2.1 s.2.2;have i:b8 (h.1,h.2) s.2.2=_:=i;have j:aS (r.1,r.2) (o.1,o.2) s.2.1=_:=j;rw[i];simp only[aa];rw[j];simp only[aa];rw[ZR d a (by omega) (by omega)];refine ⟨_,rfl,rfl,?_,a.filter _,d.filter _⟩;rw[hs (by omega)];unfold aV;simp only[Bool.false_eq_true,if_false]
  have:=Ql d a (by omega) (by omega)
  have this:kt (yJ h r s.2.1 s.2.2) ((dlt (yJ h r s.2.1 s.2.2) (yJ h r s.2.1 e)).1,(dlt (yJ h r s.2.1 s.2.2) (yJ h r s.2.1 e)).2)=_:=this;rw[this];rfl
end
theorem MJ (a b:List (Int×Int)) (e:a.length<=1000000) (c:b.length<=1000000): ∃d:Yq4×Yq4,dE a b=some d/\kG a b=some d/\d.1.length<=b.length/\d.2.length<=a.length:=by
 unfold dE kG;rw[oF (by omega) (by omega),oF (by omega) (by omega),Tz (by omega) (by omega),Tz (by omega) (by omega)];have k: ∀(l:List (Int×Int)) (f:Int×Int->Bool),(C1 [] (l.filter f)).length<=l.length:=fun l f=>by
  have:=ur (l.filter f) []
  have g:=List.length_filter_le f l;simp at this;omega
 exact ⟨_,rfl,rfl,k _ _,k _ _⟩
theorem DV (h:su) (j:Data.sm h) {r:pB} (i:Data.sm r) (id v:Int): ∃(g:GrT) (q:Bool) (l:List (Int×Int)) (b:Bool),b8 h v=some (g,q)/\aS r g id=some (l,b)/\iw h r id v=some (if q then l else [],if q then b else false)/\l.length<=150/\(bf h=some true->h.1<=v->v<=oA h->q=true):=by
 obtain ⟨g,q,d,c,m,k,-⟩:=zw h j v;obtain ⟨l,b,f,a,e⟩:=zt i m id;refine ⟨g,q,l,b,d,f,?_,e,k⟩;unfold iw;have c:o6 (h.1,h.2) v=_:=c;rw[c];simp only[aa];have a:eQ (r.1,r.2) (g.1,g.2) id=_:=a;cases q with
 | false=>rfl
 | true=>simp only[if_true];rw[a];rfl
theorem HE (h:su) (w:Data.sm h) {r:pB} (p:Data.sm r) (s:zN): ∃b,gp h r s=some b/\kQ h r s=some b/\(b=true->bf h=some true/\aR h=some (oA h)/\cq h=some (oA h)/\((1<=h.2.length/\h.2.length<=8)/\1<=h.1/\h.1<=1000 - (h.2.length:Int))/\0<=s.2.2/\s.2.2<oA h):=by
 obtain ⟨b,q,t,k⟩:=pC h w;obtain ⟨c,g,n,-⟩:=q9 p;obtain ⟨f,m,l,-⟩:=tG r s.2.1 (bd p.2).1;have o:aX (h.1,h.2)=_:=q;have e:bf (h.1,h.2)=_:=t;have g:bI (r.1,r.2)=_:=g;have n:cE (r.1,r.2)=_:=n;have m:fS (r.1,r.2) s.2.1=_:=m;have l:jR (r.1,r.2) s.2.1=_:=l;unfold gp kQ;rw[o,e,g,n,m,l];simp only[aa];cases b with
 | false=>exact ⟨false,rfl,rfl,fun c=>by cases c⟩
 | true =>
  obtain ⟨x,u⟩:=nJ q t (k rfl);have j:aR (h.1,h.2)=_:=x;have i:cq (h.1,h.2)=_:=u;cases c with
  | false=>exact ⟨false,rfl,rfl,fun c=>by cases c⟩
  | true =>
   rw[j,i];simp only[if_true,aa];by_cases d:f≥0
   ·by_cases a:s.2.2≥0
    ·simp only[decide_eq_true d,decide_eq_true a,if_true];exact ⟨_,rfl,rfl,fun v=>⟨trivial,trivial,trivial,k rfl,a,of_decide_eq_true v⟩⟩
    ·simp only[decide_eq_true d,decide_eq_false a,if_true,Bool.false_eq_true,if_false];exact ⟨false,rfl,rfl,fun c=>by cases c⟩
   ·simp only[decide_eq_false d,Bool.false_eq_true,if_false];exact ⟨false,rfl,rfl,fun c=>by cases c⟩
theorem K0 (h:su) (u:Data.sm h) {r:pB} (t:Data.sm r) (s:zN) (a:Int) (hv:bf h=some true) (E:(1<=h.2.length/\h.2.length<=8)/\1<=h.1/\h.1<=1000 - (h.2.length:Int)) (F:0<=s.2.2/\s.2.2<oA h) (v:h.1<=a/\a<=oA h) :
  ∃m:Cn,du h r s a=some m/\kT h r s a=some (m,(s.1,s.2.1,a),true)/\m.2.2.1.length<=150/\m.2.2.2.length<=150:=by
 have x:oA h<=1000:=by unfold oA;omega
 obtain ⟨g,q,l,b,k,j,n,B,D⟩:=DV h u t s.2.1 a;obtain rfl:q=true:=D hv v.1 v.2;have k:b8 (h.1,h.2) a=_:=k;have j:aS (r.1,r.2) (g.1,g.2) s.2.1=_:=j;have n:iw (h.1,h.2) (r.1,r.2) s.2.1 a=_:=n;unfold du kT;rw[k,n];simp only[aa,if_true];rw[j];simp only[aa];by_cases c:s.2.2<h.1
 ·rw[if_pos (decide_eq_true c),if_pos (decide_eq_true c)];exact ⟨_,rfl,rfl,B,by simp⟩
 ·rw[if_neg (by simpa using c),if_neg (by simpa using c)];obtain ⟨p,C,w,H,f,i,e,y,o⟩:=DV h u t s.2.1 s.2.2;obtain rfl:C=true:=o hv (by omega) (by omega);have f:b8 (h.1,h.2) s.2.2=_:=f;have i:aS (r.1,r.2) (p.1,p.2) s.2.1=_:=i;have e:iw (h.1,h.2) (r.1,r.2) s.2.1 s.2.2=_:=e;rw[f,e];simp only[aa,if_true];rw[i];simp only[aa];obtain ⟨d,z,A,G,I⟩:=MJ w l (by omega) (by omega);rw[z,A];exact ⟨_,rfl,rfl,by simp only;omega,by simp only;omega⟩
def MsG (m:Cn):Prop:=abq m/\(PsOk m.2.2.1/\PsOk m.2.2.2)/\1<=m.1/\m.1<=1000
theorem PsOk.lim {l:List (Int×Int)} (h:PsOk l) (e:l.length<=150):Data.lim l:=⟨by omega,fun p hp=>by
 obtain ⟨⟨a,b⟩,c,d⟩:=h.2 p hp;exact ⟨⟨by omega,by omega⟩,by omega,by omega⟩⟩
theorem MsG.lim {m:Cn} (h:MsG m):Data.lim m:=⟨⟨by have:=h.2.2;omega,by have:=h.2.2;omega⟩,trivial,h.2.1.1.lim h.1.1,h.2.1.2.lim h.1.2⟩
def Cs:List (Int×Int)->List Cn->Option Yq4 
 | l,[] =>some l
 | l,m::ms=>(aV l m).bind fun x=>if x.2 then Cs x.1 ms else none
theorem HF: ∀(a:List Cn) (l b:List (Int×Int)) (m:Cn),Cs l a=some b->Cs l (a++ [m])=(aV b m).bind fun x=>if x.2 then some x.1 else none
 | [],l,b,m,h=>by
  obtain rfl:=ae h
  rfl
 | m0::a,l,b,m,h=>by
  show ((aV l m0).bind fun x=>if x.2 then Cs x.1 (a++ [m]) else none)=_;have h:((aV l m0).bind fun x=>if x.2 then Cs x.1 a else none)=some b:=h;cases e:aV l m0 with
  | none=>rw[e] at h;cases h
  | some x =>
   rw[e] at h;simp only[aa] at h⊢;by_cases c:x.2=true
   ·rw[if_pos c] at h⊢;exact HF a x.1 b m h
   ·rw[if_neg c] at h;cases h
theorem vW: ∀(a b:List Cn) (l:List (Int×Int)),Cs l (a++b)=(Cs l a).bind fun x=>Cs x b
 | [],b,l=>rfl
 | m::a,b,l=>by
  show ((aV l m).bind fun x=>if x.2 then Cs x.1 (a++b) else none)=((aV l m).bind fun x=>if x.2 then Cs x.1 a else none).bind fun x=>Cs x b;cases aV l m with
  | none=>rfl
  | some x =>
   simp only[aa];by_cases c:x.2=true
   ·rw[if_pos c,if_pos c];exact vW a b x.1
   ·rw[if_neg c,if_neg c];rfl
theorem XA {a:List Cn} {l f:List (Int×Int)} (h:Cs l a=some f) {i:Nat} (hi:i<a.length): ∃li x,Cs l (a.take i)=some li/\aV li a[i] =some (x,true)/\Cs l (a.take (i+1))=some x:=by
 have e:a=a.take i++(a[i] ::a.drop (i+1)):=by
  rw[<-List.drop_eq_getElem_cons hi,List.take_append_drop]
 rw[e,vW] at h;cases d:Cs l (a.take i) with
 | none=>rw[d] at h;cases h
 | some li =>
  rw[d] at h;simp only[aa] at h;have h:((aV li a[i]).bind fun x=>if x.2 then Cs x.1 (a.drop (i+1)) else none)=some f:=h;cases b:aV li a[i] with
  | none=>rw[b] at h;cases h
  | some x =>
   rw[b] at h;simp only[aa] at h;by_cases c:x.2=true
   ·refine ⟨li,x.1,rfl,?_,?_⟩
    ·obtain ⟨j,g⟩:=x;obtain rfl:g=true:=c;exact b
    ·rw[List.take_succ_eq_append_getElem hi,vW,d];simp only[aa];show ((aV li a[i]).bind fun x=>if x.2 then Cs x.1 [] else none)=_;rw[b];simp only[aa];rw[if_pos c];rfl
   ·rw[if_neg c] at h;cases h
section
variable {h:su} (hh:Data.sm h) {r:pB} (hr:Data.sm r)
include hh hr
theorem Qp (id:Int): ∃B:Bool,(∀s:zN,s.2.1=id->gp h r s=some (B&&decide (0<=s.2.2)&&decide (s.2.2<oA h)))/\(B=true->aR h=some (oA h)/\((1<=h.2.length/\h.2.length<=8)/\1<=h.1/\h.1<=1000 - (h.2.length:Int))):=by
 obtain ⟨b,d,n,k⟩:=pC h hh;obtain ⟨c,e,-,-⟩:=q9 hr;obtain ⟨f,i,-,-⟩:=tG r id (bd hr.2).1;have j:aX (h.1,h.2)=_:=d;have e:bI (r.1,r.2)=_:=e;have i:fS (r.1,r.2) id=_:=i;refine ⟨b&&c&&decide (f≥0),fun s o=>?_,fun m=>?_⟩
 ·unfold gp;rw[o,j,e,i];simp only[aa];cases b with
  | false=>rfl
  | true =>
   obtain ⟨p,-⟩:=nJ d n (k rfl);have g:aR (h.1,h.2)=_:=p;cases c with
   | false=>rfl
   | true =>
    rw[g];simp only[if_true,aa,Bool.true_and];by_cases a:f≥0
    ·by_cases l:s.2.2≥0
     ·simp only[decide_eq_true a,decide_eq_true l,if_true,Bool.true_and]
     ·simp only[decide_eq_true a,decide_eq_false l,if_true,Bool.false_eq_true,if_false,Bool.true_and,Bool.false_and]
    ·simp only[decide_eq_false a,Bool.false_eq_true,if_false,Bool.false_and]
 ·simp only[aj] at m;obtain ⟨⟨rfl,-⟩,-⟩:=m;exact ⟨(nJ d n (k rfl)).1,k rfl⟩
theorem Qq (s:zN) {l:List (Int×Int)} (hl:l.length<=1000000) (hs:h.1<=s.2.2->l=yJ h r s.2.1 s.2.2): ∃(j:List Cn) (t:zN) (g:List (Int×Int)) (G:Bool),dR h r s=some (j,t)/\gp h r s=some G/\Cs l j=some g/\(∀m∈j,MsG m)/\j.length<=8/\(G=false->j= [] /\t=s)/\(G=true->0<j.length/\t=(s.1,s.2.1,oA h)/\g=yJ h r s.2.1 (oA h)/\aR h=some (oA h)):=by
 obtain ⟨B,V,P⟩:=Qp hh hr s.2.1;have W:=V s rfl;generalize p:(B&&decide (0<=s.2.2)&&decide (s.2.2<oA h))=G at W;obtain ⟨o,e,j,t,g,ho,h1,h2,h3,Y,h5⟩:=b9 (f:=dD h r) (fun i z=>z.2.1=(i:Int)/\i<=8/\z.1.length=i/\(∀m∈z.1,MsG m)/\z.2.2.1=s.1/\z.2.2.2.1=s.2.1/\ ∃g,Cs l z.1=some g/\(i=0->z.2.2.2.2=s.2.2/\g=l)/\(0<i->G=true/\h.1+(i:Int) - 1<=z.2.2.2.2/\z.2.2.2.2<=oA h/\g=yJ h r s.2.1 z.2.2.2.2)) (fun o=> ∃j t g,o= .ret (j,t)/\Cs l j=some g/\(∀m∈j,MsG m)/\j.length<=8/\(G=false->j= [] /\t=s)/\(G=true->0<j.length/\t=(s.1,s.2.1,oA h)/\g=yJ h r s.2.1 (oA h))) 8 (fun i z hi hI=>by
  obtain ⟨U,z2,z3,X,M,A,g,S,v,y⟩:=hI;unfold dD;rw[if_pos (by rw[U];exact decide_eq_true (by omega))];have k:=V (z.2.2.1,z.2.2.2.1,z.2.2.2.2) A;have k:gp (h.1,h.2) (r.1,r.2) (z.2.2.1,z.2.2.2.1,z.2.2.2.2)=some (B&&decide (0<=z.2.2.2.2)&&decide (z.2.2.2.2<oA h)):=k;have hL:oA h=h.1+(h.2.length:Int) - 1:=rfl;by_cases cg:(B&&decide (0<=z.2.2.2.2)&&decide (z.2.2.2.2<oA h))=true
  ·have E:=cg;simp only[aj,decide_eq_true_eq] at E;obtain ⟨⟨H,c2⟩,c3⟩:=E;obtain ⟨-,Z,k1,k2⟩:=P H;rw[cg] at k;have ew:i64.wrap (z.2.2.2.2+1)=z.2.2.2.2+1:=bA (by omega) (by omega);have T:h.1<=Max.max h.1 (z.2.2.2.2+1)/\Max.max h.1 (z.2.2.2.2+1)<=oA h/\z.2.2.2.2+1<=Max.max h.1 (z.2.2.2.2+1):=by omega
   generalize Q:Max.max h.1 (z.2.2.2.2+1)=w at T;have K:g.length<=1000000:=by
    rcases Nat.eq_zero_or_pos i with d | d
    ·rw[(v d).2];exact hl
    ·rw[(y d).2.2.2];obtain ⟨_,_,_,_,_,q,_⟩:=Co hh hr s.2.1 z.2.2.2.2;omega
   have O:h.1<=z.2.2.2.2->g=yJ h r z.2.2.2.1 z.2.2.2.2:=fun L=>by
    rw[A];rcases Nat.eq_zero_or_pos i with d | d
    ·rw[(v d).2,(v d).1];exact hs (by rw[<-(v d).1];exact L)
    ·exact (y d).2.2.2
   obtain ⟨m,I,m2,m3,m4⟩:=HD hh hr (z.2.2.1,z.2.2.2.1,z.2.2.2.2) w K O;obtain ⟨m',D,R⟩:=ack h hh hr (z.2.2.1,z.2.2.2.1,z.2.2.2.2) w;rw[I] at D;obtain rfl:=ae D;have I:du (h.1,h.2) (r.1,r.2) (z.2.2.1,z.2.2.2.1,z.2.2.2.2) w=_:=I;have C:cF (h.1,h.2) (r.1,r.2) (z.2.2.1,z.2.2.2.1,z.2.2.2.2)=some (m,(z.2.2.1,z.2.2.2.1,w),true):=by
    unfold cF;simp only;rw[k];simp only[aa,if_true];rw[ew,Q,I];rfl
   rw[C];simp only[aa,if_true];have J:i<8:=by
    rcases Nat.eq_zero_or_pos i with d | d
    ·omega
    ·have:=(y d).2.1;omega
   rw[ay (by simp only[aH,aJ];omega)];simp only[aa];refine .inl ⟨J,_,rfl,?_,by omega,by simp[z3],fun x F=>?_,M,A,yJ h r s.2.1 w,?_,fun d=>by omega,fun _=>⟨?_,?_,T.2.1,rfl⟩⟩
   ·show i64.wrap (z.2.1+1)=_;rw[U,af (by omega)]
   ·rcases aG F with F | F
    ·exact X x F
    ·rw[ak F];exact ⟨R,m4,by omega,by omega⟩
   ·show Cs l (z.1++ [m])=_;rw[HF z.1 l g m S,m3];show some (yJ h r z.2.2.2.1 w)=_;rw[A]
   ·rcases Nat.eq_zero_or_pos i with d | d
    ·rw[<-p,<-(v d).1];exact cg
    ·exact (y d).1
   ·show h.1+((i+1:Nat):Int) - 1<=w;rcases Nat.eq_zero_or_pos i with d | d
    ·subst d;omega
    ·have:=(y d).2.1;omega
  ·have u:(B&&decide (0<=z.2.2.2.2)&&decide (z.2.2.2.2<oA h))=false:=by simpa using cg
   rw[u] at k;have C: ∃x,cF (h.1,h.2) (r.1,r.2) (z.2.2.1,z.2.2.2.1,z.2.2.2.2)=some (x,(z.2.2.1,z.2.2.2.1,z.2.2.2.2),false):=by
    unfold cF;simp only;rw[k];exact ⟨_,rfl⟩
   obtain ⟨x,C⟩:=C;rw[C];simp only[aa,Bool.false_eq_true,if_false];refine .inr ⟨_,rfl,(fun s' e=>by cases e),z.1,(z.2.2.1,z.2.2.2.1,z.2.2.2.2),g,rfl,S,X,by omega,fun N=>?_,fun n=>?_⟩
   ·rcases Nat.eq_zero_or_pos i with d | d
    ·refine ⟨List.eq_nil_of_length_eq_zero (by omega),?_⟩;rw[M,A,(v d).1]
    ·have:=(y d).1
     rw[N] at this;cases this
   ·rcases Nat.eq_zero_or_pos i with d | d
    ·rw[(v d).1,p,n] at u;cases u
    ·obtain ⟨q1,q2,q3,q4⟩:=y d;rw[<-p] at n;simp only[aj,decide_eq_true_eq] at n;obtain ⟨⟨H,c2⟩,c3⟩:=n;obtain ⟨-,Z,k1,k2⟩:=P H;have hv:z.2.2.2.2=oA h:=by
      rw[H,Bool.true_and,decide_eq_true (by omega),Bool.true_and,decide_eq_false_iff_not] at u;omega
     refine ⟨by omega,?_,?_⟩
     ·rw[M,A,hv]
     ·rw[q4,hv]) (s:=(([] :List Cn),0,s.1,s.2.1,s.2.2)) ⟨rfl,Nat.zero_le _,rfl,fun m hm=>(by cases hm),rfl,rfl,l,rfl,fun _=>⟨rfl,rfl⟩,fun d=>absurd d (Nat.lt_irrefl _)⟩ (kz (by omega))
 subst ho;have e:aq (dD h r) aT (([] :List Cn),0,s.1,s.2.1,s.2.2)=_:=e;refine ⟨j,t,g,G,?_,W,h1,h2,h3,Y,fun k=>?_⟩
 ·unfold dR;rw[bg e]
 ·obtain ⟨a,b,c⟩:=h5 k;refine ⟨a,b,c,?_⟩;rw[<-p] at k;simp only[aj,decide_eq_true_eq] at k;exact (P k.1.1).1
theorem TE (s:zN) {l:List (Int×Int)} (t:l.length<=1000000) (hs:h.1<=s.2.2->l=yJ h r s.2.1 s.2.2): ∃(x:Cn×zN×Bool),jC h r s=some x/\gp h r s=some x.2.2/\abq x.1/\(x.2.2=false->x.2.1=s)/\(x.2.2=true->x.2.1=(s.1,s.2.1,oA h)/\aV l x.1=some (yJ h r s.2.1 (oA h),true)):=by
 obtain ⟨b,f,e,k⟩:=HE h hh hr s;have e:kQ (h.1,h.2) (r.1,r.2) (s.1,s.2.1,s.2.2)=_:=e;unfold jC;rw[e];simp only[aa];cases b with
 | false=>exact ⟨_,rfl,f,⟨Nat.zero_le _,Nat.zero_le _⟩,fun _=>rfl,fun c=>by cases c⟩
 | true =>
  obtain ⟨hv,v,a,i,j,o⟩:=k rfl;have a:cq (h.1,h.2)=_:=a;have w:oA h=h.1+(h.2.length:Int) - 1:=rfl;simp only[if_true];rw[a];simp only[aa];obtain ⟨m,p,d,n,u⟩:=K0 h hh hr s (oA h) hv i ⟨j,o⟩ ⟨by omega,by omega⟩;obtain ⟨y,g,-,q,-⟩:=HD hh hr s (oA h) t hs;rw[p] at g;obtain rfl:=ae g;have d:kT (h.1,h.2) (r.1,r.2) (s.1,s.2.1,s.2.2) (oA h)=_:=d;rw[d];exact ⟨(m,(s.1,s.2.1,oA h),true),rfl,f,⟨n,u⟩,fun c=>(by cases c),fun _=>⟨rfl,q⟩⟩
end
theorem Qr (h:su) (l:Data.sm h) {r:pB} (j:Data.sm r) (s:zN): ∃x:Cn×zN×Bool,cF h r s=some x/\gN h r s=some x/\x.1.2.2.1.length<=150/\x.1.2.2.2.length<=150/\(x.2.2=true->s.2.2<x.2.1.2.2/\h.1<=x.2.1.2.2/\x.2.1.2.2<=oA h/\oA h<=h.1+7):=by
 obtain ⟨b,e,i,k⟩:=HE h l j s;have e:gp (h.1,h.2) (r.1,r.2) (s.1,s.2.1,s.2.2)=_:=e;have i:kQ (h.1,h.2) (r.1,r.2) (s.1,s.2.1,s.2.2)=_:=i;unfold cF gN;rw[e,i];simp only[aa];cases b with
 | false=>exact ⟨_,rfl,rfl,Nat.zero_le _,Nat.zero_le _,fun c=>by cases c⟩
 | true =>
  obtain ⟨hv,-,-,o,p,q⟩:=k rfl;have w:oA h=h.1+(h.2.length:Int) - 1:=rfl;have t:i64.wrap (s.2.2+1)=s.2.2+1:=bA (by omega) (by omega);rw[t];simp only[if_true];have v:Max.max h.1 (s.2.2+1)=if h.1<=s.2.2+1 then s.2.2+1 else h.1:=by rw[Int.max_def]
  have a:h.1<=Max.max h.1 (s.2.2+1)/\Max.max h.1 (s.2.2+1)<=oA h/\s.2.2<Max.max h.1 (s.2.2+1):=by
   rw[v];split <;> omega
  generalize Max.max h.1 (s.2.2+1)=d at a⊢;obtain ⟨m,f,g,u,n⟩:=K0 h l j s d hv o ⟨p,q⟩ ⟨a.1,a.2.1⟩;have f:du (h.1,h.2) (r.1,r.2) (s.1,s.2.1,s.2.2) d=_:=f;have g:kT (h.1,h.2) (r.1,r.2) (s.1,s.2.1,s.2.2) d=_:=g;rw[f,g];exact ⟨(m,(s.1,s.2.1,d),true),rfl,rfl,u,n,fun _=>⟨a.2.2,a.1,a.2.1,by omega⟩⟩
def nxM (h:su) (r:pB) (s:zN):Cn×zN×Bool:=(cF h r s).getD ((0,false,[],[]),s,false)
def drM (h:su) (r:pB) (s:zN):Nat->List Cn×zN
 | 0=>([],s)
 | i+1=>((drM h r s i).1++ [(nxM h r (drM h r s i).2).1],(nxM h r (drM h r s i).2).2.1)
theorem Ft (h:su) (r:pB) (s:zN): ∀i,(drM h r s i).1.length=i
 | 0=>rfl
 | i+1=>by rw[drM,az,Ft h r s i];rfl
theorem HG (p:Nat->Prop) [DecidablePred p] : ∀n,(∀j,j<n->p j)\/ ∃K,K<n/\ ¬p K/\ ∀j,j<K->p j
 | 0=>.inl fun j a=>absurd a (Nat.not_lt_zero _)
 | n+1=>by
  rcases HG p n with h | ⟨K,f,b,d⟩
  ·by_cases c:p n
   ·refine .inl fun j a=>?_;by_cases e:j=n
    ·subst e;exact c
    ·exact h j (by omega)
   ·exact .inr ⟨n,by omega,c,h⟩
  ·exact .inr ⟨K,by omega,b,d⟩
section
variable {h:su} (hh:Data.sm h) {r:pB} (hr:Data.sm r)
include hh hr
theorem HH (s:zN):cF h r s=some (nxM h r s)/\gN h r s=some (nxM h r s)/\(nxM h r s).1.2.2.1.length<=150/\(nxM h r s).1.2.2.2.length<=150/\((nxM h r s).2.2=true->s.2.2<(nxM h r s).2.1.2.2/\h.1<=(nxM h r s).2.1.2.2/\(nxM h r s).2.1.2.2<=oA h/\oA h<=h.1+7):=by
 obtain ⟨x,a,b,k⟩:=Qr h hh hr s
 have:nxM h r s=x:=by unfold nxM;rw[a];rfl
 rw[this];exact ⟨a,b,k⟩
theorem Qs (s:zN): ∀i:Nat,(∀j,j<i+1->(nxM h r (drM h r s j).2).2.2=true)->h.1+(i:Int)<=(drM h r s (i+1)).2.2.2/\(drM h r s (i+1)).2.2.2<=h.1+7
 | 0,hk=>by
  obtain ⟨-,-,-,-,k⟩:=HH hh hr (drM h r s 0).2
  have:=k (hk 0 (by omega))
  show _<=(nxM h r (drM h r s 0).2).2.1.2.2/\(nxM h r (drM h r s 0).2).2.1.2.2<=_;omega
 | i+1,hk=>by
  have b:=Qs s i (fun j a=>hk j (by omega));obtain ⟨-,-,-,-,k⟩:=HH hh hr (drM h r s (i+1)).2
  have:=k (hk (i+1) (by omega))
  show _<=(nxM h r (drM h r s (i+1)).2).2.1.2.2/\(nxM h r (drM h r s (i+1)).2).2.1.2.2<=_;omega
theorem K4 (s:zN): ∀i,∀m∈(drM h r s i).1,m.2.2.1.length<=150/\m.2.2.2.length<=150
 | 0,m,a=>by cases a
 | i+1,m,a=>by
  rw[drM] at a;rcases aG a with a | a
  ·exact K4 s i m a
  ·obtain rfl:=ak a;obtain ⟨-,-,b,c,-⟩:=HH hh hr (drM h r s i).2;exact ⟨b,c⟩
theorem Qt (s:zN): ∃K,K<=8/\ ¬(nxM h r (drM h r s K).2).2.2=true/\ ∀j,j<K->(nxM h r (drM h r s j).2).2.2=true:=by
 rcases HG (fun j=>(nxM h r (drM h r s j).2).2.2=true) 9 with k | ⟨K,d,a,b⟩
 ·have:=Qs hh hr s 8 (fun j c=>k j (by omega))
  omega
 ·exact ⟨K,by omega,a,b⟩
theorem ML (s:zN): ∃(l:List Cn) (t:zN),dR h r s=some (l,t)/\gO h r s=some (l,t)/\l.length<=8/\ ∀m∈l,m.2.2.1.length<=150/\m.2.2.2.length<=150:=by
 obtain ⟨K,k,d,g⟩:=Qt hh hr s;refine ⟨(drM h r s K).1,(drM h r s K).2,?_,?_,by rw[Ft];exact k,K4 hh hr s K⟩
 ·unfold dR;obtain ⟨o,e,rfl⟩:=b9 (f:=dD h r) (fun i x=>x=((drM h r s i).1,(i:Int),(drM h r s i).2.1,(drM h r s i).2.2.1,(drM h r s i).2.2.2)) (fun o=>o= .ret ((drM h r s K).1,(drM h r s K).2)) K (s:=(([] :List Cn),0,s.1,s.2.1,s.2.2)) (by
   rintro i x j rfl;obtain ⟨a,-,-⟩:=HH hh hr (drM h r s i).2;have a:cF (h.1,h.2) (r.1,r.2) ((drM h r s i).2.1,(drM h r s i).2.2.1,(drM h r s i).2.2.2)=_:=a;unfold dD;simp only;rw[if_pos (by simp only[decide_eq_true_eq];omega),a];simp only[aa];by_cases c:i<K
   ·rw[if_pos (g i c),ay (by rw[Ft];simp;omega),af (by omega)];exact .inl ⟨c,_,rfl,rfl⟩
   ·obtain rfl:i=K:=by omega
    rw[if_neg d];exact .inr ⟨_,rfl,(fun n e=>by cases e),rfl⟩) rfl (kz (by omega))
  rw[bg e]
 ·unfold gO;obtain ⟨o,e,rfl⟩:=b9 (f:=j3 h r) (fun i x=>x=((drM h r s i).1,(drM h r s i).2.1,(drM h r s i).2.2.1,(drM h r s i).2.2.2)) (fun o=>o= .ret ((drM h r s K).1,(drM h r s K).2)) K (s:=(([] :List Cn),s.1,s.2.1,s.2.2)) (by
   rintro i x j rfl;obtain ⟨-,b,-⟩:=HH hh hr (drM h r s i).2;have b:gN (h.1,h.2) (r.1,r.2) ((drM h r s i).2.1,(drM h r s i).2.2.1,(drM h r s i).2.2.2)=_:=b;unfold j3;simp only;rw[b];simp only[aa];by_cases c:i<K
   ·rw[if_pos (g i c),ay (by rw[Ft];simp;omega)];exact .inl ⟨c,_,rfl,rfl⟩
   ·obtain rfl:i=K:=by omega
    rw[if_neg d];exact .inr ⟨_,rfl,(fun n e=>by cases e),rfl⟩) rfl (kz (by omega))
  rw[bg e]
end
theorem K5 (x:Int):0<=qp x 255/\qp x 255<=255:=by
 have h:(BitVec.ofInt 64 x &&& BitVec.ofInt 64 255).toNat<=255:=by
  rw[BitVec.toNat_and];exact Nat.le_trans Nat.and_le_right (by decide)
 unfold qp;rw[bA (by omega) (by omega)];omega
def jF (xs:List Int) (i:Int):Prop:=0<=i/\i<=(xs.length:Int)
section
variable {xs:List Int} {i h:Int}
theorem abr (n:xs.length<=1048576): ∃r:Int×Int,wM xs=some r/\jF xs r.1:=by
 have key: ∃s,aq (pL xs) aT (i64.wrap (10101+(xs.length:Int)),0)=some (.brk s):=by
  obtain ⟨o,e,s,rfl⟩:=b9 (f:=pL xs) (fun j s=>s.2=(j:Int)) (fun o=> ∃s,o= .brk s) xs.length (fun j s m g=>by
   obtain ⟨a,b⟩:=s;obtain rfl:b=(j:Int):=g;unfold pL;simp only;rw[WZ];by_cases d:j<xs.length
   ·rw[if_pos (by simpa using d)];by_cases c:((j:Nat):Int)<4000
    ·rw[if_pos (by simpa using c),au (by omega) (by omega)];simp only[aa];exact .inl ⟨d,_,rfl,by show i64.wrap ((j:Int)+1)=_;rw[bA (by omega) (by omega)];omega⟩
    ·rw[if_neg (by simpa using c)];exact .inr ⟨_,rfl,(fun l e=>by cases e),_,rfl⟩
   ·rw[if_neg (by simpa using d)];exact .inr ⟨_,rfl,(fun l e=>by cases e),_,rfl⟩) (s:=(i64.wrap (10101+(xs.length:Int)),0)) rfl (kz (by omega))
  exact ⟨s,e⟩
 obtain ⟨s,k⟩:=key;unfold wM;rw[ah k];exact ⟨_,rfl,by show (0:Int)<=0;omega,by show (0:Int)<=_;omega⟩
theorem HI (b:xs.length<=1048576) (a:jF xs i): ∃r:Int×Int×Int,kZ (xs,i,h)=some r/\(0<=r.1/\r.1<=255)/\jF xs r.2.1:=by
 unfold kZ;simp only;by_cases c:i<(xs.length:Int)
 ·rw[if_pos (by simpa using c),au a.1 c];simp only[aa];refine ⟨_,rfl,K5 _,?_⟩;show jF xs (i64.wrap (i+1))
  have:=a.1
  rw[bA (by omega) (by omega)];exact ⟨by omega,by omega⟩
 ·rw[if_neg (by simpa using c)];simp only[aa];exact ⟨_,rfl,K5 _,a⟩
theorem bJ (f:xs.length<=1048576) (l:jF xs i) {n:Int} (j:0<n): ∃r:Int×Int×Int,aK (xs,i,h) n=some r/\(0<=r.1/\r.1<n)/\jF xs r.2.1:=by
 unfold aK;simp only;rw[if_neg (by simpa using j)];have g:chk (n≠0)=some ():=by unfold chk;rw[if_pos (by omega)]
 by_cases c:n<=256
 ·rw[if_pos (by simpa using c)];obtain ⟨r,e,k,o⟩:=HI (h:=h) f l;rw[e,g];simp only[aa];exact ⟨_,rfl,⟨Int.tmod_nonneg _ k.1,Int.tmod_lt_of_pos _ j⟩,o⟩
 ·rw[if_neg (by simpa using c)];obtain ⟨b,y,k,t⟩:=HI (h:=h) f l;rw[y];simp only[aa];obtain ⟨a,v,o,A⟩:=HI (h:=b.2.2) f t;rw[v];simp only[aa];obtain ⟨d,C,F,p⟩:=HI (h:=a.2.2) f A;rw[C];simp only[aa];obtain ⟨m,s,E,u⟩:=HI (h:=d.2.2) f p;rw[s,g];simp only[aa];have D:i64.wrap (b.1*16777216)=b.1*16777216:=bA (by omega) (by omega);have x:i64.wrap (a.1*65536)=a.1*65536:=bA (by omega) (by omega);have q:i64.wrap (d.1*256)=d.1*256:=bA (by omega) (by omega);have w:i64.wrap (b.1*16777216+a.1*65536)=b.1*16777216+a.1*65536:=bA (by omega) (by omega);have B:i64.wrap (b.1*16777216+a.1*65536+d.1*256)=b.1*16777216+a.1*65536+d.1*256:=bA (by omega) (by omega);have z:i64.wrap (b.1*16777216+a.1*65536+d.1*256+m.1)=b.1*16777216+a.1*65536+d.1*256+m.1:=bA (by omega) (by omega);rw[D,x,q,w,B,z];exact ⟨_,rfl,⟨Int.tmod_nonneg _ (by omega),Int.tmod_lt_of_pos _ j⟩,u⟩
theorem vc (a:xs.length<=1048576) (c:jF xs i) {n:Int} (b:0<n): ∃r:Bool×Int×Int,cn (xs,i,h) n=some r/\jF xs r.2.1:=by
 obtain ⟨r,e,-,k⟩:=bJ (h:=h) a c b;unfold cn;simp only;rw[e];exact ⟨_,rfl,k⟩
theorem dC (b:xs.length<=1048576) (d:jF xs i) {l:List Int} (c:l≠ []): ∃r:Int×Int×Int,bh (xs,i,h) l=some r/\r.1∈l/\jF xs r.2.1:=by
 have hp:0<(l.length:Int):=by have:=List.length_pos_iff.2 c;omega
 obtain ⟨r,e,a,k⟩:=bJ (h:=h) b d hp;unfold bh;simp only;rw[e];simp only[aa];rw[au a.1 a.2];simp only[aa];exact ⟨_,rfl,bT a.1 a.2,k⟩
theorem ZX (b:xs.length<=1048576) (d:jF xs i) {l:List ByteArray} (c:l≠ []): ∃r:ByteArray×Int×Int,tV (xs,i,h) l=some r/\r.1∈l/\jF xs r.2.1:=by
 have hp:0<(l.length:Int):=by have:=List.length_pos_iff.2 c;omega
 obtain ⟨r,e,a,k⟩:=bJ (h:=h) b d hp;unfold tV;simp only;rw[e];simp only[aa];rw[au a.1 a.2];simp only[aa];exact ⟨_,rfl,bT a.1 a.2,k⟩
end
def ab2 (x:Tr Tok):Prop:= ∀(n:Nat) (p:DO),(flat x).length<=n->p.2.2.2.1.length=p.1.length->p.1.length+(flat x).length<=100000->
 ∃(nu:Bool) (fi la:Int) (q:DO),cz n p (flat x)=some ((nu,fi,la),q)/\q.2.2.2.1.length=q.1.length/\q.1.length<=p.1.length+(flat x).length
theorem TG {x:Tr Tok} (h:WT x):ab2 x:=by
 refine WT.ind (p:=ab2) ?_ ?_ ?_ h
 ·intro t e n p c m f;rw[E6] at c f⊢;simp[aH,aJ] at f
  match n,c with
  | n+1,_ =>
   rw[cz]
   have:=(kM (A:=[]) (t:=t) (by simp)).1
   rw[List.nil_append] at this;rw[this];simp only[aa,jX];rcases mQ (show 0<=ar t by omega) with ⟨k,_⟩ | ⟨k,_⟩ | ⟨_,k⟩
   ·omega
   ·omega
   rcases k with k | k | k
   ·exact ⟨false,0,0,p,by simp[k],m,by simp⟩
   ·exact ⟨true,0,0,p,by simp[k],m,by simp⟩
   ·refine ⟨false,vZ 1 (p.1.length:Int),vZ 1 (p.1.length:Int),(p.1++ [t.2.1],p.2.1,p.2.2.1,p.2.2.2.1++ [0],p.2.2.2.2),?_,by grind,by simp⟩;rw[if_neg (by simp[k]),if_pos (by simp[k]),ay (by grind)];simp[aa];rw[ay (by simp;omega)];rfl
 ·intro t a e K S n p c m f;rw[CZ] at c f⊢;simp[az,aH,aJ] at c f
  match n,c with
  | n+1,c =>
   rw[cz];simp only[jX];have ⟨I,C⟩:=kM (A:=flat a) (t:=t) (by omega);rw[I];simp only[aa];have ⟨o,u,y,q,D,i,J⟩:=S n p (by omega) m (by omega);rcases Pz e with ⟨M,B⟩ | ⟨M,B,V⟩
   ·have v:(t.1==2)=false:=by simp[B]
    have s:(t.1==3)=false:=by simp[B]
    have z:(t.1==4)=false:=by simp[B]
    have w:(t.1==5)=false:=by simp[B]
    simp only[v,s,z,w,M,Bool.false_eq_true,if_false,if_true];rw[C,Int.toNat_natCast,List.take_left,jE (by grind)];simp only[aa];rw[D];simp only[aa,jX];rw[KE (by omega)];simp only[aa];refine ⟨true,u,y,_,rfl,?_,?_⟩
    ·simp only[xp];exact i
    ·simp only[az,aH,aJ];omega
   grind
 ·intro t a b e K N G F n p c m f;rw[xl] at c f⊢;have H:((flat a++flat b)++ [t]).length<=1000000:=by omega
  have ⟨L,P,O,Q⟩:=xn (a:=a) (t:=t) N H;simp only[az,aH,aJ] at c f
  match n,c with
  | n+1,c =>
   have U:=K.pos;have R:=N.pos;rw[cz];simp only[jX];have ⟨I,C⟩:=kM (A:=flat a++flat b) (t:=t) (by grind);rw[I];simp only[aa];have ⟨o,u,y,q,D,i,J⟩:=G n p (by omega) m (by omega);have ⟨d,l,j,g,r,E,T⟩:=F n q (by omega) i (by omega);rcases mQ (show 0<=ar t by omega) with ⟨_,k⟩ | ⟨k,_⟩ | ⟨k,_⟩
   ·rcases k with k | k
    ·have v:(t.1==2)=false:=by simp[k]
     have s:(t.1==3)=false:=by simp[k]
     have z:(t.1==4)=true:=by simp[k]
     have w:(t.1==5)=false:=by simp[k]
     simp only[v,s,z,w,Bool.false_eq_true,if_false,if_true];rw[C,L,P,jE (by grind)];simp only[aa];rw[jE (by grind),O,Q,D];simp only[aa];rw[jE (by simp only[az,aH,aJ];omega)];simp only[aa,jX];rw[r];simp only[aa,jX];rw[KE (by omega)];simp only[aa];refine ⟨o&&d,if o then orI u l else u,if d then orI y j else j,(g.1,g.2.1,g.2.2.1,lk g.2.2.2.1 y l g.2.2.2.1.length,g.2.2.2.2),?_,?_,?_⟩
     ·cases o <;> cases d <;> rfl
     ·grind[xp]
     grind
    ·have v:(t.1==2)=false:=by simp[k]
     have s:(t.1==3)=false:=by simp[k]
     have z:(t.1==4)=false:=by simp[k]
     have w:(t.1==5)=true:=by simp[k]
     simp only[v,s,z,w,Bool.false_eq_true,if_false,if_true];rw[C,L,P,jE (by grind)];simp only[aa];rw[jE (by grind),O,Q,D];simp only[aa];rw[jE (by simp only[az,aH,aJ];omega)];simp only[aa,jX];rw[r];simp only[aa,jX];refine ⟨o || d,orI u l,orI y j,g,?_,E,?_⟩
     ·cases o <;> simp
     grind
   ·omega
   ·omega
theorem Qu {e:List Tok} (d:e.length<=1048576):iJ e=some (Kx e):=by
 have f:=pz;unfold iJ Kx;rw[BZ d];by_cases c:(decide (e.length<=24)&&isX e)=true
 ·rw[aj] at c;obtain ⟨x,h,a,rfl⟩:=Kv c.2;have b:(flat x).length<=24:=by simpa using c.1
  rw[uj a,UF a fH (by omega) (by omega)];by_cases g:5000<szX x
  ·grind
  ·grind[B1,Kw,fH]
 grind
theorem Jm {e:List Tok} (i:e.length<=1048576): ∃r:DO×Bool,dy e=some r/\r.1.2.2.2.1.length=r.1.1.length/\r.1.1.length<=400:=by
 have k:=pz;unfold dy;rw[Qu i];simp only[aa];by_cases c:(Kx e).2=true
 ·have ⟨y,g,j,l⟩:=PD c;rw[if_pos c,ah (Zo (by grind))];by_cases d:(KG (Kx e).1 (Kx e).1.length:Int)>20
  ·simp_all
  ·have a:=decide_eq_false d;simp only[a,Bool.false_eq_true,if_false];rw[j];have ⟨n,m,o,q,b,f,h⟩:=TG g fH ([],0,0,[],false) (by omega) rfl (by grind);rw[b];simp[aa];grind
 simp_all
theorem Qv {p:DO} (h1:p.2.2.2.1.length=p.1.length) (d:p.1.length<=100000): ∃r:AutT×Bool,fc p 12=some r/\(r.2=true-> ∃N,N<=12/\bfE (nxS p) 1 N/\r.1=(0,(bfS (nxS p) 1 N).map (tE p),bfR (nxS p) 1 N)/\VA r.1 N):=by
 have c:=Zn (p:=p) (most:=12) h1 (by omega) (by omega) (by omega);rcases I9 (nx:=nxS p) (first:=1) (acc:=tE p) (most:=12) (12+2) 0 (fun j b=>by omega) (by simp[bfS]) with e | ⟨N,f,a,e⟩
 ·grind
 grind[PX,tE,B3]
def K6:List ByteArray:=[⟨#[97]⟩,⟨#[97,32,98,32,46]⟩,⟨#[97,32,42]⟩,⟨#[97,32,98,32,124,32,42]⟩,⟨#[97,32,97,45,32,46]⟩,⟨#[97,32,42,32,98,32,46]⟩,⟨#[97,32,98,32,42,32,46,32,99,32,46]⟩,⟨#[97,32,97,32,124,32,42]⟩,⟨#[97,32,98,32,46,32,42]⟩,⟨#[48,32,97,32,46,32,42]⟩,⟨#[97,32,49,32,46,32,98,32,46]⟩,⟨#[97,32,123,48,44,50,125]⟩,⟨#[97,32,98,32,124,32,123,49,44,51,125]⟩,⟨#[40,41]⟩,⟨#[33]⟩,⟨#[97,45,32,42,32,97,32,46]⟩,⟨#[97,32,98,45,32,46,32,42,32,99,32,124]⟩,⟨#[97,32,42,32,97,32,42,32,46]⟩,⟨#[97,32,48,32,124,32,42,32,98,32,46]⟩,⟨#[97,32,97,32,46,32,42]⟩,⟨#[97,32,98,32,46,32,98,32,97,32,46,32,124,32,42]⟩]
def Qw (t:ByteArray):Bool:=match jQ t with
 | some r=>r.2&&Nat.ble 1 r.1.length&&Nat.ble r.1.length 24
 | none=>false
theorem Qx:K6.all Qw=true:=by kernel_rfl
theorem TH {t:ByteArray} (h:t∈K6): ∃r:List Tok×Bool,jQ t=some r/\r.2=true/\1<=r.1.length/\r.1.length<=24:=by
 have a:Qw t=true:=List.all_eq_true.1 Qx t h;unfold Qw at a;split at a
 ·rename_i r b;rw[aj,aj] at a;exact ⟨r,b,a.1.1,bu a.1.2,bu a.2⟩
 ·cases a
section
variable {xs:List Int} {i h:Int}
theorem Qy (c:xs.length<=1048576) (m:jF xs i): ∃r:List Tok×Int×Int,oZ (xs,i,h)=some r/\(1<=r.1.length/\r.1.length<=24)/\jF xs r.2.1:=by
 obtain ⟨r,e,f,k⟩:=ZX (h:=h) c m (l:=K6) (by unfold K6;simp);obtain ⟨q,d,-,g⟩:=TH f;unfold oZ;have b:=congrArg (fun o:Option (ByteArray×Int×Int)=>Option.bind o (fun a:ByteArray×Int×Int=>(jQ a.1).bind fun j=>some (j.1,a.2.1,a.2.2))) e;refine ⟨(q.1,r.2.1,r.2.2),b.trans ?_,g,k⟩;show (jQ r.1).bind _=_;rw[d];rfl
theorem HJ (a:xs.length<=1048576): ∀(d n:Nat) (i h:Int),d<n->d<=3->jF xs i-> ∃r:List Tok×Int×Int,eJ n (xs,i,h) (d:Int)=some r/\(1<=r.1.length/\r.1.length+1<=2 ^ (d+1))/\jF xs r.2.1
 | 0,n+1,i,h,_,_,g=>by
  rw[eJ];simp only;rw[if_pos (by decide)];obtain ⟨r,e,k⟩:=vc (h:=h) a g (n:=12) (by omega);rw[e];simp only[aa];by_cases c:r.1=true
  ·rw[if_pos c];obtain ⟨q,s,-,v⟩:=dC (h:=r.2.2) a k (l:=[1,2]) (by simp);rw[s];simp only[aa];exact ⟨_,rfl,⟨aL _,aL _⟩,v⟩
  ·rw[if_neg c];obtain ⟨q,s,-,v⟩:=dC (h:=r.2.2) a k (l:=[0,0,2,2,1,4,3,6,7]) (by simp);rw[s];simp only[aa];exact ⟨_,rfl,⟨aL _,aL _⟩,v⟩
 | d+1,n+1,i,h,hd,h3,g=>by
  have hp:2 ^ (d+1+1)=2*2 ^ (d+1):=by rw[Nat.pow_succ,Nat.mul_comm]
  have J:2 ^ (d+1)<=8:=by
   have:d<=2:=by omega
   match d,this with
   | 0,_=>decide
   | 1,_=>decide
   | 2,_=>decide
  rw[eJ];simp only;rw[if_neg (by simp;omega)];have H:i64.wrap (((d+1:Nat):Int) - 1)=(d:Int):=by rw[bA (by omega) (by omega)];omega
  rw[H];obtain ⟨r,e,-,k⟩:=bJ (h:=h) a g (n:=6) (by omega);rw[e];simp only[aa];have two: ∀(t:Tok) (i h:Int),jF xs i-> ∃r:List Tok×Int×Int,((eJ n (xs,i,h) (d:Int)).bind fun b=>(eJ n (xs,b.2.1,b.2.2) (d:Int)).bind fun x=>(fj b.1 x.1 t).bind fun F=>some (F,x.2.1,x.2.2))=some r/\(1<=r.1.length/\r.1.length+1<=2 ^ (d+1+1))/\jF xs r.2.1:=fun t i h g=>by
   obtain ⟨b,o,B,m⟩:=HJ a d n i h (by omega) (by omega) g;rw[o];simp only[aa];obtain ⟨x,E,K,G⟩:=HJ a d n b.2.1 b.2.2 (by omega) (by omega) m;rw[E];simp only[aa];rw[B2 (by omega)];simp only[aa];refine ⟨_,rfl,?_,G⟩;simp only[az,aH,aJ];omega
  have one: ∀(t:Tok) (i h:Int),jF xs i-> ∃r:List Tok×Int×Int,((eJ n (xs,i,h) (d:Int)).bind fun f=>(fj f.1 ([] :List Yq1) t).bind fun y=>some (y,f.2.1,f.2.2))=some r/\(1<=r.1.length/\r.1.length+1<=2 ^ (d+1+1))/\jF xs r.2.1:=fun t i h g=>by
   obtain ⟨b,o,B,m⟩:=HJ a d n i h (by omega) (by omega) g;rw[o];simp only[aa];rw[B2 (by simp only[aJ];omega)];simp only[aa];refine ⟨_,rfl,?_,m⟩;simp only[az,aH,aJ];omega
  have j: ∀(p q:Bool),(if p then (some p) else (some q):Option Bool)=some (p || q):=fun p q=>by cases p <;> rfl
  rw[j];simp only[aa];by_cases A:(r.1==0 || r.1==1)=true
  ·rw[if_pos A];exact two _ _ _ k
  ·rw[if_neg A,j];simp only[aa];by_cases z:(r.1==2 || r.1==3)=true
   ·rw[if_pos z];exact two _ _ _ k
   ·rw[if_neg z];by_cases C:(r.1==4)=true
    ·rw[if_pos C];exact one _ _ _ k
    ·rw[if_neg C];obtain ⟨q,s,L,v⟩:=bJ (h:=r.2.2) a k (n:=3) (by omega);rw[s];simp only[aa];obtain ⟨b,o,B,m⟩:=HJ a d n q.2.1 q.2.2 (by omega) (by omega) v;rw[o];simp only[aa];have w:i64.wrap (i64.wrap (1+q.1)+1)=q.1+2:=by
      rw[bA (n:=1+q.1) (by omega) (by omega),bA (by omega) (by omega)];omega
     obtain ⟨u,I,-,D⟩:=bJ (h:=b.2.2) a m (n:=q.1+2) (by omega);rw[w,I];simp only[aa];rw[B2 (by simp only[aJ];omega)];simp only[aa];refine ⟨_,rfl,?_,D⟩;simp only[az,aH,aJ];omega
theorem ZY (b:xs.length<=1048576) (m:jF xs i): ∃r:List Tok×Int×Int,tW (xs,i,h)=some r/\(1<=r.1.length/\r.1.length<=24)/\jF xs r.2.1:=by
 have p:=pz;unfold tW;simp only;obtain ⟨r,e,k⟩:=vc (h:=h) b m (n:=2) (by omega);rw[e];simp only[aa];by_cases c:r.1=true
 ·rw[if_pos c];obtain ⟨q,d,j,f⟩:=Qy (h:=r.2.2) b k;rw[d];exact ⟨_,rfl,j,f⟩
 ·rw[if_neg c];obtain ⟨q,d,j,f⟩:=bJ (h:=r.2.2) b k (n:=3) (by omega);rw[d];simp only[aa];have w:i64.wrap (1+q.1)=(((q.1.toNat+1:Nat)):Int):=by rw[bA (by omega) (by omega)];omega
  obtain ⟨u,o,g,l⟩:=HJ b (q.1.toNat+1) fH q.2.1 q.2.2 (by omega) (by omega) f;rw[w,o];refine ⟨_,rfl,⟨g.1,?_⟩,l⟩
  have:q.1.toNat<=2:=by omega
  have a:=g.2;show u.1.length<=24;generalize q.1.toNat=z at this a
  match z,this with
  | 0,_=>simp at a;omega
  | 1,_=>simp at a;omega
  | 2,_=>simp at a;omega
def AutD (a:AutT):Prop:=(1<=a.2.1.length/\a.2.1.length<=12)/\(1<=a.2.2.length/\a.2.2.length<=12)/\ ∀r∈a.2.2,r.length=9
theorem AutD.sm {a:AutT} (h:AutD a):Data.sm a:=⟨trivial,⟨by have:=h.1.2;omega,fun _ _=>trivial⟩,by have:=h.2.1.2;omega,fun r b=>⟨by rw[h.2.2 r b];decide,fun _ _=>trivial⟩⟩
theorem VA.autD {a:AutT} {n:Nat} (V:VA a n) (b:n<=12):AutD a:=by
 have e:=V.pos;have d:=V.len;have c:=V.nlen;exact ⟨by omega,by omega,V.row⟩
theorem abt (y:xs.length<=1048576) {p:List Int×Int×Int} {r0:Int×Int×Int} (hp:p.1=xs) (B:0<=r0.1/\r0.1<4) (A:jF xs i): ∃s,aq (iD p r0) aT (([] :List Int),0,i,h)=some (.brk s)/\s.1.length=9/\jF xs s.2.2.1:=by
 have w:i64.wrap (1+r0.1)=1+r0.1:=bA (by omega) (by omega);obtain ⟨s,e,v,x,m⟩:=eW (f:=iD p r0) (fun j s=>s.2.1=(j:Int)/\s.1.length=j/\jF xs s.2.2.1) 9 (fun j s C g=>by
  obtain ⟨v,x,m⟩:=g;unfold iD;rw[v,hp,if_pos (by simp;omega)];obtain ⟨r,e,k⟩:=vc (h:=s.2.2.2) y m (n:=3) (by omega);rw[e];simp only[aa];have key: ∃q:Int×Int×Int,(if r.1 then (some ((-1),r.2.1,r.2.2)) else ((aK (xs,r.2.1,r.2.2) (i64.wrap (1+r0.1))).bind fun t=>some (t.1,t.2.1,t.2.2)):Option HO)=some q/\jF xs q.2.1:=by
   by_cases c:r.1=true
   ·rw[if_pos c];exact ⟨_,rfl,k⟩
   ·rw[if_neg c,w];obtain ⟨q,o,-,u⟩:=bJ (h:=r.2.2) y k (n:=1+r0.1) (by omega);rw[o];exact ⟨_,rfl,u⟩
  obtain ⟨q,o,u⟩:=key;rw[o];simp only[aa];have l: ∃z:Int,(if decide ((j:Int)>3) then (some (-1)) else (some q.1):Option Int)=some z:=by
   by_cases c:decide ((j:Int)>3)=true
   ·exact ⟨_,if_pos c⟩
   ·exact ⟨_,if_neg c⟩
  obtain ⟨z,l⟩:=l;rw[l];simp only[aa];rw[ay (by simp only[aH,aJ];omega)];simp only[aa];refine ⟨_,rfl,?_,?_,u⟩
  ·show i64.wrap ((j:Int)+1)=((j+1:Nat):Int);rw[bA (by omega) (by omega)];omega
  ·simp only[az,aH,aJ];omega) (fun s g=>by
  unfold iD;rw[g.1,if_neg (by simp)];obtain ⟨a,b,c,d⟩:=s;obtain rfl:b=_:=g.1
  rfl) (s:=(([] :List Int),0,i,h)) ⟨rfl,rfl,A⟩ (kz (by omega))
 exact ⟨s,e,x,m⟩
theorem K7 (g:xs.length<=1048576) (C:jF xs i): ∃r:AutT×Int×Int,lK (xs,i,h)=some r/\AutD r.1/\jF xs r.2.1:=by
 unfold lK;simp only;obtain ⟨r0,D,y,B⟩:=bJ (h:=h) g C (n:=4) (by omega);rw[D];simp only[aa];have w:i64.wrap (1+r0.1)=((r0.1.toNat+1:Nat):Int):=by rw[bA (by omega) (by omega)];omega
 obtain ⟨t,F,-,A⟩:=bJ (h:=r0.2.2) g B (n:=((r0.1.toNat+1:Nat):Int)) (by omega);rw[w,F];simp only[aa];obtain ⟨s,e,u,x,v,l,m⟩:=eW (f:=kE (xs,i,h) r0) (fun j s=>s.1=(j:Int)/\s.2.2.1.length=j/\s.2.2.2.1.length=j/\(∀r∈s.2.2.2.1,r.length=9)/\jF xs s.2.2.2.2.1) (r0.1.toNat+1) (fun j s H d=>by
  obtain ⟨u,x,v,l,m⟩:=d;unfold kE;rw[u,w,if_pos (by simp;omega)];obtain ⟨q,e,z,k⟩:=abt (p:=(xs,i,h)) (r0:=r0) (i:=s.2.2.2.2.1) (h:=s.2.2.2.2.2) g rfl y m;rw[ah e];simp only;obtain ⟨o,E,G⟩:=vc (h:=q.2.2.2) g k (n:=3) (by omega);rw[E];simp only[aa];rw[ay (by simp only[aH,aJ];omega)];simp only[aa];rw[ay (by simp only[aH,aJ];omega)];simp only[aa];refine ⟨_,rfl,?_,by simp[x],by simp[v],fun r c=>?_,G⟩
  ·show i64.wrap ((j:Int)+1)=((j+1:Nat):Int);rw[bA (by omega) (by omega)];omega
  ·rcases aG c with c | c
   ·exact l r c
   ·obtain rfl:=ak c;exact z) (fun s d=>by
  unfold kE;rw[d.1,w,if_neg (by simp)];obtain ⟨a,b⟩:=s;obtain rfl:a=_:=d.1
  rfl) (s:=(0,t.1,([] :List Bool),([] :List (List Int)),t.2.1,t.2.2)) ⟨rfl,rfl,rfl,fun r c=>(by cases c),A⟩ (kz (by omega))
 rw[ah e];refine ⟨_,rfl,⟨?_,?_,l⟩,m⟩
 ·show 1<=s.2.2.1.length/\s.2.2.1.length<=12;omega
 ·show 1<=s.2.2.2.1.length/\s.2.2.2.1.length<=12;omega
theorem abu (b:xs.length<=1048576) (v:jF xs i): ∃r:AutT×Int×Int,tX (xs,i,h)=some r/\AutD r.1/\jF xs r.2.1:=by
 unfold tX;simp only;obtain ⟨r,e,k⟩:=vc (h:=h) b v (n:=3) (by omega);rw[e];simp only[aa];by_cases c:r.1=true
 ·rw[if_pos c];obtain ⟨q,j,l,d⟩:=K7 (h:=r.2.2) b k;rw[j];exact ⟨_,rfl,l,d⟩
 ·rw[if_neg c];obtain ⟨q,j,l,d⟩:=ZY (h:=r.2.2) b k;rw[j];simp only[aa];obtain ⟨p,y,m,z⟩:=Jm (e:=q.1) (by omega);rw[y];simp only[aa];obtain ⟨a,g,s⟩:=Qv (p:=p.1) m (by omega);have g:fc (p.1.1,p.1.2.1,p.1.2.2.1,p.1.2.2.2.1,p.1.2.2.2.2) 12=some a:=g;rw[g];simp only[aa];by_cases f:a.2=true
  ·rw[if_pos f];obtain ⟨N,t,-,-,V⟩:=s f;exact ⟨_,rfl,V.autD t,d⟩
  ·rw[if_neg f];obtain ⟨u,x,w,o⟩:=K7 (h:=q.2.2) b d;rw[x];exact ⟨_,rfl,w,o⟩
end
section
variable {xs:List Int} {i h:Int}
theorem ZZ (q:xs.length<=1048576) {p:List Int×Int×Int} (hp:p.1=xs) (o:jF xs i) {n:Int} (t:0<=n/\n<=5): ∃s:Int×Int×Int×List Int×List Yq1,aq (dW p) aT (n,i,h,([] :List Int),([] :List Yq1))=some (.brk s)/\s.2.2.2.1.length=n.toNat/\s.2.2.2.2= [] /\jF xs s.2.1:=by
 obtain ⟨s,e,m,l,g,d⟩:=eW (f:=dW p) (fun j s=>s.1=n - (j:Int)/\s.2.2.2.1.length=j/\s.2.2.2.2= [] /\jF xs s.2.1) n.toNat (fun j s u c=>by
  obtain ⟨m,l,g,d⟩:=c;unfold dW;rw[m,hp,if_pos (by simp;omega)];obtain ⟨r,e,-,k⟩:=bJ (h:=s.2.2.1) q d (n:=3) (by omega);rw[e];simp only[aa];rw[ay (by simp only[aH,aJ];omega)];simp only[aa];refine ⟨_,rfl,?_,by simp[l],g,k⟩;show i64.wrap (n - (j:Int) - 1)=n - ((j+1:Nat):Int);rw[bA (by omega) (by omega)];omega) (fun s c=>by
  unfold dW;rw[c.1,if_neg (by simp;omega)];obtain ⟨a,b⟩:=s;obtain rfl:a=_:=c.1
  rfl) (s:=(n,i,h,([] :List Int),([] :List Yq1))) ⟨by show n=n - 0;omega,rfl,rfl,o⟩ (kz (by omega))
 exact ⟨s,e,l,g,d⟩
def GrD (g:GrT):Prop:=(1<=g.1.length/\g.1.length<=5)/\g.2.length<=11
theorem GrD.sm {g:GrT} (h:GrD g):Data.sm g:=⟨⟨by have:=h.1.2;omega,fun _ _=>trivial⟩,by have:=h.2;omega,fun _ _=>⟨trivial,trivial,trivial,trivial⟩⟩
theorem XB (m:xs.length<=1048576) (O:jF xs i): ∃r:GrT×Int×Int,kP (xs,i,h)=some r/\GrD r.1/\jF xs r.2.1:=by
 unfold kP;simp only;obtain ⟨t,P,A,M⟩:=dC (h:=h) m O (l:=[2,3,4,4,5]) (by simp);rw[P];simp only[aa];have A:2<=t.1/\t.1<=5:=by simp at A;omega
 obtain ⟨s,e,W,Q,N⟩:=ZZ (p:=(xs,i,h)) (h:=t.2.2) m rfl M (n:=t.1) (by omega);rw[ah e];obtain ⟨k,y,o,w⟩:=dC (h:=s.2.2.1) m N (l:=[4,8,11]) (by simp);rw[y];simp only[aa];have o:4<=k.1/\k.1<=11:=by simp at o;omega
 obtain ⟨g,x,E,v⟩:=bJ (h:=k.2.2) m w (n:=k.1) (by omega);rw[x];simp only[aa];obtain ⟨q,K,Y,B,Z,G⟩:=eW (f:=gk (xs,i,h)) (fun j z=>z.2.1=g.1 - (j:Int)/\z.2.2.2.2.1=s.2.2.2.1/\z.2.2.2.2.2.length=j/\jF xs z.2.2.1) g.1.toNat (fun j z X u=>by
  obtain ⟨C,V,H,L⟩:=u;unfold gk;rw[C,V,if_pos (by simp;omega)];obtain ⟨a,U,-,D⟩:=bJ (h:=z.2.2.2.1) m L (n:=3) (by omega);rw[U];simp only[aa];obtain ⟨b,R,-,I⟩:=bJ (h:=a.2.2) m D (n:=(s.2.2.2.1.length:Int)) (by omega);rw[R];simp only[aa];obtain ⟨c,J,-,T⟩:=bJ (h:=b.2.2) m I (n:=(s.2.2.2.1.length:Int)) (by omega);rw[J];simp only[aa];obtain ⟨d,S,-,F⟩:=dC (h:=c.2.2) m T (l:=[0,0,1,2]) (by simp);rw[S];simp only[aa];rw[ay (by simp only[aH,aJ];omega)];simp only[aa];refine ⟨_,rfl,?_,rfl,by simp[H],F⟩;show i64.wrap (g.1 - (j:Int) - 1)=g.1 - ((j+1:Nat):Int);rw[bA (by omega) (by omega)];omega) (fun z u=>by
  unfold gk;rw[u.1,if_neg (by simp;omega)];obtain ⟨a,b,c⟩:=z;obtain rfl:b=_:=u.1
  rfl) (s:=(0,g.1,g.2.1,g.2.2,s.2.2.2.1,s.2.2.2.2)) ⟨by show g.1=g.1 - 0;omega,rfl,by rw[Q];rfl,v⟩ (kz (by omega))
 rw[ah K];refine ⟨_,rfl,⟨?_,?_⟩,G⟩
 ·show 1<=q.2.2.2.2.1.length/\q.2.2.2.2.1.length<=5;rw[B];omega
 ·show q.2.2.2.2.2.length<=11;omega
theorem Z0 (b:xs.length<=1048576) (x:jF xs i): ∃r:GrT×Int×Int,wL (xs,i,h)=some r/\Data.sm r.1/\jF xs r.2.1:=by
 unfold wL;simp only;obtain ⟨g,e,o,k⟩:=XB (h:=h) b x;rw[e];simp only[aa];obtain ⟨q,B,-,c⟩:=bJ (h:=g.2.2) b k (n:=14) (by omega);rw[B];simp only[aa];have a:=o.sm;obtain ⟨⟨C,v⟩,w⟩:=o;by_cases p:(q.1==0)=true
 ·rw[if_pos p];obtain ⟨r,f,-,d⟩:=dC (h:=q.2.2) b c (l:=[(-1),3,2]) (by simp);rw[f];simp only[aa];rw[au (by omega) (by omega)];simp only[aa];exact ⟨_,rfl,⟨⟨by rw[List.length_set];omega,fun _ _=>trivial⟩,a.2⟩,d⟩
 ·rw[if_neg p];by_cases m:(q.1==1)=true
  ·rw[if_pos m];obtain ⟨r,f,-,d⟩:=dC (h:=q.2.2) b c (l:=[0,1,99,100]) (by simp);rw[f];simp only[aa];obtain ⟨z,u,-,y⟩:=bJ (h:=r.2.2) b d (n:=6) (by omega);rw[u];simp only[aa];obtain ⟨s,A,-,t⟩:=bJ (h:=z.2.2) b y (n:=6) (by omega);rw[A];simp only[aa];obtain ⟨F,E,-,D⟩:=bJ (h:=s.2.2) b t (n:=4) (by omega);rw[E];simp only[aa];rw[ay (by simp only[aH,aJ];omega)];simp only[aa];exact ⟨_,rfl,⟨a.1,by simp;omega,fun _ _=>⟨trivial,trivial,trivial,trivial⟩⟩,D⟩
  ·rw[if_neg m];by_cases j:(q.1==2)=true
   ·rw[if_pos j];simp only[aa];exact ⟨_,rfl,⟨⟨Nat.zero_le _,fun _ h=>by cases h⟩,a.2⟩,c⟩
   ·rw[if_neg j];simp only[aa];exact ⟨_,rfl,a,c⟩
end
section
variable {xs:List Int} {i h:Int}
theorem XC (t:xs.length<=1048576) {p:List Int×Int×Int} (hp:p.1=xs) (q:jF xs i) {n:Int} (u:0<=n/\n<=5): ∃s:Int×Int×Int×List Int×List Yq1,aq (dW p) aT (n,i,h,([] :List Int),([] :List Yq1))=some (.brk s)/\(s.2.2.2.1.length=n.toNat/\ ∀v∈s.2.2.2.1,0<=v/\v<=2)/\s.2.2.2.2= [] /\jF xs s.2.1:=by
 obtain ⟨s,e,o,l,g,d⟩:=eW (f:=dW p) (fun j s=>s.1=n - (j:Int)/\(s.2.2.2.1.length=j/\ ∀v∈s.2.2.2.1,0<=v/\v<=2)/\s.2.2.2.2= [] /\jF xs s.2.1) n.toNat (fun j s x c=>by
  obtain ⟨o,⟨l,m⟩,g,d⟩:=c;unfold dW;rw[o,hp,if_pos (by simp;omega)];obtain ⟨r,e,w,k⟩:=bJ (h:=s.2.2.1) t d (n:=3) (by omega);rw[e];simp only[aa];rw[ay (by simp only[aH,aJ];omega)];simp only[aa];refine ⟨_,rfl,?_,⟨by simp[l],fun v hv=>?_⟩,g,k⟩
  ·show i64.wrap (n - (j:Int) - 1)=n - ((j+1:Nat):Int);rw[bA (by omega) (by omega)];omega
  ·rcases aG hv with hv | hv
   ·exact m v hv
   ·rw[ak hv];omega) (fun s c=>by
  unfold dW;rw[c.1,if_neg (by simp;omega)];obtain ⟨a,b⟩:=s;obtain rfl:a=_:=c.1
  rfl) (s:=(n,i,h,([] :List Int),([] :List Yq1))) ⟨by show n=n - 0;omega,⟨rfl,fun v hv=>by cases hv⟩,rfl,q⟩ (kz (by omega))
 exact ⟨s,e,l,g,d⟩
def EdD (n:Nat) (w:Int) (l:List Yq1):Prop:=(∀e∈l,(1<=e.1/\e.1<=w)/\(0<=e.2.1/\e.2.1<(n:Int))/\(0<=e.2.2.1/\e.2.2.1<(n:Int))/\0<=e.2.2.2/\e.2.2.2<=2)/\l.Pairwise fun a b=>a.1<b.1
theorem EdD.snoc {n:Nat} {w:Int} {l:List Yq1 } (H:EdD n w l) {e:Int×Int×Int×Int} (m:0<=w) (k:w<e.1) (h1:0<=e.2.1/\e.2.1<(n:Int)) (g:0<=e.2.2.1/\e.2.2.1<(n:Int)) (j:0<=e.2.2.2/\e.2.2.2<=2):EdD n e.1 (l++ [e]):=by
 refine ⟨fun u c=>?_,?_⟩
 ·rcases aG c with c | c
  ·have:=H.1 u c
   exact ⟨by omega,this.2⟩
  ·rw[ak c];exact ⟨by omega,h1,g,j⟩
 ·rw[List.pairwise_append];refine ⟨H.2,List.pairwise_singleton _ _,fun a f b d=>?_⟩;rw[ak d]
  have:=(H.1 a f).1
  omega
theorem TJ (o:xs.length<=1048576) (hc:jF xs i): ∃r:GrT×Int×Int,kP (xs,i,h)=some r/\(Data.sm r.1/\Zz r.1)/\jF xs r.2.1:=by
 unfold kP;simp only;obtain ⟨w,e0,J,Z⟩:=dC (h:=h) o hc (l:=[2,3,4,4,5]) (by simp);rw[e0];simp only[aa];have J:2<=w.1/\w.1<=5:=by simp at J;omega
 obtain ⟨s,e,⟨T,hv⟩,K,h3⟩:=XC (p:=(xs,i,h)) (h:=w.2.2) o rfl Z (n:=w.1) (by omega);rw[ah e];obtain ⟨m,I,t,G⟩:=dC (h:=s.2.2.1) o h3 (l:=[4,8,11]) (by simp);rw[I];simp only[aa];have t:4<=m.1/\m.1<=11:=by simp at t;omega
 obtain ⟨g,H,P,C⟩:=bJ (h:=m.2.2) o G (n:=m.1) (by omega);rw[H];simp only[aa];obtain ⟨q,W,q1,A,q3,q4,B,q6⟩:=eW (f:=gk (xs,i,h)) (fun j z=>z.2.1=g.1 - (j:Int)/\z.2.2.2.2.1=s.2.2.2.1/\z.2.2.2.2.2.length=j/\(0<=z.1/\z.1<=3*(j:Int))/\EdD s.2.2.2.1.length z.1 z.2.2.2.2.2/\jF xs z.2.2.1) g.1.toNat (fun j z x y=>by
  obtain ⟨M,z2,S,O,Q,X⟩:=y;unfold gk;rw[M,z2,if_pos (by simp;omega)];obtain ⟨a,ea,ha,N⟩:=bJ (h:=z.2.2.2.1) o X (n:=3) (by omega);rw[ea];simp only[aa];obtain ⟨b,eb,L,U⟩:=bJ (h:=a.2.2) o N (n:=(s.2.2.2.1.length:Int)) (by omega);rw[eb];simp only[aa];obtain ⟨c,V,D,kc⟩:=bJ (h:=b.2.2) o U (n:=(s.2.2.2.1.length:Int)) (by omega);rw[V];simp only[aa];obtain ⟨d,ed,E,R⟩:=dC (h:=c.2.2) o kc (l:=[0,0,1,2]) (by simp);rw[ed];simp only[aa];have E:0<=d.1/\d.1<=2:=by simp at E;omega
  rw[ay (by simp only[aH,aJ];omega)];simp only[aa];have ew:i64.wrap (i64.wrap (z.1+1)+a.1)=z.1+1+a.1:=by
   rw[bA (n:=z.1+1) (by omega) (by omega),bA (by omega) (by omega)]
  rw[ew];refine ⟨_,rfl,?_,rfl,by simp[S],?_,?_,R⟩
  ·show i64.wrap (g.1 - (j:Int) - 1)=g.1 - ((j+1:Nat):Int);rw[bA (by omega) (by omega)];omega
  ·show 0<=z.1+1+a.1/\z.1+1+a.1<=3*((j+1:Nat):Int);omega
  ·exact EdD.snoc (e:=(z.1+1+a.1,b.1,c.1,d.1)) Q O.1 (by show z.1<z.1+1+a.1;omega) L D E) (fun z y=>by
  unfold gk;rw[y.1,if_neg (by simp;omega)];obtain ⟨a,b,c⟩:=z;obtain rfl:b=_:=y.1
  rfl) (s:=(0,g.1,g.2.1,g.2.2,s.2.2.2.1,s.2.2.2.2)) ⟨by show g.1=g.1 - 0;omega,rfl,by rw[K];rfl,⟨Int.le_refl _,by show (0:Int)<=3*0;omega⟩,by rw[K];exact ⟨fun e Y=>(by cases Y),List.Pairwise.nil⟩,C⟩ (kz (by omega))
 rw[ah W];have k:q.2.2.2.2.1.length=w.1.toNat:=by rw[A,T]
 refine ⟨_,rfl,⟨⟨⟨?_,fun _ _=>trivial⟩,?_,fun _ _=>⟨trivial,trivial,trivial,trivial⟩⟩,⟨?_,?_,?_,?_,?_,?_⟩,?_⟩,q6⟩
 ·show q.2.2.2.2.1.length<=_;rw[k];omega
 ·show q.2.2.2.2.2.length<=_;omega
 ·show 1<=q.2.2.2.2.1.length;rw[k];omega
 ·show q.2.2.2.2.1.length<=5;rw[k];omega
 ·show q.2.2.2.2.2.length<=12;omega
 ·show∀v∈q.2.2.2.2.1,_
  rw[A];exact hv
 ·intro u F
  have:=(B.1 u F).2
  show (0<=u.2.1/\u.2.1<(q.2.2.2.2.1.length:Int))/\(0<=u.2.2.1/\u.2.2.1<(q.2.2.2.2.1.length:Int))/\0<=u.2.2.2/\u.2.2.2<=2;rw[A];exact this
 ·intro j x;have x:j+1<q.2.2.2.2.2.length:=x
  have:=List.pairwise_iff_getElem.1 B.2 j (j+1) (by omega) x (by omega)
  show (nth q.2.2.2.2.2 (j:Int)).1<(nth q.2.2.2.2.2 ((j+1:Nat):Int)).1;rw[de (by omega),de x];exact this
 ·intro u F
  have:=(B.1 u F).1
  omega
end
section
variable {xs:List Int} {i h:Int}
theorem Z1 (a:xs.length<=1048576) (u:jF xs i) (g:GrT): ∃r:ZS×Int×Int,qy (xs,i,h) g=some r/\jF xs r.2.1:=by
 unfold qy;simp only;obtain ⟨w,t,-,v⟩:=bJ (h:=h) a u (n:=40) (by omega);rw[t];simp only[aa];obtain ⟨o,z,-,p⟩:=bJ (h:=w.2.2) a v (n:=Max.max 1 (g.1.length:Int)) (by omega);rw[z];simp only[aa];obtain ⟨A,C,-,B⟩:=bJ (h:=o.2.2) a p (n:=Max.max 1 (g.1.length:Int)) (by omega);rw[C];simp only[aa];obtain ⟨s,y,-,x⟩:=bJ (h:=A.2.2) a B (n:=3) (by omega);rw[y];simp only[aa];obtain ⟨b,m,-,e⟩:=bJ (h:=s.2.2) a x (n:=16) (by omega);rw[m];simp only[aa];by_cases k:(b.1==0)=true
 ·rw[if_pos k];obtain ⟨q,c,-,d⟩:=dC (h:=b.2.2) a e (l:=[0,99,100]) (by simp);rw[c];exact ⟨_,rfl,d⟩
 ·rw[if_neg k];by_cases j:(b.1==1)=true
  ·rw[if_pos j];obtain ⟨q,c,-,d⟩:=dC (h:=b.2.2) a e (l:=[(-1),5]) (by simp);rw[c];exact ⟨_,rfl,d⟩
  ·rw[if_neg j];by_cases f:(b.1==2)=true
   ·rw[if_pos f];obtain ⟨q,c,-,d⟩:=dC (h:=b.2.2) a e (l:=[(-1),3]) (by simp);rw[c];exact ⟨_,rfl,d⟩
   ·rw[if_neg f];exact ⟨_,rfl,e⟩
abbrev BaS:=Int×Int×List Int×List ZS×List Qn
def X2 (xs:List Int) (n:Nat) (s:BaS):Prop:=jF xs s.1/\Data.sm ((s.2.2.1,s.2.2.2.1):GrT)/\s.2.2.2.2.length<=n
theorem Fu (t:xs.length<=1048576) (l:jF xs i) {x:GrT} (o:Data.sm x) {B:List Qn} (v:B.length<=1000) (d:Qn): ∃s:BaS,((eN (x.1,x.2) [(d.1,d.2.1,d.2.2.1,d.2.2.2.1,d.2.2.2.2)]).bind fun b=>if b.2 then ((bM 40 B [(d.1,d.2.1,d.2.2.1,d.2.2.2.1,d.2.2.2.2)]).bind fun g=>some (i,h,b.1.1,b.1.2,g)) else ((cn (xs,i,h) 12).bind fun a=>if a.1 then ((bM 40 B [(d.1,d.2.1,d.2.2.1,d.2.2.2.1,d.2.2.2.2)]).bind fun f=>some (a.2.1,a.2.2,b.1.1,b.1.2,f)) else (some (a.2.1,a.2.2,x.1,x.2,B))))=some s/\X2 xs (B.length+1) s:=by
 obtain ⟨r,e,k⟩:=KZ x o [(d.1,d.2.1,d.2.2.1,d.2.2.2.1,d.2.2.2.2)];have e:eN (x.1,x.2) [(d.1,d.2.1,d.2.2.1,d.2.2.2.1,d.2.2.2.2)] =_:=e;have u:bM 40 B [(d.1,d.2.1,d.2.2.1,d.2.2.2.1,d.2.2.2.2)] =some (B++ [(d.1,d.2.1,d.2.2.1,d.2.2.2.1,d.2.2.2.2)]):=ay (by simp only[aH,aJ];omega);rw[e];simp only[aa];rw[u];simp only[aa];by_cases c:r.2=true
 ·rw[if_pos c];exact ⟨_,rfl,l,k,by simp⟩
 ·rw[if_neg c];obtain ⟨q,p,m⟩:=vc (h:=h) t l (n:=12) (by omega);rw[p];simp only[aa];by_cases j:q.1=true
  ·rw[if_pos j];exact ⟨_,rfl,m,k,by simp⟩
  ·rw[if_neg j];exact ⟨_,rfl,m,o,by show B.length<=_;omega⟩
theorem TK (m:xs.length<=1048576) (u:jF xs i) {p:List Int×Int×Int} (hp:p.1=xs) {x:GrT} (J:Data.sm x) {B:List Qn} (C:B.length<=1000) {n:Nat} (R:n+1<1000): ∃s:BaS,iI p (((n+1:Nat):Int),i,h,x.1,x.2,B)=some (.nxt ((n:Int),s.1,s.2.1,s.2.2.1,s.2.2.2.1,s.2.2.2.2))/\X2 xs (B.length+1) s:=by
 subst hp;unfold iI;simp only;rw[if_pos (decide_eq_true (show ((n+1:Nat):Int)>0 by omega)),show i64.wrap (((n+1:Nat):Int) - 1)=(n:Int) from by rw[bA (by omega) (by omega)];omega];obtain ⟨y,G,M⟩:=Z1 (h:=h) m u x;have G:qy (p.1,i,h) (x.1,x.2)=_:=G;rw[G];simp only[aa]
 suffices v: ∀(o:Option BaS),(∃s,o=some s/\X2 p.1 (B.length+1) s)-> ∃s:BaS,(o.bind fun f=>some (Out.nxt ((n:Int),f.1,f.2.1,f.2.2.1,f.2.2.2.1,f.2.2.2.2):Out ((List Qn)×Int×Int) (Int×BaS)))=some (.nxt ((n:Int),s.1,s.2.1,s.2.2.1,s.2.2.2.1,s.2.2.2.2))/\X2 p.1 (B.length+1) s by
  refine v _ ?_;have b: ∀ {i h:Int} (_:jF p.1 i) (d:Qn),∃s:BaS,(if decide ((B.length:Int)>0)=true then ((cn (p.1,i,h) 4).bind fun k=>Option.bind ((if k.1 then ((aP B (i64.wrap ((B.length:Int) - 1))).bind fun j=>some (cond.match_1 (fun (L:Bool)=>Bool) j.1 (fun (F:Unit)=>false) (fun (K:Unit)=>true),j.2.1,j.2.2.1,j.2.2.2.1,j.2.2.2.2)) else (some (d.1,d.2.1,d.2.2.1,d.2.2.2.1,d.2.2.2.2)):Option MN)) (fun a=>(eN (x.1,x.2) ([(a.1,a.2.1,a.2.2.1,a.2.2.2.1,a.2.2.2.2)])).bind fun l=>if l.2 then ((bM 40 B ([(a.1,a.2.1,a.2.2.1,a.2.2.2.1,a.2.2.2.2)])).bind fun D=>some (k.2.1,k.2.2,l.1.1,l.1.2,D)) else ((cn (p.1,k.2.1,k.2.2) 12).bind fun g=>if g.1 then ((bM 40 B ([(a.1,a.2.1,a.2.2.1,a.2.2.2.1,a.2.2.2.2)])).bind fun A=>some (g.2.1,g.2.2,l.1.1,l.1.2,A)) else (some (g.2.1,g.2.2,x.1,x.2,B))))) else ((eN (x.1,x.2) ([(d.1,d.2.1,d.2.2.1,d.2.2.2.1,d.2.2.2.2)])).bind fun e=>if e.2 then ((bM 40 B ([(d.1,d.2.1,d.2.2.1,d.2.2.2.1,d.2.2.2.2)])).bind fun I=>some (i,h,e.1.1,e.1.2,I)) else ((cn (p.1,i,h) 12).bind fun c=>if c.1 then ((bM 40 B ([(d.1,d.2.1,d.2.2.1,d.2.2.2.1,d.2.2.2.2)])).bind fun H=>some (c.2.1,c.2.2,e.1.1,e.1.2,H)) else (some (c.2.1,c.2.2,x.1,x.2,B)))))=some s/\X2 p.1 (B.length+1) s:=by
   intro i h u d;by_cases N:(B.length:Int)>0
   ·rw[if_pos (by simpa using N)];obtain ⟨q,E,t⟩:=vc (h:=h) m u (n:=4) (by omega);rw[E];simp only[aa];by_cases r:q.1=true
    ·rw[if_pos r,bA (by omega) (by omega),au (by omega) (by omega)];simp only[aa];exact Fu m t J C (cond.match_1 (fun (L:Bool)=>Bool) (nth B ((B.length:Int) - 1)).1 (fun (F:Unit)=>false) (fun (K:Unit)=>true),(nth B ((B.length:Int) - 1)).2)
    ·rw[if_neg r];simp only[aa];exact Fu m t J C d
   ·rw[if_neg (by simpa using N)];exact Fu m u J C d
  by_cases z:(x.2.length:Int)>0
  ·rw[if_pos (by simpa using z)];obtain ⟨q,E,t⟩:=vc (h:=y.2.2) m M (n:=2) (by omega);rw[E];simp only[aa];by_cases r:q.1=true
   ·rw[if_pos r];obtain ⟨w,P,O,Q⟩:=bJ (h:=q.2.2) m t (n:=(x.2.length:Int)) z;rw[P];simp only[aa];rw[au O.1 O.2];simp only[aa];exact b Q (false,nth x.2 w.1)
   ·rw[if_neg r];simp only[aa];exact b t (true,y.1)
  ·rw[if_neg (by simpa using z)];exact b M (true,y.1)
 rintro o ⟨s,rfl,v⟩;exact ⟨s,rfl,v⟩
theorem K8 (a:xs.length<=1048576) {p:List Int×Int×Int} (hp:p.1=xs): ∀(n:Nat) (f:Nat) {i h:Int} {x:GrT} {B:List Qn},n<900->n<f->jF xs i->Data.sm x->B.length+n<=900-> ∃s:BaS,aq (iI p) f ((n:Int),i,h,x.1,x.2,B)=some (.brk (0,s))/\X2 xs (B.length+n) s
 | 0,f+1,i,h,x,B,_,_,hc,hx,hb=>by
  refine ⟨(i,h,x.1,x.2,B),?_,hc,hx,aL _⟩
  have:iI p (((0:Nat):Int),i,h,x.1,x.2,B)=some (.brk (0,i,h,x.1,x.2,B)):=by
   unfold iI;simp only;rw[if_neg (by simp)];rfl
  rw[aq,this]
 | n+1,f+1,i,h,x,B,hn,hf,hc,hx,hb=>by
  obtain ⟨s,e,c,j,l⟩:=TK (h:=h) a hc hp hx (B:=B) (by omega) (n:=n) (by omega);obtain ⟨t,g,b,d,k⟩:=K8 a hp n f (h:=s.2.1) (x:=(s.2.2.1,s.2.2.2.1)) (B:=s.2.2.2.2) (by omega) (by omega) c j (by omega);refine ⟨t,?_,b,d,by omega⟩;rw[aq,e];exact g
theorem XD (a:xs.length<=1048576) (d:jF xs i) {g:GrT} (b:Data.sm g) {m:Nat} (v:m<=8): ∃r:(List Qn)×Int×Int,oU (xs,i,h) g (m:Int)=some r/\r.1.length<=m/\jF xs r.2.1:=by
 unfold oU;simp only;have j:bZ (g.1,g.2)=_:=qo g b;rw[j,bA (by omega) (by omega)];simp only[aa];obtain ⟨r,e,u,q⟩:=bJ (h:=h) a d (n:=(m:Int)+1) (by omega);rw[e];simp only[aa];obtain ⟨k,l⟩: ∃k:Nat,r.1=(k:Int):=⟨r.1.toNat,by omega⟩;obtain ⟨s,c,f,t,o⟩:=K8 a (p:=(xs,i,h)) rfl k aT (h:=r.2.2) (x:=g) (B:=[]) (by omega) (by unfold aT;omega) q b (by simp only[aJ];omega);rw[l,ah c];exact ⟨_,rfl,by have:s.2.2.2.2.length<=0+k:=o;show s.2.2.2.2.length<=m;omega,f⟩
end
def prQ (q:QT):Int×List Tok:=(q.1,q.2.1)
theorem Qz {a ps:List QT} (h:a.map prQ=ps.map prQ) (i:Int):(aP a i=none/\aP ps i=none)\/ ∃x y,aP a i=some x/\aP ps i=some y/\x.1=y.1/\x.2.1=y.2.1:=by
 have d:a.length=ps.length:=by
  have:=congrArg List.length h
  simpa using this
 by_cases c:0<=i/\i<a.length
 ·refine .inr ⟨nth a i,nth ps i,au c.1 c.2,au c.1 (by omega),?_⟩;obtain ⟨k,rfl⟩: ∃k:Nat,i=(k:Int):=⟨i.toNat,by omega⟩;rw[de (by omega),de (by omega)];have b:(a.map prQ)[k]'(by grind)=(ps.map prQ)[k]'(by grind):=by simp[h]
  simp[List.getElem_map,prQ,Prod.mk.injEq] at b;exact b
 grind[aP,List.getElem?_eq_none]
theorem QA {c ps:List QT} (h:c.map prQ=ps.map prQ):br c=br ps:=by
 have i:c.length=ps.length:=by
  have:=congrArg List.length h
  simpa using this
 funext s;unfold br;rw[i];rcases Qz h s.1 with ⟨a,d⟩ | ⟨x,y,a,d,f,g⟩
 ·grind
 ·rcases Qz h (i64.wrap (s.1 - 1)) with ⟨e,b⟩ | ⟨u,v,e,b,j,k⟩
  ·simp[a,d,e,b,aa,Option.bind_none,f,g]
  ·simp[a,d,e,b,aa,f,g,j,k]
theorem TL {a ps:List QT} (h:a.map prQ=ps.map prQ):cA a=cA ps:=by
 have b:a.length=ps.length:=by
  have:=congrArg List.length h
  simpa using this
 grind[cA,QA]
theorem XE (l:List AutT) (a:AutT) (b:l.length<=1048576) (hs: ∀x∈l,Data.sm x):(fT l a=some (-1)/\ ¬a∈l)\/ ∃(i:Nat) (hi:i<l.length),fT l a=some (i:Int)/\l[i] =a:=by
 have c:=yH (f:=eu l a) l (fun u=>decide (u=a)) (fun i=>(i:Int)) (by omega) (fun i h=>by
  simp[eu,cH h,if_true,aI h,aa,jX,vU l[i] a (hs _ (List.getElem_mem h)),af (show i<9223372036854775807 by omega)];grind) (by simp only[eu,cj];rfl)
 grind[fT,bg,ah]
structure BIn (qs:List QT) (i:Nat) (A:List AutT) (Q:List QT):Prop where
 le:i<=qs.length
 pr:Q.map prQ=(qs.take i).map prQ
 len:A.length<=i
 sm: ∀a∈A,Data.sm a
 at_: ∀q∈Q,∃(j:Nat) (hj:j<A.length),q.2.2=(j:Int)/\m_s_CompileExpr q.2.1=some (A[j],true)
 nd:A.Nodup
 cmp: ∀a∈A,∃e:List Tok,e.length<=1048576/\m_s_CompileExpr e=some (a,true)
 rng: ∀j (hj:j<qs.length),j<i->1<=qs[j].1/\qs[j].1<=99
 asc: ∀j (hj:j+1<qs.length),j+1<i->qs[j].1<qs[j+1].1
theorem TM {c:List QT} (E:Data.sm c) {i:Nat} {A:List AutT} {Q:List QT} (f:BIn c i A Q) (hi:i<c.length) :
  br c ((i:Int),A,Q)=some (.ret (([],[]),false))\/ ∃A' Q',br c ((i:Int),A,Q)=some (.nxt (((i+1:Nat):Int),A',Q'))/\BIn c (i+1) A' Q':=by
 obtain ⟨O,D⟩:=bd E;have n:=D _ (List.getElem_mem hi);have M:Q.length=i:=by
  have:=congrArg List.length f.pr
  simp only[List.length_map,aB] at this;omega
 have H:=f.len;obtain ⟨r,F,-,P⟩:=Ca (e:=c[i].2.1) n.2.1.1;have S:bM 56 A [r.1] =some (A++ [r.1]):=ay (by grind);have R: ∀y,bM 40 Q [y] =some (Q++ [y]):=fun y=>ay (by grind);have L:fN c[i].2.1=some c[i].2.1:=by unfold fN;rw[ay (by have:=n.2.1.1;grind)];rfl
 have p: ∀k:Int,(Q++ [(c[i].1,c[i].2.1,k)]).map prQ=(c.take (i+1)).map prQ:=fun k=>by
  rw[aW,f.pr,List.take_succ_eq_append_getElem hi,aW];rfl
 have main:r.2=true->(1<=c[i].1/\c[i].1<=99)->(∀h:0<i,c[i - 1].1<c[i].1)-> ∃k A',(k= -1/\A'=A++ [r.1] \/ ∃j:Nat,k=(j:Int)/\A'=A)/\fT A r.1=some k/\BIn c (i+1) A' (Q++ [(c[i].1,c[i].2.1,if k<0 then (A.length:Int) else k)]):=fun w t C=>by
  have x:m_s_CompileExpr c[i].2.1=some (r.1,true):=by grind
  have m: ∀j (o:j<c.length),j<i+1->1<=c[j].1/\c[j].1<=99:=fun j o z=>by
   by_cases e:j=i
   ·grind
   ·exact f.rng j o (by omega)
  have l: ∀j (o:j+1<c.length),j+1<i+1->c[j].1<c[j+1].1:=fun j o z=>by
   by_cases e:j+1=i
   ·grind
   ·exact f.asc j o (by omega)
  rcases XE A r.1 (by omega) f.sm with ⟨e,J⟩ | ⟨j,o,e,I⟩
  ·refine ⟨-1,A++ [r.1],.inl ⟨rfl,rfl⟩,e,by omega,p _,by grind,fun a g=>?_,fun q d=>?_,?_,fun a g=>?_,m,l⟩
   ·rcases aG g with g | g
    ·exact f.sm a g
    grind
   ·rcases aG d with d | d
    ·obtain ⟨j,o,G,T⟩:=f.at_ q d;exact ⟨j,by grind,G,by grind⟩
    ·rw[ak d];grind
   ·rw[List.nodup_append];refine ⟨f.nd,by simp,fun a g b N=>?_⟩;grind
   ·rcases aG g with g | g
    ·exact f.cmp a g
    ·rw[ak g];exact ⟨_,n.2.1.1,x⟩
  ·refine ⟨(j:Int),A,.inr ⟨j,rfl,rfl⟩,e,by omega,p _,by omega,f.sm,fun q d=>?_,f.nd,f.cmp,m,l⟩;rcases aG d with d | d
   ·exact f.at_ q d
   grind
 have fin:r.2=true->(1<=c[i].1/\c[i].1<=99)->(∀h:0<i,c[i - 1].1<c[i].1)-> ∃A' Q',(((fT A r.1).bind fun s=>Option.bind ((if decide (s<0) then ((bM 56 A ([r.1])).bind fun v=>some ((A.length:Int),v,Q)) else (some (s,A,Q)):Option (Int×List AutT×List QT))) (fun B=>(bM 40 B.2.2 ([(c[i].1,c[i].2.1,B.1)])).bind fun u=>some (Out.nxt (((i+1:Nat):Int),B.2.1,u)))):Option (Out (pB×Bool) (Int×List AutT×List QT)))=some (.nxt (((i+1:Nat):Int),A',Q'))/\BIn c (i+1) A' Q':=fun w t C=>by
  grind
 unfold br;simp only[cH hi,if_true,aI hi,aa,F,E5,jX,L,af (show i<9223372036854775807 by omega)];by_cases w:r.2=true
 case neg =>
  grind
 simp only[w,if_true];by_cases t:1<=c[i].1/\c[i].1<=99
 case neg =>
  simp only[t,decide_false,Bool.false_eq_true,if_false];exact .inl trivial
 simp only[t,and_self,decide_true,if_true];by_cases C:(i:Int)>0
 ·have hp:i - 1<c.length:=by omega
  have K:i64.wrap ((i:Int) - 1)=((i - 1:Nat):Int):=by rw[nF (by omega)];omega
  simp only[C,decide_true,if_true,K,aI hp,aa];grind
 grind
theorem K9 {a:List QT} (l:Data.sm a) {x:pB} (e:cA a=some (x,true)):a.length<=4/\BIn a a.length x.1 x.2:=by
 unfold cA at e;by_cases c:(a.length:Int)>4
 ·grind
 have ⟨o,n,p⟩:=b9 (f:=br a) (fun i s=> ∃A Q,s=((i:Int),A,Q)/\BIn a i A Q) (fun o=>o= .ret (([],[]),false)\/ ∃A Q,o= .brk ((a.length:Int),A,Q)/\BIn a a.length A Q) a.length (fun i s m g=>by
  obtain ⟨A,Q,rfl,b⟩:=g;by_cases h:i<a.length
  ·grind[TM]
  ·obtain rfl:i=a.length:=by omega
   refine .inr ⟨.brk ((a.length:Int),A,Q),?_,(fun k h=>by grind),.inr ⟨A,Q,rfl,b⟩⟩;simp_all[br,cj,Bool.false_eq_true,if_false]) (s:=(0,[],[])) ⟨[],[],rfl,Nat.zero_le _,rfl,aL _,(fun _ h=>by cases h),(fun _ h=>by cases h),List.nodup_nil,(fun _ h=>by cases h),(fun j d h=>absurd h (Nat.not_lt_zero _)),(fun j d h=>absurd h (Nat.not_lt_zero _))⟩ (gx _ (by omega))
 grind[aN,Option.some.injEq,Prod.mk.injEq]
theorem XF (r:pB) (d:Data.sm r):mE r=some r:=by
 obtain ⟨j,h⟩:=bd d.1;obtain ⟨k,g⟩:=bd d.2;unfold mE;have a:=aO (f:=kg r) (fun i=>((i:Int),r.1.take i,([] :List QT))) r.1.length (fun i b=>by
  unfold kg;simp only[cH b,if_true,aI b,aa,jX,Jb _ (h _ (List.getElem_mem b)),af (show i<9223372036854775807 by omega)];rw[ay (by simp;omega)];simp only[aa];rw[List.take_succ_eq_append_getElem b]) (by
  unfold kg;simp only[cj,Bool.false_eq_true,if_false]) (gx _ (by omega))
 have e:aq (kg r) aT (0,[],[])=_:=a;rw[e];simp only[aN,List.take_length];have a:=aO (f:=kh r) (fun i=>((i:Int),r.1,r.2.take i)) r.2.length (fun i b=>by
  unfold kh;have c:fN r.2[i].2.1=some r.2[i].2.1:=by unfold fN;rw[ay (by have:=(g _ (List.getElem_mem b)).2.1.1;simp;omega)];rfl
  simp only[cH b,if_true,aI b,aa,jX,c,af (show i<9223372036854775807 by omega)];rw[ay (by simp;omega)];simp only[aa];rw[List.take_succ_eq_append_getElem b]) (by
  unfold kh;simp only[cj,Bool.false_eq_true,if_false]) (gx _ (by omega))
 have e:aq (kh r) aT (0,r.1,[])=_:=a;rw[e];simp only[List.take_length]
theorem QB {r:pB} (d:Data.sm r) (h:cE r=some true):r.2.length<=4:=by
 obtain ⟨x,b,e,a,f⟩:=Ai d.2;unfold cE at h;rw[a] at h;by_cases c:(r.2.length:Int)<=4
 ·omega
 ·simp[c] at h
theorem U3 {α:Type} [Data α] {xs:List α} {y:α} (h:Data.sm xs) (c:Data.sm y) (i:Nat) (d:xs.length<=1048575):Data.sm (xs.take i++([y] ++xs.drop i)):=by
 obtain ⟨e,b⟩:=bd h;refine ⟨?_,fun x a=>?_⟩
 ·simp only[az,aB,bP,aH,aJ];omega
 ·rcases aG a with a | a
  ·exact b _ (List.mem_of_mem_take a)
  ·rcases aG a with a | a
   ·rw[ak a];exact c
   ·exact b _ (List.mem_of_mem_drop a)
theorem Jn {r:pB} (d:Data.sm r):bI r=some true↔cA r.2=some (r,true):=by
 obtain ⟨x,b,a,-,e⟩:=Ai d.2;unfold bI;by_cases c:(r.2.length:Int)>4
 ·rw[if_pos c] at a;rw[a];simp
 ·rw[if_neg c] at a;rw[a];simp only[aa,jX];cases b with
  | false=>simp
  | true =>
   simp only[if_true];rw[xr x r e.1];simp only[aa,Option.some.injEq,decide_eq_true_eq,Prod.mk.injEq,and_true]
theorem XG {r:pB} (a:Data.sm r) (id:Int) {e:List Tok} (C:Data.sm e): ∃x:pB×Bool,jP r id e=some x/\Data.sm x.1/\(x.2=true->cA r.2=some (r,true)/\ ∃i:Nat,i<=r.2.length/\cA (r.2.take i++([(id,e,0)] ++r.2.drop i))=some (x.1,true))/\(x.2=false->x.1=r):=by
 obtain ⟨v,O⟩:=bd a.2;obtain ⟨k,K,S,Q⟩:=tG r id v;obtain ⟨b,q,L,hv⟩:=q9 a;have j:=Jn a;unfold jP;simp only[K,q,aa,jX,XF r a];cases b with
 | false=>exact ⟨(r,false),rfl,a,(fun h=>by cases h),fun _=>rfl⟩
 | true =>
  have j:=j.1 q;simp only[if_true];by_cases d:k≥0
  ·exact ⟨(r,false),by simp[d],a,(fun h=>by cases h),fun _=>rfl⟩
  ·have P:=QB a L;have d:decide (k≥0)=false:=by simpa using d
   simp only[d,Bool.false_eq_true,if_false];have G: ∀f:Int->Option (Out (pB×Bool) Int),(∀s,f s=if decide (s<(r.2.length:Int)) then ((aP r.2 s).bind fun B=>if decide (B.1<id) then (some (.nxt (i64.wrap (s+1)))) else (some (.brk s))) else (some (.brk s)))-> ∃i:Nat,i<=r.2.length/\aq f aT 0=some (.brk (i:Int)):=by
    intro f F;obtain ⟨o,e,i,l,rfl⟩:=b9 (f:=f) (fun i s=>s=(i:Int)) (fun o=> ∃i:Nat,i<=r.2.length/\o= .brk (i:Int)) r.2.length (fun i s l H=>by
     subst H;rw[F];by_cases n:i<r.2.length
     ·simp only[cH n,if_true,aI n,aa,af (show i<9223372036854775807 by omega)];by_cases t:r.2[i].1<id
      ·exact .inl ⟨n,_,by simp[t],rfl⟩
      ·exact .inr ⟨.brk (i:Int),by simp[t],(fun z e=>by cases e),i,l,rfl⟩
     ·obtain rfl:i=r.2.length:=by omega
      exact .inr ⟨.brk (r.2.length:Int),by simp only[cj,Bool.false_eq_true,if_false],(fun z e=>by cases e),_,l,rfl⟩) (s:=0) rfl (gx _ (by omega))
    exact ⟨i,l,e⟩
   obtain ⟨i,l,D⟩:=G (nV r id) (fun s=>rfl);simp only[D,aN];have J:Data.sm ((id,e,(0:Int)):QT):=⟨trivial,C,trivial⟩;have w:=U3 (y:=((id,e,(0:Int)):QT)) a.2 J i (by omega);obtain ⟨x,c,u,R,M⟩:=Ai w;have m:=u;have E:(chk (0<=(i:Int)/\(i:Int)<=(r.2.length:Int)))=some ():=if_pos (by omega);have I:bM 40 ([] :List QT) (r.2.take i)=some (r.2.take i):=by rw[ay (by simp only[aJ,aB];omega)];rfl
   have A:bM 40 (r.2.take i) [((id,e,(0:Int)):QT)] =some (r.2.take i++ [(id,e,0)]):=ay (by simp only[aB,aH,aJ];omega);have N:bM 40 (r.2.take i++ [((id,e,(0:Int)):QT)]) (r.2.drop i)=some (r.2.take i++([(id,e,0)] ++r.2.drop i)):=by
    rw[ay (by simp only[az,aB,bP,aH,aJ];omega),aC]
   simp only[E,aa,Int.toNat_natCast,I,A,N,u];by_cases p:((r.2.take i++([((id,e,(0:Int)):QT)] ++r.2.drop i)).length:Int)>4
   ·have g: ¬((r.2.take i++([((id,e,(0:Int)):QT)] ++r.2.drop i)).length:Int)<=4:=by omega
    simp only[p,if_true,aa,Bool.false_eq_true,if_false,g,decide_false,Bool.and_false];exact ⟨_,rfl,a,(fun h=>by cases h),fun _=>rfl⟩
   ·have g:((r.2.take i++([((id,e,(0:Int)):QT)] ++r.2.drop i)).length:Int)<=4:=by omega
    rw[if_neg p] at m;simp only[p,if_false,aa,g,decide_true,Bool.and_true];cases c with
    | true=>exact ⟨_,rfl,M.1,fun _=>⟨j,i,l,m⟩,fun c=>by cases c⟩
    | false=>exact ⟨_,rfl,a,(fun h=>by cases h),fun _=>rfl⟩
theorem TN {a:List QT} (c:Data.sm a) {x:pB} (e:cA a=some (x,true)):x.2.map prQ=a.map prQ/\x.2.length=a.length/\cA x.2=some (x,true):=by
 obtain ⟨-,d⟩:=K9 c e;have b:=d.pr;rw[List.take_length] at b;refine ⟨b,by simpa using congrArg List.length b,?_⟩;rw[TL b];exact e
theorem QC {l:List Tok} (h:l.length<=1048576):Data.sm l:=⟨h,fun _ _=>⟨trivial,trivial,trivial,trivial⟩⟩
section
variable {xs:List Int} {i h:Int}
theorem HK (j:xs.length<=1048576) {p:List Int×Int×Int} (hp:p.1=xs): ∀(n:Nat) (f:Nat) {i h:Int} {r:pB},n<900->n<f->jF xs i->Data.sm r->r.1.length<=4->r.2.length<=4-> ∃s:Int×Int×pB,aq (iQ p) f ((n:Int),i,h,r.1,r.2)=some (.brk (0,s.1,s.2.1,s.2.2.1,s.2.2.2))/\jF xs s.1/\Data.sm s.2.2/\s.2.2.1.length<=4
 | 0,f+1,i,h,r,_,_,hc,hr,hb,_=>by
  refine ⟨(i,h,r),?_,hc,hr,hb⟩
  rfl
 | n+1,f+1,i,h,r,hn,hf,hc,hr,hb,hb2=>by
  obtain ⟨d,G,-,q⟩:=bJ (h:=h) j hc (n:=6) (by omega);have ⟨b,B,E,m⟩:=Qy (h:=d.2.2) j q;have ⟨x,I,z,g,w⟩:=XG hr (i64.wrap (1+d.1)) (e:=b.1) (QC (by omega));have c:x.1.1.length<=4/\x.1.2.length<=4:=by
   cases o:x.2 with
   | false=>grind
   | true =>
    obtain ⟨-,v,A,k⟩:=g o;have u:Data.sm b.1:=QC (by omega);have a:=U3 (y:=((i64.wrap (1+d.1),b.1,(0:Int)):QT)) hr.2 ⟨trivial,u,trivial⟩ v (by omega);have ⟨D,l⟩:=K9 a k
    have:=l.len
    have:=(TN a k).2.1
    omega
  have ⟨t,H,C,F⟩:=HK j hp n f (h:=b.2.2) (r:=x.1) (by omega) (by omega) m z c.1 c.2
  have:iQ p (((n+1:Nat):Int),i,h,r.1,r.2)=some (.nxt ((n:Int),b.2.1,b.2.2,x.1.1,x.1.2)):=by
   unfold iQ;grind[bA]
  grind[aq]
theorem XH:Data.sm (([],[]):pB):=⟨⟨Nat.zero_le _,fun _ h=>by cases h⟩,Nat.zero_le _,fun _ h=>by cases h⟩
theorem DW (a:xs.length<=1048576) (d:jF xs i): ∃r:pB×Int×Int,jj (xs,i,h)=some r/\(Data.sm r.1/\r.1.1.length<=4)/\jF xs r.2.1:=by
 unfold jj;have ⟨r,e,m,f⟩:=bJ (h:=h) a d (n:=3) (by omega);have ⟨k,c⟩: ∃k:Nat,i64.wrap (1+r.1)=(k:Int):=⟨(1+r.1).toNat,by grind[bA]⟩;have b:k<=3:=by
  rw[bA (by omega) (by omega)] at c;omega
 have ⟨s,g,j,l⟩:=HK a (p:=(xs,i,h)) rfl k aT (h:=r.2.2) (r:=([],[])) (by omega) (by unfold aT;omega) f XH (Nat.zero_le _) (Nat.zero_le _);simp_all[ah]
theorem Z2 (m:xs.length<=1048576) (C:jF xs i): ∃r:pB×Int×Int,oC (xs,i,h)=some r/\Data.sm r.1/\jF xs r.2.1:=by
 unfold oC;have ⟨e,D,F,B⟩:=DW (h:=h) m C;rw[D];simp only[aa];obtain ⟨f,I,-,d⟩:=bJ (h:=e.2.2) m B (n:=16) (by omega);rw[I];simp only[aa];have ⟨⟨g,k⟩,M⟩:=F;have ⟨J,j⟩:=bd k;have b: ∀y:QT,Data.sm y->Data.sm (e.1.2.set 0 y):=fun y O=>⟨by grind,fun q h=>by
  grind⟩
 by_cases w:(f.1==0)=true
 ·rw[if_pos w];by_cases c:(e.1.2.length:Int)>0
  ·rw[if_pos (decide_eq_true c)];obtain ⟨L,z,-,E⟩:=bJ (h:=f.2.2) m d (n:=3) (by omega);rw[z];rw[au (by omega) c];have o:=j _ (bT (xs:=e.1.2) (i:=0) (by omega) c);exact ⟨_,rfl,⟨g,b _ ⟨trivial,o.2.1,trivial⟩⟩,E⟩
  ·rw[if_neg (by grind)];exact ⟨_,rfl,⟨g,k⟩,d⟩
 ·rw[if_neg w];by_cases v:(f.1==1)=true
  ·rw[if_pos v];by_cases c:(e.1.2.length:Int)>0
   ·rw[if_pos (decide_eq_true c)];obtain ⟨N,x,-,A⟩:=dC (h:=f.2.2) m d (l:=[0,100,99]) (by simp);rw[x];rw[au (by omega) c];have o:=j _ (bT (xs:=e.1.2) (i:=0) (by omega) c);exact ⟨_,rfl,⟨g,b _ ⟨trivial,o.2.1,o.2.2⟩⟩,A⟩
   ·rw[if_neg (by grind)];exact ⟨_,rfl,⟨g,k⟩,d⟩
  ·rw[if_neg v];by_cases u:(f.1==2)=true
   ·rw[if_pos u];have ⟨H,s,p,t⟩:=abu (h:=f.2.2) m d;rw[s];simp only[aa];have ⟨K,G⟩:=bd g;rw[ay (by grind)];refine ⟨_,rfl,⟨⟨?_,fun a h=>?_⟩,k⟩,t⟩
    ·grind
    ·rcases aG h with h | h
     ·grind
     ·rw[ak h];exact p.sm
   ·rw[if_neg u];exact ⟨_,rfl,⟨g,k⟩,d⟩
end
theorem abv {xs:List Int} {i h:Int} (d:xs.length<=1048576) (m:jF xs i) (r:pB): ∃q:Int×Int×Int,qB (xs,i,h) r=some q/\jF xs q.2.1:=by
 unfold qB;simp only;by_cases c:(r.2.length:Int)>0
 ·rw[if_pos (by simpa using c)];obtain ⟨q,e,k⟩:=vc (h:=h) d m (n:=4) (by omega);rw[e];simp only[aa];by_cases g:q.1=true
  ·rw[if_pos g];obtain ⟨f,a,-,b⟩:=dC (h:=q.2.2) d k (l:=[0,1,2,3,4,99,100]) (by simp);rw[a];exact ⟨_,rfl,b⟩
  ·rw[if_neg g];obtain ⟨f,a,j,b⟩:=bJ (h:=q.2.2) d k (n:=(r.2.length:Int)) c;rw[a];simp only[aa];rw[au j.1 j.2];exact ⟨_,rfl,b⟩
 ·rw[if_neg (by simpa using c)];obtain ⟨f,a,-,b⟩:=dC (h:=h) d m (l:=[0,1,2,3,4,99,100]) (by simp);rw[a];exact ⟨_,rfl,b⟩
section
variable {xs:List Int} {i h:Int}
theorem La (e:xs.length<=1048576) {p:List Int×Int×Int} (hp:p.1=xs): ∀(n:Nat) (f:Nat) {i h:Int} {H:su},n<900->n<f->jF xs i->X1 H-> ∃s:Int×Int×su,aq (fL p) f ((n:Int),i,h,H.1,H.2)=some (.brk (0,s.1,s.2.1,s.2.2.1,s.2.2.2))/\jF xs s.1/\X1 s.2.2
 | 0,f+1,i,h,H,_,_,hc,hr=>by
  refine ⟨(i,h,H),?_,hc,hr⟩
  have:fL p (((0:Nat):Int),i,h,H.1,H.2)=some (.brk (0,i,h,H.1,H.2)):=by
   unfold fL;simp only;rw[if_neg (by simp)];rfl
  rw[aq,this]
 | n+1,f+1,i,h,H,hn,hf,hc,hr=>by
  obtain ⟨u,o⟩:=bd hr.1.2;have q:=hr.2;have g:=o _ (bT (xs:=H.2) (i:=(H.2.length:Int) - 1) (by omega) (by omega));obtain ⟨a,b,-,d⟩:=XD (h:=h) e hc g (m:=4) (by decide);have b:oU (xs,i,h) ((nth H.2 ((H.2.length:Int) - 1)).1,(nth H.2 ((H.2.length:Int) - 1)).2) 4=_:=b;obtain ⟨x,c,r⟩:=Xz H hr a.1;have c:je (H.1,H.2) a.1=_:=c;obtain ⟨t,l,j,k⟩:=La e hp n f (h:=a.2.2) (H:=x.1) (by omega) (by omega) d r;refine ⟨t,?_,j,k⟩
  have:fL p (((n+1:Nat):Int),i,h,H.1,H.2)=some (.nxt ((n:Int),a.2.1,a.2.2,x.1.1,x.1.2)):=by
   unfold fL;simp only;rw[if_pos (decide_eq_true (show ((n+1:Nat):Int)>0 by omega)),bA (n:=(H.2.length:Int) - 1) (by omega) (by omega),au (by omega) (by omega)];simp only[aa];rw[hp,b];simp only[aa];rw[c];simp only[aa];rw[show i64.wrap (((n+1:Nat):Int) - 1)=(n:Int) from by rw[bA (by omega) (by omega)];omega]
  rw[aq,this];exact l
theorem U4 (c:xs.length<=1048576) (A:jF xs i): ∃r:su×Int×Int,lJ (xs,i,h)=some r/\X1 r.1/\jF xs r.2.1:=by
 unfold lJ;simp only;obtain ⟨b,B,⟨m,G⟩,z⟩:=TJ (h:=h) c A;rw[B];simp only[aa];obtain ⟨a,F,K,x⟩:=bJ (h:=b.2.2) c z (n:=4) (by omega);rw[F];simp only[aa];rw[bA (n:=1+a.1) (by omega) (by omega)];have f:=acj m G (v:=1+a.1) (by omega);have f:j6 (b.1.1,b.1.2) (1+a.1)=_:=f;rw[f];simp only[aa];obtain ⟨d,I,j,o⟩:=dC (h:=a.2.2) c x (l:=[3,5,10]) (by simp);rw[I];simp only[aa];have j:3<=d.1/\d.1<=10:=by simp at j;omega
 obtain ⟨e,q,J,C⟩:=bJ (h:=d.2.2) c o (n:=d.1) (by omega);rw[q];simp only[aa];obtain ⟨k,y⟩: ∃k:Nat,e.1=(k:Int):=⟨e.1.toNat,by omega⟩;have D:X1 ((1+a.1,[b.1]):su):=⟨zx (by simp) (fun g t=>by rw[ak t];exact m),aL _⟩;obtain ⟨s,w,E,u⟩:=La c (p:=(xs,i,h)) rfl k aT (h:=e.2.2) (H:=((1+a.1,[b.1]):su)) (by omega) (by unfold aT;omega) C D;rw[y,ah w];exact ⟨_,rfl,u,E⟩
theorem XI (d:xs.length<=1048576) (u:jF xs i): ∃r:su×Int×Int,qC (xs,i,h)=some r/\Data.sm r.1/\jF xs r.2.1:=by
 unfold qC;simp only;obtain ⟨m,v,o,t⟩:=U4 (h:=h) d u;rw[v];simp only[aa];obtain ⟨b,y,-,c⟩:=bJ (h:=m.2.2) d t (n:=14) (by omega);rw[y];simp only[aa];obtain ⟨f,e⟩:=bd o.1.2;have z:=o.2;by_cases p:(b.1==0)=true
 ·rw[if_pos p];obtain ⟨B,x,-,A⟩:=dC (h:=b.2.2) d c (l:=[0,999,998,1000]) (by simp);rw[x];exact ⟨_,rfl,zx f e,A⟩
 ·rw[if_neg p];by_cases k:(b.1==1)=true
  ·rw[if_pos k];obtain ⟨C,w,s,q⟩:=Z0 (h:=b.2.2) d c;rw[w];simp only[aa];rw[bA (n:=(m.1.2.length:Int) - 1) (by omega) (by omega),au (by omega) (by omega)];refine ⟨_,rfl,zx (by rw[List.length_set];exact f) (fun g a=>?_),q⟩;rcases List.mem_or_eq_of_mem_set a with a | rfl
   ·exact e g a
   ·exact s
  ·rw[if_neg k];by_cases j:(b.1==2)=true
   ·rw[if_pos j];exact ⟨_,rfl,zx (Nat.zero_le _) (fun g a=>by cases a),c⟩
   ·rw[if_neg j];exact ⟨_,rfl,zx f e,c⟩
def Z3 (xs:List Int) (r:su×pB×zN×Int×Int):Prop:=Data.sm r.1/\Data.sm r.2.1/\jF xs r.2.2.2.1
theorem Fv (p:xs.length<=1048576) {R:pB} (y:Data.sm R) (s:su×Int×Int) (hs:Data.sm s.1) (H:jF xs s.2.1): ∃r,((aK (xs,s.2.1,s.2.2) 5).bind fun d=>(qB (xs,d.2.1,d.2.2) (R.1,R.2)).bind fun c=>(aR (s.1.1,s.1.2)).bind fun k=>(aK (xs,c.2.1,c.2.2) (Max.max 1 (i64.wrap (k+1)))).bind fun e=>(aK (xs,e.2.1,e.2.2) 20).bind fun a=>Option.bind ((if a.1==0 then ((qC (xs,a.2.1,a.2.2)).bind fun g=>some (g.2.1,g.2.2,i64.wrap (1+d.1),c.1,e.1,g.1.1,g.1.2,R.1,R.2)) else (if a.1==1 then ((oC (xs,a.2.1,a.2.2)).bind fun j=>some (j.2.1,j.2.2,i64.wrap (1+d.1),c.1,e.1,s.1.1,s.1.2,j.1.1,j.1.2)) else (if a.1==2 then ((bh (xs,a.2.1,a.2.2) ([(-1),1000])).bind fun m=>some (m.2.1,m.2.2,i64.wrap (1+d.1),c.1,m.1,s.1.1,s.1.2,R.1,R.2)) else (some (a.2.1,a.2.2,i64.wrap (1+d.1),c.1,e.1,s.1.1,s.1.2,R.1,R.2)))):Option (Int×Int×Int×Int×Int×Int×(List GrT)×pB))) (fun b=>some (((b.2.2.2.2.2.1,b.2.2.2.2.2.2.1),(b.2.2.2.2.2.2.2.1,b.2.2.2.2.2.2.2.2),(b.2.2.1,b.2.2.2.1,b.2.2.2.2.1),b.1,b.2.1):su×pB×zN×Int×Int)))=some r/\Z3 xs r:=by
 obtain ⟨d,v,-,D⟩:=bJ (h:=s.2.2) p H (n:=5) (by omega);rw[v];simp only[aa];obtain ⟨c,B,A⟩:=abv (h:=d.2.2) p D (R.1,R.2);rw[B];simp only[aa];obtain ⟨k,o⟩:=aci s.1 hs;have o:aR (s.1.1,s.1.2)=_:=o;rw[o];simp only[aa];obtain ⟨e,z,-,w⟩:=bJ (h:=c.2.2) p A (n:=Max.max 1 (i64.wrap (k+1))) (by omega);rw[z];simp only[aa];obtain ⟨a,C,-,f⟩:=bJ (h:=e.2.2) p w (n:=20) (by omega);rw[C];simp only[aa];by_cases G:(a.1==0)=true
 ·rw[if_pos G];obtain ⟨q,t,x,u⟩:=XI (h:=a.2.2) p f;rw[t];exact ⟨_,rfl,x,y,u⟩
 ·rw[if_neg G];by_cases F:(a.1==1)=true
  ·rw[if_pos F];obtain ⟨q,t,x,u⟩:=Z2 (h:=a.2.2) p f;rw[t];exact ⟨_,rfl,hs,x,u⟩
  ·rw[if_neg F];by_cases E:(a.1==2)=true
   ·rw[if_pos E];obtain ⟨q,t,-,u⟩:=dC (h:=a.2.2) p f (l:=[(-1),1000]) (by simp);rw[t];exact ⟨_,rfl,hs,y,u⟩
   ·rw[if_neg E];exact ⟨_,rfl,hs,y,f⟩
theorem XJ (b:xs.length<=1048576) (t:jF xs i): ∃r,tY (xs,i,h)=some r/\Z3 xs r:=by
 unfold tY;simp only;obtain ⟨a,u,e,s⟩:=U4 (h:=h) b t;rw[u];simp only[aa];obtain ⟨x,y,⟨g,-⟩,q⟩:=DW (h:=a.2.2) b s;rw[y];simp only[aa];obtain ⟨d,w,k⟩:=vc (h:=x.2.2) b q (n:=3) (by omega);rw[w];simp only[aa];by_cases c:d.1=true
 ·rw[if_pos c];by_cases l:(a.1.2.length:Int)>2
  ·rw[if_pos (decide_eq_true l)];have m:=(bd e.1.2).1;rw[bA (n:=(a.1.2.length:Int) - 1) (by omega) (by omega)];obtain ⟨f,v,-,o⟩:=bJ (h:=d.2.2) b k (n:=(a.1.2.length:Int) - 1) (by omega);rw[v];simp only[aa];obtain ⟨z,j,p,-⟩:=TC a.1 e.1 (i64.wrap (i64.wrap (a.1.1+1)+f.1));have j:fU (a.1.1,a.1.2) (i64.wrap (i64.wrap (a.1.1+1)+f.1))=_:=j;rw[j];simp only[aa];exact Fv b g (z.1,f.2) p o
  ·rw[if_neg (by simpa using l)];simp only[aa];exact Fv b g (a.1,d.2) e.1 k
 ·rw[if_neg c];exact Fv b g (a.1,d.2) e.1 k
end
end D
end Go.Proofs.YtncnbjfngmhfaaaGreatDoor
