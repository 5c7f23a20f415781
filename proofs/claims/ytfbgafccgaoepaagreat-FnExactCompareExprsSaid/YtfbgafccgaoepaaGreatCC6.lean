/- FnExactCompareExprs: for every input the law returns true and changes nothing that was there. Part 7 of 7. -/
import Derived.Test.YtfbgafccgaoepaaGreatCC5
set_option synthInstance.maxSize 20000
set_option synthInstance.maxHeartbeats 2000000
set_option linter.unusedVariables false
set_option linter.unusedSimpArgs false
set_option linter.unnecessarySimpa false
set_option linter.unusedSectionVars false
set_option maxRecDepth 1000000
namespace Go.Proofs.YtfbgafccgaoepaaGreat
open Go.IntKind (i64)
namespace D
open Go.RowKit
def zW (g:GrT) (c x:Int):Bool:=decide (6<=c/\c<=8/\nth g.1 x=c - 6)
section
variable {g:GrT} (G:GOk g) (hi:aZ g=some true) (hs:cD g=some true) {c:Int} (hc:0<=c/\c<=8)
include G hi hs hc
theorem Rn {x:Int} (hx:0<=x/\x<g.1.length):nH g x c=some (zW g c x):=by
 have hn:=G.n5
 unfold nH zW
 simp only[kH]
 rw[hs];simp only[aa,if_true]
 rw[ku (by omega),KJ,KJ];simp only[aa]
 rw[if_pos (by simp;omega),aD hx.1 hx.2,fg (by omega) (by omega)];simp only[aa]
 by_cases d:6<=c/\c<=8
 ·rw[if_pos (decide_eq_true d)]
  congr 1
  rw[Bool.eq_iff_iff];simp[d]
 ·rw[if_neg (by simpa using d),decide_eq_false fun h=>d ⟨h.1,h.2.1⟩]
theorem Ro {x:Int} (hx:0<=x/\x<g.1.length):nM g x c=some (zW g c x):=by
 have hn:=G.n5
 have hv:=G.val _ (dD hx.1 hx.2)
 unfold nM zW
 simp only[kH]
 rw[hi];simp only[aa,if_true]
 rw[ku (by omega),Es,zM];simp only[aa]
 rw[if_pos (by simp;omega),if_pos (by simp;omega),aD hx.1 hx.2];simp only[aa]
 rw[fg (by omega) (by omega)]
 congr 1
 rw[Bool.eq_iff_iff]
 simp
 omega
def qi (g:GrT) (c:Int):Nat->List Pr
 | 0=>[]
 | k+1=>if zW g c k=true then qi g c k++ [((k:Int),(k:Int))] else qi g c k
omit G hi hs hc in
theorem wQ (g:GrT) (c:Int): ∀k,(qi g c k).length<=k
 | 0=>aF _
 | k+1=>by
  have:=wQ g c k
  rw[qi];split <;> simp <;> omega
omit G hi hs hc in
theorem wR {x:Pr} : ∀k,(x∈qi g c k↔ ∃i:Nat,i<k/\zW g c i=true/\x=((i:Int),(i:Int)))
 | 0=>by simp[qi]
 | k+1=>by
  have ih:=wR (x:=x) k
  rw[qi]
  split
  ·rename_i d
   rw[List.mem_append,ih,List.mem_singleton]
   constructor
   ·rintro (⟨i,h1,h2⟩ | h)
    ·exact ⟨i,by omega,h2⟩
    ·exact ⟨k,by omega,d,h⟩
   ·rintro ⟨i,h1,h2,h3⟩
    by_cases e:i=k
    ·subst e;exact .inr h3
    ·exact .inl ⟨i,by omega,h2,h3⟩
  ·rename_i d
   rw[ih]
   constructor
   ·rintro ⟨i,h1,h2⟩;exact ⟨i,by omega,h2⟩
   ·rintro ⟨i,h1,h2,h3⟩
    by_cases e:i=k
    ·subst e;exact absurd h2 d
    ·exact ⟨i,by omega,h2,h3⟩
def edL (c:Int) (e:EdT):List Pr:=(if (2*e.2.2.2==c)=true then [(e.2.1,e.2.2.1)] else [])++(if (2*e.2.2.2+1==c)=true then [(e.2.2.1,e.2.1)] else [])
omit G hi hs hc in
theorem Rp (c:Int) (es:List EdT):(es.flatMap (edL c)).length<=2*es.length:=sy fun e _=>by
 unfold edL
 rw[aw]
 split <;> split <;> simp
omit G hi hs hc in
theorem Dd {e:EdT} {x:Pr} :x∈edL c e↔(2*e.2.2.2=c/\x=(e.2.1,e.2.2.1))\/(2*e.2.2.2+1=c/\x=(e.2.2.1,e.2.1)):=by
 unfold edL
 rw[List.mem_append]
 by_cases h1:2*e.2.2.2=c <;> by_cases h2:2*e.2.2.2+1=c <;> simp[h1,h2]
def RT (g:GrT) (c:Int):List Pr:=puts (puts [] (qi g c g.1.length)) (g.2.flatMap (edL c))
theorem Vu:fH g c=some (RT g c):=by
 have hn:=G.n5
 have hm:=G.m
 unfold fH
 simp only[kH]
 rw[hs];simp only[aa,if_true]
 have:=aQ (f:=cU g c) (fun k=>(puts [] (qi g c k),(k:Int))) g.1.length (fun k hk=>by
  have h1:=mw (qi g c k) []
  have h2:=wQ g c k
  simp only[aJ] at h1
  unfold cU
  simp only[kH]
  rw[if_pos (by simp;omega),Rn G hi hs hc ⟨by omega,by omega⟩,af (by omega),C8 _ _ (by omega),qi];simp only[aa]
  by_cases d:zW g c (k:Int)=true
  ·rw[if_pos d,if_pos d,sx];rfl
  ·rw[if_neg d,if_neg d];rfl) (by
  unfold cU
  simp only
  rw[if_neg (by simp)]) (fN (by omega))
 have this:ay (cU g c) aS (([] :List (Int×Int)),0)=_:=this
 rw[aj this];simp only
 have h2:=wQ g c g.1.length
 have h1:=mw (qi g c g.1.length) []
 simp only[aJ] at h1
 have:=aQ (f:=cV g c) (fun k=>(puts (puts [] (qi g c g.1.length)) ((g.2.take k).flatMap (edL c)),(k:Int))) g.2.length (fun k hk=>by
  have h3:=mw ((g.2.take k).flatMap (edL c)) (puts [] (qi g c g.1.length))
  have h4:=Rp c (g.2.take k)
  have h5:(g.2.take k).length<=12:=by rw[aA];omega
  have he:=G.edge _ (List.getElem_mem hk)
  unfold cV
  simp only[kH]
  rw[eR hk,if_pos rfl,aY hk];simp only[aa]
  rw[fg (n:=2*g.2[k].2.2.2) (by omega) (by omega),fg (n:=2*g.2[k].2.2.2+1) (by omega) (by omega),af (by omega),C8 _ (g.2[k].2.1,g.2[k].2.2.1) (by omega),List.take_succ_eq_append_getElem hk,List.flatMap_append,ER]
  generalize puts (puts [] (qi g c g.1.length)) ((g.2.take k).flatMap (edL c))=S at *
  have h6:=JV S (g.2[k].2.1,g.2[k].2.2.1)
  rw[List.flatMap_cons,List.flatMap_nil,List.append_nil]
  unfold edL
  by_cases d1:(2*g.2[k].2.2.2==c)=true
  ·rw[if_pos d1,if_pos d1];simp only[aa]
   rw[C8 _ (g.2[k].2.2.1,g.2[k].2.1) (by omega)];simp only[aa]
   by_cases d2:(2*g.2[k].2.2.2+1==c)=true
   ·rw[if_pos d2,if_pos d2];rfl
   ·rw[if_neg d2,if_neg d2];rfl
  ·rw[if_neg d1,if_neg d1];simp only[aa]
   rw[C8 _ (g.2[k].2.2.1,g.2[k].2.1) (by omega)];simp only[aa]
   by_cases d2:(2*g.2[k].2.2.2+1==c)=true
   ·rw[if_pos d2,if_pos d2];rfl
   ·rw[if_neg d2,if_neg d2];rfl) (by
  unfold cV
  simp only
  rw[if_neg (by simp)]) (fN (by omega))
 have this:ay (cV g c) aS (puts [] (qi g c g.1.length),0)=_:=this
 rw[aj this,List.take_of_length_le (aF _)];rfl
def arL (c:Int) (x:Int) (l:List ArT):List Pr:=(l.filter fun y=>y.2.1==c).map fun y=>(x,y.2.2)
omit G hi hs hc in
theorem De (c x:Int) (l:List ArT):(arL c x l).length<=l.length:=by unfold arL;rw[List.length_map];exact List.length_filter_le ..
def KK (g:GrT) (c:Int) (k:Nat):List Pr:=arL c k (GV g.2 k)++if zW g c k=true then [((k:Int),(k:Int))] else []
omit hi hs hc in
theorem NA (k:Nat):(KK g c k).length<=25:=by
 have h1:=De c k (GV g.2 k)
 have h2:=uV g.2 k
 have h3:=G.m
 unfold KK
 rw[aw]
 split <;> simp <;> omega
theorem NB {x:Int} {l:List ArT} (hl:l.length<=1000) {o:List Pr} (ho:o.length<=1000):ay (cY c (o,x) l) aS (o,0)=some (.brk (o++arL c x l,(l.length:Int))):=by
 have:=aQ (f:=cY c (o,x) l) (fun k=>(o++arL c x (l.take k),(k:Int))) l.length (fun k hk=>by
  have h2:=De c x (l.take k)
  have h3:(l.take k).length<=l.length:=by rw[aA];omega
  unfold cY
  simp only
  rw[eR hk,if_pos rfl,aY hk];simp only[aa,af (show k<9223372036854775807 by omega)]
  rw[aI (by rw[aw];simp only[aH,aJ];omega),List.take_succ_eq_append_getElem hk];simp only[aa]
  unfold arL
  rw[List.filter_append,aM]
  by_cases d:(l[k].2.1==c)=true
  ·rw[GG,if_pos d,if_pos d,List.map_cons,List.map_nil,aB];rfl
  ·rw[GG,if_neg d,if_neg d,List.map_nil,List.append_nil];rfl) (by
  unfold cY
  simp only
  rw[eU];rfl) (fN (by omega))
 have e0:o++arL c x (l.take 0)=o:=by simp[arL]
 simp only[e0] at this
 rw[List.take_of_length_le (aF _)] at this
 exact this
theorem Vv:fJ g c=some (RT g c):=by
 have hn:=G.n5
 have hm:=G.m
 have hlen: ∀k,((List.range k).flatMap (KK g c)).length<=25*k:=fun k=>by
  have:=sy (f:=KK g c) (B:=25) (xs:=List.range k) fun x _=>NA G x
  simpa using this
 unfold fJ
 simp only[kH]
 rw[hi];simp only[aa,if_true]
 rw[zM];simp only[aa]
 rw[if_pos (decide_eq_true hc),Tz G];simp only[aa]
 have:=aQ (f:=cZ g c (rm g.1.length (GV g.2))) (fun k=>((List.range k).flatMap (KK g c),(k:Int))) g.1.length (fun k hk=>by
  have h1:=hlen k
  have h2:=uV g.2 k
  have h3:=De c k (GV g.2 k)
  unfold cZ
  simp only[kH]
  rw[if_pos (by rw[BO];simp;omega),Da hk];simp only[aa]
  rw[aj (NB G hi hs hc (by omega) (by omega)),Ro G hi hs hc ⟨by omega,by omega⟩];simp only[aa]
  rw[aI (by rw[aw];simp only[aH,aJ];omega),af (by omega),List.range_succ,List.flatMap_append,List.flatMap_cons,List.flatMap_nil,List.append_nil];simp only[aa]
  unfold KK
  by_cases d:zW g c (k:Int)=true
  ·rw[if_pos d,if_pos d,aB];rfl
  ·rw[if_neg d,if_neg d,List.append_nil];rfl) (by
  unfold cZ
  simp only
  rw[if_neg (by rw[BO];simp)]) (fN (by omega))
 have this:ay (cZ g c (rm g.1.length (GV g.2))) aS (([] :List (Int×Int)),0)=_:=this
 rw[aj this];simp only
 have h1:=hlen g.1.length
 rw[EM _ (by omega)];simp only[aa]
 congr 1
 refine sw (EK _) (show Str (RT g c) from mu (mu List.Pairwise.nil)) fun x=>?_
 unfold RT
 rw[EL,List.mem_flatMap,j7,j7,wR,List.mem_flatMap]
 constructor
 ·rintro ⟨k,hk,h⟩
  have hk:=List.mem_range.1 hk
  unfold KK at h
  rcases aC h with h | h
  ·right
   unfold arL at h
   obtain ⟨y,hy,rfl⟩:=List.mem_map.1 h
   obtain ⟨hy,e⟩:=List.mem_filter.1 hy
   have e:=eq_of_beq e
   unfold GV at hy
   obtain ⟨ed,hed,hy⟩:=List.mem_flatMap.1 hy
   refine ⟨ed,hed,Dd.2 ?_⟩
   unfold Rh at hy
   rcases aC hy with hy | hy
   ·split at hy
    ·rename_i hf
     obtain rfl:=ak hy
     exact .inl ⟨e,by rw[<-hf];rfl⟩
    ·cases hy
   ·split at hy
    ·rename_i hf
     obtain rfl:=ak hy
     exact .inr ⟨e,by rw[<-hf];rfl⟩
    ·cases hy
  ·left
   split at h
   ·rename_i d
    obtain rfl:=ak h
    exact .inr ⟨k,hk,d,rfl⟩
   ·cases h
 ·rintro ((h | ⟨i,h1,h2,rfl⟩) | ⟨ed,hed,h⟩)
  ·cases h
  ·refine ⟨i,List.mem_range.2 h1,?_⟩
   unfold KK
   rw[if_pos h2]
   exact List.mem_append.2 (.inr (List.mem_singleton.2 rfl))
  ·have hg:=G.edge ed hed
   rcases Dd.1 h with ⟨e,rfl⟩ | ⟨e,rfl⟩
   ·refine ⟨ed.2.1.toNat,List.mem_range.2 (by omega),?_⟩
    have hn:((ed.2.1.toNat:Nat):Int)=ed.2.1:=by omega
    unfold KK arL GV
    refine List.mem_append.2 (.inl (List.mem_map.2 ⟨fwd ed,List.mem_filter.2 ⟨List.mem_flatMap.2 ⟨ed,hed,?_⟩,?_⟩,?_⟩))
    ·unfold Rh
     rw[if_pos hn.symm]
     exact List.mem_append.2 (.inl (List.mem_singleton.2 rfl))
    ·exact beq_iff_eq.2 e
    ·rw[hn];rfl
   ·refine ⟨ed.2.2.1.toNat,List.mem_range.2 (by omega),?_⟩
    have hn:((ed.2.2.1.toNat:Nat):Int)=ed.2.2.1:=by omega
    unfold KK arL GV
    refine List.mem_append.2 (.inl (List.mem_map.2 ⟨inv ed,List.mem_filter.2 ⟨List.mem_flatMap.2 ⟨ed,hed,?_⟩,?_⟩,?_⟩))
    ·unfold Rh
     rw[if_pos (c:=ed.2.2.1=_) hn.symm]
     exact List.mem_append.2 (.inr (List.mem_singleton.2 rfl))
    ·exact beq_iff_eq.2 e
    ·rw[hn];rfl
theorem TA:InR (RT g c):=by
 have hn:=G.n5
 refine ⟨mu (mu List.Pairwise.nil),fun p hp=>?_⟩
 unfold RT at hp
 rw[j7,j7,wR,List.mem_flatMap] at hp
 rcases hp with (h | ⟨i,h1,-,rfl⟩) | ⟨ed,hed,h⟩
 ·cases h
 ·simp only;omega
 ·have hg:=G.edge ed hed
  rcases Dd.1 h with ⟨-,rfl⟩ | ⟨-,rfl⟩ <;> (simp only;omega)
end
end D
namespace D
open Go.RowKit
section
variable {g:GrT} {a:AutT} (G:GOk g) (V:VA a a.2.1.length) (hn:a.2.1.length<=12)
include G V hn
end
section
variable {g:GrT} {a:AutT} {F:Nat->List Int} {N:Nat}
end
section
variable {g:GrT} {a:AutT} (G:GOk g) (V:VA a a.2.1.length) (hn:a.2.1.length<=12)
include G V hn
end
end D
namespace D
open Go.RowKit
section
variable {g:GrT} {a:AutT} (G:GOk g) (V:VA a a.2.1.length) (hn:a.2.1.length<=12)
include G V hn
end
end D
namespace D
open Go.RowKit
section
variable {nx:Int->List Int} {N:Nat} {v:Int} (hv:0<=v/\v<N) (hn: ∀x:Int,0<=x->x<N-> ∀y∈nx x,0<=y/\y<N)
include hv
include hn
end
end D
namespace D
open Go.RowKit
section
variable {nx:Int->List Int} {N:Nat} {v:Int} (hN:N<=60) (hv:0<=v/\v<N) (hn: ∀x:Int,0<=x->x<N-> ∀y∈nx x,0<=y/\y<N) (hl: ∀x,(nx x).length<=100000)
include hN hv hn hl
end
end D
namespace D
open Go.RowKit
theorem zX {n:Nat} {r:List Int} :(∀t∈r,-1<=t/\t<=(n:Int) - 1)↔ ∀t∈r,-1<=t/\t<(n:Int):=forall_congr' fun t=>forall_congr' fun _=>and_congr Iff.rfl (by omega)
theorem TC (a:AutT) (h1:a.2.1.length<=9223372036854775807) (h2:a.2.2.length<=9223372036854775807): ∃b,lG a=some b/\(b=true↔VA a a.2.1.length):=by
 unfold lG
 rw[KJ];simp only[aa,ku h1]
 by_cases c1:0<=a.1/\a.1<=(a.2.1.length:Int) - 1
 case neg=>exact ⟨false,by rw[if_neg (by simpa using c1)],by simp;exact fun h=>c1 ⟨h.start.1,by have:=h.start.2;omega⟩⟩
 rw[if_pos (by simpa using c1)]
 by_cases c2:a.2.2.length=a.2.1.length
 case neg=>exact ⟨false,by rw[if_pos (by simp;omega)],by simp;exact fun h=>c2 h.nlen⟩
 rw[if_neg (by simp;omega)]
 have inner: ∀i:Nat,i<a.2.2.length->(nth a.2.2 i).length=9->(ay (fB a i) aS 0=some (.brk 9)/\ ∀t∈nth a.2.2 (i:Int),-1<=t/\t<=(a.2.1.length:Int) - 1)\/(ay (fB a i) aS 0=some (.ret false)/\ ¬ ∀t∈nth a.2.2 (i:Int),-1<=t/\t<=(a.2.1.length:Int) - 1):=by
  intro i hi hr
  have:=scan (f:=fB a i) (nth a.2.2 (i:Int)) (fun t=> -1<=t/\t<=(a.2.1.length:Int) - 1) false (by omega) (fun j hj=>by
   unfold fB
   rw[if_pos (by simp;omega),aD (by omega) (by omega)];simp only[aa]
   rw[aD (by omega) (by omega)];simp only[aa,ku h1]
   rw[KJ];simp only[aa,af (show j<9223372036854775807 by omega)]
   by_cases c: -1<=nth (nth a.2.2 (i:Int)) (j:Int)/\nth (nth a.2.2 (i:Int)) (j:Int)<=(a.2.1.length:Int) - 1
   ·rw[if_pos (by simpa using c),if_pos c]
   ·rw[if_neg (by simpa using c),if_neg c]) (by unfold fB;rw[if_neg (by simp[hr])])
  rwa [hr] at this
 have outer:=scan (f:=jY a) a.2.2 (fun r=>r.length=9/\ ∀t∈r,-1<=t/\t<=(a.2.1.length:Int) - 1) false h2 (fun i hi=>by
  unfold jY
  rw[if_pos (by simp;omega),aD (by omega) (by omega)];simp only[aa]
  by_cases c:(nth a.2.2 (i:Int)).length=9
  ·rw[if_neg (by simp;omega)]
   rcases inner i hi c with ⟨e,k⟩ | ⟨e,k⟩
   ·rw[aj e,if_pos ⟨c,k⟩,af (show i<9223372036854775807 by omega)]
   ·rw[bu e,if_neg (fun h=>k h.2)]
  ·rw[if_pos (by simp;omega),if_neg (fun h=>c h.1)]) (by unfold jY;rw[if_neg (by simp;omega)])
 rcases outer with ⟨e,k⟩ | ⟨e,k⟩
 ·exact ⟨true,by rw[aj e],by simp;exact ⟨rfl,⟨c1.1,by omega⟩,c2,fun r hr=>(k r hr).1,fun r hr=>zX.1 (k r hr).2⟩⟩
 ·exact ⟨false,by rw[bu e],by simp;exact fun h=>k fun r hr=>⟨h.row r hr,zX.2 (h.ent r hr)⟩⟩
theorem Rq (a:AutT) (h1:a.2.1.length<=9223372036854775807) (h2:a.2.2.length<=9223372036854775807): ∃b,bz a=some b/\(b=true↔a.2.1.length<=12/\VA a a.2.1.length):=by
 unfold bz
 by_cases c:a.2.1.length<=12
 ·rw[if_pos (by simp;omega)]
  obtain ⟨b,e,hb⟩:=TC a h1 h2
  exact ⟨b,by show (lG a).bind _=_;rw[e];rfl,by rw[hb];simp[c]⟩
 ·exact ⟨false,by rw[if_neg (by simp;omega)],by simp;exact fun h=>absurd h c⟩
theorem Rr (a:AutT) (h1:a.2.1.length<=9223372036854775807) (h2:a.2.2.length<=9223372036854775807) (h3: ∀r∈a.2.2,r.length<=9223372036854775807): ∃b,bA a=some b/\(b=true↔a.2.1.length<=12/\VA a a.2.1.length):=by
 unfold bA
 rw[Es];simp only[aa,ku h1]
 by_cases c0:1<=(a.2.1.length:Int)/\(a.2.1.length:Int)<=12
 case neg=>exact ⟨false,by rw[if_neg (by simpa using c0)],by simp;exact fun h h'=>c0 ⟨by have:=h'.start;omega,by omega⟩⟩
 rw[if_pos (by simpa using c0),Es];simp only[aa]
 by_cases c1:0<=a.1/\a.1<=(a.2.1.length:Int) - 1
 case neg=>exact ⟨false,by rw[if_neg (by simpa using c1)],by simp;exact fun _ h=>c1 ⟨h.start.1,by have:=h.start.2;omega⟩⟩
 rw[if_pos (by simpa using c1)]
 by_cases c2:a.2.2.length=a.2.1.length
 case neg=>exact ⟨false,by rw[if_pos (by simp;omega)],by simp;exact fun _ h=>c2 h.nlen⟩
 rw[if_neg (by simp;omega)]
 have inner: ∀x:List Int,x.length<=9223372036854775807->(ay (bI a x) aS 0=some (.brk (x.length:Int))/\ ∀t∈x,-1<=t/\t<=(a.2.1.length:Int) - 1)\/(ay (bI a x) aS 0=some (.ret false)/\ ¬ ∀t∈x,-1<=t/\t<=(a.2.1.length:Int) - 1):=by
  intro x hx
  refine scan (f:=bI a x) x (fun t=> -1<=t/\t<=(a.2.1.length:Int) - 1) false hx (fun j hj=>?_) (by unfold bI;rw[if_neg (by simp)])
  unfold bI
  rw[if_pos (by simp;omega),aD (by omega) (by omega)];simp only[aa,ku h1]
  rw[Es];simp only[aa,af (show j<9223372036854775807 by omega)]
  by_cases c: -1<=nth x (j:Int)/\nth x (j:Int)<=(a.2.1.length:Int) - 1
  ·rw[if_pos (by simpa using c),if_pos c]
  ·rw[if_neg (by simpa using c),if_neg c]
 have outer:=scan (f:=du a) a.2.2 (fun r=>(∀t∈r,-1<=t/\t<=(a.2.1.length:Int) - 1)/\r.length=9) false h2 (fun i hi=>by
  unfold du
  rw[if_pos (by simp;omega),aD (by omega) (by omega)];simp only[aa]
  rcases inner (nth a.2.2 (i:Int)) (h3 _ (dD (by omega) (by omega))) with ⟨e,k⟩ | ⟨e,k⟩
  ·rw[aj e]
   by_cases c:(nth a.2.2 (i:Int)).length=9
   ·rw[if_neg (by simp;omega),if_pos ⟨k,c⟩,af (show i<9223372036854775807 by omega)]
   ·rw[if_pos (by simp;omega),if_neg (fun h=>c h.2)]
  ·rw[bu e,if_neg (fun h=>k h.1)]) (by unfold du;rw[if_neg (by simp)])
 rcases outer with ⟨e,k⟩ | ⟨e,k⟩
 ·exact ⟨true,by rw[aj e],by simp;exact ⟨by omega,rfl,⟨c1.1,by omega⟩,c2,fun r hr=>(k r hr).2,fun r hr=>zX.1 (k r hr).1⟩⟩
 ·exact ⟨false,by rw[bu e],by simp;exact fun _ h=>k fun r hr=>⟨zX.2 (h.ent r hr),h.row r hr⟩⟩
end D
namespace D
open Go.RowKit
theorem J6 (g:GrT):cD g=aZ g:=by
 have h0:lC g=dB g:=rfl
 have h1:iG g=cL g:=by
  funext s
  unfold iG cL
  split
  ·cases hx:aL g.2 s with
   | none=>rfl
   | some x=>rfl
  ·rfl
 unfold cD aZ
 rw[h0,h1];rfl
def Vx (g:GrT) (a:AutT):Prop:=GOk g/\a.2.1.length<=12/\VA a a.2.1.length
section
variable {g:GrT} {a:AutT} (H:Vx g a)
include H
end
section
variable {g:GrT} {a:AutT} (H:Vx g a)
include H
end
section
variable {g:GrT} {a:AutT} (H:Vx g a) {x:Int} (hx:0<=x/\x<g.1.length)
include H hx
end
end D
namespace D
open Go.RowKit
theorem J7 {t:Tok} (h:0<=ar t) (k:t.1=3):0<=t.2.1/\t.2.1<=8:=by
 unfold ar at h
 grind
section
variable {g:GrT} (G:GOk g) (hi:aZ g=some true) (hs:cD g=some true)
include G hi hs
theorem NC {x:Tr Tok} (h:WT x): ∀n m,(flat x).length<=n->(flat x).length<=m->(flat x).length<=1000000-> ∃r,aX n x g=some r/\b9 m g (flat x)=some r/\InR r:=by
 refine WT.ind (p:=fun x=> ∀n m,(flat x).length<=n->(flat x).length<=m->(flat x).length<=1000000-> ∃r,aX n x g=some r/\b9 m g (flat x)=some r/\InR r) ?_ ?_ ?_ h
 ·intro t e n m hn hm hl
  rw[tp] at hn hm hl⊢
  match n,m,hn,hm with
  | n+1,m+1,_,_ =>
   rw[aX,b9]
   have:=(iF (A:=[]) (t:=t) (by simp)).1
   rw[List.nil_append] at this
   rw[this];simp only[iy,aa,kH]
   rcases fF (show 0<=ar t by omega) with ⟨e',k⟩ | ⟨e',k⟩ | ⟨_,k | k | k⟩
   ·omega
   ·omega
   ·simp only[k,Int.reduceBEq,Bool.false_eq_true,if_false]
    exact ⟨[],rfl,rfl,InR.nil⟩
   ·simp only[k,Int.reduceBEq,if_true]
    rw[Vs G.n5,Vt G.n5]
    exact ⟨_,rfl,rfl,ES G.n5⟩
   ·have hc:=J7 (show 0<=ar t by omega) k
    simp only[k,Int.reduceBEq,if_true,Bool.false_eq_true,if_false]
    rw[Vu G hi hs hc,Vv G hi hs hc]
    exact ⟨_,rfl,rfl,TA G hi hs hc⟩
 ·intro t a e wa ih n m hn hm hl
  rw[sk] at hn hm hl⊢
  simp only[aw,aH,aJ] at hn hm hl
  match n,m,hn,hm with
  | n+1,m+1,hn,hm =>
   obtain ⟨ra,ia,sa,ha⟩:=ih n m (by omega) (by omega) (by omega)
   rw[aX,b9]
   obtain ⟨l1,l2⟩:=iF (A:=flat a) (t:=t) (by omega)
   rw[l1,l2,Int.toNat_natCast,List.take_left];simp only[iy,aa,kH]
   rw[show aL [a] 0=some a from rfl];simp only[aa]
   rw[ia,sa];simp only[aa]
   rw[ix (by simp only[aw,aH,aJ];omega)];simp only[aa]
   rcases fF (show 0<=ar t by omega) with ⟨e',k⟩ | ⟨_,k | k⟩ | ⟨e',k⟩
   ·omega
   ·simp only[k,Int.reduceBEq,if_true,Bool.false_eq_true,if_false]
    obtain ⟨r,e1,e2,hr⟩:=Ny G.n5 ha G.n1
    rw[e1,e2]
    exact ⟨r,rfl,rfl,hr⟩
   ·have h7:=qw (show 0<=ar t by omega) k
    simp only[k,Int.reduceBEq,if_true,Bool.false_eq_true,if_false]
    obtain ⟨r,e1,e2,hr⟩:=Nz G.n5 ha G.n1 t.2.2.1 (high:=t.2.2.2) ⟨by omega,by omega⟩
    rw[e1,e2]
    exact ⟨r,rfl,rfl,hr⟩
   ·omega
 ·intro t a b e wa wb iha ihb n m hn hm hl
  rw[oc] at hn hm hl⊢
  obtain ⟨p1,p2,p3,p4⟩:=ss (a:=a) (t:=t) wb hl
  simp only[aw,aH,aJ] at hn hm hl
  match n,m,hn,hm with
  | n+1,m+1,hn,hm =>
   obtain ⟨ra,ia,sa,ha⟩:=iha n m (by omega) (by omega) (by omega)
   obtain ⟨rb,ib,sb,hb⟩:=ihb n m (by have:=wa.pos;omega) (by have:=wa.pos;omega) (by omega)
   have la:=ha.len
   have lb:=hb.len
   rw[aX,b9]
   obtain ⟨l1,l2⟩:=iF (A:=flat a++flat b) (t:=t) (by rw[aw];omega)
   rw[l1,l2,p1];simp only[iy,aa,kH]
   rw[show aL [a,b] 0=some a from rfl,show aL [a,b] 1=some b from rfl];simp only[aa]
   rw[ia,ib];simp only[aa]
   rw[p2,ix (by simp only[aw,aH,aJ];omega)];simp only[aa]
   rw[ix (by simp only[aw,aH,aJ];omega),p3,p4];simp only[aa]
   rw[sa,sb];simp only[aa]
   rw[ix (by simp only[aw,aH,aJ];omega)];simp only[aa]
   rcases fF (show 0<=ar t by omega) with ⟨_,k | k⟩ | ⟨e',k⟩ | ⟨e',k⟩
   ·simp only[k,Int.reduceBEq,if_true,Bool.false_eq_true,if_false]
    rw[Ri (by omega) (by omega),Rj ha.str (by omega) (by omega)]
    exact ⟨_,rfl,rfl,tz ha hb⟩
   ·simp only[k,Int.reduceBEq,if_true,Bool.false_eq_true,if_false]
    rw[C9 (by omega) (by omega),Rf (by omega) (by omega)]
    exact ⟨_,rfl,rfl,Dc ha hb⟩
   ·omega
   ·omega
end
end D
namespace D
open Go.RowKit
def J8 (out:List Bool) (t:Int):Bool:=decide (t≥0)&&nth out t
def hit (out:List Bool) (row:List Int):Bool:=row.any (J8 out)
def uh (a:AutT) (out:List Bool) (s:Nat):List Bool:=if hit out (nth a.2.2 s) then out.set s true else out
def ju (a:AutT) (out:List Bool):Nat->List Bool
 | 0=>out
 | s+1=>uh a (ju a out s) s
def cnt (out:List Bool):Nat:=out.count true
theorem TE (out:List Bool):cnt out<=out.length:=List.count_le_length
theorem EV {out:List Bool} {s:Nat} (h:s<out.length) (k:out[s] =true):out.set s true=out:=by
 refine List.ext_getElem (by simp) fun i h1 h2=>?_
 grind
theorem Rs {out:List Bool} {s:Nat} (h:s<out.length) (k:out[s] =false):cnt (out.set s true)=cnt out+1:=by
 unfold cnt
 rw[List.count_set h];simp[k]
section
variable {a:AutT} {n:Nat}
theorem zY (a:AutT) (out:List Bool) (s:Nat):(uh a out s).length=out.length:=by grind[uh]
theorem jv (a:AutT) (out:List Bool): ∀s,(ju a out s).length=out.length
 | 0=>rfl
 | s+1=>by rw[ju,zY,jv a out s]
theorem uj {out:List Bool} {s:Nat} (h:s<out.length):(uh a out s=out/\ ¬(hit out (nth a.2.2 s)=true/\nth out s=false))\/(cnt (uh a out s)=cnt out+1/\hit out (nth a.2.2 s)=true/\nth out s=false):=by
 grind[uh,bB,hit,nth,EV,Rs]
theorem tD {out:List Bool} : ∀s,s<=out.length->(ju a out s=out/\cnt (ju a out s)=cnt out)\/cnt out<cnt (ju a out s)
 | 0,_=>.inl ⟨rfl,rfl⟩
 | s+1,hs=>by
  have hl:s<(ju a out s).length:=by rw[jv];omega
  have ih:=tD (out:=out) s (by omega)
  grind[ju,uj]
def it (a:AutT):Nat->List Bool
 | 0=>a.2.1
 | j+1=>ju a (it a j) a.2.1.length
theorem nv (a:AutT): ∀j,(it a j).length=a.2.1.length
 | 0=>rfl
 | j+1=>by rw[it,jv,nv a j]
theorem OO (a:AutT) (j:Nat):cnt (it a j)<=a.2.1.length:=by grind[nv,TE]
theorem Df (a:AutT) (j:Nat):(it a (j+1)=it a j)\/cnt (it a j)<cnt (it a (j+1)):=by
 rcases tD (a:=a) (out:=it a j) a.2.1.length (by rw[nv];omega) with h | h
 ·exact .inl h.1
 ·exact .inr h
theorem TG {j k:Nat} (h:it a (j+1)=it a j) (hk:j<=k):it a k=it a j:=by
 induction hk with
 | refl=>rfl
 | step _ ih=>rw[it,ih];exact h
theorem J9 {j k:Nat} (h:it a (j+1)=it a j) (h':it a (k+1)=it a k):it a j=it a k:=by
 grind[Nat.le_total,TG]
theorem Rt (a:AutT):it a (a.2.1.length+1)=it a a.2.1.length:=by
 have key: ∀j,it a (j+1)=it a j\/j+1<=cnt (it a (j+1)):=by
  intro j
  induction j with
  | zero=>grind[Df]
  | succ j ih =>
   grind[Df,it]
 grind[OO]
def live (a:AutT):List Bool:=it a a.2.1.length
theorem qW (a:AutT):(live a).length=a.2.1.length:=nv a _
theorem EW {α:Type} [Inhabited α] {row:List α} {p:α->Bool} {k:Nat} (h:k<row.length):(row.take (k+1)).any p=((row.take k).any p || p (nth row (k:Int))):=by
 rw[List.take_succ_eq_append_getElem h,List.any_append,bB h];simp
section
variable (V:VA a n) (hn:n<=1000000)
include V hn
theorem Ka {out:List Bool} {s:Nat} (hs:s<n) (hl:out.length=n):ay (jW a (out,(s:Int))) aS (out,0)=some (.brk (uh a out s,9)):=by
 have hr:=V.rowAt (s:=s) (by omega) (by omega)
 have:=aQ (f:=jW a (out,(s:Int))) (fun k=>(if ((nth a.2.2 (s:Int)).take k).any (J8 out) then out.set s true else out,(k:Int))) 9 (fun k hk=>by
  unfold jW
  rw[if_pos (by grind),V.get (by omega) (by omega)];simp only[aa]
  rw[V.get2 (by omega) (by omega) hk];rw[EW (by omega),show nth (nth a.2.2 (s:Int)) (k:Int)=mv a s k from rfl]
  simp only[af (show k<9223372036854775807 by omega)]
  by_cases c:mv a s k≥0
  ·have hm:=(V.mv (s:=s) (k:=k) (by omega) (by omega) hk).2
   by_cases q:((nth a.2.2 (s:Int)).take k).any (J8 out)=true
   ·simp_all[if_true,Bool.true_or,aD,aa,Int.toNat_natCast]
   ·simp[q,Bool.false_eq_true,if_false,Bool.false_or,J8]
    rw[aD c (by rw[hl];exact hm),aD (by omega) (by omega)];cases hc:nth out (mv a s k) <;> simp[hc,c]
  ·simp[J8,c]) (by rfl) (by unfold aS;omega)
 have e9:(nth a.2.2 (s:Int)).take 9=nth a.2.2 (s:Int):=List.take_of_length_le (by omega)
 rw[e9] at this
 exact this
theorem BQ {out:List Bool} (hl:out.length=n):ay (im a) aS (out,0)=some (.brk (ju a out n,(n:Int))):=by
 have hlen:=V.len
 refine aQ (f:=im a) (fun s=>(ju a out s,(s:Int))) n (fun s hs=>?_) ?_ (fN (by omega))
 ·unfold im
  rw[if_pos (by grind),aj (Ka V hn hs (by rw[jv];exact hl)),af (by omega)]
  rfl
 simp_all[im,if_neg]
theorem OP:jJ a=some (live a):=by
 have hlen:=V.len
 unfold jJ
 rw[aI (by grind)];have:=aQ (f:=jX a) (fun j=>(it a j,(j:Int))) n (fun j hj=>by
  unfold jX
  rw[if_pos (by grind),aj (BQ V hn (by grind[nv])),af (by omega),it,hlen]) (by
  simp_all[jX,if_neg]) (fN (by omega))
 exact (aj this).trans (by simp[live,hlen])
theorem Kb {out:List Bool} {g:Bool} {s:Nat} (hs:s<n) (hl:out.length=n):ay (da (g,(s:Int),out) (nth a.2.2 (s:Int))) aS (g,0,out)=some (.brk (g || (hit out (nth a.2.2 (s:Int)) && !nth out (s:Int)),9,uh a out s)):=by
 have hr:=V.rowAt (s:=s) (by omega) (by omega)
 have hls:s<out.length:=by omega
 have:=aQ (f:=da (g,(s:Int),out) (nth a.2.2 (s:Int))) (fun k=>(g || (((nth a.2.2 (s:Int)).take k).any (J8 out) && !nth out (s:Int)),(k:Int),if ((nth a.2.2 (s:Int)).take k).any (J8 out) then out.set s true else out)) 9 (fun k hk=>by
  unfold da
  rw[if_pos (by grind),V.get2 (by omega) (by omega) hk];rw[EW (by omega),show nth (nth a.2.2 (s:Int)) (k:Int)=mv a s k from rfl]
  simp only[af (show k<9223372036854775807 by omega)]
  by_cases c:mv a s k≥0
  ·have hm:=(V.mv (s:=s) (k:=k) (by omega) (by omega) hk).2
   by_cases q:((nth a.2.2 (s:Int)).take k).any (J8 out)=true
   ·simp[q,if_true,Bool.true_or]
    simp_all[nth,BD,aD,aa,Int.toNat_natCast,if_true]
   ·simp[q,Bool.false_eq_true,if_false,Bool.false_or,J8,Bool.false_and,Bool.or_false]
    rw[aD c (by rw[hl];exact hm),aD (by omega) (by omega)];cases hc:nth out (mv a s k) with
    | false=>simp[c]
    | true =>
     cases hd:nth out (s:Int) with
     | false=>simp[c]
     | true =>
      rw[bB hls] at hd
      simp[c,EV hls hd]
  ·simp[J8,c]) (by grind[da]) (by unfold aS;omega)
 have e9:(nth a.2.2 (s:Int)).take 9=nth a.2.2 (s:Int):=List.take_of_length_le (by omega)
 rw[e9] at this
 have e0:(g || (((nth a.2.2 (s:Int)).take 0).any (J8 out) && !nth out (s:Int)))=g:=by simp
 rw[e0] at this
 exact this
theorem BR {out:List Bool} (hl:out.length=n): ∃g,ay (db a) aS (false,0,out)=some (.brk (g,(n:Int),ju a out n))/\(g=true↔cnt out<cnt (ju a out n)):=by
 have hnl:=V.nlen
 obtain ⟨s',e,⟨g,rfl,hg⟩⟩:=be (f:=db a) (fun s st=> ∃g,st=(g,(s:Int),ju a out s)/\(g=true↔cnt out<cnt (ju a out s))) n (by
  rintro s st hs ⟨g,rfl,hg⟩
  have hpl:(ju a out s).length=n:=by rw[jv];exact hl
  unfold db
  simp only
  rw[if_pos (by grind),V.get (by omega) (by omega)];simp only[aa]
  rw[aj (Kb V hn hs hpl),af (by omega)]
  refine ⟨_,rfl,_,rfl,?_⟩
  grind[tD,uj,ju,id,absurd]) (by
  simp_all[db,if_neg]) ⟨false,rfl,by simp[ju]⟩ (fN (by omega))
 exact ⟨g,e,hg⟩
theorem TH:dU a=some (live a):=by
 have hlen:=V.len
 unfold dU
 rw[aI (by grind)];obtain ⟨o,e,i,rfl,hi⟩:=cE (f:=gg a) (fun i s=> ∃b,s=(b,it a i)/\(b=true->i<=cnt (it a i))/\(b=false->it a (i+1)=it a i)) (fun o=> ∃i,o= .brk (false,it a i)/\it a (i+1)=it a i) (n+1) (s:=(true,a.2.1)) (by
  rintro i s hi ⟨b,rfl,h1,h2⟩
  unfold gg
  cases b with
  | false=>grind
  | true =>
   have hc:=OO a i
   have h1:=h1 rfl
   have ⟨g,e,hg⟩:=BR V hn (out:=it a i) (by grind[nv])
   have ee:ju a (it a i) n=it a (i+1):=by rw[it,hlen]
   rw[ee] at e hg
   refine .inl ⟨by omega,(g,it a (i+1)),by rw[if_pos rfl,aj e],g,rfl,fun h=>?_,fun h=>?_⟩
   ·grind
   grind[it,Df]) ⟨true,rfl,fun _=>Nat.zero_le _,fun h=>by cases h⟩ (fN (by omega))
 grind[aj,J9,Rt,live]
end
end
end D
namespace D
open Go.RowKit
def nothing:AutT:=(0,[false],[[-1,-1,-1,-1,-1,-1,-1,-1,-1]])
theorem Kc:mJ=some nothing:=by kernel_rfl
theorem Ke:qL=some nothing:=by kernel_rfl
theorem Kf {n:Nat} (h:n<=1000000):iOk (n:Int)=true:=by
 have h1:i64.min= -9223372036854775808:=by decide
 have h2:i64.max=9223372036854775807:=by decide
 simp[iOk,Lit.wf,h1,h2,ah,decide_eq_true_eq]
 omega
theorem take_one {α:Type} [Inhabited α] {xs:List α} {k:Nat} (h:k<xs.length):xs.take (k+1)=xs.take k++ [nth xs (k:Int)]:=by
 rw[List.take_succ_eq_append_getElem h,bB h]
theorem gQ {α:Type} [Inhabited α] {xs ys:List α} (h:xs <+:ys) {i:Int} (h0:0<=i) (h1:i<xs.length):nth ys i=nth xs i:=by
 obtain ⟨t,rfl⟩:=h
 exact gp h0 h1
structure NumOk {κ:Type} [DecidableEq κ] (nx:κ->List (Option κ)) (first:κ) (G:κ->Prop) (B:Nat):Prop where
 g0:G first
 gn: ∀x,G x-> ∀y,some y∈nx x->G y
 len: ∀x,G x->(nx x).length=9
 bound: ∀l:List κ,l.Nodup->(∀x∈l,G x)->l.length<=B
section
variable {κ:Type} [DecidableEq κ] [Inhabited κ] {nx:κ->List (Option κ)} {first:κ} {G:κ->Prop} {B:Nat}
theorem NumOk.le (H:NumOk nx first G B) (i:Nat):(bfS nx first i).length<=B:=H.bound _ (jr i) (gP H.g0 H.gn i)
theorem NumOk.at (H:NumOk nx first G B) {i:Nat} (h:i<(bfS nx first i).length):G (nth (bfS nx first i) (i:Int)):=gP H.g0 H.gn i _ (dD (by omega) (by omega))
theorem gq {i:Nat} (h:i<(bfS nx first i).length):bfS nx first (i+1)=nbS (bfS nx first i) (nx (nth (bfS nx first i) (i:Int))):=by rw[zL h,bB h]
theorem sA {i:Nat} (h:i<(bfS nx first i).length):bfR nx first (i+1)=bfR nx first i++ [nbR (bfS nx first i) (nx (nth (bfS nx first i) (i:Int)))]:=by rw[si h,bB h]
theorem qb {β:Type} {acc:κ->β} {i:Nat} (h:i<(bfS nx first i).length):((bfS nx first (i+1)).take (i+1)).map acc=((bfS nx first i).take i).map acc++ [acc (nth (bfS nx first i) (i:Int))]:=by
 have hp:=bf (nx:=nx) (first:=first) i
 have hl:=hp.length_le
 have e:(bfS nx first (i+1)).take i=(bfS nx first i).take i:=by
  have ⟨t,ht⟩:=hp
  grind
 rw[take_one (by omega),aM,e,gQ hp (by omega) (by omega)];rfl
def MapOf (M:List (κ×Int)) (l:List κ):Prop:=M.length=l.length/\ ∀x,M.lookup x=if x∈l then some (l.idxOf x:Int) else none
theorem MapOf.one (x:κ):MapOf [(x,0)] [x]:=by
 refine ⟨rfl,fun y=>?_⟩
 grind
theorem MapOf.put {M:List (κ×Int)} {l:List κ} (h:MapOf M l) {x:κ} (hx:x∉l):MapOf ((x,(l.length:Int))::M) (l++ [x]):=by
 refine ⟨by simp[h.1],fun y=>?_⟩
 rw[List.lookup_cons]
 by_cases e:y=x
 ·grind
 ·simp[show (y==x)=false from by simp[e],h.2 y,List.mem_append,List.mem_singleton,e,or_false]
  grind
end
section
variable {nx:Int->List (Option Int)} {first:Int} {G:Int->Prop} {B:Nat}
theorem BS {p3:Int->Int->Option (Int×Bool)} {l:List Int} {M:List (Int×Int)} {os:List (Option Int)} {acs:List Bool} {rws:List (List Int)} {i:Nat}
  (hi:i<l.length) (hos:os.length=9) (hM:MapOf M l) (hok: ∀y,some y∈os->iOk y=true) (hB: ∀k,(nbS l (os.take k)).length<=1000000)
  (hp: ∀(k:Nat) (hk:k<9),∃j,p3 (nth l (i:Int)) (k:Int)=some (match nth os (k:Int) with | some y=>(y,true) | none=>(j,false))) :
  ∃M',ay (dC p3 (l,M,(i:Int),0,acs,rws)) aS (l,M,[],0)=some (.brk (nbS l os,M',nbR l os,9))/\MapOf M' (nbS l os):=by
 obtain ⟨s',e,M',rfl,hM'⟩:=be (f:=dC p3 (l,M,(i:Int),0,acs,rws)) (fun k s=> ∃M',s=(nbS l (os.take k),M',nbR l (os.take k),(k:Int))/\MapOf M' (nbS l (os.take k))) 9 (by
  rintro k s hk ⟨M1,rfl,hM1⟩
  have hpre:=gO l (os.take k)
  have hlen:=hpre.length_le
  have hBk:=hB k
  have ⟨j,hj⟩:=hp k hk
  have hrl:(nbR l (os.take k)).length<=9:=by rw[fD,aA];omega
  unfold dC
  simp only
  rw[if_pos (by grind),aD (by omega) (by omega)];simp only[aa]
  rw[gQ hpre (by omega) (by omega),hj,take_one (by omega),n9,qa]
  simp only[aa,af (show k<9223372036854775807 by omega)]
  cases ho:nth os (k:Int) with
  | none =>
   simp only[Bool.false_eq_true,if_false]
   rw[aI (by grind)]
   exact ⟨_,rfl,M1,rfl,hM1⟩
  | some y =>
   have hy:=hok y (ho ▸ dD (by omega) (by omega))
   rw[show chk (iOk y=true)=some () from by unfold chk;grind];rw[show lkM M1 y=_ from hM1.2 y]
   by_cases c:y∈nbS l (os.take k)
   ·simp only[c,if_true,Option.isSome_some,Option.getD_some,aa]
    rw[aI (by grind)]
    exact ⟨_,rfl,M1,by rw[iI c];rfl,by grind[iI]⟩
   ·have hput:BX M1 iOk iOk y ((nbS l (os.take k)).length:Int)=some ((y,((nbS l (os.take k)).length:Int))::M1):=by
     unfold BX
     rw[if_pos ⟨by have:=hM1.1;omega,hy,Kf hBk⟩]
    simp only[c,if_false,Option.isSome_none,Bool.false_eq_true,hput,aa]
    rw[aI (by grind)];simp only[aa]
    rw[aI (by grind)]
    refine ⟨_,rfl,(y,((nbS l (os.take k)).length:Int))::M1,?_,?_⟩
    ·grind[iJ,nbI,np]
    ·rw[iJ c];exact hM1.put c) (by
  grind[dC]) (s:=(l,M,[],0)) ⟨M,rfl,hM⟩ (by unfold aS;omega)
 grind
theorem TJ {most:Int} {p2:Int->Option Bool} {p3:Int->Int->Option (Int×Bool)} {acc:Int->Bool} (H:NumOk nx first G B) (hB:B<=1000000) (hmost:(B:Int)<=most) (hok: ∀x,G x->iOk x=true)
  (h2: ∀x,G x->p2 x=some (acc x)) (h3: ∀x (k:Nat),G x->k<9-> ∃j,p3 x (k:Int)=some (match nth (nx x) (k:Int) with | some y=>(y,true) | none=>(j,false))) :
  ∃N,bfE nx first N/\dO first most p2 p3=some ((0,(bfS nx first N).map acc,bfR nx first N),true):=by
 have ⟨N,hNB,hN⟩:=Ep (nx:=nx) (first:=first) (H.le)
 refine ⟨N,hN,?_⟩
 unfold dO
 rw[show BX ([] :List (Int×Int)) iOk iOk first 0=some [(first,0)] from by unfold BX;rw[if_pos ⟨by simp,hok _ H.g0,by decide⟩]];simp[aa]
 obtain ⟨s',e,M',rfl,hM'⟩:=be (f:=bE most p2 p3) (fun i s=> ∃M,s=(bfS nx first i,M,(i:Int),0,((bfS nx first i).take i).map acc,bfR nx first i)/\MapOf M (bfS nx first i)) N (by
  rintro i s hi ⟨M,rfl,hM⟩
  have hlt:=hN.2 i hi
  have hG:=H.at hlt
  have hle':=H.le (i+1)
  have ⟨M',e,hM'⟩:=BS (p3:=p3) (l:=bfS nx first i) (M:=M) (os:=nx (nth (bfS nx first i) (i:Int))) (acs:=((bfS nx first i).take i).map acc) (rws:=bfR nx first i) hlt (H.len _ hG) hM (fun y hy=>hok y (H.gn _ hG y hy))
   (fun k=>by
    have:(nbS (bfS nx first i) ((nx (nth (bfS nx first i) (i:Int))).take k)).length<=B:=H.bound _ (lU (jr i)) fun x hx=>by
     rcases pH.1 hx with hx | hx
     ·exact gP H.g0 H.gn i x hx
     ·exact H.gn _ hG x (List.mem_of_mem_take hx)
    omega) (fun k hk=>h3 _ k hG hk)
  unfold bE
  rw[if_pos (by grind),aj e,<-gq hlt]
  rw[<-gq hlt] at hM'
  have hl2:=(bf (nx:=nx) (first:=first) i).length_le
  simp only
  rw[if_neg (by grind),aD (by omega) (by omega)];simp only[aa]
  rw[gQ (bf i) (by omega) (by omega),h2 _ hG];simp only[aa]
  have hr:(bfR nx first i).length=i:=iT fun j hj=>hN.2 j (by omega)
  rw[aI (by simp;omega)];rw[aI (by simp;omega)];simp only[aa,af (show i<9223372036854775807 by omega)]
  exact ⟨_,rfl,M',by rw[qb hlt,sA hlt],hM'⟩) (by
  rintro s ⟨M,rfl,hM⟩
  unfold bE
  rw[if_neg (by have:=hN.1;grind)]) (s:=([first],[(first,0)],0,0,[],[])) ⟨_,rfl,MapOf.one first⟩ (fN (by omega))
 rw[aj e]
 rw[List.take_of_length_le (by have:=hN.1;omega)]
end
theorem OQ {l:List Int} {x:Int} (h:l.length<=9223372036854775807):lF l x=some (if x∈l then (l.idxOf x:Int) else -1):=by
 unfold lF
 have ⟨o,e,hq⟩:=cE (f:=mI l x) (fun i s=>s=(i:Int)/\x∉l.take i) (fun o=>(x∈l/\o= .ret (l.idxOf x:Int))\/(x∉l/\ ∃s,o= .brk s)) l.length (s:=0) (by
  rintro i s hi ⟨rfl,hx⟩
  unfold mI
  by_cases hl:i<l.length
  ·rw[if_pos (by grind),aD (by omega) (by omega)];simp[aa]
   by_cases c:nth l (i:Int)=x
   ·refine .inr ⟨_,by rw[if_pos (by grind)],(fun s' e=>by cases e),.inl ?_⟩
    have e:l=l.take i++(x::l.drop (i+1)):=by
     grind[bB,List.drop_eq_getElem_cons,List.take_append_drop]
    grind
   ·refine .inl ⟨hl,_,by rw[if_neg (by grind)],by grind[af],?_⟩
    rw[take_one hl,List.mem_append,List.mem_singleton]
    rintro (h | h)
    ·exact hx h
    ·exact c h.symm
  simp_all[if_neg,List.take_of_length_le]) ⟨rfl,by simp⟩ (fN h)
 rcases hq with ⟨hx,rfl⟩ | ⟨hx,s,rfl⟩
 ·rw[bu e,if_pos hx]
 ·rw[aj e,if_neg hx]
section
variable {a:AutT} {n:Nat} {c:List Int} {lv:List Bool} {nx:Int->List (Option Int)} {G:Int->Prop} {B:Nat} {acc:Int->Bool}
def good (n:Nat) (lv:List Bool) (r:Int):Prop:=0<=r/\r<n/\nth lv r=true
def tE (a:AutT) (c:List Int) (lv:List Bool) (r:Int):List (Option Int):=(List.range 9).map fun k=>if mv a r k≥0/\nth lv (mv a r k)=true then some (nth c (mv a r k)) else none
theorem EX {r:Int} {k:Nat} (hk:k<9):nth (tE a c lv r) (k:Int)=if mv a r k≥0/\nth lv (mv a r k)=true then some (nth c (mv a r k)) else none:=by
 grind[tE,bB]
def RepsOf (n:Nat) (lv:List Bool) (c:List Int) (rs l:List Int):Prop:=rs.length=l.length/\ ∀j:Nat,j<l.length->good n lv (nth rs j)/\nth c (nth rs j)=nth l (j:Int)
theorem RepsOf.snoc {rs l:List Int} (h:RepsOf n lv c rs l) {t:Int} (ht:good n lv t):RepsOf n lv c (rs++ [t]) (l++ [nth c t]):=by
 refine ⟨by simp[h.1],fun j hj=>?_⟩
 by_cases e:j<l.length
 ·rw[gp (by omega) (by have:=h.1;omega),gp (by omega) (by omega)];exact h.2 j e
 ·have h1:nth (rs++ [t]) (l.length:Int)=t:=by rw[bB (by simp[h.1])];simp[<-h.1]
  grind[nth,bB]
theorem Kg (V:VA a n) (hn:n<=1000000) (hc:c.length=n) (hlv:lv.length=n) {l rs:List Int} {acs:List Bool} {rws:List (List Int)} {i:Nat} (hi:i<l.length) (hR:RepsOf n lv c rs l) {os:List (Option Int)} (hos:os.length=9)
  (ho: ∀r,good n lv r->nth c r=nth l (i:Int)->tE a c lv r=os) (hB: ∀k,(nbS l (os.take k)).length<=1000000) :
  ∃rs',ay (fp a c lv (l,rs,(i:Int),0,acs,rws)) aS (l,rs,[],0)=some (.brk (nbS l os,rs',nbR l os,9))/\RepsOf n lv c rs' (nbS l os):=by
 obtain ⟨s',e,rs',rfl,hR'⟩:=be (f:=fp a c lv (l,rs,(i:Int),0,acs,rws)) (fun k s=> ∃rs',s=(nbS l (os.take k),rs',nbR l (os.take k),(k:Int))/\RepsOf n lv c rs' (nbS l (os.take k))) 9 (by
  rintro k s hk ⟨r1,rfl,hR1⟩
  have hpre:=gO l (os.take k)
  have hlen:=hpre.length_le
  have hBk:=hB k
  have hrl:(nbR l (os.take k)).length<=9:=by rw[fD,aA];omega
  have hr1:=hR1.1
  have ⟨⟨g0,g1,g2⟩,gc⟩:=hR1.2 i (by omega)
  rw[gQ hpre (by omega) (by omega)] at gc
  have hsu:=ho _ ⟨g0,g1,g2⟩ gc
  have hok:nth os (k:Int)=if mv a (nth r1 (i:Int)) k≥0/\nth lv (mv a (nth r1 (i:Int)) k)=true then some (nth c (mv a (nth r1 (i:Int)) k)) else none:=by
   rw[<-hsu];exact EX hk
  have hmv:=V.mv (s:=nth r1 (i:Int)) (k:=k) g0 g1 hk
  unfold fp
  simp only
  rw[if_pos (by grind),aD (xs:=r1) (by omega) (by omega)];simp only[aa]
  rw[V.get g0 g1];simp only[aa]
  rw[V.get2 g0 g1 hk,take_one (by omega),n9,qa]
  simp only[aa,af (show k<9223372036854775807 by omega)]
  by_cases c1:mv a (nth r1 (i:Int)) k≥0
  ·rw[if_pos (by grind),aD (xs:=lv) c1 (by omega)];simp only[aa]
   by_cases c2:nth lv (mv a (nth r1 (i:Int)) k)=true
   ·rw[if_pos ⟨c1,c2⟩] at hok
    rw[if_pos c2,aD (xs:=c) c1 (by omega),hok];simp only[aa]
    rw[OQ (by omega)];simp only[aa]
    by_cases c3:nth c (mv a (nth r1 (i:Int)) k)∈nbS l (os.take k)
    ·rw[if_pos c3,if_neg (by simp)];simp only[aa]
     rw[aI (by grind)]
     exact ⟨_,rfl,r1,by rw[iI c3];rfl,by grind[iI]⟩
    ·rw[if_neg c3,if_pos (by decide)]
     rw[aI (by grind)];rw[aI (by grind)];simp only[aa]
     rw[aI (by grind)];refine ⟨_,rfl,r1++ [mv a (nth r1 (i:Int)) k],?_,?_⟩
     ·grind[iJ,nbI,np]
     ·rw[iJ c3];exact hR1.snoc ⟨c1,hmv.2,c2⟩
   ·rw[if_neg (fun h=>c2 h.2)] at hok
    rw[if_neg c2,hok];simp only[aa]
    rw[aI (by grind)]
    exact ⟨_,rfl,r1,rfl,hR1⟩
  ·rw[if_neg (fun h=>c1 h.1)] at hok
   rw[if_neg (by grind),hok];simp only[aa]
   rw[aI (by grind)]
   exact ⟨_,rfl,r1,rfl,hR1⟩) (by
  grind[fp]) (s:=(l,rs,[],0)) ⟨rs,rfl,hR⟩ (by unfold aS;omega)
 grind
theorem TK (V:VA a n) (hn:n<=1000000) (hc:c.length=n) (hlv:lv.length=n) (hs:nth lv a.1=true) (H:NumOk nx (nth c a.1) G B) (hB:B<=1000000)
  (hnx: ∀r,good n lv r->nx (nth c r)=tE a c lv r) (hacc: ∀r,good n lv r->acc (nth c r)=nth a.2.1 r) :
  ∃N,bfE nx (nth c a.1) N/\gG a c lv=some (0,(bfS nx (nth c a.1) N).map acc,bfR nx (nth c a.1) N):=by
 have ⟨N,hNB,hN⟩:=Ep (nx:=nx) (first:=nth c a.1) (H.le)
 refine ⟨N,hN,?_⟩
 have hst:=V.start
 unfold gG
 rw[aD hst.1 (by omega)];simp[aa]
 rw[if_pos hs,aD hst.1 (by omega)];simp[aa]
 obtain ⟨s',e,rs,rfl,hR⟩:=be (f:=iz a c lv) (fun i s=> ∃rs,s=(bfS nx (nth c a.1) i,rs,(i:Int),0,((bfS nx (nth c a.1) i).take i).map acc,bfR nx (nth c a.1) i)/\RepsOf n lv c rs (bfS nx (nth c a.1) i)) N (by
  rintro i s hi ⟨rs,rfl,hR⟩
  have hlt:=hN.2 i hi
  have hG:=H.at hlt
  have ⟨rs',e,hR'⟩:=Kg (acs:=((bfS nx (nth c a.1) i).take i).map acc) (rws:=bfR nx (nth c a.1) i) V hn hc hlv hlt hR (os:=nx (nth (bfS nx (nth c a.1) i) (i:Int))) (H.len _ hG) (fun r hr e=>by grind) (fun k=>by
    have:(nbS (bfS nx (nth c a.1) i) ((nx (nth (bfS nx (nth c a.1) i) (i:Int))).take k)).length<=B:=H.bound _ (lU (jr i)) fun x hx=>by
     rcases pH.1 hx with hx | hx
     ·exact gP H.g0 H.gn i x hx
     ·exact H.gn _ hG x (List.mem_of_mem_take hx)
    omega)
  unfold iz
  simp only
  rw[if_pos (by grind),aj e]
  rw[<-gq hlt] at hR'
  have hl2:=(bf (nx:=nx) (first:=nth c a.1) i).length_le
  have hr1:=hR'.1
  have ⟨⟨g0,g1,g2⟩,gc⟩:=hR'.2 i (by omega)
  rw[gQ (bf i) (by omega) (by omega)] at gc
  rw[aD (xs:=rs') (by omega) (by omega)];simp only[aa]
  rw[V.acc g0 g1,<-hacc _ ⟨g0,g1,g2⟩,gc];simp only[aa]
  have hr:(bfR nx (nth c a.1) i).length=i:=iT fun j hj=>hN.2 j (by omega)
  rw[aI (by simp;omega)];rw[aI (by simp;omega)];simp only[aa,af (show i<9223372036854775807 by omega)]
  exact ⟨_,rfl,rs',by rw[<-gq hlt,qb hlt,sA hlt],hR'⟩) (by
  rintro s ⟨rs,rfl,hR⟩
  unfold iz
  rw[if_neg (by have:=hN.1;grind)]) (s:=([nth c a.1],[a.1],0,0,[],[])) ⟨[a.1],rfl,rfl,fun j hj=>by
   obtain rfl:j=0:=by simpa [bfS] using hj
   exact ⟨⟨hst.1,hst.2,hs⟩,rfl⟩⟩ (fN (by omega))
 rw[aj e]
 rw[List.take_of_length_le (by have:=hN.1;omega)]
theorem Dg (V:VA a n) (hlv:lv.length=n) (hs:nth lv a.1=false):gG a c lv=some nothing:=by
 have hst:=V.start
 simp_all[gG,aD,aa,Kc]
end
end D
namespace D
open Go.RowKit
abbrev B1:=(List Int)×Int×Int×(List Int)×Bool
abbrev Ru (x:Int) (j:Nat):Bool:=(sD (oN x (j:Int)) 1)==1
def ND (F:List Int) (set m0:Int):Nat->Int
 | 0=>m0
 | i+1=>if Ru set (i+1) then orI (ND F set m0 i) (nth F (i:Int)) else ND F set m0 i
def pick (L:List Int) (m letter:Int):Nat->Int
 | 0=>0
 | i+1=>if nth L (i:Int)=letter/\Ru m i=true then orI (pick L m letter i) (Aj 1 ((i+1:Nat):Int)) else pick L m letter i
def aft (p:B1) (set letter:Int):Int:=pick p.1 (ND p.2.2.2.1 set (if (sD set 1)==1 then p.2.1 else 0) p.2.2.2.1.length) letter p.1.length
def sB (p:B1) (set:Int):Bool:=if (sD set 1)==1 then (if p.2.2.2.2 then true else (sD (oN set 1) p.2.2.1) !=0) else (sD (oN set 1) p.2.2.1) !=0
theorem pJ (i:Nat):chk (0<=(i:Int))=some ():=by rfl
theorem Rv {p:B1} {set letter:Int} (hl:p.2.2.2.1.length=p.1.length) (hb:p.1.length<=1000000):ma p set letter=some (aft p set letter):=by
 have h0: ∀m0,ay (fW p set) aS (m0,0)=some (.brk (ND p.2.2.2.1 set m0 p.1.length,(p.1.length:Int))):=fun m0 =>
  aQ (f:=fW p set) (fun i=>(ND p.2.2.2.1 set m0 i,(i:Int))) p.1.length (fun i hi=>by
   unfold fW
   rw[if_pos (by grind),af (by omega),pJ];rw[ND]
   by_cases c:Ru set (i+1)=true
   ·simp_all[if_pos,aD]
   grind) (by unfold fW;simp) (fN (by omega))
 have h1: ∀s7:Int×Int,ay (fX p letter s7) aS (0,0)=some (.brk (pick p.1 s7.1 letter p.1.length,(p.1.length:Int))):=fun s7 =>
  aQ (f:=fX p letter s7) (fun i=>(pick p.1 s7.1 letter i,(i:Int))) p.1.length (fun i hi=>by
   unfold fX
   rw[if_pos (by grind),af (by omega),pJ,pJ];rw[pick]
   by_cases c:Ru s7.1 i=true
   ·rw[if_pos c,aD (by omega) (by omega)];grind
   grind) (by unfold fX;simp) (fN (by omega))
 unfold ma aft
 by_cases c:((sD set 1)==1)=true
 ·simp_all[if_pos,aa,aj]
 simp_all[if_neg,aa,aj]
theorem Rw {p:B1} {set letter:Int} (hl:p.2.2.2.1.length=p.1.length) (hb:p.1.length<=1000000):fc p set letter=some (aft p set letter):=by
 have h0: ∀m0,ay (cH p set) aS (m0,0)=some (.brk (ND p.2.2.2.1 set m0 p.2.2.2.1.length,(p.2.2.2.1.length:Int))):=fun m0 =>
  aQ (f:=cH p set) (fun i=>(ND p.2.2.2.1 set m0 i,(i:Int))) p.2.2.2.1.length (fun i hi=>by
   unfold cH
   rw[if_pos (by grind),aD (by omega) (by omega)];rw[af (by omega),pJ];rw[ND]
   grind) (by unfold cH;simp) (fN (by omega))
 have h1: ∀s7:Int×Int,ay (cJ p letter s7) aS (0,0)=some (.brk (pick p.1 s7.1 letter p.1.length,(p.1.length:Int))):=fun s7 =>
  aQ (f:=cJ p letter s7) (fun i=>(pick p.1 s7.1 letter i,(i:Int))) p.1.length (fun i hi=>by
   unfold cJ
   rw[if_pos (by grind),aD (by omega) (by omega)];rw[af (by omega),pJ,pJ];rw[pick]
   grind) (by unfold cJ;simp) (fN (by omega))
 unfold fc aft
 by_cases c:((sD set 1)==1)=true
 ·simp_all[if_pos,aa,aj]
 simp_all[if_neg,aa,aj]
theorem TL (p:B1) (x:Int):jV p x=some (sB p x):=by
 grind[jV,sB]
theorem TM (p:B1) (x:Int):c9 p x=some (sB p x):=by
 grind[c9,sB]
theorem GH (x:Int): -9223372036854775808<=i64.wrap x/\i64.wrap x<=9223372036854775807:=by
 simp[IntKind.wrap,IntKind.bits,IntKind.signed,Bool.true_and]
 grind
theorem Rx (x:Int):iOk (i64.wrap x)=true:=by
 have h1:i64.min= -9223372036854775808:=by decide
 simp_all[GH,iOk,Lit.wf,ah,decide_eq_true_eq]
theorem TN (m n:Int):iOk (orI m n)=true:=Rx _
theorem Kh (L:List Int) (m letter:Int): ∀i,iOk (pick L m letter i)=true
 | 0=>by rfl
 | i+1=>by
  rw[pick]
  split
  ·exact TN _ _
  ·exact Kh L m letter i
def nxS (p:B1) (x:Int):List (Option Int):=(List.range 9).map fun k:Nat=>if aft p x (k:Int)=0 then none else some (aft p x (k:Int))
theorem OR {p:B1} {x:Int} {k:Nat} (hk:k<9):nth (nxS p x) (k:Int)=if aft p x k=0 then none else some (aft p x k):=by
 grind[nxS,bB]
theorem zZ (p:B1) (x:Int):(nxS p x).length=9:=by simp[nxS]
theorem TO {p:B1} {x y:Int} (h:some y∈nxS p x):iOk y=true:=by
 have ⟨k,hk,e⟩:=List.mem_map.1 h
 split at e
 ·cases e
 ·cases ae e
  exact Kh _ _ _ _
theorem Ki {κ:Type} [DecidableEq κ] : ∀(l:List κ) (os:List (Option κ)),(nbS l os).length<=l.length+os.length
 | l,[] =>by simp[nbS]
 | l,o::os=>by
  have h:=Ki (nbL l o) os
  have h2:(nbL l o).length<=l.length+1:=by
   cases o with
   | none=>simp[nbL]
   | some x=>grind[nbL]
  grind[nbS,nbL,aH]
section
variable {κ:Type} [DecidableEq κ] (nx:κ->List (Option κ)) (first:κ) (acc:κ->Bool) (most:Nat)
def goM:Nat->Nat->AutT×Bool
 | 0,i=>((0,[],[]),false)
 | f+1,i=>if i<(bfS nx first i).length then (if (bfS nx first (i+1)).length>most then ((0,[],[]),false) else goM f (i+1)) else ((0,((bfS nx first i).take i).map acc,bfR nx first i),true)
end
section
variable {κ:Type} [DecidableEq κ] {nx:κ->List (Option κ)} {first:κ} {acc:κ->Bool} {most:Nat}
theorem Kj {i:Nat} (h: ∀j,j<i->j<(bfS nx first j).length):i<=(bfS nx first i).length:=by
 cases i with
 | zero=>omega
 | succ i =>
  have h1:=h i (by omega)
  grind[bf]
theorem EY {S:Type} {f:S->Option (Out (AutT×Bool) S)} (hm:most<=1000000) (h1:1<=most) (st:Nat->S->Prop)
  (hs: ∀i s,st i s->(∀j,j<i->j<(bfS nx first j).length)->(bfS nx first i).length<=most->i<(bfS nx first i).length->((bfS nx first (i+1)).length>most->f s=some (.ret ((0,[],[]),false)))/\((bfS nx first (i+1)).length<=most-> ∃s',f s=some (.nxt s')/\st (i+1) s'))
  (he: ∀i s,st i s-> ¬i<(bfS nx first i).length->f s=some (.brk s)) {s:S} (h0:st 0 s) :
  (ay f aS s=some (.ret ((0,[],[]),false))/\goM nx first acc most (most+2) 0=((0,[],[]),false)) \/
  ∃N s',ay f aS s=some (.brk s')/\st N s'/\bfE nx first N/\N<=most/\goM nx first acc most (most+2) 0=((0,(bfS nx first N).map acc,bfR nx first N),true):=by
 have ⟨o,e,hq⟩:=cE (f:=f) (fun i s=>st i s/\(∀j,j<i->j<(bfS nx first j).length)/\(bfS nx first i).length<=most/\goM nx first acc most (most+2) 0=goM nx first acc most (most+2 - i) i)
  (fun o=>(o= .ret ((0,[],[]),false)/\goM nx first acc most (most+2) 0=((0,[],[]),false))\/ ∃N s',o= .brk s'/\st N s'/\bfE nx first N/\N<=most/\goM nx first acc most (most+2) 0=((0,(bfS nx first N).map acc,bfR nx first N),true)) most (s:=s) (by
  rintro i s hi ⟨k1,k2,k3,k4⟩
  have hle:=Kj k2
  rw[show most+2 - i=(most+1 - i)+1 from by omega] at k4
  have k5:goM nx first acc most (most+1 - i+1) i=if i<(bfS nx first i).length then (if (bfS nx first (i+1)).length>most then ((0,[],[]),false) else goM nx first acc most (most+1 - i) (i+1)) else ((0,((bfS nx first i).take i).map acc,bfR nx first i),true):=rfl
  by_cases c:i<(bfS nx first i).length
  ·grind
  ·refine .inr ⟨_,he i s k1 c,(fun s' e=>by cases e),.inr ⟨i,s,rfl,k1,⟨by omega,k2⟩,hi,?_⟩⟩
   grind) ⟨h0,fun j hj=>by omega,by simp[bfS];omega,rfl⟩ (fN (by omega))
 grind
end
section
variable {p:B1} {most:Nat} (hl:p.2.2.2.1.length=p.1.length) (hb:p.1.length<=1000000) (hm:most<=900000) (h1:1<=most)
include hl hb hm h1
theorem Vy:gf p most=some (goM (nxS p) 1 (sB p) most (most+2) 0):=by
 have hp3: ∀(l:List Int) (i k:Nat),k<9-> ∃j,(fun a0 a1=>cP a0 a1 (p.1,p.2.1,p.2.2.1,p.2.2.2.1,p.2.2.2.2)) (nth l (i:Int)) (k:Int)=some (match nth (nxS p (nth l (i:Int))) (k:Int) with | some y=>(y,true) | none=>(j,false)):=by
  intro l i k hk
  refine ⟨0,?_⟩
  show cP _ _ p=_
  unfold cP
  rw[Rw hl hb,OR hk];by_cases c:aft p (nth l (i:Int)) k=0
  ·grind
  ·grind
 unfold gf dO
 rw[show BX ([] :List (Int×Int)) iOk iOk 1 0=some [(1,0)] from by rfl];simp[aa]
 rcases EY (nx:=nxS p) (first:=1) (acc:=sB p) (most:=most) (f:=bE most (fun a0=>c9 (p.1,p.2.1,p.2.2.1,p.2.2.2.1,p.2.2.2.2) a0) (fun a0 a1=>cP a0 a1 (p.1,p.2.1,p.2.2.1,p.2.2.2.1,p.2.2.2.2)))
  (by omega) h1 (fun i s=> ∃M,s=(bfS (nxS p) 1 i,M,(i:Int),0,((bfS (nxS p) 1 i).take i).map (sB p),bfR (nxS p) 1 i)/\MapOf M (bfS (nxS p) 1 i)) (by
   rintro i s ⟨M,rfl,hM⟩ hj hle hlt
   have ⟨M',e,hM'⟩:=BS (p3:=fun a0 a1=>cP a0 a1 (p.1,p.2.1,p.2.2.1,p.2.2.2.1,p.2.2.2.2)) (l:=bfS (nxS p) 1 i) (M:=M) (os:=nxS p (nth (bfS (nxS p) 1 i) (i:Int))) (acs:=((bfS (nxS p) 1 i).take i).map (sB p)) (rws:=bfR (nxS p) 1 i) hlt (zZ _ _) hM (fun y hy=>TO hy)
    (fun k=>by
     grind[Ki,bfS,nxS,nth,zZ,aA]) (fun k hk=>hp3 _ i k hk)
   rw[<-gq hlt] at hM'
   have hl2:=(bf (nx:=nxS p) (first:=1) i).length_le
   constructor
   ·simp_all[bE,if_pos,aj,gq]
   ·intro hle2
    unfold bE
    rw[if_pos (by grind),aj e,<-gq hlt]
    simp only
    rw[if_neg (by grind),aD (by omega) (by omega)];simp only[aa]
    rw[gQ (bf i) (by omega) (by omega)]
    rw[TM];simp only[aa]
    have hr:=iT hj
    rw[aI (by simp;omega)];rw[aI (by simp;omega)];simp only[aa,af (show i<9223372036854775807 by omega)]
    exact ⟨_,rfl,M',by rw[qb hlt,sA hlt],hM'⟩) (by
   rintro i s ⟨M,rfl,hM⟩ hn
   simp_all[bE,if_neg]) (s:=([1],[(1,0)],0,0,[],[])) ⟨_,rfl,MapOf.one 1⟩ with ⟨e,hg⟩ | ⟨N,s',e,⟨M,rfl,hM⟩,hN,hNm,hg⟩
 ·grind[bu]
 ·rw[aj e,hg];simp only[aa]
  rw[List.take_of_length_le (by have:=hN.1;omega)]
theorem NF {l:List Int} {acs:List Bool} {rws:List (List Int)} {i:Nat} (hi:i<l.length) (hle:l.length<=most) :
  ay (gF p (l,(i:Int),0,acs,rws)) aS (l,[],0)=some (.brk (nbS l (nxS p (nth l (i:Int))),nbR l (nxS p (nth l (i:Int))),9)):=by
 have h9:=zZ p (nth l (i:Int))
 have:=aQ (f:=gF p (l,(i:Int),0,acs,rws)) (fun k=>(nbS l ((nxS p (nth l (i:Int))).take k),nbR l ((nxS p (nth l (i:Int))).take k),(k:Int))) 9 (fun k hk=>by
  have hpre:=gO l ((nxS p (nth l (i:Int))).take k)
  have hlen:=hpre.length_le
  have hB:=Ki l ((nxS p (nth l (i:Int))).take k)
  rw[aA] at hB
  have hrl:(nbR l ((nxS p (nth l (i:Int))).take k)).length<=9:=by rw[fD,aA];omega
  unfold gF
  simp only[kH]
  rw[if_pos (by grind),aD (by omega) (by omega)];simp only[aa]
  rw[gQ hpre (by omega) (by omega),Rv hl hb];simp only[aa]
  rw[take_one (by omega),n9,qa,OR hk]
  simp only[af (show k<9223372036854775807 by omega)]
  by_cases c:aft p (nth l (i:Int)) k=0
  ·rw[if_pos c,if_neg (by simp[c])];simp[aa]
   rw[aI (by grind)];rfl
  ·rw[if_neg c,if_pos (by grind),OQ (by omega)];simp[aa]
   by_cases d:aft p (nth l (i:Int)) k∈nbS l ((nxS p (nth l (i:Int))).take k)
   ·rw[if_pos d,if_neg (by simp),iI d];simp[aa]
    rw[aI (by grind)];rfl
   ·rw[if_neg d,if_pos (by decide),aI (by grind),iJ d];simp[aa]
    rw[aI (by simp;omega)];simp[nbI,np d,aa]) (by
  rfl) (by unfold aS;omega)
 exact this
theorem Vz:il p most=some (goM (nxS p) 1 (sB p) most (most+2) 0):=by
 unfold il
 rcases EY (nx:=nxS p) (first:=1) (acc:=sB p) (most:=most) (f:=eD p most)
  (by omega) h1 (fun i s=>s=(bfS (nxS p) 1 i,(i:Int),0,((bfS (nxS p) 1 i).take i).map (sB p),bfR (nxS p) 1 i)) (by
   rintro i s rfl hj hle hlt
   have e:=NF hl hb hm h1 (acs:=((bfS (nxS p) 1 i).take i).map (sB p)) (rws:=bfR (nxS p) 1 i) hlt hle
   have hl2:=(bf (nx:=nxS p) (first:=1) i).length_le
   constructor
   ·simp_all[eD,if_pos,aj,gq]
   ·intro hle2
    unfold eD
    rw[if_pos (by grind),aj e,<-gq hlt]
    simp only
    rw[if_neg (by grind),aD (by omega) (by omega)];simp only[aa]
    rw[gQ (bf i) (by omega) (by omega)]
    rw[TL];simp only[aa]
    have hr:=iT hj
    rw[aI (by simp;omega)];rw[aI (by simp;omega)];simp only[aa,af (show i<9223372036854775807 by omega)]
    exact ⟨_,rfl,by rw[qb hlt,sA hlt]⟩) (by
   simp_all[eD,if_neg]) (s:=([1],0,0,[],[])) rfl with ⟨e,hg⟩ | ⟨N,s',e,rfl,hN,hNm,hg⟩
 ·rw[bu e,hg]
 ·rw[aj e,hg];rw[List.take_of_length_le (by have:=hN.1;omega)]
end
end D
namespace D
open Go.RowKit
theorem NG (m n:Int):orI m n=orI n m:=by unfold orI;rw[BitVec.or_comm]
def lk (F:List Int) (from_ to_:Int):Nat->List Int
 | 0=>F
 | i+1=>if Ru from_ i then (lk F from_ to_ i).set i (orI (nth (lk F from_ to_ i) (i:Int)) to_) else lk F from_ to_ i
theorem wS (F:List Int) (f t:Int): ∀i,(lk F f t i).length=F.length
 | 0=>rfl
 | i+1=>by
  rw[lk]
  split
  ·rw[List.length_set,wS]
  ·exact wS F f t i
theorem OS {p:B1} {f t:Int} (hl:p.2.2.2.1.length<=1000000):lE p f t=some (p.1,p.2.1,p.2.2.1,lk p.2.2.2.1 f t p.2.2.2.1.length,p.2.2.2.2):=by
 have hL:ay (ij f t) aS (0,p.2.2.2.1)=some (.brk ((p.2.2.2.1.length:Int),lk p.2.2.2.1 f t p.2.2.2.1.length)):=aQ (f:=ij f t) (fun i=>((i:Int),lk p.2.2.2.1 f t i)) p.2.2.2.1.length (fun i hi=>by
  have hk:=wS p.2.2.2.1 f t i
  unfold ij
  rw[if_pos (by grind),pJ];rw[lk,af (by omega)]
  by_cases c:Ru f i=true
  ·simp_all[if_pos,aD,aa,Int.toNat_natCast]
  grind) (by unfold ij;simp[wS]) (fN (by omega))
 grind[lE,aj]
theorem EZ {p:B1} {f t:Int} (hl:p.2.2.2.1.length<=1000000):dm p f t=some (p.1,p.2.1,p.2.2.1,lk p.2.2.2.1 f t p.2.2.2.1.length,p.2.2.2.2):=by
 have hL:ay (cq p f t) aS (0,p.2.2.2.1)=some (.brk ((p.2.2.2.1.length:Int),lk p.2.2.2.1 f t p.2.2.2.1.length)):=aQ (f:=cq p f t) (fun i=>((i:Int),lk p.2.2.2.1 f t i)) p.2.2.2.1.length (fun i hi=>by
  have hk:=wS p.2.2.2.1 f t i
  unfold cq
  rw[if_pos (by grind),pJ];rw[lk,af (by omega)]
  by_cases c:Ru f i=true
  ·simp_all[if_pos,aD,aa,Int.toNat_natCast]
  grind) (by unfold cq;simp) (fN (by omega))
 grind[dm,aj]
def BOk (x:Tr Tok):Prop:= ∀(n m:Nat) (p:B1),(flat x).length<=n->(flat x).length<=m->p.2.2.2.1.length=p.1.length->p.1.length+(flat x).length<=100000->
 ∃(nu:Bool) (fi la:Int) (q:B1),cW n p (flat x)=some ((nu,fi,la),q)/\a6 m p x=some ((fi,la,nu),q)/\q.2.2.2.1.length=q.1.length/\q.1.length<=p.1.length+(flat x).length
theorem NH {x:Tr Tok} (h:WT x):BOk x:=by
 refine WT.ind (p:=BOk) ?_ ?_ ?_ h
 ·intro t e n m p hn hm hF hl
  rw[tp] at hn hm hl⊢
  simp only[aH,aJ] at hl
  match n,m,hn,hm with
  | n+1,m+1,_,_ =>
   rw[cW,a6];simp only[iy,aa]
   have:=(iF (A:=[]) (t:=t) (by simp)).1
   rw[List.nil_append] at this
   rw[this];simp only[aa,kH]
   rcases fF (show 0<=ar t by omega) with ⟨k,_⟩ | ⟨k,_⟩ | ⟨_,k⟩
   ·omega
   ·omega
   rcases k with k | k | k
   ·exact ⟨false,0,0,p,by simp[k],by simp[k],hF,by simp⟩
   ·exact ⟨true,0,0,p,by simp[k],by simp[k],hF,by simp⟩
   ·refine ⟨false,Aj 1 (p.1.length:Int),Aj 1 (p.1.length:Int),(p.1++ [t.2.1],p.2.1,p.2.2.1,p.2.2.2.1++ [0],p.2.2.2.2),?_,?_,by grind,by simp⟩
    ·rw[if_neg (by simp[k]),if_pos (by simp[k]),aI (by grind)];simp only[aa]
     rw[aI (by simp;omega)];rfl
    ·rw[if_neg (by simp[k]),if_pos (by simp[k]),aI (by grind)];simp only[aa]
     rw[aI (by simp;omega)];rfl
 ·intro t a e wa ih n m p hn hm hF hl
  rw[sk] at hn hm hl⊢
  simp only[aw,aH,aJ] at hn hm hl
  match n,m,hn,hm with
  | n+1,m+1,hn,hm =>
   rw[cW,a6];simp only[iy,aa,kH]
   obtain ⟨l1,l2⟩:=iF (A:=flat a) (t:=t) (by omega)
   rw[l1];simp only[aa]
   obtain ⟨nu,fi,la,q,hs,hi,hq1,hq2⟩:=ih n m p (by omega) (by omega) hF (by omega)
   rcases Gy e with ⟨k1,k2⟩ | ⟨k1,k2,k3⟩
   ·have g2:(t.1==2)=false:=by simp[k2]
    have g3:(t.1==3)=false:=by simp[k2]
    have g4:(t.1==4)=false:=by simp[k2]
    have g5:(t.1==5)=false:=by simp[k2]
    simp only[g2,g3,g4,g5,k1,Bool.false_eq_true,if_false,if_true]
    rw[l2,Int.toNat_natCast,List.take_left,ix (by grind)];simp only[aa]
    rw[hs,show aL [a] 0=some a from rfl];simp only[aa]
    rw[hi];simp only[aa,kH]
    rw[OS (by omega),EZ (by omega)];simp only[aa]
    refine ⟨true,fi,la,_,rfl,rfl,?_,?_⟩
    ·simp only[wS];exact hq1
    ·simp only[aw,aH,aJ];omega
   grind
 ·intro t a b e wa wb iha ihb n m p hn hm hF hl
  rw[oc] at hn hm hl⊢
  have hl2:((flat a++flat b)++ [t]).length<=1000000:=by omega
  obtain ⟨p1,p2,p3,p4⟩:=ss (a:=a) (t:=t) wb hl2
  simp only[aw,aH,aJ] at hn hm hl
  match n,m,hn,hm with
  | n+1,m+1,hn,hm =>
   have hpa:=wa.pos
   have hpb:=wb.pos
   rw[cW,a6];simp only[iy,aa,kH]
   obtain ⟨l1,l2⟩:=iF (A:=flat a++flat b) (t:=t) (by grind)
   rw[l1];simp only[aa]
   obtain ⟨nu,fi,la,q,hs,hi,hq1,hq2⟩:=iha n m p (by omega) (by omega) hF (by omega)
   obtain ⟨nu2,fi2,la2,q2,hs2,hi2,hq3,hq4⟩:=ihb n m q (by omega) (by omega) hq1 (by omega)
   have c1: ∀r:Int,0<=r->r<=((flat a++flat b++ [t]).length:Int)->chk (0<=r/\r<=((flat a++flat b++ [t]).length:Int))=some ():=fun r h1 h2=>ix ⟨h1,h2⟩
   have g0:aL [a,b] 0=some a:=rfl
   have g1:aL [a,b] 1=some b:=rfl
   rcases fF (show 0<=ar t by omega) with ⟨_,k⟩ | ⟨k,_⟩ | ⟨k,_⟩
   ·rcases k with k | k
    ·have g2:(t.1==2)=false:=by simp[k]
     have g3:(t.1==3)=false:=by simp[k]
     have g4:(t.1==4)=true:=by simp[k]
     have g5:(t.1==5)=false:=by simp[k]
     simp only[g2,g3,g4,g5,Bool.false_eq_true,if_false,if_true]
     rw[l2,p1,p2,ix (by grind)];simp only[aa]
     rw[ix (by grind),p3,p4,hs,g0,g1];simp only[aa]
     rw[hi,ix (by grind)];simp only[aa,kH]
     rw[hs2,hi2];simp only[aa,kH]
     rw[OS (by omega),EZ (by omega)];simp only[aa]
     refine ⟨nu&&nu2,if nu then orI fi fi2 else fi,if nu2 then orI la la2 else la2,(q2.1,q2.2.1,q2.2.2.1,lk q2.2.2.2.1 la fi2 q2.2.2.2.1.length,q2.2.2.2.2),?_,?_,?_,?_⟩
     ·cases nu <;> cases nu2 <;> rfl
     ·rw[NG la la2]
      cases nu <;> cases nu2 <;> rfl
     ·grind[wS]
     grind
    ·have g2:(t.1==2)=false:=by simp[k]
     have g3:(t.1==3)=false:=by simp[k]
     have g4:(t.1==4)=false:=by simp[k]
     have g5:(t.1==5)=true:=by simp[k]
     simp only[g2,g3,g4,g5,Bool.false_eq_true,if_false,if_true]
     rw[l2,p1,p2,ix (by grind)];simp only[aa]
     rw[ix (by grind),p3,p4,hs,g0,g1];simp only[aa]
     rw[hi,ix (by grind)];simp only[aa,kH]
     rw[hs2,hi2];simp only[aa,kH]
     refine ⟨nu || nu2,orI fi fi2,orI la la2,q2,?_,?_,hq3,?_⟩
     ·cases nu <;> simp
     ·cases nu <;> simp
     grind
   ·omega
   ·omega
def GI (e:List Tok):Nat->Nat
 | 0=>0
 | i+1=>if (nth e (i:Int)).1=3 then GI e i+1 else GI e i
theorem Dh (e:List Tok): ∀i,GI e i<=i
 | 0=>aF _
 | i+1=>by
  have:=Dh e i
  grind[GI]
theorem VB {r:List Tok×Bool} (hl:r.1.length<=1000000):ay (cX r) aS (0,0)=some (.brk ((GI r.1 r.1.length:Int),(r.1.length:Int))):=
 aQ (f:=cX r) (fun i=>((GI r.1 i:Int),(i:Int))) r.1.length (fun i hi=>by
  have:=Dh r.1 i
  unfold cX
  rw[if_pos (by grind),aD (by omega) (by omega)];rw[GI,af (show i<9223372036854775807 by omega),af (show GI r.1 i<9223372036854775807 by omega)]
  grind) (by unfold cX;simp) (fN (by omega))
theorem VC {r:List Tok×Bool} (hl:r.1.length<=1000000):ay (c7 r) aS (0,0)=some (.brk ((GI r.1 r.1.length:Int),(r.1.length:Int))):=
 aQ (f:=c7 r) (fun i=>((GI r.1 i:Int),(i:Int))) r.1.length (fun i hi=>by
  have:=Dh r.1 i
  unfold c7
  rw[if_pos (by grind),aD (by omega) (by omega)];rw[GI,af (show i<9223372036854775807 by omega),af (show GI r.1 i<9223372036854775807 by omega)]
  grind) (by unfold c7;simp) (fN (by omega))
theorem qX {e:List Tok} (he:e.length<=1048576): ∃r:B1×Bool,fI e=some r/\fK e=some r/\r.1.2.2.2.1.length=r.1.1.length/\r.1.1.length<=100000:=by
 have hF:=lV
 have ⟨e1,e2⟩:=C2 he
 unfold fI fK
 rw[e1,e2];simp only[aa]
 by_cases c:(Na e).2=true
 ·have ⟨y,wy,ey,ly⟩:=Q2 c
  rw[if_pos c,if_pos c,aj (VB (by grind)),aj (VC (by grind))]
  by_cases d:(GI (Na e).1 (Na e).1.length:Int)>20
  ·simp_all
  ·have d':=decide_eq_false d
   simp only[d',Bool.false_eq_true,if_false]
   rw[ey,sr (by omega),nt wy];simp only[aa]
   have ⟨nu,fi,la,q,hs,hi,hq1,hq2⟩:=NH wy cF cF ([],0,0,[],false) (by omega) (by omega) rfl (by grind)
   rw[hs,hi];simp[aa]
   grind
 simp_all
end D
namespace D
open Go.RowKit
theorem GJ (n:Nat) (l:List Int) (hd:l.Nodup) (h: ∀x∈l,0<=x/\x<n):l.length<=n:=by
 have:=hd.length_le_of_subset (l₂:=(List.range n).map Int.ofNat) (fun x hx=>by
  obtain ⟨h0,h1⟩:=h x hx
  exact List.mem_map.2 ⟨x.toNat,List.mem_range.2 (by omega),by show ((x.toNat:Nat):Int)=x;omega⟩)
 simpa using this
theorem TP {n:Nat} {x:Int} (hn:n<=1000000) (h0:0<=x) (h1:x<n):iOk x=true:=by
 have:=Kf (n:=x.toNat) (by omega)
 rwa [show ((x.toNat:Nat):Int)=x from by omega] at this
theorem TQ {κ:Type} [DecidableEq κ] {nx:κ->List (Option κ)} {first:κ} {G:κ->Prop} {B N:Nat} {acc:κ->Bool} (H:NumOk nx first G B) (hB:B<=1000000) (hN:bfE nx first N):Data.sm ((0,(bfS nx first N).map acc,bfR nx first N):AutT):=by
 have hl:=H.bound _ (jr (nx:=nx) (first:=first) N) (gP H.g0 H.gn N)
 refine ⟨trivial,⟨by rw[List.length_map];omega,fun _ _=>trivial⟩,?_,?_⟩
 ·rw[iT hN.2];have:=hN.1;omega
 ·have key: ∀i,i<=N-> ∀r∈bfR nx first i,r.length=9:=by
   intro i
   induction i with
   | zero=>intro _ r hr;cases hr
   | succ i ih =>
    intro hi r hr
    have hlt:=hN.2 i (by omega)
    rw[si hlt] at hr
    rcases aC hr with hr | hr
    ·exact ih (by omega) r hr
    ·obtain rfl:=ak hr
     rw[fD,H.len _ (gP H.g0 H.gn i _ (List.getElem_mem hlt))]
  intro r hr
  exact ⟨by rw[key N (aF _) r hr];decide,fun _ _=>trivial⟩
theorem GK:Data.sm nothing:=⟨trivial,⟨by decide,fun _ _=>trivial⟩,by decide,fun r hr=>by
 obtain rfl:=ak hr
 exact ⟨by decide,fun _ _=>trivial⟩⟩
end D
namespace D
open Go.RowKit
theorem GL {κ:Type} [DecidableEq κ] {l m:List κ} (h:l <+:m) {y:κ} (hy:y∈l):(m.idxOf y:Int)=l.idxOf y:=by
 obtain ⟨t,rfl⟩:=h
 grind
theorem OT {κ:Type} [DecidableEq κ] : ∀(l:List κ) (os:List (Option κ)) (i:Nat),i<os.length->nth (nbR l os) (i:Int)=nbI (nbS l os) (nth os (i:Int))
 | l,o::os,0,_=>by
  show nbI l o=nbI (nbS (nbL l o) os) o
  cases o with
  | none=>rfl
  | some y =>
   have hm:y∈nbL l (some y):=Jx.2 (.inr rfl)
   simp[nbI]
   rw[GL (gO _ os) hm]
   by_cases c:y∈l
   ·rw[iI c]
   simp_all[iJ,List.idxOf_append,if_neg,np]
 | l,o::os,i+1,h=>by
  have h':i<os.length:=by simpa using h
  have ih:=OT (nbL l o) os i h'
  have e1:nth (nbR l (o::os)) ((i+1:Nat):Int)=nth (nbR (nbL l o) os) (i:Int):=by
   rfl
  have e2:nth (o::os) ((i+1:Nat):Int)=nth os (i:Int):=by rfl
  exact ih
theorem mN {κ:Type} [DecidableEq κ] {l:List κ} {y:κ} (h:y∈l): ∃(q:Nat) (hq:q<l.length),nbI l (some y)=(q:Int)/\l[q] =y:=
 ⟨l.idxOf y,List.idxOf_lt_length_of_mem h,rfl,by simp⟩
theorem Aa {κ:Type} [DecidableEq κ] {l:List κ} {y:κ} (h:y∉l):nbI l (some y)=(l.length:Int):=by simp[nbI,np h]
def OU:List Int->Nat->Nat->Prop
 | [],c,m=>c=m
 | x::xs,c,m=>(x= -1/\OU xs c m)\/(0<=x/\x<c/\OU xs c m)\/(x=c/\OU xs (c+1) m)
theorem Ab {κ:Type} [DecidableEq κ] : ∀(os:List (Option κ)) (l:List κ),OU (nbR l os) l.length (nbS l os).length
 | [],l=>rfl
 | none::os,l=>.inl ⟨rfl,Ab os l⟩
 | some y::os,l=>by
  by_cases c:y∈l
  ·refine .inr (.inl ⟨Int.natCast_nonneg _,?_,?_⟩)
   ·grind[List.idxOf_lt_length_of_mem,nbI]
   ·show OU (nbR (nbL l (some y)) os) l.length (nbS (nbL l (some y)) os).length
    rw[iI c];exact Ab os l
  ·refine .inr (.inr ⟨by simp[nbI,np c],?_⟩)
   show OU (nbR (nbL l (some y)) os) (l.length+1) (nbS (nbL l (some y)) os).length
   have:=Ab os (l++ [y])
   grind[iJ]
def Uz:List Int->List (Option (List Int))->Prop
 | [],[] =>True
 | x::xs,o::os=>((x<0/\o=none)\/(0<=x/\ ∃t,o=some (x::t)))/\Uz xs os
 | _,_=>False
theorem Kk: ∀(xs:List Int) (os:List (Option (List Int))),xs.length=os.length->(∀i (h:i<xs.length) (h':i<os.length),(xs[i] < 0/\os[i] =none)\/(0<=xs[i] /\ ∃t,os[i] =some (xs[i] ::t)))->Uz xs os
 | [],[],_,_=>trivial
 | x::xs,o::os,hl,h=>⟨h 0 (by simp) (by simp),Kk xs os (by grind) fun i h1 h2=>h (i+1) (by grind) (by grind)⟩
theorem lW: ∀(xs:List Int) (os:List (Option (List Int))) (l:List (List Int)) (c m:Nat),Uz xs os->OU xs c m->(∀y∈l,∃h t,y=h::t/\h<c)->
  m+l.length<=(nbS l os).length+c/\(l.length=c->(∀(q:Nat) (hq:q<l.length),∃t,l[q] =(q:Int)::t)->(nbS l os).length=m->nbR l os=xs)
 | [],[],l,c,m,_,hn,_=>by
  subst hn
  exact ⟨by simp[nbS];omega,fun _ _ _=>rfl⟩
 | x::xs,o::os,l,c,m,hr,hn,hh=>by
  have ⟨hr1,hr2⟩:=hr
  rcases hn with ⟨rfl,hn⟩ | ⟨hx0,hxc,hn⟩ | ⟨rfl,hn⟩
  ·have ho:o=none:=by
    rcases hr1 with ⟨-,h⟩ | ⟨h,-⟩
    ·exact h
    ·omega
   subst ho
   have ⟨i1,i2⟩:=lW xs os l c m hr2 hn hh
   exact ⟨i1,fun h1 h2 h3=>by show -1::nbR l os=_;rw[i2 h1 h2 h3]⟩
  ·obtain ⟨t,rfl⟩: ∃t,o=some (x::t):=by
    grind
   by_cases k:(x::t)∈l
   ·have ⟨i1,i2⟩:=lW xs os l c m hr2 hn hh
    grind[nbL,iI,nbS,mN,nbI,nbR]
   ·have ⟨i1,i2⟩:=lW xs os (l++ [x::t]) c m hr2 hn (fun y hy=>by
     grind)
    grind[aw,List.length_singleton,nbS,nbL]
  ·obtain ⟨t,rfl⟩: ∃t,o=some ((c:Int)::t):=by
    grind
   have k:((c:Int)::t)∉l:=fun k=>by
    grind
   have hb:=iJ k
   have ⟨i1,i2⟩:=lW xs os (l++ [(c:Int)::t]) (c+1) m hr2 hn (fun y hy=>by
    grind)
   have hlen:(l++ [(c:Int)::t]).length=l.length+1:=by simp
   refine ⟨by grind[nbS,nbL],fun h1 h2 h3=>?_⟩
   have h3:(nbS (nbL l (some ((c:Int)::t))) os).length=m:=h3
   rw[hb] at h3
   have:=i2 (by omega) (fun q hq=>by
    by_cases e:q<l.length
    ·grind
    grind) h3
   grind[nbI,nbR,nbL,Aa]
theorem Kl (xs ys:List Int) (hN:xs.length<=1048576): ∃r,pb xs ys=some r/\(r=0↔xs=ys):=by
 unfold pb
 have h0:=S8 (f:=mb xs ys) xs ys (fun i h h'=>by
  simp[mb,eR h,eR h',if_true,aY h,aY h',aa,af (show i<9223372036854775807 by omega)]
  grind) (fun i hi=>by
  grind[mb]) xs.length 0 aS (by omega) (nm _ (by omega))
 rw[show (((0:Nat):Int))=(0:Int) from rfl] at h0
 rcases h0 with ⟨r,e,h1,h2⟩ | ⟨s,e,h1⟩
 ·exact ⟨r,by rw[e];rfl,by grind⟩
 ·simp[aO]
  by_cases c1:xs.length<ys.length
  ·exact ⟨-1,by grind,by grind⟩
  ·by_cases c2:xs.length>ys.length
   ·exact ⟨1,by grind,by grind⟩
   ·exact ⟨0,by grind,by grind⟩
theorem Km (xs ys:List Int) (hN:xs.length<=9223372036854775807):dI xs ys=some (decide (xs=ys)):=
 eqL (f:=bR xs ys) xs ys hN (fun i h h'=>by
  simp[bR,eR h,if_true,aY h,aY h',aa,af (show i<9223372036854775807 by omega)]
  grind) (by simp only[bR,eU];rfl)
def OV (a:AutT):List Int:=(List.range a.2.1.length).map fun s:Nat=>if nth (live a) (s:Int)=true then (if nth a.2.1 (s:Int)=true then 1 else 0) else -1
def ent (a:AutT) (c:List Int) (s:Int) (k:Nat):Int:=if mv a s k<0 then -1 else nth c (mv a s k)
def Ah (a:AutT) (c:List Int) (s:Int):List Int:=nth c s::(List.range 9).map fun k=>ent a c s k
def Ai (a:AutT) (c:List Int) (s:Nat):Option (List Int):=if nth c (s:Int)<0 then none else some (Ah a c s)
def keys (a:AutT) (c:List Int):List (Option (List Int)):=(List.range a.2.1.length).map (Ai a c)
def yt (a:AutT) (c:List Int):List Int:=nbR [] (keys a c)
def w5 (a:AutT) (c:List Int):Nat:=(nbS [] (keys a c)).length
def cI (a:AutT):Nat->List Int
 | 0=>OV a
 | j+1=>yt a (cI a j)
section
variable {a:AutT} {n:Nat}
theorem dE (a:AutT) (c:List Int):(keys a c).length=a.2.1.length:=by simp[keys]
theorem Di {c:List Int} {s:Nat} (h:s<a.2.1.length):nth (keys a c) (s:Int)=Ai a c s:=by
 grind[bB,keys]
theorem wT (a:AutT) (c:List Int):(yt a c).length=a.2.1.length:=by rw[yt,fD,dE]
theorem nw (a:AutT): ∀j,(cI a j).length=a.2.1.length
 | 0=>by simp[cI,OV]
 | j+1=>wT a _
theorem oh {κ:Type} [DecidableEq κ] : ∀(l:List κ) (os:List (Option κ)),(nbS l os).length<=l.length+os.length
 | l,[] =>by simp[nbS]
 | l,o::os=>by
  have h:=oh (nbL l o) os
  have:(nbL l o).length<=l.length+1:=by
   cases o with
   | none=>simp[nbL]
   | some x=>grind[nbL]
  grind[nbS,nbL,aH]
theorem Dj (a:AutT) (c:List Int):w5 a c<=a.2.1.length:=by
 grind[oh,keys,dE,w5]
theorem Ac {c:List Int} {s:Nat} (h:s<a.2.1.length):nth (yt a c) (s:Int)=nbI (nbS [] (keys a c)) (Ai a c s):=by
 grind[yt,OT,dE,Di]
theorem wU {c:List Int} {s:Nat} (h:s<a.2.1.length) (hc: ¬nth c (s:Int)<0):Ah a c s∈nbS [] (keys a c):=by
 refine pH.2 (.inr ?_)
 refine List.mem_map.2 ⟨s,List.mem_range.2 h,?_⟩
 unfold Ai;grind
theorem uW {c:List Int} {s:Nat} (h:s<a.2.1.length):(nth (yt a c) (s:Int)<0↔nth c (s:Int)<0)/\(nth (yt a c) (s:Int)<0->nth (yt a c) (s:Int)= -1):=by
 rw[Ac h]
 unfold Ai
 by_cases hc:nth c (s:Int)<0
 ·simp_all[if_pos,nbI]
 ·grind[mN,wU,absurd]
theorem Ry {c:List Int} {s:Nat} (h:s<a.2.1.length):nth (yt a c) (s:Int)<(a.2.1.length:Int):=by
 rw[Ac h]
 unfold Ai
 by_cases hc:nth c (s:Int)<0
 ·grind[nbI]
 ·obtain ⟨q,hq,e,-⟩:=mN (wU h hc)
  have:=Dj a c
  grind[w5]
theorem Kn {c:List Int} {s t:Nat} (hs:s<a.2.1.length) (ht:t<a.2.1.length) (h0:0<=nth (yt a c) (s:Int)) (h:nth (yt a c) (s:Int)=nth (yt a c) (t:Int)):Ah a c s=Ah a c t:=by
 have n1: ¬nth c (s:Int)<0:=fun k=>by have:=(uW hs).1.2 k;omega
 have n2: ¬nth c (t:Int)<0:=fun k=>by simp_all[uW]
 rw[Ac hs,Ac ht] at h
 unfold Ai at h
 have ⟨q,hq,e1,e2⟩:=mN (wU hs n1)
 have ⟨q',hq',e1',e2'⟩:=mN (wU ht n2)
 grind
theorem yu (a:AutT) {s:Nat} (h:s<a.2.1.length): ∀j,(nth (cI a j) (s:Int)<0↔nth (live a) (s:Int)=false)/\(nth (cI a j) (s:Int)<0->nth (cI a j) (s:Int)= -1)
 | 0=>by
  grind[nth,cI,live,OV,bB]
 | j+1=>by
  have ih:=yu a h j
  grind[uW,cI,trans]
theorem OW (a:AutT) {s t:Nat} (hs:s<a.2.1.length) (ht:t<a.2.1.length): ∀j,0<=nth (cI a j) (s:Int)->nth (cI a j) (s:Int)=nth (cI a j) (t:Int)->nth a.2.1 (s:Int)=nth a.2.1 (t:Int)
 | 0,h0,h=>by
  grind[nth,cI,live,OV,bB]
 | j+1,h0,h=>by
  have k:=Kn (c:=cI a j) hs ht h0 h
  have h1:nth (cI a j) (s:Int)=nth (cI a j) (t:Int):=by
   injection k
  refine OW a hs ht j ?_ h1
  have:=(uW (c:=cI a j) hs).1
  grind[nth,cI,yt]
theorem Rz (a:AutT) (j:Nat):OU (cI a (j+1)) 0 (w5 a (cI a j)):=Ab (keys a (cI a j)) []
theorem NI (a:AutT) {c:List Int} (hc:c.length=a.2.1.length):Uz c (keys a c):=by
 refine Kk _ _ (by rw[dE,hc]) fun i h h'=>?_
 have e1:=(bB h).symm
 have e2:(keys a c)[i] =Ai a c i:=by simp[keys]
 rw[e1,e2]
 unfold Ai
 by_cases k:nth c (i:Int)<0
 ·grind
 ·exact .inr ⟨by omega,_,by rw[if_neg k];rfl⟩
theorem Ko (a:AutT) (j:Nat):w5 a (cI a j)<=w5 a (cI a (j+1))/\(w5 a (cI a (j+1))=w5 a (cI a j)->cI a (j+2)=cI a (j+1)):=by
 have ⟨h1,h2⟩:=lW (cI a (j+1)) (keys a (cI a (j+1))) [] 0 (w5 a (cI a j)) (NI a (nw a _)) (Rz a j) (fun y hy=>by cases hy)
 exact ⟨by grind[w5],fun h=>h2 rfl (fun q hq=>absurd hq (Nat.not_lt_zero q)) h⟩
theorem TS {j k:Nat} (h:cI a (j+1)=cI a j) (hk:j<=k):cI a k=cI a j:=by
 induction hk with
 | refl=>rfl
 | step _ ih=>rw[cI,ih];exact h
theorem Kp {j k:Nat} (h:cI a (j+1)=cI a j) (h':cI a (k+1)=cI a k):cI a j=cI a k:=by
 grind[Nat.le_total,TS]
theorem RA (a:AutT): ∃j,j<=a.2.1.length/\cI a (j+1)=cI a j:=by
 by_cases h0:cI a 1=cI a 0
 ·grind
 have hpos:1<=w5 a (cI a 0):=by
  refine Nat.one_le_iff_ne_zero.2 fun hz=>h0 ?_
  have hnone: ∀s:Nat,s<a.2.1.length->nth (cI a 0) (s:Int)<0:=fun s hs=>by
   grind[wU,cI,List.length_pos_of_mem,w5]
  refine QX (by grind[nw]) fun i hi=>?_
  rw[nw] at hi
  have h1:=(yu a hi 0).2 (hnone i hi)
  have h2:=(yu a hi 1).2 (((yu a hi 1).1.trans (yu a hi 0).1.symm).2 (hnone i hi))
  omega
 have key: ∀m,(∃j,j<=m/\cI a (j+1)=cI a j)\/m+1<=w5 a (cI a m):=by
  intro m
  induction m with
  | zero=>omega
  | succ m ih =>
   grind[Ko]
 rcases key a.2.1.length with h | h
 ·exact h
 grind[Dj,cI]
end
end D
namespace D
open Go.RowKit
section
variable {a:AutT} {n:Nat} {c:List Int}
theorem E3 (k:Nat) (s:Int):(List.range (k+1)).map (fun k=>ent a c s k)=(List.range k).map (fun k=>ent a c s k)++ [ent a c s k]:=by simp[List.range_succ]
theorem VD (V:VA a n) (hn:n<=1000000) (hc:c.length=n) {s:Nat} (hs:s<n):mU a c s=some (Ah a c s):=by
 unfold mU
 rw[aD (by omega) (by omega)];simp only[aa]
 have:=aQ (f:=kU a c s) (fun k=>(nth c (s:Int)::(List.range k).map (fun k=>ent a c s k),(k:Int))) 9 (fun k hk=>by
  have hm:=V.mv (s:=s) (k:=k) (by omega) (by omega) hk
  unfold kU
  simp only
  rw[if_pos (by simp;omega),V.get (by omega) (by omega)];simp only[aa]
  rw[V.get2 (by omega) (by omega) hk,E3];simp only[aa,af (show k<9223372036854775807 by omega)]
  by_cases h:mv a s k<0
  ·rw[if_pos (by simpa using h),aI (by simp;omega),show ent a c s k= -1 from by unfold ent;rw[if_pos h]];rfl
  ·rw[if_neg (by simpa using h),aD (by omega) (by omega)];simp only[aa]
   rw[aI (by simp;omega),show ent a c s k=nth c (mv a s k) from by unfold ent;rw[if_neg h]];rfl) (by unfold kU;simp) (by unfold aS;omega)
 exact aj this
theorem VE (V:VA a n) (hn:n<=1000000) (hc:c.length=n) {s:Nat} (hs:s<n):ay (cr c (nth a.2.2 (s:Int))) aS (0,[nth c (s:Int)])=some (.brk (9,Ah a c s)):=by
 have hr:=V.rowAt (s:=s) (by omega) (by omega)
 exact aQ (f:=cr c (nth a.2.2 (s:Int))) (fun k=>((k:Int),nth c (s:Int)::(List.range k).map (fun k=>ent a c s k))) 9 (fun k hk=>by
  have hm:=V.mv (s:=s) (k:=k) (by omega) (by omega) hk
  unfold cr
  simp only
  rw[if_pos (by simp[hr];omega),V.get2 (by omega) (by omega) hk,E3];simp only[aa,af (show k<9223372036854775807 by omega)]
  by_cases h:mv a s k<0
  ·have e:mv a s k= -1:=by omega
   rw[if_neg (by simp;omega)];simp only[aa]
   rw[aI (by simp;omega),show ent a c s k=mv a s k from by unfold ent;rw[if_pos h,e]];rfl
  ·rw[if_pos (by simp;omega),aD (by omega) (by omega)];simp only[aa]
   rw[aI (by simp;omega),show ent a c s k=nth c (mv a s k) from by unfold ent;rw[if_neg h]];rfl) (by unfold cr;simp[hr]) (by unfold aS;omega)
theorem BT {κ:Type} [DecidableEq κ] {l t r:List κ} {x:κ} (e:l=t++x::r) (hx:x∉t):nbI l (some x)=(t.length:Int):=by
 subst e
 simp only[nbI]
 rw[List.idxOf_append,if_neg hx,List.idxOf_cons_self,Nat.zero_add]
def TU (l:List (List Int)) (x:List Int):Int:=if x∈l then nbI l (some x) else -1
theorem TV {l:List (List Int)} {x cs:List Int} {q:Int} (hl:l.length<=1000000) (hd:l.Nodup) (hx: ∀y∈l,y.length<=1048576):ay (eF (l,cs,q) x) aS (-1,0)=some (.brk (TU l x,(l.length:Int))):=by
 have:=aQ (f:=eF (l,cs,q) x) (fun k=>(if x∈l.take k then nbI l (some x) else -1,(k:Int))) l.length (fun k hk=>by
  unfold eF
  simp only
  rw[if_pos (by simp;omega),aD (by omega) (by omega)];simp only[aa,Int.toNat_natCast,af (show k<9223372036854775807 by omega)]
  obtain ⟨r,e,hr⟩:=Kl (nth l (k:Int)) x (hx _ (dD (by omega) (by omega)))
  rw[e,take_one hk];simp only[aa,List.mem_append,List.mem_singleton]
  by_cases h:nth l (k:Int)=x
  ·have h0:r=0:=hr.2 h
   have hm:x∈l:=h ▸ dD (by omega) (by omega)
   obtain ⟨q,hq,e1,e2⟩:=mN hm
   have:q=k:=by
    have h1:l[q]? =some x:=by rw[List.getElem?_eq_getElem hq,e2]
    have h2:l[k]? =some x:=by rw[List.getElem?_eq_getElem hk,<-bB hk,h]
    exact (List.getElem?_inj hq hd).1 (h1.trans h2.symm)
   subst this
   rw[if_pos (by simp[h0]),if_pos (.inr h.symm),e1];rfl
  ·have h0:r≠0:=fun e=>h (hr.1 e)
   have hn: ¬x=nth l (k:Int):=fun e=>h e.symm
   rw[if_neg (by simpa using h0)]
   simp[hn]) (by unfold eF;simp) (fN (by omega))
 rw[List.take_of_length_le (aF _)] at this
 exact this
theorem TW {l:List (List Int)} {x:List Int} {f:List Int->Option Bool} (hl:l.length<=1000000) (hf: ∀y∈l,f y=some (decide (y=x))):bw l f=some (TU l x):=by
 unfold bw
 obtain ⟨o,e,hq⟩:=cE (f:=bK l f) (fun k s=>s=(k:Int)/\x∉l.take k) (fun o=>(x∈l/\o= .ret (nbI l (some x)))\/(x∉l/\ ∃s,o= .brk s)) l.length (s:=0) (by
  rintro k s hk ⟨rfl,hx⟩
  unfold bK
  by_cases hkl:k<l.length
  ·rw[if_pos (by simp;omega),aD (by omega) (by omega)];simp only[aa]
   rw[hf _ (dD (by omega) (by omega))];simp only[aa]
   by_cases h:nth l (k:Int)=x
   ·refine .inr ⟨_,by rw[if_pos (by simpa using h)],(fun s' e=>by cases e),.inl ?_⟩
    have hm:x∈l:=h ▸ dD (by omega) (by omega)
    refine ⟨hm,?_⟩
    have e:l=l.take k++(x::l.drop (k+1)):=by
     rw[<-h,bB hkl,<-List.drop_eq_getElem_cons hkl,List.take_append_drop]
    rw[BT e hx,aA,Nat.min_eq_left (by omega)]
   ·refine .inl ⟨hkl,_,by rw[if_neg (by simpa using h)],by rw[af (by omega)],?_⟩
    rw[take_one hkl,List.mem_append,List.mem_singleton]
    rintro (h' | h')
    ·exact hx h'
    ·exact h h'.symm
  ·refine .inr ⟨_,by rw[if_neg (by simp;omega)],(fun s' e=>by cases e),.inr ⟨?_,_,rfl⟩⟩
   rwa [List.take_of_length_le (by omega)] at hx) ⟨rfl,by simp⟩ (fN (by omega))
 unfold TU
 rcases hq with ⟨hx,rfl⟩ | ⟨hx,s,rfl⟩
 ·rw[bu e,if_pos hx]
 ·rw[aj e,if_neg hx]
theorem wV {os:List (Option (List Int))} (h: ∀y,some y∈os->y.length=10): ∀y∈nbS [] os,y.length=10:=fun y hy=>by
 rcases pH.1 hy with hy | hy
 ·cases hy
 ·exact h y hy
theorem yw (a:AutT) (c:List Int): ∀y,some y∈keys a c->y.length=10:=by
 intro y hy
 obtain ⟨s,-,e⟩:=List.mem_map.1 hy
 unfold Ai at e
 split at e
 ·cases e
 ·rw[<-ae e];simp[Ah]
section
variable (V:VA a n) (hn:n<=1000000) (hc:c.length=n)
include V hn hc
theorem E4 (s:Nat):(nbS [] ((keys a c).take s)).length<=n:=by
 have:=oh ([] :List (List Int)) ((keys a c).take s)
 rw[aA,dE,V.len] at this
 simp at this;omega
theorem NJ {m:Int} :ay (eG a (c,m)) aS ([],[],0)=some (.brk (nbS [] (keys a c),yt a c,(n:Int))):=by
 have hlen:=V.len
 have:=aQ (f:=eG a (c,m)) (fun s=>(nbS [] ((keys a c).take s),nbR [] ((keys a c).take s),(s:Int))) n (fun s hs=>by
  have hkl:=E4 V hn hc s
  have hrl:(nbR [] ((keys a c).take s)).length<=n:=by rw[fD,aA,dE];omega
  unfold eG
  simp only
  rw[if_pos (by simp;omega),aD (by omega) (by omega)];simp only[aa]
  rw[take_one (by rw[dE];omega),n9,qa,Di (by omega)]
  simp only[af (show s<9223372036854775807 by omega)]
  by_cases h:nth c (s:Int)<0
  ·rw[if_pos (by simpa using h),aI (by simp;omega),show Ai a c s=none from by unfold Ai;rw[if_pos h]];rfl
  ·rw[if_neg (by simpa using h),show Ai a c s=some (Ah a c s) from by unfold Ai;rw[if_neg h]]
   rw[show mU (a.1,a.2.1,a.2.2) c (s:Int)=some (Ah a c s) from VD V hn hc hs];simp only[aa]
   rw[aj (TV (by omega) (lU (by simp)) (fun y hy=>by rw[wV (fun y hy=>yw a c y (List.mem_of_mem_take hy)) y hy];decide))]
   simp only
   unfold TU
   by_cases k:Ah a c s∈nbS [] ((keys a c).take s)
   ·obtain ⟨q,hq,e1,e2⟩:=mN k
    rw[if_pos k,iI k,e1,if_neg (by simp)];simp only[aa]
    rw[aI (by simp;omega)];rfl
   ·rw[if_neg k,iJ k,Aa k,if_pos (show decide ((-1:Int)<0)=true from rfl),aI (by simp;omega)];simp only[aa]
    rw[aI (by simp;omega)];rfl) (by
  unfold eG
  simp only
  rw[if_neg (by simp;omega)]) (fN (by omega))
 rw[show (keys a c).take n=keys a c from List.take_of_length_le (by rw[dE];omega)] at this
 exact this
theorem NK:dn a c=some (yt a c,(w5 a c:Int)):=by
 have hlen:=V.len
 unfold dn
 have:=aQ (f:=dt a c) (fun s=>(nbS [] ((keys a c).take s),nbR [] ((keys a c).take s),(s:Int))) n (fun s hs=>by
  have hkl:=E4 V hn hc s
  have hrl:(nbR [] ((keys a c).take s)).length<=n:=by rw[fD,aA,dE];omega
  unfold dt
  simp only
  rw[if_pos (by simp;omega),aD (by omega) (by omega)];simp only[aa]
  rw[take_one (by rw[dE];omega),n9,qa,Di (by omega)]
  simp only[af (show s<9223372036854775807 by omega)]
  by_cases h:nth c (s:Int)<0
  ·rw[if_pos (by simpa using h),aI (by simp;omega),show Ai a c s=none from by unfold Ai;rw[if_pos h]];rfl
  ·rw[if_neg (by simpa using h),show Ai a c s=some (Ah a c s) from by unfold Ai;rw[if_neg h],V.get (by omega) (by omega)];simp only[aa]
   rw[aj (VE V hn hc hs)];simp only
   rw[TW (x:=Ah a c s) (by omega) (fun y hy=>by
    unfold fE
    rw[Km _ _ (by rw[wV (fun y hy=>yw a c y (List.mem_of_mem_take hy)) y hy];decide)];rfl)];simp only[aa]
   unfold TU
   by_cases k:Ah a c s∈nbS [] ((keys a c).take s)
   ·obtain ⟨q,hq,e1,e2⟩:=mN k
    rw[if_pos k,iI k,e1,if_neg (by simp)];simp only[aa]
    rw[aI (by simp;omega)];rfl
   ·rw[if_neg k,iJ k,Aa k,if_pos (show decide ((-1:Int)<0)=true from rfl),aI (by simp;omega)];simp only[aa]
    rw[aI (by simp;omega)];rfl) (by
  unfold dt
  simp only
  rw[if_neg (by simp;omega)]) (fN (by omega))
 rw[show (keys a c).take n=keys a c from List.take_of_length_le (by rw[dE];omega)] at this
 exact aj this
end
end
section
variable {a:AutT} {n:Nat} (V:VA a n) (hn:n<=1000000)
include V hn
theorem BU (s:Nat):(List.range (s+1)).map (fun s:Nat=>if nth (live a) (s:Int)=true then (if nth a.2.1 (s:Int)=true then (1:Int) else 0) else -1)=(List.range s).map (fun s:Nat=>if nth (live a) (s:Int)=true then (if nth a.2.1 (s:Int)=true then 1 else 0) else -1)++ [if nth (live a) (s:Int)=true then (if nth a.2.1 (s:Int)=true then 1 else 0) else -1]:=by simp[List.range_succ]
theorem TX:ay (eE a (live a)) aS ([],0)=some (.brk (OV a,(n:Int))):=by
 have hlen:=V.len
 have hll:(live a).length=n:=by rw[qW,hlen]
 have:=aQ (f:=eE a (live a)) (fun s=>((List.range s).map (fun s:Nat=>if nth (live a) (s:Int)=true then (if nth a.2.1 (s:Int)=true then (1:Int) else 0) else -1),(s:Int))) n (fun s hs=>by
  unfold eE
  simp only
  rw[if_pos (by simp;omega),V.acc (by omega) (by omega)];simp only[aa]
  rw[BU V hn,aD (xs:=live a) (by omega) (by omega)];simp only[af (show s<9223372036854775807 by omega)]
  cases nth (live a) (s:Int) <;> cases nth a.2.1 (s:Int) <;> simp only[if_true,if_false,Bool.false_eq_true,aa] <;> rw[aI (by simp;omega)] <;> rfl) (by
  unfold eE
  simp only
  rw[if_neg (by simp;omega)]) (fN (by omega))
 unfold OV
 rw[hlen]
 exact this
theorem TY:ay (bT a (live a)) aS ([],0)=some (.brk (OV a,(n:Int))):=by
 have hlen:=V.len
 have hll:(live a).length=n:=by rw[qW,hlen]
 have:=aQ (f:=bT a (live a)) (fun s=>((List.range s).map (fun s:Nat=>if nth (live a) (s:Int)=true then (if nth a.2.1 (s:Int)=true then (1:Int) else 0) else -1),(s:Int))) n (fun s hs=>by
  unfold bT
  simp only
  rw[if_pos (by simp;omega),aD (xs:=live a) (by omega) (by omega)];simp only[aa]
  rw[BU V hn,V.acc (by omega) (by omega)];simp only[af (show s<9223372036854775807 by omega)]
  cases nth (live a) (s:Int) <;> cases nth a.2.1 (s:Int) <;> simp only[if_true,if_false,Bool.false_eq_true,aa] <;> rw[aI (by simp;omega)] <;> rfl) (by
  unfold bT
  simp only
  rw[if_neg (by simp;omega)]) (fN (by omega))
 unfold OV
 rw[hlen]
 exact this
theorem Kq: ∃J,cI a (J+1)=cI a J/\iq a=some (cI a J):=by
 have hlen:=V.len
 unfold iq
 rw[show jJ (a.1,a.2.1,a.2.2)=some (live a) from OP V hn];simp only[aa]
 rw[aj (TX V hn)]
 obtain ⟨J0,hJ0,hfix⟩:=RA a
 obtain ⟨o,e,j,rfl,hj⟩:=cE (f:=jK a) (fun j s=>s=(cI a j,(j:Int))/\j<=J0) (fun o=> ∃j,o= .ret (cI a j)/\cI a (j+1)=cI a j) (J0+1) (s:=(cI a 0,0)) (by
  rintro j s hj ⟨rfl,hjJ⟩
  have hcl:(cI a j).length=n:=by rw[nw,hlen]
  unfold jK
  simp only
  rw[if_pos (by simp;omega),aj (NJ V hn hcl)]
  simp only
  obtain ⟨r,er,hr⟩:=Kl (yt a (cI a j)) (cI a j) (by rw[wT];omega)
  rw[er];simp only[aa,af (show j<9223372036854775807 by omega)]
  by_cases h:yt a (cI a j)=cI a j
  ·exact .inr ⟨_,by rw[if_pos (by simpa using hr.2 h)],(fun s' e=>by cases e),j,rfl,h⟩
  ·refine .inl ⟨by omega,(cI a (j+1),((j+1:Nat):Int)),by rw[if_neg (by simpa using fun e=>h (hr.1 e))];rfl,rfl,?_⟩
   by_cases e:j=J0
   ·subst e;exact absurd hfix h
   ·omega) ⟨rfl,Nat.zero_le _⟩ (fN (by omega))
 exact ⟨j,hj,bu e⟩
theorem Kr: ∃J,cI a (J+1)=cI a J/\de a=some (cI a J):=by
 have hlen:=V.len
 unfold de
 rw[show dU (a.1,a.2.1,a.2.2)=some (live a) from TH V hn];simp only[aa]
 rw[aj (TY V hn)]
 let kk:Nat->Int:=fun j=>match j with | 0=> -1 | i+1=>(w5 a (cI a i):Int)
 obtain ⟨o,e,j,rfl,hj⟩:=cE (f:=eL a) (fun j s=>s=(cI a j,kk j)/\(j:Int)<=kk j+1) (fun o=> ∃j,o= .ret (cI a j)/\cI a (j+1)=cI a j) (n+2) (s:=(cI a 0,-1)) (by
  rintro j s hj ⟨rfl,hjk⟩
  have hcl:(cI a j).length=n:=by rw[nw,hlen]
  have hle:=Dj a (cI a j)
  unfold eL
  simp only
  rw[show dn (a.1,a.2.1,a.2.2) (cI a j)=some (yt a (cI a j),(w5 a (cI a j):Int)) from NK V hn hcl];simp only[aa]
  cases j with
  | zero =>
   refine .inl ⟨by omega,(cI a 1,kk 1),by rw[if_neg (by show¬((w5 a (cI a 0):Int) == -1)=true;simp)];rfl,rfl,?_⟩
   show (1:Int)<=(w5 a (cI a 0):Int)+1
   omega
  | succ i =>
   obtain ⟨g1,g2⟩:=Ko a i
   have hki:kk (i+1)=(w5 a (cI a i):Int):=rfl
   rw[hki] at hjk⊢
   by_cases h:w5 a (cI a (i+1))=w5 a (cI a i)
   ·refine .inr ⟨.ret (cI a (i+2)),by rw[if_pos (by simp[h])];rfl,(fun s' e=>by cases e),i+2,rfl,?_⟩
    have:=g2 h
    show yt a (cI a (i+2))=cI a (i+2)
    rw[this];exact this
   ·refine .inl ⟨?_,(cI a (i+2),kk (i+2)),by rw[if_neg (by simp;omega)];rfl,rfl,?_⟩
    ·omega
    ·show ((i+1+1:Nat):Int)<=(w5 a (cI a (i+1)):Int)+1
     omega) ⟨rfl,by show ((0:Nat):Int)<= -1+1;omega⟩ (fN (by omega))
 exact ⟨j,hj,bu e⟩
theorem GM: ∃c,iq a=some c/\de a=some c/\c.length=n/\yt a c=c/\ ∃j,c=cI a j:=by
 obtain ⟨J,hJ,es⟩:=Kq V hn
 obtain ⟨J',hJ',ei⟩:=Kr V hn
 have:=Kp hJ hJ'
 exact ⟨cI a J,es,by rw[this];exact ei,by rw[nw,V.len],hJ,J,rfl⟩
end
end D
namespace D
open Go.RowKit
section
variable {κ:Type} [DecidableEq κ] [Inhabited κ] {nx:κ->List (Option κ)} {first:κ} {G:κ->Prop} {B N:Nat} {acc:κ->Bool}
theorem wW: ∀(l:List κ) (os:List (Option κ)),∀t∈nbR l os,-1<=t/\t<((nbS l os).length:Int)
 | l,[] =>fun t ht=>by cases ht
 | l,o::os=>fun t ht=>by
  have hp:=gO (nbL l o) os
  have hl:=hp.length_le
  rcases ax ht with rfl | ht
  ·show -1<=nbI l o/\nbI l o<((nbS (nbL l o) os).length:Int)
   cases o with
   | none=>exact ⟨by simp[nbI],by simp only[nbI];omega⟩
   | some y =>
    by_cases c:y∈l
    ·obtain ⟨q,hq,e,-⟩:=mN c
     rw[iI c] at hl
     rw[e];exact ⟨by omega,by rw[iI c];omega⟩
    ·rw[iJ c] at hl
     rw[Aa c];rw[aw] at hl
     exact ⟨by omega,by rw[iJ c];simp at hl;omega⟩
  ·exact wW (nbL l o) os t ht
theorem T0 (H:NumOk nx first G B) (hN:bfE nx first N):VA ((0,(bfS nx first N).map acc,bfR nx first N):AutT) N:=by
 have h0:0<N:=by
  have:=BE (nx:=nx) (first:=first) N
  have:=(List.getElem?_eq_some_iff.1 this).1
  have:=hN.1;omega
 have key: ∀i,i<=N-> ∀r∈bfR nx first i,r.length=9/\ ∀t∈r,-1<=t/\t<(N:Int):=by
  intro i
  induction i with
  | zero=>intro _ r hr;cases hr
  | succ i ih =>
   intro hi r hr
   have hlt:=hN.2 i (by omega)
   rw[si hlt] at hr
   rcases aC hr with hr | hr
   ·exact ih (by omega) r hr
   ·obtain rfl:=ak hr
    refine ⟨by rw[fD,H.len _ (gP H.g0 H.gn i _ (List.getElem_mem hlt))],fun t ht=>?_⟩
    have:=wW _ _ t ht
    rw[<-zL hlt] at this
    have hl:=(nq (nx:=nx) (first:=first) hi).length_le
    have:=hN.1
    omega
 exact ⟨by show ((bfS nx first N).map acc).length=N;rw[List.length_map];exact hN.1.symm,⟨Int.le_refl _,by show (0:Int)<N;omega⟩,iT hN.2,fun r hr=>(key N (aF _) r hr).1,fun r hr=>(key N (aF _) r hr).2⟩
theorem RB (hlen: ∀x,(nx x).length=9) (hN:bfE nx first N):VA ((0,(bfS nx first N).map acc,bfR nx first N):AutT) N:=by
 have h0:0<N:=by
  have:=BE (nx:=nx) (first:=first) N
  have:=(List.getElem?_eq_some_iff.1 this).1
  have:=hN.1;omega
 have key: ∀i,i<=N-> ∀r∈bfR nx first i,r.length=9/\ ∀t∈r,-1<=t/\t<(N:Int):=by
  intro i
  induction i with
  | zero=>intro _ r hr;cases hr
  | succ i ih =>
   intro hi r hr
   have hlt:=hN.2 i (by omega)
   rw[si hlt] at hr
   rcases aC hr with hr | hr
   ·exact ih (by omega) r hr
   ·obtain rfl:=ak hr
    refine ⟨by rw[fD,hlen _],fun t ht=>?_⟩
    have:=wW _ _ t ht
    rw[<-zL hlt] at this
    have hl:=(nq (nx:=nx) (first:=first) hi).length_le
    have:=hN.1
    omega
 exact ⟨by show ((bfS nx first N).map acc).length=N;rw[List.length_map];exact hN.1.symm,⟨Int.le_refl _,by show (0:Int)<N;omega⟩,iT hN.2,fun r hr=>(key N (aF _) r hr).1,fun r hr=>(key N (aF _) r hr).2⟩
end
theorem VA.self {a:AutT} {n:Nat} (v:VA a n):VA a a.2.1.length:=by
 have e:=v.len
 subst e
 exact v
theorem GN:VA nothing 1:=⟨rfl,⟨by decide,by decide⟩,rfl,fun r hr=>by
 obtain rfl:=ak hr
 decide,fun r hr=>by
 obtain rfl:=ak hr
 decide⟩
end D
namespace D
open Go.RowKit
theorem RC {l:List Int} {x:Int} (hl:l.length<=1000000) (hx:x∈l):aT x l=some (nbI l (some x)):=by
 unfold aT dJ
 have ⟨o,e,hq⟩:=cE (f:=dj l x) (fun k s=>s=(k:Int)/\x∉l.take k) (fun o=>o= .ret (nbI l (some x))) l.length (s:=0) (by
  rintro k s hk ⟨rfl,hx'⟩
  unfold dj
  by_cases hkl:k<l.length
  ·rw[if_pos (by grind),aD (by omega) (by omega)];simp only[aa]
   by_cases h:nth l (k:Int)=x
   ·grind[bB,List.drop_eq_getElem_cons,List.take_append_drop,BT,aA,Nat.min_eq_left]
   ·refine .inl ⟨hkl,_,by rw[if_neg (by grind)],by grind[af],?_⟩
    rw[take_one hkl,List.mem_append,List.mem_singleton]
    rintro (h' | h')
    ·exact hx' h'
    ·exact h h'.symm
  grind) ⟨rfl,by simp⟩ (fN (by omega))
 grind[bu]
section
variable {a:AutT} {n:Nat}
def rep (c:List Int) (x:Int):Int:=nbI c (some x)
theorem Ks {c:List Int} {x:Int} (h:x∈c):0<=rep c x/\rep c x<c.length/\nth c (rep c x)=x:=by
 grind[mN,rep,bB]
def Wm (a:AutT) (n:Nat) (r:AutT):Prop:=(nth (live a) a.1=false/\r=nothing)\/(nth (live a) a.1=true/\ ∃(j:Nat) (c:List Int) (nx:Int->List (Option Int)) (ac:Int->Bool) (N:Nat),c=cI a j/\(∀r,good n (live a) r->nx (nth c r)=tE a c (live a) r)/\(∀r,good n (live a) r->ac (nth c r)=nth a.2.1 r)/\bfE nx (nth c a.1) N/\(∀x∈bfS nx (nth c a.1) N,(nx x).length=9)/\r=(0,(bfS nx (nth c a.1) N).map ac,bfR nx (nth c a.1) N))
theorem GO (V:VA a n) (hn:n<=1000000): ∃r,eH a=some r/\bM a=some r/\Data.sm r/\VA r r.2.1.length/\r.2.1.length<=n/\Wm a n r:=by
 have hlen:=V.len
 have hst:=V.start
 have hll:(live a).length=n:=by rw[qW,hlen]
 have ⟨c,es,ei,hcl,hfix,j,hj⟩:=GM V hn
 have hneg: ∀s:Int,0<=s->s<n->(nth c s<0↔nth (live a) s=false):=fun s h0 h1=>by
  have:=(yu a (s:=s.toNat) (by omega) j).1
  grind
 have hlt: ∀s:Int,0<=s->s<n->nth c s<n:=fun s h0 h1=>by
  have:=Ry (c:=c) (a:=a) (s:=s.toNat) (by omega)
  grind
 have hpos: ∀r,good n (live a) r->0<=nth c r:=fun r hr=>by
  have:=hneg r hr.1 hr.2.1
  by_cases k:nth c r<0
  ·have:=this.1 k;rw[hr.2.2] at this;grind
  ·omega
 have hkey: ∀r t:Int,0<=r->r<n->0<=t->t<n->0<=nth c r->nth c r=nth c t->Ah a c r=Ah a c t:=fun r t r0 r1 t0 t1 h0 h=>by
  have:=Kn (a:=a) (c:=c) (s:=r.toNat) (t:=t.toNat) (by omega) (by omega) (by grind) (by grind)
  grind
 have hacc: ∀r t:Int,0<=r->r<n->0<=t->t<n->0<=nth c r->nth c r=nth c t->nth a.2.1 r=nth a.2.1 t:=fun r t r0 r1 t0 t1 h0 h=>by
  have:=OW a (s:=r.toNat) (t:=t.toNat) (by omega) (by omega) j (by rw[<-hj,show ((r.toNat:Nat):Int)=r from by omega];exact h0) (by rw[<-hj,show ((r.toNat:Nat):Int)=r from by omega,show ((t.toNat:Nat):Int)=t from by omega];exact h)
  rwa [show ((r.toNat:Nat):Int)=r from by omega,show ((t.toNat:Nat):Int)=t from by omega] at this
 have hsuccs: ∀r,good n (live a) r->tE a c (live a) r=(List.range 9).map fun k=>if 0<=ent a c r k then some (ent a c r k) else none:=fun r hr=>by
  refine List.map_congr_left fun k hk=>?_
  have hk:=List.mem_range.1 hk
  have hm:=V.mv hr.1 hr.2.1 hk
  unfold ent
  by_cases h:mv a r k<0
  ·rw[if_pos h,if_neg (fun h'=>by omega),if_neg (by omega)]
  ·rw[if_neg h]
   have:=hneg (mv a r k) (by omega) hm.2
   cases hl:nth (live a) (mv a r k) with
   | false =>
    grind
   | true =>
    grind
 have hent: ∀r t:Int,Ah a c r=Ah a c t-> ∀k,k<9->ent a c r k=ent a c t k:=fun r t h k hk=>by
  have h:(List.range 9).map (fun k=>ent a c r k)=(List.range 9).map (fun k=>ent a c t k):=by unfold Ah at h;injection h
  simp_all
 let nx:=fun x=>tE a c (live a) (rep c x)
 let acc:=fun x=>nth a.2.1 (rep c x)
 let G:=fun x=> ∃r,good n (live a) r/\nth c r=x
 have Gm: ∀x,G x->x∈c/\0<=x/\good n (live a) (rep c x):=by
  rintro x ⟨r,hr,rfl⟩
  have hm:=dD hr.1 (by rw[hcl];exact hr.2.1)
  have ⟨h0,h1,h2⟩:=Ks hm
  have hp:=hpos r hr
  refine ⟨hm,hp,h0,by omega,?_⟩
  have:=hneg (rep c (nth c r)) h0 (by omega)
  rw[h2] at this
  cases hl:nth (live a) (rep c (nth c r)) with
  | true=>rfl
  | false=>grind
 have hnx: ∀r,good n (live a) r->nx (nth c r)=tE a c (live a) r:=fun r hr=>by
  have ⟨hm,hp,hg⟩:=Gm _ ⟨r,hr,rfl⟩
  have ⟨h0,h1,h2⟩:=Ks hm
  show tE a c (live a) (rep c (nth c r))=_
  rw[hsuccs _ hg,hsuccs _ hr]
  refine List.map_congr_left fun k hk=>?_
  rw[hent _ _ (hkey _ _ hg.1 hg.2.1 hr.1 hr.2.1 (by omega) h2) k (List.mem_range.1 hk)]
 have hac: ∀r,good n (live a) r->acc (nth c r)=nth a.2.1 r:=fun r hr=>by
  have ⟨hm,hp,hg⟩:=Gm _ ⟨r,hr,rfl⟩
  have ⟨h0,h1,h2⟩:=Ks hm
  exact hacc _ _ hg.1 hg.2.1 hr.1 hr.2.1 (by omega) h2
 have hgn: ∀r,good n (live a) r-> ∀y,some y∈tE a c (live a) r->G y:=fun r hr y h=>by
  have ⟨k,hk,e⟩:=List.mem_map.1 h
  have hk:k<9:=List.mem_range.1 hk
  split at e
  ·rename_i hc
   exact ⟨mv a r k,⟨hc.1,(V.mv hr.1 hr.2.1 hk).2,hc.2⟩,ae e⟩
  grind
 unfold eH bM
 simp only[kH]
 rw[es,ei,OP V hn];simp only[aa]
 rw[aD hst.1 (by omega)];simp only[aa]
 cases hs:nth (live a) a.1 with
 | false =>
  have:=(hneg a.1 hst.1 hst.2).2 hs
  rw[Dg V hll hs,if_pos (by grind),Ke]
  exact ⟨nothing,rfl,rfl,GK,GN,V.pos,.inl ⟨hs,rfl⟩⟩
 | true =>
  have hst':good n (live a) a.1:=⟨hst.1,hst.2,hs⟩
  have hp:=hpos _ hst'
  have H:NumOk nx (nth c a.1) G n:=⟨⟨a.1,hst',rfl⟩,fun x hx y hy=>hgn _ (Gm x hx).2.2 y hy,fun x hx=>by simp[nx,tE],fun l hd h=>GJ n l hd fun x hx=>by
   obtain ⟨r,hr,rfl⟩:=h x hx
   exact ⟨hpos r hr,hlt r hr.1 hr.2.1⟩⟩
  have ⟨N,hN,e1⟩:=TK (acc:=acc) V hn hcl hll hs H hn hnx hac
  have hfirst: ∀x,G x->aT x c=some (rep c x):=fun x hx=>RC (by omega) (Gm x hx).1
  have ⟨N',hN',e2⟩:=TJ (most:=(c.length:Int)) (p2:=fun a0=>bU a0 (a.1,a.2.1,a.2.2) (fun a0=>aT a0 c)) (p3:=fun a0 a1=>bV a0 a1 (a.1,a.2.1,a.2.2) (fun a0=>aT a0 c) c) (acc:=acc) H hn (by omega) (fun x hx=>TP hn (Gm x hx).2.1 (by
    obtain ⟨r,hr,rfl⟩:=hx
    exact hlt r hr.1 hr.2.1)) (fun x hx=>by
   show bU x (a.1,a.2.1,a.2.2) (fun a0=>aT a0 c)=_
   unfold bU
   simp only
   rw[hfirst x hx];simp only[aa]
   rw[V.acc (Gm x hx).2.2.1 (Gm x hx).2.2.2.1];rfl) (fun x k hx hk=>by
   have ⟨hm,hx0,hg⟩:=Gm x hx
   have hm':=V.mv hg.1 hg.2.1 hk
   refine ⟨0,?_⟩
   show bV x k (a.1,a.2.1,a.2.2) (fun a0=>aT a0 c) c=_
   unfold bV
   simp only
   rw[hfirst x hx];simp[aa]
   rw[show bq (a.1,a.2.1,a.2.2) (rep c x) k=some (mv a (rep c x) k) from OH V hg.1 hg.2.1 hk];simp[aa]
   show _=some (match nth (tE a c (live a) (rep c x)) (k:Int) with | some y=>(y,true) | none=>(0,false))
   rw[EX hk]
   by_cases h:mv a (rep c x) k<0
   ·rw[if_pos (by simpa using h),if_neg (fun h'=>by omega)]
   ·rw[if_neg (by simpa using h),aD (by omega) (by omega)];simp[aa]
    have hng:=hneg (mv a (rep c x) k) (by omega) hm'.2
    cases hl:nth (live a) (mv a (rep c x) k) with
    | false =>
     have:=hng.2 hl
     rw[if_pos (by simpa using this),if_neg (fun h'=>by cases h'.2)]
    | true =>
     have: ¬nth c (mv a (rep c x) k)<0:=fun h'=>by have:=hng.1 h';rw[hl] at this;cases this
     rw[if_neg (by simpa using this),if_pos ⟨by omega,rfl⟩])
  cases Er hN hN'
  have v:=T0 (acc:=acc) H hN
  refine ⟨_,by rw[e1];rfl,?_,TQ H hn hN,v.self,?_,.inr ⟨hs,j,c,nx,acc,N,hj,hnx,hac,hN,fun x _=>by simp[nx,tE],rfl⟩⟩
  rotate_left
  ·rw[v.len,hN.1];exact H.bound _ (jr N) (gP H.g0 H.gn N)
  simp_all
theorem GP (V:VA a n) (hn:n<=1000000): ∃r,eH a=some r/\bM a=some r/\Data.sm r/\VA r r.2.1.length/\r.2.1.length<=n:=by
 grind[GO]
theorem NL (V:VA a n) (hn:n<=1000000): ∃r,eH a=some r/\bM a=some r/\Data.sm r:=by
 grind[GP]
end
end D
namespace D
open Go.RowKit
theorem Kt {κ:Type} [DecidableEq κ] {nx:κ->List (Option κ)} {first:κ} {acc:κ->Bool} {most:Nat} : ∀(f i:Nat),(∀j,j<i->j<(bfS nx first j).length)->(bfS nx first i).length<=most->goM nx first acc most f i=((0,[],[]),false)\/ ∃N,bfE nx first N/\N<=most/\goM nx first acc most f i=((0,(bfS nx first N).map acc,bfR nx first N),true)
 | 0,i,_,_=>.inl rfl
 | f+1,i,h,hl=>by
  have hle:=Kj h
  rw[goM]
  by_cases c:i<(bfS nx first i).length
  ·rw[if_pos c]
   by_cases d:(bfS nx first (i+1)).length>most
   ·rw[if_pos d];exact .inl rfl
   ·rw[if_neg d]
    exact Kt f (i+1) (fun j hj=>by
     by_cases e:j=i
     ·subst e;exact c
     ·exact h j (by omega)) (by omega)
  ·rw[if_neg c]
   exact .inr ⟨i,⟨by omega,h⟩,by omega,by rw[List.take_of_length_le (by omega)]⟩
end D
namespace D
open Go.RowKit
theorem Ad:Data.sm ((0,[],[]):AutT):=⟨trivial,⟨by decide,fun _ h=>by cases h⟩,by decide,fun _ h=>by cases h⟩
theorem uk {e:List Tok} (he:e.length<=1048576): ∃r:AutT×Bool,fY e=some r/\gj e=some r/\Data.sm r.1:=by
 obtain ⟨⟨p,b⟩,e1,e2,h1,h2⟩:=qX he
 have h1:p.2.2.2.1.length=p.1.length:=h1
 have h2:p.1.length<=100000:=h2
 unfold fY gj
 rw[e1,e2];simp only[aa,kH]
 cases b with
 | false=>exact ⟨((0,[],[]),false),rfl,rfl,Ad⟩
 | true =>
  have d1:=Vz (p:=p) (most:=200) h1 (by omega) (by omega) (by omega)
  have d2:=Vy (p:=p) (most:=200) h1 (by omega) (by omega) (by omega)
  have d1:il p 200=_:=d1
  have d2:gf p 200=_:=d2
  rw[d1,d2];simp only[if_true,aa]
  rcases Kt (nx:=nxS p) (first:=1) (acc:=sB p) (most:=200) (200+2) 0 (fun j hj=>by omega) (by simp[bfS]) with e | ⟨N,hN,hNm,e⟩
  ·rw[e]
   exact ⟨((0,[],[]),false),rfl,rfl,Ad⟩
  ·rw[e];simp only[if_true]
   have V:=RB (acc:=sB p) (zZ p) hN
   obtain ⟨r,es,ei,hr⟩:=NL V (by omega)
   unfold vY
   rw[es];simp only[aa,kH]
   rw[ei];simp only[aa,kH]
   by_cases c:(r.2.1.length:Int)>12
   ·have c':decide ((r.2.1.length:Int)>12)=true:=decide_eq_true c
    simp only[c',if_true,aa]
    exact ⟨((0,[],[]),false),rfl,rfl,Ad⟩
   ·have c':decide ((r.2.1.length:Int)>12)=false:=decide_eq_false c
    simp only[c',Bool.false_eq_true,if_false,aa]
    exact ⟨(r,true),rfl,rfl,hr⟩
end D
open Go.ChangeShapes Go.WideShapes Go.ChangeAt Go.RowKit
theorem own:ownKnob Tryz.prog.godebug=none:=by kernel_rfl
theorem laidOut:laidOutB Tryz.prog=true:=by kernel_rfl
theorem sC {H:Type} {enc:TypeId×Value->H} {P:Program} (hl:laidOutB P=true) {W W':World} (hb:Below W.heap.size W W') :
  ∀ {ts:List TypeId} {vs:List Value} {ds:List (DataW H)} {ps:List MemPlace},(∀t∈ts,P.readableRec t=true/\t<P.types.size)->
   DataW.TrodAll enc P W 0 (fun _=>true) true ts vs ds ps->(∀x∈ps,x.block<W.heap.size)->DataW.TrodAll enc P W' 0 (fun b=>decide (b<W.heap.size)) true ts vs ds ps
 | [],[],[],ps,_,h,_=>h
 | t::ts,v::vs,d::ds,ps,hr,⟨p,q,h1,h2,h3⟩,hlt=>by
  subst h3
  exact ⟨p,q,Below.trod hl (hr t (by simp)).1 (hr t (by simp)).2 h1 hb fun x hx=>hlt x (by simp[hx]),sC hl hb (fun t ht=>hr t (by simp[ht])) h2 fun x hx=>hlt x (by simp[hx]),rfl⟩
 | [],_::_,_,_,_,h,_=>h.elim
 | [],[],_::_,_,_,h,_=>h.elim
 | _::_,[],_,_,_,h,_=>h.elim
 | _::_,_::_,[],_,_,h,_=>h.elim
theorem NM {H:Type} {enc:TypeId×Value->H} {f:Func} {s:ChangeSpec} {W W':World} {args:Array Value} {ds:List (DataW H)} {before:List MemPlace} (tb:TypeId)
  (hb:Tryz.prog.underlying tb=some .bool) (hr:f.resultTypes= #[tb]) (hp:(f.params.toList.all fun t=>Tryz.prog.readableRec t&&decide (t<Tryz.prog.types.size))=true) (hv:s.vars= [])
  (hW:DataW.Whole enc Tryz.prog f.params.toList s.vars false W args.toList ds [] before) (hres:(s.fn H (ds++ [])).results= [.lit (.bool true)]) (hargs:(s.fn H (ds++ [])).args=ds) (hvars:(s.fn H (ds++ [])).vars= [])
  (hbel:Below W.heap.size W W'):s.post enc Tryz.prog f false true false false W args (.bool true) W':=by
 obtain ⟨p,q,h1,h2,h3,h4,h5⟩:=hW
 have hW':DataW.Whole enc Tryz.prog f.params.toList s.vars false W args.toList ds [] before:=⟨p,q,h1,h2,h3,h4,h5⟩
 have hq:q= []:=by rw[hv] at h2;exact h2
 subst hq
 simp only[List.append_nil] at h3
 subst h3
 refine ⟨ds,[],before,[],before,[],hW',?_,?_,?_,hbel.frame _,fun h=>by cases h⟩
 ·rw[hres,hr]
  exact trodAll_mk1 (shut_bool hb true)
 ·rw[hargs]
  exact sC laidOut hbel (fun t ht=>by have:=List.all_eq_true.1 hp t ht;simpa using this) h1 fun x hx=>by simpa using hW'.lt x hx
 ·rw[hvars,hv];rfl
namespace D
open Go.RowKit
end D
namespace D
open Go.RowKit
end D
namespace D
open Go.RowKit
end D
namespace D
open Go.RowKit
end D
namespace D
open Go.RowKit
end D
namespace D
open Go.RowKit
section
variable {nx:Int×Int->List (Option (Int×Int))} {first:Int×Int} {G:Int×Int->Prop} {B:Nat}
end
end D
namespace D
open Go.RowKit
theorem Ku {a:AutT} {n:Nat} (V:VA a n) {s:Int} (h0:0<=s) (h1:s<n):bs a s=some (nth a.2.1 s):=by
 unfold bs
 rw[if_pos (by simpa using h0),V.acc h0 h1];rfl
theorem Ae {a:AutT} {s:Int} (h0:s<0):bs a s=some false:=by
 unfold bs;rw[if_neg (by simp;omega)]
end D
namespace D
open Go.RowKit
section
variable {a b:AutT} {n m:Nat}
def mvn (a:AutT) (s:Int) (k:Nat):Int:=if s<0 then -1 else mv a s k
def acn (a:AutT) (s:Int):Bool:=if s<0 then false else nth a.2.1 s
theorem OX (V:VA a n) {s:Int} {k:Nat} (h0: -1<=s) (h1:s<n) (hk:k<9): -1<=mvn a s k/\mvn a s k<n:=by
 unfold mvn
 split
 ·have:=V.pos;omega
 ·exact V.mv (by omega) h1 hk
theorem T1 (V:VA a n) {s:Int} {k:Nat} (h0: -1<=s) (h1:s<n) (hk:k<9):bq a s (k:Int)=some (mvn a s k):=by
 unfold mvn
 split
 ·exact Gx ‹_›
 ·exact OH V (by omega) h1 hk
theorem T2 (V:VA a n) {s:Int} {k:Nat} (h0: -1<=s) (h1:s<n) (hk:k<9):lH a s (k:Int)=some (mvn a s k):=by
 unfold mvn lH
 by_cases c:s<0
 ·rw[if_pos (by simpa using c),if_pos c]
 ·rw[if_neg (by simpa using c),if_neg c,V.get (by omega) h1];simp only[aa]
  rw[V.get2 (by omega) h1 hk];rfl
theorem T3 (V:VA a n) {s:Int} (h0: -1<=s) (h1:s<n):bs a s=some (acn a s):=by
 unfold acn
 split
 ·exact Ae ‹_›
 ·exact Ku V (by omega) h1
theorem T4 (V:VA a n) {s:Int} (h0: -1<=s) (h1:s<n):jh a s=some (acn a s):=by
 unfold acn jh
 by_cases c:s<0
 ·rw[if_neg (by simp;omega),if_pos c]
 ·rw[if_pos (by simp;omega),if_neg c,V.acc (by omega) h1];rfl
def nxP (a b:AutT) (x:Int×Int):List (Option (Int×Int)):=(List.range 9).map fun k=>some (mvn a x.1 k,mvn b x.2 k)
def inP (n m:Nat) (x:Int×Int):Prop:=(-1<=x.1/\x.1<n)/\ -1<=x.2/\x.2<m
theorem OY {x:Int×Int} {k:Nat} (hk:k<9):nth (nxP a b x) (k:Int)=some (mvn a x.1 k,mvn b x.2 k):=by
 have:k<(nxP a b x).length:=by simp[nxP];omega
 rw[bB this];simp[nxP]
theorem Dk (n m:Nat) (l:List (Int×Int)) (hd:l.Nodup) (h: ∀x∈l,inP n m x):l.length<=(n+1)*(m+1):=by
 have:=hd.length_le_of_subset (l₂:=(List.range (n+1)).flatMap fun i:Nat=>(List.range (m+1)).map fun j:Nat=>((i:Int) - 1,(j:Int) - 1)) (fun x hx=>by
  obtain ⟨⟨h0,h1⟩,h2,h3⟩:=h x hx
  refine List.mem_flatMap.2 ⟨(x.1+1).toNat,List.mem_range.2 (by omega),List.mem_map.2 ⟨(x.2+1).toNat,List.mem_range.2 (by omega),?_⟩⟩
  exact Prod.ext (by show (((x.1+1).toNat:Nat):Int) - 1=x.1;omega) (by show (((x.2+1).toNat:Nat):Int) - 1=x.2;omega))
 have e:((List.range (n+1)).flatMap fun i:Nat=>(List.range (m+1)).map fun j:Nat=>((i:Int) - 1,(j:Int) - 1)).length=(n+1)*(m+1):=by
  rw[List.length_flatMap]
  simp only[List.length_map,List.length_range]
  rw[List.map_const',List.sum_replicate_nat,List.length_range]
 omega
theorem pK (Va:VA a n) (Vb:VA b m) (hn:n<=12) (hm:m<=12):NumOk (nxP a b) (a.1,b.1) (inP n m) 169 where
 g0:=⟨⟨by have:=Va.start.1;show -1<=a.1;omega,Va.start.2⟩,by have:=Vb.start.1;show -1<=b.1;omega,Vb.start.2⟩
 gn x hx y hy:=by
  obtain ⟨k,hk,e⟩:=List.mem_map.1 hy
  have hk:k<9:=List.mem_range.1 hk
  obtain rfl:=ae e
  exact ⟨OX Va hx.1.1 hx.1.2 hk,OX Vb hx.2.1 hx.2.2 hk⟩
 len x _:=by simp[nxP]
 bound l hd h:=by
  have h1:=Dk n m l hd h
  have:(n+1)*(m+1)<=13*13:=Nat.mul_le_mul (by omega) (by omega)
  omega
end
end D
namespace D
open Go.RowKit
theorem cpw {l:List Int} (h:l.length<=1000000):eV l=some l:=by
 unfold eV
 rw[aI (by simp;omega)];rfl
section
variable {κ:Type} [DecidableEq κ]
def SeenOf (M:List (κ×Bool)) (l:List (κ)):Prop:=M.length=l.length/\ ∀x,M.lookup x=if x∈l then some true else none
theorem SeenOf.one (x:κ):SeenOf [(x,true)] [x]:=by
 refine ⟨rfl,fun y=>?_⟩
 rw[List.lookup_cons]
 by_cases e:y=x
 ·subst e;simp
 ·simp only[show (y==x)=false from by simp[e]];simp[e]
theorem SeenOf.put {M:List (κ×Bool)} {l:List (κ)} (h:SeenOf M l) {x:κ} (hx:x∉l):SeenOf ((x,true)::M) (l++ [x]):=by
 refine ⟨by simp[h.1],fun y=>?_⟩
 rw[List.lookup_cons]
 by_cases e:y=x
 ·subst e;simp
 ·simp only[show (y==x)=false from by simp[e],h.2 y,List.mem_append,List.mem_singleton,e,or_false]
end
section
variable {nx:Int×Int->List (Option (Int×Int))} {first:Int×Int} {G:Int×Int->Prop} {B:Nat} {p1:Int×Int->Int->Option (Int×Int)} {p2:Int×Int->Option Bool} {tt:Int×Int->Bool}
theorem GQ {l:List (Int×Int)} {Q:List ((Int×Int)×List Int)} {M:List ((Int×Int)×Bool)} {os:List (Option (Int×Int))} {i:Nat} {x4:(Int×Int)×List Int}
  (hi:i<=l.length) (hos:os.length=9) (hM:SeenOf M l) (hQ:Q.map (·.1)=l.drop i) (hw: ∀q∈Q,q.2.length<=i) (hx:x4.2.length<=i) (hok: ∀y,some y∈os->B8 y=true) (hB: ∀k,(nbS l (os.take k)).length<=1000)
  (hp: ∀(k:Nat),k<9-> ∃y,p1 x4.1 (k:Int)=some y/\nth os (k:Int)=some y) :
  ∃Q' M',ay (ct p1 x4) aS (Q,0,M)=some (.brk (Q',9,M'))/\SeenOf M' (nbS l os)/\Q'.map (·.1)=(nbS l os).drop i/\ ∀q∈Q',q.2.length<=i+1:=by
 obtain ⟨s',e,Q',M',rfl,hM',hQ',hw'⟩:=be (f:=ct p1 x4) (fun k s=> ∃Q' M',s=(Q',(k:Int),M')/\SeenOf M' (nbS l (os.take k))/\Q'.map (·.1)=(nbS l (os.take k)).drop i/\ ∀q∈Q',q.2.length<=i+1) 9 (by
  rintro k s hk ⟨Q1,M1,rfl,hM1,hQ1,hw1⟩
  have hpre:=gO l (os.take k)
  have hlen:=hpre.length_le
  have hBk:=hB k
  have hB0:=hB 0
  obtain ⟨y,hy,ho⟩:=hp k hk
  have hoky:B8 y=true:=hok y (ho ▸ dD (by omega) (by omega))
  have hQl:Q1.length<=1000:=by
   have:=congrArg List.length hQ1
   simp at this;omega
  unfold ct
  simp only[kH]
  rw[if_pos (by simp;omega),hy,take_one (by omega),n9];simp only[aa]
  rw[show chk (B8 y=true)=some () from by unfold chk;rw[if_pos hoky]];simp only[aa,af (show k<9223372036854775807 by omega)]
  rw[show lkM M1 y=_ from hM1.2 y,ho]
  by_cases c:y∈nbS l (os.take k)
  ·simp only[c,if_true,Option.getD_some,aa]
   refine ⟨_,rfl,Q1,M1,rfl,?_,?_,hw1⟩
   ·rw[iI c];exact hM1
   ·rw[iI c];exact hQ1
  ·have hput:BX M1 B8 bOk y true=some ((y,true)::M1):=by
    unfold BX
    rw[if_pos ⟨by have:=hM1.1;omega,hoky,rfl⟩]
   have hl9:l.length<=1000:=by omega
   simp only[c,if_false,Option.getD_none,Bool.false_eq_true,hput,aa]
   rw[cpw (by omega)];simp only[aa]
   rw[aI (by simp;omega)];simp only[aa]
   rw[aI (by simp;omega)];simp only[aa]
   refine ⟨_,rfl,_,_,rfl,?_,?_,?_⟩
   ·rw[iJ c];exact hM1.put c
   ·rw[iJ c,aM,hQ1,List.drop_append_of_le_length (by omega)];rfl
   ·intro q hq
    rcases aC hq with h | h
    ·exact hw1 q h
    ·obtain rfl:=ak h
     simp;omega) (by
  rintro s ⟨Q1,M1,rfl,-⟩
  unfold ct
  simp) (s:=(Q,0,M)) ⟨Q,M,rfl,hM,hQ,fun q hq=>by have:=hw q hq;omega⟩ (by unfold aS;omega)
 rw[List.take_of_length_le (by omega)] at hM' hQ'
 exact ⟨Q',M',e,hM',hQ',hw'⟩
theorem RD (H:NumOk nx first G B) (hB:B<=1000) (hok: ∀x,G x->B8 x=true) (h2: ∀x,G x->p2 x=some (tt x)) (h1: ∀x (k:Nat),G x->k<9-> ∃y,p1 x (k:Int)=some y/\nth (nx x) (k:Int)=some y) :
  ∃N w,bfE nx first N/\cB first p1 p2=some (w,(bfS nx first N).any tt):=by
 obtain ⟨N,hNB,hN⟩:=Ep (nx:=nx) (first:=first) (H.le)
 refine ⟨N,?_⟩
 unfold cB
 simp only[kH]
 rw[show BX ([] :List ((Int×Int)×Bool)) B8 bOk first true=some [(first,true)] from by unfold BX;rw[if_pos ⟨by simp,hok _ H.g0,rfl⟩]];simp only[aa]
 obtain ⟨o,e,ho⟩:=cE (f:=fe p1 p2) (fun i s=> ∃Q M,s=(Q,M)/\SeenOf M (bfS nx first i)/\Q.map (·.1)=(bfS nx first i).drop i/\(∀q∈Q,q.2.length<=i)/\((bfS nx first i).take i).any tt=false)
  (fun o=>(∃w,o= .ret (w,true)/\(bfS nx first N).any tt=true)\/ ∃s,o= .brk s/\(bfS nx first N).any tt=false) N (s:=([(first,([] :List Int))],[(first,true)])) (by
  rintro i s hi ⟨Q,M,rfl,hM,hQ,hw,ha⟩
  unfold fe
  simp only[kH]
  have hl:=congrArg List.length hQ
  simp only[List.length_map,bc] at hl
  by_cases hiN:i<N
  ·have hlt:=hN.2 i hiN
   have hle:=H.le i
   have hG:=H.at hlt
   cases Q with
   | nil=>simp at hl;omega
   | cons q Q =>
    have hq1:q.1=nth (bfS nx first i) (i:Int):=by
     have:(q.1::Q.map (·.1))=(bfS nx first i).drop i:=hQ
     rw[List.drop_eq_getElem_cons hlt] at this
     rw[bB hlt];exact (List.cons.inj this).1
    rw[if_pos (by simp <;> omega),show aL (q::Q) 0=some q from rfl];simp only[aa]
    rw[h2 _ (hq1 ▸ hG)];simp only[aa]
    cases ht:tt q.1 with
    | true =>
     refine .inr ⟨_,by rw[if_pos rfl,cpw (by have:=hw q (by simp);omega)];rfl,(fun s' e=>by cases e),.inl ⟨_,rfl,?_⟩⟩
     refine List.any_eq_true.2 ⟨q.1,?_,ht⟩
     exact (nq (nx:=nx) (first:=first) (by omega:i<=N)).subset (hq1 ▸ dD (by omega) (by omega))
    | false =>
     left
     refine ⟨hiN,?_⟩
     obtain ⟨Q',M',e,hM',hQ',hw'⟩:=GQ (p1:=p1) (l:=bfS nx first i) (Q:=q::Q) (M:=M) (os:=nx (nth (bfS nx first i) (i:Int))) (i:=i) (x4:=q) (by omega) (H.len _ hG) hM hQ hw (hw q (by simp)) (fun y hy=>hok y (H.gn _ hG y hy)) (fun k=>by
      have:(nbS (bfS nx first i) ((nx (nth (bfS nx first i) (i:Int))).take k)).length<=B:=H.bound _ (lU (jr i)) fun x hx=>by
       rcases pH.1 hx with hx | hx
       ·exact gP H.g0 H.gn i x hx
       ·exact H.gn _ hG x (List.mem_of_mem_take hx)
      omega) (fun k hk=>by rw[hq1];exact h1 _ k hG hk)
     rw[<-gq hlt] at hM' hQ'
     have hp:=bf (nx:=nx) (first:=first) i
     have hpl:=hp.length_le
     have hl':=congrArg List.length hQ'
     simp only[List.length_map,bc] at hl'
     simp only[Bool.false_eq_true,if_false]
     rw[aj e]
     simp only
     rw[show chk ((0:Int)<=1/\(1:Int)<=(Q'.length:Int))=some () from by unfold chk;rw[if_pos ⟨by omega,by omega⟩]]
     refine ⟨_,rfl,_,_,rfl,hM',?_,?_,?_⟩
     ·rw[List.map_drop,hQ',List.drop_drop]
     ·exact fun z hz=>hw' z (List.mem_of_mem_drop hz)
     ·have e:=qb (nx:=nx) (first:=first) (acc:=tt) hlt
      have f: ∀l:List (Int×Int),l.any tt=(l.map tt).any id:=fun l=>by simp[List.any_map]
      rw[f,e,List.any_append,<-f,ha,<-hq1];simp[ht]
  ·obtain rfl:i=N:=by omega
   cases Q with
   | nil =>
    refine .inr ⟨_,by rw[if_neg (by simp)],(fun s' e=>by cases e),.inr ⟨_,rfl,?_⟩⟩
    rw[List.take_of_length_le (by have:=hN.1;omega)] at ha;exact ha
   | cons q Q=>have:=hN.1;simp at hl;omega) ⟨_,_,rfl,SeenOf.one first,rfl,by simp,rfl⟩ (fN (by omega))
 rcases ho with ⟨w,rfl,h⟩ | ⟨s,rfl,h⟩
 ·exact ⟨w,hN,by rw[bu e,h]⟩
 ·exact ⟨[],hN,by rw[aj e,h]⟩
end
end D
namespace D
open Go.RowKit
abbrev EntT:=Int×Int×Bool×Int×Int
def pr (z:EntT):Int×Int:=(z.1,z.2.1)
structure Ent (l:List EntT) (L:List (Int×Int)):Prop where
 map:l.map pr=L
 flat: ∀z∈l,z.2.2.1=false
 back: ∀j:Nat,0<j->j<l.length->0<=(nth l (j:Int)).2.2.2.1/\(nth l (j:Int)).2.2.2.1<j
theorem Ent.len {l:List EntT} {L:List (Int×Int)} (h:Ent l L):l.length=L.length:=by rw[<-h.map];simp
theorem Ent.at {l:List EntT} {L:List (Int×Int)} (h:Ent l L) {i:Nat} (hi:i<l.length):(nth l (i:Int)).1=(nth L (i:Int)).1/\(nth l (i:Int)).2.1=(nth L (i:Int)).2:=by
 rw[<-h.map,QW (by omega) (by omega)];exact ⟨rfl,rfl⟩
theorem Ent.snoc {l:List EntT} {L:List (Int×Int)} (h:Ent l L) {x y:Int} {i:Nat} (hi:i<l.length) (k:Int):Ent (l++ [(x,y,false,(i:Int),k)]) (L++ [(x,y)]) where
 map:=by rw[aM,h.map];rfl
 flat z hz:=by
  rcases aC hz with hz | hz
  ·exact h.flat z hz
  ·obtain rfl:=ak hz;rfl
 back j h0 hj:=by
  by_cases c:j<l.length
  ·rw[gp (by omega) (by omega)];exact h.back j h0 c
  ·have:j=l.length:=by simp at hj;omega
   subst this
   have:nth (l++ [(x,y,false,(i:Int),k)]) (l.length:Int)=(x,y,false,(i:Int),k):=by rw[bB (by simp)];simp
   rw[this];exact ⟨by show (0:Int)<=(i:Int);omega,by show (i:Int)<(l.length:Int);omega⟩
theorem NN {l:List EntT} {L:List (Int×Int)} (h:Ent l L) (hl:l.length<=1000000) (x y f k:Int):pZ l (x,y,false,f,k)=some (decide ((x,y)∈L)):=by
 unfold pZ
 have:=scan (f:=kV l (x,y,false,f,k)) l (fun z=> ¬pr z=(x,y)) true (by omega) (by
  intro i hi
  have hf:=h.flat _ (dD (i:=(i:Int)) (by omega) (by omega))
  unfold kV
  rw[if_pos (by simp;omega),aD (by omega) (by omega)];simp only[aa,af (show i<9223372036854775807 by omega),hf]
  by_cases c1:(nth l (i:Int)).1=x
  ·by_cases c2:(nth l (i:Int)).2.1=y
   ·rw[if_pos (by simpa using c1),if_pos (by simpa using c2),if_pos (by rfl),if_neg (fun hc=>hc (Prod.ext c1 c2))]
   ·rw[if_pos (by simpa using c1),if_neg (by simpa using c2),if_pos (fun e=>c2 (congrArg Prod.snd e))]
  ·rw[if_neg (by simpa using c1),if_pos (fun e=>c1 (congrArg Prod.fst e))]) (by
  unfold kV
  rw[if_neg (by simp)])
 rcases this with ⟨e,hp⟩ | ⟨e,hp⟩
 ·rw[aj e,decide_eq_false]
  rintro hm
  rw[<-h.map] at hm
  obtain ⟨z,hz,e⟩:=List.mem_map.1 hm
  exact hp z hz e
 ·rw[bu e,decide_eq_true]
  by_cases c:(x,y)∈L
  ·exact c
  ·refine absurd (fun z hz e=>c ?_) hp
   rw[<-h.map,<-e];exact List.mem_map.2 ⟨z,hz,rfl⟩
theorem Kv {l:List EntT} {L:List (Int×Int)} (h:Ent l L) (hl:l.length<=1000000) {i:Nat} (hi:i<l.length): ∃w,nI l (i:Int)=some w:=by
 unfold nI
 obtain ⟨o,e,s,rfl⟩:=cE (f:=mK l) (fun n s=>0<=s.1/\s.1+n<=i/\s.2.length<=n) (fun o=> ∃s,o= .brk s) i (s:=((i:Int),[])) (by
  rintro n ⟨j,w⟩ hn ⟨h0,h1,h2⟩
  simp only at h0 h1 h2
  unfold mK
  simp only
  by_cases c:j>0
  ·have hb:=h.back j.toNat (by omega) (by omega)
   rw[Int.toNat_of_nonneg h0] at hb
   left
   refine ⟨by omega,?_⟩
   rw[if_pos (by simpa using c),aD (by omega) (by omega)];simp only[aa]
   rw[aI (by simp;omega)];simp only[aa]
   refine ⟨_,rfl,hb.1,?_,?_⟩
   ·show (nth l j).2.2.2.1+((n+1:Nat):Int)<=i;omega
   ·simp;omega
  ·exact .inr ⟨_,by rw[if_neg (by simpa using c)],(fun s' e=>by cases e),_,rfl⟩) ⟨by show (0:Int)<=(i:Int);omega,by show (i:Int)+((0:Nat):Int)<=(i:Int);omega,by simp⟩ (fN (by omega))
 exact ⟨_,aj e⟩
section
variable {a b:AutT} {n m:Nat}
def uC (a b:AutT) (x:Int×Int):Bool:=acn b x.2 && !acn a x.1
theorem Dl (Va:VA a n) (Vb:VA b m) (hn:n<=12) (hm:m<=12) {l:List EntT} {L:List (Int×Int)} {i:Nat} (hE:Ent l L) (hd:L.Nodup) (hG: ∀x∈L,inP n m x) (hi:i<L.length) :
  ∃l',ay (fq a b (l,(i:Int))) aS (l,0)=some (.brk (l',9))/\Ent l' (nbS L (nxP a b (nth L (i:Int)))):=by
 have hx:=hG _ (dD (i:=(i:Int)) (by omega) (by omega))
 have hos:(nxP a b (nth L (i:Int))).length=9:=by simp[nxP]
 have H:=pK Va Vb hn hm
 have hB: ∀k,(nbS L ((nxP a b (nth L (i:Int))).take k)).length<=169:=fun k=>H.bound _ (lU hd) fun x hx'=>by
  rcases pH.1 hx' with h | h
  ·exact hG x h
  ·exact H.gn _ hx x (List.mem_of_mem_take h)
 obtain ⟨s',e,l',rfl,hE'⟩:=be (f:=fq a b (l,(i:Int))) (fun k s=> ∃l',s=(l',(k:Int))/\Ent l' (nbS L ((nxP a b (nth L (i:Int))).take k))) 9 (by
  rintro k s hk ⟨l1,rfl,hE1⟩
  have hpre:=gO L ((nxP a b (nth L (i:Int))).take k)
  have hlen:=hpre.length_le
  have hBk:=hB k
  have hl1:=hE1.len
  obtain ⟨g1,g2⟩:=hE1.at (i:=i) (by omega)
  rw[gQ hpre (by omega) (by omega)] at g1 g2
  unfold fq
  simp only[kH]
  rw[if_pos (by simp;omega),aD (by omega) (by omega)];simp only[aa]
  rw[g1,g2,T2 Va hx.1.1 hx.1.2 hk];simp only[aa]
  rw[T2 Vb hx.2.1 hx.2.2 hk];simp only[aa]
  rw[NN hE1 (by omega)];simp only[aa,af (show k<9223372036854775807 by omega)]
  rw[take_one (by omega),n9,OY hk]
  by_cases c:(mvn a (nth L (i:Int)).1 k,mvn b (nth L (i:Int)).2 k)∈nbS L ((nxP a b (nth L (i:Int))).take k)
  ·rw[if_pos (by simpa using c),iI c]
   exact ⟨_,rfl,l1,rfl,hE1⟩
  ·rw[if_neg (by simpa using c),iJ c,aI (by simp;omega)]
   exact ⟨_,rfl,_,rfl,hE1.snoc (by omega) _⟩) (by
  rintro s ⟨l1,rfl,-⟩
  unfold fq
  simp) (s:=(l,0)) ⟨l,rfl,hE⟩ (by unfold aS;omega)
 rw[List.take_of_length_le (by omega)] at hE'
 exact ⟨l',e,hE'⟩
theorem yx (Va:VA a n) (Vb:VA b m) (hn:n<=12) (hm:m<=12) {x:Int×Int} (hx:inP n m x):NumOk (nxP a b) x (inP n m) 169 where
 g0:=hx
 gn:=(pK Va Vb hn hm).gn
 len:=(pK Va Vb hn hm).len
 bound:=(pK Va Vb hn hm).bound
theorem NO (Va:VA a n) (Vb:VA b m) (hn:n<=12) (hm:m<=12) {s0 t0:Int} (h0:inP n m (s0,t0)): ∃N w,bfE (nxP a b) (s0,t0) N/\gH a s0 b t0 true=some (w,(bfS (nxP a b) (s0,t0) N).any (uC a b)):=by
 have H:=yx Va Vb hn hm h0
 obtain ⟨N,hNB,hN⟩:=Ep (nx:=nxP a b) (first:=(s0,t0)) (H.le)
 refine ⟨N,?_⟩
 unfold gH
 obtain ⟨o,e,ho⟩:=cE (f:=kA a b true) (fun i s=> ∃l,s=(l,(i:Int))/\Ent l (bfS (nxP a b) (s0,t0) i)/\((bfS (nxP a b) (s0,t0) i).take i).any (uC a b)=false)
  (fun o=>(∃w,o= .ret (w,true)/\(bfS (nxP a b) (s0,t0) N).any (uC a b)=true)\/ ∃s,o= .brk s/\(bfS (nxP a b) (s0,t0) N).any (uC a b)=false) N (s:=([(s0,t0,false,0,0)],0)) (by
  rintro i s hi ⟨l,rfl,hE,ha⟩
  have hl:=hE.len
  have hle:=H.le i
  unfold kA
  simp only[kH]
  by_cases hiN:i<N
  ·have hlt:=hN.2 i hiN
   have hG:=H.at hlt
   obtain ⟨g1,g2⟩:=hE.at (i:=i) (by omega)
   rw[if_pos (by simp;omega),aD (by omega) (by omega)];simp only[aa]
   rw[g1,g2,T4 Va hG.1.1 hG.1.2];simp only[aa]
   rw[T4 Vb hG.2.1 hG.2.2];simp only[aa]
   have hb: ∀r50 r49:Bool,(if r50 then (if r49 then (if r49 then (if r50 then some false else some (!true)) else some false) else some true) else (if r49 then (if r50 then some false else some (!true)) else some false):Option Bool)=some (r50 && !r49):=by decide
   rw[hb];simp only[aa]
   have hlp:(acn b (nth (bfS (nxP a b) (s0,t0) i) (i:Int)).2 && !acn a (nth (bfS (nxP a b) (s0,t0) i) (i:Int)).1)=uC a b (nth (bfS (nxP a b) (s0,t0) i) (i:Int)):=rfl
   rw[hlp]
   cases ht:uC a b (nth (bfS (nxP a b) (s0,t0) i) (i:Int)) with
   | true =>
    obtain ⟨w,hw⟩:=Kv hE (by omega) (i:=i) (by omega)
    refine .inr ⟨_,by rw[if_pos rfl,hw];rfl,(fun s' e=>by cases e),.inl ⟨_,rfl,?_⟩⟩
    refine List.any_eq_true.2 ⟨_,?_,ht⟩
    exact (nq (nx:=nxP a b) (first:=(s0,t0)) (by omega:i<=N)).subset (dD (by omega) (by omega))
   | false =>
    left
    refine ⟨hiN,?_⟩
    obtain ⟨l',e,hE'⟩:=Dl Va Vb hn hm hE (jr i) (gP H.g0 H.gn i) hlt
    rw[if_neg (by simp),aj e]
    rw[<-gq hlt] at hE'
    simp only[af (show i<9223372036854775807 by omega)]
    refine ⟨_,rfl,l',rfl,hE',?_⟩
    have e:=qb (nx:=nxP a b) (first:=(s0,t0)) (acc:=uC a b) hlt
    have f: ∀l:List (Int×Int),l.any (uC a b)=(l.map (uC a b)).any id:=fun l=>by simp[List.any_map]
    rw[f,e,List.any_append,<-f,ha];simp[ht]
  ·obtain rfl:i=N:=by omega
   have hN1:=hN.1
   refine .inr ⟨_,by rw[if_neg (by simp;omega)],(fun s' e=>by cases e),.inr ⟨_,rfl,?_⟩⟩
   rw[List.take_of_length_le (by omega)] at ha;exact ha) ⟨_,rfl,⟨rfl,by simp,by intro j h0 h1;simp at h1;omega⟩,rfl⟩ (fN (by omega))
 rcases ho with ⟨w,rfl,h⟩ | ⟨s,rfl,h⟩
 ·exact ⟨w,hN,by rw[bu e,h]⟩
 ·exact ⟨[],hN,by rw[aj e,h]⟩
theorem RE {x:Int×Int} (hn:n<=12) (hm:m<=12) (h:inP n m x):B8 x=true:=by
 obtain ⟨⟨h0,h1⟩,h2,h3⟩:=h
 have e1:i64.min= -9223372036854775808:=by decide
 have e2:i64.max=9223372036854775807:=by decide
 simp only[B8,Lit.wf,e1,e2,ah,decide_eq_true_eq]
 omega
theorem RF (Va:VA a n) (Vb:VA b m) (hn:n<=12) (hm:m<=12) {s0 t0:Int} (h0:inP n m (s0,t0)) {p1:Int×Int->Int->Option (Int×Int)} {p2:Int×Int->Option Bool}
  (h1: ∀x (k:Nat),inP n m x->k<9->p1 x (k:Int)=some (mvn a x.1 k,mvn b x.2 k)) (h2: ∀x,inP n m x->p2 x=some (uC a b x)) :
  ∃w w' r,gH a s0 b t0 true=some (w,r)/\cB (s0,t0) p1 p2=some (w',r):=by
 have H:=yx Va Vb hn hm h0
 obtain ⟨N,w,hN,e⟩:=NO Va Vb hn hm h0
 obtain ⟨N',w',hN',e'⟩:=RD (p1:=p1) (p2:=p2) (tt:=uC a b) H (by omega) (fun x hx=>RE hn hm hx) h2 (fun x k hx hk=>⟨_,h1 x k hx hk,OY hk⟩)
 obtain rfl:=Er hN hN'
 exact ⟨w,w',_,e,e'⟩
theorem Dm (Va:VA a n) (Vb:VA b m) {x:Int×Int} {k:Nat} (hx:inP n m x) (hk:k<9):iw x (k:Int) a b=some (mvn a x.1 k,mvn b x.2 k):=by
 unfold iw
 simp only[kH]
 rw[T1 Va hx.1.1 hx.1.2 hk];simp only[aa]
 rw[T1 Vb hx.2.1 hx.2.2 hk];rfl
theorem BV (Va:VA a n) (Vb:VA b m) (hn:n<=12) (hm:m<=12): ∃w w' r,gH a a.1 b b.1 true=some (w,r) /\
  cB (a.1,b.1) (fun u6 u7=>iw u6 u7 a b) (fun u8=>gL u8 b a)=some (w',r):=
 RF Va Vb hn hm (pK Va Vb hn hm).g0 (fun x k hx hk=>Dm Va Vb hx hk) fun x hx=>by
  unfold gL uC
  simp only[kH]
  rw[T3 Vb hx.2.1 hx.2.2];simp only[aa]
  rw[T3 Va hx.1.1 hx.1.2];simp only[aa]
  cases acn b x.2 <;> rfl
end
end D
namespace D
open Go.RowKit
theorem wX (a:AutT) (hs:Data.sm a): ∃b,bz a=some b/\bA a=some b/\(b=true->a.2.1.length<=12/\VA a a.2.1.length):=by
 obtain ⟨-,⟨ha,-⟩,hn,hr⟩:=hs
 obtain ⟨b1,e1,k1⟩:=Rq a (by omega) (by omega)
 obtain ⟨b2,e2,k2⟩:=Rr a (by omega) (by omega) (fun r h=>by have:r.length<=1048576:=(hr r h).1;omega)
 have:b2=b1:=by
  cases h1:b1 <;> cases h2:b2
  ·rfl
  ·have:=k1.2 (k2.1 h2);rw[h1] at this;cases this
  ·have:=k2.2 (k1.1 h1);rw[h2] at this;cases this
  ·rfl
 subst this
 exact ⟨b2,e1,e2,k1.1⟩
theorem Kw (a b:AutT) (ha:Data.sm a) (hb:Data.sm b): ∃r,dk a b=some r/\dq a b=some r:=by
 obtain ⟨va,e1,e2,ka⟩:=wX a ha
 obtain ⟨vb,e3,e4,kb⟩:=wX b hb
 unfold dk dq lI lL
 simp only[kH]
 rw[e1,e2,e3,e4];simp only[aa]
 cases va with
 | false=>exact ⟨false,rfl,rfl⟩
 | true =>
  cases vb with
  | false=>exact ⟨false,rfl,rfl⟩
  | true =>
   obtain ⟨hn,Va⟩:=ka rfl
   obtain ⟨hm,Vb⟩:=kb rfl
   obtain ⟨w,w',r,es,ei⟩:=BV Va Vb hn hm
   simp only[if_true]
   rw[es,ei]
   exact ⟨!r,rfl,rfl⟩
end D
namespace D
open Go.RowKit
theorem Kx {x:Tr Tok} (h:WT x): ∀t∈flat x,0<=ar t:=by
 refine WT.ind (p:=fun x=> ∀t∈flat x,0<=ar t) ?_ ?_ ?_ h
 ·intro t e s hs
  rw[tp] at hs
  obtain rfl:=ak hs
  omega
 ·intro t a e wa ih s hs
  rw[sk] at hs
  rcases aC hs with hs | hs
  ·exact ih s hs
  ·obtain rfl:=ak hs
   omega
 ·intro t a b e wa wb iha ihb s hs
  rw[oc] at hs
  rcases aC hs with hs | hs
  ·rcases aC hs with hs | hs
   ·exact iha s hs
   ·exact ihb s hs
  ·obtain rfl:=ak hs
   omega
def isLt (x:Tr Tok) (c:Int):Bool:=(flat x).any fun t=>decide (t.1=3)&&decide (t.2.1=c)
theorem E5 {x:Tr Tok} {c:Int} :isLt x c=true↔ ∃t∈flat x,t.1=3/\t.2.1=c:=by
 unfold isLt
 simp[List.any_eq_true]
theorem alpha {x:Tr Tok} (h:WT x) (hx:(flat x).length<=24):kg (flat x)=some (lets.filter (isLt x)):=by
 have he:(flat x).length<=1048576:=by omega
 have har:=Kx h
 obtain ⟨s,e,h1,M,h2,h3,h4⟩:=be (f:=jd (flat x)) (fun i s=>s.2=(i:Int)/\ ∃M:Nat,s.1=(M:Int)/\M<2 ^ 9/\ ∀j,M.testBit j=true↔ ∃t∈(flat x).take i,t.1=3/\t.2.1=(j:Int)) (flat x).length (fun i s hi hI=>by
  obtain ⟨m,k⟩:=s
  obtain ⟨h1,M,h2,h3,h4⟩:=hI
  have h1:k=(i:Int):=h1
  have h2:m=(M:Int):=h2
  subst h1
  subst h2
  unfold jd
  simp only
  rw[eR hi,if_pos rfl,Eu he,so h];simp only[aa,if_true]
  rw[aY hi];simp only[aa]
  have ht:=har _ (List.getElem_mem hi)
  by_cases c:(flat x)[i].1=3
  ·obtain ⟨c0,c8⟩:=J7 ht c
   obtain ⟨j,hj⟩: ∃j:Nat,(flat x)[i].2.1=(j:Int):=⟨(flat x)[i].2.1.toNat,by omega⟩
   rw[if_pos (by simp[c]),hj,ix (by omega)];simp only[aa]
   have hM62:M<2 ^ 62:=aG h3 (by decide)
   have hj62:2 ^ j<2 ^ 62:=Nat.pow_lt_pow_right (by decide) (by omega)
   rw[Rb (by omega),To hM62 hj62,af (by omega)]
   refine ⟨_,rfl,rfl,M ||| 2 ^ j,rfl,Nat.or_lt_two_pow h3 (Nat.pow_lt_pow_right (by decide) (by omega)),fun q=>?_⟩
   rw[xm,Bool.or_eq_true,h4,decide_eq_true_eq,List.take_succ_eq_append_getElem hi]
   constructor
   ·rintro (⟨t,q1,q2⟩ | rfl)
    ·exact ⟨t,aR _ q1,q2⟩
    ·exact ⟨_,aU _ (List.mem_singleton.2 rfl),c,hj⟩
   ·rintro ⟨t,q1,q2,q3⟩
    rcases aC q1 with q1 | q1
    ·exact .inl ⟨t,q1,q2,q3⟩
    ·rw[ak q1] at q3
     exact .inr (by omega)
  ·rw[if_neg (by simpa using c)];simp only[aa]
   rw[af (by omega)]
   refine ⟨_,rfl,rfl,M,rfl,h3,fun q=>?_⟩
   rw[h4,List.take_succ_eq_append_getElem hi]
   constructor
   ·rintro ⟨t,q1,q2⟩;exact ⟨t,aR _ q1,q2⟩
   ·rintro ⟨t,q1,q2,q3⟩
    rcases aC q1 with q1 | q1
    ·exact ⟨t,q1,q2,q3⟩
    ·rw[ak q1] at q2
     exact absurd q2 c) (fun s hI=>by
  obtain ⟨m,k⟩:=s
  have h1:k=((flat x).length:Int):=hI.1
  subst h1
  unfold jd
  simp only
  rw[eU];rfl) (s:=(0,0)) ⟨rfl,0,rfl,by decide,fun j=>by simp⟩ (fN (by omega))
 unfold kg
 rw[aj e,h2,Vm (aG h3 (by decide))];simp only[aa]
 rw[GF h3 (by decide)]
 unfold wO lets
 rw[List.filter_map]
 congr 2
 refine List.filter_congr fun j _=>?_
 rw[Bool.eq_iff_iff,h4,List.take_length]
 exact E5.symm
theorem Ky {x:Tr Tok} (h:WT x) (hx:(flat x).length<=24) {L:Nat} (hL:L<=3):gz (flat x) (L:Int)=some ((List.range (L+1)).flatMap fun j=>(wds lets j).filter (mB x)):=by
 have hal:=alpha h hx
 rw[Ts h hx hL (Nat.le_trans (List.length_filter_le _ _) (by decide)) hal (fun c hc=>(uU.1 (List.mem_filter.1 hc).1).1)]
 rw[List.flatMap_def,List.flatMap_def]
 congr 2
 refine List.map_congr_left fun j hj=>?_
 have hj4:=List.mem_range.1 hj
 rw[yr (p:=isLt x) rfl j,List.filter_filter]
 refine List.filter_congr fun w hw=>?_
 obtain ⟨w1,w2⟩:=BM lets j w hw
 by_cases c:mB x w=true
 ·rw[c,Bool.true_and,List.all_eq_true]
  obtain ⟨-,-,m3⟩:=Re h hx (w:=w) (by omega) (fun k hk=>(uU.1 (w2 k hk)).1)
  intro k hk
  have hk0:=(uU.1 (w2 k hk)).1
  obtain ⟨t,t1,t2,t3⟩:=Td h _ (m3.1 c) k.toNat (List.mem_map.2 ⟨k,hk,rfl⟩)
  rw[E5]
  have:=(J7 (Kx h t t1) t2).1
  exact ⟨t,t1,t2,by omega⟩
 ·rw[Bool.not_eq_true] at c
  rw[c,Bool.false_and]
def um (w:List Int):Bool:=match gA w,jj w with
 | some g,some k=>decide (g=k)&&(!g.2 || ((match aZ g.1 with
  | some b=>b
  | none=>false)&&decide (g.1.1.length<=9/\g.1.2.length<=9)))
 | _,_=>false
end D
namespace D
open Go.RowKit
theorem T5:(wds lets 0).all um=true:=by decide +kernel
theorem T6:(wds lets 1).all um=true:=by decide +kernel
theorem T7:(wds lets 2).all um=true:=by decide +kernel
theorem T8:(wds lets 3).all um=true:=by decide +kernel
theorem NP {n:Nat} (hn:n<=3): ∀w∈wds lets n,um w=true:=fun w hw=>by
 have h:n=0\/n=1\/n=2\/n=3:=by omega
 rcases h with rfl | rfl | rfl | rfl
 ·exact List.all_eq_true.1 T5 w hw
 ·exact List.all_eq_true.1 T6 w hw
 ·exact List.all_eq_true.1 T7 w hw
 ·exact List.all_eq_true.1 T8 w hw
end D
namespace D
open Go.RowKit
theorem yy {x:Tr Tok} (h:WT x) (hx:(flat x).length<=24) {w:List Int} (hw:um w=true): ∃(g:GrT) (ok b:Bool),gA w=some (g,ok)/\jj w=some (g,ok)/\eC (flat x) w=some b/\gb (flat x) w=some b:=by
 unfold um at hw
 split at hw
 ·rename_i g k e1 e2
  rw[ah,decide_eq_true_eq] at hw
  obtain ⟨rfl,hv⟩:=hw
  obtain ⟨g,ok⟩:=g
  have vx:(decide ((flat x).length<=24)&&isX (flat x))=true:=by rw[so h,decide_eq_true hx];rfl
  have vs:=jP (e:=flat x) (by omega)
  have vi:=jQ (e:=flat x) (by omega)
  rw[vx] at vs vi
  cases ok with
  | false =>
   refine ⟨g,false,false,e1,e2,?_,?_⟩
   ·unfold eC;rw[e1];rfl
   ·unfold gb;rw[e2];rfl
  | true =>
   rw[Bool.not_true,Bool.false_or,ah,decide_eq_true_eq] at hv
   obtain ⟨hv,l1,l2⟩:=hv
   have l1:g.1.length<=9:=l1
   have l2:g.2.length<=9:=l2
   obtain ⟨bv,g1,k1⟩:=Np g (by omega) (by omega)
   have hv:(match aZ g with | some b=>b | none=>false)=true:=hv
   rw[g1] at hv
   obtain rfl:bv=true:=hv
   have g2:cD g=some true:=(J6 g).trans g1
   have hfu:=lV
   obtain ⟨r,e3,e4,hr⟩:=NC (k1 rfl) g1 g2 h cF cF (by omega) (by omega) (by omega)
   have hl:r.length<=1073741824:=by have:=hr.len;omega
   have ew:i64.wrap ((g.1.length:Int) - 1)=(g.1.length:Int) - 1:=fg (by omega) (by omega)
   refine ⟨g,true,decide (((0:Int),(g.1.length:Int) - 1)∈r),e1,e2,?_,?_⟩
   ·unfold eC
    have e4:b9 cF (g.1,g.2) (flat x)=_:=e4
    rw[e1];simp only[aa,if_true]
    rw[vs];simp only[aa,if_true]
    rw[e4];simp only[aa]
    rw[Vp hl,ew];rfl
   ·unfold gb kB
    have g1:aZ (g.1,g.2)=_:=g1
    have e3:aX cF x (g.1,g.2)=_:=e3
    rw[e2];simp only[aa,if_true]
    rw[g1];simp only[aa,if_true]
    rw[vi];simp only[aa,if_true]
    rw[sr (by omega),nt h];simp only[aa]
    rw[e3];simp only[aa,if_true]
    rw[Vr hl,ew];rfl
 ·cases hw
theorem E6 {S R:Type} {f:S->Option (Out R S)} {ws:List (List Int)} {p:List Int->Bool} (st:Nat->S) (k:List Int->R) (hN:ws.length<=1000000) (h: ∀i (hi:i<ws.length),f (st i)=some (if p ws[i] then .ret (k ws[i]) else .nxt (st (i+1)))) (he: ∃s,f (st ws.length)=some (.brk s)):(∃w,ws.find? p=some w/\ay f aS (st 0)=some (.ret (k w)))\/(ws.find? p=none/\ ∃s,ay f aS (st 0)=some (.brk s)):=by
 obtain ⟨o,e,hQ⟩:=cE (f:=f) (fun i s=>s=st i/\ws.find? p=(ws.drop i).find? p) (fun o=>(∃w,ws.find? p=some w/\o= .ret (k w))\/(ws.find? p=none/\ ∃s,o= .brk s)) ws.length (fun i s hi hI=>by
  obtain ⟨rfl,hI⟩:=hI
  rcases Nat.lt_or_ge i ws.length with c | c
  ·have e:=h i c
   rw[List.drop_eq_getElem_cons c,List.find?_cons] at hI
   cases hp:p ws[i] with
   | true =>
    rw[hp] at hI e
    exact .inr ⟨_,e,(fun s' h=>by cases h),.inl ⟨_,hI,rfl⟩⟩
   | false =>
    rw[hp] at hI e
    exact .inl ⟨c,_,e,rfl,hI⟩
  ·obtain rfl:i=ws.length:=by omega
   obtain ⟨s,e⟩:=he
   rw[List.drop_length] at hI
   exact .inr ⟨_,e,(fun s' h=>by cases h),.inr ⟨hI,s,rfl⟩⟩) (s:=st 0) ⟨rfl,by rw[List.drop_zero]⟩ (fN (by omega))
 rcases hQ with ⟨w,h1,rfl⟩ | ⟨h1,s,rfl⟩
 ·exact .inl ⟨w,h1,e⟩
 ·exact .inr ⟨h1,s,e⟩
def upW (x:Tr Tok) (L:Nat):List (List Int):=(List.range (L+1)).flatMap fun j=>(wds lets j).filter (mB x)
theorem RG (x:Tr Tok) {L:Nat} (hL:L<=3):(upW x L).length<=3000:=by
 have:=sv (fun j=>(wds lets j).filter (mB x)) (fun j hj=>Nat.le_trans (List.length_filter_le _ _) (tx lets (by decide) j hj)) (L+1) (by omega)
 have h2:729*(L+1)<=729*4:=Nat.mul_le_mul_left _ (by omega)
 unfold upW;omega
theorem NQ (x:Tr Tok) {L:Nat} (hL:L<=3): ∀w∈upW x L,um w=true:=fun w hw=>by
 obtain ⟨j,hj,hw⟩:=List.mem_flatMap.1 hw
 exact NP (by have:=List.mem_range.1 hj;omega) w (List.mem_filter.1 hw).1
def KL (y:Tr Tok) (w:List Int):Bool:=match gA w,eC (flat y) w with
 | some g,some b=>g.2 && !b
 | _,_=>false
theorem Dn {x y:Tr Tok} (hx:WT x) (hy:WT y) (lx:(flat x).length<=24) (ly:(flat y).length<=24) {L:Nat} (hL:L<=3): ∃r:List Int×Bool,dL (flat x) (flat y) (L:Int)=some r/\dN (flat x) (flat y) (L:Int)=some r:=by
 have vx:(decide ((flat y).length<=24)&&isX (flat y))=true:=by rw[so hy,decide_eq_true ly];rfl
 have vs:=jP (e:=flat y) (by omega)
 have vi:=jQ (e:=flat y) (by omega)
 rw[vx] at vs vi
 have us:gz (flat x) (L:Int)=some (upW x L):=Ky hx lx hL
 have ui:jm (flat x) (L:Int)=some (upW x L):=Tq hx lx hL
 have hl:=RG x hL
 have hw:=NQ x hL
 unfold dL dN
 rw[us,vi,ui];simp only[aa,if_true]
 generalize upW x L=ws at hl hw
 have A:=E6 (f:=cK (flat y) ws) (ws:=ws) (p:=KL y) (fun i=>(i:Int)) (fun w=>(w,true)) (by omega) (fun i hi=>by
  obtain ⟨g,ok,b,h1,h2,h3,h4⟩:=yy hy ly (hw _ (List.getElem_mem hi))
  have hb:KL y ws[i] =(ok && !b):=by unfold KL;rw[h1,h3]
  unfold cK
  rw[eR hi,if_pos rfl,vs,aY hi];simp only[aa,if_true]
  rw[h1,hb];simp only[aa]
  cases ok with
  | false=>simp only[Bool.false_eq_true,if_false,Bool.false_and];rw[af (by omega)]
  | true =>
   simp only[if_true]
   rw[h3];simp only[aa]
   cases b with
   | false=>rfl
   | true=>simp only[if_true,Bool.not_true,Bool.and_false,Bool.false_eq_true,if_false];rw[af (by omega)]) ⟨_,by
  unfold cK
  rw[eU];rfl⟩
 have B:=E6 (f:=cN (flat y) ws) (ws:=ws) (p:=KL y) (fun i=>(i:Int)) (fun w=>(w,true)) (by omega) (fun i hi=>by
  obtain ⟨g,ok,b,h1,h2,h3,h4⟩:=yy hy ly (hw _ (List.getElem_mem hi))
  have hb:KL y ws[i] =(ok && !b):=by unfold KL;rw[h1,h3]
  unfold cN
  rw[eR hi,if_pos rfl,aY hi];simp only[aa]
  rw[h2,hb];simp only[aa]
  cases ok with
  | false=>simp only[Bool.false_eq_true,if_false,Bool.false_and];rw[af (by omega)]
  | true =>
   simp only[if_true]
   rw[h4];simp only[aa]
   cases b with
   | false=>rfl
   | true=>simp only[if_true,Bool.not_true,Bool.and_false,Bool.false_eq_true,if_false];rw[af (by omega)]) ⟨_,by
  unfold cN
  rw[eU];rfl⟩
 have A':(∃w,ws.find? (KL y)=some w/\ay (cK (flat y) ws) aS 0=some (.ret (w,true)))\/(ws.find? (KL y)=none/\ ∃s,ay (cK (flat y) ws) aS 0=some (.brk s)):=A
 have B':(∃w,ws.find? (KL y)=some w/\ay (cN (flat y) ws) aS 0=some (.ret (w,true)))\/(ws.find? (KL y)=none/\ ∃s,ay (cN (flat y) ws) aS 0=some (.brk s)):=B
 rcases A' with ⟨w,a1,a2⟩ | ⟨a1,s,a2⟩
 ·rcases B' with ⟨w',b1,b2⟩ | ⟨b1,s',b2⟩
  ·rw[a1] at b1
   obtain rfl:=ae b1
   rw[bu a2,bu b2]
   exact ⟨_,rfl,rfl⟩
  ·rw[a1] at b1;cases b1
 ·rcases B' with ⟨w',b1,b2⟩ | ⟨b1,s',b2⟩
  ·rw[a1] at b1;cases b1
  ·rw[aj a2,aj b2]
   exact ⟨_,rfl,rfl⟩
theorem BW {a b:List Tok} (ha:a.length<=1048576) (hb:b.length<=1048576) (n:Int): ∃r:Int,iA a b n=some r/\iB a b n=some r:=by
 unfold iA iB
 rw[jP ha,jQ ha];simp only[aa]
 by_cases ca:(decide (a.length<=24)&&isX a)=true
 ·rw[if_pos ca,if_pos ca,jP hb,jQ hb];simp only[aa]
  by_cases cb:(decide (b.length<=24)&&isX b)=true
  ·rw[if_pos cb,if_pos cb,KJ,Es];simp only[aa]
   by_cases cn:0<=n/\n<=3
   ·rw[decide_eq_true cn,if_pos rfl,if_pos rfl]
    rw[ah] at ca cb
    obtain ⟨x,-,wx,rfl⟩:=BF ca.2
    obtain ⟨y,-,wy,rfl⟩:=BF cb.2
    obtain ⟨r,r1,r2⟩:=Dn wx wy (of_decide_eq_true ca.1) (of_decide_eq_true cb.1) (L:=n.toNat) (by omega)
    rw[show ((n.toNat:Nat):Int)=n from by omega] at r1 r2
    obtain ⟨p,p1,p2,sp⟩:=uk ha
    obtain ⟨q,q1,q2,sq⟩:=uk hb
    obtain ⟨i,i1,i2⟩:=Kw q.1 p.1 sq sp
    have i1:dk (q.1.1,q.1.2.1,q.1.2.2) (p.1.1,p.1.2.1,p.1.2.2)=_:=i1
    have i2:dq (q.1.1,q.1.2.1,q.1.2.2) (p.1.1,p.1.2.1,p.1.2.2)=_:=i2
    rw[p1,p2];simp only[aa]
    rw[q1,q2];simp only[aa]
    rw[r1,r2,i1,i2];simp only[aa]
    cases p.2 <;> cases q.2 <;> cases i <;> cases r.2 <;> exact ⟨_,rfl,rfl⟩
   ·rw[decide_eq_false cn]
    exact ⟨0,rfl,rfl⟩
  ·rw[if_neg cb,if_neg cb];exact ⟨0,rfl,rfl⟩
 ·rw[if_neg ca,if_neg ca];exact ⟨0,rfl,rfl⟩
end D
namespace D
open Go.RowKit
theorem GR:V2 pa:=fun xs l hl h0 h1=>szF xs (MZ hl).1 (fun _=>⟨trivial,trivial,trivial,trivial⟩) h0 h1
theorem E7:V2 mS:=by
 intro x l hl h0 h1
 unfold mS
 try simp only[kH]
 obtain ⟨r1,e1,k1⟩:=GR x l hl (by omega) (by omega)
 rw[e1];simp only[aa]
 rcases k1 with k1 | ⟨k1,j1,s1⟩
 ·exact ⟨-1,by rw[if_pos (decide_eq_true k1)],.inl (by decide)⟩
 rw[if_neg (by simpa using k1)]
 exact ⟨_,rfl,.inr ⟨by omega,by omega,s1⟩⟩
theorem Kz:Vg nJ:=by
 intro x hx
 unfold nJ
 simp only[kH,aa]
theorem GS:Vg mc:=by
 intro xs hx
 have hn:=(pG hx).1
 unfold mc
 rw[OF (by omega)];simp only[aa]
 rw[toL (f:=ji xs) xs (by omega) (fun ys i h hy=>by simp only[ji,eR h,if_true,aY h,aY (show i<ys.length by omega),aa,kH,Kz xs[i] ((pG hx).2 _ (List.getElem_mem h)),af (show i<9223372036854775807 by omega),Int.toNat_natCast]) (fun ys hy=>by simp only[ji,eU];rfl)]
 rfl
theorem E8:Vg gI:=by
 intro x hx
 unfold gI
 simp only[kH,aa,GS x hx]
theorem KB:Vh nP:=by
 intro x y hx hy
 unfold nP
 try simp only[kH,aa]
 repeat' split
 all_goals simp_all[Prod.ext_iff]
theorem GT:Vh pd:=fun xs ys hx hy=>eqL (f:=jn xs ys) xs ys (by have:=(pG hx).1;omega) (fun i h h'=>by
 simp only[jn,eR h,if_true,aY h,aY h',aa,kH,KB xs[i] ys[i] ((pG hx).2 _ (List.getElem_mem h)) ((pG hy).2 _ (List.getElem_mem h')),af (show i<9223372036854775807 by have:=(pG hx).1;omega)]
 first | exact OG (by simp) | exact QV (by simp) | exact OG (by simp[Prod.ext_iff])) (by simp only[jn,eU];rfl)
theorem E9:Vh mX:=by
 intro x y hx hy
 unfold mX
 try simp only[kH,aa,GT x y hx hy]
 repeat' split
 all_goals simp_all[Prod.ext_iff]
end D
namespace D
open Go.RowKit
theorem wY (x y:List Tok) (n:Int) (hx:Data.lim x) (hy:Data.lim y) (hn:I64 n):dw x y n=some true:=by
 unfold dw
 obtain ⟨r1,e1,k1⟩:=E7 x 1048576 hx (by decide) (by decide)
 rw[e1];simp only[aa]
 rcases k1 with k1 | ⟨k1,j1,s1⟩
 ·rw[if_pos (decide_eq_true k1)]
 rw[if_neg (by simpa using k1)]
 obtain ⟨r2,e2,k2⟩:=E7 y r1 hy (by omega) (by omega)
 rw[e2];simp only[aa]
 rcases k2 with k2 | ⟨k2,j2,s2⟩
 ·rw[if_pos (decide_eq_true k2)]
 rw[if_neg (by simpa using k2)]
 obtain ⟨k,es,ei⟩:=BW (pG s1).1 (pG s2).1 n
 simp only[E8 x s1,E8 y s2,es,ei,E9 x x s1 s1,E9 y y s2 s2,aa,kH,decide_true,if_true]
 simp only[bne_self_eq_false,Bool.false_eq_true,if_false]
end D
open Go.ChangeShapes Go.WideShapes Go.ChangeAt Go.RowKit
namespace D
theorem op3:Opens Tryz.prog 3 ny:=Jv Tryz.underlying3
theorem Wn:Opens Tryz.prog 96 (dV ny (dV ny (dV ny ny))):=by
 refine ug Tryz.underlying96 (by kernel_rfl) ?_
 refine tn (R:=ny) (S:=dV (ny) (dV (ny) (ny))) rfl (by kernel_rfl) op3 ?_
 refine tn (R:=ny) (S:=dV (ny) (ny)) rfl (by kernel_rfl) op3 ?_
 refine tn (R:=ny) (S:=ny) rfl (by kernel_rfl) op3 ?_
 exact yo rfl (by kernel_rfl) op3
theorem Wo:Opens Tryz.prog 22 (aq 96 (dV ny (dV ny (dV ny ny)))):=CZ Tryz.underlying22 (by kernel_rfl) (by decide) Wn
theorem Wp:Opens Tryz.prog 24 (aq 96 (dV ny (dV ny (dV ny ny)))):=by
 refine ug Tryz.underlying24 (by kernel_rfl) ?_
 exact yo rfl (by kernel_rfl) Wo
theorem T9 {W:World} {base:Nat} {z:Value} {H:Type} {enc:TypeId×Value->H} {d:DataW H} {p:List MemPlace} (hv:Value.okWide Tryz.prog W .any base 24 z) (h:DataW.Trod enc Tryz.prog W 0 (fun _=>true) true 24 z d p) :
  ∃(x:(List (Int×Int×Int×Int))) (v0:Value),z= .agg #[v0] /\Data.lim x/\(aq 96 (dV ny (dV ny (dV ny ny)))).rd (hp W) [v0] x:=by
 obtain ⟨fuel,hf⟩:=h
 obtain ⟨⟨cs⟩,rfl,-⟩:=okWide_struct Tryz.underlying24 hv
 obtain ⟨x,hx,hl⟩:=Wp.out enc W _ _ _ hf
 have hx:(aq 96 (dV ny (dV ny (dV ny ny)))).rd (hp W) cs x:=hx
 have r0:=hx
 obtain ⟨v0,rfl⟩:=one_cell r0 rfl
 exact ⟨x,v0,rfl,hl,r0⟩
theorem Wq {W:World} {base:Nat} {z:Value} {H:Type} {enc:TypeId×Value->H} {d:DataW H} {p:List MemPlace} (hv:Value.okWide Tryz.prog W .any base 3 z) (h:DataW.Trod enc Tryz.prog W 0 (fun _=>true) true 3 z d p) :
  ∃(x:Int),z= .int .i64 x/\Data.lim x:=by
 obtain ⟨fuel,hf⟩:=h
 obtain ⟨n,rfl⟩:=okWide_int Tryz.underlying3 hv
 obtain ⟨x,hx,hl⟩:=op3.out enc W _ _ _ hf
 exact ⟨x,(List.cons.inj (show [_] = [_] from hx)).1,hl⟩
end D
open D (Data)
theorem uD (W:World) (args:Array Value) (H:Type) (enc:TypeId×Value->H) (base:Nat) (ds gs:List (DataW H)) (before:List MemPlace)
  (hval: ∀(j:Nat) t v,Tryz.f3.params[j]? =some t->args[j]? =some v->Value.okWide Tryz.prog W .any base t v)
  (hW:DataW.Whole enc Tryz.prog Tryz.f3.params.toList Rows.fnExactCompareExprsSpec.vars false W args.toList ds gs before) :
  Calls Tryz.prog 3 args W fun e W'=> ∃v,e= .returned v/\Rows.fnExactCompareExprsSpec.post enc Tryz.prog Tryz.f3 false true false false W args v W':=by
 have hW':=hW
 obtain ⟨p,q,hA,hV,rfl,hfz,hnd⟩:=hW
 rw[Tryz.params3] at hA hval
 obtain ⟨z0,vs0,d0,ds0,p0,q0,hargs,rfl,rfl,h0,r0⟩:=trodAll_cons hA
 obtain ⟨z1,vs1,d1,ds1,p1,q1,rfl,rfl,rfl,h1,r1⟩:=trodAll_cons r0
 obtain ⟨z2,vs2,d2,ds2,p2,q2,rfl,rfl,rfl,h2,r2⟩:=trodAll_cons r1
 obtain ⟨rfl,rfl,rfl⟩:=trodAll_nil r2
 obtain rfl:args= #[z0,z1,z2]:=by cases args;simp_all
 obtain ⟨rfl,rfl⟩:=trodVars_none hV
 obtain ⟨x0,v0_0,rfl,l0,r0_0⟩:=D.T9 (hval 0 _ _ rfl rfl) h0
 obtain ⟨x1,v1_0,rfl,l1,r1_0⟩:=D.T9 (hval 1 _ _ rfl rfl) h1
 obtain ⟨x2,rfl,l2⟩:=D.Wq (hval 2 _ _ rfl rfl) h2
 have hc:=D.nZ x0 x1 x2 true (D.wY x0 x1 x2 l0 l1 l2) (I:=D.hp W) (w0:=W) v0_0 v1_0 r0_0 r1_0 D.Lay.all W [] (D.St.init W)
 refine hc.mono fun e W' ⟨v,he,hv,hs⟩=>?_
 subst he;subst hv
 exact ⟨_,rfl,NM (f:=Tryz.f3) (s:=Rows.fnExactCompareExprsSpec) 4 Tryz.underlying4 rfl (by kernel_rfl) rfl hW' rfl rfl rfl (D.St.below hs)⟩
theorem qY (os:Os) (started:os.Started) (H:Type) (enc:TypeId×Value->H) :
  ReturnsInHanded {} Tryz.checked os 3 .any (Rows.fnExactCompareExprsSpec.pre6 enc Tryz.prog Tryz.f3 Rows.fnExactCompareExprsRow.domain false) (Rows.fnExactCompareExprsSpec.post enc Tryz.prog Tryz.f3 false true false false):=by
 refine returnsInHanded_of_change_sized (C:=Tryz.checked) own started (by kernel_rfl) Tryz.func3
  (ChangeSpec.witness6 (enc:=enc) (C:=Tryz.checked) false ⟨#[],#[.agg #[.slice none 0 0],.agg #[.slice none 0 0],.int .i64 0],[]⟩ 8 (by kernel_rfl) (by kernel_rfl) (by kernel_rfl) (by kernel_rfl)) ?_
 intro W base args ds gs before hval hW hcnd hsz _
 exact uD W args H enc base ds gs before hval hW
set_option maxHeartbeats 4000000 in
theorem qZ:joinedFacts Tryz.pinned.checked.prog 3 Tryz.f3 Rows.fnExactCompareExprsSpec Rows.fnExactCompareExprsRow=true:=by
 unfold joinedFacts
 repeat' (with_reducible refine Bool.and_eq_true_iff.2 ⟨?_,?_⟩)
 all_goals as_aux_lemma=>kernel_rfl
theorem holdsLCompareExprs:Rows.FnExactCompareExprsSaid:=
 OpenClaim.holds_of_wide 3 Tryz.f3 rfl rfl rfl rfl rfl rfl rfl ⟨rfl,rfl,rfl,rfl,rfl⟩ rfl rfl rfl rfl rfl (by kernel_rfl) Tryz.func3 qZ
  (of_decide_eq_true (by kernel_rfl)) (by unfold Func.isWrapper;first | (rw[if_pos (by decide +kernel)];kernel_rfl) | (rw[if_neg (by decide +kernel)];exact ⟨rfl,rfl⟩))
  (fun os started H enc _=>qY os started H enc)
end Go.Proofs.YtfbgafccgaoepaaGreat
