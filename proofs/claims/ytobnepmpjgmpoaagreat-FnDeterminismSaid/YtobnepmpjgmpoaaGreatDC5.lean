/- FnDeterminism: for every input the law returns true and changes nothing that was there. Part 6 of 7. -/
import Derived.Test.YtobnepmpjgmpoaaGreatDC4
set_option linter.unusedVariables false
set_option linter.unusedSimpArgs false
set_option linter.unnecessarySimpa false
set_option linter.unusedSectionVars false
set_option maxRecDepth 1000000
namespace Go.Proofs.YtobnepmpjgmpoaaGreat
open Go.IntKind (i64)
namespace D
open Go.RowKit
theorem ur {κ:Type} [DecidableEq κ] {l m:List κ} (h:l <+:m) {y:κ} (hy:y∈l):(m.idxOf y:Int)=l.idxOf y:=by
 obtain ⟨t,rfl⟩:=h
 rw[List.idxOf_append,if_pos hy]
theorem EO {κ:Type} [DecidableEq κ] : ∀(l:List κ) (os:List (Option κ)) (i:Nat),i<os.length->nth (nbR l os) (i:Int)=nbI (nbS l os) (nth os (i:Int))
 | l,o::os,0,_=>by
  show nbI l o=nbI (nbS (nbL l o) os) o
  cases o with
  | none=>rfl
  | some y =>
   have hm:y∈nbL l (some y):=EB.2 (.inr rfl)
   simp only[nbI]
   rw[ur (fW _ os) hm]
   by_cases c:y∈l
   ·rw[fJ c]
   ·rw[fj c,List.idxOf_append,if_neg c,ky c];simp
 | l,o::os,i+1,h=>by
  have h':i<os.length:=by simpa using h
  have ih:=EO (nbL l o) os i h'
  have e1:nth (nbR l (o::os)) ((i+1:Nat):Int)=nth (nbR (nbL l o) os) (i:Int):=by
   rw[a9 (by rw[cZ];exact h),a9 (by rw[cZ];exact h')];rfl
  have e2:nth (o::os) ((i+1:Nat):Int)=nth os (i:Int):=by rw[a9 h,a9 h'];rfl
  rw[e1,e2];exact ih
theorem jV {κ:Type} [DecidableEq κ] {l:List κ} {y:κ} (h:y∈l): ∃(q:Nat) (hq:q<l.length),nbI l (some y)=(q:Int)/\l[q] =y:=
 ⟨l.idxOf y,List.idxOf_lt_length_of_mem h,rfl,by simp⟩
theorem vP {κ:Type} [DecidableEq κ] {l:List κ} {y:κ} (h:y∉l):nbI l (some y)=(l.length:Int):=by simp only[nbI,ky h]
def Ja:List Int->Nat->Nat->Prop
 | [],c,m=>c=m
 | x::xs,c,m=>(x= -1/\Ja xs c m)\/(0<=x/\x<c/\Ja xs c m)\/(x=c/\Ja xs (c+1) m)
theorem vQ {κ:Type} [DecidableEq κ] : ∀(os:List (Option κ)) (l:List κ),Ja (nbR l os) l.length (nbS l os).length
 | [],l=>rfl
 | none::os,l=>.inl ⟨rfl,vQ os l⟩
 | some y::os,l=>by
  by_cases c:y∈l
  ·refine .inr (.inl ⟨Int.natCast_nonneg _,?_,?_⟩)
   ·have:=List.idxOf_lt_length_of_mem c
    simp only[nbI];omega
   ·show Ja (nbR (nbL l (some y)) os) l.length (nbS (nbL l (some y)) os).length
    rw[fJ c];exact vQ os l
  ·refine .inr (.inr ⟨by simp only[nbI,ky c],?_⟩)
   show Ja (nbR (nbL l (some y)) os) (l.length+1) (nbS (nbL l (some y)) os).length
   have:=vQ os (l++ [y])
   rw[fj c]
   simpa using this
def NY:List Int->List (Option (List Int))->Prop
 | [],[] =>True
 | x::xs,o::os=>((x<0/\o=none)\/(0<=x/\ ∃t,o=some (x::t)))/\NY xs os
 | _,_=>False
theorem EP: ∀(xs:List Int) (os:List (Option (List Int))),xs.length=os.length->(∀i (h:i<xs.length) (h':i<os.length),(xs[i] < 0/\os[i] =none)\/(0<=xs[i] /\ ∃t,os[i] =some (xs[i] ::t)))->NY xs os
 | [],[],_,_=>trivial
 | x::xs,o::os,hl,h=>⟨h 0 (by simp) (by simp),EP xs os (by simpa using hl) fun i h1 h2=>h (i+1) (by simpa using h1) (by simpa using h2)⟩
theorem jt: ∀(xs:List Int) (os:List (Option (List Int))) (l:List (List Int)) (c m:Nat),NY xs os->Ja xs c m->(∀y∈l,∃h t,y=h::t/\h<c)->
  m+l.length<=(nbS l os).length+c/\(l.length=c->(∀(q:Nat) (hq:q<l.length),∃t,l[q] =(q:Int)::t)->(nbS l os).length=m->nbR l os=xs)
 | [],[],l,c,m,_,hn,_=>by
  have hn:c=m:=hn
  subst hn
  exact ⟨by simp[nbS];omega,fun _ _ _=>rfl⟩
 | x::xs,o::os,l,c,m,hr,hn,hh=>by
  obtain ⟨hr1,hr2⟩:=hr
  rcases hn with ⟨rfl,hn⟩ | ⟨hx0,hxc,hn⟩ | ⟨rfl,hn⟩
  ·have ho:o=none:=by
    rcases hr1 with ⟨-,h⟩ | ⟨h,-⟩
    ·exact h
    ·omega
   subst ho
   obtain ⟨i1,i2⟩:=jt xs os l c m hr2 hn hh
   exact ⟨i1,fun h1 h2 h3=>by show -1::nbR l os=_;rw[i2 h1 h2 h3]⟩
  ·obtain ⟨t,rfl⟩: ∃t,o=some (x::t):=by
    rcases hr1 with ⟨h,-⟩ | ⟨-,h⟩
    ·omega
    ·exact h
   by_cases k:(x::t)∈l
   ·obtain ⟨i1,i2⟩:=jt xs os l c m hr2 hn hh
    have hb:nbL l (some (x::t))=l:=fJ k
    refine ⟨by show m+l.length<=(nbS (nbL l (some (x::t))) os).length+c;rw[hb];exact i1,fun h1 h2 h3=>?_⟩
    have h3:(nbS (nbL l (some (x::t))) os).length=m:=h3
    rw[hb] at h3
    obtain ⟨q,hq,e1,e2⟩:=jV k
    obtain ⟨t',ht'⟩:=h2 _ hq
    rw[e2] at ht'
    have:x=(q:Int):=by injection ht'
    show nbI l (some (x::t))::nbR (nbL l (some (x::t))) os=_
    rw[e1,<-this,hb,i2 h1 h2 h3]
   ·have hb:nbL l (some (x::t))=l++ [x::t]:=fj k
    obtain ⟨i1,i2⟩:=jt xs os (l++ [x::t]) c m hr2 hn (fun y hy=>by
     rcases aA hy with hy | hy
     ·exact hh y hy
     ·obtain rfl:=ak hy
      exact ⟨x,t,rfl,hxc⟩)
    rw[aw,List.length_singleton] at i1
    refine ⟨by show m+l.length<=(nbS (nbL l (some (x::t))) os).length+c;rw[hb];omega,fun h1 h2 h3=>?_⟩
    have h3:(nbS (nbL l (some (x::t))) os).length=m:=h3
    rw[hb] at h3
    omega
  ·obtain ⟨t,rfl⟩: ∃t,o=some ((c:Int)::t):=by
    rcases hr1 with ⟨h,-⟩ | ⟨-,h⟩
    ·omega
    ·exact h
   have k:((c:Int)::t)∉l:=fun k=>by
    obtain ⟨h,t',e,hlt⟩:=hh _ k
    have:(c:Int)=h:=by injection e
    omega
   have hb:nbL l (some ((c:Int)::t))=l++ [(c:Int)::t]:=fj k
   obtain ⟨i1,i2⟩:=jt xs os (l++ [(c:Int)::t]) (c+1) m hr2 hn (fun y hy=>by
    rcases aA hy with hy | hy
    ·obtain ⟨h,t',e,hlt⟩:=hh y hy
     exact ⟨h,t',e,by omega⟩
    ·obtain rfl:=ak hy
     exact ⟨c,t,rfl,by omega⟩)
   have hlen:(l++ [(c:Int)::t]).length=l.length+1:=by simp
   rw[hlen] at i1
   refine ⟨by show m+l.length<=(nbS (nbL l (some ((c:Int)::t))) os).length+c;rw[hb];omega,fun h1 h2 h3=>?_⟩
   have h3:(nbS (nbL l (some ((c:Int)::t))) os).length=m:=h3
   rw[hb] at h3
   have:=i2 (by rw[hlen,h1]) (fun q hq=>by
    by_cases e:q<l.length
    ·rw[List.getElem_append_left e];exact h2 q e
    ·have e:q=l.length:=by omega
     subst e
     exact ⟨t,by simp;omega⟩) h3
   show nbI l (some ((c:Int)::t))::nbR (nbL l (some ((c:Int)::t))) os=_
   rw[hb,this,vP k,h1]
theorem zu (xs ys:List Int) (hN:xs.length<=1048576): ∃r,j4 xs ys=some r/\(r=0↔xs=ys):=by
 unfold j4
 have h0:=Nf (f:=jE xs ys) xs ys (fun i h h'=>by
  simp only[jE,sw h,sw h',if_true,fG h,fG h',ae,aI (show i<9223372036854775807 by omega)]
  by_cases h1:xs[i] < ys[i]
  ·simp[h1]
  ·by_cases h2:xs[i] > ys[i]
   ·simp[h1,h2]
   ·simp[h1,h2]) (fun i hi=>by
  simp only[jE]
  by_cases h1:i<xs.length
  ·have h2: ¬i<ys.length:=by omega
   simp[h1,h2]
  ·simp[h1]) xs.length 0 br (by omega) (xC _ (by omega))
 rw[show (((0:Nat):Int))=(0:Int) from rfl] at h0
 rcases h0 with ⟨r,e,h1,h2⟩ | ⟨s,e,h1⟩
 ·exact ⟨r,by rw[e];rfl,by simp[h1,h2]⟩
 ·rw[e]
  simp only[bc]
  by_cases c1:xs.length<ys.length
  ·exact ⟨-1,by simp[c1],by simp;intro e;subst e;omega⟩
  ·by_cases c2:xs.length>ys.length
   ·exact ⟨1,by simp[c1,c2],by simp;intro e;subst e;omega⟩
   ·exact ⟨0,by simp[c1,c2],by simpa using h1 (by omega)⟩
theorem xI (xs ys:List Int) (hN:xs.length<=9223372036854775807):bN xs ys=some (decide (xs=ys)):=
 eqL (f:=bC xs ys) xs ys hN (fun i h h'=>by
  simp only[bC,sw h,if_true,fG h,fG h',ae,aI (show i<9223372036854775807 by omega)]
  by_cases c:xs[i] =ys[i] <;> simp[c]) (by simp only[bC,sx];rfl)
def AS (a:AutT):List Int:=(List.range a.2.1.length).map fun s:Nat=>if nth (live a) (s:Int)=true then (if nth a.2.1 (s:Int)=true then 1 else 0) else -1
def ent (a:AutT) (c:List Int) (s:Int) (k:Nat):Int:=if mv a s k<0 then -1 else nth c (mv a s k)
def uu (a:AutT) (c:List Int) (s:Int):List Int:=nth c s::(List.range 9).map fun k=>ent a c s k
def tp (a:AutT) (c:List Int) (s:Nat):Option (List Int):=if nth c (s:Int)<0 then none else some (uu a c s)
def keys (a:AutT) (c:List Int):List (Option (List Int)):=(List.range a.2.1.length).map (tp a c)
def sV (a:AutT) (c:List Int):List Int:=nbR [] (keys a c)
def qL (a:AutT) (c:List Int):Nat:=(nbS [] (keys a c)).length
def cI (a:AutT):Nat->List Int
 | 0=>AS a
 | j+1=>sV a (cI a j)
section
variable {a:AutT} {n:Nat}
theorem cT (a:AutT) (c:List Int):(keys a c).length=a.2.1.length:=by simp[keys]
theorem zw {c:List Int} {s:Nat} (h:s<a.2.1.length):nth (keys a c) (s:Int)=tp a c s:=by
 rw[a9 (by simpa [keys] using h)];simp[keys]
theorem sA (a:AutT) (c:List Int):(sV a c).length=a.2.1.length:=by rw[sV,cZ,cT]
theorem ju (a:AutT): ∀j,(cI a j).length=a.2.1.length
 | 0=>by simp[cI,AS]
 | j+1=>sA a _
theorem kX {κ:Type} [DecidableEq κ] : ∀(l:List κ) (os:List (Option κ)),(nbS l os).length<=l.length+os.length
 | l,[] =>by simp[nbS]
 | l,o::os=>by
  have h:=kX (nbL l o) os
  have:(nbL l o).length<=l.length+1:=by
   cases o with
   | none=>simp[nbL]
   | some x=>unfold nbL;simp only;split <;> simp
  show (nbS (nbL l o) os).length<=_
  rw[ax];omega
theorem zx (a:AutT) (c:List Int):qL a c<=a.2.1.length:=by
 have:=kX ([] :List (List Int)) (keys a c)
 rw[cT] at this
 simpa [qL] using this
theorem pO {c:List Int} {s:Nat} (h:s<a.2.1.length):nth (sV a c) (s:Int)=nbI (nbS [] (keys a c)) (tp a c s):=by
 rw[sV,EO _ _ _ (by rw[cT];exact h),zw h]
theorem sB {c:List Int} {s:Nat} (h:s<a.2.1.length) (hc: ¬nth c (s:Int)<0):uu a c s∈nbS [] (keys a c):=by
 refine kW.2 (.inr ?_)
 refine List.mem_map.2 ⟨s,List.mem_range.2 h,?_⟩
 unfold tp;rw[if_neg hc]
theorem qM {c:List Int} {s:Nat} (h:s<a.2.1.length):(nth (sV a c) (s:Int)<0↔nth c (s:Int)<0)/\(nth (sV a c) (s:Int)<0->nth (sV a c) (s:Int)= -1):=by
 rw[pO h]
 unfold tp
 by_cases hc:nth c (s:Int)<0
 ·rw[if_pos hc];simp[nbI,hc]
 ·rw[if_neg hc]
  obtain ⟨q,hq,e,-⟩:=jV (sB h hc)
  rw[e]
  exact ⟨⟨fun h=>by omega,fun h=>absurd h hc⟩,fun h=>by omega⟩
theorem Lq {c:List Int} {s:Nat} (h:s<a.2.1.length):nth (sV a c) (s:Int)<(a.2.1.length:Int):=by
 rw[pO h]
 unfold tp
 by_cases hc:nth c (s:Int)<0
 ·rw[if_pos hc];simp only[nbI];omega
 ·rw[if_neg hc]
  obtain ⟨q,hq,e,-⟩:=jV (sB h hc)
  have:=zx a c
  unfold qL at this
  rw[e];omega
theorem ER {c:List Int} {s t:Nat} (hs:s<a.2.1.length) (ht:t<a.2.1.length) (h0:0<=nth (sV a c) (s:Int)) (h:nth (sV a c) (s:Int)=nth (sV a c) (t:Int)):uu a c s=uu a c t:=by
 have n1: ¬nth c (s:Int)<0:=fun k=>by have:=(qM hs).1.2 k;omega
 have n2: ¬nth c (t:Int)<0:=fun k=>by have:=(qM ht).1.2 k;omega
 rw[pO hs,pO ht] at h
 unfold tp at h
 rw[if_neg n1,if_neg n2] at h
 obtain ⟨q,hq,e1,e2⟩:=jV (sB hs n1)
 obtain ⟨q',hq',e1',e2'⟩:=jV (sB ht n2)
 rw[e1,e1'] at h
 obtain rfl:q=q':=by omega
 rw[<-e2,<-e2']
theorem sC (a:AutT) {s:Nat} (h:s<a.2.1.length): ∀j,(nth (cI a j) (s:Int)<0↔nth (live a) (s:Int)=false)/\(nth (cI a j) (s:Int)<0->nth (cI a j) (s:Int)= -1)
 | 0=>by
  have e:nth (cI a 0) (s:Int)=if nth (live a) (s:Int)=true then (if nth a.2.1 (s:Int)=true then 1 else 0) else -1:=by
   show nth (AS a) (s:Int)=_
   rw[a9 (by simpa [AS] using h)];simp[AS]
  rw[e]
  cases nth (live a) (s:Int) <;> cases nth a.2.1 (s:Int) <;> simp
 | j+1=>by
  have ih:=sC a h j
  have:=qM (c:=cI a j) h
  exact ⟨this.1.trans ih.1,this.2⟩
theorem Jb (a:AutT) {s t:Nat} (hs:s<a.2.1.length) (ht:t<a.2.1.length): ∀j,0<=nth (cI a j) (s:Int)->nth (cI a j) (s:Int)=nth (cI a j) (t:Int)->nth a.2.1 (s:Int)=nth a.2.1 (t:Int)
 | 0,h0,h=>by
  have e: ∀ {s:Nat},s<a.2.1.length->nth (cI a 0) (s:Int)=if nth (live a) (s:Int)=true then (if nth a.2.1 (s:Int)=true then 1 else 0) else -1:=by
   intro s h
   show nth (AS a) (s:Int)=_
   rw[a9 (by simpa [AS] using h)];simp[AS]
  rw[e hs] at h0 h
  rw[e ht] at h
  revert h0 h
  cases nth (live a) (s:Int) <;> cases nth a.2.1 (s:Int) <;> cases nth (live a) (t:Int) <;> cases nth a.2.1 (t:Int) <;> simp
 | j+1,h0,h=>by
  have k:=ER (c:=cI a j) hs ht h0 h
  have h1:nth (cI a j) (s:Int)=nth (cI a j) (t:Int):=by
   unfold uu at k;injection k
  refine Jb a hs ht j ?_ h1
  have:=(qM (c:=cI a j) hs).1
  by_cases q:nth (cI a j) (s:Int)<0
  ·have:=this.2 q
   have h0:0<=nth (sV a (cI a j)) (s:Int):=h0
   omega
  ·omega
theorem Lr (a:AutT) (j:Nat):Ja (cI a (j+1)) 0 (qL a (cI a j)):=vQ (keys a (cI a j)) []
theorem HK (a:AutT) {c:List Int} (hc:c.length=a.2.1.length):NY c (keys a c):=by
 refine EP _ _ (by rw[cT,hc]) fun i h h'=>?_
 have e1:c[i] =nth c (i:Int):=(a9 h).symm
 have e2:(keys a c)[i] =tp a c i:=by simp[keys]
 rw[e1,e2]
 unfold tp
 by_cases k:nth c (i:Int)<0
 ·exact .inl ⟨k,by rw[if_pos k]⟩
 ·exact .inr ⟨by omega,_,by rw[if_neg k];rfl⟩
theorem ES (a:AutT) (j:Nat):qL a (cI a j)<=qL a (cI a (j+1))/\(qL a (cI a (j+1))=qL a (cI a j)->cI a (j+2)=cI a (j+1)):=by
 obtain ⟨h1,h2⟩:=jt (cI a (j+1)) (keys a (cI a (j+1))) [] 0 (qL a (cI a j)) (HK a (ju a _)) (Lr a j) (fun y hy=>by cases hy)
 exact ⟨by simpa [qL] using h1,fun h=>h2 rfl (fun q hq=>absurd hq (Nat.not_lt_zero q)) h⟩
theorem Jc {j k:Nat} (h:cI a (j+1)=cI a j) (hk:j<=k):cI a k=cI a j:=by
 induction hk with
 | refl=>rfl
 | step _ ih=>rw[cI,ih];exact h
theorem ET {j k:Nat} (h:cI a (j+1)=cI a j) (h':cI a (k+1)=cI a k):cI a j=cI a k:=by
 rcases Nat.le_total j k with e | e
 ·exact (Jc h e).symm
 ·exact Jc h' e
theorem Ls (a:AutT): ∃j,j<=a.2.1.length/\cI a (j+1)=cI a j:=by
 by_cases h0:cI a 1=cI a 0
 ·exact ⟨0,Nat.zero_le _,h0⟩
 have hpos:1<=qL a (cI a 0):=by
  refine Nat.one_le_iff_ne_zero.2 fun hz=>h0 ?_
  have hnone: ∀s:Nat,s<a.2.1.length->nth (cI a 0) (s:Int)<0:=fun s hs=>by
   refine Classical.byContradiction fun k=>?_
   have:=sB (c:=cI a 0) hs k
   have hl:=List.length_pos_of_mem this
   unfold qL at hz;omega
  refine Lo (by rw[ju,ju]) fun i hi=>?_
  rw[ju] at hi
  have h1:=(sC a hi 0).2 (hnone i hi)
  have h2:=(sC a hi 1).2 (((sC a hi 1).1.trans (sC a hi 0).1.symm).2 (hnone i hi))
  rw[h1,h2]
 have key: ∀m,(∃j,j<=m/\cI a (j+1)=cI a j)\/m+1<=qL a (cI a m):=by
  intro m
  induction m with
  | zero=>exact .inr hpos
  | succ m ih =>
   rcases ih with ⟨j,hj,e⟩ | ih
   ·exact .inl ⟨j,by omega,e⟩
   ·obtain ⟨g1,g2⟩:=ES a m
    by_cases e:qL a (cI a (m+1))=qL a (cI a m)
    ·exact .inl ⟨m+1,az _,g2 e⟩
    ·exact .inr (by omega)
 rcases key a.2.1.length with h | h
 ·exact h
 ·have:=zx a (cI a a.2.1.length);omega
end
end D
namespace D
open Go.RowKit
theorem uv (n:Nat) (l:List Int) (hd:l.Nodup) (h: ∀x∈l,0<=x/\x<n):l.length<=n:=by
 have:=hd.length_le_of_subset (l₂:=(List.range n).map Int.ofNat) (fun x hx=>by
  obtain ⟨h0,h1⟩:=h x hx
  exact List.mem_map.2 ⟨x.toNat,List.mem_range.2 (by omega),by show ((x.toNat:Nat):Int)=x;omega⟩)
 simpa using this
theorem Jd {n:Nat} {x:Int} (hn:n<=1000000) (h0:0<=x) (h1:x<n):iOk x=true:=by
 have:=EM (n:=x.toNat) (by omega)
 rwa [show ((x.toNat:Nat):Int)=x from by omega] at this
theorem Je {κ:Type} [DecidableEq κ] {nx:κ->List (Option κ)} {first:κ} {G:κ->Prop} {B N:Nat} {acc:κ->Bool} (H:NumOk nx first G B) (hB:B<=1000000) (hN:bfE nx first N):Data.sm ((0,(bfS nx first N).map acc,bfR nx first N):AutT):=by
 have hl:=H.bound _ (fy (nx:=nx) (first:=first) N) (db H.g0 H.gn N)
 refine ⟨trivial,⟨by rw[List.length_map];omega,fun _ _=>trivial⟩,?_,?_⟩
 ·rw[fc hN.2];have:=hN.1;omega
 ·have key: ∀i,i<=N-> ∀r∈bfR nx first i,r.length=9:=by
   intro i
   induction i with
   | zero=>intro _ r hr;cases hr
   | succ i ih =>
    intro hi r hr
    have hlt:=hN.2 i (by omega)
    rw[mM hlt] at hr
    rcases aA hr with hr | hr
    ·exact ih (by omega) r hr
    ·obtain rfl:=ak hr
     rw[cZ,H.len _ (db H.g0 H.gn i _ (List.getElem_mem hlt))]
  intro r hr
  exact ⟨by rw[key N (az _) r hr];decide,fun _ _=>trivial⟩
theorem uw:Data.sm nothing:=⟨trivial,⟨by decide,fun _ _=>trivial⟩,by decide,fun r hr=>by
 obtain rfl:=ak hr
 exact ⟨by decide,fun _ _=>trivial⟩⟩
end D
namespace D
open Go.RowKit
section
variable {nx:Int×Int->List (Option (Int×Int))} {first:Int×Int} {G:Int×Int->Prop} {B:Nat}
end
end D
namespace D
open Go.RowKit
section
variable {a:AutT} {n:Nat} {c:List Int}
theorem AT (k:Nat) (s:Int):(List.range (k+1)).map (fun k=>ent a c s k)=(List.range k).map (fun k=>ent a c s k)++ [ent a c s k]:=by simp[List.range_succ]
theorem Ov (V:VA a n) (hn:n<=1000000) (hc:c.length=n) {s:Nat} (hs:s<n):j8 a c s=some (uu a c s):=by
 unfold j8
 rw[aB (by omega) (by omega)];simp only[ae]
 have:=bX (f:=iC a c s) (fun k=>(nth c (s:Int)::(List.range k).map (fun k=>ent a c s k),(k:Int))) 9 (fun k hk=>by
  have hm:=V.mv (s:=s) (k:=k) (by omega) (by omega) hk
  unfold iC
  simp only
  rw[if_pos (by simp;omega),V.get (by omega) (by omega)];simp only[ae]
  rw[V.get2 (by omega) (by omega) hk,AT];simp only[ae,aI (show k<9223372036854775807 by omega)]
  by_cases h:mv a s k<0
  ·rw[if_pos (by simpa using h),aT (by simp;omega),show ent a c s k= -1 from by unfold ent;rw[if_pos h]];rfl
  ·rw[if_neg (by simpa using h),aB (by omega) (by omega)];simp only[ae]
   rw[aT (by simp;omega),show ent a c s k=nth c (mv a s k) from by unfold ent;rw[if_neg h]];rfl) (by unfold iC;simp) (by unfold br;omega)
 exact aD this
theorem Ow (V:VA a n) (hn:n<=1000000) (hc:c.length=n) {s:Nat} (hs:s<n):aK (bJ c (nth a.2.2 (s:Int))) br (0,[nth c (s:Int)])=some (.brk (9,uu a c s)):=by
 have hr:=V.rowAt (s:=s) (by omega) (by omega)
 exact bX (f:=bJ c (nth a.2.2 (s:Int))) (fun k=>((k:Int),nth c (s:Int)::(List.range k).map (fun k=>ent a c s k))) 9 (fun k hk=>by
  have hm:=V.mv (s:=s) (k:=k) (by omega) (by omega) hk
  unfold bJ
  simp only
  rw[if_pos (by simp[hr];omega),V.get2 (by omega) (by omega) hk,AT];simp only[ae,aI (show k<9223372036854775807 by omega)]
  by_cases h:mv a s k<0
  ·have e:mv a s k= -1:=by omega
   rw[if_neg (by simp;omega)];simp only[ae]
   rw[aT (by simp;omega),show ent a c s k=mv a s k from by unfold ent;rw[if_pos h,e]];rfl
  ·rw[if_pos (by simp;omega),aB (by omega) (by omega)];simp only[ae]
   rw[aT (by simp;omega),show ent a c s k=nth c (mv a s k) from by unfold ent;rw[if_neg h]];rfl) (by unfold bJ;simp[hr]) (by unfold br;omega)
theorem xJ {κ:Type} [DecidableEq κ] {l t r:List κ} {x:κ} (e:l=t++x::r) (hx:x∉t):nbI l (some x)=(t.length:Int):=by
 subst e
 simp only[nbI]
 rw[List.idxOf_append,if_neg hx,List.idxOf_cons_self,Nat.zero_add]
def Ng (l:List (List Int)) (x:List Int):Int:=if x∈l then nbI l (some x) else -1
theorem Nh {l:List (List Int)} {x cs:List Int} {q:Int} (hl:l.length<=1000000) (hd:l.Nodup) (hx: ∀y∈l,y.length<=1048576):aK (dC (l,cs,q) x) br (-1,0)=some (.brk (Ng l x,(l.length:Int))):=by
 have:=bX (f:=dC (l,cs,q) x) (fun k=>(if x∈l.take k then nbI l (some x) else -1,(k:Int))) l.length (fun k hk=>by
  unfold dC
  simp only
  rw[if_pos (by simp;omega),aB (by omega) (by omega)];simp only[ae,Int.toNat_natCast,aI (show k<9223372036854775807 by omega)]
  obtain ⟨r,e,hr⟩:=zu (nth l (k:Int)) x (hx _ (cS (by omega) (by omega)))
  rw[e,take_one hk];simp only[ae,List.mem_append,List.mem_singleton]
  by_cases h:nth l (k:Int)=x
  ·have h0:r=0:=hr.2 h
   have hm:x∈l:=h ▸ cS (by omega) (by omega)
   obtain ⟨q,hq,e1,e2⟩:=jV hm
   have:q=k:=by
    have h1:l[q]? =some x:=by rw[List.getElem?_eq_getElem hq,e2]
    have h2:l[k]? =some x:=by rw[List.getElem?_eq_getElem hk,<-a9 hk,h]
    exact (List.getElem?_inj hq hd).1 (h1.trans h2.symm)
   subst this
   rw[if_pos (by simp[h0]),if_pos (.inr h.symm),e1];rfl
  ·have h0:r≠0:=fun e=>h (hr.1 e)
   have hn: ¬x=nth l (k:Int):=fun e=>h e.symm
   rw[if_neg (by simpa using h0)]
   simp[hn]) (by unfold dC;simp) (kV (by omega))
 rw[List.take_of_length_le (az _)] at this
 exact this
theorem Ni {l:List (List Int)} {x:List Int} {f:List Int->Option Bool} (hl:l.length<=1000000) (hf: ∀y∈l,f y=some (decide (y=x))):be l f=some (Ng l x):=by
 unfold be
 obtain ⟨o,e,hq⟩:=da (f:=bw l f) (fun k s=>s=(k:Int)/\x∉l.take k) (fun o=>(x∈l/\o= .ret (nbI l (some x)))\/(x∉l/\ ∃s,o= .brk s)) l.length (s:=0) (by
  rintro k s hk ⟨rfl,hx⟩
  unfold bw
  by_cases hkl:k<l.length
  ·rw[if_pos (by simp;omega),aB (by omega) (by omega)];simp only[ae]
   rw[hf _ (cS (by omega) (by omega))];simp only[ae]
   by_cases h:nth l (k:Int)=x
   ·refine .inr ⟨_,by rw[if_pos (by simpa using h)],(fun s' e=>by cases e),.inl ?_⟩
    have hm:x∈l:=h ▸ cS (by omega) (by omega)
    refine ⟨hm,?_⟩
    have e:l=l.take k++(x::l.drop (k+1)):=by
     rw[<-h,a9 hkl,<-List.drop_eq_getElem_cons hkl,List.take_append_drop]
    rw[xJ e hx,aF,Nat.min_eq_left (by omega)]
   ·refine .inl ⟨hkl,_,by rw[if_neg (by simpa using h)],by rw[aI (by omega)],?_⟩
    rw[take_one hkl,List.mem_append,List.mem_singleton]
    rintro (h' | h')
    ·exact hx h'
    ·exact h h'.symm
  ·refine .inr ⟨_,by rw[if_neg (by simp;omega)],(fun s' e=>by cases e),.inr ⟨?_,_,rfl⟩⟩
   rwa [List.take_of_length_le (by omega)] at hx) ⟨rfl,by simp⟩ (kV (by omega))
 unfold Ng
 rcases hq with ⟨hx,rfl⟩ | ⟨hx,s,rfl⟩
 ·rw[bS e,if_pos hx]
 ·rw[aD e,if_neg hx]
theorem sD {os:List (Option (List Int))} (h: ∀y,some y∈os->y.length=10): ∀y∈nbS [] os,y.length=10:=fun y hy=>by
 rcases kW.1 hy with hy | hy
 ·cases hy
 ·exact h y hy
theorem uy (a:AutT) (c:List Int): ∀y,some y∈keys a c->y.length=10:=by
 intro y hy
 obtain ⟨s,-,e⟩:=List.mem_map.1 hy
 unfold tp at e
 split at e
 ·cases e
 ·rw[<-aa e];simp[uu]
section
variable (V:VA a n) (hn:n<=1000000) (hc:c.length=n)
include V hn hc
theorem AU (s:Nat):(nbS [] ((keys a c).take s)).length<=n:=by
 have:=kX ([] :List (List Int)) ((keys a c).take s)
 rw[aF,cT,V.len] at this
 simp at this;omega
theorem HL {m:Int} :aK (dD a (c,m)) br ([],[],0)=some (.brk (nbS [] (keys a c),sV a c,(n:Int))):=by
 have hlen:=V.len
 have:=bX (f:=dD a (c,m)) (fun s=>(nbS [] ((keys a c).take s),nbR [] ((keys a c).take s),(s:Int))) n (fun s hs=>by
  have hkl:=AU V hn hc s
  have hrl:(nbR [] ((keys a c).take s)).length<=n:=by rw[cZ,aF,cT];omega
  unfold dD
  simp only
  rw[if_pos (by simp;omega),aB (by omega) (by omega)];simp only[ae]
  rw[take_one (by rw[cT];omega),mK,mL,zw (by omega)]
  simp only[aI (show s<9223372036854775807 by omega)]
  by_cases h:nth c (s:Int)<0
  ·rw[if_pos (by simpa using h),aT (by simp;omega),show tp a c s=none from by unfold tp;rw[if_pos h]];rfl
  ·rw[if_neg (by simpa using h),show tp a c s=some (uu a c s) from by unfold tp;rw[if_neg h]]
   rw[show j8 (a.1,a.2.1,a.2.2) c (s:Int)=some (uu a c s) from Ov V hn hc hs];simp only[ae]
   rw[aD (Nh (by omega) (ku (by simp)) (fun y hy=>by rw[sD (fun y hy=>uy a c y (List.mem_of_mem_take hy)) y hy];decide))]
   simp only
   unfold Ng
   by_cases k:uu a c s∈nbS [] ((keys a c).take s)
   ·obtain ⟨q,hq,e1,e2⟩:=jV k
    rw[if_pos k,fJ k,e1,if_neg (by simp)];simp only[ae]
    rw[aT (by simp;omega)];rfl
   ·rw[if_neg k,fj k,vP k,if_pos (show decide ((-1:Int)<0)=true from rfl),aT (by simp;omega)];simp only[ae]
    rw[aT (by simp;omega)];rfl) (by
  unfold dD
  simp only
  rw[if_neg (by simp;omega)]) (kV (by omega))
 rw[show (keys a c).take n=keys a c from List.take_of_length_le (by rw[cT];omega)] at this
 exact this
theorem HM:cA a c=some (sV a c,(qL a c:Int)):=by
 have hlen:=V.len
 unfold cA
 have:=bX (f:=cG a c) (fun s=>(nbS [] ((keys a c).take s),nbR [] ((keys a c).take s),(s:Int))) n (fun s hs=>by
  have hkl:=AU V hn hc s
  have hrl:(nbR [] ((keys a c).take s)).length<=n:=by rw[cZ,aF,cT];omega
  unfold cG
  simp only
  rw[if_pos (by simp;omega),aB (by omega) (by omega)];simp only[ae]
  rw[take_one (by rw[cT];omega),mK,mL,zw (by omega)]
  simp only[aI (show s<9223372036854775807 by omega)]
  by_cases h:nth c (s:Int)<0
  ·rw[if_pos (by simpa using h),aT (by simp;omega),show tp a c s=none from by unfold tp;rw[if_pos h]];rfl
  ·rw[if_neg (by simpa using h),show tp a c s=some (uu a c s) from by unfold tp;rw[if_neg h],V.get (by omega) (by omega)];simp only[ae]
   rw[aD (Ow V hn hc hs)];simp only
   rw[Ni (x:=uu a c s) (by omega) (fun y hy=>by
    unfold dX
    rw[xI _ _ (by rw[sD (fun y hy=>uy a c y (List.mem_of_mem_take hy)) y hy];decide)];rfl)];simp only[ae]
   unfold Ng
   by_cases k:uu a c s∈nbS [] ((keys a c).take s)
   ·obtain ⟨q,hq,e1,e2⟩:=jV k
    rw[if_pos k,fJ k,e1,if_neg (by simp)];simp only[ae]
    rw[aT (by simp;omega)];rfl
   ·rw[if_neg k,fj k,vP k,if_pos (show decide ((-1:Int)<0)=true from rfl),aT (by simp;omega)];simp only[ae]
    rw[aT (by simp;omega)];rfl) (by
  unfold cG
  simp only
  rw[if_neg (by simp;omega)]) (kV (by omega))
 rw[show (keys a c).take n=keys a c from List.take_of_length_le (by rw[cT];omega)] at this
 exact aD this
end
end
section
variable {a:AutT} {n:Nat} (V:VA a n) (hn:n<=1000000)
include V hn
theorem xK (s:Nat):(List.range (s+1)).map (fun s:Nat=>if nth (live a) (s:Int)=true then (if nth a.2.1 (s:Int)=true then (1:Int) else 0) else -1)=(List.range s).map (fun s:Nat=>if nth (live a) (s:Int)=true then (if nth a.2.1 (s:Int)=true then 1 else 0) else -1)++ [if nth (live a) (s:Int)=true then (if nth a.2.1 (s:Int)=true then 1 else 0) else -1]:=by simp[List.range_succ]
theorem Nj:aK (dB a (live a)) br ([],0)=some (.brk (AS a,(n:Int))):=by
 have hlen:=V.len
 have hll:(live a).length=n:=by rw[fK,hlen]
 have:=bX (f:=dB a (live a)) (fun s=>((List.range s).map (fun s:Nat=>if nth (live a) (s:Int)=true then (if nth a.2.1 (s:Int)=true then (1:Int) else 0) else -1),(s:Int))) n (fun s hs=>by
  unfold dB
  simp only
  rw[if_pos (by simp;omega),V.acc (by omega) (by omega)];simp only[ae]
  rw[xK V hn,aB (xs:=live a) (by omega) (by omega)];simp only[aI (show s<9223372036854775807 by omega)]
  cases nth (live a) (s:Int) <;> cases nth a.2.1 (s:Int) <;> simp only[if_true,if_false,Bool.false_eq_true,ae] <;> rw[aT (by simp;omega)] <;> rfl) (by
  unfold dB
  simp only
  rw[if_neg (by simp;omega)]) (kV (by omega))
 unfold AS
 rw[hlen]
 exact this
theorem Nk:aK (bD a (live a)) br ([],0)=some (.brk (AS a,(n:Int))):=by
 have hlen:=V.len
 have hll:(live a).length=n:=by rw[fK,hlen]
 have:=bX (f:=bD a (live a)) (fun s=>((List.range s).map (fun s:Nat=>if nth (live a) (s:Int)=true then (if nth a.2.1 (s:Int)=true then (1:Int) else 0) else -1),(s:Int))) n (fun s hs=>by
  unfold bD
  simp only
  rw[if_pos (by simp;omega),aB (xs:=live a) (by omega) (by omega)];simp only[ae]
  rw[xK V hn,V.acc (by omega) (by omega)];simp only[aI (show s<9223372036854775807 by omega)]
  cases nth (live a) (s:Int) <;> cases nth a.2.1 (s:Int) <;> simp only[if_true,if_false,Bool.false_eq_true,ae] <;> rw[aT (by simp;omega)] <;> rfl) (by
  unfold bD
  simp only
  rw[if_neg (by simp;omega)]) (kV (by omega))
 unfold AS
 rw[hlen]
 exact this
theorem EU: ∃J,cI a (J+1)=cI a J/\fx a=some (cI a J):=by
 have hlen:=V.len
 unfold fx
 rw[show fI (a.1,a.2.1,a.2.2)=some (live a) from EI V hn];simp only[ae]
 rw[aD (Nj V hn)]
 obtain ⟨J0,hJ0,hfix⟩:=Ls a
 obtain ⟨o,e,j,rfl,hj⟩:=da (f:=gM a) (fun j s=>s=(cI a j,(j:Int))/\j<=J0) (fun o=> ∃j,o= .ret (cI a j)/\cI a (j+1)=cI a j) (J0+1) (s:=(cI a 0,0)) (by
  rintro j s hj ⟨rfl,hjJ⟩
  have hcl:(cI a j).length=n:=by rw[ju,hlen]
  unfold gM
  simp only
  rw[if_pos (by simp;omega),aD (HL V hn hcl)]
  simp only
  obtain ⟨r,er,hr⟩:=zu (sV a (cI a j)) (cI a j) (by rw[sA];omega)
  rw[er];simp only[ae,aI (show j<9223372036854775807 by omega)]
  by_cases h:sV a (cI a j)=cI a j
  ·exact .inr ⟨_,by rw[if_pos (by simpa using hr.2 h)],(fun s' e=>by cases e),j,rfl,h⟩
  ·refine .inl ⟨by omega,(cI a (j+1),((j+1:Nat):Int)),by rw[if_neg (by simpa using fun e=>h (hr.1 e))];rfl,rfl,?_⟩
   by_cases e:j=J0
   ·subst e;exact absurd hfix h
   ·omega) ⟨rfl,Nat.zero_le _⟩ (kV (by omega))
 exact ⟨j,hj,bS e⟩
theorem EV: ∃J,cI a (J+1)=cI a J/\cj a=some (cI a J):=by
 have hlen:=V.len
 unfold cj
 rw[show bI (a.1,a.2.1,a.2.2)=some (live a) from EK V hn];simp only[ae]
 rw[aD (Nk V hn)]
 let kk:Nat->Int:=fun j=>match j with | 0=> -1 | i+1=>(qL a (cI a i):Int)
 obtain ⟨o,e,j,rfl,hj⟩:=da (f:=dz a) (fun j s=>s=(cI a j,kk j)/\(j:Int)<=kk j+1) (fun o=> ∃j,o= .ret (cI a j)/\cI a (j+1)=cI a j) (n+2) (s:=(cI a 0,-1)) (by
  rintro j s hj ⟨rfl,hjk⟩
  have hcl:(cI a j).length=n:=by rw[ju,hlen]
  have hle:=zx a (cI a j)
  unfold dz
  simp only
  rw[show cA (a.1,a.2.1,a.2.2) (cI a j)=some (sV a (cI a j),(qL a (cI a j):Int)) from HM V hn hcl];simp only[ae]
  cases j with
  | zero =>
   refine .inl ⟨by omega,(cI a 1,kk 1),by rw[if_neg (by show¬((qL a (cI a 0):Int) == -1)=true;simp)];rfl,rfl,?_⟩
   show (1:Int)<=(qL a (cI a 0):Int)+1
   omega
  | succ i =>
   obtain ⟨g1,g2⟩:=ES a i
   have hki:kk (i+1)=(qL a (cI a i):Int):=rfl
   rw[hki] at hjk⊢
   by_cases h:qL a (cI a (i+1))=qL a (cI a i)
   ·refine .inr ⟨.ret (cI a (i+2)),by rw[if_pos (by simp[h])];rfl,(fun s' e=>by cases e),i+2,rfl,?_⟩
    have:=g2 h
    show sV a (cI a (i+2))=cI a (i+2)
    rw[this];exact this
   ·refine .inl ⟨?_,(cI a (i+2),kk (i+2)),by rw[if_neg (by simp;omega)];rfl,rfl,?_⟩
    ·omega
    ·show ((i+1+1:Nat):Int)<=(qL a (cI a (i+1)):Int)+1
     omega) ⟨rfl,by show ((0:Nat):Int)<= -1+1;omega⟩ (kV (by omega))
 exact ⟨j,hj,bS e⟩
theorem B6: ∃c,fx a=some c/\cj a=some c/\c.length=n/\sV a c=c/\ ∃j,c=cI a j:=by
 obtain ⟨J,hJ,es⟩:=EU V hn
 obtain ⟨J',hJ',ei⟩:=EV V hn
 have:=ET hJ hJ'
 exact ⟨cI a J,es,by rw[this];exact ei,by rw[ju,V.len],hJ,J,rfl⟩
end
end D
namespace D
open Go.RowKit
section
variable {κ:Type} [DecidableEq κ] [Inhabited κ] {nx:κ->List (Option κ)} {first:κ} {G:κ->Prop} {B N:Nat} {acc:κ->Bool}
theorem sE: ∀(l:List κ) (os:List (Option κ)),∀t∈nbR l os,-1<=t/\t<((nbS l os).length:Int)
 | l,[] =>fun t ht=>by cases ht
 | l,o::os=>fun t ht=>by
  have hp:=fW (nbL l o) os
  have hl:=hp.length_le
  rcases au ht with rfl | ht
  ·show -1<=nbI l o/\nbI l o<((nbS (nbL l o) os).length:Int)
   cases o with
   | none=>exact ⟨by simp[nbI],by simp only[nbI];omega⟩
   | some y =>
    by_cases c:y∈l
    ·obtain ⟨q,hq,e,-⟩:=jV c
     rw[fJ c] at hl
     rw[e];exact ⟨by omega,by rw[fJ c];omega⟩
    ·rw[fj c] at hl
     rw[vP c];rw[aw] at hl
     exact ⟨by omega,by rw[fj c];simp at hl;omega⟩
  ·exact sE (nbL l o) os t ht
theorem Jf (H:NumOk nx first G B) (hN:bfE nx first N):VA ((0,(bfS nx first N).map acc,bfR nx first N):AutT) N:=by
 have h0:0<N:=by
  have:=kz (nx:=nx) (first:=first) N
  have:=(List.getElem?_eq_some_iff.1 this).1
  have:=hN.1;omega
 have key: ∀i,i<=N-> ∀r∈bfR nx first i,r.length=9/\ ∀t∈r,-1<=t/\t<(N:Int):=by
  intro i
  induction i with
  | zero=>intro _ r hr;cases hr
  | succ i ih =>
   intro hi r hr
   have hlt:=hN.2 i (by omega)
   rw[mM hlt] at hr
   rcases aA hr with hr | hr
   ·exact ih (by omega) r hr
   ·obtain rfl:=ak hr
    refine ⟨by rw[cZ,H.len _ (db H.g0 H.gn i _ (List.getElem_mem hlt))],fun t ht=>?_⟩
    have:=sE _ _ t ht
    rw[<-qJ hlt] at this
    have hl:=(iN (nx:=nx) (first:=first) hi).length_le
    have:=hN.1
    omega
 exact ⟨by show ((bfS nx first N).map acc).length=N;rw[List.length_map];exact hN.1.symm,⟨Int.le_refl _,by show (0:Int)<N;omega⟩,fc hN.2,fun r hr=>(key N (az _) r hr).1,fun r hr=>(key N (az _) r hr).2⟩
theorem EW (hlen: ∀x,(nx x).length=9) (hN:bfE nx first N):VA ((0,(bfS nx first N).map acc,bfR nx first N):AutT) N:=by
 have h0:0<N:=by
  have:=kz (nx:=nx) (first:=first) N
  have:=(List.getElem?_eq_some_iff.1 this).1
  have:=hN.1;omega
 have key: ∀i,i<=N-> ∀r∈bfR nx first i,r.length=9/\ ∀t∈r,-1<=t/\t<(N:Int):=by
  intro i
  induction i with
  | zero=>intro _ r hr;cases hr
  | succ i ih =>
   intro hi r hr
   have hlt:=hN.2 i (by omega)
   rw[mM hlt] at hr
   rcases aA hr with hr | hr
   ·exact ih (by omega) r hr
   ·obtain rfl:=ak hr
    refine ⟨by rw[cZ,hlen _],fun t ht=>?_⟩
    have:=sE _ _ t ht
    rw[<-qJ hlt] at this
    have hl:=(iN (nx:=nx) (first:=first) hi).length_le
    have:=hN.1
    omega
 exact ⟨by show ((bfS nx first N).map acc).length=N;rw[List.length_map];exact hN.1.symm,⟨Int.le_refl _,by show (0:Int)<N;omega⟩,fc hN.2,fun r hr=>(key N (az _) r hr).1,fun r hr=>(key N (az _) r hr).2⟩
end
theorem VA.self {a:AutT} {n:Nat} (v:VA a n):VA a a.2.1.length:=by
 have e:=v.len
 subst e
 exact v
theorem pP:VA nothing 1:=⟨rfl,⟨by decide,by decide⟩,rfl,fun r hr=>by
 obtain rfl:=ak hr
 decide,fun r hr=>by
 obtain rfl:=ak hr
 decide⟩
end D
namespace D
open Go.RowKit
theorem Lt {l:List Int} {x:Int} (hl:l.length<=1000000) (hx:x∈l):aR x l=some (nbI l (some x)):=by
 unfold aR cX
 obtain ⟨o,e,hq⟩:=da (f:=cx l x) (fun k s=>s=(k:Int)/\x∉l.take k) (fun o=>o= .ret (nbI l (some x))) l.length (s:=0) (by
  rintro k s hk ⟨rfl,hx'⟩
  unfold cx
  by_cases hkl:k<l.length
  ·rw[if_pos (by simp;omega),aB (by omega) (by omega)];simp only[ae]
   by_cases h:nth l (k:Int)=x
   ·refine .inr ⟨_,by rw[if_pos (by simp[h])],(fun s' e=>by cases e),?_⟩
    have e:l=l.take k++(x::l.drop (k+1)):=by
     rw[<-h,a9 hkl,<-List.drop_eq_getElem_cons hkl,List.take_append_drop]
    rw[xJ e hx',aF,Nat.min_eq_left (by omega)]
   ·have h': ¬x=nth l (k:Int):=fun e=>h e.symm
    refine .inl ⟨hkl,_,by rw[if_neg (by simpa using h')],by rw[aI (by omega)],?_⟩
    rw[take_one hkl,List.mem_append,List.mem_singleton]
    rintro (h' | h')
    ·exact hx' h'
    ·exact h h'.symm
  ·rw[List.take_of_length_le (by omega)] at hx'
   exact absurd hx hx') ⟨rfl,by simp⟩ (kV (by omega))
 subst hq
 rw[bS e];rfl
section
variable {a:AutT} {n:Nat}
def rep (c:List Int) (x:Int):Int:=nbI c (some x)
theorem EX {c:List Int} {x:Int} (h:x∈c):0<=rep c x/\rep c x<c.length/\nth c (rep c x)=x:=by
 obtain ⟨q,hq,e1,e2⟩:=jV h
 unfold rep
 rw[e1]
 exact ⟨by omega,by omega,by rw[a9 hq,e2]⟩
def L8 (a:AutT) (n:Nat) (r:AutT):Prop:=(nth (live a) a.1=false/\r=nothing)\/(nth (live a) a.1=true/\ ∃(j:Nat) (c:List Int) (nx:Int->List (Option Int)) (ac:Int->Bool) (N:Nat),c=cI a j/\(∀r,good n (live a) r->nx (nth c r)=fZ a c (live a) r)/\(∀r,good n (live a) r->ac (nth c r)=nth a.2.1 r)/\bfE nx (nth c a.1) N/\(∀x∈bfS nx (nth c a.1) N,(nx x).length=9)/\r=(0,(bfS nx (nth c a.1) N).map ac,bfR nx (nth c a.1) N))
theorem uz (V:VA a n) (hn:n<=1000000): ∃r,gx a=some r/\bQ a=some r/\Data.sm r/\VA r r.2.1.length/\r.2.1.length<=n/\L8 a n r:=by
 have hlen:=V.len
 have hst:=V.start
 have hll:(live a).length=n:=by rw[fK,hlen]
 obtain ⟨c,es,ei,hcl,hfix,j,hj⟩:=B6 V hn
 have hneg: ∀s:Int,0<=s->s<n->(nth c s<0↔nth (live a) s=false):=fun s h0 h1=>by
  have:=(sC a (s:=s.toNat) (by omega) j).1
  rw[<-hj,show ((s.toNat:Nat):Int)=s from by omega] at this
  exact this
 have hlt: ∀s:Int,0<=s->s<n->nth c s<n:=fun s h0 h1=>by
  have:=Lq (c:=c) (a:=a) (s:=s.toNat) (by omega)
  rw[hfix,hlen,show ((s.toNat:Nat):Int)=s from by omega] at this
  exact this
 have hpos: ∀r,good n (live a) r->0<=nth c r:=fun r hr=>by
  have:=hneg r hr.1 hr.2.1
  by_cases k:nth c r<0
  ·have:=this.1 k;rw[hr.2.2] at this;cases this
  ·omega
 have hkey: ∀r t:Int,0<=r->r<n->0<=t->t<n->0<=nth c r->nth c r=nth c t->uu a c r=uu a c t:=fun r t r0 r1 t0 t1 h0 h=>by
  have:=ER (a:=a) (c:=c) (s:=r.toNat) (t:=t.toNat) (by omega) (by omega) (by rw[hfix,show ((r.toNat:Nat):Int)=r from by omega];exact h0) (by rw[hfix,show ((r.toNat:Nat):Int)=r from by omega,show ((t.toNat:Nat):Int)=t from by omega];exact h)
  rwa [show ((r.toNat:Nat):Int)=r from by omega,show ((t.toNat:Nat):Int)=t from by omega] at this
 have hacc: ∀r t:Int,0<=r->r<n->0<=t->t<n->0<=nth c r->nth c r=nth c t->nth a.2.1 r=nth a.2.1 t:=fun r t r0 r1 t0 t1 h0 h=>by
  have:=Jb a (s:=r.toNat) (t:=t.toNat) (by omega) (by omega) j (by rw[<-hj,show ((r.toNat:Nat):Int)=r from by omega];exact h0) (by rw[<-hj,show ((r.toNat:Nat):Int)=r from by omega,show ((t.toNat:Nat):Int)=t from by omega];exact h)
  rwa [show ((r.toNat:Nat):Int)=r from by omega,show ((t.toNat:Nat):Int)=t from by omega] at this
 have hsuccs: ∀r,good n (live a) r->fZ a c (live a) r=(List.range 9).map fun k=>if 0<=ent a c r k then some (ent a c r k) else none:=fun r hr=>by
  refine List.map_congr_left fun k hk=>?_
  have hk:k<9:=List.mem_range.1 hk
  have hm:=V.mv hr.1 hr.2.1 hk
  unfold ent
  by_cases h:mv a r k<0
  ·rw[if_pos h,if_neg (fun h'=>by omega),if_neg (by omega)]
  ·rw[if_neg h]
   have:=hneg (mv a r k) (by omega) hm.2
   cases hl:nth (live a) (mv a r k) with
   | false =>
    have:=this.2 hl
    rw[if_neg (fun h'=>by cases h'.2),if_neg (by omega)]
   | true =>
    have: ¬nth c (mv a r k)<0:=fun h'=>by have:=this.1 h';rw[hl] at this;cases this
    rw[if_pos ⟨by omega,rfl⟩,if_pos (by omega)]
 have hent: ∀r t:Int,uu a c r=uu a c t-> ∀k,k<9->ent a c r k=ent a c t k:=fun r t h k hk=>by
  have h:(List.range 9).map (fun k=>ent a c r k)=(List.range 9).map (fun k=>ent a c t k):=by unfold uu at h;injection h
  have:=congrArg (fun l:List Int=>l[k]?) h
  simpa [hk] using this
 let nx:Int->List (Option Int):=fun x=>fZ a c (live a) (rep c x)
 let acc:Int->Bool:=fun x=>nth a.2.1 (rep c x)
 let G:Int->Prop:=fun x=> ∃r,good n (live a) r/\nth c r=x
 have Gm: ∀x,G x->x∈c/\0<=x/\good n (live a) (rep c x):=by
  rintro x ⟨r,hr,rfl⟩
  have hm:nth c r∈c:=cS hr.1 (by rw[hcl];exact hr.2.1)
  obtain ⟨h0,h1,h2⟩:=EX hm
  have hp:=hpos r hr
  refine ⟨hm,hp,h0,by omega,?_⟩
  have:=hneg (rep c (nth c r)) h0 (by omega)
  rw[h2] at this
  cases hl:nth (live a) (rep c (nth c r)) with
  | true=>rfl
  | false=>have:=this.2 hl;omega
 have hnx: ∀r,good n (live a) r->nx (nth c r)=fZ a c (live a) r:=fun r hr=>by
  obtain ⟨hm,hp,hg⟩:=Gm _ ⟨r,hr,rfl⟩
  obtain ⟨h0,h1,h2⟩:=EX hm
  show fZ a c (live a) (rep c (nth c r))=_
  rw[hsuccs _ hg,hsuccs _ hr]
  refine List.map_congr_left fun k hk=>?_
  rw[hent _ _ (hkey _ _ hg.1 hg.2.1 hr.1 hr.2.1 (by rw[h2];exact hp) h2) k (List.mem_range.1 hk)]
 have hac: ∀r,good n (live a) r->acc (nth c r)=nth a.2.1 r:=fun r hr=>by
  obtain ⟨hm,hp,hg⟩:=Gm _ ⟨r,hr,rfl⟩
  obtain ⟨h0,h1,h2⟩:=EX hm
  exact hacc _ _ hg.1 hg.2.1 hr.1 hr.2.1 (by rw[h2];exact hp) h2
 have hgn: ∀r,good n (live a) r-> ∀y,some y∈fZ a c (live a) r->G y:=fun r hr y h=>by
  obtain ⟨k,hk,e⟩:=List.mem_map.1 h
  have hk:k<9:=List.mem_range.1 hk
  split at e
  ·rename_i hc
   exact ⟨mv a r k,⟨hc.1,(V.mv hr.1 hr.2.1 hk).2,hc.2⟩,aa e⟩
  ·cases e
 unfold gx bQ
 simp only[mW]
 rw[es,ei,EI V hn];simp only[ae]
 rw[aB hst.1 (by omega)];simp only[ae]
 cases hs:nth (live a) a.1 with
 | false =>
  have:=(hneg a.1 hst.1 hst.2).2 hs
  rw[sy V hll hs,if_pos (by simpa using this),xG]
  exact ⟨nothing,rfl,rfl,uw,pP,V.pos,.inl ⟨hs,rfl⟩⟩
 | true =>
  have hst':good n (live a) a.1:=⟨hst.1,hst.2,hs⟩
  have hp:=hpos _ hst'
  have H:NumOk nx (nth c a.1) G n:=⟨⟨a.1,hst',rfl⟩,fun x hx y hy=>hgn _ (Gm x hx).2.2 y hy,fun x hx=>by simp[nx,fZ],fun l hd h=>uv n l hd fun x hx=>by
   obtain ⟨r,hr,rfl⟩:=h x hx
   exact ⟨hpos r hr,hlt r hr.1 hr.2.1⟩⟩
  obtain ⟨N,hN,e1⟩:=I9 (acc:=acc) V hn hcl hll hs H hn hnx hac
  have hfirst: ∀x,G x->aR x c=some (rep c x):=fun x hx=>Lt (by omega) (Gm x hx).1
  obtain ⟨N',hN',e2⟩:=I7 (most:=(c.length:Int)) (p2:=fun a0=>bE a0 (a.1,a.2.1,a.2.2) (fun a0=>aR a0 c)) (p3:=fun a0 a1=>bF a0 a1 (a.1,a.2.1,a.2.2) (fun a0=>aR a0 c) c) (acc:=acc) H hn (by omega) (fun x hx=>Jd hn (Gm x hx).2.1 (by
    obtain ⟨r,hr,rfl⟩:=hx
    exact hlt r hr.1 hr.2.1)) (fun x hx=>by
   show bE x (a.1,a.2.1,a.2.2) (fun a0=>aR a0 c)=_
   unfold bE
   simp only
   rw[hfirst x hx];simp only[ae]
   rw[V.acc (Gm x hx).2.2.1 (Gm x hx).2.2.2.1];rfl) (fun x k hx hk=>by
   obtain ⟨hm,hx0,hg⟩:=Gm x hx
   have hm':=V.mv hg.1 hg.2.1 hk
   refine ⟨0,?_⟩
   show bF x k (a.1,a.2.1,a.2.2) (fun a0=>aR a0 c) c=_
   unfold bF
   simp only
   rw[hfirst x hx];simp only[ae]
   rw[show aV (a.1,a.2.1,a.2.2) (rep c x) k=some (mv a (rep c x) k) from ED V hg.1 hg.2.1 hk];simp only[ae]
   show _=some (match nth (fZ a c (live a) (rep c x)) (k:Int) with | some y=>(y,true) | none=>(0,false))
   rw[qK hk]
   by_cases h:mv a (rep c x) k<0
   ·rw[if_pos (by simpa using h),if_neg (fun h'=>by omega)]
   ·rw[if_neg (by simpa using h),aB (by omega) (by omega)];simp only[ae]
    have hng:=hneg (mv a (rep c x) k) (by omega) hm'.2
    cases hl:nth (live a) (mv a (rep c x) k) with
    | false =>
     have:=hng.2 hl
     rw[if_pos (by simpa using this),if_neg (fun h'=>by cases h'.2)]
    | true =>
     have: ¬nth c (mv a (rep c x) k)<0:=fun h'=>by have:=hng.1 h';rw[hl] at this;cases this
     rw[if_neg (by simpa using this),if_pos ⟨by omega,rfl⟩])
  obtain rfl:=vN hN hN'
  have v:=Jf (acc:=acc) H hN
  refine ⟨_,by rw[e1];rfl,?_,Je H hn hN,v.self,?_,.inr ⟨hs,j,c,nx,acc,N,hj,hnx,hac,hN,fun x _=>by simp[nx,fZ],rfl⟩⟩
  rotate_left
  ·rw[v.len,hN.1];exact H.bound _ (fy N) (db H.g0 H.gn N)
  rw[if_neg (by simp;omega)]
  exact (congrArg (fun x=>Option.bind x _) e2).trans rfl
end
end D
namespace D
open Go.RowKit
theorem xL {a:AutT} {n:Nat} (V:VA a n) {s:Int} (h0:0<=s) (h1:s<n):aW a s=some (nth a.2.1 s):=by
 unfold aW
 rw[if_pos (by simpa using h0),V.acc h0 h1];rfl
theorem vR {a:AutT} {s:Int} (h0:s<0):aW a s=some false:=by
 unfold aW;rw[if_neg (by simp;omega)]
end D
namespace D
open Go.RowKit
section
variable {a b:AutT} {n m:Nat}
def mvn (a:AutT) (s:Int) (k:Nat):Int:=if s<0 then -1 else mv a s k
def acn (a:AutT) (s:Int):Bool:=if s<0 then false else nth a.2.1 s
theorem Jg (V:VA a n) {s:Int} {k:Nat} (h0: -1<=s) (h1:s<n) (hk:k<9): -1<=mvn a s k/\mvn a s k<n:=by
 unfold mvn
 split
 ·have:=V.pos;omega
 ·exact V.mv (by omega) h1 hk
theorem Nl (V:VA a n) {s:Int} {k:Nat} (h0: -1<=s) (h1:s<n) (hk:k<9):jg a s (k:Int)=some (mvn a s k):=by
 unfold mvn jg
 by_cases c:s<0
 ·rw[if_pos (by simpa using c),if_pos c]
 ·rw[if_neg (by simpa using c),if_neg c,V.get (by omega) h1];simp only[ae]
  rw[V.get2 (by omega) h1 hk];rfl
theorem Pc (V:VA a n) {s:Int} (h0: -1<=s) (h1:s<n):aW a s=some (acn a s):=by
 unfold acn
 split
 ·exact vR ‹_›
 ·exact xL V (by omega) h1
theorem Nm (V:VA a n) {s:Int} (h0: -1<=s) (h1:s<n):gz a s=some (acn a s):=by
 unfold acn gz
 by_cases c:s<0
 ·rw[if_neg (by simp;omega),if_pos c]
 ·rw[if_pos (by simp;omega),if_neg c,V.acc (by omega) h1];rfl
def nxP (a b:AutT) (x:Int×Int):List (Option (Int×Int)):=(List.range 9).map fun k=>some (mvn a x.1 k,mvn b x.2 k)
def inP (n m:Nat) (x:Int×Int):Prop:=(-1<=x.1/\x.1<n)/\ -1<=x.2/\x.2<m
theorem Jh {x:Int×Int} {k:Nat} (hk:k<9):nth (nxP a b x) (k:Int)=some (mvn a x.1 k,mvn b x.2 k):=by
 have:k<(nxP a b x).length:=by simp[nxP];omega
 rw[a9 this];simp[nxP]
theorem zy (n m:Nat) (l:List (Int×Int)) (hd:l.Nodup) (h: ∀x∈l,inP n m x):l.length<=(n+1)*(m+1):=by
 have:=hd.length_le_of_subset (l₂:=(List.range (n+1)).flatMap fun i:Nat=>(List.range (m+1)).map fun j:Nat=>((i:Int) - 1,(j:Int) - 1)) (fun x hx=>by
  obtain ⟨⟨h0,h1⟩,h2,h3⟩:=h x hx
  refine List.mem_flatMap.2 ⟨(x.1+1).toNat,List.mem_range.2 (by omega),List.mem_map.2 ⟨(x.2+1).toNat,List.mem_range.2 (by omega),?_⟩⟩
  exact Prod.ext (by show (((x.1+1).toNat:Nat):Int) - 1=x.1;omega) (by show (((x.2+1).toNat:Nat):Int) - 1=x.2;omega))
 have e:((List.range (n+1)).flatMap fun i:Nat=>(List.range (m+1)).map fun j:Nat=>((i:Int) - 1,(j:Int) - 1)).length=(n+1)*(m+1):=by
  rw[List.length_flatMap]
  simp only[List.length_map,List.length_range]
  rw[List.map_const',List.sum_replicate_nat,List.length_range]
 omega
theorem oP (Va:VA a n) (Vb:VA b m) (hn:n<=12) (hm:m<=12):NumOk (nxP a b) (a.1,b.1) (inP n m) 169 where
 g0:=⟨⟨by have:=Va.start.1;show -1<=a.1;omega,Va.start.2⟩,by have:=Vb.start.1;show -1<=b.1;omega,Vb.start.2⟩
 gn x hx y hy:=by
  obtain ⟨k,hk,e⟩:=List.mem_map.1 hy
  have hk:k<9:=List.mem_range.1 hk
  obtain rfl:=aa e
  exact ⟨Jg Va hx.1.1 hx.1.2 hk,Jg Vb hx.2.1 hx.2.2 hk⟩
 len x _:=by simp[nxP]
 bound l hd h:=by
  have h1:=zy n m l hd h
  have:(n+1)*(m+1)<=13*13:=Nat.mul_le_mul (by omega) (by omega)
  omega
end
end D
namespace D
open Go.RowKit
section
variable {κ:Type} [DecidableEq κ] {nx:κ->List (Option κ)} {first:κ} {N:Nat}
theorem EY: ∀ {l:List κ} {x:κ} (h:x∈l),l[l.idxOf x]'(List.idxOf_lt_length_iff.2 h)=x:=fun {l x} h=>by simp
def krun (nx:κ->List (Option κ)):Option κ->List Nat->Option κ
 | x,[] =>x
 | none,_::_=>none
 | some x,k::w=>krun nx (nth (nx x) (k:Int)) w
theorem kA (nx:κ->List (Option κ)): ∀w,krun nx none w=none
 | [] =>rfl
 | _::_=>rfl
theorem Nn (E:bfE nx first N) {i:Nat} (hi:i<N) {j:Nat} (hij:i<j) (hj:j<=N):nth (bfR nx first j) (i:Int)=nbR (bfS nx first i) (nx ((bfS nx first i)[i]'(E.2 i hi))):=by
 induction j with
 | zero=>omega
 | succ j ih =>
  rw[mM (E.2 j (by omega))]
  have hl:(bfR nx first j).length=j:=fc fun m hm=>E.2 m (by omega)
  by_cases h:i<j
  ·rw[eS (by omega) (by omega),ih h (by omega)]
  ·obtain rfl:i=j:=by omega
   rw[a9 (by rw[aw,hl];simp)]
   simp[hl]
theorem No {i:Nat} (h:i<(bfS nx first i).length) {j:Nat} (hij:i<=j):(bfS nx first j)[i]? =some ((bfS nx first i)[i]):=by
 have hp:=iN (nx:=nx) (first:=first) hij
 obtain ⟨t,ht⟩:=hp
 rw[<-ht,List.getElem?_append_left h,List.getElem?_eq_getElem h]
theorem EZ (E:bfE nx first N) {x:κ} (hx:x∈bfS nx first N) {k:Nat} (hk:k<(nx x).length) :
  nth (nth (bfR nx first N) ((bfS nx first N).idxOf x:Int)) (k:Int)=(match nth (nx x) (k:Int) with | none=> -1 | some y=>((bfS nx first N).idxOf y:Int))/\ ∀y,nth (nx x) (k:Int)=some y->y∈bfS nx first N:=by
 have hlt:(bfS nx first N).idxOf x<N:=by
  have:=List.idxOf_lt_length_iff.2 hx
  have:=E.1
  omega
 generalize hi:(bfS nx first N).idxOf x=i at hlt⊢
 have hl:=E.2 i hlt
 have hxi:(bfS nx first i)[i] =x:=by
  have h1:=No hl (Nat.le_of_lt hlt)
  have h2:(bfS nx first N)[i]? =some x:=by
   rw[<-hi,List.getElem?_eq_getElem (List.idxOf_lt_length_iff.2 hx),EY hx]
  rw[h1] at h2;exact aa h2
 rw[Nn E hlt hlt (az _),hxi,EO _ _ _ hk]
 have hs:nbS (bfS nx first i) (nx x)=bfS nx first (i+1):=by rw[qJ hl,hxi]
 have hp:nbS (bfS nx first i) (nx x) <+:bfS nx first N:=by rw[hs];exact iN hlt
 cases ho:nth (nx x) (k:Int) with
 | none=>exact ⟨rfl,fun y hy=>by cases hy⟩
 | some y =>
  have hm:some y∈nx x:=by
   rw[<-ho];exact cS (by omega) (by omega)
  have hy:y∈nbS (bfS nx first i) (nx x):=kW.2 (.inr hm)
  refine ⟨?_,fun z hz=>?_⟩
  ·show ((nbS (bfS nx first i) (nx x)).idxOf y:Int)=_
   exact (ur hp hy).symm
  ·obtain rfl:=aa hz
   exact hp.subset hy
end
def ga (a:AutT) (s:Int) (w:List Nat):Int:=w.foldl (mvn a) s
def acw (a:AutT) (w:List Nat):Bool:=acn a (ga a a.1 w)
theorem oQ (a:AutT): ∀(w:List Nat) (s:Int),s<0->ga a s w<0
 | [],s,h=>h
 | k::w,s,h=>by
  show ga a (mvn a s k) w<0
  exact oQ a w _ (by unfold mvn;rw[if_pos h];omega)
theorem nO (a:AutT) (s:Int) (v w:List Nat):ga a s (v++w)=ga a (ga a s v) w:=by unfold ga;rw[List.foldl_append]
section
variable {κ:Type} [DecidableEq κ] {nx:κ->List (Option κ)} {first:κ} {N:Nat}
structure NumA (r:AutT) (nx:κ->List (Option κ)) (first:κ) (ac:κ->Bool) (N:Nat):Prop where
 E:bfE nx first N
 st:r.1=0
 accs:r.2.1=(bfS nx first N).map ac
 rows:r.2.2=bfR nx first N
 len: ∀x∈bfS nx first N,(nx x).length=9
theorem NumA.run {r:AutT} {ac:κ->Bool} (H:NumA r nx first ac N): ∀(w:List Nat) (x:κ),(∀k∈w,k<9)->x∈bfS nx first N->(krun nx (some x) w=none/\D.ga r ((bfS nx first N).idxOf x:Int) w<0)\/ ∃y∈bfS nx first N,krun nx (some x) w=some y/\D.ga r ((bfS nx first N).idxOf x:Int) w=((bfS nx first N).idxOf y:Int)
 | [],x,_,hx=>.inr ⟨x,hx,rfl,rfl⟩
 | k::w,x,hw,hx=>by
  obtain ⟨h1,h2⟩:=EZ H.E hx (k:=k) (by rw[H.len x hx];exact hw k (by simp))
  have e:D.ga r ((bfS nx first N).idxOf x:Int) (k::w)=D.ga r (mvn r ((bfS nx first N).idxOf x:Int) k) w:=rfl
  have em:mvn r ((bfS nx first N).idxOf x:Int) k=nth (nth (bfR nx first N) ((bfS nx first N).idxOf x:Int)) (k:Int):=by
   unfold mvn mv;rw[if_neg (by omega),H.rows]
  have ek:krun nx (some x) (k::w)=krun nx (nth (nx x) (k:Int)) w:=rfl
  rw[e,em,h1,ek]
  cases ho:nth (nx x) (k:Int) with
  | none=>exact .inl ⟨kA nx w,oQ r w _ (by show (-1:Int)<0;omega)⟩
  | some y=>exact NumA.run H w y (fun j hj=>hw j (aS _ hj)) (h2 y ho)
theorem NumA.acw {r:AutT} {ac:κ->Bool} (H:NumA r nx first ac N) {w:List Nat} (hw: ∀k∈w,k<9):D.acw r w=(match krun nx (some first) w with | none=>false | some y=>ac y):=by
 have hf:first∈bfS nx first N:=List.mem_of_getElem? (kz N)
 have h0:(bfS nx first N).idxOf first=0:=by
  have h1:=kz (nx:=nx) (first:=first) N
  cases hL:bfS nx first N with
  | nil=>rw[hL] at h1;cases h1
  | cons z l =>
   rw[hL] at h1
   obtain rfl:=aa (show some z=some first from h1)
   simp
 unfold D.acw
 rw[H.st]
 have hr:=H.run w first hw hf
 rw[h0] at hr
 rcases hr with ⟨h1,h2⟩ | ⟨y,hy,h1,h2⟩
 ·rw[h1]
  have h2:D.ga r 0 w<0:=h2
  unfold acn
  rw[if_pos h2]
 ·rw[h1]
  have h2:D.ga r 0 w=_:=h2
  rw[h2]
  have hlt:=List.idxOf_lt_length_iff.2 hy
  unfold acn
  rw[if_neg (by omega),H.accs]
  show nth (List.map ac (bfS nx first N)) (((bfS nx first N).idxOf y:Nat):Int)=ac y
  rw[a9 (by rw[List.length_map];exact hlt),List.getElem_map,EY hy]
end
section
variable {κ:Type} [DecidableEq κ] {nx:κ->List (Option κ)} {N:Nat} {a:AutT} {good inR:Int->Prop} {f:Int->κ} {ac:κ->Bool}
structure Quot (a:AutT) (nx:κ->List (Option κ)) (ac:κ->Bool) (f:Int->κ) (good inR:Int->Prop):Prop where
 r0:inR a.1
 rin: ∀s k,inR s->k<9->inR (mvn a s k)
 pos: ∀s,good s->0<=s
 yes: ∀s k,good s->k<9->good (mv a s k)->nth (nx (f s)) (k:Int)=some (f (mv a s k))
 no: ∀s k,good s->k<9-> ¬good (mv a s k)->nth (nx (f s)) (k:Int)=none
 acc: ∀s,good s->ac (f s)=nth a.2.1 s
 back: ∀s k,inR s->k<9-> ¬good s-> ¬good (mvn a s k)
 bad: ∀s,inR s-> ¬good s->acn a s=false
theorem Quot.bad_run (Q:Quot a nx ac f good inR): ∀(w:List Nat) (s:Int),(∀k∈w,k<9)->inR s-> ¬good s-> ¬good (ga a s w)/\inR (ga a s w)
 | [],s,_,hi,h=>⟨h,hi⟩
 | k::w,s,hw,hi,h=>Q.bad_run w (mvn a s k) (fun j hj=>hw j (aS _ hj)) (Q.rin s k hi (hw k (by simp))) (Q.back s k hi (hw k (by simp)) h)
theorem Quot.krun (Q:Quot a nx ac f good inR): ∀(w:List Nat) (s:Int),(∀k∈w,k<9)->inR s->good s->(good (ga a s w)/\D.krun nx (some (f s)) w=some (f (ga a s w)))\/(¬good (ga a s w)/\inR (ga a s w)/\D.krun nx (some (f s)) w=none)
 | [],s,_,hi,h=>.inl ⟨h,rfl⟩
 | k::w,s,hw,hi,h=>by
  have hk:k<9:=hw k (by simp)
  have hw': ∀j∈w,j<9:=fun j hj=>hw j (aS _ hj)
  have em:mvn a s k=mv a s k:=by unfold mvn;rw[if_neg (by have:=Q.pos s h;omega)]
  have hi':=Q.rin s k hi hk
  show (good (ga a (mvn a s k) w)/\D.krun nx (nth (nx (f s)) (k:Int)) w=some (f (ga a (mvn a s k) w)))\/(¬good (ga a (mvn a s k) w)/\inR (ga a (mvn a s k) w)/\D.krun nx (nth (nx (f s)) (k:Int)) w=none)
  by_cases hg:good (mv a s k)
  ·rw[Q.yes s k h hk hg,em]
   rw[em] at hi'
   exact Q.krun w _ hw' hi' hg
  ·rw[Q.no s k h hk hg,kA]
   obtain ⟨h1,h2⟩:=Q.bad_run w (mvn a s k) hw' hi' (by rw[em];exact hg)
   exact .inr ⟨h1,h2,rfl⟩
theorem Quot.acw {r:AutT} (Q:Quot a nx ac f good inR) (h0:good a.1) (H:NumA r nx (f a.1) ac N) {w:List Nat} (hw: ∀k∈w,k<9):D.acw r w=D.acw a w:=by
 rw[H.acw hw]
 rcases Q.krun w a.1 hw Q.r0 h0 with ⟨h1,h2⟩ | ⟨h1,h2,h3⟩
 ·rw[h2]
  show ac (f (ga a a.1 w))=acn a (ga a a.1 w)
  rw[Q.acc _ h1]
  unfold acn
  rw[if_neg (by have:=Q.pos _ h1;omega)]
 ·rw[h3]
  exact (Q.bad _ h2 h1).symm
end
theorem sF {a b:AutT} : ∀(w:List Nat) (s t:Int),(∀k∈w,k<9)->krun (nxP a b) (some (s,t)) w=some (ga a s w,ga b t w)
 | [],s,t,_=>rfl
 | k::w,s,t,hw=>by
  show krun (nxP a b) (nth (nxP a b (s,t)) (k:Int)) w=_
  rw[Jh (hw k (by simp))]
  exact sF w _ _ fun j hj=>hw j (aS _ hj)
end D
namespace D
open Go.RowKit
abbrev oY:=(List Int)×Int×Int×(List Int)×Bool
abbrev HO (x:Int) (j:Nat):Bool:=(mZ (k9 x (j:Int)) 1)==1
def E3 (F:List Int) (set m0:Int):Nat->Int
 | 0=>m0
 | i+1=>if HO set (i+1) then orI (E3 F set m0 i) (nth F (i:Int)) else E3 F set m0 i
def pick (L:List Int) (m letter:Int):Nat->Int
 | 0=>0
 | i+1=>if nth L (i:Int)=letter/\HO m i=true then orI (pick L m letter i) (v8 1 ((i+1:Nat):Int)) else pick L m letter i
def aft (p:oY) (set letter:Int):Int:=pick p.1 (E3 p.2.2.2.1 set (if (mZ set 1)==1 then p.2.1 else 0) p.2.2.2.1.length) letter p.1.length
def gN (p:oY) (set:Int):Bool:=if (mZ set 1)==1 then (if p.2.2.2.2 then true else (mZ (k9 set 1) p.2.2.1) !=0) else (mZ (k9 set 1) p.2.2.1) !=0
theorem jW (i:Nat):chk (0<=(i:Int))=some ():=by unfold chk;rw[if_pos (by omega)]
theorem E4 {p:oY} {set letter:Int} (hl:p.2.2.2.1.length=p.1.length) (hb:p.1.length<=1000000):gX p set letter=some (aft p set letter):=by
 have h0: ∀m0,aK (eJ p set) br (m0,0)=some (.brk (E3 p.2.2.2.1 set m0 p.1.length,(p.1.length:Int))):=fun m0 =>
  bX (f:=eJ p set) (fun i=>(E3 p.2.2.2.1 set m0 i,(i:Int))) p.1.length (fun i hi=>by
   unfold eJ
   simp only
   rw[if_pos (by simp;omega),aI (by omega),jW];simp only[ae]
   rw[E3]
   by_cases c:HO set (i+1)=true
   ·rw[if_pos c,if_pos c,aB (by omega) (by omega)];rfl
   ·rw[if_neg c,if_neg c];rfl) (by unfold eJ;simp) (kV (by omega))
 have h1: ∀s7:Int×Int,aK (eK p letter s7) br (0,0)=some (.brk (pick p.1 s7.1 letter p.1.length,(p.1.length:Int))):=fun s7 =>
  bX (f:=eK p letter s7) (fun i=>(pick p.1 s7.1 letter i,(i:Int))) p.1.length (fun i hi=>by
   unfold eK
   simp only
   rw[if_pos (by simp;omega),aI (by omega),jW,jW];simp only[ae]
   rw[pick]
   by_cases c:HO s7.1 i=true
   ·rw[if_pos c,aB (by omega) (by omega)];simp only[ae]
    by_cases d:nth p.1 (i:Int)=letter
    ·rw[if_pos (by simpa using d),if_pos ⟨d,c⟩];rfl
    ·rw[if_neg (by simpa using d),if_neg (fun h=>d h.1)];rfl
   ·rw[if_neg c,if_neg (fun h=>c h.2)];rfl) (by unfold eK;simp) (kV (by omega))
 unfold gX aft
 rw[hl]
 by_cases c:((mZ set 1)==1)=true
 ·rw[if_pos c,if_pos c];simp only[ae]
  rw[aD (h0 _),aD (h1 _)]
 ·rw[if_neg c,if_neg c];simp only[ae]
  rw[aD (h0 _),aD (h1 _)]
theorem Lu {p:oY} {set letter:Int} (hl:p.2.2.2.1.length=p.1.length) (hb:p.1.length<=1000000):dK p set letter=some (aft p set letter):=by
 have h0: ∀m0,aK (bO p set) br (m0,0)=some (.brk (E3 p.2.2.2.1 set m0 p.2.2.2.1.length,(p.2.2.2.1.length:Int))):=fun m0 =>
  bX (f:=bO p set) (fun i=>(E3 p.2.2.2.1 set m0 i,(i:Int))) p.2.2.2.1.length (fun i hi=>by
   unfold bO
   simp only
   rw[if_pos (by simp;omega),aB (by omega) (by omega)];simp only[ae]
   rw[aI (by omega),jW];simp only[ae]
   rw[E3]
   by_cases c:HO set (i+1)=true
   ·rw[if_pos c,if_pos c];rfl
   ·rw[if_neg c,if_neg c];rfl) (by unfold bO;simp) (kV (by omega))
 have h1: ∀s7:Int×Int,aK (bP p letter s7) br (0,0)=some (.brk (pick p.1 s7.1 letter p.1.length,(p.1.length:Int))):=fun s7 =>
  bX (f:=bP p letter s7) (fun i=>(pick p.1 s7.1 letter i,(i:Int))) p.1.length (fun i hi=>by
   unfold bP
   simp only
   rw[if_pos (by simp;omega),aB (by omega) (by omega)];simp only[ae]
   rw[aI (by omega),jW,jW];simp only[ae]
   rw[pick]
   by_cases d:nth p.1 (i:Int)=letter
   ·rw[if_pos (by simpa using d)]
    by_cases c:HO s7.1 i=true
    ·rw[if_pos c,if_pos ⟨d,c⟩];rfl
    ·rw[if_neg c,if_neg (fun h=>c h.2)];rfl
   ·rw[if_neg (by simpa using d),if_neg (fun h=>d h.1)];rfl) (by unfold bP;simp) (kV (by omega))
 unfold dK aft
 by_cases c:((mZ set 1)==1)=true
 ·rw[if_pos c,if_pos c];simp only[ae]
  rw[aD (h0 _),aD (h1 _)]
 ·rw[if_neg c,if_neg c];simp only[ae]
  rw[aD (h0 _),aD (h1 _)]
theorem Ji (p:oY) (x:Int):fu p x=some (gN p x):=by
 unfold fu gN
 split <;> (try split) <;> rfl
theorem Np (p:oY) (x:Int):b8 p x=some (gN p x):=by
 unfold b8 gN
 split <;> (try split) <;> rfl
theorem B7 (x:Int): -9223372036854775808<=i64.wrap x/\i64.wrap x<=9223372036854775807:=by
 simp only[IntKind.wrap,IntKind.bits,IntKind.signed,Bool.true_and]
 split <;> rename_i h <;> simp at h <;> omega
theorem Lv (x:Int):iOk (i64.wrap x)=true:=by
 have h1:i64.min= -9223372036854775808:=by decide
 have h2:i64.max=9223372036854775807:=by decide
 have h3:=B7 x
 simp only[iOk,Lit.wf,h1,h2,ah,decide_eq_true_eq]
 omega
theorem Nq (m n:Int):iOk (orI m n)=true:=Lv _
theorem E5 (L:List Int) (m letter:Int): ∀i,iOk (pick L m letter i)=true
 | 0=>by unfold pick;decide
 | i+1=>by
  rw[pick]
  split
  ·exact Nq _ _
  ·exact E5 L m letter i
def nxS (p:oY) (x:Int):List (Option Int):=(List.range 9).map fun k:Nat=>if aft p x (k:Int)=0 then none else some (aft p x (k:Int))
theorem E6 {p:oY} {x:Int} {k:Nat} (hk:k<9):nth (nxS p x) (k:Int)=if aft p x k=0 then none else some (aft p x k):=by
 have:k<(nxS p x).length:=by simp[nxS];omega
 rw[a9 this];simp[nxS]
theorem pQ (p:oY) (x:Int):(nxS p x).length=9:=by simp[nxS]
theorem Nr {p:oY} {x y:Int} (h:some y∈nxS p x):iOk y=true:=by
 obtain ⟨k,hk,e⟩:=List.mem_map.1 h
 split at e
 ·cases e
 ·obtain rfl:=aa e
  exact E5 _ _ _ _
theorem E7 {κ:Type} [DecidableEq κ] : ∀(l:List κ) (os:List (Option κ)),(nbS l os).length<=l.length+os.length
 | l,[] =>by simp[nbS]
 | l,o::os=>by
  have h:=E7 (nbL l o) os
  have h2:(nbL l o).length<=l.length+1:=by
   cases o with
   | none=>simp[nbL]
   | some x=>unfold nbL;simp only;split <;> simp
  show (nbS (nbL l o) os).length<=_
  simp only[ax];omega
section
variable {κ:Type} [DecidableEq κ] (nx:κ->List (Option κ)) (first:κ) (acc:κ->Bool) (most:Nat)
def goM:Nat->Nat->AutT×Bool
 | 0,i=>((0,[],[]),false)
 | f+1,i=>if i<(bfS nx first i).length then (if (bfS nx first (i+1)).length>most then ((0,[],[]),false) else goM f (i+1)) else ((0,((bfS nx first i).take i).map acc,bfR nx first i),true)
end
section
variable {κ:Type} [DecidableEq κ] {nx:κ->List (Option κ)} {first:κ} {acc:κ->Bool} {most:Nat}
theorem vS {i:Nat} (h: ∀j,j<i->j<(bfS nx first j).length):i<=(bfS nx first i).length:=by
 cases i with
 | zero=>omega
 | succ i =>
  have h1:=h i (by omega)
  have h2:=(ba (nx:=nx) (first:=first) i).length_le
  omega
theorem AW {S:Type} {f:S->Option (Out (AutT×Bool) S)} (hm:most<=1000000) (h1:1<=most) (st:Nat->S->Prop)
  (hs: ∀i s,st i s->(∀j,j<i->j<(bfS nx first j).length)->(bfS nx first i).length<=most->i<(bfS nx first i).length->((bfS nx first (i+1)).length>most->f s=some (.ret ((0,[],[]),false)))/\((bfS nx first (i+1)).length<=most-> ∃s',f s=some (.nxt s')/\st (i+1) s'))
  (he: ∀i s,st i s-> ¬i<(bfS nx first i).length->f s=some (.brk s)) {s:S} (h0:st 0 s) :
  (aK f br s=some (.ret ((0,[],[]),false))/\goM nx first acc most (most+2) 0=((0,[],[]),false)) \/
  ∃N s',aK f br s=some (.brk s')/\st N s'/\bfE nx first N/\N<=most/\goM nx first acc most (most+2) 0=((0,(bfS nx first N).map acc,bfR nx first N),true):=by
 obtain ⟨o,e,hq⟩:=da (f:=f) (fun i s=>st i s/\(∀j,j<i->j<(bfS nx first j).length)/\(bfS nx first i).length<=most/\goM nx first acc most (most+2) 0=goM nx first acc most (most+2 - i) i)
  (fun o=>(o= .ret ((0,[],[]),false)/\goM nx first acc most (most+2) 0=((0,[],[]),false))\/ ∃N s',o= .brk s'/\st N s'/\bfE nx first N/\N<=most/\goM nx first acc most (most+2) 0=((0,(bfS nx first N).map acc,bfR nx first N),true)) most (s:=s) (by
  rintro i s hi ⟨k1,k2,k3,k4⟩
  have hle:=vS k2
  rw[show most+2 - i=(most+1 - i)+1 from by omega] at k4
  have k5:goM nx first acc most (most+1 - i+1) i=if i<(bfS nx first i).length then (if (bfS nx first (i+1)).length>most then ((0,[],[]),false) else goM nx first acc most (most+1 - i) (i+1)) else ((0,((bfS nx first i).take i).map acc,bfR nx first i),true):=rfl
  rw[k5] at k4
  by_cases c:i<(bfS nx first i).length
  ·rw[if_pos c] at k4
   obtain ⟨q1,q2⟩:=hs i s k1 k2 k3 c
   by_cases d:(bfS nx first (i+1)).length>most
   ·rw[if_pos d] at k4
    exact .inr ⟨_,q1 d,(fun s' e=>by cases e),.inl ⟨rfl,k4⟩⟩
   ·rw[if_neg d] at k4
    obtain ⟨s',e,hs'⟩:=q2 (by omega)
    exact .inl ⟨by omega,s',e,hs',fun j hj=>(by
     by_cases ej:j=i
     ·subst ej;exact c
     ·exact k2 j (by omega)),by omega,by rw[k4];congr 1;omega⟩
  ·rw[if_neg c] at k4
   refine .inr ⟨_,he i s k1 c,(fun s' e=>by cases e),.inr ⟨i,s,rfl,k1,⟨by omega,k2⟩,hi,?_⟩⟩
   rw[k4,List.take_of_length_le (by omega)]) ⟨h0,fun j hj=>by omega,by simp[bfS];omega,rfl⟩ (kV (by omega))
 rcases hq with ⟨rfl,h⟩ | ⟨N,s',rfl,h⟩
 ·exact .inl ⟨e,h⟩
 ·exact .inr ⟨N,s',e,h⟩
end
section
variable {p:oY} {most:Nat} (hl:p.2.2.2.1.length=p.1.length) (hb:p.1.length<=1000000) (hm:most<=900000) (h1:1<=most)
include hl hb hm h1
theorem Ox:eI p most=some (goM (nxS p) 1 (gN p) most (most+2) 0):=by
 have hp3: ∀(l:List Int) (i k:Nat),k<9-> ∃j,(fun a0 a1=>bT a0 a1 (p.1,p.2.1,p.2.2.1,p.2.2.2.1,p.2.2.2.2)) (nth l (i:Int)) (k:Int)=some (match nth (nxS p (nth l (i:Int))) (k:Int) with | some y=>(y,true) | none=>(j,false)):=by
  intro l i k hk
  refine ⟨0,?_⟩
  show bT _ _ p=_
  unfold bT
  simp only[mW]
  rw[Lu hl hb,E6 hk];simp only[ae]
  by_cases c:aft p (nth l (i:Int)) k=0
  ·rw[if_pos c];simp[c]
  ·rw[if_neg c];simp[c]
 unfold eI cw
 rw[show CA ([] :List (Int×Int)) iOk iOk 1 0=some [(1,0)] from by unfold CA;rw[if_pos ⟨by simp,by decide,by decide⟩]];simp only[ae]
 rcases AW (nx:=nxS p) (first:=1) (acc:=gN p) (most:=most) (f:=bh most (fun a0=>b8 (p.1,p.2.1,p.2.2.1,p.2.2.2.1,p.2.2.2.2) a0) (fun a0 a1=>bT a0 a1 (p.1,p.2.1,p.2.2.1,p.2.2.2.1,p.2.2.2.2)))
  (by omega) h1 (fun i s=> ∃M,s=(bfS (nxS p) 1 i,M,(i:Int),0,((bfS (nxS p) 1 i).take i).map (gN p),bfR (nxS p) 1 i)/\MapOf M (bfS (nxS p) 1 i)) (by
   rintro i s ⟨M,rfl,hM⟩ hj hle hlt
   have hil:=vS hj
   obtain ⟨M',e,hM'⟩:=xH (p3:=fun a0 a1=>bT a0 a1 (p.1,p.2.1,p.2.2.1,p.2.2.2.1,p.2.2.2.2)) (l:=bfS (nxS p) 1 i) (M:=M) (os:=nxS p (nth (bfS (nxS p) 1 i) (i:Int))) (acs:=((bfS (nxS p) 1 i).take i).map (gN p)) (rws:=bfR (nxS p) 1 i) hlt (pQ _ _) hM (fun y hy=>Nr hy)
    (fun k=>by
     have:=E7 (bfS (nxS p) 1 i) ((nxS p (nth (bfS (nxS p) 1 i) (i:Int))).take k)
     have h9:=pQ p (nth (bfS (nxS p) 1 i) (i:Int))
     rw[aF] at this
     omega) (fun k hk=>hp3 _ i k hk)
   rw[<-fA hlt] at hM'
   have hl2:=(ba (nx:=nxS p) (first:=1) i).length_le
   constructor
   ·intro hgt
    unfold bh
    simp only
    rw[if_pos (by simp;omega),aD e,<-fA hlt]
    simp only
    rw[if_pos (by simp;omega)]
   ·intro hle2
    unfold bh
    simp only
    rw[if_pos (by simp;omega),aD e,<-fA hlt]
    simp only
    rw[if_neg (by simp;omega),aB (by omega) (by omega)];simp only[ae]
    rw[fe (ba i) (by omega) (by omega)]
    simp only[mW]
    rw[Np];simp only[ae]
    have hr:(bfR (nxS p) 1 i).length=i:=fc hj
    rw[aT (by simp;omega)];simp only[ae]
    rw[aT (by simp;omega)];simp only[ae,aI (show i<9223372036854775807 by omega)]
    exact ⟨_,rfl,M',by rw[oO hlt,oN hlt],hM'⟩) (by
   rintro i s ⟨M,rfl,hM⟩ hn
   unfold bh
   simp only
   rw[if_neg (by simp;omega)]) (s:=([1],[(1,0)],0,0,[],[])) ⟨_,rfl,MapOf.one 1⟩ with ⟨e,hg⟩ | ⟨N,s',e,⟨M,rfl,hM⟩,hN,hNm,hg⟩
 ·rw[bS e,hg];rfl
 ·rw[aD e,hg];simp only[ae]
  rw[List.take_of_length_le (by have:=hN.1;omega)]
theorem HP {l:List Int} {acs:List Bool} {rws:List (List Int)} {i:Nat} (hi:i<l.length) (hle:l.length<=most) :
  aK (dw p (l,(i:Int),0,acs,rws)) br (l,[],0)=some (.brk (nbS l (nxS p (nth l (i:Int))),nbR l (nxS p (nth l (i:Int))),9)):=by
 have h9:=pQ p (nth l (i:Int))
 have:=bX (f:=dw p (l,(i:Int),0,acs,rws)) (fun k=>(nbS l ((nxS p (nth l (i:Int))).take k),nbR l ((nxS p (nth l (i:Int))).take k),(k:Int))) 9 (fun k hk=>by
  have hpre:=fW l ((nxS p (nth l (i:Int))).take k)
  have hlen:=hpre.length_le
  have hB:=E7 l ((nxS p (nth l (i:Int))).take k)
  rw[aF] at hB
  have hrl:(nbR l ((nxS p (nth l (i:Int))).take k)).length<=9:=by rw[cZ,aF];omega
  unfold dw
  simp only[mW]
  rw[if_pos (by simp;omega),aB (by omega) (by omega)];simp only[ae]
  rw[fe hpre (by omega) (by omega),E4 hl hb];simp only[ae]
  rw[take_one (by omega),mK,mL,E6 hk]
  simp only[aI (show k<9223372036854775807 by omega)]
  by_cases c:aft p (nth l (i:Int)) k=0
  ·rw[if_pos c,if_neg (by simp[c])];simp only[ae]
   rw[aT (by simp;omega)];rfl
  ·rw[if_neg c,if_pos (by simpa using c),I8 (by omega)];simp only[ae]
   by_cases d:aft p (nth l (i:Int)) k∈nbS l ((nxS p (nth l (i:Int))).take k)
   ·rw[if_pos d,if_neg (by simp),fJ d];simp only[ae]
    rw[aT (by simp;omega)];rfl
   ·rw[if_neg d,if_pos (by decide),aT (by simp;omega),fj d];simp only[ae]
    rw[aT (by simp;omega)];simp only[nbI,ky d,ae]) (by
  unfold dw
  simp) (by unfold br;omega)
 have e9:(nxS p (nth l (i:Int))).take 9=nxS p (nth l (i:Int)):=List.take_of_length_le (by omega)
 rw[e9] at this
 exact this
theorem Ns:bW p most=some (goM (nxS p) 1 (gN p) most (most+2) 0):=by
 unfold bW
 rcases AW (nx:=nxS p) (first:=1) (acc:=gN p) (most:=most) (f:=dx p most)
  (by omega) h1 (fun i s=>s=(bfS (nxS p) 1 i,(i:Int),0,((bfS (nxS p) 1 i).take i).map (gN p),bfR (nxS p) 1 i)) (by
   rintro i s rfl hj hle hlt
   have hil:=vS hj
   have e:=HP hl hb hm h1 (acs:=((bfS (nxS p) 1 i).take i).map (gN p)) (rws:=bfR (nxS p) 1 i) hlt hle
   have hl2:=(ba (nx:=nxS p) (first:=1) i).length_le
   constructor
   ·intro hgt
    unfold dx
    simp only
    rw[if_pos (by simp;omega),aD e,<-fA hlt]
    simp only
    rw[if_pos (by simp;omega)]
   ·intro hle2
    unfold dx
    simp only
    rw[if_pos (by simp;omega),aD e,<-fA hlt]
    simp only
    rw[if_neg (by simp;omega),aB (by omega) (by omega)];simp only[ae]
    rw[fe (ba i) (by omega) (by omega)]
    simp only[mW]
    rw[Ji];simp only[ae]
    have hr:(bfR (nxS p) 1 i).length=i:=fc hj
    rw[aT (by simp;omega)];simp only[ae]
    rw[aT (by simp;omega)];simp only[ae,aI (show i<9223372036854775807 by omega)]
    exact ⟨_,rfl,by rw[oO hlt,oN hlt]⟩) (by
   rintro i s rfl hn
   unfold dx
   simp only
   rw[if_neg (by simp;omega)]) (s:=([1],0,0,[],[])) rfl with ⟨e,hg⟩ | ⟨N,s',e,rfl,hN,hNm,hg⟩
 ·rw[bS e,hg]
 ·rw[aD e,hg];simp only
  rw[List.take_of_length_le (by have:=hN.1;omega)]
end
end D
namespace D
open Go.RowKit
theorem oR (m:Int):mZ 0 m=0:=by
 unfold mZ
 have:(BitVec.ofInt 64 0 &&& BitVec.ofInt 64 m)=0#64:=by simp
 rw[this,show ((0#64:BitVec 64).toNat)=0 from rfl]
 exact dU (n:=0) (by omega) (by omega)
theorem xM (n:Int):k9 0 n=0:=by
 unfold k9;exact Int.zero_fdiv _
theorem xN (j:Nat):HO 0 j=false:=by
 show ((mZ (k9 0 (j:Int)) 1)==1)=false
 rw[xM,oR];rfl
theorem xO (F:List Int) (m0:Int): ∀i,E3 F 0 m0 i=m0
 | 0=>rfl
 | i+1=>by rw[E3,xN];exact xO F m0 i
theorem xP (L:List Int) (k:Int): ∀i,pick L 0 k i=0
 | 0=>rfl
 | i+1=>by rw[pick,xN,if_neg (by simp)];exact xP L k i
theorem HQ (p:oY) (k:Int):aft p 0 k=0:=by
 unfold aft
 rw[oR,if_neg (by decide),xO,xP]
theorem B8 (p:oY):gN p 0=false:=by
 unfold gN
 rw[oR,if_neg (by decide),xM,oR];rfl
def AX (p:oY) (x:Int) (w:List Nat):Int:=w.foldl (fun (s:Int) (k:Nat)=>aft p s (k:Int)) x
theorem xQ (p:oY): ∀w,AX p 0 w=0
 | [] =>rfl
 | k::w=>by
  show AX p (aft p 0 (k:Int)) w=0
  rw[HQ];exact xQ p w
theorem AY (p:oY): ∀(w:List Nat) (x:Int),x≠0->(∀k∈w,k<9)->krun (nxS p) (some x) w=if AX p x w=0 then none else some (AX p x w)
 | [],x,h,_=>by
  show some x=if x=0 then none else some x
  rw[if_neg h]
 | k::w,x,h,hw=>by
  show krun (nxS p) (nth (nxS p x) (k:Int)) w=if AX p (aft p x (k:Int)) w=0 then none else some (AX p (aft p x (k:Int)) w)
  rw[E6 (hw k (by simp))]
  by_cases c:aft p x (k:Int)=0
  ·rw[if_pos c,c,xQ,if_pos rfl,kA]
  ·rw[if_neg c]
   exact AY p w _ c fun j hj=>hw j (aS _ hj)
theorem Lw {p:oY} {r:AutT} {N:Nat} (H:NumA r (nxS p) 1 (gN p) N) {w:List Nat} (hw: ∀k∈w,k<9):acw r w=gN p (AX p 1 w):=by
 rw[H.acw hw,AY p w 1 (by decide) hw]
 by_cases c:AX p 1 w=0
 ·rw[if_pos c,c,B8]
 ·rw[if_neg c]
end D
namespace D
open Go.RowKit
theorem vT {n:Nat} {r:List Int} :(∀t∈r,-1<=t/\t<=(n:Int) - 1)↔ ∀t∈r,-1<=t/\t<(n:Int):=forall_congr' fun t=>forall_congr' fun _=>and_congr Iff.rfl (by omega)
theorem Nt (a:AutT) (h1:a.2.1.length<=9223372036854775807) (h2:a.2.2.length<=9223372036854775807): ∃b,jf a=some b/\(b=true↔VA a a.2.1.length):=by
 unfold jf
 rw[L7];simp only[ae,oM h1]
 by_cases c1:0<=a.1/\a.1<=(a.2.1.length:Int) - 1
 case neg=>exact ⟨false,by rw[if_neg (by simpa using c1)],by simp;exact fun h=>c1 ⟨h.start.1,by have:=h.start.2;omega⟩⟩
 rw[if_pos (by simpa using c1)]
 by_cases c2:a.2.2.length=a.2.1.length
 case neg=>exact ⟨false,by rw[if_pos (by simp;omega)],by simp;exact fun h=>c2 h.nlen⟩
 rw[if_neg (by simp;omega)]
 have inner: ∀i:Nat,i<a.2.2.length->(nth a.2.2 i).length=9->(aK (dW a i) br 0=some (.brk 9)/\ ∀t∈nth a.2.2 (i:Int),-1<=t/\t<=(a.2.1.length:Int) - 1)\/(aK (dW a i) br 0=some (.ret false)/\ ¬ ∀t∈nth a.2.2 (i:Int),-1<=t/\t<=(a.2.1.length:Int) - 1):=by
  intro i hi hr
  have:=scan (f:=dW a i) (nth a.2.2 (i:Int)) (fun t=> -1<=t/\t<=(a.2.1.length:Int) - 1) false (by omega) (fun j hj=>by
   unfold dW
   rw[if_pos (by simp;omega),aB (by omega) (by omega)];simp only[ae]
   rw[aB (by omega) (by omega)];simp only[ae,oM h1]
   rw[L7];simp only[ae,aI (show j<9223372036854775807 by omega)]
   by_cases c: -1<=nth (nth a.2.2 (i:Int)) (j:Int)/\nth (nth a.2.2 (i:Int)) (j:Int)<=(a.2.1.length:Int) - 1
   ·rw[if_pos (by simpa using c),if_pos c]
   ·rw[if_neg (by simpa using c),if_neg c]) (by unfold dW;rw[if_neg (by simp[hr])])
  rwa [hr] at this
 have outer:=scan (f:=gU a) a.2.2 (fun r=>r.length=9/\ ∀t∈r,-1<=t/\t<=(a.2.1.length:Int) - 1) false h2 (fun i hi=>by
  unfold gU
  rw[if_pos (by simp;omega),aB (by omega) (by omega)];simp only[ae]
  by_cases c:(nth a.2.2 (i:Int)).length=9
  ·rw[if_neg (by simp;omega)]
   rcases inner i hi c with ⟨e,k⟩ | ⟨e,k⟩
   ·rw[aD e,if_pos ⟨c,k⟩,aI (show i<9223372036854775807 by omega)]
   ·rw[bS e,if_neg (fun h=>k h.2)]
  ·rw[if_pos (by simp;omega),if_neg (fun h=>c h.1)]) (by unfold gU;rw[if_neg (by simp;omega)])
 rcases outer with ⟨e,k⟩ | ⟨e,k⟩
 ·exact ⟨true,by rw[aD e],by simp;exact ⟨rfl,⟨c1.1,by omega⟩,c2,fun r hr=>(k r hr).1,fun r hr=>vT.1 (k r hr).2⟩⟩
 ·exact ⟨false,by rw[bS e],by simp;exact fun h=>k fun r hr=>⟨h.row r hr,vT.2 (h.ent r hr)⟩⟩
theorem zz (a:AutT) (h1:a.2.1.length<=9223372036854775807) (h2:a.2.2.length<=9223372036854775807): ∃b,aC a=some b/\(b=true↔a.2.1.length<=12/\VA a a.2.1.length):=by
 unfold aC
 by_cases c:a.2.1.length<=12
 ·rw[if_pos (by simp;omega)]
  obtain ⟨b,e,hb⟩:=Nt a h1 h2
  exact ⟨b,by show (jf a).bind _=_;rw[e];rfl,by rw[hb];simp[c]⟩
 ·exact ⟨false,by rw[if_neg (by simp;omega)],by simp;exact fun h=>absurd h c⟩
theorem zA (a:AutT) (h1:a.2.1.length<=9223372036854775807) (h2:a.2.2.length<=9223372036854775807) (h3: ∀r∈a.2.2,r.length<=9223372036854775807): ∃b,aQ a=some b/\(b=true↔a.2.1.length<=12/\VA a a.2.1.length):=by
 unfold aQ
 rw[Lp];simp only[ae,oM h1]
 by_cases c0:1<=(a.2.1.length:Int)/\(a.2.1.length:Int)<=12
 case neg=>exact ⟨false,by rw[if_neg (by simpa using c0)],by simp;exact fun h h'=>c0 ⟨by have:=h'.start;omega,by omega⟩⟩
 rw[if_pos (by simpa using c0),Lp];simp only[ae]
 by_cases c1:0<=a.1/\a.1<=(a.2.1.length:Int) - 1
 case neg=>exact ⟨false,by rw[if_neg (by simpa using c1)],by simp;exact fun _ h=>c1 ⟨h.start.1,by have:=h.start.2;omega⟩⟩
 rw[if_pos (by simpa using c1)]
 by_cases c2:a.2.2.length=a.2.1.length
 case neg=>exact ⟨false,by rw[if_pos (by simp;omega)],by simp;exact fun _ h=>c2 h.nlen⟩
 rw[if_neg (by simp;omega)]
 have inner: ∀x:List Int,x.length<=9223372036854775807->(aK (bp a x) br 0=some (.brk (x.length:Int))/\ ∀t∈x,-1<=t/\t<=(a.2.1.length:Int) - 1)\/(aK (bp a x) br 0=some (.ret false)/\ ¬ ∀t∈x,-1<=t/\t<=(a.2.1.length:Int) - 1):=by
  intro x hx
  refine scan (f:=bp a x) x (fun t=> -1<=t/\t<=(a.2.1.length:Int) - 1) false hx (fun j hj=>?_) (by unfold bp;rw[if_neg (by simp)])
  unfold bp
  rw[if_pos (by simp;omega),aB (by omega) (by omega)];simp only[ae,oM h1]
  rw[Lp];simp only[ae,aI (show j<9223372036854775807 by omega)]
  by_cases c: -1<=nth x (j:Int)/\nth x (j:Int)<=(a.2.1.length:Int) - 1
  ·rw[if_pos (by simpa using c),if_pos c]
  ·rw[if_neg (by simpa using c),if_neg c]
 have outer:=scan (f:=cF a) a.2.2 (fun r=>(∀t∈r,-1<=t/\t<=(a.2.1.length:Int) - 1)/\r.length=9) false h2 (fun i hi=>by
  unfold cF
  rw[if_pos (by simp;omega),aB (by omega) (by omega)];simp only[ae]
  rcases inner (nth a.2.2 (i:Int)) (h3 _ (cS (by omega) (by omega))) with ⟨e,k⟩ | ⟨e,k⟩
  ·rw[aD e]
   by_cases c:(nth a.2.2 (i:Int)).length=9
   ·rw[if_neg (by simp;omega),if_pos ⟨k,c⟩,aI (show i<9223372036854775807 by omega)]
   ·rw[if_pos (by simp;omega),if_neg (fun h=>c h.2)]
  ·rw[bS e,if_neg (fun h=>k h.1)]) (by unfold cF;rw[if_neg (by simp)])
 rcases outer with ⟨e,k⟩ | ⟨e,k⟩
 ·exact ⟨true,by rw[aD e],by simp;exact ⟨by omega,rfl,⟨c1.1,by omega⟩,c2,fun r hr=>(k r hr).2,fun r hr=>vT.1 (k r hr).1⟩⟩
 ·exact ⟨false,by rw[bS e],by simp;exact fun _ h=>k fun r hr=>⟨vT.2 (h.ent r hr),h.row r hr⟩⟩
end D
namespace D
open Go.RowKit
section
variable {a b:AutT} {n m:Nat}
theorem mO (a:AutT) (hs:Data.sm a): ∃b,aC a=some b/\aQ a=some b/\(b=true↔a.2.1.length<=12/\VA a a.2.1.length):=by
 obtain ⟨-,⟨ha,-⟩,hn,hr⟩:=hs
 obtain ⟨b1,e1,k1⟩:=zz a (by omega) (by omega)
 obtain ⟨b2,e2,k2⟩:=zA a (by omega) (by omega) (fun r h=>by have:r.length<=1048576:=(hr r h).1;omega)
 have:b2=b1:=by
  cases h1:b1 <;> cases h2:b2
  ·rfl
  ·have:=k1.2 (k2.1 h2);rw[h1] at this;cases this
  ·have:=k2.2 (k1.1 h1);rw[h2] at this;cases this
  ·rfl
 subst this
 exact ⟨b2,e1,e2,k1⟩
theorem sG (a:AutT) (hs:Data.sm a): ∃b,aC a=some b/\aQ a=some b/\(b=true->a.2.1.length<=12/\VA a a.2.1.length):=by
 obtain ⟨b,h1,h2,h3⟩:=mO a hs
 exact ⟨b,h1,h2,h3.1⟩
end
section
variable {κ μ:Type} [DecidableEq κ] [DecidableEq μ] {f:κ->μ}
theorem E8 (hf: ∀x y,f x=f y->x=y) (l:List κ) (o:Option κ):nbL (l.map f) (o.map f)=(nbL l o).map f:=by
 cases o with
 | none=>rfl
 | some x =>
  by_cases c:x∈l
  ·rw[fJ c];exact fJ (List.mem_map.2 ⟨x,c,rfl⟩)
  ·have c':f x∉l.map f:=fun h=>by
    obtain ⟨y,hy,e⟩:=List.mem_map.1 h
    exact c (hf _ _ e ▸ hy)
   rw[fj c]
   show nbL (l.map f) (some (f x))=_
   rw[fj c'];simp
theorem xR (hf: ∀x y,f x=f y->x=y): ∀(l:List κ) (x:κ),(l.map f).idxOf (f x)=l.idxOf x
 | [],x=>rfl
 | y::l,x=>by
  rw[List.map_cons,List.idxOf_cons,List.idxOf_cons,xR hf l x]
  by_cases c:y=x
  ·subst c;simp
  ·have: ¬f y=f x:=fun e=>c (hf _ _ e)
   simp[show (y==x)=false from by simpa using c,show (f y==f x)=false from by simpa using this]
theorem Lx (hf: ∀x y,f x=f y->x=y) (l:List κ) (o:Option κ):nbI (l.map f) (o.map f)=nbI l o:=by
 cases o with
 | none=>rfl
 | some x=>show ((l.map f).idxOf (f x):Int)=(l.idxOf x:Int);rw[xR hf]
theorem E9 (hf: ∀x y,f x=f y->x=y): ∀(l:List κ) (os:List (Option κ)),nbS (l.map f) (os.map (Option.map f))=(nbS l os).map f
 | l,[] =>rfl
 | l,o::os=>by
  show nbS (nbL (l.map f) (o.map f)) (os.map (Option.map f))=(nbS (nbL l o) os).map f
  rw[E8 hf,E9 hf]
theorem Fa (hf: ∀x y,f x=f y->x=y): ∀(l:List κ) (os:List (Option κ)),nbR (l.map f) (os.map (Option.map f))=nbR l os
 | l,[] =>rfl
 | l,o::os=>by
  show nbI (l.map f) (o.map f)::nbR (nbL (l.map f) (o.map f)) (os.map (Option.map f))=nbI l o::nbR (nbL l o) os
  rw[Lx hf,E8 hf,Fa hf]
variable {nx:κ->List (Option κ)} {nx':μ->List (Option μ)} {first:κ}
end
end D
namespace D
open Go.RowKit
abbrev Tok:=Int×Int×Int×Int
def ar (t:Tok):Int:=
 if t.1=1\/t.1=2 then (if t.2.1=0/\t.2.2.1=0/\t.2.2.2=0 then 0 else -1)
 else if t.1=3 then (if (0<=t.2.1/\t.2.1<=8)/\t.2.2.1=0/\t.2.2.2=0 then 0 else -1)
 else if t.1=4\/t.1=5 then (if t.2.1=0/\t.2.2.1=0/\t.2.2.2=0 then 2 else -1)
 else if t.1=6 then (if t.2.1=0/\t.2.2.1=0/\t.2.2.2=0 then 1 else -1)
 else if t.1=7 then (if t.2.1=0/\(0<=t.2.2.1/\t.2.2.1<=t.2.2.2)/\(1<=t.2.2.2/\t.2.2.2<=3) then 1 else -1)
 else -1
theorem qN (x:Int):dF x=some (decide (0<=x/\x<=8)):=by unfold dF;rw[L7];rfl
theorem HS (x:Int):eH x=some (decide (0<=x/\x<=8)):=by unfold eH;rw[Lp];rfl
theorem O2 (t:Tok):jb t=some (ar t):=by
 obtain ⟨k,l,lo,hi⟩:=t
 unfold jb ar
 simp only[qN,L7,ae]
 by_cases h1:k=1
 ·subst h1;simp;grind
 by_cases h2:k=2
 ·subst h2;simp;grind
 by_cases h3:k=3
 ·subst h3;simp;grind
 by_cases h4:k=4
 ·subst h4;simp;grind
 by_cases h5:k=5
 ·subst h5;simp;grind
 by_cases h6:k=6
 ·subst h6;simp;grind
 by_cases h7:k=7
 ·subst h7;simp;grind
 simp[h1,h2,h3,h4,h5,h6,h7]
theorem qO (t:Tok): -1<=ar t/\ar t<=2:=by
 unfold ar
 grind
theorem kY {t:Tok} (h:0<=ar t):(ar t=2/\(t.1=4\/t.1=5))\/(ar t=1/\(t.1=6\/t.1=7))\/(ar t=0/\(t.1=1\/t.1=2\/t.1=3)):=by
 unfold ar at h⊢
 grind
theorem xS {t:Tok} (h:0<=ar t) (k:t.1=7):(0<=t.2.2.1/\t.2.2.1<=t.2.2.2)/\(1<=t.2.2.2/\t.2.2.2<=3):=by
 unfold ar at h
 grind
mutual
def flat:Tr Tok->List Tok
 | .nil=>[]
 | .node t ks=>fL ks++ [t]
def fL:List (Tr Tok)->List Tok
 | [] =>[]
 | k::ks=>flat k++fL ks
end
inductive WT:Tr Tok->Prop
 | node {t:Tok} {ks:List (Tr Tok)} :ar t=(ks.length:Int)->(∀k,k∈ks->WT k)->WT (.node t ks)
theorem kB: ∀(a b:List (Tr Tok)),fL (a++b)=fL a++fL b
 | [],b=>rfl
 | k::a,b=>by rw[List.cons_append,fL,fL,kB a b,ai]
theorem ig (x:Tr Tok):fL [x] =flat x:=by rw[fL,fL,List.append_nil]
theorem Fb (x y:Tr Tok):fL [x,y] =flat x++flat y:=by rw[fL,ig]
theorem WT.cases {x:Tr Tok} (h:WT x):(∃t,x= .node t [] /\ar t=0)\/(∃t a,x= .node t [a] /\ar t=1/\WT a)\/ ∃t a b,x= .node t [a,b] /\ar t=2/\WT a/\WT b:=by
 cases h with
 | @node t ks h1 h2 =>
  have:=(qO t).2
  match ks,h1,h2 with
  | [],h1,h2=>exact .inl ⟨t,rfl,h1⟩
  | [a],h1,h2=>exact .inr (.inl ⟨t,a,rfl,h1,h2 a (by simp)⟩)
  | [a,b],h1,h2=>exact .inr (.inr ⟨t,a,b,rfl,h1,h2 a (by simp),h2 b (by simp)⟩)
  | _::_::_::_,h1,h2=>simp at h1;omega
theorem WT.ind {p:Tr Tok->Prop} (h0: ∀t,ar t=0->p (.node t [])) (h1: ∀t a,ar t=1->WT a->p a->p (.node t [a])) (h2: ∀t a b,ar t=2->WT a->WT b->p a->p b->p (.node t [a,b])) {x:Tr Tok} (h:WT x):p x:=by
 induction h with
 | @node t ks e k ih =>
  have:=(qO t).2
  match ks,e,k,ih with
  | [],e,k,ih=>exact h0 t e
  | [a],e,k,ih=>exact h1 t a e (k a (by simp)) (ih a (by simp))
  | [a,b],e,k,ih=>exact h2 t a b e (k a (by simp)) (k b (by simp)) (ih a (by simp)) (ih b (by simp))
  | _::_::_::_,e,_,_=>simp at e;omega
theorem zB (t:Tok):flat (.node t [])= [t]:=by rw[flat,fL];rfl
theorem B9 (t:Tok) (a:Tr Tok):flat (.node t [a])=flat a++ [t]:=by rw[flat,ig]
theorem qp (t:Tok) (a b:Tr Tok):flat (.node t [a,b])=(flat a++flat b)++ [t]:=by rw[flat,Fb]
theorem WT.pos {x:Tr Tok} (h:WT x):1<=(flat x).length:=by
 cases h with
 | node h1 h2=>rw[flat];simp
def stp (s:List (Tr Tok)) (t:Tok):Option (List (Tr Tok)):=if ar t<0\/(s.length:Int)<ar t then none else some (s.take (s.length - (ar t).toNat)++ [.node t (s.drop (s.length - (ar t).toNat))])
def run:List (Tr Tok)->List Tok->Option (List (Tr Tok))
 | s,[] =>some s
 | s,t::l=>(stp s t).bind fun s'=>run s' l
theorem vU: ∀(a:List Tok) {b:List Tok} {s:List (Tr Tok)},run s (a++b)=(run s a).bind fun s'=>run s' b
 | [],b,s=>rfl
 | t::a,b,s=>by
  rw[List.cons_append,run,run]
  cases stp s t with
  | none=>rfl
  | some s'=>exact vU a
theorem qP {a:List Tok} {t:Tok} {s:List (Tr Tok)} :run s (a++ [t])=(run s a).bind fun s'=>stp s' t:=by
 rw[vU]
 congr 1
 funext s'
 rw[run]
 cases stp s' t <;> rfl
theorem Jj: ∀ {l:List Tok} {s s':List (Tr Tok)},run s l=some s'->(∀k,k∈s->WT k)->(∀k,k∈s'->WT k)/\fL s'=fL s++l
 | [],s,s',h,hs=>by
  obtain rfl:=aa h
  exact ⟨hs,by simp⟩
 | t::l,s,s',h,hs=>by
  rw[run] at h
  unfold stp at h
  by_cases c:ar t<0\/(s.length:Int)<ar t
  ·rw[if_pos c] at h;cases h
  ·rw[if_neg c] at h
   have hlen:(s.drop (s.length - (ar t).toNat)).length=(ar t).toNat:=by rw[aX];omega
   obtain ⟨k1,k2⟩:=Jj (show run _ l=some s' from h) fun k hk=>by
    rcases aA hk with hk | hk
    ·exact hs k (List.mem_of_mem_take hk)
    ·obtain rfl:=ak hk
     exact .node (by rw[hlen];omega) fun k hk=>hs k (List.mem_of_mem_drop hk)
   refine ⟨k1,?_⟩
   rw[k2,kB,ig,flat,<-ai,<-kB,List.take_append_drop]
   simp
theorem HT {x:Tr Tok} (h:WT x): ∀s,run s (flat x)=some (s++ [x]):=by
 refine WT.ind (p:=fun x=> ∀s,run s (flat x)=some (s++ [x])) ?_ ?_ ?_ h
 ·intro t e s
  rw[zB,run,stp,if_neg (by omega),e]
  simp[run]
 ·intro t a e _ ia s
  rw[B9,qP,ia]
  show stp (s++ [a]) t=_
  rw[stp,if_neg (by simp;omega),e]
  simp
 ·intro t a b e _ _ ia ib s
  rw[qp,qP,vU,ia]
  show ((run (s++ [a]) (flat b)).bind fun s'=>stp s' t)=_
  rw[ib]
  show stp (s++ [a] ++ [b]) t=_
  rw[stp,if_neg (by simp;omega),e]
  have:(s++ [a] ++ [b]).length - (2:Int).toNat=s.length:=by simp
  rw[this]
  simp
def isX (e:List Tok):Bool:=match run [] e with
 | some [_] =>true
 | _=>false
theorem Jk {e:List Tok} (h:isX e=true): ∃x,run [] e=some [x] /\WT x/\flat x=e:=by
 unfold isX at h
 split at h
 ·rename_i x hx
  obtain ⟨k1,k2⟩:=Jj hx (fun k hk=>by cases hk)
  refine ⟨x,hx,k1 x (by simp),?_⟩
  rw[ig] at k2
  rw[k2];rfl
 ·cases h
theorem Ly {l:List Tok} : ∀ {s s':List (Tr Tok)},run s l=some s'->s'.length<=s.length+l.length:=by
 induction l with
 | nil=>intro s s' h;obtain rfl:=aa h;simp
 | cons t l ih =>
  intro s s' h
  rw[run] at h
  obtain ⟨s1,h1,h2⟩:=Option.bind_eq_some_iff.1 h
  have h3:=ih h2
  unfold stp at h1
  split at h1
  ·cases h1
  ·obtain rfl:=aa h1
   simp only[aw,aF,ax,aG] at h3⊢
   omega
theorem xT {e:List Tok} {i:Nat} (h:i<e.length):e.take (i+1)=e.take i++ [nth e (i:Int)]:=by
 rw[List.take_succ_eq_append_getElem h,a9 h]
theorem AZ {e:List Tok} {i:Nat} (h:i<e.length) {st:List (Tr Tok)} (h1:run [] (e.take i)=some st) (h2:stp st (nth e (i:Int))=none):run [] e=none:=by
 have:run [] (e.take (i+1))=none:=by rw[xT h,qP,h1];exact h2
 rw[<-List.take_append_drop (i+1) e,vU,this];rfl
theorem HU {e:List Tok} (he:e.length<=1048576):mA e=some (isX e):=by
 obtain ⟨o,eo,hq⟩:=da (f:=kK e) (fun i s=> ∃st,s=((st.length:Int),(i:Int))/\run [] (e.take i)=some st) (fun o=>(o= .ret false/\run [] e=none)\/ ∃st,o= .brk ((st.length:Int),(e.length:Int))/\run [] e=some st) e.length (s:=(0,0)) (by
  rintro i s hi ⟨st,rfl,hst⟩
  have hl:=Ly hst
  simp only[aG,aF] at hl
  unfold kK
  simp only[mW]
  by_cases c:i<e.length
  ·rw[if_pos (by simp;omega),aB (by omega) (by omega)];simp only[ae]
   rw[O2];simp only[ae]
   have hr:=qO (nth e (i:Int))
   by_cases c1:ar (nth e (i:Int))<0
   ·refine .inr ⟨_,by rw[if_pos (by simpa using c1)],(fun s' e=>by cases e),.inl ⟨rfl,AZ c hst ?_⟩⟩
    rw[stp,if_pos (.inl c1)]
   ·rw[if_neg (by simpa using c1)]
    by_cases c2:ar (nth e (i:Int))>(st.length:Int)
    ·refine .inr ⟨_,by rw[if_pos (by simpa using c2)],(fun s' e=>by cases e),.inl ⟨rfl,AZ c hst ?_⟩⟩
     rw[stp,if_pos (.inr c2)]
    ·rw[if_neg (by simpa using c2)]
     refine .inl ⟨c,_,rfl,st.take (st.length - (ar (nth e (i:Int))).toNat)++ [.node (nth e (i:Int)) (st.drop (st.length - (ar (nth e (i:Int))).toNat))],?_,?_⟩
     ·rw[dU (n:=(st.length:Int) - ar (nth e (i:Int))) (by omega) (by omega),dU (by omega) (by omega),aI (by omega)]
      congr 1
      simp only[aw,aF,ax,aG]
      omega
     ·rw[xT c,qP,hst]
      show stp st _=_
      rw[stp,if_neg (by omega)]
  ·obtain rfl:i=e.length:=by omega
   rw[List.take_of_length_le (by omega)] at hst
   exact .inr ⟨_,by rw[if_neg (by simp)],(fun s' e=>by cases e),.inr ⟨st,rfl,hst⟩⟩) ⟨[],rfl,rfl⟩ (kV (by omega))
 unfold mA
 rcases hq with ⟨rfl,h⟩ | ⟨st,rfl,h⟩
 ·rw[bS eo];unfold isX;rw[h]
 ·rw[aD eo];unfold isX;rw[h]
  match st with
  | [] =>rfl
  | [_] =>rfl
  | _::_::_=>simp;omega
def Fc (e:List Tok):Tr Tok:=match run [] e with
 | some [x] =>x
 | _=>.nil
theorem uA {x:Tr Tok} (h:WT x):Fc (flat x)=x:=by unfold Fc;rw[HT h];rfl
theorem zC {e:List Tok} (he:e.length<=1048576):eF e=some (decide (e.length<=24)&&isX e):=by
 unfold eF
 rw[HU he]
 by_cases c:e.length<=24
 ·rw[if_pos (by simp;omega)];simp[c]
 ·rw[if_neg (by simp;omega)];simp[c]
theorem jv {p:Prop} [Decidable p] (h:p):chk p=some ():=by unfold chk;rw[if_pos h]
theorem Lz {A:List Tok} {x:Tr Tok} (hx:WT x) (hl:(A++flat x).length<=1000000):eG (A++flat x)=some (A.length:Int):=by
 obtain ⟨s',e,ks,q1,q2,q3⟩: ∃s',aK (gQ (A++flat x)) br (1,((A++flat x).length:Int))=some (.brk s')/\ ∃ks:List (Tr Tok),ks= [] /\s'.2=(A.length:Int)/\True:=by
  obtain ⟨o,eo,hq⟩:=da (f:=gQ (A++flat x)) (fun i s=> ∃ks:List (Tr Tok),(∀k,k∈ks->WT k)/\s=((ks.length:Int),(((A++fL ks).length:Nat):Int))/\i+(fL ks).length=(flat x).length/\(A++flat x).take (A++fL ks).length=A++fL ks) (fun o=> ∃s',o= .brk s'/\s'.2=(A.length:Int)) (flat x).length (s:=(1,((A++flat x).length:Int))) (by
   rintro i s hi ⟨ks,hw,rfl,hlen,htk⟩
   unfold gQ
   simp only[mW]
   rcases List.eq_nil_or_concat ks with rfl | ⟨ks',y,rfl⟩
   ·refine .inr ⟨_,by rw[if_neg (by simp)],(fun s' e=>by cases e),_,rfl,?_⟩
    simp[fL]
   ·have hy:=hw y (by simp)
    cases hy with
    | @node t cs h1 h2 =>
     have hfl:fL (ks'++ [.node t cs])=fL (ks'++cs)++ [t]:=by rw[kB,ig,flat,kB,ai]
     rw[List.concat_eq_append,hfl] at hlen htk⊢
     simp only[aw,ax,aG] at hlen htk hl⊢
     rw[if_pos (by simp <;> omega)]
     have hpos:i64.wrap (((A.length+((fL (ks'++cs)).length+1):Nat):Int) - 1)=((A.length+(fL (ks'++cs)).length:Nat):Int):=by
      rw[dU (by omega) (by omega)];omega
     have hget:nth (A++flat x) ((A.length+(fL (ks'++cs)).length:Nat):Int)=t:=by
      have hlt:A.length+(fL (ks'++cs)).length<(A++flat x).length:=by rw[aw];omega
      have e1:=congrArg (fun l:List Tok=>l[A.length+(fL (ks'++cs)).length]?) htk
      rw[List.getElem?_take_of_lt (by omega),List.getElem?_eq_getElem hlt,<-ai,List.getElem?_append_right (by rw[aw];omega),aw] at e1
      rw[a9 hlt]
      simpa using e1
     rw[hpos,aB (by omega) (by simp only[aw];omega),hget];simp only[ae]
     rw[O2,h1];simp only[ae]
     have hcl:(cs.length:Int)<=2:=by rw[<-h1];exact (qO t).2
     have hkl:ks'.length<=(fL (ks'++cs)).length+1000000:=by
      have: ∀l:List (Tr Tok),(∀k,k∈l->WT k)->l.length<=(fL l).length:=by
       intro l
       induction l with
       | nil=>intro _;simp
       | cons k l ih =>
        intro h
        have h1:=(h k (by simp)).pos
        have h2:=ih fun k hk=>h k (by simp[hk])
        rw[fL];simp only[ax,aw];omega
      have:=this ks' fun k hk=>hw k (by simp[hk])
      rw[kB,aw];omega
     refine .inl ⟨by omega,_,rfl,ks'++cs,fun k hk=>?_,?_,by omega,?_⟩
     ·rcases aA hk with hk | hk
      ·exact hw k (by simp[hk])
      ·exact h2 k hk
     ·rw[dU (n:=((ks'.length+1:Nat):Int) - 1) (by omega) (by omega),dU (by omega) (by omega)]
      congr 1
      (simp only[aw]) <;> omega
     ·have e1:=congrArg (List.take (A++fL (ks'++cs)).length) htk
      rw[List.take_take,Nat.min_eq_left (by rw[aw];omega),<-ai,List.take_left] at e1
      rw[aw] at e1
      exact e1) ⟨[x],fun k hk=>by (obtain rfl:=ak hk;exact hx),by rw[ig];rfl,by rw[ig];omega,by rw[ig,List.take_length]⟩ (kV (by rw[aw] at hl;omega))
  obtain ⟨s',rfl,h2⟩:=hq
  exact ⟨s',eo,[],rfl,h2,trivial⟩
 unfold eG
 rw[aD e,q2]
end D
namespace D
open Go.RowKit
def cV (w:List Int):Bool:=w.all fun k=>decide (0<=k/\k<=8)
def tq (w:List Int):List Nat:=w.map Int.toNat
def FE (a:AutT) (w:List Int):Bool:=cV w&&acw a (tq w)
theorem sH {w:List Int} (h:cV w=true): ∀k∈tq w,k<9:=fun k hk=>by
 obtain ⟨x,hx,rfl⟩:=List.mem_map.1 hk
 have:=List.all_eq_true.1 h x hx
 simp at this
 omega
section
variable {a:AutT} {n:Nat} {w:List Int}
theorem sI {i:Nat} (h:i<w.length):tq (w.take (i+1))=tq (w.take i)++ [(nth w (i:Int)).toNat]:=by
 unfold tq
 rw[List.take_succ_eq_append_getElem h,aH,a9 h];rfl
theorem qj {i:Nat} (h:cV (w.take i)=true) (hi:i<w.length) (hk:0<=nth w (i:Int)/\nth w (i:Int)<=8):cV (w.take (i+1))=true:=by
 unfold cV at h⊢
 rw[List.take_succ_eq_append_getElem hi,List.all_append,h]
 rw[a9 hi] at hk
 simp[hk]
theorem sJ {i:Nat} (hi:i<w.length) (hk: ¬(0<=nth w (i:Int)/\nth w (i:Int)<=8)):cV w=false:=by
 cases h:cV w with
 | false=>rfl
 | true =>
  have:=List.all_eq_true.1 h (nth w (i:Int)) (cS (by omega) (by omega))
  exact absurd (by simpa using this) hk
def DeadW (a:AutT) (w:List Int):Prop:=cV w=true->ga a a.1 (tq w)<0
theorem DeadW.acc {a:AutT} {w:List Int} (h:DeadW a w):FE a w=false:=by
 unfold FE
 cases hL:cV w with
 | false=>rfl
 | true =>
  have:=h hL
  show acw a (tq w)=false
  unfold acw acn
  rw[if_pos this]
theorem sK {i:Nat} (h:ga a a.1 (tq (w.take i))<0):DeadW a w:=fun _=>by
 have e:tq w=tq (w.take i)++tq (w.drop i):=by
  unfold tq;rw[<-aH,List.take_append_drop]
 rw[e,nO]
 exact oQ a _ _ h
def RunEnd (a:AutT) (n:Nat) (w:List Int) (r:Int):Prop:=(0<=r/\r<n/\cV w=true/\r=ga a a.1 (tq w))\/(r= -1/\DeadW a w)
theorem RunEnd.acc {r:Int} (V:VA a n) (h:RunEnd a n w r):(if decide (r≥0) then ((bf a.2.1 r).bind fun x1=>some x1) else (some false):Option Bool)=some (FE a w):=by
 rcases h with ⟨h0,h1,h2,h3⟩ | ⟨h0,h1⟩
 ·rw[if_pos (by simpa using h0),V.acc h0 h1]
  unfold FE acw acn
  rw[h2,<-h3,if_neg (by omega)];rfl
 ·rw[h0,if_neg (by decide),h1.acc]
theorem Oy (V:VA a n) (hw:w.length<=1000000): ∃r,mF a a.1 w=some r/\RunEnd a n w r:=by
 have hst:=V.start
 obtain ⟨o,e,r,ho,hr⟩:=da (f:=kP a w) (fun i s=>s.2=(i:Int)/\cV (w.take i)=true/\s.1=ga a a.1 (tq (w.take i))/\ -1<=s.1/\s.1<n) (fun o=> ∃r,(o= .ret r\/ ∃i,o= .brk (r,i))/\RunEnd a n w r) w.length (fun i s hi hI=>by
  obtain ⟨h1,h2,h3,h4⟩:=hI
  unfold kP
  rw[h1,vM]
  by_cases c:i<w.length
  ·rw[if_pos (by simpa using c)]
   by_cases c2:s.1≥0
   ·rw[if_pos (by simpa using c2),aB (by omega) (by omega)];simp only[ae]
    rw[qN];simp only[ae]
    by_cases c3:0<=nth w (i:Int)/\nth w (i:Int)<=8
    ·rw[if_pos (by simpa using c3),V.get c2 h4.2];simp only[ae]
     have hk:(nth w (i:Int)).toNat<9:=by omega
     have hk2:nth w (i:Int)=(((nth w (i:Int)).toNat:Nat):Int):=by omega
     have e3:bf (nth a.2.2 s.1) (nth w (i:Int))=some (mv a s.1 (nth w (i:Int)).toNat):=by
      rw[hk2];exact V.get2 c2 h4.2 (by omega)
     rw[e3];simp only[ae]
     refine .inl ⟨c,_,rfl,?_,qj h2 c c3,?_,V.mv c2 h4.2 hk⟩
     ·show i64.wrap ((i:Int)+1)=_
      rw[dU (by omega) (by omega)];omega
     ·show mv a s.1 _=_
      rw[sI c,nO,<-h3]
      show _=mvn a s.1 _
      unfold mvn
      rw[if_neg (by omega)]
    ·rw[if_neg (by simpa using c3)]
     exact .inr ⟨_,rfl,(fun s' e=>by cases e),-1,.inl rfl,.inr ⟨by omega,fun h=>by rw[sJ c c3] at h;cases h⟩⟩
   ·rw[if_neg (by simpa using c2)]
    refine .inr ⟨_,rfl,(fun s' e=>by cases e),s.1,.inr ⟨_,rfl⟩,.inr ⟨by omega,sK (i:=i) (by rw[<-h3];omega)⟩⟩
  ·rw[if_neg (by simpa using c)]
   have hl:w.take i=w:=List.take_of_length_le (by omega)
   rw[hl] at h2 h3
   refine .inr ⟨_,rfl,(fun s' e=>by cases e),s.1,.inr ⟨_,rfl⟩,?_⟩
   by_cases c2:0<=s.1
   ·exact .inl ⟨c2,h4.2,h2,h3⟩
   ·exact .inr ⟨by omega,sK (i:=w.length) (by rw[List.take_of_length_le (az _),<-h3];omega)⟩) (s:=(a.1,0)) ⟨rfl,rfl,rfl,by show (-1:Int)<=a.1;have:=hst.1;omega,hst.2⟩ (kV (by omega))
 unfold mF
 rcases ho with rfl | ⟨i,rfl⟩
 ·rw[bS e];exact ⟨r,rfl,hr⟩
 ·rw[aD e];exact ⟨r,rfl,hr⟩
theorem Jl (V:VA a n) (hv:aC a=some true) (hw:w.length<=1000000): ∃r,eO a w=some r/\RunEnd a n w r:=by
 obtain ⟨r,e,h⟩:=Oy V hw
 unfold eO
 simp only[mW]
 rw[hv];simp only[ae,if_true]
 rw[e]
 exact ⟨r,rfl,h⟩
theorem Nu (V:VA a n) (hv:aC a=some true) (hw:w.length<=1000000):cP a w=some (FE a w):=by
 obtain ⟨r,e,h⟩:=Jl V hv hw
 unfold cP
 simp only[mW]
 rw[e];simp only[ae]
 exact h.acc V
theorem Ca {s k:Int} (hk: ¬(0<=k/\k<=8)):aV a s k=some (-1):=by
 unfold aV eH
 by_cases c:s<0
 ·rw[if_pos (by simpa using c)]
 ·rw[if_neg (by simpa using c),Lp];simp only[ae]
  rw[if_neg (by simpa using hk)]
theorem Jm (V:VA a n) (hv:aQ a=some true) (hw:w.length<=1000000): ∃r,eL a w=some r/\RunEnd a n w r:=by
 have hst:=V.start
 obtain ⟨s,e,h1,h2,h3⟩:=eR (f:=gT a w) (fun i s=>s.2=(i:Int)/\s.1<n/\((0<=s.1/\cV (w.take i)=true/\s.1=ga a a.1 (tq (w.take i)))\/(s.1= -1/\DeadW a w))) w.length (fun i s hi hI=>by
  obtain ⟨h1,h4,h2⟩:=hI
  unfold gT
  rw[h1,vM,if_pos (by simpa using hi),aB (by omega) (by omega)];simp only[ae,mW]
  have hw1:i64.wrap ((i:Int)+1)=((i+1:Nat):Int):=by rw[dU (by omega) (by omega)];omega
  rcases h2 with ⟨c2,h2,h3⟩ | ⟨c2,h2⟩
  ·by_cases c3:0<=nth w (i:Int)/\nth w (i:Int)<=8
   ·have hk:(nth w (i:Int)).toNat<9:=by omega
    have hk2:nth w (i:Int)=(((nth w (i:Int)).toNat:Nat):Int):=by omega
    have e3:aV a s.1 (nth w (i:Int))=some (mv a s.1 (nth w (i:Int)).toNat):=by
     rw[hk2];exact ED V c2 h4 (by omega)
    rw[e3];simp only[ae]
    have e4:mv a s.1 (nth w (i:Int)).toNat=ga a a.1 (tq (w.take (i+1))):=by
     rw[sI hi,nO,<-h3]
     show _=mvn a s.1 _
     unfold mvn
     rw[if_neg (by omega)]
    refine ⟨_,rfl,hw1,(V.mv c2 h4 hk).2,?_⟩
    show (0<=mv a s.1 _/\_/\mv a s.1 _=_)\/(mv a s.1 _= -1/\_)
    by_cases c4:0<=mv a s.1 (nth w (i:Int)).toNat
    ·exact .inl ⟨c4,qj h2 hi c3,e4⟩
    ·exact .inr ⟨by have:=(V.mv c2 h4 hk).1;omega,sK (i:=i+1) (by rw[<-e4];omega)⟩
   ·rw[Ca c3];simp only[ae]
    exact ⟨_,rfl,hw1,by show (-1:Int)<n;omega,.inr ⟨rfl,fun h=>by rw[sJ hi c3] at h;cases h⟩⟩
  ·rw[B4 (by omega)];simp only[ae]
   exact ⟨_,rfl,hw1,by show (-1:Int)<n;omega,.inr ⟨rfl,h2⟩⟩) (fun s hI=>by
  unfold gT
  rw[hI.1,vM,if_neg (by simp)]
  obtain ⟨x,y⟩:=s
  obtain rfl:y=_:=hI.1
  rfl) (s:=(a.1,0)) ⟨rfl,hst.2,.inl ⟨hst.1,rfl,rfl⟩⟩ (kV (by omega))
 unfold eL
 simp only[mW]
 rw[hv];simp only[ae,if_true]
 rw[aD e]
 refine ⟨_,rfl,?_⟩
 rw[List.take_of_length_le (az _)] at h3
 rcases h3 with ⟨c,h4,h5⟩ | h3
 ·exact .inl ⟨c,h2,h4,h5⟩
 ·exact .inr h3
theorem Fe (V:VA a n) (hv:aQ a=some true) (hw:w.length<=1000000):bH a w=some (FE a w):=by
 obtain ⟨r,e,h⟩:=Jm V hv hw
 unfold bH aW
 simp only[mW]
 rw[e];simp only[ae]
 rw[h.acc V];rfl
end
end D
namespace D
open Go.RowKit
theorem zD {κ:Type} [DecidableEq κ] {nx:κ->List (Option κ)} {first:κ} {acc:κ->Bool} {most:Nat} : ∀(f i:Nat),(∀j,j<i->j<(bfS nx first j).length)->(bfS nx first i).length<=most->goM nx first acc most f i=((0,[],[]),false)\/ ∃N,bfE nx first N/\N<=most/\goM nx first acc most f i=((0,(bfS nx first N).map acc,bfR nx first N),true)
 | 0,i,_,_=>.inl rfl
 | f+1,i,h,hl=>by
  have hle:=vS h
  rw[goM]
  by_cases c:i<(bfS nx first i).length
  ·rw[if_pos c]
   by_cases d:(bfS nx first (i+1)).length>most
   ·rw[if_pos d];exact .inl rfl
   ·rw[if_neg d]
    exact zD f (i+1) (fun j hj=>by
     by_cases e:j=i
     ·subst e;exact c
     ·exact h j (by omega)) (by omega)
  ·rw[if_neg c]
   exact .inr ⟨i,⟨by omega,h⟩,by omega,by rw[List.take_of_length_le (by omega)]⟩
end D
namespace D
open Go.RowKit
theorem LA {R:Type} {f:Int->Option (Out R Int)} (N:Nat) (p:Nat->Prop) [DecidablePred p] (r:R) (hN:N<=9223372036854775807)
  (h: ∀i:Nat,i<N->f (i:Int)=some (if p i then .nxt ((i+1:Nat):Int) else .ret r)) (he:f (N:Int)=some (.brk (N:Int))) :
  (aK f br 0=some (.brk (N:Int))/\ ∀i,i<N->p i)\/(aK f br 0=some (.ret r)/\ ¬ ∀i,i<N->p i):=by
 obtain ⟨o,e,hq⟩:=da (f:=f) (fun i s=>s=(i:Int)/\ ∀j:Nat,j<i->p j) (fun o=>(o= .brk (N:Int)/\ ∀i,i<N->p i)\/(o= .ret r/\ ¬ ∀i,i<N->p i)) N (s:=0) (by
  rintro i s hi ⟨rfl,hp⟩
  by_cases hl:i<N
  ·by_cases c:p i
   ·refine .inl ⟨hl,_,by rw[h i hl,if_pos c],rfl,fun j hj=>?_⟩
    by_cases e:j=i
    ·subst e;exact c
    ·exact hp j (by omega)
   ·exact .inr ⟨_,by rw[h i hl,if_neg c],(fun s' e=>by cases e),.inr ⟨rfl,fun hx=>c (hx i hl)⟩⟩
  ·obtain rfl:i=N:=by omega
   exact .inr ⟨_,he,(fun s' e=>by cases e),.inl ⟨rfl,hp⟩⟩) ⟨rfl,by omega⟩ (kV hN)
 rcases hq with ⟨rfl,hq⟩ | ⟨rfl,hq⟩
 ·exact .inl ⟨e,hq⟩
 ·exact .inr ⟨e,hq⟩
def edgeP (e:Int×Int×Int×Int) (n:Int):Prop:=(1<=e.1/\e.1<=99)/\(0<=e.2.1/\e.2.1<=n - 1)/\(0<=e.2.2.1/\e.2.2.1<=n - 1)/\0<=e.2.2.2/\e.2.2.2<=2
instance (e n):Decidable (edgeP e n):=by unfold edgeP;infer_instance
end D
namespace D
open Go.RowKit
theorem A0 (x:Int):0<=mZ x 255/\mZ x 255<=255:=by
 have h:(BitVec.ofInt 64 x &&& BitVec.ofInt 64 255).toNat<=255:=by
  rw[BitVec.toNat_and]
  exact Nat.le_trans Nat.and_le_right (by decide)
 unfold mZ
 rw[dU (by omega) (by omega)]
 omega
def lp (xs:List Int) (i:Int):Prop:=0<=i/\i<=(xs.length:Int)
section
variable {xs:List Int} {i h:Int}
theorem LB (hl:xs.length<=1048576): ∃r:Int×Int,j3 xs=some r/\lp xs r.1:=by
 have key: ∃s,aK (jD xs) br (i64.wrap (10101+(xs.length:Int)),0)=some (.brk s):=by
  obtain ⟨o,e,s,rfl⟩:=da (f:=jD xs) (fun j s=>s.2=(j:Int)) (fun o=> ∃s,o= .brk s) xs.length (fun j s hj hb=>by
   obtain ⟨a,b⟩:=s
   obtain rfl:b=(j:Int):=hb
   unfold jD
   simp only
   rw[vM]
   by_cases c0:j<xs.length
   ·rw[if_pos (by simpa using c0)]
    by_cases c:((j:Nat):Int)<4000
    ·rw[if_pos (by simpa using c),aB (by omega) (by omega)];simp only[ae]
     exact .inl ⟨c0,_,rfl,by show i64.wrap ((j:Int)+1)=_;rw[dU (by omega) (by omega)];omega⟩
    ·rw[if_neg (by simpa using c)]
     exact .inr ⟨_,rfl,(fun s' e=>by cases e),_,rfl⟩
   ·rw[if_neg (by simpa using c0)]
    exact .inr ⟨_,rfl,(fun s' e=>by cases e),_,rfl⟩) (s:=(i64.wrap (10101+(xs.length:Int)),0)) rfl (kV (by omega))
  exact ⟨s,e⟩
 obtain ⟨s,hs⟩:=key
 unfold j3
 rw[aD hs]
 exact ⟨_,rfl,by show (0:Int)<=0;omega,by show (0:Int)<=_;omega⟩
theorem xU (hl:xs.length<=1048576) (hc:lp xs i): ∃r:Int×Int×Int,fP (xs,i,h)=some r/\(0<=r.1/\r.1<=255)/\lp xs r.2.1:=by
 unfold fP
 simp only
 by_cases c:i<(xs.length:Int)
 ·rw[if_pos (by simpa using c),aB hc.1 c];simp only[ae]
  refine ⟨_,rfl,A0 _,?_⟩
  show lp xs (i64.wrap (i+1))
  have:=hc.1
  rw[dU (by omega) (by omega)]
  exact ⟨by omega,by omega⟩
 ·rw[if_neg (by simpa using c)];simp only[ae]
  exact ⟨_,rfl,A0 _,hc⟩
theorem gO (hl:xs.length<=1048576) (hc:lp xs i) {n:Int} (hn:0<n): ∃r:Int×Int×Int,bg (xs,i,h) n=some r/\(0<=r.1/\r.1<n)/\lp xs r.2.1:=by
 unfold bg
 simp only
 rw[if_neg (by simpa using hn)]
 have hck:chk (n≠0)=some ():=by unfold chk;rw[if_pos (by omega)]
 by_cases c:n<=256
 ·rw[if_pos (by simpa using c)]
  obtain ⟨r,e,h1,h2⟩:=xU (h:=h) hl hc
  rw[e,hck];simp only[ae]
  exact ⟨_,rfl,⟨Int.tmod_nonneg _ h1.1,Int.tmod_lt_of_pos _ hn⟩,h2⟩
 ·rw[if_neg (by simpa using c)]
  obtain ⟨r1,e1,h1,k1⟩:=xU (h:=h) hl hc
  rw[e1];simp only[ae]
  obtain ⟨r2,e2,h2,k2⟩:=xU (h:=r1.2.2) hl k1
  rw[e2];simp only[ae]
  obtain ⟨r3,e3,h3,k3⟩:=xU (h:=r2.2.2) hl k2
  rw[e3];simp only[ae]
  obtain ⟨r4,e4,h4,k4⟩:=xU (h:=r3.2.2) hl k3
  rw[e4,hck];simp only[ae]
  have w1:i64.wrap (r1.1*16777216)=r1.1*16777216:=dU (by omega) (by omega)
  have w2:i64.wrap (r2.1*65536)=r2.1*65536:=dU (by omega) (by omega)
  have w3:i64.wrap (r3.1*256)=r3.1*256:=dU (by omega) (by omega)
  have w4:i64.wrap (r1.1*16777216+r2.1*65536)=r1.1*16777216+r2.1*65536:=dU (by omega) (by omega)
  have w5:i64.wrap (r1.1*16777216+r2.1*65536+r3.1*256)=r1.1*16777216+r2.1*65536+r3.1*256:=dU (by omega) (by omega)
  have w6:i64.wrap (r1.1*16777216+r2.1*65536+r3.1*256+r4.1)=r1.1*16777216+r2.1*65536+r3.1*256+r4.1:=dU (by omega) (by omega)
  rw[w1,w2,w3,w4,w5,w6]
  exact ⟨_,rfl,⟨Int.tmod_nonneg _ (by omega),Int.tmod_lt_of_pos _ hn⟩,k4⟩
theorem uB (hl:xs.length<=1048576) (hc:lp xs i) {n:Int} (hn:0<n): ∃r:Bool×Int×Int,eY (xs,i,h) n=some r/\lp xs r.2.1:=by
 obtain ⟨r,e,-,k⟩:=gO (h:=h) hl hc hn
 unfold eY
 simp only
 rw[e]
 exact ⟨_,rfl,k⟩
theorem jw (hl:xs.length<=1048576) (hc:lp xs i) {l:List Int} (h0:l≠ []): ∃r:Int×Int×Int,bV (xs,i,h) l=some r/\r.1∈l/\lp xs r.2.1:=by
 have hp:0<(l.length:Int):=by have:=List.length_pos_iff.2 h0;omega
 obtain ⟨r,e,h1,k⟩:=gO (h:=h) hl hc hp
 unfold bV
 simp only
 rw[e];simp only[ae]
 rw[aB h1.1 h1.2];simp only[ae]
 exact ⟨_,rfl,cS h1.1 h1.2,k⟩
theorem Nv (hl:xs.length<=1048576) (hc:lp xs i) {l:List ByteArray} (h0:l≠ []): ∃r:ByteArray×Int×Int,mB (xs,i,h) l=some r/\r.1∈l/\lp xs r.2.1:=by
 have hp:0<(l.length:Int):=by have:=List.length_pos_iff.2 h0;omega
 obtain ⟨r,e,h1,k⟩:=gO (h:=h) hl hc hp
 unfold mB
 simp only
 rw[e];simp only[ae]
 rw[aB h1.1 h1.2];simp only[ae]
 exact ⟨_,rfl,cS h1.1 h1.2,k⟩
end
end D
namespace D
open Go.RowKit
instance trInh {α:Type} :Inhabited (Tr α):=⟨.nil⟩
def szX:Tr Tok->Int
 | .nil=>0
 | .node t ks=>min (szL t 1 ks) 100000
where szL (t:Tok) (acc:Int):List (Tr Tok)->Int
 | [] =>acc
 | k::ks=>szL t (acc+(if t.1=7 then (szX k+3)*t.2.2.2 else szX k)) ks
theorem fB {x:Tr Tok} (h:WT x):1<=szX x/\szX x<=100000:=by
 refine WT.ind (p:=fun x=>1<=szX x/\szX x<=100000) ?_ ?_ ?_ h
 ·intro t _
  show 1<=min (1:Int) 100000/\min (1:Int) 100000<=100000
  omega
 ·intro t a e _ ih
  show 1<=min ((1:Int)+(if t.1=7 then (szX a+3)*t.2.2.2 else szX a)) 100000/\min ((1:Int)+(if t.1=7 then (szX a+3)*t.2.2.2 else szX a)) 100000<=100000
  split
  ·rename_i k
   have hr:=xS (show 0<=ar t by omega) k
   have:0<=(szX a+3)*t.2.2.2:=Int.mul_nonneg (by omega) (by omega)
   omega
  ·omega
 ·intro t a b e _ _ iha ihb
  have k:t.1≠7:=by
   rcases kY (show 0<=ar t by omega) with ⟨_,k⟩ | ⟨k,_⟩ | ⟨k,_⟩ <;> omega
  show 1<=min ((1:Int)+(if t.1=7 then (szX a+3)*t.2.2.2 else szX a)+(if t.1=7 then (szX b+3)*t.2.2.2 else szX b)) 100000/\min ((1:Int)+(if t.1=7 then (szX a+3)*t.2.2.2 else szX a)+(if t.1=7 then (szX b+3)*t.2.2.2 else szX b)) 100000<=100000
  rw[if_neg k,if_neg k]
  omega
theorem Ff {a h:Int} (h1:1<=a/\a<=100000) (h2:1<=h/\h<=3):i64.wrap ((i64.wrap (a+3))*h)=(a+3)*h:=by
 rw[dU (n:=a+3) (by omega) (by omega)]
 have k1:0<=(a+3)*h:=Int.mul_nonneg (by omega) (by omega)
 have k2:(a+3)*h<=100003*3:=Int.mul_le_mul (by omega) (by omega) (by omega) (by omega)
 exact dU (by omega) (by omega)
theorem LC {a h:Int} (h1:1<=a/\a<=100000) (h2:1<=h/\h<=3):0<=(a+3)*h/\(a+3)*h<=300009:=by
 have k1:0<=(a+3)*h:=Int.mul_nonneg (by omega) (by omega)
 have k2:(a+3)*h<=100003*3:=Int.mul_le_mul (by omega) (by omega) (by omega) (by omega)
 omega
theorem iI {A:List Tok} {t:Tok} (h:A.length<=1000000):bf (A++ [t]) (i64.wrap (((A++ [t]).length:Int) - 1))=some t/\i64.wrap (((A++ [t]).length:Int) - 1)=(A.length:Int):=by
 have e:i64.wrap (((A++ [t]).length:Int) - 1)=(A.length:Int):=by
  rw[dU (by simp only[aw,ax,aG];omega) (by simp only[aw,ax,aG];omega)]
  simp only[aw,ax,aG];omega
 refine ⟨?_,e⟩
 rw[e,aB (by omega) (by simp only[aw,ax,aG];omega),a9 (by simp)]
 simp
theorem O3 {t:Tok} (h:ar t=2):(if t.1==4 then (some (t.1==4)) else (some (t.1==5)):Option Bool)=some true:=by
 rcases kY (show 0<=ar t by omega) with ⟨_,k | k⟩ | ⟨e,_⟩ | ⟨e,_⟩
 ·simp[k]
 ·simp[k]
 ·omega
 ·omega
theorem HV {t:Tok} (h:ar t=1\/ar t=0):(if t.1==4 then (some (t.1==4)) else (some (t.1==5)):Option Bool)=some false:=by
 rcases kY (show 0<=ar t by omega) with ⟨e,k⟩ | ⟨e,k | k⟩ | ⟨e,k | k | k⟩
 ·omega
 all_goals simp[k]
theorem Nw {t:Tok} (h:ar t=0):(t.1==6)=false/\(t.1==7)=false:=by
 rcases kY (show 0<=ar t by omega) with ⟨e,k⟩ | ⟨e,k | k⟩ | ⟨e,k | k | k⟩
 ·omega
 ·omega
 ·omega
 all_goals simp[k]
theorem LD {t:Tok} (h:ar t=1):((t.1==6)=true/\t.1=6)\/((t.1==6)=false/\(t.1==7)=true/\t.1=7):=by
 rcases kY (show 0<=ar t by omega) with ⟨e,k⟩ | ⟨e,k | k⟩ | ⟨e,k | k | k⟩
 ·omega
 ·left;simp[k]
 ·right;simp[k]
 all_goals omega
theorem sL {a b:Tr Tok} {t:Tok} (wb:WT b) (hl:((flat a++flat b)++ [t]).length<=1000000) :
  (((flat a++flat b)++ [t]).take ((((flat a++flat b).length:Nat):Int)).toNat)=flat a++flat b /\
  eG (flat a++flat b)=some (((flat a).length:Nat):Int) /\
  (((flat a++flat b)++ [t]).take ((((flat a).length:Nat):Int)).toNat)=flat a /\
  (flat a++flat b).drop ((((flat a).length:Nat):Int)).toNat=flat b:=by
 refine ⟨?_,Lz wb (by simp only[aw,ax,aG] at hl⊢;omega),?_,?_⟩
 ·rw[Int.toNat_natCast,List.take_left]
 ·rw[Int.toNat_natCast,ai,List.take_left]
 ·rw[Int.toNat_natCast,List.drop_left]
theorem Nx {x:Tr Tok} (h:WT x): ∀n,(flat x).length<=n->(flat x).length<=1000000->cN n (flat x)=some (szX x):=by
 refine WT.ind (p:=fun x=> ∀n,(flat x).length<=n->(flat x).length<=1000000->cN n (flat x)=some (szX x)) ?_ ?_ ?_ h
 ·intro t e n hn hl
  rw[zB] at hn hl⊢
  match n,hn with
  | n+1,_ =>
   have hk:=Nw e
   rw[cN]
   have:=(iI (A:=[]) (t:=t) (by simp)).1
   rw[List.nil_append] at this
   rw[this];simp only[ae]
   rw[HV (.inr e)];simp only[ae,hk.1,hk.2,Bool.false_eq_true,if_false]
   rfl
 ·intro t a e wa ih n hn hl
  rw[B9] at hn hl⊢
  simp only[aw,ax,aG] at hn hl
  match n,hn with
  | n+1,hn =>
   have hr:=fB wa
   rw[cN]
   obtain ⟨l1,l2⟩:=iI (A:=flat a) (t:=t) (by omega)
   rw[l1];simp only[ae]
   rw[HV (.inl e)];simp only[ae,Bool.false_eq_true,if_false]
   rw[l2,Int.toNat_natCast,List.take_left,jv (by simp only[aw,ax,aG];omega)];simp only[ae]
   rw[ih n (by omega) (by omega)];simp only[ae]
   rcases LD e with ⟨k1,k2⟩ | ⟨k1,k2,k3⟩
   ·rw[if_pos k1,dU (by omega) (by omega)]
    show some (min 100000 (szX a+1))=some (min ((1:Int)+(if t.1=7 then (szX a+3)*t.2.2.2 else szX a)) 100000)
    rw[if_neg (by omega)]
    congr 1;omega
   ·have h7:=xS (show 0<=ar t by omega) k3
    have hm:=LC hr h7.2
    rw[if_neg (by simp[k1]),if_pos k2,Ff hr h7.2,dU (by omega) (by omega)]
    show some (min 100000 ((szX a+3)*t.2.2.2+1))=some (min ((1:Int)+(if t.1=7 then (szX a+3)*t.2.2.2 else szX a)) 100000)
    rw[if_pos k3]
    congr 1;omega
 ·intro t a b e wa wb iha ihb n hn hl
  rw[qp] at hn hl⊢
  obtain ⟨p1,p2,p3,p4⟩:=sL (a:=a) (t:=t) wb hl
  simp only[aw,ax,aG] at hn hl
  match n,hn with
  | n+1,hn =>
   have hra:=fB wa
   have hrb:=fB wb
   have k:t.1≠7:=by
    rcases kY (show 0<=ar t by omega) with ⟨_,k⟩ | ⟨k,_⟩ | ⟨k,_⟩ <;> omega
   rw[cN]
   obtain ⟨l1,l2⟩:=iI (A:=flat a++flat b) (t:=t) (by rw[aw];omega)
   rw[l1];simp only[ae]
   rw[O3 e];simp only[ae,if_true]
   rw[l2,p1,p2,jv (by simp only[aw,ax,aG];omega)];simp only[ae]
   rw[jv (by simp only[aw,ax,aG];omega),p3,p4];simp only[ae]
   rw[iha n (by omega) (by omega),jv (by simp only[aw,ax,aG];omega)];simp only[ae]
   rw[ihb n (by have:=wa.pos;omega) (by omega)];simp only[ae]
   rw[dU (n:=szX a+szX b) (by omega) (by omega),dU (by omega) (by omega)]
   show some (min 100000 (szX a+szX b+1))=some (min ((1:Int)+(if t.1=7 then (szX a+3)*t.2.2.2 else szX a)+(if t.1=7 then (szX b+3)*t.2.2.2 else szX b)) 100000)
   rw[if_neg k,if_neg k]
   congr 1;omega
def HW:Tr Tok:=.node (2,0,0,0) []
def Cb (x:Tr Tok):Nat->Int->Tr Tok
 | 0,_=>HW
 | h+1,low=>if 0<low then .node (4,0,0,0) [x,Cb x h (max 0 (low - 1))] else .node (5,0,0,0) [.node (4,0,0,0) [x,Cb x h (max 0 (low - 1))],HW]
mutual
def pR:Tr Tok->Tr Tok
 | .nil=>.nil
 | .node t ks=>if t.1=7 then Cb ((HY ks).headD .nil) t.2.2.2.toNat t.2.2.1 else .node t (HY ks)
def HY:List (Tr Tok)->List (Tr Tok)
 | [] =>[]
 | k::ks=>pR k::HY ks
end
theorem ar4:ar (4,0,0,0)=2:=by decide
theorem ar5:ar (5,0,0,0)=2:=by decide
theorem ar2:ar (2,0,0,0)=0:=by decide
theorem Fg:WT HW:=.node ar2 fun k hk=>by cases hk
theorem oS:flat HW= [(2,0,0,0)]:=zB _
theorem WT.two {t:Tok} {a b:Tr Tok} (h:ar t=2) (ha:WT a) (hb:WT b):WT (.node t [a,b]):=.node h fun k hk=>by
 rcases au hk with rfl | hk
 ·exact ha
 ·obtain rfl:=ak hk
  exact hb
theorem WT.one {t:Tok} {a:Tr Tok} (h:ar t=1) (ha:WT a):WT (.node t [a]):=.node h fun k hk=>by
 obtain rfl:=ak hk
 exact ha
theorem zE {x:Tr Tok} (hx:WT x): ∀(h:Nat) (low:Int),WT (Cb x h low)
 | 0,_=>Fg
 | h+1,low=>by
  rw[Cb]
  split
  ·exact .two ar4 hx (zE hx h _)
  ·exact .two ar5 (.two ar4 hx (zE hx h _)) Fg
theorem vV (x:Tr Tok): ∀(h:Nat) (low:Int),(flat (Cb x h low)).length<=((flat x).length+3)*h+1
 | 0,_=>by rw[Cb,oS];simp
 | h+1,low=>by
  have ih:=vV x h (max 0 (low - 1))
  rw[Cb]
  split
  ·rw[qp];simp only[aw,ax,aG]
   rw[Nat.mul_succ];omega
  ·rw[qp,qp,oS];simp only[aw,ax,aG]
   rw[Nat.mul_succ];omega
theorem Oz {t:Tok} {a:Tr Tok} :pR (.node t [a])=if t.1=7 then Cb (pR a) t.2.2.2.toNat t.2.2.1 else .node t [pR a]:=by rw[pR,HY,HY];rfl
theorem exp2 {t:Tok} {a b:Tr Tok} (h:t.1≠7):pR (.node t [a,b])= .node t [pR a,pR b]:=by rw[pR,if_neg h,HY,HY,HY]
theorem OA {t:Tok} (h:t.1≠7):pR (.node t [])= .node t []:=by rw[pR,if_neg h,HY]
theorem no7 {t:Tok} (h:ar t=2\/ar t=0):t.1≠7:=by
 rcases kY (show 0<=ar t by omega) with ⟨_,k⟩ | ⟨k,_⟩ | ⟨_,k⟩ <;> omega
theorem Ny {x:Tr Tok} (h:WT x):WT (pR x):=by
 refine WT.ind (p:=fun x=>WT (pR x)) ?_ ?_ ?_ h
 ·intro t e
  rw[OA (no7 (.inr e))]
  exact .node e fun k hk=>by cases hk
 ·intro t a e _ ih
  rw[Oz]
  split
  ·exact zE ih _ _
  ·exact .one e ih
 ·intro t a b e _ _ iha ihb
  rw[exp2 (no7 (.inl e))]
  exact .two e iha ihb
theorem vW {x:Tr Tok} (h:WT x):szX x<100000->((flat (pR x)).length:Int)<=szX x:=by
 refine WT.ind (p:=fun x=>szX x<100000->((flat (pR x)).length:Int)<=szX x) ?_ ?_ ?_ h
 ·intro t e _
  rw[OA (no7 (.inr e)),zB]
  show (1:Int)<=min 1 100000
  omega
 ·intro t a e wa ih hs
  have hr:=fB wa
  have hs':min ((1:Int)+(if t.1=7 then (szX a+3)*t.2.2.2 else szX a)) 100000<100000:=hs
  show _<=min ((1:Int)+(if t.1=7 then (szX a+3)*t.2.2.2 else szX a)) 100000
  rw[Oz]
  by_cases k:t.1=7
  ·rw[if_pos k] at hs'⊢
   rw[if_pos k]
   have h7:=xS (show 0<=ar t by omega) k
   have hge:szX a+3<=(szX a+3)*t.2.2.2:=by
    have:=Int.mul_le_mul_of_nonneg_left (c:=szX a+3) h7.2.1 (by omega)
    omega
   have h1:=ih (by omega)
   have h2:=vV (pR a) t.2.2.2.toNat t.2.2.1
   have h3:(((flat (pR a)).length+3)*t.2.2.2.toNat:Int)<=(szX a+3)*t.2.2.2:=by
    rw[Int.toNat_of_nonneg (by omega)]
    exact Int.mul_le_mul_of_nonneg_right (by omega) (by omega)
   have h4:((flat (Cb (pR a) t.2.2.2.toNat t.2.2.1)).length:Int)<=(((flat (pR a)).length+3)*t.2.2.2.toNat:Int)+1:=by exact_mod_cast h2
   omega
  ·rw[if_neg k] at hs'⊢
   rw[if_neg k,B9]
   have h1:=ih (by omega)
   simp only[aw,ax,aG]
   omega
 ·intro t a b e wa wb iha ihb hs
  have hra:=fB wa
  have hrb:=fB wb
  have k:=no7 (.inl e)
  have hs':min ((1:Int)+(if t.1=7 then (szX a+3)*t.2.2.2 else szX a)+(if t.1=7 then (szX b+3)*t.2.2.2 else szX b)) 100000<100000:=hs
  show _<=min ((1:Int)+(if t.1=7 then (szX a+3)*t.2.2.2 else szX a)+(if t.1=7 then (szX b+3)*t.2.2.2 else szX b)) 100000
  rw[if_neg k,if_neg k] at hs'⊢
  rw[exp2 k,qp]
  have h1:=iha (by omega)
  have h2:=ihb (by omega)
  simp only[aw,ax,aG]
  omega
theorem sM {a b:List Tok} {t:Tok} (h:a.length+b.length<=1000000):cL a b t=some ((a++b)++ [t]):=by
 unfold cL pw
 rw[aT (by simp only[aw,ax,aG];omega)];simp only[ae,List.nil_append]
 rw[aT (by omega)];simp only[ae]
 rw[aT (by simp only[aw,ax,aG];omega)];rfl
theorem Fh {x:Tr Tok} : ∀(h n:Nat) (low:Int),h<n->h<=3->0<=low->low<=3->(flat x).length<=100000->fO n (flat x) low (h:Int)=some (flat (Cb x h low))
 | 0,n+1,low,_,_,_,_,_=>by
  rw[fO,if_pos (by rfl),Cb,oS];rfl
 | h+1,n+1,low,h1,h2,h3,h4,h5=>by
  rw[fO,if_neg (by simp;omega),dU (n:=low - 1) (by omega) (by omega),dU (n:=((h+1:Nat):Int) - 1) (by omega) (by omega)]
  rw[show ((h+1:Nat):Int) - 1=(h:Int) from by omega,Fh h n (max 0 (low - 1)) (by omega) (by omega) (by omega) (by omega) h5];simp only[ae]
  have hl:=vV x h (max 0 (low - 1))
  have hl3:((flat x).length+3)*h<=100003*3:=Nat.mul_le_mul (by omega) (by omega)
  rw[sM (by omega),Cb];simp only[ae]
  by_cases c:0<low
  ·rw[if_pos (by simpa using c),if_pos c,qp]
  ·rw[if_neg (by simpa using c),if_neg c,qp,qp,oS]
   show (iK 2).bind _=_
   unfold iK;simp only[ae]
   rw[sM (by simp only[aw,ax,aG];omega)];rfl
theorem oT:1000000000000<=jx:=by rw[FX];unfold br;omega
theorem HZ {x:Tr Tok} (h:WT x): ∀n,(flat x).length<=n->(flat x).length<=1000000->szX x<=50000->bG n (flat x)=some (flat (pR x)):=by
 have hF:=oT
 refine WT.ind (p:=fun x=> ∀n,(flat x).length<=n->(flat x).length<=1000000->szX x<=50000->bG n (flat x)=some (flat (pR x))) ?_ ?_ ?_ h
 ·intro t e n hn hl hs
  rw[zB] at hn hl⊢
  match n,hn with
  | n+1,_ =>
   have hk:=Nw e
   rw[bG]
   have:=(iI (A:=[]) (t:=t) (by simp)).1
   rw[List.nil_append] at this
   rw[this];simp only[ae]
   rw[HV (.inr e)];simp only[ae,hk.1,hk.2,Bool.false_eq_true,if_false]
   rw[OA (no7 (.inr e)),zB]
 ·intro t a e wa ih n hn hl hs
  have hs':min ((1:Int)+(if t.1=7 then (szX a+3)*t.2.2.2 else szX a)) 100000<=50000:=hs
  rw[B9] at hn hl⊢
  simp only[aw,ax,aG] at hn hl
  match n,hn with
  | n+1,hn =>
   have hr:=fB wa
   have hsa:szX a<=50000:=by
    by_cases k:t.1=7
    ·rw[if_pos k] at hs'
     have h7:=xS (show 0<=ar t by omega) k
     have hge:szX a+3<=(szX a+3)*t.2.2.2:=by
      have:=Int.mul_le_mul_of_nonneg_left (c:=szX a+3) h7.2.1 (by omega)
      omega
     omega
    ·rw[if_neg k] at hs';omega
   have hla:=vW wa (by omega)
   rw[bG]
   obtain ⟨l1,l2⟩:=iI (A:=flat a) (t:=t) (by omega)
   rw[l1];simp only[ae]
   rw[HV (.inl e)];simp only[ae,Bool.false_eq_true,if_false]
   rw[l2,Int.toNat_natCast,List.take_left,jv (by simp only[aw,ax,aG];omega)];simp only[ae]
   rw[ih n (by omega) (by omega) hsa,Oz];simp only[ae]
   rcases LD e with ⟨k1,k2⟩ | ⟨k1,k2,k3⟩
   ·rw[if_pos k1,if_neg (by omega),sM (by simp;omega),B9];simp
   ·have h7:=xS (show 0<=ar t by omega) k3
    rw[if_neg (by simp[k1]),if_pos k2,if_pos k3]
    have:=Fh (x:=pR a) t.2.2.2.toNat jx t.2.2.1 (by omega) (by omega) (by omega) (by omega) (by omega)
    rw[Int.toNat_of_nonneg (by omega)] at this
    rw[this];rfl
 ·intro t a b e wa wb iha ihb n hn hl hs
  have k:=no7 (.inl e)
  have hs':min ((1:Int)+(if t.1=7 then (szX a+3)*t.2.2.2 else szX a)+(if t.1=7 then (szX b+3)*t.2.2.2 else szX b)) 100000<=50000:=hs
  rw[if_neg k,if_neg k] at hs'
  rw[qp] at hn hl⊢
  obtain ⟨p1,p2,p3,p4⟩:=sL (a:=a) (t:=t) wb hl
  simp only[aw,ax,aG] at hn hl
  match n,hn with
  | n+1,hn =>
   have hra:=fB wa
   have hrb:=fB wb
   have hla:=vW wa (by omega)
   have hlb:=vW wb (by omega)
   rw[bG]
   obtain ⟨l1,l2⟩:=iI (A:=flat a++flat b) (t:=t) (by rw[aw];omega)
   rw[l1];simp only[ae]
   rw[O3 e];simp only[ae,if_true]
   rw[l2,p1,p2,jv (by simp only[aw,ax,aG];omega)];simp only[ae]
   rw[jv (by simp only[aw,ax,aG];omega),p3,p4];simp only[ae]
   rw[iha n (by omega) (by omega) (by omega),jv (by simp only[aw,ax,aG];omega)];simp only[ae]
   rw[ihb n (by have:=wa.pos;omega) (by omega) (by omega)];simp only[ae]
   rw[sM (by omega),exp2 k,qp];rfl
def Cl (e:List Tok):List Tok×Bool:=
 if decide (e.length<=24)&&isX e then (if 5000<szX (Fc e) then ([],false) else (if 400<(flat (pR (Fc e))).length then ([],false) else (flat (pR (Fc e)),true))) else ([],false)
theorem LF {e:List Tok} (h:(Cl e).2=true): ∃y,WT y/\(Cl e).1=flat y/\(flat y).length<=400:=by
 unfold Cl at h⊢
 split at h
 ·rename_i c
  rw[if_pos c]
  rw[ah] at c
  obtain ⟨x,h1,hw,rfl⟩:=Jk c.2
  rw[uA hw] at h⊢
  split at h
  ·cases h
  ·rename_i c2
   rw[if_neg c2]
   split at h
   ·cases h
   ·rename_i c3
    rw[if_neg c3]
    exact ⟨_,Ny hw,rfl,by omega⟩
 ·cases h
end D
namespace D
open Go.RowKit
def lk (F:List Int) (from_ to_:Int):Nat->List Int
 | 0=>F
 | i+1=>if HO from_ i then (lk F from_ to_ i).set i (orI (nth (lk F from_ to_ i) (i:Int)) to_) else lk F from_ to_ i
theorem uC (F:List Int) (f t:Int): ∀i,(lk F f t i).length=F.length
 | 0=>rfl
 | i+1=>by
  rw[lk]
  split
  ·rw[List.length_set,uC]
  ·exact uC F f t i
theorem Jn {p:oY} {f t:Int} (hl:p.2.2.2.1.length<=1000000):jc p f t=some (p.1,p.2.1,p.2.2.1,lk p.2.2.2.1 f t p.2.2.2.1.length,p.2.2.2.2):=by
 have hL:aK (fq f t) br (0,p.2.2.2.1)=some (.brk ((p.2.2.2.1.length:Int),lk p.2.2.2.1 f t p.2.2.2.1.length)):=bX (f:=fq f t) (fun i=>((i:Int),lk p.2.2.2.1 f t i)) p.2.2.2.1.length (fun i hi=>by
  have hk:=uC p.2.2.2.1 f t i
  unfold fq
  simp only
  rw[if_pos (by simp;omega),jW];simp only[ae]
  rw[lk,aI (by omega)]
  by_cases c:HO f i=true
  ·rw[if_pos c,if_pos c,aB (by omega) (by omega)];simp only[ae,Int.toNat_natCast]
  ·rw[if_neg c,if_neg c];rfl) (by unfold fq;simp[uC]) (kV (by omega))
 unfold jc
 rw[aD hL]
def Fi (e:List Tok):Nat->Nat
 | 0=>0
 | i+1=>if (nth e (i:Int)).1=3 then Fi e i+1 else Fi e i
theorem Fj (e:List Tok): ∀i,Fi e i<=i
 | 0=>az _
 | i+1=>by
  have:=Fj e i
  rw[Fi];split <;> omega
theorem OB {r:List Tok×Bool} (hl:r.1.length<=1000000):aK (b7 r) br (0,0)=some (.brk ((Fi r.1 r.1.length:Int),(r.1.length:Int))):=
 bX (f:=b7 r) (fun i=>((Fi r.1 i:Int),(i:Int))) r.1.length (fun i hi=>by
  have:=Fj r.1 i
  unfold b7
  simp only
  rw[if_pos (by simp;omega),aB (by omega) (by omega)];simp only[ae]
  rw[Fi,aI (show i<9223372036854775807 by omega),aI (show Fi r.1 i<9223372036854775807 by omega)]
  by_cases c:(nth r.1 (i:Int)).1=3
  ·rw[if_pos (by simpa using c),if_pos c];rfl
  ·rw[if_neg (by simpa using c),if_neg c];rfl) (by unfold b7;simp) (kV (by omega))
end D
namespace D
open Go.RowKit
def O4 (x:Tr Tok):Prop:= ∀(n:Nat) (p:oY),(flat x).length<=n->p.2.2.2.1.length=p.1.length->p.1.length+(flat x).length<=100000->
 ∃(nu:Bool) (fi la:Int) (q:oY),b0 n p (flat x)=some ((nu,fi,la),q)/\q.2.2.2.1.length=q.1.length/\q.1.length<=p.1.length+(flat x).length
theorem H0 {x:Tr Tok} (h:WT x):O4 x:=by
 refine WT.ind (p:=O4) ?_ ?_ ?_ h
 ·intro t e n p hn hF hl
  rw[zB] at hn hl⊢
  simp only[ax,aG] at hl
  match n,hn with
  | n+1,_ =>
   rw[b0]
   have:=(iI (A:=[]) (t:=t) (by simp)).1
   rw[List.nil_append] at this
   rw[this];simp only[ae,mW]
   rcases kY (show 0<=ar t by omega) with ⟨k,_⟩ | ⟨k,_⟩ | ⟨_,k⟩
   ·omega
   ·omega
   rcases k with k | k | k
   ·exact ⟨false,0,0,p,by simp[k],hF,by simp⟩
   ·exact ⟨true,0,0,p,by simp[k],hF,by simp⟩
   ·refine ⟨false,v8 1 (p.1.length:Int),v8 1 (p.1.length:Int),(p.1++ [t.2.1],p.2.1,p.2.2.1,p.2.2.2.1++ [0],p.2.2.2.2),?_,by simp[hF],by simp⟩
    rw[if_neg (by simp[k]),if_pos (by simp[k]),aT (by simp;omega)];simp only[ae]
    rw[aT (by simp;omega)];rfl
 ·intro t a e wa ih n p hn hF hl
  rw[B9] at hn hl⊢
  simp only[aw,ax,aG] at hn hl
  match n,hn with
  | n+1,hn =>
   rw[b0];simp only[mW]
   obtain ⟨l1,l2⟩:=iI (A:=flat a) (t:=t) (by omega)
   rw[l1];simp only[ae]
   obtain ⟨nu,fi,la,q,hs,hq1,hq2⟩:=ih n p (by omega) hF (by omega)
   rcases LD e with ⟨k1,k2⟩ | ⟨k1,k2,k3⟩
   ·have g2:(t.1==2)=false:=by simp[k2]
    have g3:(t.1==3)=false:=by simp[k2]
    have g4:(t.1==4)=false:=by simp[k2]
    have g5:(t.1==5)=false:=by simp[k2]
    simp only[g2,g3,g4,g5,k1,Bool.false_eq_true,if_false,if_true]
    rw[l2,Int.toNat_natCast,List.take_left,jv (by simp only[aw,ax,aG];omega)];simp only[ae]
    rw[hs];simp only[ae,mW]
    rw[Jn (by omega)];simp only[ae]
    refine ⟨true,fi,la,_,rfl,?_,?_⟩
    ·simp only[uC];exact hq1
    ·simp only[aw,ax,aG];omega
   ·have g2:(t.1==2)=false:=by simp[k3]
    have g3:(t.1==3)=false:=by simp[k3]
    have g4:(t.1==4)=false:=by simp[k3]
    have g5:(t.1==5)=false:=by simp[k3]
    simp only[g2,g3,g4,g5,k1,Bool.false_eq_true,if_false]
    exact ⟨false,0,0,p,rfl,hF,by omega⟩
 ·intro t a b e wa wb iha ihb n p hn hF hl
  rw[qp] at hn hl⊢
  have hl2:((flat a++flat b)++ [t]).length<=1000000:=by omega
  obtain ⟨p1,p2,p3,p4⟩:=sL (a:=a) (t:=t) wb hl2
  simp only[aw,ax,aG] at hn hl
  match n,hn with
  | n+1,hn =>
   have hpa:=wa.pos
   have hpb:=wb.pos
   rw[b0];simp only[mW]
   obtain ⟨l1,l2⟩:=iI (A:=flat a++flat b) (t:=t) (by rw[aw];omega)
   rw[l1];simp only[ae]
   obtain ⟨nu,fi,la,q,hs,hq1,hq2⟩:=iha n p (by omega) hF (by omega)
   obtain ⟨nu2,fi2,la2,q2,hs2,hq3,hq4⟩:=ihb n q (by omega) hq1 (by omega)
   rcases kY (show 0<=ar t by omega) with ⟨_,k⟩ | ⟨k,_⟩ | ⟨k,_⟩
   ·rcases k with k | k
    ·have g2:(t.1==2)=false:=by simp[k]
     have g3:(t.1==3)=false:=by simp[k]
     have g4:(t.1==4)=true:=by simp[k]
     have g5:(t.1==5)=false:=by simp[k]
     simp only[g2,g3,g4,g5,Bool.false_eq_true,if_false,if_true]
     rw[l2,p1,p2,jv (by simp only[aw,ax,aG];omega)];simp only[ae]
     rw[jv (by simp only[aw,ax,aG];omega),p3,p4,hs];simp only[ae]
     rw[jv (by simp only[aw,ax,aG];omega)];simp only[ae,mW]
     rw[hs2];simp only[ae,mW]
     rw[Jn (by omega)];simp only[ae]
     refine ⟨nu&&nu2,if nu then orI fi fi2 else fi,if nu2 then orI la la2 else la2,(q2.1,q2.2.1,q2.2.2.1,lk q2.2.2.2.1 la fi2 q2.2.2.2.1.length,q2.2.2.2.2),?_,?_,?_⟩
     ·cases nu <;> cases nu2 <;> rfl
     ·simp only[uC];exact hq3
     ·simp only[aw,ax,aG];omega
    ·have g2:(t.1==2)=false:=by simp[k]
     have g3:(t.1==3)=false:=by simp[k]
     have g4:(t.1==4)=false:=by simp[k]
     have g5:(t.1==5)=true:=by simp[k]
     simp only[g2,g3,g4,g5,Bool.false_eq_true,if_false,if_true]
     rw[l2,p1,p2,jv (by simp only[aw,ax,aG];omega)];simp only[ae]
     rw[jv (by simp only[aw,ax,aG];omega),p3,p4,hs];simp only[ae]
     rw[jv (by simp only[aw,ax,aG];omega)];simp only[ae,mW]
     rw[hs2];simp only[ae,mW]
     refine ⟨nu || nu2,orI fi fi2,orI la la2,q2,?_,hq3,?_⟩
     ·cases nu <;> simp
     ·simp only[aw,ax,aG];omega
   ·omega
   ·omega
theorem Fk {e:List Tok} (he:e.length<=1048576):gR e=some (Cl e):=by
 have hF:=oT
 unfold gR Cl
 rw[zC he];simp only[ae]
 by_cases c:(decide (e.length<=24)&&isX e)=true
 ·rw[if_pos c,if_pos c]
  rw[ah] at c
  obtain ⟨x,h1,hw,rfl⟩:=Jk c.2
  have h24:(flat x).length<=24:=by simpa using c.1
  have hr:=fB hw
  rw[uA hw,Nx hw jx (by omega) (by omega)];simp only[ae]
  by_cases c2:5000<szX x
  ·simp only[gt_iff_lt,c2,decide_true,if_true]
  ·simp only[gt_iff_lt,c2,decide_false,if_false,Bool.false_eq_true]
   have hl:=vW hw (by omega)
   rw[HZ hw jx (by omega) (by omega) (by omega)];simp only[ae]
   by_cases c3:400<(flat (pR x)).length
   ·have c3':decide (((flat (pR x)).length:Int)>400)=true:=decide_eq_true (by omega)
    simp only[c3',c3,if_true]
   ·have c3':decide (((flat (pR x)).length:Int)>400)=false:=decide_eq_false (by omega)
    simp only[c3',c3,if_false,Bool.false_eq_true]
 ·rw[if_neg c,if_neg c]
theorem sN {e:List Tok} (he:e.length<=1048576): ∃r:oY×Bool,c7 e=some r/\r.1.2.2.2.1.length=r.1.1.length/\r.1.1.length<=400:=by
 have hF:=oT
 unfold c7
 rw[Fk he];simp only[ae]
 by_cases c:(Cl e).2=true
 ·obtain ⟨y,wy,ey,ly⟩:=LF c
  rw[if_pos c,aD (OB (by rw[ey];omega))]
  simp only
  by_cases d:(Fi (Cl e).1 (Cl e).1.length:Int)>20
  ·have d':decide ((Fi (Cl e).1 (Cl e).1.length:Int)>20)=true:=decide_eq_true d
   simp only[d',if_true]
   exact ⟨_,rfl,rfl,by simp⟩
  ·have d':decide ((Fi (Cl e).1 (Cl e).1.length:Int)>20)=false:=decide_eq_false d
   simp only[d',Bool.false_eq_true,if_false]
   rw[ey]
   obtain ⟨nu,fi,la,q,hs,hq1,hq2⟩:=H0 wy jx ([],0,0,[],false) (by omega) rfl (by simp;omega)
   rw[hs];simp only[ae]
   exact ⟨_,rfl,hq1,by simp at hq2;show q.1.length<=_;omega⟩
 ·rw[if_neg c]
  exact ⟨_,rfl,rfl,by simp⟩
theorem Fl {p:oY} (h1:p.2.2.2.1.length=p.1.length) (h2:p.1.length<=100000): ∃r:AutT×Bool,bW p 12=some r/\(r.2=true-> ∃N,N<=12/\bfE (nxS p) 1 N/\r.1=(0,(bfS (nxS p) 1 N).map (gN p),bfR (nxS p) 1 N)/\VA r.1 N):=by
 have d1:=Ns (p:=p) (most:=12) h1 (by omega) (by omega) (by omega)
 have d1:bW p 12=_:=d1
 rw[d1]
 rcases zD (nx:=nxS p) (first:=1) (acc:=gN p) (most:=12) (12+2) 0 (fun j hj=>by omega) (by simp[bfS]) with e | ⟨N,hN,hNm,e⟩
 ·exact ⟨_,rfl,fun h=>by rw[e] at h;cases h⟩
 ·rw[e]
  have V:=EW (acc:=gN p) (pQ p) hN
  exact ⟨_,rfl,fun _=>⟨N,hNm,hN,rfl,V⟩⟩
end D
namespace D
open Go.RowKit
def A1:List ByteArray:=[⟨#[97]⟩,⟨#[97,32,98,32,46]⟩,⟨#[97,32,42]⟩,⟨#[97,32,98,32,124,32,42]⟩,⟨#[97,32,97,45,32,46]⟩,⟨#[97,32,42,32,98,32,46]⟩,⟨#[97,32,98,32,42,32,46,32,99,32,46]⟩,⟨#[97,32,97,32,124,32,42]⟩,⟨#[97,32,98,32,46,32,42]⟩,⟨#[48,32,97,32,46,32,42]⟩,⟨#[97,32,49,32,46,32,98,32,46]⟩,⟨#[97,32,123,48,44,50,125]⟩,⟨#[97,32,98,32,124,32,123,49,44,51,125]⟩,⟨#[40,41]⟩,⟨#[33]⟩,⟨#[97,45,32,42,32,97,32,46]⟩,⟨#[97,32,98,45,32,46,32,42,32,99,32,124]⟩,⟨#[97,32,42,32,97,32,42,32,46]⟩,⟨#[97,32,48,32,124,32,42,32,98,32,46]⟩,⟨#[97,32,97,32,46,32,42]⟩,⟨#[97,32,98,32,46,32,98,32,97,32,46,32,124,32,42]⟩]
def Fm (t:ByteArray):Bool:=match eZ t with
 | some r=>r.2&&Nat.ble 1 r.1.length&&Nat.ble r.1.length 24
 | none=>false
theorem Fo:A1.all Fm=true:=by kernel_rfl
theorem H2 {t:ByteArray} (h:t∈A1): ∃r:List Tok×Bool,eZ t=some r/\r.2=true/\1<=r.1.length/\r.1.length<=24:=by
 have h1:Fm t=true:=List.all_eq_true.1 Fo t h
 unfold Fm at h1
 split at h1
 ·rename_i r hr
  rw[ah,ah] at h1
  exact ⟨r,hr,h1.1.1,bM h1.1.2,bM h1.2⟩
 ·cases h1
section
variable {xs:List Int} {i h:Int}
theorem LG (hl:xs.length<=1048576) (hc:lp xs i): ∃r:List Tok×Int×Int,kM (xs,i,h)=some r/\(1<=r.1.length/\r.1.length<=24)/\lp xs r.2.1:=by
 obtain ⟨r,e,h1,k⟩:=Nv (h:=h) hl hc (l:=A1) (by unfold A1;simp)
 obtain ⟨q,e2,-,h2⟩:=H2 h1
 unfold kM
 have hb:=congrArg (fun o:Option (ByteArray×Int×Int)=>Option.bind o (fun r0:ByteArray×Int×Int=>(eZ r0.1).bind fun r1=>some (r1.1,r0.2.1,r0.2.2))) e
 refine ⟨(q.1,r.2.1,r.2.2),hb.trans ?_,h2,k⟩
 show (eZ r.1).bind _=_
 rw[e2];rfl
theorem xV (hl:xs.length<=1048576): ∀(d n:Nat) (i h:Int),d<n->d<=3->lp xs i-> ∃r:List Tok×Int×Int,cr n (xs,i,h) (d:Int)=some r/\(1<=r.1.length/\r.1.length+1<=2 ^ (d+1))/\lp xs r.2.1
 | 0,n+1,i,h,_,_,hc=>by
  rw[cr];simp only
  rw[if_pos (by decide)]
  obtain ⟨r,e,k⟩:=uB (h:=h) hl hc (n:=12) (by omega)
  rw[e];simp only[ae]
  by_cases c:r.1=true
  ·rw[if_pos c]
   obtain ⟨q,e2,-,k2⟩:=jw (h:=r.2.2) hl k (l:=[1,2]) (by simp)
   rw[e2];simp only[ae]
   exact ⟨_,rfl,⟨az _,az _⟩,k2⟩
  ·rw[if_neg c]
   obtain ⟨q,e2,-,k2⟩:=jw (h:=r.2.2) hl k (l:=[0,0,2,2,1,4,3,6,7]) (by simp)
   rw[e2];simp only[ae]
   exact ⟨_,rfl,⟨az _,az _⟩,k2⟩
 | d+1,n+1,i,h,hd,h3,hc=>by
  have hp:2 ^ (d+1+1)=2*2 ^ (d+1):=by rw[Nat.pow_succ,Nat.mul_comm]
  have hb:2 ^ (d+1)<=8:=by
   have:d<=2:=by omega
   match d,this with
   | 0,_=>decide
   | 1,_=>decide
   | 2,_=>decide
  rw[cr];simp only
  rw[if_neg (by simp;omega)]
  have hw:i64.wrap (((d+1:Nat):Int) - 1)=(d:Int):=by rw[dU (by omega) (by omega)];omega
  rw[hw]
  obtain ⟨r,e,-,k⟩:=gO (h:=h) hl hc (n:=6) (by omega)
  rw[e];simp only[ae]
  have two: ∀(t:Tok) (i h:Int),lp xs i-> ∃r:List Tok×Int×Int,((cr n (xs,i,h) (d:Int)).bind fun r7=>(cr n (xs,r7.2.1,r7.2.2) (d:Int)).bind fun r8=>(cL r7.1 r8.1 t).bind fun r9=>some (r9,r8.2.1,r8.2.2))=some r/\(1<=r.1.length/\r.1.length+1<=2 ^ (d+1+1))/\lp xs r.2.1:=fun t i h hc=>by
   obtain ⟨r7,e7,h7,k7⟩:=xV hl d n i h (by omega) (by omega) hc
   rw[e7];simp only[ae]
   obtain ⟨r8,e8,h8,k8⟩:=xV hl d n r7.2.1 r7.2.2 (by omega) (by omega) k7
   rw[e8];simp only[ae]
   rw[sM (by omega)];simp only[ae]
   refine ⟨_,rfl,?_,k8⟩
   simp only[aw,ax,aG]
   omega
  have one: ∀(t:Tok) (i h:Int),lp xs i-> ∃r:List Tok×Int×Int,((cr n (xs,i,h) (d:Int)).bind fun r14=>(cL r14.1 ([] :List Yq2) t).bind fun r15=>some (r15,r14.2.1,r14.2.2))=some r/\(1<=r.1.length/\r.1.length+1<=2 ^ (d+1+1))/\lp xs r.2.1:=fun t i h hc=>by
   obtain ⟨r7,e7,h7,k7⟩:=xV hl d n i h (by omega) (by omega) hc
   rw[e7];simp only[ae]
   rw[sM (by simp only[aG];omega)];simp only[ae]
   refine ⟨_,rfl,?_,k7⟩
   simp only[aw,ax,aG]
   omega
  have if2: ∀(p q:Bool),(if p then (some p) else (some q):Option Bool)=some (p || q):=fun p q=>by cases p <;> rfl
  rw[if2];simp only[ae]
  by_cases c1:(r.1==0 || r.1==1)=true
  ·rw[if_pos c1]
   exact two _ _ _ k
  ·rw[if_neg c1,if2];simp only[ae]
   by_cases c2:(r.1==2 || r.1==3)=true
   ·rw[if_pos c2]
    exact two _ _ _ k
   ·rw[if_neg c2]
    by_cases c3:(r.1==4)=true
    ·rw[if_pos c3]
     exact one _ _ _ k
    ·rw[if_neg c3]
     obtain ⟨q,e2,h2,k2⟩:=gO (h:=r.2.2) hl k (n:=3) (by omega)
     rw[e2];simp only[ae]
     obtain ⟨r7,e7,h7,k7⟩:=xV hl d n q.2.1 q.2.2 (by omega) (by omega) k2
     rw[e7];simp only[ae]
     have w:i64.wrap (i64.wrap (1+q.1)+1)=q.1+2:=by
      rw[dU (n:=1+q.1) (by omega) (by omega),dU (by omega) (by omega)];omega
     obtain ⟨u,e3,-,k3⟩:=gO (h:=r7.2.2) hl k7 (n:=q.1+2) (by omega)
     rw[w,e3];simp only[ae]
     rw[sM (by simp only[aG];omega)];simp only[ae]
     refine ⟨_,rfl,?_,k3⟩
     simp only[aw,ax,aG]
     omega
theorem Jo (hl:xs.length<=1048576) (hc:lp xs i): ∃r:List Tok×Int×Int,j2 (xs,i,h)=some r/\(1<=r.1.length/\r.1.length<=24)/\lp xs r.2.1:=by
 have hF:=oT
 unfold j2
 simp only
 obtain ⟨r,e,k⟩:=uB (h:=h) hl hc (n:=2) (by omega)
 rw[e];simp only[ae]
 by_cases c:r.1=true
 ·rw[if_pos c]
  obtain ⟨q,e2,h2,k2⟩:=LG (h:=r.2.2) hl k
  rw[e2]
  exact ⟨_,rfl,h2,k2⟩
 ·rw[if_neg c]
  obtain ⟨q,e2,h2,k2⟩:=gO (h:=r.2.2) hl k (n:=3) (by omega)
  rw[e2];simp only[ae]
  have w:i64.wrap (1+q.1)=(((q.1.toNat+1:Nat)):Int):=by rw[dU (by omega) (by omega)];omega
  obtain ⟨u,e3,h3,k3⟩:=xV hl (q.1.toNat+1) jx q.2.1 q.2.2 (by omega) (by omega) k2
  rw[w,e3]
  refine ⟨_,rfl,⟨h3.1,?_⟩,k3⟩
  have:q.1.toNat<=2:=by omega
  have h4:=h3.2
  show u.1.length<=24
  generalize q.1.toNat=z at this h4
  match z,this with
  | 0,_=>simp at h4;omega
  | 1,_=>simp at h4;omega
  | 2,_=>simp at h4;omega
def AutD (a:AutT):Prop:=(1<=a.2.1.length/\a.2.1.length<=12)/\(1<=a.2.2.length/\a.2.2.length<=12)/\ ∀r∈a.2.2,r.length=9
theorem AutD.sm {a:AutT} (h:AutD a):Data.sm a:=⟨trivial,⟨by have:=h.1.2;omega,fun _ _=>trivial⟩,by have:=h.2.1.2;omega,fun r hr=>⟨by rw[h.2.2 r hr];decide,fun _ _=>trivial⟩⟩
theorem VA.autD {a:AutT} {n:Nat} (V:VA a n) (hn:n<=12):AutD a:=by
 have h0:=V.pos
 have h1:=V.len
 have h2:=V.nlen
 exact ⟨by omega,by omega,V.row⟩
theorem OC (hl:xs.length<=1048576) {p:List Int×Int×Int} {r0:Int×Int×Int} (hp:p.1=xs) (hr:0<=r0.1/\r0.1<4) (hc:lp xs i): ∃s,aK (dP p r0) br (([] :List Int),0,i,h)=some (.brk s)/\s.1.length=9/\lp xs s.2.2.1:=by
 have w:i64.wrap (1+r0.1)=1+r0.1:=dU (by omega) (by omega)
 obtain ⟨s,e,h1,h2,h3⟩:=eR (f:=dP p r0) (fun j s=>s.2.1=(j:Int)/\s.1.length=j/\lp xs s.2.2.1) 9 (fun j s hj hI=>by
  obtain ⟨h1,h2,h3⟩:=hI
  unfold dP
  rw[h1,hp,if_pos (by simp;omega)]
  obtain ⟨r,e,k⟩:=uB (h:=s.2.2.2) hl h3 (n:=3) (by omega)
  rw[e];simp only[ae]
  have key: ∃q:Int×Int×Int,(if r.1 then (some ((-1),r.2.1,r.2.2)) else ((bg (xs,r.2.1,r.2.2) (i64.wrap (1+r0.1))).bind fun r8=>some (r8.1,r8.2.1,r8.2.2)):Option (Int×Int×Int))=some q/\lp xs q.2.1:=by
   by_cases c:r.1=true
   ·rw[if_pos c];exact ⟨_,rfl,k⟩
   ·rw[if_neg c,w]
    obtain ⟨q,e2,-,k2⟩:=gO (h:=r.2.2) hl k (n:=1+r0.1) (by omega)
    rw[e2];exact ⟨_,rfl,k2⟩
  obtain ⟨q,e2,k2⟩:=key
  rw[e2];simp only[ae]
  have e4: ∃z:Int,(if decide ((j:Int)>3) then (some (-1)) else (some q.1):Option Int)=some z:=by
   by_cases c:decide ((j:Int)>3)=true
   ·exact ⟨_,if_pos c⟩
   ·exact ⟨_,if_neg c⟩
  obtain ⟨z,e4⟩:=e4
  rw[e4];simp only[ae]
  rw[aT (by simp only[ax,aG];omega)];simp only[ae]
  refine ⟨_,rfl,?_,?_,k2⟩
  ·show i64.wrap ((j:Int)+1)=((j+1:Nat):Int)
   rw[dU (by omega) (by omega)];omega
  ·simp only[aw,ax,aG];omega) (fun s hI=>by
  unfold dP
  rw[hI.1,if_neg (by simp)]
  obtain ⟨a,b,c,d⟩:=s
  obtain rfl:b=_:=hI.1
  rfl) (s:=(([] :List Int),0,i,h)) ⟨rfl,rfl,hc⟩ (kV (by omega))
 exact ⟨s,e,h2,h3⟩
theorem A2 (hl:xs.length<=1048576) (hc:lp xs i): ∃r:AutT×Int×Int,gr (xs,i,h)=some r/\AutD r.1/\lp xs r.2.1:=by
 unfold gr
 simp only
 obtain ⟨r0,e0,h0,k0⟩:=gO (h:=h) hl hc (n:=4) (by omega)
 rw[e0];simp only[ae]
 have w:i64.wrap (1+r0.1)=((r0.1.toNat+1:Nat):Int):=by rw[dU (by omega) (by omega)];omega
 obtain ⟨r1,e1,-,k1⟩:=gO (h:=r0.2.2) hl k0 (n:=((r0.1.toNat+1:Nat):Int)) (by omega)
 rw[w,e1];simp only[ae]
 obtain ⟨s,e,h1,h2,h3,h4,h5⟩:=eR (f:=fD (xs,i,h) r0) (fun j s=>s.1=(j:Int)/\s.2.2.1.length=j/\s.2.2.2.1.length=j/\(∀r∈s.2.2.2.1,r.length=9)/\lp xs s.2.2.2.2.1) (r0.1.toNat+1) (fun j s hj hI=>by
  obtain ⟨h1,h2,h3,h4,h5⟩:=hI
  unfold fD
  rw[h1,w,if_pos (by simp;omega)]
  obtain ⟨q,e,hq,k⟩:=OC (p:=(xs,i,h)) (r0:=r0) (i:=s.2.2.2.2.1) (h:=s.2.2.2.2.2) hl rfl h0 h5
  rw[aD e]
  simp only
  obtain ⟨o,e2,k2⟩:=uB (h:=q.2.2.2) hl k (n:=3) (by omega)
  rw[e2];simp only[ae]
  rw[aT (by simp only[ax,aG];omega)];simp only[ae]
  rw[aT (by simp only[ax,aG];omega)];simp only[ae]
  refine ⟨_,rfl,?_,by simp[h2],by simp[h3],fun r hr=>?_,k2⟩
  ·show i64.wrap ((j:Int)+1)=((j+1:Nat):Int)
   rw[dU (by omega) (by omega)];omega
  ·rcases aA hr with hr | hr
   ·exact h4 r hr
   ·obtain rfl:=ak hr
    exact hq) (fun s hI=>by
  unfold fD
  rw[hI.1,w,if_neg (by simp)]
  obtain ⟨a,b⟩:=s
  obtain rfl:a=_:=hI.1
  rfl) (s:=(0,r1.1,([] :List Bool),([] :List (List Int)),r1.2.1,r1.2.2)) ⟨rfl,rfl,rfl,fun r hr=>(by cases hr),k1⟩ (kV (by omega))
 rw[aD e]
 refine ⟨_,rfl,⟨?_,?_,h4⟩,h5⟩
 ·show 1<=s.2.2.1.length/\s.2.2.1.length<=12
  omega
 ·show 1<=s.2.2.2.1.length/\s.2.2.2.1.length<=12
  omega
theorem OD (hl:xs.length<=1048576) (hc:lp xs i): ∃r:AutT×Int×Int,mD (xs,i,h)=some r/\AutD r.1/\lp xs r.2.1:=by
 unfold mD
 simp only
 obtain ⟨r,e,k⟩:=uB (h:=h) hl hc (n:=3) (by omega)
 rw[e];simp only[ae]
 by_cases c:r.1=true
 ·rw[if_pos c]
  obtain ⟨q,e2,h2,k2⟩:=A2 (h:=r.2.2) hl k
  rw[e2]
  exact ⟨_,rfl,h2,k2⟩
 ·rw[if_neg c]
  obtain ⟨q,e2,h2,k2⟩:=Jo (h:=r.2.2) hl k
  rw[e2];simp only[ae]
  obtain ⟨p,e3,p1,p2⟩:=sN (e:=q.1) (by omega)
  rw[e3];simp only[ae]
  obtain ⟨a,e4,h4⟩:=Fl (p:=p.1) p1 (by omega)
  have e4:bW (p.1.1,p.1.2.1,p.1.2.2.1,p.1.2.2.2.1,p.1.2.2.2.2) 12=some a:=e4
  rw[e4];simp only[ae]
  by_cases c2:a.2=true
  ·rw[if_pos c2]
   obtain ⟨N,hN,-,-,V⟩:=h4 c2
   exact ⟨_,rfl,V.autD hN,k2⟩
  ·rw[if_neg c2]
   obtain ⟨u,e5,h5,k5⟩:=A2 (h:=q.2.2) hl k2
   rw[e5]
   exact ⟨_,rfl,h5,k5⟩
theorem Nz (hl:xs.length<=1048576) (hc:lp xs i): ∃r:AutT×Int×Int,j5 (xs,i,h)=some r/\Data.sm r.1/\lp xs r.2.1:=by
 unfold j5
 simp only
 obtain ⟨a,e,ha,k⟩:=OD (h:=h) hl hc
 rw[e];simp only[ae]
 obtain ⟨q,e2,-,k2⟩:=gO (h:=a.2.2) hl k (n:=14) (by omega)
 rw[e2];simp only[ae]
 have hsm:=ha.sm
 obtain ⟨⟨hl1,hl2⟩,⟨hl3,hl4⟩,hr⟩:=ha
 have hg:bf a.1.2.2 0=some (nth a.1.2.2 0):=aB (by omega) (by omega)
 have h9:(nth a.1.2.2 0).length=9:=hr _ (cS (by omega) (by omega))
 by_cases c0:(q.1==0)=true
 ·rw[if_pos c0]
  obtain ⟨r,e3,-,k3⟩:=jw (h:=q.2.2) hl k2 (l:=[(-1),12,1]) (by simp)
  rw[e3];simp only[ae]
  exact ⟨_,rfl,hsm,k3⟩
 ·rw[if_neg c0]
  by_cases c1:(q.1==1)=true
  ·rw[if_pos c1,aT (by simp only[ax,aG];omega)];simp only[ae]
   exact ⟨_,rfl,⟨trivial,⟨by simp;omega,fun _ _=>trivial⟩,hsm.2.2⟩,k2⟩
  ·rw[if_neg c1]
   by_cases c2:(q.1==2)=true
   ·rw[if_pos c2,hg];simp only[ae]
    obtain ⟨r,e3,-,k3⟩:=jw (h:=q.2.2) hl k2 (l:=[(-2),12,0]) (by simp)
    rw[e3];simp only[ae]
    rw[aB (by omega) (by omega)];simp only[ae]
    refine ⟨_,rfl,⟨trivial,hsm.2.1,?_,fun x hx=>?_⟩,k3⟩
    ·show (List.set _ _ _).length<=_
     rw[List.length_set];omega
    ·rcases List.mem_or_eq_of_mem_set hx with hx | rfl
     ·exact hsm.2.2.2 x hx
     ·exact ⟨by rw[List.length_set,h9];decide,fun _ _=>trivial⟩
   ·rw[if_neg c2]
    by_cases c3:(q.1==3)=true
    ·rw[if_pos c3,hg];simp only[ae]
     have hk:chk (0<((a.1.2.2.set 0 ([] :List Int)).length:Int))=some ():=by unfold chk;rw[if_pos (by rw[List.length_set];omega)]
     have hk2:chk (And ((0:Int)<=8) (8<=((nth a.1.2.2 0).length:Int)))=some ():=by unfold chk;rw[if_pos (by rw[h9];decide)]
     rw[hk,hk2];simp only[ae]
     refine ⟨_,rfl,⟨trivial,hsm.2.1,?_,fun x hx=>?_⟩,k2⟩
     ·show (List.set _ _ _).length<=_
      rw[List.length_set];omega
     ·rcases List.mem_or_eq_of_mem_set hx with hx | rfl
      ·exact hsm.2.2.2 x hx
      ·exact ⟨by rw[aF];omega,fun _ _=>trivial⟩
    ·rw[if_neg c3];simp only[ae]
     exact ⟨_,rfl,hsm,k2⟩
theorem H3 (hl:xs.length<=1048576) (hc:lp xs i): ∃r:Int×Int×Int,mE (xs,i,h)=some r/\lp xs r.2.1:=by
 unfold mE
 simp only
 obtain ⟨r,e,k⟩:=uB (h:=h) hl hc (n:=14) (by omega)
 rw[e];simp only[ae]
 by_cases c:r.1=true
 ·rw[if_pos c]
  obtain ⟨q,e2,-,k2⟩:=jw (h:=r.2.2) hl k (l:=[(-1),9,8,100]) (by simp)
  rw[e2]
  exact ⟨_,rfl,k2⟩
 ·rw[if_neg c]
  obtain ⟨q,e2,-,k2⟩:=jw (h:=r.2.2) hl k (l:=[0,0,0,1,2,2,3,4,6,7]) (by simp)
  rw[e2]
  exact ⟨_,rfl,k2⟩
theorem NA (hl:xs.length<=1048576) (hc:lp xs i): ∃r:List Int×Int×Int,kN (xs,i,h)=some r/\r.1.length<=5/\lp xs r.2.1:=by
 unfold kN
 simp only
 obtain ⟨r,e,h1,k⟩:=gO (h:=h) hl hc (n:=6) (by omega)
 rw[e];simp only[ae]
 obtain ⟨s,e2,h2,h3,h4⟩:=eR (f:=gS (xs,i,h)) (fun j s=>s.2.1=r.1 - (j:Int)/\s.1.length=j/\lp xs s.2.2.1) r.1.toNat (fun j s hj hI=>by
  obtain ⟨h1,h2,h3⟩:=hI
  unfold gS
  rw[h1,if_pos (by simp;omega)]
  obtain ⟨q,e3,k3⟩:=H3 (h:=s.2.2.2) hl h3
  rw[e3];simp only[ae]
  rw[aT (by simp only[ax,aG];omega)];simp only[ae]
  refine ⟨_,rfl,?_,by simp[h2],k3⟩
  show i64.wrap (r.1 - (j:Int) - 1)=r.1 - ((j+1:Nat):Int)
  rw[dU (by omega) (by omega)];omega) (fun s hI=>by
  unfold gS
  rw[hI.1,if_neg (by simp;omega)]
  obtain ⟨a,b,c⟩:=s
  obtain rfl:b=_:=hI.1
  rfl) (s:=(([] :List Int),r.1,r.2.1,r.2.2)) ⟨by show r.1=r.1 - 0;omega,rfl,k⟩ (kV (by omega))
 rw[aD e2]
 exact ⟨_,rfl,by show s.1.length<=5;omega,h4⟩
end
theorem Fp {xs:List Int} (hl:xs.length<=1048576): ∃r:AutT×List Int,gu xs=some r/\Data.sm r.1/\r.2.length<=5:=by
 unfold gu
 obtain ⟨r0,e0,k0⟩:=LB hl
 rw[e0];simp only[ae]
 obtain ⟨r1,e1,h1,k1⟩:=Nz (h:=r0.2) hl k0
 rw[e1];simp only[ae]
 obtain ⟨r2,e2,h2,-⟩:=NA (h:=r1.2.2) hl k1
 rw[e2]
 exact ⟨_,rfl,h1,h2⟩
end D
namespace D
open Go.RowKit
def PoD (p:oY):Prop:=p.1.length<=1000000/\p.2.2.2.1.length<=1000000
theorem zF {p:oY} (hp:PoD p): ∃b,bu p=some b/\dk p=some b/\(b=true->p.1.length<=20/\p.2.2.2.1.length=p.1.length):=by
 obtain ⟨h1,h2⟩:=hp
 generalize hM:i64.wrap (v8 1 (p.1.length:Int) - 1)=M
 have eset: ∀x:Int,bB x (p.1.length:Int)=some (decide (0<=x/\x<=M)):=fun x=>by
  unfold bB
  rw[jW,Lp,hM];rfl
 unfold bu dk
 simp only[eset,jW,L7,hM,ae]
 by_cases c1:(p.1.length:Int)>20
 ·have c1:=decide_eq_true c1
  simp only[if_pos c1]
  exact ⟨false,rfl,rfl,fun h=>by cases h⟩
 have hc1: ¬decide ((p.1.length:Int)>20)=true:=by simpa using c1
 simp only[if_neg hc1]
 by_cases c2:(p.2.2.2.1.length:Int)=(p.1.length:Int)
 ·have hc2: ¬((p.2.2.2.1.length:Int) !=(p.1.length:Int))=true:=by simpa using c2
  simp only[if_neg hc2]
  have ks:=LA (f:=cE p) p.1.length (fun i=>(0<=nth p.1 (i:Int)/\nth p.1 (i:Int)<=8)/\(0<=nth p.2.2.2.1 (i:Int)/\nth p.2.2.2.1 (i:Int)<=M)) false (by omega) (fun i hi=>by
   unfold cE
   rw[if_pos (by simp;omega),aB (by omega) (by omega)];simp only[ae]
   rw[qN,aB (xs:=p.2.2.2.1) (by omega) (by omega),jW];simp only[ae]
   rw[hM,L7,aI (by omega)];simp only[ae]
   by_cases d1:0<=nth p.1 (i:Int)/\nth p.1 (i:Int)<=8
   ·by_cases d2:0<=nth p.2.2.2.1 (i:Int)/\nth p.2.2.2.1 (i:Int)<=M
    ·rw[if_pos (decide_eq_true d1),if_pos (decide_eq_true d2),if_pos ⟨d1,d2⟩]
    ·rw[if_pos (decide_eq_true d1),if_neg (by simpa using d2),if_neg (fun h=>d2 h.2)]
   ·rw[if_neg (by simpa using d1),if_neg (fun h=>d1 h.1)]) (by unfold cE;simp)
  have ki:=LA (f:=cD p) p.1.length (fun i=>(0<=nth p.1 (i:Int)/\nth p.1 (i:Int)<=8)/\(0<=nth p.2.2.2.1 (i:Int)/\nth p.2.2.2.1 (i:Int)<=M)) false (by omega) (fun i hi=>by
   unfold cD
   rw[if_pos (by simp;omega),aB (by omega) (by omega)];simp only[ae]
   rw[HS,aB (xs:=p.2.2.2.1) (by omega) (by omega)];simp only[ae]
   rw[eset,aI (by omega)];simp only[ae]
   by_cases d1:0<=nth p.1 (i:Int)/\nth p.1 (i:Int)<=8
   ·by_cases d2:0<=nth p.2.2.2.1 (i:Int)/\nth p.2.2.2.1 (i:Int)<=M
    ·rw[if_pos (decide_eq_true d1),if_pos (decide_eq_true d2),if_pos ⟨d1,d2⟩]
    ·rw[if_pos (decide_eq_true d1),if_neg (by simpa using d2),if_neg (fun h=>d2 h.2)]
   ·rw[if_neg (by simpa using d1),if_neg (fun h=>d1 h.1)]) (by unfold cD;simp)
  rcases ki with ⟨e2,k2⟩ | ⟨e2,k2⟩
  ·rcases ks with ⟨e1,k1⟩ | ⟨e1,k1⟩
   ·rw[aD e1,aD e2]
    cases a:decide (0<=p.2.1/\p.2.1<=M) <;> cases b:decide (0<=p.2.2.1/\p.2.2.1<=M) <;> exact ⟨_,rfl,rfl,fun _=>⟨by omega,by omega⟩⟩
   ·exact absurd k2 k1
  ·rcases ks with ⟨e1,k1⟩ | ⟨e1,k1⟩
   ·exact absurd k1 k2
   ·rw[bS e1,bS e2]
    cases a:decide (0<=p.2.1/\p.2.1<=M) <;> cases b:decide (0<=p.2.2.1/\p.2.2.1<=M) <;> exact ⟨_,rfl,rfl,fun h=>by cases h⟩
 ·have hc2:((p.2.2.2.1.length:Int) !=(p.1.length:Int))=true:=by simpa using c2
  simp only[if_pos hc2]
  exact ⟨false,rfl,rfl,fun h=>by cases h⟩
theorem H4 {p:oY} (hp:PoD p): ∃r:AutT×Bool,gq p=some r/\gp p=some r/\Data.sm r.1/\(r.2=true->bu p=some true/\p.2.2.2.1.length=p.1.length/\p.1.length<=20/\VA r.1 r.1.2.1.length/\r.1.2.1.length<=12/\ ∃N,NumA r.1 (nxS p) 1 (gN p) N):=by
 obtain ⟨b,e1,e2,k⟩:=zF hp
 unfold gq gp
 simp only[mW]
 rw[e1,e2];simp only[ae]
 cases b with
 | false=>exact ⟨_,rfl,rfl,⟨trivial,⟨by decide,fun _ h=>by cases h⟩,by decide,fun _ h=>by cases h⟩,fun h=>by cases h⟩
 | true =>
  obtain ⟨h20,hl⟩:=k rfl
  have d1:bW p 12=_:=Ns (p:=p) (most:=12) hl (by omega) (by omega) (by omega)
  have d2:eI p 12=_:=Ox (p:=p) (most:=12) hl (by omega) (by omega) (by omega)
  rw[d1,d2]
  simp only[if_true,ae]
  rcases zD (nx:=nxS p) (first:=1) (acc:=gN p) (most:=12) (12+2) 0 (fun j hj=>by omega) (by simp[bfS]) with e | ⟨N,hN,hNm,e⟩
  ·rw[e]
   exact ⟨_,rfl,rfl,⟨trivial,⟨by decide,fun _ h=>by cases h⟩,by decide,fun _ h=>by cases h⟩,fun h=>by cases h⟩
  ·rw[e]
   have V:=EW (acc:=gN p) (pQ p) hN
   have hlen:=V.len
   have hlen:((bfS (nxS p) 1 N).map (gN p)).length=N:=hlen
   refine ⟨_,rfl,rfl,?_,fun _=>⟨(by first | trivial | rfl),hl,h20,V.self,by show ((bfS (nxS p) 1 N).map (gN p)).length<=12;omega,N,⟨hN,rfl,rfl,rfl,fun x _=>pQ p x⟩⟩⟩
   have hn:=V.nlen
   have hn:(bfR (nxS p) 1 N).length=N:=hn
   exact ⟨trivial,⟨by show ((bfS (nxS p) 1 N).map (gN p)).length<=_;omega,fun _ _=>trivial⟩,by show (bfR (nxS p) 1 N).length<=_;omega,fun r hr=>⟨by rw[V.row r hr];omega,fun _ _=>trivial⟩⟩
theorem A3 {w:List Int} (hw:w.length<=8):j6 w=some (cV w):=by
 have ks:=LA (f:=iB w) w.length (fun i=>0<=nth w (i:Int)/\nth w (i:Int)<=8) false (by omega) (fun i hi=>by
  unfold iB
  rw[if_pos (by simp;omega),aB (by omega) (by omega)];simp only[ae]
  rw[qN,aI (by omega)];simp only[ae]
  by_cases d1:0<=nth w (i:Int)/\nth w (i:Int)<=8
  ·rw[if_pos (decide_eq_true d1),if_pos d1]
  ·rw[if_neg (by simpa using d1),if_neg d1]) (by unfold iB;simp)
 unfold j6
 rcases ks with ⟨e,k⟩ | ⟨e,k⟩
 ·rw[aD e,decide_eq_true (by omega)]
  congr 1
  symm
  unfold cV
  rw[List.all_eq_true]
  intro x hx
  obtain ⟨i,hi,rfl⟩:=List.getElem_of_mem hx
  have:=k i hi
  rw[a9 hi] at this
  exact decide_eq_true this
 ·rw[bS e]
  congr 1
  symm
  cases h:cV w with
  | false=>rfl
  | true =>
   exact absurd (fun i hi=>by
    have:=List.all_eq_true.1 h (nth w (i:Int)) (cS (by omega) (by omega))
    exact of_decide_eq_true this) k
theorem LH {p:oY} (hv:bu p=some true) (hl:p.2.2.2.1.length=p.1.length) (h20:p.1.length<=20) {w:List Int} (hw:w.length<=8) (hL:cV w=true):ed p w=some (gN p (AX p 1 (tq w))):=by
 have hx: ∀i (hi:i<w.length),nth w (i:Int)=(((nth w (i:Int)).toNat:Nat):Int):=fun i hi=>by
  have:=List.all_eq_true.1 hL (nth w (i:Int)) (cS (by omega) (by omega))
  have:=of_decide_eq_true this
  omega
 have e:=bX (f:=b9 p w) (fun i=>(AX p 1 (tq (w.take i)),(i:Int))) w.length (fun i hi=>by
  unfold b9
  simp only[mW]
  rw[if_pos (by simp;omega),aB (by omega) (by omega)];simp only[ae]
  rw[E4 (p:=p) hl (by omega),aI (by omega)];simp only[ae]
  rw[sI hi]
  have:AX p 1 (tq (w.take i)++ [(nth w (i:Int)).toNat])=aft p (AX p 1 (tq (w.take i))) (((nth w (i:Int)).toNat:Nat):Int):=by
   unfold AX;rw[List.foldl_append];rfl
  rw[this,<-hx i hi]) (by
  unfold b9
  simp only
  rw[if_neg (by simp)]) (kV (by omega))
 rw[List.take_length] at e
 have e:aK (b9 p w) br (1,0)=_:=e
 unfold ed
 simp only[mW]
 rw[hv,A3 hw,hL];simp only[ae,if_true]
 rw[aD e,Ji];rfl
theorem NB {xs:List Int} (hl:xs.length<=1048576): ∃p:oY,dJ xs=some p/\PoD p:=by
 unfold dJ
 obtain ⟨r0,e0,k0⟩:=LB hl
 rw[e0];simp only[ae]
 suffices h: ∃r:oY×Int×Int,mC (xs,r0.1,r0.2)=some r/\PoD r.1 by
  obtain ⟨r,e,hr⟩:=h
  rw[e]
  exact ⟨_,rfl,hr⟩
 unfold mC
 simp only
 obtain ⟨q,e2,h2,k2⟩:=Jo (h:=r0.2) hl k0
 rw[e2];simp only[ae]
 obtain ⟨p,e3,p1,p2⟩:=sN (e:=q.1) (by omega)
 rw[e3];simp only[ae]
 obtain ⟨r2,e4,-,k4⟩:=gO (h:=q.2.2) hl k2 (n:=14) (by omega)
 rw[e4];simp only[ae]
 have hp:PoD p.1:=⟨by omega,by omega⟩
 by_cases c0:(r2.1==0)=true
 ·rw[if_pos c0]
  obtain ⟨r3,e5,-,-⟩:=jw (h:=r2.2.2) hl k4 (l:=[(-1),1,1048576]) (by simp)
  rw[e5]
  exact ⟨_,rfl,hp⟩
 ·rw[if_neg c0]
  by_cases c1:(r2.1==1)=true
  ·rw[if_pos c1,aT (by simp only[ax,aG];omega)]
   refine ⟨_,rfl,?_,hp.2⟩
   show (p.1.1++ [0]).length<=_
   rw[aw];simp only[ax,aG];omega
  ·rw[if_neg c1]
   by_cases c2:(r2.1==2)=true
   ·rw[if_pos c2]
    exact ⟨_,rfl,hp⟩
   ·rw[if_neg c2]
    exact ⟨_,rfl,hp⟩
end D
namespace D
open Go.RowKit
section
variable {a:AutT} {n:Nat}
def ids (n:Nat):List Int:=(List.range n).map fun i:Nat=>(i:Int)
theorem kZ {n:Nat} {r:Int} (h0:0<=r) (h1:r<n):nth (ids n) r=r:=by
 have h:r.toNat<(ids n).length:=by simp[ids];omega
 have:=a9 (xs:=ids n) h
 rw[show ((r.toNat:Nat):Int)=r from by omega] at this
 rw[this];simp[ids];omega
theorem OE (V:VA a n) (hn:n<=1000000):aK (cB a) br ([],0)=some (.brk (ids n,(n:Int))):=by
 have hlen:=V.len
 refine bX (f:=cB a) (fun i=>(ids i,(i:Int))) n (fun i hi=>?_) ?_ (kV (by omega))
 ·unfold cB
  simp only
  rw[if_pos (by simp;omega),aT (by simp[ids];omega)];simp only[ae,aI (show i<9223372036854775807 by omega)]
  simp[ids,List.range_succ]
 ·unfold cB
  simp only
  rw[if_neg (by simp;omega)]
theorem Cc {c:List Int} {lv:List Bool} (V:VA a n) (hlv:lv.length=n) {r:Int} (hr:good n lv r) {y:Int} (h:some y∈fZ a c lv r): ∃t,good n lv t/\y=nth c t:=by
 obtain ⟨k,hk,e⟩:=List.mem_map.1 h
 have hk:k<9:=List.mem_range.1 hk
 split at e
 ·rename_i hc
  exact ⟨mv a r k,⟨hc.1,(V.mv hr.1 hr.2.1 hk).2,hc.2⟩,(aa e).symm⟩
 ·cases e
theorem H5 (V:VA a n) (hs:nth (live a) a.1=true):NumOk (fZ a (ids n) (live a)) a.1 (good n (live a)) n where
 g0:=⟨V.start.1,V.start.2,hs⟩
 gn x hx y hy:=by
  obtain ⟨t,ht,rfl⟩:=Cc V (by rw[fK,V.len]) hx hy
  rw[kZ ht.1 ht.2.1];exact ht
 len x hx:=by simp[fZ]
 bound l hd h:=uv n l hd fun x hx=>⟨(h x hx).1,(h x hx).2.1⟩
def H6 (a:AutT) (n:Nat) (r:AutT):Prop:=(nth (live a) a.1=false/\r=nothing)\/(nth (live a) a.1=true/\ ∃N,NumA r (fZ a (ids n) (live a)) a.1 (fun x=>nth a.2.1 x) N/\VA r r.2.1.length/\N<=n)
theorem Fq (V:VA a n) (hn:n<=1000000): ∃r,(c8 a (ids n) (live a)=some r)/\eg a=some r/\Data.sm r/\H6 a n r:=by
 have hlen:=V.len
 have hll:(live a).length=n:=by rw[fK,hlen]
 have hst:=V.start
 unfold eg
 rw[EK V hn];simp only[ae]
 rw[aB hst.1 (by omega)];simp only[ae]
 cases hs:nth (live a) a.1 with
 | false=>exact ⟨nothing,sy V hll hs,by rw[if_neg (by simp),xG];rfl,uw,.inl ⟨hs,rfl⟩⟩
 | true =>
  have H:=H5 V hs
  have e1:nth (ids n) a.1=a.1:=kZ hst.1 hst.2
  obtain ⟨N,hN,es⟩:=I9 (nx:=fZ a (ids n) (live a)) (acc:=fun x=>nth a.2.1 x) (c:=ids n) V hn (by simp[ids]) hll hs (by rw[e1];exact H) hn (fun r hr=>by rw[kZ hr.1 hr.2.1]) (fun r hr=>by rw[kZ hr.1 hr.2.1])
  rw[e1] at hN es
  obtain ⟨N',hN',ei⟩:=I7 (most:=(a.2.1.length:Int)) (p2:=fun a0=>aW a a0) (p3:=fun a0 a1=>cz a0 a1 a (live a)) (acc:=fun x=>nth a.2.1 x) H hn (by omega) (fun x hx=>Jd hn hx.1 hx.2.1) (fun x hx=>xL V hx.1 hx.2.1) (fun x k hx hk=>by
   refine ⟨mv a x k,?_⟩
   have hm:=V.mv hx.1 hx.2.1 hk
   show cz x k a (live a)=_
   unfold cz
   rw[show aV (a.1,a.2.1,a.2.2) x k=some (mv a x k) from ED V hx.1 hx.2.1 hk];simp only[ae]
   rw[qK hk]
   by_cases c:mv a x k≥0
   ·rw[if_pos (by simpa using c),aB c (by omega)];simp only[ae]
    cases hl:nth (live a) (mv a x k) with
    | true=>rw[if_pos ⟨c,rfl⟩,kZ c hm.2]
    | false=>rw[if_neg (fun h=>by cases h.2)]
   ·rw[if_neg (by simpa using c),if_neg (fun h=>c h.1)])
  obtain rfl:=vN hN hN'
  have v:=Jf (acc:=fun x=>nth a.2.1 x) H hN
  refine ⟨_,es,?_,Je H hn hN,.inr ⟨hs,N,⟨hN,rfl,rfl,rfl,fun x _=>by simp[fZ]⟩,v.self,?_⟩⟩
  ·rw[if_pos rfl]
   exact (congrArg (fun x=>Option.bind x _) ei).trans rfl
  ·have h1:=H.bound _ (fy N) (db H.g0 H.gn N)
   have h2:=hN.1
   omega
end
theorem LI (a:AutT) (hs:Data.sm a): ∃r,dA a=some r/\dy a=some r/\Data.sm r/\ ∃b,aC a=some b/\(b=false->r=(0,[],[]))/\(b=true->H6 a a.2.1.length r):=by
 obtain ⟨-,⟨ha,-⟩,hn,hr⟩:=hs
 obtain ⟨b1,e1,k1⟩:=zz a (by omega) (by omega)
 obtain ⟨b2,e2,k2⟩:=zA a (by omega) (by omega) (fun r h=>by have:r.length<=1048576:=(hr r h).1;omega)
 unfold dA dy
 simp only[mW]
 rw[e1,e2];simp only[ae]
 cases hb:b1 with
 | false =>
  have:b2=false:=by cases h2:b2 with
   | false=>rfl
   | true=>have:=k1.2 (k2.1 h2);rw[hb] at this;cases this
  subst this
  exact ⟨(0,[],[]),rfl,rfl,⟨trivial,⟨by decide,fun _ h=>by cases h⟩,by decide,fun _ h=>by cases h⟩,false,rfl,fun _=>rfl,fun h=>by cases h⟩
 | true =>
  obtain ⟨h12,V⟩:=k1.1 hb
  have:b2=true:=k2.2 ⟨h12,V⟩
  subst this
  obtain ⟨r,er,ei,hsm,hf⟩:=Fq V (by omega)
  refine ⟨r,?_,?_,hsm,true,rfl,fun h=>(by cases h),fun _=>hf⟩
  ·rw[if_pos rfl,aD (OE V (by omega)),EI V (by omega)];simp only[ae]
   rw[er];rfl
  ·rw[if_pos rfl,ei];rfl
end D
namespace D
open Go.RowKit
section
variable {a:AutT} (V:VA a a.2.1.length) (hn:a.2.1.length<=12) (hs:Data.sm a)
include V hn hs
theorem OF:aC a=some true:=by
 obtain ⟨-,⟨ha,-⟩,hl,hr⟩:=hs
 obtain ⟨b1,e1,k1⟩:=zz a (by omega) (by omega)
 rw[e1,k1.2 ⟨hn,V⟩]
theorem LJ:aQ a=some true:=by
 obtain ⟨-,⟨ha,-⟩,hl,hr⟩:=hs
 obtain ⟨b1,e1,k1⟩:=zA a (by omega) (by omega) (fun r h=>by have:r.length<=1048576:=(hr r h).1;omega)
 rw[e1,k1.2 ⟨hn,V⟩]
end
end D
namespace D
open Go.RowKit
section
variable {α:Type} [DecidableEq α]
end
end D
namespace D
open Go.RowKit
end D
namespace D
open Go.RowKit
end D
namespace D
open Go.RowKit
theorem NC {p:Prop} [Decidable p] (h:p):chk p=some ():=by unfold chk;rw[if_pos h]
end D
namespace D
open Go.RowKit
def Step (a:AutT) (x y:Int):Prop:= ∃k:Nat,k<9/\mv a x k=y/\0<=y
def ofw (a:AutT) (x:Int) (out:List Bool):Nat->List Bool
 | 0=>out
 | k+1=>if mv a x k≥0 then (ofw a x out k).set (mv a x k).toNat true else ofw a x out k
theorem Cd (a:AutT) (x:Int) (out:List Bool): ∀k,(ofw a x out k).length=out.length
 | 0=>rfl
 | k+1=>by rw[ofw];split <;> simp[Cd a x out k]
section
variable {a:AutT} {n:Nat}
theorem vX (V:VA a n) {x y:Int} (h0:0<=x) (h1:x<n) (h:Step a x y):0<=y/\y<n:=by
 obtain ⟨k,hk,rfl,hy⟩:=h
 exact ⟨hy,(V.mv h0 h1 hk).2⟩
theorem A4 (V:VA a n) {x y:Int} (h0:0<=x) (h1:x<n) (h:Relation.TransGen (Step a) x y):0<=y/\y<n:=by
 induction h with
 | single h=>exact vX V h0 h1 h
 | tail _ h ih=>exact vX V ih.1 ih.2 h
theorem Ce (n:Nat) (t:Int):nth (List.replicate n false) t=false:=by
 unfold nth
 rw[List.getD_eq_getElem?_getD,List.getElem?_replicate]
 split <;> rfl
end
structure FI (a:AutT) (n:Nat) (x:Int) (Q:List Int) (out:List Bool) (i:Nat):Prop where
 len:out.length=n
 q: ∀t∈Q,0<=t/\t<n/\nth out t=true
 first:nth out x=true
 sound: ∀t:Int,0<=t->t<n->nth out t=true->t=x\/Relation.TransGen (Step a) x t
 all:i+Q.length=cnt out
 closed: ∀s:Int,0<=s->s<n->nth out s=true->s∈Q\/ ∀t,Step a s t->nth out t=true
section
variable {a:AutT} {n:Nat}
theorem oU {out:List Bool} {m t:Int} (m0:0<=m) (m1:m<out.length) (t0:0<=t) (h:nth out t=true):nth (out.set m.toNat true) t=true:=by
 by_cases e:m=t
 ·subst e;exact fV m0 m1
 ·rw[iM m0 t0 e];exact h
theorem FI.turn (V:VA a n) {x s m:Int} {Q:List Int} {out:List Bool} {i:Nat} (H:FI a n x (s::Q) out i) (x0:0<=x) (hm:Step a s m) (hb: ¬nth out m=true):FI a n x (s::(Q++ [m])) (out.set m.toNat true) i:=by
 obtain ⟨s0,s1,sm⟩:=H.q s (List.mem_cons_self ..)
 obtain ⟨m0,m1⟩:=vX V s0 s1 hm
 have hl:=H.len
 refine ⟨by rw[List.length_set];exact hl,fun t ht=>?_,oU m0 (by omega) x0 H.first,fun t t0 t1 ht=>?_,?_,fun t t0 t1 ht=>?_⟩
 ·rcases au ht with rfl | ht
  ·exact ⟨s0,s1,oU m0 (by omega) s0 sm⟩
  ·rcases aA ht with ht | ht
   ·obtain ⟨u0,u1,u2⟩:=H.q t (aS _ ht)
    exact ⟨u0,u1,oU m0 (by omega) u0 u2⟩
   ·obtain rfl:=ak ht
    exact ⟨m0,m1,fV m0 (by omega)⟩
 ·by_cases e:m=t
  ·subst e
   rcases H.sound s s0 s1 sm with rfl | h
   ·exact .inr (.single hm)
   ·exact .inr (.tail h hm)
  ·rw[iM m0 t0 e] at ht
   exact H.sound t t0 t1 ht
 ·have hall:=H.all
  have e:out[m.toNat]'(by omega)=false:=by
   have:nth out m=out[m.toNat]'(by omega):=by
    have:=a9 (xs:=out) (i:=m.toNat) (by omega)
    rwa [show ((m.toNat:Nat):Int)=m by omega] at this
   rw[this] at hb
   simpa using hb
  rw[zr (by omega) e]
  simp at hall⊢
  omega
 ·by_cases e:m=t
  ·subst e
   exact .inl (aS _ (List.mem_append.2 (.inr (List.mem_singleton.2 rfl))))
  ·rw[iM m0 t0 e] at ht
   rcases H.closed t t0 t1 ht with h | h
   ·refine .inl ?_
    rcases au h with rfl | h
    ·exact List.mem_cons_self ..
    ·exact aS _ (List.mem_append.2 (.inl h))
   ·exact .inr fun u hu=>oU m0 (by omega) (vX V t0 t1 hu).1 (h u hu)
theorem Cf (V:VA a n) (hn:n<=1000000) {x:Int} (x0:0<=x) {s:Int} {Q:List Int} {out:List Bool} {i:Nat} (H:FI a n x (s::Q) out i) :
  ∃Q' out',aK (bR (nth a.2.2 s)) br (s::Q,0,out)=some (.brk (s::Q',9,out'))/\FI a n x (s::Q') out' i/\ ∀t,Step a s t->nth out' t=true:=by
 obtain ⟨s0,s1,sm⟩:=H.q s (List.mem_cons_self ..)
 have hr:=V.rowAt s0 s1
 obtain ⟨st,e,Q',out',rfl,H',hp⟩:=eR (f:=bR (nth a.2.2 s)) (fun k st=> ∃Q' out',st=(s::Q',(k:Int),out')/\FI a n x (s::Q') out' i/\ ∀j:Nat,j<k->0<=mv a s j->nth out' (mv a s j)=true) 9 (by
  rintro k st hk ⟨Q1,o1,rfl,H1,hp⟩
  have hm:=V.mv (s:=s) (k:=k) s0 s1 hk
  have hl:=H1.len
  have hall:=H1.all
  have hc:=EE o1
  unfold bR
  simp only
  rw[if_pos (by simp;omega),V.get2 s0 s1 hk];simp only[ae,aI (show k<9223372036854775807 by omega)]
  by_cases c:mv a s k≥0
  ·rw[if_pos (by simpa using c),aB c (by omega)];simp only[ae]
   by_cases b:nth o1 (mv a s k)=true
   ·rw[if_pos b]
    refine ⟨_,rfl,Q1,o1,rfl,H1,fun j hj h0=>?_⟩
    by_cases e:j=k
    ·subst e;exact b
    ·exact hp j (by omega) h0
   ·rw[if_neg b,aT (by simp at hall⊢;omega)]
    refine ⟨_,rfl,Q1++ [mv a s k],o1.set (mv a s k).toNat true,rfl,H1.turn V x0 ⟨k,hk,rfl,c⟩ b,fun j hj h0=>?_⟩
    by_cases e:j=k
    ·subst e;exact fV c (by omega)
    ·exact oU c (by omega) h0 (hp j (by omega) h0)
  ·rw[if_neg (by simpa using c)]
   refine ⟨_,rfl,Q1,o1,rfl,H1,fun j hj h0=>?_⟩
   by_cases e:j=k
   ·subst e;exact absurd h0 c
   ·exact hp j (by omega) h0) (by
  rintro st ⟨Q1,o1,rfl,-⟩
  unfold bR
  simp only
  rw[if_neg (by simp;omega)]) (s:=(s::Q,0,out)) ⟨Q,out,rfl,H,fun j hj=>by omega⟩ (by unfold br;omega)
 exact ⟨Q',out',e,H',fun t ⟨k,hk,e,h0⟩=>by subst e;exact hp k hk h0⟩
theorem LL (V:VA a n) (hn:n<=1000000) {x:Int} (h0:0<=x) (h1:x<n): ∃out,cQ (x,a.2.1,a.2.2)=some out/\out.length=n/\ ∀t:Int,0<=t->t<n->(nth out t=true↔t=x\/Relation.TransGen (Step a) x t):=by
 have hx:(x.toNat:Int)=x:=by omega
 have hlr:(List.replicate n false).length=n:=List.length_replicate ..
 have hx':((List.replicate n false).set x.toNat true).length=n:=by rw[List.length_set,hlr]
 have hS: ∀t:Int,0<=t->t<n->(nth ((List.replicate n false).set x.toNat true) t=true↔t=x):=fun t t0 t1=>by
  by_cases e:x=t
  ·subst e
   rw[fV h0 (by omega)];simp
  ·rw[iM h0 t0 e,Ce]
   constructor
   ·intro h;cases h
   ·intro h;exact absurd h.symm e
 unfold cQ
 simp only
 rw[V.len,show mkI 1 (n:Int) false=some (List.replicate n false) from by unfold mkI;rw[if_pos (by omega)];simp];simp only[ae]
 rw[aB h0 (by omega)];simp only[ae]
 obtain ⟨o,e,out,rfl,hl,hs,hc,hf⟩:=da (f:=dY (x,a.2.1,a.2.2)) (fun i st=>FI a n x st.1 st.2 i) (fun o=> ∃out,o= .brk ([],out)/\out.length=n/\(∀t:Int,0<=t->t<n->nth out t=true->t=x\/Relation.TransGen (Step a) x t)/\(∀s:Int,0<=s->s<n->nth out s=true-> ∀t,Step a s t->nth out t=true)/\nth out x=true) n (s:=([x],(List.replicate n false).set x.toNat true)) (by
  rintro i ⟨Q,out⟩ hi H
  have H:FI a n x Q out i:=H
  unfold dY
  simp only
  cases Q with
  | nil =>
   right
   refine ⟨_,by rw[if_neg (by simp)],fun s' e=>(by cases e),out,rfl,H.len,H.sound,fun s s0 s1 hs=>?_,H.first⟩
   rcases H.closed s s0 s1 hs with h | h
   ·cases h
   ·exact h
  | cons s Q =>
   left
   have hall:=H.all
   have hc:=EE out
   have hl:=H.len
   obtain ⟨s0,s1,sm⟩:=H.q s (List.mem_cons_self ..)
   simp at hall
   refine ⟨by omega,?_⟩
   obtain ⟨Q',out',e,H',hp⟩:=Cf V hn h0 H
   rw[if_pos (by simp),show bf (s::Q) 0=some s from rfl];simp only[ae]
   rw[V.get s0 s1];simp only[ae]
   rw[aD e];simp only
   rw[NC (by simp;omega)];simp only[ae]
   refine ⟨_,rfl,H'.len,fun t ht=>H'.q t (aS _ ht),H'.first,H'.sound,?_,fun t t0 t1 ht=>?_⟩
   ·have:=H'.all
    simp at this⊢
    omega
   ·rcases H'.closed t t0 t1 ht with h | h
    ·rcases au h with rfl | h
     ·exact .inr hp
     ·exact .inl h
    ·exact .inr h) (by
  refine ⟨hx',fun t ht=>?_,(hS x h0 h1).2 rfl,fun t t0 t1 ht=>.inl ((hS t t0 t1).1 ht),?_,fun t t0 t1 ht=>.inl ?_⟩
  ·obtain rfl:=ak ht
   exact ⟨h0,h1,(hS _ h0 h1).2 rfl⟩
  ·show 0+1=_
   rw[zr (by omega) (by simp)]
   unfold cnt
   rw[List.count_replicate];rfl
  ·rw[(hS t t0 t1).1 ht];exact List.mem_singleton.2 rfl) (kV (by omega))
 rw[aD e]
 refine ⟨out,rfl,hl,fun t t0 t1=>⟨hs t t0 t1,?_⟩⟩
 rintro (rfl | h)
 ·exact hf
 ·have key: ∀u,Relation.TransGen (Step a) x u->nth out u=true:=fun u hu=>by
   induction hu with
   | single h=>exact hc x h0 h1 hf _ h
   | tail h k ih =>
    have hb:=A4 V h0 h1 h
    exact hc _ hb.1 hb.2 ih _ k
  exact key t h
end
def LM (x y:List Bool):Nat->List Int
 | 0=>[]
 | k+1=>if nth x k=true/\nth y k=true then LM x y k++ [(k:Int)] else LM x y k
theorem vY (x y:List Bool): ∀k,(LM x y k).length<=k
 | 0=>az _
 | k+1=>by
  have:=vY x y k
  rw[LM];split <;> simp <;> omega
end D
namespace D
open Go.RowKit
theorem xW {a:AutT} {out:List Bool} {s:Nat} : ∀d,s+d<=out.length->cnt (cJ a out s)<=cnt (cJ a out (s+d))
 | 0,_=>az _
 | d+1,hd=>by
  have ih:=xW (a:=a) (out:=out) (s:=s) d (by omega)
  rw[show s+(d+1)=(s+d)+1 from rfl,cJ]
  rcases mb (a:=a) (out:=cJ a out (s+d)) (s:=s+d) (by rw[dN];omega) with ⟨e,-⟩ | ⟨e,-,-⟩
  ·rw[e];exact ih
  ·omega
section
variable {a:AutT} {n:Nat}
theorem sO (V:VA a n) {s t:Int} (s0:0<=s) (s1:s<n) (h:Step a s t) (ht:nth (live a) t=true):nth (live a) s=true:=by
 have hn:=V.len
 have hll:=fK a
 have hf:cJ a (live a) a.2.1.length=live a:=EG a
 have same: ∀i,i<=a.2.1.length->cJ a (live a) i=live a:=fun i hi=>by
  rcases mN (a:=a) (out:=live a) i (by omega) with e | e
  ·exact e.1
  ·have:=xW (a:=a) (out:=live a) (s:=i) (a.2.1.length - i) (by omega)
   rw[show i+(a.2.1.length - i)=a.2.1.length by omega,hf] at this
   omega
 have h1:=same (s.toNat+1) (by omega)
 rw[cJ,same s.toNat (by omega)] at h1
 have hh:hit (live a) (nth a.2.2 ((s.toNat:Nat):Int))=true:=by
  rw[show ((s.toNat:Nat):Int)=s by omega]
  obtain ⟨k,hk,e,h0⟩:=h
  unfold hit
  rw[List.any_eq_true]
  refine ⟨t,?_,?_⟩
  ·rw[<-e];exact cS (by omega) (by rw[V.rowAt s0 s1];omega)
  ·unfold B5;simp[h0,ht]
 unfold jK at h1
 rw[if_pos hh] at h1
 rw[<-h1]
 exact fV s0 (by omega)
theorem Cg (V:VA a n) {s t:Int} (s0:0<=s) (s1:s<n) (h:Relation.TransGen (Step a) s t):nth (live a) t=true->nth (live a) s=true:=by
 induction h with
 | single h=>exact fun ht=>sO V s0 s1 h ht
 | tail h k ih =>
  have hb:=A4 V s0 s1 h
  exact fun ht=>ih (sO V hb.1 hb.2 k ht)
end
end D
namespace D
open Go.RowKit
section
variable {a:AutT} {n:Nat}
def In1 (n:Nat) (s:Int):Prop:= -1<=s/\s<n
theorem LN (V:VA a n) {s:Int} (h:In1 n s) {k:Nat} (hk:k<9):In1 n (mvn a s k):=by
 unfold mvn
 split
 ·exact ⟨Int.le_refl _,by omega⟩
 ·exact V.mv (by omega) h.2 hk
theorem Jp (V:VA a n): ∀(w:List Nat) {x:Int},(∀k∈w,k<9)->0<=x->x<n->0<=ga a x w->ga a x w=x/\w= [] \/Relation.TransGen (Step a) x (ga a x w)
 | [],x,_,_,_,_=>.inl ⟨rfl,rfl⟩
 | k::w,x,hw,h0,h1,h=>by
  have hk:k<9:=hw k (by simp)
  have em:mvn a x k=mv a x k:=by unfold mvn;rw[if_neg (by omega)]
  have e:ga a x (k::w)=ga a (mv a x k) w:=by show ga a (mvn a x k) w=_;rw[em]
  rw[e] at h⊢
  have hm:0<=mv a x k:=by
   rcases Int.lt_or_le (mv a x k) 0 with q | q
   ·have:=oQ a w _ q;omega
   ·exact q
  have st:Step a x (mv a x k):=⟨k,hk,rfl,hm⟩
  rcases Jp V w (x:=mv a x k) (fun j hj=>hw j (aS _ hj)) hm (V.mv h0 h1 hk).2 h with ⟨q,-⟩ | q
  ·right;rw[q];exact .single st
  ·right;exact Relation.TransGen.trans (.single st) q
theorem Fs {out:List Bool} {s:Nat} {t:Int} (hs:s<out.length) (t0:0<=t) (h:nth (jK a out s) t=true):nth out t=true\/(t=(s:Int)/\hit out (nth a.2.2 (s:Int))=true):=by
 unfold jK at h
 split at h
 ·rename_i hh
  by_cases e:(s:Int)=t
  ·exact .inr ⟨e.symm,hh⟩
  ·have h2:nth (out.set ((s:Int)).toNat true) t=true:=by simpa using h
   rw[iM (by omega) t0 e] at h2
   exact .inl h2
 ·exact .inl h
theorem xX (V:VA a n): ∀(j:Nat) {s:Int},0<=s->s<n->nth (it a j) s=true-> ∃w:List Nat,(∀k∈w,k<9)/\acn a (ga a s w)=true
 | 0,s,h0,h1,h=>⟨[],fun k hk=>(by cases hk),by show acn a s=true;unfold acn;rw[if_neg (by omega)];exact h⟩
 | j+1,s,h0,h1,h=>by
  have key: ∀(m:Nat),m<=n-> ∀ {s:Int},0<=s->s<n->nth (cJ a (it a j) m) s=true-> ∃w:List Nat,(∀k∈w,k<9)/\acn a (ga a s w)=true:=by
   intro m
   induction m with
   | zero=>intro _ s h0 h1 h;exact xX V j h0 h1 h
   | succ m ih =>
    intro hm s h0 h1 h
    have hlen:(cJ a (it a j) m).length=n:=by rw[dN,jr,V.len]
    rcases Fs (by omega) h0 (show nth (jK a (cJ a (it a j) m) m) s=true from h) with q | ⟨q,hh⟩
    ·exact ih (by omega) h0 h1 q
    ·subst q
     unfold hit at hh
     obtain ⟨t,ht,hT⟩:=List.any_eq_true.1 hh
     unfold B5 at hT
     rw[ah,decide_eq_true_eq] at hT
     obtain ⟨t0,tl⟩:=hT
     obtain ⟨k,hk,ek⟩:=zq ht
     rw[V.rowAt h0 h1] at hk
     have hmv:mv a (m:Int) k=t:=ek
     have hb:=V.mv h0 h1 hk
     obtain ⟨w,hw,hacc⟩:=ih (by omega) (s:=t) t0 (by omega) tl
     refine ⟨k::w,fun i hi=>?_,?_⟩
     ·rcases au hi with rfl | hi
      ·exact hk
      ·exact hw i hi
     ·show acn a (ga a (mvn a (m:Int) k) w)=true
      have:mvn a (m:Int) k=t:=by unfold mvn;rw[if_neg (by omega),hmv]
      rw[this];exact hacc
  have e:it a (j+1)=cJ a (it a j) a.2.1.length:=rfl
  rw[e,V.len] at h
  exact key n (az _) h0 h1 h
theorem zG {out:List Bool} {s:Nat} {t:Int} (t0:0<=t) (h:nth out t=true):nth (jK a out s) t=true:=by
 unfold jK
 split
 ·by_cases e:(s:Int)=t
  ·subst e
   by_cases hl:s<out.length
   ·rw[a9 (by rw[List.length_set];exact hl)];simp
   ·rw[List.set_eq_of_length_le (by omega)];exact h
  ·have:=iM (xs:=out) (x:=true) (i:=(s:Int)) (j:=t) (by omega) t0 e
   have h2:nth (out.set s true) t=nth out t:=by simpa using this
   rw[h2];exact h
 ·exact h
theorem Ft {t:Int} (t0:0<=t) (h:nth a.2.1 t=true): ∀j,nth (it a j) t=true
 | 0=>h
 | j+1=>by
  have key: ∀m,nth (cJ a (it a j) m) t=true:=by
   intro m
   induction m with
   | zero=>exact Ft t0 h j
   | succ m ih=>exact zG t0 ih
  exact key _
theorem sP (V:VA a n) {w:List Nat} {s:Int} (hw: ∀k∈w,k<9) (h0:0<=s) (h1:s<n) (h:acn a (ga a s w)=true):nth (live a) s=true:=by
 have hr:0<=ga a s w:=by
  unfold acn at h
  split at h
  ·cases h
  ·omega
 have hl:nth (live a) (ga a s w)=true:=Ft hr (by
  unfold acn at h
  rw[if_neg (by omega)] at h;exact h) _
 rcases Jp V w hw h0 h1 hr with ⟨q,-⟩ | q
 ·rw[q] at hl;exact hl
 ·exact Cg V h0 h1 q hl
theorem H7 (V:VA a n) {s:Int} (h0:0<=s) (h1:s<n):nth (live a) s=true↔ ∃w:List Nat,(∀k∈w,k<9)/\acn a (ga a s w)=true:=
 ⟨fun h=>xX V _ h0 h1 h,fun ⟨w,hw,h⟩=>sP V hw h0 h1 h⟩
end
section
variable {a:AutT} {n:Nat}
end
end D
namespace D
open Go.RowKit
theorem uD {a:AutT} {n:Nat} (V:VA a n) {c:List Int} {nx:Int->List (Option Int)} {ac:Int->Bool} (hnx: ∀r,good n (live a) r->nx (nth c r)=fZ a c (live a) r) (hac: ∀r,good n (live a) r->ac (nth c r)=nth a.2.1 r):Quot a nx ac (fun s=>nth c s) (good n (live a)) (In1 n):=by
 have hs: ∀(s:Int) (k:Nat),k<9->nth (fZ a c (live a) s) (k:Int)=if 0<=mv a s k/\nth (live a) (mv a s k)=true then some (nth c (mv a s k)) else none:=fun s k hk=>by
  unfold fZ;rw[a9 (by simpa using hk)];simp
 refine ⟨⟨by have:=V.start;omega,V.start.2⟩,fun s k hi hk=>LN V hi hk,fun s h=>h.1,fun s k h hk hg=>?_,fun s k h hk hg=>?_,fun s h=>hac s h,fun s k hi hk hb hg=>?_,fun s hi hb=>?_⟩
 ·show nth (nx (nth c s)) (k:Int)=_
  rw[hnx s h,hs s k hk,if_pos ⟨hg.1,hg.2.2⟩]
 ·show nth (nx (nth c s)) (k:Int)=_
  rw[hnx s h,hs s k hk,if_neg fun q=>hg ⟨q.1,(V.mv h.1 h.2.1 hk).2,q.2⟩]
 ·rcases Int.lt_or_le s 0 with q | q
  ·have:mvn a s k= -1:=by unfold mvn;rw[if_pos q]
   rw[this] at hg
   have:=hg.1;omega
  ·have e:mvn a s k=mv a s k:=by unfold mvn;rw[if_neg (by omega)]
   rw[e] at hg
   exact hb ⟨q,hi.2,sO V q hi.2 ⟨k,hk,rfl,hg.1⟩ hg.2.2⟩
 ·rcases Int.lt_or_le s 0 with q | q
  ·unfold acn;rw[if_pos q]
  ·cases h:acn a s with
   | false=>rfl
   | true=>exact absurd ⟨q,hi.2,sP V (w:=[]) (fun k hk=>by cases hk) q hi.2 h⟩ hb
theorem xY {a r:AutT} {n N:Nat} (V:VA a n) {c:List Int} {nx:Int->List (Option Int)} {ac:Int->Bool} (hnx: ∀r,good n (live a) r->nx (nth c r)=fZ a c (live a) r) (hac: ∀r,good n (live a) r->ac (nth c r)=nth a.2.1 r) (hs:nth (live a) a.1=true) (H:NumA r nx (nth c a.1) ac N) {w:List Nat} (hw: ∀k∈w,k<9):acw r w=acw a w:=
 (uD V hnx hac).acw ⟨V.start.1,V.start.2,hs⟩ H hw
theorem vZ {a:AutT} {n:Nat} (V:VA a n) (hs:nth (live a) a.1=false) {w:List Nat} (hw: ∀k∈w,k<9):acw a w=false:=by
 cases h:acw a w with
 | false=>rfl
 | true =>
  have:=sP V hw V.start.1 V.start.2 h
  rw[hs] at this;cases this
end D
namespace D
open Go.RowKit
section
variable {κ μ:Type} [DecidableEq κ] [DecidableEq μ] {F:κ->μ} {nx:κ->List (Option κ)} {ny:μ->List (Option μ)} {first:κ} {G:κ->Prop}
theorem oV (hf: ∀x y,F x=F y->x=y) (g0:G first) (gn: ∀x,G x-> ∀y,some y∈nx x->G y) (hn: ∀x,G x->ny (F x)=(nx x).map (Option.map F)): ∀i,bfS ny (F first) i=(bfS nx first i).map F
 | 0=>rfl
 | i+1=>by
  have ih:=oV hf g0 gn hn i
  rw[bfS,bfS,ih,List.getElem?_map]
  cases h:(bfS nx first i)[i]? with
  | none=>rfl
  | some x =>
   have hx:G x:=db g0 gn i x (List.mem_of_getElem? h)
   show nbS ((bfS nx first i).map F) (ny (F x))=(nbS (bfS nx first i) (nx x)).map F
   rw[hn x hx,E9 hf]
theorem A5 (hf: ∀x y,F x=F y->x=y) (g0:G first) (gn: ∀x,G x-> ∀y,some y∈nx x->G y) (hn: ∀x,G x->ny (F x)=(nx x).map (Option.map F)): ∀i,bfR ny (F first) i=bfR nx first i
 | 0=>rfl
 | i+1=>by
  have ih:=A5 hf g0 gn hn i
  rw[bfR,bfR,ih,oV hf g0 gn hn i,List.getElem?_map]
  cases h:(bfS nx first i)[i]? with
  | none=>rfl
  | some x =>
   have hx:G x:=db g0 gn i x (List.mem_of_getElem? h)
   show bfR nx first i++ [nbR ((bfS nx first i).map F) (ny (F x))] =bfR nx first i++ [nbR (bfS nx first i) (nx x)]
   rw[hn x hx,Fa hf]
theorem H8 (hf: ∀x y,F x=F y->x=y) (g0:G first) (gn: ∀x,G x-> ∀y,some y∈nx x->G y) (hn: ∀x,G x->ny (F x)=(nx x).map (Option.map F)) {N:Nat} (h:bfE nx first N):bfE ny (F first) N:=by
 refine ⟨by rw[oV hf g0 gn hn,List.length_map];exact h.1,fun i hi=>?_⟩
 rw[oV hf g0 gn hn,List.length_map];exact h.2 i hi
end
section
variable {a:AutT} {n:Nat}
def mP (a:AutT) (s:Int) (w:List Nat):Bool:=decide (∀k∈w,k<9)&&acn a (ga a s w)
theorem v3 {s:Int} {w:List Nat} (hw: ∀k∈w,k<9):mP a s w=acn a (ga a s w):=by
 unfold mP;rw[decide_eq_true hw];rfl
theorem mc {s:Int} (h0:0<=s) {k:Nat} (hk:k<9) (w:List Nat):mP a s (k::w)=mP a (mv a s k) w:=by
 unfold mP
 have e:ga a s (k::w)=ga a (mv a s k) w:=by
  show ga a (mvn a s k) w=_
  unfold mvn;rw[if_neg (by omega)]
 rw[e]
 congr 1
 rw[decide_eq_decide]
 exact ⟨fun h j hj=>h j (aS _ hj),fun h j hj=>by
  rcases au hj with rfl | hj
  ·exact hk
  ·exact h j hj⟩
theorem fC (V:VA a n) {s:Int} (h0:0<=s) (h1:s<n):nth (live a) s=true↔ ∃w,mP a s w=true:=by
 rw[H7 V h0 h1]
 constructor
 ·rintro ⟨w,hw,h⟩
  exact ⟨w,by rw[v3 hw];exact h⟩
 ·rintro ⟨w,h⟩
  unfold mP at h
  rw[ah,decide_eq_true_eq] at h
  exact ⟨w,h.1,h.2⟩
theorem v5 {s:Int} (h:s<0) (w:List Nat):mP a s w=false:=by
 unfold mP acn
 rw[if_pos (oQ a w s h),Bool.and_false]
theorem pS (V:VA a n): ∀(j:Nat) {s t:Int},0<=s->s<n->0<=t->t<n->nth (live a) s=true->mP a s=mP a t->nth (cI a j) s=nth (cI a j) t
 | 0,s,t,s0,s1,t0,t1,hl,h=>by
  have hlt:nth (live a) t=true:=by
   obtain ⟨w,hw⟩:=(fC V s0 s1).1 hl
   exact (fC V t0 t1).2 ⟨w,by rw[<-h];exact hw⟩
  have ha:nth a.2.1 s=nth a.2.1 t:=by
   have:=congrFun h []
   unfold mP at this
   have e1:acn a (ga a s [])=nth a.2.1 s:=by show acn a s=_;unfold acn;rw[if_neg (by omega)]
   have e2:acn a (ga a t [])=nth a.2.1 t:=by show acn a t=_;unfold acn;rw[if_neg (by omega)]
   rw[e1,e2] at this
   simpa using this
  have at0: ∀u:Int,0<=u->u<n->nth (cI a 0) u=if nth (live a) u=true then (if nth a.2.1 u=true then 1 else 0) else -1:=fun u u0 u1=>by
   show nth (AS a) u=_
   unfold AS
   have hlen:=V.len
   obtain ⟨m,rfl⟩: ∃m:Nat,u=(m:Int):=⟨u.toNat,by omega⟩
   rw[a9 (by simp;omega)];simp
  rw[at0 s s0 s1,at0 t t0 t1,hl,hlt,ha]
 | j+1,s,t,s0,s1,t0,t1,hl,h=>by
  have hlen:=V.len
  have hlt:nth (live a) t=true:=by
   obtain ⟨w,hw⟩:=(fC V s0 s1).1 hl
   exact (fC V t0 t1).2 ⟨w,by rw[<-h];exact hw⟩
  have neg: ∀u:Int,0<=u->u<n->(nth (cI a j) u<0↔nth (live a) u=false)/\(nth (cI a j) u<0->nth (cI a j) u= -1):=fun u u0 u1=>by
   have:=sC a (s:=u.toNat) (by omega) j
   rwa [show ((u.toNat:Nat):Int)=u by omega] at this
  have hs0: ¬nth (cI a j) s<0:=fun q=>by have:=(neg s s0 s1).1.1 q;rw[hl] at this;cases this
  have ht0: ¬nth (cI a j) t<0:=fun q=>by have:=(neg t t0 t1).1.1 q;rw[hlt] at this;cases this
  have hent: ∀k,k<9->ent a (cI a j) s k=ent a (cI a j) t k:=fun k hk=>by
   have hres:mP a (mv a s k)=mP a (mv a t k):=by
    funext w
    rw[<-mc s0 hk,<-mc t0 hk,h]
   have bs:=V.mv s0 s1 hk
   have bt:=V.mv t0 t1 hk
   have dead: ∀u:Int,-1<=u->u<n->(∀w,mP a u w=false)->(if u<0 then -1 else nth (cI a j) u)=(-1:Int):=fun u u0 u1 hw=>by
    split
    ·rfl
    ·refine (neg u (by omega) u1).2 ((neg u (by omega) u1).1.2 ?_)
     cases q:nth (live a) u with
     | false=>rfl
     | true =>
      obtain ⟨w,e⟩:=(fC V (by omega) u1).1 q
      rw[hw w] at e;cases e
   unfold ent
   by_cases hd: ∃w,mP a (mv a s k) w=true
   ·obtain ⟨w,hw⟩:=hd
    have p1:0<=mv a s k:=by
     rcases Int.lt_or_le (mv a s k) 0 with q | q
     ·rw[v5 q] at hw;cases hw
     ·exact q
    have p2:0<=mv a t k:=by
     rcases Int.lt_or_le (mv a t k) 0 with q | q
     ·rw[hres,v5 q] at hw;cases hw
     ·exact q
    rw[if_neg (by omega),if_neg (by omega)]
    exact pS V j p1 bs.2 p2 bt.2 ((fC V p1 bs.2).2 ⟨w,hw⟩) hres
   ·have d1: ∀w,mP a (mv a s k) w=false:=fun w=>by
     cases q:mP a (mv a s k) w with
     | false=>rfl
     | true=>exact absurd ⟨w,q⟩ hd
    rw[dead _ bs.1 bs.2 d1,dead _ bt.1 bt.2 fun w=>by rw[<-hres];exact d1 w]
  have hkey:tp a (cI a j) s.toNat=tp a (cI a j) t.toNat:=by
   unfold tp uu
   rw[show ((s.toNat:Nat):Int)=s by omega,show ((t.toNat:Nat):Int)=t by omega,if_neg hs0,if_neg ht0,pS V j s0 s1 t0 t1 hl h]
   congr 2
   exact List.map_congr_left fun k hk=>hent k (List.mem_range.1 hk)
  have e1:=pO (a:=a) (c:=cI a j) (s:=s.toNat) (by omega)
  have e2:=pO (a:=a) (c:=cI a j) (s:=t.toNat) (by omega)
  rw[show ((s.toNat:Nat):Int)=s by omega] at e1
  rw[show ((t.toNat:Nat):Int)=t by omega] at e2
  show nth (sV a (cI a j)) s=nth (sV a (cI a j)) t
  rw[e1,e2,hkey]
end
def LK:Type:=(List Nat->Bool) ⊕ Int
noncomputable instance:DecidableEq LK:=fun _ _=>Classical.propDecidable _
open Classical in
noncomputable def nyL:LK->List (Option LK)
 | .inl L=>(List.range 9).map fun k=>if h: ∃w,L (k::w)=true then some (.inl fun w=>L (k::w)) else none
 | .inr _=>[]
def acL:LK->Bool
 | .inl L=>L []
 | .inr _=>false
section
variable {a:AutT} {n:Nat}
theorem Quot.res {κ:Type} [DecidableEq κ] {nx:κ->List (Option κ)} {ac:κ->Bool} {f:Int->κ} {good inR:Int->Prop} (Q:Quot a nx ac f good inR) {s:Int} (hi:inR s) (hg:good s) {w:List Nat} (hw: ∀k∈w,k<9):acn a (ga a s w)=(match D.krun nx (some (f s)) w with | none=>false | some y=>ac y):=by
 rcases Q.krun w s hw hi hg with ⟨h1,h2⟩ | ⟨h1,h2,h3⟩
 ·rw[h2]
  show acn a (ga a s w)=ac (f (ga a s w))
  rw[Q.acc _ h1]
  unfold acn
  rw[if_neg (by have:=Q.pos _ h1;omega)]
 ·rw[h3];exact Q.bad _ h2 h1
theorem xZ (V:VA a n) {j:Nat} {nx:Int->List (Option Int)} {ac:Int->Bool} {N:Nat} (hnx: ∀r,good n (live a) r->nx (nth (cI a j) r)=fZ a (cI a j) (live a) r) (hac: ∀r,good n (live a) r->ac (nth (cI a j) r)=nth a.2.1 r) (hs:nth (live a) a.1=true) (E:bfE nx (nth (cI a j) a.1) N) :
  bfE nyL (.inl (mP a a.1)) N/\(bfS nx (nth (cI a j) a.1) N).map ac=(bfS nyL (.inl (mP a a.1)) N).map acL/\bfR nx (nth (cI a j) a.1) N=bfR nyL (.inl (mP a a.1)) N:=by
 let G:Int->Prop:=fun x=> ∃r,good n (live a) r/\nth (cI a j) r=x
 let lang:Int->List Nat->Bool:=fun x w=>decide (∀k∈w,k<9)&&(match krun nx (some x) w with | none=>false | some y=>ac y)
 have Q:=uD V hnx hac
 have hl: ∀s,good n (live a) s->lang (nth (cI a j) s)=mP a s:=fun s h=>by
  funext w
  show (decide (∀k∈w,k<9)&&_)=(decide (∀k∈w,k<9)&&_)
  by_cases hw: ∀k∈w,k<9
  ·have e:=Q.res (s:=s) ⟨by have:=h.1;omega,h.2.1⟩ h hw
   rw[e]
   show _=(_&&_)
   generalize D.krun nx (some (nth (cI a j) s)) w=o
   cases o <;> rfl
  ·rw[decide_eq_false hw];rfl
 have dG: ∀x,Decidable (G x):=fun x=>Classical.propDecidable _
 let F:Int->LK:=fun x=>if G x then .inl (lang x) else .inr x
 have FG: ∀x,G x->F x= .inl (lang x):=fun x h=>if_pos h
 have FN: ∀x,¬G x->F x= .inr x:=fun x h=>if_neg h
 have inj: ∀x y,F x=F y->x=y:=fun x y h=>by
  by_cases hx:G x
  ·by_cases hy:G y
   ·rw[FG x hx,FG y hy] at h
    have h:=Sum.inl.inj h
    obtain ⟨s,hs,rfl⟩:=hx
    obtain ⟨t,ht,rfl⟩:=hy
    rw[hl s hs,hl t ht] at h
    exact pS V j hs.1 hs.2.1 ht.1 ht.2.1 hs.2.2 h
   ·rw[FG x hx,FN y hy] at h;cases h
  ·by_cases hy:G y
   ·rw[FN x hx,FG y hy] at h;cases h
   ·rw[FN x hx,FN y hy] at h;exact Sum.inr.inj h
 have hst:good n (live a) a.1:=⟨V.start.1,V.start.2,hs⟩
 have gn: ∀x,G x-> ∀y,some y∈nx x->G y:=by
  rintro x ⟨s,h,rfl⟩ y hy
  rw[hnx s h] at hy
  obtain ⟨k,hk,e⟩:=List.mem_map.1 hy
  split at e
  ·rename_i c
   exact ⟨mv a s k,⟨c.1,(V.mv h.1 h.2.1 (List.mem_range.1 hk)).2,c.2⟩,aa e⟩
  ·cases e
 have hn: ∀x,G x->nyL (F x)=(nx x).map (Option.map F):=by
  rintro x ⟨s,h,rfl⟩
  rw[FG _ ⟨s,h,rfl⟩,hl s h,hnx s h]
  have en:nyL (Sum.inl (mP a s))=(List.range 9).map fun k=> @dite (Option LK) (∃w,mP a s (k::w)=true) (Classical.propDecidable _) (fun _=>some (Sum.inl fun w=>mP a s (k::w))) (fun _=>none):=rfl
  refine en.trans ?_
  unfold fZ
  rw[List.map_map]
  refine List.map_congr_left fun k hk=>?_
  have hk:=List.mem_range.1 hk
  have hb:=V.mv h.1 h.2.1 hk
  have hres:(fun w=>mP a s (k::w))=mP a (mv a s k):=by
   funext w;exact mc h.1 hk w
  by_cases c:0<=mv a s k/\nth (live a) (mv a s k)=true
  ·have hg:good n (live a) (mv a s k):=⟨c.1,hb.2,c.2⟩
   have hex: ∃w,mP a s (k::w)=true:=by
    obtain ⟨w,hw⟩:=(fC V c.1 hb.2).1 c.2
    exact ⟨w,by rw[mc h.1 hk];exact hw⟩
   rw[dif_pos hex,hres]
   show _=Option.map F (if _ then _ else _)
   rw[if_pos c]
   show _=some (F (nth (cI a j) (mv a s k)))
   rw[FG _ ⟨_,hg,rfl⟩,hl _ hg]
  ·have hex: ¬ ∃w,mP a s (k::w)=true:=by
    rintro ⟨w,hw⟩
    rw[mc h.1 hk] at hw
    have p:0<=mv a s k:=by
     rcases Int.lt_or_le (mv a s k) 0 with q | q
     ·rw[v5 q] at hw;cases hw
     ·exact q
    exact c ⟨p,(fC V p hb.2).2 ⟨w,hw⟩⟩
   rw[dif_neg hex]
   show _=Option.map F (if _ then _ else _)
   rw[if_neg c];rfl
 have g0:G (nth (cI a j) a.1):=⟨a.1,hst,rfl⟩
 have e0:F (nth (cI a j) a.1)= .inl (mP a a.1):=by rw[FG _ g0,hl _ hst]
 have hS:=oV (first:=nth (cI a j) a.1) inj g0 gn hn N
 have hR:=A5 (first:=nth (cI a j) a.1) inj g0 gn hn N
 have hE:=H8 (first:=nth (cI a j) a.1) inj g0 gn hn E
 rw[e0] at hS hR hE
 refine ⟨hE,?_,hR.symm⟩
 rw[hS,List.map_map]
 refine List.map_congr_left fun x hx=>?_
 obtain ⟨s,h,rfl⟩:G x:=db g0 gn N x hx
 show ac (nth (cI a j) s)=acL (F (nth (cI a j) s))
 rw[FG _ ⟨s,h,rfl⟩,hl s h,hac s h]
 show nth a.2.1 s=mP a s []
 rw[v3 (fun k hk=>by cases hk)]
 show _=acn a s
 unfold acn
 rw[if_neg (by have:=h.1;omega)]
end
end D
namespace D
open Go.RowKit
section
variable {κ:Type} [DecidableEq κ] {nx:κ->List (Option κ)} {first:κ}
theorem sQ: ∀(v w:List Nat) (x:Option κ),krun nx x (v++w)=krun nx (krun nx x v) w
 | [],w,x=>by cases x <;> rfl
 | k::v,w,none=>by rw[List.cons_append,kA,kA,kA]
 | k::v,w,some x=>sQ v w (nth (nx x) (k:Int))
theorem mQ (hl: ∀i,∀x∈bfS nx first i,(nx x).length=9): ∀i,∀y∈bfS nx first i,∃w:List Nat,(∀k∈w,k<9)/\krun nx (some first) w=some y
 | 0,y,h=>by
  obtain rfl:=ak h
  exact ⟨[],fun k hk=>(by cases hk),rfl⟩
 | i+1,y,h=>by
  rw[bfS] at h
  cases hx:(bfS nx first i)[i]? with
  | none=>rw[hx] at h;exact mQ hl i y h
  | some x =>
   rw[hx] at h
   have h:y∈nbS (bfS nx first i) (nx x):=h
   rcases kW.1 h with q | q
   ·exact mQ hl i y q
   ·have hxm:=List.mem_of_getElem? hx
    obtain ⟨w,hw,e⟩:=mQ hl i x hxm
    obtain ⟨k,hk,ek⟩:=zq q
    rw[hl i x hxm] at hk
    refine ⟨w++ [k],fun j hj=>?_,?_⟩
    ·rcases aA hj with q | q
     ·exact hw j q
     ·obtain rfl:=ak q;exact hk
    ·rw[sQ,e];exact ek
end
section
variable {a r:AutT} {n m N:Nat}
end
end D
namespace D
open Go.RowKit
theorem sR {w:List Nat} (hw: ∀k∈w,k<9):acw nothing w=false:=vZ pP (by decide) hw
theorem sS {a r:AutT} {n:Nat} (V:VA a n) (h:L8 a n r) {w:List Nat} (hw: ∀k∈w,k<9):acw r w=acw a w:=by
 rcases h with ⟨hs,rfl⟩ | ⟨hs,j,c,nx,ac,N,-,hnx,hac,hE,hl,rfl⟩
 ·rw[vZ V hs hw,sR hw]
 ·exact xY V hnx hac hs ⟨hE,rfl,rfl,rfl,hl⟩ hw
end D
namespace D
open Go.RowKit
section
variable {κ:Type} [DecidableEq κ]
end
section
variable {nx:Int×Int->List (Option (Int×Int))} {first:Int×Int} {G:Int×Int->Prop} {B:Nat} {p1:Int×Int->Int->Option (Int×Int)} {p2:Int×Int->Option Bool} {tt:Int×Int->Bool}
end
end D
namespace D
open Go.RowKit
abbrev EntT:=Int×Int×Bool×Int×Int
def pr (z:EntT):Int×Int:=(z.1,z.2.1)
structure Ent (l:List EntT) (L:List (Int×Int)):Prop where
 map:l.map pr=L
 flat: ∀z∈l,z.2.2.1=false
 back: ∀j:Nat,0<j->j<l.length->0<=(nth l (j:Int)).2.2.2.1/\(nth l (j:Int)).2.2.2.1<j
theorem Ent.len {l:List EntT} {L:List (Int×Int)} (h:Ent l L):l.length=L.length:=by rw[<-h.map];simp
theorem Ent.at {l:List EntT} {L:List (Int×Int)} (h:Ent l L) {i:Nat} (hi:i<l.length):(nth l (i:Int)).1=(nth L (i:Int)).1/\(nth l (i:Int)).2.1=(nth L (i:Int)).2:=by
 rw[<-h.map,Ln (by omega) (by omega)];exact ⟨rfl,rfl⟩
theorem Ent.snoc {l:List EntT} {L:List (Int×Int)} (h:Ent l L) {x y:Int} {i:Nat} (hi:i<l.length) (k:Int):Ent (l++ [(x,y,false,(i:Int),k)]) (L++ [(x,y)]) where
 map:=by rw[aH,h.map];rfl
 flat z hz:=by
  rcases aA hz with hz | hz
  ·exact h.flat z hz
  ·obtain rfl:=ak hz;rfl
 back j h0 hj:=by
  by_cases c:j<l.length
  ·rw[eS (by omega) (by omega)];exact h.back j h0 c
  ·have:j=l.length:=by simp at hj;omega
   subst this
   have:nth (l++ [(x,y,false,(i:Int),k)]) (l.length:Int)=(x,y,false,(i:Int),k):=by rw[a9 (by simp)];simp
   rw[this];exact ⟨by show (0:Int)<=(i:Int);omega,by show (i:Int)<(l.length:Int);omega⟩
theorem H9 {l:List EntT} {L:List (Int×Int)} (h:Ent l L) (hl:l.length<=1000000) (x y f k:Int):mG l (x,y,false,f,k)=some (decide ((x,y)∈L)):=by
 unfold mG
 have:=scan (f:=iD l (x,y,false,f,k)) l (fun z=> ¬pr z=(x,y)) true (by omega) (by
  intro i hi
  have hf:=h.flat _ (cS (i:=(i:Int)) (by omega) (by omega))
  unfold iD
  rw[if_pos (by simp;omega),aB (by omega) (by omega)];simp only[ae,aI (show i<9223372036854775807 by omega),hf]
  by_cases c1:(nth l (i:Int)).1=x
  ·by_cases c2:(nth l (i:Int)).2.1=y
   ·rw[if_pos (by simpa using c1),if_pos (by simpa using c2),if_pos (by rfl),if_neg (fun hc=>hc (Prod.ext c1 c2))]
   ·rw[if_pos (by simpa using c1),if_neg (by simpa using c2),if_pos (fun e=>c2 (congrArg Prod.snd e))]
  ·rw[if_neg (by simpa using c1),if_pos (fun e=>c1 (congrArg Prod.fst e))]) (by
  unfold iD
  rw[if_neg (by simp)])
 rcases this with ⟨e,hp⟩ | ⟨e,hp⟩
 ·rw[aD e,decide_eq_false]
  rintro hm
  rw[<-h.map] at hm
  obtain ⟨z,hz,e⟩:=List.mem_map.1 hm
  exact hp z hz e
 ·rw[bS e,decide_eq_true]
  by_cases c:(x,y)∈L
  ·exact c
  ·refine absurd (fun z hz e=>c ?_) hp
   rw[<-h.map,<-e];exact List.mem_map.2 ⟨z,hz,rfl⟩
theorem Fu {l:List EntT} {L:List (Int×Int)} (h:Ent l L) (hl:l.length<=1000000) {i:Nat} (hi:i<l.length): ∃w,kQ l (i:Int)=some w:=by
 unfold kQ
 obtain ⟨o,e,s,rfl⟩:=da (f:=jS l) (fun n s=>0<=s.1/\s.1+n<=i/\s.2.length<=n) (fun o=> ∃s,o= .brk s) i (s:=((i:Int),[])) (by
  rintro n ⟨j,w⟩ hn ⟨h0,h1,h2⟩
  simp only at h0 h1 h2
  unfold jS
  simp only
  by_cases c:j>0
  ·have hb:=h.back j.toNat (by omega) (by omega)
   rw[Int.toNat_of_nonneg h0] at hb
   left
   refine ⟨by omega,?_⟩
   rw[if_pos (by simpa using c),aB (by omega) (by omega)];simp only[ae]
   rw[aT (by simp;omega)];simp only[ae]
   refine ⟨_,rfl,hb.1,?_,?_⟩
   ·show (nth l j).2.2.2.1+((n+1:Nat):Int)<=i;omega
   ·simp;omega
  ·exact .inr ⟨_,by rw[if_neg (by simpa using c)],(fun s' e=>by cases e),_,rfl⟩) ⟨by show (0:Int)<=(i:Int);omega,by show (i:Int)+((0:Nat):Int)<=(i:Int);omega,by simp⟩ (kV (by omega))
 exact ⟨_,aD e⟩
section
variable {a b:AutT} {n m:Nat}
def tu (a b:AutT) (x:Int×Int):Bool:=acn b x.2 && !acn a x.1
theorem zH (Va:VA a n) (Vb:VA b m) (hn:n<=12) (hm:m<=12) {l:List EntT} {L:List (Int×Int)} {i:Nat} (hE:Ent l L) (hd:L.Nodup) (hG: ∀x∈L,inP n m x) (hi:i<L.length) :
  ∃l',aK (dR a b (l,(i:Int))) br (l,0)=some (.brk (l',9))/\Ent l' (nbS L (nxP a b (nth L (i:Int)))):=by
 have hx:=hG _ (cS (i:=(i:Int)) (by omega) (by omega))
 have hos:(nxP a b (nth L (i:Int))).length=9:=by simp[nxP]
 have H:=oP Va Vb hn hm
 have hB: ∀k,(nbS L ((nxP a b (nth L (i:Int))).take k)).length<=169:=fun k=>H.bound _ (ku hd) fun x hx'=>by
  rcases kW.1 hx' with h | h
  ·exact hG x h
  ·exact H.gn _ hx x (List.mem_of_mem_take h)
 obtain ⟨s',e,l',rfl,hE'⟩:=eR (f:=dR a b (l,(i:Int))) (fun k s=> ∃l',s=(l',(k:Int))/\Ent l' (nbS L ((nxP a b (nth L (i:Int))).take k))) 9 (by
  rintro k s hk ⟨l1,rfl,hE1⟩
  have hpre:=fW L ((nxP a b (nth L (i:Int))).take k)
  have hlen:=hpre.length_le
  have hBk:=hB k
  have hl1:=hE1.len
  obtain ⟨g1,g2⟩:=hE1.at (i:=i) (by omega)
  rw[fe hpre (by omega) (by omega)] at g1 g2
  unfold dR
  simp only[mW]
  rw[if_pos (by simp;omega),aB (by omega) (by omega)];simp only[ae]
  rw[g1,g2,Nl Va hx.1.1 hx.1.2 hk];simp only[ae]
  rw[Nl Vb hx.2.1 hx.2.2 hk];simp only[ae]
  rw[H9 hE1 (by omega)];simp only[ae,aI (show k<9223372036854775807 by omega)]
  rw[take_one (by omega),mK,Jh hk]
  by_cases c:(mvn a (nth L (i:Int)).1 k,mvn b (nth L (i:Int)).2 k)∈nbS L ((nxP a b (nth L (i:Int))).take k)
  ·rw[if_pos (by simpa using c),fJ c]
   exact ⟨_,rfl,l1,rfl,hE1⟩
  ·rw[if_neg (by simpa using c),fj c,aT (by simp;omega)]
   exact ⟨_,rfl,_,rfl,hE1.snoc (by omega) _⟩) (by
  rintro s ⟨l1,rfl,-⟩
  unfold dR
  simp) (s:=(l,0)) ⟨l,rfl,hE⟩ (by unfold br;omega)
 rw[List.take_of_length_le (by omega)] at hE'
 exact ⟨l',e,hE'⟩
theorem Ci (Va:VA a n) (Vb:VA b m) (hn:n<=12) (hm:m<=12) {x:Int×Int} (hx:inP n m x):NumOk (nxP a b) x (inP n m) 169 where
 g0:=hx
 gn:=(oP Va Vb hn hm).gn
 len:=(oP Va Vb hn hm).len
 bound:=(oP Va Vb hn hm).bound
theorem Ia (Va:VA a n) (Vb:VA b m) (hn:n<=12) (hm:m<=12) {s0 t0:Int} (h0:inP n m (s0,t0)): ∃N w,bfE (nxP a b) (s0,t0) N/\gA a s0 b t0 true=some (w,(bfS (nxP a b) (s0,t0) N).any (tu a b)):=by
 have H:=Ci Va Vb hn hm h0
 obtain ⟨N,hNB,hN⟩:=EC (nx:=nxP a b) (first:=(s0,t0)) (H.le)
 refine ⟨N,?_⟩
 unfold gA
 obtain ⟨o,e,ho⟩:=da (f:=im a b true) (fun i s=> ∃l,s=(l,(i:Int))/\Ent l (bfS (nxP a b) (s0,t0) i)/\((bfS (nxP a b) (s0,t0) i).take i).any (tu a b)=false)
  (fun o=>(∃w,o= .ret (w,true)/\(bfS (nxP a b) (s0,t0) N).any (tu a b)=true)\/ ∃s,o= .brk s/\(bfS (nxP a b) (s0,t0) N).any (tu a b)=false) N (s:=([(s0,t0,false,0,0)],0)) (by
  rintro i s hi ⟨l,rfl,hE,ha⟩
  have hl:=hE.len
  have hle:=H.le i
  unfold im
  simp only[mW]
  by_cases hiN:i<N
  ·have hlt:=hN.2 i hiN
   have hG:=H.at hlt
   obtain ⟨g1,g2⟩:=hE.at (i:=i) (by omega)
   rw[if_pos (by simp;omega),aB (by omega) (by omega)];simp only[ae]
   rw[g1,g2,Nm Va hG.1.1 hG.1.2];simp only[ae]
   rw[Nm Vb hG.2.1 hG.2.2];simp only[ae]
   have hb: ∀r50 r49:Bool,(if r50 then (if r49 then (if r49 then (if r50 then some false else some (!true)) else some false) else some true) else (if r49 then (if r50 then some false else some (!true)) else some false):Option Bool)=some (r50 && !r49):=by decide
   rw[hb];simp only[ae]
   have hlp:(acn b (nth (bfS (nxP a b) (s0,t0) i) (i:Int)).2 && !acn a (nth (bfS (nxP a b) (s0,t0) i) (i:Int)).1)=tu a b (nth (bfS (nxP a b) (s0,t0) i) (i:Int)):=rfl
   rw[hlp]
   cases ht:tu a b (nth (bfS (nxP a b) (s0,t0) i) (i:Int)) with
   | true =>
    obtain ⟨w,hw⟩:=Fu hE (by omega) (i:=i) (by omega)
    refine .inr ⟨_,by rw[if_pos rfl,hw];rfl,(fun s' e=>by cases e),.inl ⟨_,rfl,?_⟩⟩
    refine List.any_eq_true.2 ⟨_,?_,ht⟩
    exact (iN (nx:=nxP a b) (first:=(s0,t0)) (by omega:i<=N)).subset (cS (by omega) (by omega))
   | false =>
    left
    refine ⟨hiN,?_⟩
    obtain ⟨l',e,hE'⟩:=zH Va Vb hn hm hE (fy i) (db H.g0 H.gn i) hlt
    rw[if_neg (by simp),aD e]
    rw[<-fA hlt] at hE'
    simp only[aI (show i<9223372036854775807 by omega)]
    refine ⟨_,rfl,l',rfl,hE',?_⟩
    have e:=oO (nx:=nxP a b) (first:=(s0,t0)) (acc:=tu a b) hlt
    have f: ∀l:List (Int×Int),l.any (tu a b)=(l.map (tu a b)).any id:=fun l=>by simp[List.any_map]
    rw[f,e,List.any_append,<-f,ha];simp[ht]
  ·obtain rfl:i=N:=by omega
   have hN1:=hN.1
   refine .inr ⟨_,by rw[if_neg (by simp;omega)],(fun s' e=>by cases e),.inr ⟨_,rfl,?_⟩⟩
   rw[List.take_of_length_le (by omega)] at ha;exact ha) ⟨_,rfl,⟨rfl,by simp,by intro j h0 h1;simp at h1;omega⟩,rfl⟩ (kV (by omega))
 rcases ho with ⟨w,rfl,h⟩ | ⟨s,rfl,h⟩
 ·exact ⟨w,hN,by rw[bS e,h]⟩
 ·exact ⟨[],hN,by rw[aD e,h]⟩
end
end D
namespace D
open Go.RowKit
theorem LO {a b:AutT} {N:Nat} (hE:bfE (nxP a b) (a.1,b.1) N) {w:List Nat} (hw: ∀k∈w,k<9):(ga a a.1 w,ga b b.1 w)∈bfS (nxP a b) (a.1,b.1) N:=by
 have H:NumA (0,(bfS (nxP a b) (a.1,b.1) N).map (fun _=>true),bfR (nxP a b) (a.1,b.1) N) (nxP a b) (a.1,b.1) (fun _=>true) N:=⟨hE,rfl,rfl,rfl,fun x _=>by simp[nxP]⟩
 have hf:(a.1,b.1)∈bfS (nxP a b) (a.1,b.1) N:=List.mem_of_getElem? (kz N)
 have hp:=sF (a:=a) (b:=b) w a.1 b.1 hw
 rcases H.run w _ hw hf with ⟨h1,-⟩ | ⟨y,hy,h1,-⟩
 ·rw[hp] at h1;cases h1
 ·rw[hp] at h1
  rw[aa h1];exact hy
theorem Fv {a b:AutT} {N:Nat} {x:Int×Int} (hx:x∈bfS (nxP a b) (a.1,b.1) N): ∃w:List Nat,(∀k∈w,k<9)/\x=(ga a a.1 w,ga b b.1 w):=by
 obtain ⟨w,hw,h⟩:=mQ (nx:=nxP a b) (first:=(a.1,b.1)) (fun i y _=>by simp[nxP]) N x hx
 rw[sF w a.1 b.1 hw] at h
 exact ⟨w,hw,(aa h).symm⟩
theorem Ib {a b:AutT} {N:Nat} (hE:bfE (nxP a b) (a.1,b.1) N):(bfS (nxP a b) (a.1,b.1) N).any (tu a b)=false↔ ∀w:List Nat,(∀k∈w,k<9)->acw b w=true->acw a w=true:=by
 rw[List.any_eq_false]
 constructor
 ·intro h w hw hb
  have h1:=h _ (LO hE hw)
  have h2: ¬(acw b w && !acw a w)=true:=h1
  cases ha:acw a w with
  | true=>rfl
  | false=>rw[hb,ha] at h2;exact absurd rfl h2
 ·intro h x hx
  obtain ⟨w,hw,rfl⟩:=Fv hx
  show¬(acw b w && !acw a w)=true
  intro hc
  rw[ah] at hc
  rw[h w hw hc.1] at hc
  cases hc.2
theorem uE {a b:AutT} {n m:Nat} (Va:VA a n) (Vb:VA b m) (hn:n<=12) (hm:m<=12): ∃w r,gA a a.1 b b.1 true=some (w,r)/\(r=false↔ ∀w:List Nat,(∀k∈w,k<9)->acw b w=true->acw a w=true):=by
 have h1:=Va.start
 have h2:=Vb.start
 obtain ⟨N,w,hE,hd⟩:=Ia Va Vb hn hm (s0:=a.1) (t0:=b.1) ⟨⟨by omega,h1.2⟩,by show -1<=b.1;omega,h2.2⟩
 exact ⟨w,_,hd,Ib hE⟩
end D
namespace D
open Go.RowKit
theorem A6 {κ:Type} [DecidableEq κ] : ∀ {l m:List κ},l.Nodup->(∀x∈l,x∈m)->l.length<=m.length
 | [],m,_,_=>Nat.zero_le _
 | x::l,m,h,k=>by
  obtain ⟨h1,h2⟩:=List.nodup_cons.1 h
  have hx:=k x List.mem_cons_self
  have ih:=A6 (l:=l) (m:=m.erase x) h2 fun y hy=>(List.mem_erase_of_ne (fun e=>h1 (by rw[<-e];exact hy))).2 (k y (aS _ hy))
  rw[List.length_erase_of_mem hx] at ih
  have:=List.length_pos_of_mem hx
  simp only[ax];omega
theorem Ic {a r:AutT} {n:Nat} (V:VA a n) (h:H6 a n r) {w:List Nat} (hw: ∀k∈w,k<9):acw r w=acw a w:=by
 rcases h with ⟨hs,rfl⟩ | ⟨hs,N,H,-,-⟩
 ·rw[vZ V hs hw,sR hw]
 ·have e1:nth (ids n) a.1=a.1:=kZ V.start.1 V.start.2
  rw[<-e1] at H
  exact xY V (c:=ids n) (fun r hr=>by rw[kZ hr.1 hr.2.1]) (fun r hr=>by rw[kZ hr.1 hr.2.1]) hs H hw
theorem LP {a r t:AutT} {n:Nat} (V:VA a n) (hr:L8 a n r) (ht:H6 a n t):r.2.1.length<=t.2.1.length:=by
 rcases hr with ⟨hs,rfl⟩ | ⟨hs,j,c,nx,ac,N,-,hnx,hac,hE,hl,rfl⟩
 ·rcases ht with ⟨-,rfl⟩ | ⟨hs',-⟩
  ·exact az _
  ·rw[hs] at hs';cases hs'
 ·rcases ht with ⟨hs',-⟩ | ⟨-,M,H,-,-⟩
  ·rw[hs] at hs';cases hs'
  ·rw[H.accs]
   show ((bfS nx (nth c a.1) N).map ac).length<=_
   rw[List.length_map,List.length_map]
   have e1: ∀r,good n (live a) r->nth (ids n) r=r:=fun r hr=>kZ hr.1 hr.2.1
   have key: ∀x∈bfS nx (nth c a.1) N,x∈(bfS (fZ a (ids n) (live a)) a.1 M).map fun s=>nth c s:=fun x hx=>by
    obtain ⟨s,hs1,hs2,hs3⟩:=db (G:=fun x=> ∃s,good n (live a) s/\s∈bfS (fZ a (ids n) (live a)) a.1 M/\nth c s=x) ⟨a.1,⟨V.start.1,V.start.2,hs⟩,List.mem_of_getElem? (kz M),rfl⟩ (by
     rintro x ⟨s,h,hm,rfl⟩ y hy
     rw[hnx s h] at hy
     obtain ⟨k,hk,e⟩:=List.mem_map.1 hy
     have hk:k<9:=List.mem_range.1 hk
     split at e
     ·rename_i q
      have hg:good n (live a) (mv a s k):=⟨q.1,(V.mv h.1 h.2.1 hk).2,q.2⟩
      refine ⟨mv a s k,hg,?_,aa e⟩
      refine (EZ H.E hm (k:=k) (by simp[fZ];omega)).2 (mv a s k) ?_
      rw[qK hk,if_pos q,e1 _ hg]
     ·cases e) N x hx
    exact List.mem_map.2 ⟨s,hs2,hs3⟩
   have:=A6 (fy N) key
   rwa [List.length_map] at this
theorem Ie {a b r t:AutT} {n m:Nat} (Va:VA a n) (Vb:VA b m) (ha:L8 a n r) (hb:L8 b m t) (he: ∀w:List Nat,(∀k∈w,k<9)->acw r w=acw t w):r=t:=by
 have hres:mP a a.1=mP b b.1:=by
  funext w
  by_cases hw: ∀k∈w,k<9
  ·rw[v3 hw,v3 hw]
   have h1:=sS Va ha hw
   have h2:=sS Vb hb hw
   have h3:=he w hw
   rw[h1,h2] at h3
   exact h3
  ·unfold mP
   rw[decide_eq_false hw];rfl
 have la:=fC Va Va.start.1 Va.start.2
 have lb:=fC Vb Vb.start.1 Vb.start.2
 rw[hres] at la
 have hl:nth (live a) a.1=true↔nth (live b) b.1=true:=la.trans lb.symm
 rcases ha with ⟨hs,rfl⟩ | ⟨hs,j,c,nx,ac,N,rfl,hnx,hac,hE,-,rfl⟩
 ·rcases hb with ⟨-,rfl⟩ | ⟨ht,-⟩
  ·rfl
  ·rw[hl.2 ht] at hs;cases hs
 ·rcases hb with ⟨ht,-⟩ | ⟨ht,j',c',nx',ac',N',rfl,hnx',hac',hE',-,rfl⟩
  ·rw[hl.1 hs] at ht;cases ht
  ·obtain ⟨f1,f2,f3⟩:=xZ Va hnx hac hs hE
   obtain ⟨g1,g2,g3⟩:=xZ Vb hnx' hac' ht hE'
   rw[hres] at f1 f2 f3
   obtain rfl:=vN f1 g1
   rw[f2,f3,g2,g3]
theorem LQ {a b:AutT} {n m:Nat} (Va:VA a n) (Vb:VA b m) (hn:n<=12) (hm:m<=12) (va:aC a=some true) (vb:aC b=some true) (he: ∀w:List Nat,(∀k∈w,k<9)->acw a w=acw b w):dE a b=some true:=by
 obtain ⟨w1,r1,d1,k1⟩:=uE Va Vb hn hm
 obtain ⟨w2,r2,d2,k2⟩:=uE Vb Va hm hn
 obtain rfl:r1=false:=k1.2 fun w hw h=>by rw[he w hw];exact h
 obtain rfl:r2=false:=k2.2 fun w hw h=>by rw[<-he w hw];exact h
 unfold dE dq jh
 simp only[mW,va,vb,d1,d2,ae,if_true]
 rfl
theorem OG {a:AutT} (V:VA a a.2.1.length) (hn:a.2.1.length<=12) (hs:Data.sm a): ∃U,dS a=some U/\U.length<=a.2.1.length:=by
 obtain ⟨f,ef,hfl,-⟩:=LL V (by omega) V.start.1 V.start.2
 have ef:cQ a=some f:=ef
 have hll:=fK a
 refine ⟨LM (live a) f a.2.1.length,?_,vY (live a) f a.2.1.length⟩
 unfold dS
 simp only[mW]
 rw[LJ V hn hs];simp only[ae,if_true]
 rw[ef,EK V (by omega)];simp only[ae]
 have:=bX (f:=cR (live a) f) (fun k=>(LM (live a) f k,(k:Int))) a.2.1.length (fun k hk=>by
  have:=vY (live a) f k
  unfold cR
  simp only
  rw[if_pos (by simp;omega),aB (by omega) (by omega),aB (by omega) (by omega),aT (by simp;omega),aI (by omega),LM];simp only[ae]
  cases nth f (k:Int) <;> cases nth (live a) (k:Int) <;> simp) (by
  unfold cR
  simp only
  rw[if_neg (by simp;omega)]) (kV (by omega))
 have this:aK (cR (live a) f) br (([] :List Int),0)=_:=this
 rw[aD this]
end D
open Go.ChangeShapes Go.WideShapes Go.ChangeAt Go.RowKit
theorem own:ownKnob Tryz.prog.godebug=none:=by kernel_rfl
theorem laidOut:laidOutB Tryz.prog=true:=by kernel_rfl
theorem oW {H:Type} {enc:TypeId×Value->H} {P:Program} (hl:laidOutB P=true) {W W':World} (hb:Below W.heap.size W W') :
  ∀ {ts:List TypeId} {vs:List Value} {ds:List (DataW H)} {ps:List MemPlace},(∀t∈ts,P.readableRec t=true/\t<P.types.size)->
   DataW.TrodAll enc P W 0 (fun _=>true) true ts vs ds ps->(∀x∈ps,x.block<W.heap.size)->DataW.TrodAll enc P W' 0 (fun b=>decide (b<W.heap.size)) true ts vs ds ps
 | [],[],[],ps,_,h,_=>h
 | t::ts,v::vs,d::ds,ps,hr,⟨p,q,h1,h2,h3⟩,hlt=>by
  subst h3
  exact ⟨p,q,Below.trod hl (hr t (by simp)).1 (hr t (by simp)).2 h1 hb fun x hx=>hlt x (by simp[hx]),oW hl hb (fun t ht=>hr t (by simp[ht])) h2 fun x hx=>hlt x (by simp[hx]),rfl⟩
 | [],_::_,_,_,_,h,_=>h.elim
 | [],[],_::_,_,_,h,_=>h.elim
 | _::_,[],_,_,_,h,_=>h.elim
 | _::_,_::_,[],_,_,h,_=>h.elim
theorem If {H:Type} {enc:TypeId×Value->H} {f:Func} {s:ChangeSpec} {W W':World} {args:Array Value} {ds:List (DataW H)} {before:List MemPlace} (tb:TypeId)
  (hb:Tryz.prog.underlying tb=some .bool) (hr:f.resultTypes= #[tb]) (hp:(f.params.toList.all fun t=>Tryz.prog.readableRec t&&decide (t<Tryz.prog.types.size))=true) (hv:s.vars= [])
  (hW:DataW.Whole enc Tryz.prog f.params.toList s.vars false W args.toList ds [] before) (hres:(s.fn H (ds++ [])).results= [.lit (.bool true)]) (hargs:(s.fn H (ds++ [])).args=ds) (hvars:(s.fn H (ds++ [])).vars= [])
  (hbel:Below W.heap.size W W'):s.post enc Tryz.prog f false true false false W args (.bool true) W':=by
 obtain ⟨p,q,h1,h2,h3,h4,h5⟩:=hW
 have hW':DataW.Whole enc Tryz.prog f.params.toList s.vars false W args.toList ds [] before:=⟨p,q,h1,h2,h3,h4,h5⟩
 have hq:q= []:=by rw[hv] at h2;exact h2
 subst hq
 simp only[List.append_nil] at h3
 subst h3
 refine ⟨ds,[],before,[],before,[],hW',?_,?_,?_,hbel.frame _,fun h=>by cases h⟩
 ·rw[hres,hr]
  exact trodAll_mk1 (shut_bool hb true)
 ·rw[hargs]
  exact oW laidOut hbel (fun t ht=>by have:=List.all_eq_true.1 hp t ht;simpa using this) h1 fun x hx=>by simpa using hW'.lt x hx
 ·rw[hvars,hv];rfl
namespace D
open Go.RowKit
theorem zI (x y:AutT) (hx:Data.sm x):bj x y=some (decide (x=y)):=by
 obtain ⟨-,⟨ha,-⟩,hn,hr⟩:=hx
 unfold bj
 by_cases c1:x.1=y.1
 case neg=>rw[if_pos (by simpa using c1)];simp[Prod.ext_iff,c1]
 rw[if_neg (by simpa using c1)]
 by_cases c2:x.2.1.length=y.2.1.length
 case neg=>rw[if_pos (by simp;omega)];simp[Prod.ext_iff];exact fun _ e=>absurd (by rw[e]) c2
 rw[if_neg (by simp;omega)]
 by_cases c3:x.2.2.length=y.2.2.length
 case neg=>rw[if_pos (by simp;omega)];simp[Prod.ext_iff];exact fun _ _ e=>absurd (by rw[e]) c3
 rw[if_neg (by simp;omega)]
 rw[eqB (f:=dm x y) x.2.1 y.2.1 (by omega) c2 (fun i h h'=>by
  simp only[dm,sw h,if_true,fG h,fG h',ae,aI (show i<9223372036854775807 by omega)]
  by_cases c:x.2.1[i] =y.2.1[i] <;> simp[c]) (by simp only[dm,sx];rfl)]
 by_cases c4:x.2.1=y.2.1
 case neg=>rw[if_neg c4];simp[Prod.ext_iff,c4]
 rw[if_pos c4]
 rw[eqB (f:=dn x y) x.2.2 y.2.2 (by omega) c3 (fun i h h'=>by
  obtain ⟨r,e,hr'⟩:=zu x.2.2[i] y.2.2[i] ((hr _ (List.getElem_mem h)).1)
  simp only[dn,sw h,if_true,fG h,fG h',ae,aI (show i<9223372036854775807 by omega),e]
  by_cases c:x.2.2[i] =y.2.2[i]
  ·rw[if_neg (by simpa using hr'.2 c),if_pos c]
  ·rw[if_pos (by simpa using fun e=>c (hr'.1 e)),if_neg c]) (by simp only[dn,sx];rfl)]
 by_cases c5:x.2.2=y.2.2
 ·rw[if_pos c5];simp[Prod.ext_iff,c1,c4,c5]
 ·rw[if_neg c5];simp[Prod.ext_iff,c5]
theorem Ig (xs ys:List Bool) (hN:xs.length<=9223372036854775807):cH xs ys=some (decide (xs=ys)):=
 eqL (f:=bq xs ys) xs ys hN (fun i h h'=>by
  simp only[bq,sw h,if_true,fG h,fG h',ae,aI (show i<9223372036854775807 by omega)]
  by_cases c:xs[i] =ys[i] <;> simp[c]) (by simp only[bq,sx];rfl)
theorem zJ (x y:AutT) (hx:Data.sm x):fa x y=some (decide (x=y)):=by
 obtain ⟨-,⟨ha,-⟩,hn,hr⟩:=hx
 unfold fa
 by_cases c1:x.1=y.1
 case neg=>rw[if_neg (by simpa using c1)];simp[Prod.ext_iff,c1]
 rw[if_pos (by simpa using c1),Ig _ _ (by omega)];simp only[ae]
 by_cases c2:x.2.1=y.2.1
 case neg=>rw[if_neg (by simpa using c2)];simp[Prod.ext_iff,c2]
 rw[if_pos (by simpa using c2)]
 have:aZ x.2.2 y.2.2 (fun a0 a1=>dL a0 a1)=some (decide (x.2.2=y.2.2)):=
  eqL (f:=aP x.2.2 y.2.2 _) x.2.2 y.2.2 (by omega) (fun i h h'=>by
   simp only[aP,sw h,if_true,fG h,fG h',ae,aI (show i<9223372036854775807 by omega),dL]
   rw[xI _ _ (by have:x.2.2[i].length<=1048576:=(hr _ (List.getElem_mem h)).1;omega)];simp only[ae]
   by_cases c:x.2.2[i] =y.2.2[i] <;> simp[c]) (by simp only[aP,sx];rfl)
 rw[this]
 by_cases c3:x.2.2=y.2.2 <;> simp[Prod.ext_iff,c1,c2,c3]
end D
end Go.Proofs.YtobnepmpjgmpoaaGreat
