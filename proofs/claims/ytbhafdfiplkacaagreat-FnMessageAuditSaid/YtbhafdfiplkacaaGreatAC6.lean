/- FnMessageAudit: for every input the law returns true and changes nothing that was there. Part 7 of 8. -/
import Derived.Test.YtbhafdfiplkacaaGreatAC5
set_option linter.unusedVariables false
set_option linter.unusedSimpArgs false
set_option linter.unnecessarySimpa false
set_option linter.unusedSectionVars false
set_option maxRecDepth 1000000
namespace Go.Proofs.YtbhafdfiplkacaaGreat
open Go.IntKind (i64)
namespace D
open Go.RowKit
theorem LK {κ:Type} [DecidableEq κ] {l m:List κ} (h:l <+:m) {y:κ} (hy:y∈l):(m.idxOf y:Int)=l.idxOf y:=by
 obtain ⟨t,rfl⟩:=h
 rw[List.idxOf_append,if_pos hy]
theorem TH {κ:Type} [DecidableEq κ] : ∀(l:List κ) (os:List (Option κ)) (i:Nat),i<os.length->nth (nbR l os) (i:Int)=nbI (nbS l os) (nth os (i:Int))
 | l,o::os,0,_=>by
  show nbI l o=nbI (nbS (nbL l o) os) o
  cases o with
  | none=>rfl
  | some y =>
   have hm:y∈nbL l (some y):=OM.2 (.inr rfl)
   simp only[nbI]
   rw[LK (mG _ os) hm]
   by_cases c:y∈l
   ·rw[nH c]
   ·rw[mH c,List.idxOf_append,if_neg c,qN c];simp
 | l,o::os,i+1,h=>by
  have h':i<os.length:=by simpa using h
  have ih:=TH (nbL l o) os i h'
  have e1:nth (nbR l (o::os)) ((i+1:Nat):Int)=nth (nbR (nbL l o) os) (i:Int):=by
   rw[cw (by rw[fU];exact h),cw (by rw[fU];exact h')];rfl
  have e2:nth (o::os) ((i+1:Nat):Int)=nth os (i:Int):=by rw[cw h,cw h'];rfl
  rw[e1,e2];exact ih
theorem qc {κ:Type} [DecidableEq κ] {l:List κ} {y:κ} (h:y∈l): ∃(q:Nat) (hq:q<l.length),nbI l (some y)=(q:Int)/\l[q] =y:=
 ⟨l.idxOf y,List.idxOf_lt_length_of_mem h,rfl,by simp⟩
theorem EE {κ:Type} [DecidableEq κ] {l:List κ} {y:κ} (h:y∉l):nbI l (some y)=(l.length:Int):=by simp only[nbI,qN h]
def TJ:List Int->Nat->Nat->Prop
 | [],c,m=>c=m
 | x::xs,c,m=>(x= -1/\TJ xs c m)\/(0<=x/\x<c/\TJ xs c m)\/(x=c/\TJ xs (c+1) m)
theorem EF {κ:Type} [DecidableEq κ] : ∀(os:List (Option κ)) (l:List κ),TJ (nbR l os) l.length (nbS l os).length
 | [],l=>rfl
 | none::os,l=>.inl ⟨rfl,EF os l⟩
 | some y::os,l=>by
  by_cases c:y∈l
  ·refine .inr (.inl ⟨Int.natCast_nonneg _,?_,?_⟩)
   ·have:=List.idxOf_lt_length_of_mem c
    simp only[nbI];omega
   ·show TJ (nbR (nbL l (some y)) os) l.length (nbS (nbL l (some y)) os).length
    rw[nH c];exact EF os l
  ·refine .inr (.inr ⟨by simp only[nbI,qN c],?_⟩)
   show TJ (nbR (nbL l (some y)) os) (l.length+1) (nbS (nbL l (some y)) os).length
   have:=EF os (l++ [y])
   rw[mH c]
   simpa using this
def Zj:List Int->List (Option (List Int))->Prop
 | [],[] =>True
 | x::xs,o::os=>((x<0/\o=none)\/(0<=x/\ ∃t,o=some (x::t)))/\Zj xs os
 | _,_=>False
theorem O6: ∀(xs:List Int) (os:List (Option (List Int))),xs.length=os.length->(∀i (h:i<xs.length) (h':i<os.length),(xs[i] < 0/\os[i] =none)\/(0<=xs[i] /\ ∃t,os[i] =some (xs[i] ::t)))->Zj xs os
 | [],[],_,_=>trivial
 | x::xs,o::os,hl,h=>⟨h 0 (by simp) (by simp),O6 xs os (by simpa using hl) fun i h1 h2=>h (i+1) (by simpa using h1) (by simpa using h2)⟩
theorem pg: ∀(xs:List Int) (os:List (Option (List Int))) (l:List (List Int)) (c m:Nat),Zj xs os->TJ xs c m->(∀y∈l,∃h t,y=h::t/\h<c)->
  m+l.length<=(nbS l os).length+c/\(l.length=c->(∀(q:Nat) (hq:q<l.length),∃t,l[q] =(q:Int)::t)->(nbS l os).length=m->nbR l os=xs)
 | [],[],l,c,m,_,hn,_=>by
  have hn:c=m:=hn
  subst hn
  exact ⟨by simp[nbS];omega,fun _ _ _=>rfl⟩
 | x::xs,o::os,l,c,m,hr,hn,hh=>by
  obtain ⟨hr1,hr2⟩:=hr
  rcases hn with ⟨rfl,hn⟩ | ⟨hx0,hxc,hn⟩ | ⟨rfl,hn⟩
  ·have ho:o=none:=by
    rcases hr1 with ⟨-,h⟩ | ⟨h,-⟩
    ·exact h
    ·omega
   subst ho
   obtain ⟨i1,i2⟩:=pg xs os l c m hr2 hn hh
   exact ⟨i1,fun h1 h2 h3=>by show -1::nbR l os=_;rw[i2 h1 h2 h3]⟩
  ·obtain ⟨t,rfl⟩: ∃t,o=some (x::t):=by
    rcases hr1 with ⟨h,-⟩ | ⟨-,h⟩
    ·omega
    ·exact h
   by_cases k:(x::t)∈l
   ·obtain ⟨i1,i2⟩:=pg xs os l c m hr2 hn hh
    have hb:nbL l (some (x::t))=l:=nH k
    refine ⟨by show m+l.length<=(nbS (nbL l (some (x::t))) os).length+c;rw[hb];exact i1,fun h1 h2 h3=>?_⟩
    have h3:(nbS (nbL l (some (x::t))) os).length=m:=h3
    rw[hb] at h3
    obtain ⟨q,hq,e1,e2⟩:=qc k
    obtain ⟨t',ht'⟩:=h2 _ hq
    rw[e2] at ht'
    have:x=(q:Int):=by injection ht'
    show nbI l (some (x::t))::nbR (nbL l (some (x::t))) os=_
    rw[e1,<-this,hb,i2 h1 h2 h3]
   ·have hb:nbL l (some (x::t))=l++ [x::t]:=mH k
    obtain ⟨i1,i2⟩:=pg xs os (l++ [x::t]) c m hr2 hn (fun y hy=>by
     rcases aI hy with hy | hy
     ·exact hh y hy
     ·obtain rfl:=aw hy
      exact ⟨x,t,rfl,hxc⟩)
    rw[aj,List.length_singleton] at i1
    refine ⟨by show m+l.length<=(nbS (nbL l (some (x::t))) os).length+c;rw[hb];omega,fun h1 h2 h3=>?_⟩
    have h3:(nbS (nbL l (some (x::t))) os).length=m:=h3
    rw[hb] at h3
    omega
  ·obtain ⟨t,rfl⟩: ∃t,o=some ((c:Int)::t):=by
    rcases hr1 with ⟨h,-⟩ | ⟨-,h⟩
    ·omega
    ·exact h
   have k:((c:Int)::t)∉l:=fun k=>by
    obtain ⟨h,t',e,hlt⟩:=hh _ k
    have:(c:Int)=h:=by injection e
    omega
   have hb:nbL l (some ((c:Int)::t))=l++ [(c:Int)::t]:=mH k
   obtain ⟨i1,i2⟩:=pg xs os (l++ [(c:Int)::t]) (c+1) m hr2 hn (fun y hy=>by
    rcases aI hy with hy | hy
    ·obtain ⟨h,t',e,hlt⟩:=hh y hy
     exact ⟨h,t',e,by omega⟩
    ·obtain rfl:=aw hy
     exact ⟨c,t,rfl,by omega⟩)
   have hlen:(l++ [(c:Int)::t]).length=l.length+1:=by simp
   rw[hlen] at i1
   refine ⟨by show m+l.length<=(nbS (nbL l (some ((c:Int)::t))) os).length+c;rw[hb];omega,fun h1 h2 h3=>?_⟩
   have h3:(nbS (nbL l (some ((c:Int)::t))) os).length=m:=h3
   rw[hb] at h3
   have:=i2 (by rw[hlen,h1]) (fun q hq=>by
    by_cases e:q<l.length
    ·rw[List.getElem_append_left e];exact h2 q e
    ·have e:q=l.length:=by omega
     subst e
     exact ⟨t,by simp;omega⟩) h3
   show nbI l (some ((c:Int)::t))::nbR (nbL l (some ((c:Int)::t))) os=_
   rw[hb,this,EE k,h1]
theorem BF (xs ys:List Int) (hN:xs.length<=1048576): ∃r,oL xs ys=some r/\(r=0↔xs=ys):=by
 unfold oL
 have h0:=X5 (f:=pA xs ys) xs ys (fun i h h'=>by
  simp only[pA,cF h,cF h',if_true,aM h,aM h',ae,ah (show i<9223372036854775807 by omega)]
  by_cases h1:xs[i] < ys[i]
  ·simp[h1]
  ·by_cases h2:xs[i] > ys[i]
   ·simp[h1,h2]
   ·simp[h1,h2]) (fun i hi=>by
  simp only[pA]
  by_cases h1:i<xs.length
  ·have h2: ¬i<ys.length:=by omega
   simp[h1,h2]
  ·simp[h1]) xs.length 0 aT (by omega) (gx _ (by omega))
 rw[show (((0:Nat):Int))=(0:Int) from rfl] at h0
 rcases h0 with ⟨r,e,h1,h2⟩ | ⟨s,e,h1⟩
 ·exact ⟨r,by rw[e];rfl,by simp[h1,h2]⟩
 ·rw[e]
  simp only[aO]
  by_cases c1:xs.length<ys.length
  ·exact ⟨-1,by simp[c1],by simp;intro e;subst e;omega⟩
  ·by_cases c2:xs.length>ys.length
   ·exact ⟨1,by simp[c1,c2],by simp;intro e;subst e;omega⟩
   ·exact ⟨0,by simp[c1,c2],by simpa using h1 (by omega)⟩
theorem xf (xs ys:List Int) (hN:xs.length<=9223372036854775807):cX xs ys=some (decide (xs=ys)):=
 eqL (f:=df xs ys) xs ys hN (fun i h h'=>by
  simp only[df,cF h,if_true,aM h,aM h',ae,ah (show i<9223372036854775807 by omega)]
  by_cases c:xs[i] =ys[i] <;> simp[c]) (by simp only[df,cm];rfl)
def L7 (a:AutT):List Int:=(List.range a.2.1.length).map fun s:Nat=>if nth (live a) (s:Int)=true then (if nth a.2.1 (s:Int)=true then 1 else 0) else -1
def ent (a:AutT) (c:List Int) (s:Int) (k:Nat):Int:=if mv a s k<0 then -1 else nth c (mv a s k)
def EG (a:AutT) (c:List Int) (s:Int):List Int:=nth c s::(List.range 9).map fun k=>ent a c s k
def E4 (a:AutT) (c:List Int) (s:Nat):Option (List Int):=if nth c (s:Int)<0 then none else some (EG a c s)
def keys (a:AutT) (c:List Int):List (Option (List Int)):=(List.range a.2.1.length).map (E4 a c)
def Dn (a:AutT) (c:List Int):List Int:=nbR [] (keys a c)
def zL (a:AutT) (c:List Int):Nat:=(nbS [] (keys a c)).length
def cI (a:AutT):Nat->List Int
 | 0=>L7 a
 | j+1=>Dn a (cI a j)
section
variable {a:AutT} {n:Nat}
theorem fE (a:AutT) (c:List Int):(keys a c).length=a.2.1.length:=by simp[keys]
theorem IB {c:List Int} {s:Nat} (h:s<a.2.1.length):nth (keys a c) (s:Int)=E4 a c s:=by
 rw[cw (by simpa [keys] using h)];simp[keys]
theorem BG (a:AutT) (c:List Int):(Dn a c).length=a.2.1.length:=by rw[Dn,fU,fE]
theorem ph (a:AutT): ∀j,(cI a j).length=a.2.1.length
 | 0=>by simp[cI,L7]
 | j+1=>BG a _
theorem rz {κ:Type} [DecidableEq κ] : ∀(l:List κ) (os:List (Option κ)),(nbS l os).length<=l.length+os.length
 | l,[] =>by simp[nbS]
 | l,o::os=>by
  have h:=rz (nbL l o) os
  have:(nbL l o).length<=l.length+1:=by
   cases o with
   | none=>simp[nbL]
   | some x=>unfold nbL;simp only;split <;> simp
  show (nbS (nbL l o) os).length<=_
  rw[au];omega
theorem IC (a:AutT) (c:List Int):zL a c<=a.2.1.length:=by
 have:=rz ([] :List (List Int)) (keys a c)
 rw[fE] at this
 simpa [zL] using this
theorem EH {c:List Int} {s:Nat} (h:s<a.2.1.length):nth (Dn a c) (s:Int)=nbI (nbS [] (keys a c)) (E4 a c s):=by
 rw[Dn,TH _ _ _ (by rw[fE];exact h),IB h]
theorem BH {c:List Int} {s:Nat} (h:s<a.2.1.length) (hc: ¬nth c (s:Int)<0):EG a c s∈nbS [] (keys a c):=by
 refine yj.2 (.inr ?_)
 refine List.mem_map.2 ⟨s,List.mem_range.2 h,?_⟩
 unfold E4;rw[if_neg hc]
theorem zM {c:List Int} {s:Nat} (h:s<a.2.1.length):(nth (Dn a c) (s:Int)<0↔nth c (s:Int)<0)/\(nth (Dn a c) (s:Int)<0->nth (Dn a c) (s:Int)= -1):=by
 rw[EH h]
 unfold E4
 by_cases hc:nth c (s:Int)<0
 ·rw[if_pos hc];simp[nbI,hc]
 ·rw[if_neg hc]
  obtain ⟨q,hq,e,-⟩:=qc (BH h hc)
  rw[e]
  exact ⟨⟨fun h=>by omega,fun h=>absurd h hc⟩,fun h=>by omega⟩
theorem V9 {c:List Int} {s:Nat} (h:s<a.2.1.length):nth (Dn a c) (s:Int)<(a.2.1.length:Int):=by
 rw[EH h]
 unfold E4
 by_cases hc:nth c (s:Int)<0
 ·rw[if_pos hc];simp only[nbI];omega
 ·rw[if_neg hc]
  obtain ⟨q,hq,e,-⟩:=qc (BH h hc)
  have:=IC a c
  unfold zL at this
  rw[e];omega
theorem O7 {c:List Int} {s t:Nat} (hs:s<a.2.1.length) (ht:t<a.2.1.length) (h0:0<=nth (Dn a c) (s:Int)) (h:nth (Dn a c) (s:Int)=nth (Dn a c) (t:Int)):EG a c s=EG a c t:=by
 have n1: ¬nth c (s:Int)<0:=fun k=>by have:=(zM hs).1.2 k;omega
 have n2: ¬nth c (t:Int)<0:=fun k=>by have:=(zM ht).1.2 k;omega
 rw[EH hs,EH ht] at h
 unfold E4 at h
 rw[if_neg n1,if_neg n2] at h
 obtain ⟨q,hq,e1,e2⟩:=qc (BH hs n1)
 obtain ⟨q',hq',e1',e2'⟩:=qc (BH ht n2)
 rw[e1,e1'] at h
 obtain rfl:q=q':=by omega
 rw[<-e2,<-e2']
theorem Do (a:AutT) {s:Nat} (h:s<a.2.1.length): ∀j,(nth (cI a j) (s:Int)<0↔nth (live a) (s:Int)=false)/\(nth (cI a j) (s:Int)<0->nth (cI a j) (s:Int)= -1)
 | 0=>by
  have e:nth (cI a 0) (s:Int)=if nth (live a) (s:Int)=true then (if nth a.2.1 (s:Int)=true then 1 else 0) else -1:=by
   show nth (L7 a) (s:Int)=_
   rw[cw (by simpa [L7] using h)];simp[L7]
  rw[e]
  cases nth (live a) (s:Int) <;> cases nth a.2.1 (s:Int) <;> simp
 | j+1=>by
  have ih:=Do a h j
  have:=zM (c:=cI a j) h
  exact ⟨this.1.trans ih.1,this.2⟩
theorem TK (a:AutT) {s t:Nat} (hs:s<a.2.1.length) (ht:t<a.2.1.length): ∀j,0<=nth (cI a j) (s:Int)->nth (cI a j) (s:Int)=nth (cI a j) (t:Int)->nth a.2.1 (s:Int)=nth a.2.1 (t:Int)
 | 0,h0,h=>by
  have e: ∀ {s:Nat},s<a.2.1.length->nth (cI a 0) (s:Int)=if nth (live a) (s:Int)=true then (if nth a.2.1 (s:Int)=true then 1 else 0) else -1:=by
   intro s h
   show nth (L7 a) (s:Int)=_
   rw[cw (by simpa [L7] using h)];simp[L7]
  rw[e hs] at h0 h
  rw[e ht] at h
  revert h0 h
  cases nth (live a) (s:Int) <;> cases nth a.2.1 (s:Int) <;> cases nth (live a) (t:Int) <;> cases nth a.2.1 (t:Int) <;> simp
 | j+1,h0,h=>by
  have k:=O7 (c:=cI a j) hs ht h0 h
  have h1:nth (cI a j) (s:Int)=nth (cI a j) (t:Int):=by
   unfold EG at k;injection k
  refine TK a hs ht j ?_ h1
  have:=(zM (c:=cI a j) hs).1
  by_cases q:nth (cI a j) (s:Int)<0
  ·have:=this.2 q
   have h0:0<=nth (Dn a (cI a j)) (s:Int):=h0
   omega
  ·omega
theorem Wa (a:AutT) (j:Nat):TJ (cI a (j+1)) 0 (zL a (cI a j)):=EF (keys a (cI a j)) []
theorem R6 (a:AutT) {c:List Int} (hc:c.length=a.2.1.length):Zj c (keys a c):=by
 refine O6 _ _ (by rw[fE,hc]) fun i h h'=>?_
 have e1:c[i] =nth c (i:Int):=(cw h).symm
 have e2:(keys a c)[i] =E4 a c i:=by simp[keys]
 rw[e1,e2]
 unfold E4
 by_cases k:nth c (i:Int)<0
 ·exact .inl ⟨k,by rw[if_pos k]⟩
 ·exact .inr ⟨by omega,_,by rw[if_neg k];rfl⟩
theorem O8 (a:AutT) (j:Nat):zL a (cI a j)<=zL a (cI a (j+1))/\(zL a (cI a (j+1))=zL a (cI a j)->cI a (j+2)=cI a (j+1)):=by
 obtain ⟨h1,h2⟩:=pg (cI a (j+1)) (keys a (cI a (j+1))) [] 0 (zL a (cI a j)) (R6 a (ph a _)) (Wa a j) (fun y hy=>by cases hy)
 exact ⟨by simpa [zL] using h1,fun h=>h2 rfl (fun q hq=>absurd hq (Nat.not_lt_zero q)) h⟩
theorem TL {j k:Nat} (h:cI a (j+1)=cI a j) (hk:j<=k):cI a k=cI a j:=by
 induction hk with
 | refl=>rfl
 | step _ ih=>rw[cI,ih];exact h
theorem O9 {j k:Nat} (h:cI a (j+1)=cI a j) (h':cI a (k+1)=cI a k):cI a j=cI a k:=by
 rcases Nat.le_total j k with e | e
 ·exact (TL h e).symm
 ·exact TL h' e
theorem Wb (a:AutT): ∃j,j<=a.2.1.length/\cI a (j+1)=cI a j:=by
 by_cases h0:cI a 1=cI a 0
 ·exact ⟨0,Nat.zero_le _,h0⟩
 have hpos:1<=zL a (cI a 0):=by
  refine Nat.one_le_iff_ne_zero.2 fun hz=>h0 ?_
  have hnone: ∀s:Nat,s<a.2.1.length->nth (cI a 0) (s:Int)<0:=fun s hs=>by
   refine Classical.byContradiction fun k=>?_
   have:=BH (c:=cI a 0) hs k
   have hl:=List.length_pos_of_mem this
   unfold zL at hz;omega
  refine V0 (by rw[ph,ph]) fun i hi=>?_
  rw[ph] at hi
  have h1:=(Do a hi 0).2 (hnone i hi)
  have h2:=(Do a hi 1).2 (((Do a hi 1).1.trans (Do a hi 0).1.symm).2 (hnone i hi))
  rw[h1,h2]
 have key: ∀m,(∃j,j<=m/\cI a (j+1)=cI a j)\/m+1<=zL a (cI a m):=by
  intro m
  induction m with
  | zero=>exact .inr hpos
  | succ m ih =>
   rcases ih with ⟨j,hj,e⟩ | ih
   ·exact .inl ⟨j,by omega,e⟩
   ·obtain ⟨g1,g2⟩:=O8 a m
    by_cases e:zL a (cI a (m+1))=zL a (cI a m)
    ·exact .inl ⟨m+1,aG _,g2 e⟩
    ·exact .inr (by omega)
 rcases key a.2.1.length with h | h
 ·exact h
 ·have:=IC a (cI a a.2.1.length);omega
end
end D
namespace D
open Go.RowKit
section
variable {a:AutT} {n:Nat} {c:List Int}
theorem Ka (k:Nat) (s:Int):(List.range (k+1)).map (fun k=>ent a c s k)=(List.range k).map (fun k=>ent a c s k)++ [ent a c s k]:=by simp[List.range_succ]
theorem ZT (V:VA a n) (hn:n<=1000000) (hc:c.length=n) {s:Nat} (hs:s<n):ql a c s=some (EG a c s):=by
 unfold ql
 rw[az (by omega) (by omega)];simp only[ae]
 have:=aU (f:=nQ a c s) (fun k=>(nth c (s:Int)::(List.range k).map (fun k=>ent a c s k),(k:Int))) 9 (fun k hk=>by
  have hm:=V.mv (s:=s) (k:=k) (by omega) (by omega) hk
  unfold nQ
  simp only
  rw[if_pos (by simp;omega),V.get (by omega) (by omega)];simp only[ae]
  rw[V.get2 (by omega) (by omega) hk,Ka];simp only[ae,ah (show k<9223372036854775807 by omega)]
  by_cases h:mv a s k<0
  ·rw[if_pos (by simpa using h),aH (by simp;omega),show ent a c s k= -1 from by unfold ent;rw[if_pos h]];rfl
  ·rw[if_neg (by simpa using h),az (by omega) (by omega)];simp only[ae]
   rw[aH (by simp;omega),show ent a c s k=nth c (mv a s k) from by unfold ent;rw[if_neg h]];rfl) (by unfold nQ;simp) (by unfold aT;omega)
 exact ai this
theorem ZU (V:VA a n) (hn:n<=1000000) (hc:c.length=n) {s:Nat} (hs:s<n):aA (dG c (nth a.2.2 (s:Int))) aT (0,[nth c (s:Int)])=some (.brk (9,EG a c s)):=by
 have hr:=V.rowAt (s:=s) (by omega) (by omega)
 exact aU (f:=dG c (nth a.2.2 (s:Int))) (fun k=>((k:Int),nth c (s:Int)::(List.range k).map (fun k=>ent a c s k))) 9 (fun k hk=>by
  have hm:=V.mv (s:=s) (k:=k) (by omega) (by omega) hk
  unfold dG
  simp only
  rw[if_pos (by simp[hr];omega),V.get2 (by omega) (by omega) hk,Ka];simp only[ae,ah (show k<9223372036854775807 by omega)]
  by_cases h:mv a s k<0
  ·have e:mv a s k= -1:=by omega
   rw[if_neg (by simp;omega)];simp only[ae]
   rw[aH (by simp;omega),show ent a c s k=mv a s k from by unfold ent;rw[if_pos h,e]];rfl
  ·rw[if_pos (by simp;omega),az (by omega) (by omega)];simp only[ae]
   rw[aH (by simp;omega),show ent a c s k=nth c (mv a s k) from by unfold ent;rw[if_neg h]];rfl) (by unfold dG;simp[hr]) (by unfold aT;omega)
theorem GQ {κ:Type} [DecidableEq κ] {l t r:List κ} {x:κ} (e:l=t++x::r) (hx:x∉t):nbI l (some x)=(t.length:Int):=by
 subst e
 simp only[nbI]
 rw[List.idxOf_append,if_neg hx,List.idxOf_cons_self,Nat.zero_add]
def Yk (l:List (List Int)) (x:List Int):Int:=if x∈l then nbI l (some x) else -1
theorem Yl {l:List (List Int)} {x cs:List Int} {q:Int} (hl:l.length<=1000000) (hd:l.Nodup) (hx: ∀y∈l,y.length<=1048576):aA (gJ (l,cs,q) x) aT (-1,0)=some (.brk (Yk l x,(l.length:Int))):=by
 have:=aU (f:=gJ (l,cs,q) x) (fun k=>(if x∈l.take k then nbI l (some x) else -1,(k:Int))) l.length (fun k hk=>by
  unfold gJ
  simp only
  rw[if_pos (by simp;omega),az (by omega) (by omega)];simp only[ae,Int.toNat_natCast,ah (show k<9223372036854775807 by omega)]
  obtain ⟨r,e,hr⟩:=BF (nth l (k:Int)) x (hx _ (bI (by omega) (by omega)))
  rw[e,take_one hk];simp only[ae,List.mem_append,List.mem_singleton]
  by_cases h:nth l (k:Int)=x
  ·have h0:r=0:=hr.2 h
   have hm:x∈l:=h ▸ bI (by omega) (by omega)
   obtain ⟨q,hq,e1,e2⟩:=qc hm
   have:q=k:=by
    have h1:l[q]? =some x:=by rw[List.getElem?_eq_getElem hq,e2]
    have h2:l[k]? =some x:=by rw[List.getElem?_eq_getElem hk,<-cw hk,h]
    exact (List.getElem?_inj hq hd).1 (h1.trans h2.symm)
   subst this
   rw[if_pos (by simp[h0]),if_pos (.inr h.symm),e1];rfl
  ·have h0:r≠0:=fun e=>h (hr.1 e)
   have hn: ¬x=nth l (k:Int):=fun e=>h e.symm
   rw[if_neg (by simpa using h0)]
   simp[hn]) (by unfold gJ;simp) (lu (by omega))
 rw[List.take_of_length_le (aG _)] at this
 exact this
theorem Ym {l:List (List Int)} {x:List Int} {f:List Int->Option Bool} (hl:l.length<=1000000) (hf: ∀y∈l,f y=some (decide (y=x))):cy l f=some (Yk l x):=by
 unfold cy
 obtain ⟨o,e,hq⟩:=cz (f:=cZ l f) (fun k s=>s=(k:Int)/\x∉l.take k) (fun o=>(x∈l/\o= .ret (nbI l (some x)))\/(x∉l/\ ∃s,o= .brk s)) l.length (s:=0) (by
  rintro k s hk ⟨rfl,hx⟩
  unfold cZ
  by_cases hkl:k<l.length
  ·rw[if_pos (by simp;omega),az (by omega) (by omega)];simp only[ae]
   rw[hf _ (bI (by omega) (by omega))];simp only[ae]
   by_cases h:nth l (k:Int)=x
   ·refine .inr ⟨_,by rw[if_pos (by simpa using h)],(fun s' e=>by cases e),.inl ?_⟩
    have hm:x∈l:=h ▸ bI (by omega) (by omega)
    refine ⟨hm,?_⟩
    have e:l=l.take k++(x::l.drop (k+1)):=by
     rw[<-h,cw hkl,<-List.drop_eq_getElem_cons hkl,List.take_append_drop]
    rw[GQ e hx,aB,Nat.min_eq_left (by omega)]
   ·refine .inl ⟨hkl,_,by rw[if_neg (by simpa using h)],by rw[ah (by omega)],?_⟩
    rw[take_one hkl,List.mem_append,List.mem_singleton]
    rintro (h' | h')
    ·exact hx h'
    ·exact h h'.symm
  ·refine .inr ⟨_,by rw[if_neg (by simp;omega)],(fun s' e=>by cases e),.inr ⟨?_,_,rfl⟩⟩
   rwa [List.take_of_length_le (by omega)] at hx) ⟨rfl,by simp⟩ (lu (by omega))
 unfold Yk
 rcases hq with ⟨hx,rfl⟩ | ⟨hx,s,rfl⟩
 ·rw[bs e,if_pos hx]
 ·rw[ai e,if_neg hx]
theorem BJ {os:List (Option (List Int))} (h: ∀y,some y∈os->y.length=10): ∀y∈nbS [] os,y.length=10:=fun y hy=>by
 rcases yj.1 hy with hy | hy
 ·cases hy
 ·exact h y hy
theorem Dq (a:AutT) (c:List Int): ∀y,some y∈keys a c->y.length=10:=by
 intro y hy
 obtain ⟨s,-,e⟩:=List.mem_map.1 hy
 unfold E4 at e
 split at e
 ·cases e
 ·rw[<-af e];simp[EG]
section
variable (V:VA a n) (hn:n<=1000000) (hc:c.length=n)
include V hn hc
theorem Kb (s:Nat):(nbS [] ((keys a c).take s)).length<=n:=by
 have:=rz ([] :List (List Int)) ((keys a c).take s)
 rw[aB,fE,V.len] at this
 simp at this;omega
theorem R7 {m:Int} :aA (gK a (c,m)) aT ([],[],0)=some (.brk (nbS [] (keys a c),Dn a c,(n:Int))):=by
 have hlen:=V.len
 have:=aU (f:=gK a (c,m)) (fun s=>(nbS [] ((keys a c).take s),nbR [] ((keys a c).take s),(s:Int))) n (fun s hs=>by
  have hkl:=Kb V hn hc s
  have hrl:(nbR [] ((keys a c).take s)).length<=n:=by rw[fU,aB,fE];omega
  unfold gK
  simp only
  rw[if_pos (by simp;omega),az (by omega) (by omega)];simp only[ae]
  rw[take_one (by rw[fE];omega),w7,tT,IB (by omega)]
  simp only[ah (show s<9223372036854775807 by omega)]
  by_cases h:nth c (s:Int)<0
  ·rw[if_pos (by simpa using h),aH (by simp;omega),show E4 a c s=none from by unfold E4;rw[if_pos h]];rfl
  ·rw[if_neg (by simpa using h),show E4 a c s=some (EG a c s) from by unfold E4;rw[if_neg h]]
   rw[show ql (a.1,a.2.1,a.2.2) c (s:Int)=some (EG a c s) from ZT V hn hc hs];simp only[ae]
   rw[ai (Yl (by omega) (ta (by simp)) (fun y hy=>by rw[BJ (fun y hy=>Dq a c y (List.mem_of_mem_take hy)) y hy];decide))]
   simp only
   unfold Yk
   by_cases k:EG a c s∈nbS [] ((keys a c).take s)
   ·obtain ⟨q,hq,e1,e2⟩:=qc k
    rw[if_pos k,nH k,e1,if_neg (by simp)];simp only[ae]
    rw[aH (by simp;omega)];rfl
   ·rw[if_neg k,mH k,EE k,if_pos (show decide ((-1:Int)<0)=true from rfl),aH (by simp;omega)];simp only[ae]
    rw[aH (by simp;omega)];rfl) (by
  unfold gK
  simp only
  rw[if_neg (by simp;omega)]) (lu (by omega))
 rw[show (keys a c).take n=keys a c from List.take_of_length_le (by rw[fE];omega)] at this
 exact this
theorem R8:eX a c=some (Dn a c,(zL a c:Int)):=by
 have hlen:=V.len
 unfold eX
 have:=aU (f:=fb a c) (fun s=>(nbS [] ((keys a c).take s),nbR [] ((keys a c).take s),(s:Int))) n (fun s hs=>by
  have hkl:=Kb V hn hc s
  have hrl:(nbR [] ((keys a c).take s)).length<=n:=by rw[fU,aB,fE];omega
  unfold fb
  simp only
  rw[if_pos (by simp;omega),az (by omega) (by omega)];simp only[ae]
  rw[take_one (by rw[fE];omega),w7,tT,IB (by omega)]
  simp only[ah (show s<9223372036854775807 by omega)]
  by_cases h:nth c (s:Int)<0
  ·rw[if_pos (by simpa using h),aH (by simp;omega),show E4 a c s=none from by unfold E4;rw[if_pos h]];rfl
  ·rw[if_neg (by simpa using h),show E4 a c s=some (EG a c s) from by unfold E4;rw[if_neg h],V.get (by omega) (by omega)];simp only[ae]
   rw[ai (ZU V hn hc hs)];simp only
   rw[Ym (x:=EG a c s) (by omega) (fun y hy=>by
    unfold iO
    rw[xf _ _ (by rw[BJ (fun y hy=>Dq a c y (List.mem_of_mem_take hy)) y hy];decide)];rfl)];simp only[ae]
   unfold Yk
   by_cases k:EG a c s∈nbS [] ((keys a c).take s)
   ·obtain ⟨q,hq,e1,e2⟩:=qc k
    rw[if_pos k,nH k,e1,if_neg (by simp)];simp only[ae]
    rw[aH (by simp;omega)];rfl
   ·rw[if_neg k,mH k,EE k,if_pos (show decide ((-1:Int)<0)=true from rfl),aH (by simp;omega)];simp only[ae]
    rw[aH (by simp;omega)];rfl) (by
  unfold fb
  simp only
  rw[if_neg (by simp;omega)]) (lu (by omega))
 rw[show (keys a c).take n=keys a c from List.take_of_length_le (by rw[fE];omega)] at this
 exact ai this
end
end
section
variable {a:AutT} {n:Nat} (V:VA a n) (hn:n<=1000000)
include V hn
theorem GR (s:Nat):(List.range (s+1)).map (fun s:Nat=>if nth (live a) (s:Int)=true then (if nth a.2.1 (s:Int)=true then (1:Int) else 0) else -1)=(List.range s).map (fun s:Nat=>if nth (live a) (s:Int)=true then (if nth a.2.1 (s:Int)=true then 1 else 0) else -1)++ [if nth (live a) (s:Int)=true then (if nth a.2.1 (s:Int)=true then 1 else 0) else -1]:=by simp[List.range_succ]
theorem Yn:aA (gI a (live a)) aT ([],0)=some (.brk (L7 a,(n:Int))):=by
 have hlen:=V.len
 have hll:(live a).length=n:=by rw[vE,hlen]
 have:=aU (f:=gI a (live a)) (fun s=>((List.range s).map (fun s:Nat=>if nth (live a) (s:Int)=true then (if nth a.2.1 (s:Int)=true then (1:Int) else 0) else -1),(s:Int))) n (fun s hs=>by
  unfold gI
  simp only
  rw[if_pos (by simp;omega),V.acc (by omega) (by omega)];simp only[ae]
  rw[GR V hn,az (xs:=live a) (by omega) (by omega)];simp only[ah (show s<9223372036854775807 by omega)]
  cases nth (live a) (s:Int) <;> cases nth a.2.1 (s:Int) <;> simp only[if_true,if_false,Bool.false_eq_true,ae] <;> rw[aH (by simp;omega)] <;> rfl) (by
  unfold gI
  simp only
  rw[if_neg (by simp;omega)]) (lu (by omega))
 unfold L7
 rw[hlen]
 exact this
theorem Yo:aA (dk a (live a)) aT ([],0)=some (.brk (L7 a,(n:Int))):=by
 have hlen:=V.len
 have hll:(live a).length=n:=by rw[vE,hlen]
 have:=aU (f:=dk a (live a)) (fun s=>((List.range s).map (fun s:Nat=>if nth (live a) (s:Int)=true then (if nth a.2.1 (s:Int)=true then (1:Int) else 0) else -1),(s:Int))) n (fun s hs=>by
  unfold dk
  simp only
  rw[if_pos (by simp;omega),az (xs:=live a) (by omega) (by omega)];simp only[ae]
  rw[GR V hn,V.acc (by omega) (by omega)];simp only[ah (show s<9223372036854775807 by omega)]
  cases nth (live a) (s:Int) <;> cases nth a.2.1 (s:Int) <;> simp only[if_true,if_false,Bool.false_eq_true,ae] <;> rw[aH (by simp;omega)] <;> rfl) (by
  unfold dk
  simp only
  rw[if_neg (by simp;omega)]) (lu (by omega))
 unfold L7
 rw[hlen]
 exact this
theorem Pa: ∃J,cI a (J+1)=cI a J/\j8 a=some (cI a J):=by
 have hlen:=V.len
 unfold j8
 rw[show mo (a.1,a.2.1,a.2.2)=some (live a) from TC V hn];simp only[ae]
 rw[ai (Yn V hn)]
 obtain ⟨J0,hJ0,hfix⟩:=Wb a
 obtain ⟨o,e,j,rfl,hj⟩:=cz (f:=mq a) (fun j s=>s=(cI a j,(j:Int))/\j<=J0) (fun o=> ∃j,o= .ret (cI a j)/\cI a (j+1)=cI a j) (J0+1) (s:=(cI a 0,0)) (by
  rintro j s hj ⟨rfl,hjJ⟩
  have hcl:(cI a j).length=n:=by rw[ph,hlen]
  unfold mq
  simp only
  rw[if_pos (by simp;omega),ai (R7 V hn hcl)]
  simp only
  obtain ⟨r,er,hr⟩:=BF (Dn a (cI a j)) (cI a j) (by rw[BG];omega)
  rw[er];simp only[ae,ah (show j<9223372036854775807 by omega)]
  by_cases h:Dn a (cI a j)=cI a j
  ·exact .inr ⟨_,by rw[if_pos (by simpa using hr.2 h)],(fun s' e=>by cases e),j,rfl,h⟩
  ·refine .inl ⟨by omega,(cI a (j+1),((j+1:Nat):Int)),by rw[if_neg (by simpa using fun e=>h (hr.1 e))];rfl,rfl,?_⟩
   by_cases e:j=J0
   ·subst e;exact absurd hfix h
   ·omega) ⟨rfl,Nat.zero_le _⟩ (lu (by omega))
 exact ⟨j,hj,bs e⟩
theorem Pb: ∃J,cI a (J+1)=cI a J/\eJ a=some (cI a J):=by
 have hlen:=V.len
 unfold eJ
 rw[show fX (a.1,a.2.1,a.2.2)=some (live a) from X9 V hn];simp only[ae]
 rw[ai (Yo V hn)]
 let kk:Nat->Int:=fun j=>match j with | 0=> -1 | i+1=>(zL a (cI a i):Int)
 obtain ⟨o,e,j,rfl,hj⟩:=cz (f:=gP a) (fun j s=>s=(cI a j,kk j)/\(j:Int)<=kk j+1) (fun o=> ∃j,o= .ret (cI a j)/\cI a (j+1)=cI a j) (n+2) (s:=(cI a 0,-1)) (by
  rintro j s hj ⟨rfl,hjk⟩
  have hcl:(cI a j).length=n:=by rw[ph,hlen]
  have hle:=IC a (cI a j)
  unfold gP
  simp only
  rw[show eX (a.1,a.2.1,a.2.2) (cI a j)=some (Dn a (cI a j),(zL a (cI a j):Int)) from R8 V hn hcl];simp only[ae]
  cases j with
  | zero =>
   refine .inl ⟨by omega,(cI a 1,kk 1),by rw[if_neg (by show¬((zL a (cI a 0):Int) == -1)=true;simp)];rfl,rfl,?_⟩
   show (1:Int)<=(zL a (cI a 0):Int)+1
   omega
  | succ i =>
   obtain ⟨g1,g2⟩:=O8 a i
   have hki:kk (i+1)=(zL a (cI a i):Int):=rfl
   rw[hki] at hjk⊢
   by_cases h:zL a (cI a (i+1))=zL a (cI a i)
   ·refine .inr ⟨.ret (cI a (i+2)),by rw[if_pos (by simp[h])];rfl,(fun s' e=>by cases e),i+2,rfl,?_⟩
    have:=g2 h
    show Dn a (cI a (i+2))=cI a (i+2)
    rw[this];exact this
   ·refine .inl ⟨?_,(cI a (i+2),kk (i+2)),by rw[if_neg (by simp;omega)];rfl,rfl,?_⟩
    ·omega
    ·show ((i+1+1:Nat):Int)<=(zL a (cI a (i+1)):Int)+1
     omega) ⟨rfl,by show ((0:Nat):Int)<= -1+1;omega⟩ (lu (by omega))
 exact ⟨j,hj,bs e⟩
theorem LL: ∃c,j8 a=some c/\eJ a=some c/\c.length=n/\Dn a c=c/\ ∃j,c=cI a j:=by
 obtain ⟨J,hJ,es⟩:=Pa V hn
 obtain ⟨J',hJ',ei⟩:=Pb V hn
 have:=O9 hJ hJ'
 exact ⟨cI a J,es,by rw[this];exact ei,by rw[ph,V.len],hJ,J,rfl⟩
end
end D
namespace D
open Go.RowKit
section
variable {κ:Type} [DecidableEq κ] [Inhabited κ] {nx:κ->List (Option κ)} {first:κ} {G:κ->Prop} {B N:Nat} {acc:κ->Bool}
theorem BK: ∀(l:List κ) (os:List (Option κ)),∀t∈nbR l os,-1<=t/\t<((nbS l os).length:Int)
 | l,[] =>fun t ht=>by cases ht
 | l,o::os=>fun t ht=>by
  have hp:=mG (nbL l o) os
  have hl:=hp.length_le
  rcases aD ht with rfl | ht
  ·show -1<=nbI l o/\nbI l o<((nbS (nbL l o) os).length:Int)
   cases o with
   | none=>exact ⟨by simp[nbI],by simp only[nbI];omega⟩
   | some y =>
    by_cases c:y∈l
    ·obtain ⟨q,hq,e,-⟩:=qc c
     rw[nH c] at hl
     rw[e];exact ⟨by omega,by rw[nH c];omega⟩
    ·rw[mH c] at hl
     rw[EE c];rw[aj] at hl
     exact ⟨by omega,by rw[mH c];simp at hl;omega⟩
  ·exact BK (nbL l o) os t ht
theorem Yp (H:NumOk nx first G B) (hN:bfE nx first N):VA ((0,(bfS nx first N).map acc,bfR nx first N):AutT) N:=by
 have h0:0<N:=by
  have:=GK (nx:=nx) (first:=first) N
  have:=(List.getElem?_eq_some_iff.1 this).1
  have:=hN.1;omega
 have key: ∀i,i<=N-> ∀r∈bfR nx first i,r.length=9/\ ∀t∈r,-1<=t/\t<(N:Int):=by
  intro i
  induction i with
  | zero=>intro _ r hr;cases hr
  | succ i ih =>
   intro hi r hr
   have hlt:=hN.2 i (by omega)
   rw[w8 hlt] at hr
   rcases aI hr with hr | hr
   ·exact ih (by omega) r hr
   ·obtain rfl:=aw hr
    refine ⟨by rw[fU,H.len _ (l6 H.g0 H.gn i _ (List.getElem_mem hlt))],fun t ht=>?_⟩
    have:=BK _ _ t ht
    rw[<-Ex hlt] at this
    have hl:=(yk (nx:=nx) (first:=first) hi).length_le
    have:=hN.1
    omega
 exact ⟨by show ((bfS nx first N).map acc).length=N;rw[List.length_map];exact hN.1.symm,⟨Int.le_refl _,by show (0:Int)<N;omega⟩,lf hN.2,fun r hr=>(key N (aG _) r hr).1,fun r hr=>(key N (aG _) r hr).2⟩
theorem Pc (hlen: ∀x,(nx x).length=9) (hN:bfE nx first N):VA ((0,(bfS nx first N).map acc,bfR nx first N):AutT) N:=by
 have h0:0<N:=by
  have:=GK (nx:=nx) (first:=first) N
  have:=(List.getElem?_eq_some_iff.1 this).1
  have:=hN.1;omega
 have key: ∀i,i<=N-> ∀r∈bfR nx first i,r.length=9/\ ∀t∈r,-1<=t/\t<(N:Int):=by
  intro i
  induction i with
  | zero=>intro _ r hr;cases hr
  | succ i ih =>
   intro hi r hr
   have hlt:=hN.2 i (by omega)
   rw[w8 hlt] at hr
   rcases aI hr with hr | hr
   ·exact ih (by omega) r hr
   ·obtain rfl:=aw hr
    refine ⟨by rw[fU,hlen _],fun t ht=>?_⟩
    have:=BK _ _ t ht
    rw[<-Ex hlt] at this
    have hl:=(yk (nx:=nx) (first:=first) hi).length_le
    have:=hN.1
    omega
 exact ⟨by show ((bfS nx first N).map acc).length=N;rw[List.length_map];exact hN.1.symm,⟨Int.le_refl _,by show (0:Int)<N;omega⟩,lf hN.2,fun r hr=>(key N (aG _) r hr).1,fun r hr=>(key N (aG _) r hr).2⟩
end
theorem VA.self {a:AutT} {n:Nat} (v:VA a n):VA a a.2.1.length:=by
 have e:=v.len
 subst e
 exact v
theorem LM:VA nothing 1:=⟨rfl,⟨by decide,by decide⟩,rfl,fun r hr=>by
 obtain rfl:=aw hr
 decide,fun r hr=>by
 obtain rfl:=aw hr
 decide⟩
end D
namespace D
open Go.RowKit
theorem Wc {l:List Int} {x:Int} (hl:l.length<=1000000) (hx:x∈l):bm x l=some (nbI l (some x)):=by
 unfold bm fK
 obtain ⟨o,e,hq⟩:=cz (f:=eT l x) (fun k s=>s=(k:Int)/\x∉l.take k) (fun o=>o= .ret (nbI l (some x))) l.length (s:=0) (by
  rintro k s hk ⟨rfl,hx'⟩
  unfold eT
  by_cases hkl:k<l.length
  ·rw[if_pos (by simp;omega),az (by omega) (by omega)];simp only[ae]
   by_cases h:nth l (k:Int)=x
   ·refine .inr ⟨_,by rw[if_pos (by simp[h])],(fun s' e=>by cases e),?_⟩
    have e:l=l.take k++(x::l.drop (k+1)):=by
     rw[<-h,cw hkl,<-List.drop_eq_getElem_cons hkl,List.take_append_drop]
    rw[GQ e hx',aB,Nat.min_eq_left (by omega)]
   ·have h': ¬x=nth l (k:Int):=fun e=>h e.symm
    refine .inl ⟨hkl,_,by rw[if_neg (by simpa using h')],by rw[ah (by omega)],?_⟩
    rw[take_one hkl,List.mem_append,List.mem_singleton]
    rintro (h' | h')
    ·exact hx' h'
    ·exact h h'.symm
  ·rw[List.take_of_length_le (by omega)] at hx'
   exact absurd hx hx') ⟨rfl,by simp⟩ (lu (by omega))
 subst hq
 rw[bs e];rfl
section
variable {a:AutT} {n:Nat}
def rep (c:List Int) (x:Int):Int:=nbI c (some x)
theorem Pd {c:List Int} {x:Int} (h:x∈c):0<=rep c x/\rep c x<c.length/\nth c (rep c x)=x:=by
 obtain ⟨q,hq,e1,e2⟩:=qc h
 unfold rep
 rw[e1]
 exact ⟨by omega,by omega,by rw[cw hq,e2]⟩
def aaZ (a:AutT) (n:Nat) (r:AutT):Prop:=(nth (live a) a.1=false/\r=nothing)\/(nth (live a) a.1=true/\ ∃(j:Nat) (c:List Int) (nx:Int->List (Option Int)) (ac:Int->Bool) (N:Nat),c=cI a j/\(∀r,good n (live a) r->nx (nth c r)=vF a c (live a) r)/\(∀r,good n (live a) r->ac (nth c r)=nth a.2.1 r)/\bfE nx (nth c a.1) N/\(∀x∈bfS nx (nth c a.1) N,(nx x).length=9)/\r=(0,(bfS nx (nth c a.1) N).map ac,bfR nx (nth c a.1) N))
theorem LN (V:VA a n) (hn:n<=1000000): ∃r,gL a=some r/\db a=some r/\Data.sm r/\VA r r.2.1.length/\r.2.1.length<=n/\aaZ a n r:=by
 have hlen:=V.len
 have hst:=V.start
 have hll:(live a).length=n:=by rw[vE,hlen]
 obtain ⟨c,es,ei,hcl,hfix,j,hj⟩:=LL V hn
 have hneg: ∀s:Int,0<=s->s<n->(nth c s<0↔nth (live a) s=false):=fun s h0 h1=>by
  have:=(Do a (s:=s.toNat) (by omega) j).1
  rw[<-hj,show ((s.toNat:Nat):Int)=s from by omega] at this
  exact this
 have hlt: ∀s:Int,0<=s->s<n->nth c s<n:=fun s h0 h1=>by
  have:=V9 (c:=c) (a:=a) (s:=s.toNat) (by omega)
  rw[hfix,hlen,show ((s.toNat:Nat):Int)=s from by omega] at this
  exact this
 have hpos: ∀r,good n (live a) r->0<=nth c r:=fun r hr=>by
  have:=hneg r hr.1 hr.2.1
  by_cases k:nth c r<0
  ·have:=this.1 k;rw[hr.2.2] at this;cases this
  ·omega
 have hkey: ∀r t:Int,0<=r->r<n->0<=t->t<n->0<=nth c r->nth c r=nth c t->EG a c r=EG a c t:=fun r t r0 r1 t0 t1 h0 h=>by
  have:=O7 (a:=a) (c:=c) (s:=r.toNat) (t:=t.toNat) (by omega) (by omega) (by rw[hfix,show ((r.toNat:Nat):Int)=r from by omega];exact h0) (by rw[hfix,show ((r.toNat:Nat):Int)=r from by omega,show ((t.toNat:Nat):Int)=t from by omega];exact h)
  rwa [show ((r.toNat:Nat):Int)=r from by omega,show ((t.toNat:Nat):Int)=t from by omega] at this
 have hacc: ∀r t:Int,0<=r->r<n->0<=t->t<n->0<=nth c r->nth c r=nth c t->nth a.2.1 r=nth a.2.1 t:=fun r t r0 r1 t0 t1 h0 h=>by
  have:=TK a (s:=r.toNat) (t:=t.toNat) (by omega) (by omega) j (by rw[<-hj,show ((r.toNat:Nat):Int)=r from by omega];exact h0) (by rw[<-hj,show ((r.toNat:Nat):Int)=r from by omega,show ((t.toNat:Nat):Int)=t from by omega];exact h)
  rwa [show ((r.toNat:Nat):Int)=r from by omega,show ((t.toNat:Nat):Int)=t from by omega] at this
 have hsuccs: ∀r,good n (live a) r->vF a c (live a) r=(List.range 9).map fun k=>if 0<=ent a c r k then some (ent a c r k) else none:=fun r hr=>by
  refine List.map_congr_left fun k hk=>?_
  have hk:k<9:=List.mem_range.1 hk
  have hm:=V.mv hr.1 hr.2.1 hk
  unfold ent
  by_cases h:mv a r k<0
  ·rw[if_pos h,if_neg (fun h'=>by omega),if_neg (by omega)]
  ·rw[if_neg h]
   have:=hneg (mv a r k) (by omega) hm.2
   cases hl:nth (live a) (mv a r k) with
   | false =>
    have:=this.2 hl
    rw[if_neg (fun h'=>by cases h'.2),if_neg (by omega)]
   | true =>
    have: ¬nth c (mv a r k)<0:=fun h'=>by have:=this.1 h';rw[hl] at this;cases this
    rw[if_pos ⟨by omega,rfl⟩,if_pos (by omega)]
 have hent: ∀r t:Int,EG a c r=EG a c t-> ∀k,k<9->ent a c r k=ent a c t k:=fun r t h k hk=>by
  have h:(List.range 9).map (fun k=>ent a c r k)=(List.range 9).map (fun k=>ent a c t k):=by unfold EG at h;injection h
  have:=congrArg (fun l:List Int=>l[k]?) h
  simpa [hk] using this
 let nx:Int->List (Option Int):=fun x=>vF a c (live a) (rep c x)
 let acc:Int->Bool:=fun x=>nth a.2.1 (rep c x)
 let G:Int->Prop:=fun x=> ∃r,good n (live a) r/\nth c r=x
 have Gm: ∀x,G x->x∈c/\0<=x/\good n (live a) (rep c x):=by
  rintro x ⟨r,hr,rfl⟩
  have hm:nth c r∈c:=bI hr.1 (by rw[hcl];exact hr.2.1)
  obtain ⟨h0,h1,h2⟩:=Pd hm
  have hp:=hpos r hr
  refine ⟨hm,hp,h0,by omega,?_⟩
  have:=hneg (rep c (nth c r)) h0 (by omega)
  rw[h2] at this
  cases hl:nth (live a) (rep c (nth c r)) with
  | true=>rfl
  | false=>have:=this.2 hl;omega
 have hnx: ∀r,good n (live a) r->nx (nth c r)=vF a c (live a) r:=fun r hr=>by
  obtain ⟨hm,hp,hg⟩:=Gm _ ⟨r,hr,rfl⟩
  obtain ⟨h0,h1,h2⟩:=Pd hm
  show vF a c (live a) (rep c (nth c r))=_
  rw[hsuccs _ hg,hsuccs _ hr]
  refine List.map_congr_left fun k hk=>?_
  rw[hent _ _ (hkey _ _ hg.1 hg.2.1 hr.1 hr.2.1 (by rw[h2];exact hp) h2) k (List.mem_range.1 hk)]
 have hac: ∀r,good n (live a) r->acc (nth c r)=nth a.2.1 r:=fun r hr=>by
  obtain ⟨hm,hp,hg⟩:=Gm _ ⟨r,hr,rfl⟩
  obtain ⟨h0,h1,h2⟩:=Pd hm
  exact hacc _ _ hg.1 hg.2.1 hr.1 hr.2.1 (by rw[h2];exact hp) h2
 have hgn: ∀r,good n (live a) r-> ∀y,some y∈vF a c (live a) r->G y:=fun r hr y h=>by
  obtain ⟨k,hk,e⟩:=List.mem_map.1 h
  have hk:k<9:=List.mem_range.1 hk
  split at e
  ·rename_i hc
   exact ⟨mv a r k,⟨hc.1,(V.mv hr.1 hr.2.1 hk).2,hc.2⟩,af e⟩
  ·cases e
 unfold gL db
 simp only[iN]
 rw[es,ei,TC V hn];simp only[ae]
 rw[az hst.1 (by omega)];simp only[ae]
 cases hs:nth (live a) a.1 with
 | false =>
  have:=(hneg a.1 hst.1 hst.2).2 hs
  rw[Iz V hll hs,if_pos (by simpa using this),O1]
  exact ⟨nothing,rfl,rfl,LJ,LM,V.pos,.inl ⟨hs,rfl⟩⟩
 | true =>
  have hst':good n (live a) a.1:=⟨hst.1,hst.2,hs⟩
  have hp:=hpos _ hst'
  have H:NumOk nx (nth c a.1) G n:=⟨⟨a.1,hst',rfl⟩,fun x hx y hy=>hgn _ (Gm x hx).2.2 y hy,fun x hx=>by simp[nx,vF],fun l hd h=>LI n l hd fun x hx=>by
   obtain ⟨r,hr,rfl⟩:=h x hx
   exact ⟨hpos r hr,hlt r hr.1 hr.2.1⟩⟩
  obtain ⟨N,hN,e1⟩:=Yb (acc:=acc) V hn hcl hll hs H hn hnx hac
  have hfirst: ∀x,G x->bm x c=some (rep c x):=fun x hx=>Wc (by omega) (Gm x hx).1
  obtain ⟨N',hN',e2⟩:=Ya (most:=(c.length:Int)) (p2:=fun a0=>dm a0 (a.1,a.2.1,a.2.2) (fun a0=>bm a0 c)) (p3:=fun a0 a1=>dn a0 a1 (a.1,a.2.1,a.2.2) (fun a0=>bm a0 c) c) (acc:=acc) H hn (by omega) (fun x hx=>Yi hn (Gm x hx).2.1 (by
    obtain ⟨r,hr,rfl⟩:=hx
    exact hlt r hr.1 hr.2.1)) (fun x hx=>by
   show dm x (a.1,a.2.1,a.2.2) (fun a0=>bm a0 c)=_
   unfold dm
   simp only
   rw[hfirst x hx];simp only[ae]
   rw[V.acc (Gm x hx).2.2.1 (Gm x hx).2.2.2.1];rfl) (fun x k hx hk=>by
   obtain ⟨hm,hx0,hg⟩:=Gm x hx
   have hm':=V.mv hg.1 hg.2.1 hk
   refine ⟨0,?_⟩
   show dn x k (a.1,a.2.1,a.2.2) (fun a0=>bm a0 c) c=_
   unfold dn
   simp only
   rw[hfirst x hx];simp only[ae]
   rw[show bP (a.1,a.2.1,a.2.2) (rep c x) k=some (mv a (rep c x) k) from GL V hg.1 hg.2.1 hk];simp only[ae]
   show _=some (match nth (vF a c (live a) (rep c x)) (k:Int) with | some y=>(y,true) | none=>(0,false))
   rw[J6 hk]
   by_cases h:mv a (rep c x) k<0
   ·rw[if_pos (by simpa using h),if_neg (fun h'=>by omega)]
   ·rw[if_neg (by simpa using h),az (by omega) (by omega)];simp only[ae]
    have hng:=hneg (mv a (rep c x) k) (by omega) hm'.2
    cases hl:nth (live a) (mv a (rep c x) k) with
    | false =>
     have:=hng.2 hl
     rw[if_pos (by simpa using this),if_neg (fun h'=>by cases h'.2)]
    | true =>
     have: ¬nth c (mv a (rep c x) k)<0:=fun h'=>by have:=hng.1 h';rw[hl] at this;cases this
     rw[if_neg (by simpa using this),if_pos ⟨by omega,rfl⟩])
  obtain rfl:=RS hN hN'
  have v:=Yp (acc:=acc) H hN
  refine ⟨_,by rw[e1];rfl,?_,Yj H hn hN,v.self,?_,.inr ⟨hs,j,c,nx,acc,N,hj,hnx,hac,hN,fun x _=>by simp[nx,vF],rfl⟩⟩
  rotate_left
  ·rw[v.len,hN.1];exact H.bound _ (pe N) (l6 H.g0 H.gn N)
  rw[if_neg (by simp;omega)]
  exact (congrArg (fun x=>Option.bind x _) e2).trans rfl
theorem LO (V:VA a n) (hn:n<=1000000): ∃r,gL a=some r/\db a=some r/\Data.sm r/\VA r r.2.1.length/\r.2.1.length<=n:=by
 obtain ⟨r,h1,h2,h3,h4,h5,-⟩:=LN V hn
 exact ⟨r,h1,h2,h3,h4,h5⟩
theorem R9 (V:VA a n) (hn:n<=1000000): ∃r,gL a=some r/\db a=some r/\Data.sm r:=by
 obtain ⟨r,h1,h2,h3,-⟩:=LO V hn
 exact ⟨r,h1,h2,h3⟩
end
end D
namespace D
open Go.RowKit
theorem ID {κ:Type} [DecidableEq κ] {nx:κ->List (Option κ)} {first:κ} {acc:κ->Bool} {most:Nat} : ∀(f i:Nat),(∀j,j<i->j<(bfS nx first j).length)->(bfS nx first i).length<=most->goM nx first acc most f i=((0,[],[]),false)\/ ∃N,bfE nx first N/\N<=most/\goM nx first acc most f i=((0,(bfS nx first N).map acc,bfR nx first N),true)
 | 0,i,_,_=>.inl rfl
 | f+1,i,h,hl=>by
  have hle:=ED h
  rw[goM]
  by_cases c:i<(bfS nx first i).length
  ·rw[if_pos c]
   by_cases d:(bfS nx first (i+1)).length>most
   ·rw[if_pos d];exact .inl rfl
   ·rw[if_neg d]
    exact ID f (i+1) (fun j hj=>by
     by_cases e:j=i
     ·subst e;exact c
     ·exact h j (by omega)) (by omega)
  ·rw[if_neg c]
   exact .inr ⟨i,⟨by omega,h⟩,by omega,by rw[List.take_of_length_le (by omega)]⟩
end D
namespace D
open Go.RowKit
theorem xg:Data.sm ((0,[],[]):AutT):=⟨trivial,⟨by decide,fun _ h=>by cases h⟩,by decide,fun _ h=>by cases h⟩
theorem GS {e:List Tok} (he:e.length<=1048576): ∃r:AutT×Bool,m_s_CompileExpr e=some r/\jx e=some r/\Data.sm r.1:=by
 obtain ⟨⟨p,b⟩,e1,e2,h1,h2⟩:=vG he
 have h1:p.2.2.2.1.length=p.1.length:=h1
 have h2:p.1.length<=100000:=h2
 unfold m_s_CompileExpr jx
 rw[e1,e2];simp only[ae,iN]
 cases b with
 | false=>exact ⟨((0,[],[]),false),rfl,rfl,xg⟩
 | true =>
  have d1:=Yg (p:=p) (most:=200) h1 (by omega) (by omega) (by omega)
  have d2:=ZR (p:=p) (most:=200) h1 (by omega) (by omega) (by omega)
  have d1:dZ p 200=_:=d1
  have d2:jv p 200=_:=d2
  rw[d1,d2];simp only[if_true,ae]
  rcases ID (nx:=nxS p) (first:=1) (acc:=tc p) (most:=200) (200+2) 0 (fun j hj=>by omega) (by simp[bfS]) with e | ⟨N,hN,hNm,e⟩
  ·rw[e]
   exact ⟨((0,[],[]),false),rfl,rfl,xg⟩
  ·rw[e];simp only[if_true]
   have V:=Pc (acc:=tc p) (BE p) hN
   obtain ⟨r,es,ei,hr⟩:=R9 V (by omega)
   unfold AS
   rw[es];simp only[ae,iN]
   rw[ei];simp only[ae,iN]
   by_cases c:(r.2.1.length:Int)>12
   ·have c':decide ((r.2.1.length:Int)>12)=true:=decide_eq_true c
    simp only[c',if_true,ae]
    exact ⟨((0,[],[]),false),rfl,rfl,xg⟩
   ·have c':decide ((r.2.1.length:Int)>12)=false:=decide_eq_false c
    simp only[c',Bool.false_eq_true,if_false,ae]
    exact ⟨(r,true),rfl,rfl,hr⟩
theorem BL {e:List Tok} (he:e.length<=1048576): ∃r:AutT×Bool,m_s_CompileExpr e=some r/\jx e=some r/\Data.sm r.1:=GS he
end D
open Go.ChangeShapes Go.WideShapes Go.ChangeAt Go.RowKit
theorem own:ownKnob Tryz.prog.godebug=none:=by kernel_rfl
theorem laidOut:laidOutB Tryz.prog=true:=by kernel_rfl
theorem xh {H:Type} {enc:TypeId×Value->H} {P:Program} (hl:laidOutB P=true) {W W':World} (hb:Below W.heap.size W W') :
  ∀ {ts:List TypeId} {vs:List Value} {ds:List (DataW H)} {ps:List MemPlace},(∀t∈ts,P.readableRec t=true/\t<P.types.size)->
   DataW.TrodAll enc P W 0 (fun _=>true) true ts vs ds ps->(∀x∈ps,x.block<W.heap.size)->DataW.TrodAll enc P W' 0 (fun b=>decide (b<W.heap.size)) true ts vs ds ps
 | [],[],[],ps,_,h,_=>h
 | t::ts,v::vs,d::ds,ps,hr,⟨p,q,h1,h2,h3⟩,hlt=>by
  subst h3
  exact ⟨p,q,Below.trod hl (hr t (by simp)).1 (hr t (by simp)).2 h1 hb fun x hx=>hlt x (by simp[hx]),xh hl hb (fun t ht=>hr t (by simp[ht])) h2 fun x hx=>hlt x (by simp[hx]),rfl⟩
 | [],_::_,_,_,_,h,_=>h.elim
 | [],[],_::_,_,_,h,_=>h.elim
 | _::_,[],_,_,_,h,_=>h.elim
 | _::_,_::_,[],_,_,h,_=>h.elim
theorem Sa {H:Type} {enc:TypeId×Value->H} {f:Func} {s:ChangeSpec} {W W':World} {args:Array Value} {ds:List (DataW H)} {before:List MemPlace} (tb:TypeId)
  (hb:Tryz.prog.underlying tb=some .bool) (hr:f.resultTypes= #[tb]) (hp:(f.params.toList.all fun t=>Tryz.prog.readableRec t&&decide (t<Tryz.prog.types.size))=true) (hv:s.vars= [])
  (hW:DataW.Whole enc Tryz.prog f.params.toList s.vars false W args.toList ds [] before) (hres:(s.fn H (ds++ [])).results= [.lit (.bool true)]) (hargs:(s.fn H (ds++ [])).args=ds) (hvars:(s.fn H (ds++ [])).vars= [])
  (hbel:Below W.heap.size W W'):s.post enc Tryz.prog f false true false false W args (.bool true) W':=by
 obtain ⟨p,q,h1,h2,h3,h4,h5⟩:=hW
 have hW':DataW.Whole enc Tryz.prog f.params.toList s.vars false W args.toList ds [] before:=⟨p,q,h1,h2,h3,h4,h5⟩
 have hq:q= []:=by rw[hv] at h2;exact h2
 subst hq
 simp only[List.append_nil] at h3
 subst h3
 refine ⟨ds,[],before,[],before,[],hW',?_,?_,?_,hbel.frame _,fun h=>by cases h⟩
 ·rw[hres,hr]
  exact trodAll_mk1 (shut_bool hb true)
 ·rw[hargs]
  exact xh laidOut hbel (fun t ht=>by have:=List.all_eq_true.1 hp t ht;simpa using this) h1 fun x hx=>by simpa using hW'.lt x hx
 ·rw[hvars,hv];rfl
namespace D
open Go.RowKit
theorem vH (x y:AutT) (hx:Data.sm x):gM x y=some (decide (x=y)):=by
 obtain ⟨-,⟨ha,-⟩,hn,hr⟩:=hx
 unfold gM
 by_cases c1:x.1=y.1
 case neg=>rw[if_pos (by simpa using c1)];simp[Prod.ext_iff,c1]
 rw[if_neg (by simpa using c1)]
 by_cases c2:x.2.1.length=y.2.1.length
 case neg=>rw[if_pos (by simp;omega)];simp[Prod.ext_iff];exact fun _ e=>absurd (by rw[e]) c2
 rw[if_neg (by simp;omega)]
 by_cases c3:x.2.2.length=y.2.2.length
 case neg=>rw[if_pos (by simp;omega)];simp[Prod.ext_iff];exact fun _ _ e=>absurd (by rw[e]) c3
 rw[if_neg (by simp;omega)]
 rw[eqB (f:=gA x y) x.2.1 y.2.1 (by omega) c2 (fun i h h'=>by
  simp only[gA,cF h,if_true,aM h,aM h',ae,ah (show i<9223372036854775807 by omega)]
  by_cases c:x.2.1[i] =y.2.1[i] <;> simp[c]) (by simp only[gA,cm];rfl)]
 by_cases c4:x.2.1=y.2.1
 case neg=>rw[if_neg c4];simp[Prod.ext_iff,c4]
 rw[if_pos c4]
 rw[eqB (f:=gB x y) x.2.2 y.2.2 (by omega) c3 (fun i h h'=>by
  obtain ⟨r,e,hr'⟩:=BF x.2.2[i] y.2.2[i] ((hr _ (List.getElem_mem h)).1)
  simp only[gB,cF h,if_true,aM h,aM h',ae,ah (show i<9223372036854775807 by omega),e]
  by_cases c:x.2.2[i] =y.2.2[i]
  ·rw[if_neg (by simpa using hr'.2 c),if_pos c]
  ·rw[if_pos (by simpa using fun e=>c (hr'.1 e)),if_neg c]) (by simp only[gB,cm];rfl)]
 by_cases c5:x.2.2=y.2.2
 ·rw[if_pos c5];simp[Prod.ext_iff,c1,c4,c5]
 ·rw[if_neg c5];simp[Prod.ext_iff,c5]
theorem Sb (xs ys:List Bool) (hN:xs.length<=9223372036854775807):fa xs ys=some (decide (xs=ys)):=
 eqL (f:=cP xs ys) xs ys hN (fun i h h'=>by
  simp only[cP,cF h,if_true,aM h,aM h',ae,ah (show i<9223372036854775807 by omega)]
  by_cases c:xs[i] =ys[i] <;> simp[c]) (by simp only[cP,cm];rfl)
theorem BM (x y:AutT) (hx:Data.sm x):fo x y=some (decide (x=y)):=by
 obtain ⟨-,⟨ha,-⟩,hn,hr⟩:=hx
 unfold fo
 by_cases c1:x.1=y.1
 case neg=>rw[if_neg (by simpa using c1)];simp[Prod.ext_iff,c1]
 rw[if_pos (by simpa using c1),Sb _ _ (by omega)];simp only[ae]
 by_cases c2:x.2.1=y.2.1
 case neg=>rw[if_neg (by simpa using c2)];simp[Prod.ext_iff,c2]
 rw[if_pos (by simpa using c2)]
 have:bO x.2.2 y.2.2 (fun a0 a1=>im a0 a1)=some (decide (x.2.2=y.2.2)):=
  eqL (f:=bh x.2.2 y.2.2 _) x.2.2 y.2.2 (by omega) (fun i h h'=>by
   simp only[bh,cF h,if_true,aM h,aM h',ae,ah (show i<9223372036854775807 by omega),im]
   rw[xf _ _ (by have:x.2.2[i].length<=1048576:=(hr _ (List.getElem_mem h)).1;omega)];simp only[ae]
   by_cases c:x.2.2[i] =y.2.2[i] <;> simp[c]) (by simp only[bh,cm];rfl)
 rw[this]
 by_cases c3:x.2.2=y.2.2 <;> simp[Prod.ext_iff,c1,c2,c3]
end D
set_option synthInstance.maxSize 20000
set_option synthInstance.maxHeartbeats 2000000
namespace D
open Go.RowKit
abbrev QT:=Int×List Tok×Int
abbrev qd:=List AutT×List QT
theorem Sc (x y:List Tok) (hx:x.length<=1048576):mO x y=some (decide (x=y)):=by
 unfold mO
 exact eqL (f:=jM x y) x y (by omega) (fun i h h'=>by
  simp only[jM,cF h,if_true,aM h,aM h',ae,iN,ah (show i<9223372036854775807 by omega)]
  refine GJ ?_;simp only[Bool.and_true,ak,beq_iff_eq];exact aaH) (by simp only[jM,cm];rfl)
theorem Pe (x y:List Tok) (hx:x.length<=1048576):c8 x y=some (decide (x=y)):=by
 unfold c8
 exact eqL (f:=cC x y) x y (by omega) (fun i h h'=>by
  simp only[cC,cF h,if_true,aM h,aM h',ae,iN,ah (show i<9223372036854775807 by omega)]
  refine GJ ?_;simp only[Bool.and_true,ak,beq_iff_eq];exact aaH) (by simp only[cC,cm];rfl)
theorem Sd (x y:List Tok) (hx:x.length<=1048576):mS x y=some (decide (x=y)):=by
 unfold mS
 rw[Pe x y hx];rfl
theorem xi (x y:qd) (hx:Data.sm x):ig x y=some (decide (x=y)):=by
 obtain ⟨⟨ha,hA⟩,hq,hQ⟩:=hx
 unfold ig
 by_cases h1:x.1.length=y.1.length
 ·by_cases h2:x.2.length=y.2.length
  ·rw[if_neg (by rw[h1];simp),if_neg (by rw[h2];simp)]
   rw[eqB (f:=fG x y) x.1 y.1 (by omega) h1 (fun i h h'=>by
    simp only[fG,cF h,if_true,aM h,aM h',ae,iN,vH x.1[i] y.1[i] (hA _ (List.getElem_mem h)),ah (show i<9223372036854775807 by omega)]
    exact GJ (by simp)) (by simp only[fG,cm];rfl)]
   rw[eqB (f:=fH x y) x.2 y.2 (by omega) h2 (fun i h h'=>by
    have e:=Sc x.2[i].2.1 y.2[i].2.1 (hQ _ (List.getElem_mem h)).2.1.1
    simp only[fH,cF h,if_true,aM h,aM h',ae,e,ah (show i<9223372036854775807 by omega)]
    generalize x.2[i] =u;generalize y.2[i] =v
    by_cases e1:u.1=v.1 <;> by_cases e2:u.2.1=v.2.1 <;> by_cases e3:u.2.2=v.2.2 <;> simp[Prod.ext_iff,e1,e2,e3]) (by simp only[fH,cm];rfl)]
   by_cases e1:x.1=y.1 <;> by_cases e2:x.2=y.2 <;> simp[Prod.ext_iff,e1,e2]
  ·have:x.2≠y.2:=fun e=>h2 (by rw[e])
   rw[if_neg (by rw[h1];simp),if_pos (by simp;omega)];simp[Prod.ext_iff,this]
 ·have:x.1≠y.1:=fun e=>h1 (by rw[e])
  rw[if_pos (by simp;omega)];simp[Prod.ext_iff,this]
theorem LP (x y:QT) (hx:Data.sm x):iC x y=some (decide (x=y)):=by
 unfold iC
 rw[Sd x.2.1 y.2.1 hx.2.1.1];simp only[ae]
 by_cases h1:x.1=y.1 <;> by_cases h2:x.2.1=y.2.1 <;> by_cases h3:x.2.2=y.2.2 <;> simp[Prod.ext_iff,h1,h2,h3]
theorem EI (x y:qd) (hx:Data.sm x):iq x y=some (decide (x=y)):=by
 obtain ⟨⟨ha,hA⟩,hq,hQ⟩:=hx
 unfold iq
 have e:be x.1 y.1 (fun a0 a1=>fo a0 a1)=some (decide (x.1=y.1)):=
  eqL (f:=aR x.1 y.1 _) x.1 y.1 (by omega) (fun i h h'=>by
   simp only[aR,cF h,if_true,aM h,aM h',ae,iN,ah (show i<9223372036854775807 by omega),BM x.1[i] y.1[i] (hA _ (List.getElem_mem h))]
   exact GJ (by simp)) (by simp only[aR,cm];rfl)
 have e':a7 x.2 y.2 (fun a0 a1=>iC a0 a1)=some (decide (x.2=y.2)):=
  eqL (f:=aP x.2 y.2 _) x.2 y.2 (by omega) (fun i h h'=>by
   simp only[aP,cF h,if_true,aM h,aM h',ae,iN,ah (show i<9223372036854775807 by omega),LP x.2[i] y.2[i] (hQ _ (List.getElem_mem h))]
   exact GJ (by simp)) (by simp only[aP,cm];rfl)
 rw[e,e'];simp only[ae]
 by_cases h1:x.1=y.1 <;> by_cases h2:x.2=y.2 <;> simp[Prod.ext_iff,h1,h2]
theorem yo {R S:Type} {f g:S->Option (Out R S)} (Inv:Nat->S->Prop) (h: ∀i s,Inv i s->g s=f s/\ ∀s',f s=some (.nxt s')->Inv (i+1) s'): ∀(k i:Nat) (s:S),Inv i s->aA g k s=aA f k s
 | 0,_,_,_=>rfl
 | k+1,i,s,hI=>by
  obtain ⟨h1,h2⟩:=h i s hI
  rw[aA,aA,h1]
  cases e:f s with
  | none=>rfl
  | some o =>
   cases o with
   | nxt s'=>exact yo Inv h k (i+1) s' (h2 s' e)
   | brk s'=>rfl
   | ret r=>rfl
theorem Kc {f g:Int->Option (Out Int Int)} (N:Nat) (hN:N<=1048576) (h: ∀i:Nat,i<N->f (i:Int)=some (.ret (i:Int))\/f (i:Int)=some (.nxt ((i+1:Nat):Int))) (he:f (N:Int)=some (.brk (N:Int))) (hfg: ∀i:Nat,i<=N->g (i:Int)=f (i:Int)) :
  ∃r:Int,aO (aA f aT 0) (fun r=>some r) (fun _=>some (-1))=some r/\aO (aA g aT 0) (fun r=>some r) (fun _=>some (-1))=some r/\(r= -1\/ ∃i:Nat,i<N/\r=(i:Int)):=by
 have hs:aA g aT 0=aA f aT 0:=yo (fun i s=>s=(i:Int)/\i<=N) (fun i s ⟨e,hi⟩=>by
  subst e
  refine ⟨hfg i hi,fun s' e=>?_⟩
  by_cases c:i<N
  ·rcases h i c with e2 | e2
   ·rw[e2] at e;cases e
   ·rw[e2] at e;cases e;exact ⟨rfl,c⟩
  ·obtain rfl:i=N:=by omega
   rw[he] at e;cases e) aT 0 0 ⟨rfl,Nat.zero_le _⟩
 rw[hs]
 obtain ⟨o,e,ho⟩:=cz (f:=f) (fun i s=>s=(i:Int)) (fun o=>o= .brk (N:Int)\/ ∃i:Nat,i<N/\o= .ret (i:Int)) N (fun i s hi hs=>by
  subst hs
  by_cases h1:i<N
  ·rcases h i h1 with h2 | h2
   ·exact .inr ⟨_,h2,(fun s' e=>by cases e),.inr ⟨i,h1,rfl⟩⟩
   ·exact .inl ⟨h1,_,h2,rfl⟩
  ·obtain rfl:i=N:=by omega
   exact .inr ⟨_,he,(fun s' e=>by cases e),.inl rfl⟩) (s:=0) rfl (gx _ (by omega))
 rw[e]
 rcases ho with rfl | ⟨i,hi,rfl⟩
 ·exact ⟨-1,rfl,rfl,.inl rfl⟩
 ·exact ⟨i,rfl,rfl,.inr ⟨i,hi,rfl⟩⟩
theorem LQ (l:List AutT) (a:AutT) (hl:l.length<=1048576) (hs: ∀x∈l,Data.sm x) (ha:Data.sm a): ∃r:Int,fg l a=some r/\bj l (fun a0=>nj a0 a)=some r/\(r= -1\/ ∃i:Nat,i<l.length/\r=(i:Int)):=by
 unfold fg bj
 have hf: ∀i (h:i<l.length),eE l a (i:Int)=if l[i] =a then some (.ret (i:Int)) else some (.nxt ((i+1:Nat):Int)):=fun i h=>by
  simp only[eE,cF h,if_true,aM h,ae,iN,vH l[i] a (hs _ (List.getElem_mem h)),ah (show i<9223372036854775807 by omega)]
  by_cases c:l[i] =a <;> simp[c]
 refine Kc l.length hl (fun i h=>?_) (by simp only[eE,cm];rfl) (fun i hi=>?_)
 ·rw[hf i h];by_cases c:l[i] =a <;> simp[c]
 ·by_cases h:i<l.length
  ·rw[hf i h]
   simp only[bZ,nj,cF h,if_true,aM h,ae,iN,BM a l[i] ha,ah (show i<9223372036854775807 by omega)]
   by_cases c:l[i] =a
   ·simp[c]
   ·have: ¬a=l[i]:=fun e=>c e.symm
    simp[c,this]
  ·obtain rfl:i=l.length:=by omega
   simp only[eE,bZ,cm];rfl
def IE (n i:Nat) (s:Int×List AutT×List QT):Prop:=s.1=(i:Int)/\i<=n/\s.2.2.length=i/\s.2.1.length<=i/\(∀a∈s.2.1,Data.sm a)/\ ∀q∈s.2.2,Data.sm q/\0<=q.2.2/\q.2.2<(s.2.1.length:Int)
theorem Ke {qs:List QT} (hq:Data.sm qs) {i:Nat} {s:Int×List AutT×List QT} (hI:IE qs.length i s):lL qs s=bA qs s /\
  ((i<qs.length/\ ∃s',bA qs s=some (.nxt s')/\IE qs.length (i+1) s')\/ ∃o,bA qs s=some o/\(∀s',o≠ .nxt s')/\(o= .ret (([],[]),false)\/o= .brk s/\i=qs.length)):=by
 obtain ⟨hn,hs⟩:=bf hq
 obtain ⟨s1,A,Q⟩:=s
 obtain ⟨h1,h2,h3,h4,h5,h6⟩:=hI
 simp only at h1 h3 h4 h5 h6
 subst h1
 by_cases hi:i<qs.length
 ·have hqi:=hs _ (List.getElem_mem hi)
  obtain ⟨r,es,ei,hr⟩:=BL (e:=qs[i].2.1) hqi.2.1.1
  obtain ⟨k,ks,ki,hk⟩:=LQ A r.1 (by omega) h5 hr
  have a1:bM 56 A [r.1] =some (A++ [r.1]):=aH (by simp;omega)
  have a2: ∀y,bM 40 Q [y] =some (Q++ [y]):=fun y=>aH (by simp;omega)
  have a3:fM qs[i].2.1=some qs[i].2.1:=by unfold fM;rw[aH (by have:=hqi.2.1.1;simp;omega)];rfl
  have a4:ni qs[i].2.1=some qs[i].2.1:=by unfold ni;rw[aH (by have:=hqi.2.1.1;simp;omega)];rfl
  unfold lL bA
  simp only[cF hi,if_true,aM hi,ae,es,ei,Is,Ey,iN,ks,ki,a1,a2,a3,a4,ah (show i<9223372036854775807 by omega)]
  by_cases c1:r.2=true
  case neg =>
   simp only[c1,Bool.false_eq_true,if_false]
   exact ⟨by first | trivial | rfl,.inr ⟨_,rfl,(fun s' e=>by cases e),.inl rfl⟩⟩
  simp only[c1,if_true]
  by_cases c2:1<=qs[i].1/\qs[i].1<=99
  case neg =>
   simp only[c2,decide_false,Bool.false_eq_true,if_false]
   exact ⟨by first | trivial | rfl,.inr ⟨_,rfl,(fun s' e=>by cases e),.inl rfl⟩⟩
  simp only[c2,decide_true,if_true]
  have fin: ∃s':Int×List AutT×List QT,(∀(y:Option (Out (qd×Bool) (Int×List AutT×List QT))),True)/\(Option.bind (if decide (k<0) then some ((A.length:Int),A++ [r.1],Q) else some (k,A,Q)) fun s10:Int×List AutT×List QT=>(bM 40 s10.2.2 [(qs[i].1,qs[i].2.1,s10.1)]).bind fun z18=>some (.nxt (((i+1:Nat):Int),s10.2.1,z18)):Option (Out (qd×Bool) (Int×List AutT×List QT)))=some (.nxt s')/\IE qs.length (i+1) s':=by
   rcases hk with rfl | ⟨j,hj,rfl⟩
   ·refine ⟨(((i+1:Nat):Int),A++ [r.1],Q++ [(qs[i].1,qs[i].2.1,(A.length:Int))]),fun _=>trivial,?_,rfl,hi,by simp;omega,by simp;omega,fun a ha=>?_,fun q hq'=>?_⟩
    ·simp only[show decide ((-1:Int)<0)=true from rfl,if_true,ae,a2]
    ·simp only[List.mem_append,List.mem_singleton] at ha
     rcases ha with ha | rfl
     ·exact h5 a ha
     ·exact hr
    ·simp only[List.mem_append,List.mem_singleton] at hq'
     simp only[aj,List.length_singleton]
     rcases hq' with hq' | rfl
     ·obtain ⟨b1,b2,b3⟩:=h6 q hq'
      exact ⟨b1,b2,by omega⟩
     ·exact ⟨⟨trivial,hqi.2.1,trivial⟩,by simp,by simp;omega⟩
   ·refine ⟨(((i+1:Nat):Int),A,Q++ [(qs[i].1,qs[i].2.1,(j:Int))]),fun _=>trivial,?_,rfl,hi,by simp;omega,by simp only;omega,h5,fun q hq'=>?_⟩
    ·have:decide ((j:Int)<0)=false:=by simp
     simp only[this,Bool.false_eq_true,if_false,ae,a2]
    ·simp only[List.mem_append,List.mem_singleton] at hq'
     rcases hq' with hq' | rfl
     ·exact h6 q hq'
     ·exact ⟨⟨trivial,hqi.2.1,trivial⟩,by simp,by simp;omega⟩
  obtain ⟨s',-,e,hI'⟩:=fin
  by_cases c3:(i:Int)>0
  ·have hp:i - 1<qs.length:=by omega
   have hw:i64.wrap ((i:Int) - 1)=((i - 1:Nat):Int):=by rw[nt (by omega)];omega
   simp only[c3,decide_true,if_true,hw,aM hp,ae]
   by_cases c4:qs[i - 1].1≥qs[i].1
   ·simp only[c4,decide_true,if_true]
    exact ⟨by first | trivial | rfl,.inr ⟨_,rfl,(fun s' e=>by cases e),.inl rfl⟩⟩
   ·simp only[c4,decide_false,Bool.false_eq_true,if_false]
    exact ⟨by first | trivial | rfl,.inl ⟨hi,s',e,hI'⟩⟩
  ·simp only[c3,decide_false,Bool.false_eq_true,if_false]
   exact ⟨by first | trivial | rfl,.inl ⟨hi,s',e,hI'⟩⟩
 ·obtain rfl:i=qs.length:=by omega
  unfold lL bA
  simp only[cm,Bool.false_eq_true,if_false]
  exact ⟨by first | trivial | rfl,.inr ⟨_,rfl,(fun s' e=>by cases e),.inr (by first | exact ⟨rfl,rfl⟩ | exact ⟨trivial,rfl⟩ | exact ⟨rfl,trivial⟩ | simp)⟩⟩
def Yq (r:qd):Prop:=Data.sm r/\ ∀q∈r.2,0<=q.2.2/\q.2.2<(r.1.length:Int)
theorem zN {qs:List QT} (hq:Data.sm qs): ∃r:qd,∃b:Bool,cH qs=(if (qs.length:Int)>4 then some (([],[]),false) else some (r,b))/\tL qs=some (r,b&&decide ((qs.length:Int)<=4))/\Yq r:=by
 have hn:=(bf hq).1
 have h0:IE qs.length 0 (0,[],[]):=⟨rfl,Nat.zero_le _,rfl,aG _,fun _ h=>(by cases h),fun _ h=>(by cases h)⟩
 have hs:aA (lL qs) aT (0,[],[])=aA (bA qs) aT (0,[],[]):=yo (IE qs.length) (fun i s hI=>by
  obtain ⟨e,h⟩:=Ke hq hI
  refine ⟨e,fun s' e'=>?_⟩
  rcases h with ⟨_,s2,e2,hI2⟩ | ⟨o,e2,hne,-⟩
  ·rw[e2] at e';cases e';exact hI2
  ·rw[e2] at e';cases e';exact absurd rfl (hne s')) aT 0 _ h0
 obtain ⟨o,e,ho⟩:=cz (f:=bA qs) (IE qs.length) (fun o=>o= .ret (([],[]),false)\/ ∃A Q,o= .brk ((qs.length:Int),A,Q)/\IE qs.length qs.length ((qs.length:Int),A,Q)) qs.length (fun i s hi hI=>by
  rcases (Ke hq hI).2 with h | ⟨o,e,hne,h⟩
  ·exact .inl h
  ·refine .inr ⟨o,e,hne,?_⟩
   rcases h with h | ⟨h,rfl⟩
   ·exact .inl h
   ·obtain ⟨s1,A,Q⟩:=s
    obtain ⟨rfl,-⟩:=id hI
    exact .inr ⟨A,Q,h,hI⟩) h0 (gx _ (by omega))
 unfold cH tL
 rw[hs,e]
 rcases ho with rfl | ⟨A,Q,rfl,-,-,h3,h4,h5,h6⟩
 ·refine ⟨([],[]),false,?_,rfl,⟨⟨Nat.zero_le _,fun _ h=>(by cases h)⟩,Nat.zero_le _,fun _ h=>(by cases h)⟩,fun _ h=>(by cases h)⟩
  by_cases c:(qs.length:Int)>4 <;> simp[c,aO]
 ·simp only at h3 h4 h5 h6
  refine ⟨(A,Q),true,?_,by simp[aO],⟨⟨show A.length<=1048576 by omega,h5⟩,show Q.length<=1048576 by omega,fun q h=>(h6 q h).1⟩,fun q h=>(h6 q h).2⟩
  by_cases c:(qs.length:Int)>4 <;> simp[c,aO]
theorem yp {r:qd} (hr:Data.sm r): ∃b,cq r=some b/\dR r=some b/\(b=true->Yq r):=by
 obtain ⟨x,b,e1,e2,hx⟩:=zN hr.2
 unfold cq dR
 rw[e1,e2]
 by_cases c:(r.2.length:Int)>4
 ·have c': ¬(r.2.length:Int)<=4:=by omega
  exact ⟨false,by simp[c],by simp[c'],fun e=>by cases e⟩
 ·have c':(r.2.length:Int)<=4:=by omega
  cases b with
  | false=>exact ⟨false,by simp[c],by simp,fun e=>by cases e⟩
  | true =>
   simp only[c,if_false,ae,if_true,c',decide_true,Bool.and_true,iN,xi x r hx.1,EI x r hx.1]
   exact ⟨_,rfl,rfl,fun e=>by rw[<-of_decide_eq_true e];exact hx⟩
end D
set_option synthInstance.maxSize 20000
set_option synthInstance.maxHeartbeats 2000000
namespace D
open Go.RowKit
theorem Pf (a:AutT) (ha:Data.sm a):oM a=some a:=by
 obtain ⟨-,⟨hb,-⟩,hn,hr⟩:=ha
 unfold oM
 rw[aH (by simp;omega)];simp only[ae,List.nil_append]
 have:=aU (f:=j9 a) (fun i=>((i:Int),a.1,a.2.1,a.2.2.take i)) a.2.2.length (fun i hi=>by
  unfold j9
  have h1:bM 8 ([] :List Int) a.2.2[i] =some a.2.2[i]:=by rw[aH (by have:a.2.2[i].length<=1048576:=(hr _ (List.getElem_mem hi)).1;simp;omega)];rfl
  simp only[cF hi,if_true,aM hi,ae,h1,ah (show i<9223372036854775807 by omega)]
  rw[aH (by simp;omega)]
  simp only[ae]
  rw[List.take_succ_eq_append_getElem hi]) (by
  unfold j9
  simp only[cm,Bool.false_eq_true,if_false]) (gx _ (by omega))
 have e:aA (j9 a) aT (0,a.1,a.2.1,[])=_:=this
 rw[e]
 simp only[aO,List.take_length]
theorem Wd (a:AutT) (ha:Data.sm a):jP a=some a:=by
 obtain ⟨-,⟨hb,-⟩,hn,hr⟩:=ha
 unfold jP
 rw[aH (by simp;omega)];simp only[ae,List.nil_append]
 have:=aU (f:=eY a) (fun i=>((i:Int),a.1,a.2.1,a.2.2.take i)) a.2.2.length (fun i hi=>by
  unfold eY jy
  have h1:bM 8 ([] :List Int) a.2.2[i] =some a.2.2[i]:=by rw[aH (by have:a.2.2[i].length<=1048576:=(hr _ (List.getElem_mem hi)).1;simp;omega)];rfl
  simp only[cF hi,if_true,aM hi,ae,h1,ah (show i<9223372036854775807 by omega)]
  rw[aH (by simp;omega)]
  simp only[ae]
  rw[List.take_succ_eq_append_getElem hi]) (by
  unfold eY
  simp only[cm,Bool.false_eq_true,if_false]) (gx _ (by omega))
 have e:aA (eY a) aT (0,a.1,a.2.1,[])=_:=this
 rw[e]
 simp only[aO,List.take_length]
end D
set_option synthInstance.maxSize 20000
set_option synthInstance.maxHeartbeats 2000000
namespace D
open Go.RowKit
theorem BN (r:qd) (id:Int) (hl:r.2.length<=1048576): ∃k:Int,ij r id=some k/\nT r id=some k/\(k= -1\/ ∃i:Nat,i<r.2.length/\k=(i:Int)):=by
 unfold ij nT cj
 have hf: ∀i (h:i<r.2.length),fN r id (i:Int)=if r.2[i].1=id then some (.ret (i:Int)) else some (.nxt ((i+1:Nat):Int)):=fun i h=>by
  simp only[fN,cF h,if_true,aM h,ae,ah (show i<9223372036854775807 by omega)]
  by_cases c:r.2[i].1=id <;> simp[c]
 obtain ⟨k,e1,e2,h⟩:=Kc (f:=fN r id) (g:=br r.2 fun a0=>lM a0 id) r.2.length hl (fun i h=>by
  rw[hf i h];by_cases c:r.2[i].1=id <;> simp[c]) (by simp only[fN,cm];rfl) (fun i hi=>by
  by_cases h:i<r.2.length
  ·rw[hf i h]
   simp only[br,lM,cF h,if_true,aM h,ae,ah (show i<9223372036854775807 by omega)]
   by_cases c:r.2[i].1=id <;> simp[c]
  ·obtain rfl:i=r.2.length:=by omega
   simp only[fN,br,cm];rfl)
 refine ⟨k,e1,?_,h⟩
 rw[e2];rfl
end D
set_option synthInstance.maxSize 20000
set_option synthInstance.maxHeartbeats 2000000
namespace D
open Go.RowKit
theorem Dr {r:qd} (hr:Data.sm r) (id:Int): ∃x:AutT×Bool,dC r id=some x/\eP r id=some x/\Data.sm x.1:=by
 obtain ⟨k,f1,f2,hk⟩:=BN r id (bf hr.2).1
 obtain ⟨b,v1,v2,hv⟩:=yp hr
 unfold dC eP
 simp only[f1,f2,v1,v2,ae,iN]
 rcases hk with rfl | ⟨i,hi,rfl⟩
 ·refine ⟨((0,[],[]),false),?_,?_,xg⟩
  ·cases b <;> rfl
  ·rfl
 ·have hk:decide ((i:Int)<0)=false:=by simp
  cases b with
  | false=>exact ⟨((0,[],[]),false),by simp[hk],by simp[hk],xg⟩
  | true =>
   obtain ⟨hs,hq⟩:=hv rfl
   obtain ⟨q1,q2⟩:=hq _ (List.getElem_mem hi)
   have e1:aQ r.1 r.2[i].2.2=some (nth r.1 r.2[i].2.2):=az q1 q2
   have hm:Data.sm (nth r.1 r.2[i].2.2):=(bf hs.1).2 _ (bI q1 q2)
   simp only[if_true,hk,Bool.false_eq_true,if_false,aM hi,ae,e1,iN,Pf _ hm,Wd _ hm]
   exact ⟨_,rfl,rfl,hm⟩
end D
namespace D
open Go.RowKit
abbrev GrT:=(List Int)×(List Yq1)
theorem LR {R:Type} {f:Int->Option (Out R Int)} (N:Nat) (p:Nat->Prop) [DecidablePred p] (r:R) (hN:N<=9223372036854775807)
  (h: ∀i:Nat,i<N->f (i:Int)=some (if p i then .nxt ((i+1:Nat):Int) else .ret r)) (he:f (N:Int)=some (.brk (N:Int))) :
  (aA f aT 0=some (.brk (N:Int))/\ ∀i,i<N->p i)\/(aA f aT 0=some (.ret r)/\ ¬ ∀i,i<N->p i):=by
 obtain ⟨o,e,hq⟩:=cz (f:=f) (fun i s=>s=(i:Int)/\ ∀j:Nat,j<i->p j) (fun o=>(o= .brk (N:Int)/\ ∀i,i<N->p i)\/(o= .ret r/\ ¬ ∀i,i<N->p i)) N (s:=0) (by
  rintro i s hi ⟨rfl,hp⟩
  by_cases hl:i<N
  ·by_cases c:p i
   ·refine .inl ⟨hl,_,by rw[h i hl,if_pos c],rfl,fun j hj=>?_⟩
    by_cases e:j=i
    ·subst e;exact c
    ·exact hp j (by omega)
   ·exact .inr ⟨_,by rw[h i hl,if_neg c],(fun s' e=>by cases e),.inr ⟨rfl,fun hx=>c (hx i hl)⟩⟩
  ·obtain rfl:i=N:=by omega
   exact .inr ⟨_,he,(fun s' e=>by cases e),.inl ⟨rfl,hp⟩⟩) ⟨rfl,by omega⟩ (lu hN)
 rcases hq with ⟨rfl,hq⟩ | ⟨rfl,hq⟩
 ·exact .inl ⟨e,hq⟩
 ·exact .inr ⟨e,hq⟩
structure GOk (g:GrT):Prop where
 n1:1<=g.1.length
 n5:g.1.length<=5
 m:g.2.length<=12
 val: ∀v∈g.1,0<=v/\v<=2
 edge: ∀e∈g.2,(0<=e.2.1/\e.2.1<g.1.length)/\(0<=e.2.2.1/\e.2.2.1<g.1.length)/\0<=e.2.2.2/\e.2.2.2<=2
 asc: ∀i:Nat,i+1<g.2.length->(nth g.2 i).1<(nth g.2 ((i+1:Nat):Int)).1
def edgeP (e:Int×Int×Int×Int) (n:Int):Prop:=(1<=e.1/\e.1<=99)/\(0<=e.2.1/\e.2.1<=n - 1)/\(0<=e.2.2.1/\e.2.2.1<=n - 1)/\0<=e.2.2.2/\e.2.2.2<=2
instance (e n):Decidable (edgeP e n):=by unfold edgeP;infer_instance
theorem TM (e:Int×Int×Int×Int) {n:Nat} (hn:n<=1048576):mA e (n:Int)=some (decide (edgeP e n)):=by
 unfold mA edgeP
 simp only[Ey,ae,nt (show n<=9223372036854775807 by omega)]
 by_cases c1:1<=e.1/\e.1<=99 <;> by_cases c2:0<=e.2.1/\e.2.1<=(n:Int) - 1 <;> by_cases c3:0<=e.2.2.1/\e.2.2.1<=(n:Int) - 1 <;> simp[c1,c2,c3]
def Yr (g:GrT):Prop:=GOk g/\ ∀e∈g.2,1<=e.1/\e.1<=99
theorem xj (g:GrT) (h1:g.1.length<=1048576) (h2:g.2.length<=1048576): ∃b,aS g=some b/\(b=true↔Yr g):=by
 unfold aS
 have k0:=LR (f:=fx g) g.1.length (fun i=>0<=nth g.1 i/\nth g.1 i<=2) false (by omega) (fun i hi=>by
  unfold fx
  rw[if_pos (by simp;omega),az (by omega) (by omega)];simp only[ae,Ey,decide_eq_true_eq]
  split
  ·rw[ah (by omega)]
  ·rfl) (by unfold fx;rw[if_neg (by simp)])
 have k1:=LR (f:=dS g) g.2.length (fun i=>edgeP (nth g.2 i) g.1.length/\(0<i->(nth g.2 ((i:Int) - 1)).1<(nth g.2 i).1)) false (by omega) (fun i hi=>by
  unfold dS
  rw[if_pos (by simp;omega),az (by omega) (by omega)];simp only[ae]
  have e1:=TM (nth g.2 (i:Int)) h1
  have e1:mA ((nth g.2 (i:Int)).1,(nth g.2 (i:Int)).2.1,(nth g.2 (i:Int)).2.2.1,(nth g.2 (i:Int)).2.2.2) (g.1.length:Int)=_:=e1
  rw[e1];simp only[ae,decide_eq_true_eq]
  by_cases c1:edgeP (nth g.2 (i:Int)) g.1.length
  ·rw[if_pos c1]
   by_cases c2:0<i
   ·rw[if_pos (by omega),nt (by omega),az (by omega) (by omega)];simp only[ae]
    by_cases c3:(nth g.2 ((i:Int) - 1)).1<(nth g.2 (i:Int)).1
    ·rw[if_neg (by omega),if_pos ⟨c1,fun _=>c3⟩,ah (by omega)]
    ·rw[if_pos (by omega),if_neg (fun h=>c3 (h.2 c2))]
   ·rw[if_neg (by omega),if_pos ⟨c1,fun h=>absurd h c2⟩,ah (by omega)]
  ·rw[if_neg c1,if_neg (fun h=>c1 h.1)]) (by unfold dS;rw[if_neg (by simp)])
 rcases k0 with ⟨k0,j0⟩ | ⟨k0,j0⟩
 ·rw[ai k0]
  rcases k1 with ⟨k1,j1⟩ | ⟨k1,j1⟩
  ·rw[ai k1,Ey];simp only[ae,decide_eq_true_eq]
   split
   ·rename_i c
    refine ⟨_,rfl,fun hb=>?_,fun G=>decide_eq_true (by have:=G.1.m;omega)⟩
    have hb:=of_decide_eq_true hb
    refine ⟨⟨by omega,by omega,by omega,fun v hv=>?_,fun e he=>?_,fun i hi=>?_⟩,fun e he=>?_⟩
    rotate_left 3
    ·obtain ⟨i,hi,rfl⟩:=Bx he
     exact (j1 i hi).1.1
    ·obtain ⟨i,hi,rfl⟩:=Bx hv
     exact j0 i hi
    ·obtain ⟨i,hi,rfl⟩:=Bx he
     obtain ⟨a1,a2,a3,a4⟩:=(j1 i hi).1
     exact ⟨⟨a2.1,by omega⟩,⟨a3.1,by omega⟩,a4⟩
    ·have:=(j1 (i+1) hi).2 (by omega)
     rwa [show (((i+1:Nat):Int) - 1)=(i:Int) from by omega] at this
   ·rename_i c
    exact ⟨false,rfl,(fun h=>by cases h),fun G=>absurd (by have:=G.1.n1;have:=G.1.n5;omega) c⟩
  ·rw[bs k1]
   refine ⟨false,rfl,(fun h=>by cases h),fun G=>absurd (fun i hi=>?_) j1⟩
   have hm:=bI (xs:=g.2) (i:=(i:Int)) (by omega) (by omega)
   obtain ⟨e1,e2,e3,e4⟩:=G.1.edge _ hm
   refine ⟨⟨G.2 _ hm,⟨e1.1,by omega⟩,⟨e2.1,by omega⟩,e3,e4⟩,fun h0=>?_⟩
   have:=G.1.asc (i - 1) (by omega)
   rwa [show ((i - 1:Nat):Int)=(i:Int) - 1 from by omega,show (((i - 1)+1:Nat):Int)=(i:Int) from by omega] at this
 ·rw[bs k0]
  exact ⟨false,rfl,(fun h=>by cases h),fun G=>absurd (fun i hi=>G.1.val _ (bI (by omega) (by omega))) j0⟩
theorem EJ (g:GrT) (h1:g.1.length<=1048576) (h2:g.2.length<=1048576): ∃b,aS g=some b/\(b=true->GOk g):=by
 obtain ⟨b,h1,h2⟩:=xj g h1 h2
 exact ⟨b,h1,fun h=>(h2.1 h).1⟩
theorem GOk.lt {g:GrT} (G:GOk g) {i j:Nat} (h:i<j) (hj:j<g.2.length):(nth g.2 (i:Int)).1<(nth g.2 (j:Int)).1:=by
 induction h with
 | refl=>exact G.asc i hj
 | step h ih =>
  rename_i m
  have h1:=ih (by omega)
  have h2:=G.asc m hj
  exact Int.lt_trans h1 h2
end D
namespace D
open Go.RowKit
theorem xk (m:Nat):BitVec.ofInt 64 (m:Int)=BitVec.ofNat 64 m:=by simp
theorem Pg {m n:Nat} (hm:m<2 ^ 62) (hn:n<2 ^ 62):qe (m:Int) (n:Int)=((m &&& n:Nat):Int):=by
 unfold qe
 rw[xk,xk,BitVec.toNat_and,BitVec.toNat_ofNat,BitVec.toNat_ofNat,Nat.mod_eq_of_lt (by omega),Nat.mod_eq_of_lt (by omega)]
 have:m &&& n<=m:=Nat.and_le_left
 exact bH (by omega) (by omega)
theorem Kf {m n:Nat} (hm:m<2 ^ 62) (hn:n<2 ^ 62):orI (m:Int) (n:Int)=((m ||| n:Nat):Int):=by
 unfold orI
 rw[xk,xk,BitVec.toNat_or,BitVec.toNat_ofNat,BitVec.toNat_ofNat,Nat.mod_eq_of_lt (by omega),Nat.mod_eq_of_lt (by omega)]
 have:m ||| n<2 ^ 62:=Nat.or_lt_two_pow hm hn
 exact bH (by omega) (by omega)
theorem EK {m i:Nat} (hi:i<64):nO (m:Int) (i:Int)=((m >>> i:Nat):Int):=by
 unfold nO
 rw[show min (i:Int).toNat 64=i from by simp;omega,Nat.shiftRight_eq_div_pow,Int.fdiv_eq_ediv_of_nonneg _ (by exact_mod_cast Nat.zero_le _)]
 simp
theorem yq {i:Nat} (hi:i<62):vM 1 (i:Int)=((2 ^ i:Nat):Int):=by
 unfold vM
 rw[show min (i:Int).toNat 64=i from by simp;omega,Int.one_mul]
 have:2 ^ i<2 ^ 62:=Nat.pow_lt_pow_right (by decide) hi
 rw[show ((2:Int) ^ i)=((2 ^ i:Nat):Int) from by simp]
 generalize 2 ^ i=z at this
 exact bH (by omega) (by omega)
theorem BO {m i:Nat} (hm:m<2 ^ 62) (hi:i<64):((qe (nO (m:Int) (i:Int)) 1)==1)=m.testBit i:=by
 have h1:m >>> i<2 ^ 62:=Nat.lt_of_le_of_lt (by rw[Nat.shiftRight_eq_div_pow];exact Nat.div_le_self _ _) hm
 rw[EK hi,show (1:Int)=((1:Nat):Int) from rfl,Pg h1 (by decide),Nat.testBit,Nat.and_comm]
 have e:m >>> i &&& 1=m >>> i % 2:=Nat.and_one_is_mod _
 rw[Nat.and_comm 1,e]
 rcases Nat.mod_two_eq_zero_or_one (m >>> i) with h | h <;> rw[h] <;> rfl
theorem Se {m i:Nat} (hm:m<2 ^ 62) (hi:i<64):((qe (nO (m:Int) (i:Int)) 1)==0)= !m.testBit i:=by
 have h1:m >>> i<2 ^ 62:=Nat.lt_of_le_of_lt (by rw[Nat.shiftRight_eq_div_pow];exact Nat.div_le_self _ _) hm
 rw[EK hi,show (1:Int)=((1:Nat):Int) from rfl,Pg h1 (by decide),Nat.testBit,Nat.and_comm]
 have e:m >>> i &&& 1=m >>> i % 2:=Nat.and_one_is_mod _
 rw[Nat.and_comm 1,e]
 rcases Nat.mod_two_eq_zero_or_one (m >>> i) with h | h <;> rw[h] <;> rfl
def gf (m k:Nat):List Int:=((List.range k).filter fun i=>m.testBit i).map fun (i:Nat)=>(i:Int)
theorem lj (m k:Nat):gf m (k+1)=if m.testBit k then gf m k++ [(k:Int)] else gf m k:=by
 unfold gf
 rw[List.range_succ,List.filter_append,aN]
 by_cases h:m.testBit k=true
 ·simp[h]
 ·simp[h]
theorem tV {m k l:Nat} (h:m<2 ^ k) (hl:k<=l):gf m l=gf m k:=by
 induction hl with
 | refl=>rfl
 | step hl ih =>
  rw[lj,Nat.testBit_lt_two_pow (aJ h (Nat.pow_le_pow_right (by decide) hl)),ih];rfl
theorem tf {m k:Nat} {x:Int} :x∈gf m k↔ ∃i:Nat,i<k/\m.testBit i=true/\x=(i:Int):=by
 unfold gf
 simp only[List.mem_map,List.mem_filter,List.mem_range]
 constructor
 ·rintro ⟨i,⟨h1,h2⟩,rfl⟩;exact ⟨i,h1,h2,rfl⟩
 ·rintro ⟨i,h1,h2,rfl⟩;exact ⟨i,⟨h1,h2⟩,rfl⟩
theorem nw (m k:Nat):(gf m k).length<=k:=by
 unfold gf;rw[List.length_map];exact Nat.le_trans (List.length_filter_le _ _) (by simp)
theorem Ds {m:Nat} : ∀ {k:Nat},(∀i,i<k->m.testBit i=false)->gf m k= []
 | 0,_=>rfl
 | k+1,h=>by rw[lj,h k (by omega),Ds fun i hi=>h i (by omega)];rfl
theorem GT {s k:Nat} (h:s<k):gf (2 ^ s) k= [(s:Int)]:=by
 rw[tV (k:=s+1) (Nat.pow_lt_pow_right (by decide) (by omega)) h,lj,Nat.testBit_two_pow,Ds fun i hi=>by rw[Nat.testBit_two_pow];simp;omega]
 simp
theorem uN (m i j:Nat):(m ||| 2 ^ i).testBit j=(m.testBit j || decide (i=j)):=by
 rw[Nat.testBit_or,Nat.testBit_two_pow]
theorem xl {m i k:Nat} (h:m<2 ^ k) (hi:i<k):m ||| 2 ^ i<2 ^ k:=Nat.or_lt_two_pow h (Nat.pow_lt_pow_right (by decide) hi)
theorem Sf {m i:Nat} (h:m >>> i=0):m<2 ^ i:=by
 rw[Nat.shiftRight_eq_div_pow] at h
 exact (Nat.div_eq_zero_iff_lt (Nat.two_pow_pos i)).1 h
end D
namespace D
open Go.RowKit
theorem p62 {n:Nat} (h:n<=30):2 ^ n<=2 ^ 62:=Nat.pow_le_pow_right (by decide) (by omega)
theorem tg {M:Nat} (hM:M<2 ^ 30):jz (M:Int)=some (gf M 30):=by
 have h62:M<2 ^ 62:=aJ hM (p62 (by decide))
 obtain ⟨o,e,hq⟩:=cz (f:=pZ (M:Int)) (fun i s=>s=(gf M i,(i:Int))) (fun o=> ∃k,o= .brk (gf M 30,k)) 30 (s:=([],0)) (by
  rintro i s hi rfl
  unfold pZ
  have e0:chk ((0:Int)<=(i:Int))=some ():=by unfold chk;rw[if_pos (by omega)]
  simp only[e0,ae]
  by_cases c:M >>> i=0
  ·refine .inr ⟨.brk (gf M i,(i:Int)),?_,(fun s' e=>by cases e),(i:Int),by rw[tV (Sf c) hi]⟩
   rw[EK (by omega),c];rfl
  ·have hi':i<30:=by
    rcases Nat.lt_or_ge i 30 with h | h
    ·exact h
    ·exfalso;apply c
     rw[Nat.shiftRight_eq_div_pow]
     exact Nat.div_eq_of_lt (aJ hM (Nat.pow_le_pow_right (by decide) h))
   refine .inl ⟨hi',(gf M (i+1),((i+1:Nat):Int)),?_,rfl⟩
   have c':((nO (M:Int) (i:Int)) !=0)=true:=by
    rw[EK (by omega)]
    simp only[bne_iff_ne,ne_eq]
    omega
   rw[if_pos c',BO h62 (by omega),lj,ah (by omega)]
   by_cases b:M.testBit i=true
   ·rw[if_pos b,if_pos b,aH (by have:=nw M i;simp;omega)];rfl
   ·rw[if_neg b,if_neg b];rfl) rfl (by unfold aT;omega)
 obtain ⟨k,rfl⟩:=hq
 unfold jz
 exact ai e
def ClI (n:Nat) (i:Nat) (st:Int×Int):Prop:=(-1<=st.2/\st.2<n)/\ ∃(M:Nat) (L:List Int),st.1=(M:Int)/\M<2 ^ n/\L.length=i/\L.Nodup/\(∀x∈L,0<=x/\x<n)/\ ∀j:Nat,M.testBit j=true↔(j:Int)∈L
theorem Ys {n:Nat} {L:List Int} (h:L.Nodup) (k: ∀x∈L,0<=x/\x<n):L.length<=n:=by
 have:=h.length_le_of_subset (l₂:=(List.range n).map fun i:Nat=>(i:Int)) (fun x hx=>by
  obtain ⟨h0,h1⟩:=k x hx
  exact List.mem_map.2 ⟨x.toNat,List.mem_range.2 (by omega),by omega⟩)
 simpa using this
section
variable {a:AutT} {n:Nat} (V:VA a n) (hn:n<=12)
include V hn
theorem We {v:Int} (hv:0<=v/\v<=2) {i:Nat} {st:Int×Int} (h:ClI n i st) :
  (i<n/\ ∃st',eu a v st=some (.nxt st')/\ClI n (i+1) st')\/eu a v st=some (.brk st):=by
 obtain ⟨⟨h1,h2⟩,M,L,e1,hM,hl,hd,hr,hb⟩:=h
 obtain ⟨m,s⟩:=st
 obtain rfl:m=(M:Int):=e1
 have h62:M<2 ^ 62:=aJ hM (p62 (by omega))
 unfold eu
 by_cases c:s≥0
 ·obtain ⟨k,rfl⟩: ∃k:Nat,s=(k:Int):=⟨s.toNat,by omega⟩
  have hk:k<n:=by simp only at h2;omega
  have e0:chk ((0:Int)<=(k:Int))=some ():=by unfold chk;rw[if_pos (by omega)]
  simp only[e0,ae]
  rw[if_pos (by simp),Se h62 (by omega)]
  by_cases b:M.testBit k=true
  ·right;rw[if_neg (by simp[b])]
  ·left
   have b':(k:Int)∉L:=fun hh=>b ((hb k).2 hh)
   have hle:=Ys (n:=n) (L:=(k:Int)::L) (List.nodup_cons.2 ⟨b',hd⟩) (fun x hx=>by
    rcases aD hx with rfl | hx
    ·omega
    ·exact hr x hx)
   simp only[au] at hle
   obtain ⟨u,rfl⟩: ∃u:Nat,v=(u:Int):=⟨v.toNat,by omega⟩
   have hu:u<=2:=by omega
   have ew:i64.wrap (6+(u:Int))=((6+u:Nat):Int):=by rw[bH (by omega) (by omega)];omega
   refine ⟨by omega,(((M ||| 2 ^ k:Nat):Int),mv a (k:Int) (6+u)),?_,?_,M ||| 2 ^ k,(k:Int)::L,rfl,xl hM hk,by simp[hl],List.nodup_cons.2 ⟨b',hd⟩,?_,?_⟩
   ·rw[if_pos (by simp[b]),ew]
    have e2:=GL V (s:=(k:Int)) (k:=6+u) (by omega) (by omega) (by omega)
    have e2:bP (a.1,a.2.1,a.2.2) (k:Int) ((6+u:Nat):Int)=_:=e2
    rw[e2,yq (by omega),Kf h62 (Nat.pow_lt_pow_right (by decide) (by omega))];rfl
   ·exact V.mv (by omega) (by omega) (by omega)
   ·intro x hx
    rcases aD hx with rfl | hx
    ·omega
    ·exact hr x hx
   ·intro j
    rw[uN,Bool.or_eq_true,hb j,List.mem_cons,decide_eq_true_eq]
    constructor
    ·rintro (h | h)
     ·exact .inr h
     ·left;omega
    ·rintro (h | h)
     ·right;omega
     ·exact .inl h
 ·right
  rw[if_neg (by simpa using c)]
theorem GU {s v:Int} (hs:0<=s/\s<n) (hv:0<=v/\v<=2): ∃C:Nat,gp a s v=some (C:Int)/\C<2 ^ n:=by
 have h0:ClI n 0 (0,s):=⟨⟨by simp only;omega,hs.2⟩,0,[],rfl,Nat.two_pow_pos n,rfl,List.nodup_nil,by simp,by simp⟩
 obtain ⟨o,e,C,s',rfl,hC⟩:=cz (f:=eu a v) (ClI n) (fun o=> ∃(C:Nat) (s':Int),o= .brk ((C:Int),s')/\C<2 ^ n) n (s:=(0,s)) (fun i st hi h=>by
  rcases We V hn hv h with h' | h'
  ·exact .inl h'
  ·obtain ⟨_,M,L,e1,hM,_⟩:=h
   obtain ⟨m,s'⟩:=st
   obtain rfl:m=(M:Int):=e1
   exact .inr ⟨_,h',(fun s' e=>by cases e),M,s',rfl,hM⟩) h0 (by unfold aT;omega)
 exact ⟨C,by unfold gp;exact ai e,hC⟩
end
def cS (a:AutT) (s v:Int):Nat:=((gp a s v).getD 0).toNat
section
variable {a:AutT} {n:Nat} (V:VA a n) (hn:n<=12)
include V hn
theorem qR {s v:Int} (hs:0<=s/\s<n) (hv:0<=v/\v<=2):gp a s v=some (cS a s v:Int)/\cS a s v<2 ^ n:=by
 obtain ⟨C,e,h⟩:=GU V hn hs hv
 unfold cS
 rw[e]
 exact ⟨rfl,by simpa using h⟩
end
def afS (a:AutT) (k:Nat) (C:Nat):Nat->Nat
 | 0=>0
 | q+1=>if C.testBit q=true/\0<=mv a (q:Int) k then afS a k C q ||| 2 ^ (mv a (q:Int) k).toNat else afS a k C q
def afL (a:AutT) (k:Nat) (l:List Int):Nat:=l.foldl (fun m t=>if 0<=mv a t k then m ||| 2 ^ (mv a t k).toNat else m) 0
theorem IF (a:AutT) (k C:Nat): ∀q,afL a k (gf C q)=afS a k C q
 | 0=>rfl
 | q+1=>by
  rw[lj,afS]
  by_cases b:C.testBit q=true
  ·rw[if_pos b]
   unfold afL
   rw[List.foldl_append]
   have:=IF a k C q
   unfold afL at this
   rw[this]
   simp[b]
  ·rw[if_neg b,if_neg (fun h=>b h.1)]
   exact IF a k C q
section
variable {a:AutT} {n:Nat} (V:VA a n) (hn:n<=12)
include V
theorem Ph {k C:Nat} (hk:k<9): ∀q,q<=n->afS a k C q<2 ^ n
 | 0,_=>Nat.two_pow_pos n
 | q+1,hq=>by
  rw[afS]
  have:=Ph (C:=C) hk q (by omega)
  split
  ·rename_i c
   have:=(V.mv (s:=(q:Int)) (by omega) (by omega) hk).2
   exact xl (by assumption) (by omega)
  ·exact this
theorem TN {k:Nat} (hk:k<9) {l:List Int} (h: ∀x∈l,0<=x/\x<n):afL a k l<2 ^ n:=by
 unfold afL
 have key: ∀(l:List Int) (m:Nat),(∀x∈l,0<=x/\x<n)->m<2 ^ n->l.foldl (fun m t=>if 0<=mv a t k then m ||| 2 ^ (mv a t k).toNat else m) m<2 ^ n:=by
  intro l
  induction l with
  | nil=>intro m _ h;exact h
  | cons x l ih =>
   intro m hx hm
   rw[List.foldl_cons]
   refine ih _ (fun y hy=>hx y (by simp[hy])) ?_
   split
   ·have:=(V.mv (hx x (by simp)).1 (hx x (by simp)).2 hk).2
    exact xl hm (by omega)
   ·exact hm
 exact key l 0 h (Nat.two_pow_pos n)
include hn
theorem xm {C:Nat} (hC:C<2 ^ n): ∀x∈gf C 30,0<=x/\x<(n:Int):=by
 intro x hx
 obtain ⟨i,hi,hb,rfl⟩:=tf.1 hx
 refine ⟨by omega,?_⟩
 rcases Nat.lt_or_ge i n with h | h
 ·omega
 ·rw[Nat.testBit_lt_two_pow (aJ hC (Nat.pow_le_pow_right (by decide) h))] at hb;cases hb
theorem LS {k:Nat} (hk:k<6) {l:List Int} (hl: ∀x∈l,0<=x/\x<n) (hlen:l.length<=30):aA (nk a (k:Int) l) aT (0,0)=some (.brk ((afL a k l:Int),(l.length:Int))):=by
 have:=aU (f:=nk a (k:Int) l) (fun i=>((afL a k (l.take i):Int),(i:Int))) l.length (fun i hi=>by
  unfold nk
  simp only
  have hx:=hl _ (bI (xs:=l) (i:=(i:Int)) (by omega) (by omega))
  rw[if_pos (by simp;omega),az (by omega) (by omega)];simp only[ae]
  have e2:=GL V (s:=nth l (i:Int)) (k:=k) hx.1 hx.2 (by omega)
  have e2:bP (a.1,a.2.1,a.2.2) (nth l (i:Int)) (k:Int)=_:=e2
  rw[e2,ah (by omega)];simp only[ae]
  have et:l.take (i+1)=l.take i++ [nth l (i:Int)]:=by rw[List.take_add_one,cw hi];simp[hi]
  have ef:afL a k (l.take (i+1))=if 0<=mv a (nth l (i:Int)) k then afL a k (l.take i) ||| 2 ^ (mv a (nth l (i:Int)) k).toNat else afL a k (l.take i):=by
   rw[et];unfold afL;rw[List.foldl_append];rfl
  have hlt:=TN V (k:=k) (by omega) (l:=l.take i) (fun x hx=>hl x (List.mem_of_mem_take hx))
  have hmv:=(V.mv (s:=nth l (i:Int)) (k:=k) hx.1 hx.2 (by omega)).2
  rw[ef]
  by_cases c:0<=mv a (nth l (i:Int)) k
  ·rw[if_pos (by simpa using c),if_pos c]
   obtain ⟨t,ht⟩: ∃t:Nat,mv a (nth l (i:Int)) k=(t:Int):=⟨_,(Int.toNat_of_nonneg c).symm⟩
   have e0:chk ((0:Int)<=mv a (nth l (i:Int)) k)=some ():=by unfold chk;rw[if_pos c]
   rw[e0,ht,yq (by omega),Kf (aJ hlt (p62 (by omega))) (Nat.pow_lt_pow_right (by decide) (by omega))];rfl
  ·rw[if_neg (by simpa using c),if_neg c];rfl) (by unfold nk;simp) (lu (by omega))
 simpa [afL] using this
theorem Yt {s v:Int} {k:Nat} (hs:0<=s/\s<n) (hv:0<=v/\v<=2) (hk:k<6):sy a (vM 1 s) v (k:Int)=some (afL a k (gf (cS a s v) 30):Int):=by
 obtain ⟨t,rfl⟩: ∃t:Nat,s=(t:Int):=⟨s.toNat,by omega⟩
 obtain ⟨e1,h1⟩:=qR V hn hs hv
 have hC:cS a (t:Int) v<2 ^ 30:=aJ h1 (Nat.pow_le_pow_right (by decide) (by omega))
 unfold sy
 rw[yq (by omega),tg (Nat.pow_lt_pow_right (by decide) (by omega)),GT (by omega)];simp only[ae]
 have h0:jA a v (k:Int) [(t:Int)] (0,0)=some (.nxt ((afL a k (gf (cS a (t:Int) v) 30):Int),1)):=by
  unfold jA
  simp only
  rw[if_pos (by simp),show aQ [(t:Int)] 0=some (t:Int) from rfl];simp only[ae]
  have e1:gp (a.1,a.2.1,a.2.2) (t:Int) v=_:=e1
  rw[e1];simp only[ae]
  rw[tg hC];simp only[ae]
  rw[LS V hn hk (xm V hn h1) (nw _ _)]
  rfl
 have h1': ∀m:Int,jA a v (k:Int) [(t:Int)] (m,1)=some (.brk (m,1)):=fun m=>by
  unfold jA;rw[if_neg (by simp)]
 have:=aU (f:=jA a v (k:Int) [(t:Int)]) (fun i=>if i=0 then (0,0) else ((afL a k (gf (cS a (t:Int) v) 30):Int),1)) 1 (fun i hi=>by
  obtain rfl:i=0:=by omega
  exact h0) (h1' _) (by unfold aT;omega)
 have this:aA (jA a v (k:Int) [(t:Int)]) aT (0,0)=some (.brk ((afL a k (gf (cS a (t:Int) v) 30):Int),1)):=this
 rw[this];rfl
end
end D
namespace D
open Go.RowKit
theorem ln {p:Prop} [Decidable p] (h:p):chk p=some ():=by unfold chk;rw[if_pos h]
def rm {α:Type} (N:Nat) (F:Nat->α):List α:=(List.range N).map F
section
variable {α:Type} {N:Nat} {F G:Nat->α}
theorem BP:(rm N F).length=N:=by simp[rm]
theorem od (h: ∀z,z<N->F z=G z):rm N F=rm N G:=by
 unfold rm
 exact List.map_congr_left fun z hz=>h z (List.mem_range.1 hz)
theorem BQ {c:Nat} (h:c<N):aQ (rm N F) (c:Int)=some (F c):=by
 rw[aM (by rw[BP];exact h)]
 simp[rm]
theorem Pi {c:Nat} {v:α} :(rm N F).set c v=rm N fun z=>if z=c then v else F z:=by
 refine List.ext_getElem (by simp[rm]) fun i h1 h2=>?_
 simp only[rm,List.getElem_set,List.getElem_map,List.getElem_range]
 by_cases e:c=i
 ·subst e;simp
 ·rw[if_neg e,if_neg (fun h=>e h.symm)]
theorem vI {xs:List α} [Inhabited α] {k:Nat} (h:k<xs.length):xs.take (k+1)=xs.take k++ [nth xs (k:Int)]:=by
 rw[List.take_add_one,cw h];simp[h]
end
theorem TO {α:Type} {b n:Nat} {z:α} (h:n*b<=140737488355328):mkI b (n:Int) z=some (rm n fun _=>z):=by
 have:rm n (fun _=>z)=List.replicate n z:=by
  unfold rm;exact List.ext_getElem (by simp) fun i h1 h2=>by simp
 rw[this,X4 h]
abbrev EdT:=Int×Int×Int×Int
abbrev ArT:=(Int×Bool)×Int×Int
def fwd (e:EdT):ArT:=((e.1,false),2*e.2.2.2,e.2.2.1)
def inv (e:EdT):ArT:=((e.1,true),2*e.2.2.2+1,e.2.1)
def TP (e:EdT) (x:Int):List ArT:=(if e.2.1=x then [fwd e] else [])++(if e.2.2.1=x then [inv e] else [])
def mc (es:List EdT) (x:Nat):List ArT:=es.flatMap fun e=>TP e x
theorem Si (e:EdT) (x:Int):(TP e x).length<=2:=by
 unfold TP;rw[aj];split <;> split <;> simp
theorem th {α β:Type} {f:α->List β} {B:Nat} : ∀ {xs:List α},(∀x∈xs,(f x).length<=B)->(xs.flatMap f).length<=B*xs.length
 | [],_=>by simp
 | x::xs,h=>by
  rw[List.flatMap_cons,aj,au,Nat.mul_add]
  have:=h x (by simp)
  have:=th (xs:=xs) fun y hy=>h y (by simp[hy])
  omega
theorem tW (es:List EdT) (x:Nat):(mc es x).length<=2*es.length:=th fun e _=>Si e x
theorem Pj (e:EdT) (h:0<=e.2.2.2/\e.2.2.2<=2) (b:Bool):sx e b=some (if b then 2*e.2.2.2+1 else 2*e.2.2.2):=by
 unfold sx
 rw[bH (n:=2*e.2.2.2) (by omega) (by omega),bH (by omega) (by omega)]
 cases b <;> rfl
theorem Yu {g:GrT} (G:GOk g):wA g=some (rm g.1.length (mc g.2)):=by
 unfold wA
 rw[TO (by have:=G.n5;omega)];simp only[ae]
 have:=aU (f:=oU g) (fun i=>((i:Int),rm g.1.length (mc (g.2.take i)))) g.2.length (fun i hi=>by
  unfold oU
  simp only
  have hm:=G.m
  obtain ⟨⟨a1,a2⟩,⟨b1,b2⟩,c1⟩:=G.edge _ (bI (xs:=g.2) (i:=(i:Int)) (by omega) (by omega))
  rw[if_pos (by simp;omega),az (by omega) (by omega)];simp only[ae]
  generalize he:nth g.2 (i:Int)=e at a1 a2 b1 b2 c1
  obtain ⟨id,fr,to,lb⟩:=e
  obtain ⟨p,rfl⟩: ∃p:Nat,fr=(p:Int):=⟨fr.toNat,by simp only at a1;omega⟩
  obtain ⟨q,rfl⟩: ∃q:Nat,to=(q:Int):=⟨to.toNat,by simp only at b1;omega⟩
  simp only at a1 a2 b1 b2 c1
  have hp:p<g.1.length:=by omega
  have hq:q<g.1.length:=by omega
  have r1:=Pj (id,(p:Int),(q:Int),lb) c1 false
  have r2:=Pj (id,(p:Int),(q:Int),lb) c1 true
  have l1:=tW (g.2.take i) p
  have l2:=tW (g.2.take i) q
  have l3:(g.2.take i).length<=12:=by rw[aB];omega
  simp only[BQ hp,BQ hq,ae,r1,r2,Int.toNat_natCast,Pi,Bool.false_eq_true,if_false,if_true]
  rw[aH (by simp;omega)];simp only[ae,Pi]
  rw[ln (by rw[BP];omega),ln trivial];simp only[ae]
  rw[aH (by split <;> simp <;> omega)];simp only[ae]
  rw[ln (by rw[BP];omega)];simp only[ae]
  try rw[ln rfl];simp only[ae]
  rw[ah (by omega)]
  congr 3
  refine od fun z hz=>?_
  rw[vI hi,he]
  unfold mc
  rw[List.flatMap_append]
  simp only[List.flatMap_cons,List.flatMap_nil,List.append_nil,TP]
  by_cases e1:z=q
  ·subst e1
   by_cases e2:z=p
   ·subst e2;simp[fwd,inv]
   ·simp[e2,fwd,inv,show¬((p:Int)=(z:Int)) from by omega]
  ·by_cases e2:z=p
   ·subst e2;simp[e1,fwd,inv,show¬((q:Int)=(z:Int)) from by omega]
   ·simp[e1,e2,show¬((p:Int)=(z:Int)) from by omega,show¬((q:Int)=(z:Int)) from by omega]) (by unfold oU;simp) (lu (by have:=G.m;omega))
 have this:aA (oU g) aT (0,rm g.1.length fun _=>[])=_:=this
 rw[this,List.take_length];rfl
end D
namespace D
open Go.RowKit
def behind (a:AutT) (s v k:Int):List Int:=gf (afL a k.toNat (gf (cS a s v) 30)) 30
def nbA (g:GrT) (a:AutT) (x s:Nat) (y:ArT):List Int:=(behind a s (nth g.1 x) y.2.1).map fun t=>y.2.2*(a.2.1.length:Int)+t
def nbV (g:GrT) (a:AutT) (x s:Nat):List Int:=(mc g.2 x).flatMap (nbA g a x s)
def nbC (g:GrT) (a:AutT) (c:Nat):List Int:=nbV g a (c / a.2.1.length) (c % a.2.1.length)
theorem BR {g:GrT} (G:GOk g) {x:Nat} {y:ArT} (h:y∈mc g.2 x):(0<=y.2.1/\y.2.1<6)/\0<=y.2.2/\y.2.2<g.1.length:=by
 obtain ⟨e,he,hy⟩:=List.mem_flatMap.1 h
 obtain ⟨h1,h2,h3⟩:=G.edge e he
 unfold TP at hy
 rcases aI hy with hy | hy <;> split at hy
 ·obtain rfl:y=fwd e:=by simpa using hy
  exact ⟨⟨by simp[fwd];omega,by simp[fwd];omega⟩,h2⟩
 ·cases hy
 ·obtain rfl:y=inv e:=by simpa using hy
  exact ⟨⟨by simp[inv];omega,by simp[inv];omega⟩,h1⟩
 ·cases hy
section
variable {g:GrT} {a:AutT} (G:GOk g) (V:VA a a.2.1.length) (hn:a.2.1.length<=12)
include G V hn
theorem xn {s v:Int} {k:Int} (hs:0<=s/\s<a.2.1.length) (hv:0<=v/\v<=2) (hk:0<=k/\k<6):(∀t∈behind a s v k,0<=t/\t<(a.2.1.length:Int))/\(behind a s v k).length<=30/\afL a k.toNat (gf (cS a s v) 30)<2 ^ 30:=by
 have h1:=(qR V hn hs hv).2
 have h2:=TN V (k:=k.toNat) (by omega) (xm V hn h1)
 exact ⟨xm V hn h2,nw _ _,aJ h2 (Nat.pow_le_pow_right (by decide) (by omega))⟩
theorem TQ {x s:Nat} {y:ArT} (hx:x<g.1.length) (hs:s<a.2.1.length) (hy:y∈mc g.2 x): ∀z∈nbA g a x s y,0<=z/\z<((a.2.1.length*g.1.length:Nat):Int):=by
 intro z hz
 obtain ⟨t,ht,rfl⟩:=List.mem_map.1 hz
 obtain ⟨k1,k2,k3⟩:=BR G hy
 have hv:=G.val _ (bI (xs:=g.1) (i:=(x:Int)) (by omega) (by omega))
 obtain ⟨t0,t1⟩:=(xn G V hn (s:=(s:Int)) ⟨by omega,by omega⟩ hv k1).1 t ht
 obtain ⟨q,hq⟩: ∃q:Nat,y.2.2=(q:Int):=⟨y.2.2.toNat,by omega⟩
 obtain ⟨r,rfl⟩: ∃r:Nat,t=(r:Int):=⟨t.toNat,by omega⟩
 rw[hq] at k3⊢
 have:q*a.2.1.length+r<g.1.length*a.2.1.length:=by
  have:(q+1)*a.2.1.length<=g.1.length*a.2.1.length:=Nat.mul_le_mul_right _ (by omega)
  rw[Nat.add_mul] at this;omega
 rw[Nat.mul_comm a.2.1.length]
 constructor
 ·exact_mod_cast Nat.zero_le _
 ·exact_mod_cast this
theorem Yv {x s:Nat} (hx:x<g.1.length) (hs:s<a.2.1.length): ∀z∈nbV g a x s,0<=z/\z<((a.2.1.length*g.1.length:Nat):Int):=by
 intro z hz
 obtain ⟨y,hy,hz⟩:=List.mem_flatMap.1 hz
 exact TQ G V hn hx hs hy z hz
theorem Pm {x s:Nat} {y:ArT} (hx:x<g.1.length) (hs:s<a.2.1.length) (hy:y∈mc g.2 x):(nbA g a x s y).length<=30:=by
 unfold nbA
 rw[List.length_map]
 exact nw _ _
end
section
variable {g:GrT} {a:AutT} {F:Nat->List Int} {N:Nat}
theorem ZV {x s:Nat} {o1 o2:List (List Int)} {y:ArT} {T:List Int} (hc:x*a.2.1.length+s<N) (hN:N<=60) (hF:(F (x*a.2.1.length+s)).length<=10000) (hT:T.length<=30) (hy: ∀t∈T,0<=y.2.2*(a.2.1.length:Int)+t/\y.2.2*(a.2.1.length:Int)+t<60/\0<=t/\t<=60) :
  aA (dU a ((x:Int),o1) ((s:Int),o2) y T) aT (0,rm N F)=some (.brk ((T.length:Int),rm N fun z=>if z=x*a.2.1.length+s then F z++T.map fun t=>y.2.2*(a.2.1.length:Int)+t else F z)):=by
 have ec:i64.wrap (i64.wrap ((x:Int)*(a.2.1.length:Int))+(s:Int))=((x*a.2.1.length+s:Nat):Int):=by
  have:((x:Int)*(a.2.1.length:Int))=((x*a.2.1.length:Nat):Int):=by simp
  rw[this,wZ (by omega),bH (by omega) (by omega)];rfl
 have:=aU (f:=dU a ((x:Int),o1) ((s:Int),o2) y T) (fun j=>((j:Int),rm N fun z=>if z=x*a.2.1.length+s then F z++(T.take j).map fun t=>y.2.2*(a.2.1.length:Int)+t else F z)) T.length (fun j hj=>by
  unfold dU
  simp only
  obtain ⟨y0,y1,t0,t1⟩:=hy _ (bI (xs:=T) (i:=(j:Int)) (by omega) (by omega))
  rw[if_pos (by simp;omega),az (by omega) (by omega)];simp only[ae,ec,BQ hc,if_true]
  have ev:i64.wrap (i64.wrap (y.2.2*(a.2.1.length:Int))+nth T (j:Int))=y.2.2*(a.2.1.length:Int)+nth T (j:Int):=by
   rw[bH (n:=y.2.2*(a.2.1.length:Int)) (by omega) (by omega),bH (by omega) (by omega)]
  rw[ev,aH (by simp;omega)];simp only[ae,Int.toNat_natCast,Pi]
  rw[ln (by rw[BP];omega),ln trivial,ah (by omega)];simp only[ae]
  congr 3
  refine od fun z hz=>?_
  by_cases e:z=x*a.2.1.length+s
  ·subst e
   rw[if_pos rfl,if_pos rfl,vI hj,aN,al];rfl
  ·simp only[if_neg e]) (by unfold dU;simp) (lu (by omega))
 rw[List.take_length] at this
 rw[<-this]
 congr 2
 refine od fun z hz=>?_
 split <;> simp
end
section
variable {g:GrT} {a:AutT} (G:GOk g) (V:VA a a.2.1.length) (hn:a.2.1.length<=12)
include G V hn
theorem nN:a.2.1.length*g.1.length<=60:=by
 have:=Nat.mul_le_mul hn G.n5;omega
theorem cN {x s:Nat} (hx:x<g.1.length) (hs:s<a.2.1.length):x*a.2.1.length+s<a.2.1.length*g.1.length:=by
 have:(x+1)*a.2.1.length<=g.1.length*a.2.1.length:=Nat.mul_le_mul_right _ (by omega)
 rw[Nat.add_mul,Nat.mul_comm g.1.length] at this;omega
theorem ZW {F:Nat->List Int} {x s:Nat} {o1 o2:List (List Int)} (hx:x<g.1.length) (hs:s<a.2.1.length) (hF:F (x*a.2.1.length+s)= []) :
  aA (fy g a ((x:Int),o1) (mc g.2 x) ((s:Int),o2)) aT (0,rm (a.2.1.length*g.1.length) F)=some (.brk (((mc g.2 x).length:Int),rm (a.2.1.length*g.1.length) fun z=>if z=x*a.2.1.length+s then nbV g a x s else F z)):=by
 have hl:=tW g.2 x
 have hm:=G.m
 have:=aU (f:=fy g a ((x:Int),o1) (mc g.2 x) ((s:Int),o2)) (fun j=>((j:Int),rm (a.2.1.length*g.1.length) fun z=>if z=x*a.2.1.length+s then ((mc g.2 x).take j).flatMap (nbA g a x s) else F z)) (mc g.2 x).length (fun j hj=>by
  unfold fy
  simp only
  have hy:=bI (xs:=mc g.2 x) (i:=(j:Int)) (by omega) (by omega)
  obtain ⟨k1,k2,k3⟩:=BR G hy
  have hv:=G.val _ (bI (xs:=g.1) (i:=(x:Int)) (by omega) (by omega))
  obtain ⟨q1,q2,q3⟩:=xn G V hn (s:=(s:Int)) (v:=nth g.1 (x:Int)) (k:=(nth (mc g.2 x) (j:Int)).2.1) ⟨by omega,by omega⟩ hv k1
  rw[if_pos (by simp;omega),az (by omega) (by omega)];simp only[ae]
  rw[ln (by omega),az (xs:=g.1) (by omega) (by omega)];simp only[ae]
  obtain ⟨k,hk⟩: ∃k:Nat,(nth (mc g.2 x) (j:Int)).2.1=(k:Int):=⟨_,(Int.toNat_of_nonneg k1.1).symm⟩
  have ea:=Yt V hn (s:=(s:Int)) (v:=nth g.1 (x:Int)) (k:=k) ⟨by omega,by omega⟩ hv (by omega)
  have ea:sy (a.1,a.2.1,a.2.2) (vM 1 (s:Int)) (nth g.1 (x:Int)) (k:Int)=_:=ea
  rw[hk,ea];simp only[ae]
  have ek:k=(nth (mc g.2 x) (j:Int)).2.1.toNat:=by rw[hk];rfl
  rw[ek,tg q3];simp only[ae]
  have hb:(((mc g.2 x).take j).flatMap (nbA g a x s)).length<=30*((mc g.2 x).take j).length:=th fun y hy=>Pm G V hn hx hs (List.mem_of_mem_take hy)
  have ht:((mc g.2 x).take j).length<=24:=by rw[aB];omega
  have h3:=ZV (F:=fun z=>if z=x*a.2.1.length+s then ((mc g.2 x).take j).flatMap (nbA g a x s) else F z) (o1:=o1) (o2:=o2) (y:=nth (mc g.2 x) (j:Int)) (T:=behind a (s:Int) (nth g.1 (x:Int)) (nth (mc g.2 x) (j:Int)).2.1) (cN G V hn hx hs) (nN G V hn) (by simp only[if_true];omega) q2 (fun t ht=>by
   have h1:=TQ G V hn hx hs hy _ (List.mem_map.2 ⟨t,ht,rfl⟩)
   have h2:=q1 t ht
   have:=nN G V hn
   omega)
  unfold behind at h3
  have h3:aA (dU a ((x:Int),o1) ((s:Int),o2) (nth (mc g.2 x) (j:Int)) (gf (afL a (nth (mc g.2 x) (j:Int)).2.1.toNat (gf (cS a (s:Int) (nth g.1 (x:Int))) 30)) 30)) aT (0,rm (a.2.1.length*g.1.length) fun z=>if z=x*a.2.1.length+s then ((mc g.2 x).take j).flatMap (nbA g a x s) else F z)=_:=h3
  rw[ai h3,ah (by omega)]
  congr 3
  refine od fun z hz=>?_
  by_cases e:z=x*a.2.1.length+s
  ·subst e
   rw[if_pos rfl,if_pos rfl,vI hj,List.flatMap_append]
   simp[nbA,behind]
  ·simp only[if_neg e]) (by unfold fy;simp) (lu (by omega))
 rw[List.take_length] at this
 rw[show nbV g a x s=(mc g.2 x).flatMap (nbA g a x s) from rfl,<-this]
 congr 2
 refine od fun z hz=>?_
 split
 ·rename_i e;subst e;rw[hF];simp
 ·rfl
theorem Yw {x s:Nat} (hs:s<a.2.1.length):nbC g a (x*a.2.1.length+s)=nbV g a x s:=by
 unfold nbC
 rw[Nat.mul_comm,Nat.mul_add_div (by omega),Nat.mul_add_mod,Nat.div_eq_of_lt hs,Nat.mod_eq_of_lt hs,Nat.add_zero]
theorem ZX {x:Nat} {o1:List (List Int)} (hx:x<g.1.length) :
  aA (fA g a ((x:Int),o1) (mc g.2 x)) aT (0,rm (a.2.1.length*g.1.length) fun z=>if z<x*a.2.1.length then nbC g a z else [])=some (.brk ((a.2.1.length:Int),rm (a.2.1.length*g.1.length) fun z=>if z<(x+1)*a.2.1.length then nbC g a z else [])):=by
 have:=aU (f:=fA g a ((x:Int),o1) (mc g.2 x)) (fun j=>((j:Int),rm (a.2.1.length*g.1.length) fun z=>if z<x*a.2.1.length+j then nbC g a z else [])) a.2.1.length (fun j hj=>by
  unfold fA
  simp only
  rw[if_pos (by simp;omega)]
  have h2:=ZW G V hn (F:=fun z=>if z<x*a.2.1.length+j then nbC g a z else []) (o1:=o1) (o2:=rm (a.2.1.length*g.1.length) fun z=>if z<x*a.2.1.length+j then nbC g a z else []) hx hj (by simp)
  rw[ai h2,ah (by omega)]
  congr 3
  refine od fun z hz=>?_
  by_cases e:z=x*a.2.1.length+j
  ·subst e
   rw[if_pos rfl,if_pos (by omega),Yw G V hn hj]
  ·rw[if_neg e]
   by_cases e2:z<x*a.2.1.length+j
   ·rw[if_pos e2,if_pos (by omega)]
   ·rw[if_neg e2,if_neg (by omega)]) (by unfold fA;simp) (lu (by omega))
 rw[Nat.add_mul,Nat.one_mul]
 exact this
theorem Wf:fR g a=some (rm (a.2.1.length*g.1.length) (nbC g a)):=by
 have hN:=nN G V hn
 unfold fR
 have ew:i64.wrap ((a.2.1.length:Int)*(g.1.length:Int))=((a.2.1.length*g.1.length:Nat):Int):=by
  rw[show ((a.2.1.length:Int)*(g.1.length:Int))=((a.2.1.length*g.1.length:Nat):Int) from by simp,wZ (by omega)]
 have ea:=Yu G
 have ea:wA (g.1,g.2)=_:=ea
 rw[ew,TO (by omega),ea];simp only[ae]
 have:=aU (f:=iu g a (rm g.1.length (mc g.2))) (fun j=>((j:Int),rm (a.2.1.length*g.1.length) fun z=>if z<j*a.2.1.length then nbC g a z else [])) g.1.length (fun j hj=>by
  unfold iu
  simp only
  rw[if_pos (by rw[BP];simp;omega),BQ hj];simp only[ae]
  rw[ai (ZX G V hn hj),ah (by have:=G.n5;omega)]) (by unfold iu;rw[BP];simp) (lu (by have:=G.n5;omega))
 have e0:(rm (a.2.1.length*g.1.length) fun _=>([] :List Int))=rm (a.2.1.length*g.1.length) fun z=>if z<0*a.2.1.length then nbC g a z else []:=od fun z hz=>by rw[if_neg (by omega)]
 rw[e0,show (0:Int)=((0:Nat):Int) from rfl,ai this]
 congr 1
 refine od fun z hz=>?_
 rw[if_pos (by rw[Nat.mul_comm g.1.length];exact hz)]
end
end D
namespace D
open Go.RowKit
def aaK {R S T:Type} (φ:S->T):Out R S->Out R T
 | .ret r=>.ret r
 | .nxt s=>.nxt (φ s)
 | .brk s=>.brk (φ s)
theorem BS {R S T:Type} {f:S->Option (Out R S)} {f':T->Option (Out R T)} (φ:S->T) (Inv:S->Prop)
  (h: ∀s,Inv s->f' (φ s)=(f s).map (aaK φ)) (hi: ∀s s',Inv s->f s=some (.nxt s')->Inv s'): ∀n s,Inv s->aA f' n (φ s)=(aA f n s).map (aaK φ)
 | 0,_,_=>rfl
 | n+1,s,hs=>by
  have e:=h s hs
  unfold aA
  rw[e]
  cases hf:f s with
  | none=>rfl
  | some o =>
   cases o with
   | ret r=>rfl
   | brk s'=>rfl
   | nxt s'=>exact BS φ Inv h hi n s' (hi s s' hs hf)
section
variable {a:AutT} {n:Nat} (V:VA a n) (hn:n<=12)
include V hn
theorem GV {s v:Int} (hs:0<=s/\s<n) (hv:0<=v/\v<=2):gk a s v=some (cS a s v:Int):=by
 have e:=(qR V hn hs hv).1
 have k:=BS (f:=eu a v) (f':=mu a v) (fun st=>(st.2,st.1)) (fun st=> -1<=st.2/\st.2<n) (by
  rintro ⟨m,s⟩ ⟨h0,h1⟩
  unfold mu eu
  simp only at h0 h1⊢
  by_cases c:0<=s
  ·simp only[decide_eq_true (show s≥0 from c),if_true,ln c,ae]
   have ew:i64.wrap (6+v)=(((6+v).toNat:Nat):Int):=by rw[bH (by omega) (by omega)];omega
   have e2:=GL V (s:=s) (k:=(6+v).toNat) c h1 (by omega)
   have e2:bP (a.1,a.2.1,a.2.2) s (((6+v).toNat:Nat):Int)=_:=e2
   rw[ew,e2,V.get c h1];simp only[ae]
   rw[V.get2 c h1 (by omega)];simp only[ae]
   split <;> rfl
  ·simp only[decide_eq_false (show¬s≥0 from c),Bool.false_eq_true,if_false];rfl) (by
  rintro ⟨m,s⟩ ⟨m',s'⟩ ⟨h0,h1⟩ hf
  unfold eu at hf
  simp only at h0 h1 hf⊢
  by_cases c:0<=s
  ·simp only[decide_eq_true (show s≥0 from c),if_true,ln c,ae] at hf
   have ew:i64.wrap (6+v)=(((6+v).toNat:Nat):Int):=by rw[bH (by omega) (by omega)];omega
   have e2:=GL V (s:=s) (k:=(6+v).toNat) c h1 (by omega)
   have e2:bP (a.1,a.2.1,a.2.2) s (((6+v).toNat:Nat):Int)=_:=e2
   rw[ew,e2] at hf;simp only[ae] at hf
   split at hf
   ·cases hf
    exact V.mv c h1 (by omega)
   ·cases hf
  ·simp only[decide_eq_false (show¬s≥0 from c),Bool.false_eq_true,if_false] at hf;cases hf) aT (0,s) ⟨by simp only;omega,hs.2⟩
 unfold gp at e
 unfold gk
 simp only at k
 rw[k]
 cases hl:aA (eu a v) aT (0,s) with
 | none=>rw[hl] at e;cases e
 | some o =>
  rw[hl] at e
  cases o with
  | ret r=>exact e
  | brk s'=>exact e
  | nxt s'=>cases e
end
def B2 (y:ArT):Int×Bool:=y.1
theorem Yx {g:GrT} (G:GOk g) {x:Nat} :qu g x=some ((mc g.2 x).map B2):=by
 unfold qu
 have:=aU (f:=lJ g x) (fun i=>((mc (g.2.take i) x).map B2,(i:Int))) g.2.length (fun i hi=>by
  unfold lJ
  simp only
  have hm:=G.m
  have l1:=tW (g.2.take i) x
  have l3:(g.2.take i).length<=12:=by rw[aB];omega
  rw[if_pos (by simp;omega),az (by omega) (by omega)];simp only[ae]
  rw[vI hi,ah (by omega)]
  generalize nth g.2 (i:Int)=e
  have ea:mc (g.2.take i++ [e]) x=mc (g.2.take i) x++TP e x:=by simp[mc]
  rw[ea,aN]
  generalize hL:(mc (g.2.take i) x).map B2=L
  have hl:L.length<=24:=by rw[<-hL,List.length_map];omega
  unfold TP
  by_cases c1:e.2.1=(x:Int)
  ·rw[if_pos (by simpa using c1),if_pos c1,aH (by simp;omega)];simp only[ae]
   by_cases c2:e.2.2.1=(x:Int)
   ·rw[if_pos (by simpa using c2),if_pos c2,aH (by simp;omega)];simp[B2,fwd,inv]
   ·rw[if_neg (by simpa using c2),if_neg c2];simp[B2,fwd,inv]
  ·rw[if_neg (by simpa using c1),if_neg c1];simp only[ae]
   by_cases c2:e.2.2.1=(x:Int)
   ·rw[if_pos (by simpa using c2),if_pos c2,aH (by simp;omega)];simp[B2,fwd,inv]
   ·rw[if_neg (by simpa using c2),if_neg c2];simp[B2,fwd,inv]) (by unfold lJ;simp) (lu (by have:=G.m;omega))
 have this:aA (lJ g x) aT (([] :List (Int×Bool)),0)=_:=this
 rw[this,List.take_length];rfl
theorem Kg {g:GrT} (G:GOk g) {j:Nat} (hj:j<g.2.length):dB g (nth g.2 (j:Int)).1=some (j:Int):=by
 unfold dB
 have hm:=G.m
 obtain ⟨o,e,hq⟩:=cz (f:=fO g (nth g.2 (j:Int)).1) (fun i s=>s=(i:Int)/\i<=j) (fun o=>o= .ret (j:Int)) 12 (s:=0) (by
  rintro i s hi ⟨rfl,hij⟩
  unfold fO
  rw[if_pos (by simp;omega),az (by omega) (by omega)];simp only[ae]
  by_cases c:i=j
  ·subst c
   exact .inr ⟨_,by rw[if_pos (by simp)],(fun s' e=>by cases e),rfl⟩
  ·have h1:=G.lt (i:=i) (j:=j) (by omega) hj
   exact .inl ⟨by omega,_,by rw[if_neg (by simp;omega),ah (by omega)],rfl,by omega⟩) ⟨rfl,by omega⟩ (by unfold aT;omega)
 subst hq
 rw[e];rfl
theorem Sj {g:GrT} (G:GOk g) {x:Nat} {y:ArT} (h:y∈mc g.2 x): ∃(j:Int) (e:EdT),dB g y.1.1=some j/\aQ g.2 j=some e/\il e y.1.2=some y.2.1/\oR e y.1.2=some y.2.2:=by
 obtain ⟨e,he,hy⟩:=List.mem_flatMap.1 h
 obtain ⟨j,hj,rfl⟩:=Bx he
 obtain ⟨h1,h2,h3⟩:=G.edge _ he
 refine ⟨j,nth g.2 (j:Int),?_,az (by omega) (by omega),?_,?_⟩
 all_goals
  unfold TP at hy
  rcases aI hy with hy | hy <;> split at hy
  ·obtain rfl:=aw hy
   simp only[fwd]
   first | exact Kg G hj | (unfold il;rw[bH (n:=2*_) (by omega) (by omega)];rfl) | (unfold oR;rfl)
  ·cases hy
  ·obtain rfl:=aw hy
   simp only[inv]
   first | exact Kg G hj | (unfold il;rw[bH (n:=2*_) (by omega) (by omega),bH (by omega) (by omega)];rfl) | (unfold oR;rfl)
  ·cases hy
abbrev Wg:=(Int×Bool)×Int×Int
def stA (g:GrT) (a:AutT) (x s:Nat) (y:ArT):List Wg:=(behind a s (nth g.1 x) y.2.1).map fun t=>(y.1,y.2.2,t)
def stV (g:GrT) (a:AutT) (x s:Nat):List Wg:=(mc g.2 x).flatMap (stA g a x s)
theorem Yy (g:GrT) (a:AutT) (x s:Nat):(stV g a x s).map (fun p=>p.2.1*(a.2.1.length:Int)+p.2.2)=nbV g a x s:=by
 unfold stV nbV
 rw[List.map_flatMap]
 congr 1
 funext y
 unfold stA nbA
 rw[List.map_map];rfl
section
variable {g:GrT} {a:AutT} (G:GOk g) (V:VA a a.2.1.length) (hn:a.2.1.length<=12)
include G V hn
theorem Wh {x s:Nat} {y:ArT} (hx:x<g.1.length) (hs:s<a.2.1.length) (hy:y∈mc g.2 x):(stA g a x s y).length<=30:=by
 unfold stA;rw[List.length_map]
 exact (xn G V hn (s:=s) ⟨by omega,by omega⟩ (G.val _ (bI (by omega) (by omega))) (BR G hy).1).2.1
theorem ZY {x:Nat} {i:Nat} {e:EdT} {o:List Wg} {y:ArT} {C:Nat} (hC:C<2 ^ a.2.1.length) (hy:y∈mc g.2 x) (hi:aQ ((mc g.2 x).map B2) (i:Int)=some (B2 y)) (he:il e y.1.2=some y.2.1) :
  aA (jm a (C:Int) ((mc g.2 x).map B2) (o,(i:Int)) e) aT (0,0)=some (.brk ((afS a y.2.1.toNat C a.2.1.length:Int),(a.2.1.length:Int))):=by
 obtain ⟨k0,k1⟩:=(BR G hy).1
 have:=aU (f:=jm a (C:Int) ((mc g.2 x).map B2) (o,(i:Int)) e) (fun q=>((afS a y.2.1.toNat C q:Int),(q:Int))) a.2.1.length (fun q hq=>by
  unfold jm
  simp only
  have he:il (e.1,e.2.1,e.2.2.1,e.2.2.2) (B2 y).2=some y.2.1:=he
  have ek:y.2.1=((y.2.1.toNat:Nat):Int):=by omega
  have em:=V.get2 (s:=(q:Int)) (k:=y.2.1.toNat) (by omega) (by omega) (by omega)
  rw[<-ek] at em
  have hlt:=Ph V (k:=y.2.1.toNat) (C:=C) (by omega) q (by omega)
  have hC':C<2 ^ 62:=aJ hC (p62 (by omega))
  have hmv:=(V.mv (s:=(q:Int)) (k:=y.2.1.toNat) (by omega) (by omega) (by omega)).2
  rw[if_pos (by simp;omega),V.get (by omega) (by omega)];simp only[ae]
  rw[hi];simp only[ae]
  rw[he];simp only[ae]
  rw[em];simp only[ae]
  rw[ln (by omega),BO hC' (by omega),ah (by omega),afS];simp only[ae]
  by_cases b:C.testBit q=true
  ·rw[if_pos b]
   by_cases c:0<=D.mv a (q:Int) y.2.1.toNat
   ·obtain ⟨t,ht⟩: ∃t:Nat,D.mv a (q:Int) y.2.1.toNat=(t:Int):=⟨_,(Int.toNat_of_nonneg c).symm⟩
    rw[if_pos (by simpa using c),if_pos ⟨b,c⟩,ln c,ht,yq (by omega),Kf (aJ hlt (p62 (by omega))) (Nat.pow_lt_pow_right (by decide) (by omega))];rfl
   ·rw[if_neg (by simpa using c),if_neg (fun h=>c h.2)];rfl
  ·rw[if_neg b,if_neg (fun h=>b h.1)];rfl) (by unfold jm;simp) (lu (by omega))
 exact this
theorem ZZ {x:Nat} {i:Nat} {e:EdT} {o:List Wg} {y:ArT} {m:Nat} (hm:m<2 ^ a.2.1.length) (ho:o.length<=100000) (hi:aQ ((mc g.2 x).map B2) (i:Int)=some (B2 y)) (he:oR e y.1.2=some y.2.2) {z:Int} :
  aA (jn a ((mc g.2 x).map B2) (o,(i:Int)) e ((m:Int),z)) aT (o,0)=some (.brk (o++(gf m 30).map (fun t=>(y.1,y.2.2,t)),(a.2.1.length:Int))):=by
 have:=aU (f:=jn a ((mc g.2 x).map B2) (o,(i:Int)) e ((m:Int),z)) (fun q=>(o++(gf m q).map (fun t=>(y.1,y.2.2,t)),(q:Int))) a.2.1.length (fun q hq=>by
  unfold jn
  simp only
  have he:oR (e.1,e.2.1,e.2.2.1,e.2.2.2) (B2 y).2=some y.2.2:=he
  have hm':m<2 ^ 62:=aJ hm (p62 (by omega))
  have hl:=nw m q
  rw[if_pos (by simp;omega),ln (by omega),BO hm' (by omega),ah (by omega),lj];simp only[ae]
  by_cases b:m.testBit q=true
  ·rw[if_pos b,if_pos b,hi];simp only[ae]
   rw[he];simp only[ae]
   rw[aH (by simp;omega)];simp only[ae,aN,al];rfl
  ·rw[if_neg b,if_neg b];rfl) (by unfold jn;simp) (lu (by omega))
 rw[tV hm (show a.2.1.length<=30 by omega)]
 simpa [gf] using this
theorem Wi {x s:Nat} (hx:x<g.1.length) (hs:s<a.2.1.length):kT g a x s=some (stV g a x s):=by
 have hv:=G.val _ (bI (xs:=g.1) (i:=(x:Int)) (by omega) (by omega))
 have ec:=GV V hn (s:=(s:Int)) ⟨by omega,by omega⟩ hv
 have hC:=(qR V hn (s:=(s:Int)) ⟨by omega,by omega⟩ hv).2
 unfold kT
 rw[az (by omega) (by omega)];simp only[ae]
 have ec:gk (a.1,a.2.1,a.2.2) (s:Int) (nth g.1 (x:Int))=_:=ec
 have ef:qu (g.1,g.2) (x:Int)=_:=Yx G
 rw[ec,ef];simp only[ae]
 generalize hCC:cS a (s:Int) (nth g.1 (x:Int))=C at hC
 have l1:=tW g.2 x
 have hm:=G.m
 have:=aU (f:=jo g a (C:Int) ((mc g.2 x).map B2)) (fun i=>(((mc g.2 x).take i).flatMap (stA g a x s),(i:Int))) (mc g.2 x).length (fun i hi=>by
  unfold jo
  simp only
  have hy:=List.getElem_mem hi
  generalize hyy:(mc g.2 x)[i] =y at hy
  have hi2:aQ ((mc g.2 x).map B2) (i:Int)=some (B2 y):=by rw[aM (by simpa using hi)];simp[hyy]
  obtain ⟨j,e,e1,e2,e3,e4⟩:=Sj G hy
  obtain ⟨k0,k1⟩:=(BR G hy).1
  rw[if_pos (by simp;omega),hi2];simp only[ae]
  have e1:dB (g.1,g.2) (B2 y).1=_:=e1
  rw[e1];simp only[ae]
  rw[e2];simp only[ae]
  rw[ai (ZY G V hn hC hy hi2 e3)]
  have hlt:=Ph V (k:=y.2.1.toNat) (C:=C) (by omega) a.2.1.length (aG _)
  have hol:=th (f:=stA g a x s) (B:=30) (xs:=(mc g.2 x).take i) fun z hz=>Wh G V hn hx hs (List.mem_of_mem_take hz)
  have hol2:((mc g.2 x).take i).length<=24:=by rw[aB];omega
  rw[ai (ZZ G V hn hlt (by omega) hi2 e4),ah (by omega)]
  congr 3
  have et:(mc g.2 x).take (i+1)=(mc g.2 x).take i++ [y]:=by rw[List.take_add_one];simp[hi,hyy]
  rw[et,List.flatMap_append]
  congr 1
  simp only[List.flatMap_cons,List.flatMap_nil,List.append_nil]
  unfold stA behind
  rw[hCC,tV hC (show a.2.1.length<=30 by omega),IF]) (by unfold jo;simp) (lu (by omega))
 rw[List.take_length] at this
 have this:aA (jo g a (C:Int) ((mc g.2 x).map B2)) aT (([] :List Wg),0)=_:=this
 rw[ai this];rfl
end
end D
namespace D
open Go.RowKit
abbrev BfT:=List Int×List Int
def TS (d:Int) (s:BfT) (x:Int):BfT:=if nth s.1 x<0 then (s.1.set x.toNat d,s.2++ [x]) else s
def Dt (d:Int) (s:BfT) (xs:List Int):BfT:=xs.foldl (TS d) s
theorem GW (d:Int) (s:BfT) (xs:List Int) (x:Int):Dt d s (xs++ [x])=TS d (Dt d s xs) x:=by simp[Dt]
structure BI (N:Nat) (s:BfT):Prop where
 len:s.1.length=N
 nd:s.2.Nodup
 rng: ∀x∈s.2,0<=x/\x<N
 seen: ∀x:Int,0<=x->x<N->(nth s.1 x<0↔x∉s.2)
 top: ∀x:Int,0<=x->x<N-> -1<=nth s.1 x/\nth s.1 x<s.2.length
theorem BI.le {N:Nat} {s:BfT} (h:BI N s):s.2.length<=N:=by
 have:=h.nd.length_le_of_subset (l₂:=(List.range N).map fun i:Nat=>(i:Int)) (fun x hx=>by
  obtain ⟨h0,h1⟩:=h.rng x hx
  exact List.mem_map.2 ⟨x.toNat,List.mem_range.2 (by omega),by omega⟩)
 simpa using this
theorem BI.one {N:Nat} {s:BfT} (h:BI N s) {d x:Int} (hx:0<=x/\x<N) (hd:0<=d/\d<=s.2.length):BI N (TS d s x)/\s.2 <+:(TS d s x).2/\ ∀y,0<=y->0<=nth s.1 y->nth (TS d s x).1 y=nth s.1 y:=by
 unfold TS
 split
 ·rename_i hn
  have hnot:=(h.seen x hx.1 hx.2).1 hn
  refine ⟨⟨by simp[h.len],?_,?_,?_,?_⟩,List.prefix_append _ _,?_⟩
  ·exact List.nodup_append.2 ⟨h.nd,by simp,by rintro a ha b hb rfl;simp at hb;exact hnot (hb ▸ ha)⟩
  ·intro y hy
   rcases aI hy with hy | hy
   ·exact h.rng y hy
   ·obtain rfl:y=x:=by simpa using hy
    exact hx
  ·intro y h0 h1
   by_cases e:x=y
   ·subst e
    rw[pO hx.1 (by rw[h.len];exact hx.2)]
    simp;omega
   ·rw[tS hx.1 h0 e,h.seen y h0 h1]
    simp;omega
  ·intro y h0 h1
   by_cases e:x=y
   ·subst e
    rw[pO hx.1 (by rw[h.len];exact hx.2)]
    simp;omega
   ·rw[tS hx.1 h0 e]
    have:=h.top y h0 h1
    simp;omega
  ·intro y h0 h1
   refine tS hx.1 h0 ?_
   rintro rfl
   omega
 ·exact ⟨h,List.prefix_refl _,fun y _ _=>rfl⟩
theorem BI.all {N:Nat} {d:Int} : ∀ {xs:List Int} {s:BfT},BI N s->(∀x∈xs,0<=x/\x<N)->(0<=d/\d<=s.2.length)->BI N (Dt d s xs)/\s.2 <+:(Dt d s xs).2/\ ∀y,0<=y->0<=nth s.1 y->nth (Dt d s xs).1 y=nth s.1 y
 | [],s,h,_,_=>⟨h,List.prefix_refl _,fun _ _ _=>rfl⟩
 | x::xs,s,h,hx,hd=>by
  obtain ⟨h1,h2,h3⟩:=h.one (hx x (by simp)) hd
  have hl:=h2.length_le
  obtain ⟨k1,k2,k3⟩:=BI.all (xs:=xs) h1 (fun y hy=>hx y (by simp[hy])) ⟨hd.1,by omega⟩
  refine ⟨k1,h2.trans k2,fun y h0 hy=>?_⟩
  have e:=h3 y h0 hy
  exact (k3 y h0 (by rw[e];exact hy)).trans e
def bsS (nx:Int->List Int) (N:Nat) (v:Int):Nat->BfT
 | 0=>((List.replicate N (-1)).set v.toNat 0,[v])
 | i+1=>match (bsS nx N v i).2[i]? with
  | some x=>Dt (nth (bsS nx N v i).1 x+1) (bsS nx N v i) (nx x)
  | none=>bsS nx N v i
section
variable {nx:Int->List Int} {N:Nat} {v:Int} (hv:0<=v/\v<N) (hn: ∀x:Int,0<=x->x<N-> ∀y∈nx x,0<=y/\y<N)
include hv
theorem Wj {x:Int} (h0:0<=x) (h1:x<N):nth (List.replicate N (-1:Int)) x= -1:=by
 have:x.toNat<N:=by omega
 simp[nth,List.getD_eq_getElem?_getD,List.getElem?_replicate,this]
theorem BI.zero:BI N (bsS nx N v 0):=by
 refine ⟨by simp[bsS],by simp[bsS],fun x hx=>?_,fun x h0 h1=>?_,fun x h0 h1=>?_⟩
 ·obtain rfl:x=v:=by simpa [bsS] using hx
  exact hv
 all_goals
  unfold bsS
  by_cases e:v=x
  ·subst e
   rw[pO hv.1 (by simpa using hv.2)]
   simp
  ·rw[tS hv.1 h0 e,Wj hv h0 h1]
   first | omega | (simp;omega) | simp
include hn
theorem EL {i:Nat} (h:BI N (bsS nx N v i)):BI N (bsS nx N v (i+1))/\(bsS nx N v i).2 <+:(bsS nx N v (i+1)).2:=by
 rw[bsS]
 split
 ·rename_i x hx
  have hm:=List.mem_of_getElem? hx
  obtain ⟨x0,x1⟩:=h.rng x hm
  have hp: ¬nth (bsS nx N v i).1 x<0:=fun c=>(h.seen x x0 x1).1 c hm
  have ht:=h.top x x0 x1
  obtain ⟨k1,k2,_⟩:=h.all (xs:=nx x) (d:=nth (bsS nx N v i).1 x+1) (hn x x0 x1) ⟨by omega,by omega⟩
  exact ⟨k1,k2⟩
 ·exact ⟨h,List.prefix_refl _⟩
theorem BT: ∀i,BI N (bsS nx N v i)
 | 0=>BI.zero hv
 | i+1=>(EL hv hn (BT i)).1
theorem Pn: ∃K,K<=N/\K=(bsS nx N v K).2.length/\ ∀i,i<K->i<(bsS nx N v i).2.length:=by
 have key: ∀m i,i+m=N->(∀j,j<i->j<(bsS nx N v j).2.length)-> ∃K,K<=N/\K=(bsS nx N v K).2.length/\ ∀i,i<K->i<(bsS nx N v i).2.length:=by
  have hge: ∀i,(∀j,j<i->j<(bsS nx N v j).2.length)->i<=(bsS nx N v i).2.length:=by
   intro i hj
   cases i with
   | zero=>omega
   | succ i =>
    have:=hj i (by omega)
    have hp:=(EL hv hn (BT hv hn i)).2.length_le
    omega
  intro m
  induction m with
  | zero =>
   intro i hi hj
   have h1:=(BT hv hn i).le
   have h2:=hge i hj
   exact ⟨i,by omega,by omega,hj⟩
  | succ m ih =>
   intro i hi hj
   by_cases h:i<(bsS nx N v i).2.length
   ·exact ih (i+1) (by omega) fun j hj'=>by
     by_cases e:j=i
     ·subst e;exact h
     ·exact hj j (by omega)
   ·have h2:=hge i hj
    exact ⟨i,by omega,by omega,hj⟩
 exact key N 0 (by omega) (by omega)
end
end D
namespace D
open Go.RowKit
theorem Wk:(List.range 61).all (fun N=>decide (cK [-1] (N:Int)=some (List.replicate N (-1))))=true:=by kernel_rfl
theorem Z0 {N:Nat} (h:N<=60):cK [-1] (N:Int)=some (List.replicate N (-1)):=
 of_decide_eq_true (List.all_eq_true.1 Wk N (List.mem_range.2 (by omega)))
theorem Sk {α:Type} {xs:List α} {i:Nat} {x:α} (h:i<=xs.length):(xs++ [x]).drop i=xs.drop i++ [x]:=List.drop_append_of_le_length h
theorem Du {α:Type} {xs:List α} {i:Nat} {x:α} (h:xs[i]? =some x):aQ (xs.drop i) 0=some x:=by
 unfold aQ
 rw[if_pos (by decide)]
 simpa using h
section
variable {nx:Int->List Int} {N:Nat} {v:Int} (hN:N<=60) (hv:0<=v/\v<N) (hn: ∀x:Int,0<=x->x<N-> ∀y∈nx x,0<=y/\y<N) (hl: ∀x,(nx x).length<=100000)
include hN hv hn hl
theorem Wl {i:Nat} {x:Int} (hx:(bsS nx N v i).2[i]? =some x) (j:Nat) :
  BI N (Dt (nth (bsS nx N v i).1 x+1) (bsS nx N v i) ((nx x).take j))/\(Dt (nth (bsS nx N v i).1 x+1) (bsS nx N v i) ((nx x).take j)).2[i]? =some x/\nth (Dt (nth (bsS nx N v i).1 x+1) (bsS nx N v i) ((nx x).take j)).1 x=nth (bsS nx N v i).1 x/\(0<=x/\x<N)/\(0<=nth (bsS nx N v i).1 x/\nth (bsS nx N v i).1 x<60)/\i<(Dt (nth (bsS nx N v i).1 x+1) (bsS nx N v i) ((nx x).take j)).2.length:=by
 have h:=BT hv hn i
 have hm:=List.mem_of_getElem? hx
 obtain ⟨x0,x1⟩:=h.rng x hm
 have hp: ¬nth (bsS nx N v i).1 x<0:=fun c=>(h.seen x x0 x1).1 c hm
 have ht:=h.top x x0 x1
 have hle:=h.le
 obtain ⟨k1,k2,k3⟩:=h.all (xs:=(nx x).take j) (d:=nth (bsS nx N v i).1 x+1) (fun y hy=>hn x x0 x1 y (List.mem_of_mem_take hy)) ⟨by omega,by omega⟩
 obtain ⟨t,ht'⟩:=k2
 have hi:=(List.getElem?_eq_some_iff.1 hx).1
 have e:(Dt (nth (bsS nx N v i).1 x+1) (bsS nx N v i) ((nx x).take j)).2[i]? =some x:=by
  rw[<-ht',List.getElem?_append_left hi,hx]
 exact ⟨k1,e,k3 x x0 (by omega),⟨x0,x1⟩,⟨by omega,by omega⟩,(List.getElem?_eq_some_iff.1 e).1⟩
theorem Z1 {i:Nat} {x:Int} (hx:(bsS nx N v i).2[i]? =some x) :
  aA (lO (nx x)) aT ((bsS nx N v i).2.drop i,0,(bsS nx N v i).1)=some (.brk ((bsS nx N v (i+1)).2.drop i,((nx x).length:Int),(bsS nx N v (i+1)).1)):=by
 have:=aU (f:=lO (nx x)) (fun j=>((Dt (nth (bsS nx N v i).1 x+1) (bsS nx N v i) ((nx x).take j)).2.drop i,(j:Int),(Dt (nth (bsS nx N v i).1 x+1) (bsS nx N v i) ((nx x).take j)).1)) (nx x).length (fun j hj=>by
  have hlx:=hl x
  obtain ⟨k1,k2,k3,⟨x0,x1⟩,k4,k5⟩:=Wl hN hv hn hl hx j
  have hy:=hn x x0 x1 _ (bI (xs:=nx x) (i:=(j:Int)) (by omega) (by omega))
  unfold lO
  simp only
  rw[vI hj,GW]
  generalize Dt (nth (bsS nx N v i).1 x+1) (bsS nx N v i) ((nx x).take j)=s at k1 k2 k3 k5
  have hle:=k1.le
  have hlen:=k1.len
  rw[if_pos (by simp;omega),az (by omega) (by omega)];simp only[ae]
  rw[az (xs:=s.1) hy.1 (by omega)];simp only[ae]
  rw[Du k2];simp only[ae]
  rw[az (xs:=s.1) x0 (by omega)];simp only[ae]
  rw[aH (by simp;omega),ah (by omega),k3,bH (by omega) (by omega)]
  unfold TS
  by_cases c:nth s.1 (nth (nx x) (j:Int))<0
  ·rw[if_pos (by simpa using c),if_pos c,Sk (by omega)];rfl
  ·rw[if_neg (by simpa using c),if_neg c];rfl) (by unfold lO;simp) (lu (by have:=hl x;omega))
 rw[List.take_length] at this
 have e:bsS nx N v (i+1)=Dt (nth (bsS nx N v i).1 x+1) (bsS nx N v i) (nx x):=by rw[bsS,hx]
 rw[e]
 exact this
theorem Sl {K:Nat} (hK:K<=N) (hE:K=(bsS nx N v K).2.length) (hR: ∀i,i<K->i<(bsS nx N v i).2.length):tM (rm N fun z=>nx (z:Int)) [v] =some (bsS nx N v K).1:=by
 unfold tM
 rw[BP,Z0 hN];simp only[ae]
 have e0:aA (lN [v]) aT (([] :List Int),0,List.replicate N (-1))=some (.brk ([v],1,(bsS nx N v 0).1)):=by
  have:=aU (f:=lN [v]) (fun j=>if j=0 then (([] :List Int),(0:Int),List.replicate N (-1:Int)) else ([v],1,(bsS nx N v 0).1)) 1 (fun j hj=>by
   obtain rfl:j=0:=by omega
   unfold lN
   simp only[if_true]
   rw[if_pos (by simp),show aQ [v] 0=some v from rfl];simp only[ae]
   rw[az (xs:=List.replicate N (-1)) hv.1 (by simpa using hv.2)];simp only[ae]
   rw[aH (by simp)];rfl) (by unfold lN;simp) (by unfold aT;omega)
  exact this
 rw[ai e0]
 have:=aU (f:=lP (rm N fun z=>nx (z:Int))) (fun i=>((bsS nx N v i).2.drop i,(bsS nx N v i).1)) K (fun i hi=>by
  have hi2:=hR i hi
  obtain ⟨x,hx⟩: ∃x,(bsS nx N v i).2[i]? =some x:=⟨_,List.getElem?_eq_getElem hi2⟩
  obtain ⟨k1,k2,k3,⟨x0,x1⟩,k4,k5⟩:=Wl hN hv hn hl hx 0
  unfold lP
  simp only
  rw[if_pos (by simp;omega),Du hx];simp only[ae]
  obtain ⟨z,rfl⟩: ∃z:Nat,x=(z:Int):=⟨_,(Int.toNat_of_nonneg x0).symm⟩
  rw[BQ (by omega)];simp only[ae]
  rw[ai (Z1 hN hv hn hl hx)]
  have hp:=(EL hv hn (BT hv hn i)).2.length_le
  rw[ln (by simp;omega)];simp only[ae]
  rw[List.drop_drop]) (by
  unfold lP
  rw[if_neg (by simp;omega)]) (lu (by omega))
 have this:aA (lP (rm N fun z=>nx (z:Int))) aT ([v],(bsS nx N v 0).1)=_:=this
 rw[ai this]
end
end D
namespace D
open Go.RowKit
theorem EM {n:Nat} {r:List Int} :(∀t∈r,-1<=t/\t<=(n:Int) - 1)↔ ∀t∈r,-1<=t/\t<(n:Int):=forall_congr' fun t=>forall_congr' fun _=>and_congr Iff.rfl (by omega)
theorem Yz (a:AutT) (h1:a.2.1.length<=9223372036854775807) (h2:a.2.2.length<=9223372036854775807): ∃b,oQ a=some b/\(b=true↔VA a a.2.1.length):=by
 unfold oQ
 rw[Is];simp only[ae,nt h1]
 by_cases c1:0<=a.1/\a.1<=(a.2.1.length:Int) - 1
 case neg=>exact ⟨false,by rw[if_neg (by simpa using c1)],by simp;exact fun h=>c1 ⟨h.start.1,by have:=h.start.2;omega⟩⟩
 rw[if_pos (by simpa using c1)]
 by_cases c2:a.2.2.length=a.2.1.length
 case neg=>exact ⟨false,by rw[if_pos (by simp;omega)],by simp;exact fun h=>c2 h.nlen⟩
 rw[if_neg (by simp;omega)]
 have inner: ∀i:Nat,i<a.2.2.length->(nth a.2.2 i).length=9->(aA (iJ a i) aT 0=some (.brk 9)/\ ∀t∈nth a.2.2 (i:Int),-1<=t/\t<=(a.2.1.length:Int) - 1)\/(aA (iJ a i) aT 0=some (.ret false)/\ ¬ ∀t∈nth a.2.2 (i:Int),-1<=t/\t<=(a.2.1.length:Int) - 1):=by
  intro i hi hr
  have:=scan (f:=iJ a i) (nth a.2.2 (i:Int)) (fun t=> -1<=t/\t<=(a.2.1.length:Int) - 1) false (by omega) (fun j hj=>by
   unfold iJ
   rw[if_pos (by simp;omega),az (by omega) (by omega)];simp only[ae]
   rw[az (by omega) (by omega)];simp only[ae,nt h1]
   rw[Is];simp only[ae,ah (show j<9223372036854775807 by omega)]
   by_cases c: -1<=nth (nth a.2.2 (i:Int)) (j:Int)/\nth (nth a.2.2 (i:Int)) (j:Int)<=(a.2.1.length:Int) - 1
   ·rw[if_pos (by simpa using c),if_pos c]
   ·rw[if_neg (by simpa using c),if_neg c]) (by unfold iJ;rw[if_neg (by simp[hr])])
  rwa [hr] at this
 have outer:=scan (f:=mR a) a.2.2 (fun r=>r.length=9/\ ∀t∈r,-1<=t/\t<=(a.2.1.length:Int) - 1) false h2 (fun i hi=>by
  unfold mR
  rw[if_pos (by simp;omega),az (by omega) (by omega)];simp only[ae]
  by_cases c:(nth a.2.2 (i:Int)).length=9
  ·rw[if_neg (by simp;omega)]
   rcases inner i hi c with ⟨e,k⟩ | ⟨e,k⟩
   ·rw[ai e,if_pos ⟨c,k⟩,ah (show i<9223372036854775807 by omega)]
   ·rw[bs e,if_neg (fun h=>k h.2)]
  ·rw[if_pos (by simp;omega),if_neg (fun h=>c h.1)]) (by unfold mR;rw[if_neg (by simp;omega)])
 rcases outer with ⟨e,k⟩ | ⟨e,k⟩
 ·exact ⟨true,by rw[ai e],by simp;exact ⟨rfl,⟨c1.1,by omega⟩,c2,fun r hr=>(k r hr).1,fun r hr=>EM.1 (k r hr).2⟩⟩
 ·exact ⟨false,by rw[bs e],by simp;exact fun h=>k fun r hr=>⟨h.row r hr,EM.2 (h.ent r hr)⟩⟩
theorem Wm (a:AutT) (h1:a.2.1.length<=9223372036854775807) (h2:a.2.2.length<=9223372036854775807): ∃b,cY a=some b/\(b=true↔a.2.1.length<=12/\VA a a.2.1.length):=by
 unfold cY
 by_cases c:a.2.1.length<=12
 ·rw[if_pos (by simp;omega)]
  obtain ⟨b,e,hb⟩:=Yz a h1 h2
  exact ⟨b,by show (oQ a).bind _=_;rw[e];rfl,by rw[hb];simp[c]⟩
 ·exact ⟨false,by rw[if_neg (by simp;omega)],by simp;exact fun h=>absurd h c⟩
theorem Wn (a:AutT) (h1:a.2.1.length<=9223372036854775807) (h2:a.2.2.length<=9223372036854775807) (h3: ∀r∈a.2.2,r.length<=9223372036854775807): ∃b,cA a=some b/\(b=true↔a.2.1.length<=12/\VA a a.2.1.length):=by
 unfold cA
 rw[Ey];simp only[ae,nt h1]
 by_cases c0:1<=(a.2.1.length:Int)/\(a.2.1.length:Int)<=12
 case neg=>exact ⟨false,by rw[if_neg (by simpa using c0)],by simp;exact fun h h'=>c0 ⟨by have:=h'.start;omega,by omega⟩⟩
 rw[if_pos (by simpa using c0),Ey];simp only[ae]
 by_cases c1:0<=a.1/\a.1<=(a.2.1.length:Int) - 1
 case neg=>exact ⟨false,by rw[if_neg (by simpa using c1)],by simp;exact fun _ h=>c1 ⟨h.start.1,by have:=h.start.2;omega⟩⟩
 rw[if_pos (by simpa using c1)]
 by_cases c2:a.2.2.length=a.2.1.length
 case neg=>exact ⟨false,by rw[if_pos (by simp;omega)],by simp;exact fun _ h=>c2 h.nlen⟩
 rw[if_neg (by simp;omega)]
 have inner: ∀x:List Int,x.length<=9223372036854775807->(aA (cQ a x) aT 0=some (.brk (x.length:Int))/\ ∀t∈x,-1<=t/\t<=(a.2.1.length:Int) - 1)\/(aA (cQ a x) aT 0=some (.ret false)/\ ¬ ∀t∈x,-1<=t/\t<=(a.2.1.length:Int) - 1):=by
  intro x hx
  refine scan (f:=cQ a x) x (fun t=> -1<=t/\t<=(a.2.1.length:Int) - 1) false hx (fun j hj=>?_) (by unfold cQ;rw[if_neg (by simp)])
  unfold cQ
  rw[if_pos (by simp;omega),az (by omega) (by omega)];simp only[ae,nt h1]
  rw[Ey];simp only[ae,ah (show j<9223372036854775807 by omega)]
  by_cases c: -1<=nth x (j:Int)/\nth x (j:Int)<=(a.2.1.length:Int) - 1
  ·rw[if_pos (by simpa using c),if_pos c]
  ·rw[if_neg (by simpa using c),if_neg c]
 have outer:=scan (f:=fc a) a.2.2 (fun r=>(∀t∈r,-1<=t/\t<=(a.2.1.length:Int) - 1)/\r.length=9) false h2 (fun i hi=>by
  unfold fc
  rw[if_pos (by simp;omega),az (by omega) (by omega)];simp only[ae]
  rcases inner (nth a.2.2 (i:Int)) (h3 _ (bI (by omega) (by omega))) with ⟨e,k⟩ | ⟨e,k⟩
  ·rw[ai e]
   by_cases c:(nth a.2.2 (i:Int)).length=9
   ·rw[if_neg (by simp;omega),if_pos ⟨k,c⟩,ah (show i<9223372036854775807 by omega)]
   ·rw[if_pos (by simp;omega),if_neg (fun h=>c h.2)]
  ·rw[bs e,if_neg (fun h=>k h.1)]) (by unfold fc;rw[if_neg (by simp)])
 rcases outer with ⟨e,k⟩ | ⟨e,k⟩
 ·exact ⟨true,by rw[ai e],by simp;exact ⟨by omega,rfl,⟨c1.1,by omega⟩,c2,fun r hr=>(k r hr).2,fun r hr=>EM.1 (k r hr).1⟩⟩
 ·exact ⟨false,by rw[bs e],by simp;exact fun _ h=>k fun r hr=>⟨EM.2 (h.ent r hr),h.row r hr⟩⟩
end D
namespace D
open Go.RowKit
theorem ny (g:GrT):bc g=aS g:=by
 have h0:oO g=fx g:=rfl
 have h1:kJ g=dS g:=by
  funext s
  unfold kJ dS
  split
  ·cases hx:aQ g.2 s with
   | none=>rfl
   | some x=>rfl
  ·rfl
 unfold bc aS
 rw[h0,h1];rfl
def GOOD (g:GrT) (a:AutT):Prop:=GOk g/\a.2.1.length<=12/\VA a a.2.1.length
theorem Po (g:GrT) (a:AutT) (hg:Data.sm g) (ha:Data.sm a): ∃b c,bc g=some b/\aS g=some b/\cY a=some c/\cA a=some c/\(b=true↔Yr g)/\(c=true↔a.2.1.length<=12/\VA a a.2.1.length):=by
 obtain ⟨b,e1,k1⟩:=xj g (bf hg.1).1 (bf hg.2).1
 have hb:=(bf ha.2.1).1
 have hn:=bf ha.2.2
 obtain ⟨c,e2,k2⟩:=Wn a (by omega) (by omega) (fun r hr=>by have:=(bf (hn.2 r hr)).1;omega)
 obtain ⟨c',e3,k3⟩:=Wm a (by omega) (by omega)
 have hc:c'=c:=by
  cases c <;> cases c' <;> simp_all
 subst hc
 exact ⟨b,c',by rw[ny,e1],e1,e3,e2,k1,k2⟩
theorem Wo (g:GrT) (a:AutT) (hg:Data.sm g) (ha:Data.sm a): ∃b c,bc g=some b/\aS g=some b/\cY a=some c/\cA a=some c/\(b=true->GOk g)/\(c=true->a.2.1.length<=12/\VA a a.2.1.length):=by
 obtain ⟨b,c,h1,h2,h3,h4,h5,h6⟩:=Po g a hg ha
 exact ⟨b,c,h1,h2,h3,h4,fun h=>(h5.1 h).1,h6.1⟩
theorem Sn (g:GrT) (a:AutT) (hg:Data.sm g) (ha:Data.sm a) (x:Int): ∃b,jl g a x 0=some b/\de g a [x] =some b/\(b=true↔(Yr g/\GOOD g a)/\0<=x/\x<g.1.length):=by
 obtain ⟨b,c,e1,e2,e3,e4,k1,k2⟩:=Po g a hg ha
 have hl:=(bf hg.1).1
 have hla:=(bf ha.2.1).1
 have ew:i64.wrap ((g.1.length:Int) - 1)=(g.1.length:Int) - 1:=bH (by omega) (by omega)
 have ew2:i64.wrap ((a.2.1.length:Int) - 1)=(a.2.1.length:Int) - 1:=bH (by omega) (by omega)
 have es:jl g a x 0=some (b&&(c&&(decide (0<=x/\x<=(g.1.length:Int) - 1)))):=by
  unfold jl
  have e1:bc (g.1,g.2)=_:=e1
  have e3:cY (a.1,a.2.1,a.2.2)=_:=e3
  rw[e1,e3,Is,Is,ew,ew2];simp only[ae]
  cases b <;> cases c <;> simp only[Bool.false_eq_true,if_false,if_true,Bool.false_and,Bool.true_and]
  by_cases h:0<=x/\x<=(g.1.length:Int) - 1
  ·have:=(k2.1 rfl).2.start
   simp only[h,and_self,decide_true,if_true]
   rw[decide_eq_true (by omega)]
  ·rw[decide_eq_false h];rfl
 have ei:de g a [x] =some (b&&(c&&(decide (0<=x/\x<=(g.1.length:Int) - 1)))):=by
  unfold de
  have e2:aS (g.1,g.2)=_:=e2
  have e4:cA (a.1,a.2.1,a.2.2)=_:=e4
  rcases LR (f:=ep g [x]) 1 (fun _=>0<=x/\x<=(g.1.length:Int) - 1) false (by decide) (fun i hi=>by
   obtain rfl:i=0:=by omega
   unfold ep
   rw[if_pos (by simp),show aQ [x] ((0:Nat):Int)=some x from rfl];simp only[ae]
   rw[Ey,ew];simp only[ae,decide_eq_true_eq]
   split <;> rfl) (by unfold ep;simp) with ⟨k,h⟩ | ⟨k,h⟩
  ·rw[ai k,e2,e4];simp only[ae]
   rw[decide_eq_true (h 0 (by decide))]
   cases b <;> cases c <;> rfl
  ·rw[bs k,decide_eq_false (fun c=>h fun _ _=>c)]
   cases b <;> cases c <;> rfl
 refine ⟨_,es,ei,fun hb=>?_,fun hb=>?_⟩
 ·simp only[ak,decide_eq_true_eq] at hb
  obtain ⟨h1,h2,h3⟩:=hb
  exact ⟨⟨k1.1 h1,(k1.1 h1).1,(k2.1 h2).1,(k2.1 h2).2⟩,h3.1,by omega⟩
 ·simp only[ak,decide_eq_true_eq]
  exact ⟨k1.2 hb.1.1,k2.2 hb.1.2.2,hb.2.1,by have:=hb.2.2;omega⟩
theorem Pp (g:GrT) (a:AutT) (hg:Data.sm g) (ha:Data.sm a) (x:Int): ∃b,jl g a x 0=some b/\de g a [x] =some b/\(b=true->GOOD g a/\0<=x/\x<g.1.length):=by
 obtain ⟨b,h1,h2,h3⟩:=Sn g a hg ha x
 exact ⟨b,h1,h2,fun h=>⟨(h3.1 h).1.2,(h3.1 h).2⟩⟩
def nxC (g:GrT) (a:AutT) (z:Int):List Int:=nbC g a z.toNat
section
variable {g:GrT} {a:AutT} (H:GOOD g a)
include H
theorem GOOD.divmod {x:Int} (h0:0<=x) (h1:x<(a.2.1.length*g.1.length:Nat)):x.toNat / a.2.1.length<g.1.length/\x.toNat % a.2.1.length<a.2.1.length:=by
 have hp:=H.2.2.pos
 exact ⟨(Nat.div_lt_iff_lt_mul hp).2 (by rw[Nat.mul_comm];omega),Nat.mod_lt _ hp⟩
theorem YA (x:Int) (h0:0<=x) (h1:x<(a.2.1.length*g.1.length:Nat)): ∀y∈nxC g a x,0<=y/\y<(a.2.1.length*g.1.length:Nat):=by
 obtain ⟨k1,k2⟩:=H.divmod h0 h1
 exact Yv H.1 H.2.2 H.2.1 k1 k2
theorem Wp {x:Int} (h0:0<=x) (h1:x<(a.2.1.length*g.1.length:Nat)):(nxC g a x).length<=720:=by
 obtain ⟨k1,k2⟩:=H.divmod h0 h1
 have:=th (f:=nbA g a (x.toNat / a.2.1.length) (x.toNat % a.2.1.length)) (B:=30) (xs:=mc g.2 (x.toNat / a.2.1.length)) fun y hy=>Pm H.1 H.2.2 H.2.1 k1 k2 hy
 have l1:=tW g.2 (x.toNat / a.2.1.length)
 have:=H.1.m
 show (nbV g a _ _).length<=720
 unfold nbV
 omega
end
def nxN (g:GrT) (a:AutT) (z:Int):List Int:=if 0<=z/\z<(a.2.1.length*g.1.length:Nat) then nxC g a z else []
section
variable {g:GrT} {a:AutT} (H:GOOD g a)
include H
theorem xp: ∀x:Int,0<=x->x<(a.2.1.length*g.1.length:Nat)-> ∀y∈nxN g a x,0<=y/\y<(a.2.1.length*g.1.length:Nat):=fun x h0 h1=>by
 unfold nxN;rw[if_pos ⟨h0,h1⟩];exact YA H x h0 h1
theorem IG (x:Int):(nxN g a x).length<=720:=by
 unfold nxN;split
 ·rename_i h;exact Wp H h.1 h.2
 ·simp
theorem Wq:fR g a=some (rm (a.2.1.length*g.1.length) fun z=>nxN g a (z:Int)):=by
 rw[Wf H.1 H.2.2 H.2.1]
 congr 1
 refine od fun z hz=>?_
 unfold nxN
 rw[if_pos ⟨by omega,by omega⟩];rfl
theorem So {x:Int} (h0:0<=x) (h1:x<(a.2.1.length*g.1.length:Nat)): ∃l:List Wg,kT g a (He x (a.2.1.length:Int)) (Int.tmod x (a.2.1.length:Int))=some l/\l.map (fun p=>p.2.1*(a.2.1.length:Int)+p.2.2)=nxN g a x/\ ∀p∈l,(0<=p.2.1/\p.2.1<60)/\0<=p.2.2/\p.2.2<60:=by
 obtain ⟨k1,k2⟩:=H.divmod h0 h1
 have hp:=H.2.2.pos
 have hN:=nN H.1 H.2.2 H.2.1
 have e1:He x (a.2.1.length:Int)=((x.toNat / a.2.1.length:Nat):Int):=by
  unfold He
  have:x.tdiv (a.2.1.length:Int)=((x.toNat / a.2.1.length:Nat):Int):=by
   rw[Int.tdiv_eq_ediv_of_nonneg h0]
   rw[show x / (a.2.1.length:Int)=((x.toNat:Nat):Int) / (a.2.1.length:Int) from by rw[Int.toNat_of_nonneg h0]]
   simp
  rw[this,wZ (by have:=H.1.n5;omega)]
 have e2:Int.tmod x (a.2.1.length:Int)=((x.toNat % a.2.1.length:Nat):Int):=by
  rw[Int.tmod_eq_emod_of_nonneg h0]
  rw[show x % (a.2.1.length:Int)=((x.toNat:Nat):Int) % (a.2.1.length:Int) from by rw[Int.toNat_of_nonneg h0]]
  simp
 refine ⟨_,by rw[e1,e2];exact Wi H.1 H.2.2 H.2.1 k1 k2,?_,fun p hp=>?_⟩
 ·rw[Yy];unfold nxN;rw[if_pos ⟨h0,h1⟩];rfl
 ·obtain ⟨y,hy,hp⟩:=List.mem_flatMap.1 hp
  obtain ⟨t,ht,rfl⟩:=List.mem_map.1 hp
  have h2:=(BR H.1 hy).2
  have h3:=(xn H.1 H.2.2 H.2.1 (s:=((x.toNat % a.2.1.length:Nat):Int)) ⟨by omega,by omega⟩ (H.1.val _ (bI (xs:=g.1) (i:=((x.toNat / a.2.1.length:Nat):Int)) (Int.natCast_nonneg _) (Int.ofNat_lt.2 k1))) (BR H.1 hy).1).1 t ht
  have:=H.1.n5
  have:=H.2.1
  exact ⟨⟨h2.1,by simp only;omega⟩,h3.1,by simp only;omega⟩
end
def RKs (g:GrT) (a:AutT) (v:Int):List Int:=(bsS (nxN g a) (a.2.1.length*g.1.length) v (a.2.1.length*g.1.length)).1
theorem EN {nx:Int->List Int} {N:Nat} {v:Int} (hv:0<=v/\v<N) (hn: ∀x:Int,0<=x->x<N-> ∀y∈nx x,0<=y/\y<N) {K:Nat} (hE:K=(bsS nx N v K).2.length): ∀d,bsS nx N v (K+d)=bsS nx N v K
 | 0=>rfl
 | d+1=>by
  have ih:=EN hv hn hE d
  rw[<-Nat.add_assoc,bsS,ih]
  have:(bsS nx N v K).2[K+d]? =none:=List.getElem?_eq_none (by omega)
  rw[this]
section
variable {g:GrT} {a:AutT} (H:GOOD g a) {x:Int} (hx:0<=x/\x<g.1.length)
include H hx
theorem TU:0<=x*(a.2.1.length:Int)+a.1/\x*(a.2.1.length:Int)+a.1<(a.2.1.length*g.1.length:Nat):=by
 obtain ⟨z,rfl⟩: ∃z:Nat,x=(z:Int):=⟨_,(Int.toNat_of_nonneg hx.1).symm⟩
 have hs:=H.2.2.start
 obtain ⟨s,hs'⟩: ∃s:Nat,a.1=(s:Int):=⟨_,(Int.toNat_of_nonneg hs.1).symm⟩
 rw[hs'] at hs⊢
 have:=cN H.1 H.2.2 H.2.1 (x:=z) (s:=s) (by omega) (by omega)
 constructor
 ·exact Int.add_nonneg (Int.mul_nonneg (by omega) (by omega)) (by omega)
 ·exact_mod_cast this
theorem TV:i64.wrap ((i64.wrap (x*(a.2.1.length:Int)))+a.1)=x*(a.2.1.length:Int)+a.1:=by
 have h:=TU H hx
 have hN:=nN H.1 H.2.2 H.2.1
 have hs:=H.2.2.start
 have hn:=H.2.1
 have h5:=H.1.n5
 rw[bH (n:=x*(a.2.1.length:Int)) (by omega) (by omega),bH (by omega) (by omega)]
theorem Z2:BI (a.2.1.length*g.1.length) (bsS (nxN g a) (a.2.1.length*g.1.length) (x*(a.2.1.length:Int)+a.1) (a.2.1.length*g.1.length)):=BT (TU H hx) (xp H) _
theorem Pq:(RKs g a (x*(a.2.1.length:Int)+a.1)).length=a.2.1.length*g.1.length:=(Z2 H hx).len
theorem YB (e:de g a [x] =some true):gQ g a x=some (RKs g a (x*(a.2.1.length:Int)+a.1)):=by
 unfold gQ
 have e:de (g.1,g.2) (a.1,a.2.1,a.2.2) [x] =_:=e
 rw[e];simp only[ae,if_true]
 have e2:fR (g.1,g.2) (a.1,a.2.1,a.2.2)=_:=Wq H
 rw[e2];simp only[ae]
 have hN:=nN H.1 H.2.2 H.2.1
 obtain ⟨K,hK,hE,hR⟩:=Pn (TU H hx) (xp H)
 rw[TV H hx,Sl hN (TU H hx) (xp H) (fun x=>by have:=IG H x;omega) hK hE hR];simp only[ae]
 have hk:bsS (nxN g a) (a.2.1.length*g.1.length) (x*(a.2.1.length:Int)+a.1) K=bsS (nxN g a) (a.2.1.length*g.1.length) (x*(a.2.1.length:Int)+a.1) (a.2.1.length*g.1.length):=by
  have:=EN (TU H hx) (xp H) hE (a.2.1.length*g.1.length - K)
  rw[show K+(a.2.1.length*g.1.length - K)=a.2.1.length*g.1.length from by omega] at this
  exact this.symm
 have hl:=Pq H hx
 rw[hk]
 show ((chk _).bind fun _=>_).bind _=_
 have hv:=TU H hx
 rw[ln (by rw[show (bsS _ _ _ _).1.length=_ from hl];omega)];rfl
theorem Z3 {o1 o2:List Int} {i:Nat} {z:Int} {l:List Wg} (hz:(bsS (nxN g a) (a.2.1.length*g.1.length) (x*(a.2.1.length:Int)+a.1) i).2[i]? =some z)
  (hl:l.map (fun p=>p.2.1*(a.2.1.length:Int)+p.2.2)=nxN g a z) (hp: ∀p∈l,(0<=p.2.1/\p.2.1<60)/\0<=p.2.2/\p.2.2<60) :
  aA (jr a (o1,o2,(i:Int)) l) aT ((bsS (nxN g a) (a.2.1.length*g.1.length) (x*(a.2.1.length:Int)+a.1) i).1,(bsS (nxN g a) (a.2.1.length*g.1.length) (x*(a.2.1.length:Int)+a.1) i).2,0)=some (.brk ((bsS (nxN g a) (a.2.1.length*g.1.length) (x*(a.2.1.length:Int)+a.1) (i+1)).1,(bsS (nxN g a) (a.2.1.length*g.1.length) (x*(a.2.1.length:Int)+a.1) (i+1)).2,(l.length:Int))):=by
 have hN:=nN H.1 H.2.2 H.2.1
 have hv:=TU H hx
 have hnn:=H.2.1
 generalize hV:x*(a.2.1.length:Int)+a.1=v at hz hv⊢
 have hlen:l.length<=720:=by have:=IG H z;rw[<-hl,List.length_map] at this;exact this
 have e:bsS (nxN g a) (a.2.1.length*g.1.length) v (i+1)=Dt (nth (bsS (nxN g a) (a.2.1.length*g.1.length) v i).1 z+1) (bsS (nxN g a) (a.2.1.length*g.1.length) v i) (nxN g a z):=by rw[bsS,hz]
 have:=aU (f:=jr a (o1,o2,(i:Int)) l) (fun j=>((Dt (nth (bsS (nxN g a) (a.2.1.length*g.1.length) v i).1 z+1) (bsS (nxN g a) (a.2.1.length*g.1.length) v i) ((nxN g a z).take j)).1,(Dt (nth (bsS (nxN g a) (a.2.1.length*g.1.length) v i).1 z+1) (bsS (nxN g a) (a.2.1.length*g.1.length) v i) ((nxN g a z).take j)).2,(j:Int))) l.length (fun j hj=>by
  obtain ⟨k1,k2,k3,⟨x0,x1⟩,k4,k5⟩:=Wl hN hv (xp H) (fun x=>by have:=IG H x;omega) hz j
  have hjn:j<(nxN g a z).length:=by rw[<-hl,List.length_map];exact hj
  have hy:=xp H z x0 x1 _ (bI (xs:=nxN g a z) (i:=(j:Int)) (by omega) (by omega))
  have hq:=hp _ (bI (xs:=l) (i:=(j:Int)) (by omega) (by omega))
  have hyl:nth (nxN g a z) (j:Int)=(nth l (j:Int)).2.1*(a.2.1.length:Int)+(nth l (j:Int)).2.2:=by rw[<-hl,VZ (by omega) (by omega)]
  unfold jr
  simp only
  rw[vI hjn,GW]
  generalize Dt (nth (bsS (nxN g a) (a.2.1.length*g.1.length) v i).1 z+1) (bsS (nxN g a) (a.2.1.length*g.1.length) v i) ((nxN g a z).take j)=s at k1 k2 k3 k5
  have hle:=k1.le
  have hsl:=k1.len
  rw[if_pos (by simp;omega),az (by omega) (by omega)];simp only[ae]
  rw[bH (n:=(nth l (j:Int)).2.1*(a.2.1.length:Int)) (by omega) (by omega),<-hyl,bH (by omega) (by omega)]
  rw[az (xs:=s.1) hy.1 (by omega)];simp only[ae]
  rw[show aQ s.2 (i:Int)=some z from by unfold aQ;rw[if_pos (by omega)];exact k2];simp only[ae]
  rw[az (xs:=s.1) x0 (by omega)];simp only[ae]
  rw[aH (by simp;omega),ah (by omega),k3,bH (by omega) (by omega)]
  unfold TS
  by_cases c:nth s.1 (nth (nxN g a z) (j:Int))<0
  ·rw[if_pos (by simpa using c),if_pos c];rfl
  ·rw[if_neg (by simpa using c),if_neg c];rfl) (by unfold jr;simp) (lu (by omega))
 have et:(nxN g a z).take l.length=nxN g a z:=by
  have:l.length=(nxN g a z).length:=by rw[<-hl,List.length_map]
  rw[this,List.take_length]
 rw[et] at this
 rw[e]
 exact this
theorem Wr:nc g a x=some (RKs g a (x*(a.2.1.length:Int)+a.1)):=by
 have hN:=nN H.1 H.2.2 H.2.1
 have hv:=TU H hx
 have hpos:=H.2.2.pos
 unfold nc
 have ew:i64.wrap ((g.1.length:Int)*(a.2.1.length:Int))=((a.2.1.length*g.1.length:Nat):Int):=by
  rw[show ((g.1.length:Int)*(a.2.1.length:Int))=((a.2.1.length*g.1.length:Nat):Int) from by rw[Nat.mul_comm];simp,wZ (by omega)]
 have e0:aA (jq g a) aT (([] :List Int),0)=some (.brk (List.replicate (a.2.1.length*g.1.length) (-1),((a.2.1.length*g.1.length:Nat):Int))):=by
  have:=aU (f:=jq g a) (fun i=>(List.replicate i (-1),(i:Int))) (a.2.1.length*g.1.length) (fun i hi=>by
   unfold jq
   simp only
   rw[ew,if_pos (by simp only[decide_eq_true_eq];omega),aH (by simp;omega),ah (by omega)];simp only[ae]
   rw[List.replicate_succ']) (by unfold jq;simp only;rw[ew,if_neg (by simp)]) (lu (by omega))
  exact this
 rw[ai e0,TV H hx]
 simp only
 generalize hV:x*(a.2.1.length:Int)+a.1=v at hv
 rw[show aQ [v] 0=some v from rfl];simp only[ae]
 rw[az (xs:=List.replicate _ (-1:Int)) hv.1 (by simpa using hv.2)];simp only[ae]
 obtain ⟨K,hK,hE,hR⟩:=Pn hv (xp H)
 have:=aU (f:=jt g a) (fun i=>((bsS (nxN g a) (a.2.1.length*g.1.length) v i).1,(bsS (nxN g a) (a.2.1.length*g.1.length) v i).2,(i:Int))) K (fun i hi=>by
  have hi2:=hR i hi
  obtain ⟨z,hz⟩: ∃z,(bsS (nxN g a) (a.2.1.length*g.1.length) v i).2[i]? =some z:=⟨_,List.getElem?_eq_getElem hi2⟩
  obtain ⟨z0,z1⟩:=(BT hv (xp H) i).rng z (List.mem_of_getElem? hz)
  obtain ⟨l,es,hl,hp⟩:=So H z0 z1
  have es:kT (g.1,g.2) (a.1,a.2.1,a.2.2) (He z (a.2.1.length:Int)) (Int.tmod z (a.2.1.length:Int))=_:=es
  unfold jt
  simp only
  rw[if_pos (by simp only[decide_eq_true_eq];omega)]
  rw[show aQ (bsS (nxN g a) (a.2.1.length*g.1.length) v i).2 (i:Int)=some z from by unfold aQ;rw[if_pos (by omega)];exact hz];simp only[ae]
  rw[ln (by omega),es];simp only[ae]
  have h2:=Z3 H hx (o1:=(bsS (nxN g a) (a.2.1.length*g.1.length) v i).1) (o2:=(bsS (nxN g a) (a.2.1.length*g.1.length) v i).2) (by rw[hV];exact hz) hl hp
  rw[hV] at h2
  rw[ai h2,ah (by omega)]) (by unfold jt;simp only;rw[if_neg (by simp;omega)]) (lu (by omega))
 have this:aA (jt g a) aT ((List.replicate (a.2.1.length*g.1.length) (-1)).set v.toNat 0,[v],0)=_:=this
 rw[ai this]
 simp only
 have:=EN hv (xp H) hE (a.2.1.length*g.1.length - K)
 rw[show K+(a.2.1.length*g.1.length - K)=a.2.1.length*g.1.length from by omega] at this
 unfold RKs
 rw[this]
end
end D
namespace D
open Go.RowKit
theorem uf {c:Prop} [Decidable c] (h:c):chk c=some ():=if_pos h
theorem yr {α:Type} {xs:List α} {i n:Nat} {z:α} (h:i<=xs.length):(qj xs i n z).take i=xs.take i:=by
 unfold qj
 rw[List.take_append_of_le_length (by rw[aB];omega),List.take_take,Nat.min_self]
theorem BU {α:Type} {xs:List α} {i:Nat} {z:α} (h:i<=xs.length):(qj xs i xs.length z).length=xs.length:=yG h (aG _)
theorem EO {α:Type} {ys:List α} {i:Nat} {x:α} (h:i<ys.length):(ys.set i x).take (i+1)=ys.take i++ [x]:=by
 rw[List.take_succ_eq_append_getElem (by simpa using h)]
 simp[List.take_set_of_le]
theorem set_drop {α:Type} {ys:List α} {i j:Nat} {x:α} (h:i<j):(ys.set i x).drop j=ys.drop j:=by
 apply List.ext_getElem?
 intro q
 rw[List.getElem?_drop,List.getElem?_drop,List.getElem?_set_ne (by omega)]
theorem xq {α:Type} {ys xs:List α} {j:Nat} (h:ys.drop j=xs.drop j):ys.drop (j+1)=xs.drop (j+1):=by
 rw[<-List.drop_drop,h,List.drop_drop]
theorem xr {α:Type} {ys xs:List α} {j q:Nat} (h:ys.drop j=xs.drop j) (hq:j<=q) (h1:q<ys.length) (h2:q<xs.length):ys[q] =xs[q]:=by
 have e:=congrArg (fun l=>l[q - j]?) h
 simp only[List.getElem?_drop,show j+(q - j)=q from by omega] at e
 rw[List.getElem?_eq_getElem h1,List.getElem?_eq_getElem h2] at e
 exact af e
section
variable {α:Type} [DecidableEq α]
def rY:List α->List α
 | [] =>[]
 | [a] =>[a]
 | a::b::l=>if a=b then rY (b::l) else a::rY (b::l)
theorem zO {x:α} : ∀ {l:List α},x∈rY l↔x∈l
 | [] =>Iff.rfl
 | [a] =>Iff.rfl
 | a::b::l=>by
  rw[rY]
  split
  ·rename_i e;subst e;rw[zO];simp
  ·rw[List.mem_cons,zO,List.mem_cons (l:=b::l)]
theorem GX: ∀(l:List α) (b:α),l≠ [] ->rY (l++ [b])=if l.getLast? =some b then rY l else rY l++ [b]
 | [],b,h=>absurd rfl h
 | [a],b,_=>by
  by_cases e:a=b
  ·subst e;simp[rY]
  ·simp[rY,e]
 | a::c::l,b,_=>by
  have ih:=GX (c::l) b (by simp)
  have hg:(a::c::l).getLast? =(c::l).getLast? :=by simp[List.getLast?_cons_cons]
  rw[hg]
  show rY (a::c::(l++ [b]))=_
  rw[rY,rY]
  rw[show c::(l++ [b])=(c::l)++ [b] from rfl,ih]
  by_cases e:a=c
  ·rw[if_pos e,if_pos e]
  ·rw[if_neg e,if_neg e]
   split <;> simp
theorem BV {xs:List α} {j:Nat} (h0:0<j) (h:j<xs.length):rY (xs.take (j+1))=if xs[j - 1] =xs[j] then rY (xs.take j) else rY (xs.take j)++ [xs[j]]:=by
 rw[List.take_succ_eq_append_getElem h,GX _ _ (by
  intro e
  have h9:=congrArg List.length e
  rw[aB,Nat.min_eq_left (Nat.le_of_lt h),ax] at h9
  omega)]
 have hg:(xs.take j).getLast? =some xs[j - 1]:=by
  rw[List.getLast?_eq_getElem?,aB,Nat.min_eq_left (Nat.le_of_lt h),List.getElem?_take,if_pos (show j - 1<j by omega),List.getElem?_eq_getElem (show j - 1<xs.length by omega)]
 rw[hg]
 by_cases e:xs[j - 1] =xs[j]
 ·rw[if_pos (by rw[e]),if_pos e]
 ·rw[if_neg (by simpa using e),if_neg e]
theorem GY {xs:List α} : ∀(j:Nat),j<=xs.length->(∀q (hq:q<j) (h0:0<q) (hx:j<=xs.length),xs[q - 1]'(by omega)≠xs[q]'(by omega))->rY (xs.take j)=xs.take j
 | 0,_,_=>by simp[rY]
 | 1,h,_=>by
  cases xs with
  | nil=>simp[rY]
  | cons a l=>simp[rY]
 | j+2,h,hq=>by
  rw[BV (by omega) (by omega),if_neg (hq (j+1) (by omega) (by omega) h),GY (j+1) (by omega) (fun q h1 h2 h3=>hq q (by omega) h2 h),<-List.take_succ_eq_append_getElem]
end
theorem EP: ∀ {l:List Int},l.Pairwise (fun a b=>a<=b)->(rY l).Pairwise (fun a b=>a<b)
 | [],_=>List.Pairwise.nil
 | [a],_=>by simp[rY]
 | a::b::l,h=>by
  obtain ⟨h1,h2⟩:=List.pairwise_cons.1 h
  rw[rY]
  split
  ·exact EP h2
  ·rename_i hn
   refine List.pairwise_cons.2 ⟨fun x hx=>?_,EP h2⟩
   have hab:a<b:=by have:=h1 b (List.mem_cons_self ..);omega
   rcases aD (zO.1 hx) with rfl | hx
   ·exact hab
   ·have:=(List.pairwise_cons.1 h2).1 x hx
    omega
theorem GZ: ∀ {l m:List Int},l.Pairwise (fun a b=>a<b)->m.Pairwise (fun a b=>a<b)->(∀x,x∈l↔x∈m)->l=m
 | [],[],_,_,_=>rfl
 | [],b::m,_,_,h=>absurd ((h b).2 (by simp)) (by simp)
 | a::l,[],_,_,h=>absurd ((h a).1 (by simp)) (by simp)
 | a::l,b::m,h1,h2,h=>by
  obtain ⟨k1,k2⟩:=List.pairwise_cons.1 h1
  obtain ⟨j1,j2⟩:=List.pairwise_cons.1 h2
  have hab:a=b:=by
   have ha:=(h a).1 (by simp)
   have hb:=(h b).2 (by simp)
   rcases aD ha with e | ha
   ·exact e
   ·rcases aD hb with e | hb
    ·exact e.symm
    ·have:=k1 b hb;have:=j1 a ha;omega
  subst hab
  rw[GZ k2 j2 fun x=>?_]
  have:=h x
  rw[List.mem_cons,List.mem_cons] at this
  constructor
  ·intro hx
   rcases this.1 (.inr hx) with e | e
   ·subst e;have:=k1 x hx;omega
   ·exact e
  ·intro hx
   rcases this.2 (.inr hx) with e | e
   ·subst e;have:=j1 x hx;omega
   ·exact e
end D
namespace D
open Go.RowKit
theorem aaL {a b:Int} :(a==b)=decide (a=b):=by rw[Bool.eq_iff_iff];simp
theorem II (xs:List Int) (hl:xs.length<=1073741824):dt xs=some (rY xs):=by
 unfold dt
 by_cases h2:xs.length<2
 ·rw[if_pos (by simp;omega)]
  cases xs with
  | nil=>rfl
  | cons a l =>
   cases l with
   | nil=>rfl
   | cons b l=>simp only[au] at h2;omega
 rw[if_neg (by simp;omega)]
 have key:(aA (b7 xs) aT 1=some (.ret (rY xs)))\/(∃s,aA (b7 xs) aT 1=some (.brk s)/\rY xs=xs):=by
  obtain ⟨o,e,hQ⟩:=cz (f:=b7 xs) (fun t s=>s=((t+1:Nat):Int)/\rY (xs.take (t+1))=xs.take (t+1)) (fun o=>o= .ret (rY xs)\/ ∃s,o= .brk s/\rY xs=xs) (xs.length - 1) (fun t s ht hI=>by
   obtain ⟨rfl,hI⟩:=hI
   unfold b7
   by_cases h1:t+1<xs.length
   ·have hp:((t+1:Nat):Int) - 1=((t:Nat):Int):=by omega
    rw[cF h1,if_pos rfl,aM h1,bH (n:=((t+1:Nat):Int) - 1) (by omega) (by omega),hp,aM (show t<xs.length by omega)]
    simp only[ae,aaL]
    have hn:=BV (xs:=xs) (j:=t+1) (by omega) h1
    rw[hI] at hn
    simp only[Nat.add_sub_cancel] at hn
    by_cases he:xs[t+1] =xs[t]
    ·rw[if_pos (decide_eq_true he),uf (by omega),ae]
     rw[if_pos he.symm] at hn
     have hlt:(xs.take (t+1)).length=t+1:=by rw[aB];omega
     obtain ⟨s,e1,ys,rfl,k1,k2,k3,k4⟩:=dO (f:=cR xs ((t+1:Nat):Int)) (fun u s=> ∃ys:List Int,s=(((rY (xs.take (t+2+u))).length:Int),((u+1:Nat):Int),ys)/\ys.length=xs.length/\ys.take (rY (xs.take (t+2+u))).length=rY (xs.take (t+2+u))/\ys.drop (t+1+u)=xs.drop (t+1+u)/\(rY (xs.take (t+2+u))).length<=t+1+u) (xs.length - (t+2)) (fun u s hu hI=>by
      obtain ⟨ys,rfl,k1,k2,k3,k4⟩:=hI
      have hj:t+2+u<xs.length:=by clear k4 k2;omega
      have hj1:t+1+u<xs.length:=by clear k4 k2;omega
      have hj2:t+2+u<ys.length:=by clear k4 k2;omega
      have hj3:t+1+u<ys.length:=by clear k4 k2;omega
      have a1:(0+((t+1:Nat):Int))+((u+1:Nat):Int)=((t+2+u:Nat):Int):=by omega
      have a2:((u+1:Nat):Int) - 1=((u:Nat):Int):=by omega
      have a3:(0+((t+1:Nat):Int))+((u:Nat):Int)=((t+1+u:Nat):Int):=by omega
      unfold cR
      dsimp only
      rw[if_pos (by simp;omega),uf (by omega)]
      simp only[ae]
      rw[bH (n:=((u+1:Nat):Int) - 1) (by omega) (by omega),a1,a2,a3,aM (xs:=ys) hj2,aM (xs:=ys) hj3,uf (by omega),xr k3 (by omega) hj2 hj,xr k3 (aG _) hj3 hj1]
      simp only[ae,aaL,iN]
      have e9:t+2+u - 1=t+1+u:=by clear k4 k2;omega
      have e8:0<t+2+u:=by clear k4 k2;omega
      have hnx:=BV (xs:=xs) (j:=t+2+u) e8 hj
      simp only[e9] at hnx
      have hd:=xq k3
      rw[show t+1+u+1=t+1+(u+1) from by omega] at hd
      rw[show t+2+(u+1)=t+2+u+1 from by omega,hnx]
      generalize rY (xs.take (t+2+u))=K at *
      by_cases hq:xs[t+2+u] =xs[t+1+u]
      ·rw[if_neg (by simpa using hq),if_pos hq.symm]
       simp only[ae]
       rw[ah (by omega)]
       exact ⟨_,rfl,ys,rfl,k1,k2,hd,by omega⟩
      ·rw[if_pos (by simpa using hq),if_neg (fun e=>hq e.symm),aM (xs:=ys) (show K.length<ys.length by omega)]
       simp only[ae]
       rw[ah (by omega),ah (by omega)]
       refine ⟨_,rfl,ys.set K.length xs[t+2+u],?_,by simpa using k1,?_,?_,?_⟩
       ·rw[aj,List.length_singleton];rfl
       ·rw[aj,List.length_singleton,EO (by omega),k2]
       ·rw[set_drop (by omega)];exact hd
       ·rw[aj,List.length_singleton];omega) (fun s hI=>by
      obtain ⟨ys,rfl,k1,k2,k3,k4⟩:=hI
      unfold cR
      rw[if_neg (by simp;omega)]) (s:=(((t+1:Nat):Int),1,xs)) ⟨xs,by rw[Nat.add_zero,hn,hlt];rfl,rfl,by rw[Nat.add_zero,hn,hlt],rfl,by rw[Nat.add_zero,hn,hlt];omega⟩ (gx _ (by omega))
     refine .inr ⟨.ret (rY xs),?_,fun s' hh=>(by simp at hh),.inl rfl⟩
     rw[ai e1]
     have hall:xs.take (t+2+(xs.length - (t+2)))=xs:=List.take_of_length_le (by omega)
     rw[hall] at k2 k4⊢
     generalize rY xs=K at *
     have q0:K.length<=ys.length:=by omega
     have z1:((0:Int)+((K.length:Nat):Int)).toNat=K.length:=by omega
     have z2:((0:Int)+(((ys.length:Nat):Int) - 0)).toNat=ys.length:=by omega
     simp only[z1,z2]
     have zl:=BU (z:=(0:Int)) q0
     rw[uf (by omega),ae,uf (by omega),ae,uf (by rw[zl];omega),ae,yr q0,k2,List.drop_zero]
    ·rw[if_neg (by simpa using he),ah (by omega)]
     rw[if_neg (fun e=>he e.symm),<-List.take_succ_eq_append_getElem h1] at hn
     exact .inl ⟨by omega,_,rfl,rfl,hn⟩
   ·refine .inr ⟨.brk ((t+1:Nat):Int),?_,fun s' hh=>(by simp at hh),.inr ⟨_,rfl,?_⟩⟩
    ·rw[if_neg (by simp;omega)]
    ·rw[List.take_of_length_le (by omega)] at hI;exact hI) (s:=1) ⟨rfl,GY 1 (by omega) (fun q h1 h0=>by omega)⟩ (gx _ (by omega))
  rcases hQ with rfl | ⟨s,rfl,h⟩
  ·exact .inl e
  ·exact .inr ⟨s,e,h⟩
 rcases key with e | ⟨s,e,h⟩
 ·rw[bs e]
 ·rw[ai e,h]
theorem BW (m:Nat): ∀k,(gf m k).Pairwise (fun a b=>a<b)
 | 0=>List.Pairwise.nil
 | k+1=>by
  rw[lj]
  split
  ·refine List.pairwise_append.2 ⟨BW m k,List.pairwise_singleton _ _,fun a ha b hb=>?_⟩
   obtain ⟨i,hi,_,rfl⟩:=tf.1 ha
   obtain rfl:b=(k:Int):=by simpa using hb
   omega
  ·exact BW m k
theorem Ws {X:List Int} {m:Nat} (h: ∀x∈X,∃i:Nat,i<30/\x=(i:Int)) (hm: ∀i:Nat,i<30->(m.testBit i=true↔(i:Int)∈X)):rY (X.mergeSort fun x y=>decide (x<=y))=gf m 30:=by
 have hp:(X.mergeSort fun x y=>decide (x<=y)).Pairwise (fun a b=>a<=b):=by
  have:=List.pairwise_mergeSort (le:=fun (x y:Int)=>decide (x<=y)) (fun a b c h1 h2=>by
   have h1:=of_decide_eq_true h1;have h2:=of_decide_eq_true h2
   exact decide_eq_true (by omega)) (fun a b=>by
   rw[Bool.or_eq_true,decide_eq_true_eq,decide_eq_true_eq];omega) X
  exact this.imp fun h=>of_decide_eq_true h
 refine GZ (EP hp) (BW m 30) fun x=>?_
 rw[zO,List.mem_mergeSort,tf]
 constructor
 ·intro hx
  obtain ⟨i,hi,rfl⟩:=h x hx
  exact ⟨i,hi,(hm i hi).2 hx,rfl⟩
 ·rintro ⟨i,hi,hb,rfl⟩
  exact (hm i hi).1 hb
end D
namespace D
open Go.RowKit
theorem TW {p:Prop} [Decidable p] (h:p):chk p=some ():=by unfold chk;rw[if_pos h]
theorem Z4 {m:Nat} (hm:m<2 ^ 30):wz (m:Int)=some (gf m 30):=by
 have hm':m<2 ^ 62:=aJ hm (Nat.pow_le_pow_right (by decide) (by decide))
 unfold wz
 have:=aU (f:=ng (m:Int)) (fun i=>(gf m i,(i:Int))) 30 (fun i hi=>by
  have hl:=nw m i
  unfold ng
  simp only
  rw[if_pos (by simp;omega),TW (by omega),BO hm' (by omega),ah (by omega),lj];simp only[ae]
  by_cases b:m.testBit i=true
  ·rw[if_pos b,if_pos b,aH (by simp;omega)];rfl
  ·rw[if_neg b,if_neg b];rfl) (by unfold ng;simp) (by unfold aT;omega)
 have this:aA (ng (m:Int)) aT (([] :List Int),0)=_:=this
 rw[ai this]
theorem IJ (xs:List Int) (h:xs.length<=1000000):lR xs=some (rY (xs.mergeSort fun x y=>decide (x<=y))):=by
 unfold lR jy gq R.RN
 rw[aH (by simp;omega)];simp only[ae,List.nil_append]
 rw[TW (by omega)];simp only[ae]
 rw[II _ (by rw[List.length_mergeSort];omega)];rfl
end D
namespace D
open Go.RowKit
def L8 (a:AutT) (s v:Int):Bool:=decide (∃q∈gf (cS a s v) 30,nth a.2.1 q=true)
section
variable {a:AutT} {n:Nat} (V:VA a n) (hn:n<=12)
include V hn
theorem IK {s v:Int} (hs:0<=s/\s<n) (hv:0<=v/\v<=2):lQ a (vM 1 s) v=some (L8 a s v):=by
 obtain ⟨t,rfl⟩: ∃t:Nat,s=(t:Int):=⟨s.toNat,by omega⟩
 obtain ⟨e1,h1⟩:=qR V hn hs hv
 have hC:cS a (t:Int) v<2 ^ 30:=aJ h1 (Nat.pow_le_pow_right (by decide) (by omega))
 unfold lQ
 rw[yq (by omega),tg (Nat.pow_lt_pow_right (by decide) (by omega)),GT (by omega)];simp only[ae]
 have hlen:=nw (cS a (t:Int) v) 30
 have h0:fS a v [(t:Int)] 0=some (if L8 a (t:Int) v=true then .ret true else .nxt 1):=by
  unfold fS
  rw[if_pos (by simp),show aQ [(t:Int)] 0=some (t:Int) from rfl];simp only[ae]
  have e1:gp (a.1,a.2.1,a.2.2) (t:Int) v=_:=e1
  rw[e1];simp only[ae]
  rw[tg hC];simp only[ae]
  rcases scan (f:=kB a (gf (cS a (t:Int) v) 30)) (gf (cS a (t:Int) v) 30) (fun q=> ¬nth a.2.1 q=true) true (by omega) (fun i hi=>by
   have hq:=xm V hn h1 _ (bI (xs:=gf (cS a (t:Int) v) 30) (i:=(i:Int)) (by omega) (by omega))
   unfold kB
   rw[if_pos (by simp;omega),az (by omega) (by omega)];simp only[ae]
   rw[V.acc hq.1 hq.2,ah (by omega)];simp only[ae]
   cases nth a.2.1 (nth (gf (cS a (t:Int) v) 30) (i:Int)) <;> rfl) (by unfold kB;simp) with ⟨e,h⟩ | ⟨e,h⟩
  ·rw[ai e,if_neg (by unfold L8;rw[decide_eq_true_eq];rintro ⟨q,hq,hqa⟩;exact h q hq hqa)];rfl
  ·rw[bs e,if_pos (by
    unfold L8;rw[decide_eq_true_eq]
    by_cases c: ∃q∈gf (cS a (t:Int) v) 30,nth a.2.1 q=true
    ·exact c
    ·exact absurd (fun q hq hqa=>c ⟨q,hq,hqa⟩) h)]
 have h1':fS a v [(t:Int)] 1=some (.brk 1):=by
  unfold fS;rw[if_neg (by simp)]
 rcases LR (f:=fS a v [(t:Int)]) 1 (fun _=> ¬L8 a (t:Int) v=true) true (by decide) (fun i hi=>by
  obtain rfl:i=0:=by omega
  rw[show ((0:Nat):Int)=0 from rfl,h0]
  cases L8 a (t:Int) v <;> rfl) h1' with ⟨e,h⟩ | ⟨e,h⟩
 ·rw[ai e]
  have:=h 0 (by decide)
  rw[Bool.not_eq_true] at this
  rw[this]
 ·rw[bs e]
  have:L8 a (t:Int) v=true:=by
   cases hb:L8 a (t:Int) v with
   | true=>rfl
   | false=>exact absurd (fun _ _=>by rw[hb];decide) h
  rw[this]
theorem G0 {C:Nat} (hC:C<2 ^ n):aO (aA (gO a (C:Int)) aT 0) (fun r=>some r) (fun _=>some false)=some (decide (∃q∈gf C 30,nth a.2.1 q=true)):=by
 have hC':C<2 ^ 62:=aJ hC (p62 (by omega))
 rcases LR (f:=gO a (C:Int)) n (fun i=> ¬(C.testBit i=true/\nth a.2.1 (i:Int)=true)) true (by omega) (fun i hi=>by
  unfold gO
  rw[V.len,if_pos (by simp;omega),ln (by omega),BO hC' (by omega),V.acc (by omega) (by omega),ah (by omega)];simp only[ae]
  cases C.testBit i <;> cases nth a.2.1 (i:Int) <;> rfl) (by unfold gO;rw[V.len];simp) with ⟨e,h⟩ | ⟨e,h⟩
 ·rw[ai e,decide_eq_false]
  rintro ⟨q,hq,hqa⟩
  have hr:=xm V hn hC q hq
  obtain ⟨i,hi,hb,rfl⟩:=tf.1 hq
  exact h i (by omega) ⟨hb,hqa⟩
 ·rw[bs e,decide_eq_true]
  by_cases c: ∃q∈gf C 30,nth a.2.1 q=true
  ·exact c
  ·exact absurd (fun (i:Nat) (hi:i<n) (hh:C.testBit i=true/\nth a.2.1 (i:Int)=true)=>c ⟨(i:Int),tf.2 ⟨i,by omega,hh.1,rfl⟩,hh.2⟩) h
end
section
variable {g:GrT} {a:AutT} (H:GOOD g a)
include H
theorem Ps {x s:Nat} (hx:x<g.1.length) (hs:s<a.2.1.length):kl g a (x:Int) (s:Int)=some (L8 a (s:Int) (nth g.1 (x:Int))):=by
 have hv:=H.1.val _ (bI (xs:=g.1) (i:=(x:Int)) (by omega) (by omega))
 have ec:=GV H.2.2 H.2.1 (s:=(s:Int)) ⟨by omega,by omega⟩ hv
 have hC:=(qR H.2.2 H.2.1 (s:=(s:Int)) ⟨by omega,by omega⟩ hv).2
 unfold kl
 rw[az (by omega) (by omega)];simp only[ae]
 have ec:gk (a.1,a.2.1,a.2.2) (s:Int) (nth g.1 (x:Int))=_:=ec
 rw[ec];simp only[ae]
 have:=G0 H.2.2 H.2.1 hC
 exact this
end
def Zk (g:GrT) (a:AutT) (R:List Int) (i:Nat):Bool:=decide (0<=nth R (i:Int))&&L8 a ((i % a.2.1.length:Nat):Int) (nth g.1 ((i / a.2.1.length:Nat):Int))
def LU (g:GrT) (a:AutT) (R:List Int):Nat->List Int
 | 0=>[]
 | i+1=>if Zk g a R i=true then LU g a R i++ [((i / a.2.1.length:Nat):Int)] else LU g a R i
def L9 (g:GrT) (a:AutT) (R:List Int):Nat->Nat
 | 0=>0
 | i+1=>if Zk g a R i=true then L9 g a R i ||| 2 ^ (i / a.2.1.length) else L9 g a R i
theorem ER (g:GrT) (a:AutT) (R:List Int): ∀i,(LU g a R i).length<=i
 | 0=>by simp[LU]
 | i+1=>by
  have:=ER g a R i
  rw[LU];split
  ·rw[aj];simp;omega
  ·omega
theorem Pt {x:Nat} {n:Nat} (hx:x<=1000000):He (x:Int) (n:Int)=((x / n:Nat):Int)/\Int.tmod (x:Int) (n:Int)=((x % n:Nat):Int):=by
 refine ⟨?_,?_⟩
 ·unfold He
  rw[Int.tdiv_eq_ediv_of_nonneg (Int.natCast_nonneg _),<-Int.natCast_ediv,wZ (by have:=Nat.div_le_self x n;omega)]
 ·rw[Int.tmod_eq_emod_of_nonneg (Int.natCast_nonneg _),Int.natCast_emod]
section
variable {g:GrT} {a:AutT} (H:GOOD g a) {R:List Int} (hR:R.length=a.2.1.length*g.1.length)
include H
theorem Kh {i:Nat} (hi:i<a.2.1.length*g.1.length):i / a.2.1.length<g.1.length/\i % a.2.1.length<a.2.1.length/\0<a.2.1.length/\g.1.length<=5:=by
 obtain ⟨k1,k2⟩:=H.divmod (x:=(i:Int)) (by omega) (by omega)
 exact ⟨k1,k2,H.2.2.pos,H.1.n5⟩
theorem IL: ∀i,i<=a.2.1.length*g.1.length->L9 g a R i<2 ^ 5
 | 0,_=>by simp[L9]
 | i+1,hi=>by
  have h:=IL i (by omega)
  obtain ⟨k1,k2,k3,k4⟩:=Kh H (i:=i) (by omega)
  rw[L9];split
  ·exact xl h (by omega)
  ·exact h
theorem Pu: ∀i,i<=a.2.1.length*g.1.length-> ∀j:Nat,((L9 g a R i).testBit j=true↔(j:Int)∈LU g a R i)
 | 0,_,j=>by simp[L9,LU]
 | i+1,hi,j=>by
  have h:=Pu i (by omega) j
  rw[L9,LU];split
  ·rw[uN,Bool.or_eq_true,h,List.mem_append,List.mem_singleton,decide_eq_true_eq]
   constructor
   ·rintro (h | h)
    ·exact .inl h
    ·exact .inr (by rw[h])
   ·rintro (h | h)
    ·exact .inl h
    ·exact .inr (Int.ofNat_inj.1 h).symm
  ·exact h
theorem IM: ∀i,i<=a.2.1.length*g.1.length-> ∀x∈LU g a R i,∃j:Nat,j<30/\x=(j:Int)
 | 0,_,x,hx=>by cases hx
 | i+1,hi,x,hx=>by
  obtain ⟨k1,k2,k3,k4⟩:=Kh H (i:=i) (by omega)
  rw[LU] at hx;split at hx
  ·rcases aI hx with hx | hx
   ·exact IM i (by omega) x hx
   ·exact ⟨_,by omega,aw hx⟩
  ·exact IM i (by omega) x hx
include hR
theorem YC:aA (km g a R) aT (0,0)=some (.brk ((L9 g a R (a.2.1.length*g.1.length):Int),((a.2.1.length*g.1.length:Nat):Int))):=by
 have hN:=nN H.1 H.2.2 H.2.1
 have:=aU (f:=km g a R) (fun i=>((L9 g a R i:Int),(i:Int))) (a.2.1.length*g.1.length) (fun i hi=>by
  obtain ⟨k1,k2,k3,k4⟩:=Kh H hi
  obtain ⟨q1,q2⟩:=Pt (x:=i) (n:=a.2.1.length) (by omega)
  have hs:=IL H (R:=R) i (by omega)
  unfold km
  simp only
  rw[if_pos (by simp only[decide_eq_true_eq];omega),az (by omega) (by omega),ln (by omega),q1,q2,ah (by omega)];simp only[ae]
  have ea:kl (g.1,g.2) (a.1,a.2.1,a.2.2) ((i / a.2.1.length:Nat):Int) ((i % a.2.1.length:Nat):Int)=_:=Ps H k1 k2
  rw[ea,L9];simp only[ae]
  unfold Zk
  by_cases c:0<=nth R (i:Int)
  ·rw[if_pos (by simpa using c),decide_eq_true c,Bool.true_and]
   cases L8 a ((i % a.2.1.length:Nat):Int) (nth g.1 ((i / a.2.1.length:Nat):Int)) with
   | false=>rfl
   | true =>
    simp only[if_true]
    rw[ln (Int.natCast_nonneg _),yq (by omega),Kf (aJ hs (Nat.pow_le_pow_right (by decide) (by decide))) (Nat.pow_lt_pow_right (by decide) (by omega))];rfl
  ·rw[if_neg (by simpa using c),decide_eq_false c,Bool.false_and];rfl) (by unfold km;simp only;rw[if_neg (by simp;omega)]) (lu (by omega))
 exact this
theorem YD:aA (fY g a R) aT (([] :List Int),0)=some (.brk (LU g a R (a.2.1.length*g.1.length),((a.2.1.length*g.1.length:Nat):Int))):=by
 have hN:=nN H.1 H.2.2 H.2.1
 have:=aU (f:=fY g a R) (fun i=>(LU g a R i,(i:Int))) (a.2.1.length*g.1.length) (fun i hi=>by
  obtain ⟨k1,k2,k3,k4⟩:=Kh H hi
  obtain ⟨q1,q2⟩:=Pt (x:=i) (n:=a.2.1.length) (by omega)
  have hl:=ER g a R i
  have hv:=H.1.val _ (bI (xs:=g.1) (i:=((i / a.2.1.length:Nat):Int)) (Int.natCast_nonneg _) (Int.ofNat_lt.2 k1))
  unfold fY
  simp only
  rw[if_pos (by simp only[decide_eq_true_eq];omega),az (by omega) (by omega),ln (by omega),q1,q2,ah (by omega),ln (Int.natCast_nonneg _)];simp only[ae]
  have ea:lQ (a.1,a.2.1,a.2.2) (vM 1 ((i % a.2.1.length:Nat):Int)) (nth g.1 ((i / a.2.1.length:Nat):Int))=_:=IK H.2.2 H.2.1 ⟨Int.natCast_nonneg _,Int.ofNat_lt.2 k2⟩ hv
  rw[az (xs:=g.1) (i:=((i / a.2.1.length:Nat):Int)) (Int.natCast_nonneg _) (Int.ofNat_lt.2 k1)];simp only[ae]
  rw[ea,LU];simp only[ae]
  unfold Zk
  by_cases c:0<=nth R (i:Int)
  ·rw[if_pos (by simpa using c),decide_eq_true c,Bool.true_and]
   cases L8 a ((i % a.2.1.length:Nat):Int) (nth g.1 ((i / a.2.1.length:Nat):Int)) with
   | false=>rfl
   | true =>
    simp only[if_true]
    rw[aH (by simp;omega)];rfl
  ·rw[if_neg (by simpa using c),decide_eq_false c,Bool.false_and];rfl) (by unfold fY;simp only;rw[if_neg (by simp;omega)]) (lu (by omega))
 exact this
end
def Wt (g:GrT) (a:AutT) (x:Int):List Int:=gf (L9 g a (RKs g a (x*(a.2.1.length:Int)+a.1)) (a.2.1.length*g.1.length)) 30
theorem ES (g:GrT) (a:AutT) (x:Int):(Wt g a x).length<=30:=nw _ _
section
variable {g:GrT} {a:AutT} (H:GOOD g a) {x:Int} (hx:0<=x/\x<g.1.length)
include H hx
theorem Sp:oS g a x=some (Wt g a x):=by
 unfold oS
 have e:nc (g.1,g.2) (a.1,a.2.1,a.2.2) x=_:=Wr H hx
 have hR:=Pq H hx
 rw[e];simp only[ae]
 rw[ai (YC H hR),Z4 (aJ (IL H _ (aG _)) (Nat.pow_le_pow_right (by decide) (by decide)))];rfl
theorem YE (e:de g a [x] =some true):jB g a x=some (Wt g a x):=by
 have hN:=nN H.1 H.2.2 H.2.1
 have hp:=H.2.2.pos
 have h1:=H.1.n1
 have hpp:0<a.2.1.length*g.1.length:=Nat.mul_pos hp (by omega)
 unfold jB
 have e:gQ (g.1,g.2) (a.1,a.2.1,a.2.2) x=_:=YB H hx e
 have hR:=Pq H hx
 rw[e];simp only[ae]
 have hl:=ER g a (RKs g a (x*(a.2.1.length:Int)+a.1)) (a.2.1.length*g.1.length)
 rw[if_neg (by simp only[decide_eq_true_eq];omega),ai (YD H hR),IJ _ (by simp only;omega)];simp only[ae]
 unfold Wt
 rw[Ws (IM H _ (aG _)) fun i _=>Pu H _ (aG _) i]
end
theorem Sq (g:GrT) (a:AutT) (hg:Data.sm g) (ha:Data.sm a): ∃b,jl g a 0 0=some b/\de g a [] =some b/\(b=true->GOOD g a/\ ∀x:Int,0<=x->x<g.1.length->de g a [x] =some true):=by
 obtain ⟨b,c,e1,e2,e3,e4,k1,k2⟩:=Wo g a hg ha
 obtain ⟨b',es,ei,k⟩:=Pp g a hg ha 0
 have e2':aS (g.1,g.2)=_:=e2
 have e4':cA (a.1,a.2.1,a.2.2)=_:=e4
 have hl:=(bf hg.1).1
 have ew:i64.wrap ((g.1.length:Int) - 1)=(g.1.length:Int) - 1:=bH (by omega) (by omega)
 have en:de g a [] =some (b&&c):=by
  unfold de
  have:aA (ep g []) aT 0=some (.brk 0):=by
   have:=aU (f:=ep g []) (fun _=>(0:Int)) 0 (fun i hi=>absurd hi (Nat.not_lt_zero _)) (by unfold ep;simp) (by unfold aT;omega)
   exact this
  rw[ai this,e2',e4']
  cases b <;> cases c <;> rfl
 have e0: ∀x:Int,de g a [x] =if 0<=x/\x<=(g.1.length:Int) - 1 then some (b&&c) else some false:=fun x=>by
  unfold de
  rcases LR (f:=ep g [x]) 1 (fun _=>0<=x/\x<=(g.1.length:Int) - 1) false (by decide) (fun i hi=>by
   obtain rfl:i=0:=by omega
   unfold ep
   rw[if_pos (by simp),show aQ [x] ((0:Nat):Int)=some x from rfl];simp only[ae]
   rw[Ey,ew];simp only[ae,decide_eq_true_eq]
   split <;> rfl) (by unfold ep;simp) with ⟨k,h⟩ | ⟨k,h⟩
  ·rw[ai k,e2',e4',if_pos (h 0 (by decide))]
   cases b <;> cases c <;> rfl
  ·rw[bs k,if_neg (fun c=>h fun _ _=>c)]
 have hbb:b'=(b&&c):=by
  have h:=e0 0
  rw[ei] at h
  by_cases c0:(0:Int)<=0/\(0:Int)<=(g.1.length:Int) - 1
  ·rw[if_pos c0] at h;exact af h
  ·rw[if_neg c0] at h
   have:b'=false:=af h
   rw[this]
   cases b with
   | false=>rfl
   | true=>have:=(k1 rfl).n1;omega
 refine ⟨b',es,by rw[en,hbb],fun hb=>⟨(k hb).1,fun x h0 h1=>?_⟩⟩
 rw[e0,if_pos ⟨h0,by omega⟩,<-hbb,hb]
def TX (g:GrT) (a:AutT):Nat->List (Int×Int)
 | 0=>[]
 | x+1=>TX g a x++(Wt g a (x:Int)).map fun y=>((x:Int),y)
theorem zP (g:GrT) (a:AutT): ∀x,(TX g a x).length<=30*x
 | 0=>by simp[TX]
 | x+1=>by
  have h1:=zP g a x
  have h2:=ES g a (x:Int)
  rw[TX,aj,List.length_map];omega
theorem Ki {f:Yq4×Int->Option (Out Yq4 (Yq4×Int))} {l:List Int} {x:Int} {o:List (Int×Int)} (hl:l.length<=30) (ho:o.length<=1000)
  (hf: ∀(o:List (Int×Int)) (j:Nat),j<l.length->o.length<=2000->f (o,(j:Int))=some (.nxt (o++ [(x,nth l (j:Int))],((j+1:Nat):Int)))) (he: ∀o,f (o,(l.length:Int))=some (.brk (o,(l.length:Int)))) :
  aA f aT (o,0)=some (.brk (o++l.map fun y=>(x,y),(l.length:Int))):=by
 have:=aU (f:=f) (fun j=>(o++(l.take j).map fun y=>(x,y),(j:Int))) l.length (fun j hj=>by
  rw[hf _ j hj (by rw[aj,List.length_map,aB];omega),vI hj,aN,al];rfl) (he _) (lu (by omega))
 rw[List.take_length] at this
 simpa using this
theorem Sr (g:GrT) (a:AutT) (hg:Data.sm g) (ha:Data.sm a): ∃(b:Bool) (l:List (Int×Int)),de g a [] =some b/\gl g a=some l/\fh g a=some l/\l.length<=150/\(b=false->l= [])/\(b=true->GOOD g a/\l=TX g a g.1.length):=by
 obtain ⟨b,es,ei,hb⟩:=Sq g a hg ha
 refine ⟨b,?_⟩
 have ei0:=ei
 have es:jl (g.1,g.2) (a.1,a.2.1,a.2.2) 0 0=_:=es
 have ei:de (g.1,g.2) (a.1,a.2.1,a.2.2) [] =_:=ei
 have hl:=(bf hg.1).1
 unfold gl fh
 rw[ei];simp only[ae]
 cases b with
 | false =>
  refine ⟨[],(by first | exact ei0 | trivial),?_,rfl,by decide,fun _=>rfl,fun h=>by cases h⟩
  have:=aU (f:=dP g a) (fun _=>(([] :List (Int×Int)),(0:Int))) 0 (fun i hi=>absurd hi (Nat.not_lt_zero _)) (by
   unfold dP
   rw[es];simp only[ae,Bool.false_eq_true,if_false]
   split <;> rfl) (by unfold aT;omega)
  rw[ai this]
 | true =>
  obtain ⟨H,hok⟩:=hb rfl
  have h5:=H.1.n5
  refine ⟨TX g a g.1.length,(by first | exact ei0 | trivial),?_,?_,by have:=zP g a g.1.length;omega,(fun h=>by cases h),fun _=>⟨H,rfl⟩⟩
  ·have:=aU (f:=dP g a) (fun x=>(TX g a x,(x:Int))) g.1.length (fun x hx=>by
    have h1:=zP g a x
    have h2:=ES g a (x:Int)
    unfold dP
    simp only
    have ef:oS (g.1,g.2) (a.1,a.2.1,a.2.2) (x:Int)=_:=Sp H (x:=(x:Int)) ⟨by omega,by omega⟩
    rw[if_pos (by simp only[decide_eq_true_eq];omega),es,ef];simp only[ae,if_true]
    rw[ai (Ki (x:=(x:Int)) (l:=Wt g a (x:Int)) h2 (by omega) (fun o j hj ho=>by
     unfold mw
     simp only
     rw[if_pos (by simp;omega),az (by omega) (by omega)];simp only[ae]
     rw[aH (by simp;omega),ah (by omega)];rfl) (fun o=>by unfold mw;simp)),ah (by omega)]
    rfl) (by unfold dP;simp) (lu (by omega))
   have this:aA (dP g a) aT (([] :List (Int×Int)),0)=_:=this
   rw[ai this]
  ·simp only[if_true]
   have:=aU (f:=gR g a) (fun x=>(TX g a x,(x:Int))) g.1.length (fun x hx=>by
    have h1:=zP g a x
    have h2:=ES g a (x:Int)
    unfold gR
    simp only
    have ef:jB (g.1,g.2) (a.1,a.2.1,a.2.2) (x:Int)=_:=YE H (x:=(x:Int)) ⟨by omega,by omega⟩ (hok _ (by omega) (by omega))
    rw[if_pos (by simp only[decide_eq_true_eq];omega),ef];simp only[ae]
    rw[ai (Ki (x:=(x:Int)) (l:=Wt g a (x:Int)) h2 (by omega) (fun o j hj ho=>by
     unfold mB
     simp only
     rw[if_pos (by simp;omega),az (by omega) (by omega)];simp only[ae]
     rw[aH (by simp;omega),ah (by omega)];rfl) (fun o=>by unfold mB;simp)),ah (by omega)]
    rfl) (by unfold gR;simp) (lu (by omega))
   have this:aA (gR g a) aT (([] :List (Int×Int)),0)=_:=this
   rw[ai this]
theorem Kj (g:GrT) (a:AutT) (hg:Data.sm g) (ha:Data.sm a): ∃l,gl g a=some l/\fh g a=some l/\l.length<=150:=by
 obtain ⟨b,l,-,h1,h2,h3,-⟩:=Sr g a hg ha
 exact ⟨l,h1,h2,h3⟩
end D
set_option synthInstance.maxSize 20000
set_option synthInstance.maxHeartbeats 2000000
namespace D
open Go.RowKit
theorem G5 {r:qd} (hr:Data.sm r) {g:GrT} (hg:Data.sm g) (id:Int): ∃(l:List (Int×Int)) (b:Bool),bd r g id=some (l,b)/\cx r g id=some (l,b)/\l.length<=150/\ ∃(a:AutT) (q v:Bool),dC r id=some (a,q)/\Data.sm a/\bc g=some v/\b=(q&&v)/\(b=false->l= [])/\(b=true->fh g a=some l):=by
 obtain ⟨⟨a,q⟩,es,ei,sa⟩:=Dr hr id
 obtain ⟨b,e1,k1⟩:=EJ g (bf hg.1).1 (bf hg.2).1
 have es:dC (r.1,r.2) id=_:=es
 have ei:eP (r.1,r.2) id=_:=ei
 have e2:bc (g.1,g.2)=some b:=by rw[ny];exact e1
 have e1:aS (g.1,g.2)=_:=e1
 obtain ⟨l,f1,f2,hl⟩:=Kj g a hg sa
 have f1:gl (g.1,g.2) (a.1,a.2.1,a.2.2)=_:=f1
 have f2:fh (g.1,g.2) (a.1,a.2.1,a.2.2)=_:=f2
 unfold bd cx
 rw[es,ei,e1,e2];simp only[ae]
 rw[f1,f2]
 cases q with
 | false=>exact ⟨[],false,rfl,rfl,by decide,a,false,b,(by first | exact es | rfl),sa,(by first | exact e2 | rfl),rfl,fun _=>rfl,fun h=>by cases h⟩
 | true =>
  cases b with
  | false=>exact ⟨[],false,rfl,rfl,by decide,a,true,false,(by first | exact es | rfl),sa,(by first | exact e2 | rfl),rfl,fun _=>rfl,fun h=>by cases h⟩
  | true=>exact ⟨l,true,rfl,rfl,hl,a,true,true,(by first | exact es | rfl),sa,(by first | exact e2 | rfl),rfl,(fun h=>by cases h),fun _=>(by first | exact f2 | rfl)⟩
theorem G6 {r:qd} (hr:Data.sm r) {g:GrT} (hg:Data.sm g) (id:Int): ∃(l:List (Int×Int)) (b:Bool),bd r g id=some (l,b)/\cx r g id=some (l,b)/\l.length<=150:=by
 obtain ⟨l,b,h1,h2,h3,-⟩:=G5 hr hg id
 exact ⟨l,b,h1,h2,h3⟩
end D
namespace D
abbrev Pr:=Int×Int
def ltP (a b:Pr):Prop:=a.1<b.1\/a.1=b.1/\a.2<b.2
instance (a b:Pr):Decidable (ltP a b):=inferInstanceAs (Decidable (_\/_))
theorem Pv (a:Pr): ¬ltP a a:=by unfold ltP;omega
theorem G7 {a b c:Pr} (h:ltP a b) (k:ltP b c):ltP a c:=by unfold ltP at *;omega
theorem Pw {a b:Pr} (h:ltP a b): ¬ltP b a:=by unfold ltP at *;omega
theorem IN (a b:Pr):ltP a b\/a=b\/ltP b a:=by
 unfold ltP
 by_cases h:a=b
 ·exact .inr (.inl h)
 ·have: ¬(a.1=b.1/\a.2=b.2):=fun e=>h (Prod.ext e.1 e.2)
  omega
abbrev Str (l:List Pr):Prop:=l.Pairwise ltP
theorem ET: ∀ {l m:List Pr},Str l->Str m->(∀x,x∈l↔x∈m)->l=m
 | [],[],_,_,_=>rfl
 | [],b::m,_,_,h=>absurd ((h b).2 (List.mem_cons_self ..)) (by simp)
 | a::l,[],_,_,h=>absurd ((h a).1 (List.mem_cons_self ..)) (by simp)
 | a::l,b::m,hl,hm,h=>by
  obtain ⟨l1,l2⟩:=List.pairwise_cons.1 hl
  obtain ⟨m1,m2⟩:=List.pairwise_cons.1 hm
  have hab:a=b:=by
   rcases aD ((h a).1 (List.mem_cons_self ..)) with e | e
   ·exact e
   ·rcases aD ((h b).2 (List.mem_cons_self ..)) with f | f
    ·exact f.symm
    ·exact absurd (m1 a e) (Pw (l1 b f))
  subst hab
  rw[ET l2 m2 fun x=>?_]
  constructor
  ·intro hx
   rcases aD ((h x).1 (bX _ hx)) with e | e
   ·subst e;exact absurd (l1 x hx) (Pv x)
   ·exact e
  ·intro hx
   rcases aD ((h x).2 (bX _ hx)) with e | e
   ·subst e;exact absurd (m1 x hx) (Pv x)
   ·exact e
def ahd (p:Pr):List Pr->Nat
 | [] =>0
 | a::l=>if ltP a p then ahd p l+1 else 0
theorem Px (p:Pr): ∀l:List Pr,ahd p l<=l.length
 | [] =>aG _
 | a::l=>by
  unfold ahd
  split
  ·have:=Px p l;rw[au];omega
  ·exact Nat.zero_le _
theorem TY (p:Pr): ∀(l:List Pr) (i:Nat),i<ahd p l-> ∃x,l[i]? =some x/\ltP x p
 | [],i,h=>by simp[ahd] at h
 | a::l,i,h=>by
  unfold ahd at h
  split at h
  ·rename_i ha
   cases i with
   | zero=>exact ⟨a,rfl,ha⟩
   | succ i =>
    obtain ⟨x,h1,h2⟩:=TY p l i (by omega)
    exact ⟨x,by simpa using h1,h2⟩
  ·omega
theorem T0 (p:Pr): ∀(l:List Pr) x,l[ahd p l]? =some x-> ¬ltP x p
 | [],x,h=>by simp at h
 | a::l,x,h=>by
  unfold ahd at h
  split at h
  ·exact T0 p l x (by simpa using h)
  ·rename_i ha
   simp at h
   subst h;exact ha
def put (l:List Pr) (p:Pr):List Pr:=if l[ahd p l]? =some p then l else l.take (ahd p l)++p::l.drop (ahd p l)
theorem Kk (a:Pr) (l:List Pr) (p:Pr):put (a::l) p=if ltP a p then a::put l p else if a=p then a::l else p::a::l:=by
 unfold put
 by_cases h:ltP a p
 ·have e:ahd p (a::l)=ahd p l+1:=by rw[ahd,if_pos h]
  rw[e,if_pos h]
  by_cases k:l[ahd p l]? =some p
  ·rw[if_pos (by simpa using k),if_pos k]
  ·rw[if_neg (by simpa using k),if_neg k];rfl
 ·have e:ahd p (a::l)=0:=by rw[ahd,if_neg h]
  rw[e,if_neg h]
  by_cases k:a=p
  ·rw[if_pos (by simp[k]),if_pos k]
  ·rw[if_neg (by simpa using k),if_neg k];rfl
theorem IP {x p:Pr} : ∀l:List Pr,x∈put l p↔x=p\/x∈l
 | [] =>by simp[put,ahd]
 | a::l=>by
  rw[Kk]
  split
  ·rw[List.mem_cons,IP l,List.mem_cons];grind
  ·split
   ·rename_i e;subst e;rw[List.mem_cons];grind
   ·rw[List.mem_cons]
theorem Py {p:Pr} : ∀ {l:List Pr},Str l->Str (put l p)
 | [],_=>by simp[put,ahd]
 | a::l,h=>by
  obtain ⟨h1,h2⟩:=List.pairwise_cons.1 h
  rw[Kk]
  split
  ·rename_i ha
   refine List.pairwise_cons.2 ⟨fun x hx=>?_,Py h2⟩
   rcases (IP l).1 hx with rfl | hx
   ·exact ha
   ·exact h1 x hx
  ·rename_i ha
   split
   ·exact h
   ·rename_i hn
    have hp:ltP p a:=by
     rcases IN p a with c | c | c
     ·exact c
     ·exact absurd c.symm hn
     ·exact absurd c ha
    refine List.pairwise_cons.2 ⟨fun x hx=>?_,h⟩
    rcases aD hx with rfl | hx
    ·exact hp
    ·exact G7 hp (h1 x hx)
def y6 (l m:List Pr):List Pr:=m.foldl put l
theorem EU: ∀ {m l:List Pr},Str l->Str (y6 l m)
 | [],l,h=>h
 | p::m,l,h=>EU (m:=m) (Py h)
theorem zQ {x:Pr} : ∀ {m l:List Pr},x∈y6 l m↔x∈l\/x∈m
 | [],l=>by simp[y6]
 | p::m,l=>by
  show x∈y6 (put l p) m↔_
  rw[zQ,IP,List.mem_cons];grind
def nub:List Pr->List Pr
 | [] =>[]
 | [a] =>[a]
 | a::b::l=>if a=b then nub (b::l) else a::nub (b::l)
theorem EV {x:Pr} : ∀ {l:List Pr},x∈nub l↔x∈l
 | [] =>Iff.rfl
 | [a] =>Iff.rfl
 | a::b::l=>by
  rw[nub]
  split
  ·rename_i e;subst e;rw[EV];simp
  ·rw[List.mem_cons,EV,List.mem_cons (l:=b::l)]
theorem IQ: ∀ {l:List Pr},l.Pairwise (fun a b=> ¬ltP b a)->Str (nub l)
 | [],_=>List.Pairwise.nil
 | [a],_=>by simp[nub]
 | a::b::l,h=>by
  obtain ⟨h1,h2⟩:=List.pairwise_cons.1 h
  rw[nub]
  split
  ·exact IQ h2
  ·rename_i hn
   refine List.pairwise_cons.2 ⟨fun x hx=>?_,IQ h2⟩
   have hab:ltP a b:=by
    rcases IN a b with c | c | c
    ·exact c
    ·exact absurd c hn
    ·exact absurd c (h1 b (List.mem_cons_self ..))
   rcases aD (EV.1 hx) with rfl | hx
   ·exact hab
   ·rcases IN b x with c | c | c
    ·exact G7 hab c
    ·subst c;exact hab
    ·exact absurd c ((List.pairwise_cons.1 h2).1 x hx)
theorem LW {l:List Pr} {f:Pr->Bool} (h:Str l):Str (l.filter f):=List.Pairwise.filter _ h
end D
namespace D
open Go.RowKit
theorem yt {α R:Type} {f:Int->Option (Out R Int)} (l:List α) (b:α->Bool) (r:Nat->R) (hN:l.length<=9223372036854775807) (h: ∀i (hi:i<l.length),f (i:Int)=some (if b l[i] then .ret (r i) else .nxt ((i+1:Nat):Int))) (he:f (l.length:Int)=some (.brk (l.length:Int))) :
  (∃(i:Nat) (hi:i<l.length),b l[i] =true/\(∀j (hj:j<i),b (l[j]'(by omega))=false)/\aA f aT 0=some (.ret (r i)))\/((∀x,x∈l->b x=false)/\aA f aT 0=some (.brk (l.length:Int))):=by
 obtain ⟨o,e,hQ⟩:=cz (f:=f) (fun i s=>s=(i:Int)/\ ∀j (hj:j<l.length),j<i->b l[j] =false) (fun o=>(∃(i:Nat) (hi:i<l.length),b l[i] =true/\(∀j (hj:j<i),b (l[j]'(by omega))=false)/\o= .ret (r i))\/((∀x,x∈l->b x=false)/\o= .brk (l.length:Int))) l.length (fun i s hi hI=>by
  obtain ⟨rfl,hI⟩:=hI
  by_cases h1:i<l.length
  ·cases hb:b l[i] with
   | true=>exact .inr ⟨_,by rw[h i h1,hb,if_pos rfl],fun s' hh=>by simp at hh,.inl ⟨i,h1,hb,fun j hj=>hI j (by omega) hj,by simp⟩⟩
   | false=>exact .inl ⟨h1,_,by rw[h i h1,hb,if_neg (by simp)],rfl,fun j hj hji=>by
     by_cases c:j=i
     ·subst c;exact hb
     ·exact hI j hj (by omega)⟩
  ·obtain rfl:i=l.length:=by omega
   exact .inr ⟨_,he,fun s' hh=>by simp at hh,.inr ⟨fun x hx=>by
    obtain ⟨j,hj,rfl⟩:=List.getElem_of_mem hx
    exact hI j hj hj,rfl⟩⟩) (s:=0) ⟨rfl,fun j hj h0=>by omega⟩ (gx _ hN)
 rcases hQ with ⟨i,hi,h1,h2,rfl⟩ | ⟨h1,rfl⟩
 ·exact .inl ⟨i,hi,h1,h2,e⟩
 ·exact .inr ⟨h1,e⟩
section
variable {l m:List Pr} {p:Pr}
theorem YF {a b:Pr} :((a.1==b.1)&&((a.2==b.2)&&true))=decide (a=b):=by
 rw[Bool.eq_iff_iff];simp[Prod.ext_iff]
theorem Z5 {a b:Pr} :(Bool.and.match_1 (fun (_:Bool)=>Bool) (a.1==b.1) (fun (_:Unit)=>false) (fun (_:Unit)=>Bool.and.match_1 (fun (_:Bool)=>Bool) (a.2==b.2) (fun (_:Unit)=>false) (fun (_:Unit)=>true)))=decide (a=b):=YF
theorem LX (hl:l.length<=1073741824):my l p=some (decide (p∈l)):=by
 unfold my
 rcases yt (f:=nR l p) l (fun x=>decide (x=p)) (fun _=>true) (by omega) (fun i hi=>by
   unfold nR
   rw[cF hi,if_pos rfl,aM hi]
   simp only[ae,YF,ah (show i<9223372036854775807 by omega)]
   split <;> rfl) (by
   unfold nR
   rw[cm];rfl) with ⟨i,hi,h1,-,e⟩ | ⟨h1,e⟩
 ·rw[bs e,decide_eq_true (by rw[<-of_decide_eq_true h1];exact List.getElem_mem hi)]
 ·rw[ai e,decide_eq_false fun hm=>by have:=h1 p hm;simp at this]
theorem Z6 (hl:l.length<=1073741824): ∃r:Int,du l p=some r/\(0<=r↔p∈l):=by
 unfold du
 rcases yt (f:=cT l p) l (fun x=>decide (p=x)) (fun i=>(i:Int)) (by omega) (fun i hi=>by
   unfold cT
   rw[cF hi,if_pos rfl,aM hi]
   simp only[ae,YF,ah (show i<9223372036854775807 by omega)]
   split <;> rfl) (by
   unfold cT
   rw[cm];rfl) with ⟨i,hi,h1,-,e⟩ | ⟨h1,e⟩
 ·exact ⟨_,bs e,by
   have:p∈l:=by rw[of_decide_eq_true h1];exact List.getElem_mem hi
   simp[this]⟩
 ·exact ⟨_,ai e,by
   have:p∉l:=fun hm=>by have:=h1 p hm;simp at this
   simp[this]⟩
theorem YG (hl:l.length<=1073741824):b8 l p=some (decide (p∈l)):=by
 unfold b8
 obtain ⟨r,e,h⟩:=Z6 (l:=l) (p:=p) hl
 rw[iN,e,ae]
 congr 1
 rw[Bool.eq_iff_iff,decide_eq_true_iff,decide_eq_true_iff]
 exact h
theorem T1 {d:Pr->Bool} {f:Pr->Option Bool} (hf: ∀x,f x=some (d x)) (hl:l.length<=1073741824) :
  (∃(i:Nat) (hi:i<l.length),d l[i] =true/\(∀j (hj:j<i),d (l[j]'(by omega))=false)/\bB l f=some (i:Int))\/((∀x,x∈l->d x=false)/\bB l f=some (-1)):=by
 unfold bB
 rcases yt (f:=ct l f) l d (fun i=>(i:Int)) (by omega) (fun i hi=>by
   unfold ct
   rw[cF hi,if_pos rfl,aM hi]
   simp only[ae,iN,hf,ah (show i<9223372036854775807 by omega)]
   split <;> rfl) (by
   unfold ct
   rw[cm];rfl) with ⟨i,hi,h1,h2,e⟩ | ⟨h1,e⟩
 ·exact .inl ⟨i,hi,h1,h2,bs e⟩
 ·exact .inr ⟨h1,ai e⟩
theorem Kl (hl:l.length<=1073741824) (hm:m.length<=1073741824):ko l m=some (decide (∃x,x∈l/\x∈m)):=by
 unfold ko dh
 rcases T1 (l:=l) (d:=fun x=>decide (x∈m)) (f:=fun a0=>kC a0 m) (fun x=>by unfold kC;rw[iN,YG hm];rfl) hl with ⟨i,hi,h1,-,e⟩ | ⟨h1,e⟩
 ·rw[e]
  simp only[ae]
  congr 1
  rw[Bool.eq_iff_iff,decide_eq_true_iff,decide_eq_true_iff]
  exact ⟨fun _=>⟨_,List.getElem_mem hi,of_decide_eq_true h1⟩,fun _=>by omega⟩
 ·rw[e]
  simp only[ae]
  congr 1
  rw[Bool.eq_iff_iff,decide_eq_true_iff,decide_eq_true_iff]
  exact ⟨fun h=>by omega,fun ⟨x,h2,h3⟩=>by have:=h1 x h2;simp[h3] at this⟩
theorem Pz (a b:Pr):mz a b=some (decide (ltP a b)):=by
 unfold mz ltP
 by_cases h:a.1<b.1
 ·simp[h]
 ·by_cases k:a.1=b.1 <;> simp[h,k]
theorem YH (a b:Pr): ∃r:Int,iD a b=some r/\(0<=r↔ ¬ltP a b):=by
 unfold iD lS ltP
 by_cases k:a.1=b.1
 ·by_cases h:a.2<b.2
  ·exact ⟨-1,by simp[k,h],by simp[k,h]⟩
  ·by_cases h2:b.2<a.2
   ·exact ⟨1,by simp[k,h,h2],by simp[k,h]⟩
   ·exact ⟨0,by simp[k,h,h2],by simp[k,h]⟩
 ·by_cases h:a.1<b.1
  ·exact ⟨-1,by simp[k,h],by simp[k,h]⟩
  ·have h2:b.1<a.1:=by omega
   exact ⟨1,by simp[k,h,h2],by simp[k,h]⟩
theorem rA:jD l=fZ l:=by
 unfold jD fZ
 have e:oW l=jC l:=by
  funext s
  unfold oW jC
  have hw:dq=bS:=rfl
  rw[hw]
  cases hg:aQ l s with
  | none=>rfl
  | some x =>
   have hk: ∀y:Pr,((mz (y.1,y.2) (x.1,x.2)).bind fun r9=>if r9=true then some (Out.nxt (R:=Bool) (i64.wrap (s+1))) else some (Out.ret false))=((iD (y.1,y.2) (x.1,x.2)).bind fun r9=>if decide (r9≥0)=true then some (Out.ret false) else some (Out.nxt (i64.wrap (s+1)))):=fun y=>by
    rw[Pz]
    obtain ⟨r,e,h⟩:=YH (y.1,y.2) (x.1,x.2)
    rw[e]
    simp only[ae,iN] at h⊢
    by_cases c:ltP y x
    ·rw[if_pos (decide_eq_true c),if_neg (by simpa using fun q=>(h.1 q) c)]
    ·rw[if_neg (by simpa using c),if_pos (by simpa using h.2 c)]
   simp only[ae,hk]
 rw[e]
end
end D
namespace D
open Go.RowKit
theorem Wu (l:List Pr) (p:Pr):(put l p).length<=l.length+1:=by
 have:=Px p l
 unfold put
 split
 ·omega
 ·rw[aj,aB,au,aY];omega
theorem pP: ∀(m l:List Pr),(y6 l m).length<=l.length+m.length
 | [],l=>aG _
 | p::m,l=>by
  have h1:=pP m (put l p)
  have h2:=Wu l p
  show (y6 (put l p) m).length<=_
  rw[au];omega
theorem BX (l m:List Pr) (p:Pr):y6 l (m++ [p])=put (y6 l m) p:=by simp[y6]
theorem Wv (l:List Pr) (p:Pr) (hl:l.length<=1073741824):oj l p=some (put l p):=by
 have hk:=Px p l
 have e:aA (nS l p) aT 0=some (.brk ((ahd p l:Nat):Int)):=by
  obtain ⟨o,e,rfl⟩:=cz (f:=nS l p) (fun i s=>s=(i:Int)) (fun o=>o= .brk ((ahd p l:Nat):Int)) (ahd p l) (fun i s hi hI=>by
   subst hI
   unfold nS
   by_cases h1:i<ahd p l
   ·obtain ⟨x,g1,g2⟩:=TY p l i h1
    have hil:i<l.length:=by omega
    rw[List.getElem?_eq_getElem hil] at g1
    obtain rfl:=af g1
    refine .inl ⟨h1,((i+1:Nat):Int),?_,rfl⟩
    rw[cF hil,if_pos rfl,aM hil]
    simp only[ae,Pz,iN]
    rw[if_pos (decide_eq_true g2),ah (by omega)]
   ·obtain rfl:i=ahd p l:=by omega
    refine .inr ⟨_,?_,fun s' hh=>(by simp at hh),rfl⟩
    by_cases hil:ahd p l<l.length
    ·have g:=T0 p l _ (List.getElem?_eq_getElem hil)
     rw[cF hil,if_pos rfl,aM hil]
     simp only[ae,Pz,iN]
     rw[if_neg (by simpa using g)]
    ·rw[if_neg (by simp;omega)]) (s:=0) rfl (gx _ (by omega))
  exact e
 unfold oj
 rw[ai e]
 have c1:chk ((0:Int)<=((ahd p l:Nat):Int)/\((ahd p l:Nat):Int)<=(l.length:Int))=some ():=if_pos (by omega)
 have a1:bM 16 ([] :List Pr) ((l.take (ahd p l)).drop 0)=some (l.take (ahd p l)):=by
  rw[List.drop_zero,aH (by simp only[ax,aB];omega)];rfl
 have a2:bM 16 (l.take (ahd p l)) [p] =some (l.take (ahd p l)++ [p]):=aH (by simp only[List.length_singleton,aB];omega)
 have a3:bM 16 (l.take (ahd p l)++ [p]) ((l.take l.length).drop (ahd p l))=some (l.take (ahd p l)++p::l.drop (ahd p l)):=by
  rw[List.take_of_length_le (aG _),aH (by simp only[aj,List.length_singleton,aB,aY];omega),al];rfl
 simp only[c1,ae,Int.toNat_natCast,a1,a2,a3,iN]
 unfold put
 by_cases hil:ahd p l<l.length
 ·rw[cF hil,if_pos rfl,aM hil]
  simp only[ae,Z5]
  rw[List.getElem?_eq_getElem hil]
  by_cases h:l[ahd p l] =p
  ·rw[if_pos (decide_eq_true h),if_pos (by rw[h])]
  ·rw[if_neg (by simpa using h),if_neg (by simpa using h)]
 ·rw[if_neg (by simp;omega),List.getElem?_eq_none (by omega),if_neg (by simp)]
theorem Ww {a b:List Pr} (ha:a.length<=67108864) (hb:b.length<=67108864):iK a b=some (y6 [] (a++b)):=by
 unfold iK
 obtain ⟨s1,e1,rfl⟩:=dO (f:=jS a) (fun i s=>s=(y6 [] (a.take i),(i:Int))) a.length (fun i s hi hI=>by
  subst hI
  have hln:=pP (a.take i) []
  rw[aB] at hln
  refine ⟨_,?_,rfl⟩
  unfold jS
  rw[cF hi,if_pos rfl,aM hi]
  simp only[ae,iN]
  rw[Wv _ _ (by simp only[ax] at hln;omega)]
  simp only[ae]
  rw[ah (by omega),List.take_succ_eq_append_getElem hi,BX]) (fun s hI=>by
  subst hI
  unfold jS
  rw[cm];rfl) (s:=(([] :List Pr),0)) rfl (gx _ (by omega))
 rw[ai e1,List.take_of_length_le (aG _)]
 obtain ⟨s2,e2,rfl⟩:=dO (f:=jT b) (fun i s=>s=(y6 [] (a++b.take i),(i:Int))) b.length (fun i s hi hI=>by
  subst hI
  have hln:=pP (a++b.take i) []
  rw[aj,aB] at hln
  refine ⟨_,?_,rfl⟩
  unfold jT
  rw[cF hi,if_pos rfl,aM hi]
  simp only[ae,iN]
  rw[Wv _ _ (by simp only[ax] at hln;omega)]
  simp only[ae]
  rw[ah (by omega),List.take_succ_eq_append_getElem hi,<-al,BX]) (fun s hI=>by
  subst hI
  unfold jT
  rw[cm];rfl) (s:=(y6 [] a,0)) (by simp) (gx _ (by omega))
 rw[ai e2,List.take_of_length_le (aG _)]
theorem yu {a b:List Pr} (ha:a.length<=67108864) (hb:b.length<=67108864):dj a b=some (y6 [] (a.filter fun x=> !decide (x∈b))):=by
 unfold dj
 obtain ⟨s1,e1,rfl⟩:=dO (f:=gC a b) (fun i s=>s=(y6 [] ((a.take i).filter fun x=> !decide (x∈b)),(i:Int))) a.length (fun i s hi hI=>by
  subst hI
  have hln:=pP ((a.take i).filter fun x=> !decide (x∈b)) []
  have hl2:=List.length_filter_le (fun x=> !decide (x∈b)) (a.take i)
  rw[aB] at hl2
  refine ⟨_,?_,rfl⟩
  unfold gC
  rw[cF hi,if_pos rfl,aM hi]
  simp only[ae,iN]
  rw[LX (by omega)]
  simp only[ae]
  rw[ah (by omega),List.take_succ_eq_append_getElem hi,List.filter_append]
  by_cases h:a[i] ∈ b
  ·rw[if_pos (decide_eq_true h)]
   simp[h]
  ·rw[if_neg (by simpa using h),Wv _ _ (by simp only[ax] at hln;omega)]
   simp only[ae]
   rw[show [a[i]].filter (fun x=> !decide (x∈b))= [a[i]] from by simp[h],BX]) (fun s hI=>by
  subst hI
  unfold gC
  rw[cm];rfl) (s:=(([] :List Pr),0)) rfl (gx _ (by omega))
 rw[ai e1,List.take_of_length_le (aG _)]
end D
namespace D
open Go.RowKit
theorem Z7 {d:Pr->Bool} {f:Pr->Option Bool} (hf: ∀x,f x=some (d x)) (xs:List Pr) (hl:xs.length<=1073741824):cD xs f=some (xs.filter fun x=> !d x):=by
 unfold cD
 rcases T1 (l:=xs) (d:=d) (f:=f) hf hl with ⟨r,hr,h1,h2,e⟩ | ⟨h1,e⟩
 ·rw[e]
  simp only[ae]
  have hne:(((r:Nat):Int) == -1)=false:=beq_eq_false_iff_ne.2 (by omega)
  rw[hne]
  simp only[Bool.false_eq_true,if_false]
  rw[ah (by omega)]
  have hk0:(xs.take (r+1)).filter (fun x=> !d x)=xs.take r:=by
   rw[List.take_succ_eq_append_getElem hr,List.filter_append]
   rw[show [xs[r]].filter (fun x=> !d x)= [] from by simp[h1],List.append_nil,List.filter_eq_self]
   intro a ha
   obtain ⟨j,hj,rfl⟩:=List.getElem_of_mem ha
   rw[aB] at hj
   rw[List.getElem_take,h2 j (by omega)];rfl
  obtain ⟨s,e1,ys,rfl,k1,k2,k3,k4⟩:=dO (f:=cg f) (fun t s=> ∃ys:List Pr,s=((((xs.take (r+1+t)).filter (fun x=> !d x)).length:Int),((r+1+t:Nat):Int),ys)/\ys.length=xs.length/\ys.take ((xs.take (r+1+t)).filter (fun x=> !d x)).length=(xs.take (r+1+t)).filter (fun x=> !d x)/\ys.drop (r+1+t)=xs.drop (r+1+t)/\((xs.take (r+1+t)).filter (fun x=> !d x)).length<=r+t) (xs.length - (r+1)) (fun t s ht hI=>by
   obtain ⟨ys,rfl,k1,k2,k3,k4⟩:=hI
   have hj:r+1+t<xs.length:=by omega
   unfold cg
   rw[show ((ys.length:Nat):Int)=(xs.length:Int) from by rw[k1],cF hj,if_pos rfl,aM (xs:=ys) (by omega),xr k3 (aG _) (by omega) hj]
   simp only[ae,iN,hf]
   have hnx:(xs.take (r+1+(t+1))).filter (fun x=> !d x)=(xs.take (r+1+t)).filter (fun x=> !d x)++ [xs[r+1+t]].filter (fun x=> !d x):=by
    rw[<-List.filter_append,<-List.take_succ_eq_append_getElem hj];rfl
   generalize (xs.take (r+1+t)).filter (fun x=> !d x)=K at *
   rw[hnx]
   cases hd:d xs[r+1+t] with
   | true =>
    rw[if_pos rfl]
    simp only[ae]
    rw[ah (by omega),show [xs[r+1+t]].filter (fun x=> !d x)= [] from by simp[hd],List.append_nil]
    exact ⟨_,rfl,ys,rfl,k1,k2,xq k3,by omega⟩
   | false =>
    rw[if_neg (by simp),aM (xs:=ys) (by omega)]
    simp only[ae]
    rw[ah (by omega),ah (by omega),show [xs[r+1+t]].filter (fun x=> !d x)= [xs[r+1+t]] from by simp[hd]]
    refine ⟨_,rfl,ys.set K.length xs[r+1+t],?_,by simpa using k1,?_,?_,?_⟩
    ·rw[aj,List.length_singleton];rfl
    ·rw[aj,List.length_singleton,EO (by omega),k2]
    ·rw[set_drop (by omega)];exact xq k3
    ·rw[aj,List.length_singleton];omega) (fun s hI=>by
   obtain ⟨ys,rfl,k1,k2,k3,k4⟩:=hI
   unfold cg
   rw[if_neg (by simp;omega)]) (s:=(((r:Nat):Int),((r+1:Nat):Int),xs)) ⟨xs,by rw[Nat.add_zero,hk0,aB,Nat.min_eq_left (by omega)],rfl,by rw[Nat.add_zero,hk0,aB,Nat.min_eq_left (by omega)],rfl,by rw[Nat.add_zero,hk0,aB];omega⟩ (gx _ (by omega))
  rw[ai e1]
  have hall:xs.take (r+1+(xs.length - (r+1)))=xs:=List.take_of_length_le (by omega)
  rw[hall] at k2 k4⊢
  generalize (xs.filter fun x=> !d x)=K at *
  have q0:K.length<=ys.length:=by omega
  have z1:((0:Int)+((K.length:Nat):Int)).toNat=K.length:=by omega
  have z2:((0:Int)+(((ys.length:Nat):Int) - 0)).toNat=ys.length:=by omega
  simp only[z1,z2]
  have zl:=BU (z:=((0,0):Pr)) q0
  rw[uf (by omega),ae,uf (by omega),ae,uf (by rw[zl];omega),ae,yr q0,k2,List.drop_zero]
 ·rw[e]
  simp only[ae]
  rw[if_pos (by rfl)]
  congr 1
  exact (List.filter_eq_self.2 fun a ha=>by rw[h1 a ha];rfl).symm
theorem Km: ∀(l:List Pr) (b:Pr),l≠ [] ->nub (l++ [b])=if l.getLast? =some b then nub l else nub l++ [b]
 | [],b,h=>absurd rfl h
 | [a],b,_=>by
  by_cases e:a=b
  ·subst e;simp[nub]
  ·simp[nub,e]
 | a::c::l,b,_=>by
  have ih:=Km (c::l) b (by simp)
  have hg:(a::c::l).getLast? =(c::l).getLast? :=by simp[List.getLast?_cons_cons]
  rw[hg]
  show nub (a::c::(l++ [b]))=_
  rw[nub,nub]
  rw[show c::(l++ [b])=(c::l)++ [b] from rfl,ih]
  by_cases e:a=c
  ·rw[if_pos e,if_pos e]
  ·rw[if_neg e,if_neg e]
   split <;> simp
theorem EW {xs:List Pr} {j:Nat} (h0:0<j) (h:j<xs.length):nub (xs.take (j+1))=if xs[j - 1] =xs[j] then nub (xs.take j) else nub (xs.take j)++ [xs[j]]:=by
 rw[List.take_succ_eq_append_getElem h,Km _ _ (by
  intro e
  have h9:=congrArg List.length e
  rw[aB,Nat.min_eq_left (Nat.le_of_lt h),ax] at h9
  omega)]
 have hg:(xs.take j).getLast? =some xs[j - 1]:=by
  rw[List.getLast?_eq_getElem?,aB,Nat.min_eq_left (Nat.le_of_lt h),List.getElem?_take,if_pos (show j - 1<j by omega),List.getElem?_eq_getElem (show j - 1<xs.length by omega)]
 rw[hg]
 by_cases e:xs[j - 1] =xs[j]
 ·rw[if_pos (by rw[e]),if_pos e]
 ·rw[if_neg (by simpa using e),if_neg e]
theorem Kn {xs:List Pr} : ∀(j:Nat),j<=xs.length->(∀q (hq:q<j) (h0:0<q) (hx:j<=xs.length),xs[q - 1]'(by omega)≠xs[q]'(by omega))->nub (xs.take j)=xs.take j
 | 0,_,_=>by simp[nub]
 | 1,h,_=>by
  cases xs with
  | nil=>simp[nub]
  | cons a l=>simp[nub]
 | j+2,h,hq=>by
  rw[EW (by omega) (by omega),if_neg (hq (j+1) (by omega) (by omega) h),Kn (j+1) (by omega) (fun q h1 h2 h3=>hq q (by omega) h2 h),<-List.take_succ_eq_append_getElem]
end D
namespace D
open Go.RowKit
theorem vJ (l:List Pr) (hl:l.length<=1073741824): ∃b,fZ l=some b:=by
 unfold fZ
 obtain ⟨o,e,hQ⟩:=cz (f:=jC l) (fun i s=>s=(i:Int)) (fun o=>o= .ret false\/ ∃s,o= .brk s) l.length (fun i s hi hI=>by
  subst hI
  unfold jC bS
  by_cases h1:i<l.length
  ·rw[cF h1,if_pos rfl,aM h1,ah (by omega)]
   have fin: ∀c:Prop,[Decidable c] ->(i<l.length/\ ∃s',(if c then some (.ret false) else some (.nxt ((i+1:Nat):Int)):Option (Out Bool Int))=some (.nxt s')/\s'=((i+1:Nat):Int))\/ ∃o,(if c then some (.ret false) else some (.nxt ((i+1:Nat):Int)):Option (Out Bool Int))=some o/\(∀s',o≠ .nxt s')/\(o= .ret false\/ ∃s,o= .brk s):=by
    intro c _
    split
    ·exact .inr ⟨_,rfl,fun s' h=>by simp at h,.inl rfl⟩
    ·exact .inl ⟨h1,_,rfl,rfl⟩
   have bad:(i<l.length/\ ∃s',(some (.ret false):Option (Out Bool Int))=some (.nxt s')/\s'=((i+1:Nat):Int))\/ ∃o,(some (.ret false):Option (Out Bool Int))=some o/\(∀s',o≠ .nxt s')/\(o= .ret false\/ ∃s,o= .brk s):=.inr ⟨_,rfl,fun s' h=>by simp at h,.inl rfl⟩
   have good:(i<l.length/\ ∃s',(some (.nxt ((i+1:Nat):Int)):Option (Out Bool Int))=some (.nxt s')/\s'=((i+1:Nat):Int))\/ ∃o,(some (.nxt ((i+1:Nat):Int)):Option (Out Bool Int))=some o/\(∀s',o≠ .nxt s')/\(o= .ret false\/ ∃s,o= .brk s):=.inl ⟨h1,_,rfl,rfl⟩
   by_cases c1:l[i].1≥0
   ·by_cases c2:l[i].1<=4
    ·by_cases c3:l[i].2≥0
     ·by_cases c4:l[i].2<=4
      ·by_cases c5:(i:Int)>0
       ·have hp:i64.wrap ((i:Int) - 1)=((i - 1:Nat):Int):=by rw[bH (by omega) (by omega)];omega
        obtain ⟨r,er,-⟩:=YH l[i - 1] l[i]
        simp only[ae,c1,c2,c3,c4,c5,decide_true,if_true,hp,aM (show i - 1<l.length by omega),iN,er]
        exact fin _
       ·simp only[ae,c1,c2,c3,c4,c5,decide_true,if_true,decide_false,Bool.false_eq_true,if_false]
        exact good
      ·simp only[ae,c1,c2,c3,c4,decide_true,if_true,decide_false,Bool.false_eq_true,if_false]
       exact bad
     ·simp only[ae,c1,c2,c3,decide_true,if_true,decide_false,Bool.false_eq_true,if_false]
      exact bad
    ·simp only[ae,c1,c2,decide_true,if_true,decide_false,Bool.false_eq_true,if_false]
     exact bad
   ·simp only[ae,c1,decide_false,Bool.false_eq_true,if_false]
    exact bad
  ·obtain rfl:i=l.length:=by omega
   rw[cm]
   exact .inr ⟨_,rfl,fun s' h=>by simp at h,.inr ⟨_,rfl⟩⟩) (s:=0) rfl (gx _ (by omega))
 rcases hQ with rfl | ⟨s,rfl⟩
 ·exact ⟨_,bs e⟩
 ·exact ⟨_,ai e⟩
end D
namespace D
open Go.RowKit
theorem PA (xs:List Pr) (hl:xs.length<=1073741824):c9 xs=some (nub xs):=by
 unfold c9
 by_cases h2:xs.length<2
 ·rw[if_pos (by simp;omega)]
  cases xs with
  | nil=>rfl
  | cons a l =>
   cases l with
   | nil=>rfl
   | cons b l=>simp only[au] at h2;omega
 rw[if_neg (by simp;omega)]
 have key:(aA (bQ xs) aT 1=some (.ret (nub xs)))\/(∃s,aA (bQ xs) aT 1=some (.brk s)/\nub xs=xs):=by
  obtain ⟨o,e,hQ⟩:=cz (f:=bQ xs) (fun t s=>s=((t+1:Nat):Int)/\nub (xs.take (t+1))=xs.take (t+1)) (fun o=>o= .ret (nub xs)\/ ∃s,o= .brk s/\nub xs=xs) (xs.length - 1) (fun t s ht hI=>by
   obtain ⟨rfl,hI⟩:=hI
   unfold bQ
   by_cases h1:t+1<xs.length
   ·have hp:((t+1:Nat):Int) - 1=((t:Nat):Int):=by omega
    rw[cF h1,if_pos rfl,aM h1,bH (n:=((t+1:Nat):Int) - 1) (by omega) (by omega),hp,aM (show t<xs.length by omega)]
    simp only[ae,Z5]
    have hn:=EW (xs:=xs) (j:=t+1) (by omega) h1
    rw[hI] at hn
    simp only[Nat.add_sub_cancel] at hn
    by_cases he:xs[t+1] =xs[t]
    ·rw[if_pos (decide_eq_true he),uf (by omega),ae]
     rw[if_pos he.symm] at hn
     have hlt:(xs.take (t+1)).length=t+1:=by rw[aB];omega
     obtain ⟨s,e1,ys,rfl,k1,k2,k3,k4⟩:=dO (f:=cE xs ((t+1:Nat):Int)) (fun u s=> ∃ys:List Pr,s=(((nub (xs.take (t+2+u))).length:Int),((u+1:Nat):Int),ys)/\ys.length=xs.length/\ys.take (nub (xs.take (t+2+u))).length=nub (xs.take (t+2+u))/\ys.drop (t+1+u)=xs.drop (t+1+u)/\(nub (xs.take (t+2+u))).length<=t+1+u) (xs.length - (t+2)) (fun u s hu hI=>by
      obtain ⟨ys,rfl,k1,k2,k3,k4⟩:=hI
      have hj:t+2+u<xs.length:=by clear k4 k2;omega
      have hj1:t+1+u<xs.length:=by clear k4 k2;omega
      have hj2:t+2+u<ys.length:=by clear k4 k2;omega
      have hj3:t+1+u<ys.length:=by clear k4 k2;omega
      have a1:(0+((t+1:Nat):Int))+((u+1:Nat):Int)=((t+2+u:Nat):Int):=by omega
      have a2:((u+1:Nat):Int) - 1=((u:Nat):Int):=by omega
      have a3:(0+((t+1:Nat):Int))+((u:Nat):Int)=((t+1+u:Nat):Int):=by omega
      unfold cE
      dsimp only
      rw[if_pos (by simp;omega),uf (by omega)]
      simp only[ae]
      rw[bH (n:=((u+1:Nat):Int) - 1) (by omega) (by omega),a1,a2,a3,aM (xs:=ys) hj2,aM (xs:=ys) hj3,uf (by omega),xr k3 (by omega) hj2 hj,xr k3 (aG _) hj3 hj1]
      simp only[ae,Z5,iN]
      have e9:t+2+u - 1=t+1+u:=by clear k4 k2;omega
      have e8:0<t+2+u:=by clear k4 k2;omega
      have hnx:=EW (xs:=xs) (j:=t+2+u) e8 hj
      simp only[e9] at hnx
      have hd:=xq k3
      rw[show t+1+u+1=t+1+(u+1) from by omega] at hd
      rw[show t+2+(u+1)=t+2+u+1 from by omega,hnx]
      generalize nub (xs.take (t+2+u))=K at *
      by_cases hq:xs[t+2+u] =xs[t+1+u]
      ·rw[if_pos (decide_eq_true hq),if_pos hq.symm]
       simp only[ae]
       rw[ah (by omega)]
       exact ⟨_,rfl,ys,rfl,k1,k2,hd,by omega⟩
      ·rw[if_neg (by simpa using hq),if_neg (fun e=>hq e.symm),aM (xs:=ys) (show K.length<ys.length by omega)]
       simp only[ae]
       rw[ah (by omega),ah (by omega)]
       refine ⟨_,rfl,ys.set K.length xs[t+2+u],?_,by simpa using k1,?_,?_,?_⟩
       ·rw[aj,List.length_singleton];rfl
       ·rw[aj,List.length_singleton,EO (by omega),k2]
       ·rw[set_drop (by omega)];exact hd
       ·rw[aj,List.length_singleton];omega) (fun s hI=>by
      obtain ⟨ys,rfl,k1,k2,k3,k4⟩:=hI
      unfold cE
      rw[if_neg (by simp;omega)]) (s:=(((t+1:Nat):Int),1,xs)) ⟨xs,by rw[Nat.add_zero,hn,hlt];rfl,rfl,by rw[Nat.add_zero,hn,hlt],rfl,by rw[Nat.add_zero,hn,hlt];omega⟩ (gx _ (by omega))
     refine .inr ⟨.ret (nub xs),?_,fun s' hh=>(by simp at hh),.inl rfl⟩
     rw[ai e1]
     have hall:xs.take (t+2+(xs.length - (t+2)))=xs:=List.take_of_length_le (by omega)
     rw[hall] at k2 k4⊢
     generalize nub xs=K at *
     have q0:K.length<=ys.length:=by omega
     have z1:((0:Int)+((K.length:Nat):Int)).toNat=K.length:=by omega
     have z2:((0:Int)+(((ys.length:Nat):Int) - 0)).toNat=ys.length:=by omega
     simp only[z1,z2]
     have zl:=BU (z:=((0,0):Pr)) q0
     rw[uf (by omega),ae,uf (by omega),ae,uf (by rw[zl];omega),ae,yr q0,k2,List.drop_zero]
    ·rw[if_neg (by simpa using he),ah (by omega)]
     rw[if_neg (fun e=>he e.symm),<-List.take_succ_eq_append_getElem h1] at hn
     exact .inl ⟨by omega,_,rfl,rfl,hn⟩
   ·refine .inr ⟨.brk ((t+1:Nat):Int),?_,fun s' hh=>(by simp at hh),.inr ⟨_,rfl,?_⟩⟩
    ·rw[if_neg (by simp;omega)]
    ·rw[List.take_of_length_le (by omega)] at hI;exact hI) (s:=1) ⟨rfl,Kn 1 (by omega) (fun q h1 h0=>by omega)⟩ (gx _ (by omega))
  rcases hQ with rfl | ⟨s,rfl,h⟩
  ·exact .inl e
  ·exact .inr ⟨s,e,h⟩
 rcases key with e | ⟨s,e,h⟩
 ·rw[bs e]
 ·rw[ai e,h]
def WV (l:List Pr):List Pr:=nub (R.Ln R.Lo l)
theorem Ss (l:List Pr):(R.Ln R.Lo l).Pairwise (fun a b=> ¬ltP b a):=by
 have hle: ∀a b:Pr,(!(ltOf R.Lo b a))=true↔ ¬ltP b a:=fun a b=>by
  rw[Bool.not_eq_true',R.zG];rfl
 have h:=List.pairwise_mergeSort (le:=fun x y=> !(ltOf R.Lo y x)) (fun a b c h1 h2=>by
  rw[hle] at *
  intro h
  unfold ltP at *
  omega) (fun a b=>by
  rw[Bool.or_eq_true,hle,hle]
  unfold ltP
  omega) l
 exact h.imp fun {a b} h=>(hle a b).1 h
theorem Ko (l:List Pr):Str (WV l):=IQ (Ss l)
theorem Kp {l:List Pr} {x:Pr} :x∈WV l↔x∈l:=by
 unfold WV
 rw[EV]
 exact List.mem_mergeSort
theorem T2 (l:List Pr) (hl:l.length<=268435456):oV l=some (WV l):=by
 unfold oV dV R.RK
 rw[aH (by simp only[ax];omega)]
 simp only[ae,List.nil_append]
 rw[uf (by omega)]
 simp only[ae]
 rw[PA _ (by rw[R.Gl];omega)]
 rfl
theorem G8 (l:List Pr):WV l=y6 [] l:=ET (Ko l) (EU List.Pairwise.nil) fun x=>by rw[Kp,zQ];simp
theorem YI {a b:List Pr} (ha:a.length<=67108864) (hb:b.length<=67108864):gS a b=some (y6 [] (a.filter fun x=> !decide (x∈b))):=by
 have hlen:(WV a).length<=a.length:=by rw[G8];have:=pP a [];simpa using this
 unfold gS
 rw[T2 a (by omega)]
 simp only[ae]
 rw[Z7 (d:=fun x=>decide (x∈b)) (fun x=>by unfold kL;rw[iN,YG (by omega)];rfl) _ (by omega)]
 simp only[ae]
 congr 1
 refine ET (LW (Ko a)) (EU List.Pairwise.nil) fun x=>?_
 rw[zQ,List.mem_filter,List.mem_filter,Kp];simp
theorem Z8 {a b:List Pr} (ha:a.length<=67108864) (hb:b.length<=67108864):mU a b=some (y6 [] (a++b)):=by
 unfold mU
 rw[aH (by simp only[ax];omega)]
 simp only[ae,List.nil_append]
 rw[aH (by omega)]
 simp only[ae]
 rw[T2 _ (by rw[aj];omega),G8];rfl
end D
set_option synthInstance.maxSize 20000
set_option synthInstance.maxHeartbeats 2000000
namespace D
open Go.RowKit
abbrev tj:=Int×(List GrT)
abbrev LY:=Int×Int×Int
abbrev B3:=Int×Bool×(Yq4×Yq4)
theorem rB (g:GrT) (hg:Data.sm g):bY g=some g:=by
 have h1:=(bf hg.1).1
 have h2:=(bf hg.2).1
 unfold bY
 rw[aH (by simp;omega)];simp only[ae,List.nil_append]
 rw[aH (by simp;omega)];rfl
theorem PB (g:GrT) (hg:Data.sm g):jQ g=some g:=by
 have h1:=(bf hg.1).1
 have h2:=(bf hg.2).1
 unfold jQ jy
 rw[aH (by simp;omega)];simp only[ae,List.nil_append]
 rw[aH (by simp;omega)];rfl
theorem tX {g:GrT} (hg:Data.sm g): ∃b,aS g=some b:=by
 obtain ⟨b,e,_⟩:=EJ g (bf hg.1).1 (bf hg.2).1
 exact ⟨b,e⟩
def okG (h:tj) (g:GrT):Prop:=aS g=some true/\g.1=(nth h.2 0).1
instance (h g):Decidable (okG h g):=by unfold okG;infer_instance
theorem qS (h:tj) (hh:Data.sm h): ∃b,a8 h=some b/\bz h=some b/\(b=true->(1<=h.2.length/\h.2.length<=8)/\1<=h.1/\h.1<=1000 - (h.2.length:Int)):=by
 obtain ⟨hl,hs⟩:=bf hh.2
 have ew:i64.wrap ((i64.wrap (999 - (h.2.length:Int)))+1)=1000 - (h.2.length:Int):=by
  rw[bH (n:=999 - (h.2.length:Int)) (by omega) (by omega),bH (by omega) (by omega)];omega
 have ks:=scan (f:=cn h) h.2 (okG h) false (by omega) (fun i hi=>by
  have hg:=hs _ (bI (xs:=h.2) (i:=(i:Int)) (by omega) (by omega))
  obtain ⟨b,e⟩:=tX hg
  obtain ⟨r,er,hr⟩:=BF (nth h.2 (i:Int)).1 (nth h.2 0).1 (bf hg.1).1
  have e':bc ((nth h.2 (i:Int)).1,(nth h.2 (i:Int)).2)=some b:=by rw[ny];exact e
  have hk:okG h (nth h.2 (i:Int))↔b=true/\(nth h.2 (i:Int)).1=(nth h.2 0).1:=by unfold okG;rw[e];simp
  unfold cn
  rw[if_pos (by simp;omega),az (by omega) (by omega)];simp only[ae]
  rw[e',az (xs:=h.2) (i:=0) (by omega) (by omega)];simp only[ae]
  rw[er,ah (by omega)];simp only[ae]
  cases b with
  | false=>rw[if_neg (by decide),if_neg (fun c=>by cases (hk.1 c).1)]
  | true =>
   rw[if_pos rfl]
   by_cases c:r=0
   ·rw[if_neg (by simp[c]),if_pos (hk.2 ⟨rfl,hr.1 c⟩)]
   ·rw[if_pos (by simpa using c),if_neg (fun k=>c (hr.2 (hk.1 k).2))]) (by unfold cn;simp)
 have ki:=scan (f:=cL h) h.2 (okG h) false (by omega) (fun i hi=>by
  have hg:=hs _ (bI (xs:=h.2) (i:=(i:Int)) (by omega) (by omega))
  obtain ⟨b,e⟩:=tX hg
  have er:=xf (nth h.2 (i:Int)).1 (nth h.2 0).1 (by have:=(bf hg.1).1;omega)
  have e':aS ((nth h.2 (i:Int)).1,(nth h.2 (i:Int)).2)=some b:=e
  have hk:okG h (nth h.2 (i:Int))↔b=true/\(nth h.2 (i:Int)).1=(nth h.2 0).1:=by unfold okG;rw[e];simp
  unfold cL
  rw[if_pos (by simp;omega),az (by omega) (by omega)];simp only[ae]
  rw[e',az (xs:=h.2) (i:=0) (by omega) (by omega)];simp only[ae]
  rw[er,ah (by omega)];simp only[ae]
  cases b with
  | false=>rw[if_neg (by decide),if_neg (fun c=>by cases (hk.1 c).1)]
  | true =>
   rw[if_pos rfl]
   by_cases c:(nth h.2 (i:Int)).1=(nth h.2 0).1
   ·rw[if_pos (decide_eq_true c),if_pos (hk.2 ⟨rfl,c⟩)]
   ·rw[if_neg (by simpa using c),if_neg (fun k=>c (hk.1 k).2)]) (by unfold cL;simp)
 unfold a8 bz
 rw[Is,Is,Ey,Ey,ew];simp only[ae]
 by_cases c1:(1:Int)<=(h.2.length:Int)/\(h.2.length:Int)<=8
 ·by_cases c2:1<=h.1/\h.1<=1000 - (h.2.length:Int)
  ·rw[decide_eq_true c1,decide_eq_true c2];simp only[if_true]
   rcases ks with ⟨es,k1⟩ | ⟨es,k1⟩ <;> rcases ki with ⟨ei,k2⟩ | ⟨ei,k2⟩
   ·rw[ai es,ai ei]
    exact ⟨true,rfl,rfl,fun _=>⟨by omega,c2⟩⟩
   ·exact absurd k1 k2
   ·exact absurd k2 k1
   ·rw[bs es,bs ei]
    exact ⟨false,rfl,rfl,fun c=>by cases c⟩
  ·rw[decide_eq_true c1,decide_eq_false c2];simp only[if_true,Bool.false_eq_true,if_false]
   rcases ks with ⟨es,k1⟩ | ⟨es,k1⟩
   ·rw[ai es];exact ⟨false,rfl,rfl,fun c=>by cases c⟩
   ·rw[bs es];exact ⟨false,rfl,rfl,fun c=>by cases c⟩
 ·rw[decide_eq_false c1];simp only[Bool.false_eq_true,if_false]
  rcases ks with ⟨es,k1⟩ | ⟨es,k1⟩
  ·rw[ai es];exact ⟨false,rfl,rfl,fun c=>by cases c⟩
  ·rw[bs es];exact ⟨false,rfl,rfl,fun c=>by cases c⟩
def IR (h:tj):Int:=h.1+(h.2.length:Int) - 1
theorem qT {h:tj} (hs:a8 h=some true) (hi:bz h=some true) (k:(1<=h.2.length/\h.2.length<=8)/\1<=h.1/\h.1<=1000 - (h.2.length:Int)):aX h=some (IR h)/\fp h=some (IR h):=by
 unfold aX fp IR
 have hs:a8 (h.1,h.2)=_:=hs
 have hi:bz (h.1,h.2)=_:=hi
 rw[hs,hi];simp only[ae,if_true]
 rw[bH (n:=h.1+(h.2.length:Int)) (by omega) (by omega),bH (by omega) (by omega)]
 exact ⟨rfl,rfl⟩
theorem tk (h:tj) (hh:Data.sm h) (v:Int): ∃(g:GrT) (q:Bool),dD h v=some (g,q)/\iw h v=some (g,q)/\Data.sm g/\(bz h=some true->h.1<=v->v<=IR h->q=true)/\(q=false->g=([],[])):=by
 obtain ⟨b,es,ei,k⟩:=qS h hh
 have es':a8 (h.1,h.2)=_:=es
 have ei':bz (h.1,h.2)=_:=ei
 have z0:Data.sm (([],[]):GrT):=⟨⟨by decide,fun _ hx=>by cases hx⟩,by decide,fun _ hx=>by cases hx⟩
 unfold dD iw
 rw[es',ei'];simp only[ae]
 cases b with
 | false=>exact ⟨_,false,rfl,rfl,z0,fun c=>(by cases c),fun _=>rfl⟩
 | true =>
  have kk:=k rfl
  obtain ⟨l1,l2⟩:=qT es ei kk
  have l1:aX (h.1,h.2)=_:=l1
  have l2:fp (h.1,h.2)=_:=l2
  simp only[if_true,l1,l2,ae,Is,Ey,decide_eq_true_eq]
  by_cases c:h.1<=v/\v<=IR h
  ·have c':=c
   unfold IR at c'
   have hm:=(bf hh.2).2 _ (bI (xs:=h.2) (i:=v - h.1) (by omega) (by omega))
   have e1:bY ((nth h.2 (v - h.1)).1,(nth h.2 (v - h.1)).2)=_:=rB _ hm
   have e2:jQ ((nth h.2 (v - h.1)).1,(nth h.2 (v - h.1)).2)=_:=PB _ hm
   rw[if_pos c,if_pos c,bH (n:=v - h.1) (by omega) (by omega),az (by omega) (by omega)];simp only[ae]
   rw[e1,e2]
   exact ⟨_,true,rfl,rfl,hm,fun _ _ _=>rfl,fun c=>by cases c⟩
  ·rw[if_neg c,if_neg c]
   exact ⟨_,false,rfl,rfl,z0,fun _ h1 h2=>absurd ⟨h1,h2⟩ c,fun _=>rfl⟩
end D
set_option synthInstance.maxSize 20000
set_option synthInstance.maxHeartbeats 2000000
namespace D
open Go.RowKit
theorem tY (h:tj) (hh:Data.sm h) {r:qd} (hr:Data.sm r) (id v:Int): ∃(g:GrT) (q:Bool) (l:List (Int×Int)) (b:Bool),dD h v=some (g,q)/\bd r g id=some (l,b)/\fe h r id v=some (if q then l else [],if q then b else false)/\l.length<=150/\(bz h=some true->h.1<=v->v<=IR h->q=true):=by
 obtain ⟨g,q,e1,e2,sg,k,-⟩:=tk h hh v
 obtain ⟨l,b,f1,f2,hl⟩:=G6 hr sg id
 refine ⟨g,q,l,b,e1,f1,?_,hl,k⟩
 unfold fe
 have e2:iw (h.1,h.2) v=_:=e2
 rw[e2];simp only[ae]
 have f2:cx (r.1,r.2) (g.1,g.2) id=_:=f2
 cases q with
 | false=>rfl
 | true=>simp only[if_true];rw[f2];rfl
end D
set_option synthInstance.maxSize 20000
set_option synthInstance.maxHeartbeats 2000000
namespace D
open Go.RowKit
abbrev PsT:Type:=List (Int×Int)
abbrev MsT:Type:=Int×Bool×(PsT×PsT)
theorem y7 {d:PsT×PsT} (h1:d.1.length<=1048576) (h2:d.2.length<=1048576): ∃b,rk d=some b/\rj d=some b:=by
 obtain ⟨b1,e1⟩:=vJ d.1 (by omega)
 obtain ⟨b2,e2⟩:=vJ d.2 (by omega)
 unfold rk rj
 rw[rA,rA,e1,e2,Kl (by omega) (by omega)]
 rcases yt (f:=mX d) d.1 (fun x=>decide (x∈d.2)) (fun _=>false) (by omega) (fun i hi=>by
   unfold mX
   rw[cF hi,if_pos rfl,aM hi]
   simp only[ae,iN]
   rw[LX (by omega)]
   simp only[ae,ah (show i<9223372036854775807 by omega)]
   split <;> rfl) (by
   unfold mX
   rw[cm];rfl) with ⟨i,hi,k1,-,e⟩ | ⟨k1,e⟩
 ·rw[bs e]
  have hc:decide (∃x,x∈d.1/\x∈d.2)=true:=decide_eq_true ⟨_,List.getElem_mem hi,of_decide_eq_true k1⟩
  rw[hc]
  refine ⟨false,rfl,?_⟩
  cases b1 <;> cases b2 <;> rfl
 ·rw[ai e]
  have hc:decide (∃x,x∈d.1/\x∈d.2)=false:=decide_eq_false fun ⟨x,h3,h4⟩=>by have:=k1 x h3;simp[h4] at this
  rw[hc]
  cases b1 <;> cases b2 <;> exact ⟨_,rfl,rfl⟩
end D
end Go.Proofs.YtbhafdfiplkacaaGreat
