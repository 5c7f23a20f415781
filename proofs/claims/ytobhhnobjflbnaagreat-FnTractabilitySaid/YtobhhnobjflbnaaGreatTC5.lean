/- FnTractability: for every input the law returns true and changes nothing that was there. Part 6 of 7. -/
import Derived.Test.YtobhhnobjflbnaaGreatTC4
set_option linter.unusedVariables false
set_option linter.unusedSimpArgs false
set_option linter.unnecessarySimpa false
set_option linter.unusedSectionVars false
set_option maxRecDepth 1000000
namespace Go.Proofs.YtobhhnobjflbnaaGreat
namespace D
open Go.RowKit
theorem cd {R S:Type} {f:S->Option (Out R S)} (Inv:Nat->S->Prop) (Q:Out R S->Prop) (N:Nat)
  (h: ∀i s,i<=N->Inv i s->(i<N/\ ∃s',f s=some (.nxt s')/\Inv (i+1) s')\/ ∃o,f s=some o/\(∀s',o≠ .nxt s')/\Q o) {s:S} (h0:Inv 0 s) (hN:N<aV): ∃o,aG f aV s=some o/\Q o:=by
 have key: ∀(k i:Nat) (s:S),i<=N->N<i+k->Inv i s-> ∃o,aG f k s=some o/\Q o:=by
  intro k
  induction k with
  | zero=>intro i s h1 h2;omega
  | succ k ih =>
   intro i s h1 h2 hI
   rcases h i s h1 hI with ⟨hi,s',e,hI'⟩ | ⟨o,e,hn,hq⟩
   ·obtain ⟨o,e',hq⟩:=ih (i+1) s' (by omega) (by omega) hI'
    exact ⟨o,by rw[aG,e];exact e',hq⟩
   ·refine ⟨o,?_,hq⟩
    rw[aG,e]
    cases o with
    | nxt s'=>exact absurd rfl (hn s')
    | brk s'=>rfl
    | ret r=>rfl
 exact key aV 0 s (by omega) (by omega) h0
theorem b0 {R S:Type} {f:S->Option (Out R S)} (Inv:Nat->S->Prop) (N:Nat) (h: ∀i s,i<N->Inv i s-> ∃s',f s=some (.nxt s')/\Inv (i+1) s') (he: ∀s,Inv N s->f s=some (.brk s)) {s:S} (h0:Inv 0 s) (hN:N<aV): ∃s',aG f aV s=some (.brk s')/\Inv N s':=by
 obtain ⟨o,e,s',rfl,h⟩:=cd (f:=f) Inv (fun o=> ∃s',o= .brk s'/\Inv N s') N (fun i s hi hI=>by
  by_cases h1:i<N
  ·exact .inl ⟨h1,h i s h1 hI⟩
  ·obtain rfl:i=N:=by omega
   exact .inr ⟨_,he s hI,(fun s' e=>by cases e),s,rfl,hI⟩) h0 hN
 exact ⟨s',e,h⟩
theorem bp {R S:Type} {f:S->Option (Out R S)} (st:Nat->S) (N:Nat) (h: ∀i,i<N->f (st i)=some (.nxt (st (i+1)))) (he:f (st N)=some (.brk (st N))) (hN:N<aV):aG f aV (st 0)=some (.brk (st N)):=F6 st N h he hN
theorem ju {k:Nat} (h:k<=9223372036854775807):k<aV:=th k h
theorem rB {i:Nat} (h:i<=9223372036854775807):IntKind.i64.wrap (i:Int)=(i:Int):=cP (by omega) (by omega)
theorem pz {i:Nat} (h:i<=9223372036854775807):IntKind.i64.wrap ((i:Int) - 1)=(i:Int) - 1:=cP (by omega) (by omega)
theorem aP {α:Type} {b:Nat} {xs ys:List α} (h:(xs.length+ys.length)*b<=140737488355328):dE b xs ys=some (xs++ys):=by unfold dE;rw[if_pos h]
theorem M2 {i n:Nat} :decide ((i:Int)<(n:Int))=decide (i<n):=by simp
theorem bm {R S T:Type} {x:Option (Out R S)} {r:R} {kr:R->Option T} {k:S->Option T} (h:x=some (.ret r)):aW x kr k=kr r:=by rw[h];rfl
theorem ax {R S T:Type} {x:Option (Out R S)} {s:S} {kr:R->Option T} {k:S->Option T} (h:x=some (.brk s)):aW x kr k=k s:=by rw[h];rfl
def nth {α:Type} [Inhabited α] (xs:List α) (i:Int):α:=xs.getD i.toNat default
section
variable {α:Type} [Inhabited α] {xs ys:List α}
theorem aF {i:Int} (h0:0<=i) (h1:i<xs.length):a8 xs i=some (nth xs i):=by
 unfold a8 nth
 rw[if_pos h0]
 have:i.toNat<xs.length:=by omega
 simp[List.getD_eq_getElem?_getD,this]
theorem aZ {i:Nat} (h:i<xs.length):nth xs (i:Int)=xs[i]:=by simp[nth,List.getD_eq_getElem?_getD,h]
theorem bK {i:Int} (h0:0<=i) (h1:i<xs.length):nth xs i∈xs:=by
 have:i.toNat<xs.length:=by omega
 have e:nth xs i=xs[i.toNat]:=by simp[nth,List.getD_eq_getElem?_getD,this]
 rw[e];exact List.getElem_mem this
theorem fj {i:Int} (h0:0<=i) (h1:i<xs.length):nth (xs++ys) i=nth xs i:=by
 have:i.toNat<xs.length:=by omega
 simp[nth,List.getD_eq_getElem?_getD,List.getElem?_append_left this]
theorem F7 {β:Type} [Inhabited β] {f:α->β} {i:Int} (h0:0<=i) (h1:i<xs.length):nth (xs.map f) i=f (nth xs i):=by
 have:i.toNat<xs.length:=by omega
 simp[nth,List.getD_eq_getElem?_getD,this]
theorem wI {x:α} (h:x∈xs): ∃i:Nat,i<xs.length/\nth xs (i:Int)=x:=by
 obtain ⟨i,hi,rfl⟩:=List.getElem_of_mem h
 exact ⟨i,hi,aZ hi⟩
theorem dC {i:Int} {x:α} (h0:0<=i) (h1:i<xs.length):nth (xs.set i.toNat x) i=x:=by
 have:i.toNat<xs.length:=by omega
 simp[nth,List.getD_eq_getElem?_getD,this]
theorem gG {i j:Int} {x:α} (h0:0<=i) (hj:0<=j) (h:i≠j):nth (xs.set i.toNat x) j=nth xs j:=by
 have:i.toNat≠j.toNat:=by omega
 simp[nth,List.getD_eq_getElem?_getD,List.getElem?_set_ne this]
theorem F8 (h:xs.length=ys.length) (k: ∀i:Nat,i<xs.length->nth xs (i:Int)=nth ys (i:Int)):xs=ys:=by
 refine List.ext_getElem h fun i h1 h2=>?_
 have:=k i h1
 rwa [aZ h1,aZ h2] at this
end
section
variable {κ:Type} [DecidableEq κ]
def nbL (l:List κ):Option κ->List κ
 | none=>l
 | some x=>if x∈l then l else l++ [x]
def nbI (l:List κ):Option κ->Int
 | none=> -1
 | some x=>(l.idxOf x:Int)
def nbS (l:List κ) (os:List (Option κ)):List κ:=os.foldl nbL l
def nbR (l:List κ):List (Option κ)->List Int
 | [] =>[]
 | o::os=>nbI l o::nbR (nbL l o) os
theorem jo (l:List κ) (os:List (Option κ)) (o:Option κ):nbS l (os++ [o])=nbL (nbS l os) o:=by simp[nbS]
theorem nA: ∀(l:List κ) (os:List (Option κ)) (o:Option κ),nbR l (os++ [o])=nbR l os++ [nbI (nbS l os) o]
 | l,[],o=>rfl
 | l,p::os,o=>by
  show nbI l p::nbR (nbL l p) (os++ [o])=nbI l p::nbR (nbL l p) os++ [nbI (nbS (nbL l p) os) o]
  rw[nA (nbL l p) os o];rfl
theorem cZ: ∀(l:List κ) (os:List (Option κ)),(nbR l os).length=os.length
 | l,[] =>rfl
 | l,o::os=>by show (nbR (nbL l o) os).length+1=_;rw[cZ];rfl
theorem Dm (l : List κ) (o : Option κ) : l <+: nbL l o := by
  cases o with
  | none => exact List.prefix_refl l
  | some x => unfold nbL; simp only; split
              · exact List.prefix_refl l
              · exact List.prefix_append l [x]
theorem dA: ∀(l:List κ) (os:List (Option κ)),l <+:nbS l os
 | l,[] =>List.prefix_refl l
 | l,o::os=>(Dm l o).trans (dA (nbL l o) os)
theorem F9 {l : List κ} {o : Option κ} (h : l.Nodup) : (nbL l o).Nodup := by
  cases o with
  | none => exact h
  | some x => unfold nbL; simp only; split
              · exact h
              · rename_i hx; exact List.nodup_append.2 ⟨h, by simp, by rintro a ha b hb rfl; simp at hb; exact hx (hb ▸ ha)⟩
theorem hZ: ∀ {l:List κ} {os:List (Option κ)},l.Nodup->(nbS l os).Nodup
 | l,[],h=>h
 | l,o::os,h=>hZ (l:=nbL l o) (os:=os) (F9 h)
theorem oy {l : List κ} {o : Option κ} {x : κ} : x ∈ nbL l o ↔ x ∈ l \/ o = some x := by
  cases o with
  | none => simp [nbL]
  | some y => unfold nbL; simp only; split
              · rename_i h; constructor
                · exact .inl
                · rintro (h' | h')
                  · exact h'
                  · simp at h'; exact h' ▸ h
              · simp; exact or_congr Iff.rfl eq_comm
theorem iX: ∀ {l:List κ} {os:List (Option κ)} {x:κ},x∈nbS l os↔x∈l\/some x∈os
 | l,[],x=>by simp[nbS]
 | l,o::os,x=>by
  show x∈nbS (nbL l o) os↔_
  rw[iX,oy,List.mem_cons,or_assoc]
  exact or_congr Iff.rfl (or_congr eq_comm Iff.rfl)
theorem fl {l:List κ} {x:κ} (h:x∈l):nbL l (some x)=l:=by simp[nbL,h]
theorem eC {l:List κ} {x:κ} (h:x∉l):nbL l (some x)=l++ [x]:=by simp[nbL,h]
theorem kZ {l:List κ} {x:κ} (h:x∉l):l.idxOf x=l.length:=List.idxOf_eq_length h
def bfS (nx:κ->List (Option κ)) (first:κ):Nat->List κ
 | 0=>[first]
 | i+1=>match (bfS nx first i)[i]? with
  | some x=>nbS (bfS nx first i) (nx x)
  | none=>bfS nx first i
def bfR (nx:κ->List (Option κ)) (first:κ):Nat->List (List Int)
 | 0=>[]
 | i+1=>bfR nx first i++(match (bfS nx first i)[i]? with
  | some x=>[nbR (bfS nx first i) (nx x)]
  | none=>[])
variable {nx:κ->List (Option κ)} {first:κ}
theorem rC {i:Nat} (h:i<(bfS nx first i).length):bfS nx first (i+1)=nbS (bfS nx first i) (nx ((bfS nx first i)[i])):=by
 rw[bfS,List.getElem?_eq_getElem h]
theorem nB {i:Nat} (h:i<(bfS nx first i).length):bfR nx first (i+1)=bfR nx first i++ [nbR (bfS nx first i) (nx ((bfS nx first i)[i]))]:=by
 rw[bfR,List.getElem?_eq_getElem h]
theorem bg (i:Nat):bfS nx first i <+:bfS nx first (i+1):=by
 rw[bfS]
 split
 ·exact dA _ _
 ·exact List.prefix_refl _
theorem iz {i j:Nat} (h:i<=j):bfS nx first i <+:bfS nx first j:=by
 induction h with
 | refl=>exact List.prefix_refl _
 | step _ ih=>exact ih.trans (bg _)
theorem eh: ∀i,(bfS nx first i).Nodup
 | 0=>by simp[bfS]
 | i+1=>by
  rw[bfS]
  split
  ·exact hZ (eh i)
  ·exact eh i
theorem c9 {G:κ->Prop} (h0:G first) (h: ∀x,G x-> ∀y,some y∈nx x->G y): ∀i,∀x∈bfS nx first i,G x
 | 0=>by simp[bfS];exact h0
 | i+1=>by
  rw[bfS]
  split
  ·rename_i y hy
   intro x hx
   rcases iX.1 hx with hx | hx
   ·exact c9 h0 h i x hx
   ·exact h y (c9 h0 h i y (List.mem_of_getElem? hy)) x hx
  ·exact c9 h0 h i
theorem k9 (i:Nat):(bfS nx first i)[0]? =some first:=by
 obtain ⟨t,ht⟩:=iz (nx:=nx) (first:=first) (Nat.zero_le i)
 rw[<-ht];rfl
theorem gH: ∀ {i:Nat},(∀j,j<i->j<(bfS nx first j).length)->(bfR nx first i).length=i
 | 0,_=>rfl
 | i+1,h=>by rw[nB (h i (by omega)),aq,gH fun j hj=>h j (by omega)];rfl
def bfE (nx:κ->List (Option κ)) (first:κ) (N:Nat):Prop:=N=(bfS nx first N).length/\ ∀i,i<N->i<(bfS nx first i).length
theorem yO {B:Nat} (hB: ∀i,(bfS nx first i).length<=B): ∃N,N<=B/\bfE nx first N:=by
 have key: ∀m i,i+m=B->(∀j,j<i->j<(bfS nx first j).length)-> ∃N,N<=B/\bfE nx first N:=by
  intro m
  induction m with
  | zero =>
   intro i hi hj
   have h1:=hB i
   have h2:i<=(bfS nx first i).length:=by
    cases i with
    | zero=>omega
    | succ i =>
     have:=hj i (by omega)
     have hp:=(bg (nx:=nx) (first:=first) i).length_le
     omega
   exact ⟨i,by omega,by omega,hj⟩
  | succ m ih =>
   intro i hi hj
   by_cases h:i<(bfS nx first i).length
   ·exact ih (i+1) (by omega) fun j hj'=>by
     by_cases e:j=i
     ·subst e;exact h
     ·exact hj j (by omega)
   ·have h2:i<=(bfS nx first i).length:=by
     cases i with
     | zero=>omega
     | succ i =>
      have:=hj i (by omega)
      have hp:=(bg (nx:=nx) (first:=first) i).length_le
      omega
    exact ⟨i,by omega,by omega,hj⟩
 exact key B 0 (by omega) (by omega)
theorem BY {N M:Nat} (h:bfE nx first N) (k:bfE nx first M):N=M:=by
 rcases Nat.lt_trichotomy N M with e | e | e
 ·have:=k.2 N e;have:=h.1;omega
 ·exact e
 ·have:=h.2 M e;have:=k.1;omega
end
end D
namespace D
open Go.RowKit
theorem BZ (x:Int):0<=pN x 255/\pN x 255<=255:=by
 have h:(BitVec.ofInt 64 x &&& BitVec.ofInt 64 255).toNat<=255:=by
  rw[BitVec.toNat_and]
  exact Nat.le_trans Nat.and_le_right (by decide)
 unfold pN
 rw[cP (by omega) (by omega)]
 omega
def nG (xs:List Int) (i:Int):Prop:=0<=i/\i<=(xs.length:Int)
section
variable {xs:List Int} {i h:Int}
theorem P5 (hl:xs.length<=1048576): ∃r:Int×Int,o7 xs=some r/\nG xs r.1:=by
 have key: ∃s,aG (kc xs) aV (IntKind.i64.wrap (10101+(xs.length:Int)),0)=some (.brk s):=by
  obtain ⟨o,e,s,rfl⟩:=cd (f:=kc xs) (fun j s=>s.2=(j:Int)) (fun o=> ∃s,o= .brk s) xs.length (fun j s hj hb=>by
   obtain ⟨a,b⟩:=s
   obtain rfl:b=(j:Int):=hb
   unfold kc
   simp only
   rw[M2]
   by_cases c0:j<xs.length
   ·rw[if_pos (by simpa using c0)]
    by_cases c:((j:Nat):Int)<4000
    ·rw[if_pos (by simpa using c),aF (by omega) (by omega)];simp only[aa]
     exact .inl ⟨c0,_,rfl,by show IntKind.i64.wrap ((j:Int)+1)=_;rw[cP (by omega) (by omega)];omega⟩
    ·rw[if_neg (by simpa using c)]
     exact .inr ⟨_,rfl,(fun s' e=>by cases e),_,rfl⟩
   ·rw[if_neg (by simpa using c0)]
    exact .inr ⟨_,rfl,(fun s' e=>by cases e),_,rfl⟩) (s:=(IntKind.i64.wrap (10101+(xs.length:Int)),0)) rfl (ju (by omega))
  exact ⟨s,e⟩
 obtain ⟨s,hs⟩:=key
 unfold o7
 rw[ax hs]
 exact ⟨_,rfl,by show (0:Int)<=0;omega,by show (0:Int)<=_;omega⟩
theorem yP (hl:xs.length<=1048576) (hc:nG xs i): ∃r:Int×Int×Int,gx (xs,i,h)=some r/\(0<=r.1/\r.1<=255)/\nG xs r.2.1:=by
 unfold gx
 simp only
 by_cases c:i<(xs.length:Int)
 ·rw[if_pos (by simpa using c),aF hc.1 c];simp only[aa]
  refine ⟨_,rfl,BZ _,?_⟩
  show nG xs (IntKind.i64.wrap (i+1))
  have:=hc.1
  rw[cP (by omega) (by omega)]
  exact ⟨by omega,by omega⟩
 ·rw[if_neg (by simpa using c)];simp only[aa]
  exact ⟨_,rfl,BZ _,hc⟩
theorem jS (hl:xs.length<=1048576) (hc:nG xs i) {n:Int} (hn:0<n): ∃r:Int×Int×Int,bJ (xs,i,h) n=some r/\(0<=r.1/\r.1<n)/\nG xs r.2.1:=by
 unfold bJ
 simp only
 rw[if_neg (by simpa using hn)]
 have hck:chk (n≠0)=some ():=by unfold chk;rw[if_pos (by omega)]
 by_cases c:n<=256
 ·rw[if_pos (by simpa using c)]
  obtain ⟨r,e,h1,h2⟩:=yP (h:=h) hl hc
  rw[e,hck];simp only[aa]
  exact ⟨_,rfl,⟨Int.tmod_nonneg _ h1.1,Int.tmod_lt_of_pos _ hn⟩,h2⟩
 ·rw[if_neg (by simpa using c)]
  obtain ⟨r1,e1,h1,k1⟩:=yP (h:=h) hl hc
  rw[e1];simp only[aa]
  obtain ⟨r2,e2,h2,k2⟩:=yP (h:=r1.2.2) hl k1
  rw[e2];simp only[aa]
  obtain ⟨r3,e3,h3,k3⟩:=yP (h:=r2.2.2) hl k2
  rw[e3];simp only[aa]
  obtain ⟨r4,e4,h4,k4⟩:=yP (h:=r3.2.2) hl k3
  rw[e4,hck];simp only[aa]
  have w1:IntKind.i64.wrap (r1.1*16777216)=r1.1*16777216:=cP (by omega) (by omega)
  have w2:IntKind.i64.wrap (r2.1*65536)=r2.1*65536:=cP (by omega) (by omega)
  have w3:IntKind.i64.wrap (r3.1*256)=r3.1*256:=cP (by omega) (by omega)
  have w4:IntKind.i64.wrap (r1.1*16777216+r2.1*65536)=r1.1*16777216+r2.1*65536:=cP (by omega) (by omega)
  have w5:IntKind.i64.wrap (r1.1*16777216+r2.1*65536+r3.1*256)=r1.1*16777216+r2.1*65536+r3.1*256:=cP (by omega) (by omega)
  have w6:IntKind.i64.wrap (r1.1*16777216+r2.1*65536+r3.1*256+r4.1)=r1.1*16777216+r2.1*65536+r3.1*256+r4.1:=cP (by omega) (by omega)
  rw[w1,w2,w3,w4,w5,w6]
  exact ⟨_,rfl,⟨Int.tmod_nonneg _ (by omega),Int.tmod_lt_of_pos _ hn⟩,k4⟩
theorem yQ (hl:xs.length<=1048576) (hc:nG xs i) {n:Int} (hn:0<n): ∃r:Bool×Int×Int,gz (xs,i,h) n=some r/\nG xs r.2.1:=by
 obtain ⟨r,e,-,k⟩:=jS (h:=h) hl hc hn
 unfold gz
 simp only
 rw[e]
 exact ⟨_,rfl,k⟩
theorem pA (hl:xs.length<=1048576) (hc:nG xs i) {l:List Int} (h0:l≠ []): ∃r:Int×Int×Int,dG (xs,i,h) l=some r/\r.1∈l/\nG xs r.2.1:=by
 have hp:0<(l.length:Int):=by have:=List.length_pos_iff.2 h0;omega
 obtain ⟨r,e,h1,k⟩:=jS (h:=h) hl hc hp
 unfold dG
 simp only
 rw[e];simp only[aa]
 rw[aF h1.1 h1.2];simp only[aa]
 exact ⟨_,rfl,bK h1.1 h1.2,k⟩
theorem OT (hl:xs.length<=1048576) (hc:nG xs i) {l:List ByteArray} (h0:l≠ []): ∃r:ByteArray×Int×Int,nl (xs,i,h) l=some r/\r.1∈l/\nG xs r.2.1:=by
 have hp:0<(l.length:Int):=by have:=List.length_pos_iff.2 h0;omega
 obtain ⟨r,e,h1,k⟩:=jS (h:=h) hl hc hp
 unfold nl
 simp only
 rw[e];simp only[aa]
 rw[aF h1.1 h1.2];simp only[aa]
 exact ⟨_,rfl,bK h1.1 h1.2,k⟩
end
end D
namespace D
open Go.RowKit
abbrev AutT:=Int×(List Bool)×(List (List Int))
structure VA (a:AutT) (n:Nat):Prop where
 len:a.2.1.length=n
 start:0<=a.1/\a.1<n
 nlen:a.2.2.length=n
 row: ∀r∈a.2.2,r.length=9
 ent: ∀r∈a.2.2,∀t∈r,-1<=t/\t<n
def mv (a:AutT) (s:Int) (k:Nat):Int:=nth (nth a.2.2 s) k
theorem OU (x l h:Int):jf x l h=some (decide (l<=x/\x<=h)):=by
 unfold jf
 by_cases c:l<=x
 ·simp[c]
 ·have: ¬l<=x/\True:=⟨c,trivial⟩
  simp[c]
theorem NI (x l h:Int):fx x l h=some (decide (l<=x/\x<=h)):=by
 unfold fx
 by_cases c:l<=x
 ·simp[c]
 ·simp[c]
theorem scan {α R:Type} [Inhabited α] {f:Int->Option (Out R Int)} (xs:List α) (p:α->Prop) [DecidablePred p] (r:R) (hN:xs.length<=9223372036854775807)
  (h: ∀i:Nat,i<xs.length->f (i:Int)=some (if p (nth xs i) then .nxt ((i+1:Nat):Int) else .ret r)) (he:f (xs.length:Int)=some (.brk (xs.length:Int))) :
  (aG f aV 0=some (.brk (xs.length:Int))/\ ∀x∈xs,p x)\/(aG f aV 0=some (.ret r)/\ ¬ ∀x∈xs,p x):=by
 obtain ⟨o,e,hq⟩:=cd (f:=f) (fun i s=>s=(i:Int)/\ ∀j:Nat,j<i->p (nth xs j)) (fun o=>(o= .brk (xs.length:Int)/\ ∀x∈xs,p x)\/(o= .ret r/\ ¬ ∀x∈xs,p x)) xs.length (s:=0) (by
  rintro i s hi ⟨rfl,hp⟩
  by_cases hl:i<xs.length
  ·by_cases c:p (nth xs i)
   ·refine .inl ⟨hl,_,by rw[h i hl,if_pos c],rfl,fun j hj=>?_⟩
    by_cases e:j=i
    ·subst e;exact c
    ·exact hp j (by omega)
   ·refine .inr ⟨_,by rw[h i hl,if_neg c],(fun s' e=>by cases e),.inr ⟨rfl,fun hx=>c (hx _ (bK (by omega) (by omega)))⟩⟩
  ·obtain rfl:i=xs.length:=by omega
   refine .inr ⟨_,he,(fun s' e=>by cases e),.inl ⟨rfl,fun x hx=>?_⟩⟩
   obtain ⟨j,hj,rfl⟩:=wI hx
   exact hp j hj) ⟨rfl,by omega⟩ (ju hN)
 rcases hq with ⟨rfl,hq⟩ | ⟨rfl,hq⟩
 ·exact .inl ⟨e,hq⟩
 ·exact .inr ⟨e,hq⟩
section
variable {a:AutT} {n:Nat} (V:VA a n)
include V
theorem VA.pos:0<n:=by have:=V.start;omega
theorem VA.rowAt {s:Int} (h0:0<=s) (h1:s<n):(nth a.2.2 s).length=9:=V.row _ (bK h0 (by rw[V.nlen];exact h1))
theorem VA.mv {s:Int} {k:Nat} (h0:0<=s) (h1:s<n) (hk:k<9): -1<=mv a s k/\mv a s k<n:=
 V.ent _ (bK h0 (by rw[V.nlen];exact h1)) _ (bK (by omega) (by rw[V.rowAt h0 h1];omega))
theorem VA.get {s:Int} (h0:0<=s) (h1:s<n):a8 a.2.2 s=some (nth a.2.2 s):=aF h0 (by rw[V.nlen];exact h1)
theorem VA.get2 {s:Int} {k:Nat} (h0:0<=s) (h1:s<n) (hk:k<9):a8 (nth a.2.2 s) (k:Int)=some (D.mv a s k):=aF (by omega) (by rw[V.rowAt h0 h1];omega)
theorem VA.acc {s:Int} (h0:0<=s) (h1:s<n):a8 a.2.1 s=some (nth a.2.1 s):=aF h0 (by rw[V.len];exact h1)
theorem KG {s:Int} {k:Nat} (h0:0<=s) (h1:s<n) (hk:k<9):bh a s (k:Int)=some (mv a s k):=by
 unfold bh mC
 rw[if_neg (by simp;omega),NI];simp only[aa]
 rw[if_pos (by simp;omega),V.get h0 h1];simp only[aa]
 rw[V.get2 h0 h1 hk];rfl
end
theorem Dn {a:AutT} {s:Int} {k:Int} (h0:s<0):bh a s k=some (-1):=by
 unfold bh;rw[if_pos (by simpa using h0)]
end D
namespace D
open Go.RowKit
abbrev Tok:=Int×Int×Int×Int
def ar (t:Tok):Int:=
 if t.1=1\/t.1=2 then (if t.2.1=0/\t.2.2.1=0/\t.2.2.2=0 then 0 else -1)
 else if t.1=3 then (if (0<=t.2.1/\t.2.1<=8)/\t.2.2.1=0/\t.2.2.2=0 then 0 else -1)
 else if t.1=4\/t.1=5 then (if t.2.1=0/\t.2.2.1=0/\t.2.2.2=0 then 2 else -1)
 else if t.1=6 then (if t.2.1=0/\t.2.2.1=0/\t.2.2.2=0 then 1 else -1)
 else if t.1=7 then (if t.2.1=0/\(0<=t.2.2.1/\t.2.2.1<=t.2.2.2)/\(1<=t.2.2.2/\t.2.2.2<=3) then 1 else -1)
 else -1
theorem Ji (x:Int):iJ x=some (decide (0<=x/\x<=8)):=by unfold iJ;rw[OU];rfl
theorem QC (t:Tok):jI t=some (ar t):=by
 obtain ⟨k,l,lo,hi⟩:=t
 unfold jI ar
 simp only[Ji,OU,aa]
 by_cases h1:k=1
 ·subst h1;simp;grind
 by_cases h2:k=2
 ·subst h2;simp;grind
 by_cases h3:k=3
 ·subst h3;simp;grind
 by_cases h4:k=4
 ·subst h4;simp;grind
 by_cases h5:k=5
 ·subst h5;simp;grind
 by_cases h6:k=6
 ·subst h6;simp;grind
 by_cases h7:k=7
 ·subst h7;simp;grind
 simp[h1,h2,h3,h4,h5,h6,h7]
theorem rD (t:Tok): -1<=ar t/\ar t<=2:=by
 unfold ar
 grind
theorem lJ {t:Tok} (h:0<=ar t):(ar t=2/\(t.1=4\/t.1=5))\/(ar t=1/\(t.1=6\/t.1=7))\/(ar t=0/\(t.1=1\/t.1=2\/t.1=3)):=by
 unfold ar at h⊢
 grind
theorem yR {t:Tok} (h:0<=ar t) (k:t.1=7):(0<=t.2.2.1/\t.2.2.1<=t.2.2.2)/\(1<=t.2.2.2/\t.2.2.2<=3):=by
 unfold ar at h
 grind
mutual
def flat:Tr Tok->List Tok
 | .nil=>[]
 | .node t ks=>gp ks++ [t]
def gp:List (Tr Tok)->List Tok
 | [] =>[]
 | k::ks=>flat k++gp ks
end
inductive WT:Tr Tok->Prop
 | node {t:Tok} {ks:List (Tr Tok)} :ar t=(ks.length:Int)->(∀k,k∈ks->WT k)->WT (.node t ks)
theorem ld: ∀(a b:List (Tr Tok)),gp (a++b)=gp a++gp b
 | [],b=>rfl
 | k::a,b=>by rw[List.cons_append,gp,gp,ld a b,ah]
theorem iQ (x:Tr Tok):gp [x] =flat x:=by rw[gp,gp,List.append_nil]
theorem Gc (x y:Tr Tok):gp [x,y] =flat x++flat y:=by rw[gp,iQ]
theorem WT.cases {x:Tr Tok} (h:WT x):(∃t,x= .node t [] /\ar t=0)\/(∃t a,x= .node t [a] /\ar t=1/\WT a)\/ ∃t a b,x= .node t [a,b] /\ar t=2/\WT a/\WT b:=by
 cases h with
 | @node t ks h1 h2 =>
  have:=(rD t).2
  match ks,h1,h2 with
  | [],h1,h2=>exact .inl ⟨t,rfl,h1⟩
  | [a],h1,h2=>exact .inr (.inl ⟨t,a,rfl,h1,h2 a (by simp)⟩)
  | [a,b],h1,h2=>exact .inr (.inr ⟨t,a,b,rfl,h1,h2 a (by simp),h2 b (by simp)⟩)
  | _::_::_::_,h1,h2=>simp at h1;omega
theorem WT.ind {p:Tr Tok->Prop} (h0: ∀t,ar t=0->p (.node t [])) (h1: ∀t a,ar t=1->WT a->p a->p (.node t [a])) (h2: ∀t a b,ar t=2->WT a->WT b->p a->p b->p (.node t [a,b])) {x:Tr Tok} (h:WT x):p x:=by
 induction h with
 | @node t ks e k ih =>
  have:=(rD t).2
  match ks,e,k,ih with
  | [],e,k,ih=>exact h0 t e
  | [a],e,k,ih=>exact h1 t a e (k a (by simp)) (ih a (by simp))
  | [a,b],e,k,ih=>exact h2 t a b e (k a (by simp)) (k b (by simp)) (ih a (by simp)) (ih b (by simp))
  | _::_::_::_,e,_,_=>simp at e;omega
theorem Ay (t:Tok):flat (.node t [])= [t]:=by rw[flat,gp];rfl
theorem Do (t:Tok) (a:Tr Tok):flat (.node t [a])=flat a++ [t]:=by rw[flat,iQ]
theorem re (t:Tok) (a b:Tr Tok):flat (.node t [a,b])=(flat a++flat b)++ [t]:=by rw[flat,Gc]
theorem WT.pos {x:Tr Tok} (h:WT x):1<=(flat x).length:=by
 cases h with
 | node h1 h2=>rw[flat];simp
def stp (s:List (Tr Tok)) (t:Tok):Option (List (Tr Tok)):=if ar t<0\/(s.length:Int)<ar t then none else some (s.take (s.length - (ar t).toNat)++ [.node t (s.drop (s.length - (ar t).toNat))])
def run:List (Tr Tok)->List Tok->Option (List (Tr Tok))
 | s,[] =>some s
 | s,t::l=>(stp s t).bind fun s'=>run s' l
theorem wJ: ∀(a:List Tok) {b:List Tok} {s:List (Tr Tok)},run s (a++b)=(run s a).bind fun s'=>run s' b
 | [],b,s=>rfl
 | t::a,b,s=>by
  rw[List.cons_append,run,run]
  cases stp s t with
  | none=>rfl
  | some s'=>exact wJ a
theorem rE {a:List Tok} {t:Tok} {s:List (Tr Tok)} :run s (a++ [t])=(run s a).bind fun s'=>stp s' t:=by
 rw[wJ]
 congr 1
 funext s'
 rw[run]
 cases stp s' t <;> rfl
theorem KH: ∀ {l:List Tok} {s s':List (Tr Tok)},run s l=some s'->(∀k,k∈s->WT k)->(∀k,k∈s'->WT k)/\gp s'=gp s++l
 | [],s,s',h,hs=>by
  obtain rfl:=ae h
  exact ⟨hs,by simp⟩
 | t::l,s,s',h,hs=>by
  rw[run] at h
  unfold stp at h
  by_cases c:ar t<0\/(s.length:Int)<ar t
  ·rw[if_pos c] at h;cases h
  ·rw[if_neg c] at h
   have hlen:(s.drop (s.length - (ar t).toNat)).length=(ar t).toNat:=by rw[aU];omega
   obtain ⟨k1,k2⟩:=KH (show run _ l=some s' from h) fun k hk=>by
    rcases aC hk with hk | hk
    ·exact hs k (List.mem_of_mem_take hk)
    ·obtain rfl:=aj hk
     exact .node (by rw[hlen];omega) fun k hk=>hs k (List.mem_of_mem_drop hk)
   refine ⟨k1,?_⟩
   rw[k2,ld,iQ,flat,<-ah,<-ld,List.take_append_drop]
   simp
theorem Jj {x:Tr Tok} (h:WT x): ∀s,run s (flat x)=some (s++ [x]):=by
 refine WT.ind (p:=fun x=> ∀s,run s (flat x)=some (s++ [x])) ?_ ?_ ?_ h
 ·intro t e s
  rw[Ay,run,stp,if_neg (by omega),e]
  simp[run]
 ·intro t a e _ ia s
  rw[Do,rE,ia]
  show stp (s++ [a]) t=_
  rw[stp,if_neg (by simp;omega),e]
  simp
 ·intro t a b e _ _ ia ib s
  rw[re,rE,wJ,ia]
  show ((run (s++ [a]) (flat b)).bind fun s'=>stp s' t)=_
  rw[ib]
  show stp (s++ [a] ++ [b]) t=_
  rw[stp,if_neg (by simp;omega),e]
  have:(s++ [a] ++ [b]).length - (2:Int).toNat=s.length:=by simp
  rw[this]
  simp
def isX (e:List Tok):Bool:=match run [] e with
 | some [_] =>true
 | _=>false
theorem KI {e:List Tok} (h:isX e=true): ∃x,run [] e=some [x] /\WT x/\flat x=e:=by
 unfold isX at h
 split at h
 ·rename_i x hx
  obtain ⟨k1,k2⟩:=KH hx (fun k hk=>by cases hk)
  refine ⟨x,hx,k1 x (by simp),?_⟩
  rw[iQ] at k2
  rw[k2];rfl
 ·cases h
theorem M3 {l:List Tok} : ∀ {s s':List (Tr Tok)},run s l=some s'->s'.length<=s.length+l.length:=by
 induction l with
 | nil=>intro s s' h;obtain rfl:=ae h;simp
 | cons t l ih =>
  intro s s' h
  rw[run] at h
  obtain ⟨s1,h1,h2⟩:=Option.bind_eq_some_iff.1 h
  have h3:=ih h2
  unfold stp at h1
  split at h1
  ·cases h1
  ·obtain rfl:=ae h1
   simp only[aq,aE,az,aI] at h3⊢
   omega
theorem yS {e:List Tok} {i:Nat} (h:i<e.length):e.take (i+1)=e.take i++ [nth e (i:Int)]:=by
 rw[List.take_succ_eq_append_getElem h,aZ h]
theorem B0 {e:List Tok} {i:Nat} (h:i<e.length) {st:List (Tr Tok)} (h1:run [] (e.take i)=some st) (h2:stp st (nth e (i:Int))=none):run [] e=none:=by
 have:run [] (e.take (i+1))=none:=by rw[yS h,rE,h1];exact h2
 rw[<-List.take_append_drop (i+1) e,wJ,this];rfl
theorem Jk {e:List Tok} (he:e.length<=1048576):nk e=some (isX e):=by
 obtain ⟨o,eo,hq⟩:=cd (f:=lz e) (fun i s=> ∃st,s=((st.length:Int),(i:Int))/\run [] (e.take i)=some st) (fun o=>(o= .ret false/\run [] e=none)\/ ∃st,o= .brk ((st.length:Int),(e.length:Int))/\run [] e=some st) e.length (s:=(0,0)) (by
  rintro i s hi ⟨st,rfl,hst⟩
  have hl:=M3 hst
  simp only[aI,aE] at hl
  unfold lz
  simp only[ic]
  by_cases c:i<e.length
  ·rw[if_pos (by simp;omega),aF (by omega) (by omega)];simp only[aa]
   rw[QC];simp only[aa]
   have hr:=rD (nth e (i:Int))
   by_cases c1:ar (nth e (i:Int))<0
   ·refine .inr ⟨_,by rw[if_pos (by simpa using c1)],(fun s' e=>by cases e),.inl ⟨rfl,B0 c hst ?_⟩⟩
    rw[stp,if_pos (.inl c1)]
   ·rw[if_neg (by simpa using c1)]
    by_cases c2:ar (nth e (i:Int))>(st.length:Int)
    ·refine .inr ⟨_,by rw[if_pos (by simpa using c2)],(fun s' e=>by cases e),.inl ⟨rfl,B0 c hst ?_⟩⟩
     rw[stp,if_pos (.inr c2)]
    ·rw[if_neg (by simpa using c2)]
     refine .inl ⟨c,_,rfl,st.take (st.length - (ar (nth e (i:Int))).toNat)++ [.node (nth e (i:Int)) (st.drop (st.length - (ar (nth e (i:Int))).toNat))],?_,?_⟩
     ·rw[cP (n:=(st.length:Int) - ar (nth e (i:Int))) (by omega) (by omega),cP (by omega) (by omega),aB (by omega)]
      congr 1
      simp only[aq,aE,az,aI]
      omega
     ·rw[yS c,rE,hst]
      show stp st _=_
      rw[stp,if_neg (by omega)]
  ·obtain rfl:i=e.length:=by omega
   rw[List.take_of_length_le (by omega)] at hst
   exact .inr ⟨_,by rw[if_neg (by simp)],(fun s' e=>by cases e),.inr ⟨st,rfl,hst⟩⟩) ⟨[],rfl,rfl⟩ (ju (by omega))
 unfold nk
 rcases hq with ⟨rfl,h⟩ | ⟨st,rfl,h⟩
 ·rw[bm eo];unfold isX;rw[h]
 ·rw[ax eo];unfold isX;rw[h]
  match st with
  | [] =>rfl
  | [_] =>rfl
  | _::_::_=>simp;omega
def Ge (e:List Tok):Tr Tok:=match run [] e with
 | some [x] =>x
 | _=>.nil
theorem uZ {x:Tr Tok} (h:WT x):Ge (flat x)=x:=by unfold Ge;rw[Jj h];rfl
theorem Az {e:List Tok} (he:e.length<=1048576):eV e=some (decide (e.length<=24)&&isX e):=by
 unfold eV
 rw[Jk he]
 by_cases c:e.length<=24
 ·rw[if_pos (by simp;omega)];simp[c]
 ·rw[if_neg (by simp;omega)];simp[c]
theorem chk_of {p:Prop} [Decidable p] (h:p):chk p=some ():=by unfold chk;rw[if_pos h]
theorem M4 {A:List Tok} {x:Tr Tok} (hx:WT x) (hl:(A++flat x).length<=1000000):eW (A++flat x)=some (A.length:Int):=by
 obtain ⟨s',e,ks,q1,q2,q3⟩: ∃s',aG (iE (A++flat x)) aV (1,((A++flat x).length:Int))=some (.brk s')/\ ∃ks:List (Tr Tok),ks= [] /\s'.2=(A.length:Int)/\True:=by
  obtain ⟨o,eo,hq⟩:=cd (f:=iE (A++flat x)) (fun i s=> ∃ks:List (Tr Tok),(∀k,k∈ks->WT k)/\s=((ks.length:Int),(((A++gp ks).length:Nat):Int))/\i+(gp ks).length=(flat x).length/\(A++flat x).take (A++gp ks).length=A++gp ks) (fun o=> ∃s',o= .brk s'/\s'.2=(A.length:Int)) (flat x).length (s:=(1,((A++flat x).length:Int))) (by
   rintro i s hi ⟨ks,hw,rfl,hlen,htk⟩
   unfold iE
   simp only[ic]
   rcases List.eq_nil_or_concat ks with rfl | ⟨ks',y,rfl⟩
   ·refine .inr ⟨_,by rw[if_neg (by simp)],(fun s' e=>by cases e),_,rfl,?_⟩
    simp[gp]
   ·have hy:=hw y (by simp)
    cases hy with
    | @node t cs h1 h2 =>
     have hfl:gp (ks'++ [.node t cs])=gp (ks'++cs)++ [t]:=by rw[ld,iQ,flat,ld,ah]
     rw[List.concat_eq_append,hfl] at hlen htk⊢
     simp only[aq,az,aI] at hlen htk hl⊢
     rw[if_pos (by simp <;> omega)]
     have hpos:IntKind.i64.wrap (((A.length+((gp (ks'++cs)).length+1):Nat):Int) - 1)=((A.length+(gp (ks'++cs)).length:Nat):Int):=by
      rw[cP (by omega) (by omega)];omega
     have hget:nth (A++flat x) ((A.length+(gp (ks'++cs)).length:Nat):Int)=t:=by
      have hlt:A.length+(gp (ks'++cs)).length<(A++flat x).length:=by rw[aq];omega
      have e1:=congrArg (fun l:List Tok=>l[A.length+(gp (ks'++cs)).length]?) htk
      rw[List.getElem?_take_of_lt (by omega),List.getElem?_eq_getElem hlt,<-ah,List.getElem?_append_right (by rw[aq];omega),aq] at e1
      rw[aZ hlt]
      simpa using e1
     rw[hpos,aF (by omega) (by simp only[aq];omega),hget];simp only[aa]
     rw[QC,h1];simp only[aa]
     have hcl:(cs.length:Int)<=2:=by rw[<-h1];exact (rD t).2
     have hkl:ks'.length<=(gp (ks'++cs)).length+1000000:=by
      have: ∀l:List (Tr Tok),(∀k,k∈l->WT k)->l.length<=(gp l).length:=by
       intro l
       induction l with
       | nil=>intro _;simp
       | cons k l ih =>
        intro h
        have h1:=(h k (by simp)).pos
        have h2:=ih fun k hk=>h k (by simp[hk])
        rw[gp];simp only[az,aq];omega
      have:=this ks' fun k hk=>hw k (by simp[hk])
      rw[ld,aq];omega
     refine .inl ⟨by omega,_,rfl,ks'++cs,fun k hk=>?_,?_,by omega,?_⟩
     ·rcases aC hk with hk | hk
      ·exact hw k (by simp[hk])
      ·exact h2 k hk
     ·rw[cP (n:=((ks'.length+1:Nat):Int) - 1) (by omega) (by omega),cP (by omega) (by omega)]
      congr 1
      (simp only[aq]) <;> omega
     ·have e1:=congrArg (List.take (A++gp (ks'++cs)).length) htk
      rw[List.take_take,Nat.min_eq_left (by rw[aq];omega),<-ah,List.take_left] at e1
      rw[aq] at e1
      exact e1) ⟨[x],fun k hk=>by (obtain rfl:=aj hk;exact hx),by rw[iQ];rfl,by rw[iQ];omega,by rw[iQ,List.take_length]⟩ (ju (by rw[aq] at hl;omega))
  obtain ⟨s',rfl,h2⟩:=hq
  exact ⟨s',eo,[],rfl,h2,trivial⟩
 unfold eW
 rw[ax e,q2]
end D
namespace D
open Go.RowKit
instance trInh {α:Type} :Inhabited (Tr α):=⟨.nil⟩
def szX:Tr Tok->Int
 | .nil=>0
 | .node t ks=>min (szL t 1 ks) 100000
where szL (t:Tok) (acc:Int):List (Tr Tok)->Int
 | [] =>acc
 | k::ks=>szL t (acc+(if t.1=7 then (szX k+3)*t.2.2.2 else szX k)) ks
theorem fR {x:Tr Tok} (h:WT x):1<=szX x/\szX x<=100000:=by
 refine WT.ind (p:=fun x=>1<=szX x/\szX x<=100000) ?_ ?_ ?_ h
 ·intro t _
  show 1<=min (1:Int) 100000/\min (1:Int) 100000<=100000
  omega
 ·intro t a e _ ih
  show 1<=min ((1:Int)+(if t.1=7 then (szX a+3)*t.2.2.2 else szX a)) 100000/\min ((1:Int)+(if t.1=7 then (szX a+3)*t.2.2.2 else szX a)) 100000<=100000
  split
  ·rename_i k
   have hr:=yR (show 0<=ar t by omega) k
   have:0<=(szX a+3)*t.2.2.2:=Int.mul_nonneg (by omega) (by omega)
   omega
  ·omega
 ·intro t a b e _ _ iha ihb
  have k:t.1≠7:=by
   rcases lJ (show 0<=ar t by omega) with ⟨_,k⟩ | ⟨k,_⟩ | ⟨k,_⟩ <;> omega
  show 1<=min ((1:Int)+(if t.1=7 then (szX a+3)*t.2.2.2 else szX a)+(if t.1=7 then (szX b+3)*t.2.2.2 else szX b)) 100000/\min ((1:Int)+(if t.1=7 then (szX a+3)*t.2.2.2 else szX a)+(if t.1=7 then (szX b+3)*t.2.2.2 else szX b)) 100000<=100000
  rw[if_neg k,if_neg k]
  omega
theorem Gf {a h:Int} (h1:1<=a/\a<=100000) (h2:1<=h/\h<=3):IntKind.i64.wrap ((IntKind.i64.wrap (a+3))*h)=(a+3)*h:=by
 rw[cP (n:=a+3) (by omega) (by omega)]
 have k1:0<=(a+3)*h:=Int.mul_nonneg (by omega) (by omega)
 have k2:(a+3)*h<=100003*3:=Int.mul_le_mul (by omega) (by omega) (by omega) (by omega)
 exact cP (by omega) (by omega)
theorem M5 {a h:Int} (h1:1<=a/\a<=100000) (h2:1<=h/\h<=3):0<=(a+3)*h/\(a+3)*h<=300009:=by
 have k1:0<=(a+3)*h:=Int.mul_nonneg (by omega) (by omega)
 have k2:(a+3)*h<=100003*3:=Int.mul_le_mul (by omega) (by omega) (by omega) (by omega)
 omega
theorem jq {A:List Tok} {t:Tok} (h:A.length<=1000000):a8 (A++ [t]) (IntKind.i64.wrap (((A++ [t]).length:Int) - 1))=some t/\IntKind.i64.wrap (((A++ [t]).length:Int) - 1)=(A.length:Int):=by
 have e:IntKind.i64.wrap (((A++ [t]).length:Int) - 1)=(A.length:Int):=by
  rw[cP (by simp only[aq,az,aI];omega) (by simp only[aq,az,aI];omega)]
  simp only[aq,az,aI];omega
 refine ⟨?_,e⟩
 rw[e,aF (by omega) (by simp only[aq,az,aI];omega),aZ (by simp)]
 simp
theorem QD {t:Tok} (h:ar t=2):(if t.1==4 then (some (t.1==4)) else (some (t.1==5)):Option Bool)=some true:=by
 rcases lJ (show 0<=ar t by omega) with ⟨_,k | k⟩ | ⟨e,_⟩ | ⟨e,_⟩
 ·simp[k]
 ·simp[k]
 ·omega
 ·omega
theorem Jl {t:Tok} (h:ar t=1\/ar t=0):(if t.1==4 then (some (t.1==4)) else (some (t.1==5)):Option Bool)=some false:=by
 rcases lJ (show 0<=ar t by omega) with ⟨e,k⟩ | ⟨e,k | k⟩ | ⟨e,k | k | k⟩
 ·omega
 all_goals simp[k]
theorem OV {t:Tok} (h:ar t=0):(t.1==6)=false/\(t.1==7)=false:=by
 rcases lJ (show 0<=ar t by omega) with ⟨e,k⟩ | ⟨e,k | k⟩ | ⟨e,k | k | k⟩
 ·omega
 ·omega
 ·omega
 all_goals simp[k]
theorem M6 {t:Tok} (h:ar t=1):((t.1==6)=true/\t.1=6)\/((t.1==6)=false/\(t.1==7)=true/\t.1=7):=by
 rcases lJ (show 0<=ar t by omega) with ⟨e,k⟩ | ⟨e,k | k⟩ | ⟨e,k | k | k⟩
 ·omega
 ·left;simp[k]
 ·right;simp[k]
 all_goals omega
theorem tj {a b:Tr Tok} {t:Tok} (wb:WT b) (hl:((flat a++flat b)++ [t]).length<=1000000) :
  (((flat a++flat b)++ [t]).take ((((flat a++flat b).length:Nat):Int)).toNat)=flat a++flat b /\
  eW (flat a++flat b)=some (((flat a).length:Nat):Int) /\
  (((flat a++flat b)++ [t]).take ((((flat a).length:Nat):Int)).toNat)=flat a /\
  (flat a++flat b).drop ((((flat a).length:Nat):Int)).toNat=flat b:=by
 refine ⟨?_,M4 wb (by simp only[aq,az,aI] at hl⊢;omega),?_,?_⟩
 ·rw[Int.toNat_natCast,List.take_left]
 ·rw[Int.toNat_natCast,ah,List.take_left]
 ·rw[Int.toNat_natCast,List.drop_left]
theorem OW {x:Tr Tok} (h:WT x): ∀n,(flat x).length<=n->(flat x).length<=1000000->cJ n (flat x)=some (szX x):=by
 refine WT.ind (p:=fun x=> ∀n,(flat x).length<=n->(flat x).length<=1000000->cJ n (flat x)=some (szX x)) ?_ ?_ ?_ h
 ·intro t e n hn hl
  rw[Ay] at hn hl⊢
  match n,hn with
  | n+1,_ =>
   have hk:=OV e
   rw[cJ]
   have:=(jq (A:=[]) (t:=t) (by simp)).1
   rw[List.nil_append] at this
   rw[this];simp only[aa]
   rw[Jl (.inr e)];simp only[aa,hk.1,hk.2,Bool.false_eq_true,if_false]
   rfl
 ·intro t a e wa ih n hn hl
  rw[Do] at hn hl⊢
  simp only[aq,az,aI] at hn hl
  match n,hn with
  | n+1,hn =>
   have hr:=fR wa
   rw[cJ]
   obtain ⟨l1,l2⟩:=jq (A:=flat a) (t:=t) (by omega)
   rw[l1];simp only[aa]
   rw[Jl (.inl e)];simp only[aa,Bool.false_eq_true,if_false]
   rw[l2,Int.toNat_natCast,List.take_left,chk_of (by simp only[aq,az,aI];omega)];simp only[aa]
   rw[ih n (by omega) (by omega)];simp only[aa]
   rcases M6 e with ⟨k1,k2⟩ | ⟨k1,k2,k3⟩
   ·rw[if_pos k1,cP (by omega) (by omega)]
    show some (min 100000 (szX a+1))=some (min ((1:Int)+(if t.1=7 then (szX a+3)*t.2.2.2 else szX a)) 100000)
    rw[if_neg (by omega)]
    congr 1;omega
   ·have h7:=yR (show 0<=ar t by omega) k3
    have hm:=M5 hr h7.2
    rw[if_neg (by simp[k1]),if_pos k2,Gf hr h7.2,cP (by omega) (by omega)]
    show some (min 100000 ((szX a+3)*t.2.2.2+1))=some (min ((1:Int)+(if t.1=7 then (szX a+3)*t.2.2.2 else szX a)) 100000)
    rw[if_pos k3]
    congr 1;omega
 ·intro t a b e wa wb iha ihb n hn hl
  rw[re] at hn hl⊢
  obtain ⟨p1,p2,p3,p4⟩:=tj (a:=a) (t:=t) wb hl
  simp only[aq,az,aI] at hn hl
  match n,hn with
  | n+1,hn =>
   have hra:=fR wa
   have hrb:=fR wb
   have k:t.1≠7:=by
    rcases lJ (show 0<=ar t by omega) with ⟨_,k⟩ | ⟨k,_⟩ | ⟨k,_⟩ <;> omega
   rw[cJ]
   obtain ⟨l1,l2⟩:=jq (A:=flat a++flat b) (t:=t) (by rw[aq];omega)
   rw[l1];simp only[aa]
   rw[QD e];simp only[aa,if_true]
   rw[l2,p1,p2,chk_of (by simp only[aq,az,aI];omega)];simp only[aa]
   rw[chk_of (by simp only[aq,az,aI];omega),p3,p4];simp only[aa]
   rw[iha n (by omega) (by omega),chk_of (by simp only[aq,az,aI];omega)];simp only[aa]
   rw[ihb n (by have:=wa.pos;omega) (by omega)];simp only[aa]
   rw[cP (n:=szX a+szX b) (by omega) (by omega),cP (by omega) (by omega)]
   show some (min 100000 (szX a+szX b+1))=some (min ((1:Int)+(if t.1=7 then (szX a+3)*t.2.2.2 else szX a)+(if t.1=7 then (szX b+3)*t.2.2.2 else szX b)) 100000)
   rw[if_neg k,if_neg k]
   congr 1;omega
def Jm:Tr Tok:=.node (2,0,0,0) []
def Dq (x:Tr Tok):Nat->Int->Tr Tok
 | 0,_=>Jm
 | h+1,low=>if 0<low then .node (4,0,0,0) [x,Dq x h (max 0 (low - 1))] else .node (5,0,0,0) [.node (4,0,0,0) [x,Dq x h (max 0 (low - 1))],Jm]
mutual
def qk:Tr Tok->Tr Tok
 | .nil=>.nil
 | .node t ks=>if t.1=7 then Dq ((Jn ks).headD .nil) t.2.2.2.toNat t.2.2.1 else .node t (Jn ks)
def Jn:List (Tr Tok)->List (Tr Tok)
 | [] =>[]
 | k::ks=>qk k::Jn ks
end
theorem ar4:ar (4,0,0,0)=2:=by decide
theorem ar5:ar (5,0,0,0)=2:=by decide
theorem ar2:ar (2,0,0,0)=0:=by decide
theorem Gg:WT Jm:=.node ar2 fun k hk=>by cases hk
theorem pB:flat Jm= [(2,0,0,0)]:=Ay _
theorem WT.two {t:Tok} {a b:Tr Tok} (h:ar t=2) (ha:WT a) (hb:WT b):WT (.node t [a,b]):=.node h fun k hk=>by
 rcases au hk with rfl | hk
 ·exact ha
 ·obtain rfl:=aj hk
  exact hb
theorem WT.one {t:Tok} {a:Tr Tok} (h:ar t=1) (ha:WT a):WT (.node t [a]):=.node h fun k hk=>by
 obtain rfl:=aj hk
 exact ha
theorem AA {x:Tr Tok} (hx:WT x): ∀(h:Nat) (low:Int),WT (Dq x h low)
 | 0,_=>Gg
 | h+1,low=>by
  rw[Dq]
  split
  ·exact .two ar4 hx (AA hx h _)
  ·exact .two ar5 (.two ar4 hx (AA hx h _)) Gg
theorem wK (x:Tr Tok): ∀(h:Nat) (low:Int),(flat (Dq x h low)).length<=((flat x).length+3)*h+1
 | 0,_=>by rw[Dq,pB];simp
 | h+1,low=>by
  have ih:=wK x h (max 0 (low - 1))
  rw[Dq]
  split
  ·rw[re];simp only[aq,az,aI]
   rw[Nat.mul_succ];omega
  ·rw[re,re,pB];simp only[aq,az,aI]
   rw[Nat.mul_succ];omega
theorem P6 {t:Tok} {a:Tr Tok} :qk (.node t [a])=if t.1=7 then Dq (qk a) t.2.2.2.toNat t.2.2.1 else .node t [qk a]:=by rw[qk,Jn,Jn];rfl
theorem exp2 {t:Tok} {a b:Tr Tok} (h:t.1≠7):qk (.node t [a,b])= .node t [qk a,qk b]:=by rw[qk,if_neg h,Jn,Jn,Jn]
theorem P7 {t:Tok} (h:t.1≠7):qk (.node t [])= .node t []:=by rw[qk,if_neg h,Jn]
theorem no7 {t:Tok} (h:ar t=2\/ar t=0):t.1≠7:=by
 rcases lJ (show 0<=ar t by omega) with ⟨_,k⟩ | ⟨k,_⟩ | ⟨_,k⟩ <;> omega
theorem OX {x:Tr Tok} (h:WT x):WT (qk x):=by
 refine WT.ind (p:=fun x=>WT (qk x)) ?_ ?_ ?_ h
 ·intro t e
  rw[P7 (no7 (.inr e))]
  exact .node e fun k hk=>by cases hk
 ·intro t a e _ ih
  rw[P6]
  split
  ·exact AA ih _ _
  ·exact .one e ih
 ·intro t a b e _ _ iha ihb
  rw[exp2 (no7 (.inl e))]
  exact .two e iha ihb
theorem wL {x:Tr Tok} (h:WT x):szX x<100000->((flat (qk x)).length:Int)<=szX x:=by
 refine WT.ind (p:=fun x=>szX x<100000->((flat (qk x)).length:Int)<=szX x) ?_ ?_ ?_ h
 ·intro t e _
  rw[P7 (no7 (.inr e)),Ay]
  show (1:Int)<=min 1 100000
  omega
 ·intro t a e wa ih hs
  have hr:=fR wa
  have hs':min ((1:Int)+(if t.1=7 then (szX a+3)*t.2.2.2 else szX a)) 100000<100000:=hs
  show _<=min ((1:Int)+(if t.1=7 then (szX a+3)*t.2.2.2 else szX a)) 100000
  rw[P6]
  by_cases k:t.1=7
  ·rw[if_pos k] at hs'⊢
   rw[if_pos k]
   have h7:=yR (show 0<=ar t by omega) k
   have hge:szX a+3<=(szX a+3)*t.2.2.2:=by
    have:=Int.mul_le_mul_of_nonneg_left (c:=szX a+3) h7.2.1 (by omega)
    omega
   have h1:=ih (by omega)
   have h2:=wK (qk a) t.2.2.2.toNat t.2.2.1
   have h3:(((flat (qk a)).length+3)*t.2.2.2.toNat:Int)<=(szX a+3)*t.2.2.2:=by
    rw[Int.toNat_of_nonneg (by omega)]
    exact Int.mul_le_mul_of_nonneg_right (by omega) (by omega)
   have h4:((flat (Dq (qk a) t.2.2.2.toNat t.2.2.1)).length:Int)<=(((flat (qk a)).length+3)*t.2.2.2.toNat:Int)+1:=by exact_mod_cast h2
   omega
  ·rw[if_neg k] at hs'⊢
   rw[if_neg k,Do]
   have h1:=ih (by omega)
   simp only[aq,az,aI]
   omega
 ·intro t a b e wa wb iha ihb hs
  have hra:=fR wa
  have hrb:=fR wb
  have k:=no7 (.inl e)
  have hs':min ((1:Int)+(if t.1=7 then (szX a+3)*t.2.2.2 else szX a)+(if t.1=7 then (szX b+3)*t.2.2.2 else szX b)) 100000<100000:=hs
  show _<=min ((1:Int)+(if t.1=7 then (szX a+3)*t.2.2.2 else szX a)+(if t.1=7 then (szX b+3)*t.2.2.2 else szX b)) 100000
  rw[if_neg k,if_neg k] at hs'⊢
  rw[exp2 k,re]
  have h1:=iha (by omega)
  have h2:=ihb (by omega)
  simp only[aq,az,aI]
  omega
theorem tk {a b:List Tok} {t:Tok} (h:a.length+b.length<=1000000):cG a b t=some ((a++b)++ [t]):=by
 unfold cG qe
 rw[aP (by simp only[aq,az,aI];omega)];simp only[aa,List.nil_append]
 rw[aP (by omega)];simp only[aa]
 rw[aP (by simp only[aq,az,aI];omega)];rfl
theorem Gh {x:Tr Tok} : ∀(h n:Nat) (low:Int),h<n->h<=3->0<=low->low<=3->(flat x).length<=100000->gy n (flat x) low (h:Int)=some (flat (Dq x h low))
 | 0,n+1,low,_,_,_,_,_=>by
  rw[gy,if_pos (by rfl),Dq,pB];rfl
 | h+1,n+1,low,h1,h2,h3,h4,h5=>by
  rw[gy,if_neg (by simp;omega),cP (n:=low - 1) (by omega) (by omega),cP (n:=((h+1:Nat):Int) - 1) (by omega) (by omega)]
  rw[show ((h+1:Nat):Int) - 1=(h:Int) from by omega,Gh h n (max 0 (low - 1)) (by omega) (by omega) (by omega) (by omega) h5];simp only[aa]
  have hl:=wK x h (max 0 (low - 1))
  have hl3:((flat x).length+3)*h<=100003*3:=Nat.mul_le_mul (by omega) (by omega)
  rw[tk (by omega),Dq];simp only[aa]
  by_cases c:0<low
  ·rw[if_pos (by simpa using c),if_pos c,re]
  ·rw[if_neg (by simpa using c),if_neg c,re,re,pB]
   show (jt 2).bind _=_
   unfold jt;simp only[aa]
   rw[tk (by simp only[aq,az,aI];omega)];rfl
theorem pC:1000000000000<=jX:=by rw[Hx];unfold aV;omega
theorem Jo {x:Tr Tok} (h:WT x): ∀n,(flat x).length<=n->(flat x).length<=1000000->szX x<=50000->bR n (flat x)=some (flat (qk x)):=by
 have hF:=pC
 refine WT.ind (p:=fun x=> ∀n,(flat x).length<=n->(flat x).length<=1000000->szX x<=50000->bR n (flat x)=some (flat (qk x))) ?_ ?_ ?_ h
 ·intro t e n hn hl hs
  rw[Ay] at hn hl⊢
  match n,hn with
  | n+1,_ =>
   have hk:=OV e
   rw[bR]
   have:=(jq (A:=[]) (t:=t) (by simp)).1
   rw[List.nil_append] at this
   rw[this];simp only[aa]
   rw[Jl (.inr e)];simp only[aa,hk.1,hk.2,Bool.false_eq_true,if_false]
   rw[P7 (no7 (.inr e)),Ay]
 ·intro t a e wa ih n hn hl hs
  have hs':min ((1:Int)+(if t.1=7 then (szX a+3)*t.2.2.2 else szX a)) 100000<=50000:=hs
  rw[Do] at hn hl⊢
  simp only[aq,az,aI] at hn hl
  match n,hn with
  | n+1,hn =>
   have hr:=fR wa
   have hsa:szX a<=50000:=by
    by_cases k:t.1=7
    ·rw[if_pos k] at hs'
     have h7:=yR (show 0<=ar t by omega) k
     have hge:szX a+3<=(szX a+3)*t.2.2.2:=by
      have:=Int.mul_le_mul_of_nonneg_left (c:=szX a+3) h7.2.1 (by omega)
      omega
     omega
    ·rw[if_neg k] at hs';omega
   have hla:=wL wa (by omega)
   rw[bR]
   obtain ⟨l1,l2⟩:=jq (A:=flat a) (t:=t) (by omega)
   rw[l1];simp only[aa]
   rw[Jl (.inl e)];simp only[aa,Bool.false_eq_true,if_false]
   rw[l2,Int.toNat_natCast,List.take_left,chk_of (by simp only[aq,az,aI];omega)];simp only[aa]
   rw[ih n (by omega) (by omega) hsa,P6];simp only[aa]
   rcases M6 e with ⟨k1,k2⟩ | ⟨k1,k2,k3⟩
   ·rw[if_pos k1,if_neg (by omega),tk (by simp;omega),Do];simp
   ·have h7:=yR (show 0<=ar t by omega) k3
    rw[if_neg (by simp[k1]),if_pos k2,if_pos k3]
    have:=Gh (x:=qk a) t.2.2.2.toNat jX t.2.2.1 (by omega) (by omega) (by omega) (by omega) (by omega)
    rw[Int.toNat_of_nonneg (by omega)] at this
    rw[this];rfl
 ·intro t a b e wa wb iha ihb n hn hl hs
  have k:=no7 (.inl e)
  have hs':min ((1:Int)+(if t.1=7 then (szX a+3)*t.2.2.2 else szX a)+(if t.1=7 then (szX b+3)*t.2.2.2 else szX b)) 100000<=50000:=hs
  rw[if_neg k,if_neg k] at hs'
  rw[re] at hn hl⊢
  obtain ⟨p1,p2,p3,p4⟩:=tj (a:=a) (t:=t) wb hl
  simp only[aq,az,aI] at hn hl
  match n,hn with
  | n+1,hn =>
   have hra:=fR wa
   have hrb:=fR wb
   have hla:=wL wa (by omega)
   have hlb:=wL wb (by omega)
   rw[bR]
   obtain ⟨l1,l2⟩:=jq (A:=flat a++flat b) (t:=t) (by rw[aq];omega)
   rw[l1];simp only[aa]
   rw[QD e];simp only[aa,if_true]
   rw[l2,p1,p2,chk_of (by simp only[aq,az,aI];omega)];simp only[aa]
   rw[chk_of (by simp only[aq,az,aI];omega),p3,p4];simp only[aa]
   rw[iha n (by omega) (by omega) (by omega),chk_of (by simp only[aq,az,aI];omega)];simp only[aa]
   rw[ihb n (by have:=wa.pos;omega) (by omega) (by omega)];simp only[aa]
   rw[tk (by omega),exp2 k,re];rfl
def DI (e:List Tok):List Tok×Bool:=
 if decide (e.length<=24)&&isX e then (if 5000<szX (Ge e) then ([],false) else (if 400<(flat (qk (Ge e))).length then ([],false) else (flat (qk (Ge e)),true))) else ([],false)
theorem M7 {e:List Tok} (h:(DI e).2=true): ∃y,WT y/\(DI e).1=flat y/\(flat y).length<=400:=by
 unfold DI at h⊢
 split at h
 ·rename_i c
  rw[if_pos c]
  rw[af] at c
  obtain ⟨x,h1,hw,rfl⟩:=KI c.2
  rw[uZ hw] at h⊢
  split at h
  ·cases h
  ·rename_i c2
   rw[if_neg c2]
   split at h
   ·cases h
   ·rename_i c3
    rw[if_neg c3]
    exact ⟨_,OX hw,rfl,by omega⟩
 ·cases h
end D
namespace D
open Go.RowKit
def Dr (out:List Bool) (t:Int):Bool:=decide (t≥0)&&nth out t
def hit (out:List Bool) (row:List Int):Bool:=row.any (Dr out)
def kq (a:AutT) (out:List Bool) (s:Nat):List Bool:=if hit out (nth a.2.2 s) then out.set s true else out
def cF (a:AutT) (out:List Bool):Nat->List Bool
 | 0=>out
 | s+1=>kq a (cF a out s) s
def cnt (out:List Bool):Nat:=out.count true
theorem B1 (out:List Bool):cnt out<=out.length:=List.count_le_length
theorem wM {out:List Bool} {s:Nat} (h:s<out.length) (k:out[s] =true):out.set s true=out:=by
 refine List.ext_getElem (by simp) fun i h1 h2=>?_
 rw[List.getElem_set]
 split
 ·rename_i e;subst e;exact k.symm
 ·rfl
theorem wN {out:List Bool} {s:Nat} (h:s<out.length) (k:out[s] =false):cnt (out.set s true)=cnt out+1:=by
 unfold cnt
 rw[List.count_set h];simp[k]
section
variable {a:AutT} {n:Nat}
theorem wO (a:AutT) (out:List Bool) (s:Nat):(kq a out s).length=out.length:=by unfold kq;split <;> simp
theorem dN (a:AutT) (out:List Bool): ∀s,(cF a out s).length=out.length
 | 0=>rfl
 | s+1=>by rw[cF,wO,dN a out s]
theorem mT {out:List Bool} {s:Nat} (h:s<out.length):(kq a out s=out/\ ¬(hit out (nth a.2.2 s)=true/\nth out s=false))\/(cnt (kq a out s)=cnt out+1/\hit out (nth a.2.2 s)=true/\nth out s=false):=by
 unfold kq
 rw[aZ h]
 cases hh:hit out (nth a.2.2 s) with
 | false=>exact .inl ⟨by simp,by simp⟩
 | true =>
  cases hk:out[s] with
  | true=>exact .inl ⟨by simp[wM h hk],by simp⟩
  | false=>exact .inr ⟨by simp[wN h hk],rfl,rfl⟩
theorem nC {out:List Bool} : ∀s,s<=out.length->(cF a out s=out/\cnt (cF a out s)=cnt out)\/cnt out<cnt (cF a out s)
 | 0,_=>.inl ⟨rfl,rfl⟩
 | s+1,hs=>by
  have hl:s<(cF a out s).length:=by rw[dN];omega
  have ih:=nC (out:=out) s (by omega)
  rw[cF]
  rcases mT (a:=a) hl with ⟨e,-⟩ | ⟨e,-,-⟩
  ·rw[e];exact ih
  ·rcases ih with ⟨-,h2⟩ | h
   ·exact .inr (by omega)
   ·exact .inr (by omega)
def it (a:AutT):Nat->List Bool
 | 0=>a.2.1
 | j+1=>cF a (it a j) a.2.1.length
theorem jT (a:AutT): ∀j,(it a j).length=a.2.1.length
 | 0=>rfl
 | j+1=>by rw[it,dN,jT a j]
theorem KJ (a:AutT) (j:Nat):cnt (it a j)<=a.2.1.length:=by rw[<-jT a j];exact B1 _
theorem AB (a:AutT) (j:Nat):(it a (j+1)=it a j)\/cnt (it a j)<cnt (it a (j+1)):=by
 rcases nC (a:=a) (out:=it a j) a.2.1.length (by rw[jT];exact ay _) with h | h
 ·exact .inl h.1
 ·exact .inr h
theorem KK {j k:Nat} (h:it a (j+1)=it a j) (hk:j<=k):it a k=it a j:=by
 induction hk with
 | refl=>rfl
 | step _ ih=>rw[it,ih];exact h
theorem Gi {j k:Nat} (h:it a (j+1)=it a j) (h':it a (k+1)=it a k):it a j=it a k:=by
 rcases Nat.le_total j k with e | e
 ·exact (KK h e).symm
 ·exact KK h' e
theorem Gj (a : AutT) : it a (a.2.1.length + 1) = it a a.2.1.length := by
  have key : ∀ j, it a (j + 1) = it a j \/ j + 1 <= cnt (it a (j + 1)) := by
    intro j
    induction j with
    | zero => rcases AB a 0 with h | h
              · exact .inl h
              · exact .inr (by omega)
    | succ j ih =>
      rcases AB a (j + 1) with h | h
      · exact .inl h
      · rcases ih with h' | h'
        · left; rw [it, h']; exact h'
        · exact .inr (by omega)
  rcases key a.2.1.length with h | h
  · exact h
  · have := KJ a (a.2.1.length + 1); omega
def live (a:AutT):List Bool:=it a a.2.1.length
theorem jU (a:AutT):(live a).length=a.2.1.length:=jT a _
theorem B2 {α:Type} [Inhabited α] {row:List α} {p:α->Bool} {k:Nat} (h:k<row.length):(row.take (k+1)).any p=((row.take k).any p || p (nth row (k:Int))):=by
 rw[List.take_succ_eq_append_getElem h,List.any_append,aZ h];simp
section
variable (V:VA a n) (hn:n<=1000000)
include V hn
theorem Gk {out:List Bool} {s:Nat} (hs:s<n) (hl:out.length=n):aG (fL a (out,(s:Int))) aV (out,0)=some (.brk (kq a out s,9)):=by
 have hr:=V.rowAt (s:=s) (by omega) (by omega)
 have hls:s<out.length:=by omega
 have:=bp (f:=fL a (out,(s:Int))) (fun k=>(if ((nth a.2.2 (s:Int)).take k).any (Dr out) then out.set s true else out,(k:Int))) 9 (fun k hk=>by
  unfold fL
  simp only
  rw[if_pos (by simp;omega),V.get (by omega) (by omega)];simp only[aa]
  rw[V.get2 (by omega) (by omega) hk];simp only[aa]
  rw[B2 (by omega),show nth (nth a.2.2 (s:Int)) (k:Int)=mv a s k from rfl]
  simp only[aB (show k<9223372036854775807 by omega)]
  by_cases c:mv a s k≥0
  ·have hset:(out.set s true).length=n:=by simp[hl]
   have hm:=(V.mv (s:=s) (k:=k) (by omega) (by omega) hk).2
   rw[if_pos (by simpa using c)]
   by_cases q:((nth a.2.2 (s:Int)).take k).any (Dr out)=true
   ·simp only[q,if_true,Bool.true_or]
    rw[aF c (by rw[hset];exact hm),aF (by omega) (by rw[hset];omega)];simp only[aa,Int.toNat_natCast]
    split <;> simp
   ·simp only[q,Bool.false_eq_true,if_false,Bool.false_or,Dr]
    rw[aF c (by rw[hl];exact hm),aF (by omega) (by rw[hl];omega)];simp only[aa,Int.toNat_natCast]
    cases hc:nth out (mv a s k) <;> simp[hc,c]
  ·rw[if_neg (by simpa using c)]
   simp[Dr,c]) (by unfold fL;simp) (by unfold aV;omega)
 have e9:(nth a.2.2 (s:Int)).take 9=nth a.2.2 (s:Int):=List.take_of_length_le (by omega)
 rw[e9] at this
 exact this
theorem yT {out:List Bool} (hl:out.length=n):aG (fM a) aV (out,0)=some (.brk (cF a out n,(n:Int))):=by
 have hlen:=V.len
 refine bp (f:=fM a) (fun s=>(cF a out s,(s:Int))) n (fun s hs=>?_) ?_ (ju (by omega))
 ·unfold fM
  simp only
  rw[if_pos (by simp;omega),ax (Gk V hn hs (by rw[dN];exact hl)),aB (by omega)]
  rfl
 ·unfold fM
  simp only
  rw[if_neg (by simp;omega)]
theorem Gl:gi a=some (live a):=by
 have hlen:=V.len
 unfold gi
 rw[aP (by simp;omega)];simp only[aa,List.nil_append]
 have:=bp (f:=iC a) (fun j=>(it a j,(j:Int))) n (fun j hj=>by
  unfold iC
  simp only
  rw[if_pos (by simp;omega),ax (yT V hn (by rw[jT];exact hlen)),aB (by omega),it,hlen]) (by
  unfold iC
  simp only
  rw[if_neg (by simp;omega)]) (ju (by omega))
 exact (ax this).trans (by simp[live,hlen])
theorem Gn {out:List Bool} {g:Bool} {s:Nat} (hs:s<n) (hl:out.length=n):aG (cm (g,(s:Int),out) (nth a.2.2 (s:Int))) aV (g,0,out)=some (.brk (g || (hit out (nth a.2.2 (s:Int)) && !nth out (s:Int)),9,kq a out s)):=by
 have hr:=V.rowAt (s:=s) (by omega) (by omega)
 have hls:s<out.length:=by omega
 have:=bp (f:=cm (g,(s:Int),out) (nth a.2.2 (s:Int))) (fun k=>(g || (((nth a.2.2 (s:Int)).take k).any (Dr out) && !nth out (s:Int)),(k:Int),if ((nth a.2.2 (s:Int)).take k).any (Dr out) then out.set s true else out)) 9 (fun k hk=>by
  unfold cm
  simp only
  rw[if_pos (by simp[hr];omega),V.get2 (by omega) (by omega) hk];simp only[aa]
  rw[B2 (by omega),show nth (nth a.2.2 (s:Int)) (k:Int)=mv a s k from rfl]
  simp only[aB (show k<9223372036854775807 by omega)]
  by_cases c:mv a s k≥0
  ·have hset:(out.set s true).length=n:=by simp[hl]
   have hm:=(V.mv (s:=s) (k:=k) (by omega) (by omega) hk).2
   rw[if_pos (by simpa using c)]
   by_cases q:((nth a.2.2 (s:Int)).take k).any (Dr out)=true
   ·simp only[q,if_true,Bool.true_or]
    have hself:nth (out.set s true) (s:Int)=true:=by
     have:=dC (xs:=out) (i:=(s:Int)) (x:=true) (by omega) (by omega)
     simpa using this
    rw[aF c (by rw[hset];exact hm),aF (by omega) (by rw[hset];omega)];simp only[aa,Int.toNat_natCast,hself,if_true]
    split <;> simp
   ·simp only[q,Bool.false_eq_true,if_false,Bool.false_or,Dr,Bool.false_and,Bool.or_false]
    rw[aF c (by rw[hl];exact hm),aF (by omega) (by rw[hl];omega)];simp only[aa,Int.toNat_natCast]
    cases hc:nth out (mv a s k) with
    | false=>simp[c]
    | true =>
     cases hd:nth out (s:Int) with
     | false=>simp[c]
     | true =>
      rw[aZ hls] at hd
      simp[c,wM hls hd]
  ·rw[if_neg (by simpa using c)]
   simp[Dr,c]) (by unfold cm;simp[hr]) (by unfold aV;omega)
 have e9:(nth a.2.2 (s:Int)).take 9=nth a.2.2 (s:Int):=List.take_of_length_le (by omega)
 rw[e9] at this
 have e0:(g || (((nth a.2.2 (s:Int)).take 0).any (Dr out) && !nth out (s:Int)))=g:=by simp
 rw[e0] at this
 exact this
theorem yU {out:List Bool} (hl:out.length=n): ∃g,aG (cn a) aV (false,0,out)=some (.brk (g,(n:Int),cF a out n))/\(g=true↔cnt out<cnt (cF a out n)):=by
 have hlen:=V.len
 have hnl:=V.nlen
 obtain ⟨s',e,⟨g,rfl,hg⟩⟩:=b0 (f:=cn a) (fun s st=> ∃g,st=(g,(s:Int),cF a out s)/\(g=true↔cnt out<cnt (cF a out s))) n (by
  rintro s st hs ⟨g,rfl,hg⟩
  have hpl:(cF a out s).length=n:=by rw[dN];exact hl
  unfold cn
  simp only
  rw[if_pos (by simp;omega),V.get (by omega) (by omega)];simp only[aa]
  rw[ax (Gn V hn hs hpl),aB (by omega)]
  refine ⟨_,rfl,_,rfl,?_⟩
  rw[Bool.or_eq_true,af,Bool.not_eq_true',hg,cF]
  have hc:=nC (a:=a) (out:=out) s (by omega)
  rcases mT (a:=a) (out:=cF a out s) (s:=s) (by omega) with ⟨e,k⟩ | ⟨e,k⟩
  ·rw[e];exact ⟨fun h=>h.elim id fun h=>absurd h k,.inl⟩
  ·rw[e]
   exact ⟨fun _=>by rcases hc with ⟨-,h⟩ | h <;> omega,fun _=>.inr k⟩) (by
  rintro s ⟨g,rfl,hg⟩
  unfold cn
  simp only
  rw[if_neg (by simp;omega)]) ⟨false,rfl,by simp[cF]⟩ (ju (by omega))
 exact ⟨g,e,hg⟩
theorem KL:cw a=some (live a):=by
 have hlen:=V.len
 unfold cw
 rw[aP (by simp;omega)];simp only[aa,List.nil_append]
 obtain ⟨o,e,i,rfl,hi⟩:=cd (f:=eX a) (fun i s=> ∃b,s=(b,it a i)/\(b=true->i<=cnt (it a i))/\(b=false->it a (i+1)=it a i)) (fun o=> ∃i,o= .brk (false,it a i)/\it a (i+1)=it a i) (n+1) (s:=(true,a.2.1)) (by
  rintro i s hi ⟨b,rfl,h1,h2⟩
  unfold eX
  simp only
  cases b with
  | false=>exact .inr ⟨_,by rw[if_neg (by simp)],(fun s' e=>by cases e),i,rfl,h2 rfl⟩
  | true =>
   have hc:=KJ a i
   have h1:=h1 rfl
   obtain ⟨g,e,hg⟩:=yU V hn (out:=it a i) (by rw[jT];exact hlen)
   have ee:cF a (it a i) n=it a (i+1):=by rw[it,hlen]
   rw[ee] at e hg
   refine .inl ⟨by omega,(g,it a (i+1)),by rw[if_pos rfl,ax e],g,rfl,fun h=>?_,fun h=>?_⟩
   ·have:=hg.1 h;omega
   ·have hs:it a (i+1)=it a i:=by
     rcases AB a i with h' | h'
     ·exact h'
     ·rw[<-hg,h] at h';cases h'
    rw[it,hs];exact hs) ⟨true,rfl,fun _=>Nat.zero_le _,fun h=>by cases h⟩ (ju (by omega))
 rw[ax e]
 have:=Gi hi (Gj a)
 simp[live,this]
end
end
end D
namespace D
open Go.RowKit
def nothing:AutT:=(0,[false],[[-1,-1,-1,-1,-1,-1,-1,-1,-1]])
theorem Gp:kD=some nothing:=by kernel_rfl
theorem Gq:oh=some nothing:=by kernel_rfl
theorem Gr {n:Nat} (h:n<=1000000):iOk (n:Int)=true:=by
 have h1:IntKind.i64.min= -9223372036854775808:=by decide
 have h2:IntKind.i64.max=9223372036854775807:=by decide
 simp only[iOk,Lit.wf,h1,h2,af,decide_eq_true_eq]
 omega
theorem take_one {α:Type} [Inhabited α] {xs:List α} {k:Nat} (h:k<xs.length):xs.take (k+1)=xs.take k++ [nth xs (k:Int)]:=by
 rw[List.take_succ_eq_append_getElem h,aZ h]
theorem ez {α:Type} [Inhabited α] {xs ys:List α} (h:xs <+:ys) {i:Int} (h0:0<=i) (h1:i<xs.length):nth ys i=nth xs i:=by
 obtain ⟨t,rfl⟩:=h
 exact fj h0 h1
structure NumOk {κ:Type} [DecidableEq κ] (nx:κ->List (Option κ)) (first:κ) (G:κ->Prop) (B:Nat):Prop where
 g0:G first
 gn: ∀x,G x-> ∀y,some y∈nx x->G y
 len: ∀x,G x->(nx x).length=9
 bound: ∀l:List κ,l.Nodup->(∀x∈l,G x)->l.length<=B
section
variable {κ:Type} [DecidableEq κ] [Inhabited κ] {nx:κ->List (Option κ)} {first:κ} {G:κ->Prop} {B:Nat}
theorem NumOk.le (H:NumOk nx first G B) (i:Nat):(bfS nx first i).length<=B:=H.bound _ (eh i) (c9 H.g0 H.gn i)
theorem NumOk.at (H:NumOk nx first G B) {i:Nat} (h:i<(bfS nx first i).length):G (nth (bfS nx first i) (i:Int)):=c9 H.g0 H.gn i _ (bK (by omega) (by omega))
theorem fS {i:Nat} (h:i<(bfS nx first i).length):bfS nx first (i+1)=nbS (bfS nx first i) (nx (nth (bfS nx first i) (i:Int))):=by rw[rC h,aZ h]
theorem tm {i:Nat} (h:i<(bfS nx first i).length):bfR nx first (i+1)=bfR nx first i++ [nbR (bfS nx first i) (nx (nth (bfS nx first i) (i:Int)))]:=by rw[nB h,aZ h]
theorem pD {β:Type} {acc:κ->β} {i:Nat} (h:i<(bfS nx first i).length):((bfS nx first (i+1)).take (i+1)).map acc=((bfS nx first i).take i).map acc++ [acc (nth (bfS nx first i) (i:Int))]:=by
 have hp:=bg (nx:=nx) (first:=first) i
 have hl:=hp.length_le
 have e:(bfS nx first (i+1)).take i=(bfS nx first i).take i:=by
  obtain ⟨t,ht⟩:=hp
  rw[<-ht,List.take_append_of_le_length (by omega)]
 rw[take_one (by omega),aH,e,ez hp (by omega) (by omega)];rfl
def MapOf (M:List (κ×Int)) (l:List κ):Prop:=M.length=l.length/\ ∀x,M.lookup x=if x∈l then some (l.idxOf x:Int) else none
theorem MapOf.one (x:κ):MapOf [(x,0)] [x]:=by
 refine ⟨rfl,fun y=>?_⟩
 rw[List.lookup_cons]
 by_cases e:y=x
 ·subst e;simp
 ·simp only[show (y==x)=false from by simp[e]];simp[e]
theorem MapOf.put {M:List (κ×Int)} {l:List κ} (h:MapOf M l) {x:κ} (hx:x∉l):MapOf ((x,(l.length:Int))::M) (l++ [x]):=by
 refine ⟨by simp[h.1],fun y=>?_⟩
 rw[List.lookup_cons]
 by_cases e:y=x
 ·subst e
  simp[List.idxOf_append,hx]
 ·simp only[show (y==x)=false from by simp[e],h.2 y,List.mem_append,List.mem_singleton,e,or_false]
  by_cases k:y∈l
  ·simp[k,List.idxOf_append]
  ·simp[k]
end
section
variable {nx:Int->List (Option Int)} {first:Int} {G:Int->Prop} {B:Nat}
theorem Gs {p3:Int->Int->Option (Int×Bool)} {l:List Int} {M:List (Int×Int)} {os:List (Option Int)} {acs:List Bool} {rws:List (List Int)} {i:Nat}
  (hi:i<l.length) (hos:os.length=9) (hM:MapOf M l) (hok: ∀y,some y∈os->iOk y=true) (hB: ∀k,(nbS l (os.take k)).length<=1000000)
  (hp: ∀(k:Nat) (hk:k<9),∃j,p3 (nth l (i:Int)) (k:Int)=some (match nth os (k:Int) with | some y=>(y,true) | none=>(j,false))) :
  ∃M',aG (cM p3 (l,M,(i:Int),0,acs,rws)) aV (l,M,[],0)=some (.brk (nbS l os,M',nbR l os,9))/\MapOf M' (nbS l os):=by
 obtain ⟨s',e,M',rfl,hM'⟩:=b0 (f:=cM p3 (l,M,(i:Int),0,acs,rws)) (fun k s=> ∃M',s=(nbS l (os.take k),M',nbR l (os.take k),(k:Int))/\MapOf M' (nbS l (os.take k))) 9 (by
  rintro k s hk ⟨M1,rfl,hM1⟩
  have hpre:=dA l (os.take k)
  have hlen:=hpre.length_le
  have hBk:=hB k
  obtain ⟨j,hj⟩:=hp k hk
  have hrl:(nbR l (os.take k)).length<=9:=by rw[cZ,aE];omega
  unfold cM
  simp only
  rw[if_pos (by simp;omega),aF (by omega) (by omega)];simp only[aa]
  rw[ez hpre (by omega) (by omega),hj,take_one (by omega),jo,nA]
  simp only[aa,aB (show k<9223372036854775807 by omega)]
  cases ho:nth os (k:Int) with
  | none =>
   simp only[Bool.false_eq_true,if_false]
   rw[aP (by simp;omega)]
   exact ⟨_,rfl,M1,rfl,hM1⟩
  | some y =>
   have hy:iOk y=true:=hok y (ho ▸ bK (by omega) (by omega))
   simp only[if_true]
   rw[show chk (iOk y=true)=some () from by unfold chk;rw[if_pos hy]];simp only[aa]
   rw[show lkM M1 y=_ from hM1.2 y]
   by_cases c:y∈nbS l (os.take k)
   ·simp only[c,if_true,Option.isSome_some,Option.getD_some,aa]
    rw[aP (by simp;omega)]
    exact ⟨_,rfl,M1,by rw[fl c];rfl,by rw[fl c];exact hM1⟩
   ·have hput:xc M1 iOk iOk y ((nbS l (os.take k)).length:Int)=some ((y,((nbS l (os.take k)).length:Int))::M1):=by
     unfold xc
     rw[if_pos ⟨by have:=hM1.1;omega,hy,Gr hBk⟩]
    simp only[c,if_false,Option.isSome_none,Bool.false_eq_true,hput,aa]
    rw[aP (by simp;omega)];simp only[aa]
    rw[aP (by simp;omega)]
    refine ⟨_,rfl,(y,((nbS l (os.take k)).length:Int))::M1,?_,?_⟩
    ·rw[eC c];simp only[nbI,kZ c]
    ·rw[eC c];exact hM1.put c) (by
  rintro s ⟨M1,rfl,hM1⟩
  unfold cM
  simp) (s:=(l,M,[],0)) ⟨M,rfl,hM⟩ (by unfold aV;omega)
 rw[List.take_of_length_le (by omega)] at e hM'
 exact ⟨M',e,hM'⟩
theorem OY {most:Int} {p2:Int->Option Bool} {p3:Int->Int->Option (Int×Bool)} {acc:Int->Bool} (H:NumOk nx first G B) (hB:B<=1000000) (hmost:(B:Int)<=most) (hok: ∀x,G x->iOk x=true)
  (h2: ∀x,G x->p2 x=some (acc x)) (h3: ∀x (k:Nat),G x->k<9-> ∃j,p3 x (k:Int)=some (match nth (nx x) (k:Int) with | some y=>(y,true) | none=>(j,false))) :
  ∃N,bfE nx first N/\fW first most p2 p3=some ((0,(bfS nx first N).map acc,bfR nx first N),true):=by
 obtain ⟨N,hNB,hN⟩:=yO (nx:=nx) (first:=first) (H.le)
 refine ⟨N,hN,?_⟩
 unfold fW
 rw[show xc ([] :List (Int×Int)) iOk iOk first 0=some [(first,0)] from by unfold xc;rw[if_pos ⟨by simp,hok _ H.g0,by decide⟩]];simp only[aa]
 obtain ⟨s',e,M',rfl,hM'⟩:=b0 (f:=dI most p2 p3) (fun i s=> ∃M,s=(bfS nx first i,M,(i:Int),0,((bfS nx first i).take i).map acc,bfR nx first i)/\MapOf M (bfS nx first i)) N (by
  rintro i s hi ⟨M,rfl,hM⟩
  have hlt:=hN.2 i hi
  have hG:=H.at hlt
  have hle:=H.le i
  have hle':=H.le (i+1)
  obtain ⟨M',e,hM'⟩:=Gs (p3:=p3) (l:=bfS nx first i) (M:=M) (os:=nx (nth (bfS nx first i) (i:Int))) (acs:=((bfS nx first i).take i).map acc) (rws:=bfR nx first i) hlt (H.len _ hG) hM (fun y hy=>hok y (H.gn _ hG y hy))
   (fun k=>by
    have:(nbS (bfS nx first i) ((nx (nth (bfS nx first i) (i:Int))).take k)).length<=B:=H.bound _ (hZ (eh i)) fun x hx=>by
     rcases iX.1 hx with hx | hx
     ·exact c9 H.g0 H.gn i x hx
     ·exact H.gn _ hG x (List.mem_of_mem_take hx)
    omega) (fun k hk=>h3 _ k hG hk)
  unfold dI
  simp only
  rw[if_pos (by simp;omega),ax e,<-fS hlt]
  rw[<-fS hlt] at hM'
  have hl2:=(bg (nx:=nx) (first:=first) i).length_le
  simp only
  rw[if_neg (by simp;omega),aF (by omega) (by omega)];simp only[aa]
  rw[ez (bg i) (by omega) (by omega),h2 _ hG];simp only[aa]
  have hr:(bfR nx first i).length=i:=gH fun j hj=>hN.2 j (by omega)
  rw[aP (by simp;omega)];simp only[aa]
  rw[aP (by simp;omega)];simp only[aa,aB (show i<9223372036854775807 by omega)]
  exact ⟨_,rfl,M',by rw[pD hlt,tm hlt],hM'⟩) (by
  rintro s ⟨M,rfl,hM⟩
  unfold dI
  simp only
  rw[if_neg (by have:=hN.1;simp;omega)]) (s:=([first],[(first,0)],0,0,[],[])) ⟨_,rfl,MapOf.one first⟩ (ju (by omega))
 rw[ax e]
 simp only
 rw[List.take_of_length_le (by have:=hN.1;omega)]
end
theorem KM {l:List Int} {x:Int} (h:l.length<=9223372036854775807):jH l x=some (if x∈l then (l.idxOf x:Int) else -1):=by
 unfold jH
 obtain ⟨o,e,hq⟩:=cd (f:=kC l x) (fun i s=>s=(i:Int)/\x∉l.take i) (fun o=>(x∈l/\o= .ret (l.idxOf x:Int))\/(x∉l/\ ∃s,o= .brk s)) l.length (s:=0) (by
  rintro i s hi ⟨rfl,hx⟩
  unfold kC
  by_cases hl:i<l.length
  ·rw[if_pos (by simp;omega),aF (by omega) (by omega)];simp only[aa]
   by_cases c:nth l (i:Int)=x
   ·refine .inr ⟨_,by rw[if_pos (by simpa using c)],(fun s' e=>by cases e),.inl ?_⟩
    have e:l=l.take i++(x::l.drop (i+1)):=by
     rw[<-c,aZ hl,<-List.drop_eq_getElem_cons hl,List.take_append_drop]
    refine ⟨by rw[e];simp,?_⟩
    congr 1
    conv=>rhs;rw[e,List.idxOf_append,if_neg hx,List.idxOf_cons_self]
    simp[aE];first | done | omega
   ·refine .inl ⟨hl,_,by rw[if_neg (by simpa using c)],by rw[aB (by omega)],?_⟩
    rw[take_one hl,List.mem_append,List.mem_singleton]
    rintro (h | h)
    ·exact hx h
    ·exact c h.symm
  ·refine .inr ⟨_,by rw[if_neg (by simp;omega)],(fun s' e=>by cases e),.inr ⟨?_,_,rfl⟩⟩
   rwa [List.take_of_length_le (by omega)] at hx) ⟨rfl,by simp⟩ (ju h)
 rcases hq with ⟨hx,rfl⟩ | ⟨hx,s,rfl⟩
 ·rw[bm e,if_pos hx]
 ·rw[ax e,if_neg hx]
section
variable {a:AutT} {n:Nat} {c:List Int} {lv:List Bool} {nx:Int->List (Option Int)} {G:Int->Prop} {B:Nat} {acc:Int->Bool}
def good (n:Nat) (lv:List Bool) (r:Int):Prop:=0<=r/\r<n/\nth lv r=true
def kI (a:AutT) (c:List Int) (lv:List Bool) (r:Int):List (Option Int):=(List.range 9).map fun k=>if mv a r k≥0/\nth lv (mv a r k)=true then some (nth c (mv a r k)) else none
theorem B3 {r:Int} {k:Nat} (hk:k<9):nth (kI a c lv r) (k:Int)=if mv a r k≥0/\nth lv (mv a r k)=true then some (nth c (mv a r k)) else none:=by
 have:k<(kI a c lv r).length:=by simp[kI];omega
 rw[aZ this];simp[kI]
def RepsOf (n:Nat) (lv:List Bool) (c:List Int) (rs l:List Int):Prop:=rs.length=l.length/\ ∀j:Nat,j<l.length->good n lv (nth rs j)/\nth c (nth rs j)=nth l (j:Int)
theorem RepsOf.snoc {rs l:List Int} (h:RepsOf n lv c rs l) {t:Int} (ht:good n lv t):RepsOf n lv c (rs++ [t]) (l++ [nth c t]):=by
 refine ⟨by simp[h.1],fun j hj=>?_⟩
 by_cases e:j<l.length
 ·rw[fj (by omega) (by have:=h.1;omega),fj (by omega) (by omega)];exact h.2 j e
 ·have e:j=l.length:=by simp at hj;omega
  subst e
  have h1:nth (rs++ [t]) (l.length:Int)=t:=by rw[aZ (by simp[h.1])];simp[<-h.1]
  have h2:nth (l++ [nth c t]) (l.length:Int)=nth c t:=by rw[aZ (by simp)];simp
  rw[h1,h2];exact ⟨ht,rfl⟩
theorem Gt (V:VA a n) (hn:n<=1000000) (hc:c.length=n) (hlv:lv.length=n) {l rs:List Int} {acs:List Bool} {rws:List (List Int)} {i:Nat} (hi:i<l.length) (hR:RepsOf n lv c rs l) {os:List (Option Int)} (hos:os.length=9)
  (ho: ∀r,good n lv r->nth c r=nth l (i:Int)->kI a c lv r=os) (hB: ∀k,(nbS l (os.take k)).length<=1000000) :
  ∃rs',aG (dP a c lv (l,rs,(i:Int),0,acs,rws)) aV (l,rs,[],0)=some (.brk (nbS l os,rs',nbR l os,9))/\RepsOf n lv c rs' (nbS l os):=by
 obtain ⟨s',e,rs',rfl,hR'⟩:=b0 (f:=dP a c lv (l,rs,(i:Int),0,acs,rws)) (fun k s=> ∃rs',s=(nbS l (os.take k),rs',nbR l (os.take k),(k:Int))/\RepsOf n lv c rs' (nbS l (os.take k))) 9 (by
  rintro k s hk ⟨r1,rfl,hR1⟩
  have hpre:=dA l (os.take k)
  have hlen:=hpre.length_le
  have hBk:=hB k
  have hrl:(nbR l (os.take k)).length<=9:=by rw[cZ,aE];omega
  have hr1:=hR1.1
  obtain ⟨⟨g0,g1,g2⟩,gc⟩:=hR1.2 i (by omega)
  rw[ez hpre (by omega) (by omega)] at gc
  have hsu:=ho _ ⟨g0,g1,g2⟩ gc
  have hok:nth os (k:Int)=if mv a (nth r1 (i:Int)) k≥0/\nth lv (mv a (nth r1 (i:Int)) k)=true then some (nth c (mv a (nth r1 (i:Int)) k)) else none:=by
   rw[<-hsu];exact B3 hk
  have hmv:=V.mv (s:=nth r1 (i:Int)) (k:=k) g0 g1 hk
  unfold dP
  simp only
  rw[if_pos (by simp;omega),aF (xs:=r1) (by omega) (by omega)];simp only[aa]
  rw[V.get g0 g1];simp only[aa]
  rw[V.get2 g0 g1 hk,take_one (by omega),jo,nA]
  simp only[aa,aB (show k<9223372036854775807 by omega)]
  by_cases c1:mv a (nth r1 (i:Int)) k≥0
  ·rw[if_pos (by simpa using c1),aF (xs:=lv) c1 (by omega)];simp only[aa]
   by_cases c2:nth lv (mv a (nth r1 (i:Int)) k)=true
   ·rw[if_pos ⟨c1,c2⟩] at hok
    rw[if_pos c2,aF (xs:=c) c1 (by omega),hok];simp only[aa]
    rw[KM (by omega)];simp only[aa]
    by_cases c3:nth c (mv a (nth r1 (i:Int)) k)∈nbS l (os.take k)
    ·rw[if_pos c3,if_neg (by simp)];simp only[aa]
     rw[aP (by simp;omega)]
     exact ⟨_,rfl,r1,by rw[fl c3];rfl,by rw[fl c3];exact hR1⟩
    ·rw[if_neg c3,if_pos (by decide)]
     rw[aP (by simp;omega)];simp only[aa]
     rw[aP (by simp;omega)];simp only[aa]
     rw[aP (by simp;omega)];simp only[aa]
     refine ⟨_,rfl,r1++ [mv a (nth r1 (i:Int)) k],?_,?_⟩
     ·rw[eC c3];simp only[nbI,kZ c3]
     ·rw[eC c3];exact hR1.snoc ⟨c1,hmv.2,c2⟩
   ·rw[if_neg (fun h=>c2 h.2)] at hok
    rw[if_neg c2,hok];simp only[aa]
    rw[aP (by simp;omega)]
    exact ⟨_,rfl,r1,rfl,hR1⟩
  ·rw[if_neg (fun h=>c1 h.1)] at hok
   rw[if_neg (by simpa using c1),hok];simp only[aa]
   rw[aP (by simp;omega)]
   exact ⟨_,rfl,r1,rfl,hR1⟩) (by
  rintro s ⟨r1,rfl,hR1⟩
  unfold dP
  simp) (s:=(l,rs,[],0)) ⟨rs,rfl,hR⟩ (by unfold aV;omega)
 rw[List.take_of_length_le (by omega)] at e hR'
 exact ⟨rs',e,hR'⟩
theorem OZ (V:VA a n) (hn:n<=1000000) (hc:c.length=n) (hlv:lv.length=n) (hs:nth lv a.1=true) (H:NumOk nx (nth c a.1) G B) (hB:B<=1000000)
  (hnx: ∀r,good n lv r->nx (nth c r)=kI a c lv r) (hacc: ∀r,good n lv r->acc (nth c r)=nth a.2.1 r) :
  ∃N,bfE nx (nth c a.1) N/\fv a c lv=some (0,(bfS nx (nth c a.1) N).map acc,bfR nx (nth c a.1) N):=by
 obtain ⟨N,hNB,hN⟩:=yO (nx:=nx) (first:=nth c a.1) (H.le)
 refine ⟨N,hN,?_⟩
 have hst:=V.start
 have hlen:=V.len
 unfold fv
 rw[aF hst.1 (by omega)];simp only[aa]
 rw[if_pos hs,aF hst.1 (by omega)];simp only[aa]
 obtain ⟨s',e,rs,rfl,hR⟩:=b0 (f:=fT a c lv) (fun i s=> ∃rs,s=(bfS nx (nth c a.1) i,rs,(i:Int),0,((bfS nx (nth c a.1) i).take i).map acc,bfR nx (nth c a.1) i)/\RepsOf n lv c rs (bfS nx (nth c a.1) i)) N (by
  rintro i s hi ⟨rs,rfl,hR⟩
  have hlt:=hN.2 i hi
  have hG:=H.at hlt
  have hle:=H.le i
  have hle':=H.le (i+1)
  obtain ⟨rs',e,hR'⟩:=Gt (acs:=((bfS nx (nth c a.1) i).take i).map acc) (rws:=bfR nx (nth c a.1) i) V hn hc hlv hlt hR (os:=nx (nth (bfS nx (nth c a.1) i) (i:Int))) (H.len _ hG) (fun r hr e=>by rw[<-hnx r hr,e]) (fun k=>by
    have:(nbS (bfS nx (nth c a.1) i) ((nx (nth (bfS nx (nth c a.1) i) (i:Int))).take k)).length<=B:=H.bound _ (hZ (eh i)) fun x hx=>by
     rcases iX.1 hx with hx | hx
     ·exact c9 H.g0 H.gn i x hx
     ·exact H.gn _ hG x (List.mem_of_mem_take hx)
    omega)
  unfold fT
  simp only
  rw[if_pos (by simp;omega),ax e]
  rw[<-fS hlt] at hR'
  have hl2:=(bg (nx:=nx) (first:=nth c a.1) i).length_le
  have hr1:=hR'.1
  obtain ⟨⟨g0,g1,g2⟩,gc⟩:=hR'.2 i (by omega)
  rw[ez (bg i) (by omega) (by omega)] at gc
  rw[aF (xs:=rs') (by omega) (by omega)];simp only[aa]
  rw[V.acc g0 g1,<-hacc _ ⟨g0,g1,g2⟩,gc];simp only[aa]
  have hr:(bfR nx (nth c a.1) i).length=i:=gH fun j hj=>hN.2 j (by omega)
  rw[aP (by simp;omega)];simp only[aa]
  rw[aP (by simp;omega)];simp only[aa,aB (show i<9223372036854775807 by omega)]
  exact ⟨_,rfl,rs',by rw[<-fS hlt,pD hlt,tm hlt],hR'⟩) (by
  rintro s ⟨rs,rfl,hR⟩
  unfold fT
  simp only
  rw[if_neg (by have:=hN.1;simp;omega)]) (s:=([nth c a.1],[a.1],0,0,[],[])) ⟨[a.1],rfl,rfl,fun j hj=>by
   obtain rfl:j=0:=by simpa [bfS] using hj
   exact ⟨⟨hst.1,hst.2,hs⟩,rfl⟩⟩ (ju (by omega))
 rw[ax e]
 simp only
 rw[List.take_of_length_le (by have:=hN.1;omega)]
theorem AC (V:VA a n) (hlv:lv.length=n) (hs:nth lv a.1=false):fv a c lv=some nothing:=by
 have hst:=V.start
 unfold fv
 rw[aF hst.1 (by omega)];simp only[aa]
 rw[hs,Gp];rfl
end
end D
namespace D
open Go.RowKit
abbrev Ds:=(List Int)×Int×Int×(List Int)×Bool
abbrev NJ (x:Int) (j:Nat):Bool:=(pN (ma x (j:Int)) 1)==1
def NK (F:List Int) (set m0:Int):Nat->Int
 | 0=>m0
 | i+1=>if NJ set (i+1) then orI (NK F set m0 i) (nth F (i:Int)) else NK F set m0 i
def pick (L:List Int) (m letter:Int):Nat->Int
 | 0=>0
 | i+1=>if nth L (i:Int)=letter/\NJ m i=true then orI (pick L m letter i) (xe 1 ((i+1:Nat):Int)) else pick L m letter i
def aft (p:Ds) (set letter:Int):Int:=pick p.1 (NK p.2.2.2.1 set (if (pN set 1)==1 then p.2.1 else 0) p.2.2.2.1.length) letter p.1.length
def wP (p:Ds) (set:Int):Bool:=if (pN set 1)==1 then (if p.2.2.2.2 then true else (pN (ma set 1) p.2.2.1) !=0) else (pN (ma set 1) p.2.2.1) !=0
theorem wQ (i:Nat):chk (0<=(i:Int))=some ():=by unfold chk;rw[if_pos (by omega)]
theorem M8 {p:Ds} {set letter:Int} (hl:p.2.2.2.1.length=p.1.length) (hb:p.1.length<=1000000):kd p set letter=some (aft p set letter):=by
 have h0: ∀m0,aG (eT p set) aV (m0,0)=some (.brk (NK p.2.2.2.1 set m0 p.1.length,(p.1.length:Int))):=fun m0 =>
  bp (f:=eT p set) (fun i=>(NK p.2.2.2.1 set m0 i,(i:Int))) p.1.length (fun i hi=>by
   unfold eT
   simp only
   rw[if_pos (by simp;omega),aB (by omega),wQ];simp only[aa]
   rw[NK]
   by_cases c:NJ set (i+1)=true
   ·rw[if_pos c,if_pos c,aF (by omega) (by omega)];rfl
   ·rw[if_neg c,if_neg c];rfl) (by unfold eT;simp) (ju (by omega))
 have h1: ∀s7:Int×Int,aG (eU p letter s7) aV (0,0)=some (.brk (pick p.1 s7.1 letter p.1.length,(p.1.length:Int))):=fun s7 =>
  bp (f:=eU p letter s7) (fun i=>(pick p.1 s7.1 letter i,(i:Int))) p.1.length (fun i hi=>by
   unfold eU
   simp only
   rw[if_pos (by simp;omega),aB (by omega),wQ,wQ];simp only[aa]
   rw[pick]
   by_cases c:NJ s7.1 i=true
   ·rw[if_pos c,aF (by omega) (by omega)];simp only[aa]
    by_cases d:nth p.1 (i:Int)=letter
    ·rw[if_pos (by simpa using d),if_pos ⟨d,c⟩];rfl
    ·rw[if_neg (by simpa using d),if_neg (fun h=>d h.1)];rfl
   ·rw[if_neg c,if_neg (fun h=>c h.2)];rfl) (by unfold eU;simp) (ju (by omega))
 unfold kd aft
 rw[hl]
 by_cases c:((pN set 1)==1)=true
 ·rw[if_pos c,if_pos c];simp only[aa]
  rw[ax (h0 _),ax (h1 _)]
 ·rw[if_neg c,if_neg c];simp only[aa]
  rw[ax (h0 _),ax (h1 _)]
theorem O0 (p:Ds) (x:Int):iD p x=some (wP p x):=by
 unfold iD wP
 split <;> (try split) <;> rfl
def nxS (p:Ds) (x:Int):List (Option Int):=(List.range 9).map fun k:Nat=>if aft p x (k:Int)=0 then none else some (aft p x (k:Int))
theorem O1 {p:Ds} {x:Int} {k:Nat} (hk:k<9):nth (nxS p x) (k:Int)=if aft p x k=0 then none else some (aft p x k):=by
 have:k<(nxS p x).length:=by simp[nxS];omega
 rw[aZ this];simp[nxS]
theorem Gu (p:Ds) (x:Int):(nxS p x).length=9:=by simp[nxS]
theorem KN {κ:Type} [DecidableEq κ] : ∀(l:List κ) (os:List (Option κ)),(nbS l os).length<=l.length+os.length
 | l,[] =>by simp[nbS]
 | l,o::os=>by
  have h:=KN (nbL l o) os
  have h2:(nbL l o).length<=l.length+1:=by
   cases o with
   | none=>simp[nbL]
   | some x=>unfold nbL;simp only;split <;> simp
  show (nbS (nbL l o) os).length<=_
  simp only[az];omega
section
variable {κ:Type} [DecidableEq κ] (nx:κ->List (Option κ)) (first:κ) (acc:κ->Bool) (most:Nat)
def goM:Nat->Nat->AutT×Bool
 | 0,i=>((0,[],[]),false)
 | f+1,i=>if i<(bfS nx first i).length then (if (bfS nx first (i+1)).length>most then ((0,[],[]),false) else goM f (i+1)) else ((0,((bfS nx first i).take i).map acc,bfR nx first i),true)
end
section
variable {κ:Type} [DecidableEq κ] {nx:κ->List (Option κ)} {first:κ} {acc:κ->Bool} {most:Nat}
theorem AD {i:Nat} (h: ∀j,j<i->j<(bfS nx first j).length):i<=(bfS nx first i).length:=by
 cases i with
 | zero=>omega
 | succ i =>
  have h1:=h i (by omega)
  have h2:=(bg (nx:=nx) (first:=first) i).length_le
  omega
theorem Jp {S:Type} {f:S->Option (Out (AutT×Bool) S)} (hm:most<=1000000) (h1:1<=most) (st:Nat->S->Prop)
  (hs: ∀i s,st i s->(∀j,j<i->j<(bfS nx first j).length)->(bfS nx first i).length<=most->i<(bfS nx first i).length->((bfS nx first (i+1)).length>most->f s=some (.ret ((0,[],[]),false)))/\((bfS nx first (i+1)).length<=most-> ∃s',f s=some (.nxt s')/\st (i+1) s'))
  (he: ∀i s,st i s-> ¬i<(bfS nx first i).length->f s=some (.brk s)) {s:S} (h0:st 0 s) :
  (aG f aV s=some (.ret ((0,[],[]),false))/\goM nx first acc most (most+2) 0=((0,[],[]),false)) \/
  ∃N s',aG f aV s=some (.brk s')/\st N s'/\bfE nx first N/\N<=most/\goM nx first acc most (most+2) 0=((0,(bfS nx first N).map acc,bfR nx first N),true):=by
 obtain ⟨o,e,hq⟩:=cd (f:=f) (fun i s=>st i s/\(∀j,j<i->j<(bfS nx first j).length)/\(bfS nx first i).length<=most/\goM nx first acc most (most+2) 0=goM nx first acc most (most+2 - i) i)
  (fun o=>(o= .ret ((0,[],[]),false)/\goM nx first acc most (most+2) 0=((0,[],[]),false))\/ ∃N s',o= .brk s'/\st N s'/\bfE nx first N/\N<=most/\goM nx first acc most (most+2) 0=((0,(bfS nx first N).map acc,bfR nx first N),true)) most (s:=s) (by
  rintro i s hi ⟨k1,k2,k3,k4⟩
  have hle:=AD k2
  rw[show most+2 - i=(most+1 - i)+1 from by omega] at k4
  have k5:goM nx first acc most (most+1 - i+1) i=if i<(bfS nx first i).length then (if (bfS nx first (i+1)).length>most then ((0,[],[]),false) else goM nx first acc most (most+1 - i) (i+1)) else ((0,((bfS nx first i).take i).map acc,bfR nx first i),true):=rfl
  rw[k5] at k4
  by_cases c:i<(bfS nx first i).length
  ·rw[if_pos c] at k4
   obtain ⟨q1,q2⟩:=hs i s k1 k2 k3 c
   by_cases d:(bfS nx first (i+1)).length>most
   ·rw[if_pos d] at k4
    exact .inr ⟨_,q1 d,(fun s' e=>by cases e),.inl ⟨rfl,k4⟩⟩
   ·rw[if_neg d] at k4
    obtain ⟨s',e,hs'⟩:=q2 (by omega)
    exact .inl ⟨by omega,s',e,hs',fun j hj=>(by
     by_cases ej:j=i
     ·subst ej;exact c
     ·exact k2 j (by omega)),by omega,by rw[k4];congr 1;omega⟩
  ·rw[if_neg c] at k4
   refine .inr ⟨_,he i s k1 c,(fun s' e=>by cases e),.inr ⟨i,s,rfl,k1,⟨by omega,k2⟩,hi,?_⟩⟩
   rw[k4,List.take_of_length_le (by omega)]) ⟨h0,fun j hj=>by omega,by simp[bfS];omega,rfl⟩ (ju (by omega))
 rcases hq with ⟨rfl,h⟩ | ⟨N,s',rfl,h⟩
 ·exact .inl ⟨e,h⟩
 ·exact .inr ⟨N,s',e,h⟩
end
section
variable {p:Ds} {most:Nat} (hl:p.2.2.2.1.length=p.1.length) (hb:p.1.length<=1000000) (hm:most<=900000) (h1:1<=most)
include hl hb hm h1
theorem Jq {l:List Int} {acs:List Bool} {rws:List (List Int)} {i:Nat} (hi:i<l.length) (hle:l.length<=most) :
  aG (dw p (l,(i:Int),0,acs,rws)) aV (l,[],0)=some (.brk (nbS l (nxS p (nth l (i:Int))),nbR l (nxS p (nth l (i:Int))),9)):=by
 have h9:=Gu p (nth l (i:Int))
 have:=bp (f:=dw p (l,(i:Int),0,acs,rws)) (fun k=>(nbS l ((nxS p (nth l (i:Int))).take k),nbR l ((nxS p (nth l (i:Int))).take k),(k:Int))) 9 (fun k hk=>by
  have hpre:=dA l ((nxS p (nth l (i:Int))).take k)
  have hlen:=hpre.length_le
  have hB:=KN l ((nxS p (nth l (i:Int))).take k)
  rw[aE] at hB
  have hrl:(nbR l ((nxS p (nth l (i:Int))).take k)).length<=9:=by rw[cZ,aE];omega
  unfold dw
  simp only[ic]
  rw[if_pos (by simp;omega),aF (by omega) (by omega)];simp only[aa]
  rw[ez hpre (by omega) (by omega),M8 hl hb];simp only[aa]
  rw[take_one (by omega),jo,nA,O1 hk]
  simp only[aB (show k<9223372036854775807 by omega)]
  by_cases c:aft p (nth l (i:Int)) k=0
  ·rw[if_pos c,if_neg (by simp[c])];simp only[aa]
   rw[aP (by simp;omega)];rfl
  ·rw[if_neg c,if_pos (by simpa using c),KM (by omega)];simp only[aa]
   by_cases d:aft p (nth l (i:Int)) k∈nbS l ((nxS p (nth l (i:Int))).take k)
   ·rw[if_pos d,if_neg (by simp),fl d];simp only[aa]
    rw[aP (by simp;omega)];rfl
   ·rw[if_neg d,if_pos (by decide),aP (by simp;omega),eC d];simp only[aa]
    rw[aP (by simp;omega)];simp only[nbI,kZ d,aa]) (by
  unfold dw
  simp) (by unfold aV;omega)
 have e9:(nxS p (nth l (i:Int))).take 9=nxS p (nth l (i:Int)):=List.take_of_length_le (by omega)
 rw[e9] at this
 exact this
theorem P8:de p most=some (goM (nxS p) 1 (wP p) most (most+2) 0):=by
 unfold de
 rcases Jp (nx:=nxS p) (first:=1) (acc:=wP p) (most:=most) (f:=dx p most)
  (by omega) h1 (fun i s=>s=(bfS (nxS p) 1 i,(i:Int),0,((bfS (nxS p) 1 i).take i).map (wP p),bfR (nxS p) 1 i)) (by
   rintro i s rfl hj hle hlt
   have hil:=AD hj
   have e:=Jq hl hb hm h1 (acs:=((bfS (nxS p) 1 i).take i).map (wP p)) (rws:=bfR (nxS p) 1 i) hlt hle
   have hl2:=(bg (nx:=nxS p) (first:=1) i).length_le
   constructor
   ·intro hgt
    unfold dx
    simp only
    rw[if_pos (by simp;omega),ax e,<-fS hlt]
    simp only
    rw[if_pos (by simp;omega)]
   ·intro hle2
    unfold dx
    simp only
    rw[if_pos (by simp;omega),ax e,<-fS hlt]
    simp only
    rw[if_neg (by simp;omega),aF (by omega) (by omega)];simp only[aa]
    rw[ez (bg i) (by omega) (by omega)]
    simp only[ic]
    rw[O0];simp only[aa]
    have hr:(bfR (nxS p) 1 i).length=i:=gH hj
    rw[aP (by simp;omega)];simp only[aa]
    rw[aP (by simp;omega)];simp only[aa,aB (show i<9223372036854775807 by omega)]
    exact ⟨_,rfl,by rw[pD hlt,tm hlt]⟩) (by
   rintro i s rfl hn
   unfold dx
   simp only
   rw[if_neg (by simp;omega)]) (s:=([1],0,0,[],[])) rfl with ⟨e,hg⟩ | ⟨N,s',e,rfl,hN,hNm,hg⟩
 ·rw[bm e,hg]
 ·rw[ax e,hg];simp only
  rw[List.take_of_length_le (by have:=hN.1;omega)]
end
end D
namespace D
open Go.RowKit
def lk (F:List Int) (from_ to_:Int):Nat->List Int
 | 0=>F
 | i+1=>if NJ from_ i then (lk F from_ to_ i).set i (orI (nth (lk F from_ to_ i) (i:Int)) to_) else lk F from_ to_ i
theorem u6 (F:List Int) (f t:Int): ∀i,(lk F f t i).length=F.length
 | 0=>rfl
 | i+1=>by
  rw[lk]
  split
  ·rw[List.length_set,u6]
  ·exact u6 F f t i
theorem KO {p:Ds} {f t:Int} (hl:p.2.2.2.1.length<=1000000):jJ p f t=some (p.1,p.2.1,p.2.2.1,lk p.2.2.2.1 f t p.2.2.2.1.length,p.2.2.2.2):=by
 have hL:aG (fO f t) aV (0,p.2.2.2.1)=some (.brk ((p.2.2.2.1.length:Int),lk p.2.2.2.1 f t p.2.2.2.1.length)):=bp (f:=fO f t) (fun i=>((i:Int),lk p.2.2.2.1 f t i)) p.2.2.2.1.length (fun i hi=>by
  have hk:=u6 p.2.2.2.1 f t i
  unfold fO
  simp only
  rw[if_pos (by simp;omega),wQ];simp only[aa]
  rw[lk,aB (by omega)]
  by_cases c:NJ f i=true
  ·rw[if_pos c,if_pos c,aF (by omega) (by omega)];simp only[aa,Int.toNat_natCast]
  ·rw[if_neg c,if_neg c];rfl) (by unfold fO;simp[u6]) (ju (by omega))
 unfold jJ
 rw[ax hL]
def Gv (e:List Tok):Nat->Nat
 | 0=>0
 | i+1=>if (nth e (i:Int)).1=3 then Gv e i+1 else Gv e i
theorem Gw (e:List Tok): ∀i,Gv e i<=i
 | 0=>ay _
 | i+1=>by
  have:=Gw e i
  rw[Gv];split <;> omega
theorem P9 {r:List Tok×Bool} (hl:r.1.length<=1000000):aG (cj r) aV (0,0)=some (.brk ((Gv r.1 r.1.length:Int),(r.1.length:Int))):=
 bp (f:=cj r) (fun i=>((Gv r.1 i:Int),(i:Int))) r.1.length (fun i hi=>by
  have:=Gw r.1 i
  unfold cj
  simp only
  rw[if_pos (by simp;omega),aF (by omega) (by omega)];simp only[aa]
  rw[Gv,aB (show i<9223372036854775807 by omega),aB (show Gv r.1 i<9223372036854775807 by omega)]
  by_cases c:(nth r.1 (i:Int)).1=3
  ·rw[if_pos (by simpa using c),if_pos c];rfl
  ·rw[if_neg (by simpa using c),if_neg c];rfl) (by unfold cj;simp) (ju (by omega))
end D
namespace D
open Go.RowKit
theorem u7 (n:Nat) (l:List Int) (hd:l.Nodup) (h: ∀x∈l,0<=x/\x<n):l.length<=n:=by
 have:=hd.length_le_of_subset (l₂:=(List.range n).map Int.ofNat) (fun x hx=>by
  obtain ⟨h0,h1⟩:=h x hx
  exact List.mem_map.2 ⟨x.toNat,List.mem_range.2 (by omega),by show ((x.toNat:Nat):Int)=x;omega⟩)
 simpa using this
theorem O2 {n:Nat} {x:Int} (hn:n<=1000000) (h0:0<=x) (h1:x<n):iOk x=true:=by
 have:=Gr (n:=x.toNat) (by omega)
 rwa [show ((x.toNat:Nat):Int)=x from by omega] at this
theorem O3 {κ:Type} [DecidableEq κ] {nx:κ->List (Option κ)} {first:κ} {G:κ->Prop} {B N:Nat} {acc:κ->Bool} (H:NumOk nx first G B) (hB:B<=1000000) (hN:bfE nx first N):Data.sm ((0,(bfS nx first N).map acc,bfR nx first N):AutT):=by
 have hl:=H.bound _ (eh (nx:=nx) (first:=first) N) (c9 H.g0 H.gn N)
 refine ⟨trivial,⟨by rw[List.length_map];omega,fun _ _=>trivial⟩,?_,?_⟩
 ·rw[gH hN.2];have:=hN.1;omega
 ·have key: ∀i,i<=N-> ∀r∈bfR nx first i,r.length=9:=by
   intro i
   induction i with
   | zero=>intro _ r hr;cases hr
   | succ i ih =>
    intro hi r hr
    have hlt:=hN.2 i (by omega)
    rw[nB hlt] at hr
    rcases aC hr with hr | hr
    ·exact ih (by omega) r hr
    ·obtain rfl:=aj hr
     rw[cZ,H.len _ (c9 H.g0 H.gn i _ (List.getElem_mem hlt))]
  intro r hr
  exact ⟨by rw[key N (ay _) r hr];decide,fun _ _=>trivial⟩
theorem Dt:Data.sm nothing:=⟨trivial,⟨by decide,fun _ _=>trivial⟩,by decide,fun r hr=>by
 obtain rfl:=aj hr
 exact ⟨by decide,fun _ _=>trivial⟩⟩
end D
namespace D
open Go.RowKit
theorem u9 {κ:Type} [DecidableEq κ] {l m:List κ} (h:l <+:m) {y:κ} (hy:y∈l):(m.idxOf y:Int)=l.idxOf y:=by
 obtain ⟨t,rfl⟩:=h
 rw[List.idxOf_append,if_pos hy]
theorem Gx {κ:Type} [DecidableEq κ] : ∀(l:List κ) (os:List (Option κ)) (i:Nat),i<os.length->nth (nbR l os) (i:Int)=nbI (nbS l os) (nth os (i:Int))
 | l,o::os,0,_=>by
  show nbI l o=nbI (nbS (nbL l o) os) o
  cases o with
  | none=>rfl
  | some y =>
   have hm:y∈nbL l (some y):=oy.2 (.inr rfl)
   simp only[nbI]
   rw[u9 (dA _ os) hm]
   by_cases c:y∈l
   ·rw[fl c]
   ·rw[eC c,List.idxOf_append,if_neg c,kZ c];simp
 | l,o::os,i+1,h=>by
  have h':i<os.length:=by simpa using h
  have ih:=Gx (nbL l o) os i h'
  have e1:nth (nbR l (o::os)) ((i+1:Nat):Int)=nth (nbR (nbL l o) os) (i:Int):=by
   rw[aZ (by rw[cZ];exact h),aZ (by rw[cZ];exact h')];rfl
  have e2:nth (o::os) ((i+1:Nat):Int)=nth os (i:Int):=by rw[aZ h,aZ h'];rfl
  rw[e1,e2];exact ih
theorem kJ {κ:Type} [DecidableEq κ] {l:List κ} {y:κ} (h:y∈l): ∃(q:Nat) (hq:q<l.length),nbI l (some y)=(q:Int)/\l[q] =y:=
 ⟨l.idxOf y,List.idxOf_lt_length_of_mem h,rfl,by simp⟩
theorem wR {κ:Type} [DecidableEq κ] {l:List κ} {y:κ} (h:y∉l):nbI l (some y)=(l.length:Int):=by simp only[nbI,kZ h]
def KP:List Int->Nat->Nat->Prop
 | [],c,m=>c=m
 | x::xs,c,m=>(x= -1/\KP xs c m)\/(0<=x/\x<c/\KP xs c m)\/(x=c/\KP xs (c+1) m)
theorem wS {κ:Type} [DecidableEq κ] : ∀(os:List (Option κ)) (l:List κ),KP (nbR l os) l.length (nbS l os).length
 | [],l=>rfl
 | none::os,l=>.inl ⟨rfl,wS os l⟩
 | some y::os,l=>by
  by_cases c:y∈l
  ·refine .inr (.inl ⟨Int.natCast_nonneg _,?_,?_⟩)
   ·have:=List.idxOf_lt_length_of_mem c
    simp only[nbI];omega
   ·show KP (nbR (nbL l (some y)) os) l.length (nbS (nbL l (some y)) os).length
    rw[fl c];exact wS os l
  ·refine .inr (.inr ⟨by simp only[nbI,kZ c],?_⟩)
   show KP (nbR (nbL l (some y)) os) (l.length+1) (nbS (nbL l (some y)) os).length
   have:=wS os (l++ [y])
   rw[eC c]
   simpa using this
def PF:List Int->List (Option (List Int))->Prop
 | [],[] =>True
 | x::xs,o::os=>((x<0/\o=none)\/(0<=x/\ ∃t,o=some (x::t)))/\PF xs os
 | _,_=>False
theorem Gy: ∀(xs:List Int) (os:List (Option (List Int))),xs.length=os.length->(∀i (h:i<xs.length) (h':i<os.length),(xs[i] < 0/\os[i] =none)\/(0<=xs[i] /\ ∃t,os[i] =some (xs[i] ::t)))->PF xs os
 | [],[],_,_=>trivial
 | x::xs,o::os,hl,h=>⟨h 0 (by simp) (by simp),Gy xs os (by simpa using hl) fun i h1 h2=>h (i+1) (by simpa using h1) (by simpa using h2)⟩
theorem jV: ∀(xs:List Int) (os:List (Option (List Int))) (l:List (List Int)) (c m:Nat),PF xs os->KP xs c m->(∀y∈l,∃h t,y=h::t/\h<c)->
  m+l.length<=(nbS l os).length+c/\(l.length=c->(∀(q:Nat) (hq:q<l.length),∃t,l[q] =(q:Int)::t)->(nbS l os).length=m->nbR l os=xs)
 | [],[],l,c,m,_,hn,_=>by
  have hn:c=m:=hn
  subst hn
  exact ⟨by simp[nbS];omega,fun _ _ _=>rfl⟩
 | x::xs,o::os,l,c,m,hr,hn,hh=>by
  obtain ⟨hr1,hr2⟩:=hr
  rcases hn with ⟨rfl,hn⟩ | ⟨hx0,hxc,hn⟩ | ⟨rfl,hn⟩
  ·have ho:o=none:=by
    rcases hr1 with ⟨-,h⟩ | ⟨h,-⟩
    ·exact h
    ·omega
   subst ho
   obtain ⟨i1,i2⟩:=jV xs os l c m hr2 hn hh
   exact ⟨i1,fun h1 h2 h3=>by show -1::nbR l os=_;rw[i2 h1 h2 h3]⟩
  ·obtain ⟨t,rfl⟩: ∃t,o=some (x::t):=by
    rcases hr1 with ⟨h,-⟩ | ⟨-,h⟩
    ·omega
    ·exact h
   by_cases k:(x::t)∈l
   ·obtain ⟨i1,i2⟩:=jV xs os l c m hr2 hn hh
    have hb:nbL l (some (x::t))=l:=fl k
    refine ⟨by show m+l.length<=(nbS (nbL l (some (x::t))) os).length+c;rw[hb];exact i1,fun h1 h2 h3=>?_⟩
    have h3:(nbS (nbL l (some (x::t))) os).length=m:=h3
    rw[hb] at h3
    obtain ⟨q,hq,e1,e2⟩:=kJ k
    obtain ⟨t',ht'⟩:=h2 _ hq
    rw[e2] at ht'
    have:x=(q:Int):=by injection ht'
    show nbI l (some (x::t))::nbR (nbL l (some (x::t))) os=_
    rw[e1,<-this,hb,i2 h1 h2 h3]
   ·have hb:nbL l (some (x::t))=l++ [x::t]:=eC k
    obtain ⟨i1,i2⟩:=jV xs os (l++ [x::t]) c m hr2 hn (fun y hy=>by
     rcases aC hy with hy | hy
     ·exact hh y hy
     ·obtain rfl:=aj hy
      exact ⟨x,t,rfl,hxc⟩)
    rw[aq,List.length_singleton] at i1
    refine ⟨by show m+l.length<=(nbS (nbL l (some (x::t))) os).length+c;rw[hb];omega,fun h1 h2 h3=>?_⟩
    have h3:(nbS (nbL l (some (x::t))) os).length=m:=h3
    rw[hb] at h3
    omega
  ·obtain ⟨t,rfl⟩: ∃t,o=some ((c:Int)::t):=by
    rcases hr1 with ⟨h,-⟩ | ⟨-,h⟩
    ·omega
    ·exact h
   have k:((c:Int)::t)∉l:=fun k=>by
    obtain ⟨h,t',e,hlt⟩:=hh _ k
    have:(c:Int)=h:=by injection e
    omega
   have hb:nbL l (some ((c:Int)::t))=l++ [(c:Int)::t]:=eC k
   obtain ⟨i1,i2⟩:=jV xs os (l++ [(c:Int)::t]) (c+1) m hr2 hn (fun y hy=>by
    rcases aC hy with hy | hy
    ·obtain ⟨h,t',e,hlt⟩:=hh y hy
     exact ⟨h,t',e,by omega⟩
    ·obtain rfl:=aj hy
     exact ⟨c,t,rfl,by omega⟩)
   have hlen:(l++ [(c:Int)::t]).length=l.length+1:=by simp
   rw[hlen] at i1
   refine ⟨by show m+l.length<=(nbS (nbL l (some ((c:Int)::t))) os).length+c;rw[hb];omega,fun h1 h2 h3=>?_⟩
   have h3:(nbS (nbL l (some ((c:Int)::t))) os).length=m:=h3
   rw[hb] at h3
   have:=i2 (by rw[hlen,h1]) (fun q hq=>by
    by_cases e:q<l.length
    ·rw[List.getElem_append_left e];exact h2 q e
    ·have e:q=l.length:=by omega
     subst e
     exact ⟨t,by simp;omega⟩) h3
   show nbI l (some ((c:Int)::t))::nbR (nbL l (some ((c:Int)::t))) os=_
   rw[hb,this,wR k,h1]
theorem Gz (xs ys:List Int) (hN:xs.length<=1048576): ∃r,mA xs ys=some r/\(r=0↔xs=ys):=by
 unfold mA
 have h0:=OS (f:=ka xs ys) xs ys (fun i h h'=>by
  simp only[ka,qT h,qT h',if_true,fC h,fC h',aa,aB (show i<9223372036854775807 by omega)]
  by_cases h1:xs[i] < ys[i]
  ·simp[h1]
  ·by_cases h2:xs[i] > ys[i]
   ·simp[h1,h2]
   ·simp[h1,h2]) (fun i hi=>by
  simp only[ka]
  by_cases h1:i<xs.length
  ·have h2: ¬i<ys.length:=by omega
   simp[h1,h2]
  ·simp[h1]) xs.length 0 aV (by omega) (th _ (by omega))
 rw[show (((0:Nat):Int))=(0:Int) from rfl] at h0
 rcases h0 with ⟨r,e,h1,h2⟩ | ⟨s,e,h1⟩
 ·exact ⟨r,by rw[e];rfl,by simp[h1,h2]⟩
 ·rw[e]
  simp only[aW]
  by_cases c1:xs.length<ys.length
  ·exact ⟨-1,by simp[c1],by simp;intro e;subst e;omega⟩
  ·by_cases c2:xs.length>ys.length
   ·exact ⟨1,by simp[c1,c2],by simp;intro e;subst e;omega⟩
   ·exact ⟨0,by simp[c1,c2],by simpa using h1 (by omega)⟩
theorem GB (xs ys:List Int) (hN:xs.length<=9223372036854775807):cT xs ys=some (decide (xs=ys)):=
 eqL (f:=bI xs ys) xs ys hN (fun i h h'=>by
  simp only[bI,qT h,if_true,fC h,fC h',aa,aB (show i<9223372036854775807 by omega)]
  by_cases c:xs[i] =ys[i] <;> simp[c]) (by simp only[bI,tg];rfl)
def DJ (a:AutT):List Int:=(List.range a.2.1.length).map fun s:Nat=>if nth (live a) (s:Int)=true then (if nth a.2.1 (s:Int)=true then 1 else 0) else -1
def ent (a:AutT) (c:List Int) (s:Int) (k:Nat):Int:=if mv a s k<0 then -1 else nth c (mv a s k)
def wT (a:AutT) (c:List Int) (s:Int):List Int:=nth c s::(List.range 9).map fun k=>ent a c s k
def xd (a:AutT) (c:List Int) (s:Nat):Option (List Int):=if nth c (s:Int)<0 then none else some (wT a c s)
def keys (a:AutT) (c:List Int):List (Option (List Int)):=(List.range a.2.1.length).map (xd a c)
def vc (a:AutT) (c:List Int):List Int:=nbR [] (keys a c)
def rF (a:AutT) (c:List Int):Nat:=(nbS [] (keys a c)).length
def cI (a:AutT):Nat->List Int
 | 0=>DJ a
 | j+1=>vc a (cI a j)
section
variable {a:AutT} {n:Nat}
theorem cQ (a:AutT) (c:List Int):(keys a c).length=a.2.1.length:=by simp[keys]
theorem AE {c:List Int} {s:Nat} (h:s<a.2.1.length):nth (keys a c) (s:Int)=xd a c s:=by
 rw[aZ (by simpa [keys] using h)];simp[keys]
theorem tn (a:AutT) (c:List Int):(vc a c).length=a.2.1.length:=by rw[vc,cZ,cQ]
theorem jW (a:AutT): ∀j,(cI a j).length=a.2.1.length
 | 0=>by simp[cI,DJ]
 | j+1=>tn a _
theorem lK {κ:Type} [DecidableEq κ] : ∀(l:List κ) (os:List (Option κ)),(nbS l os).length<=l.length+os.length
 | l,[] =>by simp[nbS]
 | l,o::os=>by
  have h:=lK (nbL l o) os
  have:(nbL l o).length<=l.length+1:=by
   cases o with
   | none=>simp[nbL]
   | some x=>unfold nbL;simp only;split <;> simp
  show (nbS (nbL l o) os).length<=_
  rw[az];omega
theorem AF (a:AutT) (c:List Int):rF a c<=a.2.1.length:=by
 have:=lK ([] :List (List Int)) (keys a c)
 rw[cQ] at this
 simpa [rF] using this
theorem wU {c:List Int} {s:Nat} (h:s<a.2.1.length):nth (vc a c) (s:Int)=nbI (nbS [] (keys a c)) (xd a c s):=by
 rw[vc,Gx _ _ _ (by rw[cQ];exact h),AE h]
theorem tp {c:List Int} {s:Nat} (h:s<a.2.1.length) (hc: ¬nth c (s:Int)<0):wT a c s∈nbS [] (keys a c):=by
 refine iX.2 (.inr ?_)
 refine List.mem_map.2 ⟨s,List.mem_range.2 h,?_⟩
 unfold xd;rw[if_neg hc]
theorem rG {c:List Int} {s:Nat} (h:s<a.2.1.length):(nth (vc a c) (s:Int)<0↔nth c (s:Int)<0)/\(nth (vc a c) (s:Int)<0->nth (vc a c) (s:Int)= -1):=by
 rw[wU h]
 unfold xd
 by_cases hc:nth c (s:Int)<0
 ·rw[if_pos hc];simp[nbI,hc]
 ·rw[if_neg hc]
  obtain ⟨q,hq,e,-⟩:=kJ (tp h hc)
  rw[e]
  exact ⟨⟨fun h=>by omega,fun h=>absurd h hc⟩,fun h=>by omega⟩
theorem M9 {c:List Int} {s:Nat} (h:s<a.2.1.length):nth (vc a c) (s:Int)<(a.2.1.length:Int):=by
 rw[wU h]
 unfold xd
 by_cases hc:nth c (s:Int)<0
 ·rw[if_pos hc];simp only[nbI];omega
 ·rw[if_neg hc]
  obtain ⟨q,hq,e,-⟩:=kJ (tp h hc)
  have:=AF a c
  unfold rF at this
  rw[e];omega
theorem GC {c:List Int} {s t:Nat} (hs:s<a.2.1.length) (ht:t<a.2.1.length) (h0:0<=nth (vc a c) (s:Int)) (h:nth (vc a c) (s:Int)=nth (vc a c) (t:Int)):wT a c s=wT a c t:=by
 have n1: ¬nth c (s:Int)<0:=fun k=>by have:=(rG hs).1.2 k;omega
 have n2: ¬nth c (t:Int)<0:=fun k=>by have:=(rG ht).1.2 k;omega
 rw[wU hs,wU ht] at h
 unfold xd at h
 rw[if_neg n1,if_neg n2] at h
 obtain ⟨q,hq,e1,e2⟩:=kJ (tp hs n1)
 obtain ⟨q',hq',e1',e2'⟩:=kJ (tp ht n2)
 rw[e1,e1'] at h
 obtain rfl:q=q':=by omega
 rw[<-e2,<-e2']
theorem vd (a:AutT) {s:Nat} (h:s<a.2.1.length): ∀j,(nth (cI a j) (s:Int)<0↔nth (live a) (s:Int)=false)/\(nth (cI a j) (s:Int)<0->nth (cI a j) (s:Int)= -1)
 | 0=>by
  have e:nth (cI a 0) (s:Int)=if nth (live a) (s:Int)=true then (if nth a.2.1 (s:Int)=true then 1 else 0) else -1:=by
   show nth (DJ a) (s:Int)=_
   rw[aZ (by simpa [DJ] using h)];simp[DJ]
  rw[e]
  cases nth (live a) (s:Int) <;> cases nth a.2.1 (s:Int) <;> simp
 | j+1=>by
  have ih:=vd a h j
  have:=rG (c:=cI a j) h
  exact ⟨this.1.trans ih.1,this.2⟩
theorem KQ (a:AutT) {s t:Nat} (hs:s<a.2.1.length) (ht:t<a.2.1.length): ∀j,0<=nth (cI a j) (s:Int)->nth (cI a j) (s:Int)=nth (cI a j) (t:Int)->nth a.2.1 (s:Int)=nth a.2.1 (t:Int)
 | 0,h0,h=>by
  have e: ∀ {s:Nat},s<a.2.1.length->nth (cI a 0) (s:Int)=if nth (live a) (s:Int)=true then (if nth a.2.1 (s:Int)=true then 1 else 0) else -1:=by
   intro s h
   show nth (DJ a) (s:Int)=_
   rw[aZ (by simpa [DJ] using h)];simp[DJ]
  rw[e hs] at h0 h
  rw[e ht] at h
  revert h0 h
  cases nth (live a) (s:Int) <;> cases nth a.2.1 (s:Int) <;> cases nth (live a) (t:Int) <;> cases nth a.2.1 (t:Int) <;> simp
 | j+1,h0,h=>by
  have k:=GC (c:=cI a j) hs ht h0 h
  have h1:nth (cI a j) (s:Int)=nth (cI a j) (t:Int):=by
   unfold wT at k;injection k
  refine KQ a hs ht j ?_ h1
  have:=(rG (c:=cI a j) hs).1
  by_cases q:nth (cI a j) (s:Int)<0
  ·have:=this.2 q
   have h0:0<=nth (vc a (cI a j)) (s:Int):=h0
   omega
  ·omega
theorem Na (a:AutT) (j:Nat):KP (cI a (j+1)) 0 (rF a (cI a j)):=wS (keys a (cI a j)) []
theorem Jr (a:AutT) {c:List Int} (hc:c.length=a.2.1.length):PF c (keys a c):=by
 refine Gy _ _ (by rw[cQ,hc]) fun i h h'=>?_
 have e1:c[i] =nth c (i:Int):=(aZ h).symm
 have e2:(keys a c)[i] =xd a c i:=by simp[keys]
 rw[e1,e2]
 unfold xd
 by_cases k:nth c (i:Int)<0
 ·exact .inl ⟨k,by rw[if_pos k]⟩
 ·exact .inr ⟨by omega,_,by rw[if_neg k];rfl⟩
theorem GD (a:AutT) (j:Nat):rF a (cI a j)<=rF a (cI a (j+1))/\(rF a (cI a (j+1))=rF a (cI a j)->cI a (j+2)=cI a (j+1)):=by
 obtain ⟨h1,h2⟩:=jV (cI a (j+1)) (keys a (cI a (j+1))) [] 0 (rF a (cI a j)) (Jr a (jW a _)) (Na a j) (fun y hy=>by cases hy)
 exact ⟨by simpa [rF] using h1,fun h=>h2 rfl (fun q hq=>absurd hq (Nat.not_lt_zero q)) h⟩
theorem KR {j k:Nat} (h:cI a (j+1)=cI a j) (hk:j<=k):cI a k=cI a j:=by
 induction hk with
 | refl=>rfl
 | step _ ih=>rw[cI,ih];exact h
theorem GE {j k:Nat} (h:cI a (j+1)=cI a j) (h':cI a (k+1)=cI a k):cI a j=cI a k:=by
 rcases Nat.le_total j k with e | e
 ·exact (KR h e).symm
 ·exact KR h' e
theorem Nb (a:AutT): ∃j,j<=a.2.1.length/\cI a (j+1)=cI a j:=by
 by_cases h0:cI a 1=cI a 0
 ·exact ⟨0,Nat.zero_le _,h0⟩
 have hpos:1<=rF a (cI a 0):=by
  refine Nat.one_le_iff_ne_zero.2 fun hz=>h0 ?_
  have hnone: ∀s:Nat,s<a.2.1.length->nth (cI a 0) (s:Int)<0:=fun s hs=>by
   refine Classical.byContradiction fun k=>?_
   have:=tp (c:=cI a 0) hs k
   have hl:=List.length_pos_of_mem this
   unfold rF at hz;omega
  refine F8 (by rw[jW,jW]) fun i hi=>?_
  rw[jW] at hi
  have h1:=(vd a hi 0).2 (hnone i hi)
  have h2:=(vd a hi 1).2 (((vd a hi 1).1.trans (vd a hi 0).1.symm).2 (hnone i hi))
  rw[h1,h2]
 have key: ∀m,(∃j,j<=m/\cI a (j+1)=cI a j)\/m+1<=rF a (cI a m):=by
  intro m
  induction m with
  | zero=>exact .inr hpos
  | succ m ih =>
   rcases ih with ⟨j,hj,e⟩ | ih
   ·exact .inl ⟨j,by omega,e⟩
   ·obtain ⟨g1,g2⟩:=GD a m
    by_cases e:rF a (cI a (m+1))=rF a (cI a m)
    ·exact .inl ⟨m+1,ay _,g2 e⟩
    ·exact .inr (by omega)
 rcases key a.2.1.length with h | h
 ·exact h
 ·have:=AF a (cI a a.2.1.length);omega
end
end D
namespace D
open Go.RowKit
section
variable {a:AutT} {n:Nat} {c:List Int}
theorem B4 (k:Nat) (s:Int):(List.range (k+1)).map (fun k=>ent a c s k)=(List.range k).map (fun k=>ent a c s k)++ [ent a c s k]:=by simp[List.range_succ]
theorem Qa (V:VA a n) (hn:n<=1000000) (hc:c.length=n) {s:Nat} (hs:s<n):kQ a c s=some (wT a c s):=by
 unfold kQ
 rw[aF (by omega) (by omega)];simp only[aa]
 have:=bp (f:=jg a c s) (fun k=>(nth c (s:Int)::(List.range k).map (fun k=>ent a c s k),(k:Int))) 9 (fun k hk=>by
  have hm:=V.mv (s:=s) (k:=k) (by omega) (by omega) hk
  unfold jg
  simp only
  rw[if_pos (by simp;omega),V.get (by omega) (by omega)];simp only[aa]
  rw[V.get2 (by omega) (by omega) hk,B4];simp only[aa,aB (show k<9223372036854775807 by omega)]
  by_cases h:mv a s k<0
  ·rw[if_pos (by simpa using h),aP (by simp;omega),show ent a c s k= -1 from by unfold ent;rw[if_pos h]];rfl
  ·rw[if_neg (by simpa using h),aF (by omega) (by omega)];simp only[aa]
   rw[aP (by simp;omega),show ent a c s k=nth c (mv a s k) from by unfold ent;rw[if_neg h]];rfl) (by unfold jg;simp) (by unfold aV;omega)
 exact ax this
theorem Qb (V:VA a n) (hn:n<=1000000) (hc:c.length=n) {s:Nat} (hs:s<n):aG (bS c (nth a.2.2 (s:Int))) aV (0,[nth c (s:Int)])=some (.brk (9,wT a c s)):=by
 have hr:=V.rowAt (s:=s) (by omega) (by omega)
 exact bp (f:=bS c (nth a.2.2 (s:Int))) (fun k=>((k:Int),nth c (s:Int)::(List.range k).map (fun k=>ent a c s k))) 9 (fun k hk=>by
  have hm:=V.mv (s:=s) (k:=k) (by omega) (by omega) hk
  unfold bS
  simp only
  rw[if_pos (by simp[hr];omega),V.get2 (by omega) (by omega) hk,B4];simp only[aa,aB (show k<9223372036854775807 by omega)]
  by_cases h:mv a s k<0
  ·have e:mv a s k= -1:=by omega
   rw[if_neg (by simp;omega)];simp only[aa]
   rw[aP (by simp;omega),show ent a c s k=mv a s k from by unfold ent;rw[if_pos h,e]];rfl
  ·rw[if_pos (by simp;omega),aF (by omega) (by omega)];simp only[aa]
   rw[aP (by simp;omega),show ent a c s k=nth c (mv a s k) from by unfold ent;rw[if_neg h]];rfl) (by unfold bS;simp[hr]) (by unfold aV;omega)
theorem yV {κ:Type} [DecidableEq κ] {l t r:List κ} {x:κ} (e:l=t++x::r) (hx:x∉t):nbI l (some x)=(t.length:Int):=by
 subst e
 simp only[nbI]
 rw[List.idxOf_append,if_neg hx,List.idxOf_cons_self,Nat.zero_add]
def O4 (l:List (List Int)) (x:List Int):Int:=if x∈l then nbI l (some x) else -1
theorem O5 {l:List (List Int)} {x cs:List Int} {q:Int} (hl:l.length<=1000000) (hd:l.Nodup) (hx: ∀y∈l,y.length<=1048576):aG (dt (l,cs,q) x) aV (-1,0)=some (.brk (O4 l x,(l.length:Int))):=by
 have:=bp (f:=dt (l,cs,q) x) (fun k=>(if x∈l.take k then nbI l (some x) else -1,(k:Int))) l.length (fun k hk=>by
  unfold dt
  simp only
  rw[if_pos (by simp;omega),aF (by omega) (by omega)];simp only[aa,Int.toNat_natCast,aB (show k<9223372036854775807 by omega)]
  obtain ⟨r,e,hr⟩:=Gz (nth l (k:Int)) x (hx _ (bK (by omega) (by omega)))
  rw[e,take_one hk];simp only[aa,List.mem_append,List.mem_singleton]
  by_cases h:nth l (k:Int)=x
  ·have h0:r=0:=hr.2 h
   have hm:x∈l:=h ▸ bK (by omega) (by omega)
   obtain ⟨q,hq,e1,e2⟩:=kJ hm
   have:q=k:=by
    have h1:l[q]? =some x:=by rw[List.getElem?_eq_getElem hq,e2]
    have h2:l[k]? =some x:=by rw[List.getElem?_eq_getElem hk,<-aZ hk,h]
    exact (List.getElem?_inj hq hd).1 (h1.trans h2.symm)
   subst this
   rw[if_pos (by simp[h0]),if_pos (.inr h.symm),e1];rfl
  ·have h0:r≠0:=fun e=>h (hr.1 e)
   have hn: ¬x=nth l (k:Int):=fun e=>h e.symm
   rw[if_neg (by simpa using h0)]
   simp[hn]) (by unfold dt;simp) (ju (by omega))
 rw[List.take_of_length_le (ay _)] at this
 exact this
theorem O6 {l:List (List Int)} {x:List Int} {f:List Int->Option Bool} (hl:l.length<=1000000) (hf: ∀y∈l,f y=some (decide (y=x))):br l f=some (O4 l x):=by
 unfold br
 obtain ⟨o,e,hq⟩:=cd (f:=bB l f) (fun k s=>s=(k:Int)/\x∉l.take k) (fun o=>(x∈l/\o= .ret (nbI l (some x)))\/(x∉l/\ ∃s,o= .brk s)) l.length (s:=0) (by
  rintro k s hk ⟨rfl,hx⟩
  unfold bB
  by_cases hkl:k<l.length
  ·rw[if_pos (by simp;omega),aF (by omega) (by omega)];simp only[aa]
   rw[hf _ (bK (by omega) (by omega))];simp only[aa]
   by_cases h:nth l (k:Int)=x
   ·refine .inr ⟨_,by rw[if_pos (by simpa using h)],(fun s' e=>by cases e),.inl ?_⟩
    have hm:x∈l:=h ▸ bK (by omega) (by omega)
    refine ⟨hm,?_⟩
    have e:l=l.take k++(x::l.drop (k+1)):=by
     rw[<-h,aZ hkl,<-List.drop_eq_getElem_cons hkl,List.take_append_drop]
    rw[yV e hx,aE,Nat.min_eq_left (by omega)]
   ·refine .inl ⟨hkl,_,by rw[if_neg (by simpa using h)],by rw[aB (by omega)],?_⟩
    rw[take_one hkl,List.mem_append,List.mem_singleton]
    rintro (h' | h')
    ·exact hx h'
    ·exact h h'.symm
  ·refine .inr ⟨_,by rw[if_neg (by simp;omega)],(fun s' e=>by cases e),.inr ⟨?_,_,rfl⟩⟩
   rwa [List.take_of_length_le (by omega)] at hx) ⟨rfl,by simp⟩ (ju (by omega))
 unfold O4
 rcases hq with ⟨hx,rfl⟩ | ⟨hx,s,rfl⟩
 ·rw[bm e,if_pos hx]
 ·rw[ax e,if_neg hx]
theorem tq {os:List (Option (List Int))} (h: ∀y,some y∈os->y.length=10): ∀y∈nbS [] os,y.length=10:=fun y hy=>by
 rcases iX.1 hy with hy | hy
 ·cases hy
 ·exact h y hy
theorem vf (a:AutT) (c:List Int): ∀y,some y∈keys a c->y.length=10:=by
 intro y hy
 obtain ⟨s,-,e⟩:=List.mem_map.1 hy
 unfold xd at e
 split at e
 ·cases e
 ·rw[<-ae e];simp[wT]
section
variable (V:VA a n) (hn:n<=1000000) (hc:c.length=n)
include V hn hc
theorem B5 (s:Nat):(nbS [] ((keys a c).take s)).length<=n:=by
 have:=lK ([] :List (List Int)) ((keys a c).take s)
 rw[aE,cQ,V.len] at this
 simp at this;omega
theorem Js {m:Int} :aG (du a (c,m)) aV ([],[],0)=some (.brk (nbS [] (keys a c),vc a c,(n:Int))):=by
 have hlen:=V.len
 have:=bp (f:=du a (c,m)) (fun s=>(nbS [] ((keys a c).take s),nbR [] ((keys a c).take s),(s:Int))) n (fun s hs=>by
  have hkl:=B5 V hn hc s
  have hrl:(nbR [] ((keys a c).take s)).length<=n:=by rw[cZ,aE,cQ];omega
  unfold du
  simp only
  rw[if_pos (by simp;omega),aF (by omega) (by omega)];simp only[aa]
  rw[take_one (by rw[cQ];omega),jo,nA,AE (by omega)]
  simp only[aB (show s<9223372036854775807 by omega)]
  by_cases h:nth c (s:Int)<0
  ·rw[if_pos (by simpa using h),aP (by simp;omega),show xd a c s=none from by unfold xd;rw[if_pos h]];rfl
  ·rw[if_neg (by simpa using h),show xd a c s=some (wT a c s) from by unfold xd;rw[if_neg h]]
   rw[show kQ (a.1,a.2.1,a.2.2) c (s:Int)=some (wT a c s) from Qa V hn hc hs];simp only[aa]
   rw[ax (O5 (by omega) (hZ (by simp)) (fun y hy=>by rw[tq (fun y hy=>vf a c y (List.mem_of_mem_take hy)) y hy];decide))]
   simp only
   unfold O4
   by_cases k:wT a c s∈nbS [] ((keys a c).take s)
   ·obtain ⟨q,hq,e1,e2⟩:=kJ k
    rw[if_pos k,fl k,e1,if_neg (by simp)];simp only[aa]
    rw[aP (by simp;omega)];rfl
   ·rw[if_neg k,eC k,wR k,if_pos (show decide ((-1:Int)<0)=true from rfl),aP (by simp;omega)];simp only[aa]
    rw[aP (by simp;omega)];rfl) (by
  unfold du
  simp only
  rw[if_neg (by simp;omega)]) (ju (by omega))
 rw[show (keys a c).take n=keys a c from List.take_of_length_le (by rw[cQ];omega)] at this
 exact this
theorem Jt:cy a c=some (vc a c,(rF a c:Int)):=by
 have hlen:=V.len
 unfold cy
 have:=bp (f:=cC a c) (fun s=>(nbS [] ((keys a c).take s),nbR [] ((keys a c).take s),(s:Int))) n (fun s hs=>by
  have hkl:=B5 V hn hc s
  have hrl:(nbR [] ((keys a c).take s)).length<=n:=by rw[cZ,aE,cQ];omega
  unfold cC
  simp only
  rw[if_pos (by simp;omega),aF (by omega) (by omega)];simp only[aa]
  rw[take_one (by rw[cQ];omega),jo,nA,AE (by omega)]
  simp only[aB (show s<9223372036854775807 by omega)]
  by_cases h:nth c (s:Int)<0
  ·rw[if_pos (by simpa using h),aP (by simp;omega),show xd a c s=none from by unfold xd;rw[if_pos h]];rfl
  ·rw[if_neg (by simpa using h),show xd a c s=some (wT a c s) from by unfold xd;rw[if_neg h],V.get (by omega) (by omega)];simp only[aa]
   rw[ax (Qb V hn hc hs)];simp only
   rw[O6 (x:=wT a c s) (by omega) (fun y hy=>by
    unfold eB
    rw[GB _ _ (by rw[tq (fun y hy=>vf a c y (List.mem_of_mem_take hy)) y hy];decide)];rfl)];simp only[aa]
   unfold O4
   by_cases k:wT a c s∈nbS [] ((keys a c).take s)
   ·obtain ⟨q,hq,e1,e2⟩:=kJ k
    rw[if_pos k,fl k,e1,if_neg (by simp)];simp only[aa]
    rw[aP (by simp;omega)];rfl
   ·rw[if_neg k,eC k,wR k,if_pos (show decide ((-1:Int)<0)=true from rfl),aP (by simp;omega)];simp only[aa]
    rw[aP (by simp;omega)];rfl) (by
  unfold cC
  simp only
  rw[if_neg (by simp;omega)]) (ju (by omega))
 rw[show (keys a c).take n=keys a c from List.take_of_length_le (by rw[cQ];omega)] at this
 exact ax this
end
end
section
variable {a:AutT} {n:Nat} (V:VA a n) (hn:n<=1000000)
include V hn
theorem yW (s:Nat):(List.range (s+1)).map (fun s:Nat=>if nth (live a) (s:Int)=true then (if nth a.2.1 (s:Int)=true then (1:Int) else 0) else -1)=(List.range s).map (fun s:Nat=>if nth (live a) (s:Int)=true then (if nth a.2.1 (s:Int)=true then 1 else 0) else -1)++ [if nth (live a) (s:Int)=true then (if nth a.2.1 (s:Int)=true then 1 else 0) else -1]:=by simp[List.range_succ]
theorem O7:aG (dq a (live a)) aV ([],0)=some (.brk (DJ a,(n:Int))):=by
 have hlen:=V.len
 have hll:(live a).length=n:=by rw[jU,hlen]
 have:=bp (f:=dq a (live a)) (fun s=>((List.range s).map (fun s:Nat=>if nth (live a) (s:Int)=true then (if nth a.2.1 (s:Int)=true then (1:Int) else 0) else -1),(s:Int))) n (fun s hs=>by
  unfold dq
  simp only
  rw[if_pos (by simp;omega),V.acc (by omega) (by omega)];simp only[aa]
  rw[yW V hn,aF (xs:=live a) (by omega) (by omega)];simp only[aB (show s<9223372036854775807 by omega)]
  cases nth (live a) (s:Int) <;> cases nth a.2.1 (s:Int) <;> simp only[if_true,if_false,Bool.false_eq_true,aa] <;> rw[aP (by simp;omega)] <;> rfl) (by
  unfold dq
  simp only
  rw[if_neg (by simp;omega)]) (ju (by omega))
 unfold DJ
 rw[hlen]
 exact this
theorem O8:aG (bL a (live a)) aV ([],0)=some (.brk (DJ a,(n:Int))):=by
 have hlen:=V.len
 have hll:(live a).length=n:=by rw[jU,hlen]
 have:=bp (f:=bL a (live a)) (fun s=>((List.range s).map (fun s:Nat=>if nth (live a) (s:Int)=true then (if nth a.2.1 (s:Int)=true then (1:Int) else 0) else -1),(s:Int))) n (fun s hs=>by
  unfold bL
  simp only
  rw[if_pos (by simp;omega),aF (xs:=live a) (by omega) (by omega)];simp only[aa]
  rw[yW V hn,V.acc (by omega) (by omega)];simp only[aB (show s<9223372036854775807 by omega)]
  cases nth (live a) (s:Int) <;> cases nth a.2.1 (s:Int) <;> simp only[if_true,if_false,Bool.false_eq_true,aa] <;> rw[aP (by simp;omega)] <;> rfl) (by
  unfold bL
  simp only
  rw[if_neg (by simp;omega)]) (ju (by omega))
 unfold DJ
 rw[hlen]
 exact this
theorem GF: ∃J,cI a (J+1)=cI a J/\fN a=some (cI a J):=by
 have hlen:=V.len
 unfold fN
 rw[show gi (a.1,a.2.1,a.2.2)=some (live a) from Gl V hn];simp only[aa]
 rw[ax (O7 V hn)]
 obtain ⟨J0,hJ0,hfix⟩:=Nb a
 obtain ⟨o,e,j,rfl,hj⟩:=cd (f:=iw a) (fun j s=>s=(cI a j,(j:Int))/\j<=J0) (fun o=> ∃j,o= .ret (cI a j)/\cI a (j+1)=cI a j) (J0+1) (s:=(cI a 0,0)) (by
  rintro j s hj ⟨rfl,hjJ⟩
  have hcl:(cI a j).length=n:=by rw[jW,hlen]
  unfold iw
  simp only
  rw[if_pos (by simp;omega),ax (Js V hn hcl)]
  simp only
  obtain ⟨r,er,hr⟩:=Gz (vc a (cI a j)) (cI a j) (by rw[tn];omega)
  rw[er];simp only[aa,aB (show j<9223372036854775807 by omega)]
  by_cases h:vc a (cI a j)=cI a j
  ·exact .inr ⟨_,by rw[if_pos (by simpa using hr.2 h)],(fun s' e=>by cases e),j,rfl,h⟩
  ·refine .inl ⟨by omega,(cI a (j+1),((j+1:Nat):Int)),by rw[if_neg (by simpa using fun e=>h (hr.1 e))];rfl,rfl,?_⟩
   by_cases e:j=J0
   ·subst e;exact absurd hfix h
   ·omega) ⟨rfl,Nat.zero_le _⟩ (ju (by omega))
 exact ⟨j,hj,bm e⟩
theorem GG: ∃J,cI a (J+1)=cI a J/\cq a=some (cI a J):=by
 have hlen:=V.len
 unfold cq
 rw[show cw (a.1,a.2.1,a.2.2)=some (live a) from KL V hn];simp only[aa]
 rw[ax (O8 V hn)]
 let kk:Nat->Int:=fun j=>match j with | 0=> -1 | i+1=>(rF a (cI a i):Int)
 obtain ⟨o,e,j,rfl,hj⟩:=cd (f:=dz a) (fun j s=>s=(cI a j,kk j)/\(j:Int)<=kk j+1) (fun o=> ∃j,o= .ret (cI a j)/\cI a (j+1)=cI a j) (n+2) (s:=(cI a 0,-1)) (by
  rintro j s hj ⟨rfl,hjk⟩
  have hcl:(cI a j).length=n:=by rw[jW,hlen]
  have hle:=AF a (cI a j)
  unfold dz
  simp only
  rw[show cy (a.1,a.2.1,a.2.2) (cI a j)=some (vc a (cI a j),(rF a (cI a j):Int)) from Jt V hn hcl];simp only[aa]
  cases j with
  | zero =>
   refine .inl ⟨by omega,(cI a 1,kk 1),by rw[if_neg (by show¬((rF a (cI a 0):Int) == -1)=true;simp)];rfl,rfl,?_⟩
   show (1:Int)<=(rF a (cI a 0):Int)+1
   omega
  | succ i =>
   obtain ⟨g1,g2⟩:=GD a i
   have hki:kk (i+1)=(rF a (cI a i):Int):=rfl
   rw[hki] at hjk⊢
   by_cases h:rF a (cI a (i+1))=rF a (cI a i)
   ·refine .inr ⟨.ret (cI a (i+2)),by rw[if_pos (by simp[h])];rfl,(fun s' e=>by cases e),i+2,rfl,?_⟩
    have:=g2 h
    show vc a (cI a (i+2))=cI a (i+2)
    rw[this];exact this
   ·refine .inl ⟨?_,(cI a (i+2),kk (i+2)),by rw[if_neg (by simp;omega)];rfl,rfl,?_⟩
    ·omega
    ·show ((i+1+1:Nat):Int)<=(rF a (cI a (i+1)):Int)+1
     omega) ⟨rfl,by show ((0:Nat):Int)<= -1+1;omega⟩ (ju (by omega))
 exact ⟨j,hj,bm e⟩
theorem Du: ∃c,fN a=some c/\cq a=some c/\c.length=n/\vc a c=c/\ ∃j,c=cI a j:=by
 obtain ⟨J,hJ,es⟩:=GF V hn
 obtain ⟨J',hJ',ei⟩:=GG V hn
 have:=GE hJ hJ'
 exact ⟨cI a J,es,by rw[this];exact ei,by rw[jW,V.len],hJ,J,rfl⟩
end
end D
namespace D
open Go.RowKit
section
variable {κ:Type} [DecidableEq κ] [Inhabited κ] {nx:κ->List (Option κ)} {first:κ} {G:κ->Prop} {B N:Nat} {acc:κ->Bool}
theorem tu: ∀(l:List κ) (os:List (Option κ)),∀t∈nbR l os,-1<=t/\t<((nbS l os).length:Int)
 | l,[] =>fun t ht=>by cases ht
 | l,o::os=>fun t ht=>by
  have hp:=dA (nbL l o) os
  have hl:=hp.length_le
  rcases au ht with rfl | ht
  ·show -1<=nbI l o/\nbI l o<((nbS (nbL l o) os).length:Int)
   cases o with
   | none=>exact ⟨by simp[nbI],by simp only[nbI];omega⟩
   | some y =>
    by_cases c:y∈l
    ·obtain ⟨q,hq,e,-⟩:=kJ c
     rw[fl c] at hl
     rw[e];exact ⟨by omega,by rw[fl c];omega⟩
    ·rw[eC c] at hl
     rw[wR c];rw[aq] at hl
     exact ⟨by omega,by rw[eC c];simp at hl;omega⟩
  ·exact tu (nbL l o) os t ht
theorem O9 (H:NumOk nx first G B) (hN:bfE nx first N):VA ((0,(bfS nx first N).map acc,bfR nx first N):AutT) N:=by
 have h0:0<N:=by
  have:=k9 (nx:=nx) (first:=first) N
  have:=(List.getElem?_eq_some_iff.1 this).1
  have:=hN.1;omega
 have key: ∀i,i<=N-> ∀r∈bfR nx first i,r.length=9/\ ∀t∈r,-1<=t/\t<(N:Int):=by
  intro i
  induction i with
  | zero=>intro _ r hr;cases hr
  | succ i ih =>
   intro hi r hr
   have hlt:=hN.2 i (by omega)
   rw[nB hlt] at hr
   rcases aC hr with hr | hr
   ·exact ih (by omega) r hr
   ·obtain rfl:=aj hr
    refine ⟨by rw[cZ,H.len _ (c9 H.g0 H.gn i _ (List.getElem_mem hlt))],fun t ht=>?_⟩
    have:=tu _ _ t ht
    rw[<-rC hlt] at this
    have hl:=(iz (nx:=nx) (first:=first) hi).length_le
    have:=hN.1
    omega
 exact ⟨by show ((bfS nx first N).map acc).length=N;rw[List.length_map];exact hN.1.symm,⟨Int.le_refl _,by show (0:Int)<N;omega⟩,gH hN.2,fun r hr=>(key N (ay _) r hr).1,fun r hr=>(key N (ay _) r hr).2⟩
theorem Nc (hlen: ∀x,(nx x).length=9) (hN:bfE nx first N):VA ((0,(bfS nx first N).map acc,bfR nx first N):AutT) N:=by
 have h0:0<N:=by
  have:=k9 (nx:=nx) (first:=first) N
  have:=(List.getElem?_eq_some_iff.1 this).1
  have:=hN.1;omega
 have key: ∀i,i<=N-> ∀r∈bfR nx first i,r.length=9/\ ∀t∈r,-1<=t/\t<(N:Int):=by
  intro i
  induction i with
  | zero=>intro _ r hr;cases hr
  | succ i ih =>
   intro hi r hr
   have hlt:=hN.2 i (by omega)
   rw[nB hlt] at hr
   rcases aC hr with hr | hr
   ·exact ih (by omega) r hr
   ·obtain rfl:=aj hr
    refine ⟨by rw[cZ,hlen _],fun t ht=>?_⟩
    have:=tu _ _ t ht
    rw[<-rC hlt] at this
    have hl:=(iz (nx:=nx) (first:=first) hi).length_le
    have:=hN.1
    omega
 exact ⟨by show ((bfS nx first N).map acc).length=N;rw[List.length_map];exact hN.1.symm,⟨Int.le_refl _,by show (0:Int)<N;omega⟩,gH hN.2,fun r hr=>(key N (ay _) r hr).1,fun r hr=>(key N (ay _) r hr).2⟩
end
theorem VA.self {a:AutT} {n:Nat} (v:VA a n):VA a a.2.1.length:=by
 have e:=v.len
 subst e
 exact v
theorem vh:VA nothing 1:=⟨rfl,⟨by decide,by decide⟩,rfl,fun r hr=>by
 obtain rfl:=aj hr
 decide,fun r hr=>by
 obtain rfl:=aj hr
 decide⟩
end D
namespace D
open Go.RowKit
theorem GH {κ:Type} [DecidableEq κ] {nx:κ->List (Option κ)} {first:κ} {acc:κ->Bool} {most:Nat} : ∀(f i:Nat),(∀j,j<i->j<(bfS nx first j).length)->(bfS nx first i).length<=most->goM nx first acc most f i=((0,[],[]),false)\/ ∃N,bfE nx first N/\N<=most/\goM nx first acc most f i=((0,(bfS nx first N).map acc,bfR nx first N),true)
 | 0,i,_,_=>.inl rfl
 | f+1,i,h,hl=>by
  have hle:=AD h
  rw[goM]
  by_cases c:i<(bfS nx first i).length
  ·rw[if_pos c]
   by_cases d:(bfS nx first (i+1)).length>most
   ·rw[if_pos d];exact .inl rfl
   ·rw[if_neg d]
    exact GH f (i+1) (fun j hj=>by
     by_cases e:j=i
     ·subst e;exact c
     ·exact h j (by omega)) (by omega)
  ·rw[if_neg c]
   exact .inr ⟨i,⟨by omega,h⟩,by omega,by rw[List.take_of_length_le (by omega)]⟩
end D
namespace D
open Go.RowKit
def QE (x:Tr Tok):Prop:= ∀(n:Nat) (p:Ds),(flat x).length<=n->p.2.2.2.1.length=p.1.length->p.1.length+(flat x).length<=100000->
 ∃(nu:Bool) (fi la:Int) (q:Ds),cg n p (flat x)=some ((nu,fi,la),q)/\q.2.2.2.1.length=q.1.length/\q.1.length<=p.1.length+(flat x).length
theorem Ju {x:Tr Tok} (h:WT x):QE x:=by
 refine WT.ind (p:=QE) ?_ ?_ ?_ h
 ·intro t e n p hn hF hl
  rw[Ay] at hn hl⊢
  simp only[az,aI] at hl
  match n,hn with
  | n+1,_ =>
   rw[cg]
   have:=(jq (A:=[]) (t:=t) (by simp)).1
   rw[List.nil_append] at this
   rw[this];simp only[aa,ic]
   rcases lJ (show 0<=ar t by omega) with ⟨k,_⟩ | ⟨k,_⟩ | ⟨_,k⟩
   ·omega
   ·omega
   rcases k with k | k | k
   ·exact ⟨false,0,0,p,by simp[k],hF,by simp⟩
   ·exact ⟨true,0,0,p,by simp[k],hF,by simp⟩
   ·refine ⟨false,xe 1 (p.1.length:Int),xe 1 (p.1.length:Int),(p.1++ [t.2.1],p.2.1,p.2.2.1,p.2.2.2.1++ [0],p.2.2.2.2),?_,by simp[hF],by simp⟩
    rw[if_neg (by simp[k]),if_pos (by simp[k]),aP (by simp;omega)];simp only[aa]
    rw[aP (by simp;omega)];rfl
 ·intro t a e wa ih n p hn hF hl
  rw[Do] at hn hl⊢
  simp only[aq,az,aI] at hn hl
  match n,hn with
  | n+1,hn =>
   rw[cg];simp only[ic]
   obtain ⟨l1,l2⟩:=jq (A:=flat a) (t:=t) (by omega)
   rw[l1];simp only[aa]
   obtain ⟨nu,fi,la,q,hs,hq1,hq2⟩:=ih n p (by omega) hF (by omega)
   rcases M6 e with ⟨k1,k2⟩ | ⟨k1,k2,k3⟩
   ·have g2:(t.1==2)=false:=by simp[k2]
    have g3:(t.1==3)=false:=by simp[k2]
    have g4:(t.1==4)=false:=by simp[k2]
    have g5:(t.1==5)=false:=by simp[k2]
    simp only[g2,g3,g4,g5,k1,Bool.false_eq_true,if_false,if_true]
    rw[l2,Int.toNat_natCast,List.take_left,chk_of (by simp only[aq,az,aI];omega)];simp only[aa]
    rw[hs];simp only[aa,ic]
    rw[KO (by omega)];simp only[aa]
    refine ⟨true,fi,la,_,rfl,?_,?_⟩
    ·simp only[u6];exact hq1
    ·simp only[aq,az,aI];omega
   ·have g2:(t.1==2)=false:=by simp[k3]
    have g3:(t.1==3)=false:=by simp[k3]
    have g4:(t.1==4)=false:=by simp[k3]
    have g5:(t.1==5)=false:=by simp[k3]
    simp only[g2,g3,g4,g5,k1,Bool.false_eq_true,if_false]
    exact ⟨false,0,0,p,rfl,hF,by omega⟩
 ·intro t a b e wa wb iha ihb n p hn hF hl
  rw[re] at hn hl⊢
  have hl2:((flat a++flat b)++ [t]).length<=1000000:=by omega
  obtain ⟨p1,p2,p3,p4⟩:=tj (a:=a) (t:=t) wb hl2
  simp only[aq,az,aI] at hn hl
  match n,hn with
  | n+1,hn =>
   have hpa:=wa.pos
   have hpb:=wb.pos
   rw[cg];simp only[ic]
   obtain ⟨l1,l2⟩:=jq (A:=flat a++flat b) (t:=t) (by rw[aq];omega)
   rw[l1];simp only[aa]
   obtain ⟨nu,fi,la,q,hs,hq1,hq2⟩:=iha n p (by omega) hF (by omega)
   obtain ⟨nu2,fi2,la2,q2,hs2,hq3,hq4⟩:=ihb n q (by omega) hq1 (by omega)
   rcases lJ (show 0<=ar t by omega) with ⟨_,k⟩ | ⟨k,_⟩ | ⟨k,_⟩
   ·rcases k with k | k
    ·have g2:(t.1==2)=false:=by simp[k]
     have g3:(t.1==3)=false:=by simp[k]
     have g4:(t.1==4)=true:=by simp[k]
     have g5:(t.1==5)=false:=by simp[k]
     simp only[g2,g3,g4,g5,Bool.false_eq_true,if_false,if_true]
     rw[l2,p1,p2,chk_of (by simp only[aq,az,aI];omega)];simp only[aa]
     rw[chk_of (by simp only[aq,az,aI];omega),p3,p4,hs];simp only[aa]
     rw[chk_of (by simp only[aq,az,aI];omega)];simp only[aa,ic]
     rw[hs2];simp only[aa,ic]
     rw[KO (by omega)];simp only[aa]
     refine ⟨nu&&nu2,if nu then orI fi fi2 else fi,if nu2 then orI la la2 else la2,(q2.1,q2.2.1,q2.2.2.1,lk q2.2.2.2.1 la fi2 q2.2.2.2.1.length,q2.2.2.2.2),?_,?_,?_⟩
     ·cases nu <;> cases nu2 <;> rfl
     ·simp only[u6];exact hq3
     ·simp only[aq,az,aI];omega
    ·have g2:(t.1==2)=false:=by simp[k]
     have g3:(t.1==3)=false:=by simp[k]
     have g4:(t.1==4)=false:=by simp[k]
     have g5:(t.1==5)=true:=by simp[k]
     simp only[g2,g3,g4,g5,Bool.false_eq_true,if_false,if_true]
     rw[l2,p1,p2,chk_of (by simp only[aq,az,aI];omega)];simp only[aa]
     rw[chk_of (by simp only[aq,az,aI];omega),p3,p4,hs];simp only[aa]
     rw[chk_of (by simp only[aq,az,aI];omega)];simp only[aa,ic]
     rw[hs2];simp only[aa,ic]
     refine ⟨nu || nu2,orI fi fi2,orI la la2,q2,?_,hq3,?_⟩
     ·cases nu <;> simp
     ·simp only[aq,az,aI];omega
   ·omega
   ·omega
theorem GI {e:List Tok} (he:e.length<=1048576):iF e=some (DI e):=by
 have hF:=pC
 unfold iF DI
 rw[Az he];simp only[aa]
 by_cases c:(decide (e.length<=24)&&isX e)=true
 ·rw[if_pos c,if_pos c]
  rw[af] at c
  obtain ⟨x,h1,hw,rfl⟩:=KI c.2
  have h24:(flat x).length<=24:=by simpa using c.1
  have hr:=fR hw
  rw[uZ hw,OW hw jX (by omega) (by omega)];simp only[aa]
  by_cases c2:5000<szX x
  ·simp only[gt_iff_lt,c2,decide_true,if_true]
  ·simp only[gt_iff_lt,c2,decide_false,if_false,Bool.false_eq_true]
   have hl:=wL hw (by omega)
   rw[Jo hw jX (by omega) (by omega) (by omega)];simp only[aa]
   by_cases c3:400<(flat (qk x)).length
   ·have c3':decide (((flat (qk x)).length:Int)>400)=true:=decide_eq_true (by omega)
    simp only[c3',c3,if_true]
   ·have c3':decide (((flat (qk x)).length:Int)>400)=false:=decide_eq_false (by omega)
    simp only[c3',c3,if_false,Bool.false_eq_true]
 ·rw[if_neg c,if_neg c]
theorem AG {e:List Tok} (he:e.length<=1048576): ∃r:Ds×Bool,eF e=some r/\r.1.2.2.2.1.length=r.1.1.length/\r.1.1.length<=400:=by
 have hF:=pC
 unfold eF
 rw[GI he];simp only[aa]
 by_cases c:(DI e).2=true
 ·obtain ⟨y,wy,ey,ly⟩:=M7 c
  rw[if_pos c,ax (P9 (by rw[ey];omega))]
  simp only
  by_cases d:(Gv (DI e).1 (DI e).1.length:Int)>20
  ·have d':decide ((Gv (DI e).1 (DI e).1.length:Int)>20)=true:=decide_eq_true d
   simp only[d',if_true]
   exact ⟨_,rfl,rfl,by simp⟩
  ·have d':decide ((Gv (DI e).1 (DI e).1.length:Int)>20)=false:=decide_eq_false d
   simp only[d',Bool.false_eq_true,if_false]
   rw[ey]
   obtain ⟨nu,fi,la,q,hs,hq1,hq2⟩:=Ju wy jX ([],0,0,[],false) (by omega) rfl (by simp;omega)
   rw[hs];simp only[aa]
   exact ⟨_,rfl,hq1,by simp at hq2;show q.1.length<=_;omega⟩
 ·rw[if_neg c]
  exact ⟨_,rfl,rfl,by simp⟩
theorem GJ {p:Ds} (h1:p.2.2.2.1.length=p.1.length) (h2:p.1.length<=100000): ∃r:AutT×Bool,de p 12=some r/\(r.2=true-> ∃N,N<=12/\bfE (nxS p) 1 N/\r.1=(0,(bfS (nxS p) 1 N).map (wP p),bfR (nxS p) 1 N)/\VA r.1 N):=by
 have d1:=P8 (p:=p) (most:=12) h1 (by omega) (by omega) (by omega)
 have d1:de p 12=_:=d1
 rw[d1]
 rcases GH (nx:=nxS p) (first:=1) (acc:=wP p) (most:=12) (12+2) 0 (fun j hj=>by omega) (by simp[bfS]) with e | ⟨N,hN,hNm,e⟩
 ·exact ⟨_,rfl,fun h=>by rw[e] at h;cases h⟩
 ·rw[e]
  have V:=Nc (acc:=wP p) (Gu p) hN
  exact ⟨_,rfl,fun _=>⟨N,hNm,hN,rfl,V⟩⟩
end D
namespace D
open Go.RowKit
def B6:List ByteArray:=[⟨#[97]⟩,⟨#[97,32,98,32,46]⟩,⟨#[97,32,42]⟩,⟨#[97,32,98,32,124,32,42]⟩,⟨#[97,32,97,45,32,46]⟩,⟨#[97,32,42,32,98,32,46]⟩,⟨#[97,32,98,32,42,32,46,32,99,32,46]⟩,⟨#[97,32,97,32,124,32,42]⟩,⟨#[97,32,98,32,46,32,42]⟩,⟨#[48,32,97,32,46,32,42]⟩,⟨#[97,32,49,32,46,32,98,32,46]⟩,⟨#[97,32,123,48,44,50,125]⟩,⟨#[97,32,98,32,124,32,123,49,44,51,125]⟩,⟨#[40,41]⟩,⟨#[33]⟩,⟨#[97,45,32,42,32,97,32,46]⟩,⟨#[97,32,98,45,32,46,32,42,32,99,32,124]⟩,⟨#[97,32,42,32,97,32,42,32,46]⟩,⟨#[97,32,48,32,124,32,42,32,98,32,46]⟩,⟨#[97,32,97,32,46,32,42]⟩,⟨#[97,32,98,32,46,32,98,32,97,32,46,32,124,32,42]⟩]
def GK (t:ByteArray):Bool:=match fw t with
 | some r=>r.2&&Nat.ble 1 r.1.length&&Nat.ble r.1.length 24
 | none=>false
theorem GL:B6.all GK=true:=by kernel_rfl
theorem Jv {t:ByteArray} (h:t∈B6): ∃r:List Tok×Bool,fw t=some r/\r.2=true/\1<=r.1.length/\r.1.length<=24:=by
 have h1:GK t=true:=List.all_eq_true.1 GL t h
 unfold GK at h1
 split at h1
 ·rename_i r hr
  rw[af,af] at h1
  exact ⟨r,hr,h1.1.1,bG h1.1.2,bG h1.2⟩
 ·cases h1
section
variable {xs:List Int} {i h:Int}
theorem Nd (hl:xs.length<=1048576) (hc:nG xs i): ∃r:List Tok×Int×Int,lB (xs,i,h)=some r/\(1<=r.1.length/\r.1.length<=24)/\nG xs r.2.1:=by
 obtain ⟨r,e,h1,k⟩:=OT (h:=h) hl hc (l:=B6) (by unfold B6;simp)
 obtain ⟨q,e2,-,h2⟩:=Jv h1
 unfold lB
 have hb:=congrArg (fun o:Option (ByteArray×Int×Int)=>Option.bind o (fun r0:ByteArray×Int×Int=>(fw r0.1).bind fun r1=>some (r1.1,r0.2.1,r0.2.2))) e
 refine ⟨(q.1,r.2.1,r.2.2),hb.trans ?_,h2,k⟩
 show (fw r.1).bind _=_
 rw[e2];rfl
theorem yX (hl:xs.length<=1048576): ∀(d n:Nat) (i h:Int),d<n->d<=3->nG xs i-> ∃r:List Tok×Int×Int,cv n (xs,i,h) (d:Int)=some r/\(1<=r.1.length/\r.1.length+1<=2 ^ (d+1))/\nG xs r.2.1
 | 0,n+1,i,h,_,_,hc=>by
  rw[cv];simp only
  rw[if_pos (by decide)]
  obtain ⟨r,e,k⟩:=yQ (h:=h) hl hc (n:=12) (by omega)
  rw[e];simp only[aa]
  by_cases c:r.1=true
  ·rw[if_pos c]
   obtain ⟨q,e2,-,k2⟩:=pA (h:=r.2.2) hl k (l:=[1,2]) (by simp)
   rw[e2];simp only[aa]
   exact ⟨_,rfl,⟨ay _,ay _⟩,k2⟩
  ·rw[if_neg c]
   obtain ⟨q,e2,-,k2⟩:=pA (h:=r.2.2) hl k (l:=[0,0,2,2,1,4,3,6,7]) (by simp)
   rw[e2];simp only[aa]
   exact ⟨_,rfl,⟨ay _,ay _⟩,k2⟩
 | d+1,n+1,i,h,hd,h3,hc=>by
  have hp:2 ^ (d+1+1)=2*2 ^ (d+1):=by rw[Nat.pow_succ,Nat.mul_comm]
  have hb:2 ^ (d+1)<=8:=by
   have:d<=2:=by omega
   match d,this with
   | 0,_=>decide
   | 1,_=>decide
   | 2,_=>decide
  rw[cv];simp only
  rw[if_neg (by simp;omega)]
  have hw:IntKind.i64.wrap (((d+1:Nat):Int) - 1)=(d:Int):=by rw[cP (by omega) (by omega)];omega
  rw[hw]
  obtain ⟨r,e,-,k⟩:=jS (h:=h) hl hc (n:=6) (by omega)
  rw[e];simp only[aa]
  have two: ∀(t:Tok) (i h:Int),nG xs i-> ∃r:List Tok×Int×Int,((cv n (xs,i,h) (d:Int)).bind fun r7=>(cv n (xs,r7.2.1,r7.2.2) (d:Int)).bind fun r8=>(cG r7.1 r8.1 t).bind fun r9=>some (r9,r8.2.1,r8.2.2))=some r/\(1<=r.1.length/\r.1.length+1<=2 ^ (d+1+1))/\nG xs r.2.1:=fun t i h hc=>by
   obtain ⟨r7,e7,h7,k7⟩:=yX hl d n i h (by omega) (by omega) hc
   rw[e7];simp only[aa]
   obtain ⟨r8,e8,h8,k8⟩:=yX hl d n r7.2.1 r7.2.2 (by omega) (by omega) k7
   rw[e8];simp only[aa]
   rw[tk (by omega)];simp only[aa]
   refine ⟨_,rfl,?_,k8⟩
   simp only[aq,az,aI]
   omega
  have one: ∀(t:Tok) (i h:Int),nG xs i-> ∃r:List Tok×Int×Int,((cv n (xs,i,h) (d:Int)).bind fun r14=>(cG r14.1 ([] :List Yq1) t).bind fun r15=>some (r15,r14.2.1,r14.2.2))=some r/\(1<=r.1.length/\r.1.length+1<=2 ^ (d+1+1))/\nG xs r.2.1:=fun t i h hc=>by
   obtain ⟨r7,e7,h7,k7⟩:=yX hl d n i h (by omega) (by omega) hc
   rw[e7];simp only[aa]
   rw[tk (by simp only[aI];omega)];simp only[aa]
   refine ⟨_,rfl,?_,k7⟩
   simp only[aq,az,aI]
   omega
  have if2: ∀(p q:Bool),(if p then (some p) else (some q):Option Bool)=some (p || q):=fun p q=>by cases p <;> rfl
  rw[if2];simp only[aa]
  by_cases c1:(r.1==0 || r.1==1)=true
  ·rw[if_pos c1]
   exact two _ _ _ k
  ·rw[if_neg c1,if2];simp only[aa]
   by_cases c2:(r.1==2 || r.1==3)=true
   ·rw[if_pos c2]
    exact two _ _ _ k
   ·rw[if_neg c2]
    by_cases c3:(r.1==4)=true
    ·rw[if_pos c3]
     exact one _ _ _ k
    ·rw[if_neg c3]
     obtain ⟨q,e2,h2,k2⟩:=jS (h:=r.2.2) hl k (n:=3) (by omega)
     rw[e2];simp only[aa]
     obtain ⟨r7,e7,h7,k7⟩:=yX hl d n q.2.1 q.2.2 (by omega) (by omega) k2
     rw[e7];simp only[aa]
     have w:IntKind.i64.wrap (IntKind.i64.wrap (1+q.1)+1)=q.1+2:=by
      rw[cP (n:=1+q.1) (by omega) (by omega),cP (by omega) (by omega)];omega
     obtain ⟨u,e3,-,k3⟩:=jS (h:=r7.2.2) hl k7 (n:=q.1+2) (by omega)
     rw[w,e3];simp only[aa]
     rw[tk (by simp only[aI];omega)];simp only[aa]
     refine ⟨_,rfl,?_,k3⟩
     simp only[aq,az,aI]
     omega
theorem Pa (hl:xs.length<=1048576) (hc:nG xs i): ∃r:List Tok×Int×Int,nm (xs,i,h)=some r/\(1<=r.1.length/\r.1.length<=24)/\nG xs r.2.1:=by
 have hF:=pC
 unfold nm
 simp only
 obtain ⟨r,e,k⟩:=yQ (h:=h) hl hc (n:=2) (by omega)
 rw[e];simp only[aa]
 by_cases c:r.1=true
 ·rw[if_pos c]
  obtain ⟨q,e2,h2,k2⟩:=Nd (h:=r.2.2) hl k
  rw[e2]
  exact ⟨_,rfl,h2,k2⟩
 ·rw[if_neg c]
  obtain ⟨q,e2,h2,k2⟩:=jS (h:=r.2.2) hl k (n:=3) (by omega)
  rw[e2];simp only[aa]
  have w:IntKind.i64.wrap (1+q.1)=(((q.1.toNat+1:Nat)):Int):=by rw[cP (by omega) (by omega)];omega
  obtain ⟨u,e3,h3,k3⟩:=yX hl (q.1.toNat+1) jX q.2.1 q.2.2 (by omega) (by omega) k2
  rw[w,e3]
  refine ⟨_,rfl,⟨h3.1,?_⟩,k3⟩
  have:q.1.toNat<=2:=by omega
  have h4:=h3.2
  show u.1.length<=24
  generalize q.1.toNat=z at this h4
  match z,this with
  | 0,_=>simp at h4;omega
  | 1,_=>simp at h4;omega
  | 2,_=>simp at h4;omega
def AutD (a:AutT):Prop:=(1<=a.2.1.length/\a.2.1.length<=12)/\(1<=a.2.2.length/\a.2.2.length<=12)/\ ∀r∈a.2.2,r.length=9
theorem AutD.sm {a:AutT} (h:AutD a):Data.sm a:=⟨trivial,⟨by have:=h.1.2;omega,fun _ _=>trivial⟩,by have:=h.2.1.2;omega,fun r hr=>⟨by rw[h.2.2 r hr];decide,fun _ _=>trivial⟩⟩
theorem VA.autD {a:AutT} {n:Nat} (V:VA a n) (hn:n<=12):AutD a:=by
 have h0:=V.pos
 have h1:=V.len
 have h2:=V.nlen
 exact ⟨by omega,by omega,V.row⟩
theorem Qc (hl:xs.length<=1048576) {p:List Int×Int×Int} {r0:Int×Int×Int} (hp:p.1=xs) (hr:0<=r0.1/\r0.1<4) (hc:nG xs i): ∃s,aG (dQ p r0) aV (([] :List Int),0,i,h)=some (.brk s)/\s.1.length=9/\nG xs s.2.2.1:=by
 have w:IntKind.i64.wrap (1+r0.1)=1+r0.1:=cP (by omega) (by omega)
 obtain ⟨s,e,h1,h2,h3⟩:=b0 (f:=dQ p r0) (fun j s=>s.2.1=(j:Int)/\s.1.length=j/\nG xs s.2.2.1) 9 (fun j s hj hI=>by
  obtain ⟨h1,h2,h3⟩:=hI
  unfold dQ
  rw[h1,hp,if_pos (by simp;omega)]
  obtain ⟨r,e,k⟩:=yQ (h:=s.2.2.2) hl h3 (n:=3) (by omega)
  rw[e];simp only[aa]
  have key: ∃q:Int×Int×Int,(if r.1 then (some ((-1),r.2.1,r.2.2)) else ((bJ (xs,r.2.1,r.2.2) (IntKind.i64.wrap (1+r0.1))).bind fun r8=>some (r8.1,r8.2.1,r8.2.2)):Option (Int×Int×Int))=some q/\nG xs q.2.1:=by
   by_cases c:r.1=true
   ·rw[if_pos c];exact ⟨_,rfl,k⟩
   ·rw[if_neg c,w]
    obtain ⟨q,e2,-,k2⟩:=jS (h:=r.2.2) hl k (n:=1+r0.1) (by omega)
    rw[e2];exact ⟨_,rfl,k2⟩
  obtain ⟨q,e2,k2⟩:=key
  rw[e2];simp only[aa]
  have e4: ∃z:Int,(if decide ((j:Int)>3) then (some (-1)) else (some q.1):Option Int)=some z:=by
   by_cases c:decide ((j:Int)>3)=true
   ·exact ⟨_,if_pos c⟩
   ·exact ⟨_,if_neg c⟩
  obtain ⟨z,e4⟩:=e4
  rw[e4];simp only[aa]
  rw[aP (by simp only[az,aI];omega)];simp only[aa]
  refine ⟨_,rfl,?_,?_,k2⟩
  ·show IntKind.i64.wrap ((j:Int)+1)=((j+1:Nat):Int)
   rw[cP (by omega) (by omega)];omega
  ·simp only[aq,az,aI];omega) (fun s hI=>by
  unfold dQ
  rw[hI.1,if_neg (by simp)]
  obtain ⟨a,b,c,d⟩:=s
  obtain rfl:b=_:=hI.1
  rfl) (s:=(([] :List Int),0,i,h)) ⟨rfl,rfl,hc⟩ (ju (by omega))
 exact ⟨s,e,h2,h3⟩
theorem B7 (hl:xs.length<=1048576) (hc:nG xs i): ∃r:AutT×Int×Int,gT (xs,i,h)=some r/\AutD r.1/\nG xs r.2.1:=by
 unfold gT
 simp only
 obtain ⟨r0,e0,h0,k0⟩:=jS (h:=h) hl hc (n:=4) (by omega)
 rw[e0];simp only[aa]
 have w:IntKind.i64.wrap (1+r0.1)=((r0.1.toNat+1:Nat):Int):=by rw[cP (by omega) (by omega)];omega
 obtain ⟨r1,e1,-,k1⟩:=jS (h:=r0.2.2) hl k0 (n:=((r0.1.toNat+1:Nat):Int)) (by omega)
 rw[w,e1];simp only[aa]
 obtain ⟨s,e,h1,h2,h3,h4,h5⟩:=b0 (f:=fU (xs,i,h) r0) (fun j s=>s.1=(j:Int)/\s.2.2.1.length=j/\s.2.2.2.1.length=j/\(∀r∈s.2.2.2.1,r.length=9)/\nG xs s.2.2.2.2.1) (r0.1.toNat+1) (fun j s hj hI=>by
  obtain ⟨h1,h2,h3,h4,h5⟩:=hI
  unfold fU
  rw[h1,w,if_pos (by simp;omega)]
  obtain ⟨q,e,hq,k⟩:=Qc (p:=(xs,i,h)) (r0:=r0) (i:=s.2.2.2.2.1) (h:=s.2.2.2.2.2) hl rfl h0 h5
  rw[ax e]
  simp only
  obtain ⟨o,e2,k2⟩:=yQ (h:=q.2.2.2) hl k (n:=3) (by omega)
  rw[e2];simp only[aa]
  rw[aP (by simp only[az,aI];omega)];simp only[aa]
  rw[aP (by simp only[az,aI];omega)];simp only[aa]
  refine ⟨_,rfl,?_,by simp[h2],by simp[h3],fun r hr=>?_,k2⟩
  ·show IntKind.i64.wrap ((j:Int)+1)=((j+1:Nat):Int)
   rw[cP (by omega) (by omega)];omega
  ·rcases aC hr with hr | hr
   ·exact h4 r hr
   ·obtain rfl:=aj hr
    exact hq) (fun s hI=>by
  unfold fU
  rw[hI.1,w,if_neg (by simp)]
  obtain ⟨a,b⟩:=s
  obtain rfl:a=_:=hI.1
  rfl) (s:=(0,r1.1,([] :List Bool),([] :List (List Int)),r1.2.1,r1.2.2)) ⟨rfl,rfl,rfl,fun r hr=>(by cases hr),k1⟩ (ju (by omega))
 rw[ax e]
 refine ⟨_,rfl,⟨?_,?_,h4⟩,h5⟩
 ·show 1<=s.2.2.1.length/\s.2.2.1.length<=12
  omega
 ·show 1<=s.2.2.2.1.length/\s.2.2.2.1.length<=12
  omega
theorem Qd (hl:xs.length<=1048576) (hc:nG xs i): ∃r:AutT×Int×Int,np (xs,i,h)=some r/\AutD r.1/\nG xs r.2.1:=by
 unfold np
 simp only
 obtain ⟨r,e,k⟩:=yQ (h:=h) hl hc (n:=3) (by omega)
 rw[e];simp only[aa]
 by_cases c:r.1=true
 ·rw[if_pos c]
  obtain ⟨q,e2,h2,k2⟩:=B7 (h:=r.2.2) hl k
  rw[e2]
  exact ⟨_,rfl,h2,k2⟩
 ·rw[if_neg c]
  obtain ⟨q,e2,h2,k2⟩:=Pa (h:=r.2.2) hl k
  rw[e2];simp only[aa]
  obtain ⟨p,e3,p1,p2⟩:=AG (e:=q.1) (by omega)
  rw[e3];simp only[aa]
  obtain ⟨a,e4,h4⟩:=GJ (p:=p.1) p1 (by omega)
  have e4:de (p.1.1,p.1.2.1,p.1.2.2.1,p.1.2.2.2.1,p.1.2.2.2.2) 12=some a:=e4
  rw[e4];simp only[aa]
  by_cases c2:a.2=true
  ·rw[if_pos c2]
   obtain ⟨N,hN,-,-,V⟩:=h4 c2
   exact ⟨_,rfl,V.autD hN,k2⟩
  ·rw[if_neg c2]
   obtain ⟨u,e5,h5,k5⟩:=B7 (h:=q.2.2) hl k2
   rw[e5]
   exact ⟨_,rfl,h5,k5⟩
theorem Qe (hl:xs.length<=1048576) (hc:nG xs i): ∃r:AutT×Int×Int,nq (xs,i,h)=some r/\Data.sm r.1/\nG xs r.2.1:=by
 unfold nq
 simp only
 obtain ⟨a,e,ha,k⟩:=Qd (h:=h) hl hc
 rw[e];simp only[aa]
 obtain ⟨q,e2,-,k2⟩:=jS (h:=a.2.2) hl k (n:=14) (by omega)
 rw[e2];simp only[aa]
 have hsm:=ha.sm
 obtain ⟨⟨hl1,hl2⟩,⟨hl3,hl4⟩,hr⟩:=ha
 have hg:a8 a.1.2.2 0=some (nth a.1.2.2 0):=aF (by omega) (by omega)
 have h9:(nth a.1.2.2 0).length=9:=hr _ (bK (by omega) (by omega))
 by_cases c0:(q.1==0)=true
 ·rw[if_pos c0]
  obtain ⟨r,e3,-,k3⟩:=pA (h:=q.2.2) hl k2 (l:=[(-1),12,1]) (by simp)
  rw[e3];simp only[aa]
  exact ⟨_,rfl,hsm,k3⟩
 ·rw[if_neg c0]
  by_cases c1:(q.1==1)=true
  ·rw[if_pos c1,aP (by simp only[az,aI];omega)];simp only[aa]
   exact ⟨_,rfl,⟨trivial,⟨by simp;omega,fun _ _=>trivial⟩,hsm.2.2⟩,k2⟩
  ·rw[if_neg c1]
   by_cases c2:(q.1==2)=true
   ·rw[if_pos c2,hg];simp only[aa]
    obtain ⟨r,e3,-,k3⟩:=pA (h:=q.2.2) hl k2 (l:=[(-2),12,0]) (by simp)
    rw[e3];simp only[aa]
    rw[aF (by omega) (by omega)];simp only[aa]
    refine ⟨_,rfl,⟨trivial,hsm.2.1,?_,fun x hx=>?_⟩,k3⟩
    ·show (List.set _ _ _).length<=_
     rw[List.length_set];omega
    ·rcases List.mem_or_eq_of_mem_set hx with hx | rfl
     ·exact hsm.2.2.2 x hx
     ·exact ⟨by rw[List.length_set,h9];decide,fun _ _=>trivial⟩
   ·rw[if_neg c2]
    by_cases c3:(q.1==3)=true
    ·rw[if_pos c3,hg];simp only[aa]
     have hk:chk (0<((a.1.2.2.set 0 ([] :List Int)).length:Int))=some ():=by unfold chk;rw[if_pos (by rw[List.length_set];omega)]
     have hk2:chk (And ((0:Int)<=8) (8<=((nth a.1.2.2 0).length:Int)))=some ():=by unfold chk;rw[if_pos (by rw[h9];decide)]
     rw[hk,hk2];simp only[aa]
     refine ⟨_,rfl,⟨trivial,hsm.2.1,?_,fun x hx=>?_⟩,k2⟩
     ·show (List.set _ _ _).length<=_
      rw[List.length_set];omega
     ·rcases List.mem_or_eq_of_mem_set hx with hx | rfl
      ·exact hsm.2.2.2 x hx
      ·exact ⟨by rw[aE];omega,fun _ _=>trivial⟩
    ·rw[if_neg c3];simp only[aa]
     exact ⟨_,rfl,hsm,k2⟩
end
end D
namespace D
open Go.RowKit
section
variable {nx:Int×Int->List (Option (Int×Int))} {first:Int×Int} {G:Int×Int->Prop} {B:Nat}
end
end D
namespace D
open Go.RowKit
theorem Nf {l:List Int} {x:Int} (hl:l.length<=1000000) (hx:x∈l):aR x l=some (nbI l (some x)):=by
 unfold aR bA
 obtain ⟨o,e,hq⟩:=cd (f:=a6 l x) (fun k s=>s=(k:Int)/\x∉l.take k) (fun o=>o= .ret (nbI l (some x))) l.length (s:=0) (by
  rintro k s hk ⟨rfl,hx'⟩
  unfold a6
  by_cases hkl:k<l.length
  ·rw[if_pos (by simp;omega),aF (by omega) (by omega)];simp only[aa]
   by_cases h:nth l (k:Int)=x
   ·refine .inr ⟨_,by rw[if_pos (by simp[h])],(fun s' e=>by cases e),?_⟩
    have e:l=l.take k++(x::l.drop (k+1)):=by
     rw[<-h,aZ hkl,<-List.drop_eq_getElem_cons hkl,List.take_append_drop]
    rw[yV e hx',aE,Nat.min_eq_left (by omega)]
   ·have h': ¬x=nth l (k:Int):=fun e=>h e.symm
    refine .inl ⟨hkl,_,by rw[if_neg (by simpa using h')],by rw[aB (by omega)],?_⟩
    rw[take_one hkl,List.mem_append,List.mem_singleton]
    rintro (h' | h')
    ·exact hx' h'
    ·exact h h'.symm
  ·rw[List.take_of_length_le (by omega)] at hx'
   exact absurd hx hx') ⟨rfl,by simp⟩ (ju (by omega))
 subst hq
 rw[bm e];rfl
section
variable {a:AutT} {n:Nat}
def rep (c:List Int) (x:Int):Int:=nbI c (some x)
theorem GM {c:List Int} {x:Int} (h:x∈c):0<=rep c x/\rep c x<c.length/\nth c (rep c x)=x:=by
 obtain ⟨q,hq,e1,e2⟩:=kJ h
 unfold rep
 rw[e1]
 exact ⟨by omega,by omega,by rw[aZ hq,e2]⟩
def Qf (a:AutT) (n:Nat) (r:AutT):Prop:=(nth (live a) a.1=false/\r=nothing)\/(nth (live a) a.1=true/\ ∃(j:Nat) (c:List Int) (nx:Int->List (Option Int)) (ac:Int->Bool) (N:Nat),c=cI a j/\(∀r,good n (live a) r->nx (nth c r)=kI a c (live a) r)/\(∀r,good n (live a) r->ac (nth c r)=nth a.2.1 r)/\bfE nx (nth c a.1) N/\(∀x∈bfS nx (nth c a.1) N,(nx x).length=9)/\r=(0,(bfS nx (nth c a.1) N).map ac,bfR nx (nth c a.1) N))
theorem vi (V:VA a n) (hn:n<=1000000): ∃r,eR a=some r/\bZ a=some r/\Data.sm r/\VA r r.2.1.length/\r.2.1.length<=n/\Qf a n r:=by
 have hlen:=V.len
 have hst:=V.start
 have hll:(live a).length=n:=by rw[jU,hlen]
 obtain ⟨c,es,ei,hcl,hfix,j,hj⟩:=Du V hn
 have hneg: ∀s:Int,0<=s->s<n->(nth c s<0↔nth (live a) s=false):=fun s h0 h1=>by
  have:=(vd a (s:=s.toNat) (by omega) j).1
  rw[<-hj,show ((s.toNat:Nat):Int)=s from by omega] at this
  exact this
 have hlt: ∀s:Int,0<=s->s<n->nth c s<n:=fun s h0 h1=>by
  have:=M9 (c:=c) (a:=a) (s:=s.toNat) (by omega)
  rw[hfix,hlen,show ((s.toNat:Nat):Int)=s from by omega] at this
  exact this
 have hpos: ∀r,good n (live a) r->0<=nth c r:=fun r hr=>by
  have:=hneg r hr.1 hr.2.1
  by_cases k:nth c r<0
  ·have:=this.1 k;rw[hr.2.2] at this;cases this
  ·omega
 have hkey: ∀r t:Int,0<=r->r<n->0<=t->t<n->0<=nth c r->nth c r=nth c t->wT a c r=wT a c t:=fun r t r0 r1 t0 t1 h0 h=>by
  have:=GC (a:=a) (c:=c) (s:=r.toNat) (t:=t.toNat) (by omega) (by omega) (by rw[hfix,show ((r.toNat:Nat):Int)=r from by omega];exact h0) (by rw[hfix,show ((r.toNat:Nat):Int)=r from by omega,show ((t.toNat:Nat):Int)=t from by omega];exact h)
  rwa [show ((r.toNat:Nat):Int)=r from by omega,show ((t.toNat:Nat):Int)=t from by omega] at this
 have hacc: ∀r t:Int,0<=r->r<n->0<=t->t<n->0<=nth c r->nth c r=nth c t->nth a.2.1 r=nth a.2.1 t:=fun r t r0 r1 t0 t1 h0 h=>by
  have:=KQ a (s:=r.toNat) (t:=t.toNat) (by omega) (by omega) j (by rw[<-hj,show ((r.toNat:Nat):Int)=r from by omega];exact h0) (by rw[<-hj,show ((r.toNat:Nat):Int)=r from by omega,show ((t.toNat:Nat):Int)=t from by omega];exact h)
  rwa [show ((r.toNat:Nat):Int)=r from by omega,show ((t.toNat:Nat):Int)=t from by omega] at this
 have hsuccs: ∀r,good n (live a) r->kI a c (live a) r=(List.range 9).map fun k=>if 0<=ent a c r k then some (ent a c r k) else none:=fun r hr=>by
  refine List.map_congr_left fun k hk=>?_
  have hk:k<9:=List.mem_range.1 hk
  have hm:=V.mv hr.1 hr.2.1 hk
  unfold ent
  by_cases h:mv a r k<0
  ·rw[if_pos h,if_neg (fun h'=>by omega),if_neg (by omega)]
  ·rw[if_neg h]
   have:=hneg (mv a r k) (by omega) hm.2
   cases hl:nth (live a) (mv a r k) with
   | false =>
    have:=this.2 hl
    rw[if_neg (fun h'=>by cases h'.2),if_neg (by omega)]
   | true =>
    have: ¬nth c (mv a r k)<0:=fun h'=>by have:=this.1 h';rw[hl] at this;cases this
    rw[if_pos ⟨by omega,rfl⟩,if_pos (by omega)]
 have hent: ∀r t:Int,wT a c r=wT a c t-> ∀k,k<9->ent a c r k=ent a c t k:=fun r t h k hk=>by
  have h:(List.range 9).map (fun k=>ent a c r k)=(List.range 9).map (fun k=>ent a c t k):=by unfold wT at h;injection h
  have:=congrArg (fun l:List Int=>l[k]?) h
  simpa [hk] using this
 let nx:Int->List (Option Int):=fun x=>kI a c (live a) (rep c x)
 let acc:Int->Bool:=fun x=>nth a.2.1 (rep c x)
 let G:Int->Prop:=fun x=> ∃r,good n (live a) r/\nth c r=x
 have Gm: ∀x,G x->x∈c/\0<=x/\good n (live a) (rep c x):=by
  rintro x ⟨r,hr,rfl⟩
  have hm:nth c r∈c:=bK hr.1 (by rw[hcl];exact hr.2.1)
  obtain ⟨h0,h1,h2⟩:=GM hm
  have hp:=hpos r hr
  refine ⟨hm,hp,h0,by omega,?_⟩
  have:=hneg (rep c (nth c r)) h0 (by omega)
  rw[h2] at this
  cases hl:nth (live a) (rep c (nth c r)) with
  | true=>rfl
  | false=>have:=this.2 hl;omega
 have hnx: ∀r,good n (live a) r->nx (nth c r)=kI a c (live a) r:=fun r hr=>by
  obtain ⟨hm,hp,hg⟩:=Gm _ ⟨r,hr,rfl⟩
  obtain ⟨h0,h1,h2⟩:=GM hm
  show kI a c (live a) (rep c (nth c r))=_
  rw[hsuccs _ hg,hsuccs _ hr]
  refine List.map_congr_left fun k hk=>?_
  rw[hent _ _ (hkey _ _ hg.1 hg.2.1 hr.1 hr.2.1 (by rw[h2];exact hp) h2) k (List.mem_range.1 hk)]
 have hac: ∀r,good n (live a) r->acc (nth c r)=nth a.2.1 r:=fun r hr=>by
  obtain ⟨hm,hp,hg⟩:=Gm _ ⟨r,hr,rfl⟩
  obtain ⟨h0,h1,h2⟩:=GM hm
  exact hacc _ _ hg.1 hg.2.1 hr.1 hr.2.1 (by rw[h2];exact hp) h2
 have hgn: ∀r,good n (live a) r-> ∀y,some y∈kI a c (live a) r->G y:=fun r hr y h=>by
  obtain ⟨k,hk,e⟩:=List.mem_map.1 h
  have hk:k<9:=List.mem_range.1 hk
  split at e
  ·rename_i hc
   exact ⟨mv a r k,⟨hc.1,(V.mv hr.1 hr.2.1 hk).2,hc.2⟩,ae e⟩
  ·cases e
 unfold eR bZ
 simp only[ic]
 rw[es,ei,Gl V hn];simp only[aa]
 rw[aF hst.1 (by omega)];simp only[aa]
 cases hs:nth (live a) a.1 with
 | false =>
  have:=(hneg a.1 hst.1 hst.2).2 hs
  rw[AC V hll hs,if_pos (by simpa using this),Gq]
  exact ⟨nothing,rfl,rfl,Dt,vh,V.pos,.inl ⟨hs,rfl⟩⟩
 | true =>
  have hst':good n (live a) a.1:=⟨hst.1,hst.2,hs⟩
  have hp:=hpos _ hst'
  have H:NumOk nx (nth c a.1) G n:=⟨⟨a.1,hst',rfl⟩,fun x hx y hy=>hgn _ (Gm x hx).2.2 y hy,fun x hx=>by simp[nx,kI],fun l hd h=>u7 n l hd fun x hx=>by
   obtain ⟨r,hr,rfl⟩:=h x hx
   exact ⟨hpos r hr,hlt r hr.1 hr.2.1⟩⟩
  obtain ⟨N,hN,e1⟩:=OZ (acc:=acc) V hn hcl hll hs H hn hnx hac
  have hfirst: ∀x,G x->aR x c=some (rep c x):=fun x hx=>Nf (by omega) (Gm x hx).1
  obtain ⟨N',hN',e2⟩:=OY (most:=(c.length:Int)) (p2:=fun a0=>bM a0 (a.1,a.2.1,a.2.2) (fun a0=>aR a0 c)) (p3:=fun a0 a1=>bN a0 a1 (a.1,a.2.1,a.2.2) (fun a0=>aR a0 c) c) (acc:=acc) H hn (by omega) (fun x hx=>O2 hn (Gm x hx).2.1 (by
    obtain ⟨r,hr,rfl⟩:=hx
    exact hlt r hr.1 hr.2.1)) (fun x hx=>by
   show bM x (a.1,a.2.1,a.2.2) (fun a0=>aR a0 c)=_
   unfold bM
   simp only
   rw[hfirst x hx];simp only[aa]
   rw[V.acc (Gm x hx).2.2.1 (Gm x hx).2.2.2.1];rfl) (fun x k hx hk=>by
   obtain ⟨hm,hx0,hg⟩:=Gm x hx
   have hm':=V.mv hg.1 hg.2.1 hk
   refine ⟨0,?_⟩
   show bN x k (a.1,a.2.1,a.2.2) (fun a0=>aR a0 c) c=_
   unfold bN
   simp only
   rw[hfirst x hx];simp only[aa]
   rw[show bh (a.1,a.2.1,a.2.2) (rep c x) k=some (mv a (rep c x) k) from KG V hg.1 hg.2.1 hk];simp only[aa]
   show _=some (match nth (kI a c (live a) (rep c x)) (k:Int) with | some y=>(y,true) | none=>(0,false))
   rw[B3 hk]
   by_cases h:mv a (rep c x) k<0
   ·rw[if_pos (by simpa using h),if_neg (fun h'=>by omega)]
   ·rw[if_neg (by simpa using h),aF (by omega) (by omega)];simp only[aa]
    have hng:=hneg (mv a (rep c x) k) (by omega) hm'.2
    cases hl:nth (live a) (mv a (rep c x) k) with
    | false =>
     have:=hng.2 hl
     rw[if_pos (by simpa using this),if_neg (fun h'=>by cases h'.2)]
    | true =>
     have: ¬nth c (mv a (rep c x) k)<0:=fun h'=>by have:=hng.1 h';rw[hl] at this;cases this
     rw[if_neg (by simpa using this),if_pos ⟨by omega,rfl⟩])
  obtain rfl:=BY hN hN'
  have v:=O9 (acc:=acc) H hN
  refine ⟨_,by rw[e1];rfl,?_,O3 H hn hN,v.self,?_,.inr ⟨hs,j,c,nx,acc,N,hj,hnx,hac,hN,fun x _=>by simp[nx,kI],rfl⟩⟩
  rotate_left
  ·rw[v.len,hN.1];exact H.bound _ (eh N) (c9 H.g0 H.gn N)
  rw[if_neg (by simp;omega)]
  exact (congrArg (fun x=>Option.bind x _) e2).trans rfl
theorem Dv (V:VA a n) (hn:n<=1000000): ∃r,eR a=some r/\bZ a=some r/\Data.sm r/\VA r r.2.1.length/\r.2.1.length<=n:=by
 obtain ⟨r,h1,h2,h3,h4,h5,-⟩:=vi V hn
 exact ⟨r,h1,h2,h3,h4,h5⟩
end
end D
namespace D
open Go.RowKit
theorem GN {a:AutT} {n:Nat} (V:VA a n) {s:Int} (h0:0<=s) (h1:s<n):bj a s=some (nth a.2.1 s):=by
 unfold bj
 rw[if_pos (by simpa using h0),V.acc h0 h1];rfl
theorem wV {a:AutT} {s:Int} (h0:s<0):bj a s=some false:=by
 unfold bj;rw[if_neg (by simp;omega)]
end D
namespace D
open Go.RowKit
section
variable {a b:AutT} {n m:Nat}
def mvn (a:AutT) (s:Int) (k:Nat):Int:=if s<0 then -1 else mv a s k
def acn (a:AutT) (s:Int):Bool:=if s<0 then false else nth a.2.1 s
theorem qU (V:VA a n) {s:Int} {k:Nat} (h0: -1<=s) (h1:s<n) (hk:k<9): -1<=mvn a s k/\mvn a s k<n:=by
 unfold mvn
 split
 ·have:=V.pos;omega
 ·exact V.mv (by omega) h1 hk
theorem Jw (V:VA a n) {s:Int} {k:Nat} (h0: -1<=s) (h1:s<n) (hk:k<9):bh a s (k:Int)=some (mvn a s k):=by
 unfold mvn
 split
 ·exact Dn ‹_›
 ·exact KG V (by omega) h1 hk
theorem Jx (V:VA a n) {s:Int} {k:Nat} (h0: -1<=s) (h1:s<n) (hk:k<9):gk a s (k:Int)=some (mvn a s k):=by
 unfold mvn gk
 by_cases c:s<0
 ·rw[if_pos (by simpa using c),if_pos c]
 ·rw[if_neg (by simpa using c),if_neg c,V.get (by omega) h1];simp only[aa]
  rw[V.get2 (by omega) h1 hk];rfl
theorem Ng (V:VA a n) {s:Int} (h0: -1<=s) (h1:s<n):bj a s=some (acn a s):=by
 unfold acn
 split
 ·exact wV ‹_›
 ·exact GN V (by omega) h1
theorem Pb (V:VA a n) {s:Int} (h0: -1<=s) (h1:s<n):gY a s=some (acn a s):=by
 unfold acn gY
 by_cases c:s<0
 ·rw[if_neg (by simp;omega),if_pos c]
 ·rw[if_pos (by simp;omega),if_neg c,V.acc (by omega) h1];rfl
def nxP (a b:AutT) (x:Int×Int):List (Option (Int×Int)):=(List.range 9).map fun k=>some (mvn a x.1 k,mvn b x.2 k)
def inP (n m:Nat) (x:Int×Int):Prop:=(-1<=x.1/\x.1<n)/\ -1<=x.2/\x.2<m
theorem KS {x:Int×Int} {k:Nat} (hk:k<9):nth (nxP a b x) (k:Int)=some (mvn a x.1 k,mvn b x.2 k):=by
 have:k<(nxP a b x).length:=by simp[nxP];omega
 rw[aZ this];simp[nxP]
theorem AH (n m:Nat) (l:List (Int×Int)) (hd:l.Nodup) (h: ∀x∈l,inP n m x):l.length<=(n+1)*(m+1):=by
 have:=hd.length_le_of_subset (l₂:=(List.range (n+1)).flatMap fun i:Nat=>(List.range (m+1)).map fun j:Nat=>((i:Int) - 1,(j:Int) - 1)) (fun x hx=>by
  obtain ⟨⟨h0,h1⟩,h2,h3⟩:=h x hx
  refine List.mem_flatMap.2 ⟨(x.1+1).toNat,List.mem_range.2 (by omega),List.mem_map.2 ⟨(x.2+1).toNat,List.mem_range.2 (by omega),?_⟩⟩
  exact Prod.ext (by show (((x.1+1).toNat:Nat):Int) - 1=x.1;omega) (by show (((x.2+1).toNat:Nat):Int) - 1=x.2;omega))
 have e:((List.range (n+1)).flatMap fun i:Nat=>(List.range (m+1)).map fun j:Nat=>((i:Int) - 1,(j:Int) - 1)).length=(n+1)*(m+1):=by
  rw[List.length_flatMap]
  simp only[List.length_map,List.length_range]
  rw[List.map_const',List.sum_replicate_nat,List.length_range]
 omega
theorem pE (Va:VA a n) (Vb:VA b m) (hn:n<=12) (hm:m<=12):NumOk (nxP a b) (a.1,b.1) (inP n m) 169 where
 g0:=⟨⟨by have:=Va.start.1;show -1<=a.1;omega,Va.start.2⟩,by have:=Vb.start.1;show -1<=b.1;omega,Vb.start.2⟩
 gn x hx y hy:=by
  obtain ⟨k,hk,e⟩:=List.mem_map.1 hy
  have hk:k<9:=List.mem_range.1 hk
  obtain rfl:=ae e
  exact ⟨qU Va hx.1.1 hx.1.2 hk,qU Vb hx.2.1 hx.2.2 hk⟩
 len x _:=by simp[nxP]
 bound l hd h:=by
  have h1:=AH n m l hd h
  have:(n+1)*(m+1)<=13*13:=Nat.mul_le_mul (by omega) (by omega)
  omega
end
end D
namespace D
open Go.RowKit
theorem cpw {l:List Int} (h:l.length<=1000000):fa l=some l:=by
 unfold fa
 rw[aP (by simp;omega)];rfl
section
variable {κ:Type} [DecidableEq κ]
def SeenOf (M:List (κ×Bool)) (l:List (κ)):Prop:=M.length=l.length/\ ∀x,M.lookup x=if x∈l then some true else none
theorem SeenOf.one (x:κ):SeenOf [(x,true)] [x]:=by
 refine ⟨rfl,fun y=>?_⟩
 rw[List.lookup_cons]
 by_cases e:y=x
 ·subst e;simp
 ·simp only[show (y==x)=false from by simp[e]];simp[e]
theorem SeenOf.put {M:List (κ×Bool)} {l:List (κ)} (h:SeenOf M l) {x:κ} (hx:x∉l):SeenOf ((x,true)::M) (l++ [x]):=by
 refine ⟨by simp[h.1],fun y=>?_⟩
 rw[List.lookup_cons]
 by_cases e:y=x
 ·subst e;simp
 ·simp only[show (y==x)=false from by simp[e],h.2 y,List.mem_append,List.mem_singleton,e,or_false]
end
section
variable {nx:Int×Int->List (Option (Int×Int))} {first:Int×Int} {G:Int×Int->Prop} {B:Nat} {p1:Int×Int->Int->Option (Int×Int)} {p2:Int×Int->Option Bool} {tt:Int×Int->Bool}
theorem Dw {l:List (Int×Int)} {Q:List ((Int×Int)×List Int)} {M:List Yq6 } {os:List (Option (Int×Int))} {i:Nat} {x4:(Int×Int)×List Int}
  (hi:i<=l.length) (hos:os.length=9) (hM:SeenOf M l) (hQ:Q.map (·.1)=l.drop i) (hw: ∀q∈Q,q.2.length<=i) (hx:x4.2.length<=i) (hok: ∀y,some y∈os->tM y=true) (hB: ∀k,(nbS l (os.take k)).length<=1000)
  (hp: ∀(k:Nat),k<9-> ∃y,p1 x4.1 (k:Int)=some y/\nth os (k:Int)=some y) :
  ∃Q' M',aG (bT p1 x4) aV (Q,0,M)=some (.brk (Q',9,M'))/\SeenOf M' (nbS l os)/\Q'.map (·.1)=(nbS l os).drop i/\ ∀q∈Q',q.2.length<=i+1:=by
 obtain ⟨s',e,Q',M',rfl,hM',hQ',hw'⟩:=b0 (f:=bT p1 x4) (fun k s=> ∃Q' M',s=(Q',(k:Int),M')/\SeenOf M' (nbS l (os.take k))/\Q'.map (·.1)=(nbS l (os.take k)).drop i/\ ∀q∈Q',q.2.length<=i+1) 9 (by
  rintro k s hk ⟨Q1,M1,rfl,hM1,hQ1,hw1⟩
  have hpre:=dA l (os.take k)
  have hlen:=hpre.length_le
  have hBk:=hB k
  have hB0:=hB 0
  obtain ⟨y,hy,ho⟩:=hp k hk
  have hoky:tM y=true:=hok y (ho ▸ bK (by omega) (by omega))
  have hQl:Q1.length<=1000:=by
   have:=congrArg List.length hQ1
   simp at this;omega
  unfold bT
  simp only[ic]
  rw[if_pos (by simp;omega),hy,take_one (by omega),jo];simp only[aa]
  rw[show chk (tM y=true)=some () from by unfold chk;rw[if_pos hoky]];simp only[aa,aB (show k<9223372036854775807 by omega)]
  rw[show lkM M1 y=_ from hM1.2 y,ho]
  by_cases c:y∈nbS l (os.take k)
  ·simp only[c,if_true,Option.getD_some,aa]
   refine ⟨_,rfl,Q1,M1,rfl,?_,?_,hw1⟩
   ·rw[fl c];exact hM1
   ·rw[fl c];exact hQ1
  ·have hput:xc M1 tM bOk y true=some ((y,true)::M1):=by
    unfold xc
    rw[if_pos ⟨by have:=hM1.1;omega,hoky,rfl⟩]
   have hl9:l.length<=1000:=by omega
   simp only[c,if_false,Option.getD_none,Bool.false_eq_true,hput,aa]
   rw[cpw (by omega)];simp only[aa]
   rw[aP (by simp;omega)];simp only[aa]
   rw[aP (by simp;omega)];simp only[aa]
   refine ⟨_,rfl,_,_,rfl,?_,?_,?_⟩
   ·rw[eC c];exact hM1.put c
   ·rw[eC c,aH,hQ1,List.drop_append_of_le_length (by omega)];rfl
   ·intro q hq
    rcases aC hq with h | h
    ·exact hw1 q h
    ·obtain rfl:=aj h
     simp;omega) (by
  rintro s ⟨Q1,M1,rfl,-⟩
  unfold bT
  simp) (s:=(Q,0,M)) ⟨Q,M,rfl,hM,hQ,fun q hq=>by have:=hw q hq;omega⟩ (by unfold aV;omega)
 rw[List.take_of_length_le (by omega)] at hM' hQ'
 exact ⟨Q',M',e,hM',hQ',hw'⟩
theorem Nh (H:NumOk nx first G B) (hB:B<=1000) (hok: ∀x,G x->tM x=true) (h2: ∀x,G x->p2 x=some (tt x)) (h1: ∀x (k:Nat),G x->k<9-> ∃y,p1 x (k:Int)=some y/\nth (nx x) (k:Int)=some y) :
  ∃N w,bfE nx first N/\cz first p1 p2=some (w,(bfS nx first N).any tt):=by
 obtain ⟨N,hNB,hN⟩:=yO (nx:=nx) (first:=first) (H.le)
 refine ⟨N,?_⟩
 unfold cz
 simp only[ic]
 rw[show xc ([] :List Yq6) tM bOk first true=some [(first,true)] from by unfold xc;rw[if_pos ⟨by simp,hok _ H.g0,rfl⟩]];simp only[aa]
 obtain ⟨o,e,ho⟩:=cd (f:=dK p1 p2) (fun i s=> ∃Q M,s=(Q,M)/\SeenOf M (bfS nx first i)/\Q.map (·.1)=(bfS nx first i).drop i/\(∀q∈Q,q.2.length<=i)/\((bfS nx first i).take i).any tt=false)
  (fun o=>(∃w,o= .ret (w,true)/\(bfS nx first N).any tt=true)\/ ∃s,o= .brk s/\(bfS nx first N).any tt=false) N (s:=([(first,([] :List Int))],[(first,true)])) (by
  rintro i s hi ⟨Q,M,rfl,hM,hQ,hw,ha⟩
  unfold dK
  simp only[ic]
  have hl:=congrArg List.length hQ
  simp only[List.length_map,aU] at hl
  by_cases hiN:i<N
  ·have hlt:=hN.2 i hiN
   have hle:=H.le i
   have hG:=H.at hlt
   cases Q with
   | nil=>simp at hl;omega
   | cons q Q =>
    have hq1:q.1=nth (bfS nx first i) (i:Int):=by
     have:(q.1::Q.map (·.1))=(bfS nx first i).drop i:=hQ
     rw[List.drop_eq_getElem_cons hlt] at this
     rw[aZ hlt];exact (List.cons.inj this).1
    rw[if_pos (by simp <;> omega),show a8 (q::Q) 0=some q from rfl];simp only[aa]
    rw[h2 _ (hq1 ▸ hG)];simp only[aa]
    cases ht:tt q.1 with
    | true =>
     refine .inr ⟨_,by rw[if_pos rfl,cpw (by have:=hw q (by simp);omega)];rfl,(fun s' e=>by cases e),.inl ⟨_,rfl,?_⟩⟩
     refine List.any_eq_true.2 ⟨q.1,?_,ht⟩
     exact (iz (nx:=nx) (first:=first) (by omega:i<=N)).subset (hq1 ▸ bK (by omega) (by omega))
    | false =>
     left
     refine ⟨hiN,?_⟩
     obtain ⟨Q',M',e,hM',hQ',hw'⟩:=Dw (p1:=p1) (l:=bfS nx first i) (Q:=q::Q) (M:=M) (os:=nx (nth (bfS nx first i) (i:Int))) (i:=i) (x4:=q) (by omega) (H.len _ hG) hM hQ hw (hw q (by simp)) (fun y hy=>hok y (H.gn _ hG y hy)) (fun k=>by
      have:(nbS (bfS nx first i) ((nx (nth (bfS nx first i) (i:Int))).take k)).length<=B:=H.bound _ (hZ (eh i)) fun x hx=>by
       rcases iX.1 hx with hx | hx
       ·exact c9 H.g0 H.gn i x hx
       ·exact H.gn _ hG x (List.mem_of_mem_take hx)
      omega) (fun k hk=>by rw[hq1];exact h1 _ k hG hk)
     rw[<-fS hlt] at hM' hQ'
     have hp:=bg (nx:=nx) (first:=first) i
     have hpl:=hp.length_le
     have hl':=congrArg List.length hQ'
     simp only[List.length_map,aU] at hl'
     simp only[Bool.false_eq_true,if_false]
     rw[ax e]
     simp only
     rw[show chk ((0:Int)<=1/\(1:Int)<=(Q'.length:Int))=some () from by unfold chk;rw[if_pos ⟨by omega,by omega⟩]]
     refine ⟨_,rfl,_,_,rfl,hM',?_,?_,?_⟩
     ·rw[List.map_drop,hQ',List.drop_drop]
     ·exact fun z hz=>hw' z (List.mem_of_mem_drop hz)
     ·have e:=pD (nx:=nx) (first:=first) (acc:=tt) hlt
      have f: ∀l:List (Int×Int),l.any tt=(l.map tt).any id:=fun l=>by simp[List.any_map]
      rw[f,e,List.any_append,<-f,ha,<-hq1];simp[ht]
  ·obtain rfl:i=N:=by omega
   cases Q with
   | nil =>
    refine .inr ⟨_,by rw[if_neg (by simp)],(fun s' e=>by cases e),.inr ⟨_,rfl,?_⟩⟩
    rw[List.take_of_length_le (by have:=hN.1;omega)] at ha;exact ha
   | cons q Q=>have:=hN.1;simp at hl;omega) ⟨_,_,rfl,SeenOf.one first,rfl,by simp,rfl⟩ (ju (by omega))
 rcases ho with ⟨w,rfl,h⟩ | ⟨s,rfl,h⟩
 ·exact ⟨w,hN,by rw[bm e,h]⟩
 ·exact ⟨[],hN,by rw[ax e,h]⟩
end
end D
namespace D
open Go.RowKit
abbrev EntT:=Int×Int×Bool×Int×Int
def pr (z:EntT):Int×Int:=(z.1,z.2.1)
structure Ent (l:List EntT) (L:List (Int×Int)):Prop where
 map:l.map pr=L
 flat: ∀z∈l,z.2.2.1=false
 back: ∀j:Nat,0<j->j<l.length->0<=(nth l (j:Int)).2.2.2.1/\(nth l (j:Int)).2.2.2.1<j
theorem Ent.len {l:List EntT} {L:List (Int×Int)} (h:Ent l L):l.length=L.length:=by rw[<-h.map];simp
theorem Ent.at {l:List EntT} {L:List (Int×Int)} (h:Ent l L) {i:Nat} (hi:i<l.length):(nth l (i:Int)).1=(nth L (i:Int)).1/\(nth l (i:Int)).2.1=(nth L (i:Int)).2:=by
 rw[<-h.map,F7 (by omega) (by omega)];exact ⟨rfl,rfl⟩
theorem Ent.snoc {l:List EntT} {L:List (Int×Int)} (h:Ent l L) {x y:Int} {i:Nat} (hi:i<l.length) (k:Int):Ent (l++ [(x,y,false,(i:Int),k)]) (L++ [(x,y)]) where
 map:=by rw[aH,h.map];rfl
 flat z hz:=by
  rcases aC hz with hz | hz
  ·exact h.flat z hz
  ·obtain rfl:=aj hz;rfl
 back j h0 hj:=by
  by_cases c:j<l.length
  ·rw[fj (by omega) (by omega)];exact h.back j h0 c
  ·have:j=l.length:=by simp at hj;omega
   subst this
   have:nth (l++ [(x,y,false,(i:Int),k)]) (l.length:Int)=(x,y,false,(i:Int),k):=by rw[aZ (by simp)];simp
   rw[this];exact ⟨by show (0:Int)<=(i:Int);omega,by show (i:Int)<(l.length:Int);omega⟩
theorem Jy {l:List EntT} {L:List (Int×Int)} (h:Ent l L) (hl:l.length<=1000000) (x y f k:Int):iy l (x,y,false,f,k)=some (decide ((x,y)∈L)):=by
 unfold iy
 have:=scan (f:=dL l (x,y,false,f,k)) l (fun z=> ¬pr z=(x,y)) true (by omega) (by
  intro i hi
  have hf:=h.flat _ (bK (i:=(i:Int)) (by omega) (by omega))
  unfold dL
  rw[if_pos (by simp;omega),aF (by omega) (by omega)];simp only[aa,aB (show i<9223372036854775807 by omega),hf]
  by_cases c1:(nth l (i:Int)).1=x
  ·by_cases c2:(nth l (i:Int)).2.1=y
   ·rw[if_pos (by simpa using c1),if_pos (by simpa using c2),if_pos (by rfl),if_neg (fun hc=>hc (Prod.ext c1 c2))]
   ·rw[if_pos (by simpa using c1),if_neg (by simpa using c2),if_pos (fun e=>c2 (congrArg Prod.snd e))]
  ·rw[if_neg (by simpa using c1),if_pos (fun e=>c1 (congrArg Prod.fst e))]) (by
  unfold dL
  rw[if_neg (by simp)])
 rcases this with ⟨e,hp⟩ | ⟨e,hp⟩
 ·rw[ax e,decide_eq_false]
  rintro hm
  rw[<-h.map] at hm
  obtain ⟨z,hz,e⟩:=List.mem_map.1 hm
  exact hp z hz e
 ·rw[bm e,decide_eq_true]
  by_cases c:(x,y)∈L
  ·exact c
  ·refine absurd (fun z hz e=>c ?_) hp
   rw[<-h.map,<-e];exact List.mem_map.2 ⟨z,hz,rfl⟩
theorem GO {l:List EntT} {L:List (Int×Int)} (h:Ent l L) (hl:l.length<=1000000) {i:Nat} (hi:i<l.length): ∃w,lC l (i:Int)=some w:=by
 unfold lC
 obtain ⟨o,e,s,rfl⟩:=cd (f:=kE l) (fun n s=>0<=s.1/\s.1+n<=i/\s.2.length<=n) (fun o=> ∃s,o= .brk s) i (s:=((i:Int),[])) (by
  rintro n ⟨j,w⟩ hn ⟨h0,h1,h2⟩
  simp only at h0 h1 h2
  unfold kE
  simp only
  by_cases c:j>0
  ·have hb:=h.back j.toNat (by omega) (by omega)
   rw[Int.toNat_of_nonneg h0] at hb
   left
   refine ⟨by omega,?_⟩
   rw[if_pos (by simpa using c),aF (by omega) (by omega)];simp only[aa]
   rw[aP (by simp;omega)];simp only[aa]
   refine ⟨_,rfl,hb.1,?_,?_⟩
   ·show (nth l j).2.2.2.1+((n+1:Nat):Int)<=i;omega
   ·simp;omega
  ·exact .inr ⟨_,by rw[if_neg (by simpa using c)],(fun s' e=>by cases e),_,rfl⟩) ⟨by show (0:Int)<=(i:Int);omega,by show (i:Int)+((0:Nat):Int)<=(i:Int);omega,by simp⟩ (ju (by omega))
 exact ⟨_,ax e⟩
section
variable {a b:AutT} {n m:Nat}
def rf (a b:AutT) (x:Int×Int):Bool:=acn b x.2 && !acn a x.1
theorem AI (Va:VA a n) (Vb:VA b m) (hn:n<=12) (hm:m<=12) {l:List EntT} {L:List (Int×Int)} {i:Nat} (hE:Ent l L) (hd:L.Nodup) (hG: ∀x∈L,inP n m x) (hi:i<L.length) :
  ∃l',aG (ed a b (l,(i:Int))) aV (l,0)=some (.brk (l',9))/\Ent l' (nbS L (nxP a b (nth L (i:Int)))):=by
 have hx:=hG _ (bK (i:=(i:Int)) (by omega) (by omega))
 have hos:(nxP a b (nth L (i:Int))).length=9:=by simp[nxP]
 have H:=pE Va Vb hn hm
 have hB: ∀k,(nbS L ((nxP a b (nth L (i:Int))).take k)).length<=169:=fun k=>H.bound _ (hZ hd) fun x hx'=>by
  rcases iX.1 hx' with h | h
  ·exact hG x h
  ·exact H.gn _ hx x (List.mem_of_mem_take h)
 obtain ⟨s',e,l',rfl,hE'⟩:=b0 (f:=ed a b (l,(i:Int))) (fun k s=> ∃l',s=(l',(k:Int))/\Ent l' (nbS L ((nxP a b (nth L (i:Int))).take k))) 9 (by
  rintro k s hk ⟨l1,rfl,hE1⟩
  have hpre:=dA L ((nxP a b (nth L (i:Int))).take k)
  have hlen:=hpre.length_le
  have hBk:=hB k
  have hl1:=hE1.len
  obtain ⟨g1,g2⟩:=hE1.at (i:=i) (by omega)
  rw[ez hpre (by omega) (by omega)] at g1 g2
  unfold ed
  simp only[ic]
  rw[if_pos (by simp;omega),aF (by omega) (by omega)];simp only[aa]
  rw[g1,g2,Jx Va hx.1.1 hx.1.2 hk];simp only[aa]
  rw[Jx Vb hx.2.1 hx.2.2 hk];simp only[aa]
  rw[Jy hE1 (by omega)];simp only[aa,aB (show k<9223372036854775807 by omega)]
  rw[take_one (by omega),jo,KS hk]
  by_cases c:(mvn a (nth L (i:Int)).1 k,mvn b (nth L (i:Int)).2 k)∈nbS L ((nxP a b (nth L (i:Int))).take k)
  ·rw[if_pos (by simpa using c),fl c]
   exact ⟨_,rfl,l1,rfl,hE1⟩
  ·rw[if_neg (by simpa using c),eC c,aP (by simp;omega)]
   exact ⟨_,rfl,_,rfl,hE1.snoc (by omega) _⟩) (by
  rintro s ⟨l1,rfl,-⟩
  unfold ed
  simp) (s:=(l,0)) ⟨l,rfl,hE⟩ (by unfold aV;omega)
 rw[List.take_of_length_le (by omega)] at hE'
 exact ⟨l',e,hE'⟩
theorem vj (Va:VA a n) (Vb:VA b m) (hn:n<=12) (hm:m<=12) {x:Int×Int} (hx:inP n m x):NumOk (nxP a b) x (inP n m) 169 where
 g0:=hx
 gn:=(pE Va Vb hn hm).gn
 len:=(pE Va Vb hn hm).len
 bound:=(pE Va Vb hn hm).bound
theorem Jz (Va:VA a n) (Vb:VA b m) (hn:n<=12) (hm:m<=12) {s0 t0:Int} (h0:inP n m (s0,t0)): ∃N w,bfE (nxP a b) (s0,t0) N/\dM a s0 b t0 true=some (w,(bfS (nxP a b) (s0,t0) N).any (rf a b)):=by
 have H:=vj Va Vb hn hm h0
 obtain ⟨N,hNB,hN⟩:=yO (nx:=nxP a b) (first:=(s0,t0)) (H.le)
 refine ⟨N,?_⟩
 unfold dM
 obtain ⟨o,e,ho⟩:=cd (f:=iT a b true) (fun i s=> ∃l,s=(l,(i:Int))/\Ent l (bfS (nxP a b) (s0,t0) i)/\((bfS (nxP a b) (s0,t0) i).take i).any (rf a b)=false)
  (fun o=>(∃w,o= .ret (w,true)/\(bfS (nxP a b) (s0,t0) N).any (rf a b)=true)\/ ∃s,o= .brk s/\(bfS (nxP a b) (s0,t0) N).any (rf a b)=false) N (s:=([(s0,t0,false,0,0)],0)) (by
  rintro i s hi ⟨l,rfl,hE,ha⟩
  have hl:=hE.len
  have hle:=H.le i
  unfold iT
  simp only[ic]
  by_cases hiN:i<N
  ·have hlt:=hN.2 i hiN
   have hG:=H.at hlt
   obtain ⟨g1,g2⟩:=hE.at (i:=i) (by omega)
   rw[if_pos (by simp;omega),aF (by omega) (by omega)];simp only[aa]
   rw[g1,g2,Pb Va hG.1.1 hG.1.2];simp only[aa]
   rw[Pb Vb hG.2.1 hG.2.2];simp only[aa]
   have hb: ∀r50 r49:Bool,(if r50 then (if r49 then (if r49 then (if r50 then some false else some (!true)) else some false) else some true) else (if r49 then (if r50 then some false else some (!true)) else some false):Option Bool)=some (r50 && !r49):=by decide
   rw[hb];simp only[aa]
   have hlp:(acn b (nth (bfS (nxP a b) (s0,t0) i) (i:Int)).2 && !acn a (nth (bfS (nxP a b) (s0,t0) i) (i:Int)).1)=rf a b (nth (bfS (nxP a b) (s0,t0) i) (i:Int)):=rfl
   rw[hlp]
   cases ht:rf a b (nth (bfS (nxP a b) (s0,t0) i) (i:Int)) with
   | true =>
    obtain ⟨w,hw⟩:=GO hE (by omega) (i:=i) (by omega)
    refine .inr ⟨_,by rw[if_pos rfl,hw];rfl,(fun s' e=>by cases e),.inl ⟨_,rfl,?_⟩⟩
    refine List.any_eq_true.2 ⟨_,?_,ht⟩
    exact (iz (nx:=nxP a b) (first:=(s0,t0)) (by omega:i<=N)).subset (bK (by omega) (by omega))
   | false =>
    left
    refine ⟨hiN,?_⟩
    obtain ⟨l',e,hE'⟩:=AI Va Vb hn hm hE (eh i) (c9 H.g0 H.gn i) hlt
    rw[if_neg (by simp),ax e]
    rw[<-fS hlt] at hE'
    simp only[aB (show i<9223372036854775807 by omega)]
    refine ⟨_,rfl,l',rfl,hE',?_⟩
    have e:=pD (nx:=nxP a b) (first:=(s0,t0)) (acc:=rf a b) hlt
    have f: ∀l:List (Int×Int),l.any (rf a b)=(l.map (rf a b)).any id:=fun l=>by simp[List.any_map]
    rw[f,e,List.any_append,<-f,ha];simp[ht]
  ·obtain rfl:i=N:=by omega
   have hN1:=hN.1
   refine .inr ⟨_,by rw[if_neg (by simp;omega)],(fun s' e=>by cases e),.inr ⟨_,rfl,?_⟩⟩
   rw[List.take_of_length_le (by omega)] at ha;exact ha) ⟨_,rfl,⟨rfl,by simp,by intro j h0 h1;simp at h1;omega⟩,rfl⟩ (ju (by omega))
 rcases ho with ⟨w,rfl,h⟩ | ⟨s,rfl,h⟩
 ·exact ⟨w,hN,by rw[bm e,h]⟩
 ·exact ⟨[],hN,by rw[ax e,h]⟩
theorem Ni {x:Int×Int} (hn:n<=12) (hm:m<=12) (h:inP n m x):tM x=true:=by
 obtain ⟨⟨h0,h1⟩,h2,h3⟩:=h
 have e1:IntKind.i64.min= -9223372036854775808:=by decide
 have e2:IntKind.i64.max=9223372036854775807:=by decide
 simp only[tM,Lit.wf,e1,e2,af,decide_eq_true_eq]
 omega
theorem Nj (Va:VA a n) (Vb:VA b m) (hn:n<=12) (hm:m<=12) {s0 t0:Int} (h0:inP n m (s0,t0)) {p1:Int×Int->Int->Option (Int×Int)} {p2:Int×Int->Option Bool}
  (h1: ∀x (k:Nat),inP n m x->k<9->p1 x (k:Int)=some (mvn a x.1 k,mvn b x.2 k)) (h2: ∀x,inP n m x->p2 x=some (rf a b x)) :
  ∃w w' r,dM a s0 b t0 true=some (w,r)/\cz (s0,t0) p1 p2=some (w',r):=by
 have H:=vj Va Vb hn hm h0
 obtain ⟨N,w,hN,e⟩:=Jz Va Vb hn hm h0
 obtain ⟨N',w',hN',e'⟩:=Nh (p1:=p1) (p2:=p2) (tt:=rf a b) H (by omega) (fun x hx=>Ni hn hm hx) h2 (fun x k hx hk=>⟨_,h1 x k hx hk,KS hk⟩)
 obtain rfl:=BY hN hN'
 exact ⟨w,w',_,e,e'⟩
theorem AJ (Va:VA a n) (Vb:VA b m) {x:Int×Int} {k:Nat} (hx:inP n m x) (hk:k<9):cE x (k:Int) a b=some (mvn a x.1 k,mvn b x.2 k):=by
 unfold cE
 simp only[ic]
 rw[Jw Va hx.1.1 hx.1.2 hk];simp only[aa]
 rw[Jw Vb hx.2.1 hx.2.2 hk];rfl
theorem AK (V:VA a n) (hn:n<=12) {s0 q:Int} (h0:inP n n (s0,q)): ∃w r,dM a s0 a q true=some (w,r)/\ew a s0 q=some r:=by
 obtain ⟨w,w',r,e,e'⟩:=Nj V V hn hn h0 (p1:=fun u0 u1=>cE u0 u1 a a) (p2:=fun u2=>ke u2 a) (fun x k hx hk=>AJ V V hx hk) fun x hx=>by
  unfold ke rf
  simp only[ic]
  rw[Ng V hx.2.1 hx.2.2];simp only[aa]
  first
  | (rw[Ng V hx.1.1 hx.1.2];simp only[aa];cases acn a x.2 <;> rfl)
  | (cases acn a x.2 <;> simp[Ng V hx.1.1 hx.1.2])
 refine ⟨w,r,e,?_⟩
 unfold ew
 exact (congrArg (fun z=>Option.bind z _) e').trans rfl
end
end D
namespace D
open Go.RowKit
theorem Dx {c:Prop} [Decidable c] (h:c):chk c=some ():=if_pos h
theorem Dy {α:Type} {xs:List α} {i n:Nat} {z:α} (h:i<=xs.length):(lY xs i n z).take i=xs.take i:=by
 unfold lY
 rw[List.take_append_of_le_length (by rw[aE];omega),List.take_take,Nat.min_self]
theorem GP {α:Type} {xs:List α} {i:Nat} {z:α} (h:i<=xs.length):(lY xs i xs.length z).length=xs.length:=mr h (ay _)
theorem JA {α:Type} {ys:List α} {i:Nat} {x:α} (h:i<ys.length):(ys.set i x).take (i+1)=ys.take i++ [x]:=by
 rw[List.take_succ_eq_append_getElem (by simpa using h)]
 simp[List.take_set_of_le]
theorem set_drop {α:Type} {ys:List α} {i j:Nat} {x:α} (h:i<j):(ys.set i x).drop j=ys.drop j:=by
 apply List.ext_getElem?
 intro q
 rw[List.getElem?_drop,List.getElem?_drop,List.getElem?_set_ne (by omega)]
theorem GQ {α:Type} {ys xs:List α} {j:Nat} (h:ys.drop j=xs.drop j):ys.drop (j+1)=xs.drop (j+1):=by
 rw[<-List.drop_drop,h,List.drop_drop]
theorem B8 {α:Type} {ys xs:List α} {j q:Nat} (h:ys.drop j=xs.drop j) (hq:j<=q) (h1:q<ys.length) (h2:q<xs.length):ys[q] =xs[q]:=by
 have e:=congrArg (fun l=>l[q - j]?) h
 simp only[List.getElem?_drop,show j+(q - j)=q from by omega] at e
 rw[List.getElem?_eq_getElem h1,List.getElem?_eq_getElem h2] at e
 exact ae e
section
variable {α:Type} [DecidableEq α]
def l9:List α->List α
 | [] =>[]
 | [a] =>[a]
 | a::b::l=>if a=b then l9 (b::l) else a::l9 (b::l)
theorem rH {x:α} : ∀ {l:List α},x∈l9 l↔x∈l
 | [] =>Iff.rfl
 | [a] =>Iff.rfl
 | a::b::l=>by
  rw[l9]
  split
  ·rename_i e;subst e;rw[rH];simp
  ·rw[List.mem_cons,rH,List.mem_cons (l:=b::l)]
theorem yY: ∀(l:List α) (b:α),l≠ [] ->l9 (l++ [b])=if l.getLast? =some b then l9 l else l9 l++ [b]
 | [],b,h=>absurd rfl h
 | [a],b,_=>by
  by_cases e:a=b
  ·subst e;simp[l9]
  ·simp[l9,e]
 | a::c::l,b,_=>by
  have ih:=yY (c::l) b (by simp)
  have hg:(a::c::l).getLast? =(c::l).getLast? :=by simp[List.getLast?_cons_cons]
  rw[hg]
  show l9 (a::c::(l++ [b]))=_
  rw[l9,l9]
  rw[show c::(l++ [b])=(c::l)++ [b] from rfl,ih]
  by_cases e:a=c
  ·rw[if_pos e,if_pos e]
  ·rw[if_neg e,if_neg e]
   split <;> simp
theorem tv {xs:List α} {j:Nat} (h0:0<j) (h:j<xs.length):l9 (xs.take (j+1))=if xs[j - 1] =xs[j] then l9 (xs.take j) else l9 (xs.take j)++ [xs[j]]:=by
 rw[List.take_succ_eq_append_getElem h,yY _ _ (by
  intro e
  have h9:=congrArg List.length e
  rw[aE,Nat.min_eq_left (Nat.le_of_lt h),aI] at h9
  omega)]
 have hg:(xs.take j).getLast? =some xs[j - 1]:=by
  rw[List.getLast?_eq_getElem?,aE,Nat.min_eq_left (Nat.le_of_lt h),List.getElem?_take,if_pos (show j - 1<j by omega),List.getElem?_eq_getElem (show j - 1<xs.length by omega)]
 rw[hg]
 by_cases e:xs[j - 1] =xs[j]
 ·rw[if_pos (by rw[e]),if_pos e]
 ·rw[if_neg (by simpa using e),if_neg e]
theorem yZ {xs:List α} : ∀(j:Nat),j<=xs.length->(∀q (hq:q<j) (h0:0<q) (hx:j<=xs.length),xs[q - 1]'(by omega)≠xs[q]'(by omega))->l9 (xs.take j)=xs.take j
 | 0,_,_=>by simp[l9]
 | 1,h,_=>by
  cases xs with
  | nil=>simp[l9]
  | cons a l=>simp[l9]
 | j+2,h,hq=>by
  rw[tv (by omega) (by omega),if_neg (hq (j+1) (by omega) (by omega) h),yZ (j+1) (by omega) (fun q h1 h2 h3=>hq q (by omega) h2 h),<-List.take_succ_eq_append_getElem]
end
theorem wW: ∀ {l:List Int},l.Pairwise (fun a b=>a<=b)->(l9 l).Pairwise (fun a b=>a<b)
 | [],_=>List.Pairwise.nil
 | [a],_=>by simp[l9]
 | a::b::l,h=>by
  obtain ⟨h1,h2⟩:=List.pairwise_cons.1 h
  rw[l9]
  split
  ·exact wW h2
  ·rename_i hn
   refine List.pairwise_cons.2 ⟨fun x hx=>?_,wW h2⟩
   have hab:a<b:=by have:=h1 b (List.mem_cons_self ..);omega
   rcases au (rH.1 hx) with rfl | hx
   ·exact hab
   ·have:=(List.pairwise_cons.1 h2).1 x hx
    omega
theorem y6: ∀ {l m:List Int},l.Pairwise (fun a b=>a<b)->m.Pairwise (fun a b=>a<b)->(∀x,x∈l↔x∈m)->l=m
 | [],[],_,_,_=>rfl
 | [],b::m,_,_,h=>absurd ((h b).2 (by simp)) (by simp)
 | a::l,[],_,_,h=>absurd ((h a).1 (by simp)) (by simp)
 | a::l,b::m,h1,h2,h=>by
  obtain ⟨k1,k2⟩:=List.pairwise_cons.1 h1
  obtain ⟨j1,j2⟩:=List.pairwise_cons.1 h2
  have hab:a=b:=by
   have ha:=(h a).1 (by simp)
   have hb:=(h b).2 (by simp)
   rcases au ha with e | ha
   ·exact e
   ·rcases au hb with e | hb
    ·exact e.symm
    ·have:=k1 b hb;have:=j1 a ha;omega
  subst hab
  rw[y6 k2 j2 fun x=>?_]
  have:=h x
  rw[List.mem_cons,List.mem_cons] at this
  constructor
  ·intro hx
   rcases this.1 (.inr hx) with e | e
   ·subst e;have:=k1 x hx;omega
   ·exact e
  ·intro hx
   rcases this.2 (.inr hx) with e | e
   ·subst e;have:=j1 x hx;omega
   ·exact e
end D
namespace D
open Go.RowKit
theorem pF (m:Nat):BitVec.ofInt 64 (m:Int)=BitVec.ofNat 64 m:=by simp
theorem Nk {m n:Nat} (hm:m<2 ^ 62) (hn:n<2 ^ 62):pN (m:Int) (n:Int)=((m &&& n:Nat):Int):=by
 unfold pN
 rw[pF,pF,BitVec.toNat_and,BitVec.toNat_ofNat,BitVec.toNat_ofNat,Nat.mod_eq_of_lt (by omega),Nat.mod_eq_of_lt (by omega)]
 have:m &&& n<=m:=Nat.and_le_left
 exact cP (by omega) (by omega)
theorem GR {m n:Nat} (hm:m<2 ^ 62) (hn:n<2 ^ 62):orI (m:Int) (n:Int)=((m ||| n:Nat):Int):=by
 unfold orI
 rw[pF,pF,BitVec.toNat_or,BitVec.toNat_ofNat,BitVec.toNat_ofNat,Nat.mod_eq_of_lt (by omega),Nat.mod_eq_of_lt (by omega)]
 have:m ||| n<2 ^ 62:=Nat.or_lt_two_pow hm hn
 exact cP (by omega) (by omega)
theorem Nl {m i:Nat} (hi:i<64):ma (m:Int) (i:Int)=((m >>> i:Nat):Int):=by
 unfold ma
 rw[show min (i:Int).toNat 64=i from by simp;omega,Nat.shiftRight_eq_div_pow,Int.fdiv_eq_ediv_of_nonneg _ (by exact_mod_cast Nat.zero_le _)]
 simp
theorem AL {i:Nat} (hi:i<62):xe 1 (i:Int)=((2 ^ i:Nat):Int):=by
 unfold xe
 rw[show min (i:Int).toNat 64=i from by simp;omega,Int.one_mul]
 have:2 ^ i<2 ^ 62:=Nat.pow_lt_pow_right (by decide) hi
 rw[show ((2:Int) ^ i)=((2 ^ i:Nat):Int) from by simp]
 generalize 2 ^ i=z at this
 exact cP (by omega) (by omega)
theorem GS {m i:Nat} (hm:m<2 ^ 62) (hi:i<64):((pN (ma (m:Int) (i:Int)) 1)==1)=m.testBit i:=by
 have h1:m >>> i<2 ^ 62:=Nat.lt_of_le_of_lt (by rw[Nat.shiftRight_eq_div_pow];exact Nat.div_le_self _ _) hm
 rw[Nl hi,show (1:Int)=((1:Nat):Int) from rfl,Nk h1 (by decide),Nat.testBit,Nat.and_comm]
 have e:m >>> i &&& 1=m >>> i % 2:=Nat.and_one_is_mod _
 rw[Nat.and_comm 1,e]
 rcases Nat.mod_two_eq_zero_or_one (m >>> i) with h | h <;> rw[h] <;> rfl
def eD (m k:Nat):List Int:=((List.range k).filter fun i=>m.testBit i).map fun (i:Nat)=>(i:Int)
theorem lf (m k:Nat):eD m (k+1)=if m.testBit k then eD m k++ [(k:Int)] else eD m k:=by
 unfold eD
 rw[List.range_succ,List.filter_append,aH]
 by_cases h:m.testBit k=true
 ·simp[h]
 ·simp[h]
theorem Dz {m k l:Nat} (h:m<2 ^ k) (hl:k<=l):eD m l=eD m k:=by
 induction hl with
 | refl=>rfl
 | step hl ih =>
  rw[lf,Nat.testBit_lt_two_pow (aD h (Nat.pow_le_pow_right (by decide) hl)),ih];rfl
theorem mU {m k:Nat} {x:Int} :x∈eD m k↔ ∃i:Nat,i<k/\m.testBit i=true/\x=(i:Int):=by
 unfold eD
 simp only[List.mem_map,List.mem_filter,List.mem_range]
 constructor
 ·rintro ⟨i,⟨h1,h2⟩,rfl⟩;exact ⟨i,h1,h2,rfl⟩
 ·rintro ⟨i,h1,h2,rfl⟩;exact ⟨i,⟨h1,h2⟩,rfl⟩
theorem pG (m k:Nat):(eD m k).length<=k:=by
 unfold eD;rw[List.length_map];exact Nat.le_trans (List.length_filter_le _ _) (by simp)
theorem vk {m:Nat} : ∀ {k:Nat},(∀i,i<k->m.testBit i=false)->eD m k= []
 | 0,_=>rfl
 | k+1,h=>by rw[lf,h k (by omega),vk fun i hi=>h i (by omega)];rfl
theorem GT {s k:Nat} (h:s<k):eD (2 ^ s) k= [(s:Int)]:=by
 rw[Dz (k:=s+1) (Nat.pow_lt_pow_right (by decide) (by omega)) h,lf,Nat.testBit_two_pow,vk fun i hi=>by rw[Nat.testBit_two_pow];simp;omega]
 simp
theorem nQ (m i j:Nat):(m ||| 2 ^ i).testBit j=(m.testBit j || decide (i=j)):=by
 rw[Nat.testBit_or,Nat.testBit_two_pow]
theorem y7 {m i k:Nat} (h:m<2 ^ k) (hi:i<k):m ||| 2 ^ i<2 ^ k:=Nat.or_lt_two_pow h (Nat.pow_lt_pow_right (by decide) hi)
theorem Nm {m n k:Nat} (hm:m<2 ^ k) (hn:n<2 ^ k) (h: ∀i,i<k->m.testBit i=n.testBit i):m=n:=by
 refine Nat.eq_of_testBit_eq fun i=>?_
 by_cases c:i<k
 ·exact h i c
 ·rw[Nat.testBit_lt_two_pow (aD hm (Nat.pow_le_pow_right (by decide) (by omega))),Nat.testBit_lt_two_pow (aD hn (Nat.pow_le_pow_right (by decide) (by omega)))]
end D
namespace D
open Go.RowKit
theorem QF {a b:Int} :(a==b)=decide (a=b):=by rw[Bool.eq_iff_iff];simp
theorem AM (xs:List Int) (hl:xs.length<=1073741824):bQ xs=some (l9 xs):=by
 unfold bQ
 by_cases h2:xs.length<2
 ·rw[if_pos (by simp;omega)]
  cases xs with
  | nil=>rfl
  | cons a l =>
   cases l with
   | nil=>rfl
   | cons b l=>simp only[az] at h2;omega
 rw[if_neg (by simp;omega)]
 have key:(aG (bf xs) aV 1=some (.ret (l9 xs)))\/(∃s,aG (bf xs) aV 1=some (.brk s)/\l9 xs=xs):=by
  obtain ⟨o,e,hQ⟩:=cd (f:=bf xs) (fun t s=>s=((t+1:Nat):Int)/\l9 (xs.take (t+1))=xs.take (t+1)) (fun o=>o= .ret (l9 xs)\/ ∃s,o= .brk s/\l9 xs=xs) (xs.length - 1) (fun t s ht hI=>by
   obtain ⟨rfl,hI⟩:=hI
   unfold bf
   by_cases h1:t+1<xs.length
   ·have hp:((t+1:Nat):Int) - 1=((t:Nat):Int):=by omega
    rw[qT h1,if_pos rfl,fC h1,cP (n:=((t+1:Nat):Int) - 1) (by omega) (by omega),hp,fC (show t<xs.length by omega)]
    simp only[aa,QF]
    have hn:=tv (xs:=xs) (j:=t+1) (by omega) h1
    rw[hI] at hn
    simp only[Nat.add_sub_cancel] at hn
    by_cases he:xs[t+1] =xs[t]
    ·rw[if_pos (decide_eq_true he),Dx (by omega),aa]
     rw[if_pos he.symm] at hn
     have hlt:(xs.take (t+1)).length=t+1:=by rw[aE];omega
     obtain ⟨s,e1,ys,rfl,k1,k2,k3,k4⟩:=b0 (f:=bz xs ((t+1:Nat):Int)) (fun u s=> ∃ys:List Int,s=(((l9 (xs.take (t+2+u))).length:Int),((u+1:Nat):Int),ys)/\ys.length=xs.length/\ys.take (l9 (xs.take (t+2+u))).length=l9 (xs.take (t+2+u))/\ys.drop (t+1+u)=xs.drop (t+1+u)/\(l9 (xs.take (t+2+u))).length<=t+1+u) (xs.length - (t+2)) (fun u s hu hI=>by
      obtain ⟨ys,rfl,k1,k2,k3,k4⟩:=hI
      have hj:t+2+u<xs.length:=by clear k4 k2;omega
      have hj1:t+1+u<xs.length:=by clear k4 k2;omega
      have hj2:t+2+u<ys.length:=by clear k4 k2;omega
      have hj3:t+1+u<ys.length:=by clear k4 k2;omega
      have a1:(0+((t+1:Nat):Int))+((u+1:Nat):Int)=((t+2+u:Nat):Int):=by omega
      have a2:((u+1:Nat):Int) - 1=((u:Nat):Int):=by omega
      have a3:(0+((t+1:Nat):Int))+((u:Nat):Int)=((t+1+u:Nat):Int):=by omega
      unfold bz
      dsimp only
      rw[if_pos (by simp;omega),Dx (by omega)]
      simp only[aa]
      rw[cP (n:=((u+1:Nat):Int) - 1) (by omega) (by omega),a1,a2,a3,fC (xs:=ys) hj2,fC (xs:=ys) hj3,Dx (by omega),B8 k3 (by omega) hj2 hj,B8 k3 (ay _) hj3 hj1]
      simp only[aa,QF,ic]
      have e9:t+2+u - 1=t+1+u:=by clear k4 k2;omega
      have e8:0<t+2+u:=by clear k4 k2;omega
      have hnx:=tv (xs:=xs) (j:=t+2+u) e8 hj
      simp only[e9] at hnx
      have hd:=GQ k3
      rw[show t+1+u+1=t+1+(u+1) from by omega] at hd
      rw[show t+2+(u+1)=t+2+u+1 from by omega,hnx]
      generalize l9 (xs.take (t+2+u))=K at *
      by_cases hq:xs[t+2+u] =xs[t+1+u]
      ·rw[if_neg (by simpa using hq),if_pos hq.symm]
       simp only[aa]
       rw[aB (by omega)]
       exact ⟨_,rfl,ys,rfl,k1,k2,hd,by omega⟩
      ·rw[if_pos (by simpa using hq),if_neg (fun e=>hq e.symm),fC (xs:=ys) (show K.length<ys.length by omega)]
       simp only[aa]
       rw[aB (by omega),aB (by omega)]
       refine ⟨_,rfl,ys.set K.length xs[t+2+u],?_,by simpa using k1,?_,?_,?_⟩
       ·rw[aq,List.length_singleton];rfl
       ·rw[aq,List.length_singleton,JA (by omega),k2]
       ·rw[set_drop (by omega)];exact hd
       ·rw[aq,List.length_singleton];omega) (fun s hI=>by
      obtain ⟨ys,rfl,k1,k2,k3,k4⟩:=hI
      unfold bz
      rw[if_neg (by simp;omega)]) (s:=(((t+1:Nat):Int),1,xs)) ⟨xs,by rw[Nat.add_zero,hn,hlt];rfl,rfl,by rw[Nat.add_zero,hn,hlt],rfl,by rw[Nat.add_zero,hn,hlt];omega⟩ (th _ (by omega))
     refine .inr ⟨.ret (l9 xs),?_,fun s' hh=>(by simp at hh),.inl rfl⟩
     rw[ax e1]
     have hall:xs.take (t+2+(xs.length - (t+2)))=xs:=List.take_of_length_le (by omega)
     rw[hall] at k2 k4⊢
     generalize l9 xs=K at *
     have q0:K.length<=ys.length:=by omega
     have z1:((0:Int)+((K.length:Nat):Int)).toNat=K.length:=by omega
     have z2:((0:Int)+(((ys.length:Nat):Int) - 0)).toNat=ys.length:=by omega
     simp only[z1,z2]
     have zl:=GP (z:=(0:Int)) q0
     rw[Dx (by omega),aa,Dx (by omega),aa,Dx (by rw[zl];omega),aa,Dy q0,k2,List.drop_zero]
    ·rw[if_neg (by simpa using he),aB (by omega)]
     rw[if_neg (fun e=>he e.symm),<-List.take_succ_eq_append_getElem h1] at hn
     exact .inl ⟨by omega,_,rfl,rfl,hn⟩
   ·refine .inr ⟨.brk ((t+1:Nat):Int),?_,fun s' hh=>(by simp at hh),.inr ⟨_,rfl,?_⟩⟩
    ·rw[if_neg (by simp;omega)]
    ·rw[List.take_of_length_le (by omega)] at hI;exact hI) (s:=1) ⟨rfl,yZ 1 (by omega) (fun q h1 h0=>by omega)⟩ (th _ (by omega))
  rcases hQ with rfl | ⟨s,rfl,h⟩
  ·exact .inl e
  ·exact .inr ⟨s,e,h⟩
 rcases key with e | ⟨s,e,h⟩
 ·rw[bm e]
 ·rw[ax e,h]
theorem tw (m:Nat): ∀k,(eD m k).Pairwise (fun a b=>a<b)
 | 0=>List.Pairwise.nil
 | k+1=>by
  rw[lf]
  split
  ·refine List.pairwise_append.2 ⟨tw m k,List.pairwise_singleton _ _,fun a ha b hb=>?_⟩
   obtain ⟨i,hi,_,rfl⟩:=mU.1 ha
   obtain rfl:b=(k:Int):=by simpa using hb
   omega
  ·exact tw m k
end D
namespace D
open Go.RowKit
theorem qV {p:Prop} [Decidable p] (h:p):chk p=some ():=by unfold chk;rw[if_pos h]
theorem Pc {m:Nat} (hm:m<2 ^ 30):mE (m:Int)=some (eD m 30):=by
 have hm':m<2 ^ 62:=aD hm (Nat.pow_le_pow_right (by decide) (by decide))
 unfold mE
 have:=bp (f:=iL (m:Int)) (fun i=>(eD m i,(i:Int))) 30 (fun i hi=>by
  have hl:=pG m i
  unfold iL
  simp only
  rw[if_pos (by simp;omega),qV (by omega),GS hm' (by omega),aB (by omega),lf];simp only[aa]
  by_cases b:m.testBit i=true
  ·rw[if_pos b,if_pos b,aP (by simp;omega)];rfl
  ·rw[if_neg b,if_neg b];rfl) (by unfold iL;simp) (by unfold aV;omega)
 have this:aG (iL (m:Int)) aV (([] :List Int),0)=_:=this
 rw[ax this]
theorem tx (xs:List Int) (h:xs.length<=1000000):fA xs=some (l9 (xs.mergeSort fun x y=>decide (x<=y))):=by
 unfold fA fa df R.Je
 rw[aP (by simp;omega)];simp only[aa,List.nil_append]
 rw[qV (by omega)];simp only[aa]
 rw[AM _ (by rw[List.length_mergeSort];omega)];rfl
def iY (m:Nat):List Int:=(eD m 30).map fun x=>x - 1
theorem iH {m:Nat} {x:Int} :x∈iY m↔ ∃i:Nat,i<30/\m.testBit i=true/\x=(i:Int) - 1:=by
 unfold iY
 rw[List.mem_map]
 constructor
 ·rintro ⟨y,hy,rfl⟩
  obtain ⟨i,h1,h2,rfl⟩:=mU.1 hy
  exact ⟨i,h1,h2,rfl⟩
 ·rintro ⟨i,h1,h2,rfl⟩
  exact ⟨(i:Int),mU.2 ⟨i,h1,h2,rfl⟩,rfl⟩
theorem JB (m:Nat):(iY m).Pairwise (fun a b=>a<b):=by
 unfold iY
 rw[List.pairwise_map]
 exact (tw m 30).imp fun h=>by omega
theorem pH (m:Nat):(iY m).length<=30:=by unfold iY;rw[List.length_map];exact pG m 30
theorem B9 {X:List Int} {m:Nat} (h: ∀x,x∈X↔x∈iY m):l9 (X.mergeSort fun x y=>decide (x<=y))=iY m:=by
 have hp:(X.mergeSort fun x y=>decide (x<=y)).Pairwise (fun a b=>a<=b):=by
  have:=List.pairwise_mergeSort (le:=fun (x y:Int)=>decide (x<=y)) (fun a b c h1 h2=>by
   have h1:=of_decide_eq_true h1;have h2:=of_decide_eq_true h2
   exact decide_eq_true (by omega)) (fun a b=>by
   rw[Bool.or_eq_true,decide_eq_true_eq,decide_eq_true_eq];omega) X
  exact this.imp fun h=>of_decide_eq_true h
 refine y6 (wW hp) (JB m) fun x=>?_
 rw[rH,List.mem_mergeSort];exact h x
end D
namespace D
open Go.RowKit
abbrev y8:=Int×Int×Bool
def nxI (a:AutT) (x:y8):List (Option y8):=(List.range 9).map fun k=>if mvn a x.2.1 k<0 then none else some (mvn a x.1 k,mvn a x.2.1 k,true)
def inK (n:Nat) (x:y8):Prop:=(-1<=x.1/\x.1<n)/\ -1<=x.2.1/\x.2.1<n
theorem KT {a:AutT} {x:y8} {k:Nat} (hk:k<9):nth (nxI a x) (k:Int)=if mvn a x.2.1 k<0 then none else some (mvn a x.1 k,mvn a x.2.1 k,true):=by
 have:k<(nxI a x).length:=by simp[nxI];omega
 rw[aZ this];simp[nxI]
theorem DA (n:Nat) (l:List y8) (hd:l.Nodup) (h: ∀x∈l,inK n x):l.length<=(n+1)*((n+1)*2):=by
 have:=hd.length_le_of_subset (l₂:=(List.range (n+1)).flatMap fun i:Nat=>(List.range (n+1)).flatMap fun j:Nat=>[((i:Int) - 1,(j:Int) - 1,true),((i:Int) - 1,(j:Int) - 1,false)]) (fun x hx=>by
  obtain ⟨⟨h0,h1⟩,h2,h3⟩:=h x hx
  refine List.mem_flatMap.2 ⟨(x.1+1).toNat,List.mem_range.2 (by omega),List.mem_flatMap.2 ⟨(x.2.1+1).toNat,List.mem_range.2 (by omega),?_⟩⟩
  obtain ⟨x1,x2,x3⟩:=x
  simp only at h0 h1 h2 h3⊢
  rw[show (((x1+1).toNat:Nat):Int) - 1=x1 by omega,show (((x2+1).toNat:Nat):Int) - 1=x2 by omega]
  cases x3 <;> simp)
 have e:((List.range (n+1)).flatMap fun i:Nat=>(List.range (n+1)).flatMap fun j:Nat=>[((i:Int) - 1,(j:Int) - 1,true),((i:Int) - 1,(j:Int) - 1,false)]).length=(n+1)*((n+1)*2):=by
  simp only[List.length_flatMap,az,aI,List.map_const',List.sum_replicate_nat,List.length_range]
 omega
section
variable {a:AutT} {n:Nat}
theorem wX (V:VA a n) (hn:n<=12) {first:y8} (h0:inK n first):NumOk (nxI a) first (inK n) 338 where
 g0:=h0
 gn x hx y hy:=by
  obtain ⟨k,hk,e⟩:=List.mem_map.1 hy
  have hk:k<9:=List.mem_range.1 hk
  split at e
  ·cases e
  ·obtain rfl:=ae e
   exact ⟨qU V hx.1.1 hx.1.2 hk,qU V hx.2.1 hx.2.2 hk⟩
 len x _:=by simp[nxI]
 bound l hd h:=by
  have h1:=DA n l hd h
  have:(n+1)*((n+1)*2)<=13*(13*2):=Nat.mul_le_mul (by omega) (Nat.mul_le_mul (by omega) (by omega))
  omega
end
def pk (z:EntT):y8:=(z.1,z.2.1,z.2.2.1)
theorem JC {l:List EntT} (hl:l.length<=1000000) (x y:Int) (b:Bool) (f k:Int):iy l (x,y,b,f,k)=some (decide ((x,y,b)∈l.map pk)):=by
 unfold iy
 have:=scan (f:=dL l (x,y,b,f,k)) l (fun z=> ¬pk z=(x,y,b)) true (by omega) (by
  intro i hi
  unfold dL
  rw[if_pos (by simp;omega),aF (by omega) (by omega)];simp only[aa,aB (show i<9223372036854775807 by omega)]
  by_cases c1:(nth l (i:Int)).1=x
  ·by_cases c2:(nth l (i:Int)).2.1=y
   ·by_cases c3:(nth l (i:Int)).2.2.1=b
    ·rw[if_pos (by simpa using c1),if_pos (by simpa using c2),if_pos (by simpa using c3),if_neg (fun hc=>hc (by unfold pk;rw[c1,c2,c3]))]
    ·rw[if_pos (by simpa using c1),if_pos (by simpa using c2),if_neg (by simpa using c3),if_pos (fun e=>c3 (congrArg (fun z=>z.2.2) e))]
   ·rw[if_pos (by simpa using c1),if_neg (by simpa using c2),if_pos (fun e=>c2 (congrArg (fun z=>z.2.1) e))]
  ·rw[if_neg (by simpa using c1),if_pos (fun e=>c1 (congrArg Prod.fst e))]) (by
  unfold dL
  rw[if_neg (by simp)])
 rcases this with ⟨e,hp⟩ | ⟨e,hp⟩
 ·rw[ax e,decide_eq_false]
  rintro hm
  obtain ⟨z,hz,e⟩:=List.mem_map.1 hm
  exact hp z hz e
 ·rw[bm e,decide_eq_true]
  by_cases c:(x,y,b)∈l.map pk
  ·exact c
  ·refine absurd (fun z hz e=>c ?_) hp
   rw[<-e];exact List.mem_map.2 ⟨z,hz,rfl⟩
def vm (n:Nat) (q:Int) (L:List y8) (m:Nat):Prop:=m<2 ^ (n+1)/\ ∀j:Nat,m.testBit j=true↔ ∃x∈L,x.2.2=true/\x.2.1=q/\x.1=(j:Int) - 1
section
variable {a:AutT} {n:Nat} {p q:Int}
theorem JD (V:VA a n) (hn:n<=12) {l l0:List EntT} {L:List y8} {m:Nat} {m0:Int} {i:Nat} (hE:l.map pk=L) (hd:L.Nodup) (hG: ∀x∈L,inK n x) (hi:i<L.length) (hM:vm n q L m) :
  ∃l' m',aG (dV a q (l0,m0,(i:Int))) aV (l,(m:Int),0)=some (.brk (l',((m':Nat):Int),9))/\l'.map pk=nbS L (nxI a (nth L (i:Int)))/\vm n q (nbS L (nxI a (nth L (i:Int)))) m':=by
 have hx:=hG _ (bK (i:=(i:Int)) (by omega) (by omega))
 have hos:(nxI a (nth L (i:Int))).length=9:=by simp[nxI]
 have H:=wX V hn hx
 have hB: ∀k,(nbS L ((nxI a (nth L (i:Int))).take k)).length<=338:=fun k=>H.bound _ (hZ hd) fun x hx'=>by
  rcases iX.1 hx' with h | h
  ·exact hG x h
  ·exact H.gn _ hx x (List.mem_of_mem_take h)
 obtain ⟨s',e,l',m',rfl,hE',hM'⟩:=b0 (f:=dV a q (l0,m0,(i:Int))) (fun k s=> ∃l' m',s=(l',((m':Nat):Int),(k:Int))/\l'.map pk=nbS L ((nxI a (nth L (i:Int))).take k)/\vm n q (nbS L ((nxI a (nth L (i:Int))).take k)) m') 9 (by
  rintro k s hk ⟨l1,m1,rfl,hE1,hM1⟩
  have hpre:=dA L ((nxI a (nth L (i:Int))).take k)
  have hlen:=hpre.length_le
  have hBk:=hB k
  have hl1:l1.length=(nbS L ((nxI a (nth L (i:Int))).take k)).length:=by rw[<-hE1];simp
  have g:pk (nth l1 (i:Int))=nth L (i:Int):=by
   rw[<-ez hpre (by omega) (by omega),<-hE1,F7 (by omega) (by omega)]
  have g1:(nth l1 (i:Int)).1=(nth L (i:Int)).1:=congrArg Prod.fst g
  have g2:(nth l1 (i:Int)).2.1=(nth L (i:Int)).2.1:=congrArg (fun z=>z.2.1) g
  have r1:=qU V hx.1.1 hx.1.2 hk
  have r2:=qU V hx.2.1 hx.2.2 hk
  unfold dV
  simp only[ic]
  rw[if_pos (by simp;omega),aF (by omega) (by omega)];simp only[aa]
  rw[g1,g2,Jx V hx.1.1 hx.1.2 hk];simp only[aa]
  rw[Jx V hx.2.1 hx.2.2 hk];simp only[aa,aB (show k<9223372036854775807 by omega)]
  rw[take_one (by omega),jo,KT hk]
  generalize mvn a (nth L (i:Int)).1 k=u at *
  generalize mvn a (nth L (i:Int)).2.1 k=v at *
  generalize nbS L ((nxI a (nth L (i:Int))).take k)=L1 at *
  by_cases c:v<0
  ·rw[if_pos (by simpa using c),if_pos c]
   exact ⟨_,rfl,l1,m1,rfl,hE1,hM1⟩
  ·rw[if_neg (by simpa using c),if_neg c]
   obtain ⟨t,rfl⟩: ∃t:Nat,u=(t:Int) - 1:=⟨(u+1).toNat,by omega⟩
   have hm62:m1<2 ^ 62:=aD hM1.1 (Nat.pow_le_pow_right (by decide) (by omega))
   have hor:vm n q (nbL L1 (some ((t:Int) - 1,v,true))) (if v=q then m1 ||| 2 ^ t else m1):=by
    split
    ·rename_i hv
     refine ⟨y7 hM1.1 (by omega),fun j=>?_⟩
     rw[nQ,Bool.or_eq_true,hM1.2 j,decide_eq_true_eq]
     constructor
     ·rintro (⟨x,h1,h2⟩ | rfl)
      ·exact ⟨x,oy.2 (.inl h1),h2⟩
      ·exact ⟨_,oy.2 (.inr rfl),rfl,hv,rfl⟩
     ·rintro ⟨x,h1,h2,h3,h4⟩
      rcases oy.1 h1 with h1 | h1
      ·exact .inl ⟨x,h1,h2,h3,h4⟩
      ·obtain rfl:=ae h1
       exact .inr (by simp only at h4;omega)
    ·rename_i hv
     refine ⟨hM1.1,fun j=>?_⟩
     rw[hM1.2 j]
     constructor
     ·rintro ⟨x,h1,h2⟩
      exact ⟨x,oy.2 (.inl h1),h2⟩
     ·rintro ⟨x,h1,h2,h3,h4⟩
      rcases oy.1 h1 with h1 | h1
      ·exact ⟨x,h1,h2,h3,h4⟩
      ·obtain rfl:=ae h1
       exact absurd h3 hv
   have hmask:(if v==q then ((chk (0<=IntKind.i64.wrap ((t:Int) - 1+1))).bind fun _=>some (orI (m1:Int) (xe 1 (IntKind.i64.wrap ((t:Int) - 1+1))))) else (some (m1:Int)):Option Int)=some (((if v=q then m1 ||| 2 ^ t else m1:Nat):Nat):Int):=by
    by_cases hv:v=q
    ·rw[if_pos (by simpa using hv),if_pos hv,show (t:Int) - 1+1=(t:Int) by omega,rB (by omega),qV (by omega),AL (by omega)];simp only[aa]
     rw[GR hm62 (Nat.pow_lt_pow_right (by decide) (by omega))]
    ·rw[if_neg (by simpa using hv),if_neg hv]
   rw[hmask];simp only[aa]
   rw[JC (by omega),hE1];simp only[aa]
   by_cases d:((t:Int) - 1,v,true)∈L1
   ·rw[if_pos (by simpa using d)]
    rw[fl d] at hor⊢
    exact ⟨_,rfl,l1,_,rfl,hE1,hor⟩
   ·rw[if_neg (by simpa using d),aP (by simp;omega)]
    rw[eC d] at hor⊢
    exact ⟨_,rfl,_,_,rfl,by rw[aH,hE1];rfl,hor⟩) (by
  rintro s ⟨l1,m1,rfl,-⟩
  unfold dV
  simp) (s:=(l,(m:Int),0)) ⟨l,m,rfl,hE,hM⟩ (by unfold aV;omega)
 rw[List.take_of_length_le (by omega)] at hE' hM'
 exact ⟨l',m',e,hE',hM'⟩
theorem JE (V:VA a n) (hn:n<=12) (hp: -1<=p/\p<n) (hq:0<=q/\q<n): ∃N m,bfE (nxI a) (p,q,false) N/\c8 a p q=some (iY m)/\vm n q (bfS (nxI a) (p,q,false) N) m:=by
 have h0:inK n (p,q,false):=⟨hp,by show -1<=q;omega,hq.2⟩
 have H:=wX V hn h0
 obtain ⟨N,hNB,hN⟩:=yO (nx:=nxI a) (first:=(p,q,false)) (H.le)
 refine ⟨N,?_⟩
 unfold c8
 obtain ⟨s',e,l,m,rfl,hE,hM⟩:=b0 (f:=fZ a q) (fun i s=> ∃l m,s=(l,((m:Nat):Int),(i:Int))/\l.map pk=bfS (nxI a) (p,q,false) i/\vm n q (bfS (nxI a) (p,q,false) i) m) N (by
  rintro i s hi ⟨l,m,rfl,hE,hM⟩
  have hlt:=hN.2 i hi
  have hle:=H.le i
  have hl:l.length=(bfS (nxI a) (p,q,false) i).length:=by rw[<-hE];simp
  obtain ⟨l',m',e,hE',hM'⟩:=JD (l0:=l) (m0:=(m:Int)) V hn hE (eh i) (c9 H.g0 H.gn i) hlt hM
  rw[<-fS hlt] at hE' hM'
  unfold fZ
  simp only
  rw[if_pos (by simp;omega),ax e]
  simp only[aB (show i<9223372036854775807 by omega)]
  exact ⟨_,rfl,l',m',rfl,hE',hM'⟩) (by
  rintro s ⟨l,m,rfl,hE,hM⟩
  have hl:l.length=(bfS (nxI a) (p,q,false) N).length:=by rw[<-hE];simp
  have hN1:=hN.1
  unfold fZ
  simp only
  rw[if_neg (by simp;omega)]) (s:=([(p,q,false,0,0)],0,0)) ⟨_,0,rfl,rfl,by exact Nat.two_pow_pos _,fun j=>by
   rw[Nat.zero_testBit]
   constructor
   ·intro h;cases h
   ·rintro ⟨x,h1,h2,-⟩
    obtain rfl:=aj (show x ∈ [(p,q,false)] from h1)
    cases h2⟩ (ju (by omega))
 refine ⟨m,hN,?_,hM⟩
 rw[ax e]
 simp only
 rw[Pc (aD hM.1 (Nat.pow_le_pow_right (by decide) (by omega)))];simp only[aa]
 have hlen:=pG m 30
 have hrng: ∀x∈eD m 30,0<=x/\x<30:=fun x hx=>by
  obtain ⟨i,h1,-,rfl⟩:=mU.1 hx
  omega
 obtain ⟨s',e,l2,rfl,h2⟩:=b0 (f:=dW) (fun i s=> ∃l2,s=(l2,(i:Int))/\l2=((eD m 30).take i).map (fun x=>x - 1)++(eD m 30).drop i) (eD m 30).length (by
  rintro i s hi ⟨l2,rfl,h2⟩
  have hl2:l2.length=(eD m 30).length:=by rw[h2];simp;omega
  have hat:nth l2 (i:Int)=nth (eD m 30) (i:Int):=by
   rw[aZ (by omega),aZ hi]
   simp only[h2]
   rw[List.getElem_append_right (by simp;omega)]
   simp[aE,Nat.min_eq_left (Nat.le_of_lt hi)]
  have hr:=hrng _ (bK (xs:=eD m 30) (i:=(i:Int)) (by omega) (by omega))
  unfold dW
  simp only
  rw[if_pos (by simp;omega),aF (by omega) (by omega)];simp only[aa,aB (show i<9223372036854775807 by omega)]
  rw[hat,cP (by omega) (by omega)]
  refine ⟨_,rfl,_,rfl,?_⟩
  rw[h2,take_one hi,aH,show ((i:Int)).toNat=i by omega,List.set_append_right _ _ (by simp;omega)]
  simp[aE,Nat.min_eq_left (Nat.le_of_lt hi)]
  rw[List.drop_eq_getElem_cons hi];rfl) (by
  rintro s ⟨l2,rfl,h2⟩
  have hl2:l2.length=(eD m 30).length:=by rw[h2];simp
  unfold dW
  simp only
  rw[if_neg (by simp;omega)]) (s:=(eD m 30,0)) ⟨_,rfl,by simp⟩ (ju (by omega))
 have e':aG dW aV (eD m 30,0)=_:=e
 rw[ax e',h2]
 simp[iY]
end
def p2 (z:y8):Int×Int:=(z.1,z.2.1)
def SeenK (M:List Yq6) (L:List y8):Prop:=M.length<=L.length/\ ∀x:Int×Int,lkM M x=if (x.1,x.2,true)∈L then some true else none
theorem Nn {κ:Type} [DecidableEq κ] (M:List (κ×Bool)) (x y:κ):lkM ((x,true)::M) y=if y=x then some true else lkM M y:=by
 unfold lkM
 rw[List.lookup_cons]
 by_cases e:y=x
 ·subst e;simp
 ·simp only[show (y==x)=false from by simp[e],e,if_false]
theorem SeenK.put {M:List Yq6 } {L:List y8} (h:SeenK M L) {u v:Int} (hx:(u,v,true)∉L):SeenK (((u,v),true)::M) (L++ [(u,v,true)]):=by
 refine ⟨by have:=h.1;simp;omega,fun y=>?_⟩
 rw[Nn,h.2 y]
 by_cases e:y=(u,v)
 ·subst e;simp
 ·have e': ¬(y.1,y.2,true)=(u,v,true):=fun h=>e (Prod.ext (congrArg (fun z:y8=>z.1) h) (congrArg (fun z:y8=>z.2.1) h))
  rw[if_neg e]
  simp only[List.mem_append,List.mem_singleton,e',or_false]
def JF (q:Int) (out:List Int) (L:List y8):Prop:=out.length<=L.length/\ ∀x,x∈out↔ ∃y∈L,y.2.2=true/\y.2.1=q/\y.1=x
section
variable {a:AutT} {n:Nat} {p q:Int}
theorem Ca (hn:n<=12) {u v:Int} (hu: -1<=u/\u<n) (hv: -1<=v/\v<n):tM (u,v)=true:=by
 have e1:IntKind.i64.min= -9223372036854775808:=by decide
 have e2:IntKind.i64.max=9223372036854775807:=by decide
 simp only[tM,Lit.wf,e1,e2,af,decide_eq_true_eq]
 omega
theorem JG (V:VA a n) (hn:n<=12) {out:List Int} {Q:List (Int×Int)} {M:List Yq6 } {L:List y8} {i:Nat} (hQ:Q=(L.drop i).map p2) (hd:L.Nodup) (hG: ∀x∈L,inK n x) (hi:i<L.length) (hM:SeenK M L) (hO:JF q out L) :
  ∃out' Q' M',aG (gV a q) aV (out,Q,0,M)=some (.brk (out',Q',9,M'))/\Q'=((nbS L (nxI a (nth L (i:Int)))).drop i).map p2/\SeenK M' (nbS L (nxI a (nth L (i:Int))))/\JF q out' (nbS L (nxI a (nth L (i:Int)))):=by
 have hx:=hG _ (bK (i:=(i:Int)) (by omega) (by omega))
 have hos:(nxI a (nth L (i:Int))).length=9:=by simp[nxI]
 have H:=wX V hn hx
 have hB: ∀k,(nbS L ((nxI a (nth L (i:Int))).take k)).length<=338:=fun k=>H.bound _ (hZ hd) fun x hx'=>by
  rcases iX.1 hx' with h | h
  ·exact hG x h
  ·exact H.gn _ hx x (List.mem_of_mem_take h)
 obtain ⟨s',e,out',Q',M',rfl,hQ',hM',hO'⟩:=b0 (f:=gV a q) (fun k s=> ∃out' Q' M',s=(out',Q',(k:Int),M')/\Q'=((nbS L ((nxI a (nth L (i:Int))).take k)).drop i).map p2/\SeenK M' (nbS L ((nxI a (nth L (i:Int))).take k))/\JF q out' (nbS L ((nxI a (nth L (i:Int))).take k))) 9 (by
  rintro k s hk ⟨o1,Q1,M1,rfl,hQ1,hM1,hO1⟩
  have hpre:=dA L ((nxI a (nth L (i:Int))).take k)
  have hlen:=hpre.length_le
  have hBk:=hB k
  have hg:a8 Q1 0=some (p2 (nth L (i:Int))):=by
   have hlt:i<(nbS L ((nxI a (nth L (i:Int))).take k)).length:=by omega
   have h0:nth (nbS L ((nxI a (nth L (i:Int))).take k)) (i:Int)=nth L (i:Int):=ez hpre (by omega) (by omega)
   rw[aZ (xs:=nbS L ((nxI a (nth L (i:Int))).take k)) hlt] at h0
   rw[hQ1,List.drop_eq_getElem_cons hlt]
   exact congrArg (fun z=>some (p2 z)) h0
  have hQl:Q1.length<=338:=by rw[hQ1];simp;omega
  have hol:=hO1.1
  have hMl:=hM1.1
  have r1:=qU V hx.1.1 hx.1.2 hk
  have r2:=qU V hx.2.1 hx.2.2 hk
  have htg:cE ((nth L (i:Int)).1,(nth L (i:Int)).2.1) (k:Int) a a=some (mvn a (nth L (i:Int)).1 k,mvn a (nth L (i:Int)).2.1 k):=by
   unfold cE
   simp only[ic]
   rw[Jw V hx.1.1 hx.1.2 hk];simp only[aa]
   rw[Jw V hx.2.1 hx.2.2 hk];rfl
  unfold gV
  simp only[ic]
  rw[if_pos (by simp;omega),hg];simp only[aa,p2]
  rw[htg];simp only[aa,aB (show k<9223372036854775807 by omega)]
  rw[take_one (by omega),jo,KT hk]
  generalize mvn a (nth L (i:Int)).1 k=u at *
  generalize mvn a (nth L (i:Int)).2.1 k=v at *
  generalize nbS L ((nxI a (nth L (i:Int))).take k)=L1 at *
  by_cases c:v<0
  ·rw[if_pos (by simpa using c),if_pos c]
   exact ⟨_,rfl,o1,Q1,M1,rfl,hQ1,hM1,hO1⟩
  ·rw[if_neg (by simpa using c),if_neg c,show chk (tM (u,v)=true)=some () from by unfold chk;rw[if_pos (Ca hn r1 r2)]];simp only[aa]
   rw[hM1.2 (u,v)]
   by_cases d:(u,v,true)∈L1
   ·rw[if_pos d];simp only[Option.getD_some,if_true,aa]
    rw[fl d]
    exact ⟨_,rfl,o1,Q1,M1,rfl,hQ1,hM1,hO1⟩
   ·rw[if_neg d];simp only[Option.getD_none,Bool.false_eq_true,if_false]
    rw[show xc M1 tM bOk (u,v) true=some (((u,v),true)::M1) from by unfold xc;rw[if_pos ⟨by omega,Ca hn r1 r2,rfl⟩]];simp only[aa]
    rw[aP (by simp;omega)];simp only[aa]
    rw[eC d]
    have hQn:Q1++ [(u,v)] =((L1++ [(u,v,true)]).drop i).map p2:=by
     rw[hQ1,List.drop_append_of_le_length (by omega),aH];rfl
    by_cases hv:v=q
    ·rw[if_pos (by simpa using hv),aP (by simp;omega)]
     refine ⟨_,rfl,_,_,_,rfl,hQn,hM1.put d,by simp;omega,fun x=>?_⟩
     rw[List.mem_append,hO1.2 x,List.mem_singleton]
     constructor
     ·rintro (⟨y,h1,h2⟩ | rfl)
      ·exact ⟨y,List.mem_append.2 (.inl h1),h2⟩
      ·exact ⟨_,List.mem_append.2 (.inr (List.mem_singleton.2 rfl)),rfl,hv,rfl⟩
     ·rintro ⟨y,h1,h2,h3,h4⟩
      rcases aC h1 with h1 | h1
      ·exact .inl ⟨y,h1,h2,h3,h4⟩
      ·obtain rfl:=aj h1
       exact .inr h4.symm
    ·rw[if_neg (by simpa using hv)]
     refine ⟨_,rfl,_,_,_,rfl,hQn,hM1.put d,by simp;omega,fun x=>?_⟩
     rw[hO1.2 x]
     constructor
     ·rintro ⟨y,h1,h2⟩
      exact ⟨y,List.mem_append.2 (.inl h1),h2⟩
     ·rintro ⟨y,h1,h2,h3,h4⟩
      rcases aC h1 with h1 | h1
      ·exact ⟨y,h1,h2,h3,h4⟩
      ·obtain rfl:=aj h1
       exact absurd h3 hv) (by
  rintro s ⟨o1,Q1,M1,rfl,-⟩
  unfold gV
  simp) (s:=(out,Q,0,M)) ⟨out,Q,M,rfl,hQ,hM,hO⟩ (by unfold aV;omega)
 rw[List.take_of_length_le (by omega)] at hQ' hM' hO'
 exact ⟨out',Q',M',e,hQ',hM',hO'⟩
theorem AN (V:VA a n) (hn:n<=12) (hp: -1<=p/\p<n) (hq:0<=q/\q<n): ∃m:Nat,m<2 ^ (n+1)/\c8 a p q=some (iY m)/\ix a p q=some (iY m):=by
 obtain ⟨N,m,hN,es,hm⟩:=JE V hn hp hq
 refine ⟨m,hm.1,es,?_⟩
 have h0:inK n (p,q,false):=⟨hp,by show -1<=q;omega,hq.2⟩
 have H:=wX V hn h0
 unfold ix
 obtain ⟨s',e,out,Q,M,rfl,hQ,hM,hO⟩:=b0 (f:=jh a q) (fun i s=> ∃out Q M,s=(out,Q,M)/\Q=((bfS (nxI a) (p,q,false) i).drop i).map p2/\SeenK M (bfS (nxI a) (p,q,false) i)/\JF q out (bfS (nxI a) (p,q,false) i)) N (by
  rintro i s hi ⟨out,Q,M,rfl,hQ,hM,hO⟩
  have hlt:=hN.2 i hi
  have hle:=H.le (i+1)
  obtain ⟨out',Q',M',e,hQ',hM',hO'⟩:=JG V hn hQ (eh i) (c9 H.g0 H.gn i) hlt hM hO
  rw[<-fS hlt] at hQ' hM' hO'
  have hpl:=(bg (nx:=nxI a) (first:=(p,q,false)) i).length_le
  have hl':Q'.length=(bfS (nxI a) (p,q,false) (i+1)).length - i:=by rw[hQ'];simp
  have hl:Q.length=(bfS (nxI a) (p,q,false) i).length - i:=by rw[hQ];simp
  unfold jh
  simp only
  rw[if_pos (by simp;omega),ax e]
  simp only
  rw[show chk ((0:Int)<=1/\(1:Int)<=(Q'.length:Int))=some () from by unfold chk;rw[if_pos ⟨by omega,by omega⟩]]
  refine ⟨_,rfl,_,_,_,rfl,?_,hM',hO'⟩
  rw[hQ',<-List.map_drop,List.drop_drop]) (by
  rintro s ⟨out,Q,M,rfl,hQ,-⟩
  have hl:Q.length=0:=by rw[hQ];simp;have:=hN.1;omega
  unfold jh
  simp only
  rw[if_neg (by rw[hl];simp)]) (s:=([],[(p,q)],[])) ⟨_,_,_,rfl,rfl,⟨by simp,fun x=>by
   rw[if_neg (by
    intro h
    have:=aj (show (x.1,x.2,true) ∈ [(p,q,false)] from h)
    cases congrArg (fun z:y8=>z.2.2) this)]
   rfl⟩,by simp,fun x=>by
   constructor
   ·intro h;cases h
   ·rintro ⟨y,h1,h2,-⟩
    obtain rfl:=aj (show y ∈ [(p,q,false)] from h1)
    cases h2⟩ (ju (by have:=H.le N;have:=hN.1;omega))
 rw[ax e]
 simp only
 have hlo:=hO.1
 have hNle:=H.le N
 rw[tx _ (by omega),B9 (m:=m) fun x=>?_];rfl
 rw[hO.2 x,iH]
 constructor
 ·rintro ⟨y,h1,h2,h3,rfl⟩
  have hy:=c9 H.g0 H.gn N y h1
  have hy1:=hy.1
  exact ⟨(y.1+1).toNat,by omega,(hm.2 _).2 ⟨y,h1,h2,h3,by omega⟩,by omega⟩
 ·rintro ⟨i,h1,h2,rfl⟩
  obtain ⟨y,h3,h4,h5,h6⟩:=(hm.2 i).1 h2
  exact ⟨y,h3,h4,h5,h6⟩
end
end D
end Go.Proofs.YtobhhnobjflbnaaGreat
