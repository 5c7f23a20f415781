/- FnExactEngineRegister: for every input the law returns true and changes nothing that was there. Part 9 of 9. -/
import Derived.Test.YtcobhgbgllfniaaGreatDoorEC7
import Derived.Test.YtcobhgbgllfniaaGreatDoorEKEngineRegister
set_option linter.unusedVariables false
set_option linter.unusedSimpArgs false
set_option linter.unnecessarySimpa false
set_option linter.unusedSectionVars false
set_option maxRecDepth 1000000
namespace Go.Proofs.YtcobhgbgllfniaaGreatDoor
namespace D
open Go.RowKit
def Ps (out:List Bool) (t:Int):Bool:=decide (t≥0)&&nth out t
def hit (out:List Bool) (row:List Int):Bool:=row.any (Ps out)
def yD (a:AutT) (out:List Bool) (s:Nat):List Bool:=if hit out (nth a.2.2 s) then out.set s true else out
def j9 (a:AutT) (out:List Bool):Nat->List Bool
 | 0=>out
 | s+1=>yD a (j9 a out s) s
def cnt (out:List Bool):Nat:=out.count true
theorem XW (out:List Bool):cnt out<=out.length:=List.count_le_length
theorem Kr {out:List Bool} {s:Nat} (h:s<out.length) (k:out[s] =true):out.set s true=out:=by
 refine List.ext_getElem (by simp) fun i h1 h2=>?_
 rw[List.getElem_set]
 split
 ·rename_i e;subst e;exact k.symm
 ·rfl
theorem Wb {out:List Bool} {s:Nat} (h:s<out.length) (k:out[s] =false):cnt (out.set s true)=cnt out+1:=by
 unfold cnt
 rw[List.count_set h];simp[k]
section
variable {a:AutT} {n:Nat}
theorem EM (a:AutT) (out:List Bool) (s:Nat):(yD a out s).length=out.length:=by unfold yD;split <;> simp
theorem kT (a:AutT) (out:List Bool): ∀s,(j9 a out s).length=out.length
 | 0=>rfl
 | s+1=>by rw[j9,EM,kT a out s]
theorem yE {out:List Bool} {s:Nat} (h:s<out.length):(yD a out s=out/\ ¬(hit out (nth a.2.2 s)=true/\nth out s=false))\/(cnt (yD a out s)=cnt out+1/\hit out (nth a.2.2 s)=true/\nth out s=false):=by
 unfold yD
 rw[bX h]
 cases hh:hit out (nth a.2.2 s) with
 | false=>exact .inl ⟨by simp,by simp⟩
 | true =>
  cases hk:out[s] with
  | true=>exact .inl ⟨by simp[Kr h hk],by simp⟩
  | false=>exact .inr ⟨by simp[Wb h hk],rfl,rfl⟩
theorem xF {out:List Bool} : ∀s,s<=out.length->(j9 a out s=out/\cnt (j9 a out s)=cnt out)\/cnt out<cnt (j9 a out s)
 | 0,_=>.inl ⟨rfl,rfl⟩
 | s+1,hs=>by
  have hl:s<(j9 a out s).length:=by rw[kT];omega
  have ih:=xF (out:=out) s (by omega)
  rw[j9]
  rcases yE (a:=a) hl with ⟨e,-⟩ | ⟨e,-,-⟩
  ·rw[e];exact ih
  ·rcases ih with ⟨-,h2⟩ | h
   ·exact .inr (by omega)
   ·exact .inr (by omega)
def it (a:AutT):Nat->List Bool
 | 0=>a.2.1
 | j+1=>j9 a (it a j) a.2.1.length
theorem pW (a:AutT): ∀j,(it a j).length=a.2.1.length
 | 0=>rfl
 | j+1=>by rw[it,kT,pW a j]
theorem TN (a:AutT) (j:Nat):cnt (it a j)<=a.2.1.length:=by rw[<-pW a j];exact XW _
theorem IZ (a:AutT) (j:Nat):(it a (j+1)=it a j)\/cnt (it a j)<cnt (it a (j+1)):=by
 rcases xF (a:=a) (out:=it a j) a.2.1.length (by rw[pW];exact aC _) with h | h
 ·exact .inl h.1
 ·exact .inr h
theorem TO {j k:Nat} (h:it a (j+1)=it a j) (hk:j<=k):it a k=it a j:=by
 induction hk with
 | refl=>rfl
 | step _ ih=>rw[it,ih];exact h
theorem Pt {j k:Nat} (h:it a (j+1)=it a j) (h':it a (k+1)=it a k):it a j=it a k:=by
 rcases Nat.le_total j k with e | e
 ·exact (TO h e).symm
 ·exact TO h' e
theorem Wc (a : AutT) : it a (a.2.1.length + 1) = it a a.2.1.length := by
  have key : ∀ j, it a (j + 1) = it a j \/ j + 1 <= cnt (it a (j + 1)) := by
    intro j
    induction j with
    | zero => rcases IZ a 0 with h | h
              · exact .inl h
              · exact .inr (by omega)
    | succ j ih =>
      rcases IZ a (j + 1) with h | h
      · exact .inl h
      · rcases ih with h' | h'
        · left; rw [it, h']; exact h'
        · exact .inr (by omega)
  rcases key a.2.1.length with h | h
  · exact h
  · have := TN a (a.2.1.length + 1); omega
def live (a:AutT):List Bool:=it a a.2.1.length
theorem uT (a:AutT):(live a).length=a.2.1.length:=pW a _
theorem Ks {α:Type} [Inhabited α] {row:List α} {p:α->Bool} {k:Nat} (h:k<row.length):(row.take (k+1)).any p=((row.take k).any p || p (nth row (k:Int))):=by
 rw[List.take_succ_eq_append_getElem h,List.any_append,bX h];simp
section
variable (V:VA a n) (hn:n<=1000000)
include V hn
theorem Pu {out:List Bool} {s:Nat} (hs:s<n) (hl:out.length=n):az (jd a (out,(s:Int))) aW (out,0)=some (.brk (yD a out s,9)):=by
 have hr:=V.rowAt (s:=s) (by omega) (by omega)
 have hls:s<out.length:=by omega
 have:=bh (f:=jd a (out,(s:Int))) (fun k=>(if ((nth a.2.2 (s:Int)).take k).any (Ps out) then out.set s true else out,(k:Int))) 9 (fun k hk=>by
  unfold jd
  simp only
  rw[if_pos (by simp;omega),V.get (by omega) (by omega)];simp only[aa]
  rw[V.get2 (by omega) (by omega) hk];simp only[aa]
  rw[Ks (by omega),show nth (nth a.2.2 (s:Int)) (k:Int)=mv a s k from rfl]
  simp only[af (show k<9223372036854775807 by omega)]
  by_cases c:mv a s k≥0
  ·have hset:(out.set s true).length=n:=by simp[hl]
   have hm:=(V.mv (s:=s) (k:=k) (by omega) (by omega) hk).2
   rw[if_pos (by simpa using c)]
   by_cases q:((nth a.2.2 (s:Int)).take k).any (Ps out)=true
   ·simp only[q,if_true,Bool.true_or]
    rw[aG c (by rw[hset];exact hm),aG (by omega) (by rw[hset];omega)];simp only[aa,Int.toNat_natCast]
    split <;> simp
   ·simp only[q,Bool.false_eq_true,if_false,Bool.false_or,Ps]
    rw[aG c (by rw[hl];exact hm),aG (by omega) (by rw[hl];omega)];simp only[aa,Int.toNat_natCast]
    cases hc:nth out (mv a s k) <;> simp[hc,c]
  ·rw[if_neg (by simpa using c)]
   simp[Ps,c]) (by unfold jd;simp) (by unfold aW;omega)
 have e9:(nth a.2.2 (s:Int)).take 9=nth a.2.2 (s:Int):=List.take_of_length_le (by omega)
 rw[e9] at this
 exact this
theorem G9 {out:List Bool} (hl:out.length=n):az (je a) aW (out,0)=some (.brk (j9 a out n,(n:Int))):=by
 have hlen:=V.len
 refine bh (f:=je a) (fun s=>(j9 a out s,(s:Int))) n (fun s hs=>?_) ?_ (ub (by omega))
 ·unfold je
  simp only
  rw[if_pos (by simp;omega),ax (Pu V hn hs (by rw[kT];exact hl)),af (by omega)]
  rfl
 ·unfold je
  simp only
  rw[if_neg (by simp;omega)]
theorem TP:lh a=some (live a):=by
 have hlen:=V.len
 unfold lh
 rw[aL (by simp;omega)];simp only[aa,List.nil_append]
 have:=bh (f:=lP a) (fun j=>(it a j,(j:Int))) n (fun j hj=>by
  unfold lP
  simp only
  rw[if_pos (by simp;omega),ax (G9 V hn (by rw[pW];exact hlen)),af (by omega),it,hlen]) (by
  unfold lP
  simp only
  rw[if_neg (by simp;omega)]) (ub (by omega))
 exact (ax this).trans (by simp[live,hlen])
theorem Pv {out:List Bool} {g:Bool} {s:Nat} (hs:s<n) (hl:out.length=n):az (dn (g,(s:Int),out) (nth a.2.2 (s:Int))) aW (g,0,out)=some (.brk (g || (hit out (nth a.2.2 (s:Int)) && !nth out (s:Int)),9,yD a out s)):=by
 have hr:=V.rowAt (s:=s) (by omega) (by omega)
 have hls:s<out.length:=by omega
 have:=bh (f:=dn (g,(s:Int),out) (nth a.2.2 (s:Int))) (fun k=>(g || (((nth a.2.2 (s:Int)).take k).any (Ps out) && !nth out (s:Int)),(k:Int),if ((nth a.2.2 (s:Int)).take k).any (Ps out) then out.set s true else out)) 9 (fun k hk=>by
  unfold dn
  simp only
  rw[if_pos (by simp[hr];omega),V.get2 (by omega) (by omega) hk];simp only[aa]
  rw[Ks (by omega),show nth (nth a.2.2 (s:Int)) (k:Int)=mv a s k from rfl]
  simp only[af (show k<9223372036854775807 by omega)]
  by_cases c:mv a s k≥0
  ·have hset:(out.set s true).length=n:=by simp[hl]
   have hm:=(V.mv (s:=s) (k:=k) (by omega) (by omega) hk).2
   rw[if_pos (by simpa using c)]
   by_cases q:((nth a.2.2 (s:Int)).take k).any (Ps out)=true
   ·simp only[q,if_true,Bool.true_or]
    have hself:nth (out.set s true) (s:Int)=true:=by
     have:=GT (xs:=out) (i:=(s:Int)) (x:=true) (by omega) (by omega)
     simpa using this
    rw[aG c (by rw[hset];exact hm),aG (by omega) (by rw[hset];omega)];simp only[aa,Int.toNat_natCast,hself,if_true]
    split <;> simp
   ·simp only[q,Bool.false_eq_true,if_false,Bool.false_or,Ps,Bool.false_and,Bool.or_false]
    rw[aG c (by rw[hl];exact hm),aG (by omega) (by rw[hl];omega)];simp only[aa,Int.toNat_natCast]
    cases hc:nth out (mv a s k) with
    | false=>simp[c]
    | true =>
     cases hd:nth out (s:Int) with
     | false=>simp[c]
     | true =>
      rw[bX hls] at hd
      simp[c,Kr hls hd]
  ·rw[if_neg (by simpa using c)]
   simp[Ps,c]) (by unfold dn;simp[hr]) (by unfold aW;omega)
 have e9:(nth a.2.2 (s:Int)).take 9=nth a.2.2 (s:Int):=List.take_of_length_le (by omega)
 rw[e9] at this
 have e0:(g || (((nth a.2.2 (s:Int)).take 0).any (Ps out) && !nth out (s:Int)))=g:=by simp
 rw[e0] at this
 exact this
theorem Ha {out:List Bool} (hl:out.length=n): ∃g,az (dq a) aW (false,0,out)=some (.brk (g,(n:Int),j9 a out n))/\(g=true↔cnt out<cnt (j9 a out n)):=by
 have hlen:=V.len
 have hnl:=V.nlen
 obtain ⟨s',e,⟨g,rfl,hg⟩⟩:=nY (f:=dq a) (fun s st=> ∃g,st=(g,(s:Int),j9 a out s)/\(g=true↔cnt out<cnt (j9 a out s))) n (by
  rintro s st hs ⟨g,rfl,hg⟩
  have hpl:(j9 a out s).length=n:=by rw[kT];exact hl
  unfold dq
  simp only
  rw[if_pos (by simp;omega),V.get (by omega) (by omega)];simp only[aa]
  rw[ax (Pv V hn hs hpl),af (by omega)]
  refine ⟨_,rfl,_,rfl,?_⟩
  rw[Bool.or_eq_true,aj,Bool.not_eq_true',hg,j9]
  have hc:=xF (a:=a) (out:=out) s (by omega)
  rcases yE (a:=a) (out:=j9 a out s) (s:=s) (by omega) with ⟨e,k⟩ | ⟨e,k⟩
  ·rw[e];exact ⟨fun h=>h.elim id fun h=>absurd h k,.inl⟩
  ·rw[e]
   exact ⟨fun _=>by rcases hc with ⟨-,h⟩ | h <;> omega,fun _=>.inr k⟩) (by
  rintro s ⟨g,rfl,hg⟩
  unfold dq
  simp only
  rw[if_neg (by simp;omega)]) ⟨false,rfl,by simp[j9]⟩ (ub (by omega))
 exact ⟨g,e,hg⟩
theorem XX:eP a=some (live a):=by
 have hlen:=V.len
 unfold eP
 rw[aL (by simp;omega)];simp only[aa,List.nil_append]
 obtain ⟨o,e,i,rfl,hi⟩:=cV (f:=ij a) (fun i s=> ∃b,s=(b,it a i)/\(b=true->i<=cnt (it a i))/\(b=false->it a (i+1)=it a i)) (fun o=> ∃i,o= .brk (false,it a i)/\it a (i+1)=it a i) (n+1) (s:=(true,a.2.1)) (by
  rintro i s hi ⟨b,rfl,h1,h2⟩
  unfold ij
  simp only
  cases b with
  | false=>exact .inr ⟨_,by rw[if_neg (by simp)],(fun s' e=>by cases e),i,rfl,h2 rfl⟩
  | true =>
   have hc:=TN a i
   have h1:=h1 rfl
   obtain ⟨g,e,hg⟩:=Ha V hn (out:=it a i) (by rw[pW];exact hlen)
   have ee:j9 a (it a i) n=it a (i+1):=by rw[it,hlen]
   rw[ee] at e hg
   refine .inl ⟨by omega,(g,it a (i+1)),by rw[if_pos rfl,ax e],g,rfl,fun h=>?_,fun h=>?_⟩
   ·have:=hg.1 h;omega
   ·have hs:it a (i+1)=it a i:=by
     rcases IZ a i with h' | h'
     ·exact h'
     ·rw[<-hg,h] at h';cases h'
    rw[it,hs];exact hs) ⟨true,rfl,fun _=>Nat.zero_le _,fun h=>by cases h⟩ (ub (by omega))
 rw[ax e]
 have:=Pt hi (Wc a)
 simp[live,this]
end
end
end D
namespace D
open Go.RowKit
def nothing:AutT:=(0,[false],[[-1,-1,-1,-1,-1,-1,-1,-1,-1]])
theorem Pw:oU=some nothing:=by kernel_rfl
theorem Px:uC=some nothing:=by kernel_rfl
theorem Py {n:Nat} (h:n<=1000000):iOk (n:Int)=true:=by
 have h1:IntKind.i64.min= -9223372036854775808:=by decide
 have h2:IntKind.i64.max=9223372036854775807:=by decide
 simp only[iOk,Lit.wf,h1,h2,aj,decide_eq_true_eq]
 omega
theorem take_one {α:Type} [Inhabited α] {xs:List α} {k:Nat} (h:k<xs.length):xs.take (k+1)=xs.take k++ [nth xs (k:Int)]:=by
 rw[List.take_succ_eq_append_getElem h,bX h]
theorem ka {α:Type} [Inhabited α] {xs ys:List α} (h:xs <+:ys) {i:Int} (h0:0<=i) (h1:i<xs.length):nth ys i=nth xs i:=by
 obtain ⟨t,rfl⟩:=h
 exact iu h0 h1
structure NumOk {κ:Type} [DecidableEq κ] (nx:κ->List (Option κ)) (first:κ) (G:κ->Prop) (B:Nat):Prop where
 g0:G first
 gn: ∀x,G x-> ∀y,some y∈nx x->G y
 len: ∀x,G x->(nx x).length=9
 bound: ∀l:List κ,l.Nodup->(∀x∈l,G x)->l.length<=B
section
variable {κ:Type} [DecidableEq κ] [Inhabited κ] {nx:κ->List (Option κ)} {first:κ} {G:κ->Prop} {B:Nat}
theorem NumOk.le (H:NumOk nx first G B) (i:Nat):(bfS nx first i).length<=B:=H.bound _ (nZ i) (kR H.g0 H.gn i)
theorem NumOk.at (H:NumOk nx first G B) {i:Nat} (h:i<(bfS nx first i).length):G (nth (bfS nx first i) (i:Int)):=kR H.g0 H.gn i _ (cv (by omega) (by omega))
theorem kU {i:Nat} (h:i<(bfS nx first i).length):bfS nx first (i+1)=nbS (bfS nx first i) (nx (nth (bfS nx first i) (i:Int))):=by rw[Em h,bX h]
theorem wz {i:Nat} (h:i<(bfS nx first i).length):bfR nx first (i+1)=bfR nx first i++ [nbR (bfS nx first i) (nx (nth (bfS nx first i) (i:Int)))]:=by rw[wk h,bX h]
theorem zx {β:Type} {acc:κ->β} {i:Nat} (h:i<(bfS nx first i).length):((bfS nx first (i+1)).take (i+1)).map acc=((bfS nx first i).take i).map acc++ [acc (nth (bfS nx first i) (i:Int))]:=by
 have hp:=bQ (nx:=nx) (first:=first) i
 have hl:=hp.length_le
 have e:(bfS nx first (i+1)).take i=(bfS nx first i).take i:=by
  obtain ⟨t,ht⟩:=hp
  rw[<-ht,List.take_append_of_le_length (by omega)]
 rw[take_one (by omega),aO,e,ka hp (by omega) (by omega)];rfl
def MapOf (M:List (κ×Int)) (l:List κ):Prop:=M.length=l.length/\ ∀x,M.lookup x=if x∈l then some (l.idxOf x:Int) else none
theorem MapOf.one (x:κ):MapOf [(x,0)] [x]:=by
 refine ⟨rfl,fun y=>?_⟩
 rw[List.lookup_cons]
 by_cases e:y=x
 ·subst e;simp
 ·simp only[show (y==x)=false from by simp[e]];simp[e]
theorem MapOf.put {M:List (κ×Int)} {l:List κ} (h:MapOf M l) {x:κ} (hx:x∉l):MapOf ((x,(l.length:Int))::M) (l++ [x]):=by
 refine ⟨by simp[h.1],fun y=>?_⟩
 rw[List.lookup_cons]
 by_cases e:y=x
 ·subst e
  simp[List.idxOf_append,hx]
 ·simp only[show (y==x)=false from by simp[e],h.2 y,List.mem_append,List.mem_singleton,e,or_false]
  by_cases k:y∈l
  ·simp[k,List.idxOf_append]
  ·simp[k]
end
section
variable {nx:Int->List (Option Int)} {first:Int} {G:Int->Prop} {B:Nat}
theorem Hb {p3:Int->Int->Option (Int×Bool)} {l:List Int} {M:List (Int×Int)} {os:List (Option Int)} {acs:List Bool} {rws:List (List Int)} {i:Nat}
  (hi:i<l.length) (hos:os.length=9) (hM:MapOf M l) (hok: ∀y,some y∈os->iOk y=true) (hB: ∀k,(nbS l (os.take k)).length<=1000000)
  (hp: ∀(k:Nat) (hk:k<9),∃j,p3 (nth l (i:Int)) (k:Int)=some (match nth os (k:Int) with | some y=>(y,true) | none=>(j,false))) :
  ∃M',az (dR p3 (l,M,(i:Int),0,acs,rws)) aW (l,M,[],0)=some (.brk (nbS l os,M',nbR l os,9))/\MapOf M' (nbS l os):=by
 obtain ⟨s',e,M',rfl,hM'⟩:=nY (f:=dR p3 (l,M,(i:Int),0,acs,rws)) (fun k s=> ∃M',s=(nbS l (os.take k),M',nbR l (os.take k),(k:Int))/\MapOf M' (nbS l (os.take k))) 9 (by
  rintro k s hk ⟨M1,rfl,hM1⟩
  have hpre:=lx l (os.take k)
  have hlen:=hpre.length_le
  have hBk:=hB k
  obtain ⟨j,hj⟩:=hp k hk
  have hrl:(nbR l (os.take k)).length<=9:=by rw[eK,aB];omega
  unfold dR
  simp only
  rw[if_pos (by simp;omega),aG (by omega) (by omega)];simp only[aa]
  rw[ka hpre (by omega) (by omega),hj,take_one (by omega),wj,tf]
  simp only[aa,af (show k<9223372036854775807 by omega)]
  cases ho:nth os (k:Int) with
  | none =>
   simp only[Bool.false_eq_true,if_false]
   rw[aL (by simp;omega)]
   exact ⟨_,rfl,M1,rfl,hM1⟩
  | some y =>
   have hy:iOk y=true:=hok y (ho ▸ cv (by omega) (by omega))
   simp only[if_true]
   rw[show chk (iOk y=true)=some () from by unfold chk;rw[if_pos hy]];simp only[aa]
   rw[show lkM M1 y=_ from hM1.2 y]
   by_cases c:y∈nbS l (os.take k)
   ·simp only[c,if_true,Option.isSome_some,Option.getD_some,aa]
    rw[aL (by simp;omega)]
    exact ⟨_,rfl,M1,by rw[mD c];rfl,by rw[mD c];exact hM1⟩
   ·have hput:Mr M1 iOk iOk y ((nbS l (os.take k)).length:Int)=some ((y,((nbS l (os.take k)).length:Int))::M1):=by
     unfold Mr
     rw[if_pos ⟨by have:=hM1.1;omega,hy,Py hBk⟩]
    simp only[c,if_false,Option.isSome_none,Bool.false_eq_true,hput,aa]
    rw[aL (by simp;omega)];simp only[aa]
    rw[aL (by simp;omega)]
    refine ⟨_,rfl,(y,((nbS l (os.take k)).length:Int))::M1,?_,?_⟩
    ·rw[lz c];simp only[nbI,pT c]
    ·rw[lz c];exact hM1.put c) (by
  rintro s ⟨M1,rfl,hM1⟩
  unfold dR
  simp) (s:=(l,M,[],0)) ⟨M,rfl,hM⟩ (by unfold aW;omega)
 rw[List.take_of_length_le (by omega)] at e hM'
 exact ⟨M',e,hM'⟩
theorem XY {most:Int} {p2:Int->Option Bool} {p3:Int->Int->Option (Int×Bool)} {acc:Int->Bool} (H:NumOk nx first G B) (hB:B<=1000000) (hmost:(B:Int)<=most) (hok: ∀x,G x->iOk x=true)
  (h2: ∀x,G x->p2 x=some (acc x)) (h3: ∀x (k:Nat),G x->k<9-> ∃j,p3 x (k:Int)=some (match nth (nx x) (k:Int) with | some y=>(y,true) | none=>(j,false))) :
  ∃N,bfE nx first N/\eJ first most p2 p3=some ((0,(bfS nx first N).map acc,bfR nx first N),true):=by
 obtain ⟨N,hNB,hN⟩:=Tt (nx:=nx) (first:=first) (H.le)
 refine ⟨N,hN,?_⟩
 unfold eJ
 rw[show Mr ([] :List (Int×Int)) iOk iOk first 0=some [(first,0)] from by unfold Mr;rw[if_pos ⟨by simp,hok _ H.g0,by decide⟩]];simp only[aa]
 obtain ⟨s',e,M',rfl,hM'⟩:=nY (f:=bW most p2 p3) (fun i s=> ∃M,s=(bfS nx first i,M,(i:Int),0,((bfS nx first i).take i).map acc,bfR nx first i)/\MapOf M (bfS nx first i)) N (by
  rintro i s hi ⟨M,rfl,hM⟩
  have hlt:=hN.2 i hi
  have hG:=H.at hlt
  have hle:=H.le i
  have hle':=H.le (i+1)
  obtain ⟨M',e,hM'⟩:=Hb (p3:=p3) (l:=bfS nx first i) (M:=M) (os:=nx (nth (bfS nx first i) (i:Int))) (acs:=((bfS nx first i).take i).map acc) (rws:=bfR nx first i) hlt (H.len _ hG) hM (fun y hy=>hok y (H.gn _ hG y hy))
   (fun k=>by
    have:(nbS (bfS nx first i) ((nx (nth (bfS nx first i) (i:Int))).take k)).length<=B:=H.bound _ (sB (nZ i)) fun x hx=>by
     rcases xx.1 hx with hx | hx
     ·exact kR H.g0 H.gn i x hx
     ·exact H.gn _ hG x (List.mem_of_mem_take hx)
    omega) (fun k hk=>h3 _ k hG hk)
  unfold bW
  simp only
  rw[if_pos (by simp;omega),ax e,<-kU hlt]
  rw[<-kU hlt] at hM'
  have hl2:=(bQ (nx:=nx) (first:=first) i).length_le
  simp only
  rw[if_neg (by simp;omega),aG (by omega) (by omega)];simp only[aa]
  rw[ka (bQ i) (by omega) (by omega),h2 _ hG];simp only[aa]
  have hr:(bfR nx first i).length=i:=j7 fun j hj=>hN.2 j (by omega)
  rw[aL (by simp;omega)];simp only[aa]
  rw[aL (by simp;omega)];simp only[aa,af (show i<9223372036854775807 by omega)]
  exact ⟨_,rfl,M',by rw[zx hlt,wz hlt],hM'⟩) (by
  rintro s ⟨M,rfl,hM⟩
  unfold bW
  simp only
  rw[if_neg (by have:=hN.1;simp;omega)]) (s:=([first],[(first,0)],0,0,[],[])) ⟨_,rfl,MapOf.one first⟩ (ub (by omega))
 rw[ax e]
 simp only
 rw[List.take_of_length_le (by have:=hN.1;omega)]
end
theorem TQ {l:List Int} {x:Int} (h:l.length<=9223372036854775807):nF l x=some (if x∈l then (l.idxOf x:Int) else -1):=by
 unfold nF
 obtain ⟨o,e,hq⟩:=cV (f:=oT l x) (fun i s=>s=(i:Int)/\x∉l.take i) (fun o=>(x∈l/\o= .ret (l.idxOf x:Int))\/(x∉l/\ ∃s,o= .brk s)) l.length (s:=0) (by
  rintro i s hi ⟨rfl,hx⟩
  unfold oT
  by_cases hl:i<l.length
  ·rw[if_pos (by simp;omega),aG (by omega) (by omega)];simp only[aa]
   by_cases c:nth l (i:Int)=x
   ·refine .inr ⟨_,by rw[if_pos (by simpa using c)],(fun s' e=>by cases e),.inl ?_⟩
    have e:l=l.take i++(x::l.drop (i+1)):=by
     rw[<-c,bX hl,<-List.drop_eq_getElem_cons hl,List.take_append_drop]
    refine ⟨by rw[e];simp,?_⟩
    congr 1
    conv=>rhs;rw[e,List.idxOf_append,if_neg hx,List.idxOf_cons_self]
    simp[aB];first | done | omega
   ·refine .inl ⟨hl,_,by rw[if_neg (by simpa using c)],by rw[af (by omega)],?_⟩
    rw[take_one hl,List.mem_append,List.mem_singleton]
    rintro (h | h)
    ·exact hx h
    ·exact c h.symm
  ·refine .inr ⟨_,by rw[if_neg (by simp;omega)],(fun s' e=>by cases e),.inr ⟨?_,_,rfl⟩⟩
   rwa [List.take_of_length_le (by omega)] at hx) ⟨rfl,by simp⟩ (ub h)
 rcases hq with ⟨hx,rfl⟩ | ⟨hx,s,rfl⟩
 ·rw[cJ e,if_pos hx]
 ·rw[ax e,if_neg hx]
section
variable {a:AutT} {n:Nat} {c:List Int} {lv:List Bool} {nx:Int->List (Option Int)} {G:Int->Prop} {B:Nat} {acc:Int->Bool}
def good (n:Nat) (lv:List Bool) (r:Int):Prop:=0<=r/\r<n/\nth lv r=true
def uU (a:AutT) (c:List Int) (lv:List Bool) (r:Int):List (Option Int):=(List.range 9).map fun k=>if mv a r k≥0/\nth lv (mv a r k)=true then some (nth c (mv a r k)) else none
theorem Kt {r:Int} {k:Nat} (hk:k<9):nth (uU a c lv r) (k:Int)=if mv a r k≥0/\nth lv (mv a r k)=true then some (nth c (mv a r k)) else none:=by
 have:k<(uU a c lv r).length:=by simp[uU];omega
 rw[bX this];simp[uU]
def RepsOf (n:Nat) (lv:List Bool) (c:List Int) (rs l:List Int):Prop:=rs.length=l.length/\ ∀j:Nat,j<l.length->good n lv (nth rs j)/\nth c (nth rs j)=nth l (j:Int)
theorem RepsOf.snoc {rs l:List Int} (h:RepsOf n lv c rs l) {t:Int} (ht:good n lv t):RepsOf n lv c (rs++ [t]) (l++ [nth c t]):=by
 refine ⟨by simp[h.1],fun j hj=>?_⟩
 by_cases e:j<l.length
 ·rw[iu (by omega) (by have:=h.1;omega),iu (by omega) (by omega)];exact h.2 j e
 ·have e:j=l.length:=by simp at hj;omega
  subst e
  have h1:nth (rs++ [t]) (l.length:Int)=t:=by rw[bX (by simp[h.1])];simp[<-h.1]
  have h2:nth (l++ [nth c t]) (l.length:Int)=nth c t:=by rw[bX (by simp)];simp
  rw[h1,h2];exact ⟨ht,rfl⟩
theorem Pz (V:VA a n) (hn:n<=1000000) (hc:c.length=n) (hlv:lv.length=n) {l rs:List Int} {acs:List Bool} {rws:List (List Int)} {i:Nat} (hi:i<l.length) (hR:RepsOf n lv c rs l) {os:List (Option Int)} (hos:os.length=9)
  (ho: ∀r,good n lv r->nth c r=nth l (i:Int)->uU a c lv r=os) (hB: ∀k,(nbS l (os.take k)).length<=1000000) :
  ∃rs',az (gu a c lv (l,rs,(i:Int),0,acs,rws)) aW (l,rs,[],0)=some (.brk (nbS l os,rs',nbR l os,9))/\RepsOf n lv c rs' (nbS l os):=by
 obtain ⟨s',e,rs',rfl,hR'⟩:=nY (f:=gu a c lv (l,rs,(i:Int),0,acs,rws)) (fun k s=> ∃rs',s=(nbS l (os.take k),rs',nbR l (os.take k),(k:Int))/\RepsOf n lv c rs' (nbS l (os.take k))) 9 (by
  rintro k s hk ⟨r1,rfl,hR1⟩
  have hpre:=lx l (os.take k)
  have hlen:=hpre.length_le
  have hBk:=hB k
  have hrl:(nbR l (os.take k)).length<=9:=by rw[eK,aB];omega
  have hr1:=hR1.1
  obtain ⟨⟨g0,g1,g2⟩,gc⟩:=hR1.2 i (by omega)
  rw[ka hpre (by omega) (by omega)] at gc
  have hsu:=ho _ ⟨g0,g1,g2⟩ gc
  have hok:nth os (k:Int)=if mv a (nth r1 (i:Int)) k≥0/\nth lv (mv a (nth r1 (i:Int)) k)=true then some (nth c (mv a (nth r1 (i:Int)) k)) else none:=by
   rw[<-hsu];exact Kt hk
  have hmv:=V.mv (s:=nth r1 (i:Int)) (k:=k) g0 g1 hk
  unfold gu
  simp only
  rw[if_pos (by simp;omega),aG (xs:=r1) (by omega) (by omega)];simp only[aa]
  rw[V.get g0 g1];simp only[aa]
  rw[V.get2 g0 g1 hk,take_one (by omega),wj,tf]
  simp only[aa,af (show k<9223372036854775807 by omega)]
  by_cases c1:mv a (nth r1 (i:Int)) k≥0
  ·rw[if_pos (by simpa using c1),aG (xs:=lv) c1 (by omega)];simp only[aa]
   by_cases c2:nth lv (mv a (nth r1 (i:Int)) k)=true
   ·rw[if_pos ⟨c1,c2⟩] at hok
    rw[if_pos c2,aG (xs:=c) c1 (by omega),hok];simp only[aa]
    rw[TQ (by omega)];simp only[aa]
    by_cases c3:nth c (mv a (nth r1 (i:Int)) k)∈nbS l (os.take k)
    ·rw[if_pos c3,if_neg (by simp)];simp only[aa]
     rw[aL (by simp;omega)]
     exact ⟨_,rfl,r1,by rw[mD c3];rfl,by rw[mD c3];exact hR1⟩
    ·rw[if_neg c3,if_pos (by decide)]
     rw[aL (by simp;omega)];simp only[aa]
     rw[aL (by simp;omega)];simp only[aa]
     rw[aL (by simp;omega)];simp only[aa]
     refine ⟨_,rfl,r1++ [mv a (nth r1 (i:Int)) k],?_,?_⟩
     ·rw[lz c3];simp only[nbI,pT c3]
     ·rw[lz c3];exact hR1.snoc ⟨c1,hmv.2,c2⟩
   ·rw[if_neg (fun h=>c2 h.2)] at hok
    rw[if_neg c2,hok];simp only[aa]
    rw[aL (by simp;omega)]
    exact ⟨_,rfl,r1,rfl,hR1⟩
  ·rw[if_neg (fun h=>c1 h.1)] at hok
   rw[if_neg (by simpa using c1),hok];simp only[aa]
   rw[aL (by simp;omega)]
   exact ⟨_,rfl,r1,rfl,hR1⟩) (by
  rintro s ⟨r1,rfl,hR1⟩
  unfold gu
  simp) (s:=(l,rs,[],0)) ⟨rs,rfl,hR⟩ (by unfold aW;omega)
 rw[List.take_of_length_le (by omega)] at e hR'
 exact ⟨rs',e,hR'⟩
theorem XZ (V:VA a n) (hn:n<=1000000) (hc:c.length=n) (hlv:lv.length=n) (hs:nth lv a.1=true) (H:NumOk nx (nth c a.1) G B) (hB:B<=1000000)
  (hnx: ∀r,good n lv r->nx (nth c r)=uU a c lv r) (hacc: ∀r,good n lv r->acc (nth c r)=nth a.2.1 r) :
  ∃N,bfE nx (nth c a.1) N/\iD a c lv=some (0,(bfS nx (nth c a.1) N).map acc,bfR nx (nth c a.1) N):=by
 obtain ⟨N,hNB,hN⟩:=Tt (nx:=nx) (first:=nth c a.1) (H.le)
 refine ⟨N,hN,?_⟩
 have hst:=V.start
 have hlen:=V.len
 unfold iD
 rw[aG hst.1 (by omega)];simp only[aa]
 rw[if_pos hs,aG hst.1 (by omega)];simp only[aa]
 obtain ⟨s',e,rs,rfl,hR⟩:=nY (f:=jv a c lv) (fun i s=> ∃rs,s=(bfS nx (nth c a.1) i,rs,(i:Int),0,((bfS nx (nth c a.1) i).take i).map acc,bfR nx (nth c a.1) i)/\RepsOf n lv c rs (bfS nx (nth c a.1) i)) N (by
  rintro i s hi ⟨rs,rfl,hR⟩
  have hlt:=hN.2 i hi
  have hG:=H.at hlt
  have hle:=H.le i
  have hle':=H.le (i+1)
  obtain ⟨rs',e,hR'⟩:=Pz (acs:=((bfS nx (nth c a.1) i).take i).map acc) (rws:=bfR nx (nth c a.1) i) V hn hc hlv hlt hR (os:=nx (nth (bfS nx (nth c a.1) i) (i:Int))) (H.len _ hG) (fun r hr e=>by rw[<-hnx r hr,e]) (fun k=>by
    have:(nbS (bfS nx (nth c a.1) i) ((nx (nth (bfS nx (nth c a.1) i) (i:Int))).take k)).length<=B:=H.bound _ (sB (nZ i)) fun x hx=>by
     rcases xx.1 hx with hx | hx
     ·exact kR H.g0 H.gn i x hx
     ·exact H.gn _ hG x (List.mem_of_mem_take hx)
    omega)
  unfold jv
  simp only
  rw[if_pos (by simp;omega),ax e]
  rw[<-kU hlt] at hR'
  have hl2:=(bQ (nx:=nx) (first:=nth c a.1) i).length_le
  have hr1:=hR'.1
  obtain ⟨⟨g0,g1,g2⟩,gc⟩:=hR'.2 i (by omega)
  rw[ka (bQ i) (by omega) (by omega)] at gc
  rw[aG (xs:=rs') (by omega) (by omega)];simp only[aa]
  rw[V.acc g0 g1,<-hacc _ ⟨g0,g1,g2⟩,gc];simp only[aa]
  have hr:(bfR nx (nth c a.1) i).length=i:=j7 fun j hj=>hN.2 j (by omega)
  rw[aL (by simp;omega)];simp only[aa]
  rw[aL (by simp;omega)];simp only[aa,af (show i<9223372036854775807 by omega)]
  exact ⟨_,rfl,rs',by rw[<-kU hlt,zx hlt,wz hlt],hR'⟩) (by
  rintro s ⟨rs,rfl,hR⟩
  unfold jv
  simp only
  rw[if_neg (by have:=hN.1;simp;omega)]) (s:=([nth c a.1],[a.1],0,0,[],[])) ⟨[a.1],rfl,rfl,fun j hj=>by
   obtain rfl:j=0:=by simpa [bfS] using hj
   exact ⟨⟨hst.1,hst.2,hs⟩,rfl⟩⟩ (ub (by omega))
 rw[ax e]
 simp only
 rw[List.take_of_length_le (by have:=hN.1;omega)]
theorem I0 (V:VA a n) (hlv:lv.length=n) (hs:nth lv a.1=false):iD a c lv=some nothing:=by
 have hst:=V.start
 unfold iD
 rw[aG hst.1 (by omega)];simp only[aa]
 rw[hs,Pw];rfl
end
end D
namespace D
open Go.RowKit
abbrev Hl:=(List Int)×Int×Int×(List Int)×Bool
abbrev Sq (x:Int) (j:Nat):Bool:=(zB (tz x (j:Int)) 1)==1
def Sr (F:List Int) (set m0:Int):Nat->Int
 | 0=>m0
 | i+1=>if Sq set (i+1) then orI (Sr F set m0 i) (nth F (i:Int)) else Sr F set m0 i
def pick (L:List Int) (m letter:Int):Nat->Int
 | 0=>0
 | i+1=>if nth L (i:Int)=letter/\Sq m i=true then orI (pick L m letter i) (Ja 1 ((i+1:Nat):Int)) else pick L m letter i
def aft (p:Hl) (set letter:Int):Int:=pick p.1 (Sr p.2.2.2.1 set (if (zB set 1)==1 then p.2.1 else 0) p.2.2.2.1.length) letter p.1.length
def wA (p:Hl) (set:Int):Bool:=if (zB set 1)==1 then (if p.2.2.2.2 then true else (zB (tz set 1) p.2.2.1) !=0) else (zB (tz set 1) p.2.2.1) !=0
theorem sF (i:Nat):chk (0<=(i:Int))=some ():=by unfold chk;rw[if_pos (by omega)]
theorem Wd {p:Hl} {set letter:Int} (hl:p.2.2.2.1.length=p.1.length) (hb:p.1.length<=1000000):ou p set letter=some (aft p set letter):=by
 have h0: ∀m0,az (gZ p set) aW (m0,0)=some (.brk (Sr p.2.2.2.1 set m0 p.1.length,(p.1.length:Int))):=fun m0 =>
  bh (f:=gZ p set) (fun i=>(Sr p.2.2.2.1 set m0 i,(i:Int))) p.1.length (fun i hi=>by
   unfold gZ
   simp only
   rw[if_pos (by simp;omega),af (by omega),sF];simp only[aa]
   rw[Sr]
   by_cases c:Sq set (i+1)=true
   ·rw[if_pos c,if_pos c,aG (by omega) (by omega)];rfl
   ·rw[if_neg c,if_neg c];rfl) (by unfold gZ;simp) (ub (by omega))
 have h1: ∀s7:Int×Int,az (hH p letter s7) aW (0,0)=some (.brk (pick p.1 s7.1 letter p.1.length,(p.1.length:Int))):=fun s7 =>
  bh (f:=hH p letter s7) (fun i=>(pick p.1 s7.1 letter i,(i:Int))) p.1.length (fun i hi=>by
   unfold hH
   simp only
   rw[if_pos (by simp;omega),af (by omega),sF,sF];simp only[aa]
   rw[pick]
   by_cases c:Sq s7.1 i=true
   ·rw[if_pos c,aG (by omega) (by omega)];simp only[aa]
    by_cases d:nth p.1 (i:Int)=letter
    ·rw[if_pos (by simpa using d),if_pos ⟨d,c⟩];rfl
    ·rw[if_neg (by simpa using d),if_neg (fun h=>d h.1)];rfl
   ·rw[if_neg c,if_neg (fun h=>c h.2)];rfl) (by unfold hH;simp) (ub (by omega))
 unfold ou aft
 rw[hl]
 by_cases c:((zB set 1)==1)=true
 ·rw[if_pos c,if_pos c];simp only[aa]
  rw[ax (h0 _),ax (h1 _)]
 ·rw[if_neg c,if_neg c];simp only[aa]
  rw[ax (h0 _),ax (h1 _)]
theorem We {p:Hl} {set letter:Int} (hl:p.2.2.2.1.length=p.1.length) (hb:p.1.length<=1000000):gb p set letter=some (aft p set letter):=by
 have h0: ∀m0,az (cW p set) aW (m0,0)=some (.brk (Sr p.2.2.2.1 set m0 p.2.2.2.1.length,(p.2.2.2.1.length:Int))):=fun m0 =>
  bh (f:=cW p set) (fun i=>(Sr p.2.2.2.1 set m0 i,(i:Int))) p.2.2.2.1.length (fun i hi=>by
   unfold cW
   simp only
   rw[if_pos (by simp;omega),aG (by omega) (by omega)];simp only[aa]
   rw[af (by omega),sF];simp only[aa]
   rw[Sr]
   by_cases c:Sq set (i+1)=true
   ·rw[if_pos c,if_pos c];rfl
   ·rw[if_neg c,if_neg c];rfl) (by unfold cW;simp) (ub (by omega))
 have h1: ∀s7:Int×Int,az (cX p letter s7) aW (0,0)=some (.brk (pick p.1 s7.1 letter p.1.length,(p.1.length:Int))):=fun s7 =>
  bh (f:=cX p letter s7) (fun i=>(pick p.1 s7.1 letter i,(i:Int))) p.1.length (fun i hi=>by
   unfold cX
   simp only
   rw[if_pos (by simp;omega),aG (by omega) (by omega)];simp only[aa]
   rw[af (by omega),sF,sF];simp only[aa]
   rw[pick]
   by_cases d:nth p.1 (i:Int)=letter
   ·rw[if_pos (by simpa using d)]
    by_cases c:Sq s7.1 i=true
    ·rw[if_pos c,if_pos ⟨d,c⟩];rfl
    ·rw[if_neg c,if_neg (fun h=>c h.2)];rfl
   ·rw[if_neg (by simpa using d),if_neg (fun h=>d h.1)];rfl) (by unfold cX;simp) (ub (by omega))
 unfold gb aft
 by_cases c:((zB set 1)==1)=true
 ·rw[if_pos c,if_pos c];simp only[aa]
  rw[ax (h0 _),ax (h1 _)]
 ·rw[if_neg c,if_neg c];simp only[aa]
  rw[ax (h0 _),ax (h1 _)]
theorem X0 (p:Hl) (x:Int):lO p x=some (wA p x):=by
 unfold lO wA
 split <;> (try split) <;> rfl
theorem X1 (p:Hl) (x:Int):dm p x=some (wA p x):=by
 unfold dm wA
 split <;> (try split) <;> rfl
theorem LR (x:Int): -9223372036854775808<=IntKind.i64.wrap x/\IntKind.i64.wrap x<=9223372036854775807:=by
 simp only[IntKind.wrap,IntKind.bits,IntKind.signed,Bool.true_and]
 split <;> rename_i h <;> simp at h <;> omega
theorem Wf (x:Int):iOk (IntKind.i64.wrap x)=true:=by
 have h1:IntKind.i64.min= -9223372036854775808:=by decide
 have h2:IntKind.i64.max=9223372036854775807:=by decide
 have h3:=LR x
 simp only[iOk,Lit.wf,h1,h2,aj,decide_eq_true_eq]
 omega
theorem X2 (m n:Int):iOk (orI m n)=true:=Wf _
theorem PA (L:List Int) (m letter:Int): ∀i,iOk (pick L m letter i)=true
 | 0=>by unfold pick;decide
 | i+1=>by
  rw[pick]
  split
  ·exact X2 _ _
  ·exact PA L m letter i
def nxS (p:Hl) (x:Int):List (Option Int):=(List.range 9).map fun k:Nat=>if aft p x (k:Int)=0 then none else some (aft p x (k:Int))
theorem TS {p:Hl} {x:Int} {k:Nat} (hk:k<9):nth (nxS p x) (k:Int)=if aft p x k=0 then none else some (aft p x k):=by
 have:k<(nxS p x).length:=by simp[nxS];omega
 rw[bX this];simp[nxS]
theorem EN (p:Hl) (x:Int):(nxS p x).length=9:=by simp[nxS]
theorem X3 {p:Hl} {x y:Int} (h:some y∈nxS p x):iOk y=true:=by
 obtain ⟨k,hk,e⟩:=List.mem_map.1 h
 split at e
 ·cases e
 ·obtain rfl:=ae e
  exact PA _ _ _ _
theorem PB {κ:Type} [DecidableEq κ] : ∀(l:List κ) (os:List (Option κ)),(nbS l os).length<=l.length+os.length
 | l,[] =>by simp[nbS]
 | l,o::os=>by
  have h:=PB (nbL l o) os
  have h2:(nbL l o).length<=l.length+1:=by
   cases o with
   | none=>simp[nbL]
   | some x=>unfold nbL;simp only;split <;> simp
  show (nbS (nbL l o) os).length<=_
  simp only[ak];omega
section
variable {κ:Type} [DecidableEq κ] (nx:κ->List (Option κ)) (first:κ) (acc:κ->Bool) (most:Nat)
def goM:Nat->Nat->AutT×Bool
 | 0,i=>((0,[],[]),false)
 | f+1,i=>if i<(bfS nx first i).length then (if (bfS nx first (i+1)).length>most then ((0,[],[]),false) else goM f (i+1)) else ((0,((bfS nx first i).take i).map acc,bfR nx first i),true)
end
section
variable {κ:Type} [DecidableEq κ] {nx:κ->List (Option κ)} {first:κ} {acc:κ->Bool} {most:Nat}
theorem EO {i:Nat} (h: ∀j,j<i->j<(bfS nx first j).length):i<=(bfS nx first i).length:=by
 cases i with
 | zero=>omega
 | succ i =>
  have h1:=h i (by omega)
  have h2:=(bQ (nx:=nx) (first:=first) i).length_le
  omega
theorem Ku {S:Type} {f:S->Option (Out (AutT×Bool) S)} (hm:most<=1000000) (h1:1<=most) (st:Nat->S->Prop)
  (hs: ∀i s,st i s->(∀j,j<i->j<(bfS nx first j).length)->(bfS nx first i).length<=most->i<(bfS nx first i).length->((bfS nx first (i+1)).length>most->f s=some (.ret ((0,[],[]),false)))/\((bfS nx first (i+1)).length<=most-> ∃s',f s=some (.nxt s')/\st (i+1) s'))
  (he: ∀i s,st i s-> ¬i<(bfS nx first i).length->f s=some (.brk s)) {s:S} (h0:st 0 s) :
  (az f aW s=some (.ret ((0,[],[]),false))/\goM nx first acc most (most+2) 0=((0,[],[]),false)) \/
  ∃N s',az f aW s=some (.brk s')/\st N s'/\bfE nx first N/\N<=most/\goM nx first acc most (most+2) 0=((0,(bfS nx first N).map acc,bfR nx first N),true):=by
 obtain ⟨o,e,hq⟩:=cV (f:=f) (fun i s=>st i s/\(∀j,j<i->j<(bfS nx first j).length)/\(bfS nx first i).length<=most/\goM nx first acc most (most+2) 0=goM nx first acc most (most+2 - i) i)
  (fun o=>(o= .ret ((0,[],[]),false)/\goM nx first acc most (most+2) 0=((0,[],[]),false))\/ ∃N s',o= .brk s'/\st N s'/\bfE nx first N/\N<=most/\goM nx first acc most (most+2) 0=((0,(bfS nx first N).map acc,bfR nx first N),true)) most (s:=s) (by
  rintro i s hi ⟨k1,k2,k3,k4⟩
  have hle:=EO k2
  rw[show most+2 - i=(most+1 - i)+1 from by omega] at k4
  have k5:goM nx first acc most (most+1 - i+1) i=if i<(bfS nx first i).length then (if (bfS nx first (i+1)).length>most then ((0,[],[]),false) else goM nx first acc most (most+1 - i) (i+1)) else ((0,((bfS nx first i).take i).map acc,bfR nx first i),true):=rfl
  rw[k5] at k4
  by_cases c:i<(bfS nx first i).length
  ·rw[if_pos c] at k4
   obtain ⟨q1,q2⟩:=hs i s k1 k2 k3 c
   by_cases d:(bfS nx first (i+1)).length>most
   ·rw[if_pos d] at k4
    exact .inr ⟨_,q1 d,(fun s' e=>by cases e),.inl ⟨rfl,k4⟩⟩
   ·rw[if_neg d] at k4
    obtain ⟨s',e,hs'⟩:=q2 (by omega)
    exact .inl ⟨by omega,s',e,hs',fun j hj=>(by
     by_cases ej:j=i
     ·subst ej;exact c
     ·exact k2 j (by omega)),by omega,by rw[k4];congr 1;omega⟩
  ·rw[if_neg c] at k4
   refine .inr ⟨_,he i s k1 c,(fun s' e=>by cases e),.inr ⟨i,s,rfl,k1,⟨by omega,k2⟩,hi,?_⟩⟩
   rw[k4,List.take_of_length_le (by omega)]) ⟨h0,fun j hj=>by omega,by simp[bfS];omega,rfl⟩ (ub (by omega))
 rcases hq with ⟨rfl,h⟩ | ⟨N,s',rfl,h⟩
 ·exact .inl ⟨e,h⟩
 ·exact .inr ⟨N,s',e,h⟩
end
section
variable {p:Hl} {most:Nat} (hl:p.2.2.2.1.length=p.1.length) (hb:p.1.length<=1000000) (hm:most<=900000) (h1:1<=most)
include hl hb hm h1
theorem Zf:ig p most=some (goM (nxS p) 1 (wA p) most (most+2) 0):=by
 have hp3: ∀(l:List Int) (i k:Nat),k<9-> ∃j,(fun a0 a1=>c7 a0 a1 (p.1,p.2.1,p.2.2.1,p.2.2.2.1,p.2.2.2.2)) (nth l (i:Int)) (k:Int)=some (match nth (nxS p (nth l (i:Int))) (k:Int) with | some y=>(y,true) | none=>(j,false)):=by
  intro l i k hk
  refine ⟨0,?_⟩
  show c7 _ _ p=_
  unfold c7
  simp only[dM]
  rw[We hl hb,TS hk];simp only[aa]
  by_cases c:aft p (nth l (i:Int)) k=0
  ·rw[if_pos c];simp[c]
  ·rw[if_neg c];simp[c]
 unfold ig eJ
 rw[show Mr ([] :List (Int×Int)) iOk iOk 1 0=some [(1,0)] from by unfold Mr;rw[if_pos ⟨by simp,by decide,by decide⟩]];simp only[aa]
 rcases Ku (nx:=nxS p) (first:=1) (acc:=wA p) (most:=most) (f:=bW most (fun a0=>dm (p.1,p.2.1,p.2.2.1,p.2.2.2.1,p.2.2.2.2) a0) (fun a0 a1=>c7 a0 a1 (p.1,p.2.1,p.2.2.1,p.2.2.2.1,p.2.2.2.2)))
  (by omega) h1 (fun i s=> ∃M,s=(bfS (nxS p) 1 i,M,(i:Int),0,((bfS (nxS p) 1 i).take i).map (wA p),bfR (nxS p) 1 i)/\MapOf M (bfS (nxS p) 1 i)) (by
   rintro i s ⟨M,rfl,hM⟩ hj hle hlt
   have hil:=EO hj
   obtain ⟨M',e,hM'⟩:=Hb (p3:=fun a0 a1=>c7 a0 a1 (p.1,p.2.1,p.2.2.1,p.2.2.2.1,p.2.2.2.2)) (l:=bfS (nxS p) 1 i) (M:=M) (os:=nxS p (nth (bfS (nxS p) 1 i) (i:Int))) (acs:=((bfS (nxS p) 1 i).take i).map (wA p)) (rws:=bfR (nxS p) 1 i) hlt (EN _ _) hM (fun y hy=>X3 hy)
    (fun k=>by
     have:=PB (bfS (nxS p) 1 i) ((nxS p (nth (bfS (nxS p) 1 i) (i:Int))).take k)
     have h9:=EN p (nth (bfS (nxS p) 1 i) (i:Int))
     rw[aB] at this
     omega) (fun k hk=>hp3 _ i k hk)
   rw[<-kU hlt] at hM'
   have hl2:=(bQ (nx:=nxS p) (first:=1) i).length_le
   constructor
   ·intro hgt
    unfold bW
    simp only
    rw[if_pos (by simp;omega),ax e,<-kU hlt]
    simp only
    rw[if_pos (by simp;omega)]
   ·intro hle2
    unfold bW
    simp only
    rw[if_pos (by simp;omega),ax e,<-kU hlt]
    simp only
    rw[if_neg (by simp;omega),aG (by omega) (by omega)];simp only[aa]
    rw[ka (bQ i) (by omega) (by omega)]
    simp only[dM]
    rw[X1];simp only[aa]
    have hr:(bfR (nxS p) 1 i).length=i:=j7 hj
    rw[aL (by simp;omega)];simp only[aa]
    rw[aL (by simp;omega)];simp only[aa,af (show i<9223372036854775807 by omega)]
    exact ⟨_,rfl,M',by rw[zx hlt,wz hlt],hM'⟩) (by
   rintro i s ⟨M,rfl,hM⟩ hn
   unfold bW
   simp only
   rw[if_neg (by simp;omega)]) (s:=([1],[(1,0)],0,0,[],[])) ⟨_,rfl,MapOf.one 1⟩ with ⟨e,hg⟩ | ⟨N,s',e,⟨M,rfl,hM⟩,hN,hNm,hg⟩
 ·rw[cJ e,hg];rfl
 ·rw[ax e,hg];simp only[aa]
  rw[List.take_of_length_le (by have:=hN.1;omega)]
theorem Ss {l:List Int} {acs:List Bool} {rws:List (List Int)} {i:Nat} (hi:i<l.length) (hle:l.length<=most) :
  az (fA p (l,(i:Int),0,acs,rws)) aW (l,[],0)=some (.brk (nbS l (nxS p (nth l (i:Int))),nbR l (nxS p (nth l (i:Int))),9)):=by
 have h9:=EN p (nth l (i:Int))
 have:=bh (f:=fA p (l,(i:Int),0,acs,rws)) (fun k=>(nbS l ((nxS p (nth l (i:Int))).take k),nbR l ((nxS p (nth l (i:Int))).take k),(k:Int))) 9 (fun k hk=>by
  have hpre:=lx l ((nxS p (nth l (i:Int))).take k)
  have hlen:=hpre.length_le
  have hB:=PB l ((nxS p (nth l (i:Int))).take k)
  rw[aB] at hB
  have hrl:(nbR l ((nxS p (nth l (i:Int))).take k)).length<=9:=by rw[eK,aB];omega
  unfold fA
  simp only[dM]
  rw[if_pos (by simp;omega),aG (by omega) (by omega)];simp only[aa]
  rw[ka hpre (by omega) (by omega),Wd hl hb];simp only[aa]
  rw[take_one (by omega),wj,tf,TS hk]
  simp only[af (show k<9223372036854775807 by omega)]
  by_cases c:aft p (nth l (i:Int)) k=0
  ·rw[if_pos c,if_neg (by simp[c])];simp only[aa]
   rw[aL (by simp;omega)];rfl
  ·rw[if_neg c,if_pos (by simpa using c),TQ (by omega)];simp only[aa]
   by_cases d:aft p (nth l (i:Int)) k∈nbS l ((nxS p (nth l (i:Int))).take k)
   ·rw[if_pos d,if_neg (by simp),mD d];simp only[aa]
    rw[aL (by simp;omega)];rfl
   ·rw[if_neg d,if_pos (by decide),aL (by simp;omega),lz d];simp only[aa]
    rw[aL (by simp;omega)];simp only[nbI,pT d,aa]) (by
  unfold fA
  simp) (by unfold aW;omega)
 have e9:(nxS p (nth l (i:Int))).take 9=nxS p (nth l (i:Int)):=List.take_of_length_le (by omega)
 rw[e9] at this
 exact this
theorem Zg:jc p most=some (goM (nxS p) 1 (wA p) most (most+2) 0):=by
 unfold jc
 rcases Ku (nx:=nxS p) (first:=1) (acc:=wA p) (most:=most) (f:=fB p most)
  (by omega) h1 (fun i s=>s=(bfS (nxS p) 1 i,(i:Int),0,((bfS (nxS p) 1 i).take i).map (wA p),bfR (nxS p) 1 i)) (by
   rintro i s rfl hj hle hlt
   have hil:=EO hj
   have e:=Ss hl hb hm h1 (acs:=((bfS (nxS p) 1 i).take i).map (wA p)) (rws:=bfR (nxS p) 1 i) hlt hle
   have hl2:=(bQ (nx:=nxS p) (first:=1) i).length_le
   constructor
   ·intro hgt
    unfold fB
    simp only
    rw[if_pos (by simp;omega),ax e,<-kU hlt]
    simp only
    rw[if_pos (by simp;omega)]
   ·intro hle2
    unfold fB
    simp only
    rw[if_pos (by simp;omega),ax e,<-kU hlt]
    simp only
    rw[if_neg (by simp;omega),aG (by omega) (by omega)];simp only[aa]
    rw[ka (bQ i) (by omega) (by omega)]
    simp only[dM]
    rw[X0];simp only[aa]
    have hr:(bfR (nxS p) 1 i).length=i:=j7 hj
    rw[aL (by simp;omega)];simp only[aa]
    rw[aL (by simp;omega)];simp only[aa,af (show i<9223372036854775807 by omega)]
    exact ⟨_,rfl,by rw[zx hlt,wz hlt]⟩) (by
   rintro i s rfl hn
   unfold fB
   simp only
   rw[if_neg (by simp;omega)]) (s:=([1],0,0,[],[])) rfl with ⟨e,hg⟩ | ⟨N,s',e,rfl,hN,hNm,hg⟩
 ·rw[cJ e,hg]
 ·rw[ax e,hg];simp only
  rw[List.take_of_length_le (by have:=hN.1;omega)]
end
end D
namespace D
open Go.RowKit
theorem Su (m n:Int):orI m n=orI n m:=by unfold orI;rw[BitVec.or_comm]
def lk (F:List Int) (from_ to_:Int):Nat->List Int
 | 0=>F
 | i+1=>if Sq from_ i then (lk F from_ to_ i).set i (orI (nth (lk F from_ to_ i) (i:Int)) to_) else lk F from_ to_ i
theorem Bs (F:List Int) (f t:Int): ∀i,(lk F f t i).length=F.length
 | 0=>rfl
 | i+1=>by
  rw[lk]
  split
  ·rw[List.length_set,Bs]
  ·exact Bs F f t i
theorem TU {p:Hl} {f t:Int} (hl:p.2.2.2.1.length<=1000000):nE p f t=some (p.1,p.2.1,p.2.2.1,lk p.2.2.2.1 f t p.2.2.2.1.length,p.2.2.2.2):=by
 have hL:az (jb f t) aW (0,p.2.2.2.1)=some (.brk ((p.2.2.2.1.length:Int),lk p.2.2.2.1 f t p.2.2.2.1.length)):=bh (f:=jb f t) (fun i=>((i:Int),lk p.2.2.2.1 f t i)) p.2.2.2.1.length (fun i hi=>by
  have hk:=Bs p.2.2.2.1 f t i
  unfold jb
  simp only
  rw[if_pos (by simp;omega),sF];simp only[aa]
  rw[lk,af (by omega)]
  by_cases c:Sq f i=true
  ·rw[if_pos c,if_pos c,aG (by omega) (by omega)];simp only[aa,Int.toNat_natCast]
  ·rw[if_neg c,if_neg c];rfl) (by unfold jb;simp[Bs]) (ub (by omega))
 unfold nE
 rw[ax hL]
theorem Kv {p:Hl} {f t:Int} (hl:p.2.2.2.1.length<=1000000):dA p f t=some (p.1,p.2.1,p.2.2.1,lk p.2.2.2.1 f t p.2.2.2.1.length,p.2.2.2.2):=by
 have hL:az (cQ p f t) aW (0,p.2.2.2.1)=some (.brk ((p.2.2.2.1.length:Int),lk p.2.2.2.1 f t p.2.2.2.1.length)):=bh (f:=cQ p f t) (fun i=>((i:Int),lk p.2.2.2.1 f t i)) p.2.2.2.1.length (fun i hi=>by
  have hk:=Bs p.2.2.2.1 f t i
  unfold cQ
  simp only
  rw[if_pos (by simp;omega),sF];simp only[aa]
  rw[lk,af (by omega)]
  by_cases c:Sq f i=true
  ·rw[if_pos c,if_pos c,aG (by omega) (by omega)];simp only[aa,Int.toNat_natCast]
  ·rw[if_neg c,if_neg c];rfl) (by unfold cQ;simp) (ub (by omega))
 unfold dA
 rw[ax hL]
def BOk (x:Tr Tok):Prop:= ∀(n m:Nat) (p:Hl),(flat x).length<=n->(flat x).length<=m->p.2.2.2.1.length=p.1.length->p.1.length+(flat x).length<=100000->
 ∃(nu:Bool) (fi la:Int) (q:Hl),dh n p (flat x)=some ((nu,fi,la),q)/\bC m p x=some ((fi,la,nu),q)/\q.2.2.2.1.length=q.1.length/\q.1.length<=p.1.length+(flat x).length
theorem Sv {x:Tr Tok} (h:WT x):BOk x:=by
 refine WT.ind (p:=BOk) ?_ ?_ ?_ h
 ·intro t e n m p hn hm hF hl
  rw[Ci] at hn hm hl⊢
  simp only[ak,aF] at hl
  match n,m,hn,hm with
  | n+1,m+1,_,_ =>
   rw[dh,bC];simp only[pV,aa]
   have:=(nc (A:=[]) (t:=t) (by simp)).1
   rw[List.nil_append] at this
   rw[this];simp only[aa,dM]
   rcases n8 (show 0<=ar t by omega) with ⟨k,_⟩ | ⟨k,_⟩ | ⟨_,k⟩
   ·omega
   ·omega
   rcases k with k | k | k
   ·exact ⟨false,0,0,p,by simp[k],by simp[k],hF,by simp⟩
   ·exact ⟨true,0,0,p,by simp[k],by simp[k],hF,by simp⟩
   ·refine ⟨false,Ja 1 (p.1.length:Int),Ja 1 (p.1.length:Int),(p.1++ [t.2.1],p.2.1,p.2.2.1,p.2.2.2.1++ [0],p.2.2.2.2),?_,?_,by simp[hF],by simp⟩
    ·rw[if_neg (by simp[k]),if_pos (by simp[k]),aL (by simp;omega)];simp only[aa]
     rw[aL (by simp;omega)];rfl
    ·rw[if_neg (by simp[k]),if_pos (by simp[k]),aL (by simp;omega)];simp only[aa]
     rw[aL (by simp;omega)];rfl
 ·intro t a e wa ih n m p hn hm hF hl
  rw[EH] at hn hm hl⊢
  simp only[aq,ak,aF] at hn hm hl
  match n,m,hn,hm with
  | n+1,m+1,hn,hm =>
   rw[dh,bC];simp only[pV,aa,dM]
   obtain ⟨l1,l2⟩:=nc (A:=flat a) (t:=t) (by omega)
   rw[l1];simp only[aa]
   obtain ⟨nu,fi,la,q,hs,hi,hq1,hq2⟩:=ih n m p (by omega) (by omega) hF (by omega)
   rcases Sl e with ⟨k1,k2⟩ | ⟨k1,k2,k3⟩
   ·have g2:(t.1==2)=false:=by simp[k2]
    have g3:(t.1==3)=false:=by simp[k2]
    have g4:(t.1==4)=false:=by simp[k2]
    have g5:(t.1==5)=false:=by simp[k2]
    simp only[g2,g3,g4,g5,k1,Bool.false_eq_true,if_false,if_true]
    rw[l2,Int.toNat_natCast,List.take_left,chk_of (by simp only[aq,ak,aF];omega)];simp only[aa]
    rw[hs,show aQ [a] 0=some a from rfl];simp only[aa]
    rw[hi];simp only[aa,dM]
    rw[TU (by omega),Kv (by omega)];simp only[aa]
    refine ⟨true,fi,la,_,rfl,rfl,?_,?_⟩
    ·simp only[Bs];exact hq1
    ·simp only[aq,ak,aF];omega
   ·have g2:(t.1==2)=false:=by simp[k3]
    have g3:(t.1==3)=false:=by simp[k3]
    have g4:(t.1==4)=false:=by simp[k3]
    have g5:(t.1==5)=false:=by simp[k3]
    simp only[g2,g3,g4,g5,k1,Bool.false_eq_true,if_false]
    exact ⟨false,0,0,p,rfl,rfl,hF,by omega⟩
 ·intro t a b e wa wb iha ihb n m p hn hm hF hl
  rw[uS] at hn hm hl⊢
  have hl2:((flat a++flat b)++ [t]).length<=1000000:=by omega
  obtain ⟨p1,p2,p3,p4⟩:=Br (a:=a) (t:=t) wb hl2
  simp only[aq,ak,aF] at hn hm hl
  match n,m,hn,hm with
  | n+1,m+1,hn,hm =>
   have hpa:=wa.pos
   have hpb:=wb.pos
   rw[dh,bC];simp only[pV,aa,dM]
   obtain ⟨l1,l2⟩:=nc (A:=flat a++flat b) (t:=t) (by rw[aq];omega)
   rw[l1];simp only[aa]
   obtain ⟨nu,fi,la,q,hs,hi,hq1,hq2⟩:=iha n m p (by omega) (by omega) hF (by omega)
   obtain ⟨nu2,fi2,la2,q2,hs2,hi2,hq3,hq4⟩:=ihb n m q (by omega) (by omega) hq1 (by omega)
   have c1: ∀r:Int,0<=r->r<=((flat a++flat b++ [t]).length:Int)->chk (0<=r/\r<=((flat a++flat b++ [t]).length:Int))=some ():=fun r h1 h2=>chk_of ⟨h1,h2⟩
   have g0:aQ [a,b] 0=some a:=rfl
   have g1:aQ [a,b] 1=some b:=rfl
   rcases n8 (show 0<=ar t by omega) with ⟨_,k⟩ | ⟨k,_⟩ | ⟨k,_⟩
   ·rcases k with k | k
    ·have g2:(t.1==2)=false:=by simp[k]
     have g3:(t.1==3)=false:=by simp[k]
     have g4:(t.1==4)=true:=by simp[k]
     have g5:(t.1==5)=false:=by simp[k]
     simp only[g2,g3,g4,g5,Bool.false_eq_true,if_false,if_true]
     rw[l2,p1,p2,chk_of (by simp only[aq,ak,aF];omega)];simp only[aa]
     rw[chk_of (by simp only[aq,ak,aF];omega),p3,p4,hs,g0,g1];simp only[aa]
     rw[hi,chk_of (by simp only[aq,ak,aF];omega)];simp only[aa,dM]
     rw[hs2,hi2];simp only[aa,dM]
     rw[TU (by omega),Kv (by omega)];simp only[aa]
     refine ⟨nu&&nu2,if nu then orI fi fi2 else fi,if nu2 then orI la la2 else la2,(q2.1,q2.2.1,q2.2.2.1,lk q2.2.2.2.1 la fi2 q2.2.2.2.1.length,q2.2.2.2.2),?_,?_,?_,?_⟩
     ·cases nu <;> cases nu2 <;> rfl
     ·rw[Su la la2]
      cases nu <;> cases nu2 <;> rfl
     ·simp only[Bs];exact hq3
     ·simp only[aq,ak,aF];omega
    ·have g2:(t.1==2)=false:=by simp[k]
     have g3:(t.1==3)=false:=by simp[k]
     have g4:(t.1==4)=false:=by simp[k]
     have g5:(t.1==5)=true:=by simp[k]
     simp only[g2,g3,g4,g5,Bool.false_eq_true,if_false,if_true]
     rw[l2,p1,p2,chk_of (by simp only[aq,ak,aF];omega)];simp only[aa]
     rw[chk_of (by simp only[aq,ak,aF];omega),p3,p4,hs,g0,g1];simp only[aa]
     rw[hi,chk_of (by simp only[aq,ak,aF];omega)];simp only[aa,dM]
     rw[hs2,hi2];simp only[aa,dM]
     refine ⟨nu || nu2,orI fi fi2,orI la la2,q2,?_,?_,hq3,?_⟩
     ·cases nu <;> simp
     ·cases nu <;> simp
     ·simp only[aq,ak,aF];omega
   ·omega
   ·omega
def I1 (e:List Tok):Nat->Nat
 | 0=>0
 | i+1=>if (nth e (i:Int)).1=3 then I1 e i+1 else I1 e i
theorem I2 (e:List Tok): ∀i,I1 e i<=i
 | 0=>aC _
 | i+1=>by
  have:=I2 e i
  rw[I1];split <;> omega
theorem Zh {r:List Tok×Bool} (hl:r.1.length<=1000000):az (di r) aW (0,0)=some (.brk ((I1 r.1 r.1.length:Int),(r.1.length:Int))):=
 bh (f:=di r) (fun i=>((I1 r.1 i:Int),(i:Int))) r.1.length (fun i hi=>by
  have:=I2 r.1 i
  unfold di
  simp only
  rw[if_pos (by simp;omega),aG (by omega) (by omega)];simp only[aa]
  rw[I1,af (show i<9223372036854775807 by omega),af (show I1 r.1 i<9223372036854775807 by omega)]
  by_cases c:(nth r.1 (i:Int)).1=3
  ·rw[if_pos (by simpa using c),if_pos c];rfl
  ·rw[if_neg (by simpa using c),if_neg c];rfl) (by unfold di;simp) (ub (by omega))
theorem Zi {r:List Tok×Bool} (hl:r.1.length<=1000000):az (dk r) aW (0,0)=some (.brk ((I1 r.1 r.1.length:Int),(r.1.length:Int))):=
 bh (f:=dk r) (fun i=>((I1 r.1 i:Int),(i:Int))) r.1.length (fun i hi=>by
  have:=I2 r.1 i
  unfold dk
  simp only
  rw[if_pos (by simp;omega),aG (by omega) (by omega)];simp only[aa]
  rw[I1,af (show i<9223372036854775807 by omega),af (show I1 r.1 i<9223372036854775807 by omega)]
  by_cases c:(nth r.1 (i:Int)).1=3
  ·rw[if_pos (by simpa using c),if_pos c];rfl
  ·rw[if_neg (by simpa using c),if_neg c];rfl) (by unfold dk;simp) (ub (by omega))
theorem uV {e:List Tok} (he:e.length<=1048576): ∃r:Hl×Bool,gH e=some r/\gJ e=some r/\r.1.2.2.2.1.length=r.1.1.length/\r.1.1.length<=100000:=by
 have hF:=wx
 obtain ⟨e1,e2⟩:=IY he
 unfold gH gJ
 rw[e1,e2];simp only[aa]
 by_cases c:(LQ e).2=true
 ·obtain ⟨y,wy,ey,ly⟩:=Wa c
  rw[if_pos c,if_pos c,ax (Zh (by rw[ey];omega)),ax (Zi (by rw[ey];omega))]
  simp only
  by_cases d:(I1 (LQ e).1 (LQ e).1.length:Int)>20
  ·have d':decide ((I1 (LQ e).1 (LQ e).1.length:Int)>20)=true:=decide_eq_true d
   simp only[d',if_true]
   exact ⟨_,rfl,rfl,rfl,by simp⟩
  ·have d':decide ((I1 (LQ e).1 (LQ e).1.length:Int)>20)=false:=decide_eq_false d
   simp only[d',Bool.false_eq_true,if_false]
   rw[ey,EJ (by omega),xD wy];simp only[aa]
   obtain ⟨nu,fi,la,q,hs,hi,hq1,hq2⟩:=Sv wy gp gp ([],0,0,[],false) (by omega) (by omega) rfl (by simp;omega)
   rw[hs,hi];simp only[aa]
   exact ⟨_,rfl,rfl,hq1,by simp at hq2;show q.1.length<=_;omega⟩
 ·rw[if_neg c,if_neg c]
  exact ⟨_,rfl,rfl,rfl,by simp⟩
end D
namespace D
open Go.RowKit
theorem LS (n:Nat) (l:List Int) (hd:l.Nodup) (h: ∀x∈l,0<=x/\x<n):l.length<=n:=by
 have:=hd.length_le_of_subset (l₂:=(List.range n).map Int.ofNat) (fun x hx=>by
  obtain ⟨h0,h1⟩:=h x hx
  exact List.mem_map.2 ⟨x.toNat,List.mem_range.2 (by omega),by show ((x.toNat:Nat):Int)=x;omega⟩)
 simpa using this
theorem X4 {n:Nat} {x:Int} (hn:n<=1000000) (h0:0<=x) (h1:x<n):iOk x=true:=by
 have:=Py (n:=x.toNat) (by omega)
 rwa [show ((x.toNat:Nat):Int)=x from by omega] at this
theorem X5 {κ:Type} [DecidableEq κ] {nx:κ->List (Option κ)} {first:κ} {G:κ->Prop} {B N:Nat} {acc:κ->Bool} (H:NumOk nx first G B) (hB:B<=1000000) (hN:bfE nx first N):Data.sm ((0,(bfS nx first N).map acc,bfR nx first N):AutT):=by
 have hl:=H.bound _ (nZ (nx:=nx) (first:=first) N) (kR H.g0 H.gn N)
 refine ⟨trivial,⟨by rw[List.length_map];omega,fun _ _=>trivial⟩,?_,?_⟩
 ·rw[j7 hN.2];have:=hN.1;omega
 ·have key: ∀i,i<=N-> ∀r∈bfR nx first i,r.length=9:=by
   intro i
   induction i with
   | zero=>intro _ r hr;cases hr
   | succ i ih =>
    intro hi r hr
    have hlt:=hN.2 i (by omega)
    rw[wk hlt] at hr
    rcases aI hr with hr | hr
    ·exact ih (by omega) r hr
    ·obtain rfl:=aw hr
     rw[eK,H.len _ (kR H.g0 H.gn i _ (List.getElem_mem hlt))]
  intro r hr
  exact ⟨by rw[key N (aC _) r hr];decide,fun _ _=>trivial⟩
theorem LU:Data.sm nothing:=⟨trivial,⟨by decide,fun _ _=>trivial⟩,by decide,fun r hr=>by
 obtain rfl:=aw hr
 exact ⟨by decide,fun _ _=>trivial⟩⟩
end D
namespace D
open Go.RowKit
theorem LW {κ:Type} [DecidableEq κ] {l m:List κ} (h:l <+:m) {y:κ} (hy:y∈l):(m.idxOf y:Int)=l.idxOf y:=by
 obtain ⟨t,rfl⟩:=h
 rw[List.idxOf_append,if_pos hy]
theorem TV {κ:Type} [DecidableEq κ] : ∀(l:List κ) (os:List (Option κ)) (i:Nat),i<os.length->nth (nbR l os) (i:Int)=nbI (nbS l os) (nth os (i:Int))
 | l,o::os,0,_=>by
  show nbI l o=nbI (nbS (nbL l o) os) o
  cases o with
  | none=>rfl
  | some y =>
   have hm:y∈nbL l (some y):=OL.2 (.inr rfl)
   simp only[nbI]
   rw[LW (lx _ os) hm]
   by_cases c:y∈l
   ·rw[mD c]
   ·rw[lz c,List.idxOf_append,if_neg c,pT c];simp
 | l,o::os,i+1,h=>by
  have h':i<os.length:=by simpa using h
  have ih:=TV (nbL l o) os i h'
  have e1:nth (nbR l (o::os)) ((i+1:Nat):Int)=nth (nbR (nbL l o) os) (i:Int):=by
   rw[bX (by rw[eK];exact h),bX (by rw[eK];exact h')];rfl
  have e2:nth (o::os) ((i+1:Nat):Int)=nth os (i:Int):=by rw[bX h,bX h'];rfl
  rw[e1,e2];exact ih
theorem o6 {κ:Type} [DecidableEq κ] {l:List κ} {y:κ} (h:y∈l): ∃(q:Nat) (hq:q<l.length),nbI l (some y)=(q:Int)/\l[q] =y:=
 ⟨l.idxOf y,List.idxOf_lt_length_of_mem h,rfl,by simp⟩
theorem EP {κ:Type} [DecidableEq κ] {l:List κ} {y:κ} (h:y∉l):nbI l (some y)=(l.length:Int):=by simp only[nbI,pT h]
def TW:List Int->Nat->Nat->Prop
 | [],c,m=>c=m
 | x::xs,c,m=>(x= -1/\TW xs c m)\/(0<=x/\x<c/\TW xs c m)\/(x=c/\TW xs (c+1) m)
theorem ER {κ:Type} [DecidableEq κ] : ∀(os:List (Option κ)) (l:List κ),TW (nbR l os) l.length (nbS l os).length
 | [],l=>rfl
 | none::os,l=>.inl ⟨rfl,ER os l⟩
 | some y::os,l=>by
  by_cases c:y∈l
  ·refine .inr (.inl ⟨Int.natCast_nonneg _,?_,?_⟩)
   ·have:=List.idxOf_lt_length_of_mem c
    simp only[nbI];omega
   ·show TW (nbR (nbL l (some y)) os) l.length (nbS (nbL l (some y)) os).length
    rw[mD c];exact ER os l
  ·refine .inr (.inr ⟨by simp only[nbI,pT c],?_⟩)
   show TW (nbR (nbL l (some y)) os) (l.length+1) (nbS (nbL l (some y)) os).length
   have:=ER os (l++ [y])
   rw[lz c]
   simpa using this
def YE:List Int->List (Option (List Int))->Prop
 | [],[] =>True
 | x::xs,o::os=>((x<0/\o=none)\/(0<=x/\ ∃t,o=some (x::t)))/\YE xs os
 | _,_=>False
theorem PC: ∀(xs:List Int) (os:List (Option (List Int))),xs.length=os.length->(∀i (h:i<xs.length) (h':i<os.length),(xs[i] < 0/\os[i] =none)\/(0<=xs[i] /\ ∃t,os[i] =some (xs[i] ::t)))->YE xs os
 | [],[],_,_=>trivial
 | x::xs,o::os,hl,h=>⟨h 0 (by simp) (by simp),PC xs os (by simpa using hl) fun i h1 h2=>h (i+1) (by simpa using h1) (by simpa using h2)⟩
theorem n9: ∀(xs:List Int) (os:List (Option (List Int))) (l:List (List Int)) (c m:Nat),YE xs os->TW xs c m->(∀y∈l,∃h t,y=h::t/\h<c)->
  m+l.length<=(nbS l os).length+c/\(l.length=c->(∀(q:Nat) (hq:q<l.length),∃t,l[q] =(q:Int)::t)->(nbS l os).length=m->nbR l os=xs)
 | [],[],l,c,m,_,hn,_=>by
  have hn:c=m:=hn
  subst hn
  exact ⟨by simp[nbS];omega,fun _ _ _=>rfl⟩
 | x::xs,o::os,l,c,m,hr,hn,hh=>by
  obtain ⟨hr1,hr2⟩:=hr
  rcases hn with ⟨rfl,hn⟩ | ⟨hx0,hxc,hn⟩ | ⟨rfl,hn⟩
  ·have ho:o=none:=by
    rcases hr1 with ⟨-,h⟩ | ⟨h,-⟩
    ·exact h
    ·omega
   subst ho
   obtain ⟨i1,i2⟩:=n9 xs os l c m hr2 hn hh
   exact ⟨i1,fun h1 h2 h3=>by show -1::nbR l os=_;rw[i2 h1 h2 h3]⟩
  ·obtain ⟨t,rfl⟩: ∃t,o=some (x::t):=by
    rcases hr1 with ⟨h,-⟩ | ⟨-,h⟩
    ·omega
    ·exact h
   by_cases k:(x::t)∈l
   ·obtain ⟨i1,i2⟩:=n9 xs os l c m hr2 hn hh
    have hb:nbL l (some (x::t))=l:=mD k
    refine ⟨by show m+l.length<=(nbS (nbL l (some (x::t))) os).length+c;rw[hb];exact i1,fun h1 h2 h3=>?_⟩
    have h3:(nbS (nbL l (some (x::t))) os).length=m:=h3
    rw[hb] at h3
    obtain ⟨q,hq,e1,e2⟩:=o6 k
    obtain ⟨t',ht'⟩:=h2 _ hq
    rw[e2] at ht'
    have:x=(q:Int):=by injection ht'
    show nbI l (some (x::t))::nbR (nbL l (some (x::t))) os=_
    rw[e1,<-this,hb,i2 h1 h2 h3]
   ·have hb:nbL l (some (x::t))=l++ [x::t]:=lz k
    obtain ⟨i1,i2⟩:=n9 xs os (l++ [x::t]) c m hr2 hn (fun y hy=>by
     rcases aI hy with hy | hy
     ·exact hh y hy
     ·obtain rfl:=aw hy
      exact ⟨x,t,rfl,hxc⟩)
    rw[aq,List.length_singleton] at i1
    refine ⟨by show m+l.length<=(nbS (nbL l (some (x::t))) os).length+c;rw[hb];omega,fun h1 h2 h3=>?_⟩
    have h3:(nbS (nbL l (some (x::t))) os).length=m:=h3
    rw[hb] at h3
    omega
  ·obtain ⟨t,rfl⟩: ∃t,o=some ((c:Int)::t):=by
    rcases hr1 with ⟨h,-⟩ | ⟨-,h⟩
    ·omega
    ·exact h
   have k:((c:Int)::t)∉l:=fun k=>by
    obtain ⟨h,t',e,hlt⟩:=hh _ k
    have:(c:Int)=h:=by injection e
    omega
   have hb:nbL l (some ((c:Int)::t))=l++ [(c:Int)::t]:=lz k
   obtain ⟨i1,i2⟩:=n9 xs os (l++ [(c:Int)::t]) (c+1) m hr2 hn (fun y hy=>by
    rcases aI hy with hy | hy
    ·obtain ⟨h,t',e,hlt⟩:=hh y hy
     exact ⟨h,t',e,by omega⟩
    ·obtain rfl:=aw hy
     exact ⟨c,t,rfl,by omega⟩)
   have hlen:(l++ [(c:Int)::t]).length=l.length+1:=by simp
   rw[hlen] at i1
   refine ⟨by show m+l.length<=(nbS (nbL l (some ((c:Int)::t))) os).length+c;rw[hb];omega,fun h1 h2 h3=>?_⟩
   have h3:(nbS (nbL l (some ((c:Int)::t))) os).length=m:=h3
   rw[hb] at h3
   have:=i2 (by rw[hlen,h1]) (fun q hq=>by
    by_cases e:q<l.length
    ·rw[List.getElem_append_left e];exact h2 q e
    ·have e:q=l.length:=by omega
     subst e
     exact ⟨t,by simp;omega⟩) h3
   show nbI l (some ((c:Int)::t))::nbR (nbL l (some ((c:Int)::t))) os=_
   rw[hb,this,EP k,h1]
theorem ES (xs ys:List Int) (hN:xs.length<=1048576): ∃r,nC xs ys=some r/\(r=0↔xs=ys):=by
 unfold nC
 have h0:=XH (f:=ot xs ys) xs ys (fun i h h'=>by
  simp only[ot,bM h,bM h',if_true,aE h,aE h',aa,af (show i<9223372036854775807 by omega)]
  by_cases h1:xs[i] < ys[i]
  ·simp[h1]
  ·by_cases h2:xs[i] > ys[i]
   ·simp[h1,h2]
   ·simp[h1,h2]) (fun i hi=>by
  simp only[ot]
  by_cases h1:i<xs.length
  ·have h2: ¬i<ys.length:=by omega
   simp[h1,h2]
  ·simp[h1]) xs.length 0 aW (by omega) (dK _ (by omega))
 rw[show (((0:Nat):Int))=(0:Int) from rfl] at h0
 rcases h0 with ⟨r,e,h1,h2⟩ | ⟨s,e,h1⟩
 ·exact ⟨r,by rw[e];rfl,by simp[h1,h2]⟩
 ·rw[e]
  simp only[aP]
  by_cases c1:xs.length<ys.length
  ·exact ⟨-1,by simp[c1],by simp;intro e;subst e;omega⟩
  ·by_cases c2:xs.length>ys.length
   ·exact ⟨1,by simp[c1,c2],by simp;intro e;subst e;omega⟩
   ·exact ⟨0,by simp[c1,c2],by simpa using h1 (by omega)⟩
theorem Bt (xs ys:List Int) (hN:xs.length<=9223372036854775807):cd xs ys=some (decide (xs=ys)):=
 eqL (f:=cy xs ys) xs ys hN (fun i h h'=>by
  simp only[cy,bM h,if_true,aE h,aE h',aa,af (show i<9223372036854775807 by omega)]
  by_cases c:xs[i] =ys[i] <;> simp[c]) (by simp only[cy,bq];rfl)
def Mc (a:AutT):List Int:=(List.range a.2.1.length).map fun s:Nat=>if nth (live a) (s:Int)=true then (if nth a.2.1 (s:Int)=true then 1 else 0) else -1
def ent (a:AutT) (c:List Int) (s:Int) (k:Nat):Int:=if mv a s k<0 then -1 else nth c (mv a s k)
def ET (a:AutT) (c:List Int) (s:Int):List Int:=nth c s::(List.range 9).map fun k=>ent a c s k
def E4 (a:AutT) (c:List Int) (s:Nat):Option (List Int):=if nth c (s:Int)<0 then none else some (ET a c s)
def keys (a:AutT) (c:List Int):List (Option (List Int)):=(List.range a.2.1.length).map (E4 a c)
def C5 (a:AutT) (c:List Int):List Int:=nbR [] (keys a c)
def zy (a:AutT) (c:List Int):Nat:=(nbS [] (keys a c)).length
def cI (a:AutT):Nat->List Int
 | 0=>Mc a
 | j+1=>C5 a (cI a j)
section
variable {a:AutT} {n:Nat}
theorem dW (a:AutT) (c:List Int):(keys a c).length=a.2.1.length:=by simp[keys]
theorem I3 {c:List Int} {s:Nat} (h:s<a.2.1.length):nth (keys a c) (s:Int)=E4 a c s:=by
 rw[bX (by simpa [keys] using h)];simp[keys]
theorem Bu (a:AutT) (c:List Int):(C5 a c).length=a.2.1.length:=by rw[C5,eK,dW]
theorem oc (a:AutT): ∀j,(cI a j).length=a.2.1.length
 | 0=>by simp[cI,Mc]
 | j+1=>Bu a _
theorem qF {κ:Type} [DecidableEq κ] : ∀(l:List κ) (os:List (Option κ)),(nbS l os).length<=l.length+os.length
 | l,[] =>by simp[nbS]
 | l,o::os=>by
  have h:=qF (nbL l o) os
  have:(nbL l o).length<=l.length+1:=by
   cases o with
   | none=>simp[nbL]
   | some x=>unfold nbL;simp only;split <;> simp
  show (nbS (nbL l o) os).length<=_
  rw[ak];omega
theorem I4 (a:AutT) (c:List Int):zy a c<=a.2.1.length:=by
 have:=qF ([] :List (List Int)) (keys a c)
 rw[dW] at this
 simpa [zy] using this
theorem EU {c:List Int} {s:Nat} (h:s<a.2.1.length):nth (C5 a c) (s:Int)=nbI (nbS [] (keys a c)) (E4 a c s):=by
 rw[C5,TV _ _ _ (by rw[dW];exact h),I3 h]
theorem Bv {c:List Int} {s:Nat} (h:s<a.2.1.length) (hc: ¬nth c (s:Int)<0):ET a c s∈nbS [] (keys a c):=by
 refine xx.2 (.inr ?_)
 refine List.mem_map.2 ⟨s,List.mem_range.2 h,?_⟩
 unfold E4;rw[if_neg hc]
theorem zz {c:List Int} {s:Nat} (h:s<a.2.1.length):(nth (C5 a c) (s:Int)<0↔nth c (s:Int)<0)/\(nth (C5 a c) (s:Int)<0->nth (C5 a c) (s:Int)= -1):=by
 rw[EU h]
 unfold E4
 by_cases hc:nth c (s:Int)<0
 ·rw[if_pos hc];simp[nbI,hc]
 ·rw[if_neg hc]
  obtain ⟨q,hq,e,-⟩:=o6 (Bv h hc)
  rw[e]
  exact ⟨⟨fun h=>by omega,fun h=>absurd h hc⟩,fun h=>by omega⟩
theorem Wg {c:List Int} {s:Nat} (h:s<a.2.1.length):nth (C5 a c) (s:Int)<(a.2.1.length:Int):=by
 rw[EU h]
 unfold E4
 by_cases hc:nth c (s:Int)<0
 ·rw[if_pos hc];simp only[nbI];omega
 ·rw[if_neg hc]
  obtain ⟨q,hq,e,-⟩:=o6 (Bv h hc)
  have:=I4 a c
  unfold zy at this
  rw[e];omega
theorem PD {c:List Int} {s t:Nat} (hs:s<a.2.1.length) (ht:t<a.2.1.length) (h0:0<=nth (C5 a c) (s:Int)) (h:nth (C5 a c) (s:Int)=nth (C5 a c) (t:Int)):ET a c s=ET a c t:=by
 have n1: ¬nth c (s:Int)<0:=fun k=>by have:=(zz hs).1.2 k;omega
 have n2: ¬nth c (t:Int)<0:=fun k=>by have:=(zz ht).1.2 k;omega
 rw[EU hs,EU ht] at h
 unfold E4 at h
 rw[if_neg n1,if_neg n2] at h
 obtain ⟨q,hq,e1,e2⟩:=o6 (Bv hs n1)
 obtain ⟨q',hq',e1',e2'⟩:=o6 (Bv ht n2)
 rw[e1,e1'] at h
 obtain rfl:q=q':=by omega
 rw[<-e2,<-e2']
theorem C6 (a:AutT) {s:Nat} (h:s<a.2.1.length): ∀j,(nth (cI a j) (s:Int)<0↔nth (live a) (s:Int)=false)/\(nth (cI a j) (s:Int)<0->nth (cI a j) (s:Int)= -1)
 | 0=>by
  have e:nth (cI a 0) (s:Int)=if nth (live a) (s:Int)=true then (if nth a.2.1 (s:Int)=true then 1 else 0) else -1:=by
   show nth (Mc a) (s:Int)=_
   rw[bX (by simpa [Mc] using h)];simp[Mc]
  rw[e]
  cases nth (live a) (s:Int) <;> cases nth a.2.1 (s:Int) <;> simp
 | j+1=>by
  have ih:=C6 a h j
  have:=zz (c:=cI a j) h
  exact ⟨this.1.trans ih.1,this.2⟩
theorem TX (a:AutT) {s t:Nat} (hs:s<a.2.1.length) (ht:t<a.2.1.length): ∀j,0<=nth (cI a j) (s:Int)->nth (cI a j) (s:Int)=nth (cI a j) (t:Int)->nth a.2.1 (s:Int)=nth a.2.1 (t:Int)
 | 0,h0,h=>by
  have e: ∀ {s:Nat},s<a.2.1.length->nth (cI a 0) (s:Int)=if nth (live a) (s:Int)=true then (if nth a.2.1 (s:Int)=true then 1 else 0) else -1:=by
   intro s h
   show nth (Mc a) (s:Int)=_
   rw[bX (by simpa [Mc] using h)];simp[Mc]
  rw[e hs] at h0 h
  rw[e ht] at h
  revert h0 h
  cases nth (live a) (s:Int) <;> cases nth a.2.1 (s:Int) <;> cases nth (live a) (t:Int) <;> cases nth a.2.1 (t:Int) <;> simp
 | j+1,h0,h=>by
  have k:=PD (c:=cI a j) hs ht h0 h
  have h1:nth (cI a j) (s:Int)=nth (cI a j) (t:Int):=by
   unfold ET at k;injection k
  refine TX a hs ht j ?_ h1
  have:=(zz (c:=cI a j) hs).1
  by_cases q:nth (cI a j) (s:Int)<0
  ·have:=this.2 q
   have h0:0<=nth (C5 a (cI a j)) (s:Int):=h0
   omega
  ·omega
theorem Wh (a:AutT) (j:Nat):TW (cI a (j+1)) 0 (zy a (cI a j)):=ER (keys a (cI a j)) []
theorem Sw (a:AutT) {c:List Int} (hc:c.length=a.2.1.length):YE c (keys a c):=by
 refine PC _ _ (by rw[dW,hc]) fun i h h'=>?_
 have e1:c[i] =nth c (i:Int):=(bX h).symm
 have e2:(keys a c)[i] =E4 a c i:=by simp[keys]
 rw[e1,e2]
 unfold E4
 by_cases k:nth c (i:Int)<0
 ·exact .inl ⟨k,by rw[if_pos k]⟩
 ·exact .inr ⟨by omega,_,by rw[if_neg k];rfl⟩
theorem PE (a:AutT) (j:Nat):zy a (cI a j)<=zy a (cI a (j+1))/\(zy a (cI a (j+1))=zy a (cI a j)->cI a (j+2)=cI a (j+1)):=by
 obtain ⟨h1,h2⟩:=n9 (cI a (j+1)) (keys a (cI a (j+1))) [] 0 (zy a (cI a j)) (Sw a (oc a _)) (Wh a j) (fun y hy=>by cases hy)
 exact ⟨by simpa [zy] using h1,fun h=>h2 rfl (fun q hq=>absurd hq (Nat.not_lt_zero q)) h⟩
theorem TY {j k:Nat} (h:cI a (j+1)=cI a j) (hk:j<=k):cI a k=cI a j:=by
 induction hk with
 | refl=>rfl
 | step _ ih=>rw[cI,ih];exact h
theorem PF {j k:Nat} (h:cI a (j+1)=cI a j) (h':cI a (k+1)=cI a k):cI a j=cI a k:=by
 rcases Nat.le_total j k with e | e
 ·exact (TY h e).symm
 ·exact TY h' e
theorem Wi (a:AutT): ∃j,j<=a.2.1.length/\cI a (j+1)=cI a j:=by
 by_cases h0:cI a 1=cI a 0
 ·exact ⟨0,Nat.zero_le _,h0⟩
 have hpos:1<=zy a (cI a 0):=by
  refine Nat.one_le_iff_ne_zero.2 fun hz=>h0 ?_
  have hnone: ∀s:Nat,s<a.2.1.length->nth (cI a 0) (s:Int)<0:=fun s hs=>by
   refine Classical.byContradiction fun k=>?_
   have:=Bv (c:=cI a 0) hs k
   have hl:=List.length_pos_of_mem this
   unfold zy at hz;omega
  refine VV (by rw[oc,oc]) fun i hi=>?_
  rw[oc] at hi
  have h1:=(C6 a hi 0).2 (hnone i hi)
  have h2:=(C6 a hi 1).2 (((C6 a hi 1).1.trans (C6 a hi 0).1.symm).2 (hnone i hi))
  rw[h1,h2]
 have key: ∀m,(∃j,j<=m/\cI a (j+1)=cI a j)\/m+1<=zy a (cI a m):=by
  intro m
  induction m with
  | zero=>exact .inr hpos
  | succ m ih =>
   rcases ih with ⟨j,hj,e⟩ | ih
   ·exact .inl ⟨j,by omega,e⟩
   ·obtain ⟨g1,g2⟩:=PE a m
    by_cases e:zy a (cI a (m+1))=zy a (cI a m)
    ·exact .inl ⟨m+1,aC _,g2 e⟩
    ·exact .inr (by omega)
 rcases key a.2.1.length with h | h
 ·exact h
 ·have:=I4 a (cI a a.2.1.length);omega
end
end D
namespace D
open Go.RowKit
section
variable {a:AutT} {n:Nat} {c:List Int}
theorem Kw (k:Nat) (s:Int):(List.range (k+1)).map (fun k=>ent a c s k)=(List.range k).map (fun k=>ent a c s k)++ [ent a c s k]:=by simp[List.range_succ]
theorem Zj (V:VA a n) (hn:n<=1000000) (hc:c.length=n) {s:Nat} (hs:s<n):po a c s=some (ET a c s):=by
 unfold po
 rw[aG (by omega) (by omega)];simp only[aa]
 have:=bh (f:=mP a c s) (fun k=>(nth c (s:Int)::(List.range k).map (fun k=>ent a c s k),(k:Int))) 9 (fun k hk=>by
  have hm:=V.mv (s:=s) (k:=k) (by omega) (by omega) hk
  unfold mP
  simp only
  rw[if_pos (by simp;omega),V.get (by omega) (by omega)];simp only[aa]
  rw[V.get2 (by omega) (by omega) hk,Kw];simp only[aa,af (show k<9223372036854775807 by omega)]
  by_cases h:mv a s k<0
  ·rw[if_pos (by simpa using h),aL (by simp;omega),show ent a c s k= -1 from by unfold ent;rw[if_pos h]];rfl
  ·rw[if_neg (by simpa using h),aG (by omega) (by omega)];simp only[aa]
   rw[aL (by simp;omega),show ent a c s k=nth c (mv a s k) from by unfold ent;rw[if_neg h]];rfl) (by unfold mP;simp) (by unfold aW;omega)
 exact ax this
theorem Zk (V:VA a n) (hn:n<=1000000) (hc:c.length=n) {s:Nat} (hs:s<n):az (cR c (nth a.2.2 (s:Int))) aW (0,[nth c (s:Int)])=some (.brk (9,ET a c s)):=by
 have hr:=V.rowAt (s:=s) (by omega) (by omega)
 exact bh (f:=cR c (nth a.2.2 (s:Int))) (fun k=>((k:Int),nth c (s:Int)::(List.range k).map (fun k=>ent a c s k))) 9 (fun k hk=>by
  have hm:=V.mv (s:=s) (k:=k) (by omega) (by omega) hk
  unfold cR
  simp only
  rw[if_pos (by simp[hr];omega),V.get2 (by omega) (by omega) hk,Kw];simp only[aa,af (show k<9223372036854775807 by omega)]
  by_cases h:mv a s k<0
  ·have e:mv a s k= -1:=by omega
   rw[if_neg (by simp;omega)];simp only[aa]
   rw[aL (by simp;omega),show ent a c s k=mv a s k from by unfold ent;rw[if_pos h,e]];rfl
  ·rw[if_pos (by simp;omega),aG (by omega) (by omega)];simp only[aa]
   rw[aL (by simp;omega),show ent a c s k=nth c (mv a s k) from by unfold ent;rw[if_neg h]];rfl) (by unfold cR;simp[hr]) (by unfold aW;omega)
theorem Hc {κ:Type} [DecidableEq κ] {l t r:List κ} {x:κ} (e:l=t++x::r) (hx:x∉t):nbI l (some x)=(t.length:Int):=by
 subst e
 simp only[nbI]
 rw[List.idxOf_append,if_neg hx,List.idxOf_cons_self,Nat.zero_add]
def X6 (l:List (List Int)) (x:List Int):Int:=if x∈l then nbI l (some x) else -1
theorem X7 {l:List (List Int)} {x cs:List Int} {q:Int} (hl:l.length<=1000000) (hd:l.Nodup) (hx: ∀y∈l,y.length<=1048576):az (fD (l,cs,q) x) aW (-1,0)=some (.brk (X6 l x,(l.length:Int))):=by
 have:=bh (f:=fD (l,cs,q) x) (fun k=>(if x∈l.take k then nbI l (some x) else -1,(k:Int))) l.length (fun k hk=>by
  unfold fD
  simp only
  rw[if_pos (by simp;omega),aG (by omega) (by omega)];simp only[aa,Int.toNat_natCast,af (show k<9223372036854775807 by omega)]
  obtain ⟨r,e,hr⟩:=ES (nth l (k:Int)) x (hx _ (cv (by omega) (by omega)))
  rw[e,take_one hk];simp only[aa,List.mem_append,List.mem_singleton]
  by_cases h:nth l (k:Int)=x
  ·have h0:r=0:=hr.2 h
   have hm:x∈l:=h ▸ cv (by omega) (by omega)
   obtain ⟨q,hq,e1,e2⟩:=o6 hm
   have:q=k:=by
    have h1:l[q]? =some x:=by rw[List.getElem?_eq_getElem hq,e2]
    have h2:l[k]? =some x:=by rw[List.getElem?_eq_getElem hk,<-bX hk,h]
    exact (List.getElem?_inj hq hd).1 (h1.trans h2.symm)
   subst this
   rw[if_pos (by simp[h0]),if_pos (.inr h.symm),e1];rfl
  ·have h0:r≠0:=fun e=>h (hr.1 e)
   have hn: ¬x=nth l (k:Int):=fun e=>h e.symm
   rw[if_neg (by simpa using h0)]
   simp[hn]) (by unfold fD;simp) (ub (by omega))
 rw[List.take_of_length_le (aC _)] at this
 exact this
theorem X8 {l:List (List Int)} {x:List Int} {f:List Int->Option Bool} (hl:l.length<=1000000) (hf: ∀y∈l,f y=some (decide (y=x))):bU l f=some (X6 l x):=by
 unfold bU
 obtain ⟨o,e,hq⟩:=cV (f:=cf l f) (fun k s=>s=(k:Int)/\x∉l.take k) (fun o=>(x∈l/\o= .ret (nbI l (some x)))\/(x∉l/\ ∃s,o= .brk s)) l.length (s:=0) (by
  rintro k s hk ⟨rfl,hx⟩
  unfold cf
  by_cases hkl:k<l.length
  ·rw[if_pos (by simp;omega),aG (by omega) (by omega)];simp only[aa]
   rw[hf _ (cv (by omega) (by omega))];simp only[aa]
   by_cases h:nth l (k:Int)=x
   ·refine .inr ⟨_,by rw[if_pos (by simpa using h)],(fun s' e=>by cases e),.inl ?_⟩
    have hm:x∈l:=h ▸ cv (by omega) (by omega)
    refine ⟨hm,?_⟩
    have e:l=l.take k++(x::l.drop (k+1)):=by
     rw[<-h,bX hkl,<-List.drop_eq_getElem_cons hkl,List.take_append_drop]
    rw[Hc e hx,aB,Nat.min_eq_left (by omega)]
   ·refine .inl ⟨hkl,_,by rw[if_neg (by simpa using h)],by rw[af (by omega)],?_⟩
    rw[take_one hkl,List.mem_append,List.mem_singleton]
    rintro (h' | h')
    ·exact hx h'
    ·exact h h'.symm
  ·refine .inr ⟨_,by rw[if_neg (by simp;omega)],(fun s' e=>by cases e),.inr ⟨?_,_,rfl⟩⟩
   rwa [List.take_of_length_le (by omega)] at hx) ⟨rfl,by simp⟩ (ub (by omega))
 unfold X6
 rcases hq with ⟨hx,rfl⟩ | ⟨hx,s,rfl⟩
 ·rw[cJ e,if_pos hx]
 ·rw[ax e,if_neg hx]
theorem Bw {os:List (Option (List Int))} (h: ∀y,some y∈os->y.length=10): ∀y∈nbS [] os,y.length=10:=fun y hy=>by
 rcases xx.1 hy with hy | hy
 ·cases hy
 ·exact h y hy
theorem C7 (a:AutT) (c:List Int): ∀y,some y∈keys a c->y.length=10:=by
 intro y hy
 obtain ⟨s,-,e⟩:=List.mem_map.1 hy
 unfold E4 at e
 split at e
 ·cases e
 ·rw[<-ae e];simp[ET]
section
variable (V:VA a n) (hn:n<=1000000) (hc:c.length=n)
include V hn hc
theorem Kx (s:Nat):(nbS [] ((keys a c).take s)).length<=n:=by
 have:=qF ([] :List (List Int)) ((keys a c).take s)
 rw[aB,dW,V.len] at this
 simp at this;omega
theorem Sx {m:Int} :az (fE a (c,m)) aW ([],[],0)=some (.brk (nbS [] (keys a c),C5 a c,(n:Int))):=by
 have hlen:=V.len
 have:=bh (f:=fE a (c,m)) (fun s=>(nbS [] ((keys a c).take s),nbR [] ((keys a c).take s),(s:Int))) n (fun s hs=>by
  have hkl:=Kx V hn hc s
  have hrl:(nbR [] ((keys a c).take s)).length<=n:=by rw[eK,aB,dW];omega
  unfold fE
  simp only
  rw[if_pos (by simp;omega),aG (by omega) (by omega)];simp only[aa]
  rw[take_one (by rw[dW];omega),wj,tf,I3 (by omega)]
  simp only[af (show s<9223372036854775807 by omega)]
  by_cases h:nth c (s:Int)<0
  ·rw[if_pos (by simpa using h),aL (by simp;omega),show E4 a c s=none from by unfold E4;rw[if_pos h]];rfl
  ·rw[if_neg (by simpa using h),show E4 a c s=some (ET a c s) from by unfold E4;rw[if_neg h]]
   rw[show po (a.1,a.2.1,a.2.2) c (s:Int)=some (ET a c s) from Zj V hn hc hs];simp only[aa]
   rw[ax (X7 (by omega) (sB (by simp)) (fun y hy=>by rw[Bw (fun y hy=>C7 a c y (List.mem_of_mem_take hy)) y hy];decide))]
   simp only
   unfold X6
   by_cases k:ET a c s∈nbS [] ((keys a c).take s)
   ·obtain ⟨q,hq,e1,e2⟩:=o6 k
    rw[if_pos k,mD k,e1,if_neg (by simp)];simp only[aa]
    rw[aL (by simp;omega)];rfl
   ·rw[if_neg k,lz k,EP k,if_pos (show decide ((-1:Int)<0)=true from rfl),aL (by simp;omega)];simp only[aa]
    rw[aL (by simp;omega)];rfl) (by
  unfold fE
  simp only
  rw[if_neg (by simp;omega)]) (ub (by omega))
 rw[show (keys a c).take n=keys a c from List.take_of_length_le (by rw[dW];omega)] at this
 exact this
theorem Sy:dB a c=some (C5 a c,(zy a c:Int)):=by
 have hlen:=V.len
 unfold dB
 have:=bh (f:=dE a c) (fun s=>(nbS [] ((keys a c).take s),nbR [] ((keys a c).take s),(s:Int))) n (fun s hs=>by
  have hkl:=Kx V hn hc s
  have hrl:(nbR [] ((keys a c).take s)).length<=n:=by rw[eK,aB,dW];omega
  unfold dE
  simp only
  rw[if_pos (by simp;omega),aG (by omega) (by omega)];simp only[aa]
  rw[take_one (by rw[dW];omega),wj,tf,I3 (by omega)]
  simp only[af (show s<9223372036854775807 by omega)]
  by_cases h:nth c (s:Int)<0
  ·rw[if_pos (by simpa using h),aL (by simp;omega),show E4 a c s=none from by unfold E4;rw[if_pos h]];rfl
  ·rw[if_neg (by simpa using h),show E4 a c s=some (ET a c s) from by unfold E4;rw[if_neg h],V.get (by omega) (by omega)];simp only[aa]
   rw[ax (Zk V hn hc hs)];simp only
   rw[X8 (x:=ET a c s) (by omega) (fun y hy=>by
    unfold gE
    rw[Bt _ _ (by rw[Bw (fun y hy=>C7 a c y (List.mem_of_mem_take hy)) y hy];decide)];rfl)];simp only[aa]
   unfold X6
   by_cases k:ET a c s∈nbS [] ((keys a c).take s)
   ·obtain ⟨q,hq,e1,e2⟩:=o6 k
    rw[if_pos k,mD k,e1,if_neg (by simp)];simp only[aa]
    rw[aL (by simp;omega)];rfl
   ·rw[if_neg k,lz k,EP k,if_pos (show decide ((-1:Int)<0)=true from rfl),aL (by simp;omega)];simp only[aa]
    rw[aL (by simp;omega)];rfl) (by
  unfold dE
  simp only
  rw[if_neg (by simp;omega)]) (ub (by omega))
 rw[show (keys a c).take n=keys a c from List.take_of_length_le (by rw[dW];omega)] at this
 exact ax this
end
end
section
variable {a:AutT} {n:Nat} (V:VA a n) (hn:n<=1000000)
include V hn
theorem He (s:Nat):(List.range (s+1)).map (fun s:Nat=>if nth (live a) (s:Int)=true then (if nth a.2.1 (s:Int)=true then (1:Int) else 0) else -1)=(List.range s).map (fun s:Nat=>if nth (live a) (s:Int)=true then (if nth a.2.1 (s:Int)=true then 1 else 0) else -1)++ [if nth (live a) (s:Int)=true then (if nth a.2.1 (s:Int)=true then 1 else 0) else -1]:=by simp[List.range_succ]
theorem X9:az (fC a (live a)) aW ([],0)=some (.brk (Mc a,(n:Int))):=by
 have hlen:=V.len
 have hll:(live a).length=n:=by rw[uT,hlen]
 have:=bh (f:=fC a (live a)) (fun s=>((List.range s).map (fun s:Nat=>if nth (live a) (s:Int)=true then (if nth a.2.1 (s:Int)=true then (1:Int) else 0) else -1),(s:Int))) n (fun s hs=>by
  unfold fC
  simp only
  rw[if_pos (by simp;omega),V.acc (by omega) (by omega)];simp only[aa]
  rw[He V hn,aG (xs:=live a) (by omega) (by omega)];simp only[af (show s<9223372036854775807 by omega)]
  cases nth (live a) (s:Int) <;> cases nth a.2.1 (s:Int) <;> simp only[if_true,if_false,Bool.false_eq_true,aa] <;> rw[aL (by simp;omega)] <;> rfl) (by
  unfold fC
  simp only
  rw[if_neg (by simp;omega)]) (ub (by omega))
 unfold Mc
 rw[hlen]
 exact this
theorem Ya:az (cD a (live a)) aW ([],0)=some (.brk (Mc a,(n:Int))):=by
 have hlen:=V.len
 have hll:(live a).length=n:=by rw[uT,hlen]
 have:=bh (f:=cD a (live a)) (fun s=>((List.range s).map (fun s:Nat=>if nth (live a) (s:Int)=true then (if nth a.2.1 (s:Int)=true then (1:Int) else 0) else -1),(s:Int))) n (fun s hs=>by
  unfold cD
  simp only
  rw[if_pos (by simp;omega),aG (xs:=live a) (by omega) (by omega)];simp only[aa]
  rw[He V hn,V.acc (by omega) (by omega)];simp only[af (show s<9223372036854775807 by omega)]
  cases nth (live a) (s:Int) <;> cases nth a.2.1 (s:Int) <;> simp only[if_true,if_false,Bool.false_eq_true,aa] <;> rw[aL (by simp;omega)] <;> rfl) (by
  unfold cD
  simp only
  rw[if_neg (by simp;omega)]) (ub (by omega))
 unfold Mc
 rw[hlen]
 exact this
theorem PG: ∃J,cI a (J+1)=cI a J/\jf a=some (cI a J):=by
 have hlen:=V.len
 unfold jf
 rw[show lh (a.1,a.2.1,a.2.2)=some (live a) from TP V hn];simp only[aa]
 rw[ax (X9 V hn)]
 obtain ⟨J0,hJ0,hfix⟩:=Wi a
 obtain ⟨o,e,j,rfl,hj⟩:=cV (f:=lj a) (fun j s=>s=(cI a j,(j:Int))/\j<=J0) (fun o=> ∃j,o= .ret (cI a j)/\cI a (j+1)=cI a j) (J0+1) (s:=(cI a 0,0)) (by
  rintro j s hj ⟨rfl,hjJ⟩
  have hcl:(cI a j).length=n:=by rw[oc,hlen]
  unfold lj
  simp only
  rw[if_pos (by simp;omega),ax (Sx V hn hcl)]
  simp only
  obtain ⟨r,er,hr⟩:=ES (C5 a (cI a j)) (cI a j) (by rw[Bu];omega)
  rw[er];simp only[aa,af (show j<9223372036854775807 by omega)]
  by_cases h:C5 a (cI a j)=cI a j
  ·exact .inr ⟨_,by rw[if_pos (by simpa using hr.2 h)],(fun s' e=>by cases e),j,rfl,h⟩
  ·refine .inl ⟨by omega,(cI a (j+1),((j+1:Nat):Int)),by rw[if_neg (by simpa using fun e=>h (hr.1 e))];rfl,rfl,?_⟩
   by_cases e:j=J0
   ·subst e;exact absurd hfix h
   ·omega) ⟨rfl,Nat.zero_le _⟩ (ub (by omega))
 exact ⟨j,hj,cJ e⟩
theorem PH: ∃J,cI a (J+1)=cI a J/\dt a=some (cI a J):=by
 have hlen:=V.len
 unfold dt
 rw[show eP (a.1,a.2.1,a.2.2)=some (live a) from XX V hn];simp only[aa]
 rw[ax (Ya V hn)]
 let kk:Nat->Int:=fun j=>match j with | 0=> -1 | i+1=>(zy a (cI a i):Int)
 obtain ⟨o,e,j,rfl,hj⟩:=cV (f:=fJ a) (fun j s=>s=(cI a j,kk j)/\(j:Int)<=kk j+1) (fun o=> ∃j,o= .ret (cI a j)/\cI a (j+1)=cI a j) (n+2) (s:=(cI a 0,-1)) (by
  rintro j s hj ⟨rfl,hjk⟩
  have hcl:(cI a j).length=n:=by rw[oc,hlen]
  have hle:=I4 a (cI a j)
  unfold fJ
  simp only
  rw[show dB (a.1,a.2.1,a.2.2) (cI a j)=some (C5 a (cI a j),(zy a (cI a j):Int)) from Sy V hn hcl];simp only[aa]
  cases j with
  | zero =>
   refine .inl ⟨by omega,(cI a 1,kk 1),by rw[if_neg (by show¬((zy a (cI a 0):Int) == -1)=true;simp)];rfl,rfl,?_⟩
   show (1:Int)<=(zy a (cI a 0):Int)+1
   omega
  | succ i =>
   obtain ⟨g1,g2⟩:=PE a i
   have hki:kk (i+1)=(zy a (cI a i):Int):=rfl
   rw[hki] at hjk⊢
   by_cases h:zy a (cI a (i+1))=zy a (cI a i)
   ·refine .inr ⟨.ret (cI a (i+2)),by rw[if_pos (by simp[h])];rfl,(fun s' e=>by cases e),i+2,rfl,?_⟩
    have:=g2 h
    show C5 a (cI a (i+2))=cI a (i+2)
    rw[this];exact this
   ·refine .inl ⟨?_,(cI a (i+2),kk (i+2)),by rw[if_neg (by simp;omega)];rfl,rfl,?_⟩
    ·omega
    ·show ((i+1+1:Nat):Int)<=(zy a (cI a (i+1)):Int)+1
     omega) ⟨rfl,by show ((0:Nat):Int)<= -1+1;omega⟩ (ub (by omega))
 exact ⟨j,hj,cJ e⟩
theorem LX: ∃c,jf a=some c/\dt a=some c/\c.length=n/\C5 a c=c/\ ∃j,c=cI a j:=by
 obtain ⟨J,hJ,es⟩:=PG V hn
 obtain ⟨J',hJ',ei⟩:=PH V hn
 have:=PF hJ hJ'
 exact ⟨cI a J,es,by rw[this];exact ei,by rw[oc,V.len],hJ,J,rfl⟩
end
end D
namespace D
open Go.RowKit
section
variable {κ:Type} [DecidableEq κ] [Inhabited κ] {nx:κ->List (Option κ)} {first:κ} {G:κ->Prop} {B N:Nat} {acc:κ->Bool}
theorem Bx: ∀(l:List κ) (os:List (Option κ)),∀t∈nbR l os,-1<=t/\t<((nbS l os).length:Int)
 | l,[] =>fun t ht=>by cases ht
 | l,o::os=>fun t ht=>by
  have hp:=lx (nbL l o) os
  have hl:=hp.length_le
  rcases aA ht with rfl | ht
  ·show -1<=nbI l o/\nbI l o<((nbS (nbL l o) os).length:Int)
   cases o with
   | none=>exact ⟨by simp[nbI],by simp only[nbI];omega⟩
   | some y =>
    by_cases c:y∈l
    ·obtain ⟨q,hq,e,-⟩:=o6 c
     rw[mD c] at hl
     rw[e];exact ⟨by omega,by rw[mD c];omega⟩
    ·rw[lz c] at hl
     rw[EP c];rw[aq] at hl
     exact ⟨by omega,by rw[lz c];simp at hl;omega⟩
  ·exact Bx (nbL l o) os t ht
theorem Yb (H:NumOk nx first G B) (hN:bfE nx first N):VA ((0,(bfS nx first N).map acc,bfR nx first N):AutT) N:=by
 have h0:0<N:=by
  have:=GU (nx:=nx) (first:=first) N
  have:=(List.getElem?_eq_some_iff.1 this).1
  have:=hN.1;omega
 have key: ∀i,i<=N-> ∀r∈bfR nx first i,r.length=9/\ ∀t∈r,-1<=t/\t<(N:Int):=by
  intro i
  induction i with
  | zero=>intro _ r hr;cases hr
  | succ i ih =>
   intro hi r hr
   have hlt:=hN.2 i (by omega)
   rw[wk hlt] at hr
   rcases aI hr with hr | hr
   ·exact ih (by omega) r hr
   ·obtain rfl:=aw hr
    refine ⟨by rw[eK,H.len _ (kR H.g0 H.gn i _ (List.getElem_mem hlt))],fun t ht=>?_⟩
    have:=Bx _ _ t ht
    rw[<-Em hlt] at this
    have hl:=(xy (nx:=nx) (first:=first) hi).length_le
    have:=hN.1
    omega
 exact ⟨by show ((bfS nx first N).map acc).length=N;rw[List.length_map];exact hN.1.symm,⟨Int.le_refl _,by show (0:Int)<N;omega⟩,j7 hN.2,fun r hr=>(key N (aC _) r hr).1,fun r hr=>(key N (aC _) r hr).2⟩
theorem Wj (hlen: ∀x,(nx x).length=9) (hN:bfE nx first N):VA ((0,(bfS nx first N).map acc,bfR nx first N):AutT) N:=by
 have h0:0<N:=by
  have:=GU (nx:=nx) (first:=first) N
  have:=(List.getElem?_eq_some_iff.1 this).1
  have:=hN.1;omega
 have key: ∀i,i<=N-> ∀r∈bfR nx first i,r.length=9/\ ∀t∈r,-1<=t/\t<(N:Int):=by
  intro i
  induction i with
  | zero=>intro _ r hr;cases hr
  | succ i ih =>
   intro hi r hr
   have hlt:=hN.2 i (by omega)
   rw[wk hlt] at hr
   rcases aI hr with hr | hr
   ·exact ih (by omega) r hr
   ·obtain rfl:=aw hr
    refine ⟨by rw[eK,hlen _],fun t ht=>?_⟩
    have:=Bx _ _ t ht
    rw[<-Em hlt] at this
    have hl:=(xy (nx:=nx) (first:=first) hi).length_le
    have:=hN.1
    omega
 exact ⟨by show ((bfS nx first N).map acc).length=N;rw[List.length_map];exact hN.1.symm,⟨Int.le_refl _,by show (0:Int)<N;omega⟩,j7 hN.2,fun r hr=>(key N (aC _) r hr).1,fun r hr=>(key N (aC _) r hr).2⟩
end
theorem VA.self {a:AutT} {n:Nat} (v:VA a n):VA a a.2.1.length:=by
 have e:=v.len
 subst e
 exact v
theorem LY:VA nothing 1:=⟨rfl,⟨by decide,by decide⟩,rfl,fun r hr=>by
 obtain rfl:=aw hr
 decide,fun r hr=>by
 obtain rfl:=aw hr
 decide⟩
end D
namespace D
open Go.RowKit
theorem Wk {l:List Int} {x:Int} (hl:l.length<=1000000) (hx:x∈l):bc x l=some (nbI l (some x)):=by
 unfold bc eD
 obtain ⟨o,e,hq⟩:=cV (f:=dx l x) (fun k s=>s=(k:Int)/\x∉l.take k) (fun o=>o= .ret (nbI l (some x))) l.length (s:=0) (by
  rintro k s hk ⟨rfl,hx'⟩
  unfold dx
  by_cases hkl:k<l.length
  ·rw[if_pos (by simp;omega),aG (by omega) (by omega)];simp only[aa]
   by_cases h:nth l (k:Int)=x
   ·refine .inr ⟨_,by rw[if_pos (by simp[h])],(fun s' e=>by cases e),?_⟩
    have e:l=l.take k++(x::l.drop (k+1)):=by
     rw[<-h,bX hkl,<-List.drop_eq_getElem_cons hkl,List.take_append_drop]
    rw[Hc e hx',aB,Nat.min_eq_left (by omega)]
   ·have h': ¬x=nth l (k:Int):=fun e=>h e.symm
    refine .inl ⟨hkl,_,by rw[if_neg (by simpa using h')],by rw[af (by omega)],?_⟩
    rw[take_one hkl,List.mem_append,List.mem_singleton]
    rintro (h' | h')
    ·exact hx' h'
    ·exact h h'.symm
  ·rw[List.take_of_length_le (by omega)] at hx'
   exact absurd hx hx') ⟨rfl,by simp⟩ (ub (by omega))
 subst hq
 rw[cJ e];rfl
section
variable {a:AutT} {n:Nat}
def rep (c:List Int) (x:Int):Int:=nbI c (some x)
theorem PI {c:List Int} {x:Int} (h:x∈c):0<=rep c x/\rep c x<c.length/\nth c (rep c x)=x:=by
 obtain ⟨q,hq,e1,e2⟩:=o6 h
 unfold rep
 rw[e1]
 exact ⟨by omega,by omega,by rw[bX hq,e2]⟩
def aah (a:AutT) (n:Nat) (r:AutT):Prop:=(nth (live a) a.1=false/\r=nothing)\/(nth (live a) a.1=true/\ ∃(j:Nat) (c:List Int) (nx:Int->List (Option Int)) (ac:Int->Bool) (N:Nat),c=cI a j/\(∀r,good n (live a) r->nx (nth c r)=uU a c (live a) r)/\(∀r,good n (live a) r->ac (nth c r)=nth a.2.1 r)/\bfE nx (nth c a.1) N/\(∀x∈bfS nx (nth c a.1) N,(nx x).length=9)/\r=(0,(bfS nx (nth c a.1) N).map ac,bfR nx (nth c a.1) N))
theorem LZ (V:VA a n) (hn:n<=1000000): ∃r,fF a=some r/\cn a=some r/\Data.sm r/\VA r r.2.1.length/\r.2.1.length<=n/\aah a n r:=by
 have hlen:=V.len
 have hst:=V.start
 have hll:(live a).length=n:=by rw[uT,hlen]
 obtain ⟨c,es,ei,hcl,hfix,j,hj⟩:=LX V hn
 have hneg: ∀s:Int,0<=s->s<n->(nth c s<0↔nth (live a) s=false):=fun s h0 h1=>by
  have:=(C6 a (s:=s.toNat) (by omega) j).1
  rw[<-hj,show ((s.toNat:Nat):Int)=s from by omega] at this
  exact this
 have hlt: ∀s:Int,0<=s->s<n->nth c s<n:=fun s h0 h1=>by
  have:=Wg (c:=c) (a:=a) (s:=s.toNat) (by omega)
  rw[hfix,hlen,show ((s.toNat:Nat):Int)=s from by omega] at this
  exact this
 have hpos: ∀r,good n (live a) r->0<=nth c r:=fun r hr=>by
  have:=hneg r hr.1 hr.2.1
  by_cases k:nth c r<0
  ·have:=this.1 k;rw[hr.2.2] at this;cases this
  ·omega
 have hkey: ∀r t:Int,0<=r->r<n->0<=t->t<n->0<=nth c r->nth c r=nth c t->ET a c r=ET a c t:=fun r t r0 r1 t0 t1 h0 h=>by
  have:=PD (a:=a) (c:=c) (s:=r.toNat) (t:=t.toNat) (by omega) (by omega) (by rw[hfix,show ((r.toNat:Nat):Int)=r from by omega];exact h0) (by rw[hfix,show ((r.toNat:Nat):Int)=r from by omega,show ((t.toNat:Nat):Int)=t from by omega];exact h)
  rwa [show ((r.toNat:Nat):Int)=r from by omega,show ((t.toNat:Nat):Int)=t from by omega] at this
 have hacc: ∀r t:Int,0<=r->r<n->0<=t->t<n->0<=nth c r->nth c r=nth c t->nth a.2.1 r=nth a.2.1 t:=fun r t r0 r1 t0 t1 h0 h=>by
  have:=TX a (s:=r.toNat) (t:=t.toNat) (by omega) (by omega) j (by rw[<-hj,show ((r.toNat:Nat):Int)=r from by omega];exact h0) (by rw[<-hj,show ((r.toNat:Nat):Int)=r from by omega,show ((t.toNat:Nat):Int)=t from by omega];exact h)
  rwa [show ((r.toNat:Nat):Int)=r from by omega,show ((t.toNat:Nat):Int)=t from by omega] at this
 have hsuccs: ∀r,good n (live a) r->uU a c (live a) r=(List.range 9).map fun k=>if 0<=ent a c r k then some (ent a c r k) else none:=fun r hr=>by
  refine List.map_congr_left fun k hk=>?_
  have hk:k<9:=List.mem_range.1 hk
  have hm:=V.mv hr.1 hr.2.1 hk
  unfold ent
  by_cases h:mv a r k<0
  ·rw[if_pos h,if_neg (fun h'=>by omega),if_neg (by omega)]
  ·rw[if_neg h]
   have:=hneg (mv a r k) (by omega) hm.2
   cases hl:nth (live a) (mv a r k) with
   | false =>
    have:=this.2 hl
    rw[if_neg (fun h'=>by cases h'.2),if_neg (by omega)]
   | true =>
    have: ¬nth c (mv a r k)<0:=fun h'=>by have:=this.1 h';rw[hl] at this;cases this
    rw[if_pos ⟨by omega,rfl⟩,if_pos (by omega)]
 have hent: ∀r t:Int,ET a c r=ET a c t-> ∀k,k<9->ent a c r k=ent a c t k:=fun r t h k hk=>by
  have h:(List.range 9).map (fun k=>ent a c r k)=(List.range 9).map (fun k=>ent a c t k):=by unfold ET at h;injection h
  have:=congrArg (fun l:List Int=>l[k]?) h
  simpa [hk] using this
 let nx:Int->List (Option Int):=fun x=>uU a c (live a) (rep c x)
 let acc:Int->Bool:=fun x=>nth a.2.1 (rep c x)
 let G:Int->Prop:=fun x=> ∃r,good n (live a) r/\nth c r=x
 have Gm: ∀x,G x->x∈c/\0<=x/\good n (live a) (rep c x):=by
  rintro x ⟨r,hr,rfl⟩
  have hm:nth c r∈c:=cv hr.1 (by rw[hcl];exact hr.2.1)
  obtain ⟨h0,h1,h2⟩:=PI hm
  have hp:=hpos r hr
  refine ⟨hm,hp,h0,by omega,?_⟩
  have:=hneg (rep c (nth c r)) h0 (by omega)
  rw[h2] at this
  cases hl:nth (live a) (rep c (nth c r)) with
  | true=>rfl
  | false=>have:=this.2 hl;omega
 have hnx: ∀r,good n (live a) r->nx (nth c r)=uU a c (live a) r:=fun r hr=>by
  obtain ⟨hm,hp,hg⟩:=Gm _ ⟨r,hr,rfl⟩
  obtain ⟨h0,h1,h2⟩:=PI hm
  show uU a c (live a) (rep c (nth c r))=_
  rw[hsuccs _ hg,hsuccs _ hr]
  refine List.map_congr_left fun k hk=>?_
  rw[hent _ _ (hkey _ _ hg.1 hg.2.1 hr.1 hr.2.1 (by rw[h2];exact hp) h2) k (List.mem_range.1 hk)]
 have hac: ∀r,good n (live a) r->acc (nth c r)=nth a.2.1 r:=fun r hr=>by
  obtain ⟨hm,hp,hg⟩:=Gm _ ⟨r,hr,rfl⟩
  obtain ⟨h0,h1,h2⟩:=PI hm
  exact hacc _ _ hg.1 hg.2.1 hr.1 hr.2.1 (by rw[h2];exact hp) h2
 have hgn: ∀r,good n (live a) r-> ∀y,some y∈uU a c (live a) r->G y:=fun r hr y h=>by
  obtain ⟨k,hk,e⟩:=List.mem_map.1 h
  have hk:k<9:=List.mem_range.1 hk
  split at e
  ·rename_i hc
   exact ⟨mv a r k,⟨hc.1,(V.mv hr.1 hr.2.1 hk).2,hc.2⟩,ae e⟩
  ·cases e
 unfold fF cn
 simp only[dM]
 rw[es,ei,TP V hn];simp only[aa]
 rw[aG hst.1 (by omega)];simp only[aa]
 cases hs:nth (live a) a.1 with
 | false =>
  have:=(hneg a.1 hst.1 hst.2).2 hs
  rw[I0 V hll hs,if_pos (by simpa using this),Px]
  exact ⟨nothing,rfl,rfl,LU,LY,V.pos,.inl ⟨hs,rfl⟩⟩
 | true =>
  have hst':good n (live a) a.1:=⟨hst.1,hst.2,hs⟩
  have hp:=hpos _ hst'
  have H:NumOk nx (nth c a.1) G n:=⟨⟨a.1,hst',rfl⟩,fun x hx y hy=>hgn _ (Gm x hx).2.2 y hy,fun x hx=>by simp[nx,uU],fun l hd h=>LS n l hd fun x hx=>by
   obtain ⟨r,hr,rfl⟩:=h x hx
   exact ⟨hpos r hr,hlt r hr.1 hr.2.1⟩⟩
  obtain ⟨N,hN,e1⟩:=XZ (acc:=acc) V hn hcl hll hs H hn hnx hac
  have hfirst: ∀x,G x->bc x c=some (rep c x):=fun x hx=>Wk (by omega) (Gm x hx).1
  obtain ⟨N',hN',e2⟩:=XY (most:=(c.length:Int)) (p2:=fun a0=>cE a0 (a.1,a.2.1,a.2.2) (fun a0=>bc a0 c)) (p3:=fun a0 a1=>cF a0 a1 (a.1,a.2.1,a.2.2) (fun a0=>bc a0 c) c) (acc:=acc) H hn (by omega) (fun x hx=>X4 hn (Gm x hx).2.1 (by
    obtain ⟨r,hr,rfl⟩:=hx
    exact hlt r hr.1 hr.2.1)) (fun x hx=>by
   show cE x (a.1,a.2.1,a.2.2) (fun a0=>bc a0 c)=_
   unfold cE
   simp only
   rw[hfirst x hx];simp only[aa]
   rw[V.acc (Gm x hx).2.2.1 (Gm x hx).2.2.2.1];rfl) (fun x k hx hk=>by
   obtain ⟨hm,hx0,hg⟩:=Gm x hx
   have hm':=V.mv hg.1 hg.2.1 hk
   refine ⟨0,?_⟩
   show cF x k (a.1,a.2.1,a.2.2) (fun a0=>bc a0 c) c=_
   unfold cF
   simp only
   rw[hfirst x hx];simp only[aa]
   rw[show eQ (a.1,a.2.1,a.2.2) (rep c x) k=some (mv a (rep c x) k) from XM V hg.1 hg.2.1 hk];simp only[aa]
   show _=some (match nth (uU a c (live a) (rep c x)) (k:Int) with | some y=>(y,true) | none=>(0,false))
   rw[Kt hk]
   by_cases h:mv a (rep c x) k<0
   ·rw[if_pos (by simpa using h),if_neg (fun h'=>by omega)]
   ·rw[if_neg (by simpa using h),aG (by omega) (by omega)];simp only[aa]
    have hng:=hneg (mv a (rep c x) k) (by omega) hm'.2
    cases hl:nth (live a) (mv a (rep c x) k) with
    | false =>
     have:=hng.2 hl
     rw[if_pos (by simpa using this),if_neg (fun h'=>by cases h'.2)]
    | true =>
     have: ¬nth c (mv a (rep c x) k)<0:=fun h'=>by have:=hng.1 h';rw[hl] at this;cases this
     rw[if_neg (by simpa using this),if_pos ⟨by omega,rfl⟩])
  obtain rfl:=RR hN hN'
  have v:=Yb (acc:=acc) H hN
  refine ⟨_,by rw[e1];rfl,?_,X5 H hn hN,v.self,?_,.inr ⟨hs,j,c,nx,acc,N,hj,hnx,hac,hN,fun x _=>by simp[nx,uU],rfl⟩⟩
  rotate_left
  ·rw[v.len,hN.1];exact H.bound _ (nZ N) (kR H.g0 H.gn N)
  rw[if_neg (by simp;omega)]
  exact (congrArg (fun x=>Option.bind x _) e2).trans rfl
theorem L4 (V:VA a n) (hn:n<=1000000): ∃r,fF a=some r/\cn a=some r/\Data.sm r/\VA r r.2.1.length/\r.2.1.length<=n:=by
 obtain ⟨r,h1,h2,h3,h4,h5,-⟩:=LZ V hn
 exact ⟨r,h1,h2,h3,h4,h5⟩
theorem Sz (V:VA a n) (hn:n<=1000000): ∃r,fF a=some r/\cn a=some r/\Data.sm r:=by
 obtain ⟨r,h1,h2,h3,-⟩:=L4 V hn
 exact ⟨r,h1,h2,h3⟩
end
end D
namespace D
open Go.RowKit
theorem EV:Data.sm ((0,[],[]):AutT):=⟨trivial,⟨by decide,fun _ h=>by cases h⟩,by decide,fun _ h=>by cases h⟩
theorem PJ {κ:Type} [DecidableEq κ] {nx:κ->List (Option κ)} {first:κ} {acc:κ->Bool} {most:Nat} : ∀(f i:Nat),(∀j,j<i->j<(bfS nx first j).length)->(bfS nx first i).length<=most->goM nx first acc most f i=((0,[],[]),false)\/ ∃N,bfE nx first N/\N<=most/\goM nx first acc most f i=((0,(bfS nx first N).map acc,bfR nx first N),true)
 | 0,i,_,_=>.inl rfl
 | f+1,i,h,hl=>by
  have hle:=EO h
  rw[goM]
  by_cases c:i<(bfS nx first i).length
  ·rw[if_pos c]
   by_cases d:(bfS nx first (i+1)).length>most
   ·rw[if_pos d];exact .inl rfl
   ·rw[if_neg d]
    exact PJ f (i+1) (fun j hj=>by
     by_cases e:j=i
     ·subst e;exact c
     ·exact h j (by omega)) (by omega)
  ·rw[if_neg c]
   exact .inr ⟨i,⟨by omega,h⟩,by omega,by rw[List.take_of_length_le (by omega)]⟩
theorem Hf {e:List Tok} (he:e.length<=1048576): ∃r:AutT×Bool,hO e=some r/\im e=some r/\Data.sm r.1:=by
 obtain ⟨⟨p,b⟩,e1,e2,h1,h2⟩:=uV he
 have h1:p.2.2.2.1.length=p.1.length:=h1
 have h2:p.1.length<=100000:=h2
 unfold hO im
 rw[e1,e2];simp only[aa,dM]
 cases b with
 | false=>exact ⟨((0,[],[]),false),rfl,rfl,EV⟩
 | true =>
  have d1:=Zg (p:=p) (most:=200) h1 (by omega) (by omega) (by omega)
  have d2:=Zf (p:=p) (most:=200) h1 (by omega) (by omega) (by omega)
  have d1:jc p 200=_:=d1
  have d2:ig p 200=_:=d2
  rw[d1,d2];simp only[if_true,aa]
  rcases PJ (nx:=nxS p) (first:=1) (acc:=wA p) (most:=200) (200+2) 0 (fun j hj=>by omega) (by simp[bfS]) with e | ⟨N,hN,hNm,e⟩
  ·rw[e]
   exact ⟨((0,[],[]),false),rfl,rfl,EV⟩
  ·rw[e];simp only[if_true]
   have V:=Wj (acc:=wA p) (EN p) hN
   obtain ⟨r,es,ei,hr⟩:=Sz V (by omega)
   unfold Au
   rw[es];simp only[aa,dM]
   rw[ei];simp only[aa,dM]
   by_cases c:(r.2.1.length:Int)>12
   ·have c':decide ((r.2.1.length:Int)>12)=true:=decide_eq_true c
    simp only[c',if_true,aa]
    exact ⟨((0,[],[]),false),rfl,rfl,EV⟩
   ·have c':decide ((r.2.1.length:Int)>12)=false:=decide_eq_false c
    simp only[c',Bool.false_eq_true,if_false,aa]
    exact ⟨(r,true),rfl,rfl,hr⟩
theorem I5 {e:List Tok} (he:e.length<=1048576): ∃r:AutT×Bool,hO e=some r/\im e=some r/\Data.sm r.1:=Hf he
end D
set_option synthInstance.maxSize 20000
set_option synthInstance.maxHeartbeats 2000000
namespace D
open Go.RowKit
theorem By (x y:AutT) (hx:Data.sm x):fG x y=some (decide (x=y)):=by
 obtain ⟨-,⟨ha,-⟩,hn,hr⟩:=hx
 unfold fG
 by_cases c1:x.1=y.1
 case neg=>rw[if_pos (by simpa using c1)];simp[Prod.ext_iff,c1]
 rw[if_neg (by simpa using c1)]
 by_cases c2:x.2.1.length=y.2.1.length
 case neg=>rw[if_pos (by simp;omega)];simp[Prod.ext_iff];exact fun _ e=>absurd (by rw[e]) c2
 rw[if_neg (by simp;omega)]
 by_cases c3:x.2.2.length=y.2.2.length
 case neg=>rw[if_pos (by simp;omega)];simp[Prod.ext_iff];exact fun _ _ e=>absurd (by rw[e]) c3
 rw[if_neg (by simp;omega)]
 rw[eqB (f:=fu x y) x.2.1 y.2.1 (by omega) c2 (fun i h h'=>by
  simp only[fu,bM h,if_true,aE h,aE h',aa,af (show i<9223372036854775807 by omega)]
  by_cases c:x.2.1[i] =y.2.1[i] <;> simp[c]) (by simp only[fu,bq];rfl)]
 by_cases c4:x.2.1=y.2.1
 case neg=>rw[if_neg c4];simp[Prod.ext_iff,c4]
 rw[if_pos c4]
 rw[eqB (f:=fv x y) x.2.2 y.2.2 (by omega) c3 (fun i h h'=>by
  obtain ⟨r,e,hr'⟩:=ES x.2.2[i] y.2.2[i] ((hr _ (List.getElem_mem h)).1)
  simp only[fv,bM h,if_true,aE h,aE h',aa,af (show i<9223372036854775807 by omega),e]
  by_cases c:x.2.2[i] =y.2.2[i]
  ·rw[if_neg (by simpa using hr'.2 c),if_pos c]
  ·rw[if_pos (by simpa using fun e=>c (hr'.1 e)),if_neg c]) (by simp only[fv,bq];rfl)]
 by_cases c5:x.2.2=y.2.2
 ·rw[if_pos c5];simp[Prod.ext_iff,c1,c4,c5]
 ·rw[if_neg c5];simp[Prod.ext_iff,c5]
theorem SA (xs ys:List Bool) (hN:xs.length<=9223372036854775807):dD xs ys=some (decide (xs=ys)):=
 eqL (f:=b7 xs ys) xs ys hN (fun i h h'=>by
  simp only[b7,bM h,if_true,aE h,aE h',aa,af (show i<9223372036854775807 by omega)]
  by_cases c:xs[i] =ys[i] <;> simp[c]) (by simp only[b7,bq];rfl)
theorem Bz (x y:AutT) (hx:Data.sm x):dL x y=some (decide (x=y)):=by
 obtain ⟨-,⟨ha,-⟩,hn,hr⟩:=hx
 unfold dL
 by_cases c1:x.1=y.1
 case neg=>rw[if_neg (by simpa using c1)];simp[Prod.ext_iff,c1]
 rw[if_pos (by simpa using c1),SA _ _ (by omega)];simp only[aa]
 by_cases c2:x.2.1=y.2.1
 case neg=>rw[if_neg (by simpa using c2)];simp[Prod.ext_iff,c2]
 rw[if_pos (by simpa using c2)]
 have:bL x.2.2 y.2.2 (fun a0 a1=>fZ a0 a1)=some (decide (x.2.2=y.2.2)):=
  eqL (f:=aZ x.2.2 y.2.2 _) x.2.2 y.2.2 (by omega) (fun i h h'=>by
   simp only[aZ,bM h,if_true,aE h,aE h',aa,af (show i<9223372036854775807 by omega),fZ]
   rw[Bt _ _ (by have:x.2.2[i].length<=1048576:=(hr _ (List.getElem_mem h)).1;omega)];simp only[aa]
   by_cases c:x.2.2[i] =y.2.2[i] <;> simp[c]) (by simp only[aZ,bq];rfl)
 rw[this]
 by_cases c3:x.2.2=y.2.2 <;> simp[Prod.ext_iff,c1,c2,c3]
abbrev QT:=Int×List Tok×Int
abbrev Hg:=List AutT×List QT
theorem SB (x y:List Tok) (hx:x.length<=1048576):lQ x y=some (decide (x=y)):=by
 unfold lQ
 exact eqL (f:=iE x y) x y (by omega) (fun i h h'=>by
  simp only[iE,bM h,if_true,aE h,aE h',aa,dM,af (show i<9223372036854775807 by omega)]
  refine fK ?_;simp only[Bool.and_true,aj,beq_iff_eq];exact ZU) (by simp only[iE,bq];rfl)
theorem PK (x y:List Tok) (hx:x.length<=1048576):cj x y=some (decide (x=y)):=by
 unfold cj
 exact eqL (f:=bV x y) x y (by omega) (fun i h h'=>by
  simp only[bV,bM h,if_true,aE h,aE h',aa,dM,af (show i<9223372036854775807 by omega)]
  refine fK ?_;simp only[Bool.and_true,aj,beq_iff_eq];exact ZU) (by simp only[bV,bq];rfl)
theorem SC (x y:List Tok) (hx:x.length<=1048576):lR x y=some (decide (x=y)):=by
 unfold lR
 rw[PK x y hx];rfl
theorem EW (x y:Hg) (hx:Data.sm x):fX x y=some (decide (x=y)):=by
 obtain ⟨⟨ha,hA⟩,hq,hQ⟩:=hx
 unfold fX
 by_cases h1:x.1.length=y.1.length
 ·by_cases h2:x.2.length=y.2.length
  ·rw[if_neg (by rw[h1];simp),if_neg (by rw[h2];simp)]
   rw[eqB (f:=dY x y) x.1 y.1 (by omega) h1 (fun i h h'=>by
    simp only[dY,bM h,if_true,aE h,aE h',aa,dM,By x.1[i] y.1[i] (hA _ (List.getElem_mem h)),af (show i<9223372036854775807 by omega)]
    exact fK (by simp)) (by simp only[dY,bq];rfl)]
   rw[eqB (f:=dZ x y) x.2 y.2 (by omega) h2 (fun i h h'=>by
    have e:=SB x.2[i].2.1 y.2[i].2.1 (hQ _ (List.getElem_mem h)).2.1.1
    simp only[dZ,bM h,if_true,aE h,aE h',aa,e,af (show i<9223372036854775807 by omega)]
    generalize x.2[i] =u;generalize y.2[i] =v
    by_cases e1:u.1=v.1 <;> by_cases e2:u.2.1=v.2.1 <;> by_cases e3:u.2.2=v.2.2 <;> simp[Prod.ext_iff,e1,e2,e3]) (by simp only[dZ,bq];rfl)]
   by_cases e1:x.1=y.1 <;> by_cases e2:x.2=y.2 <;> simp[Prod.ext_iff,e1,e2]
  ·have:x.2≠y.2:=fun e=>h2 (by rw[e])
   rw[if_neg (by rw[h1];simp),if_pos (by simp;omega)];simp[Prod.ext_iff,this]
 ·have:x.1≠y.1:=fun e=>h1 (by rw[e])
  rw[if_pos (by simp;omega)];simp[Prod.ext_iff,this]
theorem L5 (x y:QT) (hx:Data.sm x):gx x y=some (decide (x=y)):=by
 unfold gx
 rw[SC x.2.1 y.2.1 hx.2.1.1];simp only[aa]
 by_cases h1:x.1=y.1 <;> by_cases h2:x.2.1=y.2.1 <;> by_cases h3:x.2.2=y.2.2 <;> simp[Prod.ext_iff,h1,h2,h3]
theorem EX (x y:Hg) (hx:Data.sm x):ga x y=some (decide (x=y)):=by
 obtain ⟨⟨ha,hA⟩,hq,hQ⟩:=hx
 unfold ga
 have e:aY x.1 y.1 (fun a0 a1=>dL a0 a1)=some (decide (x.1=y.1)):=
  eqL (f:=aN x.1 y.1 _) x.1 y.1 (by omega) (fun i h h'=>by
   simp only[aN,bM h,if_true,aE h,aE h',aa,dM,af (show i<9223372036854775807 by omega),Bz x.1[i] y.1[i] (hA _ (List.getElem_mem h))]
   exact fK (by simp)) (by simp only[aN,bq];rfl)
 have e':aV x.2 y.2 (fun a0 a1=>gx a0 a1)=some (decide (x.2=y.2)):=
  eqL (f:=aM x.2 y.2 _) x.2 y.2 (by omega) (fun i h h'=>by
   simp only[aM,bM h,if_true,aE h,aE h',aa,dM,af (show i<9223372036854775807 by omega),L5 x.2[i] y.2[i] (hQ _ (List.getElem_mem h))]
   exact fK (by simp)) (by simp only[aM,bq];rfl)
 rw[e,e'];simp only[aa]
 by_cases h1:x.1=y.1 <;> by_cases h2:x.2=y.2 <;> simp[Prod.ext_iff,h1,h2]
theorem tu {R S:Type} {f g:S->Option (Out R S)} (Inv:Nat->S->Prop) (h: ∀i s,Inv i s->g s=f s/\ ∀s',f s=some (.nxt s')->Inv (i+1) s'): ∀(k i:Nat) (s:S),Inv i s->az g k s=az f k s
 | 0,_,_,_=>rfl
 | k+1,i,s,hI=>by
  obtain ⟨h1,h2⟩:=h i s hI
  rw[az,az,h1]
  cases e:f s with
  | none=>rfl
  | some o =>
   cases o with
   | nxt s'=>exact tu Inv h k (i+1) s' (h2 s' e)
   | brk s'=>rfl
   | ret r=>rfl
theorem Ky {f g:Int->Option (Out Int Int)} (N:Nat) (hN:N<=1048576) (h: ∀i:Nat,i<N->f (i:Int)=some (.ret (i:Int))\/f (i:Int)=some (.nxt ((i+1:Nat):Int))) (he:f (N:Int)=some (.brk (N:Int))) (hfg: ∀i:Nat,i<=N->g (i:Int)=f (i:Int)) :
  ∃r:Int,aP (az f aW 0) (fun r=>some r) (fun _=>some (-1))=some r/\aP (az g aW 0) (fun r=>some r) (fun _=>some (-1))=some r/\(r= -1\/ ∃i:Nat,i<N/\r=(i:Int)):=by
 have hs:az g aW 0=az f aW 0:=tu (fun i s=>s=(i:Int)/\i<=N) (fun i s ⟨e,hi⟩=>by
  subst e
  refine ⟨hfg i hi,fun s' e=>?_⟩
  by_cases c:i<N
  ·rcases h i c with e2 | e2
   ·rw[e2] at e;cases e
   ·rw[e2] at e;cases e;exact ⟨rfl,c⟩
  ·obtain rfl:i=N:=by omega
   rw[he] at e;cases e) aW 0 0 ⟨rfl,Nat.zero_le _⟩
 rw[hs]
 obtain ⟨o,e,ho⟩:=cV (f:=f) (fun i s=>s=(i:Int)) (fun o=>o= .brk (N:Int)\/ ∃i:Nat,i<N/\o= .ret (i:Int)) N (fun i s hi hs=>by
  subst hs
  by_cases h1:i<N
  ·rcases h i h1 with h2 | h2
   ·exact .inr ⟨_,h2,(fun s' e=>by cases e),.inr ⟨i,h1,rfl⟩⟩
   ·exact .inl ⟨h1,_,h2,rfl⟩
  ·obtain rfl:i=N:=by omega
   exact .inr ⟨_,he,(fun s' e=>by cases e),.inl rfl⟩) (s:=0) rfl (dK _ (by omega))
 rw[e]
 rcases ho with rfl | ⟨i,hi,rfl⟩
 ·exact ⟨-1,rfl,rfl,.inl rfl⟩
 ·exact ⟨i,rfl,rfl,.inr ⟨i,hi,rfl⟩⟩
theorem L6 (l:List AutT) (a:AutT) (hl:l.length<=1048576) (hs: ∀x∈l,Data.sm x) (ha:Data.sm a): ∃r:Int,l7 l a=some r/\ba l (fun a0=>ma a0 a)=some r/\(r= -1\/ ∃i:Nat,i<l.length/\r=(i:Int)):=by
 unfold l7 ba
 have hf: ∀i (h:i<l.length),hY l a (i:Int)=if l[i] =a then some (.ret (i:Int)) else some (.nxt ((i+1:Nat):Int)):=fun i h=>by
  simp only[hY,bM h,if_true,aE h,aa,dM,By l[i] a (hs _ (List.getElem_mem h)),af (show i<9223372036854775807 by omega)]
  by_cases c:l[i] =a <;> simp[c]
 refine Ky l.length hl (fun i h=>?_) (by simp only[hY,bq];rfl) (fun i hi=>?_)
 ·rw[hf i h];by_cases c:l[i] =a <;> simp[c]
 ·by_cases h:i<l.length
  ·rw[hf i h]
   simp only[bP,ma,bM h,if_true,aE h,aa,dM,Bz a l[i] ha,af (show i<9223372036854775807 by omega)]
   by_cases c:l[i] =a
   ·simp[c]
   ·have: ¬a=l[i]:=fun e=>c e.symm
    simp[c,this]
  ·obtain rfl:i=l.length:=by omega
   simp only[hY,bP,bq];rfl
def I6 (n i:Nat) (s:Int×List AutT×List QT):Prop:=s.1=(i:Int)/\i<=n/\s.2.2.length=i/\s.2.1.length<=i/\(∀a∈s.2.1,Data.sm a)/\ ∀q∈s.2.2,Data.sm q/\0<=q.2.2/\q.2.2<(s.2.1.length:Int)
theorem Kz {qs:List QT} (hq:Data.sm qs) {i:Nat} {s:Int×List AutT×List QT} (hI:I6 qs.length i s):kG qs s=dj qs s /\
  ((i<qs.length/\ ∃s',dj qs s=some (.nxt s')/\I6 qs.length (i+1) s')\/ ∃o,dj qs s=some o/\(∀s',o≠ .nxt s')/\(o= .ret (([],[]),false)\/o= .brk s/\i=qs.length)):=by
 obtain ⟨hn,hs⟩:=aJ hq
 obtain ⟨s1,A,Q⟩:=s
 obtain ⟨h1,h2,h3,h4,h5,h6⟩:=hI
 simp only at h1 h3 h4 h5 h6
 subst h1
 by_cases hi:i<qs.length
 ·have hqi:=hs _ (List.getElem_mem hi)
  obtain ⟨r,es,ei,hr⟩:=I5 (e:=qs[i].2.1) hqi.2.1.1
  obtain ⟨k,ks,ki,hk⟩:=L6 A r.1 (by omega) h5 hr
  have a1:b9 56 A [r.1] =some (A++ [r.1]):=aL (by simp;omega)
  have a2: ∀y,b9 40 Q [y] =some (Q++ [y]):=fun y=>aL (by simp;omega)
  have a3:gB qs[i].2.1=some qs[i].2.1:=by unfold gB;rw[aL (by have:=hqi.2.1.1;simp;omega)];rfl
  have a4:fO qs[i].2.1=some qs[i].2.1:=by unfold fO;rw[aL (by have:=hqi.2.1.1;simp;omega)];rfl
  unfold kG dj
  simp only[bM hi,if_true,aE hi,aa,es,ei,O3,IS,dM,ks,ki,a1,a2,a3,a4,af (show i<9223372036854775807 by omega)]
  by_cases c1:r.2=true
  case neg =>
   simp only[c1,Bool.false_eq_true,if_false]
   exact ⟨by first | trivial | rfl,.inr ⟨_,rfl,(fun s' e=>by cases e),.inl rfl⟩⟩
  simp only[c1,if_true]
  by_cases c2:1<=qs[i].1/\qs[i].1<=99
  case neg =>
   simp only[c2,decide_false,Bool.false_eq_true,if_false]
   exact ⟨by first | trivial | rfl,.inr ⟨_,rfl,(fun s' e=>by cases e),.inl rfl⟩⟩
  simp only[c2,decide_true,if_true]
  have fin: ∃s':Int×List AutT×List QT,(∀(y:Option (Out (Hg×Bool) (Int×List AutT×List QT))),True)/\(Option.bind (if decide (k<0) then some ((A.length:Int),A++ [r.1],Q) else some (k,A,Q)) fun s10:Int×List AutT×List QT=>(b9 40 s10.2.2 [(qs[i].1,qs[i].2.1,s10.1)]).bind fun z18=>some (.nxt (((i+1:Nat):Int),s10.2.1,z18)):Option (Out (Hg×Bool) (Int×List AutT×List QT)))=some (.nxt s')/\I6 qs.length (i+1) s':=by
   rcases hk with rfl | ⟨j,hj,rfl⟩
   ·refine ⟨(((i+1:Nat):Int),A++ [r.1],Q++ [(qs[i].1,qs[i].2.1,(A.length:Int))]),fun _=>trivial,?_,rfl,hi,by simp;omega,by simp;omega,fun a ha=>?_,fun q hq'=>?_⟩
    ·simp only[show decide ((-1:Int)<0)=true from rfl,if_true,aa,a2]
    ·simp only[List.mem_append,List.mem_singleton] at ha
     rcases ha with ha | rfl
     ·exact h5 a ha
     ·exact hr
    ·simp only[List.mem_append,List.mem_singleton] at hq'
     simp only[aq,List.length_singleton]
     rcases hq' with hq' | rfl
     ·obtain ⟨b1,b2,b3⟩:=h6 q hq'
      exact ⟨b1,b2,by omega⟩
     ·exact ⟨⟨trivial,hqi.2.1,trivial⟩,by simp,by simp;omega⟩
   ·refine ⟨(((i+1:Nat):Int),A,Q++ [(qs[i].1,qs[i].2.1,(j:Int))]),fun _=>trivial,?_,rfl,hi,by simp;omega,by simp only;omega,h5,fun q hq'=>?_⟩
    ·have:decide ((j:Int)<0)=false:=by simp
     simp only[this,Bool.false_eq_true,if_false,aa,a2]
    ·simp only[List.mem_append,List.mem_singleton] at hq'
     rcases hq' with hq' | rfl
     ·exact h6 q hq'
     ·exact ⟨⟨trivial,hqi.2.1,trivial⟩,by simp,by simp;omega⟩
  obtain ⟨s',-,e,hI'⟩:=fin
  by_cases c3:(i:Int)>0
  ·have hp:i - 1<qs.length:=by omega
   have hw:IntKind.i64.wrap ((i:Int) - 1)=((i - 1:Nat):Int):=by rw[pS (by omega)];omega
   simp only[c3,decide_true,if_true,hw,aE hp,aa]
   by_cases c4:qs[i - 1].1≥qs[i].1
   ·simp only[c4,decide_true,if_true]
    exact ⟨by first | trivial | rfl,.inr ⟨_,rfl,(fun s' e=>by cases e),.inl rfl⟩⟩
   ·simp only[c4,decide_false,Bool.false_eq_true,if_false]
    exact ⟨by first | trivial | rfl,.inl ⟨hi,s',e,hI'⟩⟩
  ·simp only[c3,decide_false,Bool.false_eq_true,if_false]
   exact ⟨by first | trivial | rfl,.inl ⟨hi,s',e,hI'⟩⟩
 ·obtain rfl:i=qs.length:=by omega
  unfold kG dj
  simp only[bq,Bool.false_eq_true,if_false]
  exact ⟨by first | trivial | rfl,.inr ⟨_,rfl,(fun s' e=>by cases e),.inr (by first | exact ⟨rfl,rfl⟩ | exact ⟨trivial,rfl⟩ | exact ⟨rfl,trivial⟩ | simp)⟩⟩
def RegOk (r:Hg):Prop:=Data.sm r/\ ∀q∈r.2,0<=q.2.2/\q.2.2<(r.1.length:Int)
theorem EY {qs:List QT} (hq:Data.sm qs): ∃r:Hg,∃b:Bool,l8 qs=(if (qs.length:Int)>4 then some (([],[]),false) else some (r,b))/\pw qs=some (r,b&&decide ((qs.length:Int)<=4))/\RegOk r:=by
 have hn:=(aJ hq).1
 have h0:I6 qs.length 0 (0,[],[]):=⟨rfl,Nat.zero_le _,rfl,aC _,fun _ h=>(by cases h),fun _ h=>(by cases h)⟩
 have hs:az (kG qs) aW (0,[],[])=az (dj qs) aW (0,[],[]):=tu (I6 qs.length) (fun i s hI=>by
  obtain ⟨e,h⟩:=Kz hq hI
  refine ⟨e,fun s' e'=>?_⟩
  rcases h with ⟨_,s2,e2,hI2⟩ | ⟨o,e2,hne,-⟩
  ·rw[e2] at e';cases e';exact hI2
  ·rw[e2] at e';cases e';exact absurd rfl (hne s')) aW 0 _ h0
 obtain ⟨o,e,ho⟩:=cV (f:=dj qs) (I6 qs.length) (fun o=>o= .ret (([],[]),false)\/ ∃A Q,o= .brk ((qs.length:Int),A,Q)/\I6 qs.length qs.length ((qs.length:Int),A,Q)) qs.length (fun i s hi hI=>by
  rcases (Kz hq hI).2 with h | ⟨o,e,hne,h⟩
  ·exact .inl h
  ·refine .inr ⟨o,e,hne,?_⟩
   rcases h with h | ⟨h,rfl⟩
   ·exact .inl h
   ·obtain ⟨s1,A,Q⟩:=s
    obtain ⟨rfl,-⟩:=id hI
    exact .inr ⟨A,Q,h,hI⟩) h0 (dK _ (by omega))
 unfold l8 pw
 rw[hs,e]
 rcases ho with rfl | ⟨A,Q,rfl,-,-,h3,h4,h5,h6⟩
 ·refine ⟨([],[]),false,?_,rfl,⟨⟨Nat.zero_le _,fun _ h=>(by cases h)⟩,Nat.zero_le _,fun _ h=>(by cases h)⟩,fun _ h=>(by cases h)⟩
  by_cases c:(qs.length:Int)>4 <;> simp[c,aP]
 ·simp only at h3 h4 h5 h6
  refine ⟨(A,Q),true,?_,by simp[aP],⟨⟨show A.length<=1048576 by omega,h5⟩,show Q.length<=1048576 by omega,fun q h=>(h6 q h).1⟩,fun q h=>(h6 q h).2⟩
  by_cases c:(qs.length:Int)>4 <;> simp[c,aP]
theorem C8 {r:Hg} (hr:Data.sm r): ∃b,dP r=some b/\cA r=some b/\(b=true->RegOk r):=by
 obtain ⟨x,b,e1,e2,hx⟩:=EY hr.2
 unfold dP cA
 rw[e1,e2]
 by_cases c:(r.2.length:Int)>4
 ·have c': ¬(r.2.length:Int)<=4:=by omega
  exact ⟨false,by simp[c],by simp[c'],fun e=>by cases e⟩
 ·have c':(r.2.length:Int)<=4:=by omega
  cases b with
  | false=>exact ⟨false,by simp[c],by simp,fun e=>by cases e⟩
  | true =>
   simp only[c,if_false,aa,if_true,c',decide_true,Bool.and_true,dM,EW x r hx.1,EX x r hx.1]
   exact ⟨_,rfl,rfl,fun e=>by rw[<-of_decide_eq_true e];exact hx⟩
end D
set_option synthInstance.maxSize 20000
set_option synthInstance.maxHeartbeats 2000000
namespace D
open Go.RowKit
abbrev SD:=Int×(List GrT)
abbrev Zl:=Int×Int×Int
theorem Wl (g:GrT) (hg:Data.sm g):pq g=some g:=by
 have h1:=(aJ hg.1).1
 have h2:=(aJ hg.2).1
 unfold pq
 rw[aL (by simp;omega)];simp only[aa,List.nil_append]
 rw[aL (by simp;omega)];rfl
theorem Wm (g:GrT) (hg:Data.sm g):kI g=some g:=by
 have h1:=(aJ hg.1).1
 have h2:=(aJ hg.2).1
 unfold kI mb
 rw[aL (by simp;omega)];simp only[aa,List.nil_append]
 rw[aL (by simp;omega)];rfl
theorem C9 {g:GrT} (hg:Data.sm g): ∃b,cx g=some b:=by
 obtain ⟨b,e,_⟩:=Sc g (aJ hg.1).1 (aJ hg.2).1
 exact ⟨b,e⟩
def okG (h:SD) (g:GrT):Prop:=cx g=some true/\g.1=(nth h.2 0).1
instance (h g):Decidable (okG h g):=by unfold okG;infer_instance
theorem PL (h:SD) (hh:Data.sm h): ∃b,m_s_IsValidHistory h=some b/\m_i_IsValidHistory h=some b/\(b=true->(1<=h.2.length/\h.2.length<=8)/\1<=h.1/\h.1<=1000 - (h.2.length:Int)):=by
 obtain ⟨hl,hs⟩:=aJ hh.2
 have ew:IntKind.i64.wrap ((IntKind.i64.wrap (999 - (h.2.length:Int)))+1)=1000 - (h.2.length:Int):=by
  rw[fg (n:=999 - (h.2.length:Int)) (by omega) (by omega),fg (by omega) (by omega)];omega
 have ks:=scan (f:=eM h) h.2 (okG h) false (by omega) (fun i hi=>by
  have hg:=hs _ (cv (xs:=h.2) (i:=(i:Int)) (by omega) (by omega))
  obtain ⟨b,e⟩:=C9 hg
  obtain ⟨r,er,hr⟩:=ES (nth h.2 (i:Int)).1 (nth h.2 0).1 (aJ hg.1).1
  have e':gr ((nth h.2 (i:Int)).1,(nth h.2 (i:Int)).2)=some b:=by rw[Pg];exact e
  have hk:okG h (nth h.2 (i:Int))↔b=true/\(nth h.2 (i:Int)).1=(nth h.2 0).1:=by unfold okG;rw[e];simp
  unfold eM
  rw[if_pos (by simp;omega),aG (by omega) (by omega)];simp only[aa]
  rw[e',aG (xs:=h.2) (i:=0) (by omega) (by omega)];simp only[aa]
  rw[er,af (by omega)];simp only[aa]
  cases b with
  | false=>rw[if_neg (by decide),if_neg (fun c=>by cases (hk.1 c).1)]
  | true =>
   rw[if_pos rfl]
   by_cases c:r=0
   ·rw[if_neg (by simp[c]),if_pos (hk.2 ⟨rfl,hr.1 c⟩)]
   ·rw[if_pos (by simpa using c),if_neg (fun k=>c (hr.2 (hk.1 k).2))]) (by unfold eM;simp)
 have ki:=scan (f:=eO h) h.2 (okG h) false (by omega) (fun i hi=>by
  have hg:=hs _ (cv (xs:=h.2) (i:=(i:Int)) (by omega) (by omega))
  obtain ⟨b,e⟩:=C9 hg
  have er:=Bt (nth h.2 (i:Int)).1 (nth h.2 0).1 (by have:=(aJ hg.1).1;omega)
  have e':cx ((nth h.2 (i:Int)).1,(nth h.2 (i:Int)).2)=some b:=e
  have hk:okG h (nth h.2 (i:Int))↔b=true/\(nth h.2 (i:Int)).1=(nth h.2 0).1:=by unfold okG;rw[e];simp
  unfold eO
  rw[if_pos (by simp;omega),aG (by omega) (by omega)];simp only[aa]
  rw[e',aG (xs:=h.2) (i:=0) (by omega) (by omega)];simp only[aa]
  rw[er,af (by omega)];simp only[aa]
  cases b with
  | false=>rw[if_neg (by decide),if_neg (fun c=>by cases (hk.1 c).1)]
  | true =>
   rw[if_pos rfl]
   by_cases c:(nth h.2 (i:Int)).1=(nth h.2 0).1
   ·rw[if_pos (decide_eq_true c),if_pos (hk.2 ⟨rfl,c⟩)]
   ·rw[if_neg (by simpa using c),if_neg (fun k=>c (hk.1 k).2)]) (by unfold eO;simp)
 unfold m_s_IsValidHistory m_i_IsValidHistory
 rw[O3,O3,IS,IS,ew];simp only[aa]
 by_cases c1:(1:Int)<=(h.2.length:Int)/\(h.2.length:Int)<=8
 ·by_cases c2:1<=h.1/\h.1<=1000 - (h.2.length:Int)
  ·rw[decide_eq_true c1,decide_eq_true c2];simp only[if_true]
   rcases ks with ⟨es,k1⟩ | ⟨es,k1⟩ <;> rcases ki with ⟨ei,k2⟩ | ⟨ei,k2⟩
   ·rw[ax es,ax ei]
    exact ⟨true,rfl,rfl,fun _=>⟨by omega,c2⟩⟩
   ·exact absurd k1 k2
   ·exact absurd k2 k1
   ·rw[cJ es,cJ ei]
    exact ⟨false,rfl,rfl,fun c=>by cases c⟩
  ·rw[decide_eq_true c1,decide_eq_false c2];simp only[if_true,Bool.false_eq_true,if_false]
   rcases ks with ⟨es,k1⟩ | ⟨es,k1⟩
   ·rw[ax es];exact ⟨false,rfl,rfl,fun c=>by cases c⟩
   ·rw[cJ es];exact ⟨false,rfl,rfl,fun c=>by cases c⟩
 ·rw[decide_eq_false c1];simp only[Bool.false_eq_true,if_false]
  rcases ks with ⟨es,k1⟩ | ⟨es,k1⟩
  ·rw[ax es];exact ⟨false,rfl,rfl,fun c=>by cases c⟩
  ·rw[cJ es];exact ⟨false,rfl,rfl,fun c=>by cases c⟩
def latV (h:SD):Int:=h.1+(h.2.length:Int) - 1
theorem PN {h:SD} (hs:m_s_IsValidHistory h=some true) (hi:m_i_IsValidHistory h=some true) (k:(1<=h.2.length/\h.2.length<=8)/\1<=h.1/\h.1<=1000 - (h.2.length:Int)):cB h=some (latV h)/\iI h=some (latV h):=by
 unfold cB iI latV
 have hs:m_s_IsValidHistory (h.1,h.2)=_:=hs
 have hi:m_i_IsValidHistory (h.1,h.2)=_:=hi
 rw[hs,hi];simp only[aa,if_true]
 rw[fg (n:=h.1+(h.2.length:Int)) (by omega) (by omega),fg (by omega) (by omega)]
 exact ⟨rfl,rfl⟩
end D
set_option synthInstance.maxSize 20000
set_option synthInstance.maxHeartbeats 2000000
namespace D
open Go.RowKit
theorem Wn (a:AutT) (ha:Data.sm a):qm a=some a:=by
 obtain ⟨-,⟨hb,-⟩,hn,hr⟩:=ha
 unfold qm
 rw[aL (by simp;omega)];simp only[aa,List.nil_append]
 have:=bh (f:=jh a) (fun i=>((i:Int),a.1,a.2.1,a.2.2.take i)) a.2.2.length (fun i hi=>by
  unfold jh
  have h1:b9 8 ([] :List Int) a.2.2[i] =some a.2.2[i]:=by rw[aL (by have:a.2.2[i].length<=1048576:=(hr _ (List.getElem_mem hi)).1;simp;omega)];rfl
  simp only[bM hi,if_true,aE hi,aa,h1,af (show i<9223372036854775807 by omega)]
  rw[aL (by simp;omega)]
  simp only[aa]
  rw[List.take_succ_eq_append_getElem hi]) (by
  unfold jh
  simp only[bq,Bool.false_eq_true,if_false]) (dK _ (by omega))
 have e:az (jh a) aW (0,a.1,a.2.1,[])=_:=this
 rw[e]
 simp only[aP,List.take_length]
theorem Wo (a:AutT) (ha:Data.sm a):iL a=some a:=by
 obtain ⟨-,⟨hb,-⟩,hn,hr⟩:=ha
 unfold iL
 rw[aL (by simp;omega)];simp only[aa,List.nil_append]
 have:=bh (f:=dC a) (fun i=>((i:Int),a.1,a.2.1,a.2.2.take i)) a.2.2.length (fun i hi=>by
  unfold dC mb
  have h1:b9 8 ([] :List Int) a.2.2[i] =some a.2.2[i]:=by rw[aL (by have:a.2.2[i].length<=1048576:=(hr _ (List.getElem_mem hi)).1;simp;omega)];rfl
  simp only[bM hi,if_true,aE hi,aa,h1,af (show i<9223372036854775807 by omega)]
  rw[aL (by simp;omega)]
  simp only[aa]
  rw[List.take_succ_eq_append_getElem hi]) (by
  unfold dC
  simp only[bq,Bool.false_eq_true,if_false]) (dK _ (by omega))
 have e:az (dC a) aW (0,a.1,a.2.1,[])=_:=this
 rw[e]
 simp only[aP,List.take_length]
end D
set_option synthInstance.maxSize 20000
set_option synthInstance.maxHeartbeats 2000000
namespace D
open Go.RowKit
theorem Hh (r:Hg) (id:Int) (hl:r.2.length<=1048576): ∃k:Int,iF r id=some k/\iJ r id=some k/\(k= -1\/ ∃i:Nat,i<r.2.length/\k=(i:Int)):=by
 unfold iF iJ bS
 have hf: ∀i (h:i<r.2.length),eG r id (i:Int)=if r.2[i].1=id then some (.ret (i:Int)) else some (.nxt ((i+1:Nat):Int)):=fun i h=>by
  simp only[eG,bM h,if_true,aE h,aa,af (show i<9223372036854775807 by omega)]
  by_cases c:r.2[i].1=id <;> simp[c]
 obtain ⟨k,e1,e2,h⟩:=Ky (f:=eG r id) (g:=bg r.2 fun a0=>kH a0 id) r.2.length hl (fun i h=>by
  rw[hf i h];by_cases c:r.2[i].1=id <;> simp[c]) (by simp only[eG,bq];rfl) (fun i hi=>by
  by_cases h:i<r.2.length
  ·rw[hf i h]
   simp only[bg,kH,bM h,if_true,aE h,aa,af (show i<9223372036854775807 by omega)]
   by_cases c:r.2[i].1=id <;> simp[c]
  ·obtain rfl:i=r.2.length:=by omega
   simp only[eG,bg,bq];rfl)
 refine ⟨k,e1,?_,h⟩
 rw[e2];rfl
end D
set_option synthInstance.maxSize 20000
set_option synthInstance.maxHeartbeats 2000000
namespace D
open Go.RowKit
abbrev EngT:=SD×Hg×List Zl×ByteArray
theorem KB {h:SD} {r:Hg} {ss:List Zl} {lg:ByteArray} {v:Int} (hs:cB h=some v) (hr:r.2.length<=1048576) (hn:ss.length<=1048576) {i:Nat} (h1:i<ss.length) :
  cg (h,r,ss,lg) v (i:Int)=cM (h,r,ss,lg) (i:Int)/\(cM (h,r,ss,lg) (i:Int)=some (.nxt ((i+1:Nat):Int))\/cM (h,r,ss,lg) (i:Int)=some (.ret false)):=by
 obtain ⟨k,k1,k2,-⟩:=Hh r ss[i].2.1 hr
 have hw:IntKind.i64.wrap ((i:Int)+1)=((i+1:Nat):Int):=af (by omega)
 unfold cg cM
 simp only[dM,bM h1,if_true,aE h1,aa,O3,IS,k1,k2,hs,hw]
 by_cases c:decide ((i:Int)>0)=true
 ·have g:aQ ss (IntKind.i64.wrap ((i:Int) - 1))=some (nth ss ((i:Int) - 1)):=by
   have:(i:Int)>0:=of_decide_eq_true c
   rw[pS (by omega),aG (by omega) (by omega)]
  simp only[if_pos c,g,aa]
  refine ⟨trivial,?_⟩
  repeat' split
  all_goals first | exact .inr rfl | exact .inl rfl
 ·simp only[if_neg c]
  refine ⟨trivial,?_⟩
  repeat' split
  all_goals first | exact .inr rfl | exact .inl rfl
theorem SE {h:SD} {r:Hg} {ss:List Zl} {lg:ByteArray} {v:Int} (hs:cB h=some v) (hr:r.2.length<=1048576) (hn:ss.length<=1048576): ∃o,az (cM (h,r,ss,lg)) aW 0=some o/\az (cg (h,r,ss,lg) v) aW 0=some o/\(o= .ret false\/ ∃s,o= .brk s):=by
 have hend:cM (h,r,ss,lg) (ss.length:Int)=some (.brk (ss.length:Int)):=by
  unfold cM
  simp only[]
  rw[bq];rfl
 have hend2:cg (h,r,ss,lg) v (ss.length:Int)=some (.brk (ss.length:Int)):=by
  unfold cg
  simp only[]
  rw[bq];rfl
 obtain ⟨o,e,hQ⟩:=cV (f:=cM (h,r,ss,lg)) (fun i s=>s=(i:Int)) (fun o=>o= .ret false\/ ∃s,o= .brk s) ss.length (fun i s hi hI=>by
  subst hI
  by_cases h1:i<ss.length
  ·rcases (KB (lg:=lg) hs hr hn h1).2 with k | k
   ·exact .inl ⟨h1,_,k,rfl⟩
   ·exact .inr ⟨_,k,fun s' h=>(by simp at h),.inl rfl⟩
  ·obtain rfl:i=ss.length:=by omega
   exact .inr ⟨_,hend,fun s' h=>(by simp at h),.inr ⟨_,rfl⟩⟩) (s:=(0:Int)) rfl (dK _ (by omega))
 refine ⟨o,e,?_,hQ⟩
 rw[<-e]
 refine tu (f:=cM (h,r,ss,lg)) (g:=cg (h,r,ss,lg) v) (fun i s=>s=(i:Int)/\i<=ss.length) (fun i s hI=>?_) aW 0 0 ⟨rfl,Nat.zero_le _⟩
 obtain ⟨rfl,hi⟩:=hI
 by_cases h1:i<ss.length
 ·obtain ⟨a,b⟩:=KB (lg:=lg) hs hr hn h1
  refine ⟨a,fun s' hs'=>?_⟩
  rcases b with b | b
  ·rw[b] at hs'
   obtain rfl:=ae hs' |> Out.nxt.inj
   exact ⟨rfl,h1⟩
  ·rw[b] at hs';simp at hs'
 ·obtain rfl:i=ss.length:=by omega
  exact ⟨by rw[hend,hend2],fun s' hs'=>by rw[hend] at hs';simp at hs'⟩
structure EngOk (e:EngT):Prop where
 hs:m_s_IsValidHistory e.1=some true
 hi:m_i_IsValidHistory e.1=some true
 hb:(1<=e.1.2.length/\e.1.2.length<=8)/\1<=e.1.1/\e.1.1<=1000 - (e.1.2.length:Int)
 reg:RegOk e.2.1
 sub:e.2.2.1.length<=4
 log:e.2.2.2.size<=4000
 sc: ∃(r:List Int) (q:List (List ChT)) (n:Nat),m_s_ScanLog e.2.2.2=some (r,q,(n:Int))/\m_i_ScanLog e.2.2.2=some (r,q,(n:Int))/\r.length<=4000/\ScOk r q/\totL r q r.length<=4000/\(r.length=0\/nth r ((r.length:Int) - 1)=latV e.1)
theorem SF (e:EngT) (he:Data.sm e): ∃b,iG e=some b/\iK e=some b/\(b=true->EngOk e):=by
 obtain ⟨h,r,ss,lg⟩:=e
 obtain ⟨sh,sr,ssb,slg⟩:=he
 obtain ⟨b1,e1,e2,k1⟩:=PL h sh
 obtain ⟨b2,f1,f2,k2⟩:=C8 sr
 have slg:lg.size<=1048576:=slg
 obtain ⟨l,rfl⟩:=XN lg
 have hlz:(mkB l).size=l.length:=bO l
 have hl:l.length<=1048576:=by rw[<-hlz];exact slg
 unfold iG iK uA w5
 simp only[dM,e1,e2,f1,f2,aa,hlz]
 cases b1 with
 | false=>exact ⟨false,rfl,rfl,fun c=>by cases c⟩
 | true =>
  cases b2 with
  | false=>exact ⟨false,rfl,rfl,fun c=>by cases c⟩
  | true =>
   obtain ⟨l1,l2⟩:=PN e1 e2 (k1 rfl)
   obtain ⟨o,o1,o2,ho⟩:=SE (h:=h) (r:=r) (ss:=ss) (lg:=mkB l) l1 (aJ sr.2).1 (aJ ssb).1
   obtain ⟨vs,bs,n,g1,g2,g3,g4,g5,g6⟩:=G7 l (by omega)
   simp only[if_true,l1,l2,g1,g2,aa,o1,o2]
   by_cases c1:(ss.length:Int)<=4
   ·rw[if_neg (show¬decide ((ss.length:Int)>4)=true by rw[decide_eq_true_eq];omega),decide_eq_true c1]
    by_cases c2:(l.length:Int)<=4000
    ·rw[if_neg (show¬decide ((l.length:Int)>4000)=true by rw[decide_eq_true_eq];omega)]
     rcases ho with rfl | ⟨s,rfl⟩
     ·exact ⟨false,rfl,rfl,fun c=>by cases c⟩
     ·simp only[aP,if_true,aa]
      by_cases c3:((n:Int)==(l.length:Int))=true
      ·simp only[if_pos c3,if_pos (decide_eq_true c2)]
       by_cases c4:((vs.length:Int)==0)=true
       ·simp only[if_pos c4,aa]
        exact ⟨true,rfl,rfl,fun _=>⟨e1,e2,k1 rfl,k2 rfl,by show ss.length<=4;omega,by show (mkB l).size<=4000;omega,vs,bs,n,g1,g2,g4,g5,by omega,.inl (by have:=eq_of_beq c4;omega)⟩⟩
       ·have hp:0<vs.length:=by
         rcases Nat.eq_zero_or_pos vs.length with q | q
         ·exact absurd (by rw[q];rfl) c4
         ·exact q
        simp only[if_neg c4,pS (show vs.length<=9223372036854775807 by omega),aG (xs:=vs) (i:=(vs.length:Int) - 1) (by omega) (by omega),aa]
        refine ⟨_,rfl,rfl,fun c=>⟨e1,e2,k1 rfl,k2 rfl,by show ss.length<=4;omega,by show (mkB l).size<=4000;omega,vs,bs,n,g1,g2,g4,g5,by omega,.inr (eq_of_beq c)⟩⟩
      ·simp only[if_neg c3,aa]
       exact ⟨false,rfl,rfl,fun c=>by cases c⟩
    ·rw[if_pos (decide_eq_true (show (l.length:Int)>4000 by omega))]
     rcases ho with rfl | ⟨s,rfl⟩
     ·exact ⟨false,rfl,rfl,fun c=>by cases c⟩
     ·simp only[aP,if_true,aa]
      by_cases c3:((n:Int)==(l.length:Int))=true
      ·simp only[if_pos c3,if_neg (show¬decide ((l.length:Int)<=4000)=true by rw[decide_eq_true_eq];exact c2),aa]
       exact ⟨false,rfl,rfl,fun c=>by cases c⟩
      ·simp only[if_neg c3,aa]
       exact ⟨false,rfl,rfl,fun c=>by cases c⟩
   ·rw[if_pos (decide_eq_true (show (ss.length:Int)>4 by omega)),decide_eq_false c1]
    rcases ho with rfl | ⟨s,rfl⟩
    ·exact ⟨false,rfl,rfl,fun c=>by cases c⟩
    ·exact ⟨false,rfl,rfl,fun c=>by cases c⟩
end D
set_option synthInstance.maxSize 20000
set_option synthInstance.maxHeartbeats 2000000
namespace D
open Go.RowKit
theorem PO (r:Hg) (hr:Data.sm r):jO r=some r:=by
 obtain ⟨h1,h2⟩:=aJ hr.1
 obtain ⟨h3,h4⟩:=aJ hr.2
 unfold jO
 have a:=bh (f:=ji r) (fun i=>((i:Int),r.1.take i,([] :List QT))) r.1.length (fun i hi=>by
  unfold ji
  simp only[bM hi,if_true,aE hi,aa,dM,Wn _ (h2 _ (List.getElem_mem hi)),af (show i<9223372036854775807 by omega)]
  rw[aL (by simp;omega)]
  simp only[aa]
  rw[List.take_succ_eq_append_getElem hi]) (by
  unfold ji
  simp only[bq,Bool.false_eq_true,if_false]) (dK _ (by omega))
 have e:az (ji r) aW (0,[],[])=_:=a
 rw[e]
 simp only[aP,List.take_length]
 have a:=bh (f:=jj r) (fun i=>((i:Int),r.1,r.2.take i)) r.2.length (fun i hi=>by
  unfold jj
  have c:gB r.2[i].2.1=some r.2[i].2.1:=by unfold gB;rw[aL (by have:=(h4 _ (List.getElem_mem hi)).2.1.1;simp;omega)];rfl
  simp only[bM hi,if_true,aE hi,aa,dM,c,af (show i<9223372036854775807 by omega)]
  rw[aL (by simp;omega)]
  simp only[aa]
  rw[List.take_succ_eq_append_getElem hi]) (by
  unfold jj
  simp only[bq,Bool.false_eq_true,if_false]) (dK _ (by omega))
 have e:az (jj r) aW (0,r.1,[])=_:=a
 rw[e]
 simp only[List.take_length]
theorem PP (r:Hg) (hr:Data.sm r):dy r=some r:=by
 obtain ⟨h1,h2⟩:=aJ hr.1
 obtain ⟨h3,h4⟩:=aJ hr.2
 unfold dy
 have a:=bh (f:=dU r) (fun i=>((i:Int),r.1.take i,([] :List QT))) r.1.length (fun i hi=>by
  unfold dU
  simp only[bM hi,if_true,aE hi,aa,dM,Wo _ (h2 _ (List.getElem_mem hi)),af (show i<9223372036854775807 by omega)]
  rw[aL (by simp;omega)]
  simp only[aa]
  rw[List.take_succ_eq_append_getElem hi]) (by
  unfold dU
  simp only[bq,Bool.false_eq_true,if_false]) (dK _ (by omega))
 have e:az (dU r) aW (0,[],[])=_:=a
 rw[e]
 simp only[aP,List.take_length]
 have a:=bh (f:=dV r) (fun i=>((i:Int),r.1,r.2.take i)) r.2.length (fun i hi=>by
  unfold dV
  have c:fO r.2[i].2.1=some r.2[i].2.1:=by unfold fO;rw[aL (by have:=(h4 _ (List.getElem_mem hi)).2.1.1;simp;omega)];rfl
  simp only[bM hi,if_true,aE hi,aa,dM,c,af (show i<9223372036854775807 by omega)]
  rw[aL (by simp;omega)]
  simp only[aa]
  rw[List.take_succ_eq_append_getElem hi]) (by
  unfold dV
  simp only[bq,Bool.false_eq_true,if_false]) (dK _ (by omega))
 have e:az (dV r) aW (0,r.1,[])=_:=a
 rw[e]
 simp only[List.take_length]
theorem PQ {r:Hg} (hr:Data.sm r) (h:cA r=some true):r.2.length<=4:=by
 obtain ⟨x,b,e1,e2,hx⟩:=EY hr.2
 unfold cA at h
 rw[e2] at h
 by_cases c:(r.2.length:Int)<=4
 ·omega
 ·simp[c] at h
end D
set_option synthInstance.maxSize 20000
set_option synthInstance.maxHeartbeats 2000000
namespace D
open Go.RowKit
theorem Wp (h:SD) (hh:Data.sm h):sY h=some h:=by
 obtain ⟨hl,hs⟩:=aJ hh.2
 have e:=bh (f:=kE h) (fun i=>((i:Int),h.1,h.2.take i)) h.2.length (fun i hi=>by
  have e:pq (h.2[i].1,h.2[i].2)=some h.2[i]:=Wl h.2[i] (hs _ (List.getElem_mem hi))
  have hx: ∀z:GrT,b9 48 (h.2.take i) [z] =some (h.2.take i++ [z]):=fun z=>aL (by rw[aB];simp only[ak,aF];omega)
  unfold kE
  simp only[]
  rw[bM hi,if_pos rfl,aE hi]
  simp only[aa]
  rw[e]
  simp only[aa]
  rw[hx,af (by omega),List.take_succ_eq_append_getElem hi];rfl) (by
  unfold kE
  simp only[]
  rw[bq];rfl) (dK _ (by omega))
 rw[List.take_length] at e
 have e:az (kE h) aW (0,h.1,[])=_:=e
 unfold sY
 rw[ax e]
theorem Wq (h:SD) (hh:Data.sm h):kJ h=some h:=by
 obtain ⟨hl,hs⟩:=aJ hh.2
 have e:=bh (f:=eT h) (fun i=>((i:Int),h.1,h.2.take i)) h.2.length (fun i hi=>by
  have e:kI (h.2[i].1,h.2[i].2)=some h.2[i]:=Wm h.2[i] (hs _ (List.getElem_mem hi))
  have hx: ∀z:GrT,b9 48 (h.2.take i) [z] =some (h.2.take i++ [z]):=fun z=>aL (by rw[aB];simp only[ak,aF];omega)
  unfold eT
  simp only[]
  rw[bM hi,if_pos rfl,aE hi]
  simp only[aa]
  rw[e]
  simp only[aa]
  rw[hx,af (by omega),List.take_succ_eq_append_getElem hi];rfl) (by
  unfold eT
  simp only[]
  rw[bq];rfl) (dK _ (by omega))
 rw[List.take_length] at e
 have e:az (eT h) aW (0,h.1,[])=_:=e
 unfold kJ
 rw[ax e]
theorem Wr (e:EngT) (he:Data.sm e):qn e=some e:=by
 obtain ⟨s1,s2,s3,s4⟩:=he
 have h3:=(aJ s3).1
 unfold qn
 simp only[dM,Wp e.1 s1,PO e.2.1 s2,aa]
 rw[aL (by simp;omega)];rfl
theorem Ws (e:EngT) (he:Data.sm e):lT e=some e:=by
 obtain ⟨s1,s2,s3,s4⟩:=he
 have h3:=(aJ s3).1
 unfold lT
 simp only[dM,Wq e.1 s1,PP e.2.1 s2,aa]
 rw[aL (by simp;omega)];rfl
end D
namespace D
open Go.RowKit
section
variable {α:Type} [DecidableEq α]
end
end D
namespace D
open Go.RowKit
end D
set_option synthInstance.maxSize 20000
set_option synthInstance.maxHeartbeats 2000000
namespace D
open Go.RowKit
theorem Yc {α:Type} [Data α] {xs:List α} {y:α} (h:Data.sm xs) (hy:Data.sm y) (i:Nat) (hl:xs.length<=1048575):Data.sm (xs.take i++([y] ++xs.drop i)):=by
 obtain ⟨h1,h2⟩:=aJ h
 refine ⟨?_,fun x hx=>?_⟩
 ·simp only[aq,aB,aS,ak,aF];omega
 ·rcases aI hx with hx | hx
  ·exact h2 _ (List.mem_of_mem_take hx)
  ·rcases aI hx with hx | hx
   ·rw[aw hx];exact hy
   ·exact h2 _ (List.mem_of_mem_drop hx)
theorem L7 {r:Hg} (hr:Data.sm r) (id:Int) {e:List Tok} (he:Data.sm e): ∃x:Hg×Bool,iH r id e=some x/\iM r id e=some x/\Data.sm x.1/\(x.2=false->x.1=r):=by
 obtain ⟨hn,hq⟩:=aJ hr.2
 obtain ⟨k,f1,f2,hk⟩:=Hh r id hn
 obtain ⟨b,v1,v2,hv⟩:=C8 hr
 unfold iH iM
 simp only[f1,f2,v1,v2,aa,dM,PO r hr,PP r hr]
 cases b with
 | false=>exact ⟨(r,false),rfl,rfl,hr,fun _=>rfl⟩
 | true =>
  simp only[if_true]
  by_cases hk0:k≥0
  ·exact ⟨(r,false),by simp[hk0],by simp[hk0],hr,fun _=>rfl⟩
  ·have h4:=PQ hr v2
   have hk0:decide (k≥0)=false:=by simpa using hk0
   simp only[hk0,Bool.false_eq_true,if_false]
   have lp: ∀f:Int->Option (Out (Hg×Bool) Int),(∀s,f s=if decide (s<(r.2.length:Int)) then ((aQ r.2 s).bind fun x5=>if decide (x5.1<id) then (some (.nxt (IntKind.i64.wrap (s+1)))) else (some (.brk s))) else (some (.brk s)))-> ∃i:Nat,i<=r.2.length/\az f aW 0=some (.brk (i:Int)):=by
    intro f hf
    obtain ⟨o,e,i,hi,rfl⟩:=cV (f:=f) (fun i s=>s=(i:Int)) (fun o=> ∃i:Nat,i<=r.2.length/\o= .brk (i:Int)) r.2.length (fun i s hi hI=>by
     subst hI
     rw[hf]
     by_cases h1:i<r.2.length
     ·simp only[bM h1,if_true,aE h1,aa,af (show i<9223372036854775807 by omega)]
      by_cases h2:r.2[i].1<id
      ·exact .inl ⟨h1,_,by simp[h2],rfl⟩
      ·exact .inr ⟨.brk (i:Int),by simp[h2],(fun s' e=>by cases e),i,hi,rfl⟩
     ·obtain rfl:i=r.2.length:=by omega
      exact .inr ⟨.brk (r.2.length:Int),by simp only[bq,Bool.false_eq_true,if_false],(fun s' e=>by cases e),_,hi,rfl⟩) (s:=0) rfl (dK _ (by omega))
    exact ⟨i,hi,e⟩
   obtain ⟨i,hi,l1⟩:=lp (mE r id) (fun s=>rfl)
   have l2:az (mF r id) aW 0=some (.brk (i:Int)):=by
    rw[<-l1]
    congr 1
   simp only[l1,l2,aP]
   have hy:Data.sm ((id,e,(0:Int)):QT):=⟨trivial,he,trivial⟩
   have hs:=Yc (y:=((id,e,(0:Int)):QT)) hr.2 hy i (by omega)
   obtain ⟨x,c,e1,e2,hx⟩:=EY hs
   have q1:(chk (0<=(i:Int)/\(i:Int)<=(r.2.length:Int)))=some ():=if_pos (by omega)
   have a1:b9 40 ([] :List QT) (r.2.take i)=some (r.2.take i):=by rw[aL (by simp only[aF,aB];omega)];rfl
   have a2:b9 40 (r.2.take i) [((id,e,(0:Int)):QT)] =some (r.2.take i++ [(id,e,0)]):=aL (by simp only[aB,ak,aF];omega)
   have a3:b9 40 (r.2.take i++ [((id,e,(0:Int)):QT)]) (r.2.drop i)=some (r.2.take i++([(id,e,0)] ++r.2.drop i)):=by
    rw[aL (by simp only[aq,aB,aS,ak,aF];omega),ai]
   have a4:bG r.2=some r.2:=by unfold bG;rw[aL (by simp only[aF];omega)];rfl
   have a5:bE r.2 (i:Int) [((id,e,(0:Int)):QT)] =some (r.2.take i++([(id,e,0)] ++r.2.drop i),[(id,e,0)]):=by
    unfold bE R.VN
    have:(chk (0<=(i:Int)/\(i:Int)<=(r.2.length:Int)/\ [((id,e,(0:Int)):QT)].length=1/\1<=40/\(r.2.length+1)*40<=140737488355328))=some ():=if_pos ⟨by omega,by omega,rfl,by omega,by omega⟩
    rw[this];rfl
   simp only[q1,aa,Int.toNat_natCast,a1,a2,a3,a4,a5,e1,e2]
   by_cases hl:((r.2.take i++([((id,e,(0:Int)):QT)] ++r.2.drop i)).length:Int)>4
   ·have hl': ¬((r.2.take i++([((id,e,(0:Int)):QT)] ++r.2.drop i)).length:Int)<=4:=by omega
    simp only[hl,if_true,aa,Bool.false_eq_true,if_false,hl',decide_false,Bool.and_false]
    exact ⟨_,rfl,rfl,hr,fun _=>rfl⟩
   ·have hl':((r.2.take i++([((id,e,(0:Int)):QT)] ++r.2.drop i)).length:Int)<=4:=by omega
    simp only[hl,if_false,aa,hl',decide_true,Bool.and_true]
    cases c with
    | true=>exact ⟨_,rfl,rfl,hx.1,fun c=>by cases c⟩
    | false=>exact ⟨_,rfl,rfl,hr,fun _=>rfl⟩
end D
set_option synthInstance.maxSize 20000
set_option synthInstance.maxHeartbeats 2000000
namespace D
open Go.RowKit
end D
set_option synthInstance.maxSize 20000
set_option synthInstance.maxHeartbeats 2000000
namespace D
open Go.RowKit
theorem PR (e:EngT) (he:Data.sm e) (id:Int) (x:List Tok) (hx:Data.sm x): ∃y:EngT×Bool,gI e id x=some y/\eU e id x=some y/\Data.sm y.1:=by
 obtain ⟨b,es,ei,-⟩:=SF e he
 obtain ⟨r,r1,r2,r3,r4⟩:=L7 he.2.1 id hx
 unfold gI eU
 simp only[dM,Wr e he,Ws e he,es,ei,r1,r2,aa]
 cases b with
 | false=>exact ⟨(e,false),rfl,rfl,he⟩
 | true =>
  simp only[if_true]
  obtain ⟨r,c⟩:=r
  cases c with
  | true=>exact ⟨_,rfl,rfl,he.1,r3,he.2.2.1,he.2.2.2⟩
  | false =>
   obtain rfl:r=e.2.1:=r4 rfl
   exact ⟨(e,false),rfl,rfl,he⟩
end D
set_option synthInstance.maxSize 20000
set_option synthInstance.maxHeartbeats 2000000
namespace D
open Go.RowKit
theorem xG (x:EngT) (v:Int) (y:List Tok) (hx:Data.lim x) (_:Data.lim v) (hy:Data.lim y):de x v y=some true:=by
 unfold de
 simp only[dM]
 obtain ⟨r1,e1,k1⟩:=LD x 1048576 hx (by decide) (by decide)
 rw[e1];simp only[aa]
 rcases k1 with k1 | ⟨k1,j1,s1⟩
 ·rw[if_pos (decide_eq_true k1)]
 rw[if_neg (by simpa using k1)]
 obtain ⟨r2,e2,k2⟩:=Kg y r1 hy k1 j1
 rw[e2];simp only[aa]
 rcases k2 with k2 | ⟨k2,j2,s2⟩
 ·rw[if_pos (decide_eq_true k2)]
 rw[if_neg (by simpa using k2)]
 obtain ⟨r,es,ei,sr⟩:=PR x s1 v y s2
 have b3:=VX y s2
 have b1:=GX x s1
 have b2:=GX r.1 sr
 have em1:fb x 1=_:=GY x s1 (k:=1) (by omega)
 have em2:fb r.1 1=_:=GY r.1 sr (k:=1) (by omega)
 have em3:=VY y s2 (k:=1+iU x) (by omega)
 have eh2:gC ((r.1.1.1,(tj r.1 1).1.2),(tj r.1 1).2.1,(tj r.1 1).2.2.1,r.1.2.2.2) 1=_:=OU r.1 sr (k:=1) (by omega)
 simp only[LH x s1,Ki y s2,Kk y y s2 s2,em3,es,ei,C2 r.1 r.1 sr sr,C2 x x s1 s1,aa,dM,em1,em2,eh2,decide_true,if_true,LL,bne_self_eq_false,Bool.false_eq_true,if_false]
end D
open Go.ChangeShapes Go.WideShapes Go.ChangeAt Go.RowKit
theorem own:ownKnob Tryz.prog.godebug=none:=by kernel_rfl
theorem laidOut:laidOutB Tryz.prog=true:=by kernel_rfl
theorem wB {H:Type} {enc:TypeId×Value->H} {P:Program} (hl:laidOutB P=true) {W W':World} (hb:Below W.heap.size W W') :
  ∀ {ts:List TypeId} {vs:List Value} {ds:List (DataW H)} {ps:List MemPlace},(∀t∈ts,P.readableRec t=true/\t<P.types.size)->
   DataW.TrodAll enc P W 0 (fun _=>true) true ts vs ds ps->(∀x∈ps,x.block<W.heap.size)->DataW.TrodAll enc P W' 0 (fun b=>decide (b<W.heap.size)) true ts vs ds ps
 | [],[],[],ps,_,h,_=>h
 | t::ts,v::vs,d::ds,ps,hr,⟨p,q,h1,h2,h3⟩,hlt=>by
  subst h3
  exact ⟨p,q,Below.trod hl (hr t (by simp)).1 (hr t (by simp)).2 h1 hb fun x hx=>hlt x (by simp[hx]),wB hl hb (fun t ht=>hr t (by simp[ht])) h2 fun x hx=>hlt x (by simp[hx]),rfl⟩
 | [],_::_,_,_,_,h,_=>h.elim
 | [],[],_::_,_,_,h,_=>h.elim
 | _::_,[],_,_,_,h,_=>h.elim
 | _::_,_::_,[],_,_,h,_=>h.elim
theorem SG {H:Type} {enc:TypeId×Value->H} {f:Func} {s:ChangeSpec} {W W':World} {args:Array Value} {ds:List (DataW H)} {before:List MemPlace} (tb:TypeId)
  (hb:Tryz.prog.underlying tb=some .bool) (hr:f.resultTypes= #[tb]) (hp:(f.params.toList.all fun t=>Tryz.prog.readableRec t&&decide (t<Tryz.prog.types.size))=true) (hv:s.vars= [])
  (hW:DataW.Whole enc Tryz.prog f.params.toList s.vars false W args.toList ds [] before) (hres:(s.fn H (ds++ [])).results= [.lit (.bool true)]) (hargs:(s.fn H (ds++ [])).args=ds) (hvars:(s.fn H (ds++ [])).vars= [])
  (hbel:Below W.heap.size W W'):s.post enc Tryz.prog f false true false false W args (.bool true) W':=by
 obtain ⟨p,q,h1,h2,h3,h4,h5⟩:=hW
 have hW':DataW.Whole enc Tryz.prog f.params.toList s.vars false W args.toList ds [] before:=⟨p,q,h1,h2,h3,h4,h5⟩
 have hq:q= []:=by rw[hv] at h2;exact h2
 subst hq
 simp only[List.append_nil] at h3
 subst h3
 refine ⟨ds,[],before,[],before,[],hW',?_,?_,?_,hbel.frame _,fun h=>by cases h⟩
 ·rw[hres,hr]
  exact trodAll_mk1 (shut_bool hb true)
 ·rw[hargs]
  exact wB laidOut hbel (fun t ht=>by have:=List.all_eq_true.1 hp t ht;simpa using this) h1 fun x hx=>by simpa using hW'.lt x hx
 ·rw[hvars,hv];rfl
namespace R
open Go.Shelf
def I7:Go.Shelf.Ren:=⟨fun | 146=>213 | 221=>265 | 268=>312 | 138=>313 | 143=>314 | 195=>352 | 197=>353 | 218=>354 | 219=>355 | 260=>381 | 217=>212 | 225=>382 | 224=>383 | 267=>384 | 266=>264 | 314=>403 | n=>n,fun | 9=>9 | 31=>222 | 3=>3 | 4=>4 | 0=>0 | 105=>350 | 21=>21 | 5=>5 | 46=>255 | 119=>402 | 139=>405 | 138=>404 | 146=>406 | 51=>394 | n=>n,fun | 1=>0 | 3=>4 | 4=>5 | n=>n⟩
theorem Wt:Go.Proofs.LaysM.n146 Tryz.prog I7:= {
 mixed:=by kernel_rfl
 f138:=Tryz.func313.trans (congrArg some (by kernel_rfl))
 f143:=Tryz.func314.trans (congrArg some (by kernel_rfl))
 f146:=Tryz.func213.trans (congrArg some (by kernel_rfl))
 f195:=Tryz.func352.trans (congrArg some (by kernel_rfl))
 f197:=Tryz.func353.trans (congrArg some (by kernel_rfl))
 f217:=Tryz.func212.trans (congrArg some (by kernel_rfl))
 f218:=Tryz.func354.trans (congrArg some (by kernel_rfl))
 f219:=Tryz.func355.trans (congrArg some (by kernel_rfl))
 f221:=Tryz.func265.trans (congrArg some (by kernel_rfl))
 f224:=Tryz.func383.trans (congrArg some (by kernel_rfl))
 f225:=Tryz.func382.trans (congrArg some (by kernel_rfl))
 f260:=Tryz.func381.trans (congrArg some (by kernel_rfl))
 f266:=Tryz.func264.trans (congrArg some (by kernel_rfl))
 f267:=Tryz.func384.trans (congrArg some (by kernel_rfl))
 f268:=Tryz.func312.trans (congrArg some (by kernel_rfl))
 f314:=Tryz.func403.trans (congrArg some (by kernel_rfl))
 t0:=Tryz.underlying0
 a0:=Tryz.isAgg0
 z0:=Tryz.sizeOf0
 v0:=Tryz.zeroValue0
 t3:=Tryz.underlying3
 a3:=Tryz.isAgg3
 z3:=Tryz.sizeOf3
 v3:=Tryz.zeroValue3
 t4:=Tryz.underlying4
 a4:=Tryz.isAgg4
 z4:=Tryz.sizeOf4
 v4:=Tryz.zeroValue4
 t5:=Tryz.underlying5
 a5:=Tryz.isAgg5
 z5:=Tryz.sizeOf5
 v5:=Tryz.zeroValue5
 t9:=Tryz.underlying9
 a9:=Tryz.isAgg9
 z9:=Tryz.sizeOf9
 v9:=Tryz.zeroValue9
 t21:=Tryz.underlying21
 a21:=Tryz.isAgg21
 z21:=Tryz.sizeOf21
 v21:=Tryz.zeroValue21
 t31:=Tryz.underlying222
 a31:=Tryz.isAgg222
 z31:=Tryz.sizeOf222
 v31:=Tryz.zeroValue222
 t46:=Tryz.underlying255
 a46:=Tryz.isAgg255
 z46:=Tryz.sizeOf255
 v46:=Tryz.zeroValue255
 t51:=Tryz.underlying394
 a51:=Tryz.isAgg394
 z51:=Tryz.sizeOf394
 v51:=Tryz.zeroValue394
 t105:=Tryz.underlying350
 a105:=Tryz.isAgg350
 z105:=Tryz.sizeOf350
 v105:=Tryz.zeroValue350
 t119:=Tryz.underlying402
 a119:=Tryz.isAgg402
 z119:=Tryz.sizeOf402
 t138:=Tryz.underlying404
 a138:=Tryz.isAgg404
 z138:=Tryz.sizeOf404
 v138:=Tryz.zeroValue404
 t139:=Tryz.underlying405
 a139:=Tryz.isAgg405
 z139:=Tryz.sizeOf405
 v139:=Tryz.zeroValue405
 t146:=Tryz.underlying406
 a146:=Tryz.isAgg406
 z146:=Tryz.sizeOf406
 v146:=Tryz.zeroValue406
 g1:=by kernel_rfl
 g3:=by kernel_rfl
 g4:=by kernel_rfl
 i0:=by kernel_rfl
 i3:=by kernel_rfl
 i4:=by kernel_rfl
 i5:=by kernel_rfl
 i9:=by kernel_rfl
 i21:=by kernel_rfl
 i31:=by kernel_rfl
 i46:=by kernel_rfl
 i51:=by kernel_rfl
 i105:=by kernel_rfl
 i138:=by kernel_rfl
 i139:=by kernel_rfl
 i146:=by kernel_rfl
 m1:=by kernel_rfl
 s1_3:=fun w h=>Go.Proofs.cell_of_shapedOpen_int (zero:= #[.int .i64 0]) (t:=3) h (of_decide_eq_true (by kernel_rfl)) (by kernel_rfl) rfl (by kernel_rfl) (by kernel_rfl) Tryz.underlying3
 m3:=by kernel_rfl
 m4:=by kernel_rfl }
end R
open Go.ChangeShapes Go.WideShapes Go.ChangeAt Go.RowKit
namespace D
theorem op3:Opens Tryz.prog 3 a7:=Ov Tryz.underlying3
theorem ZZ:Opens Tryz.prog 83 (ah 3 a7):=gm Tryz.underlying83 (by kernel_rfl) (by decide) op3
theorem Zm:Opens Tryz.prog 280 (aH a7 (aH a7 (aH a7 a7))):=by
 refine dJ Tryz.underlying280 (by kernel_rfl) ?_
 refine cq (R:=a7) (S:=aH (a7) (aH (a7) (a7))) rfl (by kernel_rfl) op3 ?_
 refine cq (R:=a7) (S:=aH (a7) (a7)) rfl (by kernel_rfl) op3 ?_
 refine cq (R:=a7) (S:=a7) rfl (by kernel_rfl) op3 ?_
 exact gD rfl (by kernel_rfl) op3
theorem Zn:Opens Tryz.prog 172 (ah 280 (aH a7 (aH a7 (aH a7 a7)))):=gm Tryz.underlying172 (by kernel_rfl) (by decide) Zm
theorem Zo:Opens Tryz.prog 174 (aH (ah 3 a7) (ah 280 (aH a7 (aH a7 (aH a7 a7))))):=by
 refine dJ Tryz.underlying174 (by kernel_rfl) ?_
 refine cq (R:=ah 3 a7) (S:=ah 280 (aH a7 (aH a7 (aH a7 a7)))) rfl (by kernel_rfl) ZZ ?_
 exact gD rfl (by kernel_rfl) Zn
theorem aai:Opens Tryz.prog 45 (ah 174 (aH (ah 3 a7) (ah 280 (aH a7 (aH a7 (aH a7 a7)))))):=gm Tryz.underlying45 (by kernel_rfl) (by decide) Zo
theorem aaj:Opens Tryz.prog 47 (aH a7 (ah 174 (aH (ah 3 a7) (ah 280 (aH a7 (aH a7 (aH a7 a7))))))):=by
 refine dJ Tryz.underlying47 (by kernel_rfl) ?_
 refine cq (R:=a7) (S:=ah 174 (aH (ah 3 a7) (ah 280 (aH a7 (aH a7 (aH a7 a7)))))) rfl (by kernel_rfl) op3 ?_
 exact gD rfl (by kernel_rfl) aai
theorem op4:Opens Tryz.prog 4 od:=LA Tryz.underlying4
theorem Zp:Opens Tryz.prog 155 (ah 4 od):=gm Tryz.underlying155 (by kernel_rfl) (by decide) op4
theorem Zq:Opens Tryz.prog 156 (ah 83 (ah 3 a7)):=gm Tryz.underlying156 (by kernel_rfl) (by decide) ZZ
theorem Zr:Opens Tryz.prog 245 (aH a7 (aH (ah 4 od) (ah 83 (ah 3 a7)))):=by
 refine dJ Tryz.underlying245 (by kernel_rfl) ?_
 refine cq (R:=a7) (S:=aH (ah 4 od) (ah 83 (ah 3 a7))) rfl (by kernel_rfl) op3 ?_
 refine cq (R:=ah 4 od) (S:=ah 83 (ah 3 a7)) rfl (by kernel_rfl) Zp ?_
 exact gD rfl (by kernel_rfl) Zq
theorem aak:Opens Tryz.prog 52 (ah 245 (aH a7 (aH (ah 4 od) (ah 83 (ah 3 a7))))):=gm Tryz.underlying52 (by kernel_rfl) (by decide) Zr
theorem Zs:Opens Tryz.prog 190 (aH a7 (aH a7 (aH a7 a7))):=by
 refine dJ Tryz.underlying190 (by kernel_rfl) ?_
 refine cq (R:=a7) (S:=aH (a7) (aH (a7) (a7))) rfl (by kernel_rfl) op3 ?_
 refine cq (R:=a7) (S:=aH (a7) (a7)) rfl (by kernel_rfl) op3 ?_
 refine cq (R:=a7) (S:=a7) rfl (by kernel_rfl) op3 ?_
 exact gD rfl (by kernel_rfl) op3
theorem aal:Opens Tryz.prog 62 (ah 190 (aH a7 (aH a7 (aH a7 a7)))):=gm Tryz.underlying62 (by kernel_rfl) (by decide) Zs
theorem Z0:Opens Tryz.prog 64 (ah 190 (aH a7 (aH a7 (aH a7 a7)))):=by
 refine dJ Tryz.underlying64 (by kernel_rfl) ?_
 exact gD rfl (by kernel_rfl) aal
theorem Zt:Opens Tryz.prog 248 (aH a7 (aH (ah 190 (aH a7 (aH a7 (aH a7 a7)))) a7)):=by
 refine dJ Tryz.underlying248 (by kernel_rfl) ?_
 refine cq (R:=a7) (S:=aH (ah 190 (aH a7 (aH a7 (aH a7 a7)))) (a7)) rfl (by kernel_rfl) op3 ?_
 refine cq (R:=ah 190 (aH a7 (aH a7 (aH a7 a7)))) (S:=a7) rfl (by kernel_rfl) Z0 ?_
 exact gD rfl (by kernel_rfl) op3
theorem aam:Opens Tryz.prog 53 (ah 248 (aH a7 (aH (ah 190 (aH a7 (aH a7 (aH a7 a7)))) a7))):=gm Tryz.underlying53 (by kernel_rfl) (by decide) Zt
theorem aan:Opens Tryz.prog 55 (aH (ah 245 (aH a7 (aH (ah 4 od) (ah 83 (ah 3 a7))))) (ah 248 (aH a7 (aH (ah 190 (aH a7 (aH a7 (aH a7 a7)))) a7)))):=by
 refine dJ Tryz.underlying55 (by kernel_rfl) ?_
 refine cq (R:=ah 245 (aH a7 (aH (ah 4 od) (ah 83 (ah 3 a7))))) (S:=ah 248 (aH a7 (aH (ah 190 (aH a7 (aH a7 (aH a7 a7)))) a7))) rfl (by kernel_rfl) aak ?_
 exact gD rfl (by kernel_rfl) aam
theorem Zu:Opens Tryz.prog 183 (aH a7 (aH a7 a7)):=by
 refine dJ Tryz.underlying183 (by kernel_rfl) ?_
 refine cq (R:=a7) (S:=aH (a7) (a7)) rfl (by kernel_rfl) op3 ?_
 refine cq (R:=a7) (S:=a7) rfl (by kernel_rfl) op3 ?_
 exact gD rfl (by kernel_rfl) op3
theorem aao:Opens Tryz.prog 56 (ah 183 (aH a7 (aH a7 a7))):=gm Tryz.underlying56 (by kernel_rfl) (by decide) Zu
theorem op9:Opens Tryz.prog 9 Da:=GN Tryz.underlying9
theorem aap:Opens Tryz.prog 58 (aH (aH a7 (ah 174 (aH (ah 3 a7) (ah 280 (aH a7 (aH a7 (aH a7 a7))))))) (aH (aH (ah 245 (aH a7 (aH (ah 4 od) (ah 83 (ah 3 a7))))) (ah 248 (aH a7 (aH (ah 190 (aH a7 (aH a7 (aH a7 a7)))) a7)))) (aH (ah 183 (aH a7 (aH a7 a7))) Da))):=by
 refine dJ Tryz.underlying58 (by kernel_rfl) ?_
 refine cq (R:=aH a7 (ah 174 (aH (ah 3 a7) (ah 280 (aH a7 (aH a7 (aH a7 a7))))))) (S:=aH (aH (ah 245 (aH a7 (aH (ah 4 od) (ah 83 (ah 3 a7))))) (ah 248 (aH a7 (aH (ah 190 (aH a7 (aH a7 (aH a7 a7)))) a7)))) (aH (ah 183 (aH a7 (aH a7 a7))) (Da))) rfl (by kernel_rfl) aaj ?_
 refine cq (R:=aH (ah 245 (aH a7 (aH (ah 4 od) (ah 83 (ah 3 a7))))) (ah 248 (aH a7 (aH (ah 190 (aH a7 (aH a7 (aH a7 a7)))) a7)))) (S:=aH (ah 183 (aH a7 (aH a7 a7))) (Da)) rfl (by kernel_rfl) aan ?_
 refine cq (R:=ah 183 (aH a7 (aH a7 a7))) (S:=Da) rfl (by kernel_rfl) aao ?_
 exact gD rfl (by kernel_rfl) op9
theorem Zv {W:World} {base:Nat} {z:Value} {H:Type} {enc:TypeId×Value->H} {d:DataW H} {p:List MemPlace} (hv:Value.okWide Tryz.prog W .any base 58 z) (h:DataW.Trod enc Tryz.prog W 0 (fun _=>true) true 58 z d p) :
  ∃(x:(Int×(List ((List Int)×(List (Int×Int×Int×Int)))))×((List (Int×(List Bool)×(List (List Int))))×(List (Int×((List (Int×Int×Int×Int)))×Int)))×(List (Int×Int×Int))×ByteArray) (v0:Value) (v1:Value) (v2:Value) (v3:Value),z= .agg #[.int .i64 x.1.1,v0,v1,v2,v3,.string x.2.2.2] /\Data.lim x/\(ah 174 (aH (ah 3 a7) (ah 280 (aH a7 (aH a7 (aH a7 a7)))))).rd (hp W) [v0] x.1.2/\(ah 245 (aH a7 (aH (ah 4 od) (ah 83 (ah 3 a7))))).rd (hp W) [v1] x.2.1.1/\(ah 248 (aH a7 (aH (ah 190 (aH a7 (aH a7 (aH a7 a7)))) a7))).rd (hp W) [v2] x.2.1.2/\(ah 183 (aH a7 (aH a7 a7))).rd (hp W) [v3] x.2.2.1:=by
 obtain ⟨fuel,hf⟩:=h
 obtain ⟨⟨cs⟩,rfl,-⟩:=okWide_struct Tryz.underlying58 hv
 obtain ⟨x,hx,hl⟩:=aap.out enc W _ _ _ hf
 have hx:(aH (aH a7 (ah 174 (aH (ah 3 a7) (ah 280 (aH a7 (aH a7 (aH a7 a7))))))) (aH (aH (ah 245 (aH a7 (aH (ah 4 od) (ah 83 (ah 3 a7))))) (ah 248 (aH a7 (aH (ah 190 (aH a7 (aH a7 (aH a7 a7)))) a7)))) (aH (ah 183 (aH a7 (aH a7 a7))) Da))).rd (hp W) cs x:=hx
 obtain ⟨_,_,rfl,⟨_,_,rfl,rfl,r0⟩,⟨_,_,rfl,⟨_,_,rfl,r1,r2⟩,⟨_,_,rfl,r3,rfl⟩⟩⟩:=hx
 obtain ⟨v0,rfl⟩:=vc r0 rfl
 obtain ⟨v1,rfl⟩:=vc r1 rfl
 obtain ⟨v2,rfl⟩:=vc r2 rfl
 obtain ⟨v3,rfl⟩:=vc r3 rfl
 exact ⟨x,v0,v1,v2,v3,rfl,hl,r0,r1,r2,r3⟩
theorem aaq {W:World} {base:Nat} {z:Value} {H:Type} {enc:TypeId×Value->H} {d:DataW H} {p:List MemPlace} (hv:Value.okWide Tryz.prog W .any base 3 z) (h:DataW.Trod enc Tryz.prog W 0 (fun _=>true) true 3 z d p) :
  ∃(x:Int),z= .int .i64 x/\Data.lim x:=by
 obtain ⟨fuel,hf⟩:=h
 obtain ⟨n,rfl⟩:=okWide_int Tryz.underlying3 hv
 obtain ⟨x,hx,hl⟩:=op3.out enc W _ _ _ hf
 exact ⟨x,(List.cons.inj (show [_] = [_] from hx)).1,hl⟩
theorem Zw {W:World} {base:Nat} {z:Value} {H:Type} {enc:TypeId×Value->H} {d:DataW H} {p:List MemPlace} (hv:Value.okWide Tryz.prog W .any base 64 z) (h:DataW.Trod enc Tryz.prog W 0 (fun _=>true) true 64 z d p) :
  ∃(x:(List (Int×Int×Int×Int))) (v0:Value),z= .agg #[v0] /\Data.lim x/\(ah 190 (aH a7 (aH a7 (aH a7 a7)))).rd (hp W) [v0] x:=by
 obtain ⟨fuel,hf⟩:=h
 obtain ⟨⟨cs⟩,rfl,-⟩:=okWide_struct Tryz.underlying64 hv
 obtain ⟨x,hx,hl⟩:=Z0.out enc W _ _ _ hf
 have hx:(ah 190 (aH a7 (aH a7 (aH a7 a7)))).rd (hp W) cs x:=hx
 have r0:=hx
 obtain ⟨v0,rfl⟩:=vc r0 rfl
 exact ⟨x,v0,rfl,hl,r0⟩
end D
open D (Data)
theorem xH {H:Type} {enc:TypeId×Value->H} {a:Assume} {C:Checked} {os:Os} {f:FuncId} {fn:Func} {s:ChangeSpec} {conds:List PathCond} {apart fresh handsOn again:Bool} {X:World->Array Value->Prop}
  (hX: ∀(w w':World) (args:Array Value),w.heap=w'.heap->X w args->X w' args)
  (own:ownKnob C.prog.godebug=none) (started:os.Started) (noInit:C.prog.inits.idxOf? f=none) (hfn:C.prog.funcs[f]? =some fn)
  (witness: ∃(w:World) (tape:Tape) (i:Input),w.os=os/\(w.forCall tape i).Shaped C.prog/\i.vars= [] /\Input.okWide C.prog (w.forCall tape i) .any w.heap.size f i /\
   ((s.pre enc C.prog fn conds apart (w.forCall tape i).memory i.args/\X (w.forCall tape i).memory i.args)/\sizedMet enc C.prog fn (OpenSpec.ofChange s) apart (w.forCall tape i).memory i.args)/\a.holds C.prog (lone (Frame.enter C.prog f i.args .normal) [] (w.forCall tape i)))
  (contract: ∀(W:World) (base:Nat) (args:Array Value) (ds gs:List (DataW H)) (before:List MemPlace),
   (∀(j:Nat) t v,fn.params[j]? =some t->args[j]? =some v->Value.okWide C.prog W .any base t v)->
   DataW.Whole enc C.prog fn.params.toList s.vars apart W args.toList ds gs before->X W args->W.ShapedOpen C.prog->
   Calls C.prog f args W fun e W'=> ∃v,e= .returned v/\s.post enc C.prog fn apart fresh handsOn again W args v W') :
  ReturnsInHanded a C os f .any (fun w args=>(s.pre enc C.prog fn conds apart w args/\X w args)/\sizedMet enc C.prog fn (OpenSpec.ofChange s) apart w args) (s.post enc C.prog fn apart fresh handsOn again):=by
 refine returnsInHanded_of_calls own started noInit witness ?_
 intro w tape i _ hsh _ hok hpre _
 obtain ⟨_,_,_,fn',hfn',_,_,_,_,hval⟩:=hok
 have e:fn'=fn:=ae (hfn'.symm.trans hfn)
 subst e
 obtain ⟨⟨⟨ds,gs,before,hw,hc⟩,hx⟩,_⟩:=hpre
 have hw':=DataW.Whole.of_heap (w':=w.forCall tape i) (by rfl) hw
 refine (contract (w.forCall tape i) w.heap.size i.args ds gs before hval hw' (hX (w.forCall tape i).memory (w.forCall tape i) _ rfl hx) hsh).mono fun e W' ⟨v,he,hp⟩=>?_
 subst he
 exact ChangeSpec.post_blind hp
theorem T0 (u:TypeId) (h:Tryz.prog.typeName? 3 u=some "*errors.errorString"):u=410:=
 typeName_ptr_named (nm:= "errors.errorString") (by kernel_rfl) (by kernel_rfl) (by decide) u h
theorem xI {W:World} (h:laidMetH Tryz.prog Rows.fnExactEngineRegisterRow.laid W) (hsh:W.ShapedOpen Tryz.prog):D.LayW Tryz.prog W:=by
 rw[MakeChecks.laidMetH_plain _ _ _ (by kernel_rfl)] at h
 obtain ⟨a5,s5,hv5,-⟩:=laid_sentinel (g:=2) (ti:=276) (tp:=410) (te:=412) (ts:=9) (h.tail.tail.tail.tail) (by kernel_rfl) (by kernel_rfl) Tryz.underlying276 T0 Tryz.underlying410 Tryz.underlying412 rfl rfl Tryz.underlying9 (by kernel_rfl) (by kernel_rfl)
 obtain ⟨a6,s6,hv6,-⟩:=laid_sentinel (g:=1) (ti:=276) (tp:=410) (te:=412) (ts:=9) (h.tail.tail.tail.tail.tail) (by kernel_rfl) (by kernel_rfl) Tryz.underlying276 T0 Tryz.underlying410 Tryz.underlying412 rfl rfl Tryz.underlying9 (by kernel_rfl) (by kernel_rfl)
 have ht:Lib.TabIs Tryz.prog W "internal/strconv.uint64pow10" .u64 Lib.pow10Tab:=Lib.tabIs_of_head (g:=3) (by kernel_rfl) (by kernel_rfl) Tryz.underlying393 Tryz.underlying366 (by kernel_rfl) (by kernel_rfl) (h.tail.tail)
 exact ⟨⟨0,(R.Wt.s1_3 W hsh).imp fun m hm=>⟨by kernel_rfl,hm⟩⟩,ht,⟨_,_,hv6⟩,⟨_,_,hv5⟩⟩
theorem wC (W:World) (hL:laidMetH Tryz.prog Rows.fnExactEngineRegisterRow.laid W) (hsh:W.ShapedOpen Tryz.prog) (args:Array Value) (H:Type) (enc:TypeId×Value->H) (base:Nat) (ds gs:List (DataW H)) (before:List MemPlace)
  (hval: ∀(j:Nat) t v,Tryz.f6.params[j]? =some t->args[j]? =some v->Value.okWide Tryz.prog W .any base t v)
  (hW:DataW.Whole enc Tryz.prog Tryz.f6.params.toList Rows.fnExactEngineRegisterSpec.vars false W args.toList ds gs before) :
  Calls Tryz.prog 6 args W fun e W'=> ∃v,e= .returned v/\Rows.fnExactEngineRegisterSpec.post enc Tryz.prog Tryz.f6 false true false false W args v W':=by
 have hW':=hW
 obtain ⟨p,q,hA,hV,rfl,hfz,hnd⟩:=hW
 rw[Tryz.params6] at hA hval
 obtain ⟨z0,vs0,d0,ds0,p0,q0,hargs,rfl,rfl,h0,r0⟩:=trodAll_cons hA
 obtain ⟨z1,vs1,d1,ds1,p1,q1,rfl,rfl,rfl,h1,r1⟩:=trodAll_cons r0
 obtain ⟨z2,vs2,d2,ds2,p2,q2,rfl,rfl,rfl,h2,r2⟩:=trodAll_cons r1
 obtain ⟨rfl,rfl,rfl⟩:=trodAll_nil r2
 obtain rfl:args= #[z0,z1,z2]:=by cases args;simp_all
 obtain ⟨rfl,rfl⟩:=trodVars_none hV
 obtain ⟨x0,v0_0,v0_1,v0_2,v0_3,rfl,l0,r0_0,r0_1,r0_2,r0_3⟩:=D.Zv (hval 0 _ _ rfl rfl) h0
 obtain ⟨x1,rfl,l1⟩:=D.aaq (hval 1 _ _ rfl rfl) h1
 obtain ⟨x2,v2_0,rfl,l2,r2_0⟩:=D.Zw (hval 2 _ _ rfl rfl) h2
 have hc:=D.o0 x0 x1 x2 true (D.xG x0 x1 x2 l0 l1 l2) (I:=D.hp W) (w0:=W) v0_0 v0_1 v0_2 v0_3 v2_0 r0_0 r0_1 r0_2 r0_3 r2_0 (D.Lay.of (xI hL hsh)) W [] (D.St.init W)
 refine hc.mono fun e W' ⟨v,he,hv,hs⟩=>?_
 subst he;subst hv
 exact ⟨_,rfl,SG (f:=Tryz.f6) (s:=Rows.fnExactEngineRegisterSpec) 4 Tryz.underlying4 rfl (by kernel_rfl) rfl hW' rfl rfl rfl (D.St.below hs)⟩
set_option maxRecDepth 100000 in
theorem sG (os:Os) (started:os.Started) (H:Type) (enc:TypeId×Value->H) :
  ReturnsInHanded {} Tryz.checked os 6 .any (fun w args=>(Rows.fnExactEngineRegisterSpec.pre enc Tryz.prog Tryz.f6 [] false w args/\laidMetH Tryz.prog Rows.fnExactEngineRegisterRow.laid w)/\sizedMet enc Tryz.prog Tryz.f6 (OpenSpec.ofChange Rows.fnExactEngineRegisterSpec) false w args) (Rows.fnExactEngineRegisterSpec.post enc Tryz.prog Tryz.f6 false true false false):=by
 refine xH (C:=Tryz.checked) (X:=fun w _=>laidMetH Tryz.prog Rows.fnExactEngineRegisterRow.laid w) (fun _ _ _ hh h=>h.of_heap hh) own started (by kernel_rfl) Tryz.func6
  (ChangeSpec.witness_shaped (enc:=enc) (C:=Tryz.checked) (os:=os) (X:=fun w _=>laidMetH Tryz.prog Rows.fnExactEngineRegisterRow.laid w) false (World.laidAll Tryz.prog os Rows.fnExactEngineRegisterRow.laid) #[.agg #[.int .i64 0,.slice none 0 0,.slice none 0 0,.slice none 0 0,.slice none 0 0,.string ⟨#[]⟩],.int .i64 0,.agg #[.slice none 0 0]] 8 (World.laidAll_os _ _ _) (World.shaped_of_ZipB (by kernel_rfl) (by kernel_rfl)) (by kernel_rfl) (by kernel_rfl) (by kernel_rfl) (by rw[MakeChecks.laidMetH_plain _ _ _ (by kernel_rfl)];exact laidMet_laidAll _ (by kernel_rfl) (by kernel_rfl))) ?_
 intro W base args ds gs before hval hW hL hsh
 exact wC W hL hsh args H enc base ds gs before hval hW
theorem tx:Rows.FnExactEngineRegisterSaid:=
 OpenClaim.holds_of_wide 6 Tryz.f6 rfl rfl rfl rfl rfl rfl rfl ⟨rfl,rfl,rfl,rfl,rfl⟩ rfl rfl rfl rfl rfl (by kernel_rfl) Tryz.func6 closedLEngineRegister
  (of_decide_eq_true (by kernel_rfl)) (by unfold Func.isWrapper;first | (rw[if_pos (by decide +kernel)];kernel_rfl) | (rw[if_neg (by decide +kernel)];exact ⟨rfl,rfl⟩))
  (fun os started H enc _=>sG os started H enc)
theorem cardLEngineRegister:Rows.FnExactEngineRegisterCardSaid:=
 Claim7.holds_tied_plain_at .later [] [.data,.data,.data,.data,.sentinel,.sentinel,.pinned] true (true,"0d5d7dc186e6548009e7c177a393f50aa43d1fe9f92aa0faff0da6829b1a4e42") true
  tx (fun _ h=>by cases h) (by kernel_rfl) (fun _ h=>by cases h) fnExactEngineRegister_row_tie rfl ⟨rfl,rfl⟩ kf4EngineRegister rfl
  (fun f fn hf hfn=>by
   obtain rfl:f=6:=ae (kf1EngineRegister.symm.trans hf) |>.symm
   obtain rfl:fn=Tryz.f6:=(ae (Tryz.func6.symm.trans hfn)).symm
   exact ⟨kf2EngineRegister,fun j t ht=>by
    rw[Tryz.params6] at ht
    have hm:t ∈ [58,3,64]:=by simpa using Array.mem_of_getElem? ht
    have hall:([58,3,64].all fun u=> !Tryz.prog.wantsStandIn u)=true:=by kernel_rfl
    exact (show Tryz.prog.wantsStandIn t=false by simpa using List.all_eq_true.1 hall t hm)⟩)
  kf3EngineRegister
end Go.Proofs.YtcobhgbgllfniaaGreatDoor
