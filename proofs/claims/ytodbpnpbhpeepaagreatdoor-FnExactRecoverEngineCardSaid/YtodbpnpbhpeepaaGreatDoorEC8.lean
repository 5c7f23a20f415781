/- FnExactRecoverEngine: for every input the law returns true and changes nothing that was there. Part 9 of 9. -/
import Derived.Test.YtodbpnpbhpeepaaGreatDoorEC7
import Derived.Test.YtodbpnpbhpeepaaGreatDoorEKRecoverEngine
set_option linter.unusedVariables false
set_option linter.unusedSimpArgs false
set_option linter.unnecessarySimpa false
set_option linter.unusedSectionVars false
set_option maxRecDepth 1000000
namespace Go.Proofs.YtodbpnpbhpeepaaGreatDoor
open Go.IntKind (i64)
namespace D
open Go.RowKit
def QX (out:List Bool) (t:Int):Bool:=decide (t≥0)&&nth out t
def hit (out:List Bool) (row:List Int):Bool:=row.any (QX out)
def zN (a:AutT) (out:List Bool) (s:Nat):List Bool:=if hit out (nth a.2.2 s) then out.set s true else out
def kK (a:AutT) (out:List Bool):Nat->List Bool
 | 0=>out
 | s+1=>zN a (kK a out s) s
def cnt (out:List Bool):Nat:=out.count true
theorem Zm (out:List Bool):cnt out<=out.length:=List.count_le_length
theorem LH {out:List Bool} {s:Nat} (h:s<out.length) (k:out[s] =true):out.set s true=out:=by
 refine List.ext_getElem (by simp) fun i h1 h2=>?_
 rw[List.getElem_set]
 split
 ·rename_i e;subst e;exact k.symm
 ·rfl
theorem XK {out:List Bool} {s:Nat} (h:s<out.length) (k:out[s] =false):cnt (out.set s true)=cnt out+1:=by
 unfold cnt
 rw[List.count_set h];simp[k]
section
variable {a:AutT} {n:Nat}
theorem Gk (a:AutT) (out:List Bool) (s:Nat):(zN a out s).length=out.length:=by unfold zN;split <;> simp
theorem lM (a:AutT) (out:List Bool): ∀s,(kK a out s).length=out.length
 | 0=>rfl
 | s+1=>by rw[kK,Gk,lM a out s]
theorem zO {out:List Bool} {s:Nat} (h:s<out.length):(zN a out s=out/\ ¬(hit out (nth a.2.2 s)=true/\nth out s=false))\/(cnt (zN a out s)=cnt out+1/\hit out (nth a.2.2 s)=true/\nth out s=false):=by
 unfold zN
 rw[bJ h]
 cases hh:hit out (nth a.2.2 s) with
 | false=>exact .inl ⟨by simp,by simp⟩
 | true =>
  cases hk:out[s] with
  | true=>exact .inl ⟨by simp[LH h hk],by simp⟩
  | false=>exact .inr ⟨by simp[XK h hk],rfl,rfl⟩
theorem yS {out:List Bool} : ∀s,s<=out.length->(kK a out s=out/\cnt (kK a out s)=cnt out)\/cnt out<cnt (kK a out s)
 | 0,_=>.inl ⟨rfl,rfl⟩
 | s+1,hs=>by
  have hl:s<(kK a out s).length:=by rw[lM];omega
  have ih:=yS (out:=out) s (by omega)
  rw[kK]
  rcases zO (a:=a) hl with ⟨e,-⟩ | ⟨e,-,-⟩
  ·rw[e];exact ih
  ·rcases ih with ⟨-,h2⟩ | h
   ·exact .inr (by omega)
   ·exact .inr (by omega)
def it (a:AutT):Nat->List Bool
 | 0=>a.2.1
 | j+1=>kK a (it a j) a.2.1.length
theorem qT (a:AutT): ∀j,(it a j).length=a.2.1.length
 | 0=>rfl
 | j+1=>by rw[it,lM,qT a j]
theorem Vo (a:AutT) (j:Nat):cnt (it a j)<=a.2.1.length:=by rw[<-qT a j];exact Zm _
theorem J8 (a:AutT) (j:Nat):(it a (j+1)=it a j)\/cnt (it a j)<cnt (it a (j+1)):=by
 rcases yS (a:=a) (out:=it a j) a.2.1.length (by rw[qT];exact aD _) with h | h
 ·exact .inl h.1
 ·exact .inr h
theorem Vp {j k:Nat} (h:it a (j+1)=it a j) (hk:j<=k):it a k=it a j:=by
 induction hk with
 | refl=>rfl
 | step _ ih=>rw[it,ih];exact h
theorem QY {j k:Nat} (h:it a (j+1)=it a j) (h':it a (k+1)=it a k):it a j=it a k:=by
 rcases Nat.le_total j k with e | e
 ·exact (Vp h e).symm
 ·exact Vp h' e
theorem XL (a : AutT) : it a (a.2.1.length + 1) = it a a.2.1.length := by
  have key : ∀ j, it a (j + 1) = it a j \/ j + 1 <= cnt (it a (j + 1)) := by
    intro j
    induction j with
    | zero => rcases J8 a 0 with h | h
              · exact .inl h
              · exact .inr (by omega)
    | succ j ih =>
      rcases J8 a (j + 1) with h | h
      · exact .inl h
      · rcases ih with h' | h'
        · left; rw [it, h']; exact h'
        · exact .inr (by omega)
  rcases key a.2.1.length with h | h
  · exact h
  · have := Vo a (a.2.1.length + 1); omega
def live (a:AutT):List Bool:=it a a.2.1.length
theorem wv (a:AutT):(live a).length=a.2.1.length:=qT a _
theorem LI {α:Type} [Inhabited α] {row:List α} {p:α->Bool} {k:Nat} (h:k<row.length):(row.take (k+1)).any p=((row.take k).any p || p (nth row (k:Int))):=by
 rw[List.take_succ_eq_append_getElem h,List.any_append,bJ h];simp
section
variable (V:VA a n) (hn:n<=1000000)
include V hn
theorem QZ {out:List Bool} {s:Nat} (hs:s<n) (hl:out.length=n):ax (jH a (out,(s:Int))) aT (out,0)=some (.brk (zN a out s,9)):=by
 have hr:=V.rowAt (s:=s) (by omega) (by omega)
 have hls:s<out.length:=by omega
 have:=bp (f:=jH a (out,(s:Int))) (fun k=>(if ((nth a.2.2 (s:Int)).take k).any (QX out) then out.set s true else out,(k:Int))) 9 (fun k hk=>by
  unfold jH
  simp only
  rw[if_pos (by simp;omega),V.get (by omega) (by omega)];simp only[aa]
  rw[V.get2 (by omega) (by omega) hk];simp only[aa]
  rw[LI (by omega),show nth (nth a.2.2 (s:Int)) (k:Int)=mv a s k from rfl]
  simp only[af (show k<9223372036854775807 by omega)]
  by_cases c:mv a s k≥0
  ·have hset:(out.set s true).length=n:=by simp[hl]
   have hm:=(V.mv (s:=s) (k:=k) (by omega) (by omega) hk).2
   rw[if_pos (by simpa using c)]
   by_cases q:((nth a.2.2 (s:Int)).take k).any (QX out)=true
   ·simp only[q,if_true,Bool.true_or]
    rw[aI c (by rw[hset];exact hm),aI (by omega) (by rw[hset];omega)];simp only[aa,Int.toNat_natCast]
    split <;> simp
   ·simp only[q,Bool.false_eq_true,if_false,Bool.false_or,QX]
    rw[aI c (by rw[hl];exact hm),aI (by omega) (by rw[hl];omega)];simp only[aa,Int.toNat_natCast]
    cases hc:nth out (mv a s k) <;> simp[hc,c]
  ·rw[if_neg (by simpa using c)]
   simp[QX,c]) (by unfold jH;simp) (by unfold aT;omega)
 have e9:(nth a.2.2 (s:Int)).take 9=nth a.2.2 (s:Int):=List.take_of_length_le (by omega)
 rw[e9] at this
 exact this
theorem Ir {out:List Bool} (hl:out.length=n):ax (jI a) aT (out,0)=some (.brk (kK a out n,(n:Int))):=by
 have hlen:=V.len
 refine bp (f:=jI a) (fun s=>(kK a out s,(s:Int))) n (fun s hs=>?_) ?_ (vx (by omega))
 ·unfold jI
  simp only
  rw[if_pos (by simp;omega),ay (QZ V hn hs (by rw[lM];exact hl)),af (by omega)]
  rfl
 ·unfold jI
  simp only
  rw[if_neg (by simp;omega)]
theorem Vq:lW a=some (live a):=by
 have hlen:=V.len
 unfold lW
 rw[aK (by simp;omega)];simp only[aa,List.nil_append]
 have:=bp (f:=my a) (fun j=>(it a j,(j:Int))) n (fun j hj=>by
  unfold my
  simp only
  rw[if_pos (by simp;omega),ay (Ir V hn (by rw[qT];exact hlen)),af (by omega),it,hlen]) (by
  unfold my
  simp only
  rw[if_neg (by simp;omega)]) (vx (by omega))
 exact (ay this).trans (by simp[live,hlen])
theorem Q0 {out:List Bool} {g:Bool} {s:Nat} (hs:s<n) (hl:out.length=n):ax (dx (g,(s:Int),out) (nth a.2.2 (s:Int))) aT (g,0,out)=some (.brk (g || (hit out (nth a.2.2 (s:Int)) && !nth out (s:Int)),9,zN a out s)):=by
 have hr:=V.rowAt (s:=s) (by omega) (by omega)
 have hls:s<out.length:=by omega
 have:=bp (f:=dx (g,(s:Int),out) (nth a.2.2 (s:Int))) (fun k=>(g || (((nth a.2.2 (s:Int)).take k).any (QX out) && !nth out (s:Int)),(k:Int),if ((nth a.2.2 (s:Int)).take k).any (QX out) then out.set s true else out)) 9 (fun k hk=>by
  unfold dx
  simp only
  rw[if_pos (by simp[hr];omega),V.get2 (by omega) (by omega) hk];simp only[aa]
  rw[LI (by omega),show nth (nth a.2.2 (s:Int)) (k:Int)=mv a s k from rfl]
  simp only[af (show k<9223372036854775807 by omega)]
  by_cases c:mv a s k≥0
  ·have hset:(out.set s true).length=n:=by simp[hl]
   have hm:=(V.mv (s:=s) (k:=k) (by omega) (by omega) hk).2
   rw[if_pos (by simpa using c)]
   by_cases q:((nth a.2.2 (s:Int)).take k).any (QX out)=true
   ·simp only[q,if_true,Bool.true_or]
    have hself:nth (out.set s true) (s:Int)=true:=by
     have:=Ih (xs:=out) (i:=(s:Int)) (x:=true) (by omega) (by omega)
     simpa using this
    rw[aI c (by rw[hset];exact hm),aI (by omega) (by rw[hset];omega)];simp only[aa,Int.toNat_natCast,hself,if_true]
    split <;> simp
   ·simp only[q,Bool.false_eq_true,if_false,Bool.false_or,QX,Bool.false_and,Bool.or_false]
    rw[aI c (by rw[hl];exact hm),aI (by omega) (by rw[hl];omega)];simp only[aa,Int.toNat_natCast]
    cases hc:nth out (mv a s k) with
    | false=>simp[c]
    | true =>
     cases hd:nth out (s:Int) with
     | false=>simp[c]
     | true =>
      rw[bJ hls] at hd
      simp[c,LH hls hd]
  ·rw[if_neg (by simpa using c)]
   simp[QX,c]) (by unfold dx;simp[hr]) (by unfold aT;omega)
 have e9:(nth a.2.2 (s:Int)).take 9=nth a.2.2 (s:Int):=List.take_of_length_le (by omega)
 rw[e9] at this
 have e0:(g || (((nth a.2.2 (s:Int)).take 0).any (QX out) && !nth out (s:Int)))=g:=by simp
 rw[e0] at this
 exact this
theorem Is {out:List Bool} (hl:out.length=n): ∃g,ax (dy a) aT (false,0,out)=some (.brk (g,(n:Int),kK a out n))/\(g=true↔cnt out<cnt (kK a out n)):=by
 have hlen:=V.len
 have hnl:=V.nlen
 obtain ⟨s',e,⟨g,rfl,hg⟩⟩:=pa (f:=dy a) (fun s st=> ∃g,st=(g,(s:Int),kK a out s)/\(g=true↔cnt out<cnt (kK a out s))) n (by
  rintro s st hs ⟨g,rfl,hg⟩
  have hpl:(kK a out s).length=n:=by rw[lM];exact hl
  unfold dy
  simp only
  rw[if_pos (by simp;omega),V.get (by omega) (by omega)];simp only[aa]
  rw[ay (Q0 V hn hs hpl),af (by omega)]
  refine ⟨_,rfl,_,rfl,?_⟩
  rw[Bool.or_eq_true,ak,Bool.not_eq_true',hg,kK]
  have hc:=yS (a:=a) (out:=out) s (by omega)
  rcases zO (a:=a) (out:=kK a out s) (s:=s) (by omega) with ⟨e,k⟩ | ⟨e,k⟩
  ·rw[e];exact ⟨fun h=>h.elim id fun h=>absurd h k,.inl⟩
  ·rw[e]
   exact ⟨fun _=>by rcases hc with ⟨-,h⟩ | h <;> omega,fun _=>.inr k⟩) (by
  rintro s ⟨g,rfl,hg⟩
  unfold dy
  simp only
  rw[if_neg (by simp;omega)]) ⟨false,rfl,by simp[kK]⟩ (vx (by omega))
 exact ⟨g,e,hg⟩
theorem Zn:fa a=some (live a):=by
 have hlen:=V.len
 unfold fa
 rw[aK (by simp;omega)];simp only[aa,List.nil_append]
 obtain ⟨o,e,i,rfl,hi⟩:=cR (f:=iH a) (fun i s=> ∃b,s=(b,it a i)/\(b=true->i<=cnt (it a i))/\(b=false->it a (i+1)=it a i)) (fun o=> ∃i,o= .brk (false,it a i)/\it a (i+1)=it a i) (n+1) (s:=(true,a.2.1)) (by
  rintro i s hi ⟨b,rfl,h1,h2⟩
  unfold iH
  simp only
  cases b with
  | false=>exact .inr ⟨_,by rw[if_neg (by simp)],(fun s' e=>by cases e),i,rfl,h2 rfl⟩
  | true =>
   have hc:=Vo a i
   have h1:=h1 rfl
   obtain ⟨g,e,hg⟩:=Is V hn (out:=it a i) (by rw[qT];exact hlen)
   have ee:kK a (it a i) n=it a (i+1):=by rw[it,hlen]
   rw[ee] at e hg
   refine .inl ⟨by omega,(g,it a (i+1)),by rw[if_pos rfl,ay e],g,rfl,fun h=>?_,fun h=>?_⟩
   ·have:=hg.1 h;omega
   ·have hs:it a (i+1)=it a i:=by
     rcases J8 a i with h' | h'
     ·exact h'
     ·rw[<-hg,h] at h';cases h'
    rw[it,hs];exact hs) ⟨true,rfl,fun _=>Nat.zero_le _,fun h=>by cases h⟩ (vx (by omega))
 rw[ay e]
 have:=QY hi (XL a)
 simp[live,this]
end
end
end D
namespace D
open Go.RowKit
def nothing:AutT:=(0,[false],[[-1,-1,-1,-1,-1,-1,-1,-1,-1]])
theorem Q1:pX=some nothing:=by kernel_rfl
theorem Q2:vK=some nothing:=by kernel_rfl
theorem Q3 {n:Nat} (h:n<=1000000):iOk (n:Int)=true:=by
 have h1:i64.min= -9223372036854775808:=by decide
 have h2:i64.max=9223372036854775807:=by decide
 simp only[iOk,Lit.wf,h1,h2,ak,decide_eq_true_eq]
 omega
theorem take_one {α:Type} [Inhabited α] {xs:List α} {k:Nat} (h:k<xs.length):xs.take (k+1)=xs.take k++ [nth xs (k:Int)]:=by
 rw[List.take_succ_eq_append_getElem h,bJ h]
theorem kL {α:Type} [Inhabited α] {xs ys:List α} (h:xs <+:ys) {i:Int} (h0:0<=i) (h1:i<xs.length):nth ys i=nth xs i:=by
 obtain ⟨t,rfl⟩:=h
 exact iZ h0 h1
structure NumOk {κ:Type} [DecidableEq κ] (nx:κ->List (Option κ)) (first:κ) (G:κ->Prop) (B:Nat):Prop where
 g0:G first
 gn: ∀x,G x-> ∀y,some y∈nx x->G y
 len: ∀x,G x->(nx x).length=9
 bound: ∀l:List κ,l.Nodup->(∀x∈l,G x)->l.length<=B
section
variable {κ:Type} [DecidableEq κ] [Inhabited κ] {nx:κ->List (Option κ)} {first:κ} {G:κ->Prop} {B:Nat}
theorem NumOk.le (H:NumOk nx first G B) (i:Nat):(bfS nx first i).length<=B:=H.bound _ (pc i) (lK H.g0 H.gn i)
theorem NumOk.at (H:NumOk nx first G B) {i:Nat} (h:i<(bfS nx first i).length):G (nth (bfS nx first i) (i:Int)):=lK H.g0 H.gn i _ (b9 (by omega) (by omega))
theorem lN {i:Nat} (h:i<(bfS nx first i).length):bfS nx first (i+1)=nbS (bfS nx first i) (nx (nth (bfS nx first i) (i:Int))):=by rw[FM h,bJ h]
theorem xJ {i:Nat} (h:i<(bfS nx first i).length):bfR nx first (i+1)=bfR nx first i++ [nbR (bfS nx first i) (nx (nth (bfS nx first i) (i:Int)))]:=by rw[xA h,bJ h]
theorem AJ {β:Type} {acc:κ->β} {i:Nat} (h:i<(bfS nx first i).length):((bfS nx first (i+1)).take (i+1)).map acc=((bfS nx first i).take i).map acc++ [acc (nth (bfS nx first i) (i:Int))]:=by
 have hp:=bU (nx:=nx) (first:=first) i
 have hl:=hp.length_le
 have e:(bfS nx first (i+1)).take i=(bfS nx first i).take i:=by
  obtain ⟨t,ht⟩:=hp
  rw[<-ht,List.take_append_of_le_length (by omega)]
 rw[take_one (by omega),aN,e,kL hp (by omega) (by omega)];rfl
def MapOf (M:List (κ×Int)) (l:List κ):Prop:=M.length=l.length/\ ∀x,M.lookup x=if x∈l then some (l.idxOf x:Int) else none
theorem MapOf.one (x:κ):MapOf [(x,0)] [x]:=by
 refine ⟨rfl,fun y=>?_⟩
 rw[List.lookup_cons]
 by_cases e:y=x
 ·subst e;simp
 ·simp only[show (y==x)=false from by simp[e]];simp[e]
theorem MapOf.put {M:List (κ×Int)} {l:List κ} (h:MapOf M l) {x:κ} (hx:x∉l):MapOf ((x,(l.length:Int))::M) (l++ [x]):=by
 refine ⟨by simp[h.1],fun y=>?_⟩
 rw[List.lookup_cons]
 by_cases e:y=x
 ·subst e
  simp[List.idxOf_append,hx]
 ·simp only[show (y==x)=false from by simp[e],h.2 y,List.mem_append,List.mem_singleton,e,or_false]
  by_cases k:y∈l
  ·simp[k,List.idxOf_append]
  ·simp[k]
end
section
variable {nx:Int->List (Option Int)} {first:Int} {G:Int->Prop} {B:Nat}
theorem Iu {p3:Int->Int->Option (Int×Bool)} {l:List Int} {M:List (Int×Int)} {os:List (Option Int)} {acs:List Bool} {rws:List (List Int)} {i:Nat}
  (hi:i<l.length) (hos:os.length=9) (hM:MapOf M l) (hok: ∀y,some y∈os->iOk y=true) (hB: ∀k,(nbS l (os.take k)).length<=1000000)
  (hp: ∀(k:Nat) (hk:k<9),∃j,p3 (nth l (i:Int)) (k:Int)=some (match nth os (k:Int) with | some y=>(y,true) | none=>(j,false))) :
  ∃M',ax (eD p3 (l,M,(i:Int),0,acs,rws)) aT (l,M,[],0)=some (.brk (nbS l os,M',nbR l os,9))/\MapOf M' (nbS l os):=by
 obtain ⟨s',e,M',rfl,hM'⟩:=pa (f:=eD p3 (l,M,(i:Int),0,acs,rws)) (fun k s=> ∃M',s=(nbS l (os.take k),M',nbR l (os.take k),(k:Int))/\MapOf M' (nbS l (os.take k))) 9 (by
  rintro k s hk ⟨M1,rfl,hM1⟩
  have hpre:=me l (os.take k)
  have hlen:=hpre.length_le
  have hBk:=hB k
  obtain ⟨j,hj⟩:=hp k hk
  have hrl:(nbR l (os.take k)).length<=9:=by rw[e7,aA];omega
  unfold eD
  simp only
  rw[if_pos (by simp;omega),aI (by omega) (by omega)];simp only[aa]
  rw[kL hpre (by omega) (by omega),hj,take_one (by omega),xz,uD]
  simp only[aa,af (show k<9223372036854775807 by omega)]
  cases ho:nth os (k:Int) with
  | none =>
   simp only[Bool.false_eq_true,if_false]
   rw[aK (by simp;omega)]
   exact ⟨_,rfl,M1,rfl,hM1⟩
  | some y =>
   have hy:iOk y=true:=hok y (ho ▸ b9 (by omega) (by omega))
   simp only[if_true]
   rw[show chk (iOk y=true)=some () from by unfold chk;rw[if_pos hy]];simp only[aa]
   rw[show lkM M1 y=_ from hM1.2 y]
   by_cases c:y∈nbS l (os.take k)
   ·simp only[c,if_true,Option.isSome_some,Option.getD_some,aa]
    rw[aK (by simp;omega)]
    exact ⟨_,rfl,M1,by rw[nD c];rfl,by rw[nD c];exact hM1⟩
   ·have hput:NS M1 iOk iOk y ((nbS l (os.take k)).length:Int)=some ((y,((nbS l (os.take k)).length:Int))::M1):=by
     unfold NS
     rw[if_pos ⟨by have:=hM1.1;omega,hy,Q3 hBk⟩]
    simp only[c,if_false,Option.isSome_none,Bool.false_eq_true,hput,aa]
    rw[aK (by simp;omega)];simp only[aa]
    rw[aK (by simp;omega)]
    refine ⟨_,rfl,(y,((nbS l (os.take k)).length:Int))::M1,?_,?_⟩
    ·rw[mf c];simp only[nbI,qQ c]
    ·rw[mf c];exact hM1.put c) (by
  rintro s ⟨M1,rfl,hM1⟩
  unfold eD
  simp) (s:=(l,M,[],0)) ⟨M,rfl,hM⟩ (by unfold aT;omega)
 rw[List.take_of_length_le (by omega)] at e hM'
 exact ⟨M',e,hM'⟩
theorem Zo {most:Int} {p2:Int->Option Bool} {p3:Int->Int->Option (Int×Bool)} {acc:Int->Bool} (H:NumOk nx first G B) (hB:B<=1000000) (hmost:(B:Int)<=most) (hok: ∀x,G x->iOk x=true)
  (h2: ∀x,G x->p2 x=some (acc x)) (h3: ∀x (k:Nat),G x->k<9-> ∃j,p3 x (k:Int)=some (match nth (nx x) (k:Int) with | some y=>(y,true) | none=>(j,false))) :
  ∃N,bfE nx first N/\eW first most p2 p3=some ((0,(bfS nx first N).map acc,bfR nx first N),true):=by
 obtain ⟨N,hNB,hN⟩:=U6 (nx:=nx) (first:=first) (H.le)
 refine ⟨N,hN,?_⟩
 unfold eW
 rw[show NS ([] :List (Int×Int)) iOk iOk first 0=some [(first,0)] from by unfold NS;rw[if_pos ⟨by simp,hok _ H.g0,by decide⟩]];simp only[aa]
 obtain ⟨s',e,M',rfl,hM'⟩:=pa (f:=b8 most p2 p3) (fun i s=> ∃M,s=(bfS nx first i,M,(i:Int),0,((bfS nx first i).take i).map acc,bfR nx first i)/\MapOf M (bfS nx first i)) N (by
  rintro i s hi ⟨M,rfl,hM⟩
  have hlt:=hN.2 i hi
  have hG:=H.at hlt
  have hle:=H.le i
  have hle':=H.le (i+1)
  obtain ⟨M',e,hM'⟩:=Iu (p3:=p3) (l:=bfS nx first i) (M:=M) (os:=nx (nth (bfS nx first i) (i:Int))) (acs:=((bfS nx first i).take i).map acc) (rws:=bfR nx first i) hlt (H.len _ hG) hM (fun y hy=>hok y (H.gn _ hG y hy))
   (fun k=>by
    have:(nbS (bfS nx first i) ((nx (nth (bfS nx first i) (i:Int))).take k)).length<=B:=H.bound _ (tT (pc i)) fun x hx=>by
     rcases yK.1 hx with hx | hx
     ·exact lK H.g0 H.gn i x hx
     ·exact H.gn _ hG x (List.mem_of_mem_take hx)
    omega) (fun k hk=>h3 _ k hG hk)
  unfold b8
  simp only
  rw[if_pos (by simp;omega),ay e,<-lN hlt]
  rw[<-lN hlt] at hM'
  have hl2:=(bU (nx:=nx) (first:=first) i).length_le
  simp only
  rw[if_neg (by simp;omega),aI (by omega) (by omega)];simp only[aa]
  rw[kL (bU i) (by omega) (by omega),h2 _ hG];simp only[aa]
  have hr:(bfR nx first i).length=i:=kI fun j hj=>hN.2 j (by omega)
  rw[aK (by simp;omega)];simp only[aa]
  rw[aK (by simp;omega)];simp only[aa,af (show i<9223372036854775807 by omega)]
  exact ⟨_,rfl,M',by rw[AJ hlt,xJ hlt],hM'⟩) (by
  rintro s ⟨M,rfl,hM⟩
  unfold b8
  simp only
  rw[if_neg (by have:=hN.1;simp;omega)]) (s:=([first],[(first,0)],0,0,[],[])) ⟨_,rfl,MapOf.one first⟩ (vx (by omega))
 rw[ay e]
 simp only
 rw[List.take_of_length_le (by have:=hN.1;omega)]
end
theorem Vr {l:List Int} {x:Int} (h:l.length<=9223372036854775807):oK l x=some (if x∈l then (l.idxOf x:Int) else -1):=by
 unfold oK
 obtain ⟨o,e,hq⟩:=cR (f:=pW l x) (fun i s=>s=(i:Int)/\x∉l.take i) (fun o=>(x∈l/\o= .ret (l.idxOf x:Int))\/(x∉l/\ ∃s,o= .brk s)) l.length (s:=0) (by
  rintro i s hi ⟨rfl,hx⟩
  unfold pW
  by_cases hl:i<l.length
  ·rw[if_pos (by simp;omega),aI (by omega) (by omega)];simp only[aa]
   by_cases c:nth l (i:Int)=x
   ·refine .inr ⟨_,by rw[if_pos (by simpa using c)],(fun s' e=>by cases e),.inl ?_⟩
    have e:l=l.take i++(x::l.drop (i+1)):=by
     rw[<-c,bJ hl,<-List.drop_eq_getElem_cons hl,List.take_append_drop]
    refine ⟨by rw[e];simp,?_⟩
    congr 1
    conv=>rhs;rw[e,List.idxOf_append,if_neg hx,List.idxOf_cons_self]
    simp[aA];first | done | omega
   ·refine .inl ⟨hl,_,by rw[if_neg (by simpa using c)],by rw[af (by omega)],?_⟩
    rw[take_one hl,List.mem_append,List.mem_singleton]
    rintro (h | h)
    ·exact hx h
    ·exact c h.symm
  ·refine .inr ⟨_,by rw[if_neg (by simp;omega)],(fun s' e=>by cases e),.inr ⟨?_,_,rfl⟩⟩
   rwa [List.take_of_length_le (by omega)] at hx) ⟨rfl,by simp⟩ (vx h)
 rcases hq with ⟨hx,rfl⟩ | ⟨hx,s,rfl⟩
 ·rw[cr e,if_pos hx]
 ·rw[ay e,if_neg hx]
section
variable {a:AutT} {n:Nat} {c:List Int} {lv:List Bool} {nx:Int->List (Option Int)} {G:Int->Prop} {B:Nat} {acc:Int->Bool}
def good (n:Nat) (lv:List Bool) (r:Int):Prop:=0<=r/\r<n/\nth lv r=true
def wx (a:AutT) (c:List Int) (lv:List Bool) (r:Int):List (Option Int):=(List.range 9).map fun k=>if mv a r k≥0/\nth lv (mv a r k)=true then some (nth c (mv a r k)) else none
theorem LJ {r:Int} {k:Nat} (hk:k<9):nth (wx a c lv r) (k:Int)=if mv a r k≥0/\nth lv (mv a r k)=true then some (nth c (mv a r k)) else none:=by
 have:k<(wx a c lv r).length:=by simp[wx];omega
 rw[bJ this];simp[wx]
def RepsOf (n:Nat) (lv:List Bool) (c:List Int) (rs l:List Int):Prop:=rs.length=l.length/\ ∀j:Nat,j<l.length->good n lv (nth rs j)/\nth c (nth rs j)=nth l (j:Int)
theorem RepsOf.snoc {rs l:List Int} (h:RepsOf n lv c rs l) {t:Int} (ht:good n lv t):RepsOf n lv c (rs++ [t]) (l++ [nth c t]):=by
 refine ⟨by simp[h.1],fun j hj=>?_⟩
 by_cases e:j<l.length
 ·rw[iZ (by omega) (by have:=h.1;omega),iZ (by omega) (by omega)];exact h.2 j e
 ·have e:j=l.length:=by simp at hj;omega
  subst e
  have h1:nth (rs++ [t]) (l.length:Int)=t:=by rw[bJ (by simp[h.1])];simp[<-h.1]
  have h2:nth (l++ [nth c t]) (l.length:Int)=nth c t:=by rw[bJ (by simp)];simp
  rw[h1,h2];exact ⟨ht,rfl⟩
theorem Q4 (V:VA a n) (hn:n<=1000000) (hc:c.length=n) (hlv:lv.length=n) {l rs:List Int} {acs:List Bool} {rws:List (List Int)} {i:Nat} (hi:i<l.length) (hR:RepsOf n lv c rs l) {os:List (Option Int)} (hos:os.length=9)
  (ho: ∀r,good n lv r->nth c r=nth l (i:Int)->wx a c lv r=os) (hB: ∀k,(nbS l (os.take k)).length<=1000000) :
  ∃rs',ax (gU a c lv (l,rs,(i:Int),0,acs,rws)) aT (l,rs,[],0)=some (.brk (nbS l os,rs',nbR l os,9))/\RepsOf n lv c rs' (nbS l os):=by
 obtain ⟨s',e,rs',rfl,hR'⟩:=pa (f:=gU a c lv (l,rs,(i:Int),0,acs,rws)) (fun k s=> ∃rs',s=(nbS l (os.take k),rs',nbR l (os.take k),(k:Int))/\RepsOf n lv c rs' (nbS l (os.take k))) 9 (by
  rintro k s hk ⟨r1,rfl,hR1⟩
  have hpre:=me l (os.take k)
  have hlen:=hpre.length_le
  have hBk:=hB k
  have hrl:(nbR l (os.take k)).length<=9:=by rw[e7,aA];omega
  have hr1:=hR1.1
  obtain ⟨⟨g0,g1,g2⟩,gc⟩:=hR1.2 i (by omega)
  rw[kL hpre (by omega) (by omega)] at gc
  have hsu:=ho _ ⟨g0,g1,g2⟩ gc
  have hok:nth os (k:Int)=if mv a (nth r1 (i:Int)) k≥0/\nth lv (mv a (nth r1 (i:Int)) k)=true then some (nth c (mv a (nth r1 (i:Int)) k)) else none:=by
   rw[<-hsu];exact LJ hk
  have hmv:=V.mv (s:=nth r1 (i:Int)) (k:=k) g0 g1 hk
  unfold gU
  simp only
  rw[if_pos (by simp;omega),aI (xs:=r1) (by omega) (by omega)];simp only[aa]
  rw[V.get g0 g1];simp only[aa]
  rw[V.get2 g0 g1 hk,take_one (by omega),xz,uD]
  simp only[aa,af (show k<9223372036854775807 by omega)]
  by_cases c1:mv a (nth r1 (i:Int)) k≥0
  ·rw[if_pos (by simpa using c1),aI (xs:=lv) c1 (by omega)];simp only[aa]
   by_cases c2:nth lv (mv a (nth r1 (i:Int)) k)=true
   ·rw[if_pos ⟨c1,c2⟩] at hok
    rw[if_pos c2,aI (xs:=c) c1 (by omega),hok];simp only[aa]
    rw[Vr (by omega)];simp only[aa]
    by_cases c3:nth c (mv a (nth r1 (i:Int)) k)∈nbS l (os.take k)
    ·rw[if_pos c3,if_neg (by simp)];simp only[aa]
     rw[aK (by simp;omega)]
     exact ⟨_,rfl,r1,by rw[nD c3];rfl,by rw[nD c3];exact hR1⟩
    ·rw[if_neg c3,if_pos (by decide)]
     rw[aK (by simp;omega)];simp only[aa]
     rw[aK (by simp;omega)];simp only[aa]
     rw[aK (by simp;omega)];simp only[aa]
     refine ⟨_,rfl,r1++ [mv a (nth r1 (i:Int)) k],?_,?_⟩
     ·rw[mf c3];simp only[nbI,qQ c3]
     ·rw[mf c3];exact hR1.snoc ⟨c1,hmv.2,c2⟩
   ·rw[if_neg (fun h=>c2 h.2)] at hok
    rw[if_neg c2,hok];simp only[aa]
    rw[aK (by simp;omega)]
    exact ⟨_,rfl,r1,rfl,hR1⟩
  ·rw[if_neg (fun h=>c1 h.1)] at hok
   rw[if_neg (by simpa using c1),hok];simp only[aa]
   rw[aK (by simp;omega)]
   exact ⟨_,rfl,r1,rfl,hR1⟩) (by
  rintro s ⟨r1,rfl,hR1⟩
  unfold gU
  simp) (s:=(l,rs,[],0)) ⟨rs,rfl,hR⟩ (by unfold aT;omega)
 rw[List.take_of_length_le (by omega)] at e hR'
 exact ⟨rs',e,hR'⟩
theorem Zp (V:VA a n) (hn:n<=1000000) (hc:c.length=n) (hlv:lv.length=n) (hs:nth lv a.1=true) (H:NumOk nx (nth c a.1) G B) (hB:B<=1000000)
  (hnx: ∀r,good n lv r->nx (nth c r)=wx a c lv r) (hacc: ∀r,good n lv r->acc (nth c r)=nth a.2.1 r) :
  ∃N,bfE nx (nth c a.1) N/\jg a c lv=some (0,(bfS nx (nth c a.1) N).map acc,bfR nx (nth c a.1) N):=by
 obtain ⟨N,hNB,hN⟩:=U6 (nx:=nx) (first:=nth c a.1) (H.le)
 refine ⟨N,hN,?_⟩
 have hst:=V.start
 have hlen:=V.len
 unfold jg
 rw[aI hst.1 (by omega)];simp only[aa]
 rw[if_pos hs,aI hst.1 (by omega)];simp only[aa]
 obtain ⟨s',e,rs,rfl,hR⟩:=pa (f:=jT a c lv) (fun i s=> ∃rs,s=(bfS nx (nth c a.1) i,rs,(i:Int),0,((bfS nx (nth c a.1) i).take i).map acc,bfR nx (nth c a.1) i)/\RepsOf n lv c rs (bfS nx (nth c a.1) i)) N (by
  rintro i s hi ⟨rs,rfl,hR⟩
  have hlt:=hN.2 i hi
  have hG:=H.at hlt
  have hle:=H.le i
  have hle':=H.le (i+1)
  obtain ⟨rs',e,hR'⟩:=Q4 (acs:=((bfS nx (nth c a.1) i).take i).map acc) (rws:=bfR nx (nth c a.1) i) V hn hc hlv hlt hR (os:=nx (nth (bfS nx (nth c a.1) i) (i:Int))) (H.len _ hG) (fun r hr e=>by rw[<-hnx r hr,e]) (fun k=>by
    have:(nbS (bfS nx (nth c a.1) i) ((nx (nth (bfS nx (nth c a.1) i) (i:Int))).take k)).length<=B:=H.bound _ (tT (pc i)) fun x hx=>by
     rcases yK.1 hx with hx | hx
     ·exact lK H.g0 H.gn i x hx
     ·exact H.gn _ hG x (List.mem_of_mem_take hx)
    omega)
  unfold jT
  simp only
  rw[if_pos (by simp;omega),ay e]
  rw[<-lN hlt] at hR'
  have hl2:=(bU (nx:=nx) (first:=nth c a.1) i).length_le
  have hr1:=hR'.1
  obtain ⟨⟨g0,g1,g2⟩,gc⟩:=hR'.2 i (by omega)
  rw[kL (bU i) (by omega) (by omega)] at gc
  rw[aI (xs:=rs') (by omega) (by omega)];simp only[aa]
  rw[V.acc g0 g1,<-hacc _ ⟨g0,g1,g2⟩,gc];simp only[aa]
  have hr:(bfR nx (nth c a.1) i).length=i:=kI fun j hj=>hN.2 j (by omega)
  rw[aK (by simp;omega)];simp only[aa]
  rw[aK (by simp;omega)];simp only[aa,af (show i<9223372036854775807 by omega)]
  exact ⟨_,rfl,rs',by rw[<-lN hlt,AJ hlt,xJ hlt],hR'⟩) (by
  rintro s ⟨rs,rfl,hR⟩
  unfold jT
  simp only
  rw[if_neg (by have:=hN.1;simp;omega)]) (s:=([nth c a.1],[a.1],0,0,[],[])) ⟨[a.1],rfl,rfl,fun j hj=>by
   obtain rfl:j=0:=by simpa [bfS] using hj
   exact ⟨⟨hst.1,hst.2,hs⟩,rfl⟩⟩ (vx (by omega))
 rw[ay e]
 simp only
 rw[List.take_of_length_le (by have:=hN.1;omega)]
theorem J9 (V:VA a n) (hlv:lv.length=n) (hs:nth lv a.1=false):jg a c lv=some nothing:=by
 have hst:=V.start
 unfold jg
 rw[aI hst.1 (by omega)];simp only[aa]
 rw[hs,Q1];rfl
end
end D
namespace D
open Go.RowKit
abbrev IB:=(List Int)×Int×Int×(List Int)×Bool
abbrev T7 (x:Int) (j:Nat):Bool:=(AN (uQ x (j:Int)) 1)==1
def T8 (F:List Int) (set m0:Int):Nat->Int
 | 0=>m0
 | i+1=>if T7 set (i+1) then orI (T8 F set m0 i) (nth F (i:Int)) else T8 F set m0 i
def pick (L:List Int) (m letter:Int):Nat->Int
 | 0=>0
 | i+1=>if nth L (i:Int)=letter/\T7 m i=true then orI (pick L m letter i) (Ko 1 ((i+1:Nat):Int)) else pick L m letter i
def aft (p:IB) (set letter:Int):Int:=pick p.1 (T8 p.2.2.2.1 set (if (AN set 1)==1 then p.2.1 else 0) p.2.2.2.1.length) letter p.1.length
def xK (p:IB) (set:Int):Bool:=if (AN set 1)==1 then (if p.2.2.2.2 then true else (AN (uQ set 1) p.2.2.1) !=0) else (AN (uQ set 1) p.2.2.1) !=0
theorem tX (i:Nat):chk (0<=(i:Int))=some ():=by unfold chk;rw[if_pos (by omega)]
theorem XM {p:IB} {set letter:Int} (hl:p.2.2.2.1.length=p.1.length) (hb:p.1.length<=1000000):pB p set letter=some (aft p set letter):=by
 have h0: ∀m0,ax (iO p set) aT (m0,0)=some (.brk (T8 p.2.2.2.1 set m0 p.1.length,(p.1.length:Int))):=fun m0 =>
  bp (f:=iO p set) (fun i=>(T8 p.2.2.2.1 set m0 i,(i:Int))) p.1.length (fun i hi=>by
   unfold iO
   simp only
   rw[if_pos (by simp;omega),af (by omega),tX];simp only[aa]
   rw[T8]
   by_cases c:T7 set (i+1)=true
   ·rw[if_pos c,if_pos c,aI (by omega) (by omega)];rfl
   ·rw[if_neg c,if_neg c];rfl) (by unfold iO;simp) (vx (by omega))
 have h1: ∀s7:Int×Int,ax (iP p letter s7) aT (0,0)=some (.brk (pick p.1 s7.1 letter p.1.length,(p.1.length:Int))):=fun s7 =>
  bp (f:=iP p letter s7) (fun i=>(pick p.1 s7.1 letter i,(i:Int))) p.1.length (fun i hi=>by
   unfold iP
   simp only
   rw[if_pos (by simp;omega),af (by omega),tX,tX];simp only[aa]
   rw[pick]
   by_cases c:T7 s7.1 i=true
   ·rw[if_pos c,aI (by omega) (by omega)];simp only[aa]
    by_cases d:nth p.1 (i:Int)=letter
    ·rw[if_pos (by simpa using d),if_pos ⟨d,c⟩];rfl
    ·rw[if_neg (by simpa using d),if_neg (fun h=>d h.1)];rfl
   ·rw[if_neg c,if_neg (fun h=>c h.2)];rfl) (by unfold iP;simp) (vx (by omega))
 unfold pB aft
 rw[hl]
 by_cases c:((AN set 1)==1)=true
 ·rw[if_pos c,if_pos c];simp only[aa]
  rw[ay (h0 _),ay (h1 _)]
 ·rw[if_neg c,if_neg c];simp only[aa]
  rw[ay (h0 _),ay (h1 _)]
theorem XN {p:IB} {set letter:Int} (hl:p.2.2.2.1.length=p.1.length) (hb:p.1.length<=1000000):gB p set letter=some (aft p set letter):=by
 have h0: ∀m0,ax (dh p set) aT (m0,0)=some (.brk (T8 p.2.2.2.1 set m0 p.2.2.2.1.length,(p.2.2.2.1.length:Int))):=fun m0 =>
  bp (f:=dh p set) (fun i=>(T8 p.2.2.2.1 set m0 i,(i:Int))) p.2.2.2.1.length (fun i hi=>by
   unfold dh
   simp only
   rw[if_pos (by simp;omega),aI (by omega) (by omega)];simp only[aa]
   rw[af (by omega),tX];simp only[aa]
   rw[T8]
   by_cases c:T7 set (i+1)=true
   ·rw[if_pos c,if_pos c];rfl
   ·rw[if_neg c,if_neg c];rfl) (by unfold dh;simp) (vx (by omega))
 have h1: ∀s7:Int×Int,ax (di p letter s7) aT (0,0)=some (.brk (pick p.1 s7.1 letter p.1.length,(p.1.length:Int))):=fun s7 =>
  bp (f:=di p letter s7) (fun i=>(pick p.1 s7.1 letter i,(i:Int))) p.1.length (fun i hi=>by
   unfold di
   simp only
   rw[if_pos (by simp;omega),aI (by omega) (by omega)];simp only[aa]
   rw[af (by omega),tX,tX];simp only[aa]
   rw[pick]
   by_cases d:nth p.1 (i:Int)=letter
   ·rw[if_pos (by simpa using d)]
    by_cases c:T7 s7.1 i=true
    ·rw[if_pos c,if_pos ⟨d,c⟩];rfl
    ·rw[if_neg c,if_neg (fun h=>c h.2)];rfl
   ·rw[if_neg (by simpa using d),if_neg (fun h=>d h.1)];rfl) (by unfold di;simp) (vx (by omega))
 unfold gB aft
 by_cases c:((AN set 1)==1)=true
 ·rw[if_pos c,if_pos c];simp only[aa]
  rw[ay (h0 _),ay (h1 _)]
 ·rw[if_neg c,if_neg c];simp only[aa]
  rw[ay (h0 _),ay (h1 _)]
theorem Zq (p:IB) (x:Int):mw p x=some (xK p x):=by
 unfold mw xK
 split <;> (try split) <;> rfl
theorem Zr (p:IB) (x:Int):dw p x=some (xK p x):=by
 unfold dw xK
 split <;> (try split) <;> rfl
theorem Ni (x:Int): -9223372036854775808<=i64.wrap x/\i64.wrap x<=9223372036854775807:=by
 simp only[IntKind.wrap,IntKind.bits,IntKind.signed,Bool.true_and]
 split <;> rename_i h <;> simp at h <;> omega
theorem XO (x:Int):iOk (i64.wrap x)=true:=by
 have h1:i64.min= -9223372036854775808:=by decide
 have h2:i64.max=9223372036854775807:=by decide
 have h3:=Ni x
 simp only[iOk,Lit.wf,h1,h2,ak,decide_eq_true_eq]
 omega
theorem Zs (m n:Int):iOk (orI m n)=true:=XO _
theorem Q5 (L:List Int) (m letter:Int): ∀i,iOk (pick L m letter i)=true
 | 0=>by unfold pick;decide
 | i+1=>by
  rw[pick]
  split
  ·exact Zs _ _
  ·exact Q5 L m letter i
def nxS (p:IB) (x:Int):List (Option Int):=(List.range 9).map fun k:Nat=>if aft p x (k:Int)=0 then none else some (aft p x (k:Int))
theorem Vs {p:IB} {x:Int} {k:Nat} (hk:k<9):nth (nxS p x) (k:Int)=if aft p x k=0 then none else some (aft p x k):=by
 have:k<(nxS p x).length:=by simp[nxS];omega
 rw[bJ this];simp[nxS]
theorem Gl (p:IB) (x:Int):(nxS p x).length=9:=by simp[nxS]
theorem Zt {p:IB} {x y:Int} (h:some y∈nxS p x):iOk y=true:=by
 obtain ⟨k,hk,e⟩:=List.mem_map.1 h
 split at e
 ·cases e
 ·obtain rfl:=ae e
  exact Q5 _ _ _ _
theorem Q6 {κ:Type} [DecidableEq κ] : ∀(l:List κ) (os:List (Option κ)),(nbS l os).length<=l.length+os.length
 | l,[] =>by simp[nbS]
 | l,o::os=>by
  have h:=Q6 (nbL l o) os
  have h2:(nbL l o).length<=l.length+1:=by
   cases o with
   | none=>simp[nbL]
   | some x=>unfold nbL;simp only;split <;> simp
  show (nbS (nbL l o) os).length<=_
  simp only[al];omega
section
variable {κ:Type} [DecidableEq κ] (nx:κ->List (Option κ)) (first:κ) (acc:κ->Bool) (most:Nat)
def goM:Nat->Nat->AutT×Bool
 | 0,i=>((0,[],[]),false)
 | f+1,i=>if i<(bfS nx first i).length then (if (bfS nx first (i+1)).length>most then ((0,[],[]),false) else goM f (i+1)) else ((0,((bfS nx first i).take i).map acc,bfR nx first i),true)
end
section
variable {κ:Type} [DecidableEq κ] {nx:κ->List (Option κ)} {first:κ} {acc:κ->Bool} {most:Nat}
theorem Gn {i:Nat} (h: ∀j,j<i->j<(bfS nx first j).length):i<=(bfS nx first i).length:=by
 cases i with
 | zero=>omega
 | succ i =>
  have h1:=h i (by omega)
  have h2:=(bU (nx:=nx) (first:=first) i).length_le
  omega
theorem LK {S:Type} {f:S->Option (Out (AutT×Bool) S)} (hm:most<=1000000) (h1:1<=most) (st:Nat->S->Prop)
  (hs: ∀i s,st i s->(∀j,j<i->j<(bfS nx first j).length)->(bfS nx first i).length<=most->i<(bfS nx first i).length->((bfS nx first (i+1)).length>most->f s=some (.ret ((0,[],[]),false)))/\((bfS nx first (i+1)).length<=most-> ∃s',f s=some (.nxt s')/\st (i+1) s'))
  (he: ∀i s,st i s-> ¬i<(bfS nx first i).length->f s=some (.brk s)) {s:S} (h0:st 0 s) :
  (ax f aT s=some (.ret ((0,[],[]),false))/\goM nx first acc most (most+2) 0=((0,[],[]),false)) \/
  ∃N s',ax f aT s=some (.brk s')/\st N s'/\bfE nx first N/\N<=most/\goM nx first acc most (most+2) 0=((0,(bfS nx first N).map acc,bfR nx first N),true):=by
 obtain ⟨o,e,hq⟩:=cR (f:=f) (fun i s=>st i s/\(∀j,j<i->j<(bfS nx first j).length)/\(bfS nx first i).length<=most/\goM nx first acc most (most+2) 0=goM nx first acc most (most+2 - i) i)
  (fun o=>(o= .ret ((0,[],[]),false)/\goM nx first acc most (most+2) 0=((0,[],[]),false))\/ ∃N s',o= .brk s'/\st N s'/\bfE nx first N/\N<=most/\goM nx first acc most (most+2) 0=((0,(bfS nx first N).map acc,bfR nx first N),true)) most (s:=s) (by
  rintro i s hi ⟨k1,k2,k3,k4⟩
  have hle:=Gn k2
  rw[show most+2 - i=(most+1 - i)+1 from by omega] at k4
  have k5:goM nx first acc most (most+1 - i+1) i=if i<(bfS nx first i).length then (if (bfS nx first (i+1)).length>most then ((0,[],[]),false) else goM nx first acc most (most+1 - i) (i+1)) else ((0,((bfS nx first i).take i).map acc,bfR nx first i),true):=rfl
  rw[k5] at k4
  by_cases c:i<(bfS nx first i).length
  ·rw[if_pos c] at k4
   obtain ⟨q1,q2⟩:=hs i s k1 k2 k3 c
   by_cases d:(bfS nx first (i+1)).length>most
   ·rw[if_pos d] at k4
    exact .inr ⟨_,q1 d,(fun s' e=>by cases e),.inl ⟨rfl,k4⟩⟩
   ·rw[if_neg d] at k4
    obtain ⟨s',e,hs'⟩:=q2 (by omega)
    exact .inl ⟨by omega,s',e,hs',fun j hj=>(by
     by_cases ej:j=i
     ·subst ej;exact c
     ·exact k2 j (by omega)),by omega,by rw[k4];congr 1;omega⟩
  ·rw[if_neg c] at k4
   refine .inr ⟨_,he i s k1 c,(fun s' e=>by cases e),.inr ⟨i,s,rfl,k1,⟨by omega,k2⟩,hi,?_⟩⟩
   rw[k4,List.take_of_length_le (by omega)]) ⟨h0,fun j hj=>by omega,by simp[bfS];omega,rfl⟩ (vx (by omega))
 rcases hq with ⟨rfl,h⟩ | ⟨N,s',rfl,h⟩
 ·exact .inl ⟨e,h⟩
 ·exact .inr ⟨N,s',e,h⟩
end
section
variable {p:IB} {most:Nat} (hl:p.2.2.2.1.length=p.1.length) (hb:p.1.length<=1000000) (hm:most<=900000) (h1:1<=most)
include hl hb hm h1
theorem aaS:iG p most=some (goM (nxS p) 1 (xK p) most (most+2) 0):=by
 have hp3: ∀(l:List Int) (i k:Nat),k<9-> ∃j,(fun a0 a1=>dk a0 a1 (p.1,p.2.1,p.2.2.1,p.2.2.2.1,p.2.2.2.2)) (nth l (i:Int)) (k:Int)=some (match nth (nxS p (nth l (i:Int))) (k:Int) with | some y=>(y,true) | none=>(j,false)):=by
  intro l i k hk
  refine ⟨0,?_⟩
  show dk _ _ p=_
  unfold dk
  simp only[dM]
  rw[XN hl hb,Vs hk];simp only[aa]
  by_cases c:aft p (nth l (i:Int)) k=0
  ·rw[if_pos c];simp[c]
  ·rw[if_neg c];simp[c]
 unfold iG eW
 rw[show NS ([] :List (Int×Int)) iOk iOk 1 0=some [(1,0)] from by unfold NS;rw[if_pos ⟨by simp,by decide,by decide⟩]];simp only[aa]
 rcases LK (nx:=nxS p) (first:=1) (acc:=xK p) (most:=most) (f:=b8 most (fun a0=>dw (p.1,p.2.1,p.2.2.1,p.2.2.2.1,p.2.2.2.2) a0) (fun a0 a1=>dk a0 a1 (p.1,p.2.1,p.2.2.1,p.2.2.2.1,p.2.2.2.2)))
  (by omega) h1 (fun i s=> ∃M,s=(bfS (nxS p) 1 i,M,(i:Int),0,((bfS (nxS p) 1 i).take i).map (xK p),bfR (nxS p) 1 i)/\MapOf M (bfS (nxS p) 1 i)) (by
   rintro i s ⟨M,rfl,hM⟩ hj hle hlt
   have hil:=Gn hj
   obtain ⟨M',e,hM'⟩:=Iu (p3:=fun a0 a1=>dk a0 a1 (p.1,p.2.1,p.2.2.1,p.2.2.2.1,p.2.2.2.2)) (l:=bfS (nxS p) 1 i) (M:=M) (os:=nxS p (nth (bfS (nxS p) 1 i) (i:Int))) (acs:=((bfS (nxS p) 1 i).take i).map (xK p)) (rws:=bfR (nxS p) 1 i) hlt (Gl _ _) hM (fun y hy=>Zt hy)
    (fun k=>by
     have:=Q6 (bfS (nxS p) 1 i) ((nxS p (nth (bfS (nxS p) 1 i) (i:Int))).take k)
     have h9:=Gl p (nth (bfS (nxS p) 1 i) (i:Int))
     rw[aA] at this
     omega) (fun k hk=>hp3 _ i k hk)
   rw[<-lN hlt] at hM'
   have hl2:=(bU (nx:=nxS p) (first:=1) i).length_le
   constructor
   ·intro hgt
    unfold b8
    simp only
    rw[if_pos (by simp;omega),ay e,<-lN hlt]
    simp only
    rw[if_pos (by simp;omega)]
   ·intro hle2
    unfold b8
    simp only
    rw[if_pos (by simp;omega),ay e,<-lN hlt]
    simp only
    rw[if_neg (by simp;omega),aI (by omega) (by omega)];simp only[aa]
    rw[kL (bU i) (by omega) (by omega)]
    simp only[dM]
    rw[Zr];simp only[aa]
    have hr:(bfR (nxS p) 1 i).length=i:=kI hj
    rw[aK (by simp;omega)];simp only[aa]
    rw[aK (by simp;omega)];simp only[aa,af (show i<9223372036854775807 by omega)]
    exact ⟨_,rfl,M',by rw[AJ hlt,xJ hlt],hM'⟩) (by
   rintro i s ⟨M,rfl,hM⟩ hn
   unfold b8
   simp only
   rw[if_neg (by simp;omega)]) (s:=([1],[(1,0)],0,0,[],[])) ⟨_,rfl,MapOf.one 1⟩ with ⟨e,hg⟩ | ⟨N,s',e,⟨M,rfl,hM⟩,hN,hNm,hg⟩
 ·rw[cr e,hg];rfl
 ·rw[ay e,hg];simp only[aa]
  rw[List.take_of_length_le (by have:=hN.1;omega)]
theorem T9 {l:List Int} {acs:List Bool} {rws:List (List Int)} {i:Nat} (hi:i<l.length) (hle:l.length<=most) :
  ax (fT p (l,(i:Int),0,acs,rws)) aT (l,[],0)=some (.brk (nbS l (nxS p (nth l (i:Int))),nbR l (nxS p (nth l (i:Int))),9)):=by
 have h9:=Gl p (nth l (i:Int))
 have:=bp (f:=fT p (l,(i:Int),0,acs,rws)) (fun k=>(nbS l ((nxS p (nth l (i:Int))).take k),nbR l ((nxS p (nth l (i:Int))).take k),(k:Int))) 9 (fun k hk=>by
  have hpre:=me l ((nxS p (nth l (i:Int))).take k)
  have hlen:=hpre.length_le
  have hB:=Q6 l ((nxS p (nth l (i:Int))).take k)
  rw[aA] at hB
  have hrl:(nbR l ((nxS p (nth l (i:Int))).take k)).length<=9:=by rw[e7,aA];omega
  unfold fT
  simp only[dM]
  rw[if_pos (by simp;omega),aI (by omega) (by omega)];simp only[aa]
  rw[kL hpre (by omega) (by omega),XM hl hb];simp only[aa]
  rw[take_one (by omega),xz,uD,Vs hk]
  simp only[af (show k<9223372036854775807 by omega)]
  by_cases c:aft p (nth l (i:Int)) k=0
  ·rw[if_pos c,if_neg (by simp[c])];simp only[aa]
   rw[aK (by simp;omega)];rfl
  ·rw[if_neg c,if_pos (by simpa using c),Vr (by omega)];simp only[aa]
   by_cases d:aft p (nth l (i:Int)) k∈nbS l ((nxS p (nth l (i:Int))).take k)
   ·rw[if_pos d,if_neg (by simp),nD d];simp only[aa]
    rw[aK (by simp;omega)];rfl
   ·rw[if_neg d,if_pos (by decide),aK (by simp;omega),mf d];simp only[aa]
    rw[aK (by simp;omega)];simp only[nbI,qQ d,aa]) (by
  unfold fT
  simp) (by unfold aT;omega)
 have e9:(nxS p (nth l (i:Int))).take 9=nxS p (nth l (i:Int)):=List.take_of_length_le (by omega)
 rw[e9] at this
 exact this
theorem aaT:jG p most=some (goM (nxS p) 1 (xK p) most (most+2) 0):=by
 unfold jG
 rcases LK (nx:=nxS p) (first:=1) (acc:=xK p) (most:=most) (f:=fU p most)
  (by omega) h1 (fun i s=>s=(bfS (nxS p) 1 i,(i:Int),0,((bfS (nxS p) 1 i).take i).map (xK p),bfR (nxS p) 1 i)) (by
   rintro i s rfl hj hle hlt
   have hil:=Gn hj
   have e:=T9 hl hb hm h1 (acs:=((bfS (nxS p) 1 i).take i).map (xK p)) (rws:=bfR (nxS p) 1 i) hlt hle
   have hl2:=(bU (nx:=nxS p) (first:=1) i).length_le
   constructor
   ·intro hgt
    unfold fU
    simp only
    rw[if_pos (by simp;omega),ay e,<-lN hlt]
    simp only
    rw[if_pos (by simp;omega)]
   ·intro hle2
    unfold fU
    simp only
    rw[if_pos (by simp;omega),ay e,<-lN hlt]
    simp only
    rw[if_neg (by simp;omega),aI (by omega) (by omega)];simp only[aa]
    rw[kL (bU i) (by omega) (by omega)]
    simp only[dM]
    rw[Zq];simp only[aa]
    have hr:(bfR (nxS p) 1 i).length=i:=kI hj
    rw[aK (by simp;omega)];simp only[aa]
    rw[aK (by simp;omega)];simp only[aa,af (show i<9223372036854775807 by omega)]
    exact ⟨_,rfl,by rw[AJ hlt,xJ hlt]⟩) (by
   rintro i s rfl hn
   unfold fU
   simp only
   rw[if_neg (by simp;omega)]) (s:=([1],0,0,[],[])) rfl with ⟨e,hg⟩ | ⟨N,s',e,rfl,hN,hNm,hg⟩
 ·rw[cr e,hg]
 ·rw[ay e,hg];simp only
  rw[List.take_of_length_le (by have:=hN.1;omega)]
end
end D
namespace D
open Go.RowKit
theorem Ua (m n:Int):orI m n=orI n m:=by unfold orI;rw[BitVec.or_comm]
def lk (F:List Int) (from_ to_:Int):Nat->List Int
 | 0=>F
 | i+1=>if T7 from_ i then (lk F from_ to_ i).set i (orI (nth (lk F from_ to_ i) (i:Int)) to_) else lk F from_ to_ i
theorem CB (F:List Int) (f t:Int): ∀i,(lk F f t i).length=F.length
 | 0=>rfl
 | i+1=>by
  rw[lk]
  split
  ·rw[List.length_set,CB]
  ·exact CB F f t i
theorem Vt {p:IB} {f t:Int} (hl:p.2.2.2.1.length<=1000000):oJ p f t=some (p.1,p.2.1,p.2.2.1,lk p.2.2.2.1 f t p.2.2.2.1.length,p.2.2.2.2):=by
 have hL:ax (jF f t) aT (0,p.2.2.2.1)=some (.brk ((p.2.2.2.1.length:Int),lk p.2.2.2.1 f t p.2.2.2.1.length)):=bp (f:=jF f t) (fun i=>((i:Int),lk p.2.2.2.1 f t i)) p.2.2.2.1.length (fun i hi=>by
  have hk:=CB p.2.2.2.1 f t i
  unfold jF
  simp only
  rw[if_pos (by simp;omega),tX];simp only[aa]
  rw[lk,af (by omega)]
  by_cases c:T7 f i=true
  ·rw[if_pos c,if_pos c,aI (by omega) (by omega)];simp only[aa,Int.toNat_natCast]
  ·rw[if_neg c,if_neg c];rfl) (by unfold jF;simp[CB]) (vx (by omega))
 unfold oJ
 rw[ay hL]
theorem LL {p:IB} {f t:Int} (hl:p.2.2.2.1.length<=1000000):dO p f t=some (p.1,p.2.1,p.2.2.1,lk p.2.2.2.1 f t p.2.2.2.1.length,p.2.2.2.2):=by
 have hL:ax (cW p f t) aT (0,p.2.2.2.1)=some (.brk ((p.2.2.2.1.length:Int),lk p.2.2.2.1 f t p.2.2.2.1.length)):=bp (f:=cW p f t) (fun i=>((i:Int),lk p.2.2.2.1 f t i)) p.2.2.2.1.length (fun i hi=>by
  have hk:=CB p.2.2.2.1 f t i
  unfold cW
  simp only
  rw[if_pos (by simp;omega),tX];simp only[aa]
  rw[lk,af (by omega)]
  by_cases c:T7 f i=true
  ·rw[if_pos c,if_pos c,aI (by omega) (by omega)];simp only[aa,Int.toNat_natCast]
  ·rw[if_neg c,if_neg c];rfl) (by unfold cW;simp) (vx (by omega))
 unfold dO
 rw[ay hL]
def BOk (x:Tr Tok):Prop:= ∀(n m:Nat) (p:IB),(flat x).length<=n->(flat x).length<=m->p.2.2.2.1.length=p.1.length->p.1.length+(flat x).length<=100000->
 ∃(nu:Bool) (fi la:Int) (q:IB),dA n p (flat x)=some ((nu,fi,la),q)/\bH m p x=some ((fi,la,nu),q)/\q.2.2.2.1.length=q.1.length/\q.1.length<=p.1.length+(flat x).length
theorem Ub {x:Tr Tok} (h:WT x):BOk x:=by
 refine WT.ind (p:=BOk) ?_ ?_ ?_ h
 ·intro t e n m p hn hm hF hl
  rw[DA] at hn hm hl⊢
  simp only[al,aE] at hl
  match n,m,hn,hm with
  | n+1,m+1,_,_ =>
   rw[dA,bH];simp only[qS,aa]
   have:=(n9 (A:=[]) (t:=t) (by simp)).1
   rw[List.nil_append] at this
   rw[this];simp only[aa,dM]
   rcases pe (show 0<=ar t by omega) with ⟨k,_⟩ | ⟨k,_⟩ | ⟨_,k⟩
   ·omega
   ·omega
   rcases k with k | k | k
   ·exact ⟨false,0,0,p,by simp[k],by simp[k],hF,by simp⟩
   ·exact ⟨true,0,0,p,by simp[k],by simp[k],hF,by simp⟩
   ·refine ⟨false,Ko 1 (p.1.length:Int),Ko 1 (p.1.length:Int),(p.1++ [t.2.1],p.2.1,p.2.2.1,p.2.2.2.1++ [0],p.2.2.2.2),?_,?_,by simp[hF],by simp⟩
    ·rw[if_neg (by simp[k]),if_pos (by simp[k]),aK (by simp;omega)];simp only[aa]
     rw[aK (by simp;omega)];rfl
    ·rw[if_neg (by simp[k]),if_pos (by simp[k]),aK (by simp;omega)];simp only[aa]
     rw[aK (by simp;omega)];rfl
 ·intro t a e wa ih n m p hn hm hF hl
  rw[Gf] at hn hm hl⊢
  simp only[aw,al,aE] at hn hm hl
  match n,m,hn,hm with
  | n+1,m+1,hn,hm =>
   rw[dA,bH];simp only[qS,aa,dM]
   obtain ⟨l1,l2⟩:=n9 (A:=flat a) (t:=t) (by omega)
   rw[l1];simp only[aa]
   obtain ⟨nu,fi,la,q,hs,hi,hq1,hq2⟩:=ih n m p (by omega) (by omega) hF (by omega)
   rcases T3 e with ⟨k1,k2⟩ | ⟨k1,k2,k3⟩
   ·have g2:(t.1==2)=false:=by simp[k2]
    have g3:(t.1==3)=false:=by simp[k2]
    have g4:(t.1==4)=false:=by simp[k2]
    have g5:(t.1==5)=false:=by simp[k2]
    simp only[g2,g3,g4,g5,k1,Bool.false_eq_true,if_false,if_true]
    rw[l2,Int.toNat_natCast,List.take_left,chk_of (by simp only[aw,al,aE];omega)];simp only[aa]
    rw[hs,show aQ [a] 0=some a from rfl];simp only[aa]
    rw[hi];simp only[aa,dM]
    rw[Vt (by omega),LL (by omega)];simp only[aa]
    refine ⟨true,fi,la,_,rfl,rfl,?_,?_⟩
    ·simp only[CB];exact hq1
    ·simp only[aw,al,aE];omega
   ·have g2:(t.1==2)=false:=by simp[k3]
    have g3:(t.1==3)=false:=by simp[k3]
    have g4:(t.1==4)=false:=by simp[k3]
    have g5:(t.1==5)=false:=by simp[k3]
    simp only[g2,g3,g4,g5,k1,Bool.false_eq_true,if_false]
    exact ⟨false,0,0,p,rfl,rfl,hF,by omega⟩
 ·intro t a b e wa wb iha ihb n m p hn hm hF hl
  rw[wu] at hn hm hl⊢
  have hl2:((flat a++flat b)++ [t]).length<=1000000:=by omega
  obtain ⟨p1,p2,p3,p4⟩:=CA (a:=a) (t:=t) wb hl2
  simp only[aw,al,aE] at hn hm hl
  match n,m,hn,hm with
  | n+1,m+1,hn,hm =>
   have hpa:=wa.pos
   have hpb:=wb.pos
   rw[dA,bH];simp only[qS,aa,dM]
   obtain ⟨l1,l2⟩:=n9 (A:=flat a++flat b) (t:=t) (by rw[aw];omega)
   rw[l1];simp only[aa]
   obtain ⟨nu,fi,la,q,hs,hi,hq1,hq2⟩:=iha n m p (by omega) (by omega) hF (by omega)
   obtain ⟨nu2,fi2,la2,q2,hs2,hi2,hq3,hq4⟩:=ihb n m q (by omega) (by omega) hq1 (by omega)
   have c1: ∀r:Int,0<=r->r<=((flat a++flat b++ [t]).length:Int)->chk (0<=r/\r<=((flat a++flat b++ [t]).length:Int))=some ():=fun r h1 h2=>chk_of ⟨h1,h2⟩
   have g0:aQ [a,b] 0=some a:=rfl
   have g1:aQ [a,b] 1=some b:=rfl
   rcases pe (show 0<=ar t by omega) with ⟨_,k⟩ | ⟨k,_⟩ | ⟨k,_⟩
   ·rcases k with k | k
    ·have g2:(t.1==2)=false:=by simp[k]
     have g3:(t.1==3)=false:=by simp[k]
     have g4:(t.1==4)=true:=by simp[k]
     have g5:(t.1==5)=false:=by simp[k]
     simp only[g2,g3,g4,g5,Bool.false_eq_true,if_false,if_true]
     rw[l2,p1,p2,chk_of (by simp only[aw,al,aE];omega)];simp only[aa]
     rw[chk_of (by simp only[aw,al,aE];omega),p3,p4,hs,g0,g1];simp only[aa]
     rw[hi,chk_of (by simp only[aw,al,aE];omega)];simp only[aa,dM]
     rw[hs2,hi2];simp only[aa,dM]
     rw[Vt (by omega),LL (by omega)];simp only[aa]
     refine ⟨nu&&nu2,if nu then orI fi fi2 else fi,if nu2 then orI la la2 else la2,(q2.1,q2.2.1,q2.2.2.1,lk q2.2.2.2.1 la fi2 q2.2.2.2.1.length,q2.2.2.2.2),?_,?_,?_,?_⟩
     ·cases nu <;> cases nu2 <;> rfl
     ·rw[Ua la la2]
      cases nu <;> cases nu2 <;> rfl
     ·simp only[CB];exact hq3
     ·simp only[aw,al,aE];omega
    ·have g2:(t.1==2)=false:=by simp[k]
     have g3:(t.1==3)=false:=by simp[k]
     have g4:(t.1==4)=false:=by simp[k]
     have g5:(t.1==5)=true:=by simp[k]
     simp only[g2,g3,g4,g5,Bool.false_eq_true,if_false,if_true]
     rw[l2,p1,p2,chk_of (by simp only[aw,al,aE];omega)];simp only[aa]
     rw[chk_of (by simp only[aw,al,aE];omega),p3,p4,hs,g0,g1];simp only[aa]
     rw[hi,chk_of (by simp only[aw,al,aE];omega)];simp only[aa,dM]
     rw[hs2,hi2];simp only[aa,dM]
     refine ⟨nu || nu2,orI fi fi2,orI la la2,q2,?_,?_,hq3,?_⟩
     ·cases nu <;> simp
     ·cases nu <;> simp
     ·simp only[aw,al,aE];omega
   ·omega
   ·omega
def Ka (e:List Tok):Nat->Nat
 | 0=>0
 | i+1=>if (nth e (i:Int)).1=3 then Ka e i+1 else Ka e i
theorem Kb (e:List Tok): ∀i,Ka e i<=i
 | 0=>aD _
 | i+1=>by
  have:=Kb e i
  rw[Ka];split <;> omega
theorem aaU {r:List Tok×Bool} (hl:r.1.length<=1000000):ax (dB r) aT (0,0)=some (.brk ((Ka r.1 r.1.length:Int),(r.1.length:Int))):=
 bp (f:=dB r) (fun i=>((Ka r.1 i:Int),(i:Int))) r.1.length (fun i hi=>by
  have:=Kb r.1 i
  unfold dB
  simp only
  rw[if_pos (by simp;omega),aI (by omega) (by omega)];simp only[aa]
  rw[Ka,af (show i<9223372036854775807 by omega),af (show Ka r.1 i<9223372036854775807 by omega)]
  by_cases c:(nth r.1 (i:Int)).1=3
  ·rw[if_pos (by simpa using c),if_pos c];rfl
  ·rw[if_neg (by simpa using c),if_neg c];rfl) (by unfold dB;simp) (vx (by omega))
theorem aaV {r:List Tok×Bool} (hl:r.1.length<=1000000):ax (du r) aT (0,0)=some (.brk ((Ka r.1 r.1.length:Int),(r.1.length:Int))):=
 bp (f:=du r) (fun i=>((Ka r.1 i:Int),(i:Int))) r.1.length (fun i hi=>by
  have:=Kb r.1 i
  unfold du
  simp only
  rw[if_pos (by simp;omega),aI (by omega) (by omega)];simp only[aa]
  rw[Ka,af (show i<9223372036854775807 by omega),af (show Ka r.1 i<9223372036854775807 by omega)]
  by_cases c:(nth r.1 (i:Int)).1=3
  ·rw[if_pos (by simpa using c),if_pos c];rfl
  ·rw[if_neg (by simpa using c),if_neg c];rfl) (by unfold du;simp) (vx (by omega))
theorem wz {e:List Tok} (he:e.length<=1048576): ∃r:IB×Bool,im e=some r/\il e=some r/\r.1.2.2.2.1.length=r.1.1.length/\r.1.1.length<=100000:=by
 have hF:=xI
 obtain ⟨e1,e2⟩:=J7 he
 unfold im il
 rw[e1,e2];simp only[aa]
 by_cases c:(Nh e).2=true
 ·obtain ⟨y,wy,ey,ly⟩:=XJ c
  rw[if_pos c,if_pos c,ay (aaU (by rw[ey];omega)),ay (aaV (by rw[ey];omega))]
  simp only
  by_cases d:(Ka (Nh e).1 (Nh e).1.length:Int)>20
  ·have d':decide ((Ka (Nh e).1 (Nh e).1.length:Int)>20)=true:=decide_eq_true d
   simp only[d',if_true]
   exact ⟨_,rfl,rfl,rfl,by simp⟩
  ·have d':decide ((Ka (Nh e).1 (Nh e).1.length:Int)>20)=false:=decide_eq_false d
   simp only[d',Bool.false_eq_true,if_false]
   rw[ey,Gh (by omega),yQ wy];simp only[aa]
   obtain ⟨nu,fi,la,q,hs,hi,hq1,hq2⟩:=Ub wy gR gR ([],0,0,[],false) (by omega) (by omega) rfl (by simp;omega)
   rw[hs,hi];simp only[aa]
   exact ⟨_,rfl,rfl,hq1,by simp at hq2;show q.1.length<=_;omega⟩
 ·rw[if_neg c,if_neg c]
  exact ⟨_,rfl,rfl,rfl,by simp⟩
end D
namespace D
open Go.RowKit
theorem Nj (n:Nat) (l:List Int) (hd:l.Nodup) (h: ∀x∈l,0<=x/\x<n):l.length<=n:=by
 have:=hd.length_le_of_subset (l₂:=(List.range n).map Int.ofNat) (fun x hx=>by
  obtain ⟨h0,h1⟩:=h x hx
  exact List.mem_map.2 ⟨x.toNat,List.mem_range.2 (by omega),by show ((x.toNat:Nat):Int)=x;omega⟩)
 simpa using this
theorem Zu {n:Nat} {x:Int} (hn:n<=1000000) (h0:0<=x) (h1:x<n):iOk x=true:=by
 have:=Q3 (n:=x.toNat) (by omega)
 rwa [show ((x.toNat:Nat):Int)=x from by omega] at this
theorem Zv {κ:Type} [DecidableEq κ] {nx:κ->List (Option κ)} {first:κ} {G:κ->Prop} {B N:Nat} {acc:κ->Bool} (H:NumOk nx first G B) (hB:B<=1000000) (hN:bfE nx first N):Data.sm ((0,(bfS nx first N).map acc,bfR nx first N):AutT):=by
 have hl:=H.bound _ (pc (nx:=nx) (first:=first) N) (lK H.g0 H.gn N)
 refine ⟨trivial,⟨by rw[List.length_map];omega,fun _ _=>trivial⟩,?_,?_⟩
 ·rw[kI hN.2];have:=hN.1;omega
 ·have key: ∀i,i<=N-> ∀r∈bfR nx first i,r.length=9:=by
   intro i
   induction i with
   | zero=>intro _ r hr;cases hr
   | succ i ih =>
    intro hi r hr
    have hlt:=hN.2 i (by omega)
    rw[xA hlt] at hr
    rcases aF hr with hr | hr
    ·exact ih (by omega) r hr
    ·obtain rfl:=aq hr
     rw[e7,H.len _ (lK H.g0 H.gn i _ (List.getElem_mem hlt))]
  intro r hr
  exact ⟨by rw[key N (aD _) r hr];decide,fun _ _=>trivial⟩
theorem Nk:Data.sm nothing:=⟨trivial,⟨by decide,fun _ _=>trivial⟩,by decide,fun r hr=>by
 obtain rfl:=aq hr
 exact ⟨by decide,fun _ _=>trivial⟩⟩
end D
namespace D
open Go.RowKit
theorem Nl {κ:Type} [DecidableEq κ] {l m:List κ} (h:l <+:m) {y:κ} (hy:y∈l):(m.idxOf y:Int)=l.idxOf y:=by
 obtain ⟨t,rfl⟩:=h
 rw[List.idxOf_append,if_pos hy]
theorem Vu {κ:Type} [DecidableEq κ] : ∀(l:List κ) (os:List (Option κ)) (i:Nat),i<os.length->nth (nbR l os) (i:Int)=nbI (nbS l os) (nth os (i:Int))
 | l,o::os,0,_=>by
  show nbI l o=nbI (nbS (nbL l o) os) o
  cases o with
  | none=>rfl
  | some y =>
   have hm:y∈nbL l (some y):=Qg.2 (.inr rfl)
   simp only[nbI]
   rw[Nl (me _ os) hm]
   by_cases c:y∈l
   ·rw[nD c]
   ·rw[mf c,List.idxOf_append,if_neg c,qQ c];simp
 | l,o::os,i+1,h=>by
  have h':i<os.length:=by simpa using h
  have ih:=Vu (nbL l o) os i h'
  have e1:nth (nbR l (o::os)) ((i+1:Nat):Int)=nth (nbR (nbL l o) os) (i:Int):=by
   rw[bJ (by rw[e7];exact h),bJ (by rw[e7];exact h')];rfl
  have e2:nth (o::os) ((i+1:Nat):Int)=nth os (i:Int):=by rw[bJ h,bJ h'];rfl
  rw[e1,e2];exact ih
theorem p8 {κ:Type} [DecidableEq κ] {l:List κ} {y:κ} (h:y∈l): ∃(q:Nat) (hq:q<l.length),nbI l (some y)=(q:Int)/\l[q] =y:=
 ⟨l.idxOf y,List.idxOf_lt_length_of_mem h,rfl,by simp⟩
theorem Gp {κ:Type} [DecidableEq κ] {l:List κ} {y:κ} (h:y∉l):nbI l (some y)=(l.length:Int):=by simp only[nbI,qQ h]
def Vv:List Int->Nat->Nat->Prop
 | [],c,m=>c=m
 | x::xs,c,m=>(x= -1/\Vv xs c m)\/(0<=x/\x<c/\Vv xs c m)\/(x=c/\Vv xs (c+1) m)
theorem Gq {κ:Type} [DecidableEq κ] : ∀(os:List (Option κ)) (l:List κ),Vv (nbR l os) l.length (nbS l os).length
 | [],l=>rfl
 | none::os,l=>.inl ⟨rfl,Gq os l⟩
 | some y::os,l=>by
  by_cases c:y∈l
  ·refine .inr (.inl ⟨Int.natCast_nonneg _,?_,?_⟩)
   ·have:=List.idxOf_lt_length_of_mem c
    simp only[nbI];omega
   ·show Vv (nbR (nbL l (some y)) os) l.length (nbS (nbL l (some y)) os).length
    rw[nD c];exact Gq os l
  ·refine .inr (.inr ⟨by simp only[nbI,qQ c],?_⟩)
   show Vv (nbR (nbL l (some y)) os) (l.length+1) (nbS (nbL l (some y)) os).length
   have:=Gq os (l++ [y])
   rw[mf c]
   simpa using this
def aae:List Int->List (Option (List Int))->Prop
 | [],[] =>True
 | x::xs,o::os=>((x<0/\o=none)\/(0<=x/\ ∃t,o=some (x::t)))/\aae xs os
 | _,_=>False
theorem Q7: ∀(xs:List Int) (os:List (Option (List Int))),xs.length=os.length->(∀i (h:i<xs.length) (h':i<os.length),(xs[i] < 0/\os[i] =none)\/(0<=xs[i] /\ ∃t,os[i] =some (xs[i] ::t)))->aae xs os
 | [],[],_,_=>trivial
 | x::xs,o::os,hl,h=>⟨h 0 (by simp) (by simp),Q7 xs os (by simpa using hl) fun i h1 h2=>h (i+1) (by simpa using h1) (by simpa using h2)⟩
theorem pf: ∀(xs:List Int) (os:List (Option (List Int))) (l:List (List Int)) (c m:Nat),aae xs os->Vv xs c m->(∀y∈l,∃h t,y=h::t/\h<c)->
  m+l.length<=(nbS l os).length+c/\(l.length=c->(∀(q:Nat) (hq:q<l.length),∃t,l[q] =(q:Int)::t)->(nbS l os).length=m->nbR l os=xs)
 | [],[],l,c,m,_,hn,_=>by
  have hn:c=m:=hn
  subst hn
  exact ⟨by simp[nbS];omega,fun _ _ _=>rfl⟩
 | x::xs,o::os,l,c,m,hr,hn,hh=>by
  obtain ⟨hr1,hr2⟩:=hr
  rcases hn with ⟨rfl,hn⟩ | ⟨hx0,hxc,hn⟩ | ⟨rfl,hn⟩
  ·have ho:o=none:=by
    rcases hr1 with ⟨-,h⟩ | ⟨h,-⟩
    ·exact h
    ·omega
   subst ho
   obtain ⟨i1,i2⟩:=pf xs os l c m hr2 hn hh
   exact ⟨i1,fun h1 h2 h3=>by show -1::nbR l os=_;rw[i2 h1 h2 h3]⟩
  ·obtain ⟨t,rfl⟩: ∃t,o=some (x::t):=by
    rcases hr1 with ⟨h,-⟩ | ⟨-,h⟩
    ·omega
    ·exact h
   by_cases k:(x::t)∈l
   ·obtain ⟨i1,i2⟩:=pf xs os l c m hr2 hn hh
    have hb:nbL l (some (x::t))=l:=nD k
    refine ⟨by show m+l.length<=(nbS (nbL l (some (x::t))) os).length+c;rw[hb];exact i1,fun h1 h2 h3=>?_⟩
    have h3:(nbS (nbL l (some (x::t))) os).length=m:=h3
    rw[hb] at h3
    obtain ⟨q,hq,e1,e2⟩:=p8 k
    obtain ⟨t',ht'⟩:=h2 _ hq
    rw[e2] at ht'
    have:x=(q:Int):=by injection ht'
    show nbI l (some (x::t))::nbR (nbL l (some (x::t))) os=_
    rw[e1,<-this,hb,i2 h1 h2 h3]
   ·have hb:nbL l (some (x::t))=l++ [x::t]:=mf k
    obtain ⟨i1,i2⟩:=pf xs os (l++ [x::t]) c m hr2 hn (fun y hy=>by
     rcases aF hy with hy | hy
     ·exact hh y hy
     ·obtain rfl:=aq hy
      exact ⟨x,t,rfl,hxc⟩)
    rw[aw,List.length_singleton] at i1
    refine ⟨by show m+l.length<=(nbS (nbL l (some (x::t))) os).length+c;rw[hb];omega,fun h1 h2 h3=>?_⟩
    have h3:(nbS (nbL l (some (x::t))) os).length=m:=h3
    rw[hb] at h3
    omega
  ·obtain ⟨t,rfl⟩: ∃t,o=some ((c:Int)::t):=by
    rcases hr1 with ⟨h,-⟩ | ⟨-,h⟩
    ·omega
    ·exact h
   have k:((c:Int)::t)∉l:=fun k=>by
    obtain ⟨h,t',e,hlt⟩:=hh _ k
    have:(c:Int)=h:=by injection e
    omega
   have hb:nbL l (some ((c:Int)::t))=l++ [(c:Int)::t]:=mf k
   obtain ⟨i1,i2⟩:=pf xs os (l++ [(c:Int)::t]) (c+1) m hr2 hn (fun y hy=>by
    rcases aF hy with hy | hy
    ·obtain ⟨h,t',e,hlt⟩:=hh y hy
     exact ⟨h,t',e,by omega⟩
    ·obtain rfl:=aq hy
     exact ⟨c,t,rfl,by omega⟩)
   have hlen:(l++ [(c:Int)::t]).length=l.length+1:=by simp
   rw[hlen] at i1
   refine ⟨by show m+l.length<=(nbS (nbL l (some ((c:Int)::t))) os).length+c;rw[hb];omega,fun h1 h2 h3=>?_⟩
   have h3:(nbS (nbL l (some ((c:Int)::t))) os).length=m:=h3
   rw[hb] at h3
   have:=i2 (by rw[hlen,h1]) (fun q hq=>by
    by_cases e:q<l.length
    ·rw[List.getElem_append_left e];exact h2 q e
    ·have e:q=l.length:=by omega
     subst e
     exact ⟨t,by simp;omega⟩) h3
   show nbI l (some ((c:Int)::t))::nbR (nbL l (some ((c:Int)::t))) os=_
   rw[hb,this,Gp k,h1]
theorem Gr (xs ys:List Int) (hN:xs.length<=1048576): ∃r,oG xs ys=some r/\(r=0↔xs=ys):=by
 unfold oG
 have h0:=Zb (f:=pA xs ys) xs ys (fun i h h'=>by
  simp only[pA,bI h,bI h',if_true,aC h,aC h',aa,af (show i<9223372036854775807 by omega)]
  by_cases h1:xs[i] < ys[i]
  ·simp[h1]
  ·by_cases h2:xs[i] > ys[i]
   ·simp[h1,h2]
   ·simp[h1,h2]) (fun i hi=>by
  simp only[pA]
  by_cases h1:i<xs.length
  ·have h2: ¬i<ys.length:=by omega
   simp[h1,h2]
  ·simp[h1]) xs.length 0 aT (by omega) (dH _ (by omega))
 rw[show (((0:Nat):Int))=(0:Int) from rfl] at h0
 rcases h0 with ⟨r,e,h1,h2⟩ | ⟨s,e,h1⟩
 ·exact ⟨r,by rw[e];rfl,by simp[h1,h2]⟩
 ·rw[e]
  simp only[aO]
  by_cases c1:xs.length<ys.length
  ·exact ⟨-1,by simp[c1],by simp;intro e;subst e;omega⟩
  ·by_cases c2:xs.length>ys.length
   ·exact ⟨1,by simp[c1,c2],by simp;intro e;subst e;omega⟩
   ·exact ⟨0,by simp[c1,c2],by simpa using h1 (by omega)⟩
theorem CC (xs ys:List Int) (hN:xs.length<=9223372036854775807):cq xs ys=some (decide (xs=ys)):=
 eqL (f:=cG xs ys) xs ys hN (fun i h h'=>by
  simp only[cG,bI h,if_true,aC h,aC h',aa,af (show i<9223372036854775807 by omega)]
  by_cases c:xs[i] =ys[i] <;> simp[c]) (by simp only[cG,bg];rfl)
def NB (a:AutT):List Int:=(List.range a.2.1.length).map fun s:Nat=>if nth (live a) (s:Int)=true then (if nth a.2.1 (s:Int)=true then 1 else 0) else -1
def ent (a:AutT) (c:List Int) (s:Int) (k:Nat):Int:=if mv a s k<0 then -1 else nth c (mv a s k)
def Gs (a:AutT) (c:List Int) (s:Int):List Int:=nth c s::(List.range 9).map fun k=>ent a c s k
def GC (a:AutT) (c:List Int) (s:Nat):Option (List Int):=if nth c (s:Int)<0 then none else some (Gs a c s)
def keys (a:AutT) (c:List Int):List (Option (List Int)):=(List.range a.2.1.length).map (GC a c)
def Eo (a:AutT) (c:List Int):List Int:=nbR [] (keys a c)
def AK (a:AutT) (c:List Int):Nat:=(nbS [] (keys a c)).length
def cI (a:AutT):Nat->List Int
 | 0=>NB a
 | j+1=>Eo a (cI a j)
section
variable {a:AutT} {n:Nat}
theorem eK (a:AutT) (c:List Int):(keys a c).length=a.2.1.length:=by simp[keys]
theorem Kc {c:List Int} {s:Nat} (h:s<a.2.1.length):nth (keys a c) (s:Int)=GC a c s:=by
 rw[bJ (by simpa [keys] using h)];simp[keys]
theorem CD (a:AutT) (c:List Int):(Eo a c).length=a.2.1.length:=by rw[Eo,e7,eK]
theorem pg (a:AutT): ∀j,(cI a j).length=a.2.1.length
 | 0=>by simp[cI,NB]
 | j+1=>CD a _
theorem rG {κ:Type} [DecidableEq κ] : ∀(l:List κ) (os:List (Option κ)),(nbS l os).length<=l.length+os.length
 | l,[] =>by simp[nbS]
 | l,o::os=>by
  have h:=rG (nbL l o) os
  have:(nbL l o).length<=l.length+1:=by
   cases o with
   | none=>simp[nbL]
   | some x=>unfold nbL;simp only;split <;> simp
  show (nbS (nbL l o) os).length<=_
  rw[al];omega
theorem Ke (a:AutT) (c:List Int):AK a c<=a.2.1.length:=by
 have:=rG ([] :List (List Int)) (keys a c)
 rw[eK] at this
 simpa [AK] using this
theorem Gt {c:List Int} {s:Nat} (h:s<a.2.1.length):nth (Eo a c) (s:Int)=nbI (nbS [] (keys a c)) (GC a c s):=by
 rw[Eo,Vu _ _ _ (by rw[eK];exact h),Kc h]
theorem CE {c:List Int} {s:Nat} (h:s<a.2.1.length) (hc: ¬nth c (s:Int)<0):Gs a c s∈nbS [] (keys a c):=by
 refine yK.2 (.inr ?_)
 refine List.mem_map.2 ⟨s,List.mem_range.2 h,?_⟩
 unfold GC;rw[if_neg hc]
theorem AL {c:List Int} {s:Nat} (h:s<a.2.1.length):(nth (Eo a c) (s:Int)<0↔nth c (s:Int)<0)/\(nth (Eo a c) (s:Int)<0->nth (Eo a c) (s:Int)= -1):=by
 rw[Gt h]
 unfold GC
 by_cases hc:nth c (s:Int)<0
 ·rw[if_pos hc];simp[nbI,hc]
 ·rw[if_neg hc]
  obtain ⟨q,hq,e,-⟩:=p8 (CE h hc)
  rw[e]
  exact ⟨⟨fun h=>by omega,fun h=>absurd h hc⟩,fun h=>by omega⟩
theorem XP {c:List Int} {s:Nat} (h:s<a.2.1.length):nth (Eo a c) (s:Int)<(a.2.1.length:Int):=by
 rw[Gt h]
 unfold GC
 by_cases hc:nth c (s:Int)<0
 ·rw[if_pos hc];simp only[nbI];omega
 ·rw[if_neg hc]
  obtain ⟨q,hq,e,-⟩:=p8 (CE h hc)
  have:=Ke a c
  unfold AK at this
  rw[e];omega
theorem Q8 {c:List Int} {s t:Nat} (hs:s<a.2.1.length) (ht:t<a.2.1.length) (h0:0<=nth (Eo a c) (s:Int)) (h:nth (Eo a c) (s:Int)=nth (Eo a c) (t:Int)):Gs a c s=Gs a c t:=by
 have n1: ¬nth c (s:Int)<0:=fun k=>by have:=(AL hs).1.2 k;omega
 have n2: ¬nth c (t:Int)<0:=fun k=>by have:=(AL ht).1.2 k;omega
 rw[Gt hs,Gt ht] at h
 unfold GC at h
 rw[if_neg n1,if_neg n2] at h
 obtain ⟨q,hq,e1,e2⟩:=p8 (CE hs n1)
 obtain ⟨q',hq',e1',e2'⟩:=p8 (CE ht n2)
 rw[e1,e1'] at h
 obtain rfl:q=q':=by omega
 rw[<-e2,<-e2']
theorem Ep (a:AutT) {s:Nat} (h:s<a.2.1.length): ∀j,(nth (cI a j) (s:Int)<0↔nth (live a) (s:Int)=false)/\(nth (cI a j) (s:Int)<0->nth (cI a j) (s:Int)= -1)
 | 0=>by
  have e:nth (cI a 0) (s:Int)=if nth (live a) (s:Int)=true then (if nth a.2.1 (s:Int)=true then 1 else 0) else -1:=by
   show nth (NB a) (s:Int)=_
   rw[bJ (by simpa [NB] using h)];simp[NB]
  rw[e]
  cases nth (live a) (s:Int) <;> cases nth a.2.1 (s:Int) <;> simp
 | j+1=>by
  have ih:=Ep a h j
  have:=AL (c:=cI a j) h
  exact ⟨this.1.trans ih.1,this.2⟩
theorem Vx (a:AutT) {s t:Nat} (hs:s<a.2.1.length) (ht:t<a.2.1.length): ∀j,0<=nth (cI a j) (s:Int)->nth (cI a j) (s:Int)=nth (cI a j) (t:Int)->nth a.2.1 (s:Int)=nth a.2.1 (t:Int)
 | 0,h0,h=>by
  have e: ∀ {s:Nat},s<a.2.1.length->nth (cI a 0) (s:Int)=if nth (live a) (s:Int)=true then (if nth a.2.1 (s:Int)=true then 1 else 0) else -1:=by
   intro s h
   show nth (NB a) (s:Int)=_
   rw[bJ (by simpa [NB] using h)];simp[NB]
  rw[e hs] at h0 h
  rw[e ht] at h
  revert h0 h
  cases nth (live a) (s:Int) <;> cases nth a.2.1 (s:Int) <;> cases nth (live a) (t:Int) <;> cases nth a.2.1 (t:Int) <;> simp
 | j+1,h0,h=>by
  have k:=Q8 (c:=cI a j) hs ht h0 h
  have h1:nth (cI a j) (s:Int)=nth (cI a j) (t:Int):=by
   unfold Gs at k;injection k
  refine Vx a hs ht j ?_ h1
  have:=(AL (c:=cI a j) hs).1
  by_cases q:nth (cI a j) (s:Int)<0
  ·have:=this.2 q
   have h0:0<=nth (Eo a (cI a j)) (s:Int):=h0
   omega
  ·omega
theorem XQ (a:AutT) (j:Nat):Vv (cI a (j+1)) 0 (AK a (cI a j)):=Gq (keys a (cI a j)) []
theorem Uc (a:AutT) {c:List Int} (hc:c.length=a.2.1.length):aae c (keys a c):=by
 refine Q7 _ _ (by rw[eK,hc]) fun i h h'=>?_
 have e1:c[i] =nth c (i:Int):=(bJ h).symm
 have e2:(keys a c)[i] =GC a c i:=by simp[keys]
 rw[e1,e2]
 unfold GC
 by_cases k:nth c (i:Int)<0
 ·exact .inl ⟨k,by rw[if_pos k]⟩
 ·exact .inr ⟨by omega,_,by rw[if_neg k];rfl⟩
theorem Q9 (a:AutT) (j:Nat):AK a (cI a j)<=AK a (cI a (j+1))/\(AK a (cI a (j+1))=AK a (cI a j)->cI a (j+2)=cI a (j+1)):=by
 obtain ⟨h1,h2⟩:=pf (cI a (j+1)) (keys a (cI a (j+1))) [] 0 (AK a (cI a j)) (Uc a (pg a _)) (XQ a j) (fun y hy=>by cases hy)
 exact ⟨by simpa [AK] using h1,fun h=>h2 rfl (fun q hq=>absurd hq (Nat.not_lt_zero q)) h⟩
theorem Vy {j k:Nat} (h:cI a (j+1)=cI a j) (hk:j<=k):cI a k=cI a j:=by
 induction hk with
 | refl=>rfl
 | step _ ih=>rw[cI,ih];exact h
theorem Ra {j k:Nat} (h:cI a (j+1)=cI a j) (h':cI a (k+1)=cI a k):cI a j=cI a k:=by
 rcases Nat.le_total j k with e | e
 ·exact (Vy h e).symm
 ·exact Vy h' e
theorem XR (a:AutT): ∃j,j<=a.2.1.length/\cI a (j+1)=cI a j:=by
 by_cases h0:cI a 1=cI a 0
 ·exact ⟨0,Nat.zero_le _,h0⟩
 have hpos:1<=AK a (cI a 0):=by
  refine Nat.one_le_iff_ne_zero.2 fun hz=>h0 ?_
  have hnone: ∀s:Nat,s<a.2.1.length->nth (cI a 0) (s:Int)<0:=fun s hs=>by
   refine Classical.byContradiction fun k=>?_
   have:=CE (c:=cI a 0) hs k
   have hl:=List.length_pos_of_mem this
   unfold AK at hz;omega
  refine Xw (by rw[pg,pg]) fun i hi=>?_
  rw[pg] at hi
  have h1:=(Ep a hi 0).2 (hnone i hi)
  have h2:=(Ep a hi 1).2 (((Ep a hi 1).1.trans (Ep a hi 0).1.symm).2 (hnone i hi))
  rw[h1,h2]
 have key: ∀m,(∃j,j<=m/\cI a (j+1)=cI a j)\/m+1<=AK a (cI a m):=by
  intro m
  induction m with
  | zero=>exact .inr hpos
  | succ m ih =>
   rcases ih with ⟨j,hj,e⟩ | ih
   ·exact .inl ⟨j,by omega,e⟩
   ·obtain ⟨g1,g2⟩:=Q9 a m
    by_cases e:AK a (cI a (m+1))=AK a (cI a m)
    ·exact .inl ⟨m+1,aD _,g2 e⟩
    ·exact .inr (by omega)
 rcases key a.2.1.length with h | h
 ·exact h
 ·have:=Ke a (cI a a.2.1.length);omega
end
end D
namespace D
open Go.RowKit
section
variable {a:AutT} {n:Nat} {c:List Int}
theorem LM (k:Nat) (s:Int):(List.range (k+1)).map (fun k=>ent a c s k)=(List.range k).map (fun k=>ent a c s k)++ [ent a c s k]:=by simp[List.range_succ]
theorem aaW (V:VA a n) (hn:n<=1000000) (hc:c.length=n) {s:Nat} (hs:s<n):qm a c s=some (Gs a c s):=by
 unfold qm
 rw[aI (by omega) (by omega)];simp only[aa]
 have:=bp (f:=nI a c s) (fun k=>(nth c (s:Int)::(List.range k).map (fun k=>ent a c s k),(k:Int))) 9 (fun k hk=>by
  have hm:=V.mv (s:=s) (k:=k) (by omega) (by omega) hk
  unfold nI
  simp only
  rw[if_pos (by simp;omega),V.get (by omega) (by omega)];simp only[aa]
  rw[V.get2 (by omega) (by omega) hk,LM];simp only[aa,af (show k<9223372036854775807 by omega)]
  by_cases h:mv a s k<0
  ·rw[if_pos (by simpa using h),aK (by simp;omega),show ent a c s k= -1 from by unfold ent;rw[if_pos h]];rfl
  ·rw[if_neg (by simpa using h),aI (by omega) (by omega)];simp only[aa]
   rw[aK (by simp;omega),show ent a c s k=nth c (mv a s k) from by unfold ent;rw[if_neg h]];rfl) (by unfold nI;simp) (by unfold aT;omega)
 exact ay this
theorem aaX (V:VA a n) (hn:n<=1000000) (hc:c.length=n) {s:Nat} (hs:s<n):ax (cX c (nth a.2.2 (s:Int))) aT (0,[nth c (s:Int)])=some (.brk (9,Gs a c s)):=by
 have hr:=V.rowAt (s:=s) (by omega) (by omega)
 exact bp (f:=cX c (nth a.2.2 (s:Int))) (fun k=>((k:Int),nth c (s:Int)::(List.range k).map (fun k=>ent a c s k))) 9 (fun k hk=>by
  have hm:=V.mv (s:=s) (k:=k) (by omega) (by omega) hk
  unfold cX
  simp only
  rw[if_pos (by simp[hr];omega),V.get2 (by omega) (by omega) hk,LM];simp only[aa,af (show k<9223372036854775807 by omega)]
  by_cases h:mv a s k<0
  ·have e:mv a s k= -1:=by omega
   rw[if_neg (by simp;omega)];simp only[aa]
   rw[aK (by simp;omega),show ent a c s k=mv a s k from by unfold ent;rw[if_pos h,e]];rfl
  ·rw[if_pos (by simp;omega),aI (by omega) (by omega)];simp only[aa]
   rw[aK (by simp;omega),show ent a c s k=nth c (mv a s k) from by unfold ent;rw[if_neg h]];rfl) (by unfold cX;simp[hr]) (by unfold aT;omega)
theorem Iv {κ:Type} [DecidableEq κ] {l t r:List κ} {x:κ} (e:l=t++x::r) (hx:x∉t):nbI l (some x)=(t.length:Int):=by
 subst e
 simp only[nbI]
 rw[List.idxOf_append,if_neg hx,List.idxOf_cons_self,Nat.zero_add]
def Zw (l:List (List Int)) (x:List Int):Int:=if x∈l then nbI l (some x) else -1
theorem Zx {l:List (List Int)} {x cs:List Int} {q:Int} (hl:l.length<=1000000) (hd:l.Nodup) (hx: ∀y∈l,y.length<=1048576):ax (fW (l,cs,q) x) aT (-1,0)=some (.brk (Zw l x,(l.length:Int))):=by
 have:=bp (f:=fW (l,cs,q) x) (fun k=>(if x∈l.take k then nbI l (some x) else -1,(k:Int))) l.length (fun k hk=>by
  unfold fW
  simp only
  rw[if_pos (by simp;omega),aI (by omega) (by omega)];simp only[aa,Int.toNat_natCast,af (show k<9223372036854775807 by omega)]
  obtain ⟨r,e,hr⟩:=Gr (nth l (k:Int)) x (hx _ (b9 (by omega) (by omega)))
  rw[e,take_one hk];simp only[aa,List.mem_append,List.mem_singleton]
  by_cases h:nth l (k:Int)=x
  ·have h0:r=0:=hr.2 h
   have hm:x∈l:=h ▸ b9 (by omega) (by omega)
   obtain ⟨q,hq,e1,e2⟩:=p8 hm
   have:q=k:=by
    have h1:l[q]? =some x:=by rw[List.getElem?_eq_getElem hq,e2]
    have h2:l[k]? =some x:=by rw[List.getElem?_eq_getElem hk,<-bJ hk,h]
    exact (List.getElem?_inj hq hd).1 (h1.trans h2.symm)
   subst this
   rw[if_pos (by simp[h0]),if_pos (.inr h.symm),e1];rfl
  ·have h0:r≠0:=fun e=>h (hr.1 e)
   have hn: ¬x=nth l (k:Int):=fun e=>h e.symm
   rw[if_neg (by simpa using h0)]
   simp[hn]) (by unfold fW;simp) (vx (by omega))
 rw[List.take_of_length_le (aD _)] at this
 exact this
theorem Zy {l:List (List Int)} {x:List Int} {f:List Int->Option Bool} (hl:l.length<=1000000) (hf: ∀y∈l,f y=some (decide (y=x))):bY l f=some (Zw l x):=by
 unfold bY
 obtain ⟨o,e,hq⟩:=cR (f:=ct l f) (fun k s=>s=(k:Int)/\x∉l.take k) (fun o=>(x∈l/\o= .ret (nbI l (some x)))\/(x∉l/\ ∃s,o= .brk s)) l.length (s:=0) (by
  rintro k s hk ⟨rfl,hx⟩
  unfold ct
  by_cases hkl:k<l.length
  ·rw[if_pos (by simp;omega),aI (by omega) (by omega)];simp only[aa]
   rw[hf _ (b9 (by omega) (by omega))];simp only[aa]
   by_cases h:nth l (k:Int)=x
   ·refine .inr ⟨_,by rw[if_pos (by simpa using h)],(fun s' e=>by cases e),.inl ?_⟩
    have hm:x∈l:=h ▸ b9 (by omega) (by omega)
    refine ⟨hm,?_⟩
    have e:l=l.take k++(x::l.drop (k+1)):=by
     rw[<-h,bJ hkl,<-List.drop_eq_getElem_cons hkl,List.take_append_drop]
    rw[Iv e hx,aA,Nat.min_eq_left (by omega)]
   ·refine .inl ⟨hkl,_,by rw[if_neg (by simpa using h)],by rw[af (by omega)],?_⟩
    rw[take_one hkl,List.mem_append,List.mem_singleton]
    rintro (h' | h')
    ·exact hx h'
    ·exact h h'.symm
  ·refine .inr ⟨_,by rw[if_neg (by simp;omega)],(fun s' e=>by cases e),.inr ⟨?_,_,rfl⟩⟩
   rwa [List.take_of_length_le (by omega)] at hx) ⟨rfl,by simp⟩ (vx (by omega))
 unfold Zw
 rcases hq with ⟨hx,rfl⟩ | ⟨hx,s,rfl⟩
 ·rw[cr e,if_pos hx]
 ·rw[ay e,if_neg hx]
theorem CF {os:List (Option (List Int))} (h: ∀y,some y∈os->y.length=10): ∀y∈nbS [] os,y.length=10:=fun y hy=>by
 rcases yK.1 hy with hy | hy
 ·cases hy
 ·exact h y hy
theorem Er (a:AutT) (c:List Int): ∀y,some y∈keys a c->y.length=10:=by
 intro y hy
 obtain ⟨s,-,e⟩:=List.mem_map.1 hy
 unfold GC at e
 split at e
 ·cases e
 ·rw[<-ae e];simp[Gs]
section
variable (V:VA a n) (hn:n<=1000000) (hc:c.length=n)
include V hn hc
theorem LN (s:Nat):(nbS [] ((keys a c).take s)).length<=n:=by
 have:=rG ([] :List (List Int)) ((keys a c).take s)
 rw[aA,eK,V.len] at this
 simp at this;omega
theorem Ud {m:Int} :ax (fX a (c,m)) aT ([],[],0)=some (.brk (nbS [] (keys a c),Eo a c,(n:Int))):=by
 have hlen:=V.len
 have:=bp (f:=fX a (c,m)) (fun s=>(nbS [] ((keys a c).take s),nbR [] ((keys a c).take s),(s:Int))) n (fun s hs=>by
  have hkl:=LN V hn hc s
  have hrl:(nbR [] ((keys a c).take s)).length<=n:=by rw[e7,aA,eK];omega
  unfold fX
  simp only
  rw[if_pos (by simp;omega),aI (by omega) (by omega)];simp only[aa]
  rw[take_one (by rw[eK];omega),xz,uD,Kc (by omega)]
  simp only[af (show s<9223372036854775807 by omega)]
  by_cases h:nth c (s:Int)<0
  ·rw[if_pos (by simpa using h),aK (by simp;omega),show GC a c s=none from by unfold GC;rw[if_pos h]];rfl
  ·rw[if_neg (by simpa using h),show GC a c s=some (Gs a c s) from by unfold GC;rw[if_neg h]]
   rw[show qm (a.1,a.2.1,a.2.2) c (s:Int)=some (Gs a c s) from aaW V hn hc hs];simp only[aa]
   rw[ay (Zx (by omega) (tT (by simp)) (fun y hy=>by rw[CF (fun y hy=>Er a c y (List.mem_of_mem_take hy)) y hy];decide))]
   simp only
   unfold Zw
   by_cases k:Gs a c s∈nbS [] ((keys a c).take s)
   ·obtain ⟨q,hq,e1,e2⟩:=p8 k
    rw[if_pos k,nD k,e1,if_neg (by simp)];simp only[aa]
    rw[aK (by simp;omega)];rfl
   ·rw[if_neg k,mf k,Gp k,if_pos (show decide ((-1:Int)<0)=true from rfl),aK (by simp;omega)];simp only[aa]
    rw[aK (by simp;omega)];rfl) (by
  unfold fX
  simp only
  rw[if_neg (by simp;omega)]) (vx (by omega))
 rw[show (keys a c).take n=keys a c from List.take_of_length_le (by rw[eK];omega)] at this
 exact this
theorem Ue:dP a c=some (Eo a c,(AK a c:Int)):=by
 have hlen:=V.len
 unfold dP
 have:=bp (f:=dS a c) (fun s=>(nbS [] ((keys a c).take s),nbR [] ((keys a c).take s),(s:Int))) n (fun s hs=>by
  have hkl:=LN V hn hc s
  have hrl:(nbR [] ((keys a c).take s)).length<=n:=by rw[e7,aA,eK];omega
  unfold dS
  simp only
  rw[if_pos (by simp;omega),aI (by omega) (by omega)];simp only[aa]
  rw[take_one (by rw[eK];omega),xz,uD,Kc (by omega)]
  simp only[af (show s<9223372036854775807 by omega)]
  by_cases h:nth c (s:Int)<0
  ·rw[if_pos (by simpa using h),aK (by simp;omega),show GC a c s=none from by unfold GC;rw[if_pos h]];rfl
  ·rw[if_neg (by simpa using h),show GC a c s=some (Gs a c s) from by unfold GC;rw[if_neg h],V.get (by omega) (by omega)];simp only[aa]
   rw[ay (aaX V hn hc hs)];simp only
   rw[Zy (x:=Gs a c s) (by omega) (fun y hy=>by
    unfold ig
    rw[CC _ _ (by rw[CF (fun y hy=>Er a c y (List.mem_of_mem_take hy)) y hy];decide)];rfl)];simp only[aa]
   unfold Zw
   by_cases k:Gs a c s∈nbS [] ((keys a c).take s)
   ·obtain ⟨q,hq,e1,e2⟩:=p8 k
    rw[if_pos k,nD k,e1,if_neg (by simp)];simp only[aa]
    rw[aK (by simp;omega)];rfl
   ·rw[if_neg k,mf k,Gp k,if_pos (show decide ((-1:Int)<0)=true from rfl),aK (by simp;omega)];simp only[aa]
    rw[aK (by simp;omega)];rfl) (by
  unfold dS
  simp only
  rw[if_neg (by simp;omega)]) (vx (by omega))
 rw[show (keys a c).take n=keys a c from List.take_of_length_le (by rw[eK];omega)] at this
 exact ay this
end
end
section
variable {a:AutT} {n:Nat} (V:VA a n) (hn:n<=1000000)
include V hn
theorem Iw (s:Nat):(List.range (s+1)).map (fun s:Nat=>if nth (live a) (s:Int)=true then (if nth a.2.1 (s:Int)=true then (1:Int) else 0) else -1)=(List.range s).map (fun s:Nat=>if nth (live a) (s:Int)=true then (if nth a.2.1 (s:Int)=true then 1 else 0) else -1)++ [if nth (live a) (s:Int)=true then (if nth a.2.1 (s:Int)=true then 1 else 0) else -1]:=by simp[List.range_succ]
theorem Zz:ax (fV a (live a)) aT ([],0)=some (.brk (NB a,(n:Int))):=by
 have hlen:=V.len
 have hll:(live a).length=n:=by rw[wv,hlen]
 have:=bp (f:=fV a (live a)) (fun s=>((List.range s).map (fun s:Nat=>if nth (live a) (s:Int)=true then (if nth a.2.1 (s:Int)=true then (1:Int) else 0) else -1),(s:Int))) n (fun s hs=>by
  unfold fV
  simp only
  rw[if_pos (by simp;omega),V.acc (by omega) (by omega)];simp only[aa]
  rw[Iw V hn,aI (xs:=live a) (by omega) (by omega)];simp only[af (show s<9223372036854775807 by omega)]
  cases nth (live a) (s:Int) <;> cases nth a.2.1 (s:Int) <;> simp only[if_true,if_false,Bool.false_eq_true,aa] <;> rw[aK (by simp;omega)] <;> rfl) (by
  unfold fV
  simp only
  rw[if_neg (by simp;omega)]) (vx (by omega))
 unfold NB
 rw[hlen]
 exact this
theorem ZA:ax (cL a (live a)) aT ([],0)=some (.brk (NB a,(n:Int))):=by
 have hlen:=V.len
 have hll:(live a).length=n:=by rw[wv,hlen]
 have:=bp (f:=cL a (live a)) (fun s=>((List.range s).map (fun s:Nat=>if nth (live a) (s:Int)=true then (if nth a.2.1 (s:Int)=true then (1:Int) else 0) else -1),(s:Int))) n (fun s hs=>by
  unfold cL
  simp only
  rw[if_pos (by simp;omega),aI (xs:=live a) (by omega) (by omega)];simp only[aa]
  rw[Iw V hn,V.acc (by omega) (by omega)];simp only[af (show s<9223372036854775807 by omega)]
  cases nth (live a) (s:Int) <;> cases nth a.2.1 (s:Int) <;> simp only[if_true,if_false,Bool.false_eq_true,aa] <;> rw[aK (by simp;omega)] <;> rfl) (by
  unfold cL
  simp only
  rw[if_neg (by simp;omega)]) (vx (by omega))
 unfold NB
 rw[hlen]
 exact this
theorem Rb: ∃J,cI a (J+1)=cI a J/\jJ a=some (cI a J):=by
 have hlen:=V.len
 unfold jJ
 rw[show lW (a.1,a.2.1,a.2.2)=some (live a) from Vq V hn];simp only[aa]
 rw[ay (Zz V hn)]
 obtain ⟨J0,hJ0,hfix⟩:=XR a
 obtain ⟨o,e,j,rfl,hj⟩:=cR (f:=lX a) (fun j s=>s=(cI a j,(j:Int))/\j<=J0) (fun o=> ∃j,o= .ret (cI a j)/\cI a (j+1)=cI a j) (J0+1) (s:=(cI a 0,0)) (by
  rintro j s hj ⟨rfl,hjJ⟩
  have hcl:(cI a j).length=n:=by rw[pg,hlen]
  unfold lX
  simp only
  rw[if_pos (by simp;omega),ay (Ud V hn hcl)]
  simp only
  obtain ⟨r,er,hr⟩:=Gr (Eo a (cI a j)) (cI a j) (by rw[CD];omega)
  rw[er];simp only[aa,af (show j<9223372036854775807 by omega)]
  by_cases h:Eo a (cI a j)=cI a j
  ·exact .inr ⟨_,by rw[if_pos (by simpa using hr.2 h)],(fun s' e=>by cases e),j,rfl,h⟩
  ·refine .inl ⟨by omega,(cI a (j+1),((j+1:Nat):Int)),by rw[if_neg (by simpa using fun e=>h (hr.1 e))];rfl,rfl,?_⟩
   by_cases e:j=J0
   ·subst e;exact absurd hfix h
   ·omega) ⟨rfl,Nat.zero_le _⟩ (vx (by omega))
 exact ⟨j,hj,cr e⟩
theorem Rc: ∃J,cI a (J+1)=cI a J/\dz a=some (cI a J):=by
 have hlen:=V.len
 unfold dz
 rw[show fa (a.1,a.2.1,a.2.2)=some (live a) from Zn V hn];simp only[aa]
 rw[ay (ZA V hn)]
 let kk:Nat->Int:=fun j=>match j with | 0=> -1 | i+1=>(AK a (cI a i):Int)
 obtain ⟨o,e,j,rfl,hj⟩:=cR (f:=fQ a) (fun j s=>s=(cI a j,kk j)/\(j:Int)<=kk j+1) (fun o=> ∃j,o= .ret (cI a j)/\cI a (j+1)=cI a j) (n+2) (s:=(cI a 0,-1)) (by
  rintro j s hj ⟨rfl,hjk⟩
  have hcl:(cI a j).length=n:=by rw[pg,hlen]
  have hle:=Ke a (cI a j)
  unfold fQ
  simp only
  rw[show dP (a.1,a.2.1,a.2.2) (cI a j)=some (Eo a (cI a j),(AK a (cI a j):Int)) from Ue V hn hcl];simp only[aa]
  cases j with
  | zero =>
   refine .inl ⟨by omega,(cI a 1,kk 1),by rw[if_neg (by show¬((AK a (cI a 0):Int) == -1)=true;simp)];rfl,rfl,?_⟩
   show (1:Int)<=(AK a (cI a 0):Int)+1
   omega
  | succ i =>
   obtain ⟨g1,g2⟩:=Q9 a i
   have hki:kk (i+1)=(AK a (cI a i):Int):=rfl
   rw[hki] at hjk⊢
   by_cases h:AK a (cI a (i+1))=AK a (cI a i)
   ·refine .inr ⟨.ret (cI a (i+2)),by rw[if_pos (by simp[h])];rfl,(fun s' e=>by cases e),i+2,rfl,?_⟩
    have:=g2 h
    show Eo a (cI a (i+2))=cI a (i+2)
    rw[this];exact this
   ·refine .inl ⟨?_,(cI a (i+2),kk (i+2)),by rw[if_neg (by simp;omega)];rfl,rfl,?_⟩
    ·omega
    ·show ((i+1+1:Nat):Int)<=(AK a (cI a (i+1)):Int)+1
     omega) ⟨rfl,by show ((0:Nat):Int)<= -1+1;omega⟩ (vx (by omega))
 exact ⟨j,hj,cr e⟩
theorem Nm: ∃c,jJ a=some c/\dz a=some c/\c.length=n/\Eo a c=c/\ ∃j,c=cI a j:=by
 obtain ⟨J,hJ,es⟩:=Rb V hn
 obtain ⟨J',hJ',ei⟩:=Rc V hn
 have:=Ra hJ hJ'
 exact ⟨cI a J,es,by rw[this];exact ei,by rw[pg,V.len],hJ,J,rfl⟩
end
end D
namespace D
open Go.RowKit
section
variable {κ:Type} [DecidableEq κ] [Inhabited κ] {nx:κ->List (Option κ)} {first:κ} {G:κ->Prop} {B N:Nat} {acc:κ->Bool}
theorem CG: ∀(l:List κ) (os:List (Option κ)),∀t∈nbR l os,-1<=t/\t<((nbS l os).length:Int)
 | l,[] =>fun t ht=>by cases ht
 | l,o::os=>fun t ht=>by
  have hp:=me (nbL l o) os
  have hl:=hp.length_le
  rcases aB ht with rfl | ht
  ·show -1<=nbI l o/\nbI l o<((nbS (nbL l o) os).length:Int)
   cases o with
   | none=>exact ⟨by simp[nbI],by simp only[nbI];omega⟩
   | some y =>
    by_cases c:y∈l
    ·obtain ⟨q,hq,e,-⟩:=p8 c
     rw[nD c] at hl
     rw[e];exact ⟨by omega,by rw[nD c];omega⟩
    ·rw[mf c] at hl
     rw[Gp c];rw[aw] at hl
     exact ⟨by omega,by rw[mf c];simp at hl;omega⟩
  ·exact CG (nbL l o) os t ht
theorem ZB (H:NumOk nx first G B) (hN:bfE nx first N):VA ((0,(bfS nx first N).map acc,bfR nx first N):AutT) N:=by
 have h0:0<N:=by
  have:=Ii (nx:=nx) (first:=first) N
  have:=(List.getElem?_eq_some_iff.1 this).1
  have:=hN.1;omega
 have key: ∀i,i<=N-> ∀r∈bfR nx first i,r.length=9/\ ∀t∈r,-1<=t/\t<(N:Int):=by
  intro i
  induction i with
  | zero=>intro _ r hr;cases hr
  | succ i ih =>
   intro hi r hr
   have hlt:=hN.2 i (by omega)
   rw[xA hlt] at hr
   rcases aF hr with hr | hr
   ·exact ih (by omega) r hr
   ·obtain rfl:=aq hr
    refine ⟨by rw[e7,H.len _ (lK H.g0 H.gn i _ (List.getElem_mem hlt))],fun t ht=>?_⟩
    have:=CG _ _ t ht
    rw[<-FM hlt] at this
    have hl:=(yL (nx:=nx) (first:=first) hi).length_le
    have:=hN.1
    omega
 exact ⟨by show ((bfS nx first N).map acc).length=N;rw[List.length_map];exact hN.1.symm,⟨Int.le_refl _,by show (0:Int)<N;omega⟩,kI hN.2,fun r hr=>(key N (aD _) r hr).1,fun r hr=>(key N (aD _) r hr).2⟩
theorem XS (hlen: ∀x,(nx x).length=9) (hN:bfE nx first N):VA ((0,(bfS nx first N).map acc,bfR nx first N):AutT) N:=by
 have h0:0<N:=by
  have:=Ii (nx:=nx) (first:=first) N
  have:=(List.getElem?_eq_some_iff.1 this).1
  have:=hN.1;omega
 have key: ∀i,i<=N-> ∀r∈bfR nx first i,r.length=9/\ ∀t∈r,-1<=t/\t<(N:Int):=by
  intro i
  induction i with
  | zero=>intro _ r hr;cases hr
  | succ i ih =>
   intro hi r hr
   have hlt:=hN.2 i (by omega)
   rw[xA hlt] at hr
   rcases aF hr with hr | hr
   ·exact ih (by omega) r hr
   ·obtain rfl:=aq hr
    refine ⟨by rw[e7,hlen _],fun t ht=>?_⟩
    have:=CG _ _ t ht
    rw[<-FM hlt] at this
    have hl:=(yL (nx:=nx) (first:=first) hi).length_le
    have:=hN.1
    omega
 exact ⟨by show ((bfS nx first N).map acc).length=N;rw[List.length_map];exact hN.1.symm,⟨Int.le_refl _,by show (0:Int)<N;omega⟩,kI hN.2,fun r hr=>(key N (aD _) r hr).1,fun r hr=>(key N (aD _) r hr).2⟩
end
theorem VA.self {a:AutT} {n:Nat} (v:VA a n):VA a a.2.1.length:=by
 have e:=v.len
 subst e
 exact v
theorem Nn:VA nothing 1:=⟨rfl,⟨by decide,by decide⟩,rfl,fun r hr=>by
 obtain rfl:=aq hr
 decide,fun r hr=>by
 obtain rfl:=aq hr
 decide⟩
end D
namespace D
open Go.RowKit
theorem XT {l:List Int} {x:Int} (hl:l.length<=1000000) (hx:x∈l):bc x l=some (nbI l (some x)):=by
 unfold bc eU
 obtain ⟨o,e,hq⟩:=cR (f:=dJ l x) (fun k s=>s=(k:Int)/\x∉l.take k) (fun o=>o= .ret (nbI l (some x))) l.length (s:=0) (by
  rintro k s hk ⟨rfl,hx'⟩
  unfold dJ
  by_cases hkl:k<l.length
  ·rw[if_pos (by simp;omega),aI (by omega) (by omega)];simp only[aa]
   by_cases h:nth l (k:Int)=x
   ·refine .inr ⟨_,by rw[if_pos (by simp[h])],(fun s' e=>by cases e),?_⟩
    have e:l=l.take k++(x::l.drop (k+1)):=by
     rw[<-h,bJ hkl,<-List.drop_eq_getElem_cons hkl,List.take_append_drop]
    rw[Iv e hx',aA,Nat.min_eq_left (by omega)]
   ·have h': ¬x=nth l (k:Int):=fun e=>h e.symm
    refine .inl ⟨hkl,_,by rw[if_neg (by simpa using h')],by rw[af (by omega)],?_⟩
    rw[take_one hkl,List.mem_append,List.mem_singleton]
    rintro (h' | h')
    ·exact hx' h'
    ·exact h h'.symm
  ·rw[List.take_of_length_le (by omega)] at hx'
   exact absurd hx hx') ⟨rfl,by simp⟩ (vx (by omega))
 subst hq
 rw[cr e];rfl
section
variable {a:AutT} {n:Nat}
def rep (c:List Int) (x:Int):Int:=nbI c (some x)
theorem Rd {c:List Int} {x:Int} (h:x∈c):0<=rep c x/\rep c x<c.length/\nth c (rep c x)=x:=by
 obtain ⟨q,hq,e1,e2⟩:=p8 h
 unfold rep
 rw[e1]
 exact ⟨by omega,by omega,by rw[bJ hq,e2]⟩
def ab0 (a:AutT) (n:Nat) (r:AutT):Prop:=(nth (live a) a.1=false/\r=nothing)\/(nth (live a) a.1=true/\ ∃(j:Nat) (c:List Int) (nx:Int->List (Option Int)) (ac:Int->Bool) (N:Nat),c=cI a j/\(∀r,good n (live a) r->nx (nth c r)=wx a c (live a) r)/\(∀r,good n (live a) r->ac (nth c r)=nth a.2.1 r)/\bfE nx (nth c a.1) N/\(∀x∈bfS nx (nth c a.1) N,(nx x).length=9)/\r=(0,(bfS nx (nth c a.1) N).map ac,bfR nx (nth c a.1) N))
theorem No (V:VA a n) (hn:n<=1000000): ∃r,fY a=some r/\cA a=some r/\Data.sm r/\VA r r.2.1.length/\r.2.1.length<=n/\ab0 a n r:=by
 have hlen:=V.len
 have hst:=V.start
 have hll:(live a).length=n:=by rw[wv,hlen]
 obtain ⟨c,es,ei,hcl,hfix,j,hj⟩:=Nm V hn
 have hneg: ∀s:Int,0<=s->s<n->(nth c s<0↔nth (live a) s=false):=fun s h0 h1=>by
  have:=(Ep a (s:=s.toNat) (by omega) j).1
  rw[<-hj,show ((s.toNat:Nat):Int)=s from by omega] at this
  exact this
 have hlt: ∀s:Int,0<=s->s<n->nth c s<n:=fun s h0 h1=>by
  have:=XP (c:=c) (a:=a) (s:=s.toNat) (by omega)
  rw[hfix,hlen,show ((s.toNat:Nat):Int)=s from by omega] at this
  exact this
 have hpos: ∀r,good n (live a) r->0<=nth c r:=fun r hr=>by
  have:=hneg r hr.1 hr.2.1
  by_cases k:nth c r<0
  ·have:=this.1 k;rw[hr.2.2] at this;cases this
  ·omega
 have hkey: ∀r t:Int,0<=r->r<n->0<=t->t<n->0<=nth c r->nth c r=nth c t->Gs a c r=Gs a c t:=fun r t r0 r1 t0 t1 h0 h=>by
  have:=Q8 (a:=a) (c:=c) (s:=r.toNat) (t:=t.toNat) (by omega) (by omega) (by rw[hfix,show ((r.toNat:Nat):Int)=r from by omega];exact h0) (by rw[hfix,show ((r.toNat:Nat):Int)=r from by omega,show ((t.toNat:Nat):Int)=t from by omega];exact h)
  rwa [show ((r.toNat:Nat):Int)=r from by omega,show ((t.toNat:Nat):Int)=t from by omega] at this
 have hacc: ∀r t:Int,0<=r->r<n->0<=t->t<n->0<=nth c r->nth c r=nth c t->nth a.2.1 r=nth a.2.1 t:=fun r t r0 r1 t0 t1 h0 h=>by
  have:=Vx a (s:=r.toNat) (t:=t.toNat) (by omega) (by omega) j (by rw[<-hj,show ((r.toNat:Nat):Int)=r from by omega];exact h0) (by rw[<-hj,show ((r.toNat:Nat):Int)=r from by omega,show ((t.toNat:Nat):Int)=t from by omega];exact h)
  rwa [show ((r.toNat:Nat):Int)=r from by omega,show ((t.toNat:Nat):Int)=t from by omega] at this
 have hsuccs: ∀r,good n (live a) r->wx a c (live a) r=(List.range 9).map fun k=>if 0<=ent a c r k then some (ent a c r k) else none:=fun r hr=>by
  refine List.map_congr_left fun k hk=>?_
  have hk:k<9:=List.mem_range.1 hk
  have hm:=V.mv hr.1 hr.2.1 hk
  unfold ent
  by_cases h:mv a r k<0
  ·rw[if_pos h,if_neg (fun h'=>by omega),if_neg (by omega)]
  ·rw[if_neg h]
   have:=hneg (mv a r k) (by omega) hm.2
   cases hl:nth (live a) (mv a r k) with
   | false =>
    have:=this.2 hl
    rw[if_neg (fun h'=>by cases h'.2),if_neg (by omega)]
   | true =>
    have: ¬nth c (mv a r k)<0:=fun h'=>by have:=this.1 h';rw[hl] at this;cases this
    rw[if_pos ⟨by omega,rfl⟩,if_pos (by omega)]
 have hent: ∀r t:Int,Gs a c r=Gs a c t-> ∀k,k<9->ent a c r k=ent a c t k:=fun r t h k hk=>by
  have h:(List.range 9).map (fun k=>ent a c r k)=(List.range 9).map (fun k=>ent a c t k):=by unfold Gs at h;injection h
  have:=congrArg (fun l:List Int=>l[k]?) h
  simpa [hk] using this
 let nx:Int->List (Option Int):=fun x=>wx a c (live a) (rep c x)
 let acc:Int->Bool:=fun x=>nth a.2.1 (rep c x)
 let G:Int->Prop:=fun x=> ∃r,good n (live a) r/\nth c r=x
 have Gm: ∀x,G x->x∈c/\0<=x/\good n (live a) (rep c x):=by
  rintro x ⟨r,hr,rfl⟩
  have hm:nth c r∈c:=b9 hr.1 (by rw[hcl];exact hr.2.1)
  obtain ⟨h0,h1,h2⟩:=Rd hm
  have hp:=hpos r hr
  refine ⟨hm,hp,h0,by omega,?_⟩
  have:=hneg (rep c (nth c r)) h0 (by omega)
  rw[h2] at this
  cases hl:nth (live a) (rep c (nth c r)) with
  | true=>rfl
  | false=>have:=this.2 hl;omega
 have hnx: ∀r,good n (live a) r->nx (nth c r)=wx a c (live a) r:=fun r hr=>by
  obtain ⟨hm,hp,hg⟩:=Gm _ ⟨r,hr,rfl⟩
  obtain ⟨h0,h1,h2⟩:=Rd hm
  show wx a c (live a) (rep c (nth c r))=_
  rw[hsuccs _ hg,hsuccs _ hr]
  refine List.map_congr_left fun k hk=>?_
  rw[hent _ _ (hkey _ _ hg.1 hg.2.1 hr.1 hr.2.1 (by rw[h2];exact hp) h2) k (List.mem_range.1 hk)]
 have hac: ∀r,good n (live a) r->acc (nth c r)=nth a.2.1 r:=fun r hr=>by
  obtain ⟨hm,hp,hg⟩:=Gm _ ⟨r,hr,rfl⟩
  obtain ⟨h0,h1,h2⟩:=Rd hm
  exact hacc _ _ hg.1 hg.2.1 hr.1 hr.2.1 (by rw[h2];exact hp) h2
 have hgn: ∀r,good n (live a) r-> ∀y,some y∈wx a c (live a) r->G y:=fun r hr y h=>by
  obtain ⟨k,hk,e⟩:=List.mem_map.1 h
  have hk:k<9:=List.mem_range.1 hk
  split at e
  ·rename_i hc
   exact ⟨mv a r k,⟨hc.1,(V.mv hr.1 hr.2.1 hk).2,hc.2⟩,ae e⟩
  ·cases e
 unfold fY cA
 simp only[dM]
 rw[es,ei,Vq V hn];simp only[aa]
 rw[aI hst.1 (by omega)];simp only[aa]
 cases hs:nth (live a) a.1 with
 | false =>
  have:=(hneg a.1 hst.1 hst.2).2 hs
  rw[J9 V hll hs,if_pos (by simpa using this),Q2]
  exact ⟨nothing,rfl,rfl,Nk,Nn,V.pos,.inl ⟨hs,rfl⟩⟩
 | true =>
  have hst':good n (live a) a.1:=⟨hst.1,hst.2,hs⟩
  have hp:=hpos _ hst'
  have H:NumOk nx (nth c a.1) G n:=⟨⟨a.1,hst',rfl⟩,fun x hx y hy=>hgn _ (Gm x hx).2.2 y hy,fun x hx=>by simp[nx,wx],fun l hd h=>Nj n l hd fun x hx=>by
   obtain ⟨r,hr,rfl⟩:=h x hx
   exact ⟨hpos r hr,hlt r hr.1 hr.2.1⟩⟩
  obtain ⟨N,hN,e1⟩:=Zp (acc:=acc) V hn hcl hll hs H hn hnx hac
  have hfirst: ∀x,G x->bc x c=some (rep c x):=fun x hx=>XT (by omega) (Gm x hx).1
  obtain ⟨N',hN',e2⟩:=Zo (most:=(c.length:Int)) (p2:=fun a0=>cM a0 (a.1,a.2.1,a.2.2) (fun a0=>bc a0 c)) (p3:=fun a0 a1=>cN a0 a1 (a.1,a.2.1,a.2.2) (fun a0=>bc a0 c) c) (acc:=acc) H hn (by omega) (fun x hx=>Zu hn (Gm x hx).2.1 (by
    obtain ⟨r,hr,rfl⟩:=hx
    exact hlt r hr.1 hr.2.1)) (fun x hx=>by
   show cM x (a.1,a.2.1,a.2.2) (fun a0=>bc a0 c)=_
   unfold cM
   simp only
   rw[hfirst x hx];simp only[aa]
   rw[V.acc (Gm x hx).2.2.1 (Gm x hx).2.2.2.1];rfl) (fun x k hx hk=>by
   obtain ⟨hm,hx0,hg⟩:=Gm x hx
   have hm':=V.mv hg.1 hg.2.1 hk
   refine ⟨0,?_⟩
   show cN x k (a.1,a.2.1,a.2.2) (fun a0=>bc a0 c) c=_
   unfold cN
   simp only
   rw[hfirst x hx];simp only[aa]
   rw[show fb (a.1,a.2.1,a.2.2) (rep c x) k=some (mv a (rep c x) k) from Zf V hg.1 hg.2.1 hk];simp only[aa]
   show _=some (match nth (wx a c (live a) (rep c x)) (k:Int) with | some y=>(y,true) | none=>(0,false))
   rw[LJ hk]
   by_cases h:mv a (rep c x) k<0
   ·rw[if_pos (by simpa using h),if_neg (fun h'=>by omega)]
   ·rw[if_neg (by simpa using h),aI (by omega) (by omega)];simp only[aa]
    have hng:=hneg (mv a (rep c x) k) (by omega) hm'.2
    cases hl:nth (live a) (mv a (rep c x) k) with
    | false =>
     have:=hng.2 hl
     rw[if_pos (by simpa using this),if_neg (fun h'=>by cases h'.2)]
    | true =>
     have: ¬nth c (mv a (rep c x) k)<0:=fun h'=>by have:=hng.1 h';rw[hl] at this;cases this
     rw[if_neg (by simpa using this),if_pos ⟨by omega,rfl⟩])
  obtain rfl:=Tt hN hN'
  have v:=ZB (acc:=acc) H hN
  refine ⟨_,by rw[e1];rfl,?_,Zv H hn hN,v.self,?_,.inr ⟨hs,j,c,nx,acc,N,hj,hnx,hac,hN,fun x _=>by simp[nx,wx],rfl⟩⟩
  rotate_left
  ·rw[v.len,hN.1];exact H.bound _ (pc N) (lK H.g0 H.gn N)
  rw[if_neg (by simp;omega)]
  exact (congrArg (fun x=>Option.bind x _) e2).trans rfl
theorem Np (V:VA a n) (hn:n<=1000000): ∃r,fY a=some r/\cA a=some r/\Data.sm r/\VA r r.2.1.length/\r.2.1.length<=n:=by
 obtain ⟨r,h1,h2,h3,h4,h5,-⟩:=No V hn
 exact ⟨r,h1,h2,h3,h4,h5⟩
theorem Uf (V:VA a n) (hn:n<=1000000): ∃r,fY a=some r/\cA a=some r/\Data.sm r:=by
 obtain ⟨r,h1,h2,h3,-⟩:=Np V hn
 exact ⟨r,h1,h2,h3⟩
end
end D
namespace D
open Go.RowKit
theorem Re {κ:Type} [DecidableEq κ] {nx:κ->List (Option κ)} {first:κ} {acc:κ->Bool} {most:Nat} : ∀(f i:Nat),(∀j,j<i->j<(bfS nx first j).length)->(bfS nx first i).length<=most->goM nx first acc most f i=((0,[],[]),false)\/ ∃N,bfE nx first N/\N<=most/\goM nx first acc most f i=((0,(bfS nx first N).map acc,bfR nx first N),true)
 | 0,i,_,_=>.inl rfl
 | f+1,i,h,hl=>by
  have hle:=Gn h
  rw[goM]
  by_cases c:i<(bfS nx first i).length
  ·rw[if_pos c]
   by_cases d:(bfS nx first (i+1)).length>most
   ·rw[if_pos d];exact .inl rfl
   ·rw[if_neg d]
    exact Re f (i+1) (fun j hj=>by
     by_cases e:j=i
     ·subst e;exact c
     ·exact h j (by omega)) (by omega)
  ·rw[if_neg c]
   exact .inr ⟨i,⟨by omega,h⟩,by omega,by rw[List.take_of_length_le (by omega)]⟩
end D
namespace D
open Go.RowKit
theorem Gu:Data.sm ((0,[],[]):AutT):=⟨trivial,⟨by decide,fun _ h=>by cases h⟩,by decide,fun _ h=>by cases h⟩
theorem Ix {e:List Tok} (he:e.length<=1048576): ∃r:AutT×Bool,iQ e=some r/\iJ e=some r/\Data.sm r.1:=by
 obtain ⟨⟨p,b⟩,e1,e2,h1,h2⟩:=wz he
 have h1:p.2.2.2.1.length=p.1.length:=h1
 have h2:p.1.length<=100000:=h2
 unfold iQ iJ
 rw[e1,e2];simp only[aa,dM]
 cases b with
 | false=>exact ⟨((0,[],[]),false),rfl,rfl,Gu⟩
 | true =>
  have d1:=aaT (p:=p) (most:=200) h1 (by omega) (by omega) (by omega)
  have d2:=aaS (p:=p) (most:=200) h1 (by omega) (by omega) (by omega)
  have d1:jG p 200=_:=d1
  have d2:iG p 200=_:=d2
  rw[d1,d2];simp only[if_true,aa]
  rcases Re (nx:=nxS p) (first:=1) (acc:=xK p) (most:=200) (200+2) 0 (fun j hj=>by omega) (by simp[bfS]) with e | ⟨N,hN,hNm,e⟩
  ·rw[e]
   exact ⟨((0,[],[]),false),rfl,rfl,Gu⟩
  ·rw[e];simp only[if_true]
   have V:=XS (acc:=xK p) (Gl p) hN
   obtain ⟨r,es,ei,hr⟩:=Uf V (by omega)
   unfold Bz
   rw[es];simp only[aa,dM]
   rw[ei];simp only[aa,dM]
   by_cases c:(r.2.1.length:Int)>12
   ·have c':decide ((r.2.1.length:Int)>12)=true:=decide_eq_true c
    simp only[c',if_true,aa]
    exact ⟨((0,[],[]),false),rfl,rfl,Gu⟩
   ·have c':decide ((r.2.1.length:Int)>12)=false:=decide_eq_false c
    simp only[c',Bool.false_eq_true,if_false,aa]
    exact ⟨(r,true),rfl,rfl,hr⟩
theorem Kf {e:List Tok} (he:e.length<=1048576): ∃r:AutT×Bool,iQ e=some r/\iJ e=some r/\Data.sm r.1:=Ix he
end D
open Go.ChangeShapes Go.WideShapes Go.ChangeAt Go.RowKit
theorem own:ownKnob Tryz.prog.godebug=none:=by kernel_rfl
theorem laidOut:laidOutB Tryz.prog=true:=by kernel_rfl
theorem xL {H:Type} {enc:TypeId×Value->H} {P:Program} (hl:laidOutB P=true) {W W':World} (hb:Below W.heap.size W W') :
  ∀ {ts:List TypeId} {vs:List Value} {ds:List (DataW H)} {ps:List MemPlace},(∀t∈ts,P.readableRec t=true/\t<P.types.size)->
   DataW.TrodAll enc P W 0 (fun _=>true) true ts vs ds ps->(∀x∈ps,x.block<W.heap.size)->DataW.TrodAll enc P W' 0 (fun b=>decide (b<W.heap.size)) true ts vs ds ps
 | [],[],[],ps,_,h,_=>h
 | t::ts,v::vs,d::ds,ps,hr,⟨p,q,h1,h2,h3⟩,hlt=>by
  subst h3
  exact ⟨p,q,Below.trod hl (hr t (by simp)).1 (hr t (by simp)).2 h1 hb fun x hx=>hlt x (by simp[hx]),xL hl hb (fun t ht=>hr t (by simp[ht])) h2 fun x hx=>hlt x (by simp[hx]),rfl⟩
 | [],_::_,_,_,_,h,_=>h.elim
 | [],[],_::_,_,_,h,_=>h.elim
 | _::_,[],_,_,_,h,_=>h.elim
 | _::_,_::_,[],_,_,h,_=>h.elim
theorem Ug {H:Type} {enc:TypeId×Value->H} {f:Func} {s:ChangeSpec} {W W':World} {args:Array Value} {ds:List (DataW H)} {before:List MemPlace} (tb:TypeId)
  (hb:Tryz.prog.underlying tb=some .bool) (hr:f.resultTypes= #[tb]) (hp:(f.params.toList.all fun t=>Tryz.prog.readableRec t&&decide (t<Tryz.prog.types.size))=true) (hv:s.vars= [])
  (hW:DataW.Whole enc Tryz.prog f.params.toList s.vars false W args.toList ds [] before) (hres:(s.fn H (ds++ [])).results= [.lit (.bool true)]) (hargs:(s.fn H (ds++ [])).args=ds) (hvars:(s.fn H (ds++ [])).vars= [])
  (hbel:Below W.heap.size W W'):s.post enc Tryz.prog f false true false false W args (.bool true) W':=by
 obtain ⟨p,q,h1,h2,h3,h4,h5⟩:=hW
 have hW':DataW.Whole enc Tryz.prog f.params.toList s.vars false W args.toList ds [] before:=⟨p,q,h1,h2,h3,h4,h5⟩
 have hq:q= []:=by rw[hv] at h2;exact h2
 subst hq
 simp only[List.append_nil] at h3
 subst h3
 refine ⟨ds,[],before,[],before,[],hW',?_,?_,?_,hbel.frame _,fun h=>by cases h⟩
 ·rw[hres,hr]
  exact trodAll_mk1 (shut_bool hb true)
 ·rw[hargs]
  exact xL laidOut hbel (fun t ht=>by have:=List.all_eq_true.1 hp t ht;simpa using this) h1 fun x hx=>by simpa using hW'.lt x hx
 ·rw[hvars,hv];rfl
namespace D
open Go.RowKit
theorem CH (x y:AutT) (hx:Data.sm x):fZ x y=some (decide (x=y)):=by
 obtain ⟨-,⟨ha,-⟩,hn,hr⟩:=hx
 unfold fZ
 by_cases c1:x.1=y.1
 case neg=>rw[if_pos (by simpa using c1)];simp[Prod.ext_iff,c1]
 rw[if_neg (by simpa using c1)]
 by_cases c2:x.2.1.length=y.2.1.length
 case neg=>rw[if_pos (by simp;omega)];simp[Prod.ext_iff];exact fun _ e=>absurd (by rw[e]) c2
 rw[if_neg (by simp;omega)]
 by_cases c3:x.2.2.length=y.2.2.length
 case neg=>rw[if_pos (by simp;omega)];simp[Prod.ext_iff];exact fun _ _ e=>absurd (by rw[e]) c3
 rw[if_neg (by simp;omega)]
 rw[eqB (f:=fG x y) x.2.1 y.2.1 (by omega) c2 (fun i h h'=>by
  simp only[fG,bI h,if_true,aC h,aC h',aa,af (show i<9223372036854775807 by omega)]
  by_cases c:x.2.1[i] =y.2.1[i] <;> simp[c]) (by simp only[fG,bg];rfl)]
 by_cases c4:x.2.1=y.2.1
 case neg=>rw[if_neg c4];simp[Prod.ext_iff,c4]
 rw[if_pos c4]
 rw[eqB (f:=fH x y) x.2.2 y.2.2 (by omega) c3 (fun i h h'=>by
  obtain ⟨r,e,hr'⟩:=Gr x.2.2[i] y.2.2[i] ((hr _ (List.getElem_mem h)).1)
  simp only[fH,bI h,if_true,aC h,aC h',aa,af (show i<9223372036854775807 by omega),e]
  by_cases c:x.2.2[i] =y.2.2[i]
  ·rw[if_neg (by simpa using hr'.2 c),if_pos c]
  ·rw[if_pos (by simpa using fun e=>c (hr'.1 e)),if_neg c]) (by simp only[fH,bg];rfl)]
 by_cases c5:x.2.2=y.2.2
 ·rw[if_pos c5];simp[Prod.ext_iff,c1,c4,c5]
 ·rw[if_neg c5];simp[Prod.ext_iff,c5]
theorem Uh (xs ys:List Bool) (hN:xs.length<=9223372036854775807):dR xs ys=some (decide (xs=ys)):=
 eqL (f:=cf xs ys) xs ys hN (fun i h h'=>by
  simp only[cf,bI h,if_true,aC h,aC h',aa,af (show i<9223372036854775807 by omega)]
  by_cases c:xs[i] =ys[i] <;> simp[c]) (by simp only[cf,bg];rfl)
theorem CI (x y:AutT) (hx:Data.sm x):ez x y=some (decide (x=y)):=by
 obtain ⟨-,⟨ha,-⟩,hn,hr⟩:=hx
 unfold ez
 by_cases c1:x.1=y.1
 case neg=>rw[if_neg (by simpa using c1)];simp[Prod.ext_iff,c1]
 rw[if_pos (by simpa using c1),Uh _ _ (by omega)];simp only[aa]
 by_cases c2:x.2.1=y.2.1
 case neg=>rw[if_neg (by simpa using c2)];simp[Prod.ext_iff,c2]
 rw[if_pos (by simpa using c2)]
 have:bP x.2.2 y.2.2 (fun a0 a1=>gz a0 a1)=some (decide (x.2.2=y.2.2)):=
  eqL (f:=a7 x.2.2 y.2.2 _) x.2.2 y.2.2 (by omega) (fun i h h'=>by
   simp only[a7,bI h,if_true,aC h,aC h',aa,af (show i<9223372036854775807 by omega),gz]
   rw[CC _ _ (by have:x.2.2[i].length<=1048576:=(hr _ (List.getElem_mem h)).1;omega)];simp only[aa]
   by_cases c:x.2.2[i] =y.2.2[i] <;> simp[c]) (by simp only[a7,bg];rfl)
 rw[this]
 by_cases c3:x.2.2=y.2.2 <;> simp[Prod.ext_iff,c1,c2,c3]
end D
set_option synthInstance.maxSize 20000
set_option synthInstance.maxHeartbeats 2000000
namespace D
open Go.RowKit
abbrev QT:=Int×List Tok×Int
abbrev Nq:=List AutT×List QT
theorem Ui (x y:List Tok) (hx:x.length<=1048576):mz x y=some (decide (x=y)):=by
 unfold mz
 exact eqL (f:=jh x y) x y (by omega) (fun i h h'=>by
  simp only[jh,bI h,if_true,aC h,aC h',aa,dM,af (show i<9223372036854775807 by omega)]
  refine gk ?_;simp only[Bool.and_true,ak,beq_iff_eq];exact abD) (by simp only[jh,bg];rfl)
theorem Rf (x y:List Tok) (hx:x.length<=1048576):cx x y=some (decide (x=y)):=by
 unfold cx
 exact eqL (f:=b7 x y) x y (by omega) (fun i h h'=>by
  simp only[b7,bI h,if_true,aC h,aC h',aa,dM,af (show i<9223372036854775807 by omega)]
  refine gk ?_;simp only[Bool.and_true,ak,beq_iff_eq];exact abD) (by simp only[b7,bg];rfl)
theorem Uj (x y:List Tok) (hx:x.length<=1048576):mj x y=some (decide (x=y)):=by
 unfold mj
 rw[Rf x y hx];rfl
theorem Gv (x y:Nq) (hx:Data.sm x):gF x y=some (decide (x=y)):=by
 obtain ⟨⟨ha,hA⟩,hq,hQ⟩:=hx
 unfold gF
 by_cases h1:x.1.length=y.1.length
 ·by_cases h2:x.2.length=y.2.length
  ·rw[if_neg (by rw[h1];simp),if_neg (by rw[h2];simp)]
   rw[eqB (f:=eM x y) x.1 y.1 (by omega) h1 (fun i h h'=>by
    simp only[eM,bI h,if_true,aC h,aC h',aa,dM,CH x.1[i] y.1[i] (hA _ (List.getElem_mem h)),af (show i<9223372036854775807 by omega)]
    exact gk (by simp)) (by simp only[eM,bg];rfl)]
   rw[eqB (f:=eN x y) x.2 y.2 (by omega) h2 (fun i h h'=>by
    have e:=Ui x.2[i].2.1 y.2[i].2.1 (hQ _ (List.getElem_mem h)).2.1.1
    simp only[eN,bI h,if_true,aC h,aC h',aa,e,af (show i<9223372036854775807 by omega)]
    generalize x.2[i] =u;generalize y.2[i] =v
    by_cases e1:u.1=v.1 <;> by_cases e2:u.2.1=v.2.1 <;> by_cases e3:u.2.2=v.2.2 <;> simp[Prod.ext_iff,e1,e2,e3]) (by simp only[eN,bg];rfl)]
   by_cases e1:x.1=y.1 <;> by_cases e2:x.2=y.2 <;> simp[Prod.ext_iff,e1,e2]
  ·have:x.2≠y.2:=fun e=>h2 (by rw[e])
   rw[if_neg (by rw[h1];simp),if_pos (by simp;omega)];simp[Prod.ext_iff,this]
 ·have:x.1≠y.1:=fun e=>h1 (by rw[e])
  rw[if_pos (by simp;omega)];simp[Prod.ext_iff,this]
theorem Nr (x y:QT) (hx:Data.sm x):gT x y=some (decide (x=y)):=by
 unfold gT
 rw[Uj x.2.1 y.2.1 hx.2.1.1];simp only[aa]
 by_cases h1:x.1=y.1 <;> by_cases h2:x.2.1=y.2.1 <;> by_cases h3:x.2.2=y.2.2 <;> simp[Prod.ext_iff,h1,h2,h3]
theorem Gw (x y:Nq) (hx:Data.sm x):gA x y=some (decide (x=y)):=by
 obtain ⟨⟨ha,hA⟩,hq,hQ⟩:=hx
 unfold gA
 have e:aY x.1 y.1 (fun a0 a1=>ez a0 a1)=some (decide (x.1=y.1)):=
  eqL (f:=aP x.1 y.1 _) x.1 y.1 (by omega) (fun i h h'=>by
   simp only[aP,bI h,if_true,aC h,aC h',aa,dM,af (show i<9223372036854775807 by omega),CI x.1[i] y.1[i] (hA _ (List.getElem_mem h))]
   exact gk (by simp)) (by simp only[aP,bg];rfl)
 have e':aU x.2 y.2 (fun a0 a1=>gT a0 a1)=some (decide (x.2=y.2)):=
  eqL (f:=aM x.2 y.2 _) x.2 y.2 (by omega) (fun i h h'=>by
   simp only[aM,bI h,if_true,aC h,aC h',aa,dM,af (show i<9223372036854775807 by omega),Nr x.2[i] y.2[i] (hQ _ (List.getElem_mem h))]
   exact gk (by simp)) (by simp only[aM,bg];rfl)
 rw[e,e'];simp only[aa]
 by_cases h1:x.1=y.1 <;> by_cases h2:x.2=y.2 <;> simp[Prod.ext_iff,h1,h2]
theorem qU {R S:Type} {f g:S->Option (Out R S)} (Inv:Nat->S->Prop) (h: ∀i s,Inv i s->g s=f s/\ ∀s',f s=some (.nxt s')->Inv (i+1) s'): ∀(k i:Nat) (s:S),Inv i s->ax g k s=ax f k s
 | 0,_,_,_=>rfl
 | k+1,i,s,hI=>by
  obtain ⟨h1,h2⟩:=h i s hI
  rw[ax,ax,h1]
  cases e:f s with
  | none=>rfl
  | some o =>
   cases o with
   | nxt s'=>exact qU Inv h k (i+1) s' (h2 s' e)
   | brk s'=>rfl
   | ret r=>rfl
theorem LO {f g:Int->Option (Out Int Int)} (N:Nat) (hN:N<=1048576) (h: ∀i:Nat,i<N->f (i:Int)=some (.ret (i:Int))\/f (i:Int)=some (.nxt ((i+1:Nat):Int))) (he:f (N:Int)=some (.brk (N:Int))) (hfg: ∀i:Nat,i<=N->g (i:Int)=f (i:Int)) :
  ∃r:Int,aO (ax f aT 0) (fun r=>some r) (fun _=>some (-1))=some r/\aO (ax g aT 0) (fun r=>some r) (fun _=>some (-1))=some r/\(r= -1\/ ∃i:Nat,i<N/\r=(i:Int)):=by
 have hs:ax g aT 0=ax f aT 0:=qU (fun i s=>s=(i:Int)/\i<=N) (fun i s ⟨e,hi⟩=>by
  subst e
  refine ⟨hfg i hi,fun s' e=>?_⟩
  by_cases c:i<N
  ·rcases h i c with e2 | e2
   ·rw[e2] at e;cases e
   ·rw[e2] at e;cases e;exact ⟨rfl,c⟩
  ·obtain rfl:i=N:=by omega
   rw[he] at e;cases e) aT 0 0 ⟨rfl,Nat.zero_le _⟩
 rw[hs]
 obtain ⟨o,e,ho⟩:=cR (f:=f) (fun i s=>s=(i:Int)) (fun o=>o= .brk (N:Int)\/ ∃i:Nat,i<N/\o= .ret (i:Int)) N (fun i s hi hs=>by
  subst hs
  by_cases h1:i<N
  ·rcases h i h1 with h2 | h2
   ·exact .inr ⟨_,h2,(fun s' e=>by cases e),.inr ⟨i,h1,rfl⟩⟩
   ·exact .inl ⟨h1,_,h2,rfl⟩
  ·obtain rfl:i=N:=by omega
   exact .inr ⟨_,he,(fun s' e=>by cases e),.inl rfl⟩) (s:=0) rfl (dH _ (by omega))
 rw[e]
 rcases ho with rfl | ⟨i,hi,rfl⟩
 ·exact ⟨-1,rfl,rfl,.inl rfl⟩
 ·exact ⟨i,rfl,rfl,.inr ⟨i,hi,rfl⟩⟩
theorem Ns (l:List AutT) (a:AutT) (hl:l.length<=1048576) (hs: ∀x∈l,Data.sm x) (ha:Data.sm a): ∃r:Int,mY l a=some r/\ba l (fun a0=>mV a0 a)=some r/\(r= -1\/ ∃i:Nat,i<l.length/\r=(i:Int)):=by
 unfold mY ba
 have hf: ∀i (h:i<l.length),iR l a (i:Int)=if l[i] =a then some (.ret (i:Int)) else some (.nxt ((i+1:Nat):Int)):=fun i h=>by
  simp only[iR,bI h,if_true,aC h,aa,dM,CH l[i] a (hs _ (List.getElem_mem h)),af (show i<9223372036854775807 by omega)]
  by_cases c:l[i] =a <;> simp[c]
 refine LO l.length hl (fun i h=>?_) (by simp only[iR,bg];rfl) (fun i hi=>?_)
 ·rw[hf i h];by_cases c:l[i] =a <;> simp[c]
 ·by_cases h:i<l.length
  ·rw[hf i h]
   simp only[bT,mV,bI h,if_true,aC h,aa,dM,CI a l[i] ha,af (show i<9223372036854775807 by omega)]
   by_cases c:l[i] =a
   ·simp[c]
   ·have: ¬a=l[i]:=fun e=>c e.symm
    simp[c,this]
  ·obtain rfl:i=l.length:=by omega
   simp only[iR,bT,bg];rfl
def Kg (n i:Nat) (s:Int×List AutT×List QT):Prop:=s.1=(i:Int)/\i<=n/\s.2.2.length=i/\s.2.1.length<=i/\(∀a∈s.2.1,Data.sm a)/\ ∀q∈s.2.2,Data.sm q/\0<=q.2.2/\q.2.2<(s.2.1.length:Int)
theorem LP {qs:List QT} (hq:Data.sm qs) {i:Nat} {s:Int×List AutT×List QT} (hI:Kg qs.length i s):kZ qs s=dC qs s /\
  ((i<qs.length/\ ∃s',dC qs s=some (.nxt s')/\Kg qs.length (i+1) s')\/ ∃o,dC qs s=some o/\(∀s',o≠ .nxt s')/\(o= .ret (([],[]),false)\/o= .brk s/\i=qs.length)):=by
 obtain ⟨hn,hs⟩:=aH hq
 obtain ⟨s1,A,Q⟩:=s
 obtain ⟨h1,h2,h3,h4,h5,h6⟩:=hI
 simp only at h1 h3 h4 h5 h6
 subst h1
 by_cases hi:i<qs.length
 ·have hqi:=hs _ (List.getElem_mem hi)
  obtain ⟨r,es,ei,hr⟩:=Kf (e:=qs[i].2.1) hqi.2.1.1
  obtain ⟨k,ks,ki,hk⟩:=Ns A r.1 (by omega) h5 hr
  have a1:cn 56 A [r.1] =some (A++ [r.1]):=aK (by simp;omega)
  have a2: ∀y,cn 40 Q [y] =some (Q++ [y]):=fun y=>aK (by simp;omega)
  have a3:hY qs[i].2.1=some qs[i].2.1:=by unfold hY;rw[aK (by have:=hqi.2.1.1;simp;omega)];rfl
  have a4:gm qs[i].2.1=some qs[i].2.1:=by unfold gm;rw[aK (by have:=hqi.2.1.1;simp;omega)];rfl
  unfold kZ dC
  simp only[bI hi,if_true,aC hi,aa,es,ei,NA,IA,dM,ks,ki,a1,a2,a3,a4,af (show i<9223372036854775807 by omega)]
  by_cases c1:r.2=true
  case neg =>
   simp only[c1,Bool.false_eq_true,if_false]
   exact ⟨by first | trivial | rfl,.inr ⟨_,rfl,(fun s' e=>by cases e),.inl rfl⟩⟩
  simp only[c1,if_true]
  by_cases c2:1<=qs[i].1/\qs[i].1<=99
  case neg =>
   simp only[c2,decide_false,Bool.false_eq_true,if_false]
   exact ⟨by first | trivial | rfl,.inr ⟨_,rfl,(fun s' e=>by cases e),.inl rfl⟩⟩
  simp only[c2,decide_true,if_true]
  have fin: ∃s':Int×List AutT×List QT,(∀(y:Option (Out (Nq×Bool) (Int×List AutT×List QT))),True)/\(Option.bind (if decide (k<0) then some ((A.length:Int),A++ [r.1],Q) else some (k,A,Q)) fun s10:Int×List AutT×List QT=>(cn 40 s10.2.2 [(qs[i].1,qs[i].2.1,s10.1)]).bind fun z18=>some (.nxt (((i+1:Nat):Int),s10.2.1,z18)):Option (Out (Nq×Bool) (Int×List AutT×List QT)))=some (.nxt s')/\Kg qs.length (i+1) s':=by
   rcases hk with rfl | ⟨j,hj,rfl⟩
   ·refine ⟨(((i+1:Nat):Int),A++ [r.1],Q++ [(qs[i].1,qs[i].2.1,(A.length:Int))]),fun _=>trivial,?_,rfl,hi,by simp;omega,by simp;omega,fun a ha=>?_,fun q hq'=>?_⟩
    ·simp only[show decide ((-1:Int)<0)=true from rfl,if_true,aa,a2]
    ·simp only[List.mem_append,List.mem_singleton] at ha
     rcases ha with ha | rfl
     ·exact h5 a ha
     ·exact hr
    ·simp only[List.mem_append,List.mem_singleton] at hq'
     simp only[aw,List.length_singleton]
     rcases hq' with hq' | rfl
     ·obtain ⟨b1,b2,b3⟩:=h6 q hq'
      exact ⟨b1,b2,by omega⟩
     ·exact ⟨⟨trivial,hqi.2.1,trivial⟩,by simp,by simp;omega⟩
   ·refine ⟨(((i+1:Nat):Int),A,Q++ [(qs[i].1,qs[i].2.1,(j:Int))]),fun _=>trivial,?_,rfl,hi,by simp;omega,by simp only;omega,h5,fun q hq'=>?_⟩
    ·have:decide ((j:Int)<0)=false:=by simp
     simp only[this,Bool.false_eq_true,if_false,aa,a2]
    ·simp only[List.mem_append,List.mem_singleton] at hq'
     rcases hq' with hq' | rfl
     ·exact h6 q hq'
     ·exact ⟨⟨trivial,hqi.2.1,trivial⟩,by simp,by simp;omega⟩
  obtain ⟨s',-,e,hI'⟩:=fin
  by_cases c3:(i:Int)>0
  ·have hp:i - 1<qs.length:=by omega
   have hw:i64.wrap ((i:Int) - 1)=((i - 1:Nat):Int):=by rw[pb (by omega)];omega
   simp only[c3,decide_true,if_true,hw,aC hp,aa]
   by_cases c4:qs[i - 1].1≥qs[i].1
   ·simp only[c4,decide_true,if_true]
    exact ⟨by first | trivial | rfl,.inr ⟨_,rfl,(fun s' e=>by cases e),.inl rfl⟩⟩
   ·simp only[c4,decide_false,Bool.false_eq_true,if_false]
    exact ⟨by first | trivial | rfl,.inl ⟨hi,s',e,hI'⟩⟩
  ·simp only[c3,decide_false,Bool.false_eq_true,if_false]
   exact ⟨by first | trivial | rfl,.inl ⟨hi,s',e,hI'⟩⟩
 ·obtain rfl:i=qs.length:=by omega
  unfold kZ dC
  simp only[bg,Bool.false_eq_true,if_false]
  exact ⟨by first | trivial | rfl,.inr ⟨_,rfl,(fun s' e=>by cases e),.inr (by first | exact ⟨rfl,rfl⟩ | exact ⟨trivial,rfl⟩ | exact ⟨rfl,trivial⟩ | simp)⟩⟩
def RegOk (r:Nq):Prop:=Data.sm r/\ ∀q∈r.2,0<=q.2.2/\q.2.2<(r.1.length:Int)
theorem Uk {qs:List QT} (hq:Data.sm qs): ∃r:Nq,∃b:Bool,pC qs=(if (qs.length:Int)>4 then some (([],[]),false) else some (r,b))/\um qs=some (r,b&&decide ((qs.length:Int)<=4))/\RegOk r:=by
 have hn:=(aH hq).1
 have h0:Kg qs.length 0 (0,[],[]):=⟨rfl,Nat.zero_le _,rfl,aD _,fun _ h=>(by cases h),fun _ h=>(by cases h)⟩
 have hs:ax (kZ qs) aT (0,[],[])=ax (dC qs) aT (0,[],[]):=qU (Kg qs.length) (fun i s hI=>by
  obtain ⟨e,h⟩:=LP hq hI
  refine ⟨e,fun s' e'=>?_⟩
  rcases h with ⟨_,s2,e2,hI2⟩ | ⟨o,e2,hne,-⟩
  ·rw[e2] at e';cases e';exact hI2
  ·rw[e2] at e';cases e';exact absurd rfl (hne s')) aT 0 _ h0
 obtain ⟨o,e,ho⟩:=cR (f:=dC qs) (Kg qs.length) (fun o=>o= .ret (([],[]),false)\/ ∃A Q,o= .brk ((qs.length:Int),A,Q)/\Kg qs.length qs.length ((qs.length:Int),A,Q)) qs.length (fun i s hi hI=>by
  rcases (LP hq hI).2 with h | ⟨o,e,hne,h⟩
  ·exact .inl h
  ·refine .inr ⟨o,e,hne,?_⟩
   rcases h with h | ⟨h,rfl⟩
   ·exact .inl h
   ·obtain ⟨s1,A,Q⟩:=s
    obtain ⟨rfl,-⟩:=id hI
    exact .inr ⟨A,Q,h,hI⟩) h0 (dH _ (by omega))
 unfold pC um
 rw[hs,e]
 rcases ho with rfl | ⟨A,Q,rfl,-,-,h3,h4,h5,h6⟩
 ·refine ⟨([],[]),false,?_,rfl,⟨⟨Nat.zero_le _,fun _ h=>(by cases h)⟩,Nat.zero_le _,fun _ h=>(by cases h)⟩,fun _ h=>(by cases h)⟩
  by_cases c:(qs.length:Int)>4 <;> simp[c,aO]
 ·simp only at h3 h4 h5 h6
  refine ⟨(A,Q),true,?_,by simp[aO],⟨⟨show A.length<=1048576 by omega,h5⟩,show Q.length<=1048576 by omega,fun q h=>(h6 q h).1⟩,fun q h=>(h6 q h).2⟩
  by_cases c:(qs.length:Int)>4 <;> simp[c,aO]
theorem Nt {r:Nq} (hr:Data.sm r): ∃b,gG r=some b/\gC r=some b/\(b=true->RegOk r):=by
 obtain ⟨x,b,e1,e2,hx⟩:=Uk hr.2
 unfold gG gC
 rw[e1,e2]
 by_cases c:(r.2.length:Int)>4
 ·have c': ¬(r.2.length:Int)<=4:=by omega
  exact ⟨false,by simp[c],by simp[c'],fun e=>by cases e⟩
 ·have c':(r.2.length:Int)<=4:=by omega
  cases b with
  | false=>exact ⟨false,by simp[c],by simp,fun e=>by cases e⟩
  | true =>
   simp only[c,if_false,aa,if_true,c',decide_true,Bool.and_true,dM,Gv x r hx.1,Gw x r hx.1]
   exact ⟨_,rfl,rfl,fun e=>by rw[<-of_decide_eq_true e];exact hx⟩
end D
set_option synthInstance.maxSize 20000
set_option synthInstance.maxHeartbeats 2000000
namespace D
open Go.RowKit
abbrev NC:=Int×(List GrT)
abbrev aaY:=Int×Int×Int
theorem CJ (g:GrT) (hg:Data.sm g):cB g=some g:=by
 have h1:=(aH hg.1).1
 have h2:=(aH hg.2).1
 unfold cB
 rw[aK (by simp;omega)];simp only[aa,List.nil_append]
 rw[aK (by simp;omega)];rfl
theorem CK (g:GrT) (hg:Data.sm g):dU g=some g:=by
 have h1:=(aH hg.1).1
 have h2:=(aH hg.2).1
 unfold dU mW
 rw[aK (by simp;omega)];simp only[aa,List.nil_append]
 rw[aK (by simp;omega)];rfl
theorem Es {g:GrT} (hg:Data.sm g): ∃b,bL g=some b:=by
 obtain ⟨b,e,_⟩:=TV g (aH hg.1).1 (aH hg.2).1
 exact ⟨b,e⟩
def okG (h:NC) (g:GrT):Prop:=bL g=some true/\g.1=(nth h.2 0).1
instance (h g):Decidable (okG h g):=by unfold okG;infer_instance
theorem CL (h:NC) (hh:Data.sm h): ∃b,m_s_IsValidHistory h=some b/\m_i_IsValidHistory h=some b/\(b=true->(1<=h.2.length/\h.2.length<=8)/\1<=h.1/\h.1<=1000 - (h.2.length:Int)):=by
 obtain ⟨hl,hs⟩:=aH hh.2
 have ew:i64.wrap ((i64.wrap (999 - (h.2.length:Int)))+1)=1000 - (h.2.length:Int):=by
  rw[fy (n:=999 - (h.2.length:Int)) (by omega) (by omega),fy (by omega) (by omega)];omega
 have ks:=scan (f:=fg h) h.2 (okG h) false (by omega) (fun i hi=>by
  have hg:=hs _ (b9 (xs:=h.2) (i:=(i:Int)) (by omega) (by omega))
  obtain ⟨b,e⟩:=Es hg
  obtain ⟨r,er,hr⟩:=Gr (nth h.2 (i:Int)).1 (nth h.2 0).1 (aH hg.1).1
  have e':da ((nth h.2 (i:Int)).1,(nth h.2 (i:Int)).2)=some b:=by rw[xE];exact e
  have hk:okG h (nth h.2 (i:Int))↔b=true/\(nth h.2 (i:Int)).1=(nth h.2 0).1:=by unfold okG;rw[e];simp
  unfold fg
  rw[if_pos (by simp;omega),aI (by omega) (by omega)];simp only[aa]
  rw[e',aI (xs:=h.2) (i:=0) (by omega) (by omega)];simp only[aa]
  rw[er,af (by omega)];simp only[aa]
  cases b with
  | false=>rw[if_neg (by decide),if_neg (fun c=>by cases (hk.1 c).1)]
  | true =>
   rw[if_pos rfl]
   by_cases c:r=0
   ·rw[if_neg (by simp[c]),if_pos (hk.2 ⟨rfl,hr.1 c⟩)]
   ·rw[if_pos (by simpa using c),if_neg (fun k=>c (hr.2 (hk.1 k).2))]) (by unfold fg;simp)
 have ki:=scan (f:=e8 h) h.2 (okG h) false (by omega) (fun i hi=>by
  have hg:=hs _ (b9 (xs:=h.2) (i:=(i:Int)) (by omega) (by omega))
  obtain ⟨b,e⟩:=Es hg
  have er:=CC (nth h.2 (i:Int)).1 (nth h.2 0).1 (by have:=(aH hg.1).1;omega)
  have e':bL ((nth h.2 (i:Int)).1,(nth h.2 (i:Int)).2)=some b:=e
  have hk:okG h (nth h.2 (i:Int))↔b=true/\(nth h.2 (i:Int)).1=(nth h.2 0).1:=by unfold okG;rw[e];simp
  unfold e8
  rw[if_pos (by simp;omega),aI (by omega) (by omega)];simp only[aa]
  rw[e',aI (xs:=h.2) (i:=0) (by omega) (by omega)];simp only[aa]
  rw[er,af (by omega)];simp only[aa]
  cases b with
  | false=>rw[if_neg (by decide),if_neg (fun c=>by cases (hk.1 c).1)]
  | true =>
   rw[if_pos rfl]
   by_cases c:(nth h.2 (i:Int)).1=(nth h.2 0).1
   ·rw[if_pos (decide_eq_true c),if_pos (hk.2 ⟨rfl,c⟩)]
   ·rw[if_neg (by simpa using c),if_neg (fun k=>c (hk.1 k).2)]) (by unfold e8;simp)
 unfold m_s_IsValidHistory m_i_IsValidHistory
 rw[NA,NA,IA,IA,ew];simp only[aa]
 by_cases c1:(1:Int)<=(h.2.length:Int)/\(h.2.length:Int)<=8
 ·by_cases c2:1<=h.1/\h.1<=1000 - (h.2.length:Int)
  ·rw[decide_eq_true c1,decide_eq_true c2];simp only[if_true]
   rcases ks with ⟨es,k1⟩ | ⟨es,k1⟩ <;> rcases ki with ⟨ei,k2⟩ | ⟨ei,k2⟩
   ·rw[ay es,ay ei]
    exact ⟨true,rfl,rfl,fun _=>⟨by omega,c2⟩⟩
   ·exact absurd k1 k2
   ·exact absurd k2 k1
   ·rw[cr es,cr ei]
    exact ⟨false,rfl,rfl,fun c=>by cases c⟩
  ·rw[decide_eq_true c1,decide_eq_false c2];simp only[if_true,Bool.false_eq_true,if_false]
   rcases ks with ⟨es,k1⟩ | ⟨es,k1⟩
   ·rw[ay es];exact ⟨false,rfl,rfl,fun c=>by cases c⟩
   ·rw[cr es];exact ⟨false,rfl,rfl,fun c=>by cases c⟩
 ·rw[decide_eq_false c1];simp only[Bool.false_eq_true,if_false]
  rcases ks with ⟨es,k1⟩ | ⟨es,k1⟩
  ·rw[ay es];exact ⟨false,rfl,rfl,fun c=>by cases c⟩
  ·rw[cr es];exact ⟨false,rfl,rfl,fun c=>by cases c⟩
def latV (h:NC):Int:=h.1+(h.2.length:Int) - 1
theorem CM {h:NC} (hs:m_s_IsValidHistory h=some true) (hi:m_i_IsValidHistory h=some true) (k:(1<=h.2.length/\h.2.length<=8)/\1<=h.1/\h.1<=1000 - (h.2.length:Int)):bf h=some (latV h)/\bS h=some (latV h):=by
 unfold bf bS latV
 have hs:m_s_IsValidHistory (h.1,h.2)=_:=hs
 have hi:m_i_IsValidHistory (h.1,h.2)=_:=hi
 rw[hs,hi];simp only[aa,if_true]
 rw[fy (n:=h.1+(h.2.length:Int)) (by omega) (by omega),fy (by omega) (by omega)]
 exact ⟨rfl,rfl⟩
end D
set_option synthInstance.maxSize 20000
set_option synthInstance.maxHeartbeats 2000000
namespace D
open Go.RowKit
theorem XU (a:AutT) (ha:Data.sm a):rh a=some a:=by
 obtain ⟨-,⟨hb,-⟩,hn,hr⟩:=ha
 unfold rh
 rw[aK (by simp;omega)];simp only[aa,List.nil_append]
 have:=bp (f:=jL a) (fun i=>((i:Int),a.1,a.2.1,a.2.2.take i)) a.2.2.length (fun i hi=>by
  unfold jL
  have h1:cn 8 ([] :List Int) a.2.2[i] =some a.2.2[i]:=by rw[aK (by have:a.2.2[i].length<=1048576:=(hr _ (List.getElem_mem hi)).1;simp;omega)];rfl
  simp only[bI hi,if_true,aC hi,aa,h1,af (show i<9223372036854775807 by omega)]
  rw[aK (by simp;omega)]
  simp only[aa]
  rw[List.take_succ_eq_append_getElem hi]) (by
  unfold jL
  simp only[bg,Bool.false_eq_true,if_false]) (dH _ (by omega))
 have e:ax (jL a) aT (0,a.1,a.2.1,[])=_:=this
 rw[e]
 simp only[aO,List.take_length]
theorem XV (a:AutT) (ha:Data.sm a):jf a=some a:=by
 obtain ⟨-,⟨hb,-⟩,hn,hr⟩:=ha
 unfold jf
 rw[aK (by simp;omega)];simp only[aa,List.nil_append]
 have:=bp (f:=dQ a) (fun i=>((i:Int),a.1,a.2.1,a.2.2.take i)) a.2.2.length (fun i hi=>by
  unfold dQ mW
  have h1:cn 8 ([] :List Int) a.2.2[i] =some a.2.2[i]:=by rw[aK (by have:a.2.2[i].length<=1048576:=(hr _ (List.getElem_mem hi)).1;simp;omega)];rfl
  simp only[bI hi,if_true,aC hi,aa,h1,af (show i<9223372036854775807 by omega)]
  rw[aK (by simp;omega)]
  simp only[aa]
  rw[List.take_succ_eq_append_getElem hi]) (by
  unfold dQ
  simp only[bg,Bool.false_eq_true,if_false]) (dH _ (by omega))
 have e:ax (dQ a) aT (0,a.1,a.2.1,[])=_:=this
 rw[e]
 simp only[aO,List.take_length]
end D
set_option synthInstance.maxSize 20000
set_option synthInstance.maxHeartbeats 2000000
namespace D
open Go.RowKit
theorem Rg (r:Nq) (id:Int) (hl:r.2.length<=1048576): ∃k:Int,lf r id=some k/\k8 r id=some k/\(k= -1\/ ∃i:Nat,i<r.2.length/\k=(i:Int)):=by
 unfold lf k8 bX
 have hf: ∀i (h:i<r.2.length),eY r id (i:Int)=if r.2[i].1=id then some (.ret (i:Int)) else some (.nxt ((i+1:Nat):Int)):=fun i h=>by
  simp only[eY,bI h,if_true,aC h,aa,af (show i<9223372036854775807 by omega)]
  by_cases c:r.2[i].1=id <;> simp[c]
 obtain ⟨k,e1,e2,h⟩:=LO (f:=eY r id) (g:=bm r.2 fun a0=>k7 a0 id) r.2.length hl (fun i h=>by
  rw[hf i h];by_cases c:r.2[i].1=id <;> simp[c]) (by simp only[eY,bg];rfl) (fun i hi=>by
  by_cases h:i<r.2.length
  ·rw[hf i h]
   simp only[bm,k7,bI h,if_true,aC h,aa,af (show i<9223372036854775807 by omega)]
   by_cases c:r.2[i].1=id <;> simp[c]
  ·obtain rfl:i=r.2.length:=by omega
   simp only[eY,bm,bg];rfl)
 refine ⟨k,e1,?_,h⟩
 rw[e2];rfl
end D
set_option synthInstance.maxSize 20000
set_option synthInstance.maxHeartbeats 2000000
namespace D
open Go.RowKit
abbrev EngT:=NC×Nq×List aaY×ByteArray
theorem LQ {h:NC} {r:Nq} {ss:List aaY} {lg:ByteArray} {v:Int} (hs:bf h=some v) (hr:r.2.length<=1048576) (hn:ss.length<=1048576) {i:Nat} (h1:i<ss.length) :
  cw (h,r,ss,lg) v (i:Int)=cV (h,r,ss,lg) (i:Int)/\(cV (h,r,ss,lg) (i:Int)=some (.nxt ((i+1:Nat):Int))\/cV (h,r,ss,lg) (i:Int)=some (.ret false)):=by
 obtain ⟨k,k1,k2,-⟩:=Rg r ss[i].2.1 hr
 have hw:i64.wrap ((i:Int)+1)=((i+1:Nat):Int):=af (by omega)
 unfold cw cV
 simp only[dM,bI h1,if_true,aC h1,aa,NA,IA,k1,k2,hs,hw]
 by_cases c:decide ((i:Int)>0)=true
 ·have g:aQ ss (i64.wrap ((i:Int) - 1))=some (nth ss ((i:Int) - 1)):=by
   have:(i:Int)>0:=of_decide_eq_true c
   rw[pb (by omega),aI (by omega) (by omega)]
  simp only[if_pos c,g,aa]
  refine ⟨trivial,?_⟩
  repeat' split
  all_goals first | exact .inr rfl | exact .inl rfl
 ·simp only[if_neg c]
  refine ⟨trivial,?_⟩
  repeat' split
  all_goals first | exact .inr rfl | exact .inl rfl
theorem Ul {h:NC} {r:Nq} {ss:List aaY} {lg:ByteArray} {v:Int} (hs:bf h=some v) (hr:r.2.length<=1048576) (hn:ss.length<=1048576): ∃o,ax (cV (h,r,ss,lg)) aT 0=some o/\ax (cw (h,r,ss,lg) v) aT 0=some o/\(o= .ret false\/ ∃s,o= .brk s):=by
 have hend:cV (h,r,ss,lg) (ss.length:Int)=some (.brk (ss.length:Int)):=by
  unfold cV
  simp only[]
  rw[bg];rfl
 have hend2:cw (h,r,ss,lg) v (ss.length:Int)=some (.brk (ss.length:Int)):=by
  unfold cw
  simp only[]
  rw[bg];rfl
 obtain ⟨o,e,hQ⟩:=cR (f:=cV (h,r,ss,lg)) (fun i s=>s=(i:Int)) (fun o=>o= .ret false\/ ∃s,o= .brk s) ss.length (fun i s hi hI=>by
  subst hI
  by_cases h1:i<ss.length
  ·rcases (LQ (lg:=lg) hs hr hn h1).2 with k | k
   ·exact .inl ⟨h1,_,k,rfl⟩
   ·exact .inr ⟨_,k,fun s' h=>(by simp at h),.inl rfl⟩
  ·obtain rfl:i=ss.length:=by omega
   exact .inr ⟨_,hend,fun s' h=>(by simp at h),.inr ⟨_,rfl⟩⟩) (s:=(0:Int)) rfl (dH _ (by omega))
 refine ⟨o,e,?_,hQ⟩
 rw[<-e]
 refine qU (f:=cV (h,r,ss,lg)) (g:=cw (h,r,ss,lg) v) (fun i s=>s=(i:Int)/\i<=ss.length) (fun i s hI=>?_) aT 0 0 ⟨rfl,Nat.zero_le _⟩
 obtain ⟨rfl,hi⟩:=hI
 by_cases h1:i<ss.length
 ·obtain ⟨a,b⟩:=LQ (lg:=lg) hs hr hn h1
  refine ⟨a,fun s' hs'=>?_⟩
  rcases b with b | b
  ·rw[b] at hs'
   obtain rfl:=ae hs' |> Out.nxt.inj
   exact ⟨rfl,h1⟩
  ·rw[b] at hs';simp at hs'
 ·obtain rfl:i=ss.length:=by omega
  exact ⟨by rw[hend,hend2],fun s' hs'=>by rw[hend] at hs';simp at hs'⟩
structure EngOk (e:EngT):Prop where
 hs:m_s_IsValidHistory e.1=some true
 hi:m_i_IsValidHistory e.1=some true
 hb:(1<=e.1.2.length/\e.1.2.length<=8)/\1<=e.1.1/\e.1.1<=1000 - (e.1.2.length:Int)
 reg:RegOk e.2.1
 sub:e.2.2.1.length<=4
 log:e.2.2.2.size<=4000
 sc: ∃(r:List Int) (q:List (List ChT)) (n:Nat),m_s_ScanLog e.2.2.2=some (r,q,(n:Int))/\m_i_ScanLog e.2.2.2=some (r,q,(n:Int))/\r.length<=4000/\ScOk r q/\totL r q r.length<=4000/\(r.length=0\/nth r ((r.length:Int) - 1)=latV e.1)
theorem LR (e:EngT) (he:Data.sm e): ∃b,gf e=some b/\fR e=some b/\(b=true->EngOk e):=by
 obtain ⟨h,r,ss,lg⟩:=e
 obtain ⟨sh,sr,ssb,slg⟩:=he
 obtain ⟨b1,e1,e2,k1⟩:=CL h sh
 obtain ⟨b2,f1,f2,k2⟩:=Nt sr
 have slg:lg.size<=1048576:=slg
 obtain ⟨l,rfl⟩:=QF lg
 have hlz:(mkB l).size=l.length:=bF l
 have hl:l.length<=1048576:=by rw[<-hlz];exact slg
 unfold gf fR vL yn
 simp only[dM,e1,e2,f1,f2,aa,hlz]
 cases b1 with
 | false=>exact ⟨false,rfl,rfl,fun c=>by cases c⟩
 | true =>
  cases b2 with
  | false=>exact ⟨false,rfl,rfl,fun c=>by cases c⟩
  | true =>
   obtain ⟨l1,l2⟩:=CM e1 e2 (k1 rfl)
   obtain ⟨o,o1,o2,ho⟩:=Ul (h:=h) (r:=r) (ss:=ss) (lg:=mkB l) l1 (aH sr.2).1 (aH ssb).1
   obtain ⟨vs,bs,n,g1,g2,g3,g4,g5,g6⟩:=zM l (by omega)
   simp only[if_true,l1,l2,g1,g2,aa,o1,o2]
   by_cases c1:(ss.length:Int)<=4
   ·rw[if_neg (show¬decide ((ss.length:Int)>4)=true by rw[decide_eq_true_eq];omega),decide_eq_true c1]
    by_cases c2:(l.length:Int)<=4000
    ·rw[if_neg (show¬decide ((l.length:Int)>4000)=true by rw[decide_eq_true_eq];omega)]
     rcases ho with rfl | ⟨s,rfl⟩
     ·exact ⟨false,rfl,rfl,fun c=>by cases c⟩
     ·simp only[aO,if_true,aa]
      by_cases c3:((n:Int)==(l.length:Int))=true
      ·simp only[if_pos c3,if_pos (decide_eq_true c2)]
       by_cases c4:((vs.length:Int)==0)=true
       ·simp only[if_pos c4,aa]
        exact ⟨true,rfl,rfl,fun _=>⟨e1,e2,k1 rfl,k2 rfl,by show ss.length<=4;omega,by show (mkB l).size<=4000;omega,vs,bs,n,g1,g2,g4,g5,by omega,.inl (by have:=eq_of_beq c4;omega)⟩⟩
       ·have hp:0<vs.length:=by
         rcases Nat.eq_zero_or_pos vs.length with q | q
         ·exact absurd (by rw[q];rfl) c4
         ·exact q
        simp only[if_neg c4,pb (show vs.length<=9223372036854775807 by omega),aI (xs:=vs) (i:=(vs.length:Int) - 1) (by omega) (by omega),aa]
        refine ⟨_,rfl,rfl,fun c=>⟨e1,e2,k1 rfl,k2 rfl,by show ss.length<=4;omega,by show (mkB l).size<=4000;omega,vs,bs,n,g1,g2,g4,g5,by omega,.inr (eq_of_beq c)⟩⟩
      ·simp only[if_neg c3,aa]
       exact ⟨false,rfl,rfl,fun c=>by cases c⟩
    ·rw[if_pos (decide_eq_true (show (l.length:Int)>4000 by omega))]
     rcases ho with rfl | ⟨s,rfl⟩
     ·exact ⟨false,rfl,rfl,fun c=>by cases c⟩
     ·simp only[aO,if_true,aa]
      by_cases c3:((n:Int)==(l.length:Int))=true
      ·simp only[if_pos c3,if_neg (show¬decide ((l.length:Int)<=4000)=true by rw[decide_eq_true_eq];exact c2),aa]
       exact ⟨false,rfl,rfl,fun c=>by cases c⟩
      ·simp only[if_neg c3,aa]
       exact ⟨false,rfl,rfl,fun c=>by cases c⟩
   ·rw[if_pos (decide_eq_true (show (ss.length:Int)>4 by omega)),decide_eq_false c1]
    rcases ho with rfl | ⟨s,rfl⟩
    ·exact ⟨false,rfl,rfl,fun c=>by cases c⟩
    ·exact ⟨false,rfl,rfl,fun c=>by cases c⟩
end D
set_option synthInstance.maxSize 20000
set_option synthInstance.maxHeartbeats 2000000
namespace D
open Go.RowKit
theorem XW (r:Nq) (hr:Data.sm r):ri r=some r:=by
 obtain ⟨h1,h2⟩:=aH hr.1
 obtain ⟨h3,h4⟩:=aH hr.2
 unfold ri
 have a:=bp (f:=jM r) (fun i=>((i:Int),r.1.take i,([] :List QT))) r.1.length (fun i hi=>by
  unfold jM
  simp only[bI hi,if_true,aC hi,aa,dM,XU _ (h2 _ (List.getElem_mem hi)),af (show i<9223372036854775807 by omega)]
  rw[aK (by simp;omega)]
  simp only[aa]
  rw[List.take_succ_eq_append_getElem hi]) (by
  unfold jM
  simp only[bg,Bool.false_eq_true,if_false]) (dH _ (by omega))
 have e:ax (jM r) aT (0,[],[])=_:=a
 rw[e]
 simp only[aO,List.take_length]
 have a:=bp (f:=jN r) (fun i=>((i:Int),r.1,r.2.take i)) r.2.length (fun i hi=>by
  unfold jN
  have c:hY r.2[i].2.1=some r.2[i].2.1:=by unfold hY;rw[aK (by have:=(h4 _ (List.getElem_mem hi)).2.1.1;simp;omega)];rfl
  simp only[bI hi,if_true,aC hi,aa,dM,c,af (show i<9223372036854775807 by omega)]
  rw[aK (by simp;omega)]
  simp only[aa]
  rw[List.take_succ_eq_append_getElem hi]) (by
  unfold jN
  simp only[bg,Bool.false_eq_true,if_false]) (dH _ (by omega))
 have e:ax (jN r) aT (0,r.1,[])=_:=a
 rw[e]
 simp only[List.take_length]
theorem XX (r:Nq) (hr:Data.sm r):jS r=some r:=by
 obtain ⟨h1,h2⟩:=aH hr.1
 obtain ⟨h3,h4⟩:=aH hr.2
 unfold jS
 have a:=bp (f:=eF r) (fun i=>((i:Int),r.1.take i,([] :List QT))) r.1.length (fun i hi=>by
  unfold eF
  simp only[bI hi,if_true,aC hi,aa,dM,XV _ (h2 _ (List.getElem_mem hi)),af (show i<9223372036854775807 by omega)]
  rw[aK (by simp;omega)]
  simp only[aa]
  rw[List.take_succ_eq_append_getElem hi]) (by
  unfold eF
  simp only[bg,Bool.false_eq_true,if_false]) (dH _ (by omega))
 have e:ax (eF r) aT (0,[],[])=_:=a
 rw[e]
 simp only[aO,List.take_length]
 have a:=bp (f:=eG r) (fun i=>((i:Int),r.1,r.2.take i)) r.2.length (fun i hi=>by
  unfold eG
  have c:gm r.2[i].2.1=some r.2[i].2.1:=by unfold gm;rw[aK (by have:=(h4 _ (List.getElem_mem hi)).2.1.1;simp;omega)];rfl
  simp only[bI hi,if_true,aC hi,aa,dM,c,af (show i<9223372036854775807 by omega)]
  rw[aK (by simp;omega)]
  simp only[aa]
  rw[List.take_succ_eq_append_getElem hi]) (by
  unfold eG
  simp only[bg,Bool.false_eq_true,if_false]) (dH _ (by omega))
 have e:ax (eG r) aT (0,r.1,[])=_:=a
 rw[e]
 simp only[List.take_length]
end D
set_option synthInstance.maxSize 20000
set_option synthInstance.maxHeartbeats 2000000
namespace D
open Go.RowKit
theorem Kh (h:NC) (hh:Data.sm h):qn h=some h:=by
 obtain ⟨hl,hs⟩:=aH hh.2
 have e:=bp (f:=lj h) (fun i=>((i:Int),h.1,h.2.take i)) h.2.length (fun i hi=>by
  have e:cB (h.2[i].1,h.2[i].2)=some h.2[i]:=CJ h.2[i] (hs _ (List.getElem_mem hi))
  have hx: ∀z:GrT,cn 48 (h.2.take i) [z] =some (h.2.take i++ [z]):=fun z=>aK (by rw[aA];simp only[al,aE];omega)
  unfold lj
  simp only[]
  rw[bI hi,if_pos rfl,aC hi]
  simp only[aa]
  rw[e]
  simp only[aa]
  rw[hx,af (by omega),List.take_succ_eq_append_getElem hi];rfl) (by
  unfold lj
  simp only[]
  rw[bg];rfl) (dH _ (by omega))
 rw[List.take_length] at e
 have e:ax (lj h) aT (0,h.1,[])=_:=e
 unfold qn
 rw[ay e]
theorem Ki (h:NC) (hh:Data.sm h):iK h=some h:=by
 obtain ⟨hl,hs⟩:=aH hh.2
 have e:=bp (f:=ff h) (fun i=>((i:Int),h.1,h.2.take i)) h.2.length (fun i hi=>by
  have e:dU (h.2[i].1,h.2[i].2)=some h.2[i]:=CK h.2[i] (hs _ (List.getElem_mem hi))
  have hx: ∀z:GrT,cn 48 (h.2.take i) [z] =some (h.2.take i++ [z]):=fun z=>aK (by rw[aA];simp only[al,aE];omega)
  unfold ff
  simp only[]
  rw[bI hi,if_pos rfl,aC hi]
  simp only[aa]
  rw[e]
  simp only[aa]
  rw[hx,af (by omega),List.take_succ_eq_append_getElem hi];rfl) (by
  unfold ff
  simp only[]
  rw[bg];rfl) (dH _ (by omega))
 rw[List.take_length] at e
 have e:ax (ff h) aT (0,h.1,[])=_:=e
 unfold iK
 rw[ay e]
theorem Rh (e:EngT) (he:Data.sm e):oL e=some e:=by
 obtain ⟨s1,s2,s3,s4⟩:=he
 have h3:=(aH s3).1
 unfold oL
 simp only[dM,Kh e.1 s1,XW e.2.1 s2,aa]
 rw[aK (by simp;omega)];rfl
theorem Ri (e:EngT) (he:Data.sm e):jD e=some e:=by
 obtain ⟨s1,s2,s3,s4⟩:=he
 have h3:=(aH s3).1
 unfold jD
 simp only[dM,Ki e.1 s1,XX e.2.1 s2,aa]
 rw[aK (by simp;omega)];rfl
theorem XY {α:Type} [Data α] {l:List α} (h:Data.sm l) (n:Nat):Data.sm (l.drop n):=
 ⟨by have:=(aH h).1;rw[aS];omega,fun x hx=>(aH h).2 x (List.mem_of_mem_drop hx)⟩
end D
set_option synthInstance.maxSize 20000
set_option synthInstance.maxHeartbeats 2000000
namespace D
open Go.RowKit
end D
set_option synthInstance.maxSize 20000
set_option synthInstance.maxHeartbeats 2000000
namespace D
open Go.RowKit
end D
set_option synthInstance.maxSize 20000
set_option synthInstance.maxHeartbeats 2000000
namespace D
open Go.RowKit
theorem aaZ (g:GrT) (id:Int) (hl:g.2.length<=1048576): ∃k:Int,ji g id=some k/\k9 g id=some k/\((k= -1/\ ∀e∈g.2,e.1≠id)\/ ∃(i:Nat) (hi:i<g.2.length),k=(i:Int)/\g.2[i].1=id):=by
 have hs:=Qs (f:=gV g id) g.2 (fun u=>u.1==id) (fun i=>(i:Int)) (by omega) (fun i hi=>by
  unfold gV
  rw[bI hi,if_pos rfl,aC hi]
  simp only[aa,af (show i<9223372036854775807 by omega)]
  split <;> rfl) (by
  unfold gV
  rw[bg];rfl)
 have e2:eI g.2 (fun a0=>oE a0 id)=gV g id:=by
  funext s;rfl
 unfold ji k9 de
 rw[e2]
 rcases hs with ⟨i,hi1,h1,h2,e1⟩ | ⟨h1,e1⟩
 ·rw[cr e1]
  exact ⟨_,rfl,rfl,.inr ⟨i,hi1,rfl,by simpa using h1⟩⟩
 ·rw[ay e1]
  exact ⟨_,rfl,rfl,.inl ⟨rfl,fun e he=>by simpa using h1 e he⟩⟩
theorem ZC {α:Type} [Data α] {xs:List α} (h:Data.sm xs) (i:Nat):Data.sm (xs.take i++xs.drop (i+1)):=by
 obtain ⟨h1,h2⟩:=aH h
 refine ⟨by rw[aw,aA,aS];omega,fun x hx=>?_⟩
 rcases aF hx with hx | hx
 ·exact h2 x (List.mem_of_mem_take hx)
 ·exact h2 x (List.mem_of_mem_drop hx)
theorem cut_ok {g:GrT} (G:Ng g) (i:Nat):Ng (g.1,g.2.take i++g.2.drop (i+1)):=by
 have hsub:(g.2.take i++g.2.drop (i+1)).Sublist g.2:=by
  rw[<-List.eraseIdx_eq_take_drop_succ]
  exact List.eraseIdx_sublist g.2 i
 have hp:g.2.Pairwise (fun a b=>a.1<b.1):=by
  rw[List.pairwise_iff_getElem]
  intro p q hp hq hpq
  have:=G.1.lt hpq hq
  rwa [bJ hp,bJ hq] at this
 have hp2:=hp.sublist hsub
 refine ⟨⟨G.1.n1,G.1.n5,?_,G.1.val,fun e he=>G.1.edge e (hsub.subset he),fun j hj=>?_⟩,fun e he=>G.2 e (hsub.subset he)⟩
 ·have:=hsub.length_le
  have:=G.1.m
  show (g.2.take i++g.2.drop (i+1)).length<=12
  omega
 ·have hj:j+1<(g.2.take i++g.2.drop (i+1)).length:=hj
  have:=List.pairwise_iff_getElem.1 hp2 j (j+1) (by omega) hj (by omega)
  show (nth (g.2.take i++g.2.drop (i+1)) (j:Int)).1<(nth (g.2.take i++g.2.drop (i+1)) ((j+1:Nat):Int)).1
  rw[bJ (by omega),bJ hj];exact this
def ab1 (h g:GrT):Prop:=h.1=g.1/\ ∀e∈h.2,e∈g.2
theorem Um (x:GrT) (hx:Data.sm x) (id:Int): ∃r:GrT×Bool,mB x id=some r/\mq x id=some r/\Data.sm r.1/\(r.2=true->Ng r.1/\ab1 r.1 x):=by
 obtain ⟨h1,h1'⟩:=aH hx.1
 obtain ⟨h2,h2'⟩:=aH hx.2
 obtain ⟨b,ev,kv⟩:=AG x h1 h2
 obtain ⟨k,k1,k2,hk0⟩:=aaZ x id h2
 have hk:k= -1\/ ∃(i:Nat) (hi:i<x.2.length),k=(i:Int):=hk0.imp And.left fun ⟨i,h,e,_⟩=>⟨i,h,e⟩
 unfold mB mq
 simp only[dM,xE,ev,CJ x hx,CK x hx,k1,k2,aa]
 by_cases c:decide (k<0)=true
 ·simp only[if_pos c]
  cases b with
  | false=>exact ⟨(x,false),rfl,rfl,hx,fun h=>by cases h⟩
  | true=>exact ⟨(x,false),rfl,rfl,hx,fun h=>by cases h⟩
 ·simp only[if_neg c]
  cases b with
  | false=>exact ⟨(x,false),rfl,rfl,hx,fun h=>by cases h⟩
  | true =>
   rcases hk with rfl | ⟨i,hi,rfl⟩
   ·exact absurd rfl c
   ·have hw:i64.wrap ((i:Int)+1)=((i+1:Nat):Int):=af (by omega)
    have c1:(0:Int)<=(i:Int)/\(i:Int)<=(x.2.length:Int):=by omega
    have c2:(0:Int)<=((i+1:Nat):Int)/\((i+1:Nat):Int)<=(x.2.length:Int):=by omega
    have c3:(0:Int)<=(i:Int)/\(i:Int)<=((i+1:Nat):Int)/\((i+1:Nat):Int)<=(x.2.length:Int):=by omega
    have q1:(chk (0<=(i:Int)/\(i:Int)<=(x.2.length:Int)))=some ():=if_pos c1
    have q2:(chk (0<=((i+1:Nat):Int)/\((i+1:Nat):Int)<=(x.2.length:Int)))=some ():=if_pos c2
    have q3:(chk (0<=(i:Int)/\(i:Int)<=((i+1:Nat):Int)/\((i+1:Nat):Int)<=(x.2.length:Int)))=some ():=if_pos c3
    have a0:cn 8 ([] :List Int) x.1=some x.1:=by rw[aK (by simp only[aE];omega)];rfl
    have a1:cn 32 ([] :List Yq1) (x.2.take i)=some (x.2.take i):=by rw[aK (by simp only[aE,aA];omega)];rfl
    have a2:cn 32 (x.2.take i) (x.2.drop (i+1))=some (x.2.take i++x.2.drop (i+1)):=aK (by simp only[aA,aS];omega)
    have a4:cJ x.2 (i:Int) ((i+1:Nat):Int)=some (x.2.take i++x.2.drop (i+1)):=by
     unfold cJ R.Z1
     rw[q3];rfl
    simp only[if_true,hw,q1,q2,aa,Int.toNat_natCast,a0,a1,a2,a4]
    refine ⟨_,rfl,rfl,⟨hx.1,ZC hx.2 i⟩,fun _=>⟨cut_ok (kv.1 rfl) i,rfl,fun e he=>?_⟩⟩
    rcases aF he with he | he
    ·exact List.mem_of_mem_take he
    ·exact List.mem_of_mem_drop he
end D
set_option synthInstance.maxSize 20000
set_option synthInstance.maxHeartbeats 2000000
namespace D
open Go.RowKit
abbrev XZ:=Int×Int×Int×Int
abbrev abI:=Bool×XZ
theorem ab2 (g:GrT) (e:XZ):qk g e=fP e (g.1.length:Int):=by
 unfold qk fP
 simp only[NA,IA,aa]
theorem ZD {α:Type} [Data α] {xs:List α} {y:α} (h:Data.sm xs) (hy:Data.sm y) (i:Nat) (hl:xs.length<=1048575):Data.sm (xs.take i++([y] ++xs.drop i)):=by
 obtain ⟨h1,h2⟩:=aH h
 refine ⟨by simp only[aw,aA,al,aE,aS];omega,fun x hx=>?_⟩
 rcases aF hx with hx | hx
 ·exact h2 x (List.mem_of_mem_take hx)
 ·rcases aF hx with hx | hx
  ·obtain rfl:=aq hx;exact hy
  ·exact h2 x (List.mem_of_mem_drop hx)
end D
set_option synthInstance.maxSize 20000
set_option synthInstance.maxHeartbeats 2000000
namespace D
open Go.RowKit
theorem aa0 (l:List XZ) (e:XZ) (hl:l.length<=1048576):cg l e=some (decide (e∈l)):=by
 have k: ∀x:XZ,((e.1==x.1)&&((e.2.1==x.2.1)&&((e.2.2.1==x.2.2.1)&&((e.2.2.2==x.2.2.2)&&true))))=decide (e=x):=fun x=>by
  obtain ⟨a,b,c,d⟩:=e
  obtain ⟨a',b',c',d'⟩:=x
  rw[Bool.eq_iff_iff];simp
 have hs:=Qs (f:=bB l e) l (fun u=>decide (e=u)) (fun i=>(i:Int)) (by omega) (fun i hi=>by
  unfold bB
  rw[bI hi,if_pos rfl,aC hi]
  simp only[aa,k,af (show i<9223372036854775807 by omega)]
  split <;> rfl) (by
  unfold bB
  rw[bg];rfl)
 unfold cg dV
 have el:bB l (e.1,e.2.1,e.2.2.1,e.2.2.2)=bB l e:=rfl
 rw[el]
 rcases hs with ⟨i,hi1,h1,h2,e1⟩ | ⟨h1,e1⟩
 ·rw[cr e1]
  simp only[aa]
  have:e∈l:=by
   have:=of_decide_eq_true h1
   rw[this];exact List.getElem_mem hi1
  rw[decide_eq_true this];simp
 ·rw[ay e1]
  simp only[aa]
  have: ¬e∈l:=fun h=>by simpa using h1 e h
  rw[decide_eq_false this];rfl
theorem ZE {g:GrT} (G:GOk g):g.2.Pairwise (fun a b=>a.1<b.1):=by
 rw[List.pairwise_iff_getElem]
 intro p q hp hq hpq
 have:=G.lt hpq hq
 rwa [bJ hp,bJ hq] at this
theorem ZF {g:GrT} (G:Ng g) {e:XZ} (he:edgeP e (g.1.length:Int)) (hm:g.2.length<12) {i:Nat} (hi:i<=g.2.length) (h1: ∀j (hj:j<g.2.length),j<i->g.2[j].1<e.1) (h2: ∀(hj:i<g.2.length),e.1<g.2[i].1):Ng (g.1,g.2.take i++([e] ++g.2.drop i)):=by
 have hp:=ZE G.1
 have hmem: ∀u∈g.2.take i++([e] ++g.2.drop i),u=e\/u∈g.2:=fun u hu=>by
  rcases aF hu with hu | hu
  ·exact .inr (List.mem_of_mem_take hu)
  ·rcases aF hu with hu | hu
   ·exact .inl (aq hu)
   ·exact .inr (List.mem_of_mem_drop hu)
 have ht: ∀u∈g.2.take i,u.1<e.1:=fun u hu=>by
  obtain ⟨j,hj,rfl⟩:=List.getElem_of_mem hu
  rw[aA] at hj
  rw[List.getElem_take]
  exact h1 j (by omega) (by omega)
 have hd: ∀u∈g.2.drop i,e.1<u.1:=fun u hu=>by
  obtain ⟨j,hj,rfl⟩:=List.getElem_of_mem hu
  rw[aS] at hj
  rw[List.getElem_drop]
  rcases Nat.eq_zero_or_pos j with rfl | h0
  ·exact h2 (by omega)
  ·have a:=h2 (by omega)
   have b:=List.pairwise_iff_getElem.1 hp i (i+j) (by omega) (by omega) (by omega)
   omega
 have hp2:(g.2.take i++([e] ++g.2.drop i)).Pairwise (fun a b=>a.1<b.1):=by
  rw[List.pairwise_append]
  refine ⟨hp.sublist (List.take_sublist _ _),?_,fun a ha b hb=>?_⟩
  ·rw[List.singleton_append,List.pairwise_cons]
   exact ⟨hd,hp.sublist (List.drop_sublist _ _)⟩
  ·have:=ht a ha
   rcases aF hb with hb | hb
   ·rw[aq hb];exact this
   ·have:=hd b hb;omega
 refine ⟨⟨G.1.n1,G.1.n5,?_,G.1.val,fun u hu=>?_,fun j hj=>?_⟩,fun u hu=>?_⟩
 ·show (g.2.take i++([e] ++g.2.drop i)).length<=12
  simp only[aw,aA,al,aE,aS];omega
 ·rcases hmem u hu with rfl | hu
  ·unfold edgeP at he
   show (0<=u.2.1/\u.2.1<(g.1.length:Int))/\(0<=u.2.2.1/\u.2.2.1<(g.1.length:Int))/\0<=u.2.2.2/\u.2.2.2<=2
   omega
  ·exact G.1.edge u hu
 ·have hj:j+1<(g.2.take i++([e] ++g.2.drop i)).length:=hj
  have:=List.pairwise_iff_getElem.1 hp2 j (j+1) (by omega) hj (by omega)
  show (nth (g.2.take i++([e] ++g.2.drop i)) (j:Int)).1<(nth (g.2.take i++([e] ++g.2.drop i)) ((j+1:Nat):Int)).1
  rw[bJ (by omega),bJ hj];exact this
 ·rcases hmem u hu with rfl | hu
  ·exact he.1
  ·exact G.2 u hu
theorem Un (x:GrT) (hx:Data.sm x) (e:XZ): ∃r:GrT×Bool,mA x e=some r/\mo x e=some r/\Data.sm r.1/\(r.2=true->(Ng r.1/\r.1.1=x.1)/\edgeP e 5):=by
 obtain ⟨h1,h1'⟩:=aH hx.1
 obtain ⟨h2,h2'⟩:=aH hx.2
 obtain ⟨b,ev,kv⟩:=AG x h1 h2
 obtain ⟨k,k1,k2,hk⟩:=aaZ x e.1 h2
 have eo:=Vl e (n:=x.1.length) h1
 unfold mA mo
 simp only[dM,xE,ev,CJ x hx,CK x hx,ab2,eo,k1,k2,aa]
 cases b with
 | false=>exact ⟨(x,false),rfl,rfl,hx,fun h=>by cases h⟩
 | true =>
  have G:=kv.1 rfl
  have g12:=G.1.m
  simp only[if_true]
  by_cases c1:decide (edgeP e (x.1.length:Int))=true
  ·by_cases c2:decide (k≥0)=true
   ·simp only[if_pos c1,if_pos c2];exact ⟨(x,false),rfl,rfl,hx,fun h=>by cases h⟩
   ·by_cases c3:((x.2.length:Int)==12)=true
    ·simp only[if_pos c1,if_neg c2,if_pos c3];exact ⟨(x,false),rfl,rfl,hx,fun h=>by cases h⟩
    ·simp only[if_pos c1,if_neg c2,if_neg c3]
     have hne: ∀u∈x.2,u.1≠e.1:=by
      rcases hk with ⟨-,h⟩ | ⟨i,hi,rfl,-⟩
      ·exact h
      ·exact absurd (decide_eq_true (by omega)) c2
     have lp: ∃i:Nat,i<=x.2.length/\(∀j (hj:j<x.2.length),j<i->x.2[j].1<e.1)/\(∀hj:i<x.2.length,¬x.2[i].1<e.1)/\ax (jj x e) aT 0=some (.brk (i:Int)):=by
      obtain ⟨o,eo,i,hi,hlt,hge,rfl⟩:=cR (f:=jj x e) (fun i s=>s=(i:Int)/\ ∀j (hj:j<x.2.length),j<i->x.2[j].1<e.1) (fun o=> ∃i:Nat,i<=x.2.length/\(∀j (hj:j<x.2.length),j<i->x.2[j].1<e.1)/\(∀hj:i<x.2.length,¬x.2[i].1<e.1)/\o= .brk (i:Int)) x.2.length (fun i s hi hI=>by
       obtain ⟨rfl,hI⟩:=hI
       unfold jj
       by_cases h1:i<x.2.length
       ·simp only[bI h1,if_true,aC h1,aa,af (show i<9223372036854775807 by omega)]
        by_cases h2:x.2[i].1<e.1
        ·refine .inl ⟨h1,_,by simp[h2],rfl,fun j hj hji=>?_⟩
         by_cases hji':j=i
         ·subst hji';exact h2
         ·exact hI j hj (by omega)
        ·exact .inr ⟨.brk (i:Int),by simp[h2],(fun s' e=>by cases e),i,hi,hI,fun _=>h2,rfl⟩
       ·obtain rfl:i=x.2.length:=by omega
        exact .inr ⟨.brk (x.2.length:Int),by simp only[bg,Bool.false_eq_true,if_false],(fun s' e=>by cases e),_,hi,hI,fun h=>absurd h h1,rfl⟩) (s:=0) ⟨rfl,fun j hj h=>absurd h (Nat.not_lt_zero _)⟩ (dH _ (by omega))
      exact ⟨i,hi,hlt,hge,eo⟩
     obtain ⟨i,hi,hlt,hge,l1⟩:=lp
     have l2:ax (qj e x) aT 0=some (.brk (i:Int)):=by
      rw[<-l1];congr 1
     simp only[l1,l2,aO]
     have hs:=ZD (y:=e) hx.2 ⟨trivial,trivial,trivial,trivial⟩ i (by omega)
     have q1:(chk (0<=(i:Int)/\(i:Int)<=(x.2.length:Int)))=some ():=if_pos (by omega)
     have a0:cn 8 ([] :List Int) x.1=some x.1:=by rw[aK (by simp only[aE];omega)];rfl
     have a1:cn 32 ([] :List Yq1) (x.2.take i)=some (x.2.take i):=by rw[aK (by simp only[aE,aA];omega)];rfl
     have a2:cn 32 (x.2.take i) [e] =some (x.2.take i++ [e]):=aK (by simp only[aA,al,aE];omega)
     have a3:cn 32 (x.2.take i++ [e]) (x.2.drop i)=some (x.2.take i++([e] ++x.2.drop i)):=by
      rw[aK (by simp only[aw,aA,aS,al,aE];omega),ai]
     have a5:cH x.2 (i:Int) [e] =some (x.2.take i++([e] ++x.2.drop i),[e]):=by
      unfold cH R.Xp
      have:(chk (0<=(i:Int)/\(i:Int)<=(x.2.length:Int)/\ [e].length=1/\1<=32/\(x.2.length+1)*32<=140737488355328))=some ():=if_pos ⟨by omega,by omega,rfl,by omega,by omega⟩
      rw[this];rfl
     simp only[q1,aa,Int.toNat_natCast,a0,a1,a2,a3,a5]
     refine ⟨_,rfl,rfl,⟨hx.1,hs⟩,fun _=>⟨⟨ZF G (of_decide_eq_true c1) ?_ hi hlt fun hj=>?_,rfl⟩,?_⟩⟩
     ·have: ¬(x.2.length:Int)=12:=by simpa using c3
      omega
     ·have:=hne _ (List.getElem_mem hj)
      have:=hge hj
      omega
     ·have hp:edgeP e (x.1.length:Int):=of_decide_eq_true c1
      have h5:=G.1.n5
      unfold edgeP at hp⊢
      omega
  ·simp only[if_neg c1];exact ⟨(x,false),rfl,rfl,hx,fun h=>by cases h⟩
theorem ZG (g:GrT) (hg:Data.sm g) (b:List abI) (hb:b.length<=6) {i:Nat} (hi:i<b.length) (x:GrT) (hx:Data.sm x) (G:Ng x) (hn:x.1=g.1):fw g b ((i:Int),x)=bZ g b ((i:Int),x)/\(bZ g b ((i:Int),x)=some (.ret (g,false))\/ ∃y:GrT,Data.sm y/\((Ng y/\y.1=g.1)/\edgeP b[i].2 5)/\bZ g b ((i:Int),x)=some (.nxt (((i+1:Nat):Int),y))):=by
 have h2:=(aH hx.2).1
 obtain ⟨r,r1,r2,r3,r4⟩:=Un x hx b[i].2
 obtain ⟨d,d1,d2,d3,d4⟩:=Um x hx b[i].2.1
 obtain ⟨k,k1,k2,hk⟩:=aaZ x b[i].2.1 h2
 have hc:=aa0 x.2 b[i].2 h2
 have hw:i64.wrap ((i:Int)+1)=((i+1:Nat):Int):=af (by omega)
 unfold fw bZ
 simp only[dM,bI hi,if_true,aC hi,aa,if_pos (decide_eq_true (show (i:Int)<=6 by omega)),r1,r2,k1,d1,d2,hc,CJ g hg,CK g hg,hw]
 generalize b[i] =ch at *
 by_cases c:ch.1=true
 ·simp only[if_pos c]
  by_cases c2:r.2=true
  ·simp only[if_pos c2,aa,nj]
   exact ⟨trivial,.inr ⟨_,r3,⟨⟨(r4 c2).1.1,(r4 c2).1.2.trans hn⟩,(r4 c2).2⟩,rfl⟩⟩
  ·simp only[if_neg c2,aa,nj]
   exact ⟨trivial,.inl trivial⟩
 ·simp only[if_neg c]
  rcases hk with ⟨rfl,hn'⟩ | ⟨j,hj,rfl,hid⟩
  ·have hnot: ¬ch.2∈x.2:=fun h=>hn' _ h rfl
   rw[if_pos (by decide),if_neg (by simpa using hnot)]
   simp only[aa,nj]
   exact ⟨rfl,.inl rfl⟩
  ·rw[if_neg (by simp),aC hj]
   simp only[aa]
   have eb:((x.2[j].1==ch.2.1)&&((x.2[j].2.1==ch.2.2.1)&&((x.2[j].2.2.1==ch.2.2.2.1)&&((x.2[j].2.2.2==ch.2.2.2.2)&&true))))=decide (x.2[j] =ch.2):=by
    generalize x.2[j] =u
    obtain ⟨a,b,c,d⟩:=u
    obtain ⟨t,a',b',c',d'⟩:=ch
    rw[Bool.eq_iff_iff];simp
   rw[eb]
   by_cases ce:x.2[j] =ch.2
   ·have hin:ch.2∈x.2:=ce ▸ List.getElem_mem hj
    rw[if_pos (decide_eq_true ce),if_pos (decide_eq_true hin)]
    by_cases c2:d.2=true
    ·simp only[if_pos c2,aa,nj]
     refine ⟨trivial,.inr ⟨_,d3,⟨⟨(d4 c2).1,(d4 c2).2.1.trans hn⟩,?_⟩,rfl⟩⟩
     have h5:=G.1.n5
     have h6:=G.1.edge _ hin
     have h7:=G.2 _ hin
     unfold edgeP
     omega
    ·simp only[if_neg c2,aa,nj]
     exact ⟨trivial,.inl trivial⟩
   ·rw[if_neg (by simpa using ce)]
    have hin: ¬ch.2∈x.2:=fun hin=>by
     obtain ⟨m,hm,em⟩:=List.getElem_of_mem hin
     have e1:nth x.2 (m:Int)=x.2[m]:=bJ hm
     have e2:nth x.2 (j:Int)=x.2[j]:=bJ hj
     rcases Nat.lt_trichotomy m j with q | q | q
     ·have:=G.1.lt q hj
      rw[e1,e2,em,hid] at this;omega
     ·subst q;exact ce em
     ·have:=G.1.lt q hm
      rw[e1,e2,em,hid] at this;omega
    rw[if_neg (by simpa using hin)]
    simp only[aa,nj]
    exact ⟨rfl,.inl rfl⟩
theorem ZH (g:GrT) (hg:Data.sm g) (b:List abI): ∃r:GrT×Bool,jO g b=some r/\jE g b=some r/\Data.sm r.1/\(r.2=true->(Ng r.1/\r.1.1=g.1)/\b.length<=6/\ ∀c∈b,edgeP c.2 5):=by
 obtain ⟨h1,h1'⟩:=aH hg.1
 obtain ⟨v,ev,kv⟩:=AG g h1 (aH hg.2).1
 unfold jO jE vM
 simp only[dM,xE,ev,CJ g hg,CK g hg,aa]
 cases v with
 | false=>exact ⟨(g,false),rfl,rfl,hg,fun h=>by cases h⟩
 | true =>
  have G0:=kv.1 rfl
  simp only[if_true]
  by_cases c:decide ((b.length:Int)>6)=true
  ·simp only[if_pos c];exact ⟨(g,false),rfl,rfl,hg,fun h=>by cases h⟩
  ·simp only[if_neg c]
   have hb:b.length<=6:=by
    rw[decide_eq_true_eq] at c;omega
   have hend: ∀x:GrT,bZ g b ((b.length:Int),x)=some (.brk ((b.length:Int),x)):=fun x=>by
    unfold bZ
    simp only[]
    rw[bg];rfl
   have hend2: ∀x:GrT,fw g b ((b.length:Int),x)=some (.brk ((b.length:Int),x)):=fun x=>by
    unfold fw
    simp only[]
    rw[bg];rfl
   have same:ax (fw g b) aT (0,g)=ax (bZ g b) aT (0,g):=by
    refine qU (f:=bZ g b) (g:=fw g b) (fun i s=> ∃x:GrT,s=((i:Int),x)/\Data.sm x/\(Ng x/\x.1=g.1)/\i<=b.length) (fun i s hI=>?_) aT 0 (0,g) ⟨g,rfl,hg,⟨G0,rfl⟩,Nat.zero_le _⟩
    obtain ⟨x,rfl,hx,⟨Gx,hn⟩,hi⟩:=hI
    by_cases h:i<b.length
    ·obtain ⟨a1,a2⟩:=ZG g hg b hb h x hx Gx hn
     refine ⟨a1,fun s' hs'=>?_⟩
     rcases a2 with a2 | ⟨y,hy,hGy,a2⟩
     ·rw[a2] at hs';simp at hs'
     ·rw[a2] at hs'
      obtain rfl:=ae hs' |> Out.nxt.inj
      exact ⟨y,rfl,hy,hGy.1,h⟩
    ·obtain rfl:i=b.length:=by omega
     exact ⟨by rw[hend,hend2],fun s' hs'=>by rw[hend] at hs';simp at hs'⟩
   obtain ⟨o,e,hQ⟩:=cR (f:=bZ g b) (fun i s=> ∃x:GrT,s=((i:Int),x)/\Data.sm x/\(Ng x/\x.1=g.1)/\ ∀j (hj:j<b.length),j<i->edgeP b[j].2 5) (fun o=>o= .ret (g,false)\/ ∃(n:Int) (x:GrT),o= .brk (n,x)/\Data.sm x/\(Ng x/\x.1=g.1)/\ ∀c∈b,edgeP c.2 5) b.length (fun i s hi hI=>by
    obtain ⟨x,rfl,hx,⟨Gx,hn⟩,hE⟩:=hI
    by_cases h:i<b.length
    ·obtain ⟨-,a2⟩:=ZG g hg b hb h x hx Gx hn
     rcases a2 with a2 | ⟨y,hy,hGy,a2⟩
     ·exact .inr ⟨_,a2,fun s' h=>(by simp at h),.inl rfl⟩
     ·refine .inl ⟨h,_,a2,y,rfl,hy,hGy.1,fun j hj hji=>?_⟩
      by_cases c:j=i
      ·subst c;exact hGy.2
      ·exact hE j hj (by omega)
    ·obtain rfl:i=b.length:=by omega
     exact .inr ⟨_,hend x,fun s' h=>(by simp at h),.inr ⟨_,x,rfl,hx,⟨Gx,hn⟩,fun c hc=>by
      obtain ⟨j,hj,rfl⟩:=List.getElem_of_mem hc
      exact hE j hj hj⟩⟩) (s:=(0,g)) ⟨g,rfl,hg,⟨G0,rfl⟩,fun j hj h=>absurd h (Nat.not_lt_zero _)⟩ (dH _ (by omega))
   rw[same,e]
   rcases hQ with rfl | ⟨n,x,rfl,hx,hG⟩
   ·exact ⟨_,rfl,rfl,hg,fun h=>by cases h⟩
   ·exact ⟨_,rfl,rfl,hx,fun _=>⟨hG.1,hb,hG.2⟩⟩
end D
set_option synthInstance.maxSize 20000
set_option synthInstance.maxHeartbeats 2000000
namespace D
open Go.RowKit
theorem Nu (g:GrT) (hg:Data.sm g) (b:List ChT): ∃r:GrT×Bool,jO g b=some r/\jE g b=some r/\Data.sm r.1:=by
 obtain ⟨r,r1,r2,r3,-⟩:=ZH g hg b
 exact ⟨r,r1,r2,r3⟩
theorem Kj (h:NC) (hh:Data.sm h) (b:List ChT): ∃r:NC×Bool,iU h b=some r/\iL h b=some r/\Data.sm r.1/\(r.2=false->r.1=h):=by
 obtain ⟨v,es,ei,k⟩:=CL h hh
 cases v with
 | false =>
  unfold iU iL bS
  simp only[dM,Kh h hh,Ki h hh,es,ei,aa]
  exact ⟨(h,false),rfl,rfl,hh,fun _=>rfl⟩
 | true =>
  have kk:=k rfl
  obtain ⟨l1,l2⟩:=CM es ei kk
  have hlat: ¬(latV h==0)=true:=by
   rw[beq_iff_eq];unfold latV;omega
  unfold iU iL
  simp only[dM,Kh h hh,Ki h hh,es,l1,l2,aa,if_true,if_neg hlat]
  by_cases c:(latV h==999)=true
  ·simp only[if_pos c];exact ⟨(h,false),rfl,rfl,hh,fun _=>rfl⟩
  ·simp only[if_neg c]
   have hm:=(aH hh.2).2 _ (b9 (xs:=h.2) (i:=(h.2.length:Int) - 1) (by omega) (by omega))
   obtain ⟨r,r1,r2,r3⟩:=Nu _ hm b
   rw[pb (by omega),aI (xs:=h.2) (by omega) (by omega)]
   simp only[aa,dM,r1,r2]
   by_cases c2:r.2=true
   ·simp only[if_pos c2]
    rw[aK (by simp only[al,aE];omega)]
    simp only[aa]
    have sa:Data.sm (h.2++ [r.1]):=⟨by rw[aw];simp only[al,aE];omega,fun x hx=>by
     rcases aF hx with q | q
     ·exact (aH hh.2).2 x q
     ·obtain rfl:=aq q;exact r3⟩
    by_cases c3:decide (((h.2++ [r.1]).length:Int)>8)=true
    ·have q1:(chk ((0:Int)<=1/\1<=((h.2++ [r.1]).length:Int)))=some ():=if_pos ⟨by omega,by rw[decide_eq_true_eq] at c3;omega⟩
     simp only[if_pos c3,q1,aa]
     exact ⟨_,rfl,rfl,⟨trivial,XY sa 1⟩,fun h=>by cases h⟩
    ·simp only[if_neg c3,aa]
     exact ⟨_,rfl,rfl,⟨trivial,sa⟩,fun h=>by cases h⟩
   ·simp only[if_neg c2];exact ⟨(h,false),rfl,rfl,hh,fun _=>rfl⟩
theorem LS (h:NC) (hh:Data.sm h): ∃v:Int,bf h=some v/\bS h=some v:=by
 obtain ⟨v,es,ei,k⟩:=CL h hh
 cases v with
 | false =>
  unfold bf bS
  simp only[dM,es,ei,aa]
  exact ⟨0,rfl,rfl⟩
 | true=>exact ⟨_,CM es ei (k rfl)⟩
theorem Kk (e:EngT) (he:Data.sm e) (b:List ChT): ∃y:EngT×Bool,iV e b=some y/\iM e b=some y/\Data.sm y.1/\(y.2=false->y.1=e):=by
 obtain ⟨v,es,ei,kb⟩:=LR e he
 obtain ⟨r,r1,r2,r3,-⟩:=Kj e.1 he.1 b
 obtain ⟨w,w1,w2⟩:=LS r.1 r3
 obtain ⟨t1,t2,t3⟩:=Vk w b
 obtain ⟨l,hl⟩:=QF e.2.2.2
 have hz:e.2.2.2.size=l.length:=by rw[hl];exact bF l
 unfold iV iM
 simp only[dM,Rh e he,Ri e he,es,ei,r1,r2,aa]
 cases v with
 | false=>exact ⟨(e,false),rfl,rfl,he,fun _=>rfl⟩
 | true =>
  have h4:e.2.2.2.size<=4000:=(kb rfl).log
  simp only[if_true]
  by_cases c:r.2=true
  ·simp only[if_pos c,w1,w2,t1,t2,aa,hl,bF]
   rw[El _ _ (by omega),fy (n:=(l.length:Int)+((recT w b).length:Int)) (by omega) (by omega)]
   simp only[aa,bF,aw]
   by_cases c2:l.length+(recT w b).length>4000
   ·rw[if_pos (decide_eq_true (by omega)),if_pos (decide_eq_true (by omega))]
    exact ⟨(e,false),rfl,rfl,he,fun _=>rfl⟩
   ·rw[if_neg (by rw[decide_eq_true_eq];omega),if_neg (by rw[decide_eq_true_eq];omega)]
    refine ⟨_,rfl,rfl,⟨r3,he.2.1,he.2.2.1,?_⟩,fun h=>by cases h⟩
    show (mkB (l++recT w b)).size<=1048576
    rw[bF,aw];omega
  ·simp only[if_neg c];exact ⟨(e,false),rfl,rfl,he,fun _=>rfl⟩
end D
set_option synthInstance.maxSize 20000
set_option synthInstance.maxHeartbeats 2000000
namespace D
open Go.RowKit
theorem Gy {r:List Int×List (List ChT)×Int} (hq:r.2.1.length=r.1.length) (hl:r.1.length<=4000): ∀(d k f:Nat) (n:Int) (e:EngT),r.1.length=k+d->d<f->Data.sm e->
  ∃(n':Int) (e':EngT),Data.sm e'/\aO (ax (a8 r) f (n,(k:Int),r.2.1,e.1.1,e.1.2,e.2.1.1,e.2.1.2,e.2.2.1,e.2.2.2)) (fun x=>some x) (fun s=>some (((s.2.2.2.1,s.2.2.2.2.1),(s.2.2.2.2.2.1,s.2.2.2.2.2.2.1),s.2.2.2.2.2.2.2.1,s.2.2.2.2.2.2.2.2),s.1))=some (e',n')/\aO (ax (cj r) f (n,(k:Int),r.2.1,e.1.1,e.1.2,e.2.1.1,e.2.1.2,e.2.2.1,e.2.2.2)) (fun x=>some x) (fun s=>some (s.1,((s.2.2.2.1,s.2.2.2.2.1),(s.2.2.2.2.2.1,s.2.2.2.2.2.2.1),s.2.2.2.2.2.2.2.1,s.2.2.2.2.2.2.2.2)))=some (n',e')
 | d,k,f+1,n,e,hd,hf,he=>by
  obtain ⟨L,l1,l2⟩:=LS e.1 he.1
  have l1:bf (e.1.1,e.1.2)=_:=l1
  have l2:bS (e.1.1,e.1.2)=_:=l2
  have e1:eH ((e.1.1,e.1.2),(e.2.1.1,e.2.1.2),e.2.2.1,e.2.2.2)=some (L,e):=by
   unfold eH
   simp only
   rw[l2];rfl
  match d,hd with
  | 0,hd =>
   refine ⟨n,e,he,?_,?_⟩
   ·have:a8 r (n,(k:Int),r.2.1,e.1.1,e.1.2,e.2.1.1,e.2.1.2,e.2.2.1,e.2.2.2)=some (.brk (n,(k:Int),r.2.1,e.1.1,e.1.2,e.2.1.1,e.2.1.2,e.2.2.1,e.2.2.2)):=by
     unfold a8
     simp only
     rw[if_neg (by simp;omega)]
    rw[ax,this];rfl
   ·have:cj r (n,(k:Int),r.2.1,e.1.1,e.1.2,e.2.1.1,e.2.1.2,e.2.2.1,e.2.2.2)=some (.brk (n,(k:Int),r.2.1,e.1.1,e.1.2,e.2.1.1,e.2.1.2,e.2.2.1,e.2.2.2)):=by
     unfold cj
     simp only
     rw[if_neg (by simp;omega)]
    rw[ax,this];rfl
  | d+1,hd =>
   have hw:i64.wrap ((k:Int)+1)=((k+1:Nat):Int):=af (by omega)
   have c0:decide ((k:Int)<(r.1.length:Int))=true:=decide_eq_true (by omega)
   have g1:aQ r.1 (k:Int)=some (nth r.1 (k:Int)):=aI (by omega) (by omega)
   have g2:aQ r.2.1 (k:Int)=some (nth r.2.1 (k:Int)):=aI (by omega) (by omega)
   generalize nth r.1 (k:Int)=v at g1
   generalize nth r.2.1 (k:Int)=b at g2
   obtain ⟨x,a1,a2,sx,hx⟩:=Kk e he b
   have a1:iV ((e.1.1,e.1.2),(e.2.1.1,e.2.1.2),e.2.2.1,e.2.2.2) b=_:=a1
   have a2:iM ((e.1.1,e.1.2),(e.2.1.1,e.2.1.2),e.2.2.1,e.2.2.2) b=_:=a2
   have e2:gE b ((e.1.1,e.1.2),(e.2.1.1,e.2.1.2),e.2.2.1,e.2.2.2)=some (x.2,x.1):=by
    unfold gE
    simp only
    rw[a2];rfl
   by_cases c1:v<=L
   ·obtain ⟨n',e',s',i1,i2⟩:=Gy hq hl d (k+1) f n e (by omega) (by omega) he
    refine ⟨n',e',s',?_,?_⟩
    ·have:a8 r (n,(k:Int),r.2.1,e.1.1,e.1.2,e.2.1.1,e.2.1.2,e.2.2.1,e.2.2.2)=some (.nxt (n,((k+1:Nat):Int),r.2.1,e.1.1,e.1.2,e.2.1.1,e.2.1.2,e.2.2.1,e.2.2.2)):=by
      unfold a8
      simp only[c0,if_true,g1,l1,aa,decide_eq_true c1,nj,hw]
     rw[ax,this];exact i1
    ·have:cj r (n,(k:Int),r.2.1,e.1.1,e.1.2,e.2.1.1,e.2.1.2,e.2.2.1,e.2.2.2)=some (.nxt (n,((k+1:Nat):Int),r.2.1,e.1.1,e.1.2,e.2.1.1,e.2.1.2,e.2.2.1,e.2.2.2)):=by
      unfold cj
      simp only[c0,if_true,g1,e1,aa,decide_eq_true c1,nj,hw]
     rw[ax,this];exact i2
   ·have c1': ¬decide (v<=L)=true:=by simpa using c1
    by_cases c2:(v !=i64.wrap (L+1))=true
    ·refine ⟨n,e,he,?_,?_⟩
     ·have:a8 r (n,(k:Int),r.2.1,e.1.1,e.1.2,e.2.1.1,e.2.1.2,e.2.2.1,e.2.2.2)=some (.ret (e,n)):=by
       unfold a8
       by_cases c3:x.2=true
       ·simp only[c0,if_true,g1,l1,aa,if_neg c1',g2,a1,if_pos c3,if_pos c2,nj]
       ·simp only[c0,if_true,g1,l1,aa,if_neg c1',g2,a1,if_neg c3,nj]
      rw[ax,this];rfl
     ·have:cj r (n,(k:Int),r.2.1,e.1.1,e.1.2,e.2.1.1,e.2.1.2,e.2.2.1,e.2.2.2)=some (.brk (n,(k:Int),r.2.1,e.1.1,e.1.2,e.2.1.1,e.2.1.2,e.2.2.1,e.2.2.2)):=by
       unfold cj
       simp only[c0,if_true,g1,e1,aa,if_neg c1',if_pos c2,nj]
      rw[ax,this];rfl
    ·by_cases c3:x.2=true
     ·obtain ⟨n',e',s',i1,i2⟩:=Gy hq hl d (k+1) f (i64.wrap (n+1)) x.1 (by omega) (by omega) sx
      refine ⟨n',e',s',?_,?_⟩
      ·have:a8 r (n,(k:Int),r.2.1,e.1.1,e.1.2,e.2.1.1,e.2.1.2,e.2.2.1,e.2.2.2)=some (.nxt (i64.wrap (n+1),((k+1:Nat):Int),r.2.1,x.1.1.1,x.1.1.2,x.1.2.1.1,x.1.2.1.2,x.1.2.2.1,x.1.2.2.2)):=by
        unfold a8
        simp only[c0,if_true,g1,l1,aa,if_neg c1',g2,a1,if_neg c2,if_pos c3,nj,hw]
       rw[ax,this];exact i1
      ·have:cj r (n,(k:Int),r.2.1,e.1.1,e.1.2,e.2.1.1,e.2.1.2,e.2.2.1,e.2.2.2)=some (.nxt (i64.wrap (n+1),((k+1:Nat):Int),r.2.1,x.1.1.1,x.1.1.2,x.1.2.1.1,x.1.2.1.2,x.1.2.2.1,x.1.2.2.2)):=by
        unfold cj
        simp only[c0,if_true,g1,e1,aa,if_neg c1',g2,e2,if_neg c2,if_pos c3,nj,hw]
       rw[ax,this];exact i2
     ·have hxe:=hx (by simpa using c3)
      refine ⟨n,e,he,?_,?_⟩
      ·have:a8 r (n,(k:Int),r.2.1,e.1.1,e.1.2,e.2.1.1,e.2.1.2,e.2.2.1,e.2.2.2)=some (.ret (e,n)):=by
        unfold a8
        simp only[c0,if_true,g1,l1,aa,if_neg c1',g2,a1,if_neg c3,nj]
       rw[ax,this];rfl
      ·have:cj r (n,(k:Int),r.2.1,e.1.1,e.1.2,e.2.1.1,e.2.1.2,e.2.2.1,e.2.2.2)=some (.brk (n,(k:Int),r.2.1,x.1.1.1,x.1.1.2,x.1.2.1.1,x.1.2.1.2,x.1.2.2.1,x.1.2.2.2)):=by
        unfold cj
        simp only[c0,if_true,g1,e1,aa,if_neg c1',g2,e2,if_neg c2,if_neg c3,nj]
       rw[ax,this,hxe];rfl
theorem Nv (e:EngT) (he:Data.sm e) (y:ByteArray) (hy:y.size<=1048576): ∃x:EngT×Int,jk e y=some x/\fS e y=some x/\Data.sm x.1:=by
 obtain ⟨v,es,ei,-⟩:=LR e he
 obtain ⟨l,rfl⟩:=QF y
 rw[bF] at hy
 obtain ⟨r,q,n,s1,s2,-,hr,hok,-⟩:=zM l (by omega)
 obtain ⟨n',e',se',i1,i2⟩:=Gy (r:=(r,q,(n:Int))) hok.1 hr r.length 0 aT 0 e (by show r.length=0+r.length;omega) (by unfold aT;omega) he
 have i1:aO (ax (a8 (r,q,(n:Int))) aT (0,0,q,e.1.1,e.1.2,e.2.1.1,e.2.1.2,e.2.2.1,e.2.2.2)) _ _=_:=i1
 have i2:aO (ax (cj (r,q,(n:Int))) aT (0,0,q,e.1.1,e.1.2,e.2.1.1,e.2.1.2,e.2.2.1,e.2.2.2)) _ _=_:=i2
 unfold jk fS yk
 simp only[dM]
 rw[Rh e he,Ri e he,es,ei,s1,s2];simp only[aa]
 cases v with
 | false=>exact ⟨(e,0),rfl,rfl,he⟩
 | true =>
  refine ⟨(e',n'),?_,?_,se'⟩
  ·rw[if_pos rfl];exact i1
  ·rw[if_pos rfl,i2];rfl
end D
set_option synthInstance.maxSize 20000
set_option synthInstance.maxHeartbeats 2000000
namespace D
open Go.RowKit
theorem Al (x:EngT) (y:ByteArray) (hx:Data.lim x) (hy:Data.lim y):dG x y=some true:=by
 unfold dG
 simp only[dM]
 by_cases cy:(y.size:Int)>1048576
 ·rw[if_pos (decide_eq_true cy)]
 rw[if_neg (by simpa using cy)]
 obtain ⟨r1,e1,k1⟩:=M3 x 1048576 hx (by decide) (by decide)
 rw[e1];simp only[aa]
 rcases k1 with k1 | ⟨k1,j1,s1⟩
 ·rw[if_pos (decide_eq_true k1)]
 rw[if_neg (by simpa using k1)]
 obtain ⟨r,es,ei,sr⟩:=Nv x s1 y (by omega)
 have b1:=Ij x s1
 have b2:=Ij r.1 sr
 have em1:fx x 1=_:=Ik x s1 (k:=1) (by omega)
 have em2:fx r.1 1=_:=Ik r.1 sr (k:=1) (by omega)
 have eh2:hZ ((r.1.1.1,(uH r.1 1).1.2),(uH r.1 1).2.1,(uH r.1 1).2.2.1,r.1.2.2.2) 1=_:=Qr r.1 sr (k:=1) (by omega)
 simp only[M6 x s1,es,ei,Ek r.1 r.1 sr sr,Ek x x s1 s1,aa,dM,em1,em2,eh2,decide_true,if_true,Na,bne_self_eq_false,Bool.false_eq_true,if_false]
end D
namespace R
open Go.Shelf
def Kl:Go.Shelf.Ren:=⟨fun | 146=>191 | 221=>245 | 268=>299 | 138=>300 | 143=>301 | 195=>344 | 197=>345 | 218=>346 | 219=>347 | 260=>375 | 217=>190 | 225=>376 | 224=>377 | 267=>378 | 266=>244 | 314=>397 | n=>n,fun | 9=>9 | 31=>199 | 3=>3 | 4=>4 | 0=>0 | 105=>344 | 21=>21 | 5=>5 | 46=>232 | 119=>399 | 139=>402 | 138=>401 | 146=>403 | 51=>391 | n=>n,fun | 1=>0 | 3=>4 | 4=>5 | n=>n⟩
theorem X0:Go.Proofs.LaysM.n146 Tryz.prog Kl:= {
 mixed:=by kernel_rfl
 f138:=Tryz.func300.trans (congrArg some (by kernel_rfl))
 f143:=Tryz.func301.trans (congrArg some (by kernel_rfl))
 f146:=Tryz.func191.trans (congrArg some (by kernel_rfl))
 f195:=Tryz.func344.trans (congrArg some (by kernel_rfl))
 f197:=Tryz.func345.trans (congrArg some (by kernel_rfl))
 f217:=Tryz.func190.trans (congrArg some (by kernel_rfl))
 f218:=Tryz.func346.trans (congrArg some (by kernel_rfl))
 f219:=Tryz.func347.trans (congrArg some (by kernel_rfl))
 f221:=Tryz.func245.trans (congrArg some (by kernel_rfl))
 f224:=Tryz.func377.trans (congrArg some (by kernel_rfl))
 f225:=Tryz.func376.trans (congrArg some (by kernel_rfl))
 f260:=Tryz.func375.trans (congrArg some (by kernel_rfl))
 f266:=Tryz.func244.trans (congrArg some (by kernel_rfl))
 f267:=Tryz.func378.trans (congrArg some (by kernel_rfl))
 f268:=Tryz.func299.trans (congrArg some (by kernel_rfl))
 f314:=Tryz.func397.trans (congrArg some (by kernel_rfl))
 t0:=Tryz.underlying0
 a0:=Tryz.isAgg0
 z0:=Tryz.sizeOf0
 v0:=Tryz.zeroValue0
 t3:=Tryz.underlying3
 a3:=Tryz.isAgg3
 z3:=Tryz.sizeOf3
 v3:=Tryz.zeroValue3
 t4:=Tryz.underlying4
 a4:=Tryz.isAgg4
 z4:=Tryz.sizeOf4
 v4:=Tryz.zeroValue4
 t5:=Tryz.underlying5
 a5:=Tryz.isAgg5
 z5:=Tryz.sizeOf5
 v5:=Tryz.zeroValue5
 t9:=Tryz.underlying9
 a9:=Tryz.isAgg9
 z9:=Tryz.sizeOf9
 v9:=Tryz.zeroValue9
 t21:=Tryz.underlying21
 a21:=Tryz.isAgg21
 z21:=Tryz.sizeOf21
 v21:=Tryz.zeroValue21
 t31:=Tryz.underlying199
 a31:=Tryz.isAgg199
 z31:=Tryz.sizeOf199
 v31:=Tryz.zeroValue199
 t46:=Tryz.underlying232
 a46:=Tryz.isAgg232
 z46:=Tryz.sizeOf232
 v46:=Tryz.zeroValue232
 t51:=Tryz.underlying391
 a51:=Tryz.isAgg391
 z51:=Tryz.sizeOf391
 v51:=Tryz.zeroValue391
 t105:=Tryz.underlying344
 a105:=Tryz.isAgg344
 z105:=Tryz.sizeOf344
 v105:=Tryz.zeroValue344
 t119:=Tryz.underlying399
 a119:=Tryz.isAgg399
 z119:=Tryz.sizeOf399
 t138:=Tryz.underlying401
 a138:=Tryz.isAgg401
 z138:=Tryz.sizeOf401
 v138:=Tryz.zeroValue401
 t139:=Tryz.underlying402
 a139:=Tryz.isAgg402
 z139:=Tryz.sizeOf402
 v139:=Tryz.zeroValue402
 t146:=Tryz.underlying403
 a146:=Tryz.isAgg403
 z146:=Tryz.sizeOf403
 v146:=Tryz.zeroValue403
 g1:=by kernel_rfl
 g3:=by kernel_rfl
 g4:=by kernel_rfl
 i0:=by kernel_rfl
 i3:=by kernel_rfl
 i4:=by kernel_rfl
 i5:=by kernel_rfl
 i9:=by kernel_rfl
 i21:=by kernel_rfl
 i31:=by kernel_rfl
 i46:=by kernel_rfl
 i51:=by kernel_rfl
 i105:=by kernel_rfl
 i138:=by kernel_rfl
 i139:=by kernel_rfl
 i146:=by kernel_rfl
 m1:=by kernel_rfl
 s1_3:=fun w h=>Go.Proofs.cell_of_shapedOpen_int (zero:= #[.int .i64 0]) (t:=3) h (of_decide_eq_true (by kernel_rfl)) (by kernel_rfl) rfl (by kernel_rfl) (by kernel_rfl) Tryz.underlying3
 m3:=by kernel_rfl
 m4:=by kernel_rfl }
end R
open Go.ChangeShapes Go.WideShapes Go.ChangeAt Go.RowKit
namespace D
theorem op3:Opens Tryz.prog 3 bd:=P0 Tryz.underlying3
theorem abJ:Opens Tryz.prog 70 (ah 3 bd):=gQ Tryz.underlying70 (by kernel_rfl) (by decide) op3
theorem aa1:Opens Tryz.prog 316 (aJ bd (aJ bd (aJ bd bd))):=by
 refine ep Tryz.underlying316 (by kernel_rfl) ?_
 refine cC (R:=bd) (S:=aJ (bd) (aJ (bd) (bd))) rfl (by kernel_rfl) op3 ?_
 refine cC (R:=bd) (S:=aJ (bd) (bd)) rfl (by kernel_rfl) op3 ?_
 refine cC (R:=bd) (S:=bd) rfl (by kernel_rfl) op3 ?_
 exact ic rfl (by kernel_rfl) op3
theorem aa2:Opens Tryz.prog 217 (ah 316 (aJ bd (aJ bd (aJ bd bd)))):=gQ Tryz.underlying217 (by kernel_rfl) (by decide) aa1
theorem aa3:Opens Tryz.prog 219 (aJ (ah 3 bd) (ah 316 (aJ bd (aJ bd (aJ bd bd))))):=by
 refine ep Tryz.underlying219 (by kernel_rfl) ?_
 refine cC (R:=ah 3 bd) (S:=ah 316 (aJ bd (aJ bd (aJ bd bd)))) rfl (by kernel_rfl) abJ ?_
 exact ic rfl (by kernel_rfl) aa2
theorem ab3:Opens Tryz.prog 45 (ah 219 (aJ (ah 3 bd) (ah 316 (aJ bd (aJ bd (aJ bd bd)))))):=gQ Tryz.underlying45 (by kernel_rfl) (by decide) aa3
theorem ab4:Opens Tryz.prog 47 (aJ bd (ah 219 (aJ (ah 3 bd) (ah 316 (aJ bd (aJ bd (aJ bd bd))))))):=by
 refine ep Tryz.underlying47 (by kernel_rfl) ?_
 refine cC (R:=bd) (S:=ah 219 (aJ (ah 3 bd) (ah 316 (aJ bd (aJ bd (aJ bd bd)))))) rfl (by kernel_rfl) op3 ?_
 exact ic rfl (by kernel_rfl) ab3
theorem op4:Opens Tryz.prog 4 ph:=MZ Tryz.underlying4
theorem aa4:Opens Tryz.prog 138 (ah 4 ph):=gQ Tryz.underlying138 (by kernel_rfl) (by decide) op4
theorem aa5:Opens Tryz.prog 139 (ah 70 (ah 3 bd)):=gQ Tryz.underlying139 (by kernel_rfl) (by decide) abJ
theorem aa6:Opens Tryz.prog 221 (aJ bd (aJ (ah 4 ph) (ah 70 (ah 3 bd)))):=by
 refine ep Tryz.underlying221 (by kernel_rfl) ?_
 refine cC (R:=bd) (S:=aJ (ah 4 ph) (ah 70 (ah 3 bd))) rfl (by kernel_rfl) op3 ?_
 refine cC (R:=ah 4 ph) (S:=ah 70 (ah 3 bd)) rfl (by kernel_rfl) aa4 ?_
 exact ic rfl (by kernel_rfl) aa5
theorem ab5:Opens Tryz.prog 48 (ah 221 (aJ bd (aJ (ah 4 ph) (ah 70 (ah 3 bd))))):=gQ Tryz.underlying48 (by kernel_rfl) (by decide) aa6
theorem aa7:Opens Tryz.prog 353 (aJ bd (aJ bd (aJ bd bd))):=by
 refine ep Tryz.underlying353 (by kernel_rfl) ?_
 refine cC (R:=bd) (S:=aJ (bd) (aJ (bd) (bd))) rfl (by kernel_rfl) op3 ?_
 refine cC (R:=bd) (S:=aJ (bd) (bd)) rfl (by kernel_rfl) op3 ?_
 refine cC (R:=bd) (S:=bd) rfl (by kernel_rfl) op3 ?_
 exact ic rfl (by kernel_rfl) op3
theorem aa8:Opens Tryz.prog 223 (ah 353 (aJ bd (aJ bd (aJ bd bd)))):=gQ Tryz.underlying223 (by kernel_rfl) (by decide) aa7
theorem aa9:Opens Tryz.prog 225 (ah 353 (aJ bd (aJ bd (aJ bd bd)))):=by
 refine ep Tryz.underlying225 (by kernel_rfl) ?_
 exact ic rfl (by kernel_rfl) aa8
theorem aba:Opens Tryz.prog 227 (aJ bd (aJ (ah 353 (aJ bd (aJ bd (aJ bd bd)))) bd)):=by
 refine ep Tryz.underlying227 (by kernel_rfl) ?_
 refine cC (R:=bd) (S:=aJ (ah 353 (aJ bd (aJ bd (aJ bd bd)))) (bd)) rfl (by kernel_rfl) op3 ?_
 refine cC (R:=ah 353 (aJ bd (aJ bd (aJ bd bd)))) (S:=bd) rfl (by kernel_rfl) aa9 ?_
 exact ic rfl (by kernel_rfl) op3
theorem ab6:Opens Tryz.prog 49 (ah 227 (aJ bd (aJ (ah 353 (aJ bd (aJ bd (aJ bd bd)))) bd))):=gQ Tryz.underlying49 (by kernel_rfl) (by decide) aba
theorem ab7:Opens Tryz.prog 51 (aJ (ah 221 (aJ bd (aJ (ah 4 ph) (ah 70 (ah 3 bd))))) (ah 227 (aJ bd (aJ (ah 353 (aJ bd (aJ bd (aJ bd bd)))) bd)))):=by
 refine ep Tryz.underlying51 (by kernel_rfl) ?_
 refine cC (R:=ah 221 (aJ bd (aJ (ah 4 ph) (ah 70 (ah 3 bd))))) (S:=ah 227 (aJ bd (aJ (ah 353 (aJ bd (aJ bd (aJ bd bd)))) bd))) rfl (by kernel_rfl) ab5 ?_
 exact ic rfl (by kernel_rfl) ab6
theorem abb:Opens Tryz.prog 161 (aJ bd (aJ bd bd)):=by
 refine ep Tryz.underlying161 (by kernel_rfl) ?_
 refine cC (R:=bd) (S:=aJ (bd) (bd)) rfl (by kernel_rfl) op3 ?_
 refine cC (R:=bd) (S:=bd) rfl (by kernel_rfl) op3 ?_
 exact ic rfl (by kernel_rfl) op3
theorem ab8:Opens Tryz.prog 52 (ah 161 (aJ bd (aJ bd bd))):=gQ Tryz.underlying52 (by kernel_rfl) (by decide) abb
theorem op9:Opens Tryz.prog 9 Et:=Ia Tryz.underlying9
theorem ab9:Opens Tryz.prog 54 (aJ (aJ bd (ah 219 (aJ (ah 3 bd) (ah 316 (aJ bd (aJ bd (aJ bd bd))))))) (aJ (aJ (ah 221 (aJ bd (aJ (ah 4 ph) (ah 70 (ah 3 bd))))) (ah 227 (aJ bd (aJ (ah 353 (aJ bd (aJ bd (aJ bd bd)))) bd)))) (aJ (ah 161 (aJ bd (aJ bd bd))) Et))):=by
 refine ep Tryz.underlying54 (by kernel_rfl) ?_
 refine cC (R:=aJ bd (ah 219 (aJ (ah 3 bd) (ah 316 (aJ bd (aJ bd (aJ bd bd))))))) (S:=aJ (aJ (ah 221 (aJ bd (aJ (ah 4 ph) (ah 70 (ah 3 bd))))) (ah 227 (aJ bd (aJ (ah 353 (aJ bd (aJ bd (aJ bd bd)))) bd)))) (aJ (ah 161 (aJ bd (aJ bd bd))) (Et))) rfl (by kernel_rfl) ab4 ?_
 refine cC (R:=aJ (ah 221 (aJ bd (aJ (ah 4 ph) (ah 70 (ah 3 bd))))) (ah 227 (aJ bd (aJ (ah 353 (aJ bd (aJ bd (aJ bd bd)))) bd)))) (S:=aJ (ah 161 (aJ bd (aJ bd bd))) (Et)) rfl (by kernel_rfl) ab7 ?_
 refine cC (R:=ah 161 (aJ bd (aJ bd bd))) (S:=Et) rfl (by kernel_rfl) ab8 ?_
 exact ic rfl (by kernel_rfl) op9
theorem abc {W:World} {base:Nat} {z:Value} {H:Type} {enc:TypeId×Value->H} {d:DataW H} {p:List MemPlace} (hv:Value.okWide Tryz.prog W .any base 54 z) (h:DataW.Trod enc Tryz.prog W 0 (fun _=>true) true 54 z d p) :
  ∃(x:(Int×(List ((List Int)×(List (Int×Int×Int×Int)))))×((List (Int×(List Bool)×(List (List Int))))×(List (Int×((List (Int×Int×Int×Int)))×Int)))×(List (Int×Int×Int))×ByteArray) (v0:Value) (v1:Value) (v2:Value) (v3:Value),z= .agg #[.int .i64 x.1.1,v0,v1,v2,v3,.string x.2.2.2] /\Data.lim x/\(ah 219 (aJ (ah 3 bd) (ah 316 (aJ bd (aJ bd (aJ bd bd)))))).rd (hp W) [v0] x.1.2/\(ah 221 (aJ bd (aJ (ah 4 ph) (ah 70 (ah 3 bd))))).rd (hp W) [v1] x.2.1.1/\(ah 227 (aJ bd (aJ (ah 353 (aJ bd (aJ bd (aJ bd bd)))) bd))).rd (hp W) [v2] x.2.1.2/\(ah 161 (aJ bd (aJ bd bd))).rd (hp W) [v3] x.2.2.1:=by
 obtain ⟨fuel,hf⟩:=h
 obtain ⟨⟨cs⟩,rfl,-⟩:=okWide_struct Tryz.underlying54 hv
 obtain ⟨x,hx,hl⟩:=ab9.out enc W _ _ _ hf
 have hx:(aJ (aJ bd (ah 219 (aJ (ah 3 bd) (ah 316 (aJ bd (aJ bd (aJ bd bd))))))) (aJ (aJ (ah 221 (aJ bd (aJ (ah 4 ph) (ah 70 (ah 3 bd))))) (ah 227 (aJ bd (aJ (ah 353 (aJ bd (aJ bd (aJ bd bd)))) bd)))) (aJ (ah 161 (aJ bd (aJ bd bd))) Et))).rd (hp W) cs x:=hx
 obtain ⟨_,_,rfl,⟨_,_,rfl,rfl,r0⟩,⟨_,_,rfl,⟨_,_,rfl,r1,r2⟩,⟨_,_,rfl,r3,rfl⟩⟩⟩:=hx
 obtain ⟨v0,rfl⟩:=An r0 rfl
 obtain ⟨v1,rfl⟩:=An r1 rfl
 obtain ⟨v2,rfl⟩:=An r2 rfl
 obtain ⟨v3,rfl⟩:=An r3 rfl
 exact ⟨x,v0,v1,v2,v3,rfl,hl,r0,r1,r2,r3⟩
theorem aca {W:World} {base:Nat} {z:Value} {H:Type} {enc:TypeId×Value->H} {d:DataW H} {p:List MemPlace} (hv:Value.okWide Tryz.prog W .any base 9 z) (h:DataW.Trod enc Tryz.prog W 0 (fun _=>true) true 9 z d p) :
  ∃(x:ByteArray),z= .string x/\Data.lim x:=by
 obtain ⟨fuel,hf⟩:=h
 obtain ⟨n,rfl⟩:=okWide_string Tryz.underlying9 hv
 obtain ⟨x,hx,hl⟩:=op9.out enc W _ _ _ hf
 exact ⟨x,(List.cons.inj (show [_] = [_] from hx)).1,hl⟩
end D
open D (Data)
theorem yT {H:Type} {enc:TypeId×Value->H} {a:Assume} {C:Checked} {os:Os} {f:FuncId} {fn:Func} {s:ChangeSpec} {conds:List PathCond} {apart fresh handsOn again:Bool} {X:World->Array Value->Prop}
  (hX: ∀(w w':World) (args:Array Value),w.heap=w'.heap->X w args->X w' args)
  (own:ownKnob C.prog.godebug=none) (started:os.Started) (noInit:C.prog.inits.idxOf? f=none) (hfn:C.prog.funcs[f]? =some fn)
  (witness: ∃(w:World) (tape:Tape) (i:Input),w.os=os/\(w.forCall tape i).Shaped C.prog/\i.vars= [] /\Input.okWide C.prog (w.forCall tape i) .any w.heap.size f i /\
   ((s.pre enc C.prog fn conds apart (w.forCall tape i).memory i.args/\X (w.forCall tape i).memory i.args)/\sizedMet enc C.prog fn (OpenSpec.ofChange s) apart (w.forCall tape i).memory i.args)/\a.holds C.prog (lone (Frame.enter C.prog f i.args .normal) [] (w.forCall tape i)))
  (contract: ∀(W:World) (base:Nat) (args:Array Value) (ds gs:List (DataW H)) (before:List MemPlace),
   (∀(j:Nat) t v,fn.params[j]? =some t->args[j]? =some v->Value.okWide C.prog W .any base t v)->
   DataW.Whole enc C.prog fn.params.toList s.vars apart W args.toList ds gs before->X W args->W.ShapedOpen C.prog->
   Calls C.prog f args W fun e W'=> ∃v,e= .returned v/\s.post enc C.prog fn apart fresh handsOn again W args v W') :
  ReturnsInHanded a C os f .any (fun w args=>(s.pre enc C.prog fn conds apart w args/\X w args)/\sizedMet enc C.prog fn (OpenSpec.ofChange s) apart w args) (s.post enc C.prog fn apart fresh handsOn again):=by
 refine returnsInHanded_of_calls own started noInit witness ?_
 intro w tape i _ hsh _ hok hpre _
 obtain ⟨_,_,_,fn',hfn',_,_,_,_,hval⟩:=hok
 have e:fn'=fn:=ae (hfn'.symm.trans hfn)
 subst e
 obtain ⟨⟨⟨ds,gs,before,hw,hc⟩,hx⟩,_⟩:=hpre
 have hw':=DataW.Whole.of_heap (w':=w.forCall tape i) (by rfl) hw
 refine (contract (w.forCall tape i) w.heap.size i.args ds gs before hval hw' (hX (w.forCall tape i).memory (w.forCall tape i) _ rfl hx) hsh).mono fun e W' ⟨v,he,hp⟩=>?_
 subst he
 exact ChangeSpec.post_blind hp
theorem Vz (u:TypeId) (h:Tryz.prog.typeName? 3 u=some "*errors.errorString"):u=407:=
 typeName_ptr_named (nm:= "errors.errorString") (by kernel_rfl) (by kernel_rfl) (by decide) u h
theorem Am {W:World} (h:laidMetH Tryz.prog Rows.fnExactRecoverEngineRow.laid W) (hsh:W.ShapedOpen Tryz.prog):D.LayW Tryz.prog W:=by
 rw[MakeChecks.laidMetH_plain _ _ _ (by kernel_rfl)] at h
 obtain ⟨a5,s5,hv5,-⟩:=laid_sentinel (g:=2) (ti:=264) (tp:=407) (te:=409) (ts:=9) (h.tail.tail.tail.tail) (by kernel_rfl) (by kernel_rfl) Tryz.underlying264 Vz Tryz.underlying407 Tryz.underlying409 rfl rfl Tryz.underlying9 (by kernel_rfl) (by kernel_rfl)
 obtain ⟨a6,s6,hv6,-⟩:=laid_sentinel (g:=1) (ti:=264) (tp:=407) (te:=409) (ts:=9) (h.tail.tail.tail.tail.tail) (by kernel_rfl) (by kernel_rfl) Tryz.underlying264 Vz Tryz.underlying407 Tryz.underlying409 rfl rfl Tryz.underlying9 (by kernel_rfl) (by kernel_rfl)
 have ht:Lib.TabIs Tryz.prog W "internal/strconv.uint64pow10" .u64 Lib.pow10Tab:=Lib.tabIs_of_head (g:=3) (by kernel_rfl) (by kernel_rfl) Tryz.underlying390 Tryz.underlying363 (by kernel_rfl) (by kernel_rfl) (h.tail.tail)
 exact ⟨⟨0,(R.X0.s1_3 W hsh).imp fun m hm=>⟨by kernel_rfl,hm⟩⟩,ht,⟨_,_,hv6⟩,⟨_,_,hv5⟩⟩
theorem yU (W:World) (hL:laidMetH Tryz.prog Rows.fnExactRecoverEngineRow.laid W) (hsh:W.ShapedOpen Tryz.prog) (args:Array Value) (H:Type) (enc:TypeId×Value->H) (base:Nat) (ds gs:List (DataW H)) (before:List MemPlace)
  (hval: ∀(j:Nat) t v,Tryz.f6.params[j]? =some t->args[j]? =some v->Value.okWide Tryz.prog W .any base t v)
  (hW:DataW.Whole enc Tryz.prog Tryz.f6.params.toList Rows.fnExactRecoverEngineSpec.vars false W args.toList ds gs before) :
  Calls Tryz.prog 6 args W fun e W'=> ∃v,e= .returned v/\Rows.fnExactRecoverEngineSpec.post enc Tryz.prog Tryz.f6 false true false false W args v W':=by
 have hW':=hW
 obtain ⟨p,q,hA,hV,rfl,hfz,hnd⟩:=hW
 rw[Tryz.params6] at hA hval
 obtain ⟨z0,vs0,d0,ds0,p0,q0,hargs,rfl,rfl,h0,r0⟩:=trodAll_cons hA
 obtain ⟨z1,vs1,d1,ds1,p1,q1,rfl,rfl,rfl,h1,r1⟩:=trodAll_cons r0
 obtain ⟨rfl,rfl,rfl⟩:=trodAll_nil r1
 obtain rfl:args= #[z0,z1]:=by cases args;simp_all
 obtain ⟨rfl,rfl⟩:=trodVars_none hV
 obtain ⟨x0,v0_0,v0_1,v0_2,v0_3,rfl,l0,r0_0,r0_1,r0_2,r0_3⟩:=D.abc (hval 0 _ _ rfl rfl) h0
 obtain ⟨x1,rfl,l1⟩:=D.aca (hval 1 _ _ rfl rfl) h1
 have hc:=D.qP x0 x1 true (D.Al x0 x1 l0 l1) (I:=D.hp W) (w0:=W) v0_0 v0_1 v0_2 v0_3 r0_0 r0_1 r0_2 r0_3 (D.Lay.of (Am hL hsh)) W [] (D.St.init W)
 refine hc.mono fun e W' ⟨v,he,hv,hs⟩=>?_
 subst he;subst hv
 exact ⟨_,rfl,Ug (f:=Tryz.f6) (s:=Rows.fnExactRecoverEngineSpec) 4 Tryz.underlying4 rfl (by kernel_rfl) rfl hW' rfl rfl rfl (D.St.below hs)⟩
set_option maxRecDepth 100000 in
theorem uP (os:Os) (started:os.Started) (H:Type) (enc:TypeId×Value->H) :
  ReturnsInHanded {} Tryz.checked os 6 .any (fun w args=>(Rows.fnExactRecoverEngineSpec.pre enc Tryz.prog Tryz.f6 [] false w args/\laidMetH Tryz.prog Rows.fnExactRecoverEngineRow.laid w)/\sizedMet enc Tryz.prog Tryz.f6 (OpenSpec.ofChange Rows.fnExactRecoverEngineSpec) false w args) (Rows.fnExactRecoverEngineSpec.post enc Tryz.prog Tryz.f6 false true false false):=by
 refine yT (C:=Tryz.checked) (X:=fun w _=>laidMetH Tryz.prog Rows.fnExactRecoverEngineRow.laid w) (fun _ _ _ hh h=>h.of_heap hh) own started (by kernel_rfl) Tryz.func6
  (ChangeSpec.witness_shaped (enc:=enc) (C:=Tryz.checked) (os:=os) (X:=fun w _=>laidMetH Tryz.prog Rows.fnExactRecoverEngineRow.laid w) false (World.laidAll Tryz.prog os Rows.fnExactRecoverEngineRow.laid) #[.agg #[.int .i64 0,.slice none 0 0,.slice none 0 0,.slice none 0 0,.slice none 0 0,.string ⟨#[]⟩],.string ⟨#[]⟩] 8 (World.laidAll_os _ _ _) (World.shaped_of_ZipB (by kernel_rfl) (by kernel_rfl)) (by kernel_rfl) (by kernel_rfl) (by kernel_rfl) (by rw[MakeChecks.laidMetH_plain _ _ _ (by kernel_rfl)];exact laidMet_laidAll _ (by kernel_rfl) (by kernel_rfl))) ?_
 intro W base args ds gs before hval hW hL hsh
 exact yU W hL hsh args H enc base ds gs before hval hW
theorem wA:Rows.FnExactRecoverEngineSaid:=
 OpenClaim.holds_of_wide 6 Tryz.f6 rfl rfl rfl rfl rfl rfl rfl ⟨rfl,rfl,rfl,rfl,rfl⟩ rfl rfl rfl rfl rfl (by kernel_rfl) Tryz.func6 closedLRecoverEngine
  (of_decide_eq_true (by kernel_rfl)) (by unfold Func.isWrapper;first | (rw[if_pos (by decide +kernel)];kernel_rfl) | (rw[if_neg (by decide +kernel)];exact ⟨rfl,rfl⟩))
  (fun os started H enc _=>uP os started H enc)
theorem cardLRecoverEngine:Rows.FnExactRecoverEngineCardSaid:=
 Claim7.holds_tied_plain_at .later [] [.data,.data,.data,.data,.sentinel,.sentinel,.pinned] true (true,"3c499cde14a55990d2571a198b88511f35a3bcefb865e8a21ba7b894b258559b") true
  wA (fun _ h=>by cases h) (by kernel_rfl) (fun _ h=>by cases h) fnExactRecoverEngine_row_tie rfl ⟨rfl,rfl⟩ kf4RecoverEngine rfl
  (fun f fn hf hfn=>by
   obtain rfl:f=6:=ae (kf1RecoverEngine.symm.trans hf) |>.symm
   obtain rfl:fn=Tryz.f6:=(ae (Tryz.func6.symm.trans hfn)).symm
   exact ⟨kf2RecoverEngine,fun j t ht=>by
    rw[Tryz.params6] at ht
    have hm:t ∈ [54,9]:=by simpa using Array.mem_of_getElem? ht
    have hall:([54,9].all fun u=> !Tryz.prog.wantsStandIn u)=true:=by kernel_rfl
    exact (show Tryz.prog.wantsStandIn t=false by simpa using List.all_eq_true.1 hall t hm)⟩)
  kf3RecoverEngine
end Go.Proofs.YtodbpnpbhpeepaaGreatDoor
