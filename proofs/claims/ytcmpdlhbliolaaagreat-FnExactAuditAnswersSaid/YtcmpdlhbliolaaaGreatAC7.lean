/- FnExactAuditAnswers: for every input the law returns true and changes nothing that was there. Part 8 of 8. -/
import Derived.Test.YtcmpdlhbliolaaaGreatAC6
set_option linter.unusedVariables false
set_option linter.unusedSimpArgs false
set_option linter.unnecessarySimpa false
set_option linter.unusedSectionVars false
set_option maxRecDepth 1000000
namespace Go.Proofs.YtcmpdlhbliolaaaGreat
namespace D
open Go.RowKit
def L7 (out:List Bool) (t:Int):Bool:=decide (t≥0)&&nth out t
def hit (out:List Bool) (row:List Int):Bool:=row.any (L7 out)
def vn (a:AutT) (out:List Bool) (s:Nat):List Bool:=if hit out (nth a.2.2 s) then out.set s true else out
def iR (a:AutT) (out:List Bool):Nat→List Bool
 | 0=>out
 | s+1=>vn a (iR a out s) s
def cnt (out:List Bool):Nat:=out.count true
theorem US (out:List Bool):cnt out≤out.length:=List.count_le_length
theorem GR {out:List Bool} {s:Nat} (h:s<out.length) (k:out[s] =true):out.set s true=out:=by
 refine List.ext_getElem (by simp) fun i h1 h2=>?_
 rw[List.getElem_set]
 split
 ·rename_i e;subst e;exact k.symm
 ·rfl
theorem SR {out:List Bool} {s:Nat} (h:s<out.length) (k:out[s] =false):cnt (out.set s true)=cnt out+1:=by
 unfold cnt
 rw[List.count_set h];simp[k]
section
variable {a:AutT} {n:Nat}
theorem Bq (a:AutT) (out:List Bool) (s:Nat):(vn a out s).length=out.length:=by unfold vn;split <;> simp
theorem jC (a:AutT) (out:List Bool): ∀s,(iR a out s).length=out.length
 | 0=>rfl
 | s+1=>by rw[iR,Bq,jC a out s]
theorem vo {out:List Bool} {s:Nat} (h:s<out.length):(vn a out s=out∧ ¬(hit out (nth a.2.2 s)=true∧nth out s=false))∨(cnt (vn a out s)=cnt out+1∧hit out (nth a.2.2 s)=true∧nth out s=false):=by
 unfold vn
 rw[bq h]
 cases hh:hit out (nth a.2.2 s) with
 | false=>exact .inl ⟨by simp,by simp⟩
 | true =>
  cases hk:out[s] with
  | true=>exact .inl ⟨by simp[GR h hk],by simp⟩
  | false=>exact .inr ⟨by simp[SR h hk],rfl,rfl⟩
theorem uI {out:List Bool} : ∀s,s≤out.length→(iR a out s=out∧cnt (iR a out s)=cnt out)∨cnt out<cnt (iR a out s)
 | 0,_=>.inl ⟨rfl,rfl⟩
 | s+1,hs=>by
  have hl:s<(iR a out s).length:=by rw[jC];omega
  have ih:=uI (out:=out) s (by omega)
  rw[iR]
  rcases vo (a:=a) hl with ⟨e,-⟩ | ⟨e,-,-⟩
  ·rw[e];exact ih
  ·rcases ih with ⟨-,h2⟩ | h
   ·exact .inr (by omega)
   ·exact .inr (by omega)
def it (a:AutT):Nat→List Bool
 | 0=>a.2.1
 | j+1=>iR a (it a j) a.2.1.length
theorem oi (a:AutT): ∀j,(it a j).length=a.2.1.length
 | 0=>rfl
 | j+1=>by rw[it,jC,oi a j]
theorem Qq (a:AutT) (j:Nat):cnt (it a j)≤a.2.1.length:=by rw[←oi a j];exact US _
theorem Fc (a:AutT) (j:Nat):(it a (j+1)=it a j)∨cnt (it a j)<cnt (it a (j+1)):=by
 rcases uI (a:=a) (out:=it a j) a.2.1.length (by rw[oi];exact Nat.le_refl _) with h | h
 ·exact .inl h.1
 ·exact .inr h
theorem Qr {j k:Nat} (h:it a (j+1)=it a j) (hk:j≤k):it a k=it a j:=by
 induction hk with
 | refl=>rfl
 | step _ ih=>rw[it,ih];exact h
theorem L8 {j k:Nat} (h:it a (j+1)=it a j) (h':it a (k+1)=it a k):it a j=it a k:=by
 rcases Nat.le_total j k with e | e
 ·exact (Qr h e).symm
 ·exact Qr h' e
theorem SS (a : AutT) : it a (a.2.1.length + 1) = it a a.2.1.length := by
  have key : ∀ j, it a (j + 1) = it a j ∨ j + 1 ≤ cnt (it a (j + 1)) := by
    intro j
    induction j with
    | zero => rcases Fc a 0 with h | h
              · exact .inl h
              · exact .inr (by omega)
    | succ j ih =>
      rcases Fc a (j + 1) with h | h
      · exact .inl h
      · rcases ih with h' | h'
        · left; rw [it, h']; exact h'
        · exact .inr (by omega)
  rcases key a.2.1.length with h | h
  · exact h
  · have := Qq a (a.2.1.length + 1); omega
def live (a:AutT):List Bool:=it a a.2.1.length
theorem ss (a:AutT):(live a).length=a.2.1.length:=oi a _
theorem GS {α:Type} [Inhabited α] {row:List α} {p:α→Bool} {k:Nat} (h:k<row.length):(row.take (k+1)).any p=((row.take k).any p || p (nth row (k:Int))):=by
 rw[List.take_succ_eq_append_getElem h,List.any_append,bq h];simp
section
variable (V:VA a n) (hn:n≤1000000)
include V hn
theorem L9 {out:List Bool} {s:Nat} (hs:s<n) (hl:out.length=n):ai (gT a (out,(s:Int))) aB (out,0)=some (.brk (vn a out s,9)):=by
 have hr:=V.rowAt (s:=s) (by omega) (by omega)
 have hls:s<out.length:=by omega
 have:=ax (f:=gT a (out,(s:Int))) (fun k=>(if ((nth a.2.2 (s:Int)).take k).any (L7 out) then out.set s true else out,(k:Int))) 9 (fun k hk=>by
  unfold gT
  simp only
  rw[if_pos (by simp;omega),V.get (by omega) (by omega)];simp only[Option.bind_some]
  rw[V.get2 (by omega) (by omega) hk];simp only[Option.bind_some]
  rw[GS (by omega),show nth (nth a.2.2 (s:Int)) (k:Int)=mv a s k from rfl]
  simp only[aa (show k<9223372036854775807 by omega)]
  by_cases c:mv a s k≥0
  ·have hset:(out.set s true).length=n:=by simp[hl]
   have hm:=(V.mv (s:=s) (k:=k) (by omega) (by omega) hk).2
   rw[if_pos (by simpa using c)]
   by_cases q:((nth a.2.2 (s:Int)).take k).any (L7 out)=true
   ·simp only[q,if_true,Bool.true_or]
    rw[aj c (by rw[hset];exact hm),aj (by omega) (by rw[hset];omega)];simp only[Option.bind_some,Int.toNat_natCast]
    split <;> simp
   ·simp only[q,Bool.false_eq_true,if_false,Bool.false_or,L7]
    rw[aj c (by rw[hl];exact hm),aj (by omega) (by rw[hl];omega)];simp only[Option.bind_some,Int.toNat_natCast]
    cases hc:nth out (mv a s k) <;> simp[hc,c]
  ·rw[if_neg (by simpa using c)]
   simp[L7,c]) (by unfold gT;simp) (by unfold aB;omega)
 have e9:(nth a.2.2 (s:Int)).take 9=nth a.2.2 (s:Int):=List.take_of_length_le (by omega)
 rw[e9] at this
 exact this
theorem Dj {out:List Bool} (hl:out.length=n):ai (gU a) aB (out,0)=some (.brk (iR a out n,(n:Int))):=by
 have hlen:=V.len
 refine ax (f:=gU a) (fun s=>(iR a out s,(s:Int))) n (fun s hs=>?_) ?_ (gp (by omega))
 ·unfold gU
  simp only
  rw[if_pos (by simp;omega),ae (L9 V hn hs (by rw[jC];exact hl)),aa (by omega)]
  rfl
 ·unfold gU
  simp only
  rw[if_neg (by simp;omega)]
theorem Qs:jQ a=some (live a):=by
 have hlen:=V.len
 unfold jQ
 rw[au (by simp;omega)];simp only[Option.bind_some,List.nil_append]
 have:=ax (f:=kg a) (fun j=>(it a j,(j:Int))) n (fun j hj=>by
  unfold kg
  simp only
  rw[if_pos (by simp;omega),ae (Dj V hn (by rw[oi];exact hlen)),aa (by omega),it,hlen]) (by
  unfold kg
  simp only
  rw[if_neg (by simp;omega)]) (gp (by omega))
 exact (ae this).trans (by simp[live,hlen])
theorem Ma {out:List Bool} {g:Bool} {s:Nat} (hs:s<n) (hl:out.length=n):ai (cK (g,(s:Int),out) (nth a.2.2 (s:Int))) aB (g,0,out)=some (.brk (g || (hit out (nth a.2.2 (s:Int)) && !nth out (s:Int)),9,vn a out s)):=by
 have hr:=V.rowAt (s:=s) (by omega) (by omega)
 have hls:s<out.length:=by omega
 have:=ax (f:=cK (g,(s:Int),out) (nth a.2.2 (s:Int))) (fun k=>(g || (((nth a.2.2 (s:Int)).take k).any (L7 out) && !nth out (s:Int)),(k:Int),if ((nth a.2.2 (s:Int)).take k).any (L7 out) then out.set s true else out)) 9 (fun k hk=>by
  unfold cK
  simp only
  rw[if_pos (by simp[hr];omega),V.get2 (by omega) (by omega) hk];simp only[Option.bind_some]
  rw[GS (by omega),show nth (nth a.2.2 (s:Int)) (k:Int)=mv a s k from rfl]
  simp only[aa (show k<9223372036854775807 by omega)]
  by_cases c:mv a s k≥0
  ·have hset:(out.set s true).length=n:=by simp[hl]
   have hm:=(V.mv (s:=s) (k:=k) (by omega) (by omega) hk).2
   rw[if_pos (by simpa using c)]
   by_cases q:((nth a.2.2 (s:Int)).take k).any (L7 out)=true
   ·simp only[q,if_true,Bool.true_or]
    have hself:nth (out.set s true) (s:Int)=true:=by
     have:=nf (xs:=out) (i:=(s:Int)) (x:=true) (by omega) (by omega)
     simpa using this
    rw[aj c (by rw[hset];exact hm),aj (by omega) (by rw[hset];omega)];simp only[Option.bind_some,Int.toNat_natCast,hself,if_true]
    split <;> simp
   ·simp only[q,Bool.false_eq_true,if_false,Bool.false_or,L7,Bool.false_and,Bool.or_false]
    rw[aj c (by rw[hl];exact hm),aj (by omega) (by rw[hl];omega)];simp only[Option.bind_some,Int.toNat_natCast]
    cases hc:nth out (mv a s k) with
    | false=>simp[c]
    | true =>
     cases hd:nth out (s:Int) with
     | false=>simp[c]
     | true =>
      rw[bq hls] at hd
      simp[c,GR hls hd]
  ·rw[if_neg (by simpa using c)]
   simp[L7,c]) (by unfold cK;simp[hr]) (by unfold aB;omega)
 have e9:(nth a.2.2 (s:Int)).take 9=nth a.2.2 (s:Int):=List.take_of_length_le (by omega)
 rw[e9] at this
 have e0:(g || (((nth a.2.2 (s:Int)).take 0).any (L7 out) && !nth out (s:Int)))=g:=by simp
 rw[e0] at this
 exact this
theorem Dk {out:List Bool} (hl:out.length=n): ∃g,ai (cL a) aB (false,0,out)=some (.brk (g,(n:Int),iR a out n))∧(g=true↔cnt out<cnt (iR a out n)):=by
 have hlen:=V.len
 have hnl:=V.nlen
 obtain ⟨s',e,⟨g,rfl,hg⟩⟩:=cR (f:=cL a) (fun s st=> ∃g,st=(g,(s:Int),iR a out s)∧(g=true↔cnt out<cnt (iR a out s))) n (by
  rintro s st hs ⟨g,rfl,hg⟩
  have hpl:(iR a out s).length=n:=by rw[jC];exact hl
  unfold cL
  simp only
  rw[if_pos (by simp;omega),V.get (by omega) (by omega)];simp only[Option.bind_some]
  rw[ae (Ma V hn hs hpl),aa (by omega)]
  refine ⟨_,rfl,_,rfl,?_⟩
  rw[Bool.or_eq_true,Bool.and_eq_true,Bool.not_eq_true',hg,iR]
  have hc:=uI (a:=a) (out:=out) s (by omega)
  rcases vo (a:=a) (out:=iR a out s) (s:=s) (by omega) with ⟨e,k⟩ | ⟨e,k⟩
  ·rw[e];exact ⟨fun h=>h.elim id fun h=>absurd h k,.inl⟩
  ·rw[e]
   exact ⟨fun _=>by rcases hc with ⟨-,h⟩ | h <;> omega,fun _=>.inr k⟩) (by
  rintro s ⟨g,rfl,hg⟩
  unfold cL
  simp only
  rw[if_neg (by simp;omega)]) ⟨false,rfl,by simp[iR]⟩ (gp (by omega))
 exact ⟨g,e,hg⟩
theorem UT:dJ a=some (live a):=by
 have hlen:=V.len
 unfold dJ
 rw[au (by simp;omega)];simp only[Option.bind_some,List.nil_append]
 obtain ⟨o,e,i,rfl,hi⟩:=bF (f:=gb a) (fun i s=> ∃b,s=(b,it a i)∧(b=true→i≤cnt (it a i))∧(b=false→it a (i+1)=it a i)) (fun o=> ∃i,o= .brk (false,it a i)∧it a (i+1)=it a i) (n+1) (s:=(true,a.2.1)) (by
  rintro i s hi ⟨b,rfl,h1,h2⟩
  unfold gb
  simp only
  cases b with
  | false=>exact .inr ⟨_,by rw[if_neg (by simp)],(fun s' e=>by cases e),i,rfl,h2 rfl⟩
  | true =>
   have hc:=Qq a i
   have h1:=h1 rfl
   obtain ⟨g,e,hg⟩:=Dk V hn (out:=it a i) (by rw[oi];exact hlen)
   have ee:iR a (it a i) n=it a (i+1):=by rw[it,hlen]
   rw[ee] at e hg
   refine .inl ⟨by omega,(g,it a (i+1)),by rw[if_pos rfl,ae e],g,rfl,fun h=>?_,fun h=>?_⟩
   ·have:=hg.1 h;omega
   ·have hs:it a (i+1)=it a i:=by
     rcases Fc a i with h' | h'
     ·exact h'
     ·rw[←hg,h] at h';cases h'
    rw[it,hs];exact hs) ⟨true,rfl,fun _=>Nat.zero_le _,fun h=>by cases h⟩ (gp (by omega))
 rw[ae e]
 have:=L8 hi (SS a)
 simp[live,this]
end
end
end D
namespace D
open Go.RowKit
def nothing:AutT:=(0,[false],[[-1,-1,-1,-1,-1,-1,-1,-1,-1]])
theorem Mb:np=some nothing:=by kernel_rfl
theorem Mc:rR=some nothing:=by kernel_rfl
theorem Md {n:Nat} (h:n≤1000000):iOk (n:Int)=true:=by
 have h1:IntKind.i64.min= -9223372036854775808:=by decide
 have h2:IntKind.i64.max=9223372036854775807:=by decide
 simp only[iOk,Lit.wf,h1,h2,Bool.and_eq_true,decide_eq_true_eq]
 omega
theorem take_one {α:Type} [Inhabited α] {xs:List α} {k:Nat} (h:k<xs.length):xs.take (k+1)=xs.take k++ [nth xs (k:Int)]:=by
 rw[List.take_succ_eq_append_getElem h,bq h]
theorem iS {α:Type} [Inhabited α] {xs ys:List α} (h:xs <+:ys) {i:Int} (h0:0≤i) (h1:i<xs.length):nth ys i=nth xs i:=by
 obtain ⟨t,rfl⟩:=h
 exact eR h0 h1
structure NumOk {κ:Type} [DecidableEq κ] (nx:κ→List (Option κ)) (first:κ) (G:κ→Prop) (B:Nat):Prop where
 g0:G first
 gn: ∀x,G x→ ∀y,some y∈nx x→G y
 len: ∀x,G x→(nx x).length=9
 bound: ∀l:List κ,l.Nodup→(∀x∈l,G x)→l.length≤B
section
variable {κ:Type} [DecidableEq κ] [Inhabited κ] {nx:κ→List (Option κ)} {first:κ} {G:κ→Prop} {B:Nat}
theorem NumOk.le (H:NumOk nx first G B) (i:Nat):(bfS nx first i).length≤B:=H.bound _ (mu i) (jv H.g0 H.gn i)
theorem NumOk.at (H:NumOk nx first G B) {i:Nat} (h:i<(bfS nx first i).length):G (nth (bfS nx first i) (i:Int)):=jv H.g0 H.gn i _ (aX (by omega) (by omega))
theorem jD {i:Nat} (h:i<(bfS nx first i).length):bfS nx first (i+1)=nbS (bfS nx first i) (nx (nth (bfS nx first i) (i:Int))):=by rw[A1 h,bq h]
theorem tL {i:Nat} (h:i<(bfS nx first i).length):bfR nx first (i+1)=bfR nx first i++ [nbR (bfS nx first i) (nx (nth (bfS nx first i) (i:Int)))]:=by rw[tx h,bq h]
theorem vR {β:Type} {acc:κ→β} {i:Nat} (h:i<(bfS nx first i).length):((bfS nx first (i+1)).take (i+1)).map acc=((bfS nx first i).take i).map acc++ [acc (nth (bfS nx first i) (i:Int))]:=by
 have hp:=a6 (nx:=nx) (first:=first) i
 have hl:=hp.length_le
 have e:(bfS nx first (i+1)).take i=(bfS nx first i).take i:=by
  obtain ⟨t,ht⟩:=hp
  rw[←ht,List.take_append_of_le_length (by omega)]
 rw[take_one (by omega),List.map_append,e,iS hp (by omega) (by omega)];rfl
def MapOf (M:List (κ×Int)) (l:List κ):Prop:=M.length=l.length∧ ∀x,M.lookup x=if x∈l then some (l.idxOf x:Int) else none
theorem MapOf.one (x:κ):MapOf [(x,0)] [x]:=by
 refine ⟨rfl,fun y=>?_⟩
 rw[List.lookup_cons]
 by_cases e:y=x
 ·subst e;simp
 ·simp only[show (y==x)=false from by simp[e]];simp[e]
theorem MapOf.put {M:List (κ×Int)} {l:List κ} (h:MapOf M l) {x:κ} (hx:x∉l):MapOf ((x,(l.length:Int))::M) (l++ [x]):=by
 refine ⟨by simp[h.1],fun y=>?_⟩
 rw[List.lookup_cons]
 by_cases e:y=x
 ·subst e
  simp[List.idxOf_append,hx]
 ·simp only[show (y==x)=false from by simp[e],h.2 y,List.mem_append,List.mem_singleton,e,or_false]
  by_cases k:y∈l
  ·simp[k,List.idxOf_append]
  ·simp[k]
end
section
variable {nx:Int→List (Option Int)} {first:Int} {G:Int→Prop} {B:Nat}
theorem Dl {p3:Int→Int→Option (Int×Bool)} {l:List Int} {M:List (Int×Int)} {os:List (Option Int)} {acs:List Bool} {rws:List (List Int)} {i:Nat}
  (hi:i<l.length) (hos:os.length=9) (hM:MapOf M l) (hok: ∀y,some y∈os→iOk y=true) (hB: ∀k,(nbS l (os.take k)).length≤1000000)
  (hp: ∀(k:Nat) (hk:k<9),∃j,p3 (nth l (i:Int)) (k:Int)=some (match nth os (k:Int) with | some y=>(y,true) | none=>(j,false))) :
  ∃M',ai (dk p3 (l,M,(i:Int),0,acs,rws)) aB (l,M,[],0)=some (.brk (nbS l os,M',nbR l os,9))∧MapOf M' (nbS l os):=by
 obtain ⟨s',e,M',rfl,hM'⟩:=cR (f:=dk p3 (l,M,(i:Int),0,acs,rws)) (fun k s=> ∃M',s=(nbS l (os.take k),M',nbR l (os.take k),(k:Int))∧MapOf M' (nbS l (os.take k))) 9 (by
  rintro k s hk ⟨M1,rfl,hM1⟩
  have hpre:=j9 l (os.take k)
  have hlen:=hpre.length_le
  have hBk:=hB k
  obtain ⟨j,hj⟩:=hp k hk
  have hrl:(nbR l (os.take k)).length≤9:=by rw[dH,List.length_take];omega
  unfold dk
  simp only
  rw[if_pos (by simp;omega),aj (by omega) (by omega)];simp only[Option.bind_some]
  rw[iS hpre (by omega) (by omega),hj,take_one (by omega),tw,q8]
  simp only[Option.bind_some,aa (show k<9223372036854775807 by omega)]
  cases ho:nth os (k:Int) with
  | none =>
   simp only[Bool.false_eq_true,if_false]
   rw[au (by simp;omega)]
   exact ⟨_,rfl,M1,rfl,hM1⟩
  | some y =>
   have hy:iOk y=true:=hok y (ho ▸ aX (by omega) (by omega))
   simp only[if_true]
   rw[show chk (iOk y=true)=some () from by unfold chk;rw[if_pos hy]];simp only[Option.bind_some]
   rw[show lkM M1 y=_ from hM1.2 y]
   by_cases c:y∈nbS l (os.take k)
   ·simp only[c,if_true,Option.isSome_some,Option.getD_some,Option.bind_some]
    rw[au (by simp;omega)]
    exact ⟨_,rfl,M1,by rw[kY c];rfl,by rw[kY c];exact hM1⟩
   ·have hput:I5 M1 iOk iOk y ((nbS l (os.take k)).length:Int)=some ((y,((nbS l (os.take k)).length:Int))::M1):=by
     unfold I5
     rw[if_pos ⟨by have:=hM1.1;omega,hy,Md hBk⟩]
    simp only[c,if_false,Option.isSome_none,Bool.false_eq_true,hput,Option.bind_some]
    rw[au (by simp;omega)];simp only[Option.bind_some]
    rw[au (by simp;omega)]
    refine ⟨_,rfl,(y,((nbS l (os.take k)).length:Int))::M1,?_,?_⟩
    ·rw[ka c];simp only[nbI,oe c]
    ·rw[ka c];exact hM1.put c) (by
  rintro s ⟨M1,rfl,hM1⟩
  unfold dk
  simp) (s:=(l,M,[],0)) ⟨M,rfl,hM⟩ (by unfold aB;omega)
 rw[List.take_of_length_le (by omega)] at e hM'
 exact ⟨M',e,hM'⟩
theorem UU {most:Int} {p2:Int→Option Bool} {p3:Int→Int→Option (Int×Bool)} {acc:Int→Bool} (H:NumOk nx first G B) (hB:B≤1000000) (hmost:(B:Int)≤most) (hok: ∀x,G x→iOk x=true)
  (h2: ∀x,G x→p2 x=some (acc x)) (h3: ∀x (k:Nat),G x→k<9→ ∃j,p3 x (k:Int)=some (match nth (nx x) (k:Int) with | some y=>(y,true) | none=>(j,false))) :
  ∃N,bfE nx first N∧dC first most p2 p3=some ((0,(bfS nx first N).map acc,bfR nx first N),true):=by
 obtain ⟨N,hNB,hN⟩:=Qg (nx:=nx) (first:=first) (H.le)
 refine ⟨N,hN,?_⟩
 unfold dC
 rw[show I5 ([] :List (Int×Int)) iOk iOk first 0=some [(first,0)] from by unfold I5;rw[if_pos ⟨by simp,hok _ H.g0,by decide⟩]];simp only[Option.bind_some]
 obtain ⟨s',e,M',rfl,hM'⟩:=cR (f:=br most p2 p3) (fun i s=> ∃M,s=(bfS nx first i,M,(i:Int),0,((bfS nx first i).take i).map acc,bfR nx first i)∧MapOf M (bfS nx first i)) N (by
  rintro i s hi ⟨M,rfl,hM⟩
  have hlt:=hN.2 i hi
  have hG:=H.at hlt
  have hle:=H.le i
  have hle':=H.le (i+1)
  obtain ⟨M',e,hM'⟩:=Dl (p3:=p3) (l:=bfS nx first i) (M:=M) (os:=nx (nth (bfS nx first i) (i:Int))) (acs:=((bfS nx first i).take i).map acc) (rws:=bfR nx first i) hlt (H.len _ hG) hM (fun y hy=>hok y (H.gn _ hG y hy))
   (fun k=>by
    have:(nbS (bfS nx first i) ((nx (nth (bfS nx first i) (i:Int))).take k)).length≤B:=H.bound _ (qm (mu i)) fun x hx=>by
     rcases uB.1 hx with hx | hx
     ·exact jv H.g0 H.gn i x hx
     ·exact H.gn _ hG x (List.mem_of_mem_take hx)
    omega) (fun k hk=>h3 _ k hG hk)
  unfold br
  simp only
  rw[if_pos (by simp;omega),ae e,←jD hlt]
  rw[←jD hlt] at hM'
  have hl2:=(a6 (nx:=nx) (first:=first) i).length_le
  simp only
  rw[if_neg (by simp;omega),aj (by omega) (by omega)];simp only[Option.bind_some]
  rw[iS (a6 i) (by omega) (by omega),h2 _ hG];simp only[Option.bind_some]
  have hr:(bfR nx first i).length=i:=iP fun j hj=>hN.2 j (by omega)
  rw[au (by simp;omega)];simp only[Option.bind_some]
  rw[au (by simp;omega)];simp only[Option.bind_some,aa (show i<9223372036854775807 by omega)]
  exact ⟨_,rfl,M',by rw[vR hlt,tL hlt],hM'⟩) (by
  rintro s ⟨M,rfl,hM⟩
  unfold br
  simp only
  rw[if_neg (by have:=hN.1;simp;omega)]) (s:=([first],[(first,0)],0,0,[],[])) ⟨_,rfl,MapOf.one first⟩ (gp (by omega))
 rw[ae e]
 simp only
 rw[List.take_of_length_le (by have:=hN.1;omega)]
end
theorem Qt {l:List Int} {x:Int} (h:l.length≤9223372036854775807):lS l x=some (if x∈l then (l.idxOf x:Int) else -1):=by
 unfold lS
 obtain ⟨o,e,hq⟩:=bF (f:=nm l x) (fun i s=>s=(i:Int)∧x∉l.take i) (fun o=>(x∈l∧o= .ret (l.idxOf x:Int))∨(x∉l∧ ∃s,o= .brk s)) l.length (s:=0) (by
  rintro i s hi ⟨rfl,hx⟩
  unfold nm
  by_cases hl:i<l.length
  ·rw[if_pos (by simp;omega),aj (by omega) (by omega)];simp only[Option.bind_some]
   by_cases c:nth l (i:Int)=x
   ·refine .inr ⟨_,by rw[if_pos (by simpa using c)],(fun s' e=>by cases e),.inl ?_⟩
    have e:l=l.take i++(x::l.drop (i+1)):=by
     rw[←c,bq hl,←List.drop_eq_getElem_cons hl,List.take_append_drop]
    refine ⟨by rw[e];simp,?_⟩
    congr 1
    conv=>rhs;rw[e,List.idxOf_append,if_neg hx,List.idxOf_cons_self]
    simp[List.length_take];first | done | omega
   ·refine .inl ⟨hl,_,by rw[if_neg (by simpa using c)],by rw[aa (by omega)],?_⟩
    rw[take_one hl,List.mem_append,List.mem_singleton]
    rintro (h | h)
    ·exact hx h
    ·exact c h.symm
  ·refine .inr ⟨_,by rw[if_neg (by simp;omega)],(fun s' e=>by cases e),.inr ⟨?_,_,rfl⟩⟩
   rwa [List.take_of_length_le (by omega)] at hx) ⟨rfl,by simp⟩ (gp h)
 rcases hq with ⟨hx,rfl⟩ | ⟨hx,s,rfl⟩
 ·rw[aK e,if_pos hx]
 ·rw[ae e,if_neg hx]
section
variable {a:AutT} {n:Nat} {c:List Int} {lv:List Bool} {nx:Int→List (Option Int)} {G:Int→Prop} {B:Nat} {acc:Int→Bool}
def good (n:Nat) (lv:List Bool) (r:Int):Prop:=0≤r∧r<n∧nth lv r=true
def uJ (a:AutT) (c:List Int) (lv:List Bool) (r:Int):List (Option Int):=(List.range 9).map fun k=>if mv a r k≥0∧nth lv (mv a r k)=true then some (nth c (mv a r k)) else none
theorem GT {r:Int} {k:Nat} (hk:k<9):nth (uJ a c lv r) (k:Int)=if mv a r k≥0∧nth lv (mv a r k)=true then some (nth c (mv a r k)) else none:=by
 have:k<(uJ a c lv r).length:=by simp[uJ];omega
 rw[bq this];simp[uJ]
def RepsOf (n:Nat) (lv:List Bool) (c:List Int) (rs l:List Int):Prop:=rs.length=l.length∧ ∀j:Nat,j<l.length→good n lv (nth rs j)∧nth c (nth rs j)=nth l (j:Int)
theorem RepsOf.snoc {rs l:List Int} (h:RepsOf n lv c rs l) {t:Int} (ht:good n lv t):RepsOf n lv c (rs++ [t]) (l++ [nth c t]):=by
 refine ⟨by simp[h.1],fun j hj=>?_⟩
 by_cases e:j<l.length
 ·rw[eR (by omega) (by have:=h.1;omega),eR (by omega) (by omega)];exact h.2 j e
 ·have e:j=l.length:=by simp at hj;omega
  subst e
  have h1:nth (rs++ [t]) (l.length:Int)=t:=by rw[bq (by simp[h.1])];simp[←h.1]
  have h2:nth (l++ [nth c t]) (l.length:Int)=nth c t:=by rw[bq (by simp)];simp
  rw[h1,h2];exact ⟨ht,rfl⟩
theorem Me (V:VA a n) (hn:n≤1000000) (hc:c.length=n) (hlv:lv.length=n) {l rs:List Int} {acs:List Bool} {rws:List (List Int)} {i:Nat} (hi:i<l.length) (hR:RepsOf n lv c rs l) {os:List (Option Int)} (hos:os.length=9)
  (ho: ∀r,good n lv r→nth c r=nth l (i:Int)→uJ a c lv r=os) (hB: ∀k,(nbS l (os.take k)).length≤1000000) :
  ∃rs',ai (fj a c lv (l,rs,(i:Int),0,acs,rws)) aB (l,rs,[],0)=some (.brk (nbS l os,rs',nbR l os,9))∧RepsOf n lv c rs' (nbS l os):=by
 obtain ⟨s',e,rs',rfl,hR'⟩:=cR (f:=fj a c lv (l,rs,(i:Int),0,acs,rws)) (fun k s=> ∃rs',s=(nbS l (os.take k),rs',nbR l (os.take k),(k:Int))∧RepsOf n lv c rs' (nbS l (os.take k))) 9 (by
  rintro k s hk ⟨r1,rfl,hR1⟩
  have hpre:=j9 l (os.take k)
  have hlen:=hpre.length_le
  have hBk:=hB k
  have hrl:(nbR l (os.take k)).length≤9:=by rw[dH,List.length_take];omega
  have hr1:=hR1.1
  obtain ⟨⟨g0,g1,g2⟩,gc⟩:=hR1.2 i (by omega)
  rw[iS hpre (by omega) (by omega)] at gc
  have hsu:=ho _ ⟨g0,g1,g2⟩ gc
  have hok:nth os (k:Int)=if mv a (nth r1 (i:Int)) k≥0∧nth lv (mv a (nth r1 (i:Int)) k)=true then some (nth c (mv a (nth r1 (i:Int)) k)) else none:=by
   rw[←hsu];exact GT hk
  have hmv:=V.mv (s:=nth r1 (i:Int)) (k:=k) g0 g1 hk
  unfold fj
  simp only
  rw[if_pos (by simp;omega),aj (xs:=r1) (by omega) (by omega)];simp only[Option.bind_some]
  rw[V.get g0 g1];simp only[Option.bind_some]
  rw[V.get2 g0 g1 hk,take_one (by omega),tw,q8]
  simp only[Option.bind_some,aa (show k<9223372036854775807 by omega)]
  by_cases c1:mv a (nth r1 (i:Int)) k≥0
  ·rw[if_pos (by simpa using c1),aj (xs:=lv) c1 (by omega)];simp only[Option.bind_some]
   by_cases c2:nth lv (mv a (nth r1 (i:Int)) k)=true
   ·rw[if_pos ⟨c1,c2⟩] at hok
    rw[if_pos c2,aj (xs:=c) c1 (by omega),hok];simp only[Option.bind_some]
    rw[Qt (by omega)];simp only[Option.bind_some]
    by_cases c3:nth c (mv a (nth r1 (i:Int)) k)∈nbS l (os.take k)
    ·rw[if_pos c3,if_neg (by simp)];simp only[Option.bind_some]
     rw[au (by simp;omega)]
     exact ⟨_,rfl,r1,by rw[kY c3];rfl,by rw[kY c3];exact hR1⟩
    ·rw[if_neg c3,if_pos (by decide)]
     rw[au (by simp;omega)];simp only[Option.bind_some]
     rw[au (by simp;omega)];simp only[Option.bind_some]
     rw[au (by simp;omega)];simp only[Option.bind_some]
     refine ⟨_,rfl,r1++ [mv a (nth r1 (i:Int)) k],?_,?_⟩
     ·rw[ka c3];simp only[nbI,oe c3]
     ·rw[ka c3];exact hR1.snoc ⟨c1,hmv.2,c2⟩
   ·rw[if_neg (fun h=>c2 h.2)] at hok
    rw[if_neg c2,hok];simp only[Option.bind_some]
    rw[au (by simp;omega)]
    exact ⟨_,rfl,r1,rfl,hR1⟩
  ·rw[if_neg (fun h=>c1 h.1)] at hok
   rw[if_neg (by simpa using c1),hok];simp only[Option.bind_some]
   rw[au (by simp;omega)]
   exact ⟨_,rfl,r1,rfl,hR1⟩) (by
  rintro s ⟨r1,rfl,hR1⟩
  unfold fj
  simp) (s:=(l,rs,[],0)) ⟨rs,rfl,hR⟩ (by unfold aB;omega)
 rw[List.take_of_length_le (by omega)] at e hR'
 exact ⟨rs',e,hR'⟩
theorem UV (V:VA a n) (hn:n≤1000000) (hc:c.length=n) (hlv:lv.length=n) (hs:nth lv a.1=true) (H:NumOk nx (nth c a.1) G B) (hB:B≤1000000)
  (hnx: ∀r,good n lv r→nx (nth c r)=uJ a c lv r) (hacc: ∀r,good n lv r→acc (nth c r)=nth a.2.1 r) :
  ∃N,bfE nx (nth c a.1) N∧gA a c lv=some (0,(bfS nx (nth c a.1) N).map acc,bfR nx (nth c a.1) N):=by
 obtain ⟨N,hNB,hN⟩:=Qg (nx:=nx) (first:=nth c a.1) (H.le)
 refine ⟨N,hN,?_⟩
 have hst:=V.start
 have hlen:=V.len
 unfold gA
 rw[aj hst.1 (by omega)];simp only[Option.bind_some]
 rw[if_pos hs,aj hst.1 (by omega)];simp only[Option.bind_some]
 obtain ⟨s',e,rs,rfl,hR⟩:=cR (f:=iq a c lv) (fun i s=> ∃rs,s=(bfS nx (nth c a.1) i,rs,(i:Int),0,((bfS nx (nth c a.1) i).take i).map acc,bfR nx (nth c a.1) i)∧RepsOf n lv c rs (bfS nx (nth c a.1) i)) N (by
  rintro i s hi ⟨rs,rfl,hR⟩
  have hlt:=hN.2 i hi
  have hG:=H.at hlt
  have hle:=H.le i
  have hle':=H.le (i+1)
  obtain ⟨rs',e,hR'⟩:=Me (acs:=((bfS nx (nth c a.1) i).take i).map acc) (rws:=bfR nx (nth c a.1) i) V hn hc hlv hlt hR (os:=nx (nth (bfS nx (nth c a.1) i) (i:Int))) (H.len _ hG) (fun r hr e=>by rw[←hnx r hr,e]) (fun k=>by
    have:(nbS (bfS nx (nth c a.1) i) ((nx (nth (bfS nx (nth c a.1) i) (i:Int))).take k)).length≤B:=H.bound _ (qm (mu i)) fun x hx=>by
     rcases uB.1 hx with hx | hx
     ·exact jv H.g0 H.gn i x hx
     ·exact H.gn _ hG x (List.mem_of_mem_take hx)
    omega)
  unfold iq
  simp only
  rw[if_pos (by simp;omega),ae e]
  rw[←jD hlt] at hR'
  have hl2:=(a6 (nx:=nx) (first:=nth c a.1) i).length_le
  have hr1:=hR'.1
  obtain ⟨⟨g0,g1,g2⟩,gc⟩:=hR'.2 i (by omega)
  rw[iS (a6 i) (by omega) (by omega)] at gc
  rw[aj (xs:=rs') (by omega) (by omega)];simp only[Option.bind_some]
  rw[V.acc g0 g1,←hacc _ ⟨g0,g1,g2⟩,gc];simp only[Option.bind_some]
  have hr:(bfR nx (nth c a.1) i).length=i:=iP fun j hj=>hN.2 j (by omega)
  rw[au (by simp;omega)];simp only[Option.bind_some]
  rw[au (by simp;omega)];simp only[Option.bind_some,aa (show i<9223372036854775807 by omega)]
  exact ⟨_,rfl,rs',by rw[←jD hlt,vR hlt,tL hlt],hR'⟩) (by
  rintro s ⟨rs,rfl,hR⟩
  unfold iq
  simp only
  rw[if_neg (by have:=hN.1;simp;omega)]) (s:=([nth c a.1],[a.1],0,0,[],[])) ⟨[a.1],rfl,rfl,fun j hj=>by
   obtain rfl:j=0:=by simpa [bfS] using hj
   exact ⟨⟨hst.1,hst.2,hs⟩,rfl⟩⟩ (gp (by omega))
 rw[ae e]
 simp only
 rw[List.take_of_length_le (by have:=hN.1;omega)]
theorem Fe (V:VA a n) (hlv:lv.length=n) (hs:nth lv a.1=false):gA a c lv=some nothing:=by
 have hst:=V.start
 unfold gA
 rw[aj hst.1 (by omega)];simp only[Option.bind_some]
 rw[hs,Mb];rfl
end
end D
namespace D
open Go.RowKit
abbrev Dt:=(List Int)×Int×Int×(List Int)×Bool
abbrev Pn (x:Int) (j:Nat):Bool:=(pB (lI x (j:Int)) 1)==1
def Po (F:List Int) (set m0:Int):Nat→Int
 | 0=>m0
 | i+1=>if Pn set (i+1) then orI (Po F set m0 i) (nth F (i:Int)) else Po F set m0 i
def pick (L:List Int) (m letter:Int):Nat→Int
 | 0=>0
 | i+1=>if nth L (i:Int)=letter∧Pn m i=true then orI (pick L m letter i) (pA 1 ((i+1:Nat):Int)) else pick L m letter i
def aft (p:Dt) (set letter:Int):Int:=pick p.1 (Po p.2.2.2.1 set (if (pB set 1)==1 then p.2.1 else 0) p.2.2.2.1.length) letter p.1.length
def tM (p:Dt) (set:Int):Bool:=if (pB set 1)==1 then (if p.2.2.2.2 then true else (pB (lI set 1) p.2.2.1) !=0) else (pB (lI set 1) p.2.2.1) !=0
theorem qu (i:Nat):chk (0≤(i:Int))=some ():=by unfold chk;rw[if_pos (by omega)]
theorem SU {p:Dt} {set letter:Int} (hl:p.2.2.2.1.length=p.1.length) (hb:p.1.length≤1000000):mM p set letter=some (aft p set letter):=by
 have h0: ∀m0,ai (fT p set) aB (m0,0)=some (.brk (Po p.2.2.2.1 set m0 p.1.length,(p.1.length:Int))):=fun m0 =>
  ax (f:=fT p set) (fun i=>(Po p.2.2.2.1 set m0 i,(i:Int))) p.1.length (fun i hi=>by
   unfold fT
   simp only
   rw[if_pos (by simp;omega),aa (by omega),qu];simp only[Option.bind_some]
   rw[Po]
   by_cases c:Pn set (i+1)=true
   ·rw[if_pos c,if_pos c,aj (by omega) (by omega)];rfl
   ·rw[if_neg c,if_neg c];rfl) (by unfold fT;simp) (gp (by omega))
 have h1: ∀s7:Int×Int,ai (fU p letter s7) aB (0,0)=some (.brk (pick p.1 s7.1 letter p.1.length,(p.1.length:Int))):=fun s7 =>
  ax (f:=fU p letter s7) (fun i=>(pick p.1 s7.1 letter i,(i:Int))) p.1.length (fun i hi=>by
   unfold fU
   simp only
   rw[if_pos (by simp;omega),aa (by omega),qu,qu];simp only[Option.bind_some]
   rw[pick]
   by_cases c:Pn s7.1 i=true
   ·rw[if_pos c,aj (by omega) (by omega)];simp only[Option.bind_some]
    by_cases d:nth p.1 (i:Int)=letter
    ·rw[if_pos (by simpa using d),if_pos ⟨d,c⟩];rfl
    ·rw[if_neg (by simpa using d),if_neg (fun h=>d h.1)];rfl
   ·rw[if_neg c,if_neg (fun h=>c h.2)];rfl) (by unfold fU;simp) (gp (by omega))
 unfold mM aft
 rw[hl]
 by_cases c:((pB set 1)==1)=true
 ·rw[if_pos c,if_pos c];simp only[Option.bind_some]
  rw[ae (h0 _),ae (h1 _)]
 ·rw[if_neg c,if_neg c];simp only[Option.bind_some]
  rw[ae (h0 _),ae (h1 _)]
theorem SV {p:Dt} {set letter:Int} (hl:p.2.2.2.1.length=p.1.length) (hb:p.1.length≤1000000):fa p set letter=some (aft p set letter):=by
 have h0: ∀m0,ai (cq p set) aB (m0,0)=some (.brk (Po p.2.2.2.1 set m0 p.2.2.2.1.length,(p.2.2.2.1.length:Int))):=fun m0 =>
  ax (f:=cq p set) (fun i=>(Po p.2.2.2.1 set m0 i,(i:Int))) p.2.2.2.1.length (fun i hi=>by
   unfold cq
   simp only
   rw[if_pos (by simp;omega),aj (by omega) (by omega)];simp only[Option.bind_some]
   rw[aa (by omega),qu];simp only[Option.bind_some]
   rw[Po]
   by_cases c:Pn set (i+1)=true
   ·rw[if_pos c,if_pos c];rfl
   ·rw[if_neg c,if_neg c];rfl) (by unfold cq;simp) (gp (by omega))
 have h1: ∀s7:Int×Int,ai (cr p letter s7) aB (0,0)=some (.brk (pick p.1 s7.1 letter p.1.length,(p.1.length:Int))):=fun s7 =>
  ax (f:=cr p letter s7) (fun i=>(pick p.1 s7.1 letter i,(i:Int))) p.1.length (fun i hi=>by
   unfold cr
   simp only
   rw[if_pos (by simp;omega),aj (by omega) (by omega)];simp only[Option.bind_some]
   rw[aa (by omega),qu,qu];simp only[Option.bind_some]
   rw[pick]
   by_cases d:nth p.1 (i:Int)=letter
   ·rw[if_pos (by simpa using d)]
    by_cases c:Pn s7.1 i=true
    ·rw[if_pos c,if_pos ⟨d,c⟩];rfl
    ·rw[if_neg c,if_neg (fun h=>c h.2)];rfl
   ·rw[if_neg (by simpa using d),if_neg (fun h=>d h.1)];rfl) (by unfold cr;simp) (gp (by omega))
 unfold fa aft
 by_cases c:((pB set 1)==1)=true
 ·rw[if_pos c,if_pos c];simp only[Option.bind_some]
  rw[ae (h0 _),ae (h1 _)]
 ·rw[if_neg c,if_neg c];simp only[Option.bind_some]
  rw[ae (h0 _),ae (h1 _)]
theorem UW (p:Dt) (x:Int):kl p x=some (tM p x):=by
 unfold kl tM
 split <;> (try split) <;> rfl
theorem UX (p:Dt) (x:Int):cJ p x=some (tM p x):=by
 unfold cJ tM
 split <;> (try split) <;> rfl
theorem IB (x:Int): -9223372036854775808≤IntKind.i64.wrap x∧IntKind.i64.wrap x≤9223372036854775807:=by
 simp only[IntKind.wrap,IntKind.bits,IntKind.signed,Bool.true_and]
 split <;> rename_i h <;> simp at h <;> omega
theorem SX (x:Int):iOk (IntKind.i64.wrap x)=true:=by
 have h1:IntKind.i64.min= -9223372036854775808:=by decide
 have h2:IntKind.i64.max=9223372036854775807:=by decide
 have h3:=IB x
 simp only[iOk,Lit.wf,h1,h2,Bool.and_eq_true,decide_eq_true_eq]
 omega
theorem UY (m n:Int):iOk (orI m n)=true:=SX _
theorem Mf (L:List Int) (m letter:Int): ∀i,iOk (pick L m letter i)=true
 | 0=>by unfold pick;decide
 | i+1=>by
  rw[pick]
  split
  ·exact UY _ _
  ·exact Mf L m letter i
def nxS (p:Dt) (x:Int):List (Option Int):=(List.range 9).map fun k:Nat=>if aft p x (k:Int)=0 then none else some (aft p x (k:Int))
theorem Qu {p:Dt} {x:Int} {k:Nat} (hk:k<9):nth (nxS p x) (k:Int)=if aft p x k=0 then none else some (aft p x k):=by
 have:k<(nxS p x).length:=by simp[nxS];omega
 rw[bq this];simp[nxS]
theorem Br (p:Dt) (x:Int):(nxS p x).length=9:=by simp[nxS]
theorem UZ {p:Dt} {x y:Int} (h:some y∈nxS p x):iOk y=true:=by
 obtain ⟨k,hk,e⟩:=List.mem_map.1 h
 split at e
 ·cases e
 ·obtain rfl:=Option.some.inj e
  exact Mf _ _ _ _
theorem Mg {κ:Type} [DecidableEq κ] : ∀(l:List κ) (os:List (Option κ)),(nbS l os).length≤l.length+os.length
 | l,[] =>by simp[nbS]
 | l,o::os=>by
  have h:=Mg (nbL l o) os
  have h2:(nbL l o).length≤l.length+1:=by
   cases o with
   | none=>simp[nbL]
   | some x=>unfold nbL;simp only;split <;> simp
  show (nbS (nbL l o) os).length≤_
  simp only[List.length_cons];omega
section
variable {κ:Type} [DecidableEq κ] (nx:κ→List (Option κ)) (first:κ) (acc:κ→Bool) (most:Nat)
def goM:Nat→Nat→AutT×Bool
 | 0,i=>((0,[],[]),false)
 | f+1,i=>if i<(bfS nx first i).length then (if (bfS nx first (i+1)).length>most then ((0,[],[]),false) else goM f (i+1)) else ((0,((bfS nx first i).take i).map acc,bfR nx first i),true)
end
section
variable {κ:Type} [DecidableEq κ] {nx:κ→List (Option κ)} {first:κ} {acc:κ→Bool} {most:Nat}
theorem Bs {i:Nat} (h: ∀j,j<i→j<(bfS nx first j).length):i≤(bfS nx first i).length:=by
 cases i with
 | zero=>omega
 | succ i =>
  have h1:=h i (by omega)
  have h2:=(a6 (nx:=nx) (first:=first) i).length_le
  omega
theorem GU {S:Type} {f:S→Option (Out (AutT×Bool) S)} (hm:most≤1000000) (h1:1≤most) (st:Nat→S→Prop)
  (hs: ∀i s,st i s→(∀j,j<i→j<(bfS nx first j).length)→(bfS nx first i).length≤most→i<(bfS nx first i).length→((bfS nx first (i+1)).length>most→f s=some (.ret ((0,[],[]),false)))∧((bfS nx first (i+1)).length≤most→ ∃s',f s=some (.nxt s')∧st (i+1) s'))
  (he: ∀i s,st i s→ ¬i<(bfS nx first i).length→f s=some (.brk s)) {s:S} (h0:st 0 s) :
  (ai f aB s=some (.ret ((0,[],[]),false))∧goM nx first acc most (most+2) 0=((0,[],[]),false)) ∨
  ∃N s',ai f aB s=some (.brk s')∧st N s'∧bfE nx first N∧N≤most∧goM nx first acc most (most+2) 0=((0,(bfS nx first N).map acc,bfR nx first N),true):=by
 obtain ⟨o,e,hq⟩:=bF (f:=f) (fun i s=>st i s∧(∀j,j<i→j<(bfS nx first j).length)∧(bfS nx first i).length≤most∧goM nx first acc most (most+2) 0=goM nx first acc most (most+2 - i) i)
  (fun o=>(o= .ret ((0,[],[]),false)∧goM nx first acc most (most+2) 0=((0,[],[]),false))∨ ∃N s',o= .brk s'∧st N s'∧bfE nx first N∧N≤most∧goM nx first acc most (most+2) 0=((0,(bfS nx first N).map acc,bfR nx first N),true)) most (s:=s) (by
  rintro i s hi ⟨k1,k2,k3,k4⟩
  have hle:=Bs k2
  rw[show most+2 - i=(most+1 - i)+1 from by omega] at k4
  have k5:goM nx first acc most (most+1 - i+1) i=if i<(bfS nx first i).length then (if (bfS nx first (i+1)).length>most then ((0,[],[]),false) else goM nx first acc most (most+1 - i) (i+1)) else ((0,((bfS nx first i).take i).map acc,bfR nx first i),true):=rfl
  rw[k5] at k4
  by_cases c:i<(bfS nx first i).length
  ·rw[if_pos c] at k4
   obtain ⟨q1,q2⟩:=hs i s k1 k2 k3 c
   by_cases d:(bfS nx first (i+1)).length>most
   ·rw[if_pos d] at k4
    exact .inr ⟨_,q1 d,(fun s' e=>by cases e),.inl ⟨rfl,k4⟩⟩
   ·rw[if_neg d] at k4
    obtain ⟨s',e,hs'⟩:=q2 (by omega)
    exact .inl ⟨by omega,s',e,hs',fun j hj=>(by
     by_cases ej:j=i
     ·subst ej;exact c
     ·exact k2 j (by omega)),by omega,by rw[k4];congr 1;omega⟩
  ·rw[if_neg c] at k4
   refine .inr ⟨_,he i s k1 c,(fun s' e=>by cases e),.inr ⟨i,s,rfl,k1,⟨by omega,k2⟩,hi,?_⟩⟩
   rw[k4,List.take_of_length_le (by omega)]) ⟨h0,fun j hj=>by omega,by simp[bfS];omega,rfl⟩ (gp (by omega))
 rcases hq with ⟨rfl,h⟩ | ⟨N,s',rfl,h⟩
 ·exact .inl ⟨e,h⟩
 ·exact .inr ⟨N,s',e,h⟩
end
section
variable {p:Dt} {most:Nat} (hl:p.2.2.2.1.length=p.1.length) (hb:p.1.length≤1000000) (hm:most≤900000) (h1:1≤most)
include hl hb hm h1
theorem Wx:ga p most=some (goM (nxS p) 1 (tM p) most (most+2) 0):=by
 have hp3: ∀(l:List Int) (i k:Nat),k<9→ ∃j,(fun a0 a1=>cw a0 a1 (p.1,p.2.1,p.2.2.1,p.2.2.2.1,p.2.2.2.2)) (nth l (i:Int)) (k:Int)=some (match nth (nxS p (nth l (i:Int))) (k:Int) with | some y=>(y,true) | none=>(j,false)):=by
  intro l i k hk
  refine ⟨0,?_⟩
  show cw _ _ p=_
  unfold cw
  simp only[eQ]
  rw[SV hl hb,Qu hk];simp only[Option.bind_some]
  by_cases c:aft p (nth l (i:Int)) k=0
  ·rw[if_pos c];simp[c]
  ·rw[if_neg c];simp[c]
 unfold ga dC
 rw[show I5 ([] :List (Int×Int)) iOk iOk 1 0=some [(1,0)] from by unfold I5;rw[if_pos ⟨by simp,by decide,by decide⟩]];simp only[Option.bind_some]
 rcases GU (nx:=nxS p) (first:=1) (acc:=tM p) (most:=most) (f:=br most (fun a0=>cJ (p.1,p.2.1,p.2.2.1,p.2.2.2.1,p.2.2.2.2) a0) (fun a0 a1=>cw a0 a1 (p.1,p.2.1,p.2.2.1,p.2.2.2.1,p.2.2.2.2)))
  (by omega) h1 (fun i s=> ∃M,s=(bfS (nxS p) 1 i,M,(i:Int),0,((bfS (nxS p) 1 i).take i).map (tM p),bfR (nxS p) 1 i)∧MapOf M (bfS (nxS p) 1 i)) (by
   rintro i s ⟨M,rfl,hM⟩ hj hle hlt
   have hil:=Bs hj
   obtain ⟨M',e,hM'⟩:=Dl (p3:=fun a0 a1=>cw a0 a1 (p.1,p.2.1,p.2.2.1,p.2.2.2.1,p.2.2.2.2)) (l:=bfS (nxS p) 1 i) (M:=M) (os:=nxS p (nth (bfS (nxS p) 1 i) (i:Int))) (acs:=((bfS (nxS p) 1 i).take i).map (tM p)) (rws:=bfR (nxS p) 1 i) hlt (Br _ _) hM (fun y hy=>UZ hy)
    (fun k=>by
     have:=Mg (bfS (nxS p) 1 i) ((nxS p (nth (bfS (nxS p) 1 i) (i:Int))).take k)
     have h9:=Br p (nth (bfS (nxS p) 1 i) (i:Int))
     rw[List.length_take] at this
     omega) (fun k hk=>hp3 _ i k hk)
   rw[←jD hlt] at hM'
   have hl2:=(a6 (nx:=nxS p) (first:=1) i).length_le
   constructor
   ·intro hgt
    unfold br
    simp only
    rw[if_pos (by simp;omega),ae e,←jD hlt]
    simp only
    rw[if_pos (by simp;omega)]
   ·intro hle2
    unfold br
    simp only
    rw[if_pos (by simp;omega),ae e,←jD hlt]
    simp only
    rw[if_neg (by simp;omega),aj (by omega) (by omega)];simp only[Option.bind_some]
    rw[iS (a6 i) (by omega) (by omega)]
    simp only[eQ]
    rw[UX];simp only[Option.bind_some]
    have hr:(bfR (nxS p) 1 i).length=i:=iP hj
    rw[au (by simp;omega)];simp only[Option.bind_some]
    rw[au (by simp;omega)];simp only[Option.bind_some,aa (show i<9223372036854775807 by omega)]
    exact ⟨_,rfl,M',by rw[vR hlt,tL hlt],hM'⟩) (by
   rintro i s ⟨M,rfl,hM⟩ hn
   unfold br
   simp only
   rw[if_neg (by simp;omega)]) (s:=([1],[(1,0)],0,0,[],[])) ⟨_,rfl,MapOf.one 1⟩ with ⟨e,hg⟩ | ⟨N,s',e,⟨M,rfl,hM⟩,hN,hNm,hg⟩
 ·rw[aK e,hg];rfl
 ·rw[ae e,hg];simp only[Option.bind_some]
  rw[List.take_of_length_le (by have:=hN.1;omega)]
theorem Pp {l:List Int} {acs:List Bool} {rws:List (List Int)} {i:Nat} (hi:i<l.length) (hle:l.length≤most) :
  ai (eE p (l,(i:Int),0,acs,rws)) aB (l,[],0)=some (.brk (nbS l (nxS p (nth l (i:Int))),nbR l (nxS p (nth l (i:Int))),9)):=by
 have h9:=Br p (nth l (i:Int))
 have:=ax (f:=eE p (l,(i:Int),0,acs,rws)) (fun k=>(nbS l ((nxS p (nth l (i:Int))).take k),nbR l ((nxS p (nth l (i:Int))).take k),(k:Int))) 9 (fun k hk=>by
  have hpre:=j9 l ((nxS p (nth l (i:Int))).take k)
  have hlen:=hpre.length_le
  have hB:=Mg l ((nxS p (nth l (i:Int))).take k)
  rw[List.length_take] at hB
  have hrl:(nbR l ((nxS p (nth l (i:Int))).take k)).length≤9:=by rw[dH,List.length_take];omega
  unfold eE
  simp only[eQ]
  rw[if_pos (by simp;omega),aj (by omega) (by omega)];simp only[Option.bind_some]
  rw[iS hpre (by omega) (by omega),SU hl hb];simp only[Option.bind_some]
  rw[take_one (by omega),tw,q8,Qu hk]
  simp only[aa (show k<9223372036854775807 by omega)]
  by_cases c:aft p (nth l (i:Int)) k=0
  ·rw[if_pos c,if_neg (by simp[c])];simp only[Option.bind_some]
   rw[au (by simp;omega)];rfl
  ·rw[if_neg c,if_pos (by simpa using c),Qt (by omega)];simp only[Option.bind_some]
   by_cases d:aft p (nth l (i:Int)) k∈nbS l ((nxS p (nth l (i:Int))).take k)
   ·rw[if_pos d,if_neg (by simp),kY d];simp only[Option.bind_some]
    rw[au (by simp;omega)];rfl
   ·rw[if_neg d,if_pos (by decide),au (by simp;omega),ka d];simp only[Option.bind_some]
    rw[au (by simp;omega)];simp only[nbI,oe d,Option.bind_some]) (by
  unfold eE
  simp) (by unfold aB;omega)
 have e9:(nxS p (nth l (i:Int))).take 9=nxS p (nth l (i:Int)):=List.take_of_length_le (by omega)
 rw[e9] at this
 exact this
theorem Wy:gX p most=some (goM (nxS p) 1 (tM p) most (most+2) 0):=by
 unfold gX
 rcases GU (nx:=nxS p) (first:=1) (acc:=tM p) (most:=most) (f:=eG p most)
  (by omega) h1 (fun i s=>s=(bfS (nxS p) 1 i,(i:Int),0,((bfS (nxS p) 1 i).take i).map (tM p),bfR (nxS p) 1 i)) (by
   rintro i s rfl hj hle hlt
   have hil:=Bs hj
   have e:=Pp hl hb hm h1 (acs:=((bfS (nxS p) 1 i).take i).map (tM p)) (rws:=bfR (nxS p) 1 i) hlt hle
   have hl2:=(a6 (nx:=nxS p) (first:=1) i).length_le
   constructor
   ·intro hgt
    unfold eG
    simp only
    rw[if_pos (by simp;omega),ae e,←jD hlt]
    simp only
    rw[if_pos (by simp;omega)]
   ·intro hle2
    unfold eG
    simp only
    rw[if_pos (by simp;omega),ae e,←jD hlt]
    simp only
    rw[if_neg (by simp;omega),aj (by omega) (by omega)];simp only[Option.bind_some]
    rw[iS (a6 i) (by omega) (by omega)]
    simp only[eQ]
    rw[UW];simp only[Option.bind_some]
    have hr:(bfR (nxS p) 1 i).length=i:=iP hj
    rw[au (by simp;omega)];simp only[Option.bind_some]
    rw[au (by simp;omega)];simp only[Option.bind_some,aa (show i<9223372036854775807 by omega)]
    exact ⟨_,rfl,by rw[vR hlt,tL hlt]⟩) (by
   rintro i s rfl hn
   unfold eG
   simp only
   rw[if_neg (by simp;omega)]) (s:=([1],0,0,[],[])) rfl with ⟨e,hg⟩ | ⟨N,s',e,rfl,hN,hNm,hg⟩
 ·rw[aK e,hg]
 ·rw[ae e,hg];simp only
  rw[List.take_of_length_le (by have:=hN.1;omega)]
end
end D
namespace D
open Go.RowKit
theorem Pq (m n:Int):orI m n=orI n m:=by unfold orI;rw[BitVec.or_comm]
def lk (F:List Int) (from_ to_:Int):Nat→List Int
 | 0=>F
 | i+1=>if Pn from_ i then (lk F from_ to_ i).set i (orI (nth (lk F from_ to_ i) (i:Int)) to_) else lk F from_ to_ i
theorem yc (F:List Int) (f t:Int): ∀i,(lk F f t i).length=F.length
 | 0=>rfl
 | i+1=>by
  rw[lk]
  split
  ·rw[List.length_set,yc]
  ·exact yc F f t i
theorem Qv {p:Dt} {f t:Int} (hl:p.2.2.2.1.length≤1000000):lU p f t=some (p.1,p.2.1,p.2.2.1,lk p.2.2.2.1 f t p.2.2.2.1.length,p.2.2.2.2):=by
 have hL:ai (gW f t) aB (0,p.2.2.2.1)=some (.brk ((p.2.2.2.1.length:Int),lk p.2.2.2.1 f t p.2.2.2.1.length)):=ax (f:=gW f t) (fun i=>((i:Int),lk p.2.2.2.1 f t i)) p.2.2.2.1.length (fun i hi=>by
  have hk:=yc p.2.2.2.1 f t i
  unfold gW
  simp only
  rw[if_pos (by simp;omega),qu];simp only[Option.bind_some]
  rw[lk,aa (by omega)]
  by_cases c:Pn f i=true
  ·rw[if_pos c,if_pos c,aj (by omega) (by omega)];simp only[Option.bind_some,Int.toNat_natCast]
  ·rw[if_neg c,if_neg c];rfl) (by unfold gW;simp[yc]) (gp (by omega))
 unfold lU
 rw[ae hL]
theorem GV {p:Dt} {f t:Int} (hl:p.2.2.2.1.length≤1000000):c8 p f t=some (p.1,p.2.1,p.2.2.1,lk p.2.2.2.1 f t p.2.2.2.1.length,p.2.2.2.2):=by
 have hL:ai (bU p f t) aB (0,p.2.2.2.1)=some (.brk ((p.2.2.2.1.length:Int),lk p.2.2.2.1 f t p.2.2.2.1.length)):=ax (f:=bU p f t) (fun i=>((i:Int),lk p.2.2.2.1 f t i)) p.2.2.2.1.length (fun i hi=>by
  have hk:=yc p.2.2.2.1 f t i
  unfold bU
  simp only
  rw[if_pos (by simp;omega),qu];simp only[Option.bind_some]
  rw[lk,aa (by omega)]
  by_cases c:Pn f i=true
  ·rw[if_pos c,if_pos c,aj (by omega) (by omega)];simp only[Option.bind_some,Int.toNat_natCast]
  ·rw[if_neg c,if_neg c];rfl) (by unfold bU;simp) (gp (by omega))
 unfold c8
 rw[ae hL]
def BOk (x:Tr Tok):Prop:= ∀(n m:Nat) (p:Dt),(flat x).length≤n→(flat x).length≤m→p.2.2.2.1.length=p.1.length→p.1.length+(flat x).length≤100000→
 ∃(nu:Bool) (fi la:Int) (q:Dt),cD n p (flat x)=some ((nu,fi,la),q)∧aQ m p x=some ((fi,la,nu),q)∧q.2.2.2.1.length=q.1.length∧q.1.length≤p.1.length+(flat x).length
theorem Ps {x:Tr Tok} (h:WT x):BOk x:=by
 refine WT.ind (p:=BOk) ?_ ?_ ?_ h
 ·intro t e n m p hn hm hF hl
  rw[xU] at hn hm hl⊢
  simp only[List.length_cons,List.length_nil] at hl
  match n,m,hn,hm with
  | n+1,m+1,_,_ =>
   rw[cD,aQ];simp only[lf,Option.bind_some]
   have:=(iA (A:=[]) (t:=t) (by simp)).1
   rw[List.nil_append] at this
   rw[this];simp only[Option.bind_some,eQ]
   rcases jA (show 0≤ar t by omega) with ⟨k,_⟩ | ⟨k,_⟩ | ⟨_,k⟩
   ·omega
   ·omega
   rcases k with k | k | k
   ·exact ⟨false,0,0,p,by simp[k],by simp[k],hF,by simp⟩
   ·exact ⟨true,0,0,p,by simp[k],by simp[k],hF,by simp⟩
   ·refine ⟨false,pA 1 (p.1.length:Int),pA 1 (p.1.length:Int),(p.1++ [t.2.1],p.2.1,p.2.2.1,p.2.2.2.1++ [0],p.2.2.2.2),?_,?_,by simp[hF],by simp⟩
    ·rw[if_neg (by simp[k]),if_pos (by simp[k]),au (by simp;omega)];simp only[Option.bind_some]
     rw[au (by simp;omega)];rfl
    ·rw[if_neg (by simp[k]),if_pos (by simp[k]),au (by simp;omega)];simp only[Option.bind_some]
     rw[au (by simp;omega)];rfl
 ·intro t a e wa ih n m p hn hm hF hl
  rw[yG] at hn hm hl⊢
  simp only[List.length_append,List.length_cons,List.length_nil] at hn hm hl
  match n,m,hn,hm with
  | n+1,m+1,hn,hm =>
   rw[cD,aQ];simp only[lf,Option.bind_some,eQ]
   obtain ⟨l1,l2⟩:=iA (A:=flat a) (t:=t) (by omega)
   rw[l1];simp only[Option.bind_some]
   obtain ⟨nu,fi,la,q,hs,hi,hq1,hq2⟩:=ih n m p (by omega) (by omega) hF (by omega)
   rcases O9 e with ⟨k1,k2⟩ | ⟨k1,k2,k3⟩
   ·have g2:(t.1==2)=false:=by simp[k2]
    have g3:(t.1==3)=false:=by simp[k2]
    have g4:(t.1==4)=false:=by simp[k2]
    have g5:(t.1==5)=false:=by simp[k2]
    simp only[g2,g3,g4,g5,k1,Bool.false_eq_true,if_false,if_true]
    rw[l2,Int.toNat_natCast,List.take_left,iQ (by simp only[List.length_append,List.length_cons,List.length_nil];omega)];simp only[Option.bind_some]
    rw[hs,show aw [a] 0=some a from rfl];simp only[Option.bind_some]
    rw[hi];simp only[Option.bind_some,eQ]
    rw[Qv (by omega),GV (by omega)];simp only[Option.bind_some]
    refine ⟨true,fi,la,_,rfl,rfl,?_,?_⟩
    ·simp only[yc];exact hq1
    ·simp only[List.length_append,List.length_cons,List.length_nil];omega
   ·have g2:(t.1==2)=false:=by simp[k3]
    have g3:(t.1==3)=false:=by simp[k3]
    have g4:(t.1==4)=false:=by simp[k3]
    have g5:(t.1==5)=false:=by simp[k3]
    simp only[g2,g3,g4,g5,k1,Bool.false_eq_true,if_false]
    exact ⟨false,0,0,p,rfl,rfl,hF,by omega⟩
 ·intro t a b e wa wb iha ihb n m p hn hm hF hl
  rw[ri] at hn hm hl⊢
  have hl2:((flat a++flat b)++ [t]).length≤1000000:=by omega
  obtain ⟨p1,p2,p3,p4⟩:=tH (a:=a) (t:=t) wb hl2
  simp only[List.length_append,List.length_cons,List.length_nil] at hn hm hl
  match n,m,hn,hm with
  | n+1,m+1,hn,hm =>
   have hpa:=wa.pos
   have hpb:=wb.pos
   rw[cD,aQ];simp only[lf,Option.bind_some,eQ]
   obtain ⟨l1,l2⟩:=iA (A:=flat a++flat b) (t:=t) (by rw[List.length_append];omega)
   rw[l1];simp only[Option.bind_some]
   obtain ⟨nu,fi,la,q,hs,hi,hq1,hq2⟩:=iha n m p (by omega) (by omega) hF (by omega)
   obtain ⟨nu2,fi2,la2,q2,hs2,hi2,hq3,hq4⟩:=ihb n m q (by omega) (by omega) hq1 (by omega)
   have c1: ∀r:Int,0≤r→r≤((flat a++flat b++ [t]).length:Int)→chk (0≤r∧r≤((flat a++flat b++ [t]).length:Int))=some ():=fun r h1 h2=>iQ ⟨h1,h2⟩
   have g0:aw [a,b] 0=some a:=rfl
   have g1:aw [a,b] 1=some b:=rfl
   rcases jA (show 0≤ar t by omega) with ⟨_,k⟩ | ⟨k,_⟩ | ⟨k,_⟩
   ·rcases k with k | k
    ·have g2:(t.1==2)=false:=by simp[k]
     have g3:(t.1==3)=false:=by simp[k]
     have g4:(t.1==4)=true:=by simp[k]
     have g5:(t.1==5)=false:=by simp[k]
     simp only[g2,g3,g4,g5,Bool.false_eq_true,if_false,if_true]
     rw[l2,p1,p2,iQ (by simp only[List.length_append,List.length_cons,List.length_nil];omega)];simp only[Option.bind_some]
     rw[iQ (by simp only[List.length_append,List.length_cons,List.length_nil];omega),p3,p4,hs,g0,g1];simp only[Option.bind_some]
     rw[hi,iQ (by simp only[List.length_append,List.length_cons,List.length_nil];omega)];simp only[Option.bind_some,eQ]
     rw[hs2,hi2];simp only[Option.bind_some,eQ]
     rw[Qv (by omega),GV (by omega)];simp only[Option.bind_some]
     refine ⟨nu&&nu2,if nu then orI fi fi2 else fi,if nu2 then orI la la2 else la2,(q2.1,q2.2.1,q2.2.2.1,lk q2.2.2.2.1 la fi2 q2.2.2.2.1.length,q2.2.2.2.2),?_,?_,?_,?_⟩
     ·cases nu <;> cases nu2 <;> rfl
     ·rw[Pq la la2]
      cases nu <;> cases nu2 <;> rfl
     ·simp only[yc];exact hq3
     ·simp only[List.length_append,List.length_cons,List.length_nil];omega
    ·have g2:(t.1==2)=false:=by simp[k]
     have g3:(t.1==3)=false:=by simp[k]
     have g4:(t.1==4)=false:=by simp[k]
     have g5:(t.1==5)=true:=by simp[k]
     simp only[g2,g3,g4,g5,Bool.false_eq_true,if_false,if_true]
     rw[l2,p1,p2,iQ (by simp only[List.length_append,List.length_cons,List.length_nil];omega)];simp only[Option.bind_some]
     rw[iQ (by simp only[List.length_append,List.length_cons,List.length_nil];omega),p3,p4,hs,g0,g1];simp only[Option.bind_some]
     rw[hi,iQ (by simp only[List.length_append,List.length_cons,List.length_nil];omega)];simp only[Option.bind_some,eQ]
     rw[hs2,hi2];simp only[Option.bind_some,eQ]
     refine ⟨nu || nu2,orI fi fi2,orI la la2,q2,?_,?_,hq3,?_⟩
     ·cases nu <;> simp
     ·cases nu <;> simp
     ·simp only[List.length_append,List.length_cons,List.length_nil];omega
   ·omega
   ·omega
def Ff (e:List Tok):Nat→Nat
 | 0=>0
 | i+1=>if (nth e (i:Int)).1=3 then Ff e i+1 else Ff e i
theorem Fg (e:List Tok): ∀i,Ff e i≤i
 | 0=>Nat.le_refl _
 | i+1=>by
  have:=Fg e i
  rw[Ff];split <;> omega
theorem Wz {r:List Tok×Bool} (hl:r.1.length≤1000000):ai (cE r) aB (0,0)=some (.brk ((Ff r.1 r.1.length:Int),(r.1.length:Int))):=
 ax (f:=cE r) (fun i=>((Ff r.1 i:Int),(i:Int))) r.1.length (fun i hi=>by
  have:=Fg r.1 i
  unfold cE
  simp only
  rw[if_pos (by simp;omega),aj (by omega) (by omega)];simp only[Option.bind_some]
  rw[Ff,aa (show i<9223372036854775807 by omega),aa (show Ff r.1 i<9223372036854775807 by omega)]
  by_cases c:(nth r.1 (i:Int)).1=3
  ·rw[if_pos (by simpa using c),if_pos c];rfl
  ·rw[if_neg (by simpa using c),if_neg c];rfl) (by unfold cE;simp) (gp (by omega))
theorem WA {r:List Tok×Bool} (hl:r.1.length≤1000000):ai (cH r) aB (0,0)=some (.brk ((Ff r.1 r.1.length:Int),(r.1.length:Int))):=
 ax (f:=cH r) (fun i=>((Ff r.1 i:Int),(i:Int))) r.1.length (fun i hi=>by
  have:=Fg r.1 i
  unfold cH
  simp only
  rw[if_pos (by simp;omega),aj (by omega) (by omega)];simp only[Option.bind_some]
  rw[Ff,aa (show i<9223372036854775807 by omega),aa (show Ff r.1 i<9223372036854775807 by omega)]
  by_cases c:(nth r.1 (i:Int)).1=3
  ·rw[if_pos (by simpa using c),if_pos c];rfl
  ·rw[if_neg (by simpa using c),if_neg c];rfl) (by unfold cH;simp) (gp (by omega))
theorem su {e:List Tok} (he:e.length≤1048576): ∃r:Dt×Bool,fD e=some r∧fG e=some r∧r.1.2.2.2.1.length=r.1.1.length∧r.1.1.length≤100000:=by
 have hF:=qp
 obtain ⟨e1,e2⟩:=E6 he
 unfold fD fG
 rw[e1,e2];simp only[Option.bind_some]
 by_cases c:(Iz e).2=true
 ·obtain ⟨y,wy,ey,ly⟩:=SC c
  rw[if_pos c,if_pos c,ae (Wz (by rw[ey];omega)),ae (WA (by rw[ey];omega))]
  simp only
  by_cases d:(Ff (Iz e).1 (Iz e).1.length:Int)>20
  ·have d':decide ((Ff (Iz e).1 (Iz e).1.length:Int)>20)=true:=decide_eq_true d
   simp only[d',if_true]
   exact ⟨_,rfl,rfl,rfl,by simp⟩
  ·have d':decide ((Ff (Iz e).1 (Iz e).1.length:Int)>20)=false:=decide_eq_false d
   simp only[d',Bool.false_eq_true,if_false]
   rw[ey,vO (by omega),uG wy];simp only[Option.bind_some]
   obtain ⟨nu,fi,la,q,hs,hi,hq1,hq2⟩:=Ps wy dy dy ([],0,0,[],false) (by omega) (by omega) rfl (by simp;omega)
   rw[hs,hi];simp only[Option.bind_some]
   exact ⟨_,rfl,rfl,hq1,by simp at hq2;show q.1.length≤_;omega⟩
 ·rw[if_neg c,if_neg c]
  exact ⟨_,rfl,rfl,rfl,by simp⟩
end D
namespace D
open Go.RowKit
theorem IC (n:Nat) (l:List Int) (hd:l.Nodup) (h: ∀x∈l,0≤x∧x<n):l.length≤n:=by
 have:=hd.length_le_of_subset (l₂:=(List.range n).map Int.ofNat) (fun x hx=>by
  obtain ⟨h0,h1⟩:=h x hx
  exact List.mem_map.2 ⟨x.toNat,List.mem_range.2 (by omega),by show ((x.toNat:Nat):Int)=x;omega⟩)
 simpa using this
theorem U0 {n:Nat} {x:Int} (hn:n≤1000000) (h0:0≤x) (h1:x<n):iOk x=true:=by
 have:=Md (n:=x.toNat) (by omega)
 rwa [show ((x.toNat:Nat):Int)=x from by omega] at this
theorem U1 {κ:Type} [DecidableEq κ] {nx:κ→List (Option κ)} {first:κ} {G:κ→Prop} {B N:Nat} {acc:κ→Bool} (H:NumOk nx first G B) (hB:B≤1000000) (hN:bfE nx first N):Data.sm ((0,(bfS nx first N).map acc,bfR nx first N):AutT):=by
 have hl:=H.bound _ (mu (nx:=nx) (first:=first) N) (jv H.g0 H.gn N)
 refine ⟨trivial,⟨by rw[List.length_map];omega,fun _ _=>trivial⟩,?_,?_⟩
 ·rw[iP hN.2];have:=hN.1;omega
 ·have key: ∀i,i≤N→ ∀r∈bfR nx first i,r.length=9:=by
   intro i
   induction i with
   | zero=>intro _ r hr;cases hr
   | succ i ih =>
    intro hi r hr
    have hlt:=hN.2 i (by omega)
    rw[tx hlt] at hr
    rcases List.mem_append.1 hr with hr | hr
    ·exact ih (by omega) r hr
    ·obtain rfl:=List.mem_singleton.1 hr
     rw[dH,H.len _ (jv H.g0 H.gn i _ (List.getElem_mem hlt))]
  intro r hr
  exact ⟨by rw[key N (Nat.le_refl _) r hr];decide,fun _ _=>trivial⟩
theorem ID:Data.sm nothing:=⟨trivial,⟨by decide,fun _ _=>trivial⟩,by decide,fun r hr=>by
 obtain rfl:=List.mem_singleton.1 hr
 exact ⟨by decide,fun _ _=>trivial⟩⟩
end D
namespace D
open Go.RowKit
theorem IE {κ:Type} [DecidableEq κ] {l m:List κ} (h:l <+:m) {y:κ} (hy:y∈l):(m.idxOf y:Int)=l.idxOf y:=by
 obtain ⟨t,rfl⟩:=h
 rw[List.idxOf_append,if_pos hy]
theorem Qw {κ:Type} [DecidableEq κ] : ∀(l:List κ) (os:List (Option κ)) (i:Nat),i<os.length→nth (nbR l os) (i:Int)=nbI (nbS l os) (nth os (i:Int))
 | l,o::os,0,_=>by
  show nbI l o=nbI (nbS (nbL l o) os) o
  cases o with
  | none=>rfl
  | some y =>
   have hm:y∈nbL l (some y):=Lp.2 (.inr rfl)
   simp only[nbI]
   rw[IE (j9 _ os) hm]
   by_cases c:y∈l
   ·rw[kY c]
   ·rw[ka c,List.idxOf_append,if_neg c,oe c];simp
 | l,o::os,i+1,h=>by
  have h':i<os.length:=by simpa using h
  have ih:=Qw (nbL l o) os i h'
  have e1:nth (nbR l (o::os)) ((i+1:Nat):Int)=nth (nbR (nbL l o) os) (i:Int):=by
   rw[bq (by rw[dH];exact h),bq (by rw[dH];exact h')];rfl
  have e2:nth (o::os) ((i+1:Nat):Int)=nth os (i:Int):=by rw[bq h,bq h'];rfl
  rw[e1,e2];exact ih
theorem nB {κ:Type} [DecidableEq κ] {l:List κ} {y:κ} (h:y∈l): ∃(q:Nat) (hq:q<l.length),nbI l (some y)=(q:Int)∧l[q] =y:=
 ⟨l.idxOf y,List.idxOf_lt_length_of_mem h,rfl,by simp⟩
theorem Bt {κ:Type} [DecidableEq κ] {l:List κ} {y:κ} (h:y∉l):nbI l (some y)=(l.length:Int):=by simp only[nbI,oe h]
def Qx:List Int→Nat→Nat→Prop
 | [],c,m=>c=m
 | x::xs,c,m=>(x= -1∧Qx xs c m)∨(0≤x∧x<c∧Qx xs c m)∨(x=c∧Qx xs (c+1) m)
theorem Bu {κ:Type} [DecidableEq κ] : ∀(os:List (Option κ)) (l:List κ),Qx (nbR l os) l.length (nbS l os).length
 | [],l=>rfl
 | none::os,l=>.inl ⟨rfl,Bu os l⟩
 | some y::os,l=>by
  by_cases c:y∈l
  ·refine .inr (.inl ⟨Int.natCast_nonneg _,?_,?_⟩)
   ·have:=List.idxOf_lt_length_of_mem c
    simp only[nbI];omega
   ·show Qx (nbR (nbL l (some y)) os) l.length (nbS (nbL l (some y)) os).length
    rw[kY c];exact Bu os l
  ·refine .inr (.inr ⟨by simp only[nbI,oe c],?_⟩)
   show Qx (nbR (nbL l (some y)) os) (l.length+1) (nbS (nbL l (some y)) os).length
   have:=Bu os (l++ [y])
   rw[ka c]
   simpa using this
def Vy:List Int→List (Option (List Int))→Prop
 | [],[] =>True
 | x::xs,o::os=>((x<0∧o=none)∨(0≤x∧ ∃t,o=some (x::t)))∧Vy xs os
 | _,_=>False
theorem Mh: ∀(xs:List Int) (os:List (Option (List Int))),xs.length=os.length→(∀i (h:i<xs.length) (h':i<os.length),(xs[i] < 0∧os[i] =none)∨(0≤xs[i] ∧ ∃t,os[i] =some (xs[i] ::t)))→Vy xs os
 | [],[],_,_=>trivial
 | x::xs,o::os,hl,h=>⟨h 0 (by simp) (by simp),Mh xs os (by simpa using hl) fun i h1 h2=>h (i+1) (by simpa using h1) (by simpa using h2)⟩
theorem mz: ∀(xs:List Int) (os:List (Option (List Int))) (l:List (List Int)) (c m:Nat),Vy xs os→Qx xs c m→(∀y∈l,∃h t,y=h::t∧h<c)→
  m+l.length≤(nbS l os).length+c∧(l.length=c→(∀(q:Nat) (hq:q<l.length),∃t,l[q] =(q:Int)::t)→(nbS l os).length=m→nbR l os=xs)
 | [],[],l,c,m,_,hn,_=>by
  have hn:c=m:=hn
  subst hn
  exact ⟨by simp[nbS];omega,fun _ _ _=>rfl⟩
 | x::xs,o::os,l,c,m,hr,hn,hh=>by
  obtain ⟨hr1,hr2⟩:=hr
  rcases hn with ⟨rfl,hn⟩ | ⟨hx0,hxc,hn⟩ | ⟨rfl,hn⟩
  ·have ho:o=none:=by
    rcases hr1 with ⟨-,h⟩ | ⟨h,-⟩
    ·exact h
    ·omega
   subst ho
   obtain ⟨i1,i2⟩:=mz xs os l c m hr2 hn hh
   exact ⟨i1,fun h1 h2 h3=>by show -1::nbR l os=_;rw[i2 h1 h2 h3]⟩
  ·obtain ⟨t,rfl⟩: ∃t,o=some (x::t):=by
    rcases hr1 with ⟨h,-⟩ | ⟨-,h⟩
    ·omega
    ·exact h
   by_cases k:(x::t)∈l
   ·obtain ⟨i1,i2⟩:=mz xs os l c m hr2 hn hh
    have hb:nbL l (some (x::t))=l:=kY k
    refine ⟨by show m+l.length≤(nbS (nbL l (some (x::t))) os).length+c;rw[hb];exact i1,fun h1 h2 h3=>?_⟩
    have h3:(nbS (nbL l (some (x::t))) os).length=m:=h3
    rw[hb] at h3
    obtain ⟨q,hq,e1,e2⟩:=nB k
    obtain ⟨t',ht'⟩:=h2 _ hq
    rw[e2] at ht'
    have:x=(q:Int):=by injection ht'
    show nbI l (some (x::t))::nbR (nbL l (some (x::t))) os=_
    rw[e1,←this,hb,i2 h1 h2 h3]
   ·have hb:nbL l (some (x::t))=l++ [x::t]:=ka k
    obtain ⟨i1,i2⟩:=mz xs os (l++ [x::t]) c m hr2 hn (fun y hy=>by
     rcases List.mem_append.1 hy with hy | hy
     ·exact hh y hy
     ·obtain rfl:=List.mem_singleton.1 hy
      exact ⟨x,t,rfl,hxc⟩)
    rw[List.length_append,List.length_singleton] at i1
    refine ⟨by show m+l.length≤(nbS (nbL l (some (x::t))) os).length+c;rw[hb];omega,fun h1 h2 h3=>?_⟩
    have h3:(nbS (nbL l (some (x::t))) os).length=m:=h3
    rw[hb] at h3
    omega
  ·obtain ⟨t,rfl⟩: ∃t,o=some ((c:Int)::t):=by
    rcases hr1 with ⟨h,-⟩ | ⟨-,h⟩
    ·omega
    ·exact h
   have k:((c:Int)::t)∉l:=fun k=>by
    obtain ⟨h,t',e,hlt⟩:=hh _ k
    have:(c:Int)=h:=by injection e
    omega
   have hb:nbL l (some ((c:Int)::t))=l++ [(c:Int)::t]:=ka k
   obtain ⟨i1,i2⟩:=mz xs os (l++ [(c:Int)::t]) (c+1) m hr2 hn (fun y hy=>by
    rcases List.mem_append.1 hy with hy | hy
    ·obtain ⟨h,t',e,hlt⟩:=hh y hy
     exact ⟨h,t',e,by omega⟩
    ·obtain rfl:=List.mem_singleton.1 hy
     exact ⟨c,t,rfl,by omega⟩)
   have hlen:(l++ [(c:Int)::t]).length=l.length+1:=by simp
   rw[hlen] at i1
   refine ⟨by show m+l.length≤(nbS (nbL l (some ((c:Int)::t))) os).length+c;rw[hb];omega,fun h1 h2 h3=>?_⟩
   have h3:(nbS (nbL l (some ((c:Int)::t))) os).length=m:=h3
   rw[hb] at h3
   have:=i2 (by rw[hlen,h1]) (fun q hq=>by
    by_cases e:q<l.length
    ·rw[List.getElem_append_left e];exact h2 q e
    ·have e:q=l.length:=by omega
     subst e
     exact ⟨t,by simp;omega⟩) h3
   show nbI l (some ((c:Int)::t))::nbR (nbL l (some ((c:Int)::t))) os=_
   rw[hb,this,Bt k,h1]
theorem Mi (xs ys:List Int) (hN:xs.length≤1048576): ∃r,pS xs ys=some r∧(r=0↔xs=ys):=by
 unfold pS
 have h0:=Ut (f:=mK xs ys) xs ys (fun i h h'=>by
  simp only[mK,bA h,bA h',if_true,aq h,aq h',Option.bind_some,aa (show i<9223372036854775807 by omega)]
  by_cases h1:xs[i] < ys[i]
  ·simp[h1]
  ·by_cases h2:xs[i] > ys[i]
   ·simp[h1,h2]
   ·simp[h1,h2]) (fun i hi=>by
  simp only[mK]
  by_cases h1:i<xs.length
  ·have h2: ¬i<ys.length:=by omega
   simp[h1,h2]
  ·simp[h1]) xs.length 0 aB (by omega) (na _ (by omega))
 rw[show (((0:Nat):Int))=(0:Int) from rfl] at h0
 rcases h0 with ⟨r,e,h1,h2⟩ | ⟨s,e,h1⟩
 ·exact ⟨r,by rw[e];rfl,by simp[h1,h2]⟩
 ·rw[e]
  simp only[az]
  by_cases c1:xs.length<ys.length
  ·exact ⟨-1,by simp[c1],by simp;intro e;subst e;omega⟩
  ·by_cases c2:xs.length>ys.length
   ·exact ⟨1,by simp[c1,c2],by simp;intro e;subst e;omega⟩
   ·exact ⟨0,by simp[c1,c2],by simpa using h1 (by omega)⟩
theorem Mj (xs ys:List Int) (hN:xs.length≤9223372036854775807):dA xs ys=some (decide (xs=ys)):=
 eqL (f:=bH xs ys) xs ys hN (fun i h h'=>by
  simp only[bH,bA h,if_true,aq h,aq h',Option.bind_some,aa (show i<9223372036854775807 by omega)]
  by_cases c:xs[i] =ys[i] <;> simp[c]) (by simp only[bH,bh];rfl)
def IQ (a:AutT):List Int:=(List.range a.2.1.length).map fun s:Nat=>if nth (live a) (s:Int)=true then (if nth a.2.1 (s:Int)=true then 1 else 0) else -1
def ent (a:AutT) (c:List Int) (s:Int) (k:Nat):Int:=if mv a s k<0 then -1 else nth c (mv a s k)
def Bv (a:AutT) (c:List Int) (s:Int):List Int:=nth c s::(List.range 9).map fun k=>ent a c s k
def By (a:AutT) (c:List Int) (s:Nat):Option (List Int):=if nth c (s:Int)<0 then none else some (Bv a c s)
def keys (a:AutT) (c:List Int):List (Option (List Int)):=(List.range a.2.1.length).map (By a c)
def zV (a:AutT) (c:List Int):List Int:=nbR [] (keys a c)
def vS (a:AutT) (c:List Int):Nat:=(nbS [] (keys a c)).length
def cI (a:AutT):Nat→List Int
 | 0=>IQ a
 | j+1=>zV a (cI a j)
section
variable {a:AutT} {n:Nat}
theorem du (a:AutT) (c:List Int):(keys a c).length=a.2.1.length:=by simp[keys]
theorem Fh {c:List Int} {s:Nat} (h:s<a.2.1.length):nth (keys a c) (s:Int)=By a c s:=by
 rw[bq (by simpa [keys] using h)];simp[keys]
theorem yd (a:AutT) (c:List Int):(zV a c).length=a.2.1.length:=by rw[zV,dH,du]
theorem mA (a:AutT): ∀j,(cI a j).length=a.2.1.length
 | 0=>by simp[cI,IQ]
 | j+1=>yd a _
theorem o8 {κ:Type} [DecidableEq κ] : ∀(l:List κ) (os:List (Option κ)),(nbS l os).length≤l.length+os.length
 | l,[] =>by simp[nbS]
 | l,o::os=>by
  have h:=o8 (nbL l o) os
  have:(nbL l o).length≤l.length+1:=by
   cases o with
   | none=>simp[nbL]
   | some x=>unfold nbL;simp only;split <;> simp
  show (nbS (nbL l o) os).length≤_
  rw[List.length_cons];omega
theorem Fi (a:AutT) (c:List Int):vS a c≤a.2.1.length:=by
 have:=o8 ([] :List (List Int)) (keys a c)
 rw[du] at this
 simpa [vS] using this
theorem Bw {c:List Int} {s:Nat} (h:s<a.2.1.length):nth (zV a c) (s:Int)=nbI (nbS [] (keys a c)) (By a c s):=by
 rw[zV,Qw _ _ _ (by rw[du];exact h),Fh h]
theorem ye {c:List Int} {s:Nat} (h:s<a.2.1.length) (hc: ¬nth c (s:Int)<0):Bv a c s∈nbS [] (keys a c):=by
 refine uB.2 (.inr ?_)
 refine List.mem_map.2 ⟨s,List.mem_range.2 h,?_⟩
 unfold By;rw[if_neg hc]
theorem vT {c:List Int} {s:Nat} (h:s<a.2.1.length):(nth (zV a c) (s:Int)<0↔nth c (s:Int)<0)∧(nth (zV a c) (s:Int)<0→nth (zV a c) (s:Int)= -1):=by
 rw[Bw h]
 unfold By
 by_cases hc:nth c (s:Int)<0
 ·rw[if_pos hc];simp[nbI,hc]
 ·rw[if_neg hc]
  obtain ⟨q,hq,e,-⟩:=nB (ye h hc)
  rw[e]
  exact ⟨⟨fun h=>by omega,fun h=>absurd h hc⟩,fun h=>by omega⟩
theorem SY {c:List Int} {s:Nat} (h:s<a.2.1.length):nth (zV a c) (s:Int)<(a.2.1.length:Int):=by
 rw[Bw h]
 unfold By
 by_cases hc:nth c (s:Int)<0
 ·rw[if_pos hc];simp only[nbI];omega
 ·rw[if_neg hc]
  obtain ⟨q,hq,e,-⟩:=nB (ye h hc)
  have:=Fi a c
  unfold vS at this
  rw[e];omega
theorem Mk {c:List Int} {s t:Nat} (hs:s<a.2.1.length) (ht:t<a.2.1.length) (h0:0≤nth (zV a c) (s:Int)) (h:nth (zV a c) (s:Int)=nth (zV a c) (t:Int)):Bv a c s=Bv a c t:=by
 have n1: ¬nth c (s:Int)<0:=fun k=>by have:=(vT hs).1.2 k;omega
 have n2: ¬nth c (t:Int)<0:=fun k=>by have:=(vT ht).1.2 k;omega
 rw[Bw hs,Bw ht] at h
 unfold By at h
 rw[if_neg n1,if_neg n2] at h
 obtain ⟨q,hq,e1,e2⟩:=nB (ye hs n1)
 obtain ⟨q',hq',e1',e2'⟩:=nB (ye ht n2)
 rw[e1,e1'] at h
 obtain rfl:q=q':=by omega
 rw[←e2,←e2']
theorem zW (a:AutT) {s:Nat} (h:s<a.2.1.length): ∀j,(nth (cI a j) (s:Int)<0↔nth (live a) (s:Int)=false)∧(nth (cI a j) (s:Int)<0→nth (cI a j) (s:Int)= -1)
 | 0=>by
  have e:nth (cI a 0) (s:Int)=if nth (live a) (s:Int)=true then (if nth a.2.1 (s:Int)=true then 1 else 0) else -1:=by
   show nth (IQ a) (s:Int)=_
   rw[bq (by simpa [IQ] using h)];simp[IQ]
  rw[e]
  cases nth (live a) (s:Int) <;> cases nth a.2.1 (s:Int) <;> simp
 | j+1=>by
  have ih:=zW a h j
  have:=vT (c:=cI a j) h
  exact ⟨this.1.trans ih.1,this.2⟩
theorem Qy (a:AutT) {s t:Nat} (hs:s<a.2.1.length) (ht:t<a.2.1.length): ∀j,0≤nth (cI a j) (s:Int)→nth (cI a j) (s:Int)=nth (cI a j) (t:Int)→nth a.2.1 (s:Int)=nth a.2.1 (t:Int)
 | 0,h0,h=>by
  have e: ∀ {s:Nat},s<a.2.1.length→nth (cI a 0) (s:Int)=if nth (live a) (s:Int)=true then (if nth a.2.1 (s:Int)=true then 1 else 0) else -1:=by
   intro s h
   show nth (IQ a) (s:Int)=_
   rw[bq (by simpa [IQ] using h)];simp[IQ]
  rw[e hs] at h0 h
  rw[e ht] at h
  revert h0 h
  cases nth (live a) (s:Int) <;> cases nth a.2.1 (s:Int) <;> cases nth (live a) (t:Int) <;> cases nth a.2.1 (t:Int) <;> simp
 | j+1,h0,h=>by
  have k:=Mk (c:=cI a j) hs ht h0 h
  have h1:nth (cI a j) (s:Int)=nth (cI a j) (t:Int):=by
   unfold Bv at k;injection k
  refine Qy a hs ht j ?_ h1
  have:=(vT (c:=cI a j) hs).1
  by_cases q:nth (cI a j) (s:Int)<0
  ·have:=this.2 q
   have h0:0≤nth (zV a (cI a j)) (s:Int):=h0
   omega
  ·omega
theorem SZ (a:AutT) (j:Nat):Qx (cI a (j+1)) 0 (vS a (cI a j)):=Bu (keys a (cI a j)) []
theorem Pt (a:AutT) {c:List Int} (hc:c.length=a.2.1.length):Vy c (keys a c):=by
 refine Mh _ _ (by rw[du,hc]) fun i h h'=>?_
 have e1:c[i] =nth c (i:Int):=(bq h).symm
 have e2:(keys a c)[i] =By a c i:=by simp[keys]
 rw[e1,e2]
 unfold By
 by_cases k:nth c (i:Int)<0
 ·exact .inl ⟨k,by rw[if_pos k]⟩
 ·exact .inr ⟨by omega,_,by rw[if_neg k];rfl⟩
theorem Ml (a:AutT) (j:Nat):vS a (cI a j)≤vS a (cI a (j+1))∧(vS a (cI a (j+1))=vS a (cI a j)→cI a (j+2)=cI a (j+1)):=by
 obtain ⟨h1,h2⟩:=mz (cI a (j+1)) (keys a (cI a (j+1))) [] 0 (vS a (cI a j)) (Pt a (mA a _)) (SZ a j) (fun y hy=>by cases hy)
 exact ⟨by simpa [vS] using h1,fun h=>h2 rfl (fun q hq=>absurd hq (Nat.not_lt_zero q)) h⟩
theorem Qz {j k:Nat} (h:cI a (j+1)=cI a j) (hk:j≤k):cI a k=cI a j:=by
 induction hk with
 | refl=>rfl
 | step _ ih=>rw[cI,ih];exact h
theorem Mm {j k:Nat} (h:cI a (j+1)=cI a j) (h':cI a (k+1)=cI a k):cI a j=cI a k:=by
 rcases Nat.le_total j k with e | e
 ·exact (Qz h e).symm
 ·exact Qz h' e
theorem S4 (a:AutT): ∃j,j≤a.2.1.length∧cI a (j+1)=cI a j:=by
 by_cases h0:cI a 1=cI a 0
 ·exact ⟨0,Nat.zero_le _,h0⟩
 have hpos:1≤vS a (cI a 0):=by
  refine Nat.one_le_iff_ne_zero.2 fun hz=>h0 ?_
  have hnone: ∀s:Nat,s<a.2.1.length→nth (cI a 0) (s:Int)<0:=fun s hs=>by
   refine Classical.byContradiction fun k=>?_
   have:=ye (c:=cI a 0) hs k
   have hl:=List.length_pos_of_mem this
   unfold vS at hz;omega
  refine uA (by rw[mA,mA]) fun i hi=>?_
  rw[mA] at hi
  have h1:=(zW a hi 0).2 (hnone i hi)
  have h2:=(zW a hi 1).2 (((zW a hi 1).1.trans (zW a hi 0).1.symm).2 (hnone i hi))
  rw[h1,h2]
 have key: ∀m,(∃j,j≤m∧cI a (j+1)=cI a j)∨m+1≤vS a (cI a m):=by
  intro m
  induction m with
  | zero=>exact .inr hpos
  | succ m ih =>
   rcases ih with ⟨j,hj,e⟩ | ih
   ·exact .inl ⟨j,by omega,e⟩
   ·obtain ⟨g1,g2⟩:=Ml a m
    by_cases e:vS a (cI a (m+1))=vS a (cI a m)
    ·exact .inl ⟨m+1,Nat.le_refl _,g2 e⟩
    ·exact .inr (by omega)
 rcases key a.2.1.length with h | h
 ·exact h
 ·have:=Fi a (cI a a.2.1.length);omega
end
end D
namespace D
open Go.RowKit
section
variable {a:AutT} {n:Nat} {c:List Int}
theorem GW (k:Nat) (s:Int):(List.range (k+1)).map (fun k=>ent a c s k)=(List.range k).map (fun k=>ent a c s k)++ [ent a c s k]:=by simp[List.range_succ]
theorem WB (V:VA a n) (hn:n≤1000000) (hc:c.length=n) {s:Nat} (hs:s<n):nI a c s=some (Bv a c s):=by
 unfold nI
 rw[aj (by omega) (by omega)];simp only[Option.bind_some]
 have:=ax (f:=lj a c s) (fun k=>(nth c (s:Int)::(List.range k).map (fun k=>ent a c s k),(k:Int))) 9 (fun k hk=>by
  have hm:=V.mv (s:=s) (k:=k) (by omega) (by omega) hk
  unfold lj
  simp only
  rw[if_pos (by simp;omega),V.get (by omega) (by omega)];simp only[Option.bind_some]
  rw[V.get2 (by omega) (by omega) hk,GW];simp only[Option.bind_some,aa (show k<9223372036854775807 by omega)]
  by_cases h:mv a s k<0
  ·rw[if_pos (by simpa using h),au (by simp;omega),show ent a c s k= -1 from by unfold ent;rw[if_pos h]];rfl
  ·rw[if_neg (by simpa using h),aj (by omega) (by omega)];simp only[Option.bind_some]
   rw[au (by simp;omega),show ent a c s k=nth c (mv a s k) from by unfold ent;rw[if_neg h]];rfl) (by unfold lj;simp) (by unfold aB;omega)
 exact ae this
theorem WC (V:VA a n) (hn:n≤1000000) (hc:c.length=n) {s:Nat} (hs:s<n):ai (bV c (nth a.2.2 (s:Int))) aB (0,[nth c (s:Int)])=some (.brk (9,Bv a c s)):=by
 have hr:=V.rowAt (s:=s) (by omega) (by omega)
 exact ax (f:=bV c (nth a.2.2 (s:Int))) (fun k=>((k:Int),nth c (s:Int)::(List.range k).map (fun k=>ent a c s k))) 9 (fun k hk=>by
  have hm:=V.mv (s:=s) (k:=k) (by omega) (by omega) hk
  unfold bV
  simp only
  rw[if_pos (by simp[hr];omega),V.get2 (by omega) (by omega) hk,GW];simp only[Option.bind_some,aa (show k<9223372036854775807 by omega)]
  by_cases h:mv a s k<0
  ·have e:mv a s k= -1:=by omega
   rw[if_neg (by simp;omega)];simp only[Option.bind_some]
   rw[au (by simp;omega),show ent a c s k=mv a s k from by unfold ent;rw[if_pos h,e]];rfl
  ·rw[if_pos (by simp;omega),aj (by omega) (by omega)];simp only[Option.bind_some]
   rw[au (by simp;omega),show ent a c s k=nth c (mv a s k) from by unfold ent;rw[if_neg h]];rfl) (by unfold bV;simp[hr]) (by unfold aB;omega)
theorem Dm {κ:Type} [DecidableEq κ] {l t r:List κ} {x:κ} (e:l=t++x::r) (hx:x∉t):nbI l (some x)=(t.length:Int):=by
 subst e
 simp only[nbI]
 rw[List.idxOf_append,if_neg hx,List.idxOf_cons_self,Nat.zero_add]
def U2 (l:List (List Int)) (x:List Int):Int:=if x∈l then nbI l (some x) else -1
theorem U3 {l:List (List Int)} {x cs:List Int} {q:Int} (hl:l.length≤1000000) (hd:l.Nodup) (hx: ∀y∈l,y.length≤1048576):ai (eC (l,cs,q) x) aB (-1,0)=some (.brk (U2 l x,(l.length:Int))):=by
 have:=ax (f:=eC (l,cs,q) x) (fun k=>(if x∈l.take k then nbI l (some x) else -1,(k:Int))) l.length (fun k hk=>by
  unfold eC
  simp only
  rw[if_pos (by simp;omega),aj (by omega) (by omega)];simp only[Option.bind_some,Int.toNat_natCast,aa (show k<9223372036854775807 by omega)]
  obtain ⟨r,e,hr⟩:=Mi (nth l (k:Int)) x (hx _ (aX (by omega) (by omega)))
  rw[e,take_one hk];simp only[Option.bind_some,List.mem_append,List.mem_singleton]
  by_cases h:nth l (k:Int)=x
  ·have h0:r=0:=hr.2 h
   have hm:x∈l:=h ▸ aX (by omega) (by omega)
   obtain ⟨q,hq,e1,e2⟩:=nB hm
   have:q=k:=by
    have h1:l[q]? =some x:=by rw[List.getElem?_eq_getElem hq,e2]
    have h2:l[k]? =some x:=by rw[List.getElem?_eq_getElem hk,←bq hk,h]
    exact (List.getElem?_inj hq hd).1 (h1.trans h2.symm)
   subst this
   rw[if_pos (by simp[h0]),if_pos (.inr h.symm),e1];rfl
  ·have h0:r≠0:=fun e=>h (hr.1 e)
   have hn: ¬x=nth l (k:Int):=fun e=>h e.symm
   rw[if_neg (by simpa using h0)]
   simp[hn]) (by unfold eC;simp) (gp (by omega))
 rw[List.take_of_length_le (Nat.le_refl _)] at this
 exact this
theorem U4 {l:List (List Int)} {x:List Int} {f:List Int→Option Bool} (hl:l.length≤1000000) (hf: ∀y∈l,f y=some (decide (y=x))):bf l f=some (U2 l x):=by
 unfold bf
 obtain ⟨o,e,hq⟩:=bF (f:=bD l f) (fun k s=>s=(k:Int)∧x∉l.take k) (fun o=>(x∈l∧o= .ret (nbI l (some x)))∨(x∉l∧ ∃s,o= .brk s)) l.length (s:=0) (by
  rintro k s hk ⟨rfl,hx⟩
  unfold bD
  by_cases hkl:k<l.length
  ·rw[if_pos (by simp;omega),aj (by omega) (by omega)];simp only[Option.bind_some]
   rw[hf _ (aX (by omega) (by omega))];simp only[Option.bind_some]
   by_cases h:nth l (k:Int)=x
   ·refine .inr ⟨_,by rw[if_pos (by simpa using h)],(fun s' e=>by cases e),.inl ?_⟩
    have hm:x∈l:=h ▸ aX (by omega) (by omega)
    refine ⟨hm,?_⟩
    have e:l=l.take k++(x::l.drop (k+1)):=by
     rw[←h,bq hkl,←List.drop_eq_getElem_cons hkl,List.take_append_drop]
    rw[Dm e hx,List.length_take,Nat.min_eq_left (by omega)]
   ·refine .inl ⟨hkl,_,by rw[if_neg (by simpa using h)],by rw[aa (by omega)],?_⟩
    rw[take_one hkl,List.mem_append,List.mem_singleton]
    rintro (h' | h')
    ·exact hx h'
    ·exact h h'.symm
  ·refine .inr ⟨_,by rw[if_neg (by simp;omega)],(fun s' e=>by cases e),.inr ⟨?_,_,rfl⟩⟩
   rwa [List.take_of_length_le (by omega)] at hx) ⟨rfl,by simp⟩ (gp (by omega))
 unfold U2
 rcases hq with ⟨hx,rfl⟩ | ⟨hx,s,rfl⟩
 ·rw[aK e,if_pos hx]
 ·rw[ae e,if_neg hx]
theorem yf {os:List (Option (List Int))} (h: ∀y,some y∈os→y.length=10): ∀y∈nbS [] os,y.length=10:=fun y hy=>by
 rcases uB.1 hy with hy | hy
 ·cases hy
 ·exact h y hy
theorem zX (a:AutT) (c:List Int): ∀y,some y∈keys a c→y.length=10:=by
 intro y hy
 obtain ⟨s,-,e⟩:=List.mem_map.1 hy
 unfold By at e
 split at e
 ·cases e
 ·rw[←Option.some.inj e];simp[Bv]
section
variable (V:VA a n) (hn:n≤1000000) (hc:c.length=n)
include V hn hc
theorem GX (s:Nat):(nbS [] ((keys a c).take s)).length≤n:=by
 have:=o8 ([] :List (List Int)) ((keys a c).take s)
 rw[List.length_take,du,V.len] at this
 simp at this;omega
theorem Pu {m:Int} :ai (eD a (c,m)) aB ([],[],0)=some (.brk (nbS [] (keys a c),zV a c,(n:Int))):=by
 have hlen:=V.len
 have:=ax (f:=eD a (c,m)) (fun s=>(nbS [] ((keys a c).take s),nbR [] ((keys a c).take s),(s:Int))) n (fun s hs=>by
  have hkl:=GX V hn hc s
  have hrl:(nbR [] ((keys a c).take s)).length≤n:=by rw[dH,List.length_take,du];omega
  unfold eD
  simp only
  rw[if_pos (by simp;omega),aj (by omega) (by omega)];simp only[Option.bind_some]
  rw[take_one (by rw[du];omega),tw,q8,Fh (by omega)]
  simp only[aa (show s<9223372036854775807 by omega)]
  by_cases h:nth c (s:Int)<0
  ·rw[if_pos (by simpa using h),au (by simp;omega),show By a c s=none from by unfold By;rw[if_pos h]];rfl
  ·rw[if_neg (by simpa using h),show By a c s=some (Bv a c s) from by unfold By;rw[if_neg h]]
   rw[show nI (a.1,a.2.1,a.2.2) c (s:Int)=some (Bv a c s) from WB V hn hc hs];simp only[Option.bind_some]
   rw[ae (U3 (by omega) (qm (by simp)) (fun y hy=>by rw[yf (fun y hy=>zX a c y (List.mem_of_mem_take hy)) y hy];decide))]
   simp only
   unfold U2
   by_cases k:Bv a c s∈nbS [] ((keys a c).take s)
   ·obtain ⟨q,hq,e1,e2⟩:=nB k
    rw[if_pos k,kY k,e1,if_neg (by simp)];simp only[Option.bind_some]
    rw[au (by simp;omega)];rfl
   ·rw[if_neg k,ka k,Bt k,if_pos (show decide ((-1:Int)<0)=true from rfl),au (by simp;omega)];simp only[Option.bind_some]
    rw[au (by simp;omega)];rfl) (by
  unfold eD
  simp only
  rw[if_neg (by simp;omega)]) (gp (by omega))
 rw[show (keys a c).take n=keys a c from List.take_of_length_le (by rw[du];omega)] at this
 exact this
theorem Pv:c9 a c=some (zV a c,(vS a c:Int)):=by
 have hlen:=V.len
 unfold c9
 have:=ax (f:=db a c) (fun s=>(nbS [] ((keys a c).take s),nbR [] ((keys a c).take s),(s:Int))) n (fun s hs=>by
  have hkl:=GX V hn hc s
  have hrl:(nbR [] ((keys a c).take s)).length≤n:=by rw[dH,List.length_take,du];omega
  unfold db
  simp only
  rw[if_pos (by simp;omega),aj (by omega) (by omega)];simp only[Option.bind_some]
  rw[take_one (by rw[du];omega),tw,q8,Fh (by omega)]
  simp only[aa (show s<9223372036854775807 by omega)]
  by_cases h:nth c (s:Int)<0
  ·rw[if_pos (by simpa using h),au (by simp;omega),show By a c s=none from by unfold By;rw[if_pos h]];rfl
  ·rw[if_neg (by simpa using h),show By a c s=some (Bv a c s) from by unfold By;rw[if_neg h],V.get (by omega) (by omega)];simp only[Option.bind_some]
   rw[ae (WC V hn hc hs)];simp only
   rw[U4 (x:=Bv a c s) (by omega) (fun y hy=>by
    unfold fB
    rw[Mj _ _ (by rw[yf (fun y hy=>zX a c y (List.mem_of_mem_take hy)) y hy];decide)];rfl)];simp only[Option.bind_some]
   unfold U2
   by_cases k:Bv a c s∈nbS [] ((keys a c).take s)
   ·obtain ⟨q,hq,e1,e2⟩:=nB k
    rw[if_pos k,kY k,e1,if_neg (by simp)];simp only[Option.bind_some]
    rw[au (by simp;omega)];rfl
   ·rw[if_neg k,ka k,Bt k,if_pos (show decide ((-1:Int)<0)=true from rfl),au (by simp;omega)];simp only[Option.bind_some]
    rw[au (by simp;omega)];rfl) (by
  unfold db
  simp only
  rw[if_neg (by simp;omega)]) (gp (by omega))
 rw[show (keys a c).take n=keys a c from List.take_of_length_le (by rw[du];omega)] at this
 exact ae this
end
end
section
variable {a:AutT} {n:Nat} (V:VA a n) (hn:n≤1000000)
include V hn
theorem Dn (s:Nat):(List.range (s+1)).map (fun s:Nat=>if nth (live a) (s:Int)=true then (if nth a.2.1 (s:Int)=true then (1:Int) else 0) else -1)=(List.range s).map (fun s:Nat=>if nth (live a) (s:Int)=true then (if nth a.2.1 (s:Int)=true then 1 else 0) else -1)++ [if nth (live a) (s:Int)=true then (if nth a.2.1 (s:Int)=true then 1 else 0) else -1]:=by simp[List.range_succ]
theorem U5:ai (eB a (live a)) aB ([],0)=some (.brk (IQ a,(n:Int))):=by
 have hlen:=V.len
 have hll:(live a).length=n:=by rw[ss,hlen]
 have:=ax (f:=eB a (live a)) (fun s=>((List.range s).map (fun s:Nat=>if nth (live a) (s:Int)=true then (if nth a.2.1 (s:Int)=true then (1:Int) else 0) else -1),(s:Int))) n (fun s hs=>by
  unfold eB
  simp only
  rw[if_pos (by simp;omega),V.acc (by omega) (by omega)];simp only[Option.bind_some]
  rw[Dn V hn,aj (xs:=live a) (by omega) (by omega)];simp only[aa (show s<9223372036854775807 by omega)]
  cases nth (live a) (s:Int) <;> cases nth a.2.1 (s:Int) <;> simp only[if_true,if_false,Bool.false_eq_true,Option.bind_some] <;> rw[au (by simp;omega)] <;> rfl) (by
  unfold eB
  simp only
  rw[if_neg (by simp;omega)]) (gp (by omega))
 unfold IQ
 rw[hlen]
 exact this
theorem U6:ai (bL a (live a)) aB ([],0)=some (.brk (IQ a,(n:Int))):=by
 have hlen:=V.len
 have hll:(live a).length=n:=by rw[ss,hlen]
 have:=ax (f:=bL a (live a)) (fun s=>((List.range s).map (fun s:Nat=>if nth (live a) (s:Int)=true then (if nth a.2.1 (s:Int)=true then (1:Int) else 0) else -1),(s:Int))) n (fun s hs=>by
  unfold bL
  simp only
  rw[if_pos (by simp;omega),aj (xs:=live a) (by omega) (by omega)];simp only[Option.bind_some]
  rw[Dn V hn,V.acc (by omega) (by omega)];simp only[aa (show s<9223372036854775807 by omega)]
  cases nth (live a) (s:Int) <;> cases nth a.2.1 (s:Int) <;> simp only[if_true,if_false,Bool.false_eq_true,Option.bind_some] <;> rw[au (by simp;omega)] <;> rfl) (by
  unfold bL
  simp only
  rw[if_neg (by simp;omega)]) (gp (by omega))
 unfold IQ
 rw[hlen]
 exact this
theorem Mn: ∃J,cI a (J+1)=cI a J∧gV a=some (cI a J):=by
 have hlen:=V.len
 unfold gV
 rw[show jQ (a.1,a.2.1,a.2.2)=some (live a) from Qs V hn];simp only[Option.bind_some]
 rw[ae (U5 V hn)]
 obtain ⟨J0,hJ0,hfix⟩:=S4 a
 obtain ⟨o,e,j,rfl,hj⟩:=bF (f:=jR a) (fun j s=>s=(cI a j,(j:Int))∧j≤J0) (fun o=> ∃j,o= .ret (cI a j)∧cI a (j+1)=cI a j) (J0+1) (s:=(cI a 0,0)) (by
  rintro j s hj ⟨rfl,hjJ⟩
  have hcl:(cI a j).length=n:=by rw[mA,hlen]
  unfold jR
  simp only
  rw[if_pos (by simp;omega),ae (Pu V hn hcl)]
  simp only
  obtain ⟨r,er,hr⟩:=Mi (zV a (cI a j)) (cI a j) (by rw[yd];omega)
  rw[er];simp only[Option.bind_some,aa (show j<9223372036854775807 by omega)]
  by_cases h:zV a (cI a j)=cI a j
  ·exact .inr ⟨_,by rw[if_pos (by simpa using hr.2 h)],(fun s' e=>by cases e),j,rfl,h⟩
  ·refine .inl ⟨by omega,(cI a (j+1),((j+1:Nat):Int)),by rw[if_neg (by simpa using fun e=>h (hr.1 e))];rfl,rfl,?_⟩
   by_cases e:j=J0
   ·subst e;exact absurd hfix h
   ·omega) ⟨rfl,Nat.zero_le _⟩ (gp (by omega))
 exact ⟨j,hj,aK e⟩
theorem Mo: ∃J,cI a (J+1)=cI a J∧cM a=some (cI a J):=by
 have hlen:=V.len
 unfold cM
 rw[show dJ (a.1,a.2.1,a.2.2)=some (live a) from UT V hn];simp only[Option.bind_some]
 rw[ae (U6 V hn)]
 let kk:Nat→Int:=fun j=>match j with | 0=> -1 | i+1=>(vS a (cI a i):Int)
 obtain ⟨o,e,j,rfl,hj⟩:=bF (f:=eK a) (fun j s=>s=(cI a j,kk j)∧(j:Int)≤kk j+1) (fun o=> ∃j,o= .ret (cI a j)∧cI a (j+1)=cI a j) (n+2) (s:=(cI a 0,-1)) (by
  rintro j s hj ⟨rfl,hjk⟩
  have hcl:(cI a j).length=n:=by rw[mA,hlen]
  have hle:=Fi a (cI a j)
  unfold eK
  simp only
  rw[show c9 (a.1,a.2.1,a.2.2) (cI a j)=some (zV a (cI a j),(vS a (cI a j):Int)) from Pv V hn hcl];simp only[Option.bind_some]
  cases j with
  | zero =>
   refine .inl ⟨by omega,(cI a 1,kk 1),by rw[if_neg (by show¬((vS a (cI a 0):Int) == -1)=true;simp)];rfl,rfl,?_⟩
   show (1:Int)≤(vS a (cI a 0):Int)+1
   omega
  | succ i =>
   obtain ⟨g1,g2⟩:=Ml a i
   have hki:kk (i+1)=(vS a (cI a i):Int):=rfl
   rw[hki] at hjk⊢
   by_cases h:vS a (cI a (i+1))=vS a (cI a i)
   ·refine .inr ⟨.ret (cI a (i+2)),by rw[if_pos (by simp[h])];rfl,(fun s' e=>by cases e),i+2,rfl,?_⟩
    have:=g2 h
    show zV a (cI a (i+2))=cI a (i+2)
    rw[this];exact this
   ·refine .inl ⟨?_,(cI a (i+2),kk (i+2)),by rw[if_neg (by simp;omega)];rfl,rfl,?_⟩
    ·omega
    ·show ((i+1+1:Nat):Int)≤(vS a (cI a (i+1)):Int)+1
     omega) ⟨rfl,by show ((0:Nat):Int)≤ -1+1;omega⟩ (gp (by omega))
 exact ⟨j,hj,aK e⟩
theorem IF: ∃c,gV a=some c∧cM a=some c∧c.length=n∧zV a c=c∧ ∃j,c=cI a j:=by
 obtain ⟨J,hJ,es⟩:=Mn V hn
 obtain ⟨J',hJ',ei⟩:=Mo V hn
 have:=Mm hJ hJ'
 exact ⟨cI a J,es,by rw[this];exact ei,by rw[mA,V.len],hJ,J,rfl⟩
end
end D
namespace D
open Go.RowKit
section
variable {κ:Type} [DecidableEq κ] [Inhabited κ] {nx:κ→List (Option κ)} {first:κ} {G:κ→Prop} {B N:Nat} {acc:κ→Bool}
theorem yg: ∀(l:List κ) (os:List (Option κ)),∀t∈nbR l os,-1≤t∧t<((nbS l os).length:Int)
 | l,[] =>fun t ht=>by cases ht
 | l,o::os=>fun t ht=>by
  have hp:=j9 (nbL l o) os
  have hl:=hp.length_le
  rcases List.mem_cons.1 ht with rfl | ht
  ·show -1≤nbI l o∧nbI l o<((nbS (nbL l o) os).length:Int)
   cases o with
   | none=>exact ⟨by simp[nbI],by simp only[nbI];omega⟩
   | some y =>
    by_cases c:y∈l
    ·obtain ⟨q,hq,e,-⟩:=nB c
     rw[kY c] at hl
     rw[e];exact ⟨by omega,by rw[kY c];omega⟩
    ·rw[ka c] at hl
     rw[Bt c];rw[List.length_append] at hl
     exact ⟨by omega,by rw[ka c];simp at hl;omega⟩
  ·exact yg (nbL l o) os t ht
theorem U7 (H:NumOk nx first G B) (hN:bfE nx first N):VA ((0,(bfS nx first N).map acc,bfR nx first N):AutT) N:=by
 have h0:0<N:=by
  have:=CY (nx:=nx) (first:=first) N
  have:=(List.getElem?_eq_some_iff.1 this).1
  have:=hN.1;omega
 have key: ∀i,i≤N→ ∀r∈bfR nx first i,r.length=9∧ ∀t∈r,-1≤t∧t<(N:Int):=by
  intro i
  induction i with
  | zero=>intro _ r hr;cases hr
  | succ i ih =>
   intro hi r hr
   have hlt:=hN.2 i (by omega)
   rw[tx hlt] at hr
   rcases List.mem_append.1 hr with hr | hr
   ·exact ih (by omega) r hr
   ·obtain rfl:=List.mem_singleton.1 hr
    refine ⟨by rw[dH,H.len _ (jv H.g0 H.gn i _ (List.getElem_mem hlt))],fun t ht=>?_⟩
    have:=yg _ _ t ht
    rw[←A1 hlt] at this
    have hl:=(uC (nx:=nx) (first:=first) hi).length_le
    have:=hN.1
    omega
 exact ⟨by show ((bfS nx first N).map acc).length=N;rw[List.length_map];exact hN.1.symm,⟨Int.le_refl _,by show (0:Int)<N;omega⟩,iP hN.2,fun r hr=>(key N (Nat.le_refl _) r hr).1,fun r hr=>(key N (Nat.le_refl _) r hr).2⟩
theorem S5 (hlen: ∀x,(nx x).length=9) (hN:bfE nx first N):VA ((0,(bfS nx first N).map acc,bfR nx first N):AutT) N:=by
 have h0:0<N:=by
  have:=CY (nx:=nx) (first:=first) N
  have:=(List.getElem?_eq_some_iff.1 this).1
  have:=hN.1;omega
 have key: ∀i,i≤N→ ∀r∈bfR nx first i,r.length=9∧ ∀t∈r,-1≤t∧t<(N:Int):=by
  intro i
  induction i with
  | zero=>intro _ r hr;cases hr
  | succ i ih =>
   intro hi r hr
   have hlt:=hN.2 i (by omega)
   rw[tx hlt] at hr
   rcases List.mem_append.1 hr with hr | hr
   ·exact ih (by omega) r hr
   ·obtain rfl:=List.mem_singleton.1 hr
    refine ⟨by rw[dH,hlen _],fun t ht=>?_⟩
    have:=yg _ _ t ht
    rw[←A1 hlt] at this
    have hl:=(uC (nx:=nx) (first:=first) hi).length_le
    have:=hN.1
    omega
 exact ⟨by show ((bfS nx first N).map acc).length=N;rw[List.length_map];exact hN.1.symm,⟨Int.le_refl _,by show (0:Int)<N;omega⟩,iP hN.2,fun r hr=>(key N (Nat.le_refl _) r hr).1,fun r hr=>(key N (Nat.le_refl _) r hr).2⟩
end
theorem VA.self {a:AutT} {n:Nat} (v:VA a n):VA a a.2.1.length:=by
 have e:=v.len
 subst e
 exact v
theorem IG:VA nothing 1:=⟨rfl,⟨by decide,by decide⟩,rfl,fun r hr=>by
 obtain rfl:=List.mem_singleton.1 hr
 decide,fun r hr=>by
 obtain rfl:=List.mem_singleton.1 hr
 decide⟩
end D
namespace D
open Go.RowKit
theorem S6 {l:List Int} {x:Int} (hl:l.length≤1000000) (hx:x∈l):aC x l=some (nbI l (some x)):=by
 unfold aC dB
 obtain ⟨o,e,hq⟩:=bF (f:=cV l x) (fun k s=>s=(k:Int)∧x∉l.take k) (fun o=>o= .ret (nbI l (some x))) l.length (s:=0) (by
  rintro k s hk ⟨rfl,hx'⟩
  unfold cV
  by_cases hkl:k<l.length
  ·rw[if_pos (by simp;omega),aj (by omega) (by omega)];simp only[Option.bind_some]
   by_cases h:nth l (k:Int)=x
   ·refine .inr ⟨_,by rw[if_pos (by simp[h])],(fun s' e=>by cases e),?_⟩
    have e:l=l.take k++(x::l.drop (k+1)):=by
     rw[←h,bq hkl,←List.drop_eq_getElem_cons hkl,List.take_append_drop]
    rw[Dm e hx',List.length_take,Nat.min_eq_left (by omega)]
   ·have h': ¬x=nth l (k:Int):=fun e=>h e.symm
    refine .inl ⟨hkl,_,by rw[if_neg (by simpa using h')],by rw[aa (by omega)],?_⟩
    rw[take_one hkl,List.mem_append,List.mem_singleton]
    rintro (h' | h')
    ·exact hx' h'
    ·exact h h'.symm
  ·rw[List.take_of_length_le (by omega)] at hx'
   exact absurd hx hx') ⟨rfl,by simp⟩ (gp (by omega))
 subst hq
 rw[aK e];rfl
section
variable {a:AutT} {n:Nat}
def rep (c:List Int) (x:Int):Int:=nbI c (some x)
theorem Mq {c:List Int} {x:Int} (h:x∈c):0≤rep c x∧rep c x<c.length∧nth c (rep c x)=x:=by
 obtain ⟨q,hq,e1,e2⟩:=nB h
 unfold rep
 rw[e1]
 exact ⟨by omega,by omega,by rw[bq hq,e2]⟩
theorem II (V:VA a n) (hn:n≤1000000): ∃r,fR a=some r∧ct a=some r∧Data.sm r∧VA r r.2.1.length∧r.2.1.length≤n:=by
 have hlen:=V.len
 have hst:=V.start
 have hll:(live a).length=n:=by rw[ss,hlen]
 obtain ⟨c,es,ei,hcl,hfix,j,hj⟩:=IF V hn
 have hneg: ∀s:Int,0≤s→s<n→(nth c s<0↔nth (live a) s=false):=fun s h0 h1=>by
  have:=(zW a (s:=s.toNat) (by omega) j).1
  rw[←hj,show ((s.toNat:Nat):Int)=s from by omega] at this
  exact this
 have hlt: ∀s:Int,0≤s→s<n→nth c s<n:=fun s h0 h1=>by
  have:=SY (c:=c) (a:=a) (s:=s.toNat) (by omega)
  rw[hfix,hlen,show ((s.toNat:Nat):Int)=s from by omega] at this
  exact this
 have hpos: ∀r,good n (live a) r→0≤nth c r:=fun r hr=>by
  have:=hneg r hr.1 hr.2.1
  by_cases k:nth c r<0
  ·have:=this.1 k;rw[hr.2.2] at this;cases this
  ·omega
 have hkey: ∀r t:Int,0≤r→r<n→0≤t→t<n→0≤nth c r→nth c r=nth c t→Bv a c r=Bv a c t:=fun r t r0 r1 t0 t1 h0 h=>by
  have:=Mk (a:=a) (c:=c) (s:=r.toNat) (t:=t.toNat) (by omega) (by omega) (by rw[hfix,show ((r.toNat:Nat):Int)=r from by omega];exact h0) (by rw[hfix,show ((r.toNat:Nat):Int)=r from by omega,show ((t.toNat:Nat):Int)=t from by omega];exact h)
  rwa [show ((r.toNat:Nat):Int)=r from by omega,show ((t.toNat:Nat):Int)=t from by omega] at this
 have hacc: ∀r t:Int,0≤r→r<n→0≤t→t<n→0≤nth c r→nth c r=nth c t→nth a.2.1 r=nth a.2.1 t:=fun r t r0 r1 t0 t1 h0 h=>by
  have:=Qy a (s:=r.toNat) (t:=t.toNat) (by omega) (by omega) j (by rw[←hj,show ((r.toNat:Nat):Int)=r from by omega];exact h0) (by rw[←hj,show ((r.toNat:Nat):Int)=r from by omega,show ((t.toNat:Nat):Int)=t from by omega];exact h)
  rwa [show ((r.toNat:Nat):Int)=r from by omega,show ((t.toNat:Nat):Int)=t from by omega] at this
 have hsuccs: ∀r,good n (live a) r→uJ a c (live a) r=(List.range 9).map fun k=>if 0≤ent a c r k then some (ent a c r k) else none:=fun r hr=>by
  refine List.map_congr_left fun k hk=>?_
  have hk:k<9:=List.mem_range.1 hk
  have hm:=V.mv hr.1 hr.2.1 hk
  unfold ent
  by_cases h:mv a r k<0
  ·rw[if_pos h,if_neg (fun h'=>by omega),if_neg (by omega)]
  ·rw[if_neg h]
   have:=hneg (mv a r k) (by omega) hm.2
   cases hl:nth (live a) (mv a r k) with
   | false =>
    have:=this.2 hl
    rw[if_neg (fun h'=>by cases h'.2),if_neg (by omega)]
   | true =>
    have: ¬nth c (mv a r k)<0:=fun h'=>by have:=this.1 h';rw[hl] at this;cases this
    rw[if_pos ⟨by omega,rfl⟩,if_pos (by omega)]
 have hent: ∀r t:Int,Bv a c r=Bv a c t→ ∀k,k<9→ent a c r k=ent a c t k:=fun r t h k hk=>by
  have h:(List.range 9).map (fun k=>ent a c r k)=(List.range 9).map (fun k=>ent a c t k):=by unfold Bv at h;injection h
  have:=congrArg (fun l:List Int=>l[k]?) h
  simpa [hk] using this
 let nx:Int→List (Option Int):=fun x=>uJ a c (live a) (rep c x)
 let acc:Int→Bool:=fun x=>nth a.2.1 (rep c x)
 let G:Int→Prop:=fun x=> ∃r,good n (live a) r∧nth c r=x
 have Gm: ∀x,G x→x∈c∧0≤x∧good n (live a) (rep c x):=by
  rintro x ⟨r,hr,rfl⟩
  have hm:nth c r∈c:=aX hr.1 (by rw[hcl];exact hr.2.1)
  obtain ⟨h0,h1,h2⟩:=Mq hm
  have hp:=hpos r hr
  refine ⟨hm,hp,h0,by omega,?_⟩
  have:=hneg (rep c (nth c r)) h0 (by omega)
  rw[h2] at this
  cases hl:nth (live a) (rep c (nth c r)) with
  | true=>rfl
  | false=>have:=this.2 hl;omega
 have hnx: ∀r,good n (live a) r→nx (nth c r)=uJ a c (live a) r:=fun r hr=>by
  obtain ⟨hm,hp,hg⟩:=Gm _ ⟨r,hr,rfl⟩
  obtain ⟨h0,h1,h2⟩:=Mq hm
  show uJ a c (live a) (rep c (nth c r))=_
  rw[hsuccs _ hg,hsuccs _ hr]
  refine List.map_congr_left fun k hk=>?_
  rw[hent _ _ (hkey _ _ hg.1 hg.2.1 hr.1 hr.2.1 (by rw[h2];exact hp) h2) k (List.mem_range.1 hk)]
 have hac: ∀r,good n (live a) r→acc (nth c r)=nth a.2.1 r:=fun r hr=>by
  obtain ⟨hm,hp,hg⟩:=Gm _ ⟨r,hr,rfl⟩
  obtain ⟨h0,h1,h2⟩:=Mq hm
  exact hacc _ _ hg.1 hg.2.1 hr.1 hr.2.1 (by rw[h2];exact hp) h2
 have hgn: ∀r,good n (live a) r→ ∀y,some y∈uJ a c (live a) r→G y:=fun r hr y h=>by
  obtain ⟨k,hk,e⟩:=List.mem_map.1 h
  have hk:k<9:=List.mem_range.1 hk
  split at e
  ·rename_i hc
   exact ⟨mv a r k,⟨hc.1,(V.mv hr.1 hr.2.1 hk).2,hc.2⟩,Option.some.inj e⟩
  ·cases e
 unfold fR ct
 simp only[eQ]
 rw[es,ei,Qs V hn];simp only[Option.bind_some]
 rw[aj hst.1 (by omega)];simp only[Option.bind_some]
 cases hs:nth (live a) a.1 with
 | false =>
  have:=(hneg a.1 hst.1 hst.2).2 hs
  rw[Fe V hll hs,if_pos (by simpa using this),Mc]
  exact ⟨nothing,rfl,rfl,ID,IG,V.pos⟩
 | true =>
  have hst':good n (live a) a.1:=⟨hst.1,hst.2,hs⟩
  have hp:=hpos _ hst'
  have H:NumOk nx (nth c a.1) G n:=⟨⟨a.1,hst',rfl⟩,fun x hx y hy=>hgn _ (Gm x hx).2.2 y hy,fun x hx=>by simp[nx,uJ],fun l hd h=>IC n l hd fun x hx=>by
   obtain ⟨r,hr,rfl⟩:=h x hx
   exact ⟨hpos r hr,hlt r hr.1 hr.2.1⟩⟩
  obtain ⟨N,hN,e1⟩:=UV (acc:=acc) V hn hcl hll hs H hn hnx hac
  have hfirst: ∀x,G x→aC x c=some (rep c x):=fun x hx=>S6 (by omega) (Gm x hx).1
  obtain ⟨N',hN',e2⟩:=UU (most:=(c.length:Int)) (p2:=fun a0=>bM a0 (a.1,a.2.1,a.2.2) (fun a0=>aC a0 c)) (p3:=fun a0 a1=>bN a0 a1 (a.1,a.2.1,a.2.2) (fun a0=>aC a0 c) c) (acc:=acc) H hn (by omega) (fun x hx=>U0 hn (Gm x hx).2.1 (by
    obtain ⟨r,hr,rfl⟩:=hx
    exact hlt r hr.1 hr.2.1)) (fun x hx=>by
   show bM x (a.1,a.2.1,a.2.2) (fun a0=>aC a0 c)=_
   unfold bM
   simp only
   rw[hfirst x hx];simp only[Option.bind_some]
   rw[V.acc (Gm x hx).2.2.1 (Gm x hx).2.2.2.1];rfl) (fun x k hx hk=>by
   obtain ⟨hm,hx0,hg⟩:=Gm x hx
   have hm':=V.mv hg.1 hg.2.1 hk
   refine ⟨0,?_⟩
   show bN x k (a.1,a.2.1,a.2.2) (fun a0=>aC a0 c) c=_
   unfold bN
   simp only
   rw[hfirst x hx];simp only[Option.bind_some]
   rw[show aO (a.1,a.2.1,a.2.2) (rep c x) k=some (mv a (rep c x) k) from zR V hg.1 hg.2.1 hk];simp only[Option.bind_some]
   show _=some (match nth (uJ a c (live a) (rep c x)) (k:Int) with | some y=>(y,true) | none=>(0,false))
   rw[GT hk]
   by_cases h:mv a (rep c x) k<0
   ·rw[if_pos (by simpa using h),if_neg (fun h'=>by omega)]
   ·rw[if_neg (by simpa using h),aj (by omega) (by omega)];simp only[Option.bind_some]
    have hng:=hneg (mv a (rep c x) k) (by omega) hm'.2
    cases hl:nth (live a) (mv a (rep c x) k) with
    | false =>
     have:=hng.2 hl
     rw[if_pos (by simpa using this),if_neg (fun h'=>by cases h'.2)]
    | true =>
     have: ¬nth c (mv a (rep c x) k)<0:=fun h'=>by have:=hng.1 h';rw[hl] at this;cases this
     rw[if_neg (by simpa using this),if_pos ⟨by omega,rfl⟩])
  obtain rfl:=OO hN hN'
  have v:=U7 (acc:=acc) H hN
  refine ⟨_,by rw[e1];rfl,?_,U1 H hn hN,v.self,?_⟩
  rotate_left
  ·rw[v.len,hN.1];exact H.bound _ (mu N) (jv H.g0 H.gn N)
  rw[if_neg (by simp;omega)]
  exact (congrArg (fun x=>Option.bind x _) e2).trans rfl
theorem Pw (V:VA a n) (hn:n≤1000000): ∃r,fR a=some r∧ct a=some r∧Data.sm r:=by
 obtain ⟨r,h1,h2,h3,-⟩:=II V hn
 exact ⟨r,h1,h2,h3⟩
end
end D
namespace D
open Go.RowKit
theorem Bx:Data.sm ((0,[],[]):AutT):=⟨trivial,⟨by decide,fun _ h=>by cases h⟩,by decide,fun _ h=>by cases h⟩
theorem Mr {κ:Type} [DecidableEq κ] {nx:κ→List (Option κ)} {first:κ} {acc:κ→Bool} {most:Nat} : ∀(f i:Nat),(∀j,j<i→j<(bfS nx first j).length)→(bfS nx first i).length≤most→goM nx first acc most f i=((0,[],[]),false)∨ ∃N,bfE nx first N∧N≤most∧goM nx first acc most f i=((0,(bfS nx first N).map acc,bfR nx first N),true)
 | 0,i,_,_=>.inl rfl
 | f+1,i,h,hl=>by
  have hle:=Bs h
  rw[goM]
  by_cases c:i<(bfS nx first i).length
  ·rw[if_pos c]
   by_cases d:(bfS nx first (i+1)).length>most
   ·rw[if_pos d];exact .inl rfl
   ·rw[if_neg d]
    exact Mr f (i+1) (fun j hj=>by
     by_cases e:j=i
     ·subst e;exact c
     ·exact h j (by omega)) (by omega)
  ·rw[if_neg c]
   exact .inr ⟨i,⟨by omega,h⟩,by omega,by rw[List.take_of_length_le (by omega)]⟩
theorem Do {e:List Tok} (he:e.length≤1048576): ∃r:AutT×Bool,je e=some r∧jg e=some r∧Data.sm r.1:=by
 obtain ⟨⟨p,b⟩,e1,e2,h1,h2⟩:=su he
 have h1:p.2.2.2.1.length=p.1.length:=h1
 have h2:p.1.length≤100000:=h2
 unfold je jg
 rw[e1,e2];simp only[Option.bind_some,eQ]
 cases b with
 | false=>exact ⟨((0,[],[]),false),rfl,rfl,Bx⟩
 | true =>
  have d1:=Wy (p:=p) (most:=200) h1 (by omega) (by omega) (by omega)
  have d2:=Wx (p:=p) (most:=200) h1 (by omega) (by omega) (by omega)
  have d1:gX p 200=_:=d1
  have d2:ga p 200=_:=d2
  rw[d1,d2];simp only[if_true,Option.bind_some]
  rcases Mr (nx:=nxS p) (first:=1) (acc:=tM p) (most:=200) (200+2) 0 (fun j hj=>by omega) (by simp[bfS]) with e | ⟨N,hN,hNm,e⟩
  ·rw[e]
   exact ⟨((0,[],[]),false),rfl,rfl,Bx⟩
  ·rw[e];simp only[if_true]
   have V:=S5 (acc:=tM p) (Br p) hN
   obtain ⟨r,es,ei,hr⟩:=Pw V (by omega)
   unfold wV
   rw[es];simp only[Option.bind_some,eQ]
   rw[ei];simp only[Option.bind_some,eQ]
   by_cases c:(r.2.1.length:Int)>12
   ·have c':decide ((r.2.1.length:Int)>12)=true:=decide_eq_true c
    simp only[c',if_true,Option.bind_some]
    exact ⟨((0,[],[]),false),rfl,rfl,Bx⟩
   ·have c':decide ((r.2.1.length:Int)>12)=false:=decide_eq_false c
    simp only[c',Bool.false_eq_true,if_false,Option.bind_some]
    exact ⟨(r,true),rfl,rfl,hr⟩
end D
set_option synthInstance.maxSize 20000
set_option synthInstance.maxHeartbeats 2000000
namespace D
open Go.RowKit
abbrev WkT:=Int×List StT
theorem IJ {R:Type} {f g:Int→Option (Out R Int)} (n:Nat) (hn:n≤9223372036854775807) (h: ∀i:Nat,i<n→f (i:Int)=g (i:Int)∧(f (i:Int)=some (.nxt ((i+1:Nat):Int))∨ ∃r,f (i:Int)=some (.ret r))) (hf:f (n:Int)=some (.brk (n:Int))) (hg:g (n:Int)=some (.brk (n:Int))) :
  ai f aB 0=ai g aB 0∧((∃r,ai f aB 0=some (.ret r))∨ai f aB 0=some (.brk (n:Int))):=by
 constructor
 ·have key: ∀k (i:Nat),i≤n→ai f k (i:Int)=ai g k (i:Int):=fun k=>by
   induction k with
   | zero=>intro i hi;rfl
   | succ k ih =>
    intro i hi
    rw[ai,ai]
    by_cases c:i<n
    ·obtain ⟨e,h2⟩:=h i c
     rw[←e]
     rcases h2 with h2 | ⟨r,h2⟩
     ·rw[h2];exact ih (i+1) (by omega)
     ·rw[h2]
    ·obtain rfl:i=n:=by omega
     rw[hf,hg]
  exact key aB 0 (by omega)
 ·obtain ⟨o,e,hQ⟩:=bF (f:=f) (fun i s=>s=(i:Int)) (fun o=>(∃r,o= .ret r)∨o= .brk (n:Int)) n (fun i s hi hI=>by
   subst hI
   by_cases c:i<n
   ·rcases (h i c).2 with h2 | ⟨r,h2⟩
    ·exact .inl ⟨c,_,h2,rfl⟩
    ·exact .inr ⟨_,h2,fun s' hh=>by simp at hh,.inl ⟨r,rfl⟩⟩
   ·obtain rfl:i=n:=by omega
    exact .inr ⟨_,hf,fun s' hh=>by simp at hh,.inr rfl⟩) (s:=0) rfl (gp hn)
  rcases hQ with ⟨r,rfl⟩ | rfl
  ·exact .inl ⟨r,e⟩
  ·exact .inr e
theorem IK {g:GrT} (hg:Data.sm g) {e:List Tok} (he:e.length≤1048576) {l:List Pr} (hl:l.length≤1048576) {ws:List WkT} (hws:ws.length≤1048576) (hw: ∀w∈ws,w.2.length≤1048576): ∃r,iu g e l ws=some r∧ix g e l ws=some r:=by
 obtain ⟨⟨want,is⟩,v1,v2,hR⟩:=LO hg he
 obtain ⟨⟨a,ok⟩,c1,c2,ha⟩:=Do he
 have hR:InR want:=hR
 have ha:Data.sm a:=ha
 have hwl:=hR.len
 obtain ⟨b,eb⟩:=ET l (by omega)
 have es:dI l=some b:=A4.trans eb
 unfold iu ix
 simp only[eQ]
 rw[v1,v2];simp only[Option.bind_some]
 rw[c1,c2];simp only[Option.bind_some]
 cases is with
 | false=>exact ⟨1,rfl,rfl⟩
 | true =>
  simp only[if_true]
  cases ok with
  | false=>exact ⟨1,rfl,rfl⟩
  | true =>
   simp only[if_true]
   rw[es,eb];simp only[Option.bind_some]
   cases b with
   | false=>exact ⟨1,rfl,rfl⟩
   | true =>
    simp only[if_true]
    by_cases d:l.length=ws.length
    case neg =>
     have d1:((l.length:Int) !=(ws.length:Int))=true:=by rw[bne_iff_ne];omega
     have d2:((ws.length:Int) !=(l.length:Int))=true:=by rw[bne_iff_ne];omega
     rw[if_pos d1,if_pos d2];exact ⟨1,rfl,rfl⟩
    have d1: ¬((l.length:Int) !=(ws.length:Int))=true:=by rw[bne_iff_ne];omega
    have d2: ¬((ws.length:Int) !=(l.length:Int))=true:=by rw[bne_iff_ne];omega
    rw[if_neg d1,if_neg d2,zP (by omega) (by omega),Uw (by omega) (by omega)];simp only[Option.bind_some]
    split
    ·exact ⟨2,rfl,rfl⟩
    rw[zP (by omega) (by omega),Uw (by omega) (by omega)];simp only[Option.bind_some]
    split
    ·exact ⟨3,rfl,rfl⟩
    obtain ⟨e,ho⟩:=IJ (f:=e7 g l ws (a,true)) (g:=ff g l ws (a,true)) l.length (by omega) (fun i hi=>by
     have hi2:i<ws.length:=by omega
     obtain ⟨b,w1,w2⟩:=Dg hg ha (hw _ (List.getElem_mem hi2)) l[i].1 l[i].2
     obtain ⟨n,s1,s2⟩:=Bp hg ha l[i].1 l[i].2
     unfold e7 ff
     simp only[eQ]
     rw[bA hi,if_pos rfl,if_pos rfl,aq hi,aq hi2];simp only[Option.bind_some]
     rw[w1,w2];simp only[Option.bind_some]
     cases b with
     | false=>exact ⟨rfl,.inr ⟨_,rfl⟩⟩
     | true =>
      simp only[if_true]
      rw[s1,s2];simp only[Option.bind_some]
      split
      ·exact ⟨trivial,.inr ⟨_,rfl⟩⟩
      ·rw[aa (by omega)];exact ⟨trivial,.inl rfl⟩) (by
     unfold e7
     rw[bh];rfl) (by
     unfold ff
     rw[bh];rfl)
    rw[←e]
    rcases ho with ⟨r,ho⟩ | ho
    ·rw[aK ho];exact ⟨_,rfl,rfl⟩
    ·rw[ae ho];exact ⟨_,rfl,rfl⟩
theorem yh (x0:GrT) (x1:List Tok) (x2:List Pr) (x3:List WkT) (h0:Data.lim x0) (h1:Data.lim x1) (h2:Data.lim x2) (h3:Data.lim x3):dg x0 x1 x2 x3=some true:=by
 unfold dg
 simp only[eQ]
 obtain ⟨r1,e1,k1⟩:=La x0 1048576 h0 (by decide) (by decide)
 rw[e1];simp only[Option.bind_some]
 rcases k1 with k1 | ⟨k1,j1,s1⟩
 ·rw[if_pos (decide_eq_true k1)]
 rw[if_neg (by simpa using k1)]
 obtain ⟨r2,e2,k2⟩:=Oz x1 r1 h1 (by omega) (by omega)
 rw[e2];simp only[Option.bind_some]
 rcases k2 with k2 | ⟨k2,j2,s2⟩
 ·rw[if_pos (decide_eq_true k2)]
 rw[if_neg (by simpa using k2)]
 obtain ⟨r3,e3,k3⟩:=Lb x2 r2 h2 (by omega) (by omega)
 rw[e3];simp only[Option.bind_some]
 rcases k3 with k3 | ⟨k3,j3,s3⟩
 ·rw[if_pos (decide_eq_true k3)]
 rw[if_neg (by simpa using k3)]
 obtain ⟨r4,e4,k4⟩:=Ld x3 r3 h3 (by omega) (by omega)
 rw[e4];simp only[Option.bind_some]
 rcases k4 with k4 | ⟨k4,j4,s4⟩
 ·rw[if_pos (decide_eq_true k4)]
 rw[if_neg (by simpa using k4)]
 have hl1:=(aJ s1.1).1
 obtain ⟨r,es,ei⟩:=IK s1 (aJ s2).1 (aJ s3).1 (aJ s4).1 (fun w hw=>(aJ ((aJ s4).2 w hw).2).1)
 simp only[Lf x0 s1,OA x1 s2,Lg x2 s3,Li x3 s4,es,ei,Lk x0 x0 s1 s1,OB x1 x1 s2 s2,Ll x2 x2 s3 s3,Ln x3 x3 s4 s4,Option.bind_some,eQ,decide_true,if_true]
 simp
end D
open Go.ChangeShapes Go.WideShapes Go.ChangeAt Go.RowKit
theorem own:ownKnob Tryz.prog.godebug=none:=by kernel_rfl
theorem laidOut:laidOutB Tryz.prog=true:=by kernel_rfl
theorem tN {H:Type} {enc:TypeId×Value→H} {P:Program} (hl:laidOutB P=true) {W W':World} (hb:Below W.heap.size W W') :
  ∀ {ts:List TypeId} {vs:List Value} {ds:List (DataW H)} {ps:List MemPlace},(∀t∈ts,P.readableRec t=true∧t<P.types.size)→
   DataW.TrodAll enc P W 0 (fun _=>true) true ts vs ds ps→(∀x∈ps,x.block<W.heap.size)→DataW.TrodAll enc P W' 0 (fun b=>decide (b<W.heap.size)) true ts vs ds ps
 | [],[],[],ps,_,h,_=>h
 | t::ts,v::vs,d::ds,ps,hr,⟨p,q,h1,h2,h3⟩,hlt=>by
  subst h3
  exact ⟨p,q,Below.trod hl (hr t (by simp)).1 (hr t (by simp)).2 h1 hb fun x hx=>hlt x (by simp[hx]),tN hl hb (fun t ht=>hr t (by simp[ht])) h2 fun x hx=>hlt x (by simp[hx]),rfl⟩
 | [],_::_,_,_,_,h,_=>h.elim
 | [],[],_::_,_,_,h,_=>h.elim
 | _::_,[],_,_,_,h,_=>h.elim
 | _::_,_::_,[],_,_,h,_=>h.elim
theorem Px {H:Type} {enc:TypeId×Value→H} {f:Func} {s:ChangeSpec} {W W':World} {args:Array Value} {ds:List (DataW H)} {before:List MemPlace} (tb:TypeId)
  (hb:Tryz.prog.underlying tb=some .bool) (hr:f.resultTypes= #[tb]) (hp:(f.params.toList.all fun t=>Tryz.prog.readableRec t&&decide (t<Tryz.prog.types.size))=true) (hv:s.vars= [])
  (hW:DataW.Whole enc Tryz.prog f.params.toList s.vars false W args.toList ds [] before) (hres:(s.fn H (ds++ [])).results= [.lit (.bool true)]) (hargs:(s.fn H (ds++ [])).args=ds) (hvars:(s.fn H (ds++ [])).vars= [])
  (hbel:Below W.heap.size W W'):s.post enc Tryz.prog f false true false false W args (.bool true) W':=by
 obtain ⟨p,q,h1,h2,h3,h4,h5⟩:=hW
 have hW':DataW.Whole enc Tryz.prog f.params.toList s.vars false W args.toList ds [] before:=⟨p,q,h1,h2,h3,h4,h5⟩
 have hq:q= []:=by rw[hv] at h2;exact h2
 subst hq
 simp only[List.append_nil] at h3
 subst h3
 refine ⟨ds,[],before,[],before,[],hW',?_,?_,?_,hbel.frame _,fun h=>by cases h⟩
 ·rw[hres,hr]
  exact trodAll_mk1 (shut_bool hb true)
 ·rw[hargs]
  exact tN laidOut hbel (fun t ht=>by have:=List.all_eq_true.1 hp t ht;simpa using this) h1 fun x hx=>by simpa using hW'.lt x hx
 ·rw[hvars,hv];rfl
open Go.ChangeShapes Go.WideShapes Go.ChangeAt Go.RowKit
namespace D
theorem op3:Opens Tryz.prog 3 cZ:=K6 Tryz.underlying3
theorem Xr:Opens Tryz.prog 39 (af 3 cZ):=j7 Tryz.underlying39 (by kernel_rfl) (by decide) op3
theorem WD:Opens Tryz.prog 196 (bc cZ (bc cZ (bc cZ cZ))):=by
 refine gm Tryz.underlying196 (by kernel_rfl) ?_
 refine fA (R:=cZ) (S:=bc (cZ) (bc (cZ) (cZ))) rfl (by kernel_rfl) op3 ?_
 refine fA (R:=cZ) (S:=bc (cZ) (cZ)) rfl (by kernel_rfl) op3 ?_
 refine fA (R:=cZ) (S:=cZ) rfl (by kernel_rfl) op3 ?_
 exact j8 rfl (by kernel_rfl) op3
theorem Xs:Opens Tryz.prog 62 (af 196 (bc cZ (bc cZ (bc cZ cZ)))):=j7 Tryz.underlying62 (by kernel_rfl) (by decide) WD
theorem Xt:Opens Tryz.prog 64 (bc (af 3 cZ) (af 196 (bc cZ (bc cZ (bc cZ cZ))))):=by
 refine gm Tryz.underlying64 (by kernel_rfl) ?_
 refine fA (R:=af 3 cZ) (S:=af 196 (bc cZ (bc cZ (bc cZ cZ)))) rfl (by kernel_rfl) Xr ?_
 exact j8 rfl (by kernel_rfl) Xs
theorem WE {W:World} {base:Nat} {z:Value} {H:Type} {enc:TypeId×Value→H} {d:DataW H} {p:List MemPlace} (hv:Value.okWide Tryz.prog W .any base 64 z) (h:DataW.Trod enc Tryz.prog W 0 (fun _=>true) true 64 z d p) :
  ∃(x:(List Int)×(List (Int×Int×Int×Int))) (v0:Value) (v1:Value),z= .agg #[v0,v1] ∧Data.lim x∧(af 3 cZ).rd (hp W) [v0] x.1∧(af 196 (bc cZ (bc cZ (bc cZ cZ)))).rd (hp W) [v1] x.2:=by
 obtain ⟨fuel,hf⟩:=h
 obtain ⟨⟨cs⟩,rfl,-⟩:=okWide_struct Tryz.underlying64 hv
 obtain ⟨x,hx,hl⟩:=Xt.out enc W _ _ _ hf
 have hx:(bc (af 3 cZ) (af 196 (bc cZ (bc cZ (bc cZ cZ))))).rd (hp W) cs x:=hx
 obtain ⟨_,_,rfl,r0,r1⟩:=hx
 obtain ⟨v0,rfl⟩:=one_cell r0 rfl
 obtain ⟨v1,rfl⟩:=one_cell r1 rfl
 exact ⟨x,v0,v1,rfl,hl,r0,r1⟩
theorem WG:Opens Tryz.prog 181 (bc cZ (bc cZ (bc cZ cZ))):=by
 refine gm Tryz.underlying181 (by kernel_rfl) ?_
 refine fA (R:=cZ) (S:=bc (cZ) (bc (cZ) (cZ))) rfl (by kernel_rfl) op3 ?_
 refine fA (R:=cZ) (S:=bc (cZ) (cZ)) rfl (by kernel_rfl) op3 ?_
 refine fA (R:=cZ) (S:=cZ) rfl (by kernel_rfl) op3 ?_
 exact j8 rfl (by kernel_rfl) op3
theorem Xu:Opens Tryz.prog 51 (af 181 (bc cZ (bc cZ (bc cZ cZ)))):=j7 Tryz.underlying51 (by kernel_rfl) (by decide) WG
theorem Xv:Opens Tryz.prog 53 (af 181 (bc cZ (bc cZ (bc cZ cZ)))):=by
 refine gm Tryz.underlying53 (by kernel_rfl) ?_
 exact j8 rfl (by kernel_rfl) Xu
theorem WH {W:World} {base:Nat} {z:Value} {H:Type} {enc:TypeId×Value→H} {d:DataW H} {p:List MemPlace} (hv:Value.okWide Tryz.prog W .any base 53 z) (h:DataW.Trod enc Tryz.prog W 0 (fun _=>true) true 53 z d p) :
  ∃(x:(List (Int×Int×Int×Int))) (v0:Value),z= .agg #[v0] ∧Data.lim x∧(af 181 (bc cZ (bc cZ (bc cZ cZ)))).rd (hp W) [v0] x:=by
 obtain ⟨fuel,hf⟩:=h
 obtain ⟨⟨cs⟩,rfl,-⟩:=okWide_struct Tryz.underlying53 hv
 obtain ⟨x,hx,hl⟩:=Xv.out enc W _ _ _ hf
 have hx:(af 181 (bc cZ (bc cZ (bc cZ cZ)))).rd (hp W) cs x:=hx
 have r0:=hx
 obtain ⟨v0,rfl⟩:=one_cell r0 rfl
 exact ⟨x,v0,rfl,hl,r0⟩
theorem WI:Opens Tryz.prog 136 (bc cZ cZ):=by
 refine gm Tryz.underlying136 (by kernel_rfl) ?_
 refine fA (R:=cZ) (S:=cZ) rfl (by kernel_rfl) op3 ?_
 exact j8 rfl (by kernel_rfl) op3
theorem Xw:Opens Tryz.prog 65 (af 136 (bc cZ cZ)):=j7 Tryz.underlying65 (by kernel_rfl) (by decide) WI
theorem WJ {W:World} {base:Nat} {z:Value} {H:Type} {enc:TypeId×Value→H} {d:DataW H} {p:List MemPlace} (hv:Value.okWide Tryz.prog W .any base 65 z) (h:DataW.Trod enc Tryz.prog W 0 (fun _=>true) true 65 z d p) :
  ∃(x:List (Int×Int)) (v0:Value),z=v0∧Data.lim x∧(af 136 (bc cZ cZ)).rd (hp W) [v0] x:=by
 obtain ⟨fuel,hf⟩:=h
 obtain ⟨a,l,c,rfl⟩:=okWide_slice Tryz.underlying65 hv
 obtain ⟨x,hx,hl⟩:=Xw.out enc W _ _ _ hf
 exact ⟨x,_,rfl,hl,hx⟩
theorem op4:Opens Tryz.prog 4 rA:=Im Tryz.underlying4
theorem WK:Opens Tryz.prog 265 (bc cZ rA):=by
 refine gm Tryz.underlying265 (by kernel_rfl) ?_
 refine fA (R:=cZ) (S:=rA) rfl (by kernel_rfl) op3 ?_
 exact j8 rfl (by kernel_rfl) op4
theorem WL:Opens Tryz.prog 119 (af 265 (bc cZ rA)):=j7 Tryz.underlying119 (by kernel_rfl) (by decide) WK
theorem WM:Opens Tryz.prog 121 (bc cZ (af 265 (bc cZ rA))):=by
 refine gm Tryz.underlying121 (by kernel_rfl) ?_
 refine fA (R:=cZ) (S:=af 265 (bc cZ rA)) rfl (by kernel_rfl) op3 ?_
 exact j8 rfl (by kernel_rfl) WL
theorem Xx:Opens Tryz.prog 66 (af 121 (bc cZ (af 265 (bc cZ rA)))):=j7 Tryz.underlying66 (by kernel_rfl) (by decide) WM
theorem WN {W:World} {base:Nat} {z:Value} {H:Type} {enc:TypeId×Value→H} {d:DataW H} {p:List MemPlace} (hv:Value.okWide Tryz.prog W .any base 66 z) (h:DataW.Trod enc Tryz.prog W 0 (fun _=>true) true 66 z d p) :
  ∃(x:List (Int×(List (Int×Bool)))) (v0:Value),z=v0∧Data.lim x∧(af 121 (bc cZ (af 265 (bc cZ rA)))).rd (hp W) [v0] x:=by
 obtain ⟨fuel,hf⟩:=h
 obtain ⟨a,l,c,rfl⟩:=okWide_slice Tryz.underlying66 hv
 obtain ⟨x,hx,hl⟩:=Xx.out enc W _ _ _ hf
 exact ⟨x,_,rfl,hl,hx⟩
end D
open D (Data)
theorem vz (W:World) (args:Array Value) (H:Type) (enc:TypeId×Value→H) (base:Nat) (ds gs:List (DataW H)) (before:List MemPlace)
  (hval: ∀(j:Nat) t v,Tryz.f7.params[j]? =some t→args[j]? =some v→Value.okWide Tryz.prog W .any base t v)
  (hW:DataW.Whole enc Tryz.prog Tryz.f7.params.toList Rows.fnExactAuditAnswersSpec.vars false W args.toList ds gs before) :
  Calls Tryz.prog 7 args W fun e W'=> ∃v,e= .returned v∧Rows.fnExactAuditAnswersSpec.post enc Tryz.prog Tryz.f7 false true false false W args v W':=by
 have hW':=hW
 obtain ⟨p,q,hA,hV,rfl,hfz,hnd⟩:=hW
 rw[Tryz.params7] at hA hval
 obtain ⟨z0,vs0,d0,ds0,p0,q0,hargs,rfl,rfl,h0,r0⟩:=trodAll_cons hA
 obtain ⟨z1,vs1,d1,ds1,p1,q1,rfl,rfl,rfl,h1,r1⟩:=trodAll_cons r0
 obtain ⟨z2,vs2,d2,ds2,p2,q2,rfl,rfl,rfl,h2,r2⟩:=trodAll_cons r1
 obtain ⟨z3,vs3,d3,ds3,p3,q3,rfl,rfl,rfl,h3,r3⟩:=trodAll_cons r2
 obtain ⟨rfl,rfl,rfl⟩:=trodAll_nil r3
 obtain rfl:args= #[z0,z1,z2,z3]:=by cases args;simp_all
 obtain ⟨rfl,rfl⟩:=trodVars_none hV
 obtain ⟨x0,v0_0,v0_1,rfl,l0,r0_0,r0_1⟩:=D.WE (hval 0 _ _ rfl rfl) h0
 obtain ⟨x1,v1_0,rfl,l1,r1_0⟩:=D.WH (hval 1 _ _ rfl rfl) h1
 obtain ⟨x2,v2_0,rfl,l2,r2_0⟩:=D.WJ (hval 2 _ _ rfl rfl) h2
 obtain ⟨x3,v3_0,rfl,l3,r3_0⟩:=D.WN (hval 3 _ _ rfl rfl) h3
 have hc:=D.o0 x0 x1 x2 x3 true (D.yh x0 x1 x2 x3 l0 l1 l2 l3) (I:=D.hp W) (w0:=W) v0_0 v0_1 v1_0 z2 z3 r0_0 r0_1 r1_0 r2_0 r3_0 D.Lay.all W [] (D.St.init W)
 refine hc.mono fun e W' ⟨v,he,hv,hs⟩=>?_
 subst he;subst hv
 exact ⟨_,rfl,Px (f:=Tryz.f7) (s:=Rows.fnExactAuditAnswersSpec) 4 Tryz.underlying4 rfl (by kernel_rfl) rfl hW' rfl rfl rfl (D.St.below hs)⟩
theorem sv (os:Os) (started:os.Started) (H:Type) (enc:TypeId×Value→H) :
  ReturnsInHanded {} Tryz.checked os 7 .any (Rows.fnExactAuditAnswersSpec.pre6 enc Tryz.prog Tryz.f7 Rows.fnExactAuditAnswersRow.domain false) (Rows.fnExactAuditAnswersSpec.post enc Tryz.prog Tryz.f7 false true false false):=by
 refine returnsInHanded_of_change_sized (C:=Tryz.checked) own started (by kernel_rfl) Tryz.func7
  (ChangeSpec.witness6 (enc:=enc) (C:=Tryz.checked) false ⟨#[],#[.agg #[.slice none 0 0,.slice none 0 0],.agg #[.slice none 0 0],.slice none 0 0,.slice none 0 0],[]⟩ 8 (by kernel_rfl) (by kernel_rfl) (by kernel_rfl) (by kernel_rfl)) ?_
 intro W base args ds gs before hval hW hcnd hsz _
 exact vz W args H enc base ds gs before hval hW
set_option maxHeartbeats 4000000 in
theorem sw:joinedFacts Tryz.pinned.checked.prog 7 Tryz.f7 Rows.fnExactAuditAnswersSpec Rows.fnExactAuditAnswersRow=true:=by
 unfold joinedFacts
 repeat' (with_reducible refine Bool.and_eq_true_iff.2 ⟨?_,?_⟩)
 all_goals as_aux_lemma=>kernel_rfl
theorem holdsLAuditAnswers:Rows.FnExactAuditAnswersSaid:=
 OpenClaim.holds_of_wide 7 Tryz.f7 rfl rfl rfl rfl rfl rfl rfl ⟨rfl,rfl,rfl,rfl,rfl⟩ rfl rfl rfl rfl rfl (by kernel_rfl) Tryz.func7 sw
  (of_decide_eq_true (by kernel_rfl)) (by unfold Func.isWrapper;first | (rw[if_pos (by decide +kernel)];kernel_rfl) | (rw[if_neg (by decide +kernel)];exact ⟨rfl,rfl⟩))
  (fun os started H enc _=>sv os started H enc)
end Go.Proofs.YtcmpdlhbliolaaaGreat
