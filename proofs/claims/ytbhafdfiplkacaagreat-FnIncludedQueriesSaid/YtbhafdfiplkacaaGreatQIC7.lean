/- FnIncludedQueries: for every input the law returns true and changes nothing that was there. Part 8 of 8. -/
import Derived.Test.YtbhafdfiplkacaaGreatQIC6
set_option linter.unusedVariables false
set_option linter.unusedSimpArgs false
set_option linter.unnecessarySimpa false
set_option linter.unusedSectionVars false
set_option maxRecDepth 1000000
namespace Go.Proofs.YtbhafdfiplkacaaGreat
namespace D
open Go.RowKit
def itv (a:AutT) (s:Int) (k i:Nat):Int:=y6 a s (List.replicate i k)
theorem pA (a:AutT) (s:Int) (k i:Nat):itv a s k (i+1)=mvn a (itv a s k i) k:=by
 unfold itv
 rw[List.replicate_succ',nl];rfl
theorem FW {a:AutT} {s:Int} {k:Nat} (h:0<=s):mvn a s k=mv a s k:=by unfold mvn;rw[if_neg (by omega)]
theorem TS {a:AutT} {s:Int} {k:Nat} (h:s<0):mvn a s k= -1:=by unfold mvn;rw[if_pos h]
def ClJ (a:AutT) (s:Int) (k:Nat) (i:Nat) (st:Int×Int):Prop:=st.2=itv a s k i/\ ∃M:Nat,st.1=(M:Int)/\ ∀j:Nat,(M.testBit j=true↔ ∃i',i'<i/\(j:Int)=itv a s k i')
section
variable {a:AutT} {n:Nat} (V:VA a n) (hn:n<=12)
include V hn
theorem PR {s v:Int} (hv:0<=v/\v<=2) {i:Nat} {st st':Int×Int} (h:ClI n i st) (k:ClJ a s (6+v).toNat i st) (e:bQ a v st=some (.nxt st')):ClJ a s (6+v).toNat (i+1) st':=by
 obtain ⟨⟨h1,h2⟩,M,L,e1,hM,hl,hd,hr,hb⟩:=h
 obtain ⟨k1,M',k2,k3⟩:=k
 obtain ⟨m,z⟩:=st
 obtain rfl:m=(M:Int):=e1
 obtain rfl:M=M':=Int.ofNat_inj.1 k2
 have h62:M<2 ^ 62:=aF hM (p62 (by omega))
 unfold bQ at e
 by_cases c:z≥0
 ·obtain ⟨q,rfl⟩: ∃q:Nat,z=(q:Int):=⟨z.toNat,by omega⟩
  have hq:q<n:=by simp only at h2;omega
  have e0:chk ((0:Int)<=(q:Int))=some ():=by unfold chk;rw[if_pos (by omega)]
  simp only[e0,aa] at e
  rw[if_pos (by simp),B6 h62 (by omega)] at e
  by_cases b:M.testBit q=true
  ·rw[if_neg (by simp[b])] at e;cases e
  ·have ew:IntKind.i64.wrap (6+v)=(((6+v).toNat:Nat):Int):=by rw[bY (by omega) (by omega)];omega
   rw[if_pos (by simp[b]),ew] at e
   have e2:=we V (s:=(q:Int)) (k:=(6+v).toNat) (by omega) (by omega) (by omega)
   have e2:aS (a.1,a.2.1,a.2.2) (q:Int) (((6+v).toNat:Nat):Int)=_:=e2
   rw[e2,th (by omega),DY h62 (Nat.pow_lt_pow_right (by decide) (by omega))] at e
   obtain rfl:=Out.nxt.inj (ae e)
   have k1:(q:Int)=itv a s (6+v).toNat i:=k1
   refine ⟨by show mv a (q:Int) _=_;rw[pA,<-k1,FW (by omega)],_,rfl,fun j=>?_⟩
   rw[kV,Bool.or_eq_true,k3 j,decide_eq_true_eq]
   constructor
   ·rintro (⟨i',h3,h4⟩ | rfl)
    ·exact ⟨i',by omega,h4⟩
    ·exact ⟨i,by omega,k1⟩
   ·rintro ⟨i',h3,h4⟩
    by_cases c2:i'=i
    ·subst c2
     right;rw[<-k1] at h4;omega
    ·exact .inl ⟨i',by omega,h4⟩
 ·rw[if_neg (by simpa using c)] at e;cases e
theorem TU {s v:Int} {i:Nat} {st:Int×Int} (hv:0<=v/\v<=2) (h:ClI n i st) (k:ClJ a s (6+v).toNat i st) (e:bQ a v st=some (.brk st)): ∀m:Nat,0<=itv a s (6+v).toNat m-> ∃i',i'<i/\itv a s (6+v).toNat m=itv a s (6+v).toNat i':=by
 obtain ⟨⟨h1,h2⟩,M,L,e1,hM,hl,hd,hr,hb⟩:=h
 obtain ⟨k1,M',k2,k3⟩:=k
 obtain ⟨m,z⟩:=st
 obtain rfl:m=(M:Int):=e1
 obtain rfl:M=M':=Int.ofNat_inj.1 k2
 have h62:M<2 ^ 62:=aF hM (p62 (by omega))
 have k1:z=itv a s (6+v).toNat i:=k1
 by_cases c:z≥0
 ·obtain ⟨q,rfl⟩: ∃q:Nat,z=(q:Int):=⟨z.toNat,by omega⟩
  have hq:q<n:=by simp only at h2;omega
  have b:M.testBit q=true:=by
   by_cases b:M.testBit q=true
   ·exact b
   ·exfalso
    unfold bQ at e
    have e0:chk ((0:Int)<=(q:Int))=some ():=by unfold chk;rw[if_pos (by omega)]
    have ew:IntKind.i64.wrap (6+v)=(((6+v).toNat:Nat):Int):=by rw[bY (by omega) (by omega)];omega
    have e2:=we V (s:=(q:Int)) (k:=(6+v).toNat) (by omega) (by omega) (by omega)
    have e2:aS (a.1,a.2.1,a.2.2) (q:Int) (((6+v).toNat:Nat):Int)=_:=e2
    simp only[e0,aa] at e
    rw[if_pos (by simp),B6 h62 (by omega),if_pos (by simp[b]),ew,e2] at e
    cases e
  obtain ⟨i0,hi0,e0⟩:=(k3 q).1 b
  rw[k1] at e0
  intro m hm
  induction m with
  | zero=>exact ⟨0,by omega,rfl⟩
  | succ m ih =>
   have hm':0<=itv a s (6+v).toNat m:=by
    by_cases c2:0<=itv a s (6+v).toNat m
    ·exact c2
    ·rw[pA,TS (by omega)] at hm;omega
   obtain ⟨j,hj,ej⟩:=ih hm'
   by_cases c3:j+1<i
   ·exact ⟨j+1,c3,by rw[pA,pA,ej]⟩
   ·obtain rfl:i=j+1:=by omega
    exact ⟨i0,hi0,by rw[pA,ej,<-pA];exact e0⟩
 ·intro m hm
  have hneg: ∀d:Nat,itv a s (6+v).toNat (i+d)<0:=fun d=>by
   unfold itv
   rw[<-List.replicate_append_replicate,nl]
   refine uJ a _ _ ?_
   rw[show y6 a s (List.replicate i (6+v).toNat)=z from k1.symm];omega
  by_cases c2:m<i
  ·exact ⟨m,c2,rfl⟩
  ·have:=hneg (m - i)
   rw[show i+(m - i)=m from by omega] at this;omega
theorem uK {s v:Int} (hs:0<=s/\s<n) (hv:0<=v/\v<=2) {x:Int} :x∈dI (cS a s v) 30↔0<=x/\ ∃i,x=itv a s (6+v).toNat i:=by
 have h0:ClI n 0 (0,s):=⟨⟨by simp only;omega,hs.2⟩,0,[],rfl,Nat.two_pow_pos n,rfl,List.nodup_nil,by simp,by simp⟩
 have j0:ClJ a s (6+v).toNat 0 (0,s):=⟨rfl,0,rfl,fun j=>by simp⟩
 obtain ⟨o,e,C,s',rfl,hC,i,hj,hl⟩:=bX (f:=bQ a v) (fun i st=>ClI n i st/\ClJ a s (6+v).toNat i st) (fun o=> ∃(C:Nat) (s':Int),o= .brk ((C:Int),s')/\C<2 ^ n/\ ∃i,(∀j:Nat,(C.testBit j=true↔ ∃i',i'<i/\(j:Int)=itv a s (6+v).toNat i'))/\ ∀m:Nat,0<=itv a s (6+v).toNat m-> ∃i',i'<i/\itv a s (6+v).toNat m=itv a s (6+v).toNat i') n (s:=(0,s)) (fun i st hi h=>by
  rcases MC V hn hv h.1 with ⟨h1,st',h2,h3⟩ | h'
  ·exact .inl ⟨h1,st',h2,h3,PR V hn hv h.1 h.2 h2⟩
  ·have he:=TU V hn hv h.1 h.2 h'
   obtain ⟨_,M,L,e1,hM,_⟩:=h.1
   obtain ⟨-,M',e2,hb⟩:=h.2
   obtain ⟨m,s'⟩:=st
   obtain rfl:m=(M:Int):=e1
   obtain rfl:M=M':=Int.ofNat_inj.1 e2
   exact .inr ⟨_,h',(fun s' e=>by cases e),M,s',rfl,hM,i,hb,he⟩) ⟨h0,j0⟩ (by unfold aQ;omega)
 have ec:cS a s v=C:=by
  unfold cS dY
  rw[af e];rfl
 rw[ec,lB]
 constructor
 ·rintro ⟨j,hj1,hj2,rfl⟩
  obtain ⟨i',-,h2⟩:=(hj j).1 hj2
  exact ⟨by omega,i',h2⟩
 ·rintro ⟨hx,m,rfl⟩
  obtain ⟨i',h1,h2⟩:=hl m hx
  obtain ⟨j,hjx⟩: ∃j:Nat,itv a s (6+v).toNat m=(j:Int):=⟨_,(Int.toNat_of_nonneg hx).symm⟩
  have hb:C.testBit j=true:=(hj j).2 ⟨i',h1,by rw[<-hjx,h2]⟩
  refine ⟨j,?_,hb,hjx⟩
  by_cases c:j<30
  ·exact c
  ·rw[Nat.testBit_lt_two_pow (aF hC (Nat.pow_le_pow_right (by decide) (by omega)))] at hb;cases hb
theorem D9 {s v:Int} (hs:0<=s/\s<n) (hv:0<=v/\v<=2):s∈dI (cS a s v) 30:=(uK V hn hs hv).2 ⟨hs.1,0,rfl⟩
theorem MS {s v q:Int} (hs:0<=s/\s<n) (hv:0<=v/\v<=2) (hq:q∈dI (cS a s v) 30) (h:0<=mvn a q (6+v).toNat):mvn a q (6+v).toNat∈dI (cS a s v) 30:=by
 obtain ⟨h1,i,h2⟩:=(uK V hn hs hv).1 hq
 exact (uK V hn hs hv).2 ⟨h,i+1,by rw[pA,<-h2]⟩
end
theorem FX {a:AutT} {k:Nat} : ∀(l:List Int) (m j:Nat),(l.foldl (fun m t=>if 0<=mv a t k then m ||| 2 ^ (mv a t k).toNat else m) m).testBit j=true↔m.testBit j=true\/ ∃q∈l,mv a q k=(j:Int)
 | [],m,j=>by simp
 | t::l,m,j=>by
  rw[List.foldl_cons,FX l]
  split
  ·rename_i c
   rw[kV,Bool.or_eq_true,decide_eq_true_eq]
   constructor
   ·rintro ((h | h) | ⟨q,hq,h⟩)
    ·exact .inl h
    ·exact .inr ⟨t,by simp,by omega⟩
    ·exact .inr ⟨q,by simp[hq],h⟩
   ·rintro (h | ⟨q,hq,h⟩)
    ·exact .inl (.inl h)
    ·rcases az hq with rfl | hq
     ·exact .inl (.inr (by omega))
     ·exact .inr ⟨q,hq,h⟩
  ·rename_i c
   constructor
   ·rintro (h | ⟨q,hq,h⟩)
    ·exact .inl h
    ·exact .inr ⟨q,by simp[hq],h⟩
   ·rintro (h | ⟨q,hq,h⟩)
    ·exact .inl h
    ·rcases az hq with rfl | hq
     ·omega
     ·exact .inr ⟨q,hq,h⟩
theorem AM {a:AutT} {n:Nat} (V:VA a n) (hn:n<=12) {s v k t:Int} (hs:0<=s/\s<n) (hv:0<=v/\v<=2) (hk:0<=k/\k<9):t∈behind a s v k↔0<=t/\ ∃q∈dI (cS a s v) 30,mv a q k.toNat=t:=by
 have hC:=(jl V hn hs hv).2
 unfold behind
 rw[lB]
 constructor
 ·rintro ⟨i,hi,hb,rfl⟩
  unfold afL at hb
  rcases (FX _ _ _).1 hb with h | ⟨q,hq,h⟩
  ·simp at h
  ·exact ⟨by omega,q,hq,h⟩
 ·rintro ⟨ht,q,hq,h⟩
  obtain ⟨j,rfl⟩: ∃j:Nat,t=(j:Int):=⟨_,(Int.toNat_of_nonneg ht).symm⟩
  have hr:=mb V hn hC q hq
  have:=(V.mv hr.1 hr.2 (k:=k.toNat) (by omega)).2
  exact ⟨j,by omega,(FX _ _ _).2 (.inr ⟨q,hq,h⟩),rfl⟩
inductive PW (g:GrT):Nat->Nat->List Nat->Prop
 | nil (x:Nat):PW g x x []
 | test {x y:Nat} {w:List Nat} :PW g x y w->PW g x y ((6+nth g.1 (x:Int)).toNat::w)
 | step {x y:Nat} {w:List Nat} (z:ArT) (hz:z∈arcL g.2 x):PW g z.2.2.toNat y w->PW g x y (z.2.1.toNat::w)
theorem PW.trans {g:GrT} {x y z:Nat} {u w:List Nat} (h:PW g x y u) (k:PW g y z w):PW g x z (u++w):=by
 induction h with
 | nil x=>exact k
 | test _ ih=>exact (ih k).test
 | step t ht _ ih=>exact (ih k).step t ht
theorem PW.tests {g:GrT} {x:Nat} : ∀i,PW g x x (List.replicate i (6+nth g.1 (x:Int)).toNat)
 | 0=>.nil x
 | i+1=>by rw[List.replicate_succ];exact (PW.tests i).test
theorem PW.lt9 {g:GrT} (G:GOk g) {x y:Nat} {w:List Nat} (h:PW g x y w):x<g.1.length-> ∀k∈w,k<9:=by
 induction h with
 | nil x=>intro _ k hk;cases hk
 | @test x y w _ ih =>
  intro hx k hk
  rcases az hk with rfl | hk
  ·have:=G.val _ (bg (xs:=g.1) (i:=(x:Int)) (by omega) (by omega))
   omega
  ·exact ih hx k hk
 | step t ht _ ih =>
  intro hx k hk
  obtain ⟨h1,h2⟩:=qO G ht
  rcases az hk with rfl | hk
  ·omega
  ·exact ih (by omega) k hk
theorem PW.end_lt {g:GrT} (G:GOk g) {x y:Nat} {w:List Nat} (h:PW g x y w):x<g.1.length->y<g.1.length:=by
 induction h with
 | nil x=>exact id
 | test _ ih=>exact ih
 | step t ht _ ih =>
  intro hx
  obtain ⟨h1,h2⟩:=qO G ht
  exact ih (by omega)
theorem uL {g:GrT} {a:AutT} {R:List Int} {x:Int} : ∀N,x∈Ef g a R N↔ ∃i,i<N/\TO g a R i=true/\x=((i / a.2.1.length:Nat):Int)
 | 0=>by simp[Ef]
 | N+1=>by
  rw[Ef]
  constructor
  ·intro h
   split at h
   ·rename_i c
    rcases aH h with h | h
    ·obtain ⟨i,h1,h2⟩:=(uL N).1 h
     exact ⟨i,by omega,h2⟩
    ·exact ⟨N,by omega,c,al h⟩
   ·obtain ⟨i,h1,h2⟩:=(uL N).1 h
    exact ⟨i,by omega,h2⟩
  ·rintro ⟨i,h1,h2,h3⟩
   by_cases c:i=N
   ·subst c
    rw[if_pos h2,List.mem_append]
    exact .inr (by simp[h3])
   ·have:=(uL N).2 ⟨i,by omega,h2,h3⟩
    split
    ·exact List.mem_append.2 (.inl this)
    ·exact this
section
variable {g:GrT} {a:AutT} (H:GOOD g a) {x:Nat} (hx:x<g.1.length)
include H hx
theorem Jb: ∀(d:Nat) (i:Nat),i<a.2.1.length*g.1.length->nth (RKs g a ((x:Int)*(a.2.1.length:Int)+a.1)) (i:Int)=(d:Int)-> ∃w,PW g x (i / a.2.1.length) w/\y6 a a.1 w=((i % a.2.1.length:Nat):Int):=by
 have D:=MR H (x:=(x:Int)) ⟨by omega,by omega⟩
 have hst:=H.2.2.start
 have hp:=H.2.2.pos
 intro d
 induction d with
 | zero =>
  intro i hi h
  have h1:=(D.zero (i:Int) (by omega) (by omega)).1 h
  have h1:(i:Int)=(x:Int)*(a.2.1.length:Int)+a.1:=al h1
  obtain ⟨s,hs⟩: ∃s:Nat,a.1=(s:Int):=⟨_,(Int.toNat_of_nonneg hst.1).symm⟩
  rw[hs] at h1
  have h2:i=x*a.2.1.length+s:=by exact_mod_cast h1
  have h3:i / a.2.1.length=x:=by rw[h2,Nat.mul_comm,Nat.mul_add_div hp,Nat.div_eq_of_lt (by omega)];omega
  have h4:i % a.2.1.length=s:=by rw[h2,Nat.mul_comm,Nat.mul_add_mod,Nat.mod_eq_of_lt (by omega)]
  rw[h3,h4]
  exact ⟨[],.nil x,hs⟩
 | succ d ih =>
  intro i hi h
  obtain ⟨u,u0,u1,hnx,hu⟩:=D.pred (i:Int) (by omega) (by omega) (by omega)
  obtain ⟨j,rfl⟩: ∃j:Nat,u=(j:Int):=⟨_,(Int.toNat_of_nonneg u0).symm⟩
  obtain ⟨w,hw1,hw2⟩:=ih j (by omega) (by omega)
  unfold nxN at hnx
  rw[if_pos ⟨by omega,by omega⟩] at hnx
  have hnx:(i:Int)∈nbV g a (j / a.2.1.length) (j % a.2.1.length):=hnx
  have hjx:j / a.2.1.length<g.1.length:=(Nat.div_lt_iff_lt_mul hp).2 (by rw[Nat.mul_comm];omega)
  have hjs:j % a.2.1.length<a.2.1.length:=Nat.mod_lt _ hp
  generalize j / a.2.1.length=zx at hw1 hnx hjx
  generalize j % a.2.1.length=zs at hw2 hnx hjs
  obtain ⟨y,hy,hnx⟩:=List.mem_flatMap.1 hnx
  obtain ⟨t,ht,hit⟩:=List.mem_map.1 hnx
  have hv:=H.1.val _ (bg (xs:=g.1) (i:=(zx:Int)) (by omega) (by omega))
  obtain ⟨k1,k2⟩:=qO H.1 hy
  obtain ⟨t0,q,hq,hqt⟩:=(AM H.2.2 H.2.1 (s:=(zs:Int)) ⟨by omega,by omega⟩ hv ⟨k1.1,by omega⟩).1 ht
  obtain ⟨q0,m,hqm⟩:=(uK H.2.2 H.2.1 (s:=(zs:Int)) ⟨by omega,by omega⟩ hv).1 hq
  have hqr:=mb H.2.2 H.2.1 (jl H.2.2 H.2.1 (s:=(zs:Int)) ⟨by omega,by omega⟩ hv).2 q hq
  have htr:=(H.2.2.mv hqr.1 hqr.2 (k:=y.2.1.toNat) (by omega)).2
  obtain ⟨t',rfl⟩: ∃t':Nat,t=(t':Int):=⟨_,(Int.toNat_of_nonneg t0).symm⟩
  obtain ⟨y',hy'⟩: ∃y':Nat,y.2.2=(y':Int):=⟨_,(Int.toNat_of_nonneg k2.1).symm⟩
  have h2:i=y'*a.2.1.length+t':=by
   rw[hy'] at hit
   exact_mod_cast hit.symm
  have h3:i / a.2.1.length=y':=by rw[h2,Nat.mul_comm,Nat.mul_add_div hp,Nat.div_eq_of_lt (by omega)];omega
  have h4:i % a.2.1.length=t':=by rw[h2,Nat.mul_comm,Nat.mul_add_mod,Nat.mod_eq_of_lt (by omega)]
  refine ⟨w++(List.replicate m (6+nth g.1 (zx:Int)).toNat++ [y.2.1.toNat]),hw1.trans ((PW.tests m).trans (PW.step y hy ?_)),?_⟩
  ·rw[h3,hy'];exact .nil _
  ·rw[nl,hw2,nl]
   show mvn a (itv a (zs:Int) _ m) _=_
   rw[<-hqm,FW q0,hqt,h4]
theorem Jc {z y:Nat} {w:List Nat} (h:PW g z y w): ∀s q:Int,(z<g.1.length/\0<=s/\s<a.2.1.length)->0<=nth (RKs g a ((x:Int)*(a.2.1.length:Int)+a.1)) ((z:Int)*(a.2.1.length:Int)+s)->q∈dI (cS a s (nth g.1 (z:Int))) 30->acn a (y6 a q w)=true-> ∃s':Nat,s'<a.2.1.length/\0<=nth (RKs g a ((x:Int)*(a.2.1.length:Int)+a.1)) ((y:Int)*(a.2.1.length:Int)+(s':Int))/\FP a (s':Int) (nth g.1 (y:Int))=true:=by
 have D:=MR H (x:=(x:Int)) ⟨by omega,by omega⟩
 induction h with
 | nil z =>
  intro s q hz hR hq hac
  have hv:=H.1.val _ (bg (xs:=g.1) (i:=(z:Int)) (by omega) (by omega))
  have hqr:=mb H.2.2 H.2.1 (jl H.2.2 H.2.1 (s:=s) hz.2 hv).2 q hq
  have hs:((s.toNat:Nat):Int)=s:=Int.toNat_of_nonneg hz.2.1
  refine ⟨s.toNat,by omega,by rw[hs];exact hR,?_⟩
  unfold FP
  rw[hs]
  refine decide_eq_true ⟨q,hq,?_⟩
  have hac:acn a q=true:=hac
  unfold acn at hac
  rwa [if_neg (by omega)] at hac
 | @test z y w _ ih =>
  intro s q hz hR hq hac
  have hv:=H.1.val _ (bg (xs:=g.1) (i:=(z:Int)) (by omega) (by omega))
  have hac:acn a (y6 a (mvn a q (6+nth g.1 (z:Int)).toNat) w)=true:=hac
  refine ih s _ hz hR (MS H.2.2 H.2.1 hz.2 hv hq ?_) hac
  by_cases c:0<=mvn a q (6+nth g.1 (z:Int)).toNat
  ·exact c
  ·have:=uJ a w _ (by omega:mvn a q (6+nth g.1 (z:Int)).toNat<0)
   unfold acn at hac
   rw[if_pos this] at hac;cases hac
 | @step z y w t ht _ ih =>
  intro s q hz hR hq hac
  have hv:=H.1.val _ (bg (xs:=g.1) (i:=(z:Int)) (by omega) (by omega))
  have hqr:=mb H.2.2 H.2.1 (jl H.2.2 H.2.1 (s:=s) hz.2 hv).2 q hq
  obtain ⟨k1,k2⟩:=qO H.1 ht
  have hac:acn a (y6 a (mvn a q t.2.1.toNat) w)=true:=hac
  have hpos:0<=mvn a q t.2.1.toNat:=by
   by_cases c:0<=mvn a q t.2.1.toNat
   ·exact c
   ·have:=uJ a w _ (by omega:mvn a q t.2.1.toNat<0)
    unfold acn at hac
    rw[if_pos this] at hac;cases hac
  rw[FW hqr.1] at hac hpos
  have hlt:=(H.2.2.mv hqr.1 hqr.2 (k:=t.2.1.toNat) (by omega)).2
  obtain ⟨s1,rfl⟩: ∃s1:Nat,s=(s1:Int):=⟨_,(Int.toNat_of_nonneg hz.2.1).symm⟩
  have hb:mv a q t.2.1.toNat∈behind a (s1:Int) (nth g.1 (z:Int)) t.2.1:=(AM H.2.2 H.2.1 hz.2 hv ⟨k1.1,by omega⟩).2 ⟨hpos,q,hq,rfl⟩
  have hzs:=cN H.1 H.2.2 H.2.1 (x:=z) (s:=s1) hz.1 (by omega)
  obtain ⟨t1,ht1⟩: ∃t1:Nat,mv a q t.2.1.toNat=(t1:Int):=⟨_,(Int.toNat_of_nonneg hpos).symm⟩
  obtain ⟨y',hy'⟩: ∃y':Nat,t.2.2=(y':Int):=⟨_,(Int.toNat_of_nonneg k2.1).symm⟩
  have hyt:=cN H.1 H.2.2 H.2.1 (x:=y') (s:=t1) (by omega) (by omega)
  have hnx:((y':Int)*(a.2.1.length:Int)+(t1:Int))∈nxN g a ((z:Int)*(a.2.1.length:Int)+(s1:Int)):=by
   have e1:(z:Int)*(a.2.1.length:Int)+(s1:Int)=((z*a.2.1.length+s1:Nat):Int):=by simp
   rw[e1]
   unfold nxN
   rw[if_pos ⟨by omega,by omega⟩]
   show _∈nbC g a (Int.toNat ((z*a.2.1.length+s1:Nat):Int))
   rw[Int.toNat_natCast,Q4 H.1 H.2.2 H.2.1 (show s1<a.2.1.length by omega)]
   refine List.mem_flatMap.2 ⟨t,ht,List.mem_map.2 ⟨_,hb,?_⟩⟩
   rw[hy',ht1]
  have e1:(z:Int)*(a.2.1.length:Int)+(s1:Int)=((z*a.2.1.length+s1:Nat):Int):=by simp
  have e2:(y':Int)*(a.2.1.length:Int)+(t1:Int)=((y'*a.2.1.length+t1:Nat):Int):=by simp
  have hr2:=D.next _ _ (by rw[e1];omega) (by rw[e1];omega) (by rw[e2];omega) (by rw[e2];omega) hnx hR
  have hyn:t.2.2.toNat=y':=by omega
  rw[hyn] at ih
  have hv2:=H.1.val _ (bg (xs:=g.1) (i:=(y':Int)) (by omega) (by omega))
  rw[ht1] at hac
  exact ih (t1:Int) (t1:Int) ⟨by omega,by omega,by omega⟩ hr2.1 (D9 H.2.2 H.2.1 ⟨by omega,by omega⟩ hv2) hac
theorem HB {y:Int} :y∈Jo g a (x:Int)↔ ∃(z:Nat) (w:List Nat),y=(z:Int)/\PW g x z w/\acw a w=true:=by
 have hst:=H.2.2.start
 have hp:=H.2.2.pos
 have hrl:=Hv H (x:=(x:Int)) ⟨by omega,by omega⟩
 have D:=MR H (x:=(x:Int)) ⟨by omega,by omega⟩
 unfold Jo
 rw[lB]
 constructor
 ·rintro ⟨z,-,hb,rfl⟩
  obtain ⟨i,hi,hh,hz⟩:=(uL _).1 ((Ca H _ (aC _) z).1 hb)
  obtain rfl:z=i / a.2.1.length:=Int.ofNat_inj.1 hz
  unfold TO at hh
  rw[ah,decide_eq_true_eq] at hh
  obtain ⟨d,hd⟩: ∃d:Nat,nth (RKs g a ((x:Int)*(a.2.1.length:Int)+a.1)) (i:Int)=(d:Int):=⟨_,(Int.toNat_of_nonneg hh.1).symm⟩
  obtain ⟨w,h1,h2⟩:=Jb H hx d i hi hd
  have hjx:i / a.2.1.length<g.1.length:=(Nat.div_lt_iff_lt_mul hp).2 (by rw[Nat.mul_comm];omega)
  have hjs:i % a.2.1.length<a.2.1.length:=Nat.mod_lt _ hp
  generalize i / a.2.1.length=zx at h1 hjx hh hb
  generalize i % a.2.1.length=zs at h2 hjs hh
  have hv:=H.1.val _ (bg (xs:=g.1) (i:=(zx:Int)) (by omega) (by omega))
  have hacc:=hh.2
  unfold FP at hacc
  obtain ⟨q,hq,hqa⟩:=of_decide_eq_true hacc
  obtain ⟨q0,m,hqm⟩:=(uK H.2.2 H.2.1 (s:=(zs:Int)) ⟨by omega,by omega⟩ hv).1 hq
  refine ⟨_,w++List.replicate m (6+nth g.1 (zx:Int)).toNat,rfl,h1.trans (PW.tests m),?_⟩
  unfold acw
  rw[nl,h2]
  show acn a (itv a _ _ m)=true
  rw[<-hqm]
  unfold acn
  rw[if_neg (by omega)];exact hqa
 ·rintro ⟨z,w,rfl,h1,h2⟩
  have hz:=h1.end_lt H.1 hx
  have hv0:=H.1.val _ (bg (xs:=g.1) (i:=(x:Int)) (by omega) (by omega))
  have h0:0<=nth (RKs g a ((x:Int)*(a.2.1.length:Int)+a.1)) ((x:Int)*(a.2.1.length:Int)+a.1):=by
   have hvi:=I7 H (x:=(x:Int)) ⟨by omega,by omega⟩
   rw[(D.zero _ hvi.1 hvi.2).2 (by simp)];omega
  obtain ⟨s',hs',hR,hA⟩:=Jc H hx h1 a.1 a.1 ⟨hx,hst.1,hst.2⟩ h0 (D9 H.2.2 H.2.1 hst hv0) h2
  have hc:=cN H.1 H.2.2 H.2.1 (x:=z) (s:=s') hz hs'
  have hn5:=H.1.n5
  have e1:(z:Int)*(a.2.1.length:Int)+(s':Int)=((z*a.2.1.length+s':Nat):Int):=by simp
  have h3:(z*a.2.1.length+s') / a.2.1.length=z:=by rw[Nat.mul_comm,Nat.mul_add_div hp,Nat.div_eq_of_lt hs'];omega
  have h4:(z*a.2.1.length+s') % a.2.1.length=s':=by rw[Nat.mul_comm,Nat.mul_add_mod,Nat.mod_eq_of_lt hs']
  refine ⟨z,by omega,(Ca H _ (aC _) z).2 ((uL _).2 ⟨z*a.2.1.length+s',hc,?_,by rw[h3]⟩),rfl⟩
  unfold TO
  rw[h3,h4,hA,Bool.and_true]
  rw[e1] at hR
  exact decide_eq_true hR
end
theorem PS {g:GrT} {a b:AutT} (H:GOOD g a) (K:GOOD g b) (h: ∀w:List Nat,(∀k∈w,k<9)->acw b w=true->acw a w=true) {x:Nat} (hx:x<g.1.length) {y:Int} (hy:y∈Jo g b (x:Int)):y∈Jo g a (x:Int):=by
 obtain ⟨z,w,rfl,h1,h2⟩:=(HB K hx).1 hy
 exact (HB H hx).2 ⟨z,w,rfl,h1,h w (h1.lt9 H.1 hx) h2⟩
theorem PT {g:GrT} {a b:AutT} (H:GOOD g a) (K:GOOD g b) (h: ∀w:List Nat,(∀k∈w,k<9)->acw b w=true->acw a w=true): ∀p∈Ja g b g.1.length,p∈Ja g a g.1.length:=fun p hp=>by
 obtain ⟨x,h1,h2,h3⟩:=(Cd _).1 hp
 exact (Cd _).2 ⟨x,h1,h2,PS H K h h1 h3⟩
end D
namespace D
abbrev Pr:=Int×Int
def ltP (a b:Pr):Prop:=a.1<b.1\/a.1=b.1/\a.2<b.2
instance (a b:Pr):Decidable (ltP a b):=inferInstanceAs (Decidable (_\/_))
def ahd (p:Pr):List Pr->Nat
 | [] =>0
 | a::l=>if ltP a p then ahd p l+1 else 0
theorem MT (p:Pr): ∀l:List Pr,ahd p l<=l.length
 | [] =>aC _
 | a::l=>by
  unfold ahd
  split
  ·have:=MT p l;rw[au];omega
  ·exact Nat.zero_le _
theorem Q8 (p:Pr): ∀(l:List Pr) (i:Nat),i<ahd p l-> ∃x,l[i]? =some x/\ltP x p
 | [],i,h=>by simp[ahd] at h
 | a::l,i,h=>by
  unfold ahd at h
  split at h
  ·rename_i ha
   cases i with
   | zero=>exact ⟨a,rfl,ha⟩
   | succ i =>
    obtain ⟨x,h1,h2⟩:=Q8 p l i (by omega)
    exact ⟨x,by simpa using h1,h2⟩
  ·omega
theorem Q9 (p:Pr): ∀(l:List Pr) x,l[ahd p l]? =some x-> ¬ltP x p
 | [],x,h=>by simp at h
 | a::l,x,h=>by
  unfold ahd at h
  split at h
  ·exact Q9 p l x (by simpa using h)
  ·rename_i ha
   simp at h
   subst h;exact ha
def put (l:List Pr) (p:Pr):List Pr:=if l[ahd p l]? =some p then l else l.take (ahd p l)++p::l.drop (ahd p l)
def Jq (l m:List Pr):List Pr:=m.foldl put l
end D
namespace D
open Go.RowKit
theorem FY {α R:Type} {f:Int->Option (Out R Int)} (l:List α) (b:α->Bool) (r:Nat->R) (hN:l.length<=9223372036854775807) (h: ∀i (hi:i<l.length),f (i:Int)=some (if b l[i] then .ret (r i) else .nxt ((i+1:Nat):Int))) (he:f (l.length:Int)=some (.brk (l.length:Int))) :
  (∃(i:Nat) (hi:i<l.length),b l[i] =true/\(∀j (hj:j<i),b (l[j]'(by omega))=false)/\ay f aQ 0=some (.ret (r i)))\/((∀x,x∈l->b x=false)/\ay f aQ 0=some (.brk (l.length:Int))):=by
 obtain ⟨o,e,hQ⟩:=bX (f:=f) (fun i s=>s=(i:Int)/\ ∀j (hj:j<l.length),j<i->b l[j] =false) (fun o=>(∃(i:Nat) (hi:i<l.length),b l[i] =true/\(∀j (hj:j<i),b (l[j]'(by omega))=false)/\o= .ret (r i))\/((∀x,x∈l->b x=false)/\o= .brk (l.length:Int))) l.length (fun i s hi hI=>by
  obtain ⟨rfl,hI⟩:=hI
  by_cases h1:i<l.length
  ·cases hb:b l[i] with
   | true=>exact .inr ⟨_,by rw[h i h1,hb,if_pos rfl],fun s' hh=>by simp at hh,.inl ⟨i,h1,hb,fun j hj=>hI j (by omega) hj,by simp⟩⟩
   | false=>exact .inl ⟨h1,_,by rw[h i h1,hb,if_neg (by simp)],rfl,fun j hj hji=>by
     by_cases c:j=i
     ·subst c;exact hb
     ·exact hI j hj (by omega)⟩
  ·obtain rfl:i=l.length:=by omega
   exact .inr ⟨_,he,fun s' hh=>by simp at hh,.inr ⟨fun x hx=>by
    obtain ⟨j,hj,rfl⟩:=List.getElem_of_mem hx
    exact hI j hj hj,rfl⟩⟩) (s:=0) ⟨rfl,fun j hj h0=>by omega⟩ (jO _ hN)
 rcases hQ with ⟨i,hi,h1,h2,rfl⟩ | ⟨h1,rfl⟩
 ·exact .inl ⟨i,hi,h1,h2,e⟩
 ·exact .inr ⟨h1,e⟩
section
variable {l m:List Pr} {p:Pr}
theorem XT {a b:Pr} :((a.1==b.1)&&((a.2==b.2)&&true))=decide (a=b):=by
 rw[Bool.eq_iff_iff];simp[Prod.ext_iff]
theorem X5 {a b:Pr} :(Bool.and.match_1 (fun (_:Bool)=>Bool) (a.1==b.1) (fun (_:Unit)=>false) (fun (_:Unit)=>Bool.and.match_1 (fun (_:Bool)=>Bool) (a.2==b.2) (fun (_:Unit)=>false) (fun (_:Unit)=>true)))=decide (a=b):=XT
theorem Xj (hl:l.length<=1073741824):rk l p=some (decide (p∈l)):=by
 unfold rk
 rcases FY (f:=lZ l p) l (fun x=>decide (x=p)) (fun _=>true) (by omega) (fun i hi=>by
   unfold lZ
   rw[cW hi,if_pos rfl,aO hi]
   simp only[aa,XT,ai (show i<9223372036854775807 by omega)]
   split <;> rfl) (by
   unfold lZ
   rw[cx];rfl) with ⟨i,hi,h1,-,e⟩ | ⟨h1,e⟩
 ·rw[bN e,decide_eq_true (by rw[<-of_decide_eq_true h1];exact List.getElem_mem hi)]
 ·rw[af e,decide_eq_false fun hm=>by have:=h1 p hm;simp at this]
theorem Ra (a b:Pr):pg a b=some (decide (ltP a b)):=by
 unfold pg ltP
 by_cases h:a.1<b.1
 ·simp[h]
 ·by_cases k:a.1=b.1 <;> simp[h,k]
end
end D
set_option synthInstance.maxSize 20000
set_option synthInstance.maxHeartbeats 2000000
namespace D
open Go.RowKit
def prQ (q:QT):Int×List Tok:=(q.1,q.2.1)
theorem MU {qs ps:List QT} (h:qs.map prQ=ps.map prQ) (i:Int):(aP qs i=none/\aP ps i=none)\/ ∃x y,aP qs i=some x/\aP ps i=some y/\x.1=y.1/\x.2.1=y.2.1:=by
 have hl:qs.length=ps.length:=by
  have:=congrArg List.length h
  simpa using this
 by_cases c:0<=i/\i<qs.length
 ·refine .inr ⟨nth qs i,nth ps i,ax c.1 c.2,ax c.1 (by omega),?_⟩
  obtain ⟨k,rfl⟩: ∃k:Nat,i=(k:Int):=⟨i.toNat,by omega⟩
  rw[bT (by omega),bT (by omega)]
  have h1:(qs.map prQ)[k]'(by simp;omega)=(ps.map prQ)[k]'(by simp;omega):=by simp only[h]
  simp only[List.getElem_map,prQ,Prod.mk.injEq] at h1
  exact h1
 ·have:aP qs i=none:=by
   unfold aP
   split
   ·rename_i h0
    rw[List.getElem?_eq_none];omega
   ·rfl
  have h2:aP ps i=none:=by
   unfold aP
   split
   ·rename_i h0
    rw[List.getElem?_eq_none];omega
   ·rfl
  exact .inl ⟨this,h2⟩
theorem MV {qs ps:List QT} (h:qs.map prQ=ps.map prQ):bp qs=bp ps:=by
 have hl:qs.length=ps.length:=by
  have:=congrArg List.length h
  simpa using this
 funext s
 unfold bp
 rw[hl]
 rcases MU h s.1 with ⟨e1,e2⟩ | ⟨x,y,e1,e2,k1,k2⟩
 ·simp only[e1,e2,Option.bind_none]
 ·rcases MU h (IntKind.i64.wrap (s.1 - 1)) with ⟨f1,f2⟩ | ⟨u,v,f1,f2,j1,j2⟩
  ·simp only[e1,e2,f1,f2,aa,Option.bind_none,k1,k2]
  ·simp only[e1,e2,f1,f2,aa,k1,k2,j1,j2]
theorem PU {qs ps:List QT} (h:qs.map prQ=ps.map prQ):b8 qs=b8 ps:=by
 have hl:qs.length=ps.length:=by
  have:=congrArg List.length h
  simpa using this
 unfold b8
 rw[MV h,hl]
theorem TV (l:List AutT) (a:AutT) (hl:l.length<=1048576) (hs: ∀x∈l,Data.sm x):(dQ l a=some (-1)/\ ¬a∈l)\/ ∃(i:Nat) (hi:i<l.length),dQ l a=some (i:Int)/\l[i] =a:=by
 have hf:=FY (f:=dq l a) l (fun u=>decide (u=a)) (fun i=>(i:Int)) (by omega) (fun i h=>by
  simp only[dq,cW h,if_true,aO h,aa,iP,tg l[i] a (hs _ (List.getElem_mem h)),ai (show i<9223372036854775807 by omega)]
  by_cases c:l[i] =a <;> simp[c]) (by simp only[dq,cx];rfl)
 unfold dQ
 rcases hf with ⟨i,hi,h1,-,e⟩ | ⟨h1,e⟩
 ·rw[bN e]
  exact .inr ⟨i,hi,rfl,of_decide_eq_true h1⟩
 ·rw[af e]
  exact .inl ⟨rfl,fun h=>by simpa using h1 a h⟩
structure BIn (qs:List QT) (i:Nat) (A:List AutT) (Q:List QT):Prop where
 le:i<=qs.length
 pr:Q.map prQ=(qs.take i).map prQ
 len:A.length<=i
 sm: ∀a∈A,Data.sm a
 at_: ∀q∈Q,∃(j:Nat) (hj:j<A.length),q.2.2=(j:Int)/\m_s_CompileExpr q.2.1=some (A[j],true)
 nd:A.Nodup
 cmp: ∀a∈A,∃e:List Tok,e.length<=1048576/\m_s_CompileExpr e=some (a,true)
 rng: ∀j (hj:j<qs.length),j<i->1<=qs[j].1/\qs[j].1<=99
 asc: ∀j (hj:j+1<qs.length),j+1<i->qs[j].1<qs[j+1].1
theorem PV {qs:List QT} (hq:Data.sm qs) {i:Nat} {A:List AutT} {Q:List QT} (hB:BIn qs i A Q) (hi:i<qs.length) :
  bp qs ((i:Int),A,Q)=some (.ret (([],[]),false))\/ ∃A' Q',bp qs ((i:Int),A,Q)=some (.nxt (((i+1:Nat):Int),A',Q'))/\BIn qs (i+1) A' Q':=by
 obtain ⟨hn,hs⟩:=cX hq
 have hqi:=hs _ (List.getElem_mem hi)
 have hQl:Q.length=i:=by
  have:=congrArg List.length hB.pr
  simp only[List.length_map,aE] at this
  omega
 have hAl:=hB.len
 obtain ⟨r,es,-,hr⟩:=yS (e:=qs[i].2.1) hqi.2.1.1
 have a1:ct 56 A [r.1] =some (A++ [r.1]):=aI (by simp;omega)
 have a2: ∀y,ct 40 Q [y] =some (Q++ [y]):=fun y=>aI (by simp;omega)
 have a3:eI qs[i].2.1=some qs[i].2.1:=by unfold eI;rw[aI (by have:=hqi.2.1.1;simp;omega)];rfl
 have hpr: ∀k:Int,(Q++ [(qs[i].1,qs[i].2.1,k)]).map prQ=(qs.take (i+1)).map prQ:=fun k=>by
  rw[aJ,hB.pr,List.take_succ_eq_append_getElem hi,aJ];rfl
 have main:r.2=true->(1<=qs[i].1/\qs[i].1<=99)->(∀h:0<i,qs[i - 1].1<qs[i].1)-> ∃k A',(k= -1/\A'=A++ [r.1] \/ ∃j:Nat,k=(j:Int)/\A'=A)/\dQ A r.1=some k/\BIn qs (i+1) A' (Q++ [(qs[i].1,qs[i].2.1,if k<0 then (A.length:Int) else k)]):=fun c1 c2 c3=>by
  have hrt:m_s_CompileExpr qs[i].2.1=some (r.1,true):=by rw[es,<-c1]
  have hrng: ∀j (hj:j<qs.length),j<i+1->1<=qs[j].1/\qs[j].1<=99:=fun j hj hji=>by
   by_cases e:j=i
   ·subst e;exact c2
   ·exact hB.rng j hj (by omega)
  have hasc: ∀j (hj:j+1<qs.length),j+1<i+1->qs[j].1<qs[j+1].1:=fun j hj hji=>by
   by_cases e:j+1=i
   ·subst e
    exact c3 (by omega)
   ·exact hB.asc j hj (by omega)
  rcases TV A r.1 (by omega) hB.sm with ⟨e,hno⟩ | ⟨j,hj,e,hja⟩
  ·refine ⟨-1,A++ [r.1],.inl ⟨rfl,rfl⟩,e,by omega,hpr _,by simp;omega,fun a ha=>?_,fun q hq'=>?_,?_,fun a ha=>?_,hrng,hasc⟩
   ·rcases aH ha with ha | ha
    ·exact hB.sm a ha
    ·rw[al ha];exact hr
   ·rcases aH hq' with hq' | hq'
    ·obtain ⟨j,hj,k1,k2⟩:=hB.at_ q hq'
     exact ⟨j,by simp;omega,k1,by rw[List.getElem_append_left hj];exact k2⟩
    ·rw[al hq']
     exact ⟨A.length,by simp,rfl,by simpa using hrt⟩
   ·rw[List.nodup_append]
    refine ⟨hB.nd,by simp,fun a ha b hb=>?_⟩
    rw[al hb]
    rintro rfl;exact hno ha
   ·rcases aH ha with ha | ha
    ·exact hB.cmp a ha
    ·rw[al ha];exact ⟨_,hqi.2.1.1,hrt⟩
  ·refine ⟨(j:Int),A,.inr ⟨j,rfl,rfl⟩,e,by omega,hpr _,by omega,hB.sm,fun q hq'=>?_,hB.nd,hB.cmp,hrng,hasc⟩
   rcases aH hq' with hq' | hq'
   ·exact hB.at_ q hq'
   ·rw[al hq']
    exact ⟨j,hj,(by show (if (j:Int)<0 then (A.length:Int) else (j:Int))=(j:Int);exact if_neg (by omega)),by rw[hja];exact hrt⟩
 have fin:r.2=true->(1<=qs[i].1/\qs[i].1<=99)->(∀h:0<i,qs[i - 1].1<qs[i].1)-> ∃A' Q',(((dQ A r.1).bind fun r22=>Option.bind ((if decide (r22<0) then ((ct 56 A ([r.1])).bind fun z14=>some ((A.length:Int),z14,Q)) else (some (r22,A,Q)):Option (Int×List AutT×List QT))) (fun s9=>(ct 40 s9.2.2 ([(qs[i].1,qs[i].2.1,s9.1)])).bind fun z15=>some (Out.nxt (((i+1:Nat):Int),s9.2.1,z15)))):Option (Out (rM×Bool) (Int×List AutT×List QT)))=some (.nxt (((i+1:Nat):Int),A',Q'))/\BIn qs (i+1) A' Q':=fun c1 c2 c3=>by
  obtain ⟨k,A',hk,e,hB'⟩:=main c1 c2 c3
  refine ⟨A',_,?_,hB'⟩
  rw[e];simp only[aa]
  rcases hk with ⟨rfl,rfl⟩ | ⟨j,rfl,rfl⟩
  ·rw[if_pos (show decide ((-1:Int)<0)=true from rfl),a1,if_pos (show (-1:Int)<0 from by decide)];simp only[aa,a2]
  ·have h0: ¬(j:Int)<0:=by omega
   rw[if_neg (show¬decide ((j:Int)<0)=true by simpa using h0),if_neg h0];simp only[aa,a2]
 unfold bp
 simp only[cW hi,if_true,aO hi,aa,es,QL,iP,a3,ai (show i<9223372036854775807 by omega)]
 by_cases c1:r.2=true
 case neg =>
  simp only[c1,Bool.false_eq_true,if_false];exact .inl trivial
 simp only[c1,if_true]
 by_cases c2:1<=qs[i].1/\qs[i].1<=99
 case neg =>
  simp only[c2,decide_false,Bool.false_eq_true,if_false];exact .inl trivial
 simp only[c2,and_self,decide_true,if_true]
 by_cases c3:(i:Int)>0
 ·have hp:i - 1<qs.length:=by omega
  have hw:IntKind.i64.wrap ((i:Int) - 1)=((i - 1:Nat):Int):=by rw[lu (by omega)];omega
  simp only[c3,decide_true,if_true,hw,aO hp,aa]
  by_cases c4:qs[i - 1].1≥qs[i].1
  ·simp only[c4,decide_true,if_true];exact .inl (by first | trivial | rfl | simp)
  ·simp only[c4,decide_false,Bool.false_eq_true,if_false]
   exact .inr (fin c1 c2 fun _=>by omega)
 ·simp only[c3,decide_false,Bool.false_eq_true,if_false]
  exact .inr (fin c1 c2 fun h=>absurd (by omega) c3)
theorem Ce {qs:List QT} (hq:Data.sm qs) {x:rM} (e:b8 qs=some (x,true)):qs.length<=4/\BIn qs qs.length x.1 x.2:=by
 unfold b8 at e
 by_cases c:(qs.length:Int)>4
 ·rw[if_pos (decide_eq_true c)] at e
  simp at e
 rw[if_neg (by simpa using c)] at e
 refine ⟨by omega,?_⟩
 obtain ⟨o,e2,ho⟩:=bX (f:=bp qs) (fun i s=> ∃A Q,s=((i:Int),A,Q)/\BIn qs i A Q) (fun o=>o= .ret (([],[]),false)\/ ∃A Q,o= .brk ((qs.length:Int),A,Q)/\BIn qs qs.length A Q) qs.length (fun i s hi hI=>by
  obtain ⟨A,Q,rfl,hB⟩:=hI
  by_cases h:i<qs.length
  ·rcases PV hq hB h with e | ⟨A',Q',e,hB'⟩
   ·exact .inr ⟨_,e,(fun s' h=>by simp at h),.inl rfl⟩
   ·exact .inl ⟨h,_,e,A',Q',rfl,hB'⟩
  ·obtain rfl:i=qs.length:=by have:=hB.le;omega
   refine .inr ⟨.brk ((qs.length:Int),A,Q),?_,(fun s' h=>by simp at h),.inr ⟨A,Q,rfl,hB⟩⟩
   unfold bp
   simp only[cx,Bool.false_eq_true,if_false]) (s:=(0,[],[])) ⟨[],[],rfl,Nat.zero_le _,rfl,aC _,(fun _ h=>by cases h),(fun _ h=>by cases h),List.nodup_nil,(fun _ h=>by cases h),(fun j hj h=>absurd h (Nat.not_lt_zero _)),(fun j hj h=>absurd h (Nat.not_lt_zero _))⟩ (jO _ (by omega))
 rw[e2] at e
 rcases ho with rfl | ⟨A,Q,rfl,hB⟩
 ·simp[aM] at e
 ·simp only[aM,Option.some.injEq,Prod.mk.injEq] at e
  obtain ⟨rfl,-⟩:=e
  exact hB
end D
set_option synthInstance.maxSize 20000
set_option synthInstance.maxHeartbeats 2000000
namespace D
open Go.RowKit
theorem TW (r:rM) (hr:Data.sm r):kC r=some r:=by
 obtain ⟨h1,h2⟩:=cX hr.1
 obtain ⟨h3,h4⟩:=cX hr.2
 unfold kC
 have a:=aN (f:=jd r) (fun i=>((i:Int),r.1.take i,([] :List QT))) r.1.length (fun i hi=>by
  unfold jd
  simp only[cW hi,if_true,aO hi,aa,iP,B1 _ (h2 _ (List.getElem_mem hi)),ai (show i<9223372036854775807 by omega)]
  rw[aI (by simp;omega)]
  simp only[aa]
  rw[List.take_succ_eq_append_getElem hi]) (by
  unfold jd
  simp only[cx,Bool.false_eq_true,if_false]) (jO _ (by omega))
 have e:ay (jd r) aQ (0,[],[])=_:=a
 rw[e]
 simp only[aM,List.take_length]
 have a:=aN (f:=je r) (fun i=>((i:Int),r.1,r.2.take i)) r.2.length (fun i hi=>by
  unfold je
  have c:eI r.2[i].2.1=some r.2[i].2.1:=by unfold eI;rw[aI (by have:=(h4 _ (List.getElem_mem hi)).2.1.1;simp;omega)];rfl
  simp only[cW hi,if_true,aO hi,aa,iP,c,ai (show i<9223372036854775807 by omega)]
  rw[aI (by simp;omega)]
  simp only[aa]
  rw[List.take_succ_eq_append_getElem hi]) (by
  unfold je
  simp only[cx,Bool.false_eq_true,if_false]) (jO _ (by omega))
 have e:ay (je r) aQ (0,r.1,[])=_:=a
 rw[e]
 simp only[List.take_length]
theorem MW {r:rM} (hr:Data.sm r) (h:df r=some true):r.2.length<=4:=by
 obtain ⟨x,b,e1,e2,hx⟩:=wV hr.2
 unfold df at h
 rw[e2] at h
 by_cases c:(r.2.length:Int)<=4
 ·omega
 ·simp[c] at h
end D
set_option synthInstance.maxSize 20000
set_option synthInstance.maxHeartbeats 2000000
namespace D
open Go.RowKit
theorem Rb {α:Type} [Data α] {xs:List α} {y:α} (h:Data.sm xs) (hy:Data.sm y) (i:Nat) (hl:xs.length<=1048575):Data.sm (xs.take i++([y] ++xs.drop i)):=by
 obtain ⟨h1,h2⟩:=cX h
 refine ⟨?_,fun x hx=>?_⟩
 ·simp only[aj,aE,bd,au,aD];omega
 ·rcases aH hx with hx | hx
  ·exact h2 _ (List.mem_of_mem_take hx)
  ·rcases aH hx with hx | hx
   ·rw[al hx];exact hy
   ·exact h2 _ (List.mem_of_mem_drop hx)
end D
set_option synthInstance.maxSize 20000
set_option synthInstance.maxHeartbeats 2000000
namespace D
open Go.RowKit
end D
set_option synthInstance.maxSize 20000
set_option synthInstance.maxHeartbeats 2000000
namespace D
open Go.RowKit
theorem y8 {r:rM} (hr:Data.sm r):bI r=some true↔b8 r.2=some (r,true):=by
 obtain ⟨x,b,e1,-,hx⟩:=wV hr.2
 unfold bI
 by_cases c:(r.2.length:Int)>4
 ·rw[if_pos c] at e1
  rw[e1];simp
 ·rw[if_neg c] at e1
  rw[e1];simp only[aa,iP]
  cases b with
  | false=>simp
  | true =>
   simp only[if_true]
   rw[uE x r hx.1];simp only[aa,Option.some.injEq,decide_eq_true_eq,Prod.mk.injEq,and_true]
theorem V1 (r:rM) (id:Int) (hl:r.2.length<=1048576):(dJ r id=some (-1)/\ ∀q∈r.2,q.1≠id)\/ ∃(i:Nat) (hi:i<r.2.length),dJ r id=some (i:Int)/\r.2[i].1=id:=by
 have hf:=FY (f:=cD r id) r.2 (fun u=>decide (u.1=id)) (fun i=>(i:Int)) (by omega) (fun i h=>by
  simp only[cD,cW h,if_true,aO h,aa,ai (show i<9223372036854775807 by omega)]
  by_cases c:r.2[i].1=id <;> simp[c]) (by simp only[cD,cx];rfl)
 unfold dJ
 rcases hf with ⟨i,hi,h1,-,e⟩ | ⟨h1,e⟩
 ·rw[bN e]
  exact .inr ⟨i,hi,rfl,of_decide_eq_true h1⟩
 ·rw[af e]
  exact .inl ⟨rfl,fun q h=>by simpa using h1 q h⟩
theorem TX {r:rM} (hr:Data.sm r) (id:Int) {e:List Tok} (he:Data.sm e): ∃x:rM×Bool,fE r id e=some x/\Data.sm x.1/\(x.2=true->b8 r.2=some (r,true)/\ ∃i:Nat,i<=r.2.length/\b8 (r.2.take i++([(id,e,0)] ++r.2.drop i))=some (x.1,true))/\(x.2=false->x.1=r):=by
 obtain ⟨hn,hq⟩:=cX hr.2
 obtain ⟨k,f1,f2,hk⟩:=yU r id hn
 obtain ⟨b,v1,v2,hv⟩:=vz hr
 have hvb:=y8 hr
 unfold fE
 simp only[f1,v1,aa,iP,TW r hr]
 cases b with
 | false=>exact ⟨(r,false),rfl,hr,(fun h=>by cases h),fun _=>rfl⟩
 | true =>
  have hvb:=hvb.1 v1
  simp only[if_true]
  by_cases hk0:k≥0
  ·exact ⟨(r,false),by simp[hk0],hr,(fun h=>by cases h),fun _=>rfl⟩
  ·have h4:=MW hr v2
   have hk0:decide (k≥0)=false:=by simpa using hk0
   simp only[hk0,Bool.false_eq_true,if_false]
   have lp: ∀f:Int->Option (Out (rM×Bool) Int),(∀s,f s=if decide (s<(r.2.length:Int)) then ((aP r.2 s).bind fun x5=>if decide (x5.1<id) then (some (.nxt (IntKind.i64.wrap (s+1)))) else (some (.brk s))) else (some (.brk s)))-> ∃i:Nat,i<=r.2.length/\ay f aQ 0=some (.brk (i:Int)):=by
    intro f hf
    obtain ⟨o,e,i,hi,rfl⟩:=bX (f:=f) (fun i s=>s=(i:Int)) (fun o=> ∃i:Nat,i<=r.2.length/\o= .brk (i:Int)) r.2.length (fun i s hi hI=>by
     subst hI
     rw[hf]
     by_cases h1:i<r.2.length
     ·simp only[cW h1,if_true,aO h1,aa,ai (show i<9223372036854775807 by omega)]
      by_cases h2:r.2[i].1<id
      ·exact .inl ⟨h1,_,by simp[h2],rfl⟩
      ·exact .inr ⟨.brk (i:Int),by simp[h2],(fun s' e=>by cases e),i,hi,rfl⟩
     ·obtain rfl:i=r.2.length:=by omega
      exact .inr ⟨.brk (r.2.length:Int),by simp only[cx,Bool.false_eq_true,if_false],(fun s' e=>by cases e),_,hi,rfl⟩) (s:=0) rfl (jO _ (by omega))
    exact ⟨i,hi,e⟩
   obtain ⟨i,hi,l1⟩:=lp (lM r id) (fun s=>rfl)
   simp only[l1,aM]
   have hy:Data.sm ((id,e,(0:Int)):QT):=⟨trivial,he,trivial⟩
   have hs:=Rb (y:=((id,e,(0:Int)):QT)) hr.2 hy i (by omega)
   obtain ⟨x,c,e1,e2,hx⟩:=wV hs
   have e1':=e1
   have q1:(chk (0<=(i:Int)/\(i:Int)<=(r.2.length:Int)))=some ():=if_pos (by omega)
   have a1:ct 40 ([] :List QT) (r.2.take i)=some (r.2.take i):=by rw[aI (by simp only[aD,aE];omega)];rfl
   have a2:ct 40 (r.2.take i) [((id,e,(0:Int)):QT)] =some (r.2.take i++ [(id,e,0)]):=aI (by simp only[aE,au,aD];omega)
   have a3:ct 40 (r.2.take i++ [((id,e,(0:Int)):QT)]) (r.2.drop i)=some (r.2.take i++([(id,e,0)] ++r.2.drop i)):=by
    rw[aI (by simp only[aj,aE,bd,au,aD];omega),ak]
   simp only[q1,aa,Int.toNat_natCast,a1,a2,a3,e1]
   by_cases hl:((r.2.take i++([((id,e,(0:Int)):QT)] ++r.2.drop i)).length:Int)>4
   ·have hl': ¬((r.2.take i++([((id,e,(0:Int)):QT)] ++r.2.drop i)).length:Int)<=4:=by omega
    simp only[hl,if_true,aa,Bool.false_eq_true,if_false,hl',decide_false,Bool.and_false]
    exact ⟨_,rfl,hr,(fun h=>by cases h),fun _=>rfl⟩
   ·have hl':((r.2.take i++([((id,e,(0:Int)):QT)] ++r.2.drop i)).length:Int)<=4:=by omega
    rw[if_neg hl] at e1'
    simp only[hl,if_false,aa,hl',decide_true,Bool.and_true]
    cases c with
    | true=>exact ⟨_,rfl,hx.1,fun _=>⟨hvb,i,hi,e1'⟩,fun c=>by cases c⟩
    | false=>exact ⟨_,rfl,hr,(fun h=>by cases h),fun _=>rfl⟩
theorem PX {qs:List QT} (hq:Data.sm qs) {x:rM} (e:b8 qs=some (x,true)):x.2.map prQ=qs.map prQ/\x.2.length=qs.length/\b8 x.2=some (x,true):=by
 obtain ⟨-,hB⟩:=Ce hq e
 have h1:=hB.pr
 rw[List.take_length] at h1
 refine ⟨h1,by simpa using congrArg List.length h1,?_⟩
 rw[PU h1];exact e
theorem Rc {qs:List QT} {A:List AutT} {Q:List QT} (hB:BIn qs qs.length A Q) {i j:Nat} (hij:i<j) (hj:j<qs.length):qs[i].1<qs[j].1:=by
 induction j with
 | zero=>omega
 | succ j ih =>
  have h1:=hB.asc j hj hj
  by_cases c:i=j
  ·subst c;exact h1
  ·have:=ih (by omega) (by omega)
   omega
end D
namespace D
open Go.RowKit
section
variable {a:AutT} (V:VA a a.2.1.length) (hn:a.2.1.length<=12) (hs:Data.sm a)
include V hn hs
end
end D
namespace D
open Go.RowKit
section
variable {a:AutT} {n:Nat}
end
section
variable {a:AutT} {n:Nat}
end
end D
namespace D
open Go.RowKit
section
variable {a:AutT} {n:Nat}
end
end D
namespace D
open Go.RowKit
section
variable {a:AutT} {n:Nat}
end
section
variable {a:AutT} {n:Nat}
end
end D
namespace D
open Go.RowKit
end D
namespace D
open Go.RowKit
section
variable {a b:AutT} {n m:Nat}
end
section
variable {κ μ:Type} [DecidableEq κ] [DecidableEq μ] {f:κ->μ}
variable {nx:κ->List (Option κ)} {nx':μ->List (Option μ)} {first:κ}
end
end D
namespace D
open Go.RowKit
section
variable {κ μ:Type} [DecidableEq κ] [DecidableEq μ] {F:κ->μ} {nx:κ->List (Option κ)} {ny:μ->List (Option μ)} {first:κ} {G:κ->Prop}
end
section
variable {a:AutT} {n:Nat}
end
section
variable {a:AutT} {n:Nat}
end
end D
namespace D
open Go.RowKit
end D
namespace D
open Go.RowKit
section
variable {κ:Type} [DecidableEq κ] {nx:κ->List (Option κ)} {first:κ}
theorem za: ∀(v w:List Nat) (x:Option κ),Jp nx x (v++w)=Jp nx (Jp nx x v) w
 | [],w,x=>by cases x <;> rfl
 | k::v,w,none=>by rw[List.cons_append,uI,uI,uI]
 | k::v,w,some x=>za v w (nth (nx x) (k:Int))
theorem rD (hl: ∀i,∀x∈bfS nx first i,(nx x).length=9): ∀i,∀y∈bfS nx first i,∃w:List Nat,(∀k∈w,k<9)/\Jp nx (some first) w=some y
 | 0,y,h=>by
  obtain rfl:=al h
  exact ⟨[],fun k hk=>(by cases hk),rfl⟩
 | i+1,y,h=>by
  rw[bfS] at h
  cases hx:(bfS nx first i)[i]? with
  | none=>rw[hx] at h;exact rD hl i y h
  | some x =>
   rw[hx] at h
   have h:y∈nbS (bfS nx first i) (nx x):=h
   rcases n9.1 h with q | q
   ·exact rD hl i y q
   ·have hxm:=List.mem_of_getElem? hx
    obtain ⟨w,hw,e⟩:=rD hl i x hxm
    obtain ⟨k,hk,ek⟩:=vv q
    rw[hl i x hxm] at hk
    refine ⟨w++ [k],fun j hj=>?_,?_⟩
    ·rcases aH hj with q | q
     ·exact hw j q
     ·obtain rfl:=al q;exact hk
    ·rw[za,e];exact ek
end
section
variable {a r:AutT} {n m N:Nat}
end
end D
namespace D
open Go.RowKit
theorem TY {a b:AutT} {N:Nat} (hE:bfE (nxP a b) (a.1,b.1) N) {w:List Nat} (hw: ∀k∈w,k<9):(y6 a a.1 w,y6 b b.1 w)∈bfS (nxP a b) (a.1,b.1) N:=by
 have H:NumA (0,(bfS (nxP a b) (a.1,b.1) N).map (fun _=>true),bfR (nxP a b) (a.1,b.1) N) (nxP a b) (a.1,b.1) (fun _=>true) N:=⟨hE,rfl,rfl,rfl,fun x _=>by simp[nxP]⟩
 have hf:(a.1,b.1)∈bfS (nxP a b) (a.1,b.1) N:=List.mem_of_getElem? (yG N)
 have hp:=y7 (a:=a) (b:=b) w a.1 b.1 hw
 rcases H.run w _ hw hf with ⟨h1,-⟩ | ⟨y,hy,h1,-⟩
 ·rw[hp] at h1;cases h1
 ·rw[hp] at h1
  rw[ae h1];exact hy
theorem MX {a b:AutT} {N:Nat} {x:Int×Int} (hx:x∈bfS (nxP a b) (a.1,b.1) N): ∃w:List Nat,(∀k∈w,k<9)/\x=(y6 a a.1 w,y6 b b.1 w):=by
 obtain ⟨w,hw,h⟩:=rD (nx:=nxP a b) (first:=(a.1,b.1)) (fun i y _=>by simp[nxP]) N x hx
 rw[y7 w a.1 b.1 hw] at h
 exact ⟨w,hw,(ae h).symm⟩
theorem PY {a b:AutT} {N:Nat} (hE:bfE (nxP a b) (a.1,b.1) N):(bfS (nxP a b) (a.1,b.1) N).any (vA a b)=false↔ ∀w:List Nat,(∀k∈w,k<9)->acw b w=true->acw a w=true:=by
 rw[List.any_eq_false]
 constructor
 ·intro h w hw hb
  have h1:=h _ (TY hE hw)
  have h2: ¬(acw b w && !acw a w)=true:=h1
  cases ha:acw a w with
  | true=>rfl
  | false=>rw[hb,ha] at h2;exact absurd rfl h2
 ·intro h x hx
  obtain ⟨w,hw,rfl⟩:=MX hx
  show¬(acw b w && !acw a w)=true
  intro hc
  rw[ah] at hc
  rw[h w hw hc.1] at hc
  cases hc.2
theorem Jd {a b:AutT} {n m:Nat} (Va:VA a n) (Vb:VA b m) (hn:n<=12) (hm:m<=12): ∃w r,fT a a.1 b b.1 true=some (w,r)/\(r=false↔ ∀w:List Nat,(∀k∈w,k<9)->acw b w=true->acw a w=true):=by
 have h1:=Va.start
 have h2:=Vb.start
 obtain ⟨N,w,hE,hd⟩:=Hr Va Vb hn hm (s0:=a.1) (t0:=b.1) ⟨⟨by omega,h1.2⟩,by show -1<=b.1;omega,h2.2⟩
 exact ⟨w,_,hd,PY hE⟩
end D
set_option synthInstance.maxSize 20000
set_option synthInstance.maxHeartbeats 2000000
namespace D
open Go.RowKit
theorem MY {a:AutT} (sa:Data.sm a) (V:VA a a.2.1.length) (h:a.2.1.length<=12):a6 a=some true:=by
 have h2:=(cX sa.2.2).1
 obtain ⟨b,e,k⟩:=FI a (by omega) (by omega)
 rw[e,k.2 ⟨h,V⟩]
theorem V2 {a b:AutT} (sa:Data.sm a) (sb:Data.sm b) (Va:VA a a.2.1.length) (Vb:VA b b.2.1.length) (ha:a.2.1.length<=12) (hb:b.2.1.length<=12): ∃c,bK a b=some c/\(c=true↔ ∀w:List Nat,(∀k∈w,k<9)->acw b w=true->acw a w=true):=by
 obtain ⟨w,r,e,k⟩:=Jd Va Vb ha hb
 unfold bK gO
 simp only[iP,MY sa Va ha,MY sb Vb hb,aa,if_true,e]
 refine ⟨_,rfl,?_⟩
 rw[<-k]
 cases r <;> simp
end D
namespace D
open Go.RowKit
theorem HC (x:Int):0<=od x 255/\od x 255<=255:=by
 have h:(BitVec.ofInt 64 x &&& BitVec.ofInt 64 255).toNat<=255:=by
  rw[BitVec.toNat_and]
  exact Nat.le_trans Nat.and_le_right (by decide)
 unfold od
 rw[bY (by omega) (by omega)]
 omega
def nm (xs:List Int) (i:Int):Prop:=0<=i/\i<=(xs.length:Int)
section
variable {xs:List Int} {i h:Int}
theorem Xk (hl:xs.length<=1048576): ∃r:Int×Int,tT xs=some r/\nm xs r.1:=by
 have key: ∃s,ay (nw xs) aQ (IntKind.i64.wrap (10101+(xs.length:Int)),0)=some (.brk s):=by
  obtain ⟨o,e,s,rfl⟩:=bX (f:=nw xs) (fun j s=>s.2=(j:Int)) (fun o=> ∃s,o= .brk s) xs.length (fun j s hj hb=>by
   obtain ⟨a,b⟩:=s
   obtain rfl:b=(j:Int):=hb
   unfold nw
   simp only
   rw[Te]
   by_cases c0:j<xs.length
   ·rw[if_pos (by simpa using c0)]
    by_cases c:((j:Nat):Int)<4000
    ·rw[if_pos (by simpa using c),ax (by omega) (by omega)];simp only[aa]
     exact .inl ⟨c0,_,rfl,by show IntKind.i64.wrap ((j:Int)+1)=_;rw[bY (by omega) (by omega)];omega⟩
    ·rw[if_neg (by simpa using c)]
     exact .inr ⟨_,rfl,(fun s' e=>by cases e),_,rfl⟩
   ·rw[if_neg (by simpa using c0)]
    exact .inr ⟨_,rfl,(fun s' e=>by cases e),_,rfl⟩) (s:=(IntKind.i64.wrap (10101+(xs.length:Int)),0)) rfl (ju (by omega))
  exact ⟨s,e⟩
 obtain ⟨s,hs⟩:=key
 unfold tT
 rw[af hs]
 exact ⟨_,rfl,by show (0:Int)<=0;omega,by show (0:Int)<=_;omega⟩
theorem Ea (hl:xs.length<=1048576) (hc:nm xs i): ∃r:Int×Int×Int,jE (xs,i,h)=some r/\(0<=r.1/\r.1<=255)/\nm xs r.2.1:=by
 unfold jE
 simp only
 by_cases c:i<(xs.length:Int)
 ·rw[if_pos (by simpa using c),ax hc.1 c];simp only[aa]
  refine ⟨_,rfl,HC _,?_⟩
  show nm xs (IntKind.i64.wrap (i+1))
  have:=hc.1
  rw[bY (by omega) (by omega)]
  exact ⟨by omega,by omega⟩
 ·rw[if_neg (by simpa using c)];simp only[aa]
  exact ⟨_,rfl,HC _,hc⟩
theorem dP (hl:xs.length<=1048576) (hc:nm xs i) {n:Int} (hn:0<n): ∃r:Int×Int×Int,ba (xs,i,h) n=some r/\(0<=r.1/\r.1<n)/\nm xs r.2.1:=by
 unfold ba
 simp only
 rw[if_neg (by simpa using hn)]
 have hck:chk (n≠0)=some ():=by unfold chk;rw[if_pos (by omega)]
 by_cases c:n<=256
 ·rw[if_pos (by simpa using c)]
  obtain ⟨r,e,h1,h2⟩:=Ea (h:=h) hl hc
  rw[e,hck];simp only[aa]
  exact ⟨_,rfl,⟨Int.tmod_nonneg _ h1.1,Int.tmod_lt_of_pos _ hn⟩,h2⟩
 ·rw[if_neg (by simpa using c)]
  obtain ⟨r1,e1,h1,k1⟩:=Ea (h:=h) hl hc
  rw[e1];simp only[aa]
  obtain ⟨r2,e2,h2,k2⟩:=Ea (h:=r1.2.2) hl k1
  rw[e2];simp only[aa]
  obtain ⟨r3,e3,h3,k3⟩:=Ea (h:=r2.2.2) hl k2
  rw[e3];simp only[aa]
  obtain ⟨r4,e4,h4,k4⟩:=Ea (h:=r3.2.2) hl k3
  rw[e4,hck];simp only[aa]
  have w1:IntKind.i64.wrap (r1.1*16777216)=r1.1*16777216:=bY (by omega) (by omega)
  have w2:IntKind.i64.wrap (r2.1*65536)=r2.1*65536:=bY (by omega) (by omega)
  have w3:IntKind.i64.wrap (r3.1*256)=r3.1*256:=bY (by omega) (by omega)
  have w4:IntKind.i64.wrap (r1.1*16777216+r2.1*65536)=r1.1*16777216+r2.1*65536:=bY (by omega) (by omega)
  have w5:IntKind.i64.wrap (r1.1*16777216+r2.1*65536+r3.1*256)=r1.1*16777216+r2.1*65536+r3.1*256:=bY (by omega) (by omega)
  have w6:IntKind.i64.wrap (r1.1*16777216+r2.1*65536+r3.1*256+r4.1)=r1.1*16777216+r2.1*65536+r3.1*256+r4.1:=bY (by omega) (by omega)
  rw[w1,w2,w3,w4,w5,w6]
  exact ⟨_,rfl,⟨Int.tmod_nonneg _ (by omega),Int.tmod_lt_of_pos _ hn⟩,k4⟩
theorem AN (hl:xs.length<=1048576) (hc:nm xs i) {n:Int} (hn:0<n): ∃r:Bool×Int×Int,iz (xs,i,h) n=some r/\nm xs r.2.1:=by
 obtain ⟨r,e,-,k⟩:=dP (h:=h) hl hc hn
 unfold iz
 simp only
 rw[e]
 exact ⟨_,rfl,k⟩
theorem jn (hl:xs.length<=1048576) (hc:nm xs i) {l:List Int} (h0:l≠ []): ∃r:Int×Int×Int,cj (xs,i,h) l=some r/\r.1∈l/\nm xs r.2.1:=by
 have hp:0<(l.length:Int):=by have:=List.length_pos_iff.2 h0;omega
 obtain ⟨r,e,h1,k⟩:=dP (h:=h) hl hc hp
 unfold cj
 simp only
 rw[e];simp only[aa]
 rw[ax h1.1 h1.2];simp only[aa]
 exact ⟨_,rfl,bg h1.1 h1.2,k⟩
theorem V3 (hl:xs.length<=1048576) (hc:nm xs i) {l:List ByteArray} (h0:l≠ []): ∃r:ByteArray×Int×Int,ra (xs,i,h) l=some r/\r.1∈l/\nm xs r.2.1:=by
 have hp:0<(l.length:Int):=by have:=List.length_pos_iff.2 h0;omega
 obtain ⟨r,e,h1,k⟩:=dP (h:=h) hl hc hp
 unfold ra
 simp only
 rw[e];simp only[aa]
 rw[ax h1.1 h1.2];simp only[aa]
 exact ⟨_,rfl,bg h1.1 h1.2,k⟩
end
end D
namespace D
open Go.RowKit
def XU (x:Tr Tok):Prop:= ∀(n:Nat) (p:AD),(flat x).length<=n->p.2.2.2.1.length=p.1.length->p.1.length+(flat x).length<=100000->
 ∃(nu:Bool) (fi la:Int) (q:AD),b7 n p (flat x)=some ((nu,fi,la),q)/\q.2.2.2.1.length=q.1.length/\q.1.length<=p.1.length+(flat x).length
theorem PZ {x:Tr Tok} (h:WT x):XU x:=by
 refine WT.ind (p:=XU) ?_ ?_ ?_ h
 ·intro t e n p hn hF hl
  rw[yI] at hn hl⊢
  simp only[au,aD] at hl
  match n,hn with
  | n+1,_ =>
   rw[b7]
   have:=(jv (A:=[]) (t:=t) (by simp)).1
   rw[List.nil_append] at this
   rw[this];simp only[aa,iP]
   rcases kK (show 0<=ar t by omega) with ⟨k,_⟩ | ⟨k,_⟩ | ⟨_,k⟩
   ·omega
   ·omega
   rcases k with k | k | k
   ·exact ⟨false,0,0,p,by simp[k],hF,by simp⟩
   ·exact ⟨true,0,0,p,by simp[k],hF,by simp⟩
   ·refine ⟨false,tn 1 (p.1.length:Int),tn 1 (p.1.length:Int),(p.1++ [t.2.1],p.2.1,p.2.2.1,p.2.2.2.1++ [0],p.2.2.2.2),?_,by simp[hF],by simp⟩
    rw[if_neg (by simp[k]),if_pos (by simp[k]),aI (by simp;omega)];simp only[aa]
    rw[aI (by simp;omega)];rfl
 ·intro t a e wa ih n p hn hF hl
  rw[zG] at hn hl⊢
  simp only[aj,au,aD] at hn hl
  match n,hn with
  | n+1,hn =>
   rw[b7];simp only[iP]
   obtain ⟨l1,l2⟩:=jv (A:=flat a) (t:=t) (by omega)
   rw[l1];simp only[aa]
   obtain ⟨nu,fi,la,q,hs,hq1,hq2⟩:=ih n p (by omega) hF (by omega)
   rcases L4 e with ⟨k1,k2⟩ | ⟨k1,k2,k3⟩
   ·have g2:(t.1==2)=false:=by simp[k2]
    have g3:(t.1==3)=false:=by simp[k2]
    have g4:(t.1==4)=false:=by simp[k2]
    have g5:(t.1==5)=false:=by simp[k2]
    simp only[g2,g3,g4,g5,k1,Bool.false_eq_true,if_false,if_true]
    rw[l2,Int.toNat_natCast,List.take_left,ic (by simp only[aj,au,aD];omega)];simp only[aa]
    rw[hs];simp only[aa,iP]
    rw[Hk (by omega)];simp only[aa]
    refine ⟨true,fi,la,_,rfl,?_,?_⟩
    ·simp only[uC];exact hq1
    ·simp only[aj,au,aD];omega
   ·have g2:(t.1==2)=false:=by simp[k3]
    have g3:(t.1==3)=false:=by simp[k3]
    have g4:(t.1==4)=false:=by simp[k3]
    have g5:(t.1==5)=false:=by simp[k3]
    simp only[g2,g3,g4,g5,k1,Bool.false_eq_true,if_false]
    exact ⟨false,0,0,p,rfl,hF,by omega⟩
 ·intro t a b e wa wb iha ihb n p hn hF hl
  rw[rL] at hn hl⊢
  have hl2:((flat a++flat b)++ [t]).length<=1000000:=by omega
  obtain ⟨p1,p2,p3,p4⟩:=uz (a:=a) (t:=t) wb hl2
  simp only[aj,au,aD] at hn hl
  match n,hn with
  | n+1,hn =>
   have hpa:=wa.pos
   have hpb:=wb.pos
   rw[b7];simp only[iP]
   obtain ⟨l1,l2⟩:=jv (A:=flat a++flat b) (t:=t) (by rw[aj];omega)
   rw[l1];simp only[aa]
   obtain ⟨nu,fi,la,q,hs,hq1,hq2⟩:=iha n p (by omega) hF (by omega)
   obtain ⟨nu2,fi2,la2,q2,hs2,hq3,hq4⟩:=ihb n q (by omega) hq1 (by omega)
   rcases kK (show 0<=ar t by omega) with ⟨_,k⟩ | ⟨k,_⟩ | ⟨k,_⟩
   ·rcases k with k | k
    ·have g2:(t.1==2)=false:=by simp[k]
     have g3:(t.1==3)=false:=by simp[k]
     have g4:(t.1==4)=true:=by simp[k]
     have g5:(t.1==5)=false:=by simp[k]
     simp only[g2,g3,g4,g5,Bool.false_eq_true,if_false,if_true]
     rw[l2,p1,p2,ic (by simp only[aj,au,aD];omega)];simp only[aa]
     rw[ic (by simp only[aj,au,aD];omega),p3,p4,hs];simp only[aa]
     rw[ic (by simp only[aj,au,aD];omega)];simp only[aa,iP]
     rw[hs2];simp only[aa,iP]
     rw[Hk (by omega)];simp only[aa]
     refine ⟨nu&&nu2,if nu then orI fi fi2 else fi,if nu2 then orI la la2 else la2,(q2.1,q2.2.1,q2.2.2.1,lk q2.2.2.2.1 la fi2 q2.2.2.2.1.length,q2.2.2.2.2),?_,?_,?_⟩
     ·cases nu <;> cases nu2 <;> rfl
     ·simp only[uC];exact hq3
     ·simp only[aj,au,aD];omega
    ·have g2:(t.1==2)=false:=by simp[k]
     have g3:(t.1==3)=false:=by simp[k]
     have g4:(t.1==4)=false:=by simp[k]
     have g5:(t.1==5)=true:=by simp[k]
     simp only[g2,g3,g4,g5,Bool.false_eq_true,if_false,if_true]
     rw[l2,p1,p2,ic (by simp only[aj,au,aD];omega)];simp only[aa]
     rw[ic (by simp only[aj,au,aD];omega),p3,p4,hs];simp only[aa]
     rw[ic (by simp only[aj,au,aD];omega)];simp only[aa,iP]
     rw[hs2];simp only[aa,iP]
     refine ⟨nu || nu2,orI fi fi2,orI la la2,q2,?_,hq3,?_⟩
     ·cases nu <;> simp
     ·simp only[aj,au,aD];omega
   ·omega
   ·omega
theorem MZ {e:List Tok} (he:e.length<=1048576):gj e=some (zf e):=by
 have hF:=ni
 unfold gj zf
 rw[yK he];simp only[aa]
 by_cases c:(decide (e.length<=24)&&isX e)=true
 ·rw[if_pos c,if_pos c]
  rw[ah] at c
  obtain ⟨x,h1,hw,rfl⟩:=He c.2
  have h24:(flat x).length<=24:=by simpa using c.1
  have hr:=eu hw
  rw[ry hw,QN hw eE (by omega) (by omega)];simp only[aa]
  by_cases c2:5000<szX x
  ·simp only[gt_iff_lt,c2,decide_true,if_true]
  ·simp only[gt_iff_lt,c2,decide_false,if_false,Bool.false_eq_true]
   have hl:=yL hw (by omega)
   rw[Hf hw eE (by omega) (by omega) (by omega)];simp only[aa]
   by_cases c3:400<(flat (pw x)).length
   ·have c3':decide (((flat (pw x)).length:Int)>400)=true:=decide_eq_true (by omega)
    simp only[c3',c3,if_true]
   ·have c3':decide (((flat (pw x)).length:Int)>400)=false:=decide_eq_false (by omega)
    simp only[c3',c3,if_false,Bool.false_eq_true]
 ·rw[if_neg c,if_neg c]
theorem FZ {e:List Tok} (he:e.length<=1048576): ∃r:AD×Bool,cR e=some r/\r.1.2.2.2.1.length=r.1.1.length/\r.1.1.length<=400:=by
 have hF:=ni
 unfold cR
 rw[MZ he];simp only[aa]
 by_cases c:(zf e).2=true
 ·obtain ⟨y,wy,ey,ly⟩:=L8 c
  rw[if_pos c,af (Vx (by rw[ey];omega))]
  simp only
  by_cases d:(Cg (zf e).1 (zf e).1.length:Int)>20
  ·have d':decide ((Cg (zf e).1 (zf e).1.length:Int)>20)=true:=decide_eq_true d
   simp only[d',if_true]
   exact ⟨_,rfl,rfl,by simp⟩
  ·have d':decide ((Cg (zf e).1 (zf e).1.length:Int)>20)=false:=decide_eq_false d
   simp only[d',Bool.false_eq_true,if_false]
   rw[ey]
   obtain ⟨nu,fi,la,q,hs,hq1,hq2⟩:=PZ wy eE ([],0,0,[],false) (by omega) rfl (by simp;omega)
   rw[hs];simp only[aa]
   exact ⟨_,rfl,hq1,by simp at hq2;show q.1.length<=_;omega⟩
 ·rw[if_neg c]
  exact ⟨_,rfl,rfl,by simp⟩
theorem M0 {p:AD} (h1:p.2.2.2.1.length=p.1.length) (h2:p.1.length<=100000): ∃r:AutT×Bool,dk p 12=some r/\(r.2=true-> ∃N,N<=12/\bfE (nxS p) 1 N/\r.1=(0,(bfS (nxS p) 1 N).map (qJ p),bfR (nxS p) 1 N)/\VA r.1 N):=by
 have d1:=Vv (p:=p) (most:=12) h1 (by omega) (by omega) (by omega)
 have d1:dk p 12=_:=d1
 rw[d1]
 rcases FD (nx:=nxS p) (first:=1) (acc:=qJ p) (most:=12) (12+2) 0 (fun j hj=>by omega) (by simp[bfS]) with e | ⟨N,hN,hNm,e⟩
 ·exact ⟨_,rfl,fun h=>by rw[e] at h;cases h⟩
 ·rw[e]
  have V:=Mr (acc:=qJ p) (yN p) hN
  exact ⟨_,rfl,fun _=>⟨N,hNm,hN,rfl,V⟩⟩
end D
namespace D
open Go.RowKit
def HD:List ByteArray:=[⟨#[97]⟩,⟨#[97,32,98,32,46]⟩,⟨#[97,32,42]⟩,⟨#[97,32,98,32,124,32,42]⟩,⟨#[97,32,97,45,32,46]⟩,⟨#[97,32,42,32,98,32,46]⟩,⟨#[97,32,98,32,42,32,46,32,99,32,46]⟩,⟨#[97,32,97,32,124,32,42]⟩,⟨#[97,32,98,32,46,32,42]⟩,⟨#[48,32,97,32,46,32,42]⟩,⟨#[97,32,49,32,46,32,98,32,46]⟩,⟨#[97,32,123,48,44,50,125]⟩,⟨#[97,32,98,32,124,32,123,49,44,51,125]⟩,⟨#[40,41]⟩,⟨#[33]⟩,⟨#[97,45,32,42,32,97,32,46]⟩,⟨#[97,32,98,45,32,46,32,42,32,99,32,124]⟩,⟨#[97,32,42,32,97,32,42,32,46]⟩,⟨#[97,32,48,32,124,32,42,32,98,32,46]⟩,⟨#[97,32,97,32,46,32,42]⟩,⟨#[97,32,98,32,46,32,98,32,97,32,46,32,124,32,42]⟩]
def M2 (t:ByteArray):Bool:=match iy t with
 | some r=>r.2&&Nat.ble 1 r.1.length&&Nat.ble r.1.length 24
 | none=>false
theorem M3:HD.all M2=true:=by kernel_rfl
theorem P0 {t:ByteArray} (h:t∈HD): ∃r:List Tok×Bool,iy t=some r/\r.2=true/\1<=r.1.length/\r.1.length<=24:=by
 have h1:M2 t=true:=List.all_eq_true.1 M3 t h
 unfold M2 at h1
 split at h1
 ·rename_i r hr
  rw[ah,ah] at h1
  exact ⟨r,hr,h1.1.1,bB h1.1.2,bB h1.2⟩
 ·cases h1
section
variable {xs:List Int} {i h:Int}
theorem M4 (hl:xs.length<=1048576) (hc:nm xs i): ∃r:List Tok×Int×Int,mI (xs,i,h)=some r/\(1<=r.1.length/\r.1.length<=24)/\nm xs r.2.1:=by
 obtain ⟨r,e,h1,k⟩:=V3 (h:=h) hl hc (l:=HD) (by unfold HD;simp)
 obtain ⟨q,e2,-,h2⟩:=P0 h1
 unfold mI
 have hb:=congrArg (fun o:Option (ByteArray×Int×Int)=>Option.bind o (fun r0:ByteArray×Int×Int=>(iy r0.1).bind fun r1=>some (r1.1,r0.2.1,r0.2.2))) e
 refine ⟨(q.1,r.2.1,r.2.2),hb.trans ?_,h2,k⟩
 show (iy r.1).bind _=_
 rw[e2];rfl
theorem Eb (hl:xs.length<=1048576): ∀(d n:Nat) (i h:Int),d<n->d<=3->nm xs i-> ∃r:List Tok×Int×Int,dB n (xs,i,h) (d:Int)=some r/\(1<=r.1.length/\r.1.length+1<=2 ^ (d+1))/\nm xs r.2.1
 | 0,n+1,i,h,_,_,hc=>by
  rw[dB];simp only
  rw[if_pos (by decide)]
  obtain ⟨r,e,k⟩:=AN (h:=h) hl hc (n:=12) (by omega)
  rw[e];simp only[aa]
  by_cases c:r.1=true
  ·rw[if_pos c]
   obtain ⟨q,e2,-,k2⟩:=jn (h:=r.2.2) hl k (l:=[1,2]) (by simp)
   rw[e2];simp only[aa]
   exact ⟨_,rfl,⟨aC _,aC _⟩,k2⟩
  ·rw[if_neg c]
   obtain ⟨q,e2,-,k2⟩:=jn (h:=r.2.2) hl k (l:=[0,0,2,2,1,4,3,6,7]) (by simp)
   rw[e2];simp only[aa]
   exact ⟨_,rfl,⟨aC _,aC _⟩,k2⟩
 | d+1,n+1,i,h,hd,h3,hc=>by
  have hp:2 ^ (d+1+1)=2*2 ^ (d+1):=by rw[Nat.pow_succ,Nat.mul_comm]
  have hb:2 ^ (d+1)<=8:=by
   have:d<=2:=by omega
   match d,this with
   | 0,_=>decide
   | 1,_=>decide
   | 2,_=>decide
  rw[dB];simp only
  rw[if_neg (by simp;omega)]
  have hw:IntKind.i64.wrap (((d+1:Nat):Int) - 1)=(d:Int):=by rw[bY (by omega) (by omega)];omega
  rw[hw]
  obtain ⟨r,e,-,k⟩:=dP (h:=h) hl hc (n:=6) (by omega)
  rw[e];simp only[aa]
  have two: ∀(t:Tok) (i h:Int),nm xs i-> ∃r:List Tok×Int×Int,((dB n (xs,i,h) (d:Int)).bind fun r7=>(dB n (xs,r7.2.1,r7.2.2) (d:Int)).bind fun r8=>(dR r7.1 r8.1 t).bind fun r9=>some (r9,r8.2.1,r8.2.2))=some r/\(1<=r.1.length/\r.1.length+1<=2 ^ (d+1+1))/\nm xs r.2.1:=fun t i h hc=>by
   obtain ⟨r7,e7,h7,k7⟩:=Eb hl d n i h (by omega) (by omega) hc
   rw[e7];simp only[aa]
   obtain ⟨r8,e8,h8,k8⟩:=Eb hl d n r7.2.1 r7.2.2 (by omega) (by omega) k7
   rw[e8];simp only[aa]
   rw[yM (by omega)];simp only[aa]
   refine ⟨_,rfl,?_,k8⟩
   simp only[aj,au,aD]
   omega
  have one: ∀(t:Tok) (i h:Int),nm xs i-> ∃r:List Tok×Int×Int,((dB n (xs,i,h) (d:Int)).bind fun r14=>(dR r14.1 ([] :List Yq1) t).bind fun r15=>some (r15,r14.2.1,r14.2.2))=some r/\(1<=r.1.length/\r.1.length+1<=2 ^ (d+1+1))/\nm xs r.2.1:=fun t i h hc=>by
   obtain ⟨r7,e7,h7,k7⟩:=Eb hl d n i h (by omega) (by omega) hc
   rw[e7];simp only[aa]
   rw[yM (by simp only[aD];omega)];simp only[aa]
   refine ⟨_,rfl,?_,k7⟩
   simp only[aj,au,aD]
   omega
  have if2: ∀(p q:Bool),(if p then (some p) else (some q):Option Bool)=some (p || q):=fun p q=>by cases p <;> rfl
  rw[if2];simp only[aa]
  by_cases c1:(r.1==0 || r.1==1)=true
  ·rw[if_pos c1]
   exact two _ _ _ k
  ·rw[if_neg c1,if2];simp only[aa]
   by_cases c2:(r.1==2 || r.1==3)=true
   ·rw[if_pos c2]
    exact two _ _ _ k
   ·rw[if_neg c2]
    by_cases c3:(r.1==4)=true
    ·rw[if_pos c3]
     exact one _ _ _ k
    ·rw[if_neg c3]
     obtain ⟨q,e2,h2,k2⟩:=dP (h:=r.2.2) hl k (n:=3) (by omega)
     rw[e2];simp only[aa]
     obtain ⟨r7,e7,h7,k7⟩:=Eb hl d n q.2.1 q.2.2 (by omega) (by omega) k2
     rw[e7];simp only[aa]
     have w:IntKind.i64.wrap (IntKind.i64.wrap (1+q.1)+1)=q.1+2:=by
      rw[bY (n:=1+q.1) (by omega) (by omega),bY (by omega) (by omega)];omega
     obtain ⟨u,e3,-,k3⟩:=dP (h:=r7.2.2) hl k7 (n:=q.1+2) (by omega)
     rw[w,e3];simp only[aa]
     rw[yM (by simp only[aD];omega)];simp only[aa]
     refine ⟨_,rfl,?_,k3⟩
     simp only[aj,au,aD]
     omega
theorem V4 (hl:xs.length<=1048576) (hc:nm xs i): ∃r:List Tok×Int×Int,rb (xs,i,h)=some r/\(1<=r.1.length/\r.1.length<=24)/\nm xs r.2.1:=by
 have hF:=ni
 unfold rb
 simp only
 obtain ⟨r,e,k⟩:=AN (h:=h) hl hc (n:=2) (by omega)
 rw[e];simp only[aa]
 by_cases c:r.1=true
 ·rw[if_pos c]
  obtain ⟨q,e2,h2,k2⟩:=M4 (h:=r.2.2) hl k
  rw[e2]
  exact ⟨_,rfl,h2,k2⟩
 ·rw[if_neg c]
  obtain ⟨q,e2,h2,k2⟩:=dP (h:=r.2.2) hl k (n:=3) (by omega)
  rw[e2];simp only[aa]
  have w:IntKind.i64.wrap (1+q.1)=(((q.1.toNat+1:Nat)):Int):=by rw[bY (by omega) (by omega)];omega
  obtain ⟨u,e3,h3,k3⟩:=Eb hl (q.1.toNat+1) eE q.2.1 q.2.2 (by omega) (by omega) k2
  rw[w,e3]
  refine ⟨_,rfl,⟨h3.1,?_⟩,k3⟩
  have:q.1.toNat<=2:=by omega
  have h4:=h3.2
  show u.1.length<=24
  generalize q.1.toNat=z at this h4
  match z,this with
  | 0,_=>simp at h4;omega
  | 1,_=>simp at h4;omega
  | 2,_=>simp at h4;omega
def AutD (a:AutT):Prop:=(1<=a.2.1.length/\a.2.1.length<=12)/\(1<=a.2.2.length/\a.2.2.length<=12)/\ ∀r∈a.2.2,r.length=9
theorem AutD.sm {a:AutT} (h:AutD a):Data.sm a:=⟨trivial,⟨by have:=h.1.2;omega,fun _ _=>trivial⟩,by have:=h.2.1.2;omega,fun r hr=>⟨by rw[h.2.2 r hr];decide,fun _ _=>trivial⟩⟩
theorem VA.autD {a:AutT} {n:Nat} (V:VA a n) (hn:n<=12):AutD a:=by
 have h0:=V.pos
 have h1:=V.len
 have h2:=V.nlen
 exact ⟨by omega,by omega,V.row⟩
theorem Xl (hl:xs.length<=1048576) {p:List Int×Int×Int} {r0:Int×Int×Int} (hp:p.1=xs) (hr:0<=r0.1/\r0.1<4) (hc:nm xs i): ∃s,ay (ga p r0) aQ (([] :List Int),0,i,h)=some (.brk s)/\s.1.length=9/\nm xs s.2.2.1:=by
 have w:IntKind.i64.wrap (1+r0.1)=1+r0.1:=bY (by omega) (by omega)
 obtain ⟨s,e,h1,h2,h3⟩:=db (f:=ga p r0) (fun j s=>s.2.1=(j:Int)/\s.1.length=j/\nm xs s.2.2.1) 9 (fun j s hj hI=>by
  obtain ⟨h1,h2,h3⟩:=hI
  unfold ga
  rw[h1,hp,if_pos (by simp;omega)]
  obtain ⟨r,e,k⟩:=AN (h:=s.2.2.2) hl h3 (n:=3) (by omega)
  rw[e];simp only[aa]
  have key: ∃q:Int×Int×Int,(if r.1 then (some ((-1),r.2.1,r.2.2)) else ((ba (xs,r.2.1,r.2.2) (IntKind.i64.wrap (1+r0.1))).bind fun r8=>some (r8.1,r8.2.1,r8.2.2)):Option (Int×Int×Int))=some q/\nm xs q.2.1:=by
   by_cases c:r.1=true
   ·rw[if_pos c];exact ⟨_,rfl,k⟩
   ·rw[if_neg c,w]
    obtain ⟨q,e2,-,k2⟩:=dP (h:=r.2.2) hl k (n:=1+r0.1) (by omega)
    rw[e2];exact ⟨_,rfl,k2⟩
  obtain ⟨q,e2,k2⟩:=key
  rw[e2];simp only[aa]
  have e4: ∃z:Int,(if decide ((j:Int)>3) then (some (-1)) else (some q.1):Option Int)=some z:=by
   by_cases c:decide ((j:Int)>3)=true
   ·exact ⟨_,if_pos c⟩
   ·exact ⟨_,if_neg c⟩
  obtain ⟨z,e4⟩:=e4
  rw[e4];simp only[aa]
  rw[aI (by simp only[au,aD];omega)];simp only[aa]
  refine ⟨_,rfl,?_,?_,k2⟩
  ·show IntKind.i64.wrap ((j:Int)+1)=((j+1:Nat):Int)
   rw[bY (by omega) (by omega)];omega
  ·simp only[aj,au,aD];omega) (fun s hI=>by
  unfold ga
  rw[hI.1,if_neg (by simp)]
  obtain ⟨a,b,c,d⟩:=s
  obtain rfl:b=_:=hI.1
  rfl) (s:=(([] :List Int),0,i,h)) ⟨rfl,rfl,hc⟩ (ju (by omega))
 exact ⟨s,e,h2,h3⟩
theorem HE (hl:xs.length<=1048576) (hc:nm xs i): ∃r:AutT×Int×Int,jZ (xs,i,h)=some r/\AutD r.1/\nm xs r.2.1:=by
 unfold jZ
 simp only
 obtain ⟨r0,e0,h0,k0⟩:=dP (h:=h) hl hc (n:=4) (by omega)
 rw[e0];simp only[aa]
 have w:IntKind.i64.wrap (1+r0.1)=((r0.1.toNat+1:Nat):Int):=by rw[bY (by omega) (by omega)];omega
 obtain ⟨r1,e1,-,k1⟩:=dP (h:=r0.2.2) hl k0 (n:=((r0.1.toNat+1:Nat):Int)) (by omega)
 rw[w,e1];simp only[aa]
 obtain ⟨s,e,h1,h2,h3,h4,h5⟩:=db (f:=jq (xs,i,h) r0) (fun j s=>s.1=(j:Int)/\s.2.2.1.length=j/\s.2.2.2.1.length=j/\(∀r∈s.2.2.2.1,r.length=9)/\nm xs s.2.2.2.2.1) (r0.1.toNat+1) (fun j s hj hI=>by
  obtain ⟨h1,h2,h3,h4,h5⟩:=hI
  unfold jq
  rw[h1,w,if_pos (by simp;omega)]
  obtain ⟨q,e,hq,k⟩:=Xl (p:=(xs,i,h)) (r0:=r0) (i:=s.2.2.2.2.1) (h:=s.2.2.2.2.2) hl rfl h0 h5
  rw[af e]
  simp only
  obtain ⟨o,e2,k2⟩:=AN (h:=q.2.2.2) hl k (n:=3) (by omega)
  rw[e2];simp only[aa]
  rw[aI (by simp only[au,aD];omega)];simp only[aa]
  rw[aI (by simp only[au,aD];omega)];simp only[aa]
  refine ⟨_,rfl,?_,by simp[h2],by simp[h3],fun r hr=>?_,k2⟩
  ·show IntKind.i64.wrap ((j:Int)+1)=((j+1:Nat):Int)
   rw[bY (by omega) (by omega)];omega
  ·rcases aH hr with hr | hr
   ·exact h4 r hr
   ·obtain rfl:=al hr
    exact hq) (fun s hI=>by
  unfold jq
  rw[hI.1,w,if_neg (by simp)]
  obtain ⟨a,b⟩:=s
  obtain rfl:a=_:=hI.1
  rfl) (s:=(0,r1.1,([] :List Bool),([] :List (List Int)),r1.2.1,r1.2.2)) ⟨rfl,rfl,rfl,fun r hr=>(by cases hr),k1⟩ (ju (by omega))
 rw[af e]
 refine ⟨_,rfl,⟨?_,?_,h4⟩,h5⟩
 ·show 1<=s.2.2.1.length/\s.2.2.1.length<=12
  omega
 ·show 1<=s.2.2.2.1.length/\s.2.2.2.1.length<=12
  omega
theorem Xm (hl:xs.length<=1048576) (hc:nm xs i): ∃r:AutT×Int×Int,re (xs,i,h)=some r/\AutD r.1/\nm xs r.2.1:=by
 unfold re
 simp only
 obtain ⟨r,e,k⟩:=AN (h:=h) hl hc (n:=3) (by omega)
 rw[e];simp only[aa]
 by_cases c:r.1=true
 ·rw[if_pos c]
  obtain ⟨q,e2,h2,k2⟩:=HE (h:=r.2.2) hl k
  rw[e2]
  exact ⟨_,rfl,h2,k2⟩
 ·rw[if_neg c]
  obtain ⟨q,e2,h2,k2⟩:=V4 (h:=r.2.2) hl k
  rw[e2];simp only[aa]
  obtain ⟨p,e3,p1,p2⟩:=FZ (e:=q.1) (by omega)
  rw[e3];simp only[aa]
  obtain ⟨a,e4,h4⟩:=M0 (p:=p.1) p1 (by omega)
  have e4:dk (p.1.1,p.1.2.1,p.1.2.2.1,p.1.2.2.2.1,p.1.2.2.2.2) 12=some a:=e4
  rw[e4];simp only[aa]
  by_cases c2:a.2=true
  ·rw[if_pos c2]
   obtain ⟨N,hN,-,-,V⟩:=h4 c2
   exact ⟨_,rfl,V.autD hN,k2⟩
  ·rw[if_neg c2]
   obtain ⟨u,e5,h5,k5⟩:=HE (h:=q.2.2) hl k2
   rw[e5]
   exact ⟨_,rfl,h5,k5⟩
end
end D
namespace D
open Go.RowKit
theorem M5 {l:List Tok} (h:l.length<=1048576):Data.sm l:=⟨h,fun _ _=>⟨trivial,trivial,trivial,trivial⟩⟩
section
variable {xs:List Int} {i h:Int}
theorem Ec (hl:xs.length<=1048576) {p:List Int×Int×Int} (hp:p.1=xs): ∀(n:Nat) (f:Nat) {i h:Int} {r:rM},n<900->n<f->nm xs i->Data.sm r->r.1.length<=4->r.2.length<=4-> ∃s:Int×Int×rM,ay (dA p) f ((n:Int),i,h,r.1,r.2)=some (.brk (0,s.1,s.2.1,s.2.2.1,s.2.2.2))/\nm xs s.1/\Data.sm s.2.2/\s.2.2.1.length<=4
 | 0,f+1,i,h,r,_,_,hc,hr,hb,_=>by
  refine ⟨(i,h,r),?_,hc,hr,hb⟩
  have:dA p (((0:Nat):Int),i,h,r.1,r.2)=some (.brk (0,i,h,r.1,r.2)):=by
   unfold dA
   simp only
   rw[if_neg (by simp)];rfl
  rw[ay,this]
 | n+1,f+1,i,h,r,hn,hf,hc,hr,hb,hb2=>by
  obtain ⟨r7,e7,-,k7⟩:=dP (h:=h) hl hc (n:=6) (by omega)
  obtain ⟨r8,e8,l8,k8⟩:=M4 (h:=r7.2.2) hl k7
  obtain ⟨x,ex,hx,hx1,hx2⟩:=TX hr (IntKind.i64.wrap (1+r7.1)) (e:=r8.1) (M5 (by omega))
  have hxl:x.1.1.length<=4/\x.1.2.length<=4:=by
   cases hk:x.2 with
   | false=>rw[hx2 hk];exact ⟨hb,hb2⟩
   | true =>
    obtain ⟨-,i0,hi0,e3⟩:=hx1 hk
    have h8:Data.sm r8.1:=M5 (by omega)
    have hins:=Rb (y:=((IntKind.i64.wrap (1+r7.1),r8.1,(0:Int)):QT)) hr.2 ⟨trivial,h8,trivial⟩ i0 (by omega)
    obtain ⟨q4,hB⟩:=Ce hins e3
    have:=hB.len
    have:=(PX hins e3).2.1
    omega
  have ex:fE (r.1,r.2) (IntKind.i64.wrap (1+r7.1)) r8.1=_:=ex
  obtain ⟨t,e2,h4,h5⟩:=Ec hl hp n f (h:=r8.2.2) (r:=x.1) (by omega) (by omega) k8 hx hxl.1 hxl.2
  refine ⟨t,?_,h4,h5⟩
  have:dA p (((n+1:Nat):Int),i,h,r.1,r.2)=some (.nxt ((n:Int),r8.2.1,r8.2.2,x.1.1,x.1.2)):=by
   unfold dA
   simp only
   rw[if_pos (decide_eq_true (show ((n+1:Nat):Int)>0 by omega)),hp,e7];simp only[aa]
   rw[e8];simp only[aa]
   rw[ex];simp only[aa]
   rw[show IntKind.i64.wrap (((n+1:Nat):Int) - 1)=(n:Int) from by rw[bY (by omega) (by omega)];omega]
  rw[ay,this]
  exact e2
theorem T0:Data.sm (([],[]):rM):=⟨⟨Nat.zero_le _,fun _ h=>by cases h⟩,Nat.zero_le _,fun _ h=>by cases h⟩
theorem Je (hl:xs.length<=1048576) (hc:nm xs i): ∃r:rM×Int×Int,jY (xs,i,h)=some r/\(Data.sm r.1/\r.1.1.length<=4)/\nm xs r.2.1:=by
 unfold jY
 simp only
 obtain ⟨r,e,hr,kr⟩:=dP (h:=h) hl hc (n:=3) (by omega)
 rw[e];simp only[aa]
 obtain ⟨k,hk⟩: ∃k:Nat,IntKind.i64.wrap (1+r.1)=(k:Int):=⟨(1+r.1).toNat,by rw[bY (by omega) (by omega)];omega⟩
 have hk3:k<=3:=by
  rw[bY (by omega) (by omega)] at hk;omega
 obtain ⟨s,es,h1,h2⟩:=Ec hl (p:=(xs,i,h)) rfl k aQ (h:=r.2.2) (r:=([],[])) (by omega) (by unfold aQ;omega) kr T0 (Nat.zero_le _) (Nat.zero_le _)
 rw[hk,af es]
 exact ⟨_,rfl,h2,h1⟩
theorem V5 (hl:xs.length<=1048576) (hc:nm xs i): ∃r:rM×Int×Int,rf (xs,i,h)=some r/\Data.sm r.1/\nm xs r.2.1:=by
 unfold rf
 simp only
 obtain ⟨r0,e0,s0,k0⟩:=Je (h:=h) hl hc
 rw[e0];simp only[aa]
 obtain ⟨r1,e1,-,k1⟩:=dP (h:=r0.2.2) hl k0 (n:=16) (by omega)
 rw[e1];simp only[aa]
 obtain ⟨⟨sa,sq⟩,la⟩:=s0
 obtain ⟨hq,hqs⟩:=cX sq
 have hset: ∀y:QT,Data.sm y->Data.sm (r0.1.2.set 0 y):=fun y hy=>⟨by rw[List.length_set];exact hq,fun q h=>by
  rcases List.mem_or_eq_of_mem_set h with h | rfl
  ·exact hqs q h
  ·exact hy⟩
 by_cases c0:(r1.1==0)=true
 ·rw[if_pos c0]
  by_cases c:(r0.1.2.length:Int)>0
  ·rw[if_pos (decide_eq_true c)]
   obtain ⟨r4,e4,-,k4⟩:=dP (h:=r1.2.2) hl k1 (n:=3) (by omega)
   rw[e4];simp only[aa]
   rw[ax (by omega) c]
   have hm:=hqs _ (bg (xs:=r0.1.2) (i:=0) (by omega) c)
   exact ⟨_,rfl,⟨sa,hset _ ⟨trivial,hm.2.1,trivial⟩⟩,k4⟩
  ·rw[if_neg (by simpa using c)]
   exact ⟨_,rfl,⟨sa,sq⟩,k1⟩
 ·rw[if_neg c0]
  by_cases c1:(r1.1==1)=true
  ·rw[if_pos c1]
   by_cases c:(r0.1.2.length:Int)>0
   ·rw[if_pos (decide_eq_true c)]
    obtain ⟨r8,e8,-,k8⟩:=jn (h:=r1.2.2) hl k1 (l:=[0,100,99]) (by simp)
    rw[e8];simp only[aa]
    rw[ax (by omega) c]
    have hm:=hqs _ (bg (xs:=r0.1.2) (i:=0) (by omega) c)
    exact ⟨_,rfl,⟨sa,hset _ ⟨trivial,hm.2.1,hm.2.2⟩⟩,k8⟩
   ·rw[if_neg (by simpa using c)]
    exact ⟨_,rfl,⟨sa,sq⟩,k1⟩
  ·rw[if_neg c1]
   by_cases c2:(r1.1==2)=true
   ·rw[if_pos c2]
    obtain ⟨r12,e12,h12,k12⟩:=Xm (h:=r1.2.2) hl k1
    rw[e12];simp only[aa]
    obtain ⟨ha,has⟩:=cX sa
    rw[aI (by simp only[au,aD];omega)]
    refine ⟨_,rfl,⟨⟨?_,fun a h=>?_⟩,sq⟩,k12⟩
    ·show (r0.1.1++ [(r12.1.1,r12.1.2.1,r12.1.2.2)]).length<=_
     rw[aj];simp only[au,aD];omega
    ·rcases aH h with h | h
     ·exact has a h
     ·rw[al h];exact h12.sm
   ·rw[if_neg c2]
    exact ⟨_,rfl,⟨sa,sq⟩,k1⟩
end
end D
namespace D
open Go.RowKit
section
variable {xs:List Int} {i h:Int}
theorem V6 (hl:xs.length<=1048576) {p:List Int×Int×Int} (hp:p.1=xs) (hc:nm xs i) {n:Int} (hn:0<=n/\n<=5): ∃s:Int×Int×Int×List Int×List Yq1,ay (jf p) aQ (n,i,h,([] :List Int),([] :List Yq1))=some (.brk s)/\s.2.2.2.1.length=n.toNat/\s.2.2.2.2= [] /\nm xs s.2.1:=by
 obtain ⟨s,e,h1,h2,h3,h4⟩:=db (f:=jf p) (fun j s=>s.1=n - (j:Int)/\s.2.2.2.1.length=j/\s.2.2.2.2= [] /\nm xs s.2.1) n.toNat (fun j s hj hI=>by
  obtain ⟨h1,h2,h3,h4⟩:=hI
  unfold jf
  rw[h1,hp,if_pos (by simp;omega)]
  obtain ⟨r,e,-,k⟩:=dP (h:=s.2.2.1) hl h4 (n:=3) (by omega)
  rw[e];simp only[aa]
  rw[aI (by simp only[au,aD];omega)];simp only[aa]
  refine ⟨_,rfl,?_,by simp[h2],h3,k⟩
  show IntKind.i64.wrap (n - (j:Int) - 1)=n - ((j+1:Nat):Int)
  rw[bY (by omega) (by omega)];omega) (fun s hI=>by
  unfold jf
  rw[hI.1,if_neg (by simp;omega)]
  obtain ⟨a,b⟩:=s
  obtain rfl:a=_:=hI.1
  rfl) (s:=(n,i,h,([] :List Int),([] :List Yq1))) ⟨by show n=n - 0;omega,rfl,rfl,hc⟩ (ju (by omega))
 exact ⟨s,e,h2,h3,h4⟩
def GrD (g:GrT):Prop:=(1<=g.1.length/\g.1.length<=5)/\g.2.length<=11
theorem GrD.sm {g:GrT} (h:GrD g):Data.sm g:=⟨⟨by have:=h.1.2;omega,fun _ _=>trivial⟩,by have:=h.2;omega,fun _ _=>⟨trivial,trivial,trivial,trivial⟩⟩
theorem T1 (hl:xs.length<=1048576) (hc:nm xs i): ∃r:GrT×Int×Int,pb (xs,i,h)=some r/\GrD r.1/\nm xs r.2.1:=by
 unfold pb
 simp only
 obtain ⟨r0,e0,h0,k0⟩:=jn (h:=h) hl hc (l:=[2,3,4,4,5]) (by simp)
 rw[e0];simp only[aa]
 have h0:2<=r0.1/\r0.1<=5:=by simp at h0;omega
 obtain ⟨s,e,h1,h2,h3⟩:=V6 (p:=(xs,i,h)) (h:=r0.2.2) hl rfl k0 (n:=r0.1) (by omega)
 rw[af e]
 obtain ⟨r10,e10,h10,k10⟩:=jn (h:=s.2.2.1) hl h3 (l:=[4,8,11]) (by simp)
 rw[e10];simp only[aa]
 have h10:4<=r10.1/\r10.1<=11:=by simp at h10;omega
 obtain ⟨r11,e11,h11,k11⟩:=dP (h:=r10.2.2) hl k10 (n:=r10.1) (by omega)
 rw[e11];simp only[aa]
 obtain ⟨q,eq,q1,q2,q3,q4⟩:=db (f:=kQ (xs,i,h)) (fun j z=>z.2.1=r11.1 - (j:Int)/\z.2.2.2.2.1=s.2.2.2.1/\z.2.2.2.2.2.length=j/\nm xs z.2.2.1) r11.1.toNat (fun j z hj hI=>by
  obtain ⟨z1,z2,z3,z4⟩:=hI
  unfold kQ
  rw[z1,z2,if_pos (by simp;omega)]
  obtain ⟨a,ea,-,ka⟩:=dP (h:=z.2.2.2.1) hl z4 (n:=3) (by omega)
  rw[ea];simp only[aa]
  obtain ⟨b,eb,-,kb⟩:=dP (h:=a.2.2) hl ka (n:=(s.2.2.2.1.length:Int)) (by omega)
  rw[eb];simp only[aa]
  obtain ⟨c,ec,-,kc⟩:=dP (h:=b.2.2) hl kb (n:=(s.2.2.2.1.length:Int)) (by omega)
  rw[ec];simp only[aa]
  obtain ⟨d,ed,-,kd⟩:=jn (h:=c.2.2) hl kc (l:=[0,0,1,2]) (by simp)
  rw[ed];simp only[aa]
  rw[aI (by simp only[au,aD];omega)];simp only[aa]
  refine ⟨_,rfl,?_,rfl,by simp[z3],kd⟩
  show IntKind.i64.wrap (r11.1 - (j:Int) - 1)=r11.1 - ((j+1:Nat):Int)
  rw[bY (by omega) (by omega)];omega) (fun z hI=>by
  unfold kQ
  rw[hI.1,if_neg (by simp;omega)]
  obtain ⟨a,b,c⟩:=z
  obtain rfl:b=_:=hI.1
  rfl) (s:=(0,r11.1,r11.2.1,r11.2.2,s.2.2.2.1,s.2.2.2.2)) ⟨by show r11.1=r11.1 - 0;omega,rfl,by rw[h2];rfl,k11⟩ (ju (by omega))
 rw[af eq]
 refine ⟨_,rfl,⟨?_,?_⟩,q4⟩
 ·show 1<=q.2.2.2.2.1.length/\q.2.2.2.2.1.length<=5
  rw[q2];omega
 ·show q.2.2.2.2.2.length<=11
  omega
theorem V7 (hl:xs.length<=1048576) (hc:nm xs i): ∃r:GrT×Int×Int,tV (xs,i,h)=some r/\Data.sm r.1/\nm xs r.2.1:=by
 unfold tV
 simp only
 obtain ⟨g,e,hg,k⟩:=T1 (h:=h) hl hc
 rw[e];simp only[aa]
 obtain ⟨q,e2,-,k2⟩:=dP (h:=g.2.2) hl k (n:=14) (by omega)
 rw[e2];simp only[aa]
 have hsm:=hg.sm
 obtain ⟨⟨hl1,hl2⟩,hl3⟩:=hg
 by_cases c0:(q.1==0)=true
 ·rw[if_pos c0]
  obtain ⟨r,e3,-,k3⟩:=jn (h:=q.2.2) hl k2 (l:=[(-1),3,2]) (by simp)
  rw[e3];simp only[aa]
  rw[ax (by omega) (by omega)];simp only[aa]
  exact ⟨_,rfl,⟨⟨by rw[List.length_set];omega,fun _ _=>trivial⟩,hsm.2⟩,k3⟩
 ·rw[if_neg c0]
  by_cases c1:(q.1==1)=true
  ·rw[if_pos c1]
   obtain ⟨r,e3,-,k3⟩:=jn (h:=q.2.2) hl k2 (l:=[0,1,99,100]) (by simp)
   rw[e3];simp only[aa]
   obtain ⟨r4,e4,-,k4⟩:=dP (h:=r.2.2) hl k3 (n:=6) (by omega)
   rw[e4];simp only[aa]
   obtain ⟨r5,e5,-,k5⟩:=dP (h:=r4.2.2) hl k4 (n:=6) (by omega)
   rw[e5];simp only[aa]
   obtain ⟨r6,e6,-,k6⟩:=dP (h:=r5.2.2) hl k5 (n:=4) (by omega)
   rw[e6];simp only[aa]
   rw[aI (by simp only[au,aD];omega)];simp only[aa]
   exact ⟨_,rfl,⟨hsm.1,by simp;omega,fun _ _=>⟨trivial,trivial,trivial,trivial⟩⟩,k6⟩
  ·rw[if_neg c1]
   by_cases c2:(q.1==2)=true
   ·rw[if_pos c2];simp only[aa]
    exact ⟨_,rfl,⟨⟨Nat.zero_le _,fun _ h=>by cases h⟩,hsm.2⟩,k2⟩
   ·rw[if_neg c2];simp only[aa]
    exact ⟨_,rfl,hsm,k2⟩
end
end D
namespace D
open Go.RowKit
theorem T2 (l:List Pr) (p:Pr):(put l p).length<=l.length+1:=by
 have:=MT p l
 unfold put
 split
 ·omega
 ·rw[aj,aE,au,bd];omega
theorem wZ: ∀(m l:List Pr),(Jq l m).length<=l.length+m.length
 | [],l=>aC _
 | p::m,l=>by
  have h1:=wZ m (put l p)
  have h2:=T2 l p
  show (Jq (put l p) m).length<=_
  rw[au];omega
theorem zb (l m:List Pr) (p:Pr):Jq l (m++ [p])=put (Jq l m) p:=by simp[Jq]
theorem T3 (l:List Pr) (p:Pr) (hl:l.length<=1073741824):mj l p=some (put l p):=by
 have hk:=MT p l
 have e:ay (l5 l p) aQ 0=some (.brk ((ahd p l:Nat):Int)):=by
  obtain ⟨o,e,rfl⟩:=bX (f:=l5 l p) (fun i s=>s=(i:Int)) (fun o=>o= .brk ((ahd p l:Nat):Int)) (ahd p l) (fun i s hi hI=>by
   subst hI
   unfold l5
   by_cases h1:i<ahd p l
   ·obtain ⟨x,g1,g2⟩:=Q8 p l i h1
    have hil:i<l.length:=by omega
    rw[List.getElem?_eq_getElem hil] at g1
    obtain rfl:=ae g1
    refine .inl ⟨h1,((i+1:Nat):Int),?_,rfl⟩
    rw[cW hil,if_pos rfl,aO hil]
    simp only[aa,Ra,iP]
    rw[if_pos (decide_eq_true g2),ai (by omega)]
   ·obtain rfl:i=ahd p l:=by omega
    refine .inr ⟨_,?_,fun s' hh=>(by simp at hh),rfl⟩
    by_cases hil:ahd p l<l.length
    ·have g:=Q9 p l _ (List.getElem?_eq_getElem hil)
     rw[cW hil,if_pos rfl,aO hil]
     simp only[aa,Ra,iP]
     rw[if_neg (by simpa using g)]
    ·rw[if_neg (by simp;omega)]) (s:=0) rfl (jO _ (by omega))
  exact e
 unfold mj
 rw[af e]
 have c1:chk ((0:Int)<=((ahd p l:Nat):Int)/\((ahd p l:Nat):Int)<=(l.length:Int))=some ():=if_pos (by omega)
 have a1:ct 16 ([] :List Pr) ((l.take (ahd p l)).drop 0)=some (l.take (ahd p l)):=by
  rw[List.drop_zero,aI (by simp only[aD,aE];omega)];rfl
 have a2:ct 16 (l.take (ahd p l)) [p] =some (l.take (ahd p l)++ [p]):=aI (by simp only[List.length_singleton,aE];omega)
 have a3:ct 16 (l.take (ahd p l)++ [p]) ((l.take l.length).drop (ahd p l))=some (l.take (ahd p l)++p::l.drop (ahd p l)):=by
  rw[List.take_of_length_le (aC _),aI (by simp only[aj,List.length_singleton,aE,bd];omega),ak];rfl
 simp only[c1,aa,Int.toNat_natCast,a1,a2,a3,iP]
 unfold put
 by_cases hil:ahd p l<l.length
 ·rw[cW hil,if_pos rfl,aO hil]
  simp only[aa,X5]
  rw[List.getElem?_eq_getElem hil]
  by_cases h:l[ahd p l] =p
  ·rw[if_pos (decide_eq_true h),if_pos (by rw[h])]
  ·rw[if_neg (by simpa using h),if_neg (by simpa using h)]
 ·rw[if_neg (by simp;omega),List.getElem?_eq_none (by omega),if_neg (by simp)]
theorem Xn {a b:List Pr} (ha:a.length<=67108864) (hb:b.length<=67108864):rP a b=some (Jq [] (a++b)):=by
 unfold rP
 obtain ⟨s1,e1,rfl⟩:=db (f:=iF a) (fun i s=>s=(Jq [] (a.take i),(i:Int))) a.length (fun i s hi hI=>by
  subst hI
  have hln:=wZ (a.take i) []
  rw[aE] at hln
  refine ⟨_,?_,rfl⟩
  unfold iF
  rw[cW hi,if_pos rfl,aO hi]
  simp only[aa,iP]
  rw[T3 _ _ (by simp only[aD] at hln;omega)]
  simp only[aa]
  rw[ai (by omega),List.take_succ_eq_append_getElem hi,zb]) (fun s hI=>by
  subst hI
  unfold iF
  rw[cx];rfl) (s:=(([] :List Pr),0)) rfl (jO _ (by omega))
 rw[af e1,List.take_of_length_le (aC _)]
 obtain ⟨s2,e2,rfl⟩:=db (f:=iG b) (fun i s=>s=(Jq [] (a++b.take i),(i:Int))) b.length (fun i s hi hI=>by
  subst hI
  have hln:=wZ (a++b.take i) []
  rw[aj,aE] at hln
  refine ⟨_,?_,rfl⟩
  unfold iG
  rw[cW hi,if_pos rfl,aO hi]
  simp only[aa,iP]
  rw[T3 _ _ (by simp only[aD] at hln;omega)]
  simp only[aa]
  rw[ai (by omega),List.take_succ_eq_append_getElem hi,<-ak,zb]) (fun s hI=>by
  subst hI
  unfold iG
  rw[cx];rfl) (s:=(Jq [] a,0)) (by simp) (jO _ (by omega))
 rw[af e2,List.take_of_length_le (aC _)]
theorem Jf {a b:List Pr} (ha:a.length<=67108864) (hb:b.length<=67108864):iE a b=some (Jq [] (a.filter fun x=> !decide (x∈b))):=by
 unfold iE
 obtain ⟨s1,e1,rfl⟩:=db (f:=fm a b) (fun i s=>s=(Jq [] ((a.take i).filter fun x=> !decide (x∈b)),(i:Int))) a.length (fun i s hi hI=>by
  subst hI
  have hln:=wZ ((a.take i).filter fun x=> !decide (x∈b)) []
  have hl2:=List.length_filter_le (fun x=> !decide (x∈b)) (a.take i)
  rw[aE] at hl2
  refine ⟨_,?_,rfl⟩
  unfold fm
  rw[cW hi,if_pos rfl,aO hi]
  simp only[aa,iP]
  rw[Xj (by omega)]
  simp only[aa]
  rw[ai (by omega),List.take_succ_eq_append_getElem hi,List.filter_append]
  by_cases h:a[i] ∈ b
  ·rw[if_pos (decide_eq_true h)]
   simp[h]
  ·rw[if_neg (by simpa using h),T3 _ _ (by simp only[aD] at hln;omega)]
   simp only[aa]
   rw[show [a[i]].filter (fun x=> !decide (x∈b))= [a[i]] from by simp[h],zb]) (fun s hI=>by
  subst hI
  unfold fm
  rw[cx];rfl) (s:=(([] :List Pr),0)) rfl (jO _ (by omega))
 rw[af e1,List.take_of_length_le (aC _)]
end D
set_option synthInstance.maxSize 20000
set_option synthInstance.maxHeartbeats 2000000
namespace D
open Go.RowKit
theorem M6 {a b:AutT} (sa:Data.sm a) (sb:Data.sm b) (h:bK a b=some true):VA a a.2.1.length/\a.2.1.length<=12/\VA b b.2.1.length/\b.2.1.length<=12/\ ∀w:List Nat,(∀k∈w,k<9)->acw b w=true->acw a w=true:=by
 obtain ⟨va,e1,-,ka⟩:=pz a sa
 obtain ⟨vb,e3,-,kb⟩:=pz b sb
 have h0:=h
 unfold bK gO at h
 simp only[iP] at h
 rw[e1,e3] at h;simp only[aa] at h
 cases va with
 | false=>cases h
 | true =>
  cases vb with
  | false=>cases h
  | true =>
   obtain ⟨hn,Va⟩:=ka rfl
   obtain ⟨hm,Vb⟩:=kb rfl
   obtain ⟨c,e,k⟩:=V2 sa sb Va Vb hn hm
   rw[h0] at e
   exact ⟨Va,hn,Vb,hm,k.1 (ae e).symm⟩
theorem P1 {r:rM} (hr:Data.sm r) (hR:Mu r) (hv:bI r=some true) {i:Nat} (hi:i<r.2.length):br r (nth r.2 (i:Int)).1=some (nth r.1 (nth r.2 (i:Int)).2.2,true):=by
 obtain ⟨h4,hB⟩:=Ce hr.2 ((y8 hr).1 hv)
 have hi':nth r.2 (i:Int)=r.2[i]:=bT hi
 have hfind:dJ r (nth r.2 (i:Int)).1=some (i:Int):=by
  rcases V1 r (nth r.2 (i:Int)).1 (by omega) with ⟨g1,g2⟩ | ⟨j,hj,g1,g2⟩
  ·exact absurd (by rw[hi']) (g2 _ (List.getElem_mem hi))
  ·have hji:j=i:=by
    rw[hi'] at g2
    rcases Nat.lt_trichotomy j i with c | c | c
    ·have:=Rc hB c hi;omega
    ·exact c
    ·have:=Rc hB c hj;omega
   rw[g1,hji]
 obtain ⟨q1,q2⟩:=hR.2 _ (bg (xs:=r.2) (i:=(i:Int)) (by omega) (by omega))
 have hm:Data.sm (nth r.1 (nth r.2 (i:Int)).2.2):=(cX hR.1.1).2 _ (bg q1 q2)
 unfold br
 simp only[hfind,hv,aa,iP,if_true,show decide ((i:Int)<0)=false from by simp,Bool.false_eq_true,if_false,ax (xs:=r.2) (i:=(i:Int)) (by omega) (by omega),ax q1 q2,B1 _ hm]
theorem M7 {r:rM} {g:GrT} (hr:Data.sm r) (hg:Data.sm g) {id k:Int} (h:DX r id k) {x z:List (Int×Int)} {is:Bool} (hx:cZ r g id=some (x,is)) (hz:cZ r g k=some (z,true)): ∀p∈z,p∈x:=by
 obtain ⟨xa,q1,sx,hR,hv,i,hi,rfl,hincl⟩:=h
 obtain ⟨g1,g2⟩:=hR.2 _ (bg (xs:=r.2) (i:=(i:Int)) (by omega) (by omega))
 have sz:Data.sm (nth r.1 (nth r.2 (i:Int)).2.2):=(cX hR.1.1).2 _ (bg g1 g2)
 have q2:=P1 hr hR hv hi
 obtain ⟨Va,hn,Vb,hm,hL⟩:=M6 sx sz hincl
 obtain ⟨l,b,e1,-,-,a,q,v,e2,-,e3,hb,hf,hl⟩:=qP hr hg (nth r.2 (i:Int)).1
 rw[hz] at e1
 obtain ⟨rfl,rfl⟩:z=l/\true=b:=by simpa using e1
 rw[q2] at e2
 obtain ⟨rfl,rfl⟩:nth r.1 (nth r.2 (i:Int)).2.2=a/\true=q:=by
  have:=ae e2
  exact ⟨congrArg Prod.fst this,congrArg Prod.snd this⟩
 have hvg:v=true:=by rw[Bool.true_and] at hb;exact hb.symm
 subst hvg
 have hl:=hl rfl
 obtain ⟨bo,lz,-,-,f2,-,f3,f4⟩:=Cc g _ hg sz
 rw[hl] at f2
 obtain rfl:=ae f2
 cases bo with
 | false=>rw[f3 rfl];intro p hp;cases hp
 | true =>
  obtain ⟨K,rfl⟩:=f4 rfl
  have H:GOOD g xa:=⟨K.1,hn,Va⟩
  obtain ⟨l',b',e1',-,-,a',q',v',e2',sa',e3',hb',-,hl'⟩:=qP hr hg id
  rw[hx] at e1'
  obtain ⟨rfl,rfl⟩:x=l'/\is=b':=by simpa using e1'
  rw[q1] at e2'
  obtain ⟨rfl,rfl⟩:xa=a'/\true=q':=by
   have:=ae e2'
   exact ⟨congrArg Prod.fst this,congrArg Prod.snd this⟩
  rw[e3] at e3'
  obtain rfl:=ae e3'
  subst hb'
  have hl':=hl' rfl
  obtain ⟨bo',lx,h5,-,f2',-,f3',f4'⟩:=Cc g xa hg sx
  rw[hl'] at f2'
  obtain rfl:=ae f2'
  cases bo' with
  | true =>
   obtain ⟨-,rfl⟩:=f4' rfl
   exact PT H K hL
  | false =>
   exfalso
   obtain ⟨bv,cv,h1,h2,h3,h4,h6,h7⟩:=FM g xa hg sx
   have h8:bv=true:=by rw[e3] at h1;exact (ae h1).symm
   have h9:cv=true:=h7.2 ⟨hn,Va⟩
   obtain ⟨b9,es,ei,-⟩:=Hy g xa hg sx
   have en:bZ g xa [] =some true:=by
    unfold bZ
    have:ay (cq g []) aQ 0=some (.brk 0):=by
     have:=aN (f:=cq g []) (fun _=>(0:Int)) 0 (fun i hi=>absurd hi (Nat.not_lt_zero _)) (by unfold cq;simp) (by unfold aQ;omega)
     exact this
    rw[af this]
    have h2:bs (g.1,g.2)=_:=h2
    have h4:aW (xa.1,xa.2.1,xa.2.2)=_:=h4
    rw[h2,h4,h8,h9];rfl
   rw[h5] at en;cases en
theorem Xo {xs:List Int} {i h:Int} (hl:xs.length<=1048576) (hc:nm xs i) (r:rM): ∃q:Int×Int×Int,tW (xs,i,h) r=some q/\nm xs q.2.1:=by
 unfold tW
 simp only
 by_cases c:(r.2.length:Int)>0
 ·rw[if_pos (by simpa using c)]
  obtain ⟨q,e,k⟩:=AN (h:=h) hl hc (n:=4) (by omega)
  rw[e];simp only[aa]
  by_cases c2:q.1=true
  ·rw[if_pos c2]
   obtain ⟨q2,e2,-,k2⟩:=jn (h:=q.2.2) hl k (l:=[0,1,2,3,4,99,100]) (by simp)
   rw[e2]
   exact ⟨_,rfl,k2⟩
  ·rw[if_neg c2]
   obtain ⟨q2,e2,h2,k2⟩:=dP (h:=q.2.2) hl k (n:=(r.2.length:Int)) c
   rw[e2];simp only[aa]
   rw[ax h2.1 h2.2]
   exact ⟨_,rfl,k2⟩
 ·rw[if_neg (by simpa using c)]
  obtain ⟨q2,e2,-,k2⟩:=jn (h:=h) hl hc (l:=[0,1,2,3,4,99,100]) (by simp)
  rw[e2]
  exact ⟨_,rfl,k2⟩
theorem V8 {xs:List Int} (hl:xs.length<=1048576): ∃r:rM×GrT×Int,fj xs=some r/\Data.sm r.1/\Data.sm r.2.1:=by
 unfold fj
 obtain ⟨r0,e0,k0⟩:=Xk hl
 rw[e0];simp only[aa]
 obtain ⟨r1,e1,s1,k1⟩:=V5 (h:=r0.2) hl k0
 rw[e1];simp only[aa]
 obtain ⟨r4,e4,s4,k4⟩:=V7 (h:=r1.2.2) hl k1
 rw[e4];simp only[aa]
 obtain ⟨r5,e5,k5⟩:=Xo (h:=r4.2.2) hl k4 (r1.1.1,r1.1.2)
 rw[e5]
 exact ⟨_,rfl,s1,s4⟩
theorem M8 {z x:List (Int×Int)} (h: ∀p∈z,p∈x):Jq [] (z.filter fun p=> !decide (p∈x))= []:=by
 have:z.filter (fun p=> !decide (p∈x))= []:=by
  rw[List.filter_eq_nil_iff]
  intro p hp
  rw[decide_eq_true (h p hp)];simp
 rw[this];rfl
theorem Jg {l:List Int} (hl:l.length<=1048576):nB l l=some true:=by
 unfold nB
 rw[if_neg (by simp)]
 have:=aN (f:=gN l l) (fun i=>(i:Int)) l.length (fun i hi=>by
  unfold gN
  rw[cW hi,if_pos rfl,aO hi];simp only[aa]
  rw[if_neg (by simp),ai (by omega)]) (by
  unfold gN
  rw[cx];rfl) (ju (by omega))
 have this:ay (gN l l) aQ 0=_:=this
 rw[af this]
theorem M9 (x:List (Int×Int)) (hN:x.length<=1048576):jj x x=some true:=by
 have h1:jj x x=some (decide (x=x)):=by
  unfold jj
  exact eqL (f:=iD x x) x x (by omega) (fun i h h'=>by
   simp only[iD,cW h,if_true,aO h,aO h',aa,ai (show i<9223372036854775807 by omega)]
   simp) (by simp only[iD,cx];rfl)
 rw[h1,decide_eq_true rfl]
theorem rN (xs:List Int) (hx:Data.lim xs):eU xs=some true:=by
 unfold eU Fb
 simp only[aa]
 by_cases c:(xs.length:Int)>1048576
 ·rw[if_pos (by simpa using c)]
 rw[if_neg (by simpa using c)]
 have hl:xs.length<=1048576:=by omega
 have nf: ∀p:Bool,(p !=p)=false:=fun p=>by cases p <;> rfl
 obtain ⟨⟨r,g,id⟩,e1,sr,sg⟩:=V8 hl
 have sr:Data.sm r:=sr
 have sg:Data.sm g:=sg
 rw[e1];simp only[aa,iP]
 obtain ⟨v,i1,i2,sv,hv⟩:=B4 sr id
 have lv:v.length<=1048576:=sv.1
 rw[i1,i2];simp only[aa]
 rw[Jg lv];simp only[aa,if_true]
 obtain ⟨x,is,q1,q2,lx⟩:=wj sr sg id
 have q1':cZ r g id=_:=q1
 rw[q1,q2];simp only[aa]
 rw[nf,M9 x (by omega)];simp only[aa,Bool.false_eq_true,if_false,if_true]
 have:=aN (f:=cL (r,g,id) v (x,is)) (fun k=>(k:Int)) v.length (fun k hk=>by
  unfold cL
  simp only[iP]
  obtain ⟨z,fine,z1,z2,lz⟩:=wj sr sg v[k]
  rw[cW hk,if_pos rfl,aO hk];simp only[aa]
  rw[z2,ai (by omega)];simp only[aa]
  cases fine with
  | false=>rfl
  | true =>
   have hp:=M7 sr sg (hv _ (List.getElem_mem hk)) q1' z1
   simp only[if_true]
   unfold BC
   rw[Jf (by omega) (by omega),M8 hp];rfl) (by
  unfold cL
  rw[cx];rfl) (ju (by omega))
 have this:ay (cL (r,g,id) v (x,is)) aQ 0=_:=this
 rw[af this]
end D
open Go.ChangeShapes Go.WideShapes Go.ChangeAt Go.RowKit
namespace D
theorem op5:Opens Tryz.prog 5 rU8:=Pf Tryz.underlying5
theorem X6:Opens Tryz.prog 22 (aA 5 rU8):=Fq Tryz.underlying22 (by kernel_rfl) (by decide) op5
theorem Xp {W:World} {base:Nat} {z:Value} {H:Type} {enc:TypeId×Value->H} {d:DataW H} {p:List MemPlace} (hv:Value.okWide Tryz.prog W .any base 22 z) (h:DataW.Trod enc Tryz.prog W 0 (fun _=>true) true 22 z d p) :
  ∃(x:List Int) (v0:Value),z=v0/\Data.lim x/\(aA 5 rU8).rd (hp W) [v0] x:=by
 obtain ⟨fuel,hf⟩:=h
 obtain ⟨a,l,c,rfl⟩:=okWide_slice Tryz.underlying22 hv
 obtain ⟨x,hx,hl⟩:=X6.out enc W _ _ _ hf
 exact ⟨x,_,rfl,hl,hx⟩
end D
open D (Data)
theorem qQ (W:World) (args:Array Value) (H:Type) (enc:TypeId×Value->H) (base:Nat) (ds gs:List (DataW H)) (before:List MemPlace)
  (hval: ∀(j:Nat) t v,Tryz.f4.params[j]? =some t->args[j]? =some v->Value.okWide Tryz.prog W .any base t v)
  (hW:DataW.Whole enc Tryz.prog Tryz.f4.params.toList Rows.fnIncludedQueriesSpec.vars false W args.toList ds gs before) :
  Calls Tryz.prog 4 args W fun e W'=> ∃v,e= .returned v/\Rows.fnIncludedQueriesSpec.post enc Tryz.prog Tryz.f4 false true false false W args v W':=by
 have hW':=hW
 obtain ⟨p,q,hA,hV,rfl,hfz,hnd⟩:=hW
 rw[Tryz.params4] at hA hval
 obtain ⟨z0,vs0,d0,ds0,p0,q0,hargs,rfl,rfl,h0,r0⟩:=trodAll_cons hA
 obtain ⟨rfl,rfl,rfl⟩:=trodAll_nil r0
 obtain rfl:args= #[z0]:=by cases args;simp_all
 obtain ⟨rfl,rfl⟩:=trodVars_none hV
 obtain ⟨x0,v0_0,rfl,l0,r0_0⟩:=D.Xp (hval 0 _ _ rfl rfl) h0
 have hc:=D.qI x0 true (D.rN x0 l0) (I:=D.hp W) (w0:=W) z0 r0_0 D.Lay.all W [] (D.St.init W)
 refine hc.mono fun e W' ⟨v,he,hv,hs⟩=>?_
 subst he;subst hv
 exact ⟨_,rfl,PA (f:=Tryz.f4) (s:=Rows.fnIncludedQueriesSpec) 4 Tryz.underlying4 rfl (by kernel_rfl) rfl hW' rfl rfl rfl (D.St.below hs)⟩
theorem oR (os:Os) (started:os.Started) (H:Type) (enc:TypeId×Value->H) :
  ReturnsInHanded {} Tryz.checked os 4 .any (Rows.fnIncludedQueriesSpec.pre6 enc Tryz.prog Tryz.f4 Rows.fnIncludedQueriesRow.domain false) (Rows.fnIncludedQueriesSpec.post enc Tryz.prog Tryz.f4 false true false false):=by
 refine returnsInHanded_of_change_sized (C:=Tryz.checked) own started (by kernel_rfl) Tryz.func4
  (ChangeSpec.witness6 (enc:=enc) (C:=Tryz.checked) false ⟨#[],#[.slice none 0 0],[]⟩ 8 (by kernel_rfl) (by kernel_rfl) (by kernel_rfl) (by kernel_rfl)) ?_
 intro W base args ds gs before hval hW hcnd hsz _
 exact qQ W args H enc base ds gs before hval hW
set_option maxHeartbeats 4000000 in
theorem oS:joinedFacts Tryz.pinned.checked.prog 4 Tryz.f4 Rows.fnIncludedQueriesSpec Rows.fnIncludedQueriesRow=true:=by
 unfold joinedFacts
 repeat' (with_reducible refine Bool.and_eq_true_iff.2 ⟨?_,?_⟩)
 all_goals as_aux_lemma=>kernel_rfl
theorem holdsLFnIncludedQueries:Rows.FnIncludedQueriesSaid:=
 OpenClaim.holds_of_wide 4 Tryz.f4 rfl rfl rfl rfl rfl rfl rfl ⟨rfl,rfl,rfl,rfl,rfl⟩ rfl rfl rfl rfl rfl (by kernel_rfl) Tryz.func4 oS
  (of_decide_eq_true (by kernel_rfl)) (by unfold Func.isWrapper;first | (rw[if_pos (by decide +kernel)];kernel_rfl) | (rw[if_neg (by decide +kernel)];exact ⟨rfl,rfl⟩))
  (fun os started H enc _=>oR os started H enc)
end Go.Proofs.YtbhafdfiplkacaaGreat
