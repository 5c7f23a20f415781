/- FnDeclarative: for every input the law returns true and changes nothing that was there. Part 8 of 8. -/
import Derived.Test.YtbhafdfiplkacaaGreatQC6
set_option linter.unusedVariables false
set_option linter.unusedSimpArgs false
set_option linter.unnecessarySimpa false
set_option linter.unusedSectionVars false
set_option maxRecDepth 1000000
namespace Go.Proofs.YtbhafdfiplkacaaGreat
namespace D
open Go.RowKit
def itv (a:AutT) (s:Int) (k i:Nat):Int:=oG a s (List.replicate i k)
theorem pj (a:AutT) (s:Int) (k i:Nat):itv a s k (i+1)=mvn a (itv a s k i) k:=by
 unfold itv
 rw[List.replicate_succ',mM];rfl
theorem E4 {a:AutT} {s:Int} {k:Nat} (h:0<=s):mvn a s k=mv a s k:=by unfold mvn;rw[if_neg (by omega)]
theorem Tp {a:AutT} {s:Int} {k:Nat} (h:s<0):mvn a s k= -1:=by unfold mvn;rw[if_pos h]
def ClJ (a:AutT) (s:Int) (k:Nat) (i:Nat) (st:Int×Int):Prop:=st.2=itv a s k i/\ ∃M:Nat,st.1=(M:Int)/\ ∀j:Nat,(M.testBit j=true↔ ∃i',i'<i/\(j:Int)=itv a s k i')
section
variable {a:AutT} {n:Nat} (V:VA a n) (hn:n<=12)
include V hn
theorem Pg {s v:Int} (hv:0<=v/\v<=2) {i:Nat} {st st':Int×Int} (h:ClI n i st) (k:ClJ a s (6+v).toNat i st) (e:bJ a v st=some (.nxt st')):ClJ a s (6+v).toNat (i+1) st':=by
 obtain ⟨⟨h1,h2⟩,M,L,e1,hM,hl,hd,hr,hb⟩:=h
 obtain ⟨k1,M',k2,k3⟩:=k
 obtain ⟨m,z⟩:=st
 obtain rfl:m=(M:Int):=e1
 obtain rfl:M=M':=Int.ofNat_inj.1 k2
 have h62:M<2 ^ 62:=aG hM (p62 (by omega))
 unfold bJ at e
 by_cases c:z≥0
 ·obtain ⟨q,rfl⟩: ∃q:Nat,z=(q:Int):=⟨z.toNat,by omega⟩
  have hq:q<n:=by simp only at h2;omega
  have e0:chk ((0:Int)<=(q:Int))=some ():=by unfold chk;rw[if_pos (by omega)]
  simp only[e0,aa] at e
  rw[if_pos (by simp),Bh h62 (by omega)] at e
  by_cases b:M.testBit q=true
  ·rw[if_neg (by simp[b])] at e;cases e
  ·have ew:IntKind.i64.wrap (6+v)=(((6+v).toNat:Nat):Int):=by rw[bQ (by omega) (by omega)];omega
   rw[if_pos (by simp[b]),ew] at e
   have e2:=xS V (s:=(q:Int)) (k:=(6+v).toNat) (by omega) (by omega) (by omega)
   have e2:bc (a.1,a.2.1,a.2.2) (q:Int) (((6+v).toNat:Nat):Int)=_:=e2
   rw[e2,nO (by omega),zM h62 (Nat.pow_lt_pow_right (by decide) (by omega))] at e
   obtain rfl:=Out.nxt.inj (ae e)
   have k1:(q:Int)=itv a s (6+v).toNat i:=k1
   refine ⟨by show mv a (q:Int) _=_;rw[pj,<-k1,E4 (by omega)],_,rfl,fun j=>?_⟩
   rw[kK,Bool.or_eq_true,k3 j,decide_eq_true_eq]
   constructor
   ·rintro (⟨i',h3,h4⟩ | rfl)
    ·exact ⟨i',by omega,h4⟩
    ·exact ⟨i,by omega,k1⟩
   ·rintro ⟨i',h3,h4⟩
    by_cases c2:i'=i
    ·subst c2
     right;rw[<-k1] at h4;omega
    ·exact .inl ⟨i',by omega,h4⟩
 ·rw[if_neg (by simpa using c)] at e;cases e
theorem Tq {s v:Int} {i:Nat} {st:Int×Int} (hv:0<=v/\v<=2) (h:ClI n i st) (k:ClJ a s (6+v).toNat i st) (e:bJ a v st=some (.brk st)): ∀m:Nat,0<=itv a s (6+v).toNat m-> ∃i',i'<i/\itv a s (6+v).toNat m=itv a s (6+v).toNat i':=by
 obtain ⟨⟨h1,h2⟩,M,L,e1,hM,hl,hd,hr,hb⟩:=h
 obtain ⟨k1,M',k2,k3⟩:=k
 obtain ⟨m,z⟩:=st
 obtain rfl:m=(M:Int):=e1
 obtain rfl:M=M':=Int.ofNat_inj.1 k2
 have h62:M<2 ^ 62:=aG hM (p62 (by omega))
 have k1:z=itv a s (6+v).toNat i:=k1
 by_cases c:z≥0
 ·obtain ⟨q,rfl⟩: ∃q:Nat,z=(q:Int):=⟨z.toNat,by omega⟩
  have hq:q<n:=by simp only at h2;omega
  have b:M.testBit q=true:=by
   by_cases b:M.testBit q=true
   ·exact b
   ·exfalso
    unfold bJ at e
    have e0:chk ((0:Int)<=(q:Int))=some ():=by unfold chk;rw[if_pos (by omega)]
    have ew:IntKind.i64.wrap (6+v)=(((6+v).toNat:Nat):Int):=by rw[bQ (by omega) (by omega)];omega
    have e2:=xS V (s:=(q:Int)) (k:=(6+v).toNat) (by omega) (by omega) (by omega)
    have e2:bc (a.1,a.2.1,a.2.2) (q:Int) (((6+v).toNat:Nat):Int)=_:=e2
    simp only[e0,aa] at e
    rw[if_pos (by simp),Bh h62 (by omega),if_pos (by simp[b]),ew,e2] at e
    cases e
  obtain ⟨i0,hi0,e0⟩:=(k3 q).1 b
  rw[k1] at e0
  intro m hm
  induction m with
  | zero=>exact ⟨0,by omega,rfl⟩
  | succ m ih =>
   have hm':0<=itv a s (6+v).toNat m:=by
    by_cases c2:0<=itv a s (6+v).toNat m
    ·exact c2
    ·rw[pj,Tp (by omega)] at hm;omega
   obtain ⟨j,hj,ej⟩:=ih hm'
   by_cases c3:j+1<i
   ·exact ⟨j+1,c3,by rw[pj,pj,ej]⟩
   ·obtain rfl:i=j+1:=by omega
    exact ⟨i0,hi0,by rw[pj,ej,<-pj];exact e0⟩
 ·intro m hm
  have hneg: ∀d:Nat,itv a s (6+v).toNat (i+d)<0:=fun d=>by
   unfold itv
   rw[<-List.replicate_append_replicate,mM]
   refine q9 a _ _ ?_
   rw[show oG a s (List.replicate i (6+v).toNat)=z from k1.symm];omega
  by_cases c2:m<i
  ·exact ⟨m,c2,rfl⟩
  ·have:=hneg (m - i)
   rw[show i+(m - i)=m from by omega] at this;omega
theorem tY {s v:Int} (hs:0<=s/\s<n) (hv:0<=v/\v<=2) {x:Int} :x∈dq (cS a s v) 30↔0<=x/\ ∃i,x=itv a s (6+v).toNat i:=by
 have h0:ClI n 0 (0,s):=⟨⟨by simp only;omega,hs.2⟩,0,[],rfl,Nat.two_pow_pos n,rfl,List.nodup_nil,by simp,by simp⟩
 have j0:ClJ a s (6+v).toNat 0 (0,s):=⟨rfl,0,rfl,fun j=>by simp⟩
 obtain ⟨o,e,C,s',rfl,hC,i,hj,hl⟩:=b9 (f:=bJ a v) (fun i st=>ClI n i st/\ClJ a s (6+v).toNat i st) (fun o=> ∃(C:Nat) (s':Int),o= .brk ((C:Int),s')/\C<2 ^ n/\ ∃i,(∀j:Nat,(C.testBit j=true↔ ∃i',i'<i/\(j:Int)=itv a s (6+v).toNat i'))/\ ∀m:Nat,0<=itv a s (6+v).toNat m-> ∃i',i'<i/\itv a s (6+v).toNat m=itv a s (6+v).toNat i') n (s:=(0,s)) (fun i st hi h=>by
  rcases Lp V hn hv h.1 with ⟨h1,st',h2,h3⟩ | h'
  ·exact .inl ⟨h1,st',h2,h3,Pg V hn hv h.1 h.2 h2⟩
  ·have he:=Tq V hn hv h.1 h.2 h'
   obtain ⟨_,M,L,e1,hM,_⟩:=h.1
   obtain ⟨-,M',e2,hb⟩:=h.2
   obtain ⟨m,s'⟩:=st
   obtain rfl:m=(M:Int):=e1
   obtain rfl:M=M':=Int.ofNat_inj.1 e2
   exact .inr ⟨_,h',(fun s' e=>by cases e),M,s',rfl,hM,i,hb,he⟩) ⟨h0,j0⟩ (by unfold aP;omega)
 have ec:cS a s v=C:=by
  unfold cS dR
  rw[ah e];rfl
 rw[ec,jT]
 constructor
 ·rintro ⟨j,hj1,hj2,rfl⟩
  obtain ⟨i',-,h2⟩:=(hj j).1 hj2
  exact ⟨by omega,i',h2⟩
 ·rintro ⟨hx,m,rfl⟩
  obtain ⟨i',h1,h2⟩:=hl m hx
  obtain ⟨j,hjx⟩: ∃j:Nat,itv a s (6+v).toNat m=(j:Int):=⟨_,(Int.toNat_of_nonneg hx).symm⟩
  have hb:C.testBit j=true:=(hj j).2 ⟨i',h1,by rw[<-hjx,h2]⟩
  refine ⟨j,?_,hb,hjx⟩
  by_cases c:j<30
  ·exact c
  ·rw[Nat.testBit_lt_two_pow (aG hC (Nat.pow_le_pow_right (by decide) (by omega)))] at hb;cases hb
theorem Dj {s v:Int} (hs:0<=s/\s<n) (hv:0<=v/\v<=2):s∈dq (cS a s v) 30:=(tY V hn hs hv).2 ⟨hs.1,0,rfl⟩
theorem Mf {s v q:Int} (hs:0<=s/\s<n) (hv:0<=v/\v<=2) (hq:q∈dq (cS a s v) 30) (h:0<=mvn a q (6+v).toNat):mvn a q (6+v).toNat∈dq (cS a s v) 30:=by
 obtain ⟨h1,i,h2⟩:=(tY V hn hs hv).1 hq
 exact (tY V hn hs hv).2 ⟨h,i+1,by rw[pj,<-h2]⟩
end
theorem E5 {a:AutT} {k:Nat} : ∀(l:List Int) (m j:Nat),(l.foldl (fun m t=>if 0<=mv a t k then m ||| 2 ^ (mv a t k).toNat else m) m).testBit j=true↔m.testBit j=true\/ ∃q∈l,mv a q k=(j:Int)
 | [],m,j=>by simp
 | t::l,m,j=>by
  rw[List.foldl_cons,E5 l]
  split
  ·rename_i c
   rw[kK,Bool.or_eq_true,decide_eq_true_eq]
   constructor
   ·rintro ((h | h) | ⟨q,hq,h⟩)
    ·exact .inl h
    ·exact .inr ⟨t,by simp,by omega⟩
    ·exact .inr ⟨q,by simp[hq],h⟩
   ·rintro (h | ⟨q,hq,h⟩)
    ·exact .inl (.inl h)
    ·rcases ay hq with rfl | hq
     ·exact .inl (.inr (by omega))
     ·exact .inr ⟨q,hq,h⟩
  ·rename_i c
   constructor
   ·rintro (h | ⟨q,hq,h⟩)
    ·exact .inl h
    ·exact .inr ⟨q,by simp[hq],h⟩
   ·rintro (h | ⟨q,hq,h⟩)
    ·exact .inl h
    ·rcases ay hq with rfl | hq
     ·omega
     ·exact .inr ⟨q,hq,h⟩
theorem zZ {a:AutT} {n:Nat} (V:VA a n) (hn:n<=12) {s v k t:Int} (hs:0<=s/\s<n) (hv:0<=v/\v<=2) (hk:0<=k/\k<9):t∈behind a s v k↔0<=t/\ ∃q∈dq (cS a s v) 30,mv a q k.toNat=t:=by
 have hC:=(ja V hn hs hv).2
 unfold behind
 rw[jT]
 constructor
 ·rintro ⟨i,hi,hb,rfl⟩
  unfold afL at hb
  rcases (E5 _ _ _).1 hb with h | ⟨q,hq,h⟩
  ·simp at h
  ·exact ⟨by omega,q,hq,h⟩
 ·rintro ⟨ht,q,hq,h⟩
  obtain ⟨j,rfl⟩: ∃j:Nat,t=(j:Int):=⟨_,(Int.toNat_of_nonneg ht).symm⟩
  have hr:=lS V hn hC q hq
  have:=(V.mv hr.1 hr.2 (k:=k.toNat) (by omega)).2
  exact ⟨j,by omega,(E5 _ _ _).2 (.inr ⟨q,hq,h⟩),rfl⟩
inductive PW (g:GrT):Nat->Nat->List Nat->Prop
 | nil (x:Nat):PW g x x []
 | test {x y:Nat} {w:List Nat} :PW g x y w->PW g x y ((6+nth g.1 (x:Int)).toNat::w)
 | step {x y:Nat} {w:List Nat} (z:ArT) (hz:z∈arcL g.2 x):PW g z.2.2.toNat y w->PW g x y (z.2.1.toNat::w)
theorem PW.trans {g:GrT} {x y z:Nat} {u w:List Nat} (h:PW g x y u) (k:PW g y z w):PW g x z (u++w):=by
 induction h with
 | nil x=>exact k
 | test _ ih=>exact (ih k).test
 | step t ht _ ih=>exact (ih k).step t ht
theorem PW.tests {g:GrT} {x:Nat} : ∀i,PW g x x (List.replicate i (6+nth g.1 (x:Int)).toNat)
 | 0=>.nil x
 | i+1=>by rw[List.replicate_succ];exact (PW.tests i).test
theorem PW.lt9 {g:GrT} (G:GOk g) {x y:Nat} {w:List Nat} (h:PW g x y w):x<g.1.length-> ∀k∈w,k<9:=by
 induction h with
 | nil x=>intro _ k hk;cases hk
 | @test x y w _ ih =>
  intro hx k hk
  rcases ay hk with rfl | hk
  ·have:=G.val _ (bB (xs:=g.1) (i:=(x:Int)) (by omega) (by omega))
   omega
  ·exact ih hx k hk
 | step t ht _ ih =>
  intro hx k hk
  obtain ⟨h1,h2⟩:=pD G ht
  rcases ay hk with rfl | hk
  ·omega
  ·exact ih (by omega) k hk
theorem PW.end_lt {g:GrT} (G:GOk g) {x y:Nat} {w:List Nat} (h:PW g x y w):x<g.1.length->y<g.1.length:=by
 induction h with
 | nil x=>exact id
 | test _ ih=>exact ih
 | step t ht _ ih =>
  intro hx
  obtain ⟨h1,h2⟩:=pD G ht
  exact ih (by omega)
theorem tZ {g:GrT} {a:AutT} {R:List Int} {x:Int} : ∀N,x∈DB g a R N↔ ∃i,i<N/\Ti g a R i=true/\x=((i / a.2.1.length:Nat):Int)
 | 0=>by simp[DB]
 | N+1=>by
  rw[DB]
  constructor
  ·intro h
   split at h
   ·rename_i c
    rcases aI h with h | h
    ·obtain ⟨i,h1,h2⟩:=(tZ N).1 h
     exact ⟨i,by omega,h2⟩
    ·exact ⟨N,by omega,c,au h⟩
   ·obtain ⟨i,h1,h2⟩:=(tZ N).1 h
    exact ⟨i,by omega,h2⟩
  ·rintro ⟨i,h1,h2,h3⟩
   by_cases c:i=N
   ·subst c
    rw[if_pos h2,List.mem_append]
    exact .inr (by simp[h3])
   ·have:=(tZ N).2 ⟨i,by omega,h2,h3⟩
    split
    ·exact List.mem_append.2 (.inl this)
    ·exact this
section
variable {g:GrT} {a:AutT} (H:GOOD g a) {x:Nat} (hx:x<g.1.length)
include H hx
theorem Ip: ∀(d:Nat) (i:Nat),i<a.2.1.length*g.1.length->nth (RKs g a ((x:Int)*(a.2.1.length:Int)+a.1)) (i:Int)=(d:Int)-> ∃w,PW g x (i / a.2.1.length) w/\oG a a.1 w=((i % a.2.1.length:Nat):Int):=by
 have D:=LP H (x:=(x:Int)) ⟨by omega,by omega⟩
 have hst:=H.2.2.start
 have hp:=H.2.2.pos
 intro d
 induction d with
 | zero =>
  intro i hi h
  have h1:=(D.zero (i:Int) (by omega) (by omega)).1 h
  have h1:(i:Int)=(x:Int)*(a.2.1.length:Int)+a.1:=au h1
  obtain ⟨s,hs⟩: ∃s:Nat,a.1=(s:Int):=⟨_,(Int.toNat_of_nonneg hst.1).symm⟩
  rw[hs] at h1
  have h2:i=x*a.2.1.length+s:=by exact_mod_cast h1
  have h3:i / a.2.1.length=x:=by rw[h2,Nat.mul_comm,Nat.mul_add_div hp,Nat.div_eq_of_lt (by omega)];omega
  have h4:i % a.2.1.length=s:=by rw[h2,Nat.mul_comm,Nat.mul_add_mod,Nat.mod_eq_of_lt (by omega)]
  rw[h3,h4]
  exact ⟨[],.nil x,hs⟩
 | succ d ih =>
  intro i hi h
  obtain ⟨u,u0,u1,hnx,hu⟩:=D.pred (i:Int) (by omega) (by omega) (by omega)
  obtain ⟨j,rfl⟩: ∃j:Nat,u=(j:Int):=⟨_,(Int.toNat_of_nonneg u0).symm⟩
  obtain ⟨w,hw1,hw2⟩:=ih j (by omega) (by omega)
  unfold nxN at hnx
  rw[if_pos ⟨by omega,by omega⟩] at hnx
  have hnx:(i:Int)∈nbV g a (j / a.2.1.length) (j % a.2.1.length):=hnx
  have hjx:j / a.2.1.length<g.1.length:=(Nat.div_lt_iff_lt_mul hp).2 (by rw[Nat.mul_comm];omega)
  have hjs:j % a.2.1.length<a.2.1.length:=Nat.mod_lt _ hp
  generalize j / a.2.1.length=zx at hw1 hnx hjx
  generalize j % a.2.1.length=zs at hw2 hnx hjs
  obtain ⟨y,hy,hnx⟩:=List.mem_flatMap.1 hnx
  obtain ⟨t,ht,hit⟩:=List.mem_map.1 hnx
  have hv:=H.1.val _ (bB (xs:=g.1) (i:=(zx:Int)) (by omega) (by omega))
  obtain ⟨k1,k2⟩:=pD H.1 hy
  obtain ⟨t0,q,hq,hqt⟩:=(zZ H.2.2 H.2.1 (s:=(zs:Int)) ⟨by omega,by omega⟩ hv ⟨k1.1,by omega⟩).1 ht
  obtain ⟨q0,m,hqm⟩:=(tY H.2.2 H.2.1 (s:=(zs:Int)) ⟨by omega,by omega⟩ hv).1 hq
  have hqr:=lS H.2.2 H.2.1 (ja H.2.2 H.2.1 (s:=(zs:Int)) ⟨by omega,by omega⟩ hv).2 q hq
  have htr:=(H.2.2.mv hqr.1 hqr.2 (k:=y.2.1.toNat) (by omega)).2
  obtain ⟨t',rfl⟩: ∃t':Nat,t=(t':Int):=⟨_,(Int.toNat_of_nonneg t0).symm⟩
  obtain ⟨y',hy'⟩: ∃y':Nat,y.2.2=(y':Int):=⟨_,(Int.toNat_of_nonneg k2.1).symm⟩
  have h2:i=y'*a.2.1.length+t':=by
   rw[hy'] at hit
   exact_mod_cast hit.symm
  have h3:i / a.2.1.length=y':=by rw[h2,Nat.mul_comm,Nat.mul_add_div hp,Nat.div_eq_of_lt (by omega)];omega
  have h4:i % a.2.1.length=t':=by rw[h2,Nat.mul_comm,Nat.mul_add_mod,Nat.mod_eq_of_lt (by omega)]
  refine ⟨w++(List.replicate m (6+nth g.1 (zx:Int)).toNat++ [y.2.1.toNat]),hw1.trans ((PW.tests m).trans (PW.step y hy ?_)),?_⟩
  ·rw[h3,hy'];exact .nil _
  ·rw[mM,hw2,mM]
   show mvn a (itv a (zs:Int) _ m) _=_
   rw[<-hqm,E4 q0,hqt,h4]
theorem Iq {z y:Nat} {w:List Nat} (h:PW g z y w): ∀s q:Int,(z<g.1.length/\0<=s/\s<a.2.1.length)->0<=nth (RKs g a ((x:Int)*(a.2.1.length:Int)+a.1)) ((z:Int)*(a.2.1.length:Int)+s)->q∈dq (cS a s (nth g.1 (z:Int))) 30->acn a (oG a q w)=true-> ∃s':Nat,s'<a.2.1.length/\0<=nth (RKs g a ((x:Int)*(a.2.1.length:Int)+a.1)) ((y:Int)*(a.2.1.length:Int)+(s':Int))/\ER a (s':Int) (nth g.1 (y:Int))=true:=by
 have D:=LP H (x:=(x:Int)) ⟨by omega,by omega⟩
 induction h with
 | nil z =>
  intro s q hz hR hq hac
  have hv:=H.1.val _ (bB (xs:=g.1) (i:=(z:Int)) (by omega) (by omega))
  have hqr:=lS H.2.2 H.2.1 (ja H.2.2 H.2.1 (s:=s) hz.2 hv).2 q hq
  have hs:((s.toNat:Nat):Int)=s:=Int.toNat_of_nonneg hz.2.1
  refine ⟨s.toNat,by omega,by rw[hs];exact hR,?_⟩
  unfold ER
  rw[hs]
  refine decide_eq_true ⟨q,hq,?_⟩
  have hac:acn a q=true:=hac
  unfold acn at hac
  rwa [if_neg (by omega)] at hac
 | @test z y w _ ih =>
  intro s q hz hR hq hac
  have hv:=H.1.val _ (bB (xs:=g.1) (i:=(z:Int)) (by omega) (by omega))
  have hac:acn a (oG a (mvn a q (6+nth g.1 (z:Int)).toNat) w)=true:=hac
  refine ih s _ hz hR (Mf H.2.2 H.2.1 hz.2 hv hq ?_) hac
  by_cases c:0<=mvn a q (6+nth g.1 (z:Int)).toNat
  ·exact c
  ·have:=q9 a w _ (by omega:mvn a q (6+nth g.1 (z:Int)).toNat<0)
   unfold acn at hac
   rw[if_pos this] at hac;cases hac
 | @step z y w t ht _ ih =>
  intro s q hz hR hq hac
  have hv:=H.1.val _ (bB (xs:=g.1) (i:=(z:Int)) (by omega) (by omega))
  have hqr:=lS H.2.2 H.2.1 (ja H.2.2 H.2.1 (s:=s) hz.2 hv).2 q hq
  obtain ⟨k1,k2⟩:=pD H.1 ht
  have hac:acn a (oG a (mvn a q t.2.1.toNat) w)=true:=hac
  have hpos:0<=mvn a q t.2.1.toNat:=by
   by_cases c:0<=mvn a q t.2.1.toNat
   ·exact c
   ·have:=q9 a w _ (by omega:mvn a q t.2.1.toNat<0)
    unfold acn at hac
    rw[if_pos this] at hac;cases hac
  rw[E4 hqr.1] at hac hpos
  have hlt:=(H.2.2.mv hqr.1 hqr.2 (k:=t.2.1.toNat) (by omega)).2
  obtain ⟨s1,rfl⟩: ∃s1:Nat,s=(s1:Int):=⟨_,(Int.toNat_of_nonneg hz.2.1).symm⟩
  have hb:mv a q t.2.1.toNat∈behind a (s1:Int) (nth g.1 (z:Int)) t.2.1:=(zZ H.2.2 H.2.1 hz.2 hv ⟨k1.1,by omega⟩).2 ⟨hpos,q,hq,rfl⟩
  have hzs:=cN H.1 H.2.2 H.2.1 (x:=z) (s:=s1) hz.1 (by omega)
  obtain ⟨t1,ht1⟩: ∃t1:Nat,mv a q t.2.1.toNat=(t1:Int):=⟨_,(Int.toNat_of_nonneg hpos).symm⟩
  obtain ⟨y',hy'⟩: ∃y':Nat,t.2.2=(y':Int):=⟨_,(Int.toNat_of_nonneg k2.1).symm⟩
  have hyt:=cN H.1 H.2.2 H.2.1 (x:=y') (s:=t1) (by omega) (by omega)
  have hnx:((y':Int)*(a.2.1.length:Int)+(t1:Int))∈nxN g a ((z:Int)*(a.2.1.length:Int)+(s1:Int)):=by
   have e1:(z:Int)*(a.2.1.length:Int)+(s1:Int)=((z*a.2.1.length+s1:Nat):Int):=by simp
   rw[e1]
   unfold nxN
   rw[if_pos ⟨by omega,by omega⟩]
   show _∈nbC g a (Int.toNat ((z*a.2.1.length+s1:Nat):Int))
   rw[Int.toNat_natCast,Qu H.1 H.2.2 H.2.1 (show s1<a.2.1.length by omega)]
   refine List.mem_flatMap.2 ⟨t,ht,List.mem_map.2 ⟨_,hb,?_⟩⟩
   rw[hy',ht1]
  have e1:(z:Int)*(a.2.1.length:Int)+(s1:Int)=((z*a.2.1.length+s1:Nat):Int):=by simp
  have e2:(y':Int)*(a.2.1.length:Int)+(t1:Int)=((y'*a.2.1.length+t1:Nat):Int):=by simp
  have hr2:=D.next _ _ (by rw[e1];omega) (by rw[e1];omega) (by rw[e2];omega) (by rw[e2];omega) hnx hR
  have hyn:t.2.2.toNat=y':=by omega
  rw[hyn] at ih
  have hv2:=H.1.val _ (bB (xs:=g.1) (i:=(y':Int)) (by omega) (by omega))
  rw[ht1] at hac
  exact ih (t1:Int) (t1:Int) ⟨by omega,by omega,by omega⟩ hr2.1 (Dj H.2.2 H.2.1 ⟨by omega,by omega⟩ hv2) hac
theorem wt {y:Int} :y∈Dc g a (x:Int)↔ ∃(z:Nat) (w:List Nat),y=(z:Int)/\PW g x z w/\acw a w=true:=by
 have hst:=H.2.2.start
 have hp:=H.2.2.pos
 have hrl:=GJ H (x:=(x:Int)) ⟨by omega,by omega⟩
 have D:=LP H (x:=(x:Int)) ⟨by omega,by omega⟩
 unfold Dc
 rw[jT]
 constructor
 ·rintro ⟨z,-,hb,rfl⟩
  obtain ⟨i,hi,hh,hz⟩:=(tZ _).1 ((Br H _ (aq _) z).1 hb)
  obtain rfl:z=i / a.2.1.length:=Int.ofNat_inj.1 hz
  unfold Ti at hh
  rw[ai,decide_eq_true_eq] at hh
  obtain ⟨d,hd⟩: ∃d:Nat,nth (RKs g a ((x:Int)*(a.2.1.length:Int)+a.1)) (i:Int)=(d:Int):=⟨_,(Int.toNat_of_nonneg hh.1).symm⟩
  obtain ⟨w,h1,h2⟩:=Ip H hx d i hi hd
  have hjx:i / a.2.1.length<g.1.length:=(Nat.div_lt_iff_lt_mul hp).2 (by rw[Nat.mul_comm];omega)
  have hjs:i % a.2.1.length<a.2.1.length:=Nat.mod_lt _ hp
  generalize i / a.2.1.length=zx at h1 hjx hh hb
  generalize i % a.2.1.length=zs at h2 hjs hh
  have hv:=H.1.val _ (bB (xs:=g.1) (i:=(zx:Int)) (by omega) (by omega))
  have hacc:=hh.2
  unfold ER at hacc
  obtain ⟨q,hq,hqa⟩:=of_decide_eq_true hacc
  obtain ⟨q0,m,hqm⟩:=(tY H.2.2 H.2.1 (s:=(zs:Int)) ⟨by omega,by omega⟩ hv).1 hq
  refine ⟨_,w++List.replicate m (6+nth g.1 (zx:Int)).toNat,rfl,h1.trans (PW.tests m),?_⟩
  unfold acw
  rw[mM,h2]
  show acn a (itv a _ _ m)=true
  rw[<-hqm]
  unfold acn
  rw[if_neg (by omega)];exact hqa
 ·rintro ⟨z,w,rfl,h1,h2⟩
  have hz:=h1.end_lt H.1 hx
  have hv0:=H.1.val _ (bB (xs:=g.1) (i:=(x:Int)) (by omega) (by omega))
  have h0:0<=nth (RKs g a ((x:Int)*(a.2.1.length:Int)+a.1)) ((x:Int)*(a.2.1.length:Int)+a.1):=by
   have hvi:=Ii H (x:=(x:Int)) ⟨by omega,by omega⟩
   rw[(D.zero _ hvi.1 hvi.2).2 (by simp)];omega
  obtain ⟨s',hs',hR,hA⟩:=Iq H hx h1 a.1 a.1 ⟨hx,hst.1,hst.2⟩ h0 (Dj H.2.2 H.2.1 hst hv0) h2
  have hc:=cN H.1 H.2.2 H.2.1 (x:=z) (s:=s') hz hs'
  have hn5:=H.1.n5
  have e1:(z:Int)*(a.2.1.length:Int)+(s':Int)=((z*a.2.1.length+s':Nat):Int):=by simp
  have h3:(z*a.2.1.length+s') / a.2.1.length=z:=by rw[Nat.mul_comm,Nat.mul_add_div hp,Nat.div_eq_of_lt hs'];omega
  have h4:(z*a.2.1.length+s') % a.2.1.length=s':=by rw[Nat.mul_comm,Nat.mul_add_mod,Nat.mod_eq_of_lt hs']
  refine ⟨z,by omega,(Br H _ (aq _) z).2 ((tZ _).2 ⟨z*a.2.1.length+s',hc,?_,by rw[h3]⟩),rfl⟩
  unfold Ti
  rw[h3,h4,hA,Bool.and_true]
  rw[e1] at hR
  exact decide_eq_true hR
end
end D
namespace D
open Go.RowKit
theorem Mg {l:List Pr} (h:InR l):dJ l=some true:=by
 have hlen:=h.len
 have ok: ∀i (hi:i<l.length),(0<=l[i].1/\l[i].1<=4)/\0<=l[i].2/\l[i].2<=4:=fun i hi=>by
  have:=h.rng _ (List.getElem_mem hi);omega
 have:=aL (f:=cC l) (fun i=>(i:Int)) l.length (fun i hi=>by
  obtain ⟨⟨c1,c2⟩,c3,c4⟩:=ok i hi
  unfold cC bq
  rw[eN hi,if_pos rfl,aW hi,ak (by omega)]
  have c1:l[i].1≥0:=c1
  have c3:l[i].2≥0:=c3
  by_cases c5:(i:Int)>0
  ·have hp:IntKind.i64.wrap ((i:Int) - 1)=((i - 1:Nat):Int):=by rw[bQ (by omega) (by omega)];omega
   obtain ⟨r,er,hr⟩:=SL l[i - 1] l[i]
   have hlt:ltP l[i - 1] l[i]:=(List.pairwise_iff_getElem.1 h.str) (i - 1) i (by omega) hi (by omega)
   have hr':decide (r≥0)=false:=decide_eq_false fun c=>(hr.1 c) hlt
   simp only[aa,c1,c2,c3,c4,c5,decide_true,if_true,hp,aW (show i - 1<l.length by omega),kl,er,hr',Bool.false_eq_true,if_false]
  ·simp only[aa,c1,c2,c3,c4,c5,decide_true,if_true,decide_false,Bool.false_eq_true,if_false]) (by
  unfold cC
  rw[eU];rfl) (gD (by omega))
 have this:aC (cC l) aP 0=_:=this
 unfold dJ
 exact ah this
theorem Dk {l:List Pr} (h:InR l):fL l=some true:=Bc.trans (Mg h)
theorem PW.nil_iff {g:GrT} {i j:Nat} :PW g i j [] ↔i=j:=⟨fun h=>by cases h;rfl,fun h=>by subst h;exact .nil _⟩
theorem PW.cons_iff {g:GrT} {i j k:Nat} {w:List Nat} :PW g i j (k::w)↔(k=(6+nth g.1 (i:Int)).toNat/\PW g i j w)\/ ∃z∈arcL g.2 i,k=z.2.1.toNat/\PW g z.2.2.toNat j w:=by
 constructor
 ·intro h
  cases h with
  | test h=>exact .inl ⟨rfl,h⟩
  | step z hz h=>exact .inr ⟨z,hz,rfl,h⟩
 ·rintro (⟨rfl,h⟩ | ⟨z,hz,rfl,h⟩)
  ·exact h.test
  ·exact h.step z hz
theorem PW.split {g:GrT} {j:Nat} {v:List Nat} : ∀ {u:List Nat} {i:Nat},PW g i j (u++v)-> ∃z,PW g i z u/\PW g z j v
 | [],i,h=>⟨i,.nil i,h⟩
 | k::u,i,h=>by
  rcases PW.cons_iff.1 h with ⟨h1,h2⟩ | ⟨z,hz,h1,h2⟩
  ·obtain ⟨y,h3,h4⟩:=PW.split h2
   exact ⟨y,PW.cons_iff.2 (.inl ⟨h1,h3⟩),h4⟩
  ·obtain ⟨y,h3,h4⟩:=PW.split h2
   exact ⟨y,PW.cons_iff.2 (.inr ⟨z,hz,h1,h3⟩),h4⟩
def qx (g:GrT) (A:Lg) (r:List Pr):Prop:= ∀p:Pr,p∈r↔ ∃(i j:Nat) (w:List Nat),p=((i:Int),(j:Int))/\i<g.1.length/\PW g i j w/\A w
section
variable {g:GrT} (G:GOk g)
include G
theorem QJ:qx g (fun w=>w= []) (idR g.1.length):=fun p=>by
 rw[xV]
 constructor
 ·rintro ⟨h1,h2,h3⟩
  obtain ⟨i,hi⟩: ∃i:Nat,p.1=(i:Int):=⟨_,(Int.toNat_of_nonneg h2).symm⟩
  exact ⟨i,i,[],Prod.ext hi (by rw[<-h1];exact hi),by omega,.nil i,rfl⟩
 ·rintro ⟨i,j,w,rfl,h1,h2,rfl⟩
  obtain rfl:=PW.nil_iff.1 h2
  exact ⟨rfl,by show (0:Int)<=(i:Int);omega,by show (i:Int)<_;omega⟩
theorem Ts {c:Int} (hc:0<=c/\c<=8):qx g (fun w=>w= [c.toNat]) (Qr g c):=fun p=>by
 unfold Qr
 rw[ji,ji,tT,List.mem_flatMap]
 constructor
 ·rintro ((h | ⟨i,h1,h2,rfl⟩) | ⟨ed,hed,h⟩)
  ·cases h
  ·unfold xX at h2
   have h2:=of_decide_eq_true h2
   refine ⟨i,i,[c.toNat],rfl,h1,PW.cons_iff.2 (.inl ⟨by omega,.nil i⟩),rfl⟩
  ·have hg:=G.edge ed hed
   rcases xZ.1 h with ⟨e,rfl⟩ | ⟨e,rfl⟩
   ·have h1:((ed.2.1.toNat:Nat):Int)=ed.2.1:=by omega
    have h2:((ed.2.2.1.toNat:Nat):Int)=ed.2.2.1:=by omega
    refine ⟨ed.2.1.toNat,ed.2.2.1.toNat,[c.toNat],by rw[h1,h2],by omega,PW.cons_iff.2 (.inr ⟨fwd ed,List.mem_flatMap.2 ⟨ed,hed,?_⟩,?_,?_⟩),rfl⟩
    ·unfold GB
     rw[if_pos h1.symm]
     exact List.mem_append.2 (.inl (List.mem_singleton.2 rfl))
    ·rw[<-e];rfl
    ·exact .nil _
   ·have h1:((ed.2.1.toNat:Nat):Int)=ed.2.1:=by omega
    have h2:((ed.2.2.1.toNat:Nat):Int)=ed.2.2.1:=by omega
    refine ⟨ed.2.2.1.toNat,ed.2.1.toNat,[c.toNat],by rw[h1,h2],by omega,PW.cons_iff.2 (.inr ⟨inv ed,List.mem_flatMap.2 ⟨ed,hed,?_⟩,?_,?_⟩),rfl⟩
    ·unfold GB
     rw[if_pos (c:=ed.2.2.1=_) h2.symm]
     exact List.mem_append.2 (.inr (List.mem_singleton.2 rfl))
    ·rw[<-e];rfl
    ·exact .nil _
 ·rintro ⟨i,j,w,rfl,hi,h,rfl⟩
  rcases PW.cons_iff.1 h with ⟨h1,h2⟩ | ⟨z,hz,h1,h2⟩
  ·obtain rfl:=PW.nil_iff.1 h2
   have hv:=G.val _ (bB (xs:=g.1) (i:=(i:Int)) (by omega) (by omega))
   exact .inl (.inr ⟨i,hi,by unfold xX;exact decide_eq_true (by omega),rfl⟩)
  ·have hj:=PW.nil_iff.1 h2
   obtain ⟨k1,k2⟩:=pD G hz
   obtain ⟨ed,hed,hy⟩:=List.mem_flatMap.1 hz
   have hg:=G.edge ed hed
   refine .inr ⟨ed,hed,xZ.2 ?_⟩
   unfold GB at hy
   rcases aI hy with hy | hy <;> split at hy
   ·rename_i hf
    obtain rfl:=au hy
    have h3:(fwd ed).2.1=2*ed.2.2.2:=rfl
    have h4:(fwd ed).2.2=ed.2.2.1:=rfl
    refine .inl ⟨by omega,?_⟩
    rw[hf]
    refine Prod.ext rfl ?_
    show (j:Int)=ed.2.2.1
    omega
   ·cases hy
   ·rename_i hf
    obtain rfl:=au hy
    have h3:(inv ed).2.1=2*ed.2.2.2+1:=rfl
    have h4:(inv ed).2.2=ed.2.1:=rfl
    refine .inr ⟨by omega,?_⟩
    rw[hf]
    refine Prod.ext rfl ?_
    show (j:Int)=ed.2.1
    omega
   ·cases hy
theorem Mh {A B:Lg} {a b:List Pr} (ha:qx g A a) (hb:qx g B b):qx g (yA A B) (Qp a b):=fun p=>by
 rw[wc]
 constructor
 ·rintro ⟨z,h1,h2⟩
  obtain ⟨i,j,u,e1,h3,h4,h5⟩:=(ha _).1 h1
  obtain ⟨i',j',v,e2,h6,h7,h8⟩:=(hb _).1 h2
  have e3:p.1=(i:Int):=congrArg Prod.fst e1
  have e4:z=(j:Int):=congrArg Prod.snd e1
  have e5:z=(i':Int):=congrArg Prod.fst e2
  have e6:p.2=(j':Int):=congrArg Prod.snd e2
  obtain rfl:j=i':=by omega
  exact ⟨i,j',u++v,Prod.ext e3 e6,h3,h4.trans h7,u,v,rfl,h5,h8⟩
 ·rintro ⟨i,j,w,rfl,h1,h2,u,v,rfl,h3,h4⟩
  obtain ⟨z,h5,h6⟩:=h2.split
  exact ⟨(z:Int),(ha _).2 ⟨i,z,u,rfl,h1,h5,h3⟩,(hb _).2 ⟨z,j,v,rfl,h5.end_lt G h1,h6,h4⟩⟩
theorem Tt {A B:Lg} {a b:List Pr} (ha:qx g A a) (hb:qx g B b):qx g (fun w=>A w\/B w) (T1 a b):=fun p=>by
 rw[Bi]
 constructor
 ·rintro (h | h)
  ·obtain ⟨i,j,u,e1,h3,h4,h5⟩:=(ha _).1 h
   exact ⟨i,j,u,e1,h3,h4,.inl h5⟩
  ·obtain ⟨i,j,u,e1,h3,h4,h5⟩:=(hb _).1 h
   exact ⟨i,j,u,e1,h3,h4,.inr h5⟩
 ·rintro ⟨i,j,w,e1,h1,h2,h3 | h3⟩
  ·exact .inl ((ha _).2 ⟨i,j,w,e1,h1,h2,h3⟩)
  ·exact .inr ((hb _).2 ⟨i,j,w,e1,h1,h2,h3⟩)
end
def Ph (n:Nat) (l:List Pr):Nat->List Pr
 | 0=>idR n
 | k+1=>Qp (Ph n l k) l
theorem Mi {n:Nat} {l:List Pr} (hn:n<=5) (hl:InR l): ∀k,InR (Ph n l k)
 | 0=>zO hn
 | k+1=>qu (Mi hn hl k) hl
theorem Ir {A B C:Lg} :yA (yA A B) C=yA A (yA B C):=by
 funext w
 apply propext
 constructor
 ·rintro ⟨x,y,rfl,⟨u,v,rfl,h1,h2⟩,h3⟩
  exact ⟨u,v++y,by simp,h1,v,y,rfl,h2,h3⟩
 ·rintro ⟨x,y,rfl,h1,u,v,rfl,h2,h3⟩
  exact ⟨x++u,v,by simp,⟨x,u,rfl,h1,h2⟩,h3⟩
theorem Pi {A:Lg} :yA A (fun w=>w= [])=A:=by
 funext w
 apply propext
 constructor
 ·rintro ⟨u,v,rfl,h1,rfl⟩
  rw[List.append_nil];exact h1
 ·intro h
  exact ⟨w,[],by simp,h,rfl⟩
theorem Pj {A:Lg} :yA (fun w=>w= []) A=A:=by
 funext w
 apply propext
 constructor
 ·rintro ⟨u,v,rfl,rfl,h1⟩
  exact h1
 ·intro h
  exact ⟨[],w,rfl,rfl,h⟩
theorem Dl {A:Lg} : ∀n,IC A (n+1)=yA (IC A n) A
 | 0=>by
  show yA A (fun w=>w= [])=yA (fun w=>w= []) A
  rw[Pi,Pj]
 | n+1=>by
  show yA A (IC A (n+1))=yA (yA A (IC A n)) A
  rw[Dl n,Ir]
section
variable {g:GrT} (G:GOk g) {A:Lg} {l:List Pr} (hl:InR l) (hA:qx g A l)
include G hl hA
omit hl in
theorem yo: ∀k,qx g (IC A k) (Ph g.1.length l k)
 | 0=>QJ G
 | k+1=>by
  rw[Dl]
  exact Mh G (yo k) hA
omit hl hA in
theorem yp {p:Pr} : ∀k,p∈kZ g.1.length l k↔ ∃j,j<=k/\p∈Ph g.1.length l j
 | 0=>by
  show p∈idR _↔_
  constructor
  ·intro h;exact ⟨0,aq _,h⟩
  ·rintro ⟨j,hj,h⟩
   obtain rfl:j=0:=by omega
   exact h
 | k+1=>by
  rw[nv,yp k]
  constructor
  ·rintro (⟨j,h1,h2⟩ | ⟨z,h1,h2⟩)
   ·exact ⟨j,by omega,h2⟩
   ·obtain ⟨j,h3,h4⟩:=(yp (p:=(p.1,z)) k).1 h1
    exact ⟨j+1,by omega,wc.2 ⟨z,h4,h2⟩⟩
  ·rintro ⟨j,h1,h2⟩
   match j,h1,h2 with
   | 0,_,h2=>exact .inl ⟨0,by omega,h2⟩
   | j+1,h1,h2 =>
    obtain ⟨z,h3,h4⟩:=wc.1 h2
    exact .inr ⟨z,(yp (p:=(p.1,z)) k).2 ⟨j,by omega,h3⟩,h4⟩
theorem Tu:qx g (Ij A) (kZ g.1.length l 5):=fun p=>by
 have hn:=G.n5
 constructor
 ·intro h
  obtain ⟨j,-,h2⟩:=(yp G 5).1 h
  obtain ⟨i,z,w,e,h3,h4,h5⟩:=(yo G hA j p).1 h2
  exact ⟨i,z,w,e,h3,h4,j,h5⟩
 ·rintro ⟨i,z,w,e,h3,h4,j,h5⟩
  have h6:=(yp G (5+j)).2 ⟨j,by omega,(yo G hA j p).2 ⟨i,z,w,e,h3,h4,h5⟩⟩
  have h7:kZ g.1.length l (5+1)=kZ g.1.length l 5:=by
   have h8:=GG hn hl
   have:kZ g.1.length l (4+1)=kZ g.1.length l 4:=h8
   have h9:=we this 2
   rw[show 4+2=5+1 from rfl] at h9
   rw[h9,<-h8]
  rwa [we h7 j] at h6
theorem VL:cY (g.1.length:Int) l=some (kZ g.1.length l 5):=by
 have hn:=G.n5
 have h1:=G.n1
 unfold cY
 rw[IA];simp only[aa]
 rw[if_pos (by simp;omega),Dk hl];simp only[aa,if_true]
 rw[T2 hn];simp only[aa]
 rw[ah (Lx hn hl)]
theorem VM {low high:Int} (hh:0<=high/\high<=3) (hw:0<=low): ∃r,dL (g.1.length:Int) l low high=some r/\InR r/\qx g (fun w=> ∃n:Nat,low<=(n:Int)/\(n:Int)<=high/\IC A n w) r:=by
 have hn:=G.n5
 have h1:=G.n1
 have hlen:=hl.len
 unfold dL
 have hnn:decide (1<=(g.1.length:Int)/\(g.1.length:Int)<=5)=true:=decide_eq_true ⟨by omega,by omega⟩
 have hh':decide (0<=high/\high<=3)=true:=decide_eq_true hh
 have hlo:decide (low<0)=false:=decide_eq_false (by omega)
 simp only[IA,aa,hnn,if_true,Dk hl,hh',hlo,Bool.false_eq_true,if_false]
 rw[T2 hn];simp only[aa]
 obtain ⟨s',e,i1,i2,i3,i4⟩:=dD (f:=bm l low high) (fun i (s:List Pr×List Pr×Int)=>InR s.1/\s.2.1=Ph g.1.length l i/\s.2.2=(i:Int)/\ ∀p,p∈s.1↔ ∃k:Nat,k<i/\low<=(k:Int)/\p∈Ph g.1.length l k) (high.toNat+1) (by
  rintro i ⟨o,x,k⟩ hi ⟨h1,h2,h3,h4⟩
  have h2:x=Ph g.1.length l i:=h2
  have h3:k=(i:Int):=h3
  have h4: ∀p,p∈o↔ ∃k:Nat,k<i/\low<=(k:Int)/\p∈Ph g.1.length l k:=h4
  have h1:InR o:=h1
  subst h2;subst h3
  have hx:=Mi hn hl i
  have l1:o.length<=25:=h1.len
  have l2:=hx.len
  unfold bm
  simp only
  rw[if_pos (decide_eq_true (show (i:Int)<=high by omega)),Lu (by omega) (by omega),ak (show i<9223372036854775807 by omega)]
  rw[xP (a:=o) (by omega) (by omega)]
  by_cases d:(i:Int)≥low
  ·simp only[decide_eq_true d,if_true,aa]
   refine ⟨_,rfl,xU h1 hx,rfl,rfl,fun p=>?_⟩
   show p∈T1 o (Ph g.1.length l i)↔_
   rw[Bi,h4]
   constructor
   ·rintro (⟨k,h5,h6⟩ | h5)
    ·exact ⟨k,by omega,h6⟩
    ·exact ⟨i,by omega,d,h5⟩
   ·rintro ⟨k,h5,h6,h7⟩
    by_cases c:k=i
    ·subst c;exact .inr h7
    ·exact .inl ⟨k,by omega,h6,h7⟩
  ·simp only[decide_eq_false d,Bool.false_eq_true,if_false,aa]
   refine ⟨_,rfl,h1,rfl,rfl,fun p=>?_⟩
   show p∈o↔_
   rw[h4]
   constructor
   ·rintro ⟨k,h5,h6⟩
    exact ⟨k,by omega,h6⟩
   ·rintro ⟨k,h5,h6,h7⟩
    have:k≠i:=by rintro rfl;omega
    exact ⟨k,by omega,h6,h7⟩) (by
  rintro ⟨o,x,k⟩ ⟨h1,h2,h3,h4⟩
  have h3:k=((high.toNat+1:Nat):Int):=h3
  unfold bm
  simp only
  rw[if_neg (by simp;omega)]) (s:=(([] :List Pr),idR g.1.length,(0:Int))) ⟨InR.nil,rfl,rfl,fun p=>by simp⟩ (gD (by omega))
 rw[ah e]
 refine ⟨_,rfl,i1,fun p=>?_⟩
 rw[i4]
 constructor
 ·rintro ⟨k,h5,h6,h7⟩
  obtain ⟨i,z,w,e,h8,h9,h10⟩:=(yo G hA k p).1 h7
  exact ⟨i,z,w,e,h8,h9,k,h6,by omega,h10⟩
 ·rintro ⟨i,z,w,e,h8,h9,k,h5,h6,h10⟩
  exact ⟨k,by omega,h5,(yo G hA k p).2 ⟨i,z,w,e,h8,h9,h10⟩⟩
end
section
variable {g:GrT} (G:GOk g) (hi:aQ g=some true) (hs:a6 g=some true)
include G hi hs
theorem Pm {x:Tr Tok} (h:WT x): ∀m,(flat x).length<=m->(flat x).length<=1000000-> ∃r,bP m g (flat x)=some r/\InR r/\qx g (LX x) r:=by
 refine WT.ind (p:=fun x=> ∀m,(flat x).length<=m->(flat x).length<=1000000-> ∃r,bP m g (flat x)=some r/\InR r/\qx g (LX x) r) ?_ ?_ ?_ h
 ·intro t e m hm hl
  rw[sy] at hm hl⊢
  match m,hm with
  | m+1,_ =>
   rw[bP]
   have:=(ep (A:=[]) (t:=t) (by simp)).1
   rw[List.nil_append] at this
   rw[this];simp only[aa,kl]
   rcases fJ (show 0<=ar t by omega) with ⟨e',k⟩ | ⟨e',k⟩ | ⟨_,k | k | k⟩
   ·omega
   ·omega
   ·simp only[k,Int.reduceBEq,Bool.false_eq_true,if_false]
    refine ⟨[],rfl,InR.nil,fun p=>?_⟩
    rw[LX0];simp[opL,k]
   ·simp only[k,Int.reduceBEq,if_true]
    rw[T2 G.n5]
    have:LX (.node t [])=fun w=>w= []:=by
     funext w;rw[LX0];simp[opL,k]
    rw[this]
    exact ⟨_,rfl,zO G.n5,QJ G⟩
   ·have hc:=Qx (show 0<=ar t by omega) k
    simp only[k,Int.reduceBEq,if_true,Bool.false_eq_true,if_false]
    rw[Vh G hi hs hc]
    have:LX (.node t [])=fun w=>w= [t.2.1.toNat]:=by
     funext w;rw[LX0];simp[opL,k]
    rw[this]
    exact ⟨_,rfl,Qs G hi hs hc,Ts G hc⟩
 ·intro t a e wa ih m hm hl
  rw[rj] at hm hl⊢
  simp only[af,al,az] at hm hl
  match m,hm with
  | m+1,hm =>
   obtain ⟨ra,sa,ha,hA⟩:=ih m (by omega) (by omega)
   rw[bP]
   obtain ⟨l1,l2⟩:=ep (A:=flat a) (t:=t) (by omega)
   rw[l1,l2,Int.toNat_natCast,List.take_left];simp only[aa,kl]
   rw[sa];simp only[aa]
   rw[dX (by simp only[af,al,az];omega)];simp only[aa]
   rcases fJ (show 0<=ar t by omega) with ⟨e',k⟩ | ⟨_,k | k⟩ | ⟨e',k⟩
   ·omega
   ·simp only[k,Int.reduceBEq,if_true,Bool.false_eq_true,if_false]
    rw[VL G ha hA]
    have:LX (.node t [a])=Ij (LX a):=by
     funext w;rw[LX1];simp[opL,k]
    rw[this]
    exact ⟨_,rfl,jq G.n5 ha 5,Tu G ha hA⟩
   ·have h7:=rG (show 0<=ar t by omega) k
    simp only[k,Int.reduceBEq,if_true,Bool.false_eq_true,if_false]
    obtain ⟨r,e1,hr,hR⟩:=VM G ha hA (low:=t.2.2.1) (high:=t.2.2.2) ⟨by omega,by omega⟩ h7.1.1
    rw[e1]
    have:LX (.node t [a])=fun w=> ∃n:Nat,t.2.2.1<=(n:Int)/\(n:Int)<=t.2.2.2/\IC (LX a) n w:=by
     funext w;rw[LX1];simp[opL,k]
    rw[this]
    exact ⟨r,rfl,hr,hR⟩
   ·omega
 ·intro t a b e wa wb iha ihb m hm hl
  rw[lC] at hm hl⊢
  obtain ⟨p1,p2,p3,p4⟩:=oB (a:=a) (t:=t) wb hl
  simp only[af,al,az] at hm hl
  match m,hm with
  | m+1,hm =>
   obtain ⟨ra,sa,ha,hA⟩:=iha m (by omega) (by omega)
   obtain ⟨rb,sb,hb,hB⟩:=ihb m (by have:=wa.pos;omega) (by omega)
   have la:=ha.len
   have lb:=hb.len
   rw[bP]
   obtain ⟨l1,l2⟩:=ep (A:=flat a++flat b) (t:=t) (by rw[af];omega)
   rw[l1,l2,p1];simp only[aa,kl]
   rw[p2,dX (by simp only[af,al,az];omega)];simp only[aa]
   rw[dX (by simp only[af,al,az];omega),p3,p4];simp only[aa]
   rw[sa,sb];simp only[aa]
   rw[dX (by simp only[af,al,az];omega)];simp only[aa]
   rcases fJ (show 0<=ar t by omega) with ⟨_,k | k⟩ | ⟨e',k⟩ | ⟨e',k⟩
   ·simp only[k,Int.reduceBEq,if_true,Bool.false_eq_true,if_false]
    rw[Lu (by omega) (by omega)]
    have:LX (.node t [a,b])=yA (LX a) (LX b):=by
     funext w;rw[LX2];simp[opL,k]
    rw[this]
    exact ⟨_,rfl,qu ha hb,Mh G hA hB⟩
   ·simp only[k,Int.reduceBEq,if_true,Bool.false_eq_true,if_false]
    rw[xP (by omega) (by omega)]
    have:LX (.node t [a,b])=fun w=>LX a w\/LX b w:=by
     funext w;rw[LX2];simp[opL,k]
    rw[this]
    exact ⟨_,rfl,xU ha hb,Tt G hA hB⟩
   ·omega
   ·omega
end
end D
namespace D
open Go.RowKit
inductive Pth (F:Nat->Nat->Prop) (lt:Nat->Nat) (la:Nat->Prop):Nat->List Nat->Prop
 | last {i:Nat} :la i->Pth F lt la i [lt i]
 | cons {i j:Nat} {w:List Nat} :F i j->Pth F lt la j w->Pth F lt la i (lt i::w)
def GL (nu:Prop) (fi la:Nat->Prop) (F:Nat->Nat->Prop) (lt:Nat->Nat):Lg:=fun w=>(nu/\w= [])\/ ∃i,fi i/\Pth F lt la i w
theorem Pth.ne {F:Nat->Nat->Prop} {lt:Nat->Nat} {la:Nat->Prop} {i:Nat} {w:List Nat} (h:Pth F lt la i w):w≠ []:=by cases h <;> simp
theorem Pth.iff {F:Nat->Nat->Prop} {lt:Nat->Nat} {la:Nat->Prop} {i k:Nat} {w:List Nat} :Pth F lt la i (k::w)↔lt i=k/\((w= [] /\la i)\/ ∃j,F i j/\Pth F lt la j w):=by
 constructor
 ·intro h
  cases h with
  | last h=>exact ⟨rfl,.inl ⟨rfl,h⟩⟩
  | cons h1 h2=>exact ⟨rfl,.inr ⟨_,h1,h2⟩⟩
 ·rintro ⟨rfl,⟨rfl,h⟩ | ⟨j,h1,h2⟩⟩
  ·exact .last h
  ·exact .cons h1 h2
theorem Pth.sim {F F':Nat->Nat->Prop} {lt lt':Nat->Nat} {la la' S:Nat->Prop} {i:Nat} {w:List Nat} (h:Pth F lt la i w) (hF: ∀i j,S i->F i j->F' i j/\S j) (hl: ∀i,S i->la i->la' i) (ht: ∀i,S i->lt i=lt' i):S i->Pth F' lt' la' i w:=by
 induction h with
 | last h=>intro hs;rw[ht _ hs];exact .last (hl _ hs h)
 | cons h1 _ ih =>
  intro hs
  rw[ht _ hs]
  obtain ⟨h2,h3⟩:=hF _ _ hs h1
  exact .cons h2 (ih h3)
structure Two (SA SB:Nat->Prop) (F FA FB:Nat->Nat->Prop) (lt ltA ltB:Nat->Nat) (fiA fiB laA laB:Nat->Prop):Prop where
 ca: ∀i j,SA i->FA i j->SA j
 cb: ∀i j,SB i->FB i j->SB j
 fa: ∀i,fiA i->SA i
 fb: ∀i,fiB i->SB i
 ta: ∀i,SA i->lt i=ltA i
 tb: ∀i,SB i->lt i=ltB i
section
variable {SA SB:Nat->Prop} {F FA FB:Nat->Nat->Prop} {lt ltA ltB:Nat->Nat} {fi la fiA fiB laA laB:Nat->Prop} {nuA nuB:Prop} (T:Two SA SB F FA FB lt ltA ltB fiA fiB laA laB) (hB: ∀i j,SB i->(F i j↔FB i j)) (lB: ∀i,SB i->(la i↔laB i))
include T hB lB
theorem Two.inB {i:Nat} {w:List Nat} (hi:SB i):Pth F lt la i w↔Pth FB ltB laB i w:=
 ⟨fun h=>h.sim (S:=SB) (fun i j hs hf=>⟨(hB i j hs).1 hf,T.cb i j hs ((hB i j hs).1 hf)⟩) (fun i hs hl=>(lB i hs).1 hl) (fun i hs=>T.tb i hs) hi,fun h=>h.sim (S:=SB) (fun i j hs hf=>⟨(hB i j hs).2 hf,T.cb i j hs hf⟩) (fun i hs hl=>(lB i hs).2 hl) (fun i hs=>(T.tb i hs).symm) hi⟩
theorem Two.split (hA: ∀i j,SA i->(F i j↔FA i j\/(laA i/\fiB j))) (lA: ∀i,SA i->(la i↔nuB/\laA i)) {i:Nat} {w:List Nat} (h:Pth F lt la i w):SA i->(nuB/\Pth FA ltA laA i w)\/ ∃u v j,w=u++v/\Pth FA ltA laA i u/\fiB j/\Pth FB ltB laB j v:=by
 induction h with
 | @last i h =>
  intro hs
  obtain ⟨h1,h2⟩:=(lA i hs).1 h
  rw[T.ta i hs]
  exact .inl ⟨h1,.last h2⟩
 | @cons i j w h k ih =>
  intro hs
  rw[T.ta i hs]
  rcases (hA i j hs).1 h with h1 | ⟨h1,h2⟩
  ·rcases ih (T.ca i j hs h1) with ⟨h3,h4⟩ | ⟨u,v,j',rfl,h3,h4,h5⟩
   ·exact .inl ⟨h3,.cons h1 h4⟩
   ·exact .inr ⟨ltA i::u,v,j',rfl,.cons h1 h3,h4,h5⟩
  ·exact .inr ⟨[ltA i],w,j,rfl,.last h1,h2,(T.inB hB lB (T.fb j h2)).1 k⟩
theorem Two.join (hA: ∀i j,SA i->(F i j↔FA i j\/(laA i/\fiB j))) {i:Nat} {u v:List Nat} (h:Pth FA ltA laA i u) {j:Nat} (hj:fiB j) (k:Pth FB ltB laB j v):SA i->Pth F lt la i (u++v):=by
 induction h with
 | @last i h =>
  intro hs
  rw[<-T.ta i hs]
  exact .cons ((hA i j hs).2 (.inr ⟨h,hj⟩)) ((T.inB hB lB (T.fb j hj)).2 k)
 | @cons i j' w h _ ih =>
  intro hs
  rw[<-T.ta i hs]
  exact .cons ((hA i j' hs).2 (.inl h)) (ih (T.ca i j' hs h))
theorem VN (hA: ∀i j,SA i->(F i j↔FA i j\/(laA i/\fiB j))) (lA: ∀i,SA i->(la i↔nuB/\laA i)) (hf: ∀i,fi i↔fiA i\/(nuA/\fiB i)) {w:List Nat} :GL (nuA/\nuB) fi la F lt w↔yA (GL nuA fiA laA FA ltA) (GL nuB fiB laB FB ltB) w:=by
 constructor
 ·rintro (⟨⟨h1,h2⟩,rfl⟩ | ⟨i,h1,h2⟩)
  ·exact ⟨[],[],rfl,.inl ⟨h1,rfl⟩,.inl ⟨h2,rfl⟩⟩
  ·rcases (hf i).1 h1 with h3 | ⟨h3,h4⟩
   ·rcases T.split hB lB hA lA h2 (T.fa i h3) with ⟨h4,h5⟩ | ⟨u,v,j,rfl,h4,h5,h6⟩
    ·exact ⟨w,[],by simp,.inr ⟨i,h3,h5⟩,.inl ⟨h4,rfl⟩⟩
    ·exact ⟨u,v,rfl,.inr ⟨i,h3,h4⟩,.inr ⟨j,h5,h6⟩⟩
   ·exact ⟨[],w,rfl,.inl ⟨h3,rfl⟩,.inr ⟨i,h4,(T.inB hB lB (T.fb i h4)).1 h2⟩⟩
 ·rintro ⟨u,v,rfl,⟨h1,rfl⟩ | ⟨i,h1,h2⟩,⟨h3,rfl⟩ | ⟨j,h3,h4⟩⟩
  ·exact .inl ⟨⟨h1,h3⟩,rfl⟩
  ·exact .inr ⟨j,(hf j).2 (.inr ⟨h1,h3⟩),(T.inB hB lB (T.fb j h3)).2 h4⟩
  ·rw[List.append_nil]
   refine .inr ⟨i,(hf i).2 (.inl h1),h2.sim (S:=SA) (fun a b hs hf=>⟨(hA a b hs).2 (.inl hf),T.ca a b hs hf⟩) (fun a hs hl=>(lA a hs).2 ⟨h3,hl⟩) (fun a hs=>(T.ta a hs).symm) (T.fa i h1)⟩
  ·exact .inr ⟨i,(hf i).2 (.inl h1),T.join hB lB hA h2 h3 h4 (T.fa i h1)⟩
theorem VO (hA: ∀i j,SA i->(F i j↔FA i j)) (lA: ∀i,SA i->(la i↔laA i)) (hf: ∀i,fi i↔fiA i\/fiB i) {w:List Nat} :GL (nuA\/nuB) fi la F lt w↔GL nuA fiA laA FA ltA w\/GL nuB fiB laB FB ltB w:=by
 have iA: ∀ {i w},SA i->(Pth F lt la i w↔Pth FA ltA laA i w):=fun hi =>
  ⟨fun h=>h.sim (S:=SA) (fun i j hs hf=>⟨(hA i j hs).1 hf,T.ca i j hs ((hA i j hs).1 hf)⟩) (fun i hs hl=>(lA i hs).1 hl) (fun i hs=>T.ta i hs) hi,fun h=>h.sim (S:=SA) (fun i j hs hf=>⟨(hA i j hs).2 hf,T.ca i j hs hf⟩) (fun i hs hl=>(lA i hs).2 hl) (fun i hs=>(T.ta i hs).symm) hi⟩
 constructor
 ·rintro (⟨h1 | h1,h2⟩ | ⟨i,h1,h2⟩)
  ·exact .inl (.inl ⟨h1,h2⟩)
  ·exact .inr (.inl ⟨h1,h2⟩)
  ·rcases (hf i).1 h1 with h3 | h3
   ·exact .inl (.inr ⟨i,h3,(iA (T.fa i h3)).1 h2⟩)
   ·exact .inr (.inr ⟨i,h3,(T.inB hB lB (T.fb i h3)).1 h2⟩)
 ·rintro ((⟨h1,h2⟩ | ⟨i,h1,h2⟩) | ⟨h1,h2⟩ | ⟨i,h1,h2⟩)
  ·exact .inl ⟨.inl h1,h2⟩
  ·exact .inr ⟨i,(hf i).2 (.inl h1),(iA (T.fa i h1)).2 h2⟩
  ·exact .inl ⟨.inr h1,h2⟩
  ·exact .inr ⟨i,(hf i).2 (.inr h1),(T.inB hB lB (T.fb i h1)).2 h2⟩
end
theorem Tv {F F':Nat->Nat->Prop} {lt:Nat->Nat} {fi la S:Nat->Prop} {nu:Prop} (hF: ∀i j,S i->(F' i j↔F i j\/(la i/\fi j))) (hc: ∀i j,S i->F i j->S j) (hf: ∀i,fi i->S i) {w:List Nat} :GL True fi la F' lt w↔Ij (GL nu fi la F lt) w:=by
 have one: ∀ {i w},Pth F' lt la i w->S i-> ∃u v,w=u++v/\Pth F lt la i u/\Ij (GL nu fi la F lt) v:=by
  intro i w h
  induction h with
  | @last i h=>intro _;exact ⟨[lt i],[],rfl,.last h,0,rfl⟩
  | @cons i j w h _ ih =>
   intro hs
   rcases (hF i j hs).1 h with h1 | ⟨h1,h2⟩
   ·obtain ⟨u,v,rfl,h3,h4⟩:=ih (hc i j hs h1)
    exact ⟨lt i::u,v,rfl,.cons h1 h3,h4⟩
   ·obtain ⟨u,v,rfl,h3,n,h4⟩:=ih (hf j h2)
    exact ⟨[lt i],u++v,rfl,.last h1,n+1,u,v,rfl,.inr ⟨j,h2,h3⟩,h4⟩
 have two: ∀ {i u},Pth F lt la i u->S i-> ∀ {v},GL True fi la F' lt v->Pth F' lt la i (u++v):=by
  intro i u h
  induction h with
  | @last i h =>
   rintro hs v (⟨-,rfl⟩ | ⟨j,h1,h2⟩)
   ·exact .last h
   ·exact .cons ((hF i j hs).2 (.inr ⟨h,h1⟩)) h2
  | @cons i j w h _ ih =>
   intro hs v hv
   exact .cons ((hF i j hs).2 (.inl h)) (ih (hc i j hs h) hv)
 constructor
 ·rintro (⟨-,rfl⟩ | ⟨i,h1,h2⟩)
  ·exact ⟨0,rfl⟩
  ·obtain ⟨u,v,rfl,h3,n,h4⟩:=one h2 (hf i h1)
   exact ⟨n+1,u,v,rfl,.inr ⟨i,h1,h3⟩,h4⟩
 ·rintro ⟨n,h⟩
  induction n generalizing w with
  | zero=>obtain rfl:w= []:=h;exact .inl ⟨trivial,rfl⟩
  | succ n ih =>
   obtain ⟨u,v,rfl,h1,h2⟩:=h
   have h3:=ih h2
   rcases h1 with ⟨-,rfl⟩ | ⟨i,h4,h5⟩
   ·exact h3
   ·exact .inr ⟨i,h4,two h5 (hf i h4) h3⟩
end D
namespace D
open Go.RowKit
abbrev PosT:=(List Int)×Int×Int×(List Int)×Bool
abbrev vJ (x:Int) (j:Nat):Bool:=(lf (ku x (j:Int)) 1)==1
def E6 (F:List Int) (set m0:Int):Nat->Int
 | 0=>m0
 | i+1=>if vJ set (i+1) then orI (E6 F set m0 i) (nth F (i:Int)) else E6 F set m0 i
def pick (L:List Int) (m letter:Int):Nat->Int
 | 0=>0
 | i+1=>if nth L (i:Int)=letter/\vJ m i=true then orI (pick L m letter i) (pL 1 ((i+1:Nat):Int)) else pick L m letter i
def aft (p:PosT) (set letter:Int):Int:=pick p.1 (E6 p.2.2.2.1 set (if (lf set 1)==1 then p.2.1 else 0) p.2.2.2.1.length) letter p.1.length
def kt (p:PosT) (set:Int):Bool:=if (lf set 1)==1 then (if p.2.2.2.2 then true else (lf (ku set 1) p.2.2.1) !=0) else (lf (ku set 1) p.2.2.1) !=0
theorem qy (i:Nat):chk (0<=(i:Int))=some ():=by unfold chk;rw[if_pos (by omega)]
theorem Tw {p:PosT} {set letter:Int} (hl:p.2.2.2.1.length=p.1.length) (hb:p.1.length<=1000000):mT p set letter=some (aft p set letter):=by
 have h0: ∀m0,aC (gL p set) aP (m0,0)=some (.brk (E6 p.2.2.2.1 set m0 p.1.length,(p.1.length:Int))):=fun m0 =>
  aL (f:=gL p set) (fun i=>(E6 p.2.2.2.1 set m0 i,(i:Int))) p.1.length (fun i hi=>by
   unfold gL
   simp only
   rw[if_pos (by simp;omega),ak (by omega),qy];simp only[aa]
   rw[E6]
   by_cases c:vJ set (i+1)=true
   ·rw[if_pos c,if_pos c,aF (by omega) (by omega)];rfl
   ·rw[if_neg c,if_neg c];rfl) (by unfold gL;simp) (gD (by omega))
 have h1: ∀s7:Int×Int,aC (gM p letter s7) aP (0,0)=some (.brk (pick p.1 s7.1 letter p.1.length,(p.1.length:Int))):=fun s7 =>
  aL (f:=gM p letter s7) (fun i=>(pick p.1 s7.1 letter i,(i:Int))) p.1.length (fun i hi=>by
   unfold gM
   simp only
   rw[if_pos (by simp;omega),ak (by omega),qy,qy];simp only[aa]
   rw[pick]
   by_cases c:vJ s7.1 i=true
   ·rw[if_pos c,aF (by omega) (by omega)];simp only[aa]
    by_cases d:nth p.1 (i:Int)=letter
    ·rw[if_pos (by simpa using d),if_pos ⟨d,c⟩];rfl
    ·rw[if_neg (by simpa using d),if_neg (fun h=>d h.1)];rfl
   ·rw[if_neg c,if_neg (fun h=>c h.2)];rfl) (by unfold gM;simp) (gD (by omega))
 unfold mT aft
 rw[hl]
 by_cases c:((lf set 1)==1)=true
 ·rw[if_pos c,if_pos c];simp only[aa]
  rw[ah (h0 _),ah (h1 _)]
 ·rw[if_neg c,if_neg c];simp only[aa]
  rw[ah (h0 _),ah (h1 _)]
theorem Tx {p:PosT} {set letter:Int} (hl:p.2.2.2.1.length=p.1.length) (hb:p.1.length<=1000000):fQ p set letter=some (aft p set letter):=by
 have h0: ∀m0,aC (cP p set) aP (m0,0)=some (.brk (E6 p.2.2.2.1 set m0 p.2.2.2.1.length,(p.2.2.2.1.length:Int))):=fun m0 =>
  aL (f:=cP p set) (fun i=>(E6 p.2.2.2.1 set m0 i,(i:Int))) p.2.2.2.1.length (fun i hi=>by
   unfold cP
   simp only
   rw[if_pos (by simp;omega),aF (by omega) (by omega)];simp only[aa]
   rw[ak (by omega),qy];simp only[aa]
   rw[E6]
   by_cases c:vJ set (i+1)=true
   ·rw[if_pos c,if_pos c];rfl
   ·rw[if_neg c,if_neg c];rfl) (by unfold cP;simp) (gD (by omega))
 have h1: ∀s7:Int×Int,aC (cQ p letter s7) aP (0,0)=some (.brk (pick p.1 s7.1 letter p.1.length,(p.1.length:Int))):=fun s7 =>
  aL (f:=cQ p letter s7) (fun i=>(pick p.1 s7.1 letter i,(i:Int))) p.1.length (fun i hi=>by
   unfold cQ
   simp only
   rw[if_pos (by simp;omega),aF (by omega) (by omega)];simp only[aa]
   rw[ak (by omega),qy,qy];simp only[aa]
   rw[pick]
   by_cases d:nth p.1 (i:Int)=letter
   ·rw[if_pos (by simpa using d)]
    by_cases c:vJ s7.1 i=true
    ·rw[if_pos c,if_pos ⟨d,c⟩];rfl
    ·rw[if_neg c,if_neg (fun h=>c h.2)];rfl
   ·rw[if_neg (by simpa using d),if_neg (fun h=>d h.1)];rfl) (by unfold cQ;simp) (gD (by omega))
 unfold fQ aft
 by_cases c:((lf set 1)==1)=true
 ·rw[if_pos c,if_pos c];simp only[aa]
  rw[ah (h0 _),ah (h1 _)]
 ·rw[if_neg c,if_neg c];simp only[aa]
  rw[ah (h0 _),ah (h1 _)]
theorem VP (p:PosT) (x:Int):kB p x=some (kt p x):=by
 unfold kB kt
 split <;> (try split) <;> rfl
theorem VQ (p:PosT) (x:Int):db p x=some (kt p x):=by
 unfold db kt
 split <;> (try split) <;> rfl
theorem Is (x:Int): -9223372036854775808<=IntKind.i64.wrap x/\IntKind.i64.wrap x<=9223372036854775807:=by
 simp only[IntKind.wrap,IntKind.bits,IntKind.signed,Bool.true_and]
 split <;> rename_i h <;> simp at h <;> omega
theorem Tz (x:Int):iOk (IntKind.i64.wrap x)=true:=by
 have h1:IntKind.i64.min= -9223372036854775808:=by decide
 have h2:IntKind.i64.max=9223372036854775807:=by decide
 have h3:=Is x
 simp only[iOk,Lit.wf,h1,h2,ai,decide_eq_true_eq]
 omega
theorem VR (m n:Int):iOk (orI m n)=true:=Tz _
theorem Mj (L:List Int) (m letter:Int): ∀i,iOk (pick L m letter i)=true
 | 0=>by unfold pick;decide
 | i+1=>by
  rw[pick]
  split
  ·exact VR _ _
  ·exact Mj L m letter i
def nxS (p:PosT) (x:Int):List (Option Int):=(List.range 9).map fun k:Nat=>if aft p x (k:Int)=0 then none else some (aft p x (k:Int))
theorem Mk {p:PosT} {x:Int} {k:Nat} (hk:k<9):nth (nxS p x) (k:Int)=if aft p x k=0 then none else some (aft p x k):=by
 have:k<(nxS p x).length:=by simp[nxS];omega
 rw[bM this];simp[nxS]
theorem uW (p:PosT) (x:Int):(nxS p x).length=9:=by simp[nxS]
theorem VS {p:PosT} {x y:Int} (h:some y∈nxS p x):iOk y=true:=by
 obtain ⟨k,hk,e⟩:=List.mem_map.1 h
 split at e
 ·cases e
 ·obtain rfl:=ae e
  exact Mj _ _ _ _
theorem Ml {κ:Type} [DecidableEq κ] : ∀(l:List κ) (os:List (Option κ)),(nbS l os).length<=l.length+os.length
 | l,[] =>by simp[nbS]
 | l,o::os=>by
  have h:=Ml (nbL l o) os
  have h2:(nbL l o).length<=l.length+1:=by
   cases o with
   | none=>simp[nbL]
   | some x=>unfold nbL;simp only;split <;> simp
  show (nbS (nbL l o) os).length<=_
  simp only[al];omega
section
variable {κ:Type} [DecidableEq κ] (nx:κ->List (Option κ)) (first:κ) (acc:κ->Bool) (most:Nat)
def goM:Nat->Nat->AutT×Bool
 | 0,i=>((0,[],[]),false)
 | f+1,i=>if i<(bfS nx first i).length then (if (bfS nx first (i+1)).length>most then ((0,[],[]),false) else goM f (i+1)) else ((0,((bfS nx first i).take i).map acc,bfR nx first i),true)
end
section
variable {κ:Type} [DecidableEq κ] {nx:κ->List (Option κ)} {first:κ} {acc:κ->Bool} {most:Nat}
theorem Bx {i:Nat} (h: ∀j,j<i->j<(bfS nx first j).length):i<=(bfS nx first i).length:=by
 cases i with
 | zero=>omega
 | succ i =>
  have h1:=h i (by omega)
  have h2:=(bH (nx:=nx) (first:=first) i).length_le
  omega
theorem GU {S:Type} {f:S->Option (Out (AutT×Bool) S)} (hm:most<=1000000) (h1:1<=most) (st:Nat->S->Prop)
  (hs: ∀i s,st i s->(∀j,j<i->j<(bfS nx first j).length)->(bfS nx first i).length<=most->i<(bfS nx first i).length->((bfS nx first (i+1)).length>most->f s=some (.ret ((0,[],[]),false)))/\((bfS nx first (i+1)).length<=most-> ∃s',f s=some (.nxt s')/\st (i+1) s'))
  (he: ∀i s,st i s-> ¬i<(bfS nx first i).length->f s=some (.brk s)) {s:S} (h0:st 0 s) :
  (aC f aP s=some (.ret ((0,[],[]),false))/\goM nx first acc most (most+2) 0=((0,[],[]),false)) \/
  ∃N s',aC f aP s=some (.brk s')/\st N s'/\bfE nx first N/\N<=most/\goM nx first acc most (most+2) 0=((0,(bfS nx first N).map acc,bfR nx first N),true):=by
 obtain ⟨o,e,hq⟩:=b9 (f:=f) (fun i s=>st i s/\(∀j,j<i->j<(bfS nx first j).length)/\(bfS nx first i).length<=most/\goM nx first acc most (most+2) 0=goM nx first acc most (most+2 - i) i)
  (fun o=>(o= .ret ((0,[],[]),false)/\goM nx first acc most (most+2) 0=((0,[],[]),false))\/ ∃N s',o= .brk s'/\st N s'/\bfE nx first N/\N<=most/\goM nx first acc most (most+2) 0=((0,(bfS nx first N).map acc,bfR nx first N),true)) most (s:=s) (by
  rintro i s hi ⟨k1,k2,k3,k4⟩
  have hle:=Bx k2
  rw[show most+2 - i=(most+1 - i)+1 from by omega] at k4
  have k5:goM nx first acc most (most+1 - i+1) i=if i<(bfS nx first i).length then (if (bfS nx first (i+1)).length>most then ((0,[],[]),false) else goM nx first acc most (most+1 - i) (i+1)) else ((0,((bfS nx first i).take i).map acc,bfR nx first i),true):=rfl
  rw[k5] at k4
  by_cases c:i<(bfS nx first i).length
  ·rw[if_pos c] at k4
   obtain ⟨q1,q2⟩:=hs i s k1 k2 k3 c
   by_cases d:(bfS nx first (i+1)).length>most
   ·rw[if_pos d] at k4
    exact .inr ⟨_,q1 d,(fun s' e=>by cases e),.inl ⟨rfl,k4⟩⟩
   ·rw[if_neg d] at k4
    obtain ⟨s',e,hs'⟩:=q2 (by omega)
    exact .inl ⟨by omega,s',e,hs',fun j hj=>(by
     by_cases ej:j=i
     ·subst ej;exact c
     ·exact k2 j (by omega)),by omega,by rw[k4];congr 1;omega⟩
  ·rw[if_neg c] at k4
   refine .inr ⟨_,he i s k1 c,(fun s' e=>by cases e),.inr ⟨i,s,rfl,k1,⟨by omega,k2⟩,hi,?_⟩⟩
   rw[k4,List.take_of_length_le (by omega)]) ⟨h0,fun j hj=>by omega,by simp[bfS];omega,rfl⟩ (gD (by omega))
 rcases hq with ⟨rfl,h⟩ | ⟨N,s',rfl,h⟩
 ·exact .inl ⟨e,h⟩
 ·exact .inr ⟨N,s',e,h⟩
end
section
variable {p:PosT} {most:Nat} (hl:p.2.2.2.1.length=p.1.length) (hb:p.1.length<=1000000) (hm:most<=900000) (h1:1<=most)
include hl hb hm h1
theorem Xc:gO p most=some (goM (nxS p) 1 (kt p) most (most+2) 0):=by
 have hp3: ∀(l:List Int) (i k:Nat),k<9-> ∃j,(fun a0 a1=>cT a0 a1 (p.1,p.2.1,p.2.2.1,p.2.2.2.1,p.2.2.2.2)) (nth l (i:Int)) (k:Int)=some (match nth (nxS p (nth l (i:Int))) (k:Int) with | some y=>(y,true) | none=>(j,false)):=by
  intro l i k hk
  refine ⟨0,?_⟩
  show cT _ _ p=_
  unfold cT
  simp only[kl]
  rw[Tx hl hb,Mk hk];simp only[aa]
  by_cases c:aft p (nth l (i:Int)) k=0
  ·rw[if_pos c];simp[c]
  ·rw[if_neg c];simp[c]
 unfold gO eC
 rw[show IZ ([] :List (Int×Int)) iOk iOk 1 0=some [(1,0)] from by unfold IZ;rw[if_pos ⟨by simp,by decide,by decide⟩]];simp only[aa]
 rcases GU (nx:=nxS p) (first:=1) (acc:=kt p) (most:=most) (f:=bT most (fun a0=>db (p.1,p.2.1,p.2.2.1,p.2.2.2.1,p.2.2.2.2) a0) (fun a0 a1=>cT a0 a1 (p.1,p.2.1,p.2.2.1,p.2.2.2.1,p.2.2.2.2)))
  (by omega) h1 (fun i s=> ∃M,s=(bfS (nxS p) 1 i,M,(i:Int),0,((bfS (nxS p) 1 i).take i).map (kt p),bfR (nxS p) 1 i)/\MapOf M (bfS (nxS p) 1 i)) (by
   rintro i s ⟨M,rfl,hM⟩ hj hle hlt
   have hil:=Bx hj
   obtain ⟨M',e,hM'⟩:=Df (p3:=fun a0 a1=>cT a0 a1 (p.1,p.2.1,p.2.2.1,p.2.2.2.1,p.2.2.2.2)) (l:=bfS (nxS p) 1 i) (M:=M) (os:=nxS p (nth (bfS (nxS p) 1 i) (i:Int))) (acs:=((bfS (nxS p) 1 i).take i).map (kt p)) (rws:=bfR (nxS p) 1 i) hlt (uW _ _) hM (fun y hy=>VS hy)
    (fun k=>by
     have:=Ml (bfS (nxS p) 1 i) ((nxS p (nth (bfS (nxS p) 1 i) (i:Int))).take k)
     have h9:=uW p (nth (bfS (nxS p) 1 i) (i:Int))
     rw[aD] at this
     omega) (fun k hk=>hp3 _ i k hk)
   rw[<-jU hlt] at hM'
   have hl2:=(bH (nx:=nxS p) (first:=1) i).length_le
   constructor
   ·intro hgt
    unfold bT
    simp only
    rw[if_pos (by simp;omega),ah e,<-jU hlt]
    simp only
    rw[if_pos (by simp;omega)]
   ·intro hle2
    unfold bT
    simp only
    rw[if_pos (by simp;omega),ah e,<-jU hlt]
    simp only
    rw[if_neg (by simp;omega),aF (by omega) (by omega)];simp only[aa]
    rw[jA (bH i) (by omega) (by omega)]
    simp only[kl]
    rw[VQ];simp only[aa]
    have hr:(bfR (nxS p) 1 i).length=i:=iE hj
    rw[aJ (by simp;omega)];simp only[aa]
    rw[aJ (by simp;omega)];simp only[aa,ak (show i<9223372036854775807 by omega)]
    exact ⟨_,rfl,M',by rw[wm hlt,tX hlt],hM'⟩) (by
   rintro i s ⟨M,rfl,hM⟩ hn
   unfold bT
   simp only
   rw[if_neg (by simp;omega)]) (s:=([1],[(1,0)],0,0,[],[])) ⟨_,rfl,MapOf.one 1⟩ with ⟨e,hg⟩ | ⟨N,s',e,⟨M,rfl,hM⟩,hN,hNm,hg⟩
 ·rw[bK e,hg];rfl
 ·rw[ah e,hg];simp only[aa]
  rw[List.take_of_length_le (by have:=hN.1;omega)]
theorem Pn {l:List Int} {acs:List Bool} {rws:List (List Int)} {i:Nat} (hi:i<l.length) (hle:l.length<=most) :
  aC (fv p (l,(i:Int),0,acs,rws)) aP (l,[],0)=some (.brk (nbS l (nxS p (nth l (i:Int))),nbR l (nxS p (nth l (i:Int))),9)):=by
 have h9:=uW p (nth l (i:Int))
 have:=aL (f:=fv p (l,(i:Int),0,acs,rws)) (fun k=>(nbS l ((nxS p (nth l (i:Int))).take k),nbR l ((nxS p (nth l (i:Int))).take k),(k:Int))) 9 (fun k hk=>by
  have hpre:=ko l ((nxS p (nth l (i:Int))).take k)
  have hlen:=hpre.length_le
  have hB:=Ml l ((nxS p (nth l (i:Int))).take k)
  rw[aD] at hB
  have hrl:(nbR l ((nxS p (nth l (i:Int))).take k)).length<=9:=by rw[eG,aD];omega
  unfold fv
  simp only[kl]
  rw[if_pos (by simp;omega),aF (by omega) (by omega)];simp only[aa]
  rw[jA hpre (by omega) (by omega),Tw hl hb];simp only[aa]
  rw[take_one (by omega),tK,qY,Mk hk]
  simp only[ak (show k<9223372036854775807 by omega)]
  by_cases c:aft p (nth l (i:Int)) k=0
  ·rw[if_pos c,if_neg (by simp[c])];simp only[aa]
   rw[aJ (by simp;omega)];rfl
  ·rw[if_neg c,if_pos (by simpa using c),QF (by omega)];simp only[aa]
   by_cases d:aft p (nth l (i:Int)) k∈nbS l ((nxS p (nth l (i:Int))).take k)
   ·rw[if_pos d,if_neg (by simp),lz d];simp only[aa]
    rw[aJ (by simp;omega)];rfl
   ·rw[if_neg d,if_pos (by decide),aJ (by simp;omega),kp d];simp only[aa]
    rw[aJ (by simp;omega)];simp only[nbI,oy d,aa]) (by
  unfold fv
  simp) (by unfold aP;omega)
 have e9:(nxS p (nth l (i:Int))).take 9=nxS p (nth l (i:Int)):=List.take_of_length_le (by omega)
 rw[e9] at this
 exact this
theorem VT:gf p most=some (goM (nxS p) 1 (kt p) most (most+2) 0):=by
 unfold gf
 rcases GU (nx:=nxS p) (first:=1) (acc:=kt p) (most:=most) (f:=fw p most)
  (by omega) h1 (fun i s=>s=(bfS (nxS p) 1 i,(i:Int),0,((bfS (nxS p) 1 i).take i).map (kt p),bfR (nxS p) 1 i)) (by
   rintro i s rfl hj hle hlt
   have hil:=Bx hj
   have e:=Pn hl hb hm h1 (acs:=((bfS (nxS p) 1 i).take i).map (kt p)) (rws:=bfR (nxS p) 1 i) hlt hle
   have hl2:=(bH (nx:=nxS p) (first:=1) i).length_le
   constructor
   ·intro hgt
    unfold fw
    simp only
    rw[if_pos (by simp;omega),ah e,<-jU hlt]
    simp only
    rw[if_pos (by simp;omega)]
   ·intro hle2
    unfold fw
    simp only
    rw[if_pos (by simp;omega),ah e,<-jU hlt]
    simp only
    rw[if_neg (by simp;omega),aF (by omega) (by omega)];simp only[aa]
    rw[jA (bH i) (by omega) (by omega)]
    simp only[kl]
    rw[VP];simp only[aa]
    have hr:(bfR (nxS p) 1 i).length=i:=iE hj
    rw[aJ (by simp;omega)];simp only[aa]
    rw[aJ (by simp;omega)];simp only[aa,ak (show i<9223372036854775807 by omega)]
    exact ⟨_,rfl,by rw[wm hlt,tX hlt]⟩) (by
   rintro i s rfl hn
   unfold fw
   simp only
   rw[if_neg (by simp;omega)]) (s:=([1],0,0,[],[])) rfl with ⟨e,hg⟩ | ⟨N,s',e,rfl,hN,hNm,hg⟩
 ·rw[bK e,hg]
 ·rw[ah e,hg];simp only
  rw[List.take_of_length_le (by have:=hN.1;omega)]
end
end D
namespace D
open Go.RowKit
theorem Po (m n:Int):orI m n=orI n m:=by unfold orI;rw[BitVec.or_comm]
def lk (F:List Int) (from_ to_:Int):Nat->List Int
 | 0=>F
 | i+1=>if vJ from_ i then (lk F from_ to_ i).set i (orI (nth (lk F from_ to_ i) (i:Int)) to_) else lk F from_ to_ i
theorem rH (F:List Int) (f t:Int): ∀i,(lk F f t i).length=F.length
 | 0=>rfl
 | i+1=>by
  rw[lk]
  split
  ·rw[List.length_set,rH]
  ·exact rH F f t i
theorem GV {p:PosT} {f t:Int} (hl:p.2.2.2.1.length<=1000000):mj p f t=some (p.1,p.2.1,p.2.2.1,lk p.2.2.2.1 f t p.2.2.2.1.length,p.2.2.2.2):=by
 have hL:aC (iS f t) aP (0,p.2.2.2.1)=some (.brk ((p.2.2.2.1.length:Int),lk p.2.2.2.1 f t p.2.2.2.1.length)):=aL (f:=iS f t) (fun i=>((i:Int),lk p.2.2.2.1 f t i)) p.2.2.2.1.length (fun i hi=>by
  have hk:=rH p.2.2.2.1 f t i
  unfold iS
  simp only
  rw[if_pos (by simp;omega),qy];simp only[aa]
  rw[lk,ak (by omega)]
  by_cases c:vJ f i=true
  ·rw[if_pos c,if_pos c,aF (by omega) (by omega)];simp only[aa,Int.toNat_natCast]
  ·rw[if_neg c,if_neg c];rfl) (by unfold iS;simp[rH]) (gD (by omega))
 unfold mj
 rw[ah hL]
theorem GW {p:PosT} {f t:Int} (hl:p.2.2.2.1.length<=1000000):dA p f t=some (p.1,p.2.1,p.2.2.1,lk p.2.2.2.1 f t p.2.2.2.1.length,p.2.2.2.2):=by
 have hL:aC (cw p f t) aP (0,p.2.2.2.1)=some (.brk ((p.2.2.2.1.length:Int),lk p.2.2.2.1 f t p.2.2.2.1.length)):=aL (f:=cw p f t) (fun i=>((i:Int),lk p.2.2.2.1 f t i)) p.2.2.2.1.length (fun i hi=>by
  have hk:=rH p.2.2.2.1 f t i
  unfold cw
  simp only
  rw[if_pos (by simp;omega),qy];simp only[aa]
  rw[lk,ak (by omega)]
  by_cases c:vJ f i=true
  ·rw[if_pos c,if_pos c,aF (by omega) (by omega)];simp only[aa,Int.toNat_natCast]
  ·rw[if_neg c,if_neg c];rfl) (by unfold cw;simp) (gD (by omega))
 unfold dA
 rw[ah hL]
def BOk (x:Tr Tok):Prop:= ∀(n m:Nat) (p:PosT),(flat x).length<=n->(flat x).length<=m->p.2.2.2.1.length=p.1.length->p.1.length+(flat x).length<=100000->
 ∃(nu:Bool) (fi la:Int) (q:PosT),bS n p (flat x)=some ((nu,fi,la),q)/\bh m p x=some ((fi,la,nu),q)/\q.2.2.2.1.length=q.1.length/\q.1.length<=p.1.length+(flat x).length
theorem Pp {x:Tr Tok} (h:WT x):BOk x:=by
 refine WT.ind (p:=BOk) ?_ ?_ ?_ h
 ·intro t e n m p hn hm hF hl
  rw[sy] at hn hm hl⊢
  simp only[al,az] at hl
  match n,m,hn,hm with
  | n+1,m+1,_,_ =>
   rw[bS,bh];simp only[lH,aa]
   have:=(ep (A:=[]) (t:=t) (by simp)).1
   rw[List.nil_append] at this
   rw[this];simp only[aa,kl]
   rcases fJ (show 0<=ar t by omega) with ⟨k,_⟩ | ⟨k,_⟩ | ⟨_,k⟩
   ·omega
   ·omega
   rcases k with k | k | k
   ·exact ⟨false,0,0,p,by simp[k],by simp[k],hF,by simp⟩
   ·exact ⟨true,0,0,p,by simp[k],by simp[k],hF,by simp⟩
   ·refine ⟨false,pL 1 (p.1.length:Int),pL 1 (p.1.length:Int),(p.1++ [t.2.1],p.2.1,p.2.2.1,p.2.2.2.1++ [0],p.2.2.2.2),?_,?_,by simp[hF],by simp⟩
    ·rw[if_neg (by simp[k]),if_pos (by simp[k]),aJ (by simp;omega)];simp only[aa]
     rw[aJ (by simp;omega)];rfl
    ·rw[if_neg (by simp[k]),if_pos (by simp[k]),aJ (by simp;omega)];simp only[aa]
     rw[aJ (by simp;omega)];rfl
 ·intro t a e wa ih n m p hn hm hF hl
  rw[rj] at hn hm hl⊢
  simp only[af,al,az] at hn hm hl
  match n,m,hn,hm with
  | n+1,m+1,hn,hm =>
   rw[bS,bh];simp only[lH,aa,kl]
   obtain ⟨l1,l2⟩:=ep (A:=flat a) (t:=t) (by omega)
   rw[l1];simp only[aa]
   obtain ⟨nu,fi,la,q,hs,hi,hq1,hq2⟩:=ih n m p (by omega) (by omega) hF (by omega)
   rcases Ig e with ⟨k1,k2⟩ | ⟨k1,k2,k3⟩
   ·have g2:(t.1==2)=false:=by simp[k2]
    have g3:(t.1==3)=false:=by simp[k2]
    have g4:(t.1==4)=false:=by simp[k2]
    have g5:(t.1==5)=false:=by simp[k2]
    simp only[g2,g3,g4,g5,k1,Bool.false_eq_true,if_false,if_true]
    rw[l2,Int.toNat_natCast,List.take_left,dX (by simp only[af,al,az];omega)];simp only[aa]
    rw[hs,show aR [a] 0=some a from rfl];simp only[aa]
    rw[hi];simp only[aa,kl]
    rw[GV (by omega),GW (by omega)];simp only[aa]
    refine ⟨true,fi,la,_,rfl,rfl,?_,?_⟩
    ·simp only[rH];exact hq1
    ·simp only[af,al,az];omega
   ·have g2:(t.1==2)=false:=by simp[k3]
    have g3:(t.1==3)=false:=by simp[k3]
    have g4:(t.1==4)=false:=by simp[k3]
    have g5:(t.1==5)=false:=by simp[k3]
    simp only[g2,g3,g4,g5,k1,Bool.false_eq_true,if_false]
    exact ⟨false,0,0,p,rfl,rfl,hF,by omega⟩
 ·intro t a b e wa wb iha ihb n m p hn hm hF hl
  rw[lC] at hn hm hl⊢
  have hl2:((flat a++flat b)++ [t]).length<=1000000:=by omega
  obtain ⟨p1,p2,p3,p4⟩:=oB (a:=a) (t:=t) wb hl2
  simp only[af,al,az] at hn hm hl
  match n,m,hn,hm with
  | n+1,m+1,hn,hm =>
   have hpa:=wa.pos
   have hpb:=wb.pos
   rw[bS,bh];simp only[lH,aa,kl]
   obtain ⟨l1,l2⟩:=ep (A:=flat a++flat b) (t:=t) (by rw[af];omega)
   rw[l1];simp only[aa]
   obtain ⟨nu,fi,la,q,hs,hi,hq1,hq2⟩:=iha n m p (by omega) (by omega) hF (by omega)
   obtain ⟨nu2,fi2,la2,q2,hs2,hi2,hq3,hq4⟩:=ihb n m q (by omega) (by omega) hq1 (by omega)
   have c1: ∀r:Int,0<=r->r<=((flat a++flat b++ [t]).length:Int)->chk (0<=r/\r<=((flat a++flat b++ [t]).length:Int))=some ():=fun r h1 h2=>dX ⟨h1,h2⟩
   have g0:aR [a,b] 0=some a:=rfl
   have g1:aR [a,b] 1=some b:=rfl
   rcases fJ (show 0<=ar t by omega) with ⟨_,k⟩ | ⟨k,_⟩ | ⟨k,_⟩
   ·rcases k with k | k
    ·have g2:(t.1==2)=false:=by simp[k]
     have g3:(t.1==3)=false:=by simp[k]
     have g4:(t.1==4)=true:=by simp[k]
     have g5:(t.1==5)=false:=by simp[k]
     simp only[g2,g3,g4,g5,Bool.false_eq_true,if_false,if_true]
     rw[l2,p1,p2,dX (by simp only[af,al,az];omega)];simp only[aa]
     rw[dX (by simp only[af,al,az];omega),p3,p4,hs,g0,g1];simp only[aa]
     rw[hi,dX (by simp only[af,al,az];omega)];simp only[aa,kl]
     rw[hs2,hi2];simp only[aa,kl]
     rw[GV (by omega),GW (by omega)];simp only[aa]
     refine ⟨nu&&nu2,if nu then orI fi fi2 else fi,if nu2 then orI la la2 else la2,(q2.1,q2.2.1,q2.2.2.1,lk q2.2.2.2.1 la fi2 q2.2.2.2.1.length,q2.2.2.2.2),?_,?_,?_,?_⟩
     ·cases nu <;> cases nu2 <;> rfl
     ·rw[Po la la2]
      cases nu <;> cases nu2 <;> rfl
     ·simp only[rH];exact hq3
     ·simp only[af,al,az];omega
    ·have g2:(t.1==2)=false:=by simp[k]
     have g3:(t.1==3)=false:=by simp[k]
     have g4:(t.1==4)=false:=by simp[k]
     have g5:(t.1==5)=true:=by simp[k]
     simp only[g2,g3,g4,g5,Bool.false_eq_true,if_false,if_true]
     rw[l2,p1,p2,dX (by simp only[af,al,az];omega)];simp only[aa]
     rw[dX (by simp only[af,al,az];omega),p3,p4,hs,g0,g1];simp only[aa]
     rw[hi,dX (by simp only[af,al,az];omega)];simp only[aa,kl]
     rw[hs2,hi2];simp only[aa,kl]
     refine ⟨nu || nu2,orI fi fi2,orI la la2,q2,?_,?_,hq3,?_⟩
     ·cases nu <;> simp
     ·cases nu <;> simp
     ·simp only[af,al,az];omega
   ·omega
   ·omega
def Aa (e:List Tok):Nat->Nat
 | 0=>0
 | i+1=>if (nth e (i:Int)).1=3 then Aa e i+1 else Aa e i
theorem E7 (e:List Tok): ∀i,Aa e i<=i
 | 0=>aq _
 | i+1=>by
  have:=E7 e i
  rw[Aa];split <;> omega
theorem VU {r:List Tok×Bool} (hl:r.1.length<=1000000):aC (c9 r) aP (0,0)=some (.brk ((Aa r.1 r.1.length:Int),(r.1.length:Int))):=
 aL (f:=c9 r) (fun i=>((Aa r.1 i:Int),(i:Int))) r.1.length (fun i hi=>by
  have:=E7 r.1 i
  unfold c9
  simp only
  rw[if_pos (by simp;omega),aF (by omega) (by omega)];simp only[aa]
  rw[Aa,ak (show i<9223372036854775807 by omega),ak (show Aa r.1 i<9223372036854775807 by omega)]
  by_cases c:(nth r.1 (i:Int)).1=3
  ·rw[if_pos (by simpa using c),if_pos c];rfl
  ·rw[if_neg (by simpa using c),if_neg c];rfl) (by unfold c9;simp) (gD (by omega))
theorem Xd {r:List Tok×Bool} (hl:r.1.length<=1000000):aC (da r) aP (0,0)=some (.brk ((Aa r.1 r.1.length:Int),(r.1.length:Int))):=
 aL (f:=da r) (fun i=>((Aa r.1 i:Int),(i:Int))) r.1.length (fun i hi=>by
  have:=E7 r.1 i
  unfold da
  simp only
  rw[if_pos (by simp;omega),aF (by omega) (by omega)];simp only[aa]
  rw[Aa,ak (show i<9223372036854775807 by omega),ak (show Aa r.1 i<9223372036854775807 by omega)]
  by_cases c:(nth r.1 (i:Int)).1=3
  ·rw[if_pos (by simpa using c),if_pos c];rfl
  ·rw[if_neg (by simpa using c),if_neg c];rfl) (by unfold da;simp) (gD (by omega))
theorem mN {e:List Tok} (he:e.length<=1048576): ∃r:PosT×Bool,du e=some r/\gu e=some r/\r.1.2.2.2.1.length=r.1.1.length/\r.1.1.length<=100000:=by
 have hF:=kY
 obtain ⟨e1,e2⟩:=yd he
 unfold du gu
 rw[e1,e2];simp only[aa]
 by_cases c:(yc e).2=true
 ·obtain ⟨y,wy,ey,ly⟩:=SY c
  rw[if_pos c,if_pos c,ah (VU (by rw[ey];omega)),ah (Xd (by rw[ey];omega))]
  simp only
  by_cases d:(Aa (yc e).1 (yc e).1.length:Int)>20
  ·have d':decide ((Aa (yc e).1 (yc e).1.length:Int)>20)=true:=decide_eq_true d
   simp only[d',if_true]
   exact ⟨_,rfl,rfl,rfl,by simp⟩
  ·have d':decide ((Aa (yc e).1 (yc e).1.length:Int)>20)=false:=decide_eq_false d
   simp only[d',Bool.false_eq_true,if_false]
   rw[ey,wh (by omega),lY wy];simp only[aa]
   obtain ⟨nu,fi,la,q,hs,hi,hq1,hq2⟩:=Pp wy dn dn ([],0,0,[],false) (by omega) (by omega) rfl (by simp;omega)
   rw[hs,hi];simp only[aa]
   exact ⟨_,rfl,rfl,hq1,by simp at hq2;show q.1.length<=_;omega⟩
 ·rw[if_neg c,if_neg c]
  exact ⟨_,rfl,rfl,rfl,by simp⟩
end D
namespace D
open Go.RowKit
theorem ua (m:Int):lf 0 m=0:=by
 unfold lf
 have:(BitVec.ofInt 64 0 &&& BitVec.ofInt 64 m)=0#64:=by simp
 rw[this,show ((0#64:BitVec 64).toNat)=0 from rfl]
 exact bQ (n:=0) (by omega) (by omega)
theorem Dm (n:Int):ku 0 n=0:=by
 unfold ku;exact Int.zero_fdiv _
theorem Dn (j:Nat):vJ 0 j=false:=by
 show ((lf (ku 0 (j:Int)) 1)==1)=false
 rw[Dm,ua];rfl
theorem Do (F:List Int) (m0:Int): ∀i,E6 F 0 m0 i=m0
 | 0=>rfl
 | i+1=>by rw[E6,Dn];exact Do F m0 i
theorem Dq (L:List Int) (k:Int): ∀i,pick L 0 k i=0
 | 0=>rfl
 | i+1=>by rw[pick,Dn,if_neg (by simp)];exact Dq L k i
theorem Pq (p:PosT) (k:Int):aft p 0 k=0:=by
 unfold aft
 rw[ua,if_neg (by decide),Do,Dq]
theorem Iu (p:PosT):kt p 0=false:=by
 unfold kt
 rw[ua,if_neg (by decide),Dm,ua];rfl
def IG (p:PosT) (x:Int) (w:List Nat):Int:=w.foldl (fun (s:Int) (k:Nat)=>aft p s (k:Int)) x
theorem Dr (p:PosT): ∀w,IG p 0 w=0
 | [] =>rfl
 | k::w=>by
  show IG p (aft p 0 (k:Int)) w=0
  rw[Pq];exact Dr p w
theorem GX (p:PosT): ∀(w:List Nat) (x:Int),x≠0->(∀k∈w,k<9)->krun (nxS p) (some x) w=if IG p x w=0 then none else some (IG p x w)
 | [],x,h,_=>by
  show some x=if x=0 then none else some x
  rw[if_neg h]
 | k::w,x,h,hw=>by
  show krun (nxS p) (nth (nxS p x) (k:Int)) w=if IG p (aft p x (k:Int)) w=0 then none else some (IG p (aft p x (k:Int)) w)
  rw[Mk (hw k (by simp))]
  by_cases c:aft p x (k:Int)=0
  ·rw[if_pos c,c,Dr,if_pos rfl,yn]
  ·rw[if_neg c]
   exact GX p w _ c fun j hj=>hw j (aZ _ hj)
theorem TA {p:PosT} {r:AutT} {N:Nat} (H:NumA r (nxS p) 1 (kt p) N) {w:List Nat} (hw: ∀k∈w,k<9):acw r w=kt p (IG p 1 w):=by
 rw[H.acw hw,GX p w 1 (by decide) hw]
 by_cases c:IG p 1 w=0
 ·rw[if_pos c,c,Iu]
 ·rw[if_neg c]
end D
namespace D
open Go.RowKit
def bt (x:Int) (j:Nat):Prop:=x.toNat.testBit j=true
theorem yq {j:Nat} : ¬bt 0 j:=by unfold bt;simp
def BS (a b:Nat) (x:Int):Prop:=0<=x/\ ∀j,bt x j->a<=j/\j<b
theorem BS.nat {a b:Nat} {x:Int} (h:BS a b x) (hb:b<=30): ∃f:Nat,x=(f:Int)/\f<2 ^ 62:=by
 refine ⟨x.toNat,(Int.toNat_of_nonneg h.1).symm,aG (Nat.lt_pow_two_of_testBit (n:=b) x.toNat fun i hi=>?_) (Nat.pow_le_pow_right (by decide) (by omega))⟩
 cases hc:x.toNat.testBit i with
 | false=>rfl
 | true=>have:=(h.2 i hc).2;omega
theorem BS.zero {a b:Nat} :BS a b 0:=⟨by omega,fun j hj=>absurd hj yq⟩
theorem BS.mono {a b a' b':Nat} {x:Int} (h:BS a b x) (ha:a'<=a) (hb:b<=b'):BS a' b' x:=⟨h.1,fun j hj=>by have:=h.2 j hj;omega⟩
theorem BS.or {a b a' b':Nat} {x y:Int} (hx:BS a b x) (hy:BS a' b' y) (hb:b<=30) (hb':b'<=30):(∀j,bt (orI x y) j↔bt x j\/bt y j)/\0<=orI x y:=by
 obtain ⟨f,rfl,h1⟩:=hx.nat hb
 obtain ⟨g,rfl,h2⟩:=hy.nat hb'
 rw[zM h1 h2]
 refine ⟨fun j=>?_,by omega⟩
 unfold bt
 rw[Int.toNat_natCast,Int.toNat_natCast,Int.toNat_natCast,Nat.testBit_or,Bool.or_eq_true]
theorem BS.bit {a b:Nat} {x:Int} (h:BS a b x) (hb:b<=30) {j:Nat} (hj:j<64):vJ x j=true↔bt x j:=by
 obtain ⟨f,rfl,h1⟩:=h.nat hb
 show ((lf (ku (f:Int) (j:Int)) 1)==1)=true↔_
 rw[uT h1 hj];rfl
theorem Ab {n j:Nat} (hn:n<=30):bt (pL 1 (n:Int)) j↔j=n:=by
 rw[nO (by omega)]
 unfold bt
 rw[Int.toNat_natCast,Nat.testBit_two_pow,decide_eq_true_eq]
 exact eq_comm
theorem Mm {n:Nat} (hn:n<=30):BS n (n+1) (pL 1 (n:Int)):=⟨by rw[nO (by omega)];exact Int.natCast_nonneg _,fun j hj=>by rw[Ab hn] at hj;omega⟩
theorem Mn (F:List Int) (f t:Int): ∀n,n<=F.length-> ∀i:Nat,i<F.length->nth (lk F f t n) (i:Int)=if i<n/\vJ f i=true then orI (nth F (i:Int)) t else nth F (i:Int)
 | 0,_,i,hi=>by rw[lk,if_neg (by omega)]
 | n+1,hn,i,hi=>by
  have ih:=Mn F f t n (by omega)
  rw[lk]
  by_cases c:vJ f n=true
  ·rw[if_pos c]
   by_cases e:i=n
   ·subst e
    have h1:=eO (xs:=lk F f t i) (i:=(i:Int)) (x:=orI (nth (lk F f t i) (i:Int)) t) (by omega) (by rw[rH];omega)
    rw[Int.toNat_natCast] at h1
    rw[h1,ih i hi,if_neg (by omega),if_pos ⟨by omega,c⟩]
   ·have h1:=fI (xs:=lk F f t n) (i:=(n:Int)) (j:=(i:Int)) (x:=orI (nth (lk F f t n) (n:Int)) t) (by omega) (by omega) (by omega)
    rw[Int.toNat_natCast] at h1
    rw[h1,ih i hi]
    by_cases c2:i<n/\vJ f i=true
    ·rw[if_pos c2,if_pos ⟨by omega,c2.2⟩]
    ·rw[if_neg c2,if_neg (fun h=>c2 ⟨by omega,h.2⟩)]
  ·rw[if_neg c,ih i hi]
   by_cases c2:i<n/\vJ f i=true
   ·rw[if_pos c2,if_pos ⟨by omega,c2.2⟩]
   ·rw[if_neg c2,if_neg (fun h=>c2 ⟨by
     by_cases e:i=n
     ·subst e;exact absurd h.2 c
     ·omega,h.2⟩)]
def FO (p:PosT) (i j:Nat):Prop:=bt (nth p.2.2.2.1 (i:Int)) j
def LT (p:PosT) (i:Nat):Nat:=(nth p.1 (i:Int)).toNat
structure Gl (p q:PosT) (nu:Bool) (fi la:Int) (A:Lg):Prop where
 le:p.1.length<=q.1.length
 len:q.2.2.2.1.length=q.1.length
 lets: ∀i:Nat,i<p.1.length->nth q.1 (i:Int)=nth p.1 (i:Int)
 keep: ∀i:Nat,i<p.1.length->nth q.2.2.2.1 (i:Int)=nth p.2.2.2.1 (i:Int)
 pos: ∀i:Nat,p.1.length<=i->i<q.1.length->0<=nth q.1 (i:Int)
 bfi:BS p.1.length q.1.length fi
 bla:BS p.1.length q.1.length la
 fo: ∀i:Nat,p.1.length<=i->i<q.1.length->BS p.1.length q.1.length (nth q.2.2.2.1 (i:Int))
 lang: ∀w,GL (nu=true) (bt fi) (bt la) (FO q) (LT q) w↔A w
theorem Gl.leaf {p:PosT} (hF:p.2.2.2.1.length=p.1.length) {nu:Bool} {A:Lg} (h: ∀w,(nu=true/\w= [])↔A w):Gl p p nu 0 0 A:=
 ⟨aq _,hF,fun _ _=>rfl,fun _ _=>rfl,fun i h1 h2=>by omega,.zero,.zero,fun i h1 h2=>by omega,fun w=>by
  rw[<-h w]
  exact ⟨fun h=>by
   rcases h with h | ⟨i,h,-⟩
   ·exact h
   ·exact absurd h yq,.inl⟩⟩
theorem yr {xs:List Int} {x:Int} {i:Nat} (h:i<xs.length):nth (xs++ [x]) (i:Int)=nth xs (i:Int):=by
 rw[bM (by simp;omega),bM h,List.getElem_append_left h]
theorem sC {xs:List Int} {x:Int} :nth (xs++ [x]) ((xs.length:Nat):Int)=x:=by
 rw[bM (by simp)];simp
theorem Gl.letter {p:PosT} (hF:p.2.2.2.1.length=p.1.length) (hn:p.1.length<=30) {c:Int} (hc:0<=c) {A:Lg} (h: ∀w,A w↔w= [c.toNat]):Gl p (p.1++ [c],p.2.1,p.2.2.1,p.2.2.2.1++ [0],p.2.2.2.2) false (pL 1 (p.1.length:Int)) (pL 1 (p.1.length:Int)) A:=by
 have e0:nth (p.2.2.2.1++ [0]) (p.1.length:Int)=0:=by rw[<-hF];exact sC
 have hl:(p.1++ [c]).length=p.1.length+1:=by simp
 refine ⟨by simp,by simp[hF],fun i hi=>yr hi,fun i hi=>yr (by omega),fun i h1 h2=>?_,?_,?_,fun i h1 h2=>?_,fun w=>?_⟩
 ·obtain rfl:i=p.1.length:=by simp only[hl] at h2;omega
  show 0<=nth (p.1++ [c]) _
  rw[sC];exact hc
 ·rw[hl];exact Mm hn
 ·rw[hl];exact Mm hn
 ·obtain rfl:i=p.1.length:=by simp only[hl] at h2;omega
  show BS _ _ (nth (p.2.2.2.1++ [0]) _)
  rw[e0];exact .zero
 ·have eL:LT (p.1++ [c],p.2.1,p.2.2.1,p.2.2.2.1++ [0],p.2.2.2.2) p.1.length=c.toNat:=by
   show (nth (p.1++ [c]) _).toNat=_
   rw[sC]
  rw[h w]
  constructor
  ·rintro (⟨h1,-⟩ | ⟨i,h1,h2⟩)
   ·cases h1
   ·obtain rfl:=(Ab hn).1 h1
    cases h2 with
    | last _=>rw[eL]
    | cons h3 _ =>
     have h3:bt (nth (p.2.2.2.1++ [0]) (p.1.length:Int)) _:=h3
     rw[e0] at h3;exact absurd h3 yq
  ·rintro rfl
   refine .inr ⟨p.1.length,(Ab hn).2 rfl,?_⟩
   have h4:Pth (FO (p.1++ [c],p.2.1,p.2.2.1,p.2.2.2.1++ [0],p.2.2.2.2)) (LT (p.1++ [c],p.2.1,p.2.2.1,p.2.2.2.1++ [0],p.2.2.2.2)) (bt (pL 1 (p.1.length:Int))) p.1.length [LT (p.1++ [c],p.2.1,p.2.2.1,p.2.2.2.1++ [0],p.2.2.2.2) p.1.length]:=.last ((Ab hn).2 rfl)
   rw[eL] at h4;exact h4
section
variable {p q r:PosT} {nu nu2:Bool} {fi la fi2 la2:Int} {A B C:Lg} (a:Gl p q nu fi la A) (b:Gl q r nu2 fi2 la2 B) (hn:r.1.length<=30)
include a b hn
theorem Gl.first:(∀i:Nat,p.1.length<=i->i<q.1.length->nth r.2.2.2.1 (i:Int)=nth q.2.2.2.1 (i:Int))/\ ∀i:Nat,i<q.1.length->LT r i=LT q i:=
 ⟨fun i _ h=>b.keep i h,fun i h=>by unfold LT;rw[b.lets i h]⟩
theorem Gl.uni (hA: ∀w,A w\/B w↔C w):Gl p r (nu || nu2) (orI fi fi2) (orI la la2) C:=by
 have h1:=a.le
 have h2:=b.le
 obtain ⟨k1,k2⟩:=a.first b hn
 obtain ⟨f1,f2⟩:=a.bfi.or b.bfi (by omega) hn
 obtain ⟨l1,l2⟩:=a.bla.or b.bla (by omega) hn
 refine ⟨by omega,b.len,fun i hi=>(b.lets i (by omega)).trans (a.lets i hi),fun i hi=>(b.keep i (by omega)).trans (a.keep i hi),fun i h3 h4=>?_,⟨f2,fun j hj=>?_⟩,⟨l2,fun j hj=>?_⟩,fun i h3 h4=>?_,fun w=>?_⟩
 ·by_cases c:i<q.1.length
  ·rw[b.lets i c];exact a.pos i h3 c
  ·exact b.pos i (by omega) h4
 ·rcases (f1 j).1 hj with h | h
  ·have:=a.bfi.2 j h;omega
  ·have:=b.bfi.2 j h;omega
 ·rcases (l1 j).1 hj with h | h
  ·have:=a.bla.2 j h;omega
  ·have:=b.bla.2 j h;omega
 ·by_cases c:i<q.1.length
  ·rw[b.keep i c];exact (a.fo i h3 c).mono (aq _) h2
  ·exact (b.fo i (by omega) h4).mono h1 (aq _)
 ·have T:Two (fun i=>p.1.length<=i/\i<q.1.length) (fun i=>q.1.length<=i/\i<r.1.length) (FO r) (FO q) (FO r) (LT r) (LT q) (LT r) (bt fi) (bt fi2) (bt la) (bt la2):=⟨fun i j hs hf=>(a.fo i hs.1 hs.2).2 j hf,fun i j hs hf=>(b.fo i hs.1 hs.2).2 j hf,fun i hi=>a.bfi.2 i hi,fun i hi=>b.bfi.2 i hi,fun i hs=>k2 i hs.2,fun i hs=>rfl⟩
  have key:=VO (la:=bt (orI la la2)) (fi:=bt (orI fi fi2)) (nuA:=nu=true) (nuB:=nu2=true) T (fun i j _=>Iff.rfl) (fun i hs=>by
   rw[l1]
   exact ⟨fun h=>h.resolve_left fun h=>by have:=(a.bla.2 i h).2;omega,.inr⟩) (fun i j hs=>by unfold FO;rw[k1 i hs.1 hs.2]) (fun i hs=>by
   rw[l1]
   exact ⟨fun h=>h.resolve_right fun h=>by have:=(b.bla.2 i h).1;omega,.inl⟩) (fun i=>f1 i) (w:=w)
  rw[a.lang,b.lang,hA] at key
  rw[<-key,Bool.or_eq_true]
theorem Gl.cat (hA: ∀w,yA A B w↔C w):Gl p (r.1,r.2.1,r.2.2.1,lk r.2.2.2.1 la fi2 r.2.2.2.1.length,r.2.2.2.2) (nu&&nu2) (if nu then orI fi fi2 else fi) (if nu2 then orI la la2 else la2) C:=by
 have h1:=a.le
 have h2:=b.le
 have hlen:=b.len
 obtain ⟨k1,k2⟩:=a.first b hn
 obtain ⟨f1,f2⟩:=a.bfi.or b.bfi (by omega) hn
 obtain ⟨l1,l2⟩:=a.bla.or b.bla (by omega) hn
 have nl: ∀i:Nat,i<r.1.length->nth (lk r.2.2.2.1 la fi2 r.2.2.2.1.length) (i:Int)=if vJ la i=true then orI (nth r.2.2.2.1 (i:Int)) fi2 else nth r.2.2.2.1 (i:Int):=fun i hi=>by
  rw[Mn _ _ _ _ (aq _) i (by omega)]
  by_cases c:vJ la i=true
  ·rw[if_pos c,if_pos ⟨by omega,c⟩]
  ·rw[if_neg c,if_neg (fun h=>c h.2)]
 have lb: ∀i:Nat,i<r.1.length->(vJ la i=true↔bt la i):=fun i hi=>a.bla.bit (by omega) (by omega)
 have nA: ∀i:Nat,p.1.length<=i->i<q.1.length-> ∀j,(bt (nth (lk r.2.2.2.1 la fi2 r.2.2.2.1.length) (i:Int)) j↔bt (nth q.2.2.2.1 (i:Int)) j\/(bt la i/\bt fi2 j))/\0<=nth (lk r.2.2.2.1 la fi2 r.2.2.2.1.length) (i:Int):=fun i h3 h4 j=>by
  rw[nl i (by omega),k1 i h3 h4]
  obtain ⟨o1,o2⟩:=(a.fo i h3 h4).or b.bfi (by omega) hn
  by_cases c:vJ la i=true
  ·rw[if_pos c,o1 j]
   have:=(lb i (by omega)).1 c
   exact ⟨⟨fun h=>h.imp id fun h=>⟨this,h⟩,fun h=>h.imp id (·.2)⟩,o2⟩
  ·rw[if_neg c]
   exact ⟨⟨.inl,fun h=>h.resolve_right fun h=>c ((lb i (by omega)).2 h.1)⟩,(a.fo i h3 h4).1⟩
 have nB: ∀i:Nat,q.1.length<=i->i<r.1.length->nth (lk r.2.2.2.1 la fi2 r.2.2.2.1.length) (i:Int)=nth r.2.2.2.1 (i:Int):=fun i h3 h4=>by
  rw[nl i h4,if_neg fun c=>by have:=(a.bla.2 i ((lb i h4).1 c)).2;omega]
 have nP: ∀i:Nat,i<p.1.length->nth (lk r.2.2.2.1 la fi2 r.2.2.2.1.length) (i:Int)=nth r.2.2.2.1 (i:Int):=fun i h3=>by
  rw[nl i (by omega),if_neg fun c=>by have:=(a.bla.2 i ((lb i (by omega)).1 c)).1;omega]
 have hfi: ∀j,bt (if nu then orI fi fi2 else fi) j↔bt fi j\/(nu=true/\bt fi2 j):=fun j=>by
  cases nu with
  | true=>rw[if_pos rfl,f1 j];simp
  | false=>rw[if_neg (by simp)];simp
 have hla: ∀j,bt (if nu2 then orI la la2 else la2) j↔bt la2 j\/(nu2=true/\bt la j):=fun j=>by
  cases nu2 with
  | true=>rw[if_pos rfl,l1 j];simp[or_comm]
  | false=>rw[if_neg (by simp)];simp
 refine ⟨by show p.1.length<=r.1.length;omega,by show (lk _ _ _ _).length=r.1.length;rw[rH];exact hlen,fun i hi=>(b.lets i (by omega)).trans (a.lets i hi),fun i hi=>(nP i hi).trans ((b.keep i (by omega)).trans (a.keep i hi)),fun i h3 h4=>?_,⟨?_,fun j hj=>?_⟩,⟨?_,fun j hj=>?_⟩,fun i h3 h4=>?_,fun w=>?_⟩
 ·by_cases c:i<q.1.length
  ·show 0<=nth r.1 (i:Int)
   rw[b.lets i c];exact a.pos i h3 c
  ·exact b.pos i (by omega) h4
 ·split
  ·exact f2
  ·exact a.bfi.1
 ·show p.1.length<=j/\j<r.1.length
  rcases (hfi j).1 hj with h | ⟨-,h⟩
  ·have:=a.bfi.2 j h;omega
  ·have:=b.bfi.2 j h;omega
 ·split
  ·exact l2
  ·exact b.bla.1
 ·show p.1.length<=j/\j<r.1.length
  rcases (hla j).1 hj with h | ⟨-,h⟩
  ·have:=b.bla.2 j h;omega
  ·have:=a.bla.2 j h;omega
 ·have h4:i<r.1.length:=h4
  show BS p.1.length r.1.length (nth (lk r.2.2.2.1 la fi2 r.2.2.2.1.length) (i:Int))
  by_cases c:i<q.1.length
  ·refine ⟨(nA i h3 c 0).2,fun j hj=>?_⟩
   rcases ((nA i h3 c j).1).1 hj with h | ⟨-,h⟩
   ·have:=(a.fo i h3 c).2 j h;omega
   ·have:=b.bfi.2 j h;omega
  ·rw[nB i (by omega) h4]
   exact (b.fo i (by omega) h4).mono h1 (aq _)
 ·have T:Two (fun i=>p.1.length<=i/\i<q.1.length) (fun i=>q.1.length<=i/\i<r.1.length) (FO (r.1,r.2.1,r.2.2.1,lk r.2.2.2.1 la fi2 r.2.2.2.1.length,r.2.2.2.2)) (FO q) (FO r) (LT (r.1,r.2.1,r.2.2.1,lk r.2.2.2.1 la fi2 r.2.2.2.1.length,r.2.2.2.2)) (LT q) (LT r) (bt fi) (bt fi2) (bt la) (bt la2):=⟨fun i j hs hf=>(a.fo i hs.1 hs.2).2 j hf,fun i j hs hf=>(b.fo i hs.1 hs.2).2 j hf,fun i hi=>a.bfi.2 i hi,fun i hi=>b.bfi.2 i hi,fun i hs=>k2 i hs.2,fun i hs=>rfl⟩
  have key:=VN (la:=bt (if nu2 then orI la la2 else la2)) (fi:=bt (if nu then orI fi fi2 else fi)) (nuA:=nu=true) (nuB:=nu2=true) T (fun i j hs=>by
   show bt (nth (lk r.2.2.2.1 la fi2 r.2.2.2.1.length) (i:Int)) j↔_
   rw[nB i hs.1 hs.2];rfl) (fun i hs=>by
   rw[hla]
   exact ⟨fun h=>h.resolve_right fun h=>by have:=(a.bla.2 i h.2).2;omega,.inl⟩) (fun i j hs=>(nA i hs.1 hs.2 j).1) (fun i hs=>by
   rw[hla]
   exact ⟨fun h=>h.resolve_left fun h=>by have:=(b.bla.2 i h).1;omega,.inr⟩) hfi (w:=w)
  have e:yA (GL (nu=true) (bt fi) (bt la) (FO q) (LT q)) (GL (nu2=true) (bt fi2) (bt la2) (FO r) (LT r))=yA A B:=by
   rw[show GL (nu=true) (bt fi) (bt la) (FO q) (LT q)=A from funext fun w=>propext (a.lang w),show GL (nu2=true) (bt fi2) (bt la2) (FO r) (LT r)=B from funext fun w=>propext (b.lang w)]
  rw[e,hA] at key
  rw[<-key,ai]
end
theorem Gl.star {p q:PosT} {nu:Bool} {fi la:Int} {A C:Lg} (a:Gl p q nu fi la A) (hn:q.1.length<=30) (hA: ∀w,Ij A w↔C w):Gl p (q.1,q.2.1,q.2.2.1,lk q.2.2.2.1 la fi q.2.2.2.1.length,q.2.2.2.2) true fi la C:=by
 have h1:=a.le
 have hlen:=a.len
 have lb: ∀i:Nat,i<q.1.length->(vJ la i=true↔bt la i):=fun i hi=>a.bla.bit (by omega) (by omega)
 have nl: ∀i:Nat,i<q.1.length->nth (lk q.2.2.2.1 la fi q.2.2.2.1.length) (i:Int)=if vJ la i=true then orI (nth q.2.2.2.1 (i:Int)) fi else nth q.2.2.2.1 (i:Int):=fun i hi=>by
  rw[Mn _ _ _ _ (aq _) i (by omega)]
  by_cases c:vJ la i=true
  ·rw[if_pos c,if_pos ⟨by omega,c⟩]
  ·rw[if_neg c,if_neg (fun h=>c h.2)]
 have nA: ∀i:Nat,p.1.length<=i->i<q.1.length-> ∀j,(bt (nth (lk q.2.2.2.1 la fi q.2.2.2.1.length) (i:Int)) j↔bt (nth q.2.2.2.1 (i:Int)) j\/(bt la i/\bt fi j))/\0<=nth (lk q.2.2.2.1 la fi q.2.2.2.1.length) (i:Int):=fun i h3 h4 j=>by
  rw[nl i h4]
  obtain ⟨o1,o2⟩:=(a.fo i h3 h4).or a.bfi (by omega) (by omega)
  by_cases c:vJ la i=true
  ·rw[if_pos c,o1 j]
   have:=(lb i h4).1 c
   exact ⟨⟨fun h=>h.imp id fun h=>⟨this,h⟩,fun h=>h.imp id (·.2)⟩,o2⟩
  ·rw[if_neg c]
   exact ⟨⟨.inl,fun h=>h.resolve_right fun h=>c ((lb i h4).2 h.1)⟩,(a.fo i h3 h4).1⟩
 refine ⟨a.le,by show (lk _ _ _ _).length=q.1.length;rw[rH];exact hlen,a.lets,fun i hi=>?_,a.pos,a.bfi,a.bla,fun i h3 h4=>⟨(nA i h3 h4 0).2,fun j hj=>?_⟩,fun w=>?_⟩
 ·show nth (lk q.2.2.2.1 la fi q.2.2.2.1.length) (i:Int)=_
  rw[nl i (by omega),if_neg fun c=>by have:=(a.bla.2 i ((lb i (by omega)).1 c)).1;omega]
  exact a.keep i hi
 ·rcases ((nA i h3 h4 j).1).1 hj with h | ⟨-,h⟩
  ·exact (a.fo i h3 h4).2 j h
  ·exact a.bfi.2 j h
 ·have key:=Tv (F:=FO q) (F':=FO (q.1,q.2.1,q.2.2.1,lk q.2.2.2.1 la fi q.2.2.2.1.length,q.2.2.2.2)) (lt:=LT q) (fi:=bt fi) (la:=bt la) (S:=fun i=>p.1.length<=i/\i<q.1.length) (nu:=nu=true) (fun i j hs=>(nA i hs.1 hs.2 j).1) (fun i j hs hf=>(a.fo i hs.1 hs.2).2 j hf) (fun i hi=>a.bfi.2 i hi) (w:=w)
  rw[show GL (nu=true) (bt fi) (bt la) (FO q) (LT q)=A from funext fun w=>propext (a.lang w),hA] at key
  rw[<-key]
  exact ⟨fun h=>h.imp (fun h=>⟨trivial,h.2⟩) id,fun h=>h.imp (fun h=>⟨rfl,h.2⟩) id⟩
def cx (x:Tr Tok):Nat:=(flat x).countP fun t=>decide (t.1=3)
def N7 (x:Tr Tok):Prop:= ∀t∈flat x,t.1≠7
theorem cx0 (t:Tok):cx (.node t [])=if t.1=3 then 1 else 0:=by unfold cx;rw[sy];by_cases c:t.1=3 <;> simp[c]
theorem cx1 (t:Tok) (a:Tr Tok):cx (.node t [a])=cx a+if t.1=3 then 1 else 0:=by unfold cx;rw[rj,List.countP_append];by_cases c:t.1=3 <;> simp[c]
theorem cx2 (t:Tok) (a b:Tr Tok):cx (.node t [a,b])=cx a+cx b+if t.1=3 then 1 else 0:=by unfold cx;rw[lC,List.countP_append,List.countP_append];by_cases c:t.1=3 <;> simp[c]
theorem XL {x:Tr Tok} (hx:N7 x): ∀(h:Nat) (low:Int),N7 (yy x h low)
 | 0,low=>by unfold N7;rw[yy,oC];simp
 | h+1,low=>by
  have ih:=XL hx h (max 0 (low - 1))
  unfold N7 at hx ih⊢
  rw[yy]
  split
  ·rw[lC]
   intro t ht
   simp only[List.mem_append,List.mem_singleton] at ht
   rcases ht with (ht | ht) | rfl
   ·exact hx t ht
   ·exact ih t ht
   ·simp
  ·rw[lC,lC,oC]
   intro t ht
   simp only[List.mem_append,List.mem_singleton] at ht
   rcases ht with (((ht | ht) | rfl) | rfl) | rfl
   ·exact hx t ht
   ·exact ih t ht
   all_goals simp
theorem X0 {x:Tr Tok} (h:WT x):N7 (nw x):=by
 refine WT.ind (p:=fun x=>N7 (nw x)) ?_ ?_ ?_ h
 ·intro t e u hu
  have:=no7 (.inr e)
  rw[T4 this,sy] at hu
  rw[au hu];exact this
 ·intro t a e wa ih
  rw[T3]
  split
  ·exact XL ih _ _
  ·rename_i c
   intro u hu
   rw[rj] at hu
   rcases aI hu with hu | hu
   ·exact ih u hu
   ·rw[au hu];exact c
 ·intro t a b e wa wb iha ihb u hu
  have:=no7 (.inl e)
  rw[exp2 this,lC] at hu
  simp only[List.mem_append,List.mem_singleton] at hu
  rcases hu with (hu | hu) | rfl
  ·exact iha u hu
  ·exact ihb u hu
  ·exact this
theorem TC {t:Tok} (h:0<=ar t) (k:t.1=3):0<=t.2.1/\t.2.1<=8:=by
 unfold ar at h
 grind
def BLa (x:Tr Tok):Prop:= ∀(n:Nat) (p:PosT),(flat x).length<=n->(flat x).length<=100000->p.2.2.2.1.length=p.1.length->p.1.length+cx x<=20->N7 x->
 ∃(nu:Bool) (fi la:Int) (q:PosT),bS n p (flat x)=some ((nu,fi,la),q)/\q.1.length=p.1.length+cx x/\Gl p q nu fi la (LX x)
theorem Iv {x:Tr Tok} (h:WT x):BLa x:=by
 refine WT.ind (p:=BLa) ?_ ?_ ?_ h
 ·intro t e n p hn hl hF hc h7
  rw[cx0] at hc⊢
  rw[sy] at hn hl⊢
  match n,hn with
  | n+1,_ =>
   rw[bS]
   have:=(ep (A:=[]) (t:=t) (by simp)).1
   rw[List.nil_append] at this
   rw[this];simp only[aa,kl]
   rcases fJ (show 0<=ar t by omega) with ⟨k,_⟩ | ⟨k,_⟩ | ⟨_,k⟩
   ·omega
   ·omega
   rcases k with k | k | k
   ·refine ⟨false,0,0,p,by simp[k],by simp[k],Gl.leaf hF fun w=>?_⟩
    rw[LX0];simp[opL,k]
   ·refine ⟨true,0,0,p,by simp[k],by simp[k],Gl.leaf hF fun w=>?_⟩
    rw[LX0];simp[opL,k]
   ·have h3:=TC (show 0<=ar t by omega) k
    rw[if_pos k] at hc
    refine ⟨false,pL 1 (p.1.length:Int),pL 1 (p.1.length:Int),(p.1++ [t.2.1],p.2.1,p.2.2.1,p.2.2.2.1++ [0],p.2.2.2.2),?_,by simp[k],Gl.letter hF (by omega) h3.1 fun w=>?_⟩
    ·rw[if_neg (by simp[k]),if_pos (by simp[k]),aJ (by simp;omega)];simp only[aa]
     rw[aJ (by simp;omega)];rfl
    ·rw[LX0];simp[opL,k]
 ·intro t a e wa ih n p hn hl hF hc h7
  rw[cx1] at hc⊢
  rw[rj] at hn hl⊢
  simp only[af,al,az] at hn hl
  match n,hn with
  | n+1,hn =>
   rw[bS]
   obtain ⟨l1,l2⟩:=ep (A:=flat a) (t:=t) (by omega)
   rw[l1];simp only[aa]
   have h7a:N7 a:=fun u hu=>h7 u (by rw[rj];exact aN _ hu)
   have h7t:t.1≠7:=h7 t (by rw[rj];simp)
   obtain ⟨nu,fi,la,q,hs,hq,hg⟩:=ih n p (by omega) (by omega) hF (by omega) h7a
   rcases Ig e with ⟨k1,k2⟩ | ⟨k1,k2,k3⟩
   ·have g2:(t.1==2)=false:=by simp[k2]
    have g3:(t.1==3)=false:=by simp[k2]
    have g4:(t.1==4)=false:=by simp[k2]
    have g5:(t.1==5)=false:=by simp[k2]
    simp only[g2,g3,g4,g5,k1,Bool.false_eq_true,if_false,if_true]
    rw[l2,Int.toNat_natCast,List.take_left,dX (by simp only[af,al,az];omega)];simp only[aa]
    rw[hs];simp only[aa,kl]
    have hql:=hg.len
    rw[GV (by omega)];simp only[aa]
    refine ⟨true,fi,la,_,rfl,?_,hg.star (by omega) fun w=>?_⟩
    ·rw[if_neg (by omega)];exact hq
    ·rw[LX1];simp[opL,k2]
   ·exact absurd k3 h7t
 ·intro t a b e wa wb iha ihb n p hn hl hF hc h7
  rw[cx2] at hc⊢
  rw[lC] at hn hl⊢
  have hl2:((flat a++flat b)++ [t]).length<=1000000:=by omega
  obtain ⟨p1,p2,p3,p4⟩:=oB (a:=a) (t:=t) wb hl2
  simp only[af,al,az] at hn hl
  match n,hn with
  | n+1,hn =>
   have hpa:=wa.pos
   have hpb:=wb.pos
   have h7a:N7 a:=fun u hu=>h7 u (by rw[lC];simp[hu])
   have h7b:N7 b:=fun u hu=>h7 u (by rw[lC];simp[hu])
   rw[bS]
   obtain ⟨l1,l2⟩:=ep (A:=flat a++flat b) (t:=t) (by rw[af];omega)
   rw[l1];simp only[aa]
   obtain ⟨nu,fi,la,q,hs,hq,hg⟩:=iha n p (by omega) (by omega) hF (by omega) h7a
   have hql:=hg.len
   obtain ⟨nu2,fi2,la2,q2,hs2,hq2,hg2⟩:=ihb n q (by omega) (by omega) hql (by omega) h7b
   have hql2:=hg2.len
   have hc3:(if t.1=3 then 1 else 0)=0:=if_neg (by
    rcases fJ (show 0<=ar t by omega) with ⟨_,k | k⟩ | ⟨k,_⟩ | ⟨k,_⟩ <;> omega)
   rcases fJ (show 0<=ar t by omega) with ⟨_,k⟩ | ⟨k,_⟩ | ⟨k,_⟩
   ·rcases k with k | k
    ·have g2:(t.1==2)=false:=by simp[k]
     have g3:(t.1==3)=false:=by simp[k]
     have g4:(t.1==4)=true:=by simp[k]
     have g5:(t.1==5)=false:=by simp[k]
     simp only[g2,g3,g4,g5,Bool.false_eq_true,if_false,if_true]
     rw[l2,p1,p2,dX (by simp only[af,al,az];omega)];simp only[aa]
     rw[dX (by simp only[af,al,az];omega),p3,p4,hs];simp only[aa]
     rw[dX (by simp only[af,al,az];omega)];simp only[aa,kl]
     rw[hs2];simp only[aa,kl]
     rw[GV (by omega)];simp only[aa]
     refine ⟨nu&&nu2,if nu then orI fi fi2 else fi,if nu2 then orI la la2 else la2,(q2.1,q2.2.1,q2.2.2.1,lk q2.2.2.2.1 la fi2 q2.2.2.2.1.length,q2.2.2.2.2),?_,?_,hg.cat hg2 (by omega) fun w=>?_⟩
     ·cases nu <;> cases nu2 <;> rfl
     ·rw[hc3];show q2.1.length=_;omega
     ·rw[LX2];simp[opL,k]
    ·have g2:(t.1==2)=false:=by simp[k]
     have g3:(t.1==3)=false:=by simp[k]
     have g4:(t.1==4)=false:=by simp[k]
     have g5:(t.1==5)=true:=by simp[k]
     simp only[g2,g3,g4,g5,Bool.false_eq_true,if_false,if_true]
     rw[l2,p1,p2,dX (by simp only[af,al,az];omega)];simp only[aa]
     rw[dX (by simp only[af,al,az];omega),p3,p4,hs];simp only[aa]
     rw[dX (by simp only[af,al,az];omega)];simp only[aa,kl]
     rw[hs2];simp only[aa,kl]
     refine ⟨nu || nu2,orI fi fi2,orI la la2,q2,?_,?_,hg.uni hg2 (by omega) fun w=>?_⟩
     ·cases nu <;> simp
     ·rw[hc3];omega
     ·rw[LX2];simp[opL,k]
   ·omega
   ·omega
end D
namespace D
open Go.RowKit
theorem E8 {κ:Type} [DecidableEq κ] {nx:κ->List (Option κ)} {first:κ} {acc:κ->Bool} {most:Nat} : ∀(f i:Nat),(∀j,j<i->j<(bfS nx first j).length)->(bfS nx first i).length<=most->goM nx first acc most f i=((0,[],[]),false)\/ ∃N,bfE nx first N/\N<=most/\goM nx first acc most f i=((0,(bfS nx first N).map acc,bfR nx first N),true)
 | 0,i,_,_=>.inl rfl
 | f+1,i,h,hl=>by
  have hle:=Bx h
  rw[goM]
  by_cases c:i<(bfS nx first i).length
  ·rw[if_pos c]
   by_cases d:(bfS nx first (i+1)).length>most
   ·rw[if_pos d];exact .inl rfl
   ·rw[if_neg d]
    exact E8 f (i+1) (fun j hj=>by
     by_cases e:j=i
     ·subst e;exact c
     ·exact h j (by omega)) (by omega)
  ·rw[if_neg c]
   exact .inr ⟨i,⟨by omega,h⟩,by omega,by rw[List.take_of_length_le (by omega)]⟩
end D
namespace D
open Go.RowKit
theorem By:Data.sm ((0,[],[]):AutT):=⟨trivial,⟨by decide,fun _ h=>by cases h⟩,by decide,fun _ h=>by cases h⟩
theorem Ds {e:List Tok} (he:e.length<=1048576): ∃r:AutT×Bool,dO e=some r/\gQ e=some r/\Data.sm r.1:=by
 obtain ⟨⟨p,b⟩,e1,e2,h1,h2⟩:=mN he
 have h1:p.2.2.2.1.length=p.1.length:=h1
 have h2:p.1.length<=100000:=h2
 unfold dO gQ
 rw[e1,e2];simp only[aa,kl]
 cases b with
 | false=>exact ⟨((0,[],[]),false),rfl,rfl,By⟩
 | true =>
  have d1:=VT (p:=p) (most:=200) h1 (by omega) (by omega) (by omega)
  have d2:=Xc (p:=p) (most:=200) h1 (by omega) (by omega) (by omega)
  have d1:gf p 200=_:=d1
  have d2:gO p 200=_:=d2
  rw[d1,d2];simp only[if_true,aa]
  rcases E8 (nx:=nxS p) (first:=1) (acc:=kt p) (most:=200) (200+2) 0 (fun j hj=>by omega) (by simp[bfS]) with e | ⟨N,hN,hNm,e⟩
  ·rw[e]
   exact ⟨((0,[],[]),false),rfl,rfl,By⟩
  ·rw[e];simp only[if_true]
   have V:=Mc (acc:=kt p) (uW p) hN
   obtain ⟨r,es,ei,hr⟩:=Pf V (by omega)
   unfold xp
   rw[es];simp only[aa,kl]
   rw[ei];simp only[aa,kl]
   by_cases c:(r.2.1.length:Int)>12
   ·have c':decide ((r.2.1.length:Int)>12)=true:=decide_eq_true c
    simp only[c',if_true,aa]
    exact ⟨((0,[],[]),false),rfl,rfl,By⟩
   ·have c':decide ((r.2.1.length:Int)>12)=false:=decide_eq_false c
    simp only[c',Bool.false_eq_true,if_false,aa]
    exact ⟨(r,true),rfl,rfl,hr⟩
theorem E9 {e:List Tok} (he:e.length<=1048576): ∃r:AutT×Bool,dO e=some r/\gQ e=some r/\Data.sm r.1:=Ds he
end D
namespace D
open Go.RowKit
section
variable {a:AutT} (V:VA a a.2.1.length) (hn:a.2.1.length<=12) (hs:Data.sm a)
include V hn hs
end
end D
namespace D
open Go.RowKit
def Step (a:AutT) (x y:Int):Prop:= ∃k:Nat,k<9/\mv a x k=y/\0<=y
section
variable {a:AutT} {n:Nat}
theorem Mo (V:VA a n) {x y:Int} (h0:0<=x) (h1:x<n) (h:Step a x y):0<=y/\y<n:=by
 obtain ⟨k,hk,rfl,hy⟩:=h
 exact ⟨hy,(V.mv h0 h1 hk).2⟩
theorem Ps (V:VA a n) {x y:Int} (h0:0<=x) (h1:x<n) (h:Relation.TransGen (Step a) x y):0<=y/\y<n:=by
 induction h with
 | single h=>exact Mo V h0 h1 h
 | tail _ h ih=>exact Mo V ih.1 ih.2 h
end
section
variable {a:AutT} {n:Nat}
end
end D
namespace D
open Go.RowKit
theorem Dt {a:AutT} {out:List Bool} {s:Nat} : ∀d,s+d<=out.length->cnt (eX a out s)<=cnt (eX a out (s+d))
 | 0,_=>aq _
 | d+1,hd=>by
  have ih:=Dt (a:=a) (out:=out) (s:=s) d (by omega)
  rw[show s+(d+1)=(s+d)+1 from rfl,eX]
  rcases qw (a:=a) (out:=eX a out (s+d)) (s:=s+d) (by rw[iG];omega) with ⟨e,-⟩ | ⟨e,-,-⟩
  ·rw[e];exact ih
  ·omega
section
variable {a:AutT} {n:Nat}
theorem yt (V:VA a n) {s t:Int} (s0:0<=s) (s1:s<n) (h:Step a s t) (ht:nth (live a) t=true):nth (live a) s=true:=by
 have hn:=V.len
 have hll:=pf a
 have hf:eX a (live a) a.2.1.length=live a:=LR a
 have same: ∀i,i<=a.2.1.length->eX a (live a) i=live a:=fun i hi=>by
  rcases q8 (a:=a) (out:=live a) i (by omega) with e | e
  ·exact e.1
  ·have:=Dt (a:=a) (out:=live a) (s:=i) (a.2.1.length - i) (by omega)
   rw[show i+(a.2.1.length - i)=a.2.1.length by omega,hf] at this
   omega
 have h1:=same (s.toNat+1) (by omega)
 rw[eX,same s.toNat (by omega)] at h1
 have hh:hit (live a) (nth a.2.2 ((s.toNat:Nat):Int))=true:=by
  rw[show ((s.toNat:Nat):Int)=s by omega]
  obtain ⟨k,hk,e,h0⟩:=h
  unfold hit
  rw[List.any_eq_true]
  refine ⟨t,?_,?_⟩
  ·rw[<-e];exact bB (by omega) (by rw[V.rowAt s0 s1];omega)
  ·unfold IE;simp[h0,ht]
 unfold qv at h1
 rw[if_pos hh] at h1
 rw[<-h1]
 exact eO s0 (by omega)
theorem Iw (V:VA a n) {s t:Int} (s0:0<=s) (s1:s<n) (h:Relation.TransGen (Step a) s t):nth (live a) t=true->nth (live a) s=true:=by
 induction h with
 | single h=>exact fun ht=>yt V s0 s1 h ht
 | tail h k ih =>
  have hb:=Ps V s0 s1 h
  exact fun ht=>ih (yt V hb.1 hb.2 k ht)
end
end D
namespace D
open Go.RowKit
section
variable {a:AutT} {n:Nat}
def In1 (n:Nat) (s:Int):Prop:= -1<=s/\s<n
theorem TE (V:VA a n) {s:Int} (h:In1 n s) {k:Nat} (hk:k<9):In1 n (mvn a s k):=by
 unfold mvn
 split
 ·exact ⟨Int.le_refl _,by omega⟩
 ·exact V.mv (by omega) h.2 hk
theorem QK (V:VA a n): ∀(w:List Nat) {x:Int},(∀k∈w,k<9)->0<=x->x<n->0<=oG a x w->oG a x w=x/\w= [] \/Relation.TransGen (Step a) x (oG a x w)
 | [],x,_,_,_,_=>.inl ⟨rfl,rfl⟩
 | k::w,x,hw,h0,h1,h=>by
  have hk:k<9:=hw k (by simp)
  have em:mvn a x k=mv a x k:=by unfold mvn;rw[if_neg (by omega)]
  have e:oG a x (k::w)=oG a (mv a x k) w:=by show oG a (mvn a x k) w=_;rw[em]
  rw[e] at h⊢
  have hm:0<=mv a x k:=by
   rcases Int.lt_or_le (mv a x k) 0 with q | q
   ·have:=q9 a w _ q;omega
   ·exact q
  have st:Step a x (mv a x k):=⟨k,hk,rfl,hm⟩
  rcases QK V w (x:=mv a x k) (fun j hj=>hw j (aZ _ hj)) hm (V.mv h0 h1 hk).2 h with ⟨q,-⟩ | q
  ·right;rw[q];exact .single st
  ·right;exact Relation.TransGen.trans (.single st) q
theorem Fa {out:List Bool} {s:Nat} {t:Int} (t0:0<=t) (h:nth out t=true):nth (qv a out s) t=true:=by
 unfold qv
 split
 ·by_cases e:(s:Int)=t
  ·subst e
   by_cases hl:s<out.length
   ·rw[bM (by rw[List.length_set];exact hl)];simp
   ·rw[List.set_eq_of_length_le (by omega)];exact h
  ·have:=fI (xs:=out) (x:=true) (i:=(s:Int)) (j:=t) (by omega) t0 e
   have h2:nth (out.set s true) t=nth out t:=by simpa using this
   rw[h2];exact h
 ·exact h
theorem Mq {t:Int} (t0:0<=t) (h:nth a.2.1 t=true): ∀j,nth (it a j) t=true
 | 0=>h
 | j+1=>by
  have key: ∀m,nth (eX a (it a j) m) t=true:=by
   intro m
   induction m with
   | zero=>exact Mq t0 h j
   | succ m ih=>exact Fa t0 ih
  exact key _
theorem Du (V:VA a n) {w:List Nat} {s:Int} (hw: ∀k∈w,k<9) (h0:0<=s) (h1:s<n) (h:acn a (oG a s w)=true):nth (live a) s=true:=by
 have hr:0<=oG a s w:=by
  unfold acn at h
  split at h
  ·cases h
  ·omega
 have hl:nth (live a) (oG a s w)=true:=Mq hr (by
  unfold acn at h
  rw[if_neg (by omega)] at h;exact h) _
 rcases QK V w hw h0 h1 hr with ⟨q,-⟩ | q
 ·rw[q] at hl;exact hl
 ·exact Iw V h0 h1 q hl
end
section
variable {a:AutT} {n:Nat}
end
end D
namespace D
open Go.RowKit
theorem Ix {a:AutT} {n:Nat} (V:VA a n) {c:List Int} {nx:Int->List (Option Int)} {ac:Int->Bool} (hnx: ∀r,good n (live a) r->nx (nth c r)=pg a c (live a) r) (hac: ∀r,good n (live a) r->ac (nth c r)=nth a.2.1 r):Quot a nx ac (fun s=>nth c s) (good n (live a)) (In1 n):=by
 have hs: ∀(s:Int) (k:Nat),k<9->nth (pg a c (live a) s) (k:Int)=if 0<=mv a s k/\nth (live a) (mv a s k)=true then some (nth c (mv a s k)) else none:=fun s k hk=>by
  unfold pg;rw[bM (by simpa using hk)];simp
 refine ⟨⟨by have:=V.start;omega,V.start.2⟩,fun s k hi hk=>TE V hi hk,fun s h=>h.1,fun s k h hk hg=>?_,fun s k h hk hg=>?_,fun s h=>hac s h,fun s k hi hk hb hg=>?_,fun s hi hb=>?_⟩
 ·show nth (nx (nth c s)) (k:Int)=_
  rw[hnx s h,hs s k hk,if_pos ⟨hg.1,hg.2.2⟩]
 ·show nth (nx (nth c s)) (k:Int)=_
  rw[hnx s h,hs s k hk,if_neg fun q=>hg ⟨q.1,(V.mv h.1 h.2.1 hk).2,q.2⟩]
 ·rcases Int.lt_or_le s 0 with q | q
  ·have:mvn a s k= -1:=by unfold mvn;rw[if_pos q]
   rw[this] at hg
   have:=hg.1;omega
  ·have e:mvn a s k=mv a s k:=by unfold mvn;rw[if_neg (by omega)]
   rw[e] at hg
   exact hb ⟨q,hi.2,yt V q hi.2 ⟨k,hk,rfl,hg.1⟩ hg.2.2⟩
 ·rcases Int.lt_or_le s 0 with q | q
  ·unfold acn;rw[if_pos q]
  ·cases h:acn a s with
   | false=>rfl
   | true=>exact absurd ⟨q,hi.2,Du V (w:=[]) (fun k hk=>by cases hk) q hi.2 h⟩ hb
theorem Mr {a r:AutT} {n N:Nat} (V:VA a n) {c:List Int} {nx:Int->List (Option Int)} {ac:Int->Bool} (hnx: ∀r,good n (live a) r->nx (nth c r)=pg a c (live a) r) (hac: ∀r,good n (live a) r->ac (nth c r)=nth a.2.1 r) (hs:nth (live a) a.1=true) (H:NumA r nx (nth c a.1) ac N) {w:List Nat} (hw: ∀k∈w,k<9):acw r w=acw a w:=
 (Ix V hnx hac).acw ⟨V.start.1,V.start.2,hs⟩ H hw
theorem GY {a:AutT} {n:Nat} (V:VA a n) (hs:nth (live a) a.1=false) {w:List Nat} (hw: ∀k∈w,k<9):acw a w=false:=by
 cases h:acw a w with
 | false=>rfl
 | true =>
  have:=Du V hw V.start.1 V.start.2 h
  rw[hs] at this;cases this
end D
namespace D
open Go.RowKit
section
variable {a b:AutT} {n m:Nat}
end
section
variable {κ μ:Type} [DecidableEq κ] [DecidableEq μ] {f:κ->μ}
variable {nx:κ->List (Option κ)} {nx':μ->List (Option μ)} {first:κ}
end
end D
namespace D
open Go.RowKit
theorem Fb {w:List Nat} (hw: ∀k∈w,k<9):acw nothing w=false:=GY zX (by decide) hw
theorem TG {a r:AutT} {n:Nat} (V:VA a n) (h:XK a n r) {w:List Nat} (hw: ∀k∈w,k<9):acw r w=acw a w:=by
 rcases h with ⟨hs,rfl⟩ | ⟨hs,j,c,nx,ac,N,-,hnx,hac,hE,hl,rfl⟩
 ·rw[GY V hs hw,Fb hw]
 ·exact Mr V hnx hac hs ⟨hE,rfl,rfl,rfl,hl⟩ hw
end D
namespace D
open Go.RowKit
structure PosOk (p:PosT):Prop where
 n20:p.1.length<=20
 len:p.2.2.2.1.length=p.1.length
 fi:BS 0 p.1.length p.2.1
 la:BS 0 p.1.length p.2.2.1
 fo: ∀i:Nat,i<p.1.length->BS 0 p.1.length (nth p.2.2.2.1 (i:Int))
 pos: ∀i:Nat,i<p.1.length->0<=nth p.1 (i:Int)
theorem Dv {F:List Int} {n:Nat} (hn:n<=20) (hF:F.length=n) (hfo: ∀i:Nat,i<n->BS 0 n (nth F (i:Int))) {s m0:Int} (hs:BS 0 (n+1) s) (hm:BS 0 n m0): ∀i,i<=n->BS 0 n (E6 F s m0 i)/\ ∀j,bt (E6 F s m0 i) j↔bt m0 j\/ ∃i',i'<i/\bt s (i'+1)/\bt (nth F (i':Int)) j
 | 0,_=>⟨hm,fun j=>by
  show bt m0 j↔_
  constructor
  ·exact .inl
  ·rintro (h | ⟨i',h,-⟩)
   ·exact h
   ·omega⟩
 | i+1,hi=>by
  obtain ⟨h1,h2⟩:=Dv hn hF hfo hs hm i (by omega)
  rw[E6]
  have hb:=hs.bit (j:=i+1) (by omega) (by omega)
  by_cases c:vJ s (i+1)=true
  ·rw[if_pos c]
   obtain ⟨o1,o2⟩:=h1.or (hfo i (by omega)) (by omega) (by omega)
   have key: ∀j,bt (orI (E6 F s m0 i) (nth F (i:Int))) j↔bt m0 j\/ ∃i',i'<i+1/\bt s (i'+1)/\bt (nth F (i':Int)) j:=fun j=>by
    rw[o1,h2]
    constructor
    ·rintro ((h | ⟨i',h,k⟩) | h)
     ·exact .inl h
     ·exact .inr ⟨i',by omega,k⟩
     ·exact .inr ⟨i,by omega,hb.1 c,h⟩
    ·rintro (h | ⟨i',h,k1,k2⟩)
     ·exact .inl (.inl h)
     ·by_cases e:i'=i
      ·subst e;exact .inr k2
      ·exact .inl (.inr ⟨i',by omega,k1,k2⟩)
   exact ⟨⟨o2,fun j hj=>by
    rcases (o1 j).1 hj with h | h
    ·exact h1.2 j h
    ·exact (hfo i (by omega)).2 j h⟩,key⟩
  ·rw[if_neg c]
   refine ⟨h1,fun j=>?_⟩
   rw[h2]
   constructor
   ·rintro (h | ⟨i',h,k⟩)
    ·exact .inl h
    ·exact .inr ⟨i',by omega,k⟩
   ·rintro (h | ⟨i',h,k1,k2⟩)
    ·exact .inl h
    ·by_cases e:i'=i
     ·subst e;exact absurd (hb.2 k1) c
     ·exact .inr ⟨i',by omega,k1,k2⟩
theorem Dw {L:List Int} {n:Nat} (hn:n<=20) {m k:Int} (hm:BS 0 n m): ∀i,i<=n->BS 1 (n+1) (pick L m k i)/\ ∀j,bt (pick L m k i) (j+1)↔j<i/\nth L (j:Int)=k/\bt m j
 | 0,_=>⟨.zero,fun j=>by
  show bt 0 (j+1)↔_
  constructor
  ·intro h;exact absurd h yq
  ·rintro ⟨h,-⟩;omega⟩
 | i+1,hi=>by
  obtain ⟨h1,h2⟩:=Dw hn hm i (by omega)
  rw[pick]
  have hb:=hm.bit (j:=i) (by omega) (by omega)
  by_cases c:nth L (i:Int)=k/\vJ m i=true
  ·rw[if_pos c]
   have h3:BS (i+1) (i+1+1) (pL 1 ((i+1:Nat):Int)):=Mm (by omega)
   obtain ⟨o1,o2⟩:=h1.or h3 (by omega) (by omega)
   refine ⟨⟨o2,fun j hj=>?_⟩,fun j=>?_⟩
   ·rcases (o1 j).1 hj with h | h
    ·exact h1.2 j h
    ·have:=h3.2 j h;omega
   ·rw[o1,h2,Ab (by omega)]
    constructor
    ·rintro (⟨q1,q2⟩ | h)
     ·exact ⟨by omega,q2⟩
     ·obtain rfl:j=i:=by omega
      exact ⟨by omega,c.1,hb.1 c.2⟩
    ·rintro ⟨q1,q2⟩
     by_cases e:j=i
     ·exact .inr (by omega)
     ·exact .inl ⟨by omega,q2⟩
  ·rw[if_neg c]
   refine ⟨h1,fun j=>?_⟩
   rw[h2]
   constructor
   ·rintro ⟨q1,q2⟩
    exact ⟨by omega,q2⟩
   ·rintro ⟨q1,q2,q3⟩
    by_cases e:j=i
    ·subst e;exact absurd ⟨q2,hb.2 q3⟩ c
    ·exact ⟨by omega,q2,q3⟩
theorem XM {n:Nat} {s:Int} (hs:BS 0 n s) (hn:n<=30):((lf s 1)==1)=true↔bt s 0:=by
 obtain ⟨f,rfl,h1⟩:=hs.nat hn
 rw[show (1:Int)=((1:Nat):Int) from rfl,Bg h1 (by decide)]
 unfold bt
 rw[Int.toNat_natCast,Nat.testBit_zero,Nat.and_one_is_mod,decide_eq_true_eq]
 rw[beq_iff_eq]
 omega
theorem meet {n m:Nat} {s l:Int} (hs:BS 0 n s) (hl:BS 0 m l) (hn:n<=30) (hm:m<=30):((lf (ku s 1) l) !=0)=true↔ ∃i,bt s (i+1)/\bt l i:=by
 obtain ⟨f,rfl,h1⟩:=hs.nat hn
 obtain ⟨g,rfl,h2⟩:=hl.nat hm
 have h3:f >>> 1<2 ^ 62:=Nat.lt_of_le_of_lt (by rw[Nat.shiftRight_eq_div_pow];exact Nat.div_le_self _ _) h1
 rw[show (1:Int)=((1:Nat):Int) from rfl,xT (by decide),Bg h3 h2]
 rw[bne_iff_ne]
 unfold bt
 simp only[Int.toNat_natCast]
 constructor
 ·intro h
  apply Classical.byContradiction
  intro hc
  refine h ?_
  have:f >>> 1 &&& g=0:=Nat.eq_of_testBit_eq fun i=>by
   rw[Nat.testBit_and,Nat.testBit_shiftRight,Nat.zero_testBit]
   cases c1:f.testBit (1+i) with
   | false=>rfl
   | true =>
    cases c2:g.testBit i with
    | false=>rfl
    | true=>exact absurd ⟨i,by rw[Nat.add_comm];exact c1,c2⟩ hc
  rw[this];rfl
 ·rintro ⟨i,k1,k2⟩ h
  have h:f >>> 1 &&& g=0:=by omega
  have:(f >>> 1 &&& g).testBit i=true:=by
   rw[Nat.testBit_and,Nat.testBit_shiftRight,Nat.add_comm,k1,k2];rfl
  rw[h] at this;simp at this
section
variable {p:PosT} (H:PosOk p)
include H
theorem Pt {s k:Int} (hs:BS 0 (p.1.length+1) s):BS 1 (p.1.length+1) (aft p s k)/\ ∀j,bt (aft p s k) (j+1)↔j<p.1.length/\nth p.1 (j:Int)=k/\((bt s 0/\bt p.2.1 j)\/ ∃i,i<p.1.length/\bt s (i+1)/\FO p i j):=by
 have hn:=H.n20
 unfold aft
 have h0:=XM hs (by omega)
 have hm:BS 0 p.1.length (if (lf s 1)==1 then p.2.1 else 0):=by
  split
  ·exact H.fi
  ·exact .zero
 obtain ⟨g1,g2⟩:=Dv hn H.len H.fo hs hm p.2.2.2.1.length (by rw[H.len];omega)
 obtain ⟨k1,k2⟩:=Dw (L:=p.1) (k:=k) hn g1 p.1.length (aq _)
 refine ⟨k1,fun j=>?_⟩
 rw[k2,g2,H.len]
 have:bt (if (lf s 1)==1 then p.2.1 else 0) j↔bt s 0/\bt p.2.1 j:=by
  by_cases c:((lf s 1)==1)=true
  ·rw[if_pos c];exact ⟨fun h=>⟨h0.1 c,h⟩,(·.2)⟩
  ·rw[if_neg c];exact ⟨fun h=>absurd h yq,fun h=>absurd (h0.2 h.1) c⟩
 rw[this];rfl
theorem Pu {s:Int} (hs:BS 0 (p.1.length+1) s):kt p s=true↔(bt s 0/\p.2.2.2.2=true)\/ ∃i,bt s (i+1)/\bt p.2.2.1 i:=by
 have hn:=H.n20
 unfold kt
 have h0:=XM hs (by omega)
 have h1:=meet hs H.la (by omega) (by omega)
 by_cases c:((lf s 1)==1)=true
 ·rw[if_pos c]
  cases hnu:p.2.2.2.2 with
  | true=>simp only[if_true];exact ⟨fun _=>.inl ⟨h0.1 c,trivial⟩,fun _=>trivial⟩
  | false=>simp only[Bool.false_eq_true,if_false,and_false,false_or];exact h1
 ·rw[if_neg c,h1]
  exact ⟨.inr,fun h=>h.resolve_left fun h=>c (h0.2 h.1)⟩
theorem Ms: ∀(w:List Nat) (s:Int),BS 0 (p.1.length+1) s->(kt p (IG p s w)=true↔(bt s 0/\GL (p.2.2.2.2=true) (bt p.2.1) (bt p.2.2.1) (FO p) (LT p) w)\/ ∃i,i<p.1.length/\bt s (i+1)/\((w= [] /\bt p.2.2.1 i)\/ ∃j,FO p i j/\Pth (FO p) (LT p) (bt p.2.2.1) j w))
 | [],s,hs=>by
  show kt p s=true↔_
  rw[Pu H hs]
  constructor
  ·rintro (⟨h1,h2⟩ | ⟨i,h1,h2⟩)
   ·exact .inl ⟨h1,.inl ⟨h2,rfl⟩⟩
   ·exact .inr ⟨i,(H.la.2 i h2).2,h1,.inl ⟨rfl,h2⟩⟩
  ·rintro (⟨h1,⟨h2,-⟩ | ⟨i,-,h2⟩⟩ | ⟨i,-,h1,⟨-,h2⟩ | ⟨j,-,h2⟩⟩)
   ·exact .inl ⟨h1,h2⟩
   ·exact absurd rfl h2.ne
   ·exact .inr ⟨i,h1,h2⟩
   ·exact absurd rfl h2.ne
 | k::w,s,hs=>by
  obtain ⟨a1,a2⟩:=Pt H (k:=(k:Int)) hs
  show kt p (IG p (aft p s (k:Int)) w)=true↔_
  rw[Ms w _ (a1.mono (by omega) (aq _))]
  have hk: ∀j,j<p.1.length->(nth p.1 (j:Int)=(k:Int)↔LT p j=k):=fun j hj=>by
   have:=H.pos j hj
   unfold LT;omega
  constructor
  ·rintro (⟨h1,-⟩ | ⟨j,h1,h2,h3⟩)
   ·have:=(a1.2 0 h1).1;omega
   ·obtain ⟨b1,b2,b3⟩:=(a2 j).1 h2
    have hp:Pth (FO p) (LT p) (bt p.2.2.1) j (k::w):=Pth.iff.2 ⟨(hk j h1).1 b2,h3⟩
    rcases b3 with ⟨b3,b4⟩ | ⟨i,b3,b4,b5⟩
    ·exact .inl ⟨b3,.inr ⟨j,b4,hp⟩⟩
    ·exact .inr ⟨i,b3,b4,.inr ⟨j,b5,hp⟩⟩
  ·have fin: ∀j,j<p.1.length->Pth (FO p) (LT p) (bt p.2.2.1) j (k::w)->((bt s 0/\bt p.2.1 j)\/ ∃i,i<p.1.length/\bt s (i+1)/\FO p i j)-> ∃j,j<p.1.length/\bt (aft p s (k:Int)) (j+1)/\((w= [] /\bt p.2.2.1 j)\/ ∃j',FO p j j'/\Pth (FO p) (LT p) (bt p.2.2.1) j' w):=fun j hj hp hc=>by
    obtain ⟨q1,q2⟩:=Pth.iff.1 hp
    exact ⟨j,hj,(a2 j).2 ⟨hj,(hk j hj).2 q1,hc⟩,q2⟩
   rintro (⟨h1,⟨-,h2⟩ | ⟨j,h2,h3⟩⟩ | ⟨i,h1,h2,⟨h3,-⟩ | ⟨j,h3,h4⟩⟩)
   ·cases h2
   ·exact .inr (fin j (H.fi.2 j h2).2 h3 (.inl ⟨h1,h2⟩))
   ·cases h3
   ·exact .inr (fin j ((H.fo i h1).2 j h3).2 h4 (.inr ⟨i,h1,h2,h3⟩))
theorem TH (w:List Nat):kt p (IG p 1 w)=true↔GL (p.2.2.2.2=true) (bt p.2.1) (bt p.2.2.1) (FO p) (LT p) w:=by
 have h1: ∀j,bt 1 j↔j=0:=fun j=>by
  have:=Ab (n:=0) (j:=j) (by omega)
  rw[nO (by omega)] at this
  exact this
 rw[Ms H w 1 ⟨by omega,fun j hj=>by have:=(h1 j).1 hj;omega⟩]
 constructor
 ·rintro (⟨-,h⟩ | ⟨i,-,h,-⟩)
  ·exact h
  ·have:=(h1 _).1 h;omega
 ·intro h
  exact .inl ⟨(h1 0).2 rfl,h⟩
end
theorem Mt (e:List Tok): ∀i,i<=e.length->Aa e i=(e.take i).countP fun t=>decide (t.1=3)
 | 0,_=>rfl
 | i+1,hi=>by
  rw[Aa,Mt e i (by omega),tS (by omega),List.countP_append]
  by_cases c:(nth e (i:Int)).1=3 <;> simp[c]
theorem Bz {e:List Tok} (he:e.length<=1048576) {p:PosT} (h:du e=some (p,true)): ∃x,WT x/\flat x=e/\e.length<=24/\PosOk p/\ ∀w,kt p (IG p 1 w)=true↔LX x w:=by
 have hF:=kY
 obtain ⟨e1,e2⟩:=yd he
 unfold du at h
 rw[e1] at h;simp only[aa] at h
 by_cases c:(yc e).2=true
 ·have c':=c
  unfold yc at c'
  split at c'
  ·rename_i cx0
   have cx1:=cx0
   rw[ai] at cx1
   obtain ⟨x,h1,hw,hfl⟩:=zP cx1.2
   have hexp:(yc e).1=flat (nw x)/\(flat (nw x)).length<=400:=by
    have hx:sA e=x:=by rw[<-hfl];exact lY hw
    unfold yc
    rw[if_pos cx0]
    rw[hx] at c'⊢
    split at c'
    ·cases c'
    ·rename_i c2
     rw[if_neg c2]
     split at c'
     ·cases c'
     ·rename_i c3
      rw[if_neg c3]
      exact ⟨rfl,by omega⟩
   have wy:=LD hw
   rw[if_pos c,ah (VU (by rw[hexp.1];omega))] at h
   simp only at h
   by_cases d:(Aa (yc e).1 (yc e).1.length:Int)>20
   ·have d':decide ((Aa (yc e).1 (yc e).1.length:Int)>20)=true:=decide_eq_true d
    simp only[d',if_true] at h
    cases h
   ·have d':decide ((Aa (yc e).1 (yc e).1.length:Int)>20)=false:=decide_eq_false d
    have hc20:cx (nw x)<=20:=by
     rw[Mt _ _ (aq _),List.take_length,hexp.1] at d
     unfold cx;omega
    simp only[d',Bool.false_eq_true,if_false] at h
    rw[hexp.1] at h
    obtain ⟨nu,fi,la,q,hs,hq1,hg⟩:=Iv wy dn ([],0,0,[],false) (by omega) (by omega) rfl (by simpa using hc20) (X0 hw)
    rw[hs] at h;simp only[aa] at h
    have hlen:=hg.len
    have hq1:q.1.length=0+cx (nw x):=hq1
    have hp:p=(q.1,fi,la,q.2.2.2.1,nu):=by
     have:=ae h
     exact (congrArg Prod.fst this).symm
    subst hp
    have P:PosOk (q.1,fi,la,q.2.2.2.1,nu):=⟨by show q.1.length<=20;omega,hlen,hg.bfi,hg.bla,fun i hi=>hg.fo i (Nat.zero_le _) hi,fun i hi=>hg.pos i (Nat.zero_le _) hi⟩
    refine ⟨x,hw,hfl,of_decide_eq_true cx1.1,P,fun w=>?_⟩
    rw[TH P,<-Vs hw]
    exact hg.lang w
  ·cases c'
 ·rw[if_neg c] at h
  simp at h
theorem Mu {e:List Tok} (he:e.length<=1048576) {r:AutT} (h:dO e=some (r,true)): ∃x,WT x/\flat x=e/\e.length<=24/\(VA r r.2.1.length/\r.2.1.length<=12)/\ ∀w:List Nat,(∀k∈w,k<9)->(acw r w=true↔LX x w):=by
 obtain ⟨⟨p,b⟩,e1,e2,h1,h2⟩:=mN he
 have h1:p.2.2.2.1.length=p.1.length:=h1
 have h2:p.1.length<=100000:=h2
 unfold dO at h
 rw[e1] at h;simp only[aa,kl] at h
 cases b with
 | false=>simp at h
 | true =>
  obtain ⟨x,hw,hfl,h24,P,hL⟩:=Bz he e1
  have d1:=VT (p:=p) (most:=200) h1 (by omega) (by omega) (by omega)
  have d1:gf p 200=_:=d1
  rw[d1] at h;simp only[if_true,aa] at h
  rcases E8 (nx:=nxS p) (first:=1) (acc:=kt p) (most:=200) (200+2) 0 (fun j hj=>by omega) (by simp[bfS]) with e | ⟨N,hN,hNm,e⟩
  ·rw[e] at h;simp at h
  ·rw[e] at h;simp only[if_true] at h
   have V:=Mc (acc:=kt p) (uW p) hN
   obtain ⟨q,es,ei,hr,hv,-,hf⟩:=zY V (by omega)
   rw[es] at h;simp only[aa,kl] at h
   by_cases c:(q.2.1.length:Int)>12
   ·have c':decide ((q.2.1.length:Int)>12)=true:=decide_eq_true c
    simp[c'] at h
   ·have c':decide ((q.2.1.length:Int)>12)=false:=decide_eq_false c
    simp only[c',Bool.false_eq_true,if_false,aa,Option.some.injEq,Prod.mk.injEq,and_true] at h
    have h:q=r:=by first | exact h | (obtain ⟨k1,k2,k3⟩:=h;exact Prod.ext k1 (Prod.ext k2 k3))
    subst h
    refine ⟨x,hw,hfl,h24,⟨hv,by omega⟩,fun w hw=>?_⟩
    rw[TG V hf hw,<-hL w]
    rw[TA (N:=N) ⟨hN,rfl,rfl,rfl,fun x _=>uW p x⟩ hw]
end D
open Go.ChangeShapes Go.WideShapes Go.ChangeAt Go.RowKit
theorem own:ownKnob Tryz.prog.godebug=none:=by kernel_rfl
theorem laidOut:laidOutB Tryz.prog=true:=by kernel_rfl
theorem ub {H:Type} {enc:TypeId×Value->H} {P:Program} (hl:laidOutB P=true) {W W':World} (hb:Below W.heap.size W W') :
  ∀ {ts:List TypeId} {vs:List Value} {ds:List (DataW H)} {ps:List MemPlace},(∀t∈ts,P.readableRec t=true/\t<P.types.size)->
   DataW.TrodAll enc P W 0 (fun _=>true) true ts vs ds ps->(∀x∈ps,x.block<W.heap.size)->DataW.TrodAll enc P W' 0 (fun b=>decide (b<W.heap.size)) true ts vs ds ps
 | [],[],[],ps,_,h,_=>h
 | t::ts,v::vs,d::ds,ps,hr,⟨p,q,h1,h2,h3⟩,hlt=>by
  subst h3
  exact ⟨p,q,Below.trod hl (hr t (by simp)).1 (hr t (by simp)).2 h1 hb fun x hx=>hlt x (by simp[hx]),ub hl hb (fun t ht=>hr t (by simp[ht])) h2 fun x hx=>hlt x (by simp[hx]),rfl⟩
 | [],_::_,_,_,_,h,_=>h.elim
 | [],[],_::_,_,_,h,_=>h.elim
 | _::_,[],_,_,_,h,_=>h.elim
 | _::_,_::_,[],_,_,h,_=>h.elim
theorem Pv {H:Type} {enc:TypeId×Value->H} {f:Func} {s:ChangeSpec} {W W':World} {args:Array Value} {ds:List (DataW H)} {before:List MemPlace} (tb:TypeId)
  (hb:Tryz.prog.underlying tb=some .bool) (hr:f.resultTypes= #[tb]) (hp:(f.params.toList.all fun t=>Tryz.prog.readableRec t&&decide (t<Tryz.prog.types.size))=true) (hv:s.vars= [])
  (hW:DataW.Whole enc Tryz.prog f.params.toList s.vars false W args.toList ds [] before) (hres:(s.fn H (ds++ [])).results= [.lit (.bool true)]) (hargs:(s.fn H (ds++ [])).args=ds) (hvars:(s.fn H (ds++ [])).vars= [])
  (hbel:Below W.heap.size W W'):s.post enc Tryz.prog f false true false false W args (.bool true) W':=by
 obtain ⟨p,q,h1,h2,h3,h4,h5⟩:=hW
 have hW':DataW.Whole enc Tryz.prog f.params.toList s.vars false W args.toList ds [] before:=⟨p,q,h1,h2,h3,h4,h5⟩
 have hq:q= []:=by rw[hv] at h2;exact h2
 subst hq
 simp only[List.append_nil] at h3
 subst h3
 refine ⟨ds,[],before,[],before,[],hW',?_,?_,?_,hbel.frame _,fun h=>by cases h⟩
 ·rw[hres,hr]
  exact trodAll_mk1 (shut_bool hb true)
 ·rw[hargs]
  exact ub laidOut hbel (fun t ht=>by have:=List.all_eq_true.1 hp t ht;simpa using this) h1 fun x hx=>by simpa using hW'.lt x hx
 ·rw[hvars,hv];rfl
namespace D
open Go.RowKit
theorem TJ (x y:AutT) (hx:Data.sm x):nY x y=some (decide (x=y)):=by
 obtain ⟨-,⟨ha,-⟩,hn,hr⟩:=hx
 unfold nY
 by_cases c1:x.1=y.1
 case neg=>rw[if_pos (by simpa using c1)];simp[Prod.ext_iff,c1]
 rw[if_neg (by simpa using c1)]
 by_cases c2:x.2.1.length=y.2.1.length
 case neg=>rw[if_pos (by simp;omega)];simp[Prod.ext_iff];exact fun _ e=>absurd (by rw[e]) c2
 rw[if_neg (by simp;omega)]
 by_cases c3:x.2.2.length=y.2.2.length
 case neg=>rw[if_pos (by simp;omega)];simp[Prod.ext_iff];exact fun _ _ e=>absurd (by rw[e]) c3
 rw[if_neg (by simp;omega)]
 rw[eqB (f:=fc x y) x.2.1 y.2.1 (by omega) c2 (fun i h h'=>by
  simp only[fc,eN h,if_true,aW h,aW h',aa,ak (show i<9223372036854775807 by omega)]
  by_cases c:x.2.1[i] =y.2.1[i] <;> simp[c]) (by simp only[fc,eU];rfl)]
 by_cases c4:x.2.1=y.2.1
 case neg=>rw[if_neg c4];simp[Prod.ext_iff,c4]
 rw[if_pos c4]
 rw[eqB (f:=fe x y) x.2.2 y.2.2 (by omega) c3 (fun i h h'=>by
  obtain ⟨r,e,hr'⟩:=EY x.2.2[i] y.2.2[i] ((hr _ (List.getElem_mem h)).1)
  simp only[fe,eN h,if_true,aW h,aW h',aa,ak (show i<9223372036854775807 by omega),e]
  by_cases c:x.2.2[i] =y.2.2[i]
  ·rw[if_neg (by simpa using hr'.2 c),if_pos c]
  ·rw[if_pos (by simpa using fun e=>c (hr'.1 e)),if_neg c]) (by simp only[fe,eU];rfl)]
 by_cases c5:x.2.2=y.2.2
 ·rw[if_pos c5];simp[Prod.ext_iff,c1,c4,c5]
 ·rw[if_neg c5];simp[Prod.ext_iff,c5]
theorem Pw (xs ys:List Bool) (hN:xs.length<=9223372036854775807):dE xs ys=some (decide (xs=ys)):=
 eqL (f:=bV xs ys) xs ys hN (fun i h h'=>by
  simp only[bV,eN h,if_true,aW h,aW h',aa,ak (show i<9223372036854775807 by omega)]
  by_cases c:xs[i] =ys[i] <;> simp[c]) (by simp only[bV,eU];rfl)
theorem Fc (x y:AutT) (hx:Data.sm x):ir x y=some (decide (x=y)):=by
 obtain ⟨-,⟨ha,-⟩,hn,hr⟩:=hx
 unfold ir
 by_cases c1:x.1=y.1
 case neg=>rw[if_neg (by simpa using c1)];simp[Prod.ext_iff,c1]
 rw[if_pos (by simpa using c1),Pw _ _ (by omega)];simp only[aa]
 by_cases c2:x.2.1=y.2.1
 case neg=>rw[if_neg (by simpa using c2)];simp[Prod.ext_iff,c2]
 rw[if_pos (by simpa using c2)]
 have:bz x.2.2 y.2.2 (fun a0 a1=>fP a0 a1)=some (decide (x.2.2=y.2.2)):=
  eqL (f:=aU x.2.2 y.2.2 _) x.2.2 y.2.2 (by omega) (fun i h h'=>by
   simp only[aU,eN h,if_true,aW h,aW h',aa,ak (show i<9223372036854775807 by omega),fP]
   rw[Dg _ _ (by have:x.2.2[i].length<=1048576:=(hr _ (List.getElem_mem h)).1;omega)];simp only[aa]
   by_cases c:x.2.2[i] =y.2.2[i] <;> simp[c]) (by simp only[aU,eU];rfl)
 rw[this]
 by_cases c3:x.2.2=y.2.2 <;> simp[Prod.ext_iff,c1,c2,c3]
end D
set_option synthInstance.maxSize 20000
set_option synthInstance.maxHeartbeats 2000000
namespace D
open Go.RowKit
end D
set_option synthInstance.maxSize 20000
set_option synthInstance.maxHeartbeats 2000000
namespace D
open Go.RowKit
end D
set_option synthInstance.maxSize 20000
set_option synthInstance.maxHeartbeats 2000000
namespace D
open Go.RowKit
end D
set_option synthInstance.maxSize 20000
set_option synthInstance.maxHeartbeats 2000000
namespace D
open Go.RowKit
end D
set_option synthInstance.maxSize 20000
set_option synthInstance.maxHeartbeats 2000000
namespace D
open Go.RowKit
end D
set_option synthInstance.maxSize 20000
set_option synthInstance.maxHeartbeats 2000000
namespace D
open Go.RowKit
end D
set_option synthInstance.maxSize 20000
set_option synthInstance.maxHeartbeats 2000000
namespace D
open Go.RowKit
end D
set_option synthInstance.maxSize 20000
set_option synthInstance.maxHeartbeats 2000000
namespace D
open Go.RowKit
end D
namespace D
open Go.RowKit
theorem GZ (x:Int):0<=lf x 255/\lf x 255<=255:=by
 have h:(BitVec.ofInt 64 x &&& BitVec.ofInt 64 255).toNat<=255:=by
  rw[BitVec.toNat_and]
  exact Nat.le_trans Nat.and_le_right (by decide)
 unfold lf
 rw[bQ (by omega) (by omega)]
 omega
def rI (xs:List Int) (i:Int):Prop:=0<=i/\i<=(xs.length:Int)
section
variable {xs:List Int} {i h:Int}
theorem Xe (hl:xs.length<=1048576): ∃r:Int×Int,tj xs=some r/\rI xs r.1:=by
 have key: ∃s,aC (mS xs) aP (IntKind.i64.wrap (10101+(xs.length:Int)),0)=some (.brk s):=by
  obtain ⟨o,e,s,rfl⟩:=b9 (f:=mS xs) (fun j s=>s.2=(j:Int)) (fun o=> ∃s,o= .brk s) xs.length (fun j s hj hb=>by
   obtain ⟨a,b⟩:=s
   obtain rfl:b=(j:Int):=hb
   unfold mS
   simp only
   rw[SI]
   by_cases c0:j<xs.length
   ·rw[if_pos (by simpa using c0)]
    by_cases c:((j:Nat):Int)<4000
    ·rw[if_pos (by simpa using c),aF (by omega) (by omega)];simp only[aa]
     exact .inl ⟨c0,_,rfl,by show IntKind.i64.wrap ((j:Int)+1)=_;rw[bQ (by omega) (by omega)];omega⟩
    ·rw[if_neg (by simpa using c)]
     exact .inr ⟨_,rfl,(fun s' e=>by cases e),_,rfl⟩
   ·rw[if_neg (by simpa using c0)]
    exact .inr ⟨_,rfl,(fun s' e=>by cases e),_,rfl⟩) (s:=(IntKind.i64.wrap (10101+(xs.length:Int)),0)) rfl (gD (by omega))
  exact ⟨s,e⟩
 obtain ⟨s,hs⟩:=key
 unfold tj
 rw[ah hs]
 exact ⟨_,rfl,by show (0:Int)<=0;omega,by show (0:Int)<=_;omega⟩
theorem Dx (hl:xs.length<=1048576) (hc:rI xs i): ∃r:Int×Int×Int,ju (xs,i,h)=some r/\(0<=r.1/\r.1<=255)/\rI xs r.2.1:=by
 unfold ju
 simp only
 by_cases c:i<(xs.length:Int)
 ·rw[if_pos (by simpa using c),aF hc.1 c];simp only[aa]
  refine ⟨_,rfl,GZ _,?_⟩
  show rI xs (IntKind.i64.wrap (i+1))
  have:=hc.1
  rw[bQ (by omega) (by omega)]
  exact ⟨by omega,by omega⟩
 ·rw[if_neg (by simpa using c)];simp only[aa]
  exact ⟨_,rfl,GZ _,hc⟩
theorem eV (hl:xs.length<=1048576) (hc:rI xs i) {n:Int} (hn:0<n): ∃r:Int×Int×Int,bd (xs,i,h) n=some r/\(0<=r.1/\r.1<n)/\rI xs r.2.1:=by
 unfold bd
 simp only
 rw[if_neg (by simpa using hn)]
 have hck:chk (n≠0)=some ():=by unfold chk;rw[if_pos (by omega)]
 by_cases c:n<=256
 ·rw[if_pos (by simpa using c)]
  obtain ⟨r,e,h1,h2⟩:=Dx (h:=h) hl hc
  rw[e,hck];simp only[aa]
  exact ⟨_,rfl,⟨Int.tmod_nonneg _ h1.1,Int.tmod_lt_of_pos _ hn⟩,h2⟩
 ·rw[if_neg (by simpa using c)]
  obtain ⟨r1,e1,h1,k1⟩:=Dx (h:=h) hl hc
  rw[e1];simp only[aa]
  obtain ⟨r2,e2,h2,k2⟩:=Dx (h:=r1.2.2) hl k1
  rw[e2];simp only[aa]
  obtain ⟨r3,e3,h3,k3⟩:=Dx (h:=r2.2.2) hl k2
  rw[e3];simp only[aa]
  obtain ⟨r4,e4,h4,k4⟩:=Dx (h:=r3.2.2) hl k3
  rw[e4,hck];simp only[aa]
  have w1:IntKind.i64.wrap (r1.1*16777216)=r1.1*16777216:=bQ (by omega) (by omega)
  have w2:IntKind.i64.wrap (r2.1*65536)=r2.1*65536:=bQ (by omega) (by omega)
  have w3:IntKind.i64.wrap (r3.1*256)=r3.1*256:=bQ (by omega) (by omega)
  have w4:IntKind.i64.wrap (r1.1*16777216+r2.1*65536)=r1.1*16777216+r2.1*65536:=bQ (by omega) (by omega)
  have w5:IntKind.i64.wrap (r1.1*16777216+r2.1*65536+r3.1*256)=r1.1*16777216+r2.1*65536+r3.1*256:=bQ (by omega) (by omega)
  have w6:IntKind.i64.wrap (r1.1*16777216+r2.1*65536+r3.1*256+r4.1)=r1.1*16777216+r2.1*65536+r3.1*256+r4.1:=bQ (by omega) (by omega)
  rw[w1,w2,w3,w4,w5,w6]
  exact ⟨_,rfl,⟨Int.tmod_nonneg _ (by omega),Int.tmod_lt_of_pos _ hn⟩,k4⟩
theorem Mv (hl:xs.length<=1048576) (hc:rI xs i) {n:Int} (hn:0<n): ∃r:Bool×Int×Int,lW (xs,i,h) n=some r/\rI xs r.2.1:=by
 obtain ⟨r,e,-,k⟩:=eV (h:=h) hl hc hn
 unfold lW
 simp only
 rw[e]
 exact ⟨_,rfl,k⟩
theorem mO (hl:xs.length<=1048576) (hc:rI xs i) {l:List Int} (h0:l≠ []): ∃r:Int×Int×Int,c7 (xs,i,h) l=some r/\r.1∈l/\rI xs r.2.1:=by
 have hp:0<(l.length:Int):=by have:=List.length_pos_iff.2 h0;omega
 obtain ⟨r,e,h1,k⟩:=eV (h:=h) hl hc hp
 unfold c7
 simp only
 rw[e];simp only[aa]
 rw[aF h1.1 h1.2];simp only[aa]
 exact ⟨_,rfl,bB h1.1 h1.2,k⟩
theorem VV (hl:xs.length<=1048576) (hc:rI xs i) {l:List ByteArray} (h0:l≠ []): ∃r:ByteArray×Int×Int,qM (xs,i,h) l=some r/\r.1∈l/\rI xs r.2.1:=by
 have hp:0<(l.length:Int):=by have:=List.length_pos_iff.2 h0;omega
 obtain ⟨r,e,h1,k⟩:=eV (h:=h) hl hc hp
 unfold qM
 simp only
 rw[e];simp only[aa]
 rw[aF h1.1 h1.2];simp only[aa]
 exact ⟨_,rfl,bB h1.1 h1.2,k⟩
end
end D
namespace D
open Go.RowKit
end D
namespace D
open Go.RowKit
def G0:List ByteArray:=[⟨#[97]⟩,⟨#[97,32,98,32,46]⟩,⟨#[97,32,42]⟩,⟨#[97,32,98,32,124,32,42]⟩,⟨#[97,32,97,45,32,46]⟩,⟨#[97,32,42,32,98,32,46]⟩,⟨#[97,32,98,32,42,32,46,32,99,32,46]⟩,⟨#[97,32,97,32,124,32,42]⟩,⟨#[97,32,98,32,46,32,42]⟩,⟨#[48,32,97,32,46,32,42]⟩,⟨#[97,32,49,32,46,32,98,32,46]⟩,⟨#[97,32,123,48,44,50,125]⟩,⟨#[97,32,98,32,124,32,123,49,44,51,125]⟩,⟨#[40,41]⟩,⟨#[33]⟩,⟨#[97,45,32,42,32,97,32,46]⟩,⟨#[97,32,98,45,32,46,32,42,32,99,32,124]⟩,⟨#[97,32,42,32,97,32,42,32,46]⟩,⟨#[97,32,48,32,124,32,42,32,98,32,46]⟩,⟨#[97,32,97,32,46,32,42]⟩,⟨#[97,32,98,32,46,32,98,32,97,32,46,32,124,32,42]⟩]
def Mw (t:ByteArray):Bool:=match iq t with
 | some r=>r.2&&Nat.ble 1 r.1.length&&Nat.ble r.1.length 24
 | none=>false
theorem Mx:G0.all Mw=true:=by kernel_rfl
theorem Px {t:ByteArray} (h:t∈G0): ∃r:List Tok×Bool,iq t=some r/\r.2=true/\1<=r.1.length/\r.1.length<=24:=by
 have h1:Mw t=true:=List.all_eq_true.1 Mx t h
 unfold Mw at h1
 split at h1
 ·rename_i r hr
  rw[ai,ai] at h1
  exact ⟨r,hr,h1.1.1,bp h1.1.2,bp h1.2⟩
 ·cases h1
section
variable {xs:List Int} {i h:Int}
theorem TK (hl:xs.length<=1048576) (hc:rI xs i): ∃r:List Tok×Int×Int,oT (xs,i,h)=some r/\(1<=r.1.length/\r.1.length<=24)/\rI xs r.2.1:=by
 obtain ⟨r,e,h1,k⟩:=VV (h:=h) hl hc (l:=G0) (by unfold G0;simp)
 obtain ⟨q,e2,-,h2⟩:=Px h1
 unfold oT
 have hb:=congrArg (fun o:Option (ByteArray×Int×Int)=>Option.bind o (fun r0:ByteArray×Int×Int=>(iq r0.1).bind fun r1=>some (r1.1,r0.2.1,r0.2.2))) e
 refine ⟨(q.1,r.2.1,r.2.2),hb.trans ?_,h2,k⟩
 show (iq r.1).bind _=_
 rw[e2];rfl
theorem Dy (hl:xs.length<=1048576): ∀(d n:Nat) (i h:Int),d<n->d<=3->rI xs i-> ∃r:List Tok×Int×Int,dw n (xs,i,h) (d:Int)=some r/\(1<=r.1.length/\r.1.length+1<=2 ^ (d+1))/\rI xs r.2.1
 | 0,n+1,i,h,_,_,hc=>by
  rw[dw];simp only
  rw[if_pos (by decide)]
  obtain ⟨r,e,k⟩:=Mv (h:=h) hl hc (n:=12) (by omega)
  rw[e];simp only[aa]
  by_cases c:r.1=true
  ·rw[if_pos c]
   obtain ⟨q,e2,-,k2⟩:=mO (h:=r.2.2) hl k (l:=[1,2]) (by simp)
   rw[e2];simp only[aa]
   exact ⟨_,rfl,⟨aq _,aq _⟩,k2⟩
  ·rw[if_neg c]
   obtain ⟨q,e2,-,k2⟩:=mO (h:=r.2.2) hl k (l:=[0,0,2,2,1,4,3,6,7]) (by simp)
   rw[e2];simp only[aa]
   exact ⟨_,rfl,⟨aq _,aq _⟩,k2⟩
 | d+1,n+1,i,h,hd,h3,hc=>by
  have hp:2 ^ (d+1+1)=2*2 ^ (d+1):=by rw[Nat.pow_succ,Nat.mul_comm]
  have hb:2 ^ (d+1)<=8:=by
   have:d<=2:=by omega
   match d,this with
   | 0,_=>decide
   | 1,_=>decide
   | 2,_=>decide
  rw[dw];simp only
  rw[if_neg (by simp;omega)]
  have hw:IntKind.i64.wrap (((d+1:Nat):Int) - 1)=(d:Int):=by rw[bQ (by omega) (by omega)];omega
  rw[hw]
  obtain ⟨r,e,-,k⟩:=eV (h:=h) hl hc (n:=6) (by omega)
  rw[e];simp only[aa]
  have two: ∀(t:Tok) (i h:Int),rI xs i-> ∃r:List Tok×Int×Int,((dw n (xs,i,h) (d:Int)).bind fun r7=>(dw n (xs,r7.2.1,r7.2.2) (d:Int)).bind fun r8=>(dK r7.1 r8.1 t).bind fun r9=>some (r9,r8.2.1,r8.2.2))=some r/\(1<=r.1.length/\r.1.length+1<=2 ^ (d+1+1))/\rI xs r.2.1:=fun t i h hc=>by
   obtain ⟨r7,e7,h7,k7⟩:=Dy hl d n i h (by omega) (by omega) hc
   rw[e7];simp only[aa]
   obtain ⟨r8,e8,h8,k8⟩:=Dy hl d n r7.2.1 r7.2.2 (by omega) (by omega) k7
   rw[e8];simp only[aa]
   rw[ya (by omega)];simp only[aa]
   refine ⟨_,rfl,?_,k8⟩
   simp only[af,al,az]
   omega
  have one: ∀(t:Tok) (i h:Int),rI xs i-> ∃r:List Tok×Int×Int,((dw n (xs,i,h) (d:Int)).bind fun r14=>(dK r14.1 ([] :List Yq1) t).bind fun r15=>some (r15,r14.2.1,r14.2.2))=some r/\(1<=r.1.length/\r.1.length+1<=2 ^ (d+1+1))/\rI xs r.2.1:=fun t i h hc=>by
   obtain ⟨r7,e7,h7,k7⟩:=Dy hl d n i h (by omega) (by omega) hc
   rw[e7];simp only[aa]
   rw[ya (by simp only[az];omega)];simp only[aa]
   refine ⟨_,rfl,?_,k7⟩
   simp only[af,al,az]
   omega
  have if2: ∀(p q:Bool),(if p then (some p) else (some q):Option Bool)=some (p || q):=fun p q=>by cases p <;> rfl
  rw[if2];simp only[aa]
  by_cases c1:(r.1==0 || r.1==1)=true
  ·rw[if_pos c1]
   exact two _ _ _ k
  ·rw[if_neg c1,if2];simp only[aa]
   by_cases c2:(r.1==2 || r.1==3)=true
   ·rw[if_pos c2]
    exact two _ _ _ k
   ·rw[if_neg c2]
    by_cases c3:(r.1==4)=true
    ·rw[if_pos c3]
     exact one _ _ _ k
    ·rw[if_neg c3]
     obtain ⟨q,e2,h2,k2⟩:=eV (h:=r.2.2) hl k (n:=3) (by omega)
     rw[e2];simp only[aa]
     obtain ⟨r7,e7,h7,k7⟩:=Dy hl d n q.2.1 q.2.2 (by omega) (by omega) k2
     rw[e7];simp only[aa]
     have w:IntKind.i64.wrap (IntKind.i64.wrap (1+q.1)+1)=q.1+2:=by
      rw[bQ (n:=1+q.1) (by omega) (by omega),bQ (by omega) (by omega)];omega
     obtain ⟨u,e3,-,k3⟩:=eV (h:=r7.2.2) hl k7 (n:=q.1+2) (by omega)
     rw[w,e3];simp only[aa]
     rw[ya (by simp only[az];omega)];simp only[aa]
     refine ⟨_,rfl,?_,k3⟩
     simp only[af,al,az]
     omega
theorem VW (hl:xs.length<=1048576) (hc:rI xs i): ∃r:List Tok×Int×Int,qN (xs,i,h)=some r/\(1<=r.1.length/\r.1.length<=24)/\rI xs r.2.1:=by
 have hF:=kY
 unfold qN
 simp only
 obtain ⟨r,e,k⟩:=Mv (h:=h) hl hc (n:=2) (by omega)
 rw[e];simp only[aa]
 by_cases c:r.1=true
 ·rw[if_pos c]
  obtain ⟨q,e2,h2,k2⟩:=TK (h:=r.2.2) hl k
  rw[e2]
  exact ⟨_,rfl,h2,k2⟩
 ·rw[if_neg c]
  obtain ⟨q,e2,h2,k2⟩:=eV (h:=r.2.2) hl k (n:=3) (by omega)
  rw[e2];simp only[aa]
  have w:IntKind.i64.wrap (1+q.1)=(((q.1.toNat+1:Nat)):Int):=by rw[bQ (by omega) (by omega)];omega
  obtain ⟨u,e3,h3,k3⟩:=Dy hl (q.1.toNat+1) dn q.2.1 q.2.2 (by omega) (by omega) k2
  rw[w,e3]
  refine ⟨_,rfl,⟨h3.1,?_⟩,k3⟩
  have:q.1.toNat<=2:=by omega
  have h4:=h3.2
  show u.1.length<=24
  generalize q.1.toNat=z at this h4
  match z,this with
  | 0,_=>simp at h4;omega
  | 1,_=>simp at h4;omega
  | 2,_=>simp at h4;omega
end
end D
namespace D
open Go.RowKit
theorem yu {l:List Tok} (h:l.length<=1048576):Data.sm l:=⟨h,fun _ _=>⟨trivial,trivial,trivial,trivial⟩⟩
theorem Xf {l:List Tok} (h1:1<=l.length) (h2:l.length<=24): ∃s:List Tok,aC (mW) aP l=some (.brk s)/\s.length<=24:=by
 obtain ⟨o,e,s,hs,rfl⟩:=b9 (f:=mW) (fun i s=>s.length=l.length+i/\s.length<=24) (fun o=> ∃s:List Tok,s.length<=24/\o= .brk s) 24 (fun i s hi hI=>by
  obtain ⟨k1,k2⟩:=hI
  unfold mW
  have c0:decide ((s.length:Int)>0)=true:=decide_eq_true (by omega)
  by_cases c:(s.length:Int)<24
  ·refine .inl ⟨by omega,s++ [(6,0,0,0)],?_,by simp;omega,by simp;omega⟩
   simp only[c0,if_true,decide_eq_true c]
   rw[aJ (by simp;omega)];rfl
  ·refine .inr ⟨.brk s,?_,(fun s' e=>by cases e),s,k2,rfl⟩
   simp only[c0,if_true,decide_eq_false c,Bool.false_eq_true,if_false]) (s:=l) ⟨by omega,h2⟩ (gD (by omega))
 exact ⟨s,e,hs⟩
section
variable {xs:List Int} {i h:Int}
theorem VX (hl:xs.length<=1048576) (hc:rI xs i): ∃r:List Tok×Int×Int,tn (xs,i,h)=some r/\Data.sm r.1/\rI xs r.2.1:=by
 unfold tn
 simp only
 obtain ⟨r0,e0,l0,k0⟩:=VW (h:=h) hl hc
 rw[e0];simp only[aa]
 obtain ⟨r1,e1,-,k1⟩:=eV (h:=r0.2.2) hl k0 (n:=14) (by omega)
 rw[e1];simp only[aa]
 by_cases c0:(r1.1==0)=true
 ·rw[if_pos c0,show chk (And ((0:Int)<=1) (1<=(r0.1.length:Int)))=some () from if_pos (by omega)]
  exact ⟨_,rfl,yu (by simp only[a8];omega),k1⟩
 ·rw[if_neg c0]
  by_cases c1:(r1.1==1)=true
  ·rw[if_pos c1]
   obtain ⟨r8,e8,-,k8⟩:=eV (h:=r1.2.2) hl k1 (n:=9) (by omega)
   rw[e8];simp only[aa]
   obtain ⟨r9,e9,-,k9⟩:=eV (h:=r8.2.2) hl k8 (n:=10) (by omega)
   rw[e9];simp only[aa]
   obtain ⟨r10,e10,-,k10⟩:=eV (h:=r9.2.2) hl k9 (n:=3) (by omega)
   rw[e10];simp only[aa]
   obtain ⟨r11,e11,-,k11⟩:=eV (h:=r10.2.2) hl k10 (n:=5) (by omega)
   rw[e11];simp only[aa]
   rw[aF (by omega) (by omega)]
   exact ⟨_,rfl,yu (by simp only[List.length_set];omega),k11⟩
  ·rw[if_neg c1]
   by_cases c2:(r1.1==2)=true
   ·rw[if_pos c2]
    obtain ⟨s,es,hs⟩:=Xf l0.1 l0.2
    rw[ah es]
    obtain ⟨q,eq,kq⟩:=Mv (h:=r1.2.2) hl k1 (n:=2) (by omega)
    rw[eq];simp only[aa]
    by_cases c3:q.1=true
    ·rw[if_pos c3,aJ (by simp;omega)]
     exact ⟨_,rfl,yu (by simp only[af,al,az];omega),kq⟩
    ·rw[if_neg c3]
     exact ⟨_,rfl,yu (by show s.length<=_;omega),kq⟩
   ·rw[if_neg c2]
    exact ⟨_,rfl,yu (by show r0.1.length<=_;omega),k1⟩
end
end D
namespace D
open Go.RowKit
section
variable {xs:List Int} {i h:Int}
theorem VY (hl:xs.length<=1048576) {p:List Int×Int×Int} (hp:p.1=xs) (hc:rI xs i) {n:Int} (hn:0<=n/\n<=5): ∃s:Int×Int×Int×List Int×List Yq1,aC (iW p) aP (n,i,h,([] :List Int),([] :List Yq1))=some (.brk s)/\s.2.2.2.1.length=n.toNat/\s.2.2.2.2= [] /\rI xs s.2.1:=by
 obtain ⟨s,e,h1,h2,h3,h4⟩:=dD (f:=iW p) (fun j s=>s.1=n - (j:Int)/\s.2.2.2.1.length=j/\s.2.2.2.2= [] /\rI xs s.2.1) n.toNat (fun j s hj hI=>by
  obtain ⟨h1,h2,h3,h4⟩:=hI
  unfold iW
  rw[h1,hp,if_pos (by simp;omega)]
  obtain ⟨r,e,-,k⟩:=eV (h:=s.2.2.1) hl h4 (n:=3) (by omega)
  rw[e];simp only[aa]
  rw[aJ (by simp only[al,az];omega)];simp only[aa]
  refine ⟨_,rfl,?_,by simp[h2],h3,k⟩
  show IntKind.i64.wrap (n - (j:Int) - 1)=n - ((j+1:Nat):Int)
  rw[bQ (by omega) (by omega)];omega) (fun s hI=>by
  unfold iW
  rw[hI.1,if_neg (by simp;omega)]
  obtain ⟨a,b⟩:=s
  obtain rfl:a=_:=hI.1
  rfl) (s:=(n,i,h,([] :List Int),([] :List Yq1))) ⟨by show n=n - 0;omega,rfl,rfl,hc⟩ (gD (by omega))
 exact ⟨s,e,h2,h3,h4⟩
def GrD (g:GrT):Prop:=(1<=g.1.length/\g.1.length<=5)/\g.2.length<=11
theorem GrD.sm {g:GrT} (h:GrD g):Data.sm g:=⟨⟨by have:=h.1.2;omega,fun _ _=>trivial⟩,by have:=h.2;omega,fun _ _=>⟨trivial,trivial,trivial,trivial⟩⟩
theorem TL (hl:xs.length<=1048576) (hc:rI xs i): ∃r:GrT×Int×Int,oU (xs,i,h)=some r/\GrD r.1/\rI xs r.2.1:=by
 unfold oU
 simp only
 obtain ⟨r0,e0,h0,k0⟩:=mO (h:=h) hl hc (l:=[2,3,4,4,5]) (by simp)
 rw[e0];simp only[aa]
 have h0:2<=r0.1/\r0.1<=5:=by simp at h0;omega
 obtain ⟨s,e,h1,h2,h3⟩:=VY (p:=(xs,i,h)) (h:=r0.2.2) hl rfl k0 (n:=r0.1) (by omega)
 rw[ah e]
 obtain ⟨r10,e10,h10,k10⟩:=mO (h:=s.2.2.1) hl h3 (l:=[4,8,11]) (by simp)
 rw[e10];simp only[aa]
 have h10:4<=r10.1/\r10.1<=11:=by simp at h10;omega
 obtain ⟨r11,e11,h11,k11⟩:=eV (h:=r10.2.2) hl k10 (n:=r10.1) (by omega)
 rw[e11];simp only[aa]
 obtain ⟨q,eq,q1,q2,q3,q4⟩:=dD (f:=kD (xs,i,h)) (fun j z=>z.2.1=r11.1 - (j:Int)/\z.2.2.2.2.1=s.2.2.2.1/\z.2.2.2.2.2.length=j/\rI xs z.2.2.1) r11.1.toNat (fun j z hj hI=>by
  obtain ⟨z1,z2,z3,z4⟩:=hI
  unfold kD
  rw[z1,z2,if_pos (by simp;omega)]
  obtain ⟨a,ea,-,ka⟩:=eV (h:=z.2.2.2.1) hl z4 (n:=3) (by omega)
  rw[ea];simp only[aa]
  obtain ⟨b,eb,-,kb⟩:=eV (h:=a.2.2) hl ka (n:=(s.2.2.2.1.length:Int)) (by omega)
  rw[eb];simp only[aa]
  obtain ⟨c,ec,-,kc⟩:=eV (h:=b.2.2) hl kb (n:=(s.2.2.2.1.length:Int)) (by omega)
  rw[ec];simp only[aa]
  obtain ⟨d,ed,-,kd⟩:=mO (h:=c.2.2) hl kc (l:=[0,0,1,2]) (by simp)
  rw[ed];simp only[aa]
  rw[aJ (by simp only[al,az];omega)];simp only[aa]
  refine ⟨_,rfl,?_,rfl,by simp[z3],kd⟩
  show IntKind.i64.wrap (r11.1 - (j:Int) - 1)=r11.1 - ((j+1:Nat):Int)
  rw[bQ (by omega) (by omega)];omega) (fun z hI=>by
  unfold kD
  rw[hI.1,if_neg (by simp;omega)]
  obtain ⟨a,b,c⟩:=z
  obtain rfl:b=_:=hI.1
  rfl) (s:=(0,r11.1,r11.2.1,r11.2.2,s.2.2.2.1,s.2.2.2.2)) ⟨by show r11.1=r11.1 - 0;omega,rfl,by rw[h2];rfl,k11⟩ (gD (by omega))
 rw[ah eq]
 refine ⟨_,rfl,⟨?_,?_⟩,q4⟩
 ·show 1<=q.2.2.2.2.1.length/\q.2.2.2.2.1.length<=5
  rw[q2];omega
 ·show q.2.2.2.2.2.length<=11
  omega
theorem VZ (hl:xs.length<=1048576) (hc:rI xs i): ∃r:GrT×Int×Int,tl (xs,i,h)=some r/\Data.sm r.1/\rI xs r.2.1:=by
 unfold tl
 simp only
 obtain ⟨g,e,hg,k⟩:=TL (h:=h) hl hc
 rw[e];simp only[aa]
 obtain ⟨q,e2,-,k2⟩:=eV (h:=g.2.2) hl k (n:=14) (by omega)
 rw[e2];simp only[aa]
 have hsm:=hg.sm
 obtain ⟨⟨hl1,hl2⟩,hl3⟩:=hg
 by_cases c0:(q.1==0)=true
 ·rw[if_pos c0]
  obtain ⟨r,e3,-,k3⟩:=mO (h:=q.2.2) hl k2 (l:=[(-1),3,2]) (by simp)
  rw[e3];simp only[aa]
  rw[aF (by omega) (by omega)];simp only[aa]
  exact ⟨_,rfl,⟨⟨by rw[List.length_set];omega,fun _ _=>trivial⟩,hsm.2⟩,k3⟩
 ·rw[if_neg c0]
  by_cases c1:(q.1==1)=true
  ·rw[if_pos c1]
   obtain ⟨r,e3,-,k3⟩:=mO (h:=q.2.2) hl k2 (l:=[0,1,99,100]) (by simp)
   rw[e3];simp only[aa]
   obtain ⟨r4,e4,-,k4⟩:=eV (h:=r.2.2) hl k3 (n:=6) (by omega)
   rw[e4];simp only[aa]
   obtain ⟨r5,e5,-,k5⟩:=eV (h:=r4.2.2) hl k4 (n:=6) (by omega)
   rw[e5];simp only[aa]
   obtain ⟨r6,e6,-,k6⟩:=eV (h:=r5.2.2) hl k5 (n:=4) (by omega)
   rw[e6];simp only[aa]
   rw[aJ (by simp only[al,az];omega)];simp only[aa]
   exact ⟨_,rfl,⟨hsm.1,by simp;omega,fun _ _=>⟨trivial,trivial,trivial,trivial⟩⟩,k6⟩
  ·rw[if_neg c1]
   by_cases c2:(q.1==2)=true
   ·rw[if_pos c2];simp only[aa]
    exact ⟨_,rfl,⟨⟨Nat.zero_le _,fun _ h=>by cases h⟩,hsm.2⟩,k2⟩
   ·rw[if_neg c2];simp only[aa]
    exact ⟨_,rfl,hsm,k2⟩
end
end D
set_option synthInstance.maxSize 20000
set_option synthInstance.maxHeartbeats 2000000
namespace D
open Go.RowKit
theorem My {g:GrT} (hg:Data.sm g) {e:List Tok} (he:e.length<=1048576): ∃r:List Pr×Bool,dx g e=some r/\eF g e=some r/\InR r.1/\(r.2=true->(aQ g=some true/\a6 g=some true/\Wo g)/\ ∃x,WT x/\flat x=e/\qx g (LX x) r.1):=by
 obtain ⟨r,e1,e2,hr⟩:=LJ hg he
 refine ⟨r,e1,e2,hr,fun ht=>?_⟩
 obtain ⟨b,v1,k1⟩:=Bf g (km hg.1).1 (km hg.2).1
 have v2:a6 g=some b:=(yf g).trans v1
 unfold dx at e1
 simp only[kl] at e1
 rw[v2] at e1;simp only[aa] at e1
 cases b with
 | false =>
  simp at e1
  rw[<-e1] at ht;cases ht
 | true =>
  simp only[if_true] at e1
  rw[sB he] at e1;simp only[aa] at e1
  by_cases c:(decide (e.length<=24)&&isX e)=true
  ·rw[if_pos c] at e1
   rw[ai] at c
   obtain ⟨x,hrn,hw,hf⟩:=zP c.2
   have h24:e.length<=24:=of_decide_eq_true c.1
   have hfu:=kY
   obtain ⟨q,e4,hq,hR⟩:=Pm (k1.1 rfl).1 v1 v2 hw dn (by rw[hf];omega) (by rw[hf];omega)
   rw[hf] at e4
   rw[e4] at e1;simp only[aa,Option.some.injEq] at e1
   rw[<-e1]
   exact ⟨⟨v1,v2,k1.1 rfl⟩,x,hw,hf,hR⟩
  ·rw[if_neg c] at e1
   simp at e1
   rw[<-e1] at ht;cases ht
theorem yw (m:Nat): ∀k,(dq m k).Pairwise (· < ·)
 | 0=>by simp[dq]
 | k+1=>by
  rw[iF]
  split
  ·refine List.pairwise_append.2 ⟨yw m k,List.pairwise_singleton _ _,fun a ha b hb=>?_⟩
   obtain rfl:=au hb
   obtain ⟨i,h1,-,rfl⟩:=jT.1 ha
   omega
  ·exact yw m k
theorem G5 (g:GrT) (a:AutT): ∀n,Str (yT g a n)
 | 0=>List.Pairwise.nil
 | n+1=>by
  rw[yT]
  refine List.pairwise_append.2 ⟨G5 g a n,?_,fun p hp q hq=>?_⟩
  ·rw[List.pairwise_map]
   exact (yw _ _).imp fun h=>.inr ⟨rfl,h⟩
  ·obtain ⟨x,h1,h2,-⟩:=(tW n).1 hp
   obtain ⟨y,-,rfl⟩:=List.mem_map.1 hq
   left
   show p.1<(n:Int)
   omega
theorem Mz {g:GrT} {a:AutT} (H:GOOD g a):InR (yT g a g.1.length):=⟨G5 g a _,fun p hp=>by
 obtain ⟨x,h1,h2,h3⟩:=(tW _).1 hp
 obtain ⟨z,w,h4,h5,-⟩:=(wt H h1).1 h3
 have:=h5.end_lt H.1 h1
 have:=H.1.n5
 omega⟩
theorem TM {g:GrT} {a:AutT} (H:GOOD g a) {A:Lg} (hL: ∀w:List Nat,(∀k∈w,k<9)->(acw a w=true↔A w)) {l:List Pr} (hl:InR l) (hR:qx g A l):yT g a g.1.length=l:=(Mz H).ext hl fun p=>by
 rw[tW,hR]
 constructor
 ·rintro ⟨x,h1,h2,h3⟩
  obtain ⟨z,w,h4,h5,h6⟩:=(wt H h1).1 h3
  exact ⟨x,z,w,Prod.ext h2 h4,h1,h5,(hL w (h5.lt9 H.1 h1)).1 h6⟩
 ·rintro ⟨x,z,w,rfl,h1,h2,h3⟩
  exact ⟨x,h1,rfl,(wt H h1).2 ⟨z,w,rfl,h2,(hL w (h2.lt9 H.1 h1)).2 h3⟩⟩
theorem TN {l:List Int} {y:Int} (hl:l.length<=1048576): ∃k:Int,bL l y=some k/\(0<=k↔y∈l):=by
 have hf:=Lk (f:=bs l y) l (fun u=>decide (y=u)) (fun i=>(i:Int)) (by omega) (fun i h=>by
  simp only[bs,eN h,if_true,aW h,aa,ak (show i<9223372036854775807 by omega)]
  by_cases c:y=l[i] <;> simp[c]) (by simp only[bs,eU];rfl)
 unfold bL
 rcases hf with ⟨i,hi,h1,-,e⟩ | ⟨h1,e⟩
 ·rw[bK e]
  exact ⟨_,rfl,fun _=>by rw[of_decide_eq_true h1];exact List.getElem_mem hi,fun _=>by omega⟩
 ·rw[ah e]
  exact ⟨_,rfl,fun h=>by omega,fun h=>by have:=h1 y h;simp at this⟩
theorem TO {l:List Int} {y:Int} (hl:l.length<=1048576) (h:y∈l):A2 l y=some true:=by
 have hf:=Lk (f:=qR l y) l (fun u=>decide (u=y)) (fun _=>true) (by omega) (fun i h=>by
  simp only[qR,eN h,if_true,aW h,aa,ak (show i<9223372036854775807 by omega)]
  by_cases c:l[i] =y <;> simp[c]) (by simp only[qR,eU];rfl)
 unfold A2
 rcases hf with ⟨i,hi,h1,-,e⟩ | ⟨h1,e⟩
 ·rw[bK e]
 ·have:=h1 y h;simp at this
section
variable {g:GrT} {a:AutT} (H:GOOD g a) (hok: ∀x:Int,0<=x->x<g.1.length->bC g a [x] =some true)
include H hok
theorem V0 {x:Nat} (hx:x<g.1.length) (y:Int):fT g a (x:Int) y=some (decide (y∈Dc g a (x:Int))):=by
 have e1:dV (g.1,g.2) (a.1,a.2.1,a.2.2) (x:Int)=_:=QB H (x:=(x:Int)) ⟨by omega,by omega⟩ (hok _ (by omega) (by omega))
 have hlen:=wk g a (x:Int)
 obtain ⟨k,e2,hk⟩:=TN (l:=Dc g a (x:Int)) (y:=y) (by omega)
 unfold fT dy
 rw[e1];simp only[aa]
 rw[e2];simp only[aa]
 congr 1
 rw[decide_eq_decide]
 exact hk
theorem X1 {y:Int} (hy:0<=y/\y<g.1.length): ∃l:List Int,jN g a y=some l/\l.length<=5/\ ∀x:Nat,x<g.1.length->y∈Dc g a (x:Int)->(x:Int)∈l:=by
 have e0:bC (g.1,g.2) (a.1,a.2.1,a.2.2) [y] =_:=hok y hy.1 hy.2
 have h5:=H.1.n5
 unfold jN
 rw[e0];simp only[aa,if_true]
 obtain ⟨s,e,h1,h2,h3⟩:=dD (f:=je g a y) (fun i (s:List Int×Int)=>s.2=(i:Int)/\s.1.length<=i/\ ∀x:Nat,x<i->y∈Dc g a (x:Int)->(x:Int)∈s.1) g.1.length (by
  rintro i ⟨o,j⟩ hi ⟨h1,h2,h3⟩
  obtain rfl:j=(i:Int):=h1
  have h2:o.length<=i:=h2
  have h3: ∀x:Nat,x<i->y∈Dc g a (x:Int)->(x:Int)∈o:=h3
  have ea:fT (g.1,g.2) (a.1,a.2.1,a.2.2) (i:Int) y=_:=V0 H hok hi y
  unfold je
  simp only
  rw[eN hi,if_pos rfl,ea];simp only[aa]
  by_cases c:y∈Dc g a (i:Int)
  ·rw[if_pos (decide_eq_true c),aJ (by simp only[al,az];omega),ak (by omega)]
   refine ⟨_,rfl,rfl,by simp;omega,fun x hx hy=>?_⟩
   by_cases d:x=i
   ·subst d;simp
   ·exact aN _ (h3 x (by omega) hy)
  ·rw[if_neg (by simpa using c),ak (by omega)]
   refine ⟨_,rfl,rfl,by show o.length<=i+1;omega,fun x hx hy=>?_⟩
   by_cases d:x=i
   ·subst d;exact absurd hy c
   ·exact h3 x (by omega) hy) (by
  rintro ⟨o,j⟩ ⟨h1,h2,h3⟩
  obtain rfl:j=_:=h1
  unfold je
  simp only
  rw[eU];rfl) (s:=(([] :List Int),0)) ⟨rfl,aq _,fun x hx=>by omega⟩ (gD (by omega))
 rw[ah e]
 exact ⟨_,rfl,by omega,h3⟩
theorem MA {u:GrT×List Tok} {b:Bool} (hu:u.1=g): ∃s,aC (dC u (a,b) (yT g a g.1.length)) aP 0=some (.brk s):=by
 have h5:=H.1.n5
 have hlen:=tV g a g.1.length
 refine ⟨((yT g a g.1.length).length:Int),?_⟩
 have hI:=Mz H
 have hm: ∀p∈yT g a g.1.length,∃x:Nat,x<g.1.length/\p.1=(x:Int)/\p.2∈Dc g a (x:Int)/\0<=p.2/\p.2<g.1.length:=fun p hp=>by
  obtain ⟨x,h1,h2,h3⟩:=(tW _).1 hp
  obtain ⟨z,w,h4,h6,-⟩:=(wt H h1).1 h3
  have:=h6.end_lt H.1 h1
  exact ⟨x,h1,h2,h3,by omega,by omega⟩
 generalize yT g a g.1.length=l at hlen hm
 have:=aL (f:=dC u (a,b) l) (fun i=>(i:Int)) l.length (fun i hi=>by
  obtain ⟨x,h1,h2,h3,h4,h6⟩:=hm _ (List.getElem_mem hi)
  obtain ⟨t,e2,k1,k2⟩:=X1 H hok (y:=l[i].2) ⟨h4,h6⟩
  have ea:fT (g.1,g.2) (a.1,a.2.1,a.2.2) (x:Int) l[i].2=_:=V0 H hok h1 l[i].2
  have e2:jN (g.1,g.2) (a.1,a.2.1,a.2.2) l[i].2=_:=e2
  unfold dC
  simp only[hu]
  rw[eN hi,if_pos rfl,aW hi];simp only[aa]
  rw[h2,ea,decide_eq_true h3];simp only[aa,if_true]
  rw[e2];simp only[aa]
  rw[TO (by omega) (k2 x h1 h3),ak (by omega)];rfl) (by
  unfold dC
  rw[eU];rfl) (gD (by omega))
 exact this
end
theorem TP {g:GrT} {a:AutT} (hg:Data.sm g) (ha:Data.sm a) (hv:aQ g=some true) (V:VA a a.2.1.length) (hn:a.2.1.length<=12):GOOD g a/\iX g a=some (yT g a g.1.length)/\nJ g a=some (yT g a g.1.length)/\ ∀x:Int,0<=x->x<g.1.length->bC g a [x] =some true:=by
 obtain ⟨bv,cv,h1,h2,h3,h4,h6,h7⟩:=EN g a hg ha
 rw[hv] at h2
 obtain rfl:=ae h2
 have h9:cv=true:=h7.2 ⟨hn,V⟩
 have en:bC g a [] =some true:=by
  unfold bC
  have:aC (bX g []) aP 0=some (.brk 0):=by
   have:=aL (f:=bX g []) (fun _=>(0:Int)) 0 (fun i hi=>absurd hi (Nat.not_lt_zero _)) (by unfold bX;simp) (by unfold aP;omega)
   exact this
  rw[ah this]
  have h2:aQ (g.1,g.2)=_:=hv
  have h4:bF (a.1,a.2.1,a.2.2)=_:=h4
  rw[h2,h4,h9];rfl
 obtain ⟨b,l,e0,e1,e2,-,-,e3⟩:=Pa g a hg ha
 rw[en] at e0
 obtain rfl:=ae e0
 obtain ⟨H,rfl⟩:=e3 rfl
 obtain ⟨b',-,f1,f2⟩:=GM g a hg ha
 rw[en] at f1
 obtain rfl:=ae f1
 exact ⟨H,e2,e1,(f2 rfl).2⟩
theorem V1 {xs:List Int} (hl:xs.length<=1048576): ∃r:GrT×List Tok,ff xs=some r/\Data.sm r.1/\Data.sm r.2:=by
 unfold ff
 obtain ⟨r0,e0,k0⟩:=Xe hl
 rw[e0];simp only[aa]
 obtain ⟨r1,e1,s1,k1⟩:=VZ (h:=r0.2) hl k0
 rw[e1];simp only[aa]
 obtain ⟨r2,e2,s2,-⟩:=VX (h:=r1.2.2) hl k1
 rw[e2]
 exact ⟨_,rfl,s1,s2⟩
theorem Ac (x:List (Int×Int)) (hN:x.length<=1048576):gj x x=some true:=by
 have h1:gj x x=some (decide (x=x)):=by
  unfold gj
  exact eqL (f:=iw x x) x x (by omega) (fun i h h'=>by
   simp only[iw,eN h,if_true,aW h,aW h',aa,ak (show i<9223372036854775807 by omega)]
   simp) (by simp only[iw,eU];rfl)
 rw[h1,decide_eq_true rfl]
theorem vK (xs:List Int) (hx:Data.lim xs):iC xs=some true:=by
 unfold iC Et
 simp only[aa]
 by_cases c:(xs.length:Int)>1048576
 ·rw[if_pos (by simpa using c)]
 rw[if_neg (by simpa using c)]
 have hl:xs.length<=1048576:=by omega
 have nf: ∀p:Bool,(p !=p)=false:=fun p=>by cases p <;> rfl
 obtain ⟨⟨g,e⟩,e1,sg,se⟩:=V1 hl
 have sg:Data.sm g:=sg
 have se:Data.sm e:=se
 have he:e.length<=1048576:=se.1
 rw[e1];simp only[aa,kl]
 obtain ⟨⟨l,is⟩,v1,v2,hI,hE⟩:=My sg he
 have hI:InR l:=hI
 have hlen:=hI.len
 have v2:eF (g.1,g.2) e=_:=v2
 have v1:dx (g.1,g.2) e=_:=v1
 obtain ⟨⟨a,fine⟩,c1,c2,sa⟩:=E9 (e:=e) he
 have sa:Data.sm a:=sa
 simp only[kl] at v1 v2
 rw[v1,v2];simp only[aa]
 rw[nf,Ac l (by omega)];simp only[aa,Bool.false_eq_true,if_false,if_true]
 rw[c1,c2];simp only[aa,kl]
 rw[nf,Fc a a sa,decide_eq_true rfl];simp only[aa,Bool.false_eq_true,if_false,if_true]
 cases is with
 | false=>rfl
 | true =>
  cases fine with
  | false=>rfl
  | true =>
   simp only[if_true]
   obtain ⟨⟨w1,w2,-⟩,x,hw,hf,hR⟩:=hE rfl
   have hR:qx g (LX x) l:=hR
   obtain ⟨x',hw',hf',-,⟨V,hn⟩,hL⟩:=Mu he c1
   obtain rfl:x'=x:=by rw[<-lY hw',<-lY hw,hf,hf']
   obtain ⟨H,k1,-,k2⟩:=TP sg sa w1 V hn
   have hall:=TM H hL hI hR
   rw[k1];simp only[aa]
   obtain ⟨s,es⟩:=MA H k2 (u:=(g,e)) (b:=true) rfl
   rw[ah es,hall,Ac l (by omega)];simp only[aa,if_true]
   rw[Mg hI];rfl
end D
open Go.ChangeShapes Go.WideShapes Go.ChangeAt Go.RowKit
namespace D
theorem op5:Opens Tryz.prog 5 rU8:=OK Tryz.underlying5
theorem X2:Opens Tryz.prog 22 (aA 5 rU8):=EC Tryz.underlying22 (by kernel_rfl) (by decide) op5
theorem Xg {W:World} {base:Nat} {z:Value} {H:Type} {enc:TypeId×Value->H} {d:DataW H} {p:List MemPlace} (hv:Value.okWide Tryz.prog W .any base 22 z) (h:DataW.Trod enc Tryz.prog W 0 (fun _=>true) true 22 z d p) :
  ∃(x:List Int) (v0:Value),z=v0/\Data.lim x/\(aA 5 rU8).rd (hp W) [v0] x:=by
 obtain ⟨fuel,hf⟩:=h
 obtain ⟨a,l,c,rfl⟩:=okWide_slice Tryz.underlying22 hv
 obtain ⟨x,hx,hl⟩:=X2.out enc W _ _ _ hf
 exact ⟨x,_,rfl,hl,hx⟩
end D
open D (Data)
theorem uX (W:World) (args:Array Value) (H:Type) (enc:TypeId×Value->H) (base:Nat) (ds gs:List (DataW H)) (before:List MemPlace)
  (hval: ∀(j:Nat) t v,Tryz.f5.params[j]? =some t->args[j]? =some v->Value.okWide Tryz.prog W .any base t v)
  (hW:DataW.Whole enc Tryz.prog Tryz.f5.params.toList Rows.fnDeclarativeSpec.vars false W args.toList ds gs before) :
  Calls Tryz.prog 5 args W fun e W'=> ∃v,e= .returned v/\Rows.fnDeclarativeSpec.post enc Tryz.prog Tryz.f5 false true false false W args v W':=by
 have hW':=hW
 obtain ⟨p,q,hA,hV,rfl,hfz,hnd⟩:=hW
 rw[Tryz.params5] at hA hval
 obtain ⟨z0,vs0,d0,ds0,p0,q0,hargs,rfl,rfl,h0,r0⟩:=trodAll_cons hA
 obtain ⟨rfl,rfl,rfl⟩:=trodAll_nil r0
 obtain rfl:args= #[z0]:=by cases args;simp_all
 obtain ⟨rfl,rfl⟩:=trodVars_none hV
 obtain ⟨x0,v0_0,rfl,l0,r0_0⟩:=D.Xg (hval 0 _ _ rfl rfl) h0
 have hc:=D.uR x0 true (D.vK x0 l0) (I:=D.hp W) (w0:=W) z0 r0_0 D.Lay.all W [] (D.St.init W)
 refine hc.mono fun e W' ⟨v,he,hv,hs⟩=>?_
 subst he;subst hv
 exact ⟨_,rfl,Pv (f:=Tryz.f5) (s:=Rows.fnDeclarativeSpec) 4 Tryz.underlying4 rfl (by kernel_rfl) rfl hW' rfl rfl rfl (D.St.below hs)⟩
theorem rl (os:Os) (started:os.Started) (H:Type) (enc:TypeId×Value->H) :
  ReturnsInHanded {} Tryz.checked os 5 .any (Rows.fnDeclarativeSpec.pre6 enc Tryz.prog Tryz.f5 Rows.fnDeclarativeRow.domain false) (Rows.fnDeclarativeSpec.post enc Tryz.prog Tryz.f5 false true false false):=by
 refine returnsInHanded_of_change_sized (C:=Tryz.checked) own started (by kernel_rfl) Tryz.func5
  (ChangeSpec.witness6 (enc:=enc) (C:=Tryz.checked) false ⟨#[],#[.slice none 0 0],[]⟩ 8 (by kernel_rfl) (by kernel_rfl) (by kernel_rfl) (by kernel_rfl)) ?_
 intro W base args ds gs before hval hW hcnd hsz _
 exact uX W args H enc base ds gs before hval hW
set_option maxHeartbeats 4000000 in
theorem rp:joinedFacts Tryz.pinned.checked.prog 5 Tryz.f5 Rows.fnDeclarativeSpec Rows.fnDeclarativeRow=true:=by
 unfold joinedFacts
 repeat' (with_reducible refine Bool.and_eq_true_iff.2 ⟨?_,?_⟩)
 all_goals as_aux_lemma=>kernel_rfl
theorem holdsLFnDeclarative:Rows.FnDeclarativeSaid:=
 OpenClaim.holds_of_wide 5 Tryz.f5 rfl rfl rfl rfl rfl rfl rfl ⟨rfl,rfl,rfl,rfl,rfl⟩ rfl rfl rfl rfl rfl (by kernel_rfl) Tryz.func5 rp
  (of_decide_eq_true (by kernel_rfl)) (by unfold Func.isWrapper;first | (rw[if_pos (by decide +kernel)];kernel_rfl) | (rw[if_neg (by decide +kernel)];exact ⟨rfl,rfl⟩))
  (fun os started H enc _=>rl os started H enc)
end Go.Proofs.YtbhafdfiplkacaaGreat
