/- FnSupports: for every input the law returns true and changes nothing that was there. Part 7 of 7. -/
import Derived.Test.YtobhhnobjflbnaaGreatSC5
set_option linter.unusedVariables false
set_option linter.unusedSimpArgs false
set_option linter.unnecessarySimpa false
set_option linter.unusedSectionVars false
set_option maxRecDepth 1000000
namespace Go.Proofs.YtobhhnobjflbnaaGreat
namespace D
open Go.RowKit
theorem LU {xs:List Int} {i h:Int} (hl:xs.length<=1048576) (hc:gr xs i): ∃r:GrT×ViT×Int×Int,jT (xs,i,h)=some r/\Data.sm r.1/\Data.sm r.2.1/\gr xs r.2.2.1:=by
 unfold jT
 simp only
 obtain ⟨r0,e0,sg,sa,k0⟩:=LD (h:=h) hl hc
 rw[e0];simp only[aa]
 obtain ⟨r3,e3,k3⟩:=LF (h:=r0.2.2.2) hl k0 r0.1
 have e3:jn (xs,r0.2.2.1,r0.2.2.2) (r0.1.1,r0.1.2)=_:=e3
 rw[e3];simp only[aa]
 have hbv: ∃w:ViT×Bool,bg (r0.1.1,r0.1.2) (r0.2.1.1,r0.2.1.2.1,r0.2.1.2.2) r3.1=some w/\Data.sm w.1:=by
  rcases qS r0.1 r0.2.1 sg sa r3.1 with ⟨es,-⟩ | ⟨H,hx,es,-⟩
  ·exact ⟨_,es,⟨trivial,⟨by decide,fun _ h=>by cases h⟩,by decide,fun _ h=>by cases h⟩,trivial,⟨by decide,fun _ h=>by cases h⟩,by decide,fun _ h=>by cases h⟩
  ·exact ⟨_,es,wz H sa hx⟩
 obtain ⟨w,ew,sw⟩:=hbv
 rw[ew];simp only[aa]
 obtain ⟨r5,e5,-,k5⟩:=bS (h:=r3.2.2) hl k3 (n:=16) (by omega)
 rw[e5];simp only[aa]
 obtain ⟨wa,-,wr,ws⟩:=sw
 have hset: ∀ {l:List Int} {j:Nat} {y:Int},Data.sm l->Data.sm (l.set j y):=fun {l j y} hh=>⟨by rw[List.length_set];exact hh.1,fun _ _=>trivial⟩
 by_cases c0:(r5.1==0)=true
 ·rw[if_pos c0]
  by_cases c:(w.1.2.2.1.length:Int)>0
  ·rw[if_pos (by simpa using c)]
   obtain ⟨r9,e9,h9,k9⟩:=bS (h:=r5.2.2) hl k5 (n:=(w.1.2.2.1.length:Int)) c
   rw[e9];simp only[aa]
   obtain ⟨r10,e10,-,k10⟩:=cC (h:=r9.2.2) hl k9 (l:=[(-1),0,1,3]) (by simp)
   rw[e10];simp only[aa]
   rw[aE h9.1 h9.2];simp only[aa]
   exact ⟨_,rfl,sg,⟨wa,trivial,hset wr,ws⟩,k10⟩
  ·rw[if_neg (by simpa using c)]
   exact ⟨_,rfl,sg,⟨wa,trivial,wr,ws⟩,k5⟩
 ·rw[if_neg c0]
  by_cases c1:(r5.1==1)=true
  ·rw[if_pos c1]
   by_cases c:(w.1.2.2.2.length:Int)>0
   ·rw[if_pos (by simpa using c)]
    obtain ⟨r9,e9,h9,k9⟩:=bS (h:=r5.2.2) hl k5 (n:=(w.1.2.2.2.length:Int)) c
    rw[e9];simp only[aa]
    obtain ⟨r10,e10,-,k10⟩:=cC (h:=r9.2.2) hl k9 (l:=[0,1,2]) (by simp)
    rw[e10];simp only[aa]
    rw[aE h9.1 h9.2];simp only[aa]
    exact ⟨_,rfl,sg,⟨wa,trivial,wr,hset ws⟩,k10⟩
   ·rw[if_neg (by simpa using c)]
    exact ⟨_,rfl,sg,⟨wa,trivial,wr,ws⟩,k5⟩
  ·rw[if_neg c1]
   by_cases c2:(r5.1==2)=true
   ·rw[if_pos c2]
    exact ⟨_,rfl,sg,⟨wa,trivial,wr,ws⟩,k5⟩
   ·rw[if_neg c2]
    exact ⟨_,rfl,sg,⟨wa,trivial,wr,ws⟩,k5⟩
theorem LW {xs:List Int} (hl:xs.length<=1048576): ∃r:GrT×ViT×Int,dz xs=some r/\Data.sm r.1/\Data.sm r.2.1:=by
 unfold dz
 obtain ⟨r0,e0,k0⟩:=MP hl
 rw[e0];simp only[aa]
 obtain ⟨r1,e1,h1,h2,k1⟩:=LU (h:=r0.2) hl k0
 rw[e1];simp only[aa]
 obtain ⟨r2,e2,-⟩:=NP (h:=r1.2.2.2) hl k1 r1.1
 have e2:na (xs,r1.2.2.1,r1.2.2.2) (r1.1.1,r1.1.2)=_:=e2
 rw[e2]
 exact ⟨_,rfl,h1,h2⟩
def AT (R Q:List Int) (n:Nat):List Int:=((List.range n).filter fun j:Nat=>decide (nth R (j:Int)≠nth Q (j:Int))).map fun j:Nat=>(j:Int)
theorem wB (R Q:List Int) (n:Nat):AT R Q (n+1)=AT R Q n++(if nth R (n:Int)≠nth Q (n:Int) then [(n:Int)] else []):=by
 unfold AT
 rw[List.range_succ,List.filter_append,aF]
 congr 1
 by_cases c:nth R (n:Int)=nth Q (n:Int) <;> simp[c]
theorem pv (R Q:List Int): ∀n,(AT R Q n).length<=n
 | 0=>aA _
 | n+1=>by
  rw[wB,au]
  have:=pv R Q n
  split <;> simp <;> omega
theorem Gu {R Q:List Int} {n:Nat} {k:Int} :k∈AT R Q n↔ ∃j:Nat,j<n/\k=(j:Int)/\nth R (j:Int)≠nth Q (j:Int):=by
 unfold AT
 simp only[List.mem_map,List.mem_filter,List.mem_range,decide_eq_true_eq]
 constructor
 ·rintro ⟨j,⟨h1,h2⟩,rfl⟩;exact ⟨j,h1,rfl,h2⟩
 ·rintro ⟨j,h1,rfl,h2⟩;exact ⟨j,⟨h1,h2⟩,rfl⟩
theorem zG {f:List Int×Int->Option (Out (List Int) (List Int×Int))} {R Q:List Int} {n:Nat} (hn:n<=1000) (h: ∀(i:Nat) (o:List Int),i<n->o.length<=1000->f (o,(i:Int))=some (.nxt (o++(if nth R (i:Int)≠nth Q (i:Int) then [(i:Int)] else []),((i+1:Nat):Int)))) (he: ∀o,f (o,(n:Int))=some (.brk (o,(n:Int)))):aH f ba (([] :List Int),0)=some (.brk (AT R Q n,(n:Int))):=
 a6 (f:=f) (fun i=>(AT R Q i,(i:Int))) n (fun i hi=>by
  rw[h i _ hi (by have:=pv R Q i;omega),wB]) (he _) (jd (by omega))
theorem DO {l:List Int} (h:l.length<=1000000):iM l l=some true:=by
 have:=a6 (f:=dY l l) (fun i=>(i:Int)) l.length (fun i hi=>by
  unfold dY
  rw[iD,if_pos (by simpa using hi),aE (by omega) (by omega)];simp only[aa]
  rw[if_neg (by simp),be (by omega) (by omega)];rfl) (by
  unfold dY
  rw[iD,if_neg (by simp)]) (jd (by omega))
 unfold iM
 rw[if_neg (by simp),aG (show aH (dY l l) ba 0=_ from this)]
theorem LX {l:List Int} (h:l.length<=1000000) (x:Int):tT l x=some (decide (x∈l)):=by
 have hs:=DG (f:=lz l x) l (fun u=>u==x) (fun _=>true) (by omega) (fun i hi=>by
  unfold lz
  rw[jB hi,if_pos rfl,bO hi]
  simp only[aa,aI (show i<9223372036854775807 by omega)]
  split <;> rfl) (by
  unfold lz
  rw[iC];rfl)
 unfold tT
 rcases hs with ⟨i,hi,h1,-,e⟩ | ⟨h1,e⟩
 ·rw[dt e,decide_eq_true]
  have h1:l[i] =x:=by simpa using h1
  rw[<-h1];exact List.getElem_mem hi
 ·rw[aG e,decide_eq_false]
  intro hm
  have:=h1 x hm
  simp at this
theorem uq (xs:List Int) (hx:Data.lim xs):fX xs=some true:=by
 unfold fX xB
 simp only[aa]
 by_cases c:(xs.length:Int)>1048576
 ·rw[if_pos (by simpa using c)]
 rw[if_neg (by simpa using c)]
 have hl:xs.length<=1048576:=by omega
 obtain ⟨r2,e2,sg,sv⟩:=LW hl
 rw[e2];simp only[aa]
 obtain ⟨g,v,id⟩:=r2
 have sg:Data.sm g:=sg
 have sv:Data.sm v:=sv
 simp only[wD]
 obtain ⟨b,v1,v2,hb⟩:=qT g v sg sv
 obtain ⟨⟨h,ok⟩,d1,d2,sh,hd⟩:=Gq g sg id
 obtain ⟨b',w1,w2,w3⟩:=Gt sg sv sh (ok:=ok) (fun hk=>⟨(hd hk).1,(hd hk).2.1⟩)
 obtain rfl:b'=b:=ae (w1.symm.trans v2)
 have ev:cq g v id=some (if ok&&b' then (bF h v.1 v.2.1,true) else (v,false)):=by
  unfold cq
  simp only[wD]
  rw[d2];simp only[aa]
  rw[show jr g v (h.1,h.2) ok=_ from w2];rfl
 have key: ∃l:List Int,l.length<=1000000/\fU g v id=some l/\fW g v id=some l/\((ok&&b')=false->l= [])/\((ok&&b')=true->l=AT v.2.2.1 (bF h v.1 v.2.1).2.2.1 v.2.2.1.length):=by
  unfold fU fW
  simp only[wD]
  rw[ev,d1];simp only[aa]
  cases hk:(ok&&b') with
  | false =>
   simp only[Bool.false_eq_true,if_false]
   refine ⟨[],(by simp),rfl,?_,fun _=>rfl,(fun h=>by cases h)⟩
   cases ok with
   | false=>rfl
   | true =>
    simp only[Bool.true_and] at hk
    subst hk
    rw[if_pos rfl,v1];rfl
  | true =>
   rw[af] at hk
   obtain ⟨hk1,hk2⟩:=hk
   subst hk1;subst hk2
   obtain ⟨H,hxr,hveq⟩:=hb rfl
   obtain ⟨H2,hx2⟩:=w3 rfl rfl
   obtain ⟨l1,l2,l3⟩:=lI H hxr
   obtain ⟨m1,m2,m3⟩:=lI H2 hx2
   have hl1:v.2.2.1.length=v.1.2.1.length*g.1.length:=by rw[hveq];exact l1
   have hm1:(bF h v.1 v.2.1).2.2.1.length=v.1.2.1.length*g.1.length:=by rw[m1,(hd rfl).2.1]
   simp only[if_true]
   rw[v1];simp only[aa,if_true]
   have es:c9 (h.1,h.2) v.1 v.2.1=some (bF h v.1 v.2.1):=DL H2 hx2 sv.1
   rw[show c9 h v.1 v.2.1=_ from es];simp only[aa]
   generalize bF h v.1 v.2.1=w at hm1
   have ne: ∀x y:Int,(x !=y)=decide (x≠y):=fun x y=>by by_cases hxy:x=y <;> simp[hxy]
   have eI:=zG (f:=eB v (w,true)) (R:=v.2.2.1) (Q:=w.2.2.1) (n:=v.2.2.1.length) (by omega) (fun i o hi ho=>by
    unfold eB
    simp only
    rw[iD,if_pos (by simpa using hi),aE (by omega) (by omega)];simp only[aa]
    rw[aE (by omega) (by omega)];simp only[aa]
    rw[ne,be (by omega) (by omega)]
    by_cases c:nth v.2.2.1 (i:Int)≠nth w.2.2.1 (i:Int)
    ·rw[if_pos (by simpa using c),if_pos c,aS (by simp only[ax,aC];omega)];rfl
    ·rw[if_neg (by simpa using c),if_neg c,List.append_nil];rfl) (fun o=>by
    unfold eB
    simp only
    rw[iD,if_neg (by simp)])
   have eS:=zG (f:=eC v w) (R:=v.2.2.1) (Q:=w.2.2.1) (n:=v.2.2.1.length) (by omega) (fun i o hi ho=>by
    unfold eC
    simp only
    rw[iD,if_pos (by simpa using hi),aE (by omega) (by omega)];simp only[aa]
    rw[aE (by omega) (by omega)];simp only[aa]
    rw[ne,be (by omega) (by omega)]
    by_cases c:nth v.2.2.1 (i:Int)≠nth w.2.2.1 (i:Int)
    ·rw[if_pos (by simpa using fun h=>c h.symm),if_pos c,aS (by simp only[ax,aC];omega)];rfl
    ·have c':=Decidable.not_not.1 c
     rw[if_neg (by simp[c']),if_neg c,List.append_nil];rfl) (fun o=>by
    unfold eC
    simp only
    rw[iD,if_neg (by simp)])
   rw[aG eI,aG eS]
   refine ⟨_,?_,rfl,rfl,(fun h=>by cases h),fun _=>rfl⟩
   have:=pv v.2.2.1 w.2.2.1 v.2.2.1.length
   show (AT v.2.2.1 w.2.2.1 v.2.2.1.length).length<=1000000
   omega
 obtain ⟨l,ll,o1,o2,o3,o4⟩:=key
 rw[o1,o2];simp only[aa]
 rw[DO ll];simp only[aa,if_true]
 rw[v1,v2];simp only[aa]
 obtain ⟨k,a1,a2⟩:=AS g v sg sv
 have nf: ∀p:Bool,(p !=p)=false:=fun p=>by cases p <;> rfl
 rw[nf,a1,a2];simp only[Bool.false_eq_true,if_false,aa,bne_self_eq_false]
 cases b' with
 | false =>
  rw[if_neg (by simp),o3 (by simp)];rfl
 | true =>
  rw[if_pos rfl]
  obtain ⟨H,hxr,hveq⟩:=hb rfl
  obtain ⟨l1,l2,l3⟩:=lI H hxr
  have hl1:v.2.2.1.length=v.1.2.1.length*g.1.length:=by rw[hveq];exact l1
  have hl2:v.2.2.2.length=v.1.2.1.length*g.1.length:=by rw[hveq];exact l2
  have f1:=a6 (f:=cY (g,v,id)) (fun i=>(i:Int)) v.2.2.1.length (fun i hi=>by
   unfold cY
   simp only
   rw[iD,if_pos (by simpa using hi),aE (by omega) (by omega)];simp only[aa]
   rw[aE (by omega) (by omega)];simp only[aa]
   have hs:=J6 H hxr (k:=(i:Int)) ⟨by omega,by omega⟩
   rw[<-hveq] at hs
   have:decide (nth v.2.2.1 (i:Int)>0)=decide (nth v.2.2.2 (i:Int)>0):=by
    rw[Bool.eq_iff_iff];simpa using hs
   rw[this,nf,be (by omega) (by omega)];rfl) (by
   unfold cY
   simp only
   rw[iD,if_neg (by simp)]) (jd (by omega))
  rw[aG (show aH (cY (g,v,id)) ba 0=_ from f1),ev];simp only[aa]
  cases ok with
  | false =>
   rw[o3 rfl];rfl
  | true =>
   simp only[Bool.and_self,if_true]
   obtain ⟨H2,hx2⟩:=w3 rfl rfl
   have hn:h.1=g.1:=(hd rfl).2.1
   obtain ⟨m1,m2,m3⟩:=lI H2 hx2
   have hm1:(bF h v.1 v.2.1).2.2.1.length=v.1.2.1.length*g.1.length:=by rw[m1,hn]
   have D1:=DN H hxr
   have D2:=DN H2 hx2
   rw[hn] at D2
   have hR:v.2.2.1=RKs g v.1 (v.2.1*(v.1.2.1.length:Int)+v.1.1):=by rw[hveq];rfl
   have hQ:(bF h v.1 v.2.1).2.2.1=RKs h v.1 (v.2.1*(v.1.2.1.length:Int)+v.1.1):=rfl
   rw[<-hR] at D1
   rw[<-hQ] at D2
   rw[o4 rfl]
   generalize bF h v.1 v.2.1=w at hm1 D2
   have f2:=a6 (f:=cZ (g,v,id) (AT v.2.2.1 w.2.2.1 v.2.2.1.length) (w,true)) (fun i=>(i:Int)) v.2.2.1.length (fun i hi=>by
    unfold cZ
    simp only
    have hiN:(i:Int)<((v.1.2.1.length*g.1.length:Nat):Int):=by omega
    rw[iD,if_pos (by simpa using hi),LX (by have:=pv v.2.2.1 w.2.2.1 v.2.2.1.length;omega)];simp only[aa]
    rw[aE (xs:=w.2.2.1) (by omega) (by omega),aE (xs:=v.2.2.1) (by omega) (by omega)];simp only[aa]
    have hmem:decide ((i:Int)∈AT v.2.2.1 w.2.2.1 v.2.2.1.length)=(nth w.2.2.1 (i:Int) !=nth v.2.2.1 (i:Int)):=by
     rw[Bool.eq_iff_iff,decide_eq_true_eq,Gu]
     simp only[bne_iff_ne,ne_eq]
     constructor
     ·rintro ⟨j,h1,h2,h3⟩
      have:j=i:=by omega
      subst this
      exact fun h=>h3 h.symm
     ·intro h1
      exact ⟨i,hi,rfl,fun h=>h1 h.symm⟩
    rw[hmem,nf];simp only[Bool.false_eq_true,if_false]
    have hw1:IntKind.i64.wrap ((i:Int)+1)=((i+1:Nat):Int):=by rw[be (by omega) (by omega)];omega
    by_cases c0:nth w.2.2.1 (i:Int)≥0
    ·have hm:=Dst.mono D2 D1 (fun u t hh=>JZ v.1 (hd rfl).2 u t hh) (nth w.2.2.1 (i:Int)).toNat (i:Int) (by omega) hiN (by omega)
     have e0:decide (nth w.2.2.1 (i:Int)≥0)=true:=decide_eq_true c0
     have e1:decide (nth w.2.2.1 (i:Int)<nth v.2.2.1 (i:Int))=false:=decide_eq_false (by omega)
     have e3:decide (nth v.2.2.1 (i:Int)<0)=false:=decide_eq_false (by omega)
     simp only[e0,e1,e3,if_true,Bool.false_eq_true,if_false,hw1]
    ·have e0:decide (nth w.2.2.1 (i:Int)≥0)=false:=decide_eq_false c0
     simp only[e0,Bool.false_eq_true,if_false,hw1]) (by
    unfold cZ
    simp only
    rw[iD,if_neg (by simp)]) (jd (by omega))
   rw[aG (show aH (cZ (g,v,id) (AT v.2.2.1 w.2.2.1 v.2.2.1.length) (w,true)) ba 0=_ from f2)]
end D
open Go.ChangeShapes Go.WideShapes Go.ChangeAt Go.RowKit
namespace D
theorem op5:Opens Tryz.prog 5 rU8:=FU Tryz.underlying5
theorem NR:Opens Tryz.prog 22 (ak 5 rU8):=xN Tryz.underlying22 (by kernel_rfl) (by decide) op5
theorem M7 {W:World} {base:Nat} {z:Value} {H:Type} {enc:TypeId×Value->H} {d:DataW H} {p:List MemPlace} (hv:Value.okWide Tryz.prog W .any base 22 z) (h:DataW.Trod enc Tryz.prog W 0 (fun _=>true) true 22 z d p) :
  ∃(x:List Int) (v0:Value),z=v0/\Data.lim x/\(ak 5 rU8).rd (hp W) [v0] x:=by
 obtain ⟨fuel,hf⟩:=h
 obtain ⟨a,l,c,rfl⟩:=okWide_slice Tryz.underlying22 hv
 obtain ⟨x,hx,hl⟩:=NR.out enc W _ _ _ hf
 exact ⟨x,_,rfl,hl,hx⟩
end D
open D (Data)
theorem rB (W:World) (args:Array Value) (H:Type) (enc:TypeId×Value->H) (base:Nat) (ds gs:List (DataW H)) (before:List MemPlace)
  (hval: ∀(j:Nat) t v,Tryz.f4.params[j]? =some t->args[j]? =some v->Value.okWide Tryz.prog W .any base t v)
  (hW:DataW.Whole enc Tryz.prog Tryz.f4.params.toList Rows.fnSupportsSpec.vars false W args.toList ds gs before) :
  Calls Tryz.prog 4 args W fun e W'=> ∃v,e= .returned v/\Rows.fnSupportsSpec.post enc Tryz.prog Tryz.f4 false true false false W args v W':=by
 have hW':=hW
 obtain ⟨p,q,hA,hV,rfl,hfz,hnd⟩:=hW
 rw[Tryz.params4] at hA hval
 obtain ⟨z0,vs0,d0,ds0,p0,q0,hargs,rfl,rfl,h0,r0⟩:=trodAll_cons hA
 obtain ⟨rfl,rfl,rfl⟩:=trodAll_nil r0
 obtain rfl:args= #[z0]:=by cases args;simp_all
 obtain ⟨rfl,rfl⟩:=trodVars_none hV
 obtain ⟨x0,v0_0,rfl,l0,r0_0⟩:=D.M7 (hval 0 _ _ rfl rfl) h0
 have hc:=D.rz x0 true (D.uq x0 l0) (I:=D.hp W) (w0:=W) z0 r0_0 D.Lay.all W [] (D.St.init W)
 refine hc.mono fun e W' ⟨v,he,hv,hs⟩=>?_
 subst he;subst hv
 exact ⟨_,rfl,Gl (f:=Tryz.f4) (s:=Rows.fnSupportsSpec) 4 Tryz.underlying4 rfl (by kernel_rfl) rfl hW' rfl rfl rfl (D.St.below hs)⟩
theorem oj (os:Os) (started:os.Started) (H:Type) (enc:TypeId×Value->H) :
  ReturnsInHanded {} Tryz.checked os 4 .any (Rows.fnSupportsSpec.pre6 enc Tryz.prog Tryz.f4 Rows.fnSupportsRow.domain false) (Rows.fnSupportsSpec.post enc Tryz.prog Tryz.f4 false true false false):=by
 refine returnsInHanded_of_change_sized (C:=Tryz.checked) own started (by kernel_rfl) Tryz.func4
  (ChangeSpec.witness6 (enc:=enc) (C:=Tryz.checked) false ⟨#[],#[.slice none 0 0],[]⟩ 8 (by kernel_rfl) (by kernel_rfl) (by kernel_rfl) (by kernel_rfl)) ?_
 intro W base args ds gs before hval hW hcnd hsz _
 exact rB W args H enc base ds gs before hval hW
set_option maxHeartbeats 4000000 in
theorem om:joinedFacts Tryz.pinned.checked.prog 4 Tryz.f4 Rows.fnSupportsSpec Rows.fnSupportsRow=true:=by
 unfold joinedFacts
 repeat' (with_reducible refine Bool.and_eq_true_iff.2 ⟨?_,?_⟩)
 all_goals as_aux_lemma=>kernel_rfl
theorem holdsLFnSupports:Rows.FnSupportsSaid:=
 OpenClaim.holds_of_wide 4 Tryz.f4 rfl rfl rfl rfl rfl rfl rfl ⟨rfl,rfl,rfl,rfl,rfl⟩ rfl rfl rfl rfl rfl (by kernel_rfl) Tryz.func4 om
  (of_decide_eq_true (by kernel_rfl)) (by unfold Func.isWrapper;first | (rw[if_pos (by decide +kernel)];kernel_rfl) | (rw[if_neg (by decide +kernel)];exact ⟨rfl,rfl⟩))
  (fun os started H enc _=>oj os started H enc)
end Go.Proofs.YtobhhnobjflbnaaGreat
