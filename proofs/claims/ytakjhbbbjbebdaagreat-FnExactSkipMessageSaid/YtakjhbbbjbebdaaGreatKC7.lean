/- FnExactSkipMessage: for every input the law returns true and changes nothing that was there. Part 8 of 8. -/
import Derived.Test.YtakjhbbbjbebdaaGreatKC6
set_option linter.unusedVariables false
set_option linter.unusedSimpArgs false
set_option linter.unnecessarySimpa false
set_option linter.unusedSectionVars false
set_option maxRecDepth 1000000
namespace Go.Proofs.YtakjhbbbjbebdaaGreat
namespace D
open Go.RowKit
theorem AQ (g:GrT):bJ g=aQ g:=by
 have h0:nm g=dt g:=rfl
 have h1:je g=cG g:=by
  funext s
  unfold je cG
  split
  ·cases hx:ay g.2 s with
   | none=>rfl
   | some x=>rfl
  ·rfl
 unfold bJ aQ
 rw[h0,h1];rfl
def GOOD (g:GrT) (a:AutT):Prop:=GOk g∧a.2.1.length≤12∧VA a a.2.1.length
theorem O2 (g:GrT) (a:AutT) (hg:Data.sm g) (ha:Data.sm a): ∃b c,bJ g=some b∧aQ g=some b∧ct a=some c∧bS a=some c∧(b=true→GOk g)∧(c=true→a.2.1.length≤12∧VA a a.2.1.length):=by
 obtain ⟨b,e1,k1⟩:=D6 g (au hg.1).1 (au hg.2).1
 have hb:=(au ha.2.1).1
 have hn:=au ha.2.2
 obtain ⟨c,e2,k2⟩:=Vp a (by omega) (by omega) (fun r hr=>by have:=(au (hn.2 r hr)).1;omega)
 obtain ⟨c',e3,k3⟩:=Vo a (by omega) (by omega)
 have hc:c'=c:=by
  cases c <;> cases c' <;> simp_all
 subst hc
 exact ⟨b,c',by rw[AQ,e1],e1,e3,e2,k1,fun h=>k2.1 h⟩
theorem O3 (g:GrT) (a:AutT) (hg:Data.sm g) (ha:Data.sm a) (x:Int): ∃b,jf g a x 0=some b∧cv g a [x] =some b∧(b=true→GOOD g a∧0≤x∧x<g.1.length):=by
 obtain ⟨b,c,e1,e2,e3,e4,k1,k2⟩:=O2 g a hg ha
 have hl:=(au hg.1).1
 have hla:=(au ha.2.1).1
 have ew:IntKind.i64.wrap ((g.1.length:Int) - 1)=(g.1.length:Int) - 1:=cC (by omega) (by omega)
 have ew2:IntKind.i64.wrap ((a.2.1.length:Int) - 1)=(a.2.1.length:Int) - 1:=cC (by omega) (by omega)
 have es:jf g a x 0=some (b&&(c&&(decide (0≤x∧x≤(g.1.length:Int) - 1)))):=by
  unfold jf
  have e1:bJ (g.1,g.2)=_:=e1
  have e3:ct (a.1,a.2.1,a.2.2)=_:=e3
  rw[e1,e3,Pp,Pp,ew,ew2];simp only[Option.bind_some]
  cases b <;> cases c <;> simp only[Bool.false_eq_true,if_false,if_true,Bool.false_and,Bool.true_and]
  by_cases h:0≤x∧x≤(g.1.length:Int) - 1
  ·have:=(k2 rfl).2.start
   simp only[h,and_self,decide_true,if_true]
   rw[decide_eq_true (by omega)]
  ·rw[decide_eq_false h];rfl
 have ei:cv g a [x] =some (b&&(c&&(decide (0≤x∧x≤(g.1.length:Int) - 1)))):=by
  unfold cv
  have e2:aQ (g.1,g.2)=_:=e2
  have e4:bS (a.1,a.2.1,a.2.2)=_:=e4
  rcases LD (f:=cO g [x]) 1 (fun _=>0≤x∧x≤(g.1.length:Int) - 1) false (by decide) (fun i hi=>by
   obtain rfl:i=0:=by omega
   unfold cO
   rw[if_pos (by simp),show ay [x] ((0:Nat):Int)=some x from rfl];simp only[Option.bind_some]
   rw[If,ew];simp only[Option.bind_some,decide_eq_true_eq]
   split <;> rfl) (by unfold cO;simp) with ⟨k,h⟩ | ⟨k,h⟩
  ·rw[af k,e2,e4];simp only[Option.bind_some]
   rw[decide_eq_true (h 0 (by decide))]
   cases b <;> cases c <;> rfl
  ·rw[a8 k,decide_eq_false (fun c=>h fun _ _=>c)]
   cases b <;> cases c <;> rfl
 refine ⟨_,es,ei,fun hb=>?_⟩
 simp only[Bool.and_eq_true,decide_eq_true_eq] at hb
 obtain ⟨h1,h2,h3⟩:=hb
 exact ⟨⟨k1 h1,(k2 h2).1,(k2 h2).2⟩,h3.1,by omega⟩
def nxC (g:GrT) (a:AutT) (z:Int):List Int:=nbC g a z.toNat
section
variable {g:GrT} {a:AutT} (H:GOOD g a)
include H
theorem GOOD.divmod {x:Int} (h0:0≤x) (h1:x<(a.2.1.length*g.1.length:Nat)):x.toNat / a.2.1.length<g.1.length∧x.toNat % a.2.1.length<a.2.1.length:=by
 have hp:=H.2.2.pos
 exact ⟨(Nat.div_lt_iff_lt_mul hp).2 (by rw[Nat.mul_comm];omega),Nat.mod_lt _ hp⟩
theorem Xe (x:Int) (h0:0≤x) (h1:x<(a.2.1.length*g.1.length:Nat)): ∀y∈nxC g a x,0≤y∧y<(a.2.1.length*g.1.length:Nat):=by
 obtain ⟨k1,k2⟩:=H.divmod h0 h1
 exact W9 H.1 H.2.2 H.2.1 k1 k2
theorem Vq {x:Int} (h0:0≤x) (h1:x<(a.2.1.length*g.1.length:Nat)):(nxC g a x).length≤720:=by
 obtain ⟨k1,k2⟩:=H.divmod h0 h1
 have:=rW (f:=nbA g a (x.toNat / a.2.1.length) (x.toNat % a.2.1.length)) (B:=30) (xs:=kF g.2 (x.toNat / a.2.1.length)) fun y hy=>O0 H.1 H.2.2 H.2.1 k1 k2 hy
 have l1:=sN g.2 (x.toNat / a.2.1.length)
 have:=H.1.m
 show (nbV g a _ _).length≤720
 unfold nbV
 omega
end
def nxN (g:GrT) (a:AutT) (z:Int):List Int:=if 0≤z∧z<(a.2.1.length*g.1.length:Nat) then nxC g a z else []
section
variable {g:GrT} {a:AutT} (H:GOOD g a)
include H
theorem vQ: ∀x:Int,0≤x→x<(a.2.1.length*g.1.length:Nat)→ ∀y∈nxN g a x,0≤y∧y<(a.2.1.length*g.1.length:Nat):=fun x h0 h1=>by
 unfold nxN;rw[if_pos ⟨h0,h1⟩];exact Xe H x h0 h1
theorem Ix (x:Int):(nxN g a x).length≤720:=by
 unfold nxN;split
 ·rename_i h;exact Vq H h.1 h.2
 ·simp
theorem Vr:dN g a=some (rm (a.2.1.length*g.1.length) fun z=>nxN g a (z:Int)):=by
 rw[Vh H.1 H.2.2 H.2.1]
 congr 1
 refine mZ fun z hz=>?_
 unfold nxN
 rw[if_pos ⟨by omega,by omega⟩];rfl
theorem RY {x:Int} (h0:0≤x) (h1:x<(a.2.1.length*g.1.length:Nat)): ∃l:List Vi,jt g a (GF x (a.2.1.length:Int)) (Int.tmod x (a.2.1.length:Int))=some l∧l.map (fun p=>p.2.1*(a.2.1.length:Int)+p.2.2)=nxN g a x∧ ∀p∈l,(0≤p.2.1∧p.2.1<60)∧0≤p.2.2∧p.2.2<60:=by
 obtain ⟨k1,k2⟩:=H.divmod h0 h1
 have hp:=H.2.2.pos
 have hN:=nN H.1 H.2.2 H.2.1
 have e1:GF x (a.2.1.length:Int)=((x.toNat / a.2.1.length:Nat):Int):=by
  unfold GF
  have:x.tdiv (a.2.1.length:Int)=((x.toNat / a.2.1.length:Nat):Int):=by
   rw[Int.tdiv_eq_ediv_of_nonneg h0]
   rw[show x / (a.2.1.length:Int)=((x.toNat:Nat):Int) / (a.2.1.length:Int) from by rw[Int.toNat_of_nonneg h0]]
   simp
  rw[this,vB (by have:=H.1.n5;omega)]
 have e2:Int.tmod x (a.2.1.length:Int)=((x.toNat % a.2.1.length:Nat):Int):=by
  rw[Int.tmod_eq_emod_of_nonneg h0]
  rw[show x % (a.2.1.length:Int)=((x.toNat:Nat):Int) % (a.2.1.length:Int) from by rw[Int.toNat_of_nonneg h0]]
  simp
 refine ⟨_,by rw[e1,e2];exact Vk H.1 H.2.2 H.2.1 k1 k2,?_,fun p hp=>?_⟩
 ·rw[Xc];unfold nxN;rw[if_pos ⟨h0,h1⟩];rfl
 ·obtain ⟨y,hy,hp⟩:=List.mem_flatMap.1 hp
  obtain ⟨t,ht,rfl⟩:=List.mem_map.1 hp
  have h2:=(AO H.1 hy).2
  have h3:=(vP H.1 H.2.2 H.2.1 (s:=((x.toNat % a.2.1.length:Nat):Int)) ⟨by omega,by omega⟩ (H.1.val _ (bj (xs:=g.1) (i:=((x.toNat / a.2.1.length:Nat):Int)) (Int.natCast_nonneg _) (Int.ofNat_lt.2 k1))) (AO H.1 hy).1).1 t ht
  have:=H.1.n5
  have:=H.2.1
  exact ⟨⟨h2.1,by simp only;omega⟩,h3.1,by simp only;omega⟩
end
def RKs (g:GrT) (a:AutT) (v:Int):List Int:=(bsS (nxN g a) (a.2.1.length*g.1.length) v (a.2.1.length*g.1.length)).1
theorem Ea {nx:Int→List Int} {N:Nat} {v:Int} (hv:0≤v∧v<N) (hn: ∀x:Int,0≤x→x<N→ ∀y∈nx x,0≤y∧y<N) {K:Nat} (hE:K=(bsS nx N v K).2.length): ∀d,bsS nx N v (K+d)=bsS nx N v K
 | 0=>rfl
 | d+1=>by
  have ih:=Ea hv hn hE d
  rw[←Nat.add_assoc,bsS,ih]
  have:(bsS nx N v K).2[K+d]? =none:=List.getElem?_eq_none (by omega)
  rw[this]
section
variable {g:GrT} {a:AutT} (H:GOOD g a) {x:Int} (hx:0≤x∧x<g.1.length)
include H hx
theorem S9:0≤x*(a.2.1.length:Int)+a.1∧x*(a.2.1.length:Int)+a.1<(a.2.1.length*g.1.length:Nat):=by
 obtain ⟨z,rfl⟩: ∃z:Nat,x=(z:Int):=⟨_,(Int.toNat_of_nonneg hx.1).symm⟩
 have hs:=H.2.2.start
 obtain ⟨s,hs'⟩: ∃s:Nat,a.1=(s:Int):=⟨_,(Int.toNat_of_nonneg hs.1).symm⟩
 rw[hs'] at hs⊢
 have:=cN H.1 H.2.2 H.2.1 (x:=z) (s:=s) (by omega) (by omega)
 constructor
 ·exact Int.add_nonneg (Int.mul_nonneg (by omega) (by omega)) (by omega)
 ·exact_mod_cast this
theorem Ta:IntKind.i64.wrap ((IntKind.i64.wrap (x*(a.2.1.length:Int)))+a.1)=x*(a.2.1.length:Int)+a.1:=by
 have h:=S9 H hx
 have hN:=nN H.1 H.2.2 H.2.1
 have hs:=H.2.2.start
 have hn:=H.2.1
 have h5:=H.1.n5
 rw[cC (n:=x*(a.2.1.length:Int)) (by omega) (by omega),cC (by omega) (by omega)]
theorem Yt:BI (a.2.1.length*g.1.length) (bsS (nxN g a) (a.2.1.length*g.1.length) (x*(a.2.1.length:Int)+a.1) (a.2.1.length*g.1.length)):=AP (S9 H hx) (vQ H) _
theorem O4:(RKs g a (x*(a.2.1.length:Int)+a.1)).length=a.2.1.length*g.1.length:=(Yt H hx).len
theorem Xf (e:cv g a [x] =some true):e7 g a x=some (RKs g a (x*(a.2.1.length:Int)+a.1)):=by
 unfold e7
 have e:cv (g.1,g.2) (a.1,a.2.1,a.2.2) [x] =_:=e
 rw[e];simp only[Option.bind_some,if_true]
 have e2:dN (g.1,g.2) (a.1,a.2.1,a.2.2)=_:=Vr H
 rw[e2];simp only[Option.bind_some]
 have hN:=nN H.1 H.2.2 H.2.1
 obtain ⟨K,hK,hE,hR⟩:=O1 (S9 H hx) (vQ H)
 rw[Ta H hx,RX hN (S9 H hx) (vQ H) (fun x=>by have:=Ix H x;omega) hK hE hR];simp only[Option.bind_some]
 have hk:bsS (nxN g a) (a.2.1.length*g.1.length) (x*(a.2.1.length:Int)+a.1) K=bsS (nxN g a) (a.2.1.length*g.1.length) (x*(a.2.1.length:Int)+a.1) (a.2.1.length*g.1.length):=by
  have:=Ea (S9 H hx) (vQ H) hE (a.2.1.length*g.1.length - K)
  rw[show K+(a.2.1.length*g.1.length - K)=a.2.1.length*g.1.length from by omega] at this
  exact this.symm
 have hl:=O4 H hx
 rw[hk]
 show ((chk _).bind fun _=>_).bind _=_
 have hv:=S9 H hx
 rw[il (by rw[show (bsS _ _ _ _).1.length=_ from hl];omega)];rfl
theorem Yu {o1 o2:List Int} {i:Nat} {z:Int} {l:List Vi} (hz:(bsS (nxN g a) (a.2.1.length*g.1.length) (x*(a.2.1.length:Int)+a.1) i).2[i]? =some z)
  (hl:l.map (fun p=>p.2.1*(a.2.1.length:Int)+p.2.2)=nxN g a z) (hp: ∀p∈l,(0≤p.2.1∧p.2.1<60)∧0≤p.2.2∧p.2.2<60) :
  ai (gy a (o1,o2,(i:Int)) l) aC ((bsS (nxN g a) (a.2.1.length*g.1.length) (x*(a.2.1.length:Int)+a.1) i).1,(bsS (nxN g a) (a.2.1.length*g.1.length) (x*(a.2.1.length:Int)+a.1) i).2,0)=some (.brk ((bsS (nxN g a) (a.2.1.length*g.1.length) (x*(a.2.1.length:Int)+a.1) (i+1)).1,(bsS (nxN g a) (a.2.1.length*g.1.length) (x*(a.2.1.length:Int)+a.1) (i+1)).2,(l.length:Int))):=by
 have hN:=nN H.1 H.2.2 H.2.1
 have hv:=S9 H hx
 have hnn:=H.2.1
 generalize hV:x*(a.2.1.length:Int)+a.1=v at hz hv⊢
 have hlen:l.length≤720:=by have:=Ix H z;rw[←hl,List.length_map] at this;exact this
 have e:bsS (nxN g a) (a.2.1.length*g.1.length) v (i+1)=Cy (nth (bsS (nxN g a) (a.2.1.length*g.1.length) v i).1 z+1) (bsS (nxN g a) (a.2.1.length*g.1.length) v i) (nxN g a z):=by rw[bsS,hz]
 have:=aB (f:=gy a (o1,o2,(i:Int)) l) (fun j=>((Cy (nth (bsS (nxN g a) (a.2.1.length*g.1.length) v i).1 z+1) (bsS (nxN g a) (a.2.1.length*g.1.length) v i) ((nxN g a z).take j)).1,(Cy (nth (bsS (nxN g a) (a.2.1.length*g.1.length) v i).1 z+1) (bsS (nxN g a) (a.2.1.length*g.1.length) v i) ((nxN g a z).take j)).2,(j:Int))) l.length (fun j hj=>by
  obtain ⟨k1,k2,k3,⟨x0,x1⟩,k4,k5⟩:=Vn hN hv (vQ H) (fun x=>by have:=Ix H x;omega) hz j
  have hjn:j<(nxN g a z).length:=by rw[←hl,List.length_map];exact hj
  have hy:=vQ H z x0 x1 _ (bj (xs:=nxN g a z) (i:=(j:Int)) (by omega) (by omega))
  have hq:=hp _ (bj (xs:=l) (i:=(j:Int)) (by omega) (by omega))
  have hyl:nth (nxN g a z) (j:Int)=(nth l (j:Int)).2.1*(a.2.1.length:Int)+(nth l (j:Int)).2.2:=by rw[←hl,UW (by omega) (by omega)]
  unfold gy
  simp only
  rw[uj hjn,Gs]
  generalize Cy (nth (bsS (nxN g a) (a.2.1.length*g.1.length) v i).1 z+1) (bsS (nxN g a) (a.2.1.length*g.1.length) v i) ((nxN g a z).take j)=s at k1 k2 k3 k5
  have hle:=k1.le
  have hsl:=k1.len
  rw[if_pos (by simp;omega),aj (by omega) (by omega)];simp only[Option.bind_some]
  rw[cC (n:=(nth l (j:Int)).2.1*(a.2.1.length:Int)) (by omega) (by omega),←hyl,cC (by omega) (by omega)]
  rw[aj (xs:=s.1) hy.1 (by omega)];simp only[Option.bind_some]
  rw[show ay s.2 (i:Int)=some z from by unfold ay;rw[if_pos (by omega)];exact k2];simp only[Option.bind_some]
  rw[aj (xs:=s.1) x0 (by omega)];simp only[Option.bind_some]
  rw[aw (by simp;omega),aa (by omega),k3,cC (by omega) (by omega)]
  unfold S8
  by_cases c:nth s.1 (nth (nxN g a z) (j:Int))<0
  ·rw[if_pos (by simpa using c),if_pos c];rfl
  ·rw[if_neg (by simpa using c),if_neg c];rfl) (by unfold gy;simp) (mf (by omega))
 have et:(nxN g a z).take l.length=nxN g a z:=by
  have:l.length=(nxN g a z).length:=by rw[←hl,List.length_map]
  rw[this,List.take_length]
 rw[et] at this
 rw[e]
 exact this
theorem Vs:lX g a x=some (RKs g a (x*(a.2.1.length:Int)+a.1)):=by
 have hN:=nN H.1 H.2.2 H.2.1
 have hv:=S9 H hx
 have hpos:=H.2.2.pos
 unfold lX
 have ew:IntKind.i64.wrap ((g.1.length:Int)*(a.2.1.length:Int))=((a.2.1.length*g.1.length:Nat):Int):=by
  rw[show ((g.1.length:Int)*(a.2.1.length:Int))=((a.2.1.length*g.1.length:Nat):Int) from by rw[Nat.mul_comm];simp,vB (by omega)]
 have e0:ai (gx g a) aC (([] :List Int),0)=some (.brk (List.replicate (a.2.1.length*g.1.length) (-1),((a.2.1.length*g.1.length:Nat):Int))):=by
  have:=aB (f:=gx g a) (fun i=>(List.replicate i (-1),(i:Int))) (a.2.1.length*g.1.length) (fun i hi=>by
   unfold gx
   simp only
   rw[ew,if_pos (by simp only[decide_eq_true_eq];omega),aw (by simp;omega),aa (by omega)];simp only[Option.bind_some]
   rw[List.replicate_succ']) (by unfold gx;simp only;rw[ew,if_neg (by simp)]) (mf (by omega))
  exact this
 rw[af e0,Ta H hx]
 simp only
 generalize hV:x*(a.2.1.length:Int)+a.1=v at hv
 rw[show ay [v] 0=some v from rfl];simp only[Option.bind_some]
 rw[aj (xs:=List.replicate _ (-1:Int)) hv.1 (by simpa using hv.2)];simp only[Option.bind_some]
 obtain ⟨K,hK,hE,hR⟩:=O1 hv (vQ H)
 have:=aB (f:=gz g a) (fun i=>((bsS (nxN g a) (a.2.1.length*g.1.length) v i).1,(bsS (nxN g a) (a.2.1.length*g.1.length) v i).2,(i:Int))) K (fun i hi=>by
  have hi2:=hR i hi
  obtain ⟨z,hz⟩: ∃z,(bsS (nxN g a) (a.2.1.length*g.1.length) v i).2[i]? =some z:=⟨_,List.getElem?_eq_getElem hi2⟩
  obtain ⟨z0,z1⟩:=(AP hv (vQ H) i).rng z (List.mem_of_getElem? hz)
  obtain ⟨l,es,hl,hp⟩:=RY H z0 z1
  have es:jt (g.1,g.2) (a.1,a.2.1,a.2.2) (GF z (a.2.1.length:Int)) (Int.tmod z (a.2.1.length:Int))=_:=es
  unfold gz
  simp only
  rw[if_pos (by simp only[decide_eq_true_eq];omega)]
  rw[show ay (bsS (nxN g a) (a.2.1.length*g.1.length) v i).2 (i:Int)=some z from by unfold ay;rw[if_pos (by omega)];exact hz];simp only[Option.bind_some]
  rw[il (by omega),es];simp only[Option.bind_some]
  have h2:=Yu H hx (o1:=(bsS (nxN g a) (a.2.1.length*g.1.length) v i).1) (o2:=(bsS (nxN g a) (a.2.1.length*g.1.length) v i).2) (by rw[hV];exact hz) hl hp
  rw[hV] at h2
  rw[af h2,aa (by omega)]) (by unfold gz;simp only;rw[if_neg (by simp;omega)]) (mf (by omega))
 have this:ai (gz g a) aC ((List.replicate (a.2.1.length*g.1.length) (-1)).set v.toNat 0,[v],0)=_:=this
 rw[af this]
 simp only
 have:=Ea hv (vQ H) hE (a.2.1.length*g.1.length - K)
 rw[show K+(a.2.1.length*g.1.length - K)=a.2.1.length*g.1.length from by omega] at this
 unfold RKs
 rw[this]
end
end D
namespace D
open Go.RowKit
theorem sS {c:Prop} [Decidable c] (h:c):chk c=some ():=if_pos h
theorem wX {α:Type} {xs:List α} {i n:Nat} {z:α} (h:i≤xs.length):(oU xs i n z).take i=xs.take i:=by
 unfold oU
 rw[List.take_append_of_le_length (by rw[List.length_take];omega),List.take_take,Nat.min_self]
theorem AR {α:Type} {xs:List α} {i:Nat} {z:α} (h:i≤xs.length):(oU xs i xs.length z).length=xs.length:=xa h (Nat.le_refl _)
theorem Eb {α:Type} {ys:List α} {i:Nat} {x:α} (h:i<ys.length):(ys.set i x).take (i+1)=ys.take i++ [x]:=by
 rw[List.take_succ_eq_append_getElem (by simpa using h)]
 simp[List.take_set_of_le]
theorem set_drop {α:Type} {ys:List α} {i j:Nat} {x:α} (h:i<j):(ys.set i x).drop j=ys.drop j:=by
 apply List.ext_getElem?
 intro q
 rw[List.getElem?_drop,List.getElem?_drop,List.getElem?_set_ne (by omega)]
theorem vR {α:Type} {ys xs:List α} {j:Nat} (h:ys.drop j=xs.drop j):ys.drop (j+1)=xs.drop (j+1):=by
 rw[←List.drop_drop,h,List.drop_drop]
theorem vS {α:Type} {ys xs:List α} {j q:Nat} (h:ys.drop j=xs.drop j) (hq:j≤q) (h1:q<ys.length) (h2:q<xs.length):ys[q] =xs[q]:=by
 have e:=congrArg (fun l=>l[q - j]?) h
 simp only[List.getElem?_drop,show j+(q - j)=q from by omega] at e
 rw[List.getElem?_eq_getElem h1,List.getElem?_eq_getElem h2] at e
 exact Option.some.inj e
section
variable {α:Type} [DecidableEq α]
def qQ:List α→List α
 | [] =>[]
 | [a] =>[a]
 | a::b::l=>if a=b then qQ (b::l) else a::qQ (b::l)
theorem yr {x:α} : ∀ {l:List α},x∈qQ l↔x∈l
 | [] =>Iff.rfl
 | [a] =>Iff.rfl
 | a::b::l=>by
  rw[qQ]
  split
  ·rename_i e;subst e;rw[yr];simp
  ·rw[List.mem_cons,yr,List.mem_cons (l:=b::l)]
theorem Gt: ∀(l:List α) (b:α),l≠ [] →qQ (l++ [b])=if l.getLast? =some b then qQ l else qQ l++ [b]
 | [],b,h=>absurd rfl h
 | [a],b,_=>by
  by_cases e:a=b
  ·subst e;simp[qQ]
  ·simp[qQ,e]
 | a::c::l,b,_=>by
  have ih:=Gt (c::l) b (by simp)
  have hg:(a::c::l).getLast? =(c::l).getLast? :=by simp[List.getLast?_cons_cons]
  rw[hg]
  show qQ (a::c::(l++ [b]))=_
  rw[qQ,qQ]
  rw[show c::(l++ [b])=(c::l)++ [b] from rfl,ih]
  by_cases e:a=c
  ·rw[if_pos e,if_pos e]
  ·rw[if_neg e,if_neg e]
   split <;> simp
theorem AS {xs:List α} {j:Nat} (h0:0<j) (h:j<xs.length):qQ (xs.take (j+1))=if xs[j - 1] =xs[j] then qQ (xs.take j) else qQ (xs.take j)++ [xs[j]]:=by
 rw[List.take_succ_eq_append_getElem h,Gt _ _ (by
  intro e
  have h9:=congrArg List.length e
  rw[List.length_take,Nat.min_eq_left (Nat.le_of_lt h),List.length_nil] at h9
  omega)]
 have hg:(xs.take j).getLast? =some xs[j - 1]:=by
  rw[List.getLast?_eq_getElem?,List.length_take,Nat.min_eq_left (Nat.le_of_lt h),List.getElem?_take,if_pos (show j - 1<j by omega),List.getElem?_eq_getElem (show j - 1<xs.length by omega)]
 rw[hg]
 by_cases e:xs[j - 1] =xs[j]
 ·rw[if_pos (by rw[e]),if_pos e]
 ·rw[if_neg (by simpa using e),if_neg e]
theorem Gu {xs:List α} : ∀(j:Nat),j≤xs.length→(∀q (hq:q<j) (h0:0<q) (hx:j≤xs.length),xs[q - 1]'(by omega)≠xs[q]'(by omega))→qQ (xs.take j)=xs.take j
 | 0,_,_=>by simp[qQ]
 | 1,h,_=>by
  cases xs with
  | nil=>simp[qQ]
  | cons a l=>simp[qQ]
 | j+2,h,hq=>by
  rw[AS (by omega) (by omega),if_neg (hq (j+1) (by omega) (by omega) h),Gu (j+1) (by omega) (fun q h1 h2 h3=>hq q (by omega) h2 h),←List.take_succ_eq_append_getElem]
end
theorem Ec: ∀ {l:List Int},l.Pairwise (fun a b=>a≤b)→(qQ l).Pairwise (fun a b=>a<b)
 | [],_=>List.Pairwise.nil
 | [a],_=>by simp[qQ]
 | a::b::l,h=>by
  obtain ⟨h1,h2⟩:=List.pairwise_cons.1 h
  rw[qQ]
  split
  ·exact Ec h2
  ·rename_i hn
   refine List.pairwise_cons.2 ⟨fun x hx=>?_,Ec h2⟩
   have hab:a<b:=by have:=h1 b (List.mem_cons_self ..);omega
   rcases List.mem_cons.1 (yr.1 hx) with rfl | hx
   ·exact hab
   ·have:=(List.pairwise_cons.1 h2).1 x hx
    omega
theorem Gv: ∀ {l m:List Int},l.Pairwise (fun a b=>a<b)→m.Pairwise (fun a b=>a<b)→(∀x,x∈l↔x∈m)→l=m
 | [],[],_,_,_=>rfl
 | [],b::m,_,_,h=>absurd ((h b).2 (by simp)) (by simp)
 | a::l,[],_,_,h=>absurd ((h a).1 (by simp)) (by simp)
 | a::l,b::m,h1,h2,h=>by
  obtain ⟨k1,k2⟩:=List.pairwise_cons.1 h1
  obtain ⟨j1,j2⟩:=List.pairwise_cons.1 h2
  have hab:a=b:=by
   have ha:=(h a).1 (by simp)
   have hb:=(h b).2 (by simp)
   rcases List.mem_cons.1 ha with e | ha
   ·exact e
   ·rcases List.mem_cons.1 hb with e | hb
    ·exact e.symm
    ·have:=k1 b hb;have:=j1 a ha;omega
  subst hab
  rw[Gv k2 j2 fun x=>?_]
  have:=h x
  rw[List.mem_cons,List.mem_cons] at this
  constructor
  ·intro hx
   rcases this.1 (.inr hx) with e | e
   ·subst e;have:=k1 x hx;omega
   ·exact e
  ·intro hx
   rcases this.2 (.inr hx) with e | e
   ·subst e;have:=j1 x hx;omega
   ·exact e
end D
namespace D
open Go.RowKit
theorem Zf {a b:Int} :(a==b)=decide (a=b):=by rw[Bool.eq_iff_iff];simp
theorem Iy (xs:List Int) (hl:xs.length≤1073741824):cd xs=some (qQ xs):=by
 unfold cd
 by_cases h2:xs.length<2
 ·rw[if_pos (by simp;omega)]
  cases xs with
  | nil=>rfl
  | cons a l =>
   cases l with
   | nil=>rfl
   | cons b l=>simp only[List.length_cons] at h2;omega
 rw[if_neg (by simp;omega)]
 have key:(ai (bh xs) aC 1=some (.ret (qQ xs)))∨(∃s,ai (bh xs) aC 1=some (.brk s)∧qQ xs=xs):=by
  obtain ⟨o,e,hQ⟩:=cz (f:=bh xs) (fun t s=>s=((t+1:Nat):Int)∧qQ (xs.take (t+1))=xs.take (t+1)) (fun o=>o= .ret (qQ xs)∨ ∃s,o= .brk s∧qQ xs=xs) (xs.length - 1) (fun t s ht hI=>by
   obtain ⟨rfl,hI⟩:=hI
   unfold bh
   by_cases h1:t+1<xs.length
   ·have hp:((t+1:Nat):Int) - 1=((t:Nat):Int):=by omega
    rw[bw h1,if_pos rfl,al h1,cC (n:=((t+1:Nat):Int) - 1) (by omega) (by omega),hp,al (show t<xs.length by omega)]
    simp only[Option.bind_some,Zf]
    have hn:=AS (xs:=xs) (j:=t+1) (by omega) h1
    rw[hI] at hn
    simp only[Nat.add_sub_cancel] at hn
    by_cases he:xs[t+1] =xs[t]
    ·rw[if_pos (decide_eq_true he),sS (by omega),Option.bind_some]
     rw[if_pos he.symm] at hn
     have hlt:(xs.take (t+1)).length=t+1:=by rw[List.length_take];omega
     obtain ⟨s,e1,ys,rfl,k1,k2,k3,k4⟩:=kp (f:=bM xs ((t+1:Nat):Int)) (fun u s=> ∃ys:List Int,s=(((qQ (xs.take (t+2+u))).length:Int),((u+1:Nat):Int),ys)∧ys.length=xs.length∧ys.take (qQ (xs.take (t+2+u))).length=qQ (xs.take (t+2+u))∧ys.drop (t+1+u)=xs.drop (t+1+u)∧(qQ (xs.take (t+2+u))).length≤t+1+u) (xs.length - (t+2)) (fun u s hu hI=>by
      obtain ⟨ys,rfl,k1,k2,k3,k4⟩:=hI
      have hj:t+2+u<xs.length:=by clear k4 k2;omega
      have hj1:t+1+u<xs.length:=by clear k4 k2;omega
      have hj2:t+2+u<ys.length:=by clear k4 k2;omega
      have hj3:t+1+u<ys.length:=by clear k4 k2;omega
      have a1:(0+((t+1:Nat):Int))+((u+1:Nat):Int)=((t+2+u:Nat):Int):=by omega
      have a2:((u+1:Nat):Int) - 1=((u:Nat):Int):=by omega
      have a3:(0+((t+1:Nat):Int))+((u:Nat):Int)=((t+1+u:Nat):Int):=by omega
      unfold bM
      dsimp only
      rw[if_pos (by simp;omega),sS (by omega)]
      simp only[Option.bind_some]
      rw[cC (n:=((u+1:Nat):Int) - 1) (by omega) (by omega),a1,a2,a3,al (xs:=ys) hj2,al (xs:=ys) hj3,sS (by omega),vS k3 (by omega) hj2 hj,vS k3 (Nat.le_refl _) hj3 hj1]
      simp only[Option.bind_some,Zf,dj]
      have e9:t+2+u - 1=t+1+u:=by clear k4 k2;omega
      have e8:0<t+2+u:=by clear k4 k2;omega
      have hnx:=AS (xs:=xs) (j:=t+2+u) e8 hj
      simp only[e9] at hnx
      have hd:=vR k3
      rw[show t+1+u+1=t+1+(u+1) from by omega] at hd
      rw[show t+2+(u+1)=t+2+u+1 from by omega,hnx]
      generalize qQ (xs.take (t+2+u))=K at *
      by_cases hq:xs[t+2+u] =xs[t+1+u]
      ·rw[if_neg (by simpa using hq),if_pos hq.symm]
       simp only[Option.bind_some]
       rw[aa (by omega)]
       exact ⟨_,rfl,ys,rfl,k1,k2,hd,by omega⟩
      ·rw[if_pos (by simpa using hq),if_neg (fun e=>hq e.symm),al (xs:=ys) (show K.length<ys.length by omega)]
       simp only[Option.bind_some]
       rw[aa (by omega),aa (by omega)]
       refine ⟨_,rfl,ys.set K.length xs[t+2+u],?_,by simpa using k1,?_,?_,?_⟩
       ·rw[List.length_append,List.length_singleton];rfl
       ·rw[List.length_append,List.length_singleton,Eb (by omega),k2]
       ·rw[set_drop (by omega)];exact hd
       ·rw[List.length_append,List.length_singleton];omega) (fun s hI=>by
      obtain ⟨ys,rfl,k1,k2,k3,k4⟩:=hI
      unfold bM
      rw[if_neg (by simp;omega)]) (s:=(((t+1:Nat):Int),1,xs)) ⟨xs,by rw[Nat.add_zero,hn,hlt];rfl,rfl,by rw[Nat.add_zero,hn,hlt],rfl,by rw[Nat.add_zero,hn,hlt];omega⟩ (kI _ (by omega))
     refine .inr ⟨.ret (qQ xs),?_,fun s' hh=>(by simp at hh),.inl rfl⟩
     rw[af e1]
     have hall:xs.take (t+2+(xs.length - (t+2)))=xs:=List.take_of_length_le (by omega)
     rw[hall] at k2 k4⊢
     generalize qQ xs=K at *
     have q0:K.length≤ys.length:=by omega
     have z1:((0:Int)+((K.length:Nat):Int)).toNat=K.length:=by omega
     have z2:((0:Int)+(((ys.length:Nat):Int) - 0)).toNat=ys.length:=by omega
     simp only[z1,z2]
     have zl:=AR (z:=(0:Int)) q0
     rw[sS (by omega),Option.bind_some,sS (by omega),Option.bind_some,sS (by rw[zl];omega),Option.bind_some,wX q0,k2,List.drop_zero]
    ·rw[if_neg (by simpa using he),aa (by omega)]
     rw[if_neg (fun e=>he e.symm),←List.take_succ_eq_append_getElem h1] at hn
     exact .inl ⟨by omega,_,rfl,rfl,hn⟩
   ·refine .inr ⟨.brk ((t+1:Nat):Int),?_,fun s' hh=>(by simp at hh),.inr ⟨_,rfl,?_⟩⟩
    ·rw[if_neg (by simp;omega)]
    ·rw[List.take_of_length_le (by omega)] at hI;exact hI) (s:=1) ⟨rfl,Gu 1 (by omega) (fun q h1 h0=>by omega)⟩ (kI _ (by omega))
  rcases hQ with rfl | ⟨s,rfl,h⟩
  ·exact .inl e
  ·exact .inr ⟨s,e,h⟩
 rcases key with e | ⟨s,e,h⟩
 ·rw[a8 e]
 ·rw[af e,h]
theorem AT (m:Nat): ∀k,(ep m k).Pairwise (fun a b=>a<b)
 | 0=>List.Pairwise.nil
 | k+1=>by
  rw[jD]
  split
  ·refine List.pairwise_append.2 ⟨AT m k,List.pairwise_singleton _ _,fun a ha b hb=>?_⟩
   obtain ⟨i,hi,_,rfl⟩:=rU.1 ha
   obtain rfl:b=(k:Int):=by simpa using hb
   omega
  ·exact AT m k
theorem Vt {X:List Int} {m:Nat} (h: ∀x∈X,∃i:Nat,i<30∧x=(i:Int)) (hm: ∀i:Nat,i<30→(m.testBit i=true↔(i:Int)∈X)):qQ (X.mergeSort fun x y=>decide (x≤y))=ep m 30:=by
 have hp:(X.mergeSort fun x y=>decide (x≤y)).Pairwise (fun a b=>a≤b):=by
  have:=List.pairwise_mergeSort (le:=fun (x y:Int)=>decide (x≤y)) (fun a b c h1 h2=>by
   have h1:=of_decide_eq_true h1;have h2:=of_decide_eq_true h2
   exact decide_eq_true (by omega)) (fun a b=>by
   rw[Bool.or_eq_true,decide_eq_true_eq,decide_eq_true_eq];omega) X
  exact this.imp fun h=>of_decide_eq_true h
 refine Gv (Ec hp) (AT m 30) fun x=>?_
 rw[yr,List.mem_mergeSort,rU]
 constructor
 ·intro hx
  obtain ⟨i,hi,rfl⟩:=h x hx
  exact ⟨i,hi,(hm i hi).2 hx,rfl⟩
 ·rintro ⟨i,hi,hb,rfl⟩
  exact (hm i hi).1 hb
end D
namespace D
open Go.RowKit
def LO (a:AutT) (s v:Int):Bool:=decide (∃q∈ep (cS a s v) 30,nth a.2.1 q=true)
section
variable {a:AutT} {n:Nat} (V:VA a n) (hn:n≤12)
include V hn
theorem Iz {s v:Int} (hs:0≤s∧s<n) (hv:0≤v∧v≤2):kd a (vX 1 s) v=some (LO a s v):=by
 obtain ⟨t,rfl⟩: ∃t:Nat,s=(t:Int):=⟨s.toNat,by omega⟩
 obtain ⟨e1,h1⟩:=pA V hn hs hv
 have hC:cS a (t:Int) v<2 ^ 30:=Nat.lt_of_lt_of_le h1 (Nat.pow_le_pow_right (by decide) (by omega))
 unfold kd
 rw[wW (by omega),rV (Nat.pow_lt_pow_right (by decide) (by omega)),Gn (by omega)];simp only[Option.bind_some]
 have hlen:=me (cS a (t:Int) v) 30
 have h0:dO a v [(t:Int)] 0=some (if LO a (t:Int) v=true then .ret true else .nxt 1):=by
  unfold dO
  rw[if_pos (by simp),show ay [(t:Int)] 0=some (t:Int) from rfl];simp only[Option.bind_some]
  have e1:eA (a.1,a.2.1,a.2.2) (t:Int) v=_:=e1
  rw[e1];simp only[Option.bind_some]
  rw[rV hC];simp only[Option.bind_some]
  rcases scan (f:=iV a (ep (cS a (t:Int) v) 30)) (ep (cS a (t:Int) v) 30) (fun q=> ¬nth a.2.1 q=true) true (by omega) (fun i hi=>by
   have hq:=vO V hn h1 _ (bj (xs:=ep (cS a (t:Int) v) 30) (i:=(i:Int)) (by omega) (by omega))
   unfold iV
   rw[if_pos (by simp;omega),aj (by omega) (by omega)];simp only[Option.bind_some]
   rw[V.acc hq.1 hq.2,aa (by omega)];simp only[Option.bind_some]
   cases nth a.2.1 (nth (ep (cS a (t:Int) v) 30) (i:Int)) <;> rfl) (by unfold iV;simp) with ⟨e,h⟩ | ⟨e,h⟩
  ·rw[af e,if_neg (by unfold LO;rw[decide_eq_true_eq];rintro ⟨q,hq,hqa⟩;exact h q hq hqa)];rfl
  ·rw[a8 e,if_pos (by
    unfold LO;rw[decide_eq_true_eq]
    by_cases c: ∃q∈ep (cS a (t:Int) v) 30,nth a.2.1 q=true
    ·exact c
    ·exact absurd (fun q hq hqa=>c ⟨q,hq,hqa⟩) h)]
 have h1':dO a v [(t:Int)] 1=some (.brk 1):=by
  unfold dO;rw[if_neg (by simp)]
 rcases LD (f:=dO a v [(t:Int)]) 1 (fun _=> ¬LO a (t:Int) v=true) true (by decide) (fun i hi=>by
  obtain rfl:i=0:=by omega
  rw[show ((0:Nat):Int)=0 from rfl,h0]
  cases LO a (t:Int) v <;> rfl) h1' with ⟨e,h⟩ | ⟨e,h⟩
 ·rw[af e]
  have:=h 0 (by decide)
  rw[Bool.not_eq_true] at this
  rw[this]
 ·rw[a8 e]
  have:LO a (t:Int) v=true:=by
   cases hb:LO a (t:Int) v with
   | true=>rfl
   | false=>exact absurd (fun _ _=>by rw[hb];decide) h
  rw[this]
theorem Gw {C:Nat} (hC:C<2 ^ n):az (ai (eX a (C:Int)) aC 0) (fun r=>some r) (fun _=>some false)=some (decide (∃q∈ep C 30,nth a.2.1 q=true)):=by
 have hC':C<2 ^ 62:=Nat.lt_of_lt_of_le hC (p62 (by omega))
 rcases LD (f:=eX a (C:Int)) n (fun i=> ¬(C.testBit i=true∧nth a.2.1 (i:Int)=true)) true (by omega) (fun i hi=>by
  unfold eX
  rw[V.len,if_pos (by simp;omega),il (by omega),AL hC' (by omega),V.acc (by omega) (by omega),aa (by omega)];simp only[Option.bind_some]
  cases C.testBit i <;> cases nth a.2.1 (i:Int) <;> rfl) (by unfold eX;rw[V.len];simp) with ⟨e,h⟩ | ⟨e,h⟩
 ·rw[af e,decide_eq_false]
  rintro ⟨q,hq,hqa⟩
  have hr:=vO V hn hC q hq
  obtain ⟨i,hi,hb,rfl⟩:=rU.1 hq
  exact h i (by omega) ⟨hb,hqa⟩
 ·rw[a8 e,decide_eq_true]
  by_cases c: ∃q∈ep C 30,nth a.2.1 q=true
  ·exact c
  ·exact absurd (fun (i:Nat) (hi:i<n) (hh:C.testBit i=true∧nth a.2.1 (i:Int)=true)=>c ⟨(i:Int),rU.2 ⟨i,by omega,hh.1,rfl⟩,hh.2⟩) h
end
section
variable {g:GrT} {a:AutT} (H:GOOD g a)
include H
theorem O5 {x s:Nat} (hx:x<g.1.length) (hs:s<a.2.1.length):iB g a (x:Int) (s:Int)=some (LO a (s:Int) (nth g.1 (x:Int))):=by
 have hv:=H.1.val _ (bj (xs:=g.1) (i:=(x:Int)) (by omega) (by omega))
 have ec:=Gr H.2.2 H.2.1 (s:=(s:Int)) ⟨by omega,by omega⟩ hv
 have hC:=(pA H.2.2 H.2.1 (s:=(s:Int)) ⟨by omega,by omega⟩ hv).2
 unfold iB
 rw[aj (by omega) (by omega)];simp only[Option.bind_some]
 have ec:ez (a.1,a.2.1,a.2.2) (s:Int) (nth g.1 (x:Int))=_:=ec
 rw[ec];simp only[Option.bind_some]
 have:=Gw H.2.2 H.2.1 hC
 exact this
end
theorem Yv {m:Nat} (hm:m<2 ^ 30):uP (m:Int)=some (ep m 30):=by
 have hm':m<2 ^ 62:=Nat.lt_of_lt_of_le hm (Nat.pow_le_pow_right (by decide) (by decide))
 unfold uP
 have:=aB (f:=lY (m:Int)) (fun i=>(ep m i,(i:Int))) 30 (fun i hi=>by
  have hl:=me m i
  unfold lY
  simp only
  rw[if_pos (by simp;omega),il (by omega),AL hm' (by omega),aa (by omega),jD];simp only[Option.bind_some]
  by_cases b:m.testBit i=true
  ·rw[if_pos b,if_pos b,aw (by simp;omega)];rfl
  ·rw[if_neg b,if_neg b];rfl) (by unfold lY;simp) (by unfold aC;omega)
 have this:ai (lY (m:Int)) aC (([] :List Int),0)=_:=this
 rw[af this]
theorem IA (xs:List Int) (h:xs.length≤1000000):ke xs=some (qQ (xs.mergeSort fun x y=>decide (x≤y))):=by
 unfold ke gE eB R.Ra
 rw[aw (by simp;omega)];simp only[Option.bind_some,List.nil_append]
 rw[il (by omega)];simp only[Option.bind_some]
 rw[Iy _ (by rw[List.length_mergeSort];omega)];rfl
def XK (g:GrT) (a:AutT) (R:List Int) (i:Nat):Bool:=decide (0≤nth R (i:Int))&&LO a ((i % a.2.1.length:Nat):Int) (nth g.1 ((i / a.2.1.length:Nat):Int))
def LG (g:GrT) (a:AutT) (R:List Int):Nat→List Int
 | 0=>[]
 | i+1=>if XK g a R i=true then LG g a R i++ [((i / a.2.1.length:Nat):Int)] else LG g a R i
def LP (g:GrT) (a:AutT) (R:List Int):Nat→Nat
 | 0=>0
 | i+1=>if XK g a R i=true then LP g a R i ||| 2 ^ (i / a.2.1.length) else LP g a R i
theorem Ed (g:GrT) (a:AutT) (R:List Int): ∀i,(LG g a R i).length≤i
 | 0=>by simp[LG]
 | i+1=>by
  have:=Ed g a R i
  rw[LG];split
  ·rw[List.length_append];simp;omega
  ·omega
theorem O6 {x:Nat} {n:Nat} (hx:x≤1000000):GF (x:Int) (n:Int)=((x / n:Nat):Int)∧Int.tmod (x:Int) (n:Int)=((x % n:Nat):Int):=by
 refine ⟨?_,?_⟩
 ·unfold GF
  rw[Int.tdiv_eq_ediv_of_nonneg (Int.natCast_nonneg _),←Int.natCast_ediv,vB (by have:=Nat.div_le_self x n;omega)]
 ·rw[Int.tmod_eq_emod_of_nonneg (Int.natCast_nonneg _),Int.natCast_emod]
section
variable {g:GrT} {a:AutT} (H:GOOD g a) {R:List Int} (hR:R.length=a.2.1.length*g.1.length)
include H
theorem JX {i:Nat} (hi:i<a.2.1.length*g.1.length):i / a.2.1.length<g.1.length∧i % a.2.1.length<a.2.1.length∧0<a.2.1.length∧g.1.length≤5:=by
 obtain ⟨k1,k2⟩:=H.divmod (x:=(i:Int)) (by omega) (by omega)
 exact ⟨k1,k2,H.2.2.pos,H.1.n5⟩
theorem IB: ∀i,i≤a.2.1.length*g.1.length→LP g a R i<2 ^ 5
 | 0,_=>by simp[LP]
 | i+1,hi=>by
  have h:=IB i (by omega)
  obtain ⟨k1,k2,k3,k4⟩:=JX H (i:=i) (by omega)
  rw[LP];split
  ·exact vN h (by omega)
  ·exact h
theorem O7: ∀i,i≤a.2.1.length*g.1.length→ ∀j:Nat,((LP g a R i).testBit j=true↔(j:Int)∈LG g a R i)
 | 0,_,j=>by simp[LP,LG]
 | i+1,hi,j=>by
  have h:=O7 i (by omega) j
  rw[LP,LG];split
  ·rw[tu,Bool.or_eq_true,h,List.mem_append,List.mem_singleton,decide_eq_true_eq]
   constructor
   ·rintro (h | h)
    ·exact .inl h
    ·exact .inr (by rw[h])
   ·rintro (h | h)
    ·exact .inl h
    ·exact .inr (Int.ofNat_inj.1 h).symm
  ·exact h
theorem IC: ∀i,i≤a.2.1.length*g.1.length→ ∀x∈LG g a R i,∃j:Nat,j<30∧x=(j:Int)
 | 0,_,x,hx=>by cases hx
 | i+1,hi,x,hx=>by
  obtain ⟨k1,k2,k3,k4⟩:=JX H (i:=i) (by omega)
  rw[LG] at hx;split at hx
  ·rcases List.mem_append.1 hx with hx | hx
   ·exact IC i (by omega) x hx
   ·exact ⟨_,by omega,List.mem_singleton.1 hx⟩
  ·exact IC i (by omega) x hx
include hR
theorem Xg:ai (iC g a R) aC (0,0)=some (.brk ((LP g a R (a.2.1.length*g.1.length):Int),((a.2.1.length*g.1.length:Nat):Int))):=by
 have hN:=nN H.1 H.2.2 H.2.1
 have:=aB (f:=iC g a R) (fun i=>((LP g a R i:Int),(i:Int))) (a.2.1.length*g.1.length) (fun i hi=>by
  obtain ⟨k1,k2,k3,k4⟩:=JX H hi
  obtain ⟨q1,q2⟩:=O6 (x:=i) (n:=a.2.1.length) (by omega)
  have hs:=IB H (R:=R) i (by omega)
  unfold iC
  simp only
  rw[if_pos (by simp only[decide_eq_true_eq];omega),aj (by omega) (by omega),il (by omega),q1,q2,aa (by omega)];simp only[Option.bind_some]
  have ea:iB (g.1,g.2) (a.1,a.2.1,a.2.2) ((i / a.2.1.length:Nat):Int) ((i % a.2.1.length:Nat):Int)=_:=O5 H k1 k2
  rw[ea,LP];simp only[Option.bind_some]
  unfold XK
  by_cases c:0≤nth R (i:Int)
  ·rw[if_pos (by simpa using c),decide_eq_true c,Bool.true_and]
   cases LO a ((i % a.2.1.length:Nat):Int) (nth g.1 ((i / a.2.1.length:Nat):Int)) with
   | false=>rfl
   | true =>
    simp only[if_true]
    rw[il (Int.natCast_nonneg _),wW (by omega),JV (Nat.lt_of_lt_of_le hs (Nat.pow_le_pow_right (by decide) (by decide))) (Nat.pow_lt_pow_right (by decide) (by omega))];rfl
  ·rw[if_neg (by simpa using c),decide_eq_false c,Bool.false_and];rfl) (by unfold iC;simp only;rw[if_neg (by simp;omega)]) (mf (by omega))
 exact this
theorem Xh:ai (dY g a R) aC (([] :List Int),0)=some (.brk (LG g a R (a.2.1.length*g.1.length),((a.2.1.length*g.1.length:Nat):Int))):=by
 have hN:=nN H.1 H.2.2 H.2.1
 have:=aB (f:=dY g a R) (fun i=>(LG g a R i,(i:Int))) (a.2.1.length*g.1.length) (fun i hi=>by
  obtain ⟨k1,k2,k3,k4⟩:=JX H hi
  obtain ⟨q1,q2⟩:=O6 (x:=i) (n:=a.2.1.length) (by omega)
  have hl:=Ed g a R i
  have hv:=H.1.val _ (bj (xs:=g.1) (i:=((i / a.2.1.length:Nat):Int)) (Int.natCast_nonneg _) (Int.ofNat_lt.2 k1))
  unfold dY
  simp only
  rw[if_pos (by simp only[decide_eq_true_eq];omega),aj (by omega) (by omega),il (by omega),q1,q2,aa (by omega),il (Int.natCast_nonneg _)];simp only[Option.bind_some]
  have ea:kd (a.1,a.2.1,a.2.2) (vX 1 ((i % a.2.1.length:Nat):Int)) (nth g.1 ((i / a.2.1.length:Nat):Int))=_:=Iz H.2.2 H.2.1 ⟨Int.natCast_nonneg _,Int.ofNat_lt.2 k2⟩ hv
  rw[aj (xs:=g.1) (i:=((i / a.2.1.length:Nat):Int)) (Int.natCast_nonneg _) (Int.ofNat_lt.2 k1)];simp only[Option.bind_some]
  rw[ea,LG];simp only[Option.bind_some]
  unfold XK
  by_cases c:0≤nth R (i:Int)
  ·rw[if_pos (by simpa using c),decide_eq_true c,Bool.true_and]
   cases LO a ((i % a.2.1.length:Nat):Int) (nth g.1 ((i / a.2.1.length:Nat):Int)) with
   | false=>rfl
   | true =>
    simp only[if_true]
    rw[aw (by simp;omega)];rfl
  ·rw[if_neg (by simpa using c),decide_eq_false c,Bool.false_and];rfl) (by unfold dY;simp only;rw[if_neg (by simp;omega)]) (mf (by omega))
 exact this
end
def Vu (g:GrT) (a:AutT) (x:Int):List Int:=ep (LP g a (RKs g a (x*(a.2.1.length:Int)+a.1)) (a.2.1.length*g.1.length)) 30
theorem Ee (g:GrT) (a:AutT) (x:Int):(Vu g a x).length≤30:=me _ _
section
variable {g:GrT} {a:AutT} (H:GOOD g a) {x:Int} (hx:0≤x∧x<g.1.length)
include H hx
theorem RZ:nz g a x=some (Vu g a x):=by
 unfold nz
 have e:lX (g.1,g.2) (a.1,a.2.1,a.2.2) x=_:=Vs H hx
 have hR:=O4 H hx
 rw[e];simp only[Option.bind_some]
 rw[af (Xg H hR),Yv (Nat.lt_of_lt_of_le (IB H _ (Nat.le_refl _)) (Nat.pow_le_pow_right (by decide) (by decide)))];rfl
theorem Xi (e:cv g a [x] =some true):gH g a x=some (Vu g a x):=by
 have hN:=nN H.1 H.2.2 H.2.1
 have hp:=H.2.2.pos
 have h1:=H.1.n1
 have hpp:0<a.2.1.length*g.1.length:=Nat.mul_pos hp (by omega)
 unfold gH
 have e:e7 (g.1,g.2) (a.1,a.2.1,a.2.2) x=_:=Xf H hx e
 have hR:=O4 H hx
 rw[e];simp only[Option.bind_some]
 have hl:=Ed g a (RKs g a (x*(a.2.1.length:Int)+a.1)) (a.2.1.length*g.1.length)
 rw[if_neg (by simp only[decide_eq_true_eq];omega),af (Xh H hR),IA _ (by simp only;omega)];simp only[Option.bind_some]
 unfold Vu
 rw[Vt (IC H _ (Nat.le_refl _)) fun i _=>O7 H _ (Nat.le_refl _) i]
end
theorem R0 (g:GrT) (a:AutT) (hg:Data.sm g) (ha:Data.sm a): ∃b,jf g a 0 0=some b∧cv g a [] =some b∧(b=true→GOOD g a∧ ∀x:Int,0≤x→x<g.1.length→cv g a [x] =some true):=by
 obtain ⟨b,c,e1,e2,e3,e4,k1,k2⟩:=O2 g a hg ha
 obtain ⟨b',es,ei,k⟩:=O3 g a hg ha 0
 have e2':aQ (g.1,g.2)=_:=e2
 have e4':bS (a.1,a.2.1,a.2.2)=_:=e4
 have hl:=(au hg.1).1
 have ew:IntKind.i64.wrap ((g.1.length:Int) - 1)=(g.1.length:Int) - 1:=cC (by omega) (by omega)
 have en:cv g a [] =some (b&&c):=by
  unfold cv
  have:ai (cO g []) aC 0=some (.brk 0):=by
   have:=aB (f:=cO g []) (fun _=>(0:Int)) 0 (fun i hi=>absurd hi (Nat.not_lt_zero _)) (by unfold cO;simp) (by unfold aC;omega)
   exact this
  rw[af this,e2',e4']
  cases b <;> cases c <;> rfl
 have e0: ∀x:Int,cv g a [x] =if 0≤x∧x≤(g.1.length:Int) - 1 then some (b&&c) else some false:=fun x=>by
  unfold cv
  rcases LD (f:=cO g [x]) 1 (fun _=>0≤x∧x≤(g.1.length:Int) - 1) false (by decide) (fun i hi=>by
   obtain rfl:i=0:=by omega
   unfold cO
   rw[if_pos (by simp),show ay [x] ((0:Nat):Int)=some x from rfl];simp only[Option.bind_some]
   rw[If,ew];simp only[Option.bind_some,decide_eq_true_eq]
   split <;> rfl) (by unfold cO;simp) with ⟨k,h⟩ | ⟨k,h⟩
  ·rw[af k,e2',e4',if_pos (h 0 (by decide))]
   cases b <;> cases c <;> rfl
  ·rw[a8 k,if_neg (fun c=>h fun _ _=>c)]
 have hbb:b'=(b&&c):=by
  have h:=e0 0
  rw[ei] at h
  by_cases c0:(0:Int)≤0∧(0:Int)≤(g.1.length:Int) - 1
  ·rw[if_pos c0] at h;exact Option.some.inj h
  ·rw[if_neg c0] at h
   have:b'=false:=Option.some.inj h
   rw[this]
   cases b with
   | false=>rfl
   | true=>have:=(k1 rfl).n1;omega
 refine ⟨b',es,by rw[en,hbb],fun hb=>⟨(k hb).1,fun x h0 h1=>?_⟩⟩
 rw[e0,if_pos ⟨h0,by omega⟩,←hbb,hb]
def Vv (g:GrT) (a:AutT):Nat→List (Int×Int)
 | 0=>[]
 | x+1=>Vv g a x++(Vu g a (x:Int)).map fun y=>((x:Int),y)
theorem yt (g:GrT) (a:AutT): ∀x,(Vv g a x).length≤30*x
 | 0=>by simp[Vv]
 | x+1=>by
  have h1:=yt g a x
  have h2:=Ee g a (x:Int)
  rw[Vv,List.length_append,List.length_map];omega
theorem JY {f:(List (Int×Int))×Int→Option (Out (List (Int×Int)) ((List (Int×Int))×Int))} {l:List Int} {x:Int} {o:List (Int×Int)} (hl:l.length≤30) (ho:o.length≤1000)
  (hf: ∀(o:List (Int×Int)) (j:Nat),j<l.length→o.length≤2000→f (o,(j:Int))=some (.nxt (o++ [(x,nth l (j:Int))],((j+1:Nat):Int)))) (he: ∀o,f (o,(l.length:Int))=some (.brk (o,(l.length:Int)))) :
  ai f aC (o,0)=some (.brk (o++l.map fun y=>(x,y),(l.length:Int))):=by
 have:=aB (f:=f) (fun j=>(o++(l.take j).map fun y=>(x,y),(j:Int))) l.length (fun j hj=>by
  rw[hf _ j hj (by rw[List.length_append,List.length_map,List.length_take];omega),uj hj,List.map_append,List.append_assoc];rfl) (he _) (mf (by omega))
 rw[List.take_length] at this
 simpa using this
theorem R1 (g:GrT) (a:AutT) (hg:Data.sm g) (ha:Data.sm a): ∃l,iD g a=some l∧iF g a=some l∧l.length≤150:=by
 obtain ⟨b,es,ei,hb⟩:=R0 g a hg ha
 have es:jf (g.1,g.2) (a.1,a.2.1,a.2.2) 0 0=_:=es
 have ei:cv (g.1,g.2) (a.1,a.2.1,a.2.2) [] =_:=ei
 have hl:=(au hg.1).1
 unfold iD iF
 rw[ei];simp only[Option.bind_some]
 cases b with
 | false =>
  refine ⟨[],?_,rfl,by decide⟩
  have:=aB (f:=cF g a) (fun _=>(([] :List (Int×Int)),(0:Int))) 0 (fun i hi=>absurd hi (Nat.not_lt_zero _)) (by
   unfold cF
   rw[es];simp only[Option.bind_some,Bool.false_eq_true,if_false]
   split <;> rfl) (by unfold aC;omega)
  rw[af this]
 | true =>
  obtain ⟨H,hok⟩:=hb rfl
  have h5:=H.1.n5
  refine ⟨Vv g a g.1.length,?_,?_,by have:=yt g a g.1.length;omega⟩
  ·have:=aB (f:=cF g a) (fun x=>(Vv g a x,(x:Int))) g.1.length (fun x hx=>by
    have h1:=yt g a x
    have h2:=Ee g a (x:Int)
    unfold cF
    simp only
    have ef:nz (g.1,g.2) (a.1,a.2.1,a.2.2) (x:Int)=_:=RZ H (x:=(x:Int)) ⟨by omega,by omega⟩
    rw[if_pos (by simp only[decide_eq_true_eq];omega),es,ef];simp only[Option.bind_some,if_true]
    rw[af (JY (x:=(x:Int)) (l:=Vu g a (x:Int)) h2 (by omega) (fun o j hj ho=>by
     unfold kT
     simp only
     rw[if_pos (by simp;omega),aj (by omega) (by omega)];simp only[Option.bind_some]
     rw[aw (by simp;omega),aa (by omega)];rfl) (fun o=>by unfold kT;simp)),aa (by omega)]
    rfl) (by unfold cF;simp) (mf (by omega))
   have this:ai (cF g a) aC (([] :List (Int×Int)),0)=_:=this
   rw[af this]
  ·simp only[if_true]
   have:=aB (f:=fa g a) (fun x=>(Vv g a x,(x:Int))) g.1.length (fun x hx=>by
    have h1:=yt g a x
    have h2:=Ee g a (x:Int)
    unfold fa
    simp only
    have ef:gH (g.1,g.2) (a.1,a.2.1,a.2.2) (x:Int)=_:=Xi H (x:=(x:Int)) ⟨by omega,by omega⟩ (hok _ (by omega) (by omega))
    rw[if_pos (by simp only[decide_eq_true_eq];omega),ef];simp only[Option.bind_some]
    rw[af (JY (x:=(x:Int)) (l:=Vu g a (x:Int)) h2 (by omega) (fun o j hj ho=>by
     unfold kU
     simp only
     rw[if_pos (by simp;omega),aj (by omega) (by omega)];simp only[Option.bind_some]
     rw[aw (by simp;omega),aa (by omega)];rfl) (fun o=>by unfold kU;simp)),aa (by omega)]
    rfl) (by unfold fa;simp) (mf (by omega))
   have this:ai (fa g a) aC (([] :List (Int×Int)),0)=_:=this
   rw[af this]
end D
set_option synthInstance.maxSize 20000
set_option synthInstance.maxHeartbeats 2000000
namespace D
open Go.RowKit
theorem JZ {l:List (Int×Int)} (h:l.length≤1048576):Data.sm l:=⟨h,fun _ _=>⟨trivial,trivial⟩⟩
theorem Gx {r:Iu} (hr:Data.sm r) {g:GrT} (hg:Data.sm g) (id:Int): ∃(l:List (Int×Int)) (b:Bool),cw r g id=some (l,b)∧fK r g id=some (l,b)∧l.length≤150:=by
 obtain ⟨⟨a,q⟩,es,ei,sa⟩:=LC hr id
 obtain ⟨b,e1,k1⟩:=D6 g (au hg.1).1 (au hg.2).1
 have es:dU (r.1,r.2) id=_:=es
 have ei:dX (r.1,r.2) id=_:=ei
 have e2:bJ (g.1,g.2)=some b:=by rw[AQ];exact e1
 have e1:aQ (g.1,g.2)=_:=e1
 obtain ⟨l,f1,f2,hl⟩:=R1 g a hg sa
 have f1:iD (g.1,g.2) (a.1,a.2.1,a.2.2)=_:=f1
 have f2:iF (g.1,g.2) (a.1,a.2.1,a.2.2)=_:=f2
 unfold cw fK
 rw[es,ei,e1,e2];simp only[Option.bind_some]
 rw[f1,f2]
 cases q with
 | false=>exact ⟨[],false,rfl,rfl,by decide⟩
 | true =>
  cases b with
  | false=>exact ⟨[],false,rfl,rfl,by decide⟩
  | true=>exact ⟨l,true,rfl,rfl,hl⟩
end D
namespace D
abbrev Pr:=Int×Int
def ltP (a b:Pr):Prop:=a.1<b.1∨a.1=b.1∧a.2<b.2
instance (a b:Pr):Decidable (ltP a b):=inferInstanceAs (Decidable (_∨_))
theorem O8 (a:Pr): ¬ltP a a:=by unfold ltP;omega
theorem Gy {a b c:Pr} (h:ltP a b) (k:ltP b c):ltP a c:=by unfold ltP at *;omega
theorem O9 {a b:Pr} (h:ltP a b): ¬ltP b a:=by unfold ltP at *;omega
theorem ID (a b:Pr):ltP a b∨a=b∨ltP b a:=by
 unfold ltP
 by_cases h:a=b
 ·exact .inr (.inl h)
 ·have: ¬(a.1=b.1∧a.2=b.2):=fun e=>h (Prod.ext e.1 e.2)
  omega
abbrev Str (l:List Pr):Prop:=l.Pairwise ltP
theorem Ef: ∀ {l m:List Pr},Str l→Str m→(∀x,x∈l↔x∈m)→l=m
 | [],[],_,_,_=>rfl
 | [],b::m,_,_,h=>absurd ((h b).2 (List.mem_cons_self ..)) (by simp)
 | a::l,[],_,_,h=>absurd ((h a).1 (List.mem_cons_self ..)) (by simp)
 | a::l,b::m,hl,hm,h=>by
  obtain ⟨l1,l2⟩:=List.pairwise_cons.1 hl
  obtain ⟨m1,m2⟩:=List.pairwise_cons.1 hm
  have hab:a=b:=by
   rcases List.mem_cons.1 ((h a).1 (List.mem_cons_self ..)) with e | e
   ·exact e
   ·rcases List.mem_cons.1 ((h b).2 (List.mem_cons_self ..)) with f | f
    ·exact f.symm
    ·exact absurd (m1 a e) (O9 (l1 b f))
  subst hab
  rw[Ef l2 m2 fun x=>?_]
  constructor
  ·intro hx
   rcases List.mem_cons.1 ((h x).1 (List.mem_cons_of_mem _ hx)) with e | e
   ·subst e;exact absurd (l1 x hx) (O8 x)
   ·exact e
  ·intro hx
   rcases List.mem_cons.1 ((h x).2 (List.mem_cons_of_mem _ hx)) with e | e
   ·subst e;exact absurd (m1 x hx) (O8 x)
   ·exact e
def ahd (p:Pr):List Pr→Nat
 | [] =>0
 | a::l=>if ltP a p then ahd p l+1 else 0
theorem Pa (p:Pr): ∀l:List Pr,ahd p l≤l.length
 | [] =>Nat.le_refl _
 | a::l=>by
  unfold ahd
  split
  ·have:=Pa p l;rw[List.length_cons];omega
  ·exact Nat.zero_le _
theorem Tb (p:Pr): ∀(l:List Pr) (i:Nat),i<ahd p l→ ∃x,l[i]? =some x∧ltP x p
 | [],i,h=>by simp[ahd] at h
 | a::l,i,h=>by
  unfold ahd at h
  split at h
  ·rename_i ha
   cases i with
   | zero=>exact ⟨a,rfl,ha⟩
   | succ i =>
    obtain ⟨x,h1,h2⟩:=Tb p l i (by omega)
    exact ⟨x,by simpa using h1,h2⟩
  ·omega
theorem Tc (p:Pr): ∀(l:List Pr) x,l[ahd p l]? =some x→ ¬ltP x p
 | [],x,h=>by simp at h
 | a::l,x,h=>by
  unfold ahd at h
  split at h
  ·exact Tc p l x (by simpa using h)
  ·rename_i ha
   simp at h
   subst h;exact ha
def put (l:List Pr) (p:Pr):List Pr:=if l[ahd p l]? =some p then l else l.take (ahd p l)++p::l.drop (ahd p l)
theorem J4 (a:Pr) (l:List Pr) (p:Pr):put (a::l) p=if ltP a p then a::put l p else if a=p then a::l else p::a::l:=by
 unfold put
 by_cases h:ltP a p
 ·have e:ahd p (a::l)=ahd p l+1:=by rw[ahd,if_pos h]
  rw[e,if_pos h]
  by_cases k:l[ahd p l]? =some p
  ·rw[if_pos (by simpa using k),if_pos k]
  ·rw[if_neg (by simpa using k),if_neg k];rfl
 ·have e:ahd p (a::l)=0:=by rw[ahd,if_neg h]
  rw[e,if_neg h]
  by_cases k:a=p
  ·rw[if_pos (by simp[k]),if_pos k]
  ·rw[if_neg (by simpa using k),if_neg k];rfl
theorem IE {x p:Pr} : ∀l:List Pr,x∈put l p↔x=p∨x∈l
 | [] =>by simp[put,ahd]
 | a::l=>by
  rw[J4]
  split
  ·rw[List.mem_cons,IE l,List.mem_cons];grind
  ·split
   ·rename_i e;subst e;rw[List.mem_cons];grind
   ·rw[List.mem_cons]
theorem Pb {p:Pr} : ∀ {l:List Pr},Str l→Str (put l p)
 | [],_=>by simp[put,ahd]
 | a::l,h=>by
  obtain ⟨h1,h2⟩:=List.pairwise_cons.1 h
  rw[J4]
  split
  ·rename_i ha
   refine List.pairwise_cons.2 ⟨fun x hx=>?_,Pb h2⟩
   rcases (IE l).1 hx with rfl | hx
   ·exact ha
   ·exact h1 x hx
  ·rename_i ha
   split
   ·exact h
   ·rename_i hn
    have hp:ltP p a:=by
     rcases ID p a with c | c | c
     ·exact c
     ·exact absurd c.symm hn
     ·exact absurd c ha
    refine List.pairwise_cons.2 ⟨fun x hx=>?_,h⟩
    rcases List.mem_cons.1 hx with rfl | hx
    ·exact hp
    ·exact Gy hp (h1 x hx)
def J5 (l m:List Pr):List Pr:=m.foldl put l
theorem Eg: ∀ {m l:List Pr},Str l→Str (J5 l m)
 | [],l,h=>h
 | p::m,l,h=>Eg (m:=m) (Pb h)
theorem Eh {x:Pr} : ∀ {m l:List Pr},x∈J5 l m↔x∈l∨x∈m
 | [],l=>by simp[J5]
 | p::m,l=>by
  show x∈J5 (put l p) m↔_
  rw[Eh,IE,List.mem_cons];grind
def nub:List Pr→List Pr
 | [] =>[]
 | [a] =>[a]
 | a::b::l=>if a=b then nub (b::l) else a::nub (b::l)
theorem Ei {x:Pr} : ∀ {l:List Pr},x∈nub l↔x∈l
 | [] =>Iff.rfl
 | [a] =>Iff.rfl
 | a::b::l=>by
  rw[nub]
  split
  ·rename_i e;subst e;rw[Ei];simp
  ·rw[List.mem_cons,Ei,List.mem_cons (l:=b::l)]
theorem IF: ∀ {l:List Pr},l.Pairwise (fun a b=> ¬ltP b a)→Str (nub l)
 | [],_=>List.Pairwise.nil
 | [a],_=>by simp[nub]
 | a::b::l,h=>by
  obtain ⟨h1,h2⟩:=List.pairwise_cons.1 h
  rw[nub]
  split
  ·exact IF h2
  ·rename_i hn
   refine List.pairwise_cons.2 ⟨fun x hx=>?_,IF h2⟩
   have hab:ltP a b:=by
    rcases ID a b with c | c | c
    ·exact c
    ·exact absurd c hn
    ·exact absurd c (h1 b (List.mem_cons_self ..))
   rcases List.mem_cons.1 (Ei.1 hx) with rfl | hx
   ·exact hab
   ·rcases ID b x with c | c | c
    ·exact Gy hab c
    ·subst c;exact hab
    ·exact absurd c ((List.pairwise_cons.1 h2).1 x hx)
theorem LH {l:List Pr} {f:Pr→Bool} (h:Str l):Str (l.filter f):=List.Pairwise.filter _ h
end D
namespace D
open Go.RowKit
theorem IG {α R:Type} {f:Int→Option (Out R Int)} (l:List α) (b:α→Bool) (r:Nat→R) (hN:l.length≤9223372036854775807) (h: ∀i (hi:i<l.length),f (i:Int)=some (if b l[i] then .ret (r i) else .nxt ((i+1:Nat):Int))) (he:f (l.length:Int)=some (.brk (l.length:Int))) :
  (∃(i:Nat) (hi:i<l.length),b l[i] =true∧(∀j (hj:j<i),b (l[j]'(by omega))=false)∧ai f aC 0=some (.ret (r i)))∨((∀x,x∈l→b x=false)∧ai f aC 0=some (.brk (l.length:Int))):=by
 obtain ⟨o,e,hQ⟩:=cz (f:=f) (fun i s=>s=(i:Int)∧ ∀j (hj:j<l.length),j<i→b l[j] =false) (fun o=>(∃(i:Nat) (hi:i<l.length),b l[i] =true∧(∀j (hj:j<i),b (l[j]'(by omega))=false)∧o= .ret (r i))∨((∀x,x∈l→b x=false)∧o= .brk (l.length:Int))) l.length (fun i s hi hI=>by
  obtain ⟨rfl,hI⟩:=hI
  by_cases h1:i<l.length
  ·cases hb:b l[i] with
   | true=>exact .inr ⟨_,by rw[h i h1,hb,if_pos rfl],fun s' hh=>by simp at hh,.inl ⟨i,h1,hb,fun j hj=>hI j (by omega) hj,by simp⟩⟩
   | false=>exact .inl ⟨h1,_,by rw[h i h1,hb,if_neg (by simp)],rfl,fun j hj hji=>by
     by_cases c:j=i
     ·subst c;exact hb
     ·exact hI j hj (by omega)⟩
  ·obtain rfl:i=l.length:=by omega
   exact .inr ⟨_,he,fun s' hh=>by simp at hh,.inr ⟨fun x hx=>by
    obtain ⟨j,hj,rfl⟩:=List.getElem_of_mem hx
    exact hI j hj hj,rfl⟩⟩) (s:=0) ⟨rfl,fun j hj h0=>by omega⟩ (kI _ hN)
 rcases hQ with ⟨i,hi,h1,h2,rfl⟩ | ⟨h1,rfl⟩
 ·exact .inl ⟨i,hi,h1,h2,e⟩
 ·exact .inr ⟨h1,e⟩
section
variable {l m:List Pr} {p:Pr}
theorem Yw {a b:Pr} :((a.1==b.1)&&((a.2==b.2)&&true))=decide (a=b):=by
 rw[Bool.eq_iff_iff];simp[Prod.ext_iff]
theorem Yx {a b:Pr} :(Bool.and.match_1 (fun (_:Bool)=>Bool) (a.1==b.1) (fun (_:Unit)=>false) (fun (_:Unit)=>Bool.and.match_1 (fun (_:Bool)=>Bool) (a.2==b.2) (fun (_:Unit)=>false) (fun (_:Unit)=>true)))=decide (a=b):=Yw
theorem Yy (hl:l.length≤1073741824):sC l p=some (decide (p∈l)):=by
 unfold sC
 rcases IG (f:=mQ l p) l (fun x=>decide (x=p)) (fun _=>true) (by omega) (fun i hi=>by
   unfold mQ
   rw[bw hi,if_pos rfl,al hi]
   simp only[Option.bind_some,Yw,aa (show i<9223372036854775807 by omega)]
   split <;> rfl) (by
   unfold mQ
   rw[ba];rfl) with ⟨i,hi,h1,-,e⟩ | ⟨h1,e⟩
 ·rw[a8 e,decide_eq_true (by rw[←of_decide_eq_true h1];exact List.getElem_mem hi)]
 ·rw[af e,decide_eq_false fun hm=>by have:=h1 p hm;simp at this]
theorem Yz (hl:l.length≤1073741824): ∃r:Int,cg l p=some r∧(0≤r↔p∈l):=by
 unfold cg
 rcases IG (f:=bN l p) l (fun x=>decide (p=x)) (fun i=>(i:Int)) (by omega) (fun i hi=>by
   unfold bN
   rw[bw hi,if_pos rfl,al hi]
   simp only[Option.bind_some,Yw,aa (show i<9223372036854775807 by omega)]
   split <;> rfl) (by
   unfold bN
   rw[ba];rfl) with ⟨i,hi,h1,-,e⟩ | ⟨h1,e⟩
 ·exact ⟨_,a8 e,by
   have:p∈l:=by rw[of_decide_eq_true h1];exact List.getElem_mem hi
   simp[this]⟩
 ·exact ⟨_,af e,by
   have:p∉l:=fun hm=>by have:=h1 p hm;simp at this
   simp[this]⟩
theorem YA (hl:l.length≤1073741824):bO l p=some (decide (p∈l)):=by
 unfold bO
 obtain ⟨r,e,h⟩:=Yz (l:=l) (p:=p) hl
 rw[dj,e,Option.bind_some]
 congr 1
 rw[Bool.eq_iff_iff,decide_eq_true_iff,decide_eq_true_iff]
 exact h
theorem Xj {d:Pr→Bool} {f:Pr→Option Bool} (hf: ∀x,f x=some (d x)) (hl:l.length≤1073741824) :
  (∃(i:Nat) (hi:i<l.length),d l[i] =true∧(∀j (hj:j<i),d (l[j]'(by omega))=false)∧bf l f=some (i:Int))∨((∀x,x∈l→d x=false)∧bf l f=some (-1)):=by
 unfold bf
 rcases IG (f:=bu l f) l d (fun i=>(i:Int)) (by omega) (fun i hi=>by
   unfold bu
   rw[bw hi,if_pos rfl,al hi]
   simp only[Option.bind_some,dj,hf,aa (show i<9223372036854775807 by omega)]
   split <;> rfl) (by
   unfold bu
   rw[ba];rfl) with ⟨i,hi,h1,h2,e⟩ | ⟨h1,e⟩
 ·exact .inl ⟨i,hi,h1,h2,a8 e⟩
 ·exact .inr ⟨h1,af e⟩
theorem Td (a b:Pr):pX a b=some (decide (ltP a b)):=by
 unfold pX ltP
 by_cases h:a.1<b.1
 ·simp[h]
 ·by_cases k:a.1=b.1 <;> simp[h,k]
end
end D
namespace D
open Go.RowKit
theorem Vx (l:List Pr) (p:Pr):(put l p).length≤l.length+1:=by
 have:=Pa p l
 unfold put
 split
 ·omega
 ·rw[List.length_append,List.length_take,List.length_cons,List.length_drop];omega
theorem yu: ∀(m l:List Pr),(J5 l m).length≤l.length+m.length
 | [],l=>Nat.le_refl _
 | p::m,l=>by
  have h1:=yu m (put l p)
  have h2:=Vx l p
  show (J5 (put l p) m).length≤_
  rw[List.length_cons];omega
theorem Pc (l m:List Pr) (p:Pr):J5 l (m++ [p])=put (J5 l m) p:=by simp[J5]
theorem YB (l:List Pr) (p:Pr) (hl:l.length≤1073741824):sD l p=some (put l p):=by
 have hk:=Pa p l
 have e:ai (mR l p) aC 0=some (.brk ((ahd p l:Nat):Int)):=by
  obtain ⟨o,e,rfl⟩:=cz (f:=mR l p) (fun i s=>s=(i:Int)) (fun o=>o= .brk ((ahd p l:Nat):Int)) (ahd p l) (fun i s hi hI=>by
   subst hI
   unfold mR
   by_cases h1:i<ahd p l
   ·obtain ⟨x,g1,g2⟩:=Tb p l i h1
    have hil:i<l.length:=by omega
    rw[List.getElem?_eq_getElem hil] at g1
    obtain rfl:=Option.some.inj g1
    refine .inl ⟨h1,((i+1:Nat):Int),?_,rfl⟩
    rw[bw hil,if_pos rfl,al hil]
    simp only[Option.bind_some,Td,dj]
    rw[if_pos (decide_eq_true g2),aa (by omega)]
   ·obtain rfl:i=ahd p l:=by omega
    refine .inr ⟨_,?_,fun s' hh=>(by simp at hh),rfl⟩
    by_cases hil:ahd p l<l.length
    ·have g:=Tc p l _ (List.getElem?_eq_getElem hil)
     rw[bw hil,if_pos rfl,al hil]
     simp only[Option.bind_some,Td,dj]
     rw[if_neg (by simpa using g)]
    ·rw[if_neg (by simp;omega)]) (s:=0) rfl (kI _ (by omega))
  exact e
 unfold sD
 rw[af e]
 have c1:chk ((0:Int)≤((ahd p l:Nat):Int)∧((ahd p l:Nat):Int)≤(l.length:Int))=some ():=if_pos (by omega)
 have a1:cD 16 ([] :List Pr) ((l.take (ahd p l)).drop 0)=some (l.take (ahd p l)):=by
  rw[List.drop_zero,aw (by simp only[List.length_nil,List.length_take];omega)];rfl
 have a2:cD 16 (l.take (ahd p l)) [p] =some (l.take (ahd p l)++ [p]):=aw (by simp only[List.length_singleton,List.length_take];omega)
 have a3:cD 16 (l.take (ahd p l)++ [p]) ((l.take l.length).drop (ahd p l))=some (l.take (ahd p l)++p::l.drop (ahd p l)):=by
  rw[List.take_of_length_le (Nat.le_refl _),aw (by simp only[List.length_append,List.length_singleton,List.length_take,List.length_drop];omega),List.append_assoc];rfl
 simp only[c1,Option.bind_some,Int.toNat_natCast,a1,a2,a3,dj]
 unfold put
 by_cases hil:ahd p l<l.length
 ·rw[bw hil,if_pos rfl,al hil]
  simp only[Option.bind_some,Yx]
  rw[List.getElem?_eq_getElem hil]
  by_cases h:l[ahd p l] =p
  ·rw[if_pos (decide_eq_true h),if_pos (by rw[h])]
  ·rw[if_neg (by simpa using h),if_neg (by simpa using h)]
 ·rw[if_neg (by simp;omega),List.getElem?_eq_none (by omega),if_neg (by simp)]
theorem CA {a b:List Pr} (ha:a.length≤67108864) (hb:b.length≤67108864):eY a b=some (J5 [] (a.filter fun x=> !decide (x∈b))):=by
 unfold eY
 obtain ⟨s1,e1,rfl⟩:=kp (f:=eL a b) (fun i s=>s=(J5 [] ((a.take i).filter fun x=> !decide (x∈b)),(i:Int))) a.length (fun i s hi hI=>by
  subst hI
  have hln:=yu ((a.take i).filter fun x=> !decide (x∈b)) []
  have hl2:=List.length_filter_le (fun x=> !decide (x∈b)) (a.take i)
  rw[List.length_take] at hl2
  refine ⟨_,?_,rfl⟩
  unfold eL
  rw[bw hi,if_pos rfl,al hi]
  simp only[Option.bind_some,dj]
  rw[Yy (by omega)]
  simp only[Option.bind_some]
  rw[aa (by omega),List.take_succ_eq_append_getElem hi,List.filter_append]
  by_cases h:a[i] ∈ b
  ·rw[if_pos (decide_eq_true h)]
   simp[h]
  ·rw[if_neg (by simpa using h),YB _ _ (by simp only[List.length_nil] at hln;omega)]
   simp only[Option.bind_some]
   rw[show [a[i]].filter (fun x=> !decide (x∈b))= [a[i]] from by simp[h],Pc]) (fun s hI=>by
  subst hI
  unfold eL
  rw[ba];rfl) (s:=(([] :List Pr),0)) rfl (kI _ (by omega))
 rw[af e1,List.take_of_length_le (Nat.le_refl _)]
end D
namespace D
open Go.RowKit
theorem YC {d:Pr→Bool} {f:Pr→Option Bool} (hf: ∀x,f x=some (d x)) (xs:List Pr) (hl:xs.length≤1073741824):bD xs f=some (xs.filter fun x=> !d x):=by
 unfold bD
 rcases Xj (l:=xs) (d:=d) (f:=f) hf hl with ⟨r,hr,h1,h2,e⟩ | ⟨h1,e⟩
 ·rw[e]
  simp only[Option.bind_some]
  have hne:(((r:Nat):Int) == -1)=false:=beq_eq_false_iff_ne.2 (by omega)
  rw[hne]
  simp only[Bool.false_eq_true,if_false]
  rw[aa (by omega)]
  have hk0:(xs.take (r+1)).filter (fun x=> !d x)=xs.take r:=by
   rw[List.take_succ_eq_append_getElem hr,List.filter_append]
   rw[show [xs[r]].filter (fun x=> !d x)= [] from by simp[h1],List.append_nil,List.filter_eq_self]
   intro a ha
   obtain ⟨j,hj,rfl⟩:=List.getElem_of_mem ha
   rw[List.length_take] at hj
   rw[List.getElem_take,h2 j (by omega)];rfl
  obtain ⟨s,e1,ys,rfl,k1,k2,k3,k4⟩:=kp (f:=bs f) (fun t s=> ∃ys:List Pr,s=((((xs.take (r+1+t)).filter (fun x=> !d x)).length:Int),((r+1+t:Nat):Int),ys)∧ys.length=xs.length∧ys.take ((xs.take (r+1+t)).filter (fun x=> !d x)).length=(xs.take (r+1+t)).filter (fun x=> !d x)∧ys.drop (r+1+t)=xs.drop (r+1+t)∧((xs.take (r+1+t)).filter (fun x=> !d x)).length≤r+t) (xs.length - (r+1)) (fun t s ht hI=>by
   obtain ⟨ys,rfl,k1,k2,k3,k4⟩:=hI
   have hj:r+1+t<xs.length:=by omega
   unfold bs
   rw[show ((ys.length:Nat):Int)=(xs.length:Int) from by rw[k1],bw hj,if_pos rfl,al (xs:=ys) (by omega),vS k3 (Nat.le_refl _) (by omega) hj]
   simp only[Option.bind_some,dj,hf]
   have hnx:(xs.take (r+1+(t+1))).filter (fun x=> !d x)=(xs.take (r+1+t)).filter (fun x=> !d x)++ [xs[r+1+t]].filter (fun x=> !d x):=by
    rw[←List.filter_append,←List.take_succ_eq_append_getElem hj];rfl
   generalize (xs.take (r+1+t)).filter (fun x=> !d x)=K at *
   rw[hnx]
   cases hd:d xs[r+1+t] with
   | true =>
    rw[if_pos rfl]
    simp only[Option.bind_some]
    rw[aa (by omega),show [xs[r+1+t]].filter (fun x=> !d x)= [] from by simp[hd],List.append_nil]
    exact ⟨_,rfl,ys,rfl,k1,k2,vR k3,by omega⟩
   | false =>
    rw[if_neg (by simp),al (xs:=ys) (by omega)]
    simp only[Option.bind_some]
    rw[aa (by omega),aa (by omega),show [xs[r+1+t]].filter (fun x=> !d x)= [xs[r+1+t]] from by simp[hd]]
    refine ⟨_,rfl,ys.set K.length xs[r+1+t],?_,by simpa using k1,?_,?_,?_⟩
    ·rw[List.length_append,List.length_singleton];rfl
    ·rw[List.length_append,List.length_singleton,Eb (by omega),k2]
    ·rw[set_drop (by omega)];exact vR k3
    ·rw[List.length_append,List.length_singleton];omega) (fun s hI=>by
   obtain ⟨ys,rfl,k1,k2,k3,k4⟩:=hI
   unfold bs
   rw[if_neg (by simp;omega)]) (s:=(((r:Nat):Int),((r+1:Nat):Int),xs)) ⟨xs,by rw[Nat.add_zero,hk0,List.length_take,Nat.min_eq_left (by omega)],rfl,by rw[Nat.add_zero,hk0,List.length_take,Nat.min_eq_left (by omega)],rfl,by rw[Nat.add_zero,hk0,List.length_take];omega⟩ (kI _ (by omega))
  rw[af e1]
  have hall:xs.take (r+1+(xs.length - (r+1)))=xs:=List.take_of_length_le (by omega)
  rw[hall] at k2 k4⊢
  generalize (xs.filter fun x=> !d x)=K at *
  have q0:K.length≤ys.length:=by omega
  have z1:((0:Int)+((K.length:Nat):Int)).toNat=K.length:=by omega
  have z2:((0:Int)+(((ys.length:Nat):Int) - 0)).toNat=ys.length:=by omega
  simp only[z1,z2]
  have zl:=AR (z:=((0,0):Pr)) q0
  rw[sS (by omega),Option.bind_some,sS (by omega),Option.bind_some,sS (by rw[zl];omega),Option.bind_some,wX q0,k2,List.drop_zero]
 ·rw[e]
  simp only[Option.bind_some]
  rw[if_pos (by rfl)]
  congr 1
  exact (List.filter_eq_self.2 fun a ha=>by rw[h1 a ha];rfl).symm
theorem J6: ∀(l:List Pr) (b:Pr),l≠ [] →nub (l++ [b])=if l.getLast? =some b then nub l else nub l++ [b]
 | [],b,h=>absurd rfl h
 | [a],b,_=>by
  by_cases e:a=b
  ·subst e;simp[nub]
  ·simp[nub,e]
 | a::c::l,b,_=>by
  have ih:=J6 (c::l) b (by simp)
  have hg:(a::c::l).getLast? =(c::l).getLast? :=by simp[List.getLast?_cons_cons]
  rw[hg]
  show nub (a::c::(l++ [b]))=_
  rw[nub,nub]
  rw[show c::(l++ [b])=(c::l)++ [b] from rfl,ih]
  by_cases e:a=c
  ·rw[if_pos e,if_pos e]
  ·rw[if_neg e,if_neg e]
   split <;> simp
theorem Ej {xs:List Pr} {j:Nat} (h0:0<j) (h:j<xs.length):nub (xs.take (j+1))=if xs[j - 1] =xs[j] then nub (xs.take j) else nub (xs.take j)++ [xs[j]]:=by
 rw[List.take_succ_eq_append_getElem h,J6 _ _ (by
  intro e
  have h9:=congrArg List.length e
  rw[List.length_take,Nat.min_eq_left (Nat.le_of_lt h),List.length_nil] at h9
  omega)]
 have hg:(xs.take j).getLast? =some xs[j - 1]:=by
  rw[List.getLast?_eq_getElem?,List.length_take,Nat.min_eq_left (Nat.le_of_lt h),List.getElem?_take,if_pos (show j - 1<j by omega),List.getElem?_eq_getElem (show j - 1<xs.length by omega)]
 rw[hg]
 by_cases e:xs[j - 1] =xs[j]
 ·rw[if_pos (by rw[e]),if_pos e]
 ·rw[if_neg (by simpa using e),if_neg e]
theorem J7 {xs:List Pr} : ∀(j:Nat),j≤xs.length→(∀q (hq:q<j) (h0:0<q) (hx:j≤xs.length),xs[q - 1]'(by omega)≠xs[q]'(by omega))→nub (xs.take j)=xs.take j
 | 0,_,_=>by simp[nub]
 | 1,h,_=>by
  cases xs with
  | nil=>simp[nub]
  | cons a l=>simp[nub]
 | j+2,h,hq=>by
  rw[Ej (by omega) (by omega),if_neg (hq (j+1) (by omega) (by omega) h),J7 (j+1) (by omega) (fun q h1 h2 h3=>hq q (by omega) h2 h),←List.take_succ_eq_append_getElem]
end D
namespace D
open Go.RowKit
theorem Pd (xs:List Pr) (hl:xs.length≤1073741824):bU xs=some (nub xs):=by
 unfold bU
 by_cases h2:xs.length<2
 ·rw[if_pos (by simp;omega)]
  cases xs with
  | nil=>rfl
  | cons a l =>
   cases l with
   | nil=>rfl
   | cons b l=>simp only[List.length_cons] at h2;omega
 rw[if_neg (by simp;omega)]
 have key:(ai (a7 xs) aC 1=some (.ret (nub xs)))∨(∃s,ai (a7 xs) aC 1=some (.brk s)∧nub xs=xs):=by
  obtain ⟨o,e,hQ⟩:=cz (f:=a7 xs) (fun t s=>s=((t+1:Nat):Int)∧nub (xs.take (t+1))=xs.take (t+1)) (fun o=>o= .ret (nub xs)∨ ∃s,o= .brk s∧nub xs=xs) (xs.length - 1) (fun t s ht hI=>by
   obtain ⟨rfl,hI⟩:=hI
   unfold a7
   by_cases h1:t+1<xs.length
   ·have hp:((t+1:Nat):Int) - 1=((t:Nat):Int):=by omega
    rw[bw h1,if_pos rfl,al h1,cC (n:=((t+1:Nat):Int) - 1) (by omega) (by omega),hp,al (show t<xs.length by omega)]
    simp only[Option.bind_some,Yx]
    have hn:=Ej (xs:=xs) (j:=t+1) (by omega) h1
    rw[hI] at hn
    simp only[Nat.add_sub_cancel] at hn
    by_cases he:xs[t+1] =xs[t]
    ·rw[if_pos (decide_eq_true he),sS (by omega),Option.bind_some]
     rw[if_pos he.symm] at hn
     have hlt:(xs.take (t+1)).length=t+1:=by rw[List.length_take];omega
     obtain ⟨s,e1,ys,rfl,k1,k2,k3,k4⟩:=kp (f:=bE xs ((t+1:Nat):Int)) (fun u s=> ∃ys:List Pr,s=(((nub (xs.take (t+2+u))).length:Int),((u+1:Nat):Int),ys)∧ys.length=xs.length∧ys.take (nub (xs.take (t+2+u))).length=nub (xs.take (t+2+u))∧ys.drop (t+1+u)=xs.drop (t+1+u)∧(nub (xs.take (t+2+u))).length≤t+1+u) (xs.length - (t+2)) (fun u s hu hI=>by
      obtain ⟨ys,rfl,k1,k2,k3,k4⟩:=hI
      have hj:t+2+u<xs.length:=by clear k4 k2;omega
      have hj1:t+1+u<xs.length:=by clear k4 k2;omega
      have hj2:t+2+u<ys.length:=by clear k4 k2;omega
      have hj3:t+1+u<ys.length:=by clear k4 k2;omega
      have a1:(0+((t+1:Nat):Int))+((u+1:Nat):Int)=((t+2+u:Nat):Int):=by omega
      have a2:((u+1:Nat):Int) - 1=((u:Nat):Int):=by omega
      have a3:(0+((t+1:Nat):Int))+((u:Nat):Int)=((t+1+u:Nat):Int):=by omega
      unfold bE
      dsimp only
      rw[if_pos (by simp;omega),sS (by omega)]
      simp only[Option.bind_some]
      rw[cC (n:=((u+1:Nat):Int) - 1) (by omega) (by omega),a1,a2,a3,al (xs:=ys) hj2,al (xs:=ys) hj3,sS (by omega),vS k3 (by omega) hj2 hj,vS k3 (Nat.le_refl _) hj3 hj1]
      simp only[Option.bind_some,Yx,dj]
      have e9:t+2+u - 1=t+1+u:=by clear k4 k2;omega
      have e8:0<t+2+u:=by clear k4 k2;omega
      have hnx:=Ej (xs:=xs) (j:=t+2+u) e8 hj
      simp only[e9] at hnx
      have hd:=vR k3
      rw[show t+1+u+1=t+1+(u+1) from by omega] at hd
      rw[show t+2+(u+1)=t+2+u+1 from by omega,hnx]
      generalize nub (xs.take (t+2+u))=K at *
      by_cases hq:xs[t+2+u] =xs[t+1+u]
      ·rw[if_pos (decide_eq_true hq),if_pos hq.symm]
       simp only[Option.bind_some]
       rw[aa (by omega)]
       exact ⟨_,rfl,ys,rfl,k1,k2,hd,by omega⟩
      ·rw[if_neg (by simpa using hq),if_neg (fun e=>hq e.symm),al (xs:=ys) (show K.length<ys.length by omega)]
       simp only[Option.bind_some]
       rw[aa (by omega),aa (by omega)]
       refine ⟨_,rfl,ys.set K.length xs[t+2+u],?_,by simpa using k1,?_,?_,?_⟩
       ·rw[List.length_append,List.length_singleton];rfl
       ·rw[List.length_append,List.length_singleton,Eb (by omega),k2]
       ·rw[set_drop (by omega)];exact hd
       ·rw[List.length_append,List.length_singleton];omega) (fun s hI=>by
      obtain ⟨ys,rfl,k1,k2,k3,k4⟩:=hI
      unfold bE
      rw[if_neg (by simp;omega)]) (s:=(((t+1:Nat):Int),1,xs)) ⟨xs,by rw[Nat.add_zero,hn,hlt];rfl,rfl,by rw[Nat.add_zero,hn,hlt],rfl,by rw[Nat.add_zero,hn,hlt];omega⟩ (kI _ (by omega))
     refine .inr ⟨.ret (nub xs),?_,fun s' hh=>(by simp at hh),.inl rfl⟩
     rw[af e1]
     have hall:xs.take (t+2+(xs.length - (t+2)))=xs:=List.take_of_length_le (by omega)
     rw[hall] at k2 k4⊢
     generalize nub xs=K at *
     have q0:K.length≤ys.length:=by omega
     have z1:((0:Int)+((K.length:Nat):Int)).toNat=K.length:=by omega
     have z2:((0:Int)+(((ys.length:Nat):Int) - 0)).toNat=ys.length:=by omega
     simp only[z1,z2]
     have zl:=AR (z:=((0,0):Pr)) q0
     rw[sS (by omega),Option.bind_some,sS (by omega),Option.bind_some,sS (by rw[zl];omega),Option.bind_some,wX q0,k2,List.drop_zero]
    ·rw[if_neg (by simpa using he),aa (by omega)]
     rw[if_neg (fun e=>he e.symm),←List.take_succ_eq_append_getElem h1] at hn
     exact .inl ⟨by omega,_,rfl,rfl,hn⟩
   ·refine .inr ⟨.brk ((t+1:Nat):Int),?_,fun s' hh=>(by simp at hh),.inr ⟨_,rfl,?_⟩⟩
    ·rw[if_neg (by simp;omega)]
    ·rw[List.take_of_length_le (by omega)] at hI;exact hI) (s:=1) ⟨rfl,J7 1 (by omega) (fun q h1 h0=>by omega)⟩ (kI _ (by omega))
  rcases hQ with rfl | ⟨s,rfl,h⟩
  ·exact .inl e
  ·exact .inr ⟨s,e,h⟩
 rcases key with e | ⟨s,e,h⟩
 ·rw[a8 e]
 ·rw[af e,h]
def VK (l:List Pr):List Pr:=nub (R.KS R.KT l)
theorem R2 (l:List Pr):(R.KS R.KT l).Pairwise (fun a b=> ¬ltP b a):=by
 have hle: ∀a b:Pr,(!(ltOf R.KT b a))=true↔ ¬ltP b a:=fun a b=>by
  rw[Bool.not_eq_true',R.yk];rfl
 have h:=List.pairwise_mergeSort (le:=fun x y=> !(ltOf R.KT y x)) (fun a b c h1 h2=>by
  rw[hle] at *
  intro h
  unfold ltP at *
  omega) (fun a b=>by
  rw[Bool.or_eq_true,hle,hle]
  unfold ltP
  omega) l
 exact h.imp fun {a b} h=>(hle a b).1 h
theorem J8 (l:List Pr):Str (VK l):=IF (R2 l)
theorem J9 {l:List Pr} {x:Pr} :x∈VK l↔x∈l:=by
 unfold VK
 rw[Ei]
 exact List.mem_mergeSort
theorem Xk (l:List Pr) (hl:l.length≤268435456):p8 l=some (VK l):=by
 unfold p8 cL R.Q7
 rw[aw (by simp only[List.length_nil];omega)]
 simp only[Option.bind_some,List.nil_append]
 rw[sS (by omega)]
 simp only[Option.bind_some]
 rw[Pd _ (by rw[R.FA];omega)]
 rfl
theorem Pe (l:List Pr):VK l=J5 [] l:=Ef (J8 l) (Eg List.Pairwise.nil) fun x=>by rw[J9,Eh];simp
theorem Xl {a b:List Pr} (ha:a.length≤67108864) (hb:b.length≤67108864):fb a b=some (J5 [] (a.filter fun x=> !decide (x∈b))):=by
 have hlen:(VK a).length≤a.length:=by rw[Pe];have:=yu a [];simpa using this
 unfold fb
 rw[Xk a (by omega)]
 simp only[Option.bind_some]
 rw[YC (d:=fun x=>decide (x∈b)) (fun x=>by unfold jg;rw[dj,YA (by omega)];rfl) _ (by omega)]
 simp only[Option.bind_some]
 congr 1
 refine Ef (LH (J8 a)) (Eg List.Pairwise.nil) fun x=>?_
 rw[Eh,List.mem_filter,List.mem_filter,J9];simp
end D
set_option synthInstance.maxSize 20000
set_option synthInstance.maxHeartbeats 2000000
namespace D
open Go.RowKit
abbrev Ps:=Int×(List GrT)
abbrev Xm:=Int×Int×Int
abbrev Zg:=Int×Bool×((List (Int×Int))×(List (Int×Int)))
theorem Vy (g:GrT) (hg:Data.sm g):o0 g=some g:=by
 have h1:=(au hg.1).1
 have h2:=(au hg.2).1
 unfold o0
 rw[aw (by simp;omega)];simp only[Option.bind_some,List.nil_append]
 rw[aw (by simp;omega)];rfl
theorem Vz (g:GrT) (hg:Data.sm g):kg g=some g:=by
 have h1:=(au hg.1).1
 have h2:=(au hg.2).1
 unfold kg gE
 rw[aw (by simp;omega)];simp only[Option.bind_some,List.nil_append]
 rw[aw (by simp;omega)];rfl
theorem CB {g:GrT} (hg:Data.sm g): ∃b,aQ g=some b:=by
 obtain ⟨b,e,_⟩:=D6 g (au hg.1).1 (au hg.2).1
 exact ⟨b,e⟩
def okG (h:Ps) (g:GrT):Prop:=aQ g=some true∧g.1=(nth h.2 0).1
instance (h g):Decidable (okG h g):=by unfold okG;infer_instance
theorem Gz (h:Ps) (hh:Data.sm h): ∃b,bq h=some b∧aL h=some b∧(b=true→(1≤h.2.length∧h.2.length≤8)∧1≤h.1∧h.1≤1000 - (h.2.length:Int)):=by
 obtain ⟨hl,hs⟩:=au hh.2
 have ew:IntKind.i64.wrap ((IntKind.i64.wrap (999 - (h.2.length:Int)))+1)=1000 - (h.2.length:Int):=by
  rw[cC (n:=999 - (h.2.length:Int)) (by omega) (by omega),cC (by omega) (by omega)];omega
 have ks:=scan (f:=dS h) h.2 (okG h) false (by omega) (fun i hi=>by
  have hg:=hs _ (bj (xs:=h.2) (i:=(i:Int)) (by omega) (by omega))
  obtain ⟨b,e⟩:=CB hg
  obtain ⟨r,er,hr⟩:=D1 (nth h.2 (i:Int)).1 (nth h.2 0).1 (au hg.1).1
  have e':bJ ((nth h.2 (i:Int)).1,(nth h.2 (i:Int)).2)=some b:=by rw[AQ];exact e
  have hk:okG h (nth h.2 (i:Int))↔b=true∧(nth h.2 (i:Int)).1=(nth h.2 0).1:=by unfold okG;rw[e];simp
  unfold dS
  rw[if_pos (by simp;omega),aj (by omega) (by omega)];simp only[Option.bind_some]
  rw[e',aj (xs:=h.2) (i:=0) (by omega) (by omega)];simp only[Option.bind_some]
  rw[er,aa (by omega)];simp only[Option.bind_some]
  cases b with
  | false=>rw[if_neg (by decide),if_neg (fun c=>by cases (hk.1 c).1)]
  | true =>
   rw[if_pos rfl]
   by_cases c:r=0
   ·rw[if_neg (by simp[c]),if_pos (hk.2 ⟨rfl,hr.1 c⟩)]
   ·rw[if_pos (by simpa using c),if_neg (fun k=>c (hr.2 (hk.1 k).2))]) (by unfold dS;simp)
 have ki:=scan (f:=dV h) h.2 (okG h) false (by omega) (fun i hi=>by
  have hg:=hs _ (bj (xs:=h.2) (i:=(i:Int)) (by omega) (by omega))
  obtain ⟨b,e⟩:=CB hg
  have er:=AE (nth h.2 (i:Int)).1 (nth h.2 0).1 (by have:=(au hg.1).1;omega)
  have e':aQ ((nth h.2 (i:Int)).1,(nth h.2 (i:Int)).2)=some b:=e
  have hk:okG h (nth h.2 (i:Int))↔b=true∧(nth h.2 (i:Int)).1=(nth h.2 0).1:=by unfold okG;rw[e];simp
  unfold dV
  rw[if_pos (by simp;omega),aj (by omega) (by omega)];simp only[Option.bind_some]
  rw[e',aj (xs:=h.2) (i:=0) (by omega) (by omega)];simp only[Option.bind_some]
  rw[er,aa (by omega)];simp only[Option.bind_some]
  cases b with
  | false=>rw[if_neg (by decide),if_neg (fun c=>by cases (hk.1 c).1)]
  | true =>
   rw[if_pos rfl]
   by_cases c:(nth h.2 (i:Int)).1=(nth h.2 0).1
   ·rw[if_pos (decide_eq_true c),if_pos (hk.2 ⟨rfl,c⟩)]
   ·rw[if_neg (by simpa using c),if_neg (fun k=>c (hk.1 k).2)]) (by unfold dV;simp)
 unfold bq aL
 rw[Pp,Pp,If,If,ew];simp only[Option.bind_some]
 by_cases c1:(1:Int)≤(h.2.length:Int)∧(h.2.length:Int)≤8
 ·by_cases c2:1≤h.1∧h.1≤1000 - (h.2.length:Int)
  ·rw[decide_eq_true c1,decide_eq_true c2];simp only[if_true]
   rcases ks with ⟨es,k1⟩ | ⟨es,k1⟩ <;> rcases ki with ⟨ei,k2⟩ | ⟨ei,k2⟩
   ·rw[af es,af ei]
    exact ⟨true,rfl,rfl,fun _=>⟨by omega,c2⟩⟩
   ·exact absurd k1 k2
   ·exact absurd k2 k1
   ·rw[a8 es,a8 ei]
    exact ⟨false,rfl,rfl,fun c=>by cases c⟩
  ·rw[decide_eq_true c1,decide_eq_false c2];simp only[if_true,Bool.false_eq_true,if_false]
   rcases ks with ⟨es,k1⟩ | ⟨es,k1⟩
   ·rw[af es];exact ⟨false,rfl,rfl,fun c=>by cases c⟩
   ·rw[a8 es];exact ⟨false,rfl,rfl,fun c=>by cases c⟩
 ·rw[decide_eq_false c1];simp only[Bool.false_eq_true,if_false]
  rcases ks with ⟨es,k1⟩ | ⟨es,k1⟩
  ·rw[af es];exact ⟨false,rfl,rfl,fun c=>by cases c⟩
  ·rw[a8 es];exact ⟨false,rfl,rfl,fun c=>by cases c⟩
def Ek (h:Ps):Int:=h.1+(h.2.length:Int) - 1
theorem GB {h:Ps} (hs:bq h=some true) (hi:aL h=some true) (k:(1≤h.2.length∧h.2.length≤8)∧1≤h.1∧h.1≤1000 - (h.2.length:Int)):bA h=some (Ek h)∧bB h=some (Ek h):=by
 unfold bA bB Ek
 have hs:bq (h.1,h.2)=_:=hs
 have hi:aL (h.1,h.2)=_:=hi
 rw[hs,hi];simp only[Option.bind_some,if_true]
 rw[cC (n:=h.1+(h.2.length:Int)) (by omega) (by omega),cC (by omega) (by omega)]
 exact ⟨rfl,rfl⟩
theorem GC (h:Ps) (hh:Data.sm h) (v:Int) (hv: -9223372036854775808≤v∧v≤9223372036854775807): ∃(g:GrT) (q:Bool),gA h v=some (g,q)∧nD h v=some (g,q)∧Data.sm g∧(aL h=some true→h.1≤v→v≤Ek h→q=true)∧(q=false→g=([],[])):=by
 obtain ⟨b,es,ei,k⟩:=Gz h hh
 have es':bq (h.1,h.2)=_:=es
 have ei':aL (h.1,h.2)=_:=ei
 have z0:Data.sm (([],[]):GrT):=⟨⟨by decide,fun _ hx=>by cases hx⟩,by decide,fun _ hx=>by cases hx⟩
 unfold gA nD
 rw[es',ei'];simp only[Option.bind_some]
 cases b with
 | false=>exact ⟨_,false,rfl,rfl,z0,fun c=>(by cases c),fun _=>rfl⟩
 | true =>
  have kk:=k rfl
  obtain ⟨l1,l2⟩:=GB es ei kk
  have l1:bA (h.1,h.2)=_:=l1
  have l2:bB (h.1,h.2)=_:=l2
  simp only[if_true,l1,l2,Option.bind_some,Pp,If,decide_eq_true_eq]
  by_cases c:h.1≤v∧v≤Ek h
  ·have c':=c
   unfold Ek at c'
   have hm:=(au hh.2).2 _ (bj (xs:=h.2) (i:=v - h.1) (by omega) (by omega))
   have e1:o0 ((nth h.2 (v - h.1)).1,(nth h.2 (v - h.1)).2)=_:=Vy _ hm
   have e2:kg ((nth h.2 (v - h.1)).1,(nth h.2 (v - h.1)).2)=_:=Vz _ hm
   rw[if_pos c,if_pos c,cC (n:=v - h.1) (by omega) (by omega),aj (by omega) (by omega)];simp only[Option.bind_some]
   rw[e1,e2]
   exact ⟨_,true,rfl,rfl,hm,fun _ _ _=>rfl,fun c=>by cases c⟩
  ·rw[if_neg c,if_neg c]
   exact ⟨_,false,rfl,rfl,z0,fun _ h1 h2=>absurd ⟨h1,h2⟩ c,fun _=>rfl⟩
theorem LI (a b:List (Int×Int)) (ha:a.length≤1000000) (hb:b.length≤1000000): ∃d:(List (Int×Int))×(List (Int×Int)),iU a b=some d∧iW a b=some d∧d.1.length≤b.length∧d.2.length≤a.length:=by
 unfold iU iW
 rw[CA (by omega) (by omega),CA (by omega) (by omega),Xl (by omega) (by omega),Xl (by omega) (by omega)]
 have k: ∀(l:List (Int×Int)) (f:Int×Int→Bool),(J5 [] (l.filter f)).length≤l.length:=fun l f=>by
  have:=yu (l.filter f) []
  have h2:=List.length_filter_le f l
  simp at this;omega
 exact ⟨_,rfl,rfl,k _ _,k _ _⟩
theorem CC (h:Ps) (hh:Data.sm h) {r:Iu} (hr:Data.sm r) (id v:Int) (hv: -9223372036854775808≤v∧v≤9223372036854775807): ∃(g:GrT) (q:Bool) (l:List (Int×Int)) (b:Bool),gA h v=some (g,q)∧cw r g id=some (l,b)∧fD h r id v=some (if q then l else [],if q then b else false)∧l.length≤150∧(aL h=some true→h.1≤v→v≤Ek h→q=true):=by
 obtain ⟨g,q,e1,e2,sg,k,-⟩:=GC h hh v hv
 obtain ⟨l,b,f1,f2,hl⟩:=Gx hr sg id
 refine ⟨g,q,l,b,e1,f1,?_,hl,k⟩
 unfold fD
 have e2:nD (h.1,h.2) v=_:=e2
 rw[e2];simp only[Option.bind_some]
 have f2:fK (r.1,r.2) (g.1,g.2) id=_:=f2
 cases q with
 | false=>rfl
 | true=>simp only[if_true];rw[f2];rfl
theorem Pf (h:Ps) (hh:Data.sm h) {r:Iu} (hr:Data.sm r) (s:Xm): ∃b,nv h r s=some b∧nB h r s=some b∧(b=true→aL h=some true∧bA h=some (Ek h)∧bB h=some (Ek h)∧((1≤h.2.length∧h.2.length≤8)∧1≤h.1∧h.1≤1000 - (h.2.length:Int))∧0≤s.2.2∧s.2.2<Ek h):=by
 obtain ⟨b,es,ei,k⟩:=Gz h hh
 obtain ⟨c,v1,v2,-⟩:=Cw hr
 obtain ⟨f,f1,f2,-⟩:=Gl r s.2.1 (au hr.2).1
 have es':bq (h.1,h.2)=_:=es
 have ei':aL (h.1,h.2)=_:=ei
 have v1:cE (r.1,r.2)=_:=v1
 have v2:cJ (r.1,r.2)=_:=v2
 have f1:gT (r.1,r.2) s.2.1=_:=f1
 have f2:gX (r.1,r.2) s.2.1=_:=f2
 unfold nv nB
 rw[es',ei',v1,v2,f1,f2];simp only[Option.bind_some]
 cases b with
 | false=>exact ⟨false,rfl,rfl,fun c=>by cases c⟩
 | true =>
  obtain ⟨l1,l2⟩:=GB es ei (k rfl)
  have l1':bA (h.1,h.2)=_:=l1
  have l2':bB (h.1,h.2)=_:=l2
  cases c with
  | false=>exact ⟨false,rfl,rfl,fun c=>by cases c⟩
  | true =>
   rw[l1',l2'];simp only[if_true,Option.bind_some]
   by_cases c1:f≥0
   ·by_cases c2:s.2.2≥0
    ·simp only[decide_eq_true c1,decide_eq_true c2,if_true]
     exact ⟨_,rfl,rfl,fun hb=>⟨trivial,trivial,trivial,k rfl,c2,of_decide_eq_true hb⟩⟩
    ·simp only[decide_eq_true c1,decide_eq_false c2,if_true,Bool.false_eq_true,if_false]
     exact ⟨false,rfl,rfl,fun c=>by cases c⟩
   ·simp only[decide_eq_false c1,Bool.false_eq_true,if_false]
    exact ⟨false,rfl,rfl,fun c=>by cases c⟩
theorem R3 (h:Ps) (hh:Data.sm h) {r:Iu} (hr:Data.sm r) (s:Xm) (to:Int) (hv:aL h=some true) (kk:(1≤h.2.length∧h.2.length≤8)∧1≤h.1∧h.1≤1000 - (h.2.length:Int)) (h0:0≤s.2.2∧s.2.2<Ek h) (ht:h.1≤to∧to≤Ek h) :
  ∃m:Zg,iE h r s to=some m∧nF h r s to=some (m,(s.1,s.2.1,to),true)∧m.2.2.1.length≤150∧m.2.2.2.length≤150:=by
 have hto:Ek h≤1000:=by unfold Ek;omega
 obtain ⟨g,q,l,b,e1,e2,e3,hl,kq⟩:=CC h hh hr s.2.1 to (by omega)
 obtain rfl:q=true:=kq hv ht.1 ht.2
 have e1:gA (h.1,h.2) to=_:=e1
 have e2:cw (r.1,r.2) (g.1,g.2) s.2.1=_:=e2
 have e3:fD (h.1,h.2) (r.1,r.2) s.2.1 to=_:=e3
 unfold iE nF
 rw[e1,e3];simp only[Option.bind_some,if_true]
 rw[e2];simp only[Option.bind_some]
 by_cases c:s.2.2<h.1
 ·rw[if_pos (decide_eq_true c),if_pos (decide_eq_true c)]
  exact ⟨_,rfl,rfl,hl,by simp⟩
 ·rw[if_neg (by simpa using c),if_neg (by simpa using c)]
  obtain ⟨g',q',l',b',d1,d2,d3,hl',kq'⟩:=CC h hh hr s.2.1 s.2.2 (by omega)
  obtain rfl:q'=true:=kq' hv (by omega) (by omega)
  have d1:gA (h.1,h.2) s.2.2=_:=d1
  have d2:cw (r.1,r.2) (g'.1,g'.2) s.2.1=_:=d2
  have d3:fD (h.1,h.2) (r.1,r.2) s.2.1 s.2.2=_:=d3
  rw[d1,d3];simp only[Option.bind_some,if_true]
  rw[d2];simp only[Option.bind_some]
  obtain ⟨d,x1,x2,k1,k2⟩:=LI l' l (by omega) (by omega)
  rw[x1,x2]
  exact ⟨_,rfl,rfl,by simp only;omega,by simp only;omega⟩
end D
set_option synthInstance.maxSize 20000
set_option synthInstance.maxHeartbeats 2000000
namespace D
open Go.RowKit
theorem Pg (h:Ps) (hh:Data.sm h) {r:Iu} (hr:Data.sm r) (s:Xm): ∃x:Zg×Xm×Bool,j5 h r s=some x∧gI h r s=some x∧x.1.2.2.1.length≤150∧x.1.2.2.2.length≤150:=by
 obtain ⟨b,es,ei,k⟩:=Pf h hh hr s
 have es:nv (h.1,h.2) (r.1,r.2) (s.1,s.2.1,s.2.2)=_:=es
 have ei:nB (h.1,h.2) (r.1,r.2) (s.1,s.2.1,s.2.2)=_:=ei
 unfold j5 gI
 rw[es,ei];simp only[Option.bind_some]
 cases b with
 | false=>exact ⟨_,rfl,rfl,Nat.zero_le _,Nat.zero_le _⟩
 | true =>
  obtain ⟨hv,l1,l2,kk,h0,h1⟩:=k rfl
  have l1:bA (h.1,h.2)=_:=l1
  have l2:bB (h.1,h.2)=_:=l2
  have hL:Ek h=h.1+(h.2.length:Int) - 1:=rfl
  rw[l1,l2];simp only[if_true,Option.bind_some]
  obtain ⟨m,x1,x2,k1,k2⟩:=R3 h hh hr s (Ek h) hv kk ⟨h0,h1⟩ ⟨by omega,by omega⟩
  have x1:iE (h.1,h.2) (r.1,r.2) (s.1,s.2.1,s.2.2) (Ek h)=_:=x1
  have x2:nF (h.1,h.2) (r.1,r.2) (s.1,s.2.1,s.2.2) (Ek h)=_:=x2
  rw[x1,x2]
  exact ⟨(m,(s.1,s.2.1,Ek h),true),rfl,rfl,k1,k2⟩
theorem BB (x:Ps) (y:Iu) (z:Xm) (hx:Data.lim x) (hy:Data.lim y) (_:Data.lim z):dF x y z=some true:=by
 unfold dF
 simp only[dj]
 obtain ⟨r1,e1,k1⟩:=H5 x 1048576 hx (by decide) (by decide)
 rw[e1];simp only[Option.bind_some]
 rcases k1 with k1 | ⟨k1,j1,s1⟩
 ·rw[if_pos (decide_eq_true k1)]
 rw[if_neg (by simpa using k1)]
 obtain ⟨r2,e2,k2⟩:=F5 y r1 hy k1 j1
 rw[e2];simp only[Option.bind_some]
 rcases k2 with k2 | ⟨k2,j2,s2⟩
 ·rw[if_pos (decide_eq_true k2)]
 rw[if_neg (by simpa using k2)]
 obtain ⟨⟨m,s,b⟩,es,ei,hl1,hl2⟩:=Pg x s1 s2 z
 have hl1:m.2.2.1.length≤150:=hl1
 have hl2:m.2.2.2.length≤150:=hl2
 have s3:Data.sm m:=⟨trivial,trivial,JZ (by omega),JZ (by omega)⟩
 have sz:Data.sm z:=⟨trivial,trivial,trivial⟩
 have ss:Data.sm s:=⟨trivial,trivial,trivial⟩
 have b1:=Ls x s1
 have b2:=Ic y s2
 have b3:=Lp m s3
 have em1:=Lt x s1 (k:=1) (by omega)
 have em2:=Ie y s2 (k:=1+ky x) (by omega)
 have em3:=Lq m s3 (k:=1) (by omega)
 have eh3:=Lr m s3 (k:=1) (by omega)
 have em1:gh x 1=_:=em1
 have em3:gi m 1=_:=em3
 have eh3:eQ (m.1,m.2.1,Az m.2.2 1) 1=_:=eh3
 simp only[H6 x s1,F6 y s2,Bw z sz,es,ei,H7 m m s3 s3,Bx s s ss ss,H8 x x s1 s1,F7 y y s2 s2,Option.bind_some,dj,em1,em2,em3,vE,eh3,decide_true,if_true]
 have n1: ¬((1+ky x+jA y:Nat):Int)<0:=by omega
 have n2: ¬((1+fg m:Nat):Int)<0:=by omega
 simp only[decide_eq_true_eq,n1,n2,if_false,bne_self_eq_false,Bool.false_eq_true]
end D
open Go.ChangeShapes Go.WideShapes Go.ChangeAt Go.RowKit
theorem own:ownKnob Tryz.prog.godebug=none:=by kernel_rfl
theorem laidOut:laidOutB Tryz.prog=true:=by kernel_rfl
theorem vT {H:Type} {enc:TypeId×Value→H} {P:Program} (hl:laidOutB P=true) {W W':World} (hb:Below W.heap.size W W') :
  ∀ {ts:List TypeId} {vs:List Value} {ds:List (DataW H)} {ps:List MemPlace},(∀t∈ts,P.readableRec t=true∧t<P.types.size)→
   DataW.TrodAll enc P W 0 (fun _=>true) true ts vs ds ps→(∀x∈ps,x.block<W.heap.size)→DataW.TrodAll enc P W' 0 (fun b=>decide (b<W.heap.size)) true ts vs ds ps
 | [],[],[],ps,_,h,_=>h
 | t::ts,v::vs,d::ds,ps,hr,⟨p,q,h1,h2,h3⟩,hlt=>by
  subst h3
  exact ⟨p,q,Below.trod hl (hr t (by simp)).1 (hr t (by simp)).2 h1 hb fun x hx=>hlt x (by simp[hx]),vT hl hb (fun t ht=>hr t (by simp[ht])) h2 fun x hx=>hlt x (by simp[hx]),rfl⟩
 | [],_::_,_,_,_,h,_=>h.elim
 | [],[],_::_,_,_,h,_=>h.elim
 | _::_,[],_,_,_,h,_=>h.elim
 | _::_,_::_,[],_,_,h,_=>h.elim
theorem R4 {H:Type} {enc:TypeId×Value→H} {f:Func} {s:ChangeSpec} {W W':World} {args:Array Value} {ds:List (DataW H)} {before:List MemPlace} (tb:TypeId)
  (hb:Tryz.prog.underlying tb=some .bool) (hr:f.resultTypes= #[tb]) (hp:(f.params.toList.all fun t=>Tryz.prog.readableRec t&&decide (t<Tryz.prog.types.size))=true) (hv:s.vars= [])
  (hW:DataW.Whole enc Tryz.prog f.params.toList s.vars false W args.toList ds [] before) (hres:(s.fn H (ds++ [])).results= [.lit (.bool true)]) (hargs:(s.fn H (ds++ [])).args=ds) (hvars:(s.fn H (ds++ [])).vars= [])
  (hbel:Below W.heap.size W W'):s.post enc Tryz.prog f false true false false W args (.bool true) W':=by
 obtain ⟨p,q,h1,h2,h3,h4,h5⟩:=hW
 have hW':DataW.Whole enc Tryz.prog f.params.toList s.vars false W args.toList ds [] before:=⟨p,q,h1,h2,h3,h4,h5⟩
 have hq:q= []:=by rw[hv] at h2;exact h2
 subst hq
 simp only[List.append_nil] at h3
 subst h3
 refine ⟨ds,[],before,[],before,[],hW',?_,?_,?_,hbel.frame _,fun h=>by cases h⟩
 ·rw[hres,hr]
  exact trodAll_mk1 (shut_bool hb true)
 ·rw[hargs]
  exact vT laidOut hbel (fun t ht=>by have:=List.all_eq_true.1 hp t ht;simpa using this) h1 fun x hx=>by simpa using hW'.lt x hx
 ·rw[hvars,hv];rfl
open Go.ChangeShapes Go.WideShapes Go.ChangeAt Go.RowKit
namespace D
theorem op3:Opens Tryz.prog 3 bp:=N1 Tryz.underlying3
theorem Zh:Opens Tryz.prog 26 (ae 3 bp):=gK Tryz.underlying26 (by kernel_rfl) (by decide) op3
theorem YD:Opens Tryz.prog 156 (aD bp (aD bp (aD bp bp))):=by
 refine ed Tryz.underlying156 (by kernel_rfl) ?_
 refine cM (R:=bp) (S:=aD (bp) (aD (bp) (bp))) rfl (by kernel_rfl) op3 ?_
 refine cM (R:=bp) (S:=aD (bp) (bp)) rfl (by kernel_rfl) op3 ?_
 refine cM (R:=bp) (S:=bp) rfl (by kernel_rfl) op3 ?_
 exact ic rfl (by kernel_rfl) op3
theorem Zp:Opens Tryz.prog 27 (ae 156 (aD bp (aD bp (aD bp bp)))):=gK Tryz.underlying27 (by kernel_rfl) (by decide) YD
theorem Zq:Opens Tryz.prog 29 (aD (ae 3 bp) (ae 156 (aD bp (aD bp (aD bp bp))))):=by
 refine ed Tryz.underlying29 (by kernel_rfl) ?_
 refine cM (R:=ae 3 bp) (S:=ae 156 (aD bp (aD bp (aD bp bp)))) rfl (by kernel_rfl) Zh ?_
 exact ic rfl (by kernel_rfl) Zp
theorem Zr:Opens Tryz.prog 51 (ae 29 (aD (ae 3 bp) (ae 156 (aD bp (aD bp (aD bp bp)))))):=gK Tryz.underlying51 (by kernel_rfl) (by decide) Zq
theorem Zs:Opens Tryz.prog 53 (aD bp (ae 29 (aD (ae 3 bp) (ae 156 (aD bp (aD bp (aD bp bp))))))):=by
 refine ed Tryz.underlying53 (by kernel_rfl) ?_
 refine cM (R:=bp) (S:=ae 29 (aD (ae 3 bp) (ae 156 (aD bp (aD bp (aD bp bp)))))) rfl (by kernel_rfl) op3 ?_
 exact ic rfl (by kernel_rfl) Zr
theorem YE {W:World} {base:Nat} {z:Value} {H:Type} {enc:TypeId×Value→H} {d:DataW H} {p:List MemPlace} (hv:Value.okWide Tryz.prog W .any base 53 z) (h:DataW.Trod enc Tryz.prog W 0 (fun _=>true) true 53 z d p) :
  ∃(x:Int×(List ((List Int)×(List (Int×Int×Int×Int))))) (v0:Value),z= .agg #[.int .i64 x.1,v0] ∧Data.lim x∧(ae 29 (aD (ae 3 bp) (ae 156 (aD bp (aD bp (aD bp bp)))))).rd (hp W) [v0] x.2:=by
 obtain ⟨fuel,hf⟩:=h
 obtain ⟨⟨cs⟩,rfl,-⟩:=okWide_struct Tryz.underlying53 hv
 obtain ⟨x,hx,hl⟩:=Zs.out enc W _ _ _ hf
 have hx:(aD bp (ae 29 (aD (ae 3 bp) (ae 156 (aD bp (aD bp (aD bp bp))))))).rd (hp W) cs x:=hx
 obtain ⟨_,_,rfl,rfl,r0⟩:=hx
 obtain ⟨v0,rfl⟩:=one_cell r0 rfl
 exact ⟨x,v0,rfl,hl,r0⟩
theorem op4:Opens Tryz.prog 4 qS:=Lg Tryz.underlying4
theorem Zt:Opens Tryz.prog 89 (ae 4 qS):=gK Tryz.underlying89 (by kernel_rfl) (by decide) op4
theorem Zu:Opens Tryz.prog 90 (ae 26 (ae 3 bp)):=gK Tryz.underlying90 (by kernel_rfl) (by decide) Zh
theorem YF:Opens Tryz.prog 133 (aD bp (aD (ae 4 qS) (ae 26 (ae 3 bp)))):=by
 refine ed Tryz.underlying133 (by kernel_rfl) ?_
 refine cM (R:=bp) (S:=aD (ae 4 qS) (ae 26 (ae 3 bp))) rfl (by kernel_rfl) op3 ?_
 refine cM (R:=ae 4 qS) (S:=ae 26 (ae 3 bp)) rfl (by kernel_rfl) Zt ?_
 exact ic rfl (by kernel_rfl) Zu
theorem Zv:Opens Tryz.prog 22 (ae 133 (aD bp (aD (ae 4 qS) (ae 26 (ae 3 bp))))):=gK Tryz.underlying22 (by kernel_rfl) (by decide) YF
theorem YG:Opens Tryz.prog 232 (aD bp (aD bp (aD bp bp))):=by
 refine ed Tryz.underlying232 (by kernel_rfl) ?_
 refine cM (R:=bp) (S:=aD (bp) (aD (bp) (bp))) rfl (by kernel_rfl) op3 ?_
 refine cM (R:=bp) (S:=aD (bp) (bp)) rfl (by kernel_rfl) op3 ?_
 refine cM (R:=bp) (S:=bp) rfl (by kernel_rfl) op3 ?_
 exact ic rfl (by kernel_rfl) op3
theorem YH:Opens Tryz.prog 135 (ae 232 (aD bp (aD bp (aD bp bp)))):=gK Tryz.underlying135 (by kernel_rfl) (by decide) YG
theorem YI:Opens Tryz.prog 137 (ae 232 (aD bp (aD bp (aD bp bp)))):=by
 refine ed Tryz.underlying137 (by kernel_rfl) ?_
 exact ic rfl (by kernel_rfl) YH
theorem YJ:Opens Tryz.prog 139 (aD bp (aD (ae 232 (aD bp (aD bp (aD bp bp)))) bp)):=by
 refine ed Tryz.underlying139 (by kernel_rfl) ?_
 refine cM (R:=bp) (S:=aD (ae 232 (aD bp (aD bp (aD bp bp)))) (bp)) rfl (by kernel_rfl) op3 ?_
 refine cM (R:=ae 232 (aD bp (aD bp (aD bp bp)))) (S:=bp) rfl (by kernel_rfl) YI ?_
 exact ic rfl (by kernel_rfl) op3
theorem Zw:Opens Tryz.prog 23 (ae 139 (aD bp (aD (ae 232 (aD bp (aD bp (aD bp bp)))) bp))):=gK Tryz.underlying23 (by kernel_rfl) (by decide) YJ
theorem Zx:Opens Tryz.prog 25 (aD (ae 133 (aD bp (aD (ae 4 qS) (ae 26 (ae 3 bp))))) (ae 139 (aD bp (aD (ae 232 (aD bp (aD bp (aD bp bp)))) bp)))):=by
 refine ed Tryz.underlying25 (by kernel_rfl) ?_
 refine cM (R:=ae 133 (aD bp (aD (ae 4 qS) (ae 26 (ae 3 bp))))) (S:=ae 139 (aD bp (aD (ae 232 (aD bp (aD bp (aD bp bp)))) bp))) rfl (by kernel_rfl) Zv ?_
 exact ic rfl (by kernel_rfl) Zw
theorem YK {W:World} {base:Nat} {z:Value} {H:Type} {enc:TypeId×Value→H} {d:DataW H} {p:List MemPlace} (hv:Value.okWide Tryz.prog W .any base 25 z) (h:DataW.Trod enc Tryz.prog W 0 (fun _=>true) true 25 z d p) :
  ∃(x:(List (Int×(List Bool)×(List (List Int))))×(List (Int×((List (Int×Int×Int×Int)))×Int))) (v0:Value) (v1:Value),z= .agg #[v0,v1] ∧Data.lim x∧(ae 133 (aD bp (aD (ae 4 qS) (ae 26 (ae 3 bp))))).rd (hp W) [v0] x.1∧(ae 139 (aD bp (aD (ae 232 (aD bp (aD bp (aD bp bp)))) bp))).rd (hp W) [v1] x.2:=by
 obtain ⟨fuel,hf⟩:=h
 obtain ⟨⟨cs⟩,rfl,-⟩:=okWide_struct Tryz.underlying25 hv
 obtain ⟨x,hx,hl⟩:=Zx.out enc W _ _ _ hf
 have hx:(aD (ae 133 (aD bp (aD (ae 4 qS) (ae 26 (ae 3 bp))))) (ae 139 (aD bp (aD (ae 232 (aD bp (aD bp (aD bp bp)))) bp)))).rd (hp W) cs x:=hx
 obtain ⟨_,_,rfl,r0,r1⟩:=hx
 obtain ⟨v0,rfl⟩:=one_cell r0 rfl
 obtain ⟨v1,rfl⟩:=one_cell r1 rfl
 exact ⟨x,v0,v1,rfl,hl,r0,r1⟩
theorem Zy:Opens Tryz.prog 55 (aD bp (aD bp bp)):=by
 refine ed Tryz.underlying55 (by kernel_rfl) ?_
 refine cM (R:=bp) (S:=aD (bp) (bp)) rfl (by kernel_rfl) op3 ?_
 refine cM (R:=bp) (S:=bp) rfl (by kernel_rfl) op3 ?_
 exact ic rfl (by kernel_rfl) op3
theorem YL {W:World} {base:Nat} {z:Value} {H:Type} {enc:TypeId×Value→H} {d:DataW H} {p:List MemPlace} (hv:Value.okWide Tryz.prog W .any base 55 z) (h:DataW.Trod enc Tryz.prog W 0 (fun _=>true) true 55 z d p) :
  ∃(x:Int×Int×Int),z= .agg #[.int .i64 x.1,.int .i64 x.2.1,.int .i64 x.2.2] ∧Data.lim x:=by
 obtain ⟨fuel,hf⟩:=h
 obtain ⟨⟨cs⟩,rfl,-⟩:=okWide_struct Tryz.underlying55 hv
 obtain ⟨x,hx,hl⟩:=Zy.out enc W _ _ _ hf
 have hx:(aD bp (aD bp bp)).rd (hp W) cs x:=hx
 obtain ⟨_,_,rfl,rfl,⟨_,_,rfl,rfl,rfl⟩⟩:=hx
 exact ⟨x,rfl,hl⟩
end D
open D (Data)
theorem AU (W:World) (args:Array Value) (H:Type) (enc:TypeId×Value→H) (base:Nat) (ds gs:List (DataW H)) (before:List MemPlace)
  (hval: ∀(j:Nat) t v,Tryz.f5.params[j]? =some t→args[j]? =some v→Value.okWide Tryz.prog W .any base t v)
  (hW:DataW.Whole enc Tryz.prog Tryz.f5.params.toList Rows.fnExactSkipMessageSpec.vars false W args.toList ds gs before) :
  Calls Tryz.prog 5 args W fun e W'=> ∃v,e= .returned v∧Rows.fnExactSkipMessageSpec.post enc Tryz.prog Tryz.f5 false true false false W args v W':=by
 have hW':=hW
 obtain ⟨p,q,hA,hV,rfl,hfz,hnd⟩:=hW
 rw[Tryz.params5] at hA hval
 obtain ⟨z0,vs0,d0,ds0,p0,q0,hargs,rfl,rfl,h0,r0⟩:=trodAll_cons hA
 obtain ⟨z1,vs1,d1,ds1,p1,q1,rfl,rfl,rfl,h1,r1⟩:=trodAll_cons r0
 obtain ⟨z2,vs2,d2,ds2,p2,q2,rfl,rfl,rfl,h2,r2⟩:=trodAll_cons r1
 obtain ⟨rfl,rfl,rfl⟩:=trodAll_nil r2
 obtain rfl:args= #[z0,z1,z2]:=by cases args;simp_all
 obtain ⟨rfl,rfl⟩:=trodVars_none hV
 obtain ⟨x0,v0_0,rfl,l0,r0_0⟩:=D.YE (hval 0 _ _ rfl rfl) h0
 obtain ⟨x1,v1_0,v1_1,rfl,l1,r1_0,r1_1⟩:=D.YK (hval 1 _ _ rfl rfl) h1
 obtain ⟨x2,rfl,l2⟩:=D.YL (hval 2 _ _ rfl rfl) h2
 have hc:=D.qP x0 x1 x2 true (D.BB x0 x1 x2 l0 l1 l2) (I:=D.hp W) (w0:=W) v0_0 v1_0 v1_1 r0_0 r1_0 r1_1 W [] (D.St.init W)
 refine hc.mono fun e W' ⟨v,he,hv,hs⟩=>?_
 subst he;subst hv
 exact ⟨_,rfl,R4 (f:=Tryz.f5) (s:=Rows.fnExactSkipMessageSpec) 4 Tryz.underlying4 rfl (by kernel_rfl) rfl hW' rfl rfl rfl (D.St.below hs)⟩
theorem vU (os:Os) (started:os.Started) (H:Type) (enc:TypeId×Value→H) :
  ReturnsInHanded {} Tryz.checked os 5 .any (Rows.fnExactSkipMessageSpec.pre6 enc Tryz.prog Tryz.f5 Rows.fnExactSkipMessageRow.domain false) (Rows.fnExactSkipMessageSpec.post enc Tryz.prog Tryz.f5 false true false false):=by
 refine returnsInHanded_of_change_sized (C:=Tryz.checked) own started (by kernel_rfl) Tryz.func5
  (ChangeSpec.witness6 (enc:=enc) (C:=Tryz.checked) false ⟨#[],#[.agg #[.int .i64 0,.slice none 0 0],.agg #[.slice none 0 0,.slice none 0 0],.agg #[.int .i64 0,.int .i64 0,.int .i64 0]],[]⟩ 8 (by kernel_rfl) (by kernel_rfl) (by kernel_rfl) (by kernel_rfl)) ?_
 intro W base args ds gs before hval hW hcnd hsz _
 exact AU W args H enc base ds gs before hval hW
set_option maxHeartbeats 4000000 in
theorem vV:joinedFacts Tryz.pinned.checked.prog 5 Tryz.f5 Rows.fnExactSkipMessageSpec Rows.fnExactSkipMessageRow=true:=by
 unfold joinedFacts
 repeat' (with_reducible refine Bool.and_eq_true_iff.2 ⟨?_,?_⟩)
 all_goals as_aux_lemma=>kernel_rfl
theorem holdsLSkipMessage:Rows.FnExactSkipMessageSaid:=
 OpenClaim.holds_of_wide 5 Tryz.f5 rfl rfl rfl rfl rfl rfl rfl ⟨rfl,rfl,rfl,rfl,rfl⟩ rfl rfl rfl rfl rfl (by kernel_rfl) Tryz.func5 vV
  (of_decide_eq_true (by kernel_rfl)) (by unfold Func.isWrapper;first | (rw[if_pos (by decide +kernel)];kernel_rfl) | (rw[if_neg (by decide +kernel)];exact ⟨rfl,rfl⟩))
  (fun os started H enc _=>vU os started H enc)
end Go.Proofs.YtakjhbbbjbebdaaGreat
