/- FnExactDrainMessages: for every input the law returns true and changes nothing that was there. Part 8 of 8. -/
import Derived.Test.YtakjhbbbjbebdaaGreatBC6
set_option linter.unusedVariables false
set_option linter.unusedSimpArgs false
set_option linter.unnecessarySimpa false
set_option linter.unusedSectionVars false
set_option maxRecDepth 1000000
namespace Go.Proofs.YtakjhbbbjbebdaaGreat
namespace D
open Go.RowKit
theorem A0 (g:GrT):bH g=aQ g:=by
 have h0:nt g=dw g:=rfl
 have h1:jm g=cJ g:=by
  funext s
  unfold jm cJ
  split
  ·cases hx:ax g.2 s with
   | none=>rfl
   | some x=>rfl
  ·rfl
 unfold bH aQ
 rw[h0,h1];rfl
def GOOD (g:GrT) (a:AutT):Prop:=GOk g∧a.2.1.length≤12∧VA a a.2.1.length
theorem Pg (g:GrT) (a:AutT) (hg:Data.sm g) (ha:Data.sm a): ∃b c,bH g=some b∧aQ g=some b∧cx a=some c∧bQ a=some c∧(b=true→GOk g)∧(c=true→a.2.1.length≤12∧VA a a.2.1.length):=by
 obtain ⟨b,e1,k1⟩:=Ee g (au hg.1).1 (au hg.2).1
 have hb:=(au ha.2.1).1
 have hn:=au ha.2.2
 obtain ⟨c,e2,k2⟩:=VD a (by omega) (by omega) (fun r hr=>by have:=(au (hn.2 r hr)).1;omega)
 obtain ⟨c',e3,k3⟩:=VC a (by omega) (by omega)
 have hc:c'=c:=by
  cases c <;> cases c' <;> simp_all
 subst hc
 exact ⟨b,c',by rw[A0,e1],e1,e3,e2,k1,fun h=>k2.1 h⟩
theorem Ph (g:GrT) (a:AutT) (hg:Data.sm g) (ha:Data.sm a) (x:Int): ∃b,jn g a x 0=some b∧cy g a [x] =some b∧(b=true→GOOD g a∧0≤x∧x<g.1.length):=by
 obtain ⟨b,c,e1,e2,e3,e4,k1,k2⟩:=Pg g a hg ha
 have hl:=(au hg.1).1
 have hla:=(au ha.2.1).1
 have ew:IntKind.i64.wrap ((g.1.length:Int) - 1)=(g.1.length:Int) - 1:=cB (by omega) (by omega)
 have ew2:IntKind.i64.wrap ((a.2.1.length:Int) - 1)=(a.2.1.length:Int) - 1:=cB (by omega) (by omega)
 have es:jn g a x 0=some (b&&(c&&(decide (0≤x∧x≤(g.1.length:Int) - 1)))):=by
  unfold jn
  have e1:bH (g.1,g.2)=_:=e1
  have e3:cx (a.1,a.2.1,a.2.2)=_:=e3
  rw[e1,e3,PG,PG,ew,ew2];simp only[Option.bind_some]
  cases b <;> cases c <;> simp only[Bool.false_eq_true,if_false,if_true,Bool.false_and,Bool.true_and]
  by_cases h:0≤x∧x≤(g.1.length:Int) - 1
  ·have:=(k2 rfl).2.start
   simp only[h,and_self,decide_true,if_true]
   rw[decide_eq_true (by omega)]
  ·rw[decide_eq_false h];rfl
 have ei:cy g a [x] =some (b&&(c&&(decide (0≤x∧x≤(g.1.length:Int) - 1)))):=by
  unfold cy
  have e2:aQ (g.1,g.2)=_:=e2
  have e4:bQ (a.1,a.2.1,a.2.2)=_:=e4
  rcases LR (f:=cQ g [x]) 1 (fun _=>0≤x∧x≤(g.1.length:Int) - 1) false (by decide) (fun i hi=>by
   obtain rfl:i=0:=by omega
   unfold cQ
   rw[if_pos (by simp),show ax [x] ((0:Nat):Int)=some x from rfl];simp only[Option.bind_some]
   rw[Iw,ew];simp only[Option.bind_some,decide_eq_true_eq]
   split <;> rfl) (by unfold cQ;simp) with ⟨k,h⟩ | ⟨k,h⟩
  ·rw[af k,e2,e4];simp only[Option.bind_some]
   rw[decide_eq_true (h 0 (by decide))]
   cases b <;> cases c <;> rfl
  ·rw[aW k,decide_eq_false (fun c=>h fun _ _=>c)]
   cases b <;> cases c <;> rfl
 refine ⟨_,es,ei,fun hb=>?_⟩
 simp only[Bool.and_eq_true,decide_eq_true_eq] at hb
 obtain ⟨h1,h2,h3⟩:=hb
 exact ⟨⟨k1 h1,(k2 h2).1,(k2 h2).2⟩,h3.1,by omega⟩
def nxC (g:GrT) (a:AutT) (z:Int):List Int:=nbC g a z.toNat
section
variable {g:GrT} {a:AutT} (H:GOOD g a)
include H
theorem GOOD.divmod {x:Int} (h0:0≤x) (h1:x<(a.2.1.length*g.1.length:Nat)):x.toNat / a.2.1.length<g.1.length∧x.toNat % a.2.1.length<a.2.1.length:=by
 have hp:=H.2.2.pos
 exact ⟨(Nat.div_lt_iff_lt_mul hp).2 (by rw[Nat.mul_comm];omega),Nat.mod_lt _ hp⟩
theorem Xs (x:Int) (h0:0≤x) (h1:x<(a.2.1.length*g.1.length:Nat)): ∀y∈nxC g a x,0≤y∧y<(a.2.1.length*g.1.length:Nat):=by
 obtain ⟨k1,k2⟩:=H.divmod h0 h1
 exact Xn H.1 H.2.2 H.2.1 k1 k2
theorem VE {x:Int} (h0:0≤x) (h1:x<(a.2.1.length*g.1.length:Nat)):(nxC g a x).length≤720:=by
 obtain ⟨k1,k2⟩:=H.divmod h0 h1
 have:=si (f:=nbA g a (x.toNat / a.2.1.length) (x.toNat % a.2.1.length)) (B:=30) (xs:=kK g.2 (x.toNat / a.2.1.length)) fun y hy=>Pe H.1 H.2.2 H.2.1 k1 k2 hy
 have l1:=sW g.2 (x.toNat / a.2.1.length)
 have:=H.1.m
 show (nbV g a _ _).length≤720
 unfold nbV
 omega
end
def nxN (g:GrT) (a:AutT) (z:Int):List Int:=if 0≤z∧z<(a.2.1.length*g.1.length:Nat) then nxC g a z else []
section
variable {g:GrT} {a:AutT} (H:GOOD g a)
include H
theorem vY: ∀x:Int,0≤x→x<(a.2.1.length*g.1.length:Nat)→ ∀y∈nxN g a x,0≤y∧y<(a.2.1.length*g.1.length:Nat):=fun x h0 h1=>by
 unfold nxN;rw[if_pos ⟨h0,h1⟩];exact Xs H x h0 h1
theorem IM (x:Int):(nxN g a x).length≤720:=by
 unfold nxN;split
 ·rename_i h;exact VE H h.1 h.2
 ·simp
theorem VF:dP g a=some (rm (a.2.1.length*g.1.length) fun z=>nxN g a (z:Int)):=by
 rw[Vt H.1 H.2.2 H.2.1]
 congr 1
 refine nf fun z hz=>?_
 unfold nxN
 rw[if_pos ⟨by omega,by omega⟩];rfl
theorem Sa {x:Int} (h0:0≤x) (h1:x<(a.2.1.length*g.1.length:Nat)): ∃l:List Vu,jA g a (GR x (a.2.1.length:Int)) (Int.tmod x (a.2.1.length:Int))=some l∧l.map (fun p=>p.2.1*(a.2.1.length:Int)+p.2.2)=nxN g a x∧ ∀p∈l,(0≤p.2.1∧p.2.1<60)∧0≤p.2.2∧p.2.2<60:=by
 obtain ⟨k1,k2⟩:=H.divmod h0 h1
 have hp:=H.2.2.pos
 have hN:=nN H.1 H.2.2 H.2.1
 have e1:GR x (a.2.1.length:Int)=((x.toNat / a.2.1.length:Nat):Int):=by
  unfold GR
  have:x.tdiv (a.2.1.length:Int)=((x.toNat / a.2.1.length:Nat):Int):=by
   rw[Int.tdiv_eq_ediv_of_nonneg h0]
   rw[show x / (a.2.1.length:Int)=((x.toNat:Nat):Int) / (a.2.1.length:Int) from by rw[Int.toNat_of_nonneg h0]]
   simp
  rw[this,vK (by have:=H.1.n5;omega)]
 have e2:Int.tmod x (a.2.1.length:Int)=((x.toNat % a.2.1.length:Nat):Int):=by
  rw[Int.tmod_eq_emod_of_nonneg h0]
  rw[show x % (a.2.1.length:Int)=((x.toNat:Nat):Int) % (a.2.1.length:Int) from by rw[Int.toNat_of_nonneg h0]]
  simp
 refine ⟨_,by rw[e1,e2];exact Vx H.1 H.2.2 H.2.1 k1 k2,?_,fun p hp=>?_⟩
 ·rw[Xq];unfold nxN;rw[if_pos ⟨h0,h1⟩];rfl
 ·obtain ⟨y,hy,hp⟩:=List.mem_flatMap.1 hp
  obtain ⟨t,ht,rfl⟩:=List.mem_map.1 hp
  have h2:=(AY H.1 hy).2
  have h3:=(vX H.1 H.2.2 H.2.1 (s:=((x.toNat % a.2.1.length:Nat):Int)) ⟨by omega,by omega⟩ (H.1.val _ (bc (xs:=g.1) (i:=((x.toNat / a.2.1.length:Nat):Int)) (Int.natCast_nonneg _) (Int.ofNat_lt.2 k1))) (AY H.1 hy).1).1 t ht
  have:=H.1.n5
  have:=H.2.1
  exact ⟨⟨h2.1,by simp only;omega⟩,h3.1,by simp only;omega⟩
end
def RKs (g:GrT) (a:AutT) (v:Int):List Int:=(bsS (nxN g a) (a.2.1.length*g.1.length) v (a.2.1.length*g.1.length)).1
theorem Ei {nx:Int→List Int} {N:Nat} {v:Int} (hv:0≤v∧v<N) (hn: ∀x:Int,0≤x→x<N→ ∀y∈nx x,0≤y∧y<N) {K:Nat} (hE:K=(bsS nx N v K).2.length): ∀d,bsS nx N v (K+d)=bsS nx N v K
 | 0=>rfl
 | d+1=>by
  have ih:=Ei hv hn hE d
  rw[←Nat.add_assoc,bsS,ih]
  have:(bsS nx N v K).2[K+d]? =none:=List.getElem?_eq_none (by omega)
  rw[this]
section
variable {g:GrT} {a:AutT} (H:GOOD g a) {x:Int} (hx:0≤x∧x<g.1.length)
include H hx
theorem Tm:0≤x*(a.2.1.length:Int)+a.1∧x*(a.2.1.length:Int)+a.1<(a.2.1.length*g.1.length:Nat):=by
 obtain ⟨z,rfl⟩: ∃z:Nat,x=(z:Int):=⟨_,(Int.toNat_of_nonneg hx.1).symm⟩
 have hs:=H.2.2.start
 obtain ⟨s,hs'⟩: ∃s:Nat,a.1=(s:Int):=⟨_,(Int.toNat_of_nonneg hs.1).symm⟩
 rw[hs'] at hs⊢
 have:=cN H.1 H.2.2 H.2.1 (x:=z) (s:=s) (by omega) (by omega)
 constructor
 ·exact Int.add_nonneg (Int.mul_nonneg (by omega) (by omega)) (by omega)
 ·exact_mod_cast this
theorem Tn:IntKind.i64.wrap ((IntKind.i64.wrap (x*(a.2.1.length:Int)))+a.1)=x*(a.2.1.length:Int)+a.1:=by
 have h:=Tm H hx
 have hN:=nN H.1 H.2.2 H.2.1
 have hs:=H.2.2.start
 have hn:=H.2.1
 have h5:=H.1.n5
 rw[cB (n:=x*(a.2.1.length:Int)) (by omega) (by omega),cB (by omega) (by omega)]
theorem YE:BI (a.2.1.length*g.1.length) (bsS (nxN g a) (a.2.1.length*g.1.length) (x*(a.2.1.length:Int)+a.1) (a.2.1.length*g.1.length)):=AZ (Tm H hx) (vY H) _
theorem Pi:(RKs g a (x*(a.2.1.length:Int)+a.1)).length=a.2.1.length*g.1.length:=(YE H hx).len
theorem Xt (e:cy g a [x] =some true):fc g a x=some (RKs g a (x*(a.2.1.length:Int)+a.1)):=by
 unfold fc
 have e:cy (g.1,g.2) (a.1,a.2.1,a.2.2) [x] =_:=e
 rw[e];simp only[Option.bind_some,if_true]
 have e2:dP (g.1,g.2) (a.1,a.2.1,a.2.2)=_:=VF H
 rw[e2];simp only[Option.bind_some]
 have hN:=nN H.1 H.2.2 H.2.1
 obtain ⟨K,hK,hE,hR⟩:=Pf (Tm H hx) (vY H)
 rw[Tn H hx,R9 hN (Tm H hx) (vY H) (fun x=>by have:=IM H x;omega) hK hE hR];simp only[Option.bind_some]
 have hk:bsS (nxN g a) (a.2.1.length*g.1.length) (x*(a.2.1.length:Int)+a.1) K=bsS (nxN g a) (a.2.1.length*g.1.length) (x*(a.2.1.length:Int)+a.1) (a.2.1.length*g.1.length):=by
  have:=Ei (Tm H hx) (vY H) hE (a.2.1.length*g.1.length - K)
  rw[show K+(a.2.1.length*g.1.length - K)=a.2.1.length*g.1.length from by omega] at this
  exact this.symm
 have hl:=Pi H hx
 rw[hk]
 show ((chk _).bind fun _=>_).bind _=_
 have hv:=Tm H hx
 rw[iw (by rw[show (bsS _ _ _ _).1.length=_ from hl];omega)];rfl
theorem YF {o1 o2:List Int} {i:Nat} {z:Int} {l:List Vu} (hz:(bsS (nxN g a) (a.2.1.length*g.1.length) (x*(a.2.1.length:Int)+a.1) i).2[i]? =some z)
  (hl:l.map (fun p=>p.2.1*(a.2.1.length:Int)+p.2.2)=nxN g a z) (hp: ∀p∈l,(0≤p.2.1∧p.2.1<60)∧0≤p.2.2∧p.2.2<60) :
  ah (gE a (o1,o2,(i:Int)) l) aC ((bsS (nxN g a) (a.2.1.length*g.1.length) (x*(a.2.1.length:Int)+a.1) i).1,(bsS (nxN g a) (a.2.1.length*g.1.length) (x*(a.2.1.length:Int)+a.1) i).2,0)=some (.brk ((bsS (nxN g a) (a.2.1.length*g.1.length) (x*(a.2.1.length:Int)+a.1) (i+1)).1,(bsS (nxN g a) (a.2.1.length*g.1.length) (x*(a.2.1.length:Int)+a.1) (i+1)).2,(l.length:Int))):=by
 have hN:=nN H.1 H.2.2 H.2.1
 have hv:=Tm H hx
 have hnn:=H.2.1
 generalize hV:x*(a.2.1.length:Int)+a.1=v at hz hv⊢
 have hlen:l.length≤720:=by have:=IM H z;rw[←hl,List.length_map] at this;exact this
 have e:bsS (nxN g a) (a.2.1.length*g.1.length) v (i+1)=CH (nth (bsS (nxN g a) (a.2.1.length*g.1.length) v i).1 z+1) (bsS (nxN g a) (a.2.1.length*g.1.length) v i) (nxN g a z):=by rw[bsS,hz]
 have:=aB (f:=gE a (o1,o2,(i:Int)) l) (fun j=>((CH (nth (bsS (nxN g a) (a.2.1.length*g.1.length) v i).1 z+1) (bsS (nxN g a) (a.2.1.length*g.1.length) v i) ((nxN g a z).take j)).1,(CH (nth (bsS (nxN g a) (a.2.1.length*g.1.length) v i).1 z+1) (bsS (nxN g a) (a.2.1.length*g.1.length) v i) ((nxN g a z).take j)).2,(j:Int))) l.length (fun j hj=>by
  obtain ⟨k1,k2,k3,⟨x0,x1⟩,k4,k5⟩:=VB hN hv (vY H) (fun x=>by have:=IM H x;omega) hz j
  have hjn:j<(nxN g a z).length:=by rw[←hl,List.length_map];exact hj
  have hy:=vY H z x0 x1 _ (bc (xs:=nxN g a z) (i:=(j:Int)) (by omega) (by omega))
  have hq:=hp _ (bc (xs:=l) (i:=(j:Int)) (by omega) (by omega))
  have hyl:nth (nxN g a z) (j:Int)=(nth l (j:Int)).2.1*(a.2.1.length:Int)+(nth l (j:Int)).2.2:=by rw[←hl,U8 (by omega) (by omega)]
  unfold gE
  simp only
  rw[uA hjn,GC]
  generalize CH (nth (bsS (nxN g a) (a.2.1.length*g.1.length) v i).1 z+1) (bsS (nxN g a) (a.2.1.length*g.1.length) v i) ((nxN g a z).take j)=s at k1 k2 k3 k5
  have hle:=k1.le
  have hsl:=k1.len
  rw[if_pos (by simp;omega),aj (by omega) (by omega)];simp only[Option.bind_some]
  rw[cB (n:=(nth l (j:Int)).2.1*(a.2.1.length:Int)) (by omega) (by omega),←hyl,cB (by omega) (by omega)]
  rw[aj (xs:=s.1) hy.1 (by omega)];simp only[Option.bind_some]
  rw[show ax s.2 (i:Int)=some z from by unfold ax;rw[if_pos (by omega)];exact k2];simp only[Option.bind_some]
  rw[aj (xs:=s.1) x0 (by omega)];simp only[Option.bind_some]
  rw[aw (by simp;omega),aa (by omega),k3,cB (by omega) (by omega)]
  unfold Tl
  by_cases c:nth s.1 (nth (nxN g a z) (j:Int))<0
  ·rw[if_pos (by simpa using c),if_pos c];rfl
  ·rw[if_neg (by simpa using c),if_neg c];rfl) (by unfold gE;simp) (lU (by omega))
 have et:(nxN g a z).take l.length=nxN g a z:=by
  have:l.length=(nxN g a z).length:=by rw[←hl,List.length_map]
  rw[this,List.take_length]
 rw[et] at this
 rw[e]
 exact this
theorem VG:l7 g a x=some (RKs g a (x*(a.2.1.length:Int)+a.1)):=by
 have hN:=nN H.1 H.2.2 H.2.1
 have hv:=Tm H hx
 have hpos:=H.2.2.pos
 unfold l7
 have ew:IntKind.i64.wrap ((g.1.length:Int)*(a.2.1.length:Int))=((a.2.1.length*g.1.length:Nat):Int):=by
  rw[show ((g.1.length:Int)*(a.2.1.length:Int))=((a.2.1.length*g.1.length:Nat):Int) from by rw[Nat.mul_comm];simp,vK (by omega)]
 have e0:ah (gD g a) aC (([] :List Int),0)=some (.brk (List.replicate (a.2.1.length*g.1.length) (-1),((a.2.1.length*g.1.length:Nat):Int))):=by
  have:=aB (f:=gD g a) (fun i=>(List.replicate i (-1),(i:Int))) (a.2.1.length*g.1.length) (fun i hi=>by
   unfold gD
   simp only
   rw[ew,if_pos (by simp only[decide_eq_true_eq];omega),aw (by simp;omega),aa (by omega)];simp only[Option.bind_some]
   rw[List.replicate_succ']) (by unfold gD;simp only;rw[ew,if_neg (by simp)]) (lU (by omega))
  exact this
 rw[af e0,Tn H hx]
 simp only
 generalize hV:x*(a.2.1.length:Int)+a.1=v at hv
 rw[show ax [v] 0=some v from rfl];simp only[Option.bind_some]
 rw[aj (xs:=List.replicate _ (-1:Int)) hv.1 (by simpa using hv.2)];simp only[Option.bind_some]
 obtain ⟨K,hK,hE,hR⟩:=Pf hv (vY H)
 have:=aB (f:=gF g a) (fun i=>((bsS (nxN g a) (a.2.1.length*g.1.length) v i).1,(bsS (nxN g a) (a.2.1.length*g.1.length) v i).2,(i:Int))) K (fun i hi=>by
  have hi2:=hR i hi
  obtain ⟨z,hz⟩: ∃z,(bsS (nxN g a) (a.2.1.length*g.1.length) v i).2[i]? =some z:=⟨_,List.getElem?_eq_getElem hi2⟩
  obtain ⟨z0,z1⟩:=(AZ hv (vY H) i).rng z (List.mem_of_getElem? hz)
  obtain ⟨l,es,hl,hp⟩:=Sa H z0 z1
  have es:jA (g.1,g.2) (a.1,a.2.1,a.2.2) (GR z (a.2.1.length:Int)) (Int.tmod z (a.2.1.length:Int))=_:=es
  unfold gF
  simp only
  rw[if_pos (by simp only[decide_eq_true_eq];omega)]
  rw[show ax (bsS (nxN g a) (a.2.1.length*g.1.length) v i).2 (i:Int)=some z from by unfold ax;rw[if_pos (by omega)];exact hz];simp only[Option.bind_some]
  rw[iw (by omega),es];simp only[Option.bind_some]
  have h2:=YF H hx (o1:=(bsS (nxN g a) (a.2.1.length*g.1.length) v i).1) (o2:=(bsS (nxN g a) (a.2.1.length*g.1.length) v i).2) (by rw[hV];exact hz) hl hp
  rw[hV] at h2
  rw[af h2,aa (by omega)]) (by unfold gF;simp only;rw[if_neg (by simp;omega)]) (lU (by omega))
 have this:ah (gF g a) aC ((List.replicate (a.2.1.length*g.1.length) (-1)).set v.toNat 0,[v],0)=_:=this
 rw[af this]
 simp only
 have:=Ei hv (vY H) hE (a.2.1.length*g.1.length - K)
 rw[show K+(a.2.1.length*g.1.length - K)=a.2.1.length*g.1.length from by omega] at this
 unfold RKs
 rw[this]
end
end D
namespace D
open Go.RowKit
theorem tc {c:Prop} [Decidable c] (h:c):chk c=some ():=if_pos h
theorem w8 {α:Type} {xs:List α} {i n:Nat} {z:α} (h:i≤xs.length):(oZ xs i n z).take i=xs.take i:=by
 unfold oZ
 rw[List.take_append_of_le_length (by rw[List.length_take];omega),List.take_take,Nat.min_self]
theorem A1 {α:Type} {xs:List α} {i:Nat} {z:α} (h:i≤xs.length):(oZ xs i xs.length z).length=xs.length:=xj h (Nat.le_refl _)
theorem Ej {α:Type} {ys:List α} {i:Nat} {x:α} (h:i<ys.length):(ys.set i x).take (i+1)=ys.take i++ [x]:=by
 rw[List.take_succ_eq_append_getElem (by simpa using h)]
 simp[List.take_set_of_le]
theorem set_drop {α:Type} {ys:List α} {i j:Nat} {x:α} (h:i<j):(ys.set i x).drop j=ys.drop j:=by
 apply List.ext_getElem?
 intro q
 rw[List.getElem?_drop,List.getElem?_drop,List.getElem?_set_ne (by omega)]
theorem vZ {α:Type} {ys xs:List α} {j:Nat} (h:ys.drop j=xs.drop j):ys.drop (j+1)=xs.drop (j+1):=by
 rw[←List.drop_drop,h,List.drop_drop]
theorem v7 {α:Type} {ys xs:List α} {j q:Nat} (h:ys.drop j=xs.drop j) (hq:j≤q) (h1:q<ys.length) (h2:q<xs.length):ys[q] =xs[q]:=by
 have e:=congrArg (fun l=>l[q - j]?) h
 simp only[List.getElem?_drop,show j+(q - j)=q from by omega] at e
 rw[List.getElem?_eq_getElem h1,List.getElem?_eq_getElem h2] at e
 exact Option.some.inj e
section
variable {α:Type} [DecidableEq α]
def q7:List α→List α
 | [] =>[]
 | [a] =>[a]
 | a::b::l=>if a=b then q7 (b::l) else a::q7 (b::l)
theorem yF {x:α} : ∀ {l:List α},x∈q7 l↔x∈l
 | [] =>Iff.rfl
 | [a] =>Iff.rfl
 | a::b::l=>by
  rw[q7]
  split
  ·rename_i e;subst e;rw[yF];simp
  ·rw[List.mem_cons,yF,List.mem_cons (l:=b::l)]
theorem GD: ∀(l:List α) (b:α),l≠ [] →q7 (l++ [b])=if l.getLast? =some b then q7 l else q7 l++ [b]
 | [],b,h=>absurd rfl h
 | [a],b,_=>by
  by_cases e:a=b
  ·subst e;simp[q7]
  ·simp[q7,e]
 | a::c::l,b,_=>by
  have ih:=GD (c::l) b (by simp)
  have hg:(a::c::l).getLast? =(c::l).getLast? :=by simp[List.getLast?_cons_cons]
  rw[hg]
  show q7 (a::c::(l++ [b]))=_
  rw[q7,q7]
  rw[show c::(l++ [b])=(c::l)++ [b] from rfl,ih]
  by_cases e:a=c
  ·rw[if_pos e,if_pos e]
  ·rw[if_neg e,if_neg e]
   split <;> simp
theorem A2 {xs:List α} {j:Nat} (h0:0<j) (h:j<xs.length):q7 (xs.take (j+1))=if xs[j - 1] =xs[j] then q7 (xs.take j) else q7 (xs.take j)++ [xs[j]]:=by
 rw[List.take_succ_eq_append_getElem h,GD _ _ (by
  intro e
  have h9:=congrArg List.length e
  rw[List.length_take,Nat.min_eq_left (Nat.le_of_lt h),List.length_nil] at h9
  omega)]
 have hg:(xs.take j).getLast? =some xs[j - 1]:=by
  rw[List.getLast?_eq_getElem?,List.length_take,Nat.min_eq_left (Nat.le_of_lt h),List.getElem?_take,if_pos (show j - 1<j by omega),List.getElem?_eq_getElem (show j - 1<xs.length by omega)]
 rw[hg]
 by_cases e:xs[j - 1] =xs[j]
 ·rw[if_pos (by rw[e]),if_pos e]
 ·rw[if_neg (by simpa using e),if_neg e]
theorem GE {xs:List α} : ∀(j:Nat),j≤xs.length→(∀q (hq:q<j) (h0:0<q) (hx:j≤xs.length),xs[q - 1]'(by omega)≠xs[q]'(by omega))→q7 (xs.take j)=xs.take j
 | 0,_,_=>by simp[q7]
 | 1,h,_=>by
  cases xs with
  | nil=>simp[q7]
  | cons a l=>simp[q7]
 | j+2,h,hq=>by
  rw[A2 (by omega) (by omega),if_neg (hq (j+1) (by omega) (by omega) h),GE (j+1) (by omega) (fun q h1 h2 h3=>hq q (by omega) h2 h),←List.take_succ_eq_append_getElem]
end
theorem Ek: ∀ {l:List Int},l.Pairwise (fun a b=>a≤b)→(q7 l).Pairwise (fun a b=>a<b)
 | [],_=>List.Pairwise.nil
 | [a],_=>by simp[q7]
 | a::b::l,h=>by
  obtain ⟨h1,h2⟩:=List.pairwise_cons.1 h
  rw[q7]
  split
  ·exact Ek h2
  ·rename_i hn
   refine List.pairwise_cons.2 ⟨fun x hx=>?_,Ek h2⟩
   have hab:a<b:=by have:=h1 b (List.mem_cons_self ..);omega
   rcases List.mem_cons.1 (yF.1 hx) with rfl | hx
   ·exact hab
   ·have:=(List.pairwise_cons.1 h2).1 x hx
    omega
theorem GF: ∀ {l m:List Int},l.Pairwise (fun a b=>a<b)→m.Pairwise (fun a b=>a<b)→(∀x,x∈l↔x∈m)→l=m
 | [],[],_,_,_=>rfl
 | [],b::m,_,_,h=>absurd ((h b).2 (by simp)) (by simp)
 | a::l,[],_,_,h=>absurd ((h a).1 (by simp)) (by simp)
 | a::l,b::m,h1,h2,h=>by
  obtain ⟨k1,k2⟩:=List.pairwise_cons.1 h1
  obtain ⟨j1,j2⟩:=List.pairwise_cons.1 h2
  have hab:a=b:=by
   have ha:=(h a).1 (by simp)
   have hb:=(h b).2 (by simp)
   rcases List.mem_cons.1 ha with e | ha
   ·exact e
   ·rcases List.mem_cons.1 hb with e | hb
    ·exact e.symm
    ·have:=k1 b hb;have:=j1 a ha;omega
  subst hab
  rw[GF k2 j2 fun x=>?_]
  have:=h x
  rw[List.mem_cons,List.mem_cons] at this
  constructor
  ·intro hx
   rcases this.1 (.inr hx) with e | e
   ·subst e;have:=k1 x hx;omega
   ·exact e
  ·intro hx
   rcases this.2 (.inr hx) with e | e
   ·subst e;have:=j1 x hx;omega
   ·exact e
end D
namespace D
open Go.RowKit
theorem Zr {a b:Int} :(a==b)=decide (a=b):=by rw[Bool.eq_iff_iff];simp
theorem IN (xs:List Int) (hl:xs.length≤1073741824):cg xs=some (q7 xs):=by
 unfold cg
 by_cases h2:xs.length<2
 ·rw[if_pos (by simp;omega)]
  cases xs with
  | nil=>rfl
  | cons a l =>
   cases l with
   | nil=>rfl
   | cons b l=>simp only[List.length_cons] at h2;omega
 rw[if_neg (by simp;omega)]
 have key:(ah (bj xs) aC 1=some (.ret (q7 xs)))∨(∃s,ah (bj xs) aC 1=some (.brk s)∧q7 xs=xs):=by
  obtain ⟨o,e,hQ⟩:=cm (f:=bj xs) (fun t s=>s=((t+1:Nat):Int)∧q7 (xs.take (t+1))=xs.take (t+1)) (fun o=>o= .ret (q7 xs)∨ ∃s,o= .brk s∧q7 xs=xs) (xs.length - 1) (fun t s ht hI=>by
   obtain ⟨rfl,hI⟩:=hI
   unfold bj
   by_cases h1:t+1<xs.length
   ·have hp:((t+1:Nat):Int) - 1=((t:Nat):Int):=by omega
    rw[bw h1,if_pos rfl,ak h1,cB (n:=((t+1:Nat):Int) - 1) (by omega) (by omega),hp,ak (show t<xs.length by omega)]
    simp only[Option.bind_some,Zr]
    have hn:=A2 (xs:=xs) (j:=t+1) (by omega) h1
    rw[hI] at hn
    simp only[Nat.add_sub_cancel] at hn
    by_cases he:xs[t+1] =xs[t]
    ·rw[if_pos (decide_eq_true he),tc (by omega),Option.bind_some]
     rw[if_pos he.symm] at hn
     have hlt:(xs.take (t+1)).length=t+1:=by rw[List.length_take];omega
     obtain ⟨s,e1,ys,rfl,k1,k2,k3,k4⟩:=kB (f:=bK xs ((t+1:Nat):Int)) (fun u s=> ∃ys:List Int,s=(((q7 (xs.take (t+2+u))).length:Int),((u+1:Nat):Int),ys)∧ys.length=xs.length∧ys.take (q7 (xs.take (t+2+u))).length=q7 (xs.take (t+2+u))∧ys.drop (t+1+u)=xs.drop (t+1+u)∧(q7 (xs.take (t+2+u))).length≤t+1+u) (xs.length - (t+2)) (fun u s hu hI=>by
      obtain ⟨ys,rfl,k1,k2,k3,k4⟩:=hI
      have hj:t+2+u<xs.length:=by clear k4 k2;omega
      have hj1:t+1+u<xs.length:=by clear k4 k2;omega
      have hj2:t+2+u<ys.length:=by clear k4 k2;omega
      have hj3:t+1+u<ys.length:=by clear k4 k2;omega
      have a1:(0+((t+1:Nat):Int))+((u+1:Nat):Int)=((t+2+u:Nat):Int):=by omega
      have a2:((u+1:Nat):Int) - 1=((u:Nat):Int):=by omega
      have a3:(0+((t+1:Nat):Int))+((u:Nat):Int)=((t+1+u:Nat):Int):=by omega
      unfold bK
      dsimp only
      rw[if_pos (by simp;omega),tc (by omega)]
      simp only[Option.bind_some]
      rw[cB (n:=((u+1:Nat):Int) - 1) (by omega) (by omega),a1,a2,a3,ak (xs:=ys) hj2,ak (xs:=ys) hj3,tc (by omega),v7 k3 (by omega) hj2 hj,v7 k3 (Nat.le_refl _) hj3 hj1]
      simp only[Option.bind_some,Zr,dH]
      have e9:t+2+u - 1=t+1+u:=by clear k4 k2;omega
      have e8:0<t+2+u:=by clear k4 k2;omega
      have hnx:=A2 (xs:=xs) (j:=t+2+u) e8 hj
      simp only[e9] at hnx
      have hd:=vZ k3
      rw[show t+1+u+1=t+1+(u+1) from by omega] at hd
      rw[show t+2+(u+1)=t+2+u+1 from by omega,hnx]
      generalize q7 (xs.take (t+2+u))=K at *
      by_cases hq:xs[t+2+u] =xs[t+1+u]
      ·rw[if_neg (by simpa using hq),if_pos hq.symm]
       simp only[Option.bind_some]
       rw[aa (by omega)]
       exact ⟨_,rfl,ys,rfl,k1,k2,hd,by omega⟩
      ·rw[if_pos (by simpa using hq),if_neg (fun e=>hq e.symm),ak (xs:=ys) (show K.length<ys.length by omega)]
       simp only[Option.bind_some]
       rw[aa (by omega),aa (by omega)]
       refine ⟨_,rfl,ys.set K.length xs[t+2+u],?_,by simpa using k1,?_,?_,?_⟩
       ·rw[List.length_append,List.length_singleton];rfl
       ·rw[List.length_append,List.length_singleton,Ej (by omega),k2]
       ·rw[set_drop (by omega)];exact hd
       ·rw[List.length_append,List.length_singleton];omega) (fun s hI=>by
      obtain ⟨ys,rfl,k1,k2,k3,k4⟩:=hI
      unfold bK
      rw[if_neg (by simp;omega)]) (s:=(((t+1:Nat):Int),1,xs)) ⟨xs,by rw[Nat.add_zero,hn,hlt];rfl,rfl,by rw[Nat.add_zero,hn,hlt],rfl,by rw[Nat.add_zero,hn,hlt];omega⟩ (kN _ (by omega))
     refine .inr ⟨.ret (q7 xs),?_,fun s' hh=>(by simp at hh),.inl rfl⟩
     rw[af e1]
     have hall:xs.take (t+2+(xs.length - (t+2)))=xs:=List.take_of_length_le (by omega)
     rw[hall] at k2 k4⊢
     generalize q7 xs=K at *
     have q0:K.length≤ys.length:=by omega
     have z1:((0:Int)+((K.length:Nat):Int)).toNat=K.length:=by omega
     have z2:((0:Int)+(((ys.length:Nat):Int) - 0)).toNat=ys.length:=by omega
     simp only[z1,z2]
     have zl:=A1 (z:=(0:Int)) q0
     rw[tc (by omega),Option.bind_some,tc (by omega),Option.bind_some,tc (by rw[zl];omega),Option.bind_some,w8 q0,k2,List.drop_zero]
    ·rw[if_neg (by simpa using he),aa (by omega)]
     rw[if_neg (fun e=>he e.symm),←List.take_succ_eq_append_getElem h1] at hn
     exact .inl ⟨by omega,_,rfl,rfl,hn⟩
   ·refine .inr ⟨.brk ((t+1:Nat):Int),?_,fun s' hh=>(by simp at hh),.inr ⟨_,rfl,?_⟩⟩
    ·rw[if_neg (by simp;omega)]
    ·rw[List.take_of_length_le (by omega)] at hI;exact hI) (s:=1) ⟨rfl,GE 1 (by omega) (fun q h1 h0=>by omega)⟩ (kN _ (by omega))
  rcases hQ with rfl | ⟨s,rfl,h⟩
  ·exact .inl e
  ·exact .inr ⟨s,e,h⟩
 rcases key with e | ⟨s,e,h⟩
 ·rw[aW e]
 ·rw[af e,h]
theorem A3 (m:Nat): ∀k,(eB m k).Pairwise (fun a b=>a<b)
 | 0=>List.Pairwise.nil
 | k+1=>by
  rw[jK]
  split
  ·refine List.pairwise_append.2 ⟨A3 m k,List.pairwise_singleton _ _,fun a ha b hb=>?_⟩
   obtain ⟨i,hi,_,rfl⟩:=se.1 ha
   obtain rfl:b=(k:Int):=by simpa using hb
   omega
  ·exact A3 m k
theorem VH {X:List Int} {m:Nat} (h: ∀x∈X,∃i:Nat,i<30∧x=(i:Int)) (hm: ∀i:Nat,i<30→(m.testBit i=true↔(i:Int)∈X)):q7 (X.mergeSort fun x y=>decide (x≤y))=eB m 30:=by
 have hp:(X.mergeSort fun x y=>decide (x≤y)).Pairwise (fun a b=>a≤b):=by
  have:=List.pairwise_mergeSort (le:=fun (x y:Int)=>decide (x≤y)) (fun a b c h1 h2=>by
   have h1:=of_decide_eq_true h1;have h2:=of_decide_eq_true h2
   exact decide_eq_true (by omega)) (fun a b=>by
   rw[Bool.or_eq_true,decide_eq_true_eq,decide_eq_true_eq];omega) X
  exact this.imp fun h=>of_decide_eq_true h
 refine GF (Ek hp) (A3 m 30) fun x=>?_
 rw[yF,List.mem_mergeSort,se]
 constructor
 ·intro hx
  obtain ⟨i,hi,rfl⟩:=h x hx
  exact ⟨i,hi,(hm i hi).2 hx,rfl⟩
 ·rintro ⟨i,hi,hb,rfl⟩
  exact (hm i hi).1 hb
end D
namespace D
open Go.RowKit
def L8 (a:AutT) (s v:Int):Bool:=decide (∃q∈eB (cS a s v) 30,nth a.2.1 q=true)
section
variable {a:AutT} {n:Nat} (V:VA a n) (hn:n≤12)
include V hn
theorem IP {s v:Int} (hs:0≤s∧s<n) (hv:0≤v∧v≤2):kj a (we 1 s) v=some (L8 a s v):=by
 obtain ⟨t,rfl⟩: ∃t:Nat,s=(t:Int):=⟨s.toNat,by omega⟩
 obtain ⟨e1,h1⟩:=pN V hn hs hv
 have hC:cS a (t:Int) v<2 ^ 30:=Nat.lt_of_lt_of_le h1 (Nat.pow_le_pow_right (by decide) (by omega))
 unfold kj
 rw[w7 (by omega),sf (Nat.pow_lt_pow_right (by decide) (by omega)),Gx (by omega)];simp only[Option.bind_some]
 have hlen:=mn (cS a (t:Int) v) 30
 have h0:dQ a v [(t:Int)] 0=some (if L8 a (t:Int) v=true then .ret true else .nxt 1):=by
  unfold dQ
  rw[if_pos (by simp),show ax [(t:Int)] 0=some (t:Int) from rfl];simp only[Option.bind_some]
  have e1:eE (a.1,a.2.1,a.2.2) (t:Int) v=_:=e1
  rw[e1];simp only[Option.bind_some]
  rw[sf hC];simp only[Option.bind_some]
  rcases scan (f:=jb a (eB (cS a (t:Int) v) 30)) (eB (cS a (t:Int) v) 30) (fun q=> ¬nth a.2.1 q=true) true (by omega) (fun i hi=>by
   have hq:=vW V hn h1 _ (bc (xs:=eB (cS a (t:Int) v) 30) (i:=(i:Int)) (by omega) (by omega))
   unfold jb
   rw[if_pos (by simp;omega),aj (by omega) (by omega)];simp only[Option.bind_some]
   rw[V.acc hq.1 hq.2,aa (by omega)];simp only[Option.bind_some]
   cases nth a.2.1 (nth (eB (cS a (t:Int) v) 30) (i:Int)) <;> rfl) (by unfold jb;simp) with ⟨e,h⟩ | ⟨e,h⟩
  ·rw[af e,if_neg (by unfold L8;rw[decide_eq_true_eq];rintro ⟨q,hq,hqa⟩;exact h q hq hqa)];rfl
  ·rw[aW e,if_pos (by
    unfold L8;rw[decide_eq_true_eq]
    by_cases c: ∃q∈eB (cS a (t:Int) v) 30,nth a.2.1 q=true
    ·exact c
    ·exact absurd (fun q hq hqa=>c ⟨q,hq,hqa⟩) h)]
 have h1':dQ a v [(t:Int)] 1=some (.brk 1):=by
  unfold dQ;rw[if_neg (by simp)]
 rcases LR (f:=dQ a v [(t:Int)]) 1 (fun _=> ¬L8 a (t:Int) v=true) true (by decide) (fun i hi=>by
  obtain rfl:i=0:=by omega
  rw[show ((0:Nat):Int)=0 from rfl,h0]
  cases L8 a (t:Int) v <;> rfl) h1' with ⟨e,h⟩ | ⟨e,h⟩
 ·rw[af e]
  have:=h 0 (by decide)
  rw[Bool.not_eq_true] at this
  rw[this]
 ·rw[aW e]
  have:L8 a (t:Int) v=true:=by
   cases hb:L8 a (t:Int) v with
   | true=>rfl
   | false=>exact absurd (fun _ _=>by rw[hb];decide) h
  rw[this]
theorem GG {C:Nat} (hC:C<2 ^ n):ay (ah (e7 a (C:Int)) aC 0) (fun r=>some r) (fun _=>some false)=some (decide (∃q∈eB C 30,nth a.2.1 q=true)):=by
 have hC':C<2 ^ 62:=Nat.lt_of_lt_of_le hC (p62 (by omega))
 rcases LR (f:=e7 a (C:Int)) n (fun i=> ¬(C.testBit i=true∧nth a.2.1 (i:Int)=true)) true (by omega) (fun i hi=>by
  unfold e7
  rw[V.len,if_pos (by simp;omega),iw (by omega),AU hC' (by omega),V.acc (by omega) (by omega),aa (by omega)];simp only[Option.bind_some]
  cases C.testBit i <;> cases nth a.2.1 (i:Int) <;> rfl) (by unfold e7;rw[V.len];simp) with ⟨e,h⟩ | ⟨e,h⟩
 ·rw[af e,decide_eq_false]
  rintro ⟨q,hq,hqa⟩
  have hr:=vW V hn hC q hq
  obtain ⟨i,hi,hb,rfl⟩:=se.1 hq
  exact h i (by omega) ⟨hb,hqa⟩
 ·rw[aW e,decide_eq_true]
  by_cases c: ∃q∈eB C 30,nth a.2.1 q=true
  ·exact c
  ·exact absurd (fun (i:Nat) (hi:i<n) (hh:C.testBit i=true∧nth a.2.1 (i:Int)=true)=>c ⟨(i:Int),se.2 ⟨i,by omega,hh.1,rfl⟩,hh.2⟩) h
end
section
variable {g:GrT} {a:AutT} (H:GOOD g a)
include H
theorem Pj {x s:Nat} (hx:x<g.1.length) (hs:s<a.2.1.length):iJ g a (x:Int) (s:Int)=some (L8 a (s:Int) (nth g.1 (x:Int))):=by
 have hv:=H.1.val _ (bc (xs:=g.1) (i:=(x:Int)) (by omega) (by omega))
 have ec:=GB H.2.2 H.2.1 (s:=(s:Int)) ⟨by omega,by omega⟩ hv
 have hC:=(pN H.2.2 H.2.1 (s:=(s:Int)) ⟨by omega,by omega⟩ hv).2
 unfold iJ
 rw[aj (by omega) (by omega)];simp only[Option.bind_some]
 have ec:eD (a.1,a.2.1,a.2.2) (s:Int) (nth g.1 (x:Int))=_:=ec
 rw[ec];simp only[Option.bind_some]
 have:=GG H.2.2 H.2.1 hC
 exact this
end
theorem YG {m:Nat} (hm:m<2 ^ 30):vc (m:Int)=some (eB m 30):=by
 have hm':m<2 ^ 62:=Nat.lt_of_lt_of_le hm (Nat.pow_le_pow_right (by decide) (by decide))
 unfold vc
 have:=aB (f:=l8 (m:Int)) (fun i=>(eB m i,(i:Int))) 30 (fun i hi=>by
  have hl:=mn m i
  unfold l8
  simp only
  rw[if_pos (by simp;omega),iw (by omega),AU hm' (by omega),aa (by omega),jK];simp only[Option.bind_some]
  by_cases b:m.testBit i=true
  ·rw[if_pos b,if_pos b,aw (by simp;omega)];rfl
  ·rw[if_neg b,if_neg b];rfl) (by unfold l8;simp) (by unfold aC;omega)
 have this:ah (l8 (m:Int)) aC (([] :List Int),0)=_:=this
 rw[af this]
theorem IQ (xs:List Int) (h:xs.length≤1000000):kl xs=some (q7 (xs.mergeSort fun x y=>decide (x≤y))):=by
 unfold kl gK eF R.Rq
 rw[aw (by simp;omega)];simp only[Option.bind_some,List.nil_append]
 rw[iw (by omega)];simp only[Option.bind_some]
 rw[IN _ (by rw[List.length_mergeSort];omega)];rfl
def XX (g:GrT) (a:AutT) (R:List Int) (i:Nat):Bool:=decide (0≤nth R (i:Int))&&L8 a ((i % a.2.1.length:Nat):Int) (nth g.1 ((i / a.2.1.length:Nat):Int))
def LU (g:GrT) (a:AutT) (R:List Int):Nat→List Int
 | 0=>[]
 | i+1=>if XX g a R i=true then LU g a R i++ [((i / a.2.1.length:Nat):Int)] else LU g a R i
def L9 (g:GrT) (a:AutT) (R:List Int):Nat→Nat
 | 0=>0
 | i+1=>if XX g a R i=true then L9 g a R i ||| 2 ^ (i / a.2.1.length) else L9 g a R i
theorem El (g:GrT) (a:AutT) (R:List Int): ∀i,(LU g a R i).length≤i
 | 0=>by simp[LU]
 | i+1=>by
  have:=El g a R i
  rw[LU];split
  ·rw[List.length_append];simp;omega
  ·omega
theorem Pm {x:Nat} {n:Nat} (hx:x≤1000000):GR (x:Int) (n:Int)=((x / n:Nat):Int)∧Int.tmod (x:Int) (n:Int)=((x % n:Nat):Int):=by
 refine ⟨?_,?_⟩
 ·unfold GR
  rw[Int.tdiv_eq_ediv_of_nonneg (Int.natCast_nonneg _),←Int.natCast_ediv,vK (by have:=Nat.div_le_self x n;omega)]
 ·rw[Int.tmod_eq_emod_of_nonneg (Int.natCast_nonneg _),Int.natCast_emod]
section
variable {g:GrT} {a:AutT} (H:GOOD g a) {R:List Int} (hR:R.length=a.2.1.length*g.1.length)
include H
theorem Kg {i:Nat} (hi:i<a.2.1.length*g.1.length):i / a.2.1.length<g.1.length∧i % a.2.1.length<a.2.1.length∧0<a.2.1.length∧g.1.length≤5:=by
 obtain ⟨k1,k2⟩:=H.divmod (x:=(i:Int)) (by omega) (by omega)
 exact ⟨k1,k2,H.2.2.pos,H.1.n5⟩
theorem IR: ∀i,i≤a.2.1.length*g.1.length→L9 g a R i<2 ^ 5
 | 0,_=>by simp[L9]
 | i+1,hi=>by
  have h:=IR i (by omega)
  obtain ⟨k1,k2,k3,k4⟩:=Kg H (i:=i) (by omega)
  rw[L9];split
  ·exact vV h (by omega)
  ·exact h
theorem Pn: ∀i,i≤a.2.1.length*g.1.length→ ∀j:Nat,((L9 g a R i).testBit j=true↔(j:Int)∈LU g a R i)
 | 0,_,j=>by simp[L9,LU]
 | i+1,hi,j=>by
  have h:=Pn i (by omega) j
  rw[L9,LU];split
  ·rw[tI,Bool.or_eq_true,h,List.mem_append,List.mem_singleton,decide_eq_true_eq]
   constructor
   ·rintro (h | h)
    ·exact .inl h
    ·exact .inr (by rw[h])
   ·rintro (h | h)
    ·exact .inl h
    ·exact .inr (Int.ofNat_inj.1 h).symm
  ·exact h
theorem IS: ∀i,i≤a.2.1.length*g.1.length→ ∀x∈LU g a R i,∃j:Nat,j<30∧x=(j:Int)
 | 0,_,x,hx=>by cases hx
 | i+1,hi,x,hx=>by
  obtain ⟨k1,k2,k3,k4⟩:=Kg H (i:=i) (by omega)
  rw[LU] at hx;split at hx
  ·rcases List.mem_append.1 hx with hx | hx
   ·exact IS i (by omega) x hx
   ·exact ⟨_,by omega,List.mem_singleton.1 hx⟩
  ·exact IS i (by omega) x hx
include hR
theorem Xu:ah (iK g a R) aC (0,0)=some (.brk ((L9 g a R (a.2.1.length*g.1.length):Int),((a.2.1.length*g.1.length:Nat):Int))):=by
 have hN:=nN H.1 H.2.2 H.2.1
 have:=aB (f:=iK g a R) (fun i=>((L9 g a R i:Int),(i:Int))) (a.2.1.length*g.1.length) (fun i hi=>by
  obtain ⟨k1,k2,k3,k4⟩:=Kg H hi
  obtain ⟨q1,q2⟩:=Pm (x:=i) (n:=a.2.1.length) (by omega)
  have hs:=IR H (R:=R) i (by omega)
  unfold iK
  simp only
  rw[if_pos (by simp only[decide_eq_true_eq];omega),aj (by omega) (by omega),iw (by omega),q1,q2,aa (by omega)];simp only[Option.bind_some]
  have ea:iJ (g.1,g.2) (a.1,a.2.1,a.2.2) ((i / a.2.1.length:Nat):Int) ((i % a.2.1.length:Nat):Int)=_:=Pj H k1 k2
  rw[ea,L9];simp only[Option.bind_some]
  unfold XX
  by_cases c:0≤nth R (i:Int)
  ·rw[if_pos (by simpa using c),decide_eq_true c,Bool.true_and]
   cases L8 a ((i % a.2.1.length:Nat):Int) (nth g.1 ((i / a.2.1.length:Nat):Int)) with
   | false=>rfl
   | true =>
    simp only[if_true]
    rw[iw (Int.natCast_nonneg _),w7 (by omega),Ke (Nat.lt_of_lt_of_le hs (Nat.pow_le_pow_right (by decide) (by decide))) (Nat.pow_lt_pow_right (by decide) (by omega))];rfl
  ·rw[if_neg (by simpa using c),decide_eq_false c,Bool.false_and];rfl) (by unfold iK;simp only;rw[if_neg (by simp;omega)]) (lU (by omega))
 exact this
theorem Xv:ah (ed g a R) aC (([] :List Int),0)=some (.brk (LU g a R (a.2.1.length*g.1.length),((a.2.1.length*g.1.length:Nat):Int))):=by
 have hN:=nN H.1 H.2.2 H.2.1
 have:=aB (f:=ed g a R) (fun i=>(LU g a R i,(i:Int))) (a.2.1.length*g.1.length) (fun i hi=>by
  obtain ⟨k1,k2,k3,k4⟩:=Kg H hi
  obtain ⟨q1,q2⟩:=Pm (x:=i) (n:=a.2.1.length) (by omega)
  have hl:=El g a R i
  have hv:=H.1.val _ (bc (xs:=g.1) (i:=((i / a.2.1.length:Nat):Int)) (Int.natCast_nonneg _) (Int.ofNat_lt.2 k1))
  unfold ed
  simp only
  rw[if_pos (by simp only[decide_eq_true_eq];omega),aj (by omega) (by omega),iw (by omega),q1,q2,aa (by omega),iw (Int.natCast_nonneg _)];simp only[Option.bind_some]
  have ea:kj (a.1,a.2.1,a.2.2) (we 1 ((i % a.2.1.length:Nat):Int)) (nth g.1 ((i / a.2.1.length:Nat):Int))=_:=IP H.2.2 H.2.1 ⟨Int.natCast_nonneg _,Int.ofNat_lt.2 k2⟩ hv
  rw[aj (xs:=g.1) (i:=((i / a.2.1.length:Nat):Int)) (Int.natCast_nonneg _) (Int.ofNat_lt.2 k1)];simp only[Option.bind_some]
  rw[ea,LU];simp only[Option.bind_some]
  unfold XX
  by_cases c:0≤nth R (i:Int)
  ·rw[if_pos (by simpa using c),decide_eq_true c,Bool.true_and]
   cases L8 a ((i % a.2.1.length:Nat):Int) (nth g.1 ((i / a.2.1.length:Nat):Int)) with
   | false=>rfl
   | true =>
    simp only[if_true]
    rw[aw (by simp;omega)];rfl
  ·rw[if_neg (by simpa using c),decide_eq_false c,Bool.false_and];rfl) (by unfold ed;simp only;rw[if_neg (by simp;omega)]) (lU (by omega))
 exact this
end
def VI (g:GrT) (a:AutT) (x:Int):List Int:=eB (L9 g a (RKs g a (x*(a.2.1.length:Int)+a.1)) (a.2.1.length*g.1.length)) 30
theorem Em (g:GrT) (a:AutT) (x:Int):(VI g a x).length≤30:=mn _ _
section
variable {g:GrT} {a:AutT} (H:GOOD g a) {x:Int} (hx:0≤x∧x<g.1.length)
include H hx
theorem Sb:nD g a x=some (VI g a x):=by
 unfold nD
 have e:l7 (g.1,g.2) (a.1,a.2.1,a.2.2) x=_:=VG H hx
 have hR:=Pi H hx
 rw[e];simp only[Option.bind_some]
 rw[af (Xu H hR),YG (Nat.lt_of_lt_of_le (IR H _ (Nat.le_refl _)) (Nat.pow_le_pow_right (by decide) (by decide)))];rfl
theorem Xw (e:cy g a [x] =some true):gN g a x=some (VI g a x):=by
 have hN:=nN H.1 H.2.2 H.2.1
 have hp:=H.2.2.pos
 have h1:=H.1.n1
 have hpp:0<a.2.1.length*g.1.length:=Nat.mul_pos hp (by omega)
 unfold gN
 have e:fc (g.1,g.2) (a.1,a.2.1,a.2.2) x=_:=Xt H hx e
 have hR:=Pi H hx
 rw[e];simp only[Option.bind_some]
 have hl:=El g a (RKs g a (x*(a.2.1.length:Int)+a.1)) (a.2.1.length*g.1.length)
 rw[if_neg (by simp only[decide_eq_true_eq];omega),af (Xv H hR),IQ _ (by simp only;omega)];simp only[Option.bind_some]
 unfold VI
 rw[VH (IS H _ (Nat.le_refl _)) fun i _=>Pn H _ (Nat.le_refl _) i]
end
theorem Sc (g:GrT) (a:AutT) (hg:Data.sm g) (ha:Data.sm a): ∃b,jn g a 0 0=some b∧cy g a [] =some b∧(b=true→GOOD g a∧ ∀x:Int,0≤x→x<g.1.length→cy g a [x] =some true):=by
 obtain ⟨b,c,e1,e2,e3,e4,k1,k2⟩:=Pg g a hg ha
 obtain ⟨b',es,ei,k⟩:=Ph g a hg ha 0
 have e2':aQ (g.1,g.2)=_:=e2
 have e4':bQ (a.1,a.2.1,a.2.2)=_:=e4
 have hl:=(au hg.1).1
 have ew:IntKind.i64.wrap ((g.1.length:Int) - 1)=(g.1.length:Int) - 1:=cB (by omega) (by omega)
 have en:cy g a [] =some (b&&c):=by
  unfold cy
  have:ah (cQ g []) aC 0=some (.brk 0):=by
   have:=aB (f:=cQ g []) (fun _=>(0:Int)) 0 (fun i hi=>absurd hi (Nat.not_lt_zero _)) (by unfold cQ;simp) (by unfold aC;omega)
   exact this
  rw[af this,e2',e4']
  cases b <;> cases c <;> rfl
 have e0: ∀x:Int,cy g a [x] =if 0≤x∧x≤(g.1.length:Int) - 1 then some (b&&c) else some false:=fun x=>by
  unfold cy
  rcases LR (f:=cQ g [x]) 1 (fun _=>0≤x∧x≤(g.1.length:Int) - 1) false (by decide) (fun i hi=>by
   obtain rfl:i=0:=by omega
   unfold cQ
   rw[if_pos (by simp),show ax [x] ((0:Nat):Int)=some x from rfl];simp only[Option.bind_some]
   rw[Iw,ew];simp only[Option.bind_some,decide_eq_true_eq]
   split <;> rfl) (by unfold cQ;simp) with ⟨k,h⟩ | ⟨k,h⟩
  ·rw[af k,e2',e4',if_pos (h 0 (by decide))]
   cases b <;> cases c <;> rfl
  ·rw[aW k,if_neg (fun c=>h fun _ _=>c)]
 have hbb:b'=(b&&c):=by
  have h:=e0 0
  rw[ei] at h
  by_cases c0:(0:Int)≤0∧(0:Int)≤(g.1.length:Int) - 1
  ·rw[if_pos c0] at h;exact Option.some.inj h
  ·rw[if_neg c0] at h
   have:b'=false:=Option.some.inj h
   rw[this]
   cases b with
   | false=>rfl
   | true=>have:=(k1 rfl).n1;omega
 refine ⟨b',es,by rw[en,hbb],fun hb=>⟨(k hb).1,fun x h0 h1=>?_⟩⟩
 rw[e0,if_pos ⟨h0,by omega⟩,←hbb,hb]
def VJ (g:GrT) (a:AutT):Nat→List (Int×Int)
 | 0=>[]
 | x+1=>VJ g a x++(VI g a (x:Int)).map fun y=>((x:Int),y)
theorem yG (g:GrT) (a:AutT): ∀x,(VJ g a x).length≤30*x
 | 0=>by simp[VJ]
 | x+1=>by
  have h1:=yG g a x
  have h2:=Em g a (x:Int)
  rw[VJ,List.length_append,List.length_map];omega
theorem Kh {f:(List (Int×Int))×Int→Option (Out (List (Int×Int)) ((List (Int×Int))×Int))} {l:List Int} {x:Int} {o:List (Int×Int)} (hl:l.length≤30) (ho:o.length≤1000)
  (hf: ∀(o:List (Int×Int)) (j:Nat),j<l.length→o.length≤2000→f (o,(j:Int))=some (.nxt (o++ [(x,nth l (j:Int))],((j+1:Nat):Int)))) (he: ∀o,f (o,(l.length:Int))=some (.brk (o,(l.length:Int)))) :
  ah f aC (o,0)=some (.brk (o++l.map fun y=>(x,y),(l.length:Int))):=by
 have:=aB (f:=f) (fun j=>(o++(l.take j).map fun y=>(x,y),(j:Int))) l.length (fun j hj=>by
  rw[hf _ j hj (by rw[List.length_append,List.length_map,List.length_take];omega),uA hj,List.map_append,List.append_assoc];rfl) (he _) (lU (by omega))
 rw[List.take_length] at this
 simpa using this
theorem Sd (g:GrT) (a:AutT) (hg:Data.sm g) (ha:Data.sm a): ∃l,iL g a=some l∧iN g a=some l∧l.length≤150:=by
 obtain ⟨b,es,ei,hb⟩:=Sc g a hg ha
 have es:jn (g.1,g.2) (a.1,a.2.1,a.2.2) 0 0=_:=es
 have ei:cy (g.1,g.2) (a.1,a.2.1,a.2.2) [] =_:=ei
 have hl:=(au hg.1).1
 unfold iL iN
 rw[ei];simp only[Option.bind_some]
 cases b with
 | false =>
  refine ⟨[],?_,rfl,by decide⟩
  have:=aB (f:=cH g a) (fun _=>(([] :List (Int×Int)),(0:Int))) 0 (fun i hi=>absurd hi (Nat.not_lt_zero _)) (by
   unfold cH
   rw[es];simp only[Option.bind_some,Bool.false_eq_true,if_false]
   split <;> rfl) (by unfold aC;omega)
  rw[af this]
 | true =>
  obtain ⟨H,hok⟩:=hb rfl
  have h5:=H.1.n5
  refine ⟨VJ g a g.1.length,?_,?_,by have:=yG g a g.1.length;omega⟩
  ·have:=aB (f:=cH g a) (fun x=>(VJ g a x,(x:Int))) g.1.length (fun x hx=>by
    have h1:=yG g a x
    have h2:=Em g a (x:Int)
    unfold cH
    simp only
    have ef:nD (g.1,g.2) (a.1,a.2.1,a.2.2) (x:Int)=_:=Sb H (x:=(x:Int)) ⟨by omega,by omega⟩
    rw[if_pos (by simp only[decide_eq_true_eq];omega),es,ef];simp only[Option.bind_some,if_true]
    rw[af (Kh (x:=(x:Int)) (l:=VI g a (x:Int)) h2 (by omega) (fun o j hj ho=>by
     unfold kY
     simp only
     rw[if_pos (by simp;omega),aj (by omega) (by omega)];simp only[Option.bind_some]
     rw[aw (by simp;omega),aa (by omega)];rfl) (fun o=>by unfold kY;simp)),aa (by omega)]
    rfl) (by unfold cH;simp) (lU (by omega))
   have this:ah (cH g a) aC (([] :List (Int×Int)),0)=_:=this
   rw[af this]
  ·simp only[if_true]
   have:=aB (f:=fe g a) (fun x=>(VJ g a x,(x:Int))) g.1.length (fun x hx=>by
    have h1:=yG g a x
    have h2:=Em g a (x:Int)
    unfold fe
    simp only
    have ef:gN (g.1,g.2) (a.1,a.2.1,a.2.2) (x:Int)=_:=Xw H (x:=(x:Int)) ⟨by omega,by omega⟩ (hok _ (by omega) (by omega))
    rw[if_pos (by simp only[decide_eq_true_eq];omega),ef];simp only[Option.bind_some]
    rw[af (Kh (x:=(x:Int)) (l:=VI g a (x:Int)) h2 (by omega) (fun o j hj ho=>by
     unfold kZ
     simp only
     rw[if_pos (by simp;omega),aj (by omega) (by omega)];simp only[Option.bind_some]
     rw[aw (by simp;omega),aa (by omega)];rfl) (fun o=>by unfold kZ;simp)),aa (by omega)]
    rfl) (by unfold fe;simp) (lU (by omega))
   have this:ah (fe g a) aC (([] :List (Int×Int)),0)=_:=this
   rw[af this]
end D
set_option synthInstance.maxSize 20000
set_option synthInstance.maxHeartbeats 2000000
namespace D
open Go.RowKit
theorem Ki {l:List (Int×Int)} (h:l.length≤1048576):Data.sm l:=⟨h,fun _ _=>⟨trivial,trivial⟩⟩
theorem GH {r:Eb} (hr:Data.sm r) {g:GrT} (hg:Data.sm g) (id:Int): ∃(l:List (Int×Int)) (b:Bool),cz r g id=some (l,b)∧fP r g id=some (l,b)∧l.length≤150:=by
 obtain ⟨⟨a,q⟩,es,ei,sa⟩:=LQ hr id
 obtain ⟨b,e1,k1⟩:=Ee g (au hg.1).1 (au hg.2).1
 have es:dX (r.1,r.2) id=_:=es
 have ei:eb (r.1,r.2) id=_:=ei
 have e2:bH (g.1,g.2)=some b:=by rw[A0];exact e1
 have e1:aQ (g.1,g.2)=_:=e1
 obtain ⟨l,f1,f2,hl⟩:=Sd g a hg sa
 have f1:iL (g.1,g.2) (a.1,a.2.1,a.2.2)=_:=f1
 have f2:iN (g.1,g.2) (a.1,a.2.1,a.2.2)=_:=f2
 unfold cz fP
 rw[es,ei,e1,e2];simp only[Option.bind_some]
 rw[f1,f2]
 cases q with
 | false=>exact ⟨[],false,rfl,rfl,by decide⟩
 | true =>
  cases b with
  | false=>exact ⟨[],false,rfl,rfl,by decide⟩
  | true=>exact ⟨l,true,rfl,rfl,hl⟩
end D
namespace D
abbrev Pr:=Int×Int
def ltP (a b:Pr):Prop:=a.1<b.1∨a.1=b.1∧a.2<b.2
instance (a b:Pr):Decidable (ltP a b):=inferInstanceAs (Decidable (_∨_))
theorem Po (a:Pr): ¬ltP a a:=by unfold ltP;omega
theorem GI {a b c:Pr} (h:ltP a b) (k:ltP b c):ltP a c:=by unfold ltP at *;omega
theorem Pp {a b:Pr} (h:ltP a b): ¬ltP b a:=by unfold ltP at *;omega
theorem IU (a b:Pr):ltP a b∨a=b∨ltP b a:=by
 unfold ltP
 by_cases h:a=b
 ·exact .inr (.inl h)
 ·have: ¬(a.1=b.1∧a.2=b.2):=fun e=>h (Prod.ext e.1 e.2)
  omega
abbrev Str (l:List Pr):Prop:=l.Pairwise ltP
theorem En: ∀ {l m:List Pr},Str l→Str m→(∀x,x∈l↔x∈m)→l=m
 | [],[],_,_,_=>rfl
 | [],b::m,_,_,h=>absurd ((h b).2 (List.mem_cons_self ..)) (by simp)
 | a::l,[],_,_,h=>absurd ((h a).1 (List.mem_cons_self ..)) (by simp)
 | a::l,b::m,hl,hm,h=>by
  obtain ⟨l1,l2⟩:=List.pairwise_cons.1 hl
  obtain ⟨m1,m2⟩:=List.pairwise_cons.1 hm
  have hab:a=b:=by
   rcases List.mem_cons.1 ((h a).1 (List.mem_cons_self ..)) with e | e
   ·exact e
   ·rcases List.mem_cons.1 ((h b).2 (List.mem_cons_self ..)) with f | f
    ·exact f.symm
    ·exact absurd (m1 a e) (Pp (l1 b f))
  subst hab
  rw[En l2 m2 fun x=>?_]
  constructor
  ·intro hx
   rcases List.mem_cons.1 ((h x).1 (List.mem_cons_of_mem _ hx)) with e | e
   ·subst e;exact absurd (l1 x hx) (Po x)
   ·exact e
  ·intro hx
   rcases List.mem_cons.1 ((h x).2 (List.mem_cons_of_mem _ hx)) with e | e
   ·subst e;exact absurd (m1 x hx) (Po x)
   ·exact e
def ahd (p:Pr):List Pr→Nat
 | [] =>0
 | a::l=>if ltP a p then ahd p l+1 else 0
theorem Pq (p:Pr): ∀l:List Pr,ahd p l≤l.length
 | [] =>Nat.le_refl _
 | a::l=>by
  unfold ahd
  split
  ·have:=Pq p l;rw[List.length_cons];omega
  ·exact Nat.zero_le _
theorem To (p:Pr): ∀(l:List Pr) (i:Nat),i<ahd p l→ ∃x,l[i]? =some x∧ltP x p
 | [],i,h=>by simp[ahd] at h
 | a::l,i,h=>by
  unfold ahd at h
  split at h
  ·rename_i ha
   cases i with
   | zero=>exact ⟨a,rfl,ha⟩
   | succ i =>
    obtain ⟨x,h1,h2⟩:=To p l i (by omega)
    exact ⟨x,by simpa using h1,h2⟩
  ·omega
theorem Tp (p:Pr): ∀(l:List Pr) x,l[ahd p l]? =some x→ ¬ltP x p
 | [],x,h=>by simp at h
 | a::l,x,h=>by
  unfold ahd at h
  split at h
  ·exact Tp p l x (by simpa using h)
  ·rename_i ha
   simp at h
   subst h;exact ha
def put (l:List Pr) (p:Pr):List Pr:=if l[ahd p l]? =some p then l else l.take (ahd p l)++p::l.drop (ahd p l)
theorem Kj (a:Pr) (l:List Pr) (p:Pr):put (a::l) p=if ltP a p then a::put l p else if a=p then a::l else p::a::l:=by
 unfold put
 by_cases h:ltP a p
 ·have e:ahd p (a::l)=ahd p l+1:=by rw[ahd,if_pos h]
  rw[e,if_pos h]
  by_cases k:l[ahd p l]? =some p
  ·rw[if_pos (by simpa using k),if_pos k]
  ·rw[if_neg (by simpa using k),if_neg k];rfl
 ·have e:ahd p (a::l)=0:=by rw[ahd,if_neg h]
  rw[e,if_neg h]
  by_cases k:a=p
  ·rw[if_pos (by simp[k]),if_pos k]
  ·rw[if_neg (by simpa using k),if_neg k];rfl
theorem IV {x p:Pr} : ∀l:List Pr,x∈put l p↔x=p∨x∈l
 | [] =>by simp[put,ahd]
 | a::l=>by
  rw[Kj]
  split
  ·rw[List.mem_cons,IV l,List.mem_cons];grind
  ·split
   ·rename_i e;subst e;rw[List.mem_cons];grind
   ·rw[List.mem_cons]
theorem Ps {p:Pr} : ∀ {l:List Pr},Str l→Str (put l p)
 | [],_=>by simp[put,ahd]
 | a::l,h=>by
  obtain ⟨h1,h2⟩:=List.pairwise_cons.1 h
  rw[Kj]
  split
  ·rename_i ha
   refine List.pairwise_cons.2 ⟨fun x hx=>?_,Ps h2⟩
   rcases (IV l).1 hx with rfl | hx
   ·exact ha
   ·exact h1 x hx
  ·rename_i ha
   split
   ·exact h
   ·rename_i hn
    have hp:ltP p a:=by
     rcases IU p a with c | c | c
     ·exact c
     ·exact absurd c.symm hn
     ·exact absurd c ha
    refine List.pairwise_cons.2 ⟨fun x hx=>?_,h⟩
    rcases List.mem_cons.1 hx with rfl | hx
    ·exact hp
    ·exact GI hp (h1 x hx)
def Kk (l m:List Pr):List Pr:=m.foldl put l
theorem Eo: ∀ {m l:List Pr},Str l→Str (Kk l m)
 | [],l,h=>h
 | p::m,l,h=>Eo (m:=m) (Ps h)
theorem Ep {x:Pr} : ∀ {m l:List Pr},x∈Kk l m↔x∈l∨x∈m
 | [],l=>by simp[Kk]
 | p::m,l=>by
  show x∈Kk (put l p) m↔_
  rw[Ep,IV,List.mem_cons];grind
def nub:List Pr→List Pr
 | [] =>[]
 | [a] =>[a]
 | a::b::l=>if a=b then nub (b::l) else a::nub (b::l)
theorem Er {x:Pr} : ∀ {l:List Pr},x∈nub l↔x∈l
 | [] =>Iff.rfl
 | [a] =>Iff.rfl
 | a::b::l=>by
  rw[nub]
  split
  ·rename_i e;subst e;rw[Er];simp
  ·rw[List.mem_cons,Er,List.mem_cons (l:=b::l)]
theorem IW: ∀ {l:List Pr},l.Pairwise (fun a b=> ¬ltP b a)→Str (nub l)
 | [],_=>List.Pairwise.nil
 | [a],_=>by simp[nub]
 | a::b::l,h=>by
  obtain ⟨h1,h2⟩:=List.pairwise_cons.1 h
  rw[nub]
  split
  ·exact IW h2
  ·rename_i hn
   refine List.pairwise_cons.2 ⟨fun x hx=>?_,IW h2⟩
   have hab:ltP a b:=by
    rcases IU a b with c | c | c
    ·exact c
    ·exact absurd c hn
    ·exact absurd c (h1 b (List.mem_cons_self ..))
   rcases List.mem_cons.1 (Er.1 hx) with rfl | hx
   ·exact hab
   ·rcases IU b x with c | c | c
    ·exact GI hab c
    ·subst c;exact hab
    ·exact absurd c ((List.pairwise_cons.1 h2).1 x hx)
theorem LW {l:List Pr} {f:Pr→Bool} (h:Str l):Str (l.filter f):=List.Pairwise.filter _ h
end D
namespace D
open Go.RowKit
theorem IX {α R:Type} {f:Int→Option (Out R Int)} (l:List α) (b:α→Bool) (r:Nat→R) (hN:l.length≤9223372036854775807) (h: ∀i (hi:i<l.length),f (i:Int)=some (if b l[i] then .ret (r i) else .nxt ((i+1:Nat):Int))) (he:f (l.length:Int)=some (.brk (l.length:Int))) :
  (∃(i:Nat) (hi:i<l.length),b l[i] =true∧(∀j (hj:j<i),b (l[j]'(by omega))=false)∧ah f aC 0=some (.ret (r i)))∨((∀x,x∈l→b x=false)∧ah f aC 0=some (.brk (l.length:Int))):=by
 obtain ⟨o,e,hQ⟩:=cm (f:=f) (fun i s=>s=(i:Int)∧ ∀j (hj:j<l.length),j<i→b l[j] =false) (fun o=>(∃(i:Nat) (hi:i<l.length),b l[i] =true∧(∀j (hj:j<i),b (l[j]'(by omega))=false)∧o= .ret (r i))∨((∀x,x∈l→b x=false)∧o= .brk (l.length:Int))) l.length (fun i s hi hI=>by
  obtain ⟨rfl,hI⟩:=hI
  by_cases h1:i<l.length
  ·cases hb:b l[i] with
   | true=>exact .inr ⟨_,by rw[h i h1,hb,if_pos rfl],fun s' hh=>by simp at hh,.inl ⟨i,h1,hb,fun j hj=>hI j (by omega) hj,by simp⟩⟩
   | false=>exact .inl ⟨h1,_,by rw[h i h1,hb,if_neg (by simp)],rfl,fun j hj hji=>by
     by_cases c:j=i
     ·subst c;exact hb
     ·exact hI j hj (by omega)⟩
  ·obtain rfl:i=l.length:=by omega
   exact .inr ⟨_,he,fun s' hh=>by simp at hh,.inr ⟨fun x hx=>by
    obtain ⟨j,hj,rfl⟩:=List.getElem_of_mem hx
    exact hI j hj hj,rfl⟩⟩) (s:=0) ⟨rfl,fun j hj h0=>by omega⟩ (kN _ hN)
 rcases hQ with ⟨i,hi,h1,h2,rfl⟩ | ⟨h1,rfl⟩
 ·exact .inl ⟨i,hi,h1,h2,e⟩
 ·exact .inr ⟨h1,e⟩
section
variable {l m:List Pr} {p:Pr}
theorem YH {a b:Pr} :((a.1==b.1)&&((a.2==b.2)&&true))=decide (a=b):=by
 rw[Bool.eq_iff_iff];simp[Prod.ext_iff]
theorem YI {a b:Pr} :(Bool.and.match_1 (fun (_:Bool)=>Bool) (a.1==b.1) (fun (_:Unit)=>false) (fun (_:Unit)=>Bool.and.match_1 (fun (_:Bool)=>Bool) (a.2==b.2) (fun (_:Unit)=>false) (fun (_:Unit)=>true)))=decide (a=b):=YH
theorem YJ (hl:l.length≤1073741824):sK l p=some (decide (p∈l)):=by
 unfold sK
 rcases IX (f:=mT l p) l (fun x=>decide (x=p)) (fun _=>true) (by omega) (fun i hi=>by
   unfold mT
   rw[bw hi,if_pos rfl,ak hi]
   simp only[Option.bind_some,YH,aa (show i<9223372036854775807 by omega)]
   split <;> rfl) (by
   unfold mT
   rw[ba];rfl) with ⟨i,hi,h1,-,e⟩ | ⟨h1,e⟩
 ·rw[aW e,decide_eq_true (by rw[←of_decide_eq_true h1];exact List.getElem_mem hi)]
 ·rw[af e,decide_eq_false fun hm=>by have:=h1 p hm;simp at this]
theorem YK (hl:l.length≤1073741824): ∃r:Int,cj l p=some r∧(0≤r↔p∈l):=by
 unfold cj
 rcases IX (f:=bL l p) l (fun x=>decide (p=x)) (fun i=>(i:Int)) (by omega) (fun i hi=>by
   unfold bL
   rw[bw hi,if_pos rfl,ak hi]
   simp only[Option.bind_some,YH,aa (show i<9223372036854775807 by omega)]
   split <;> rfl) (by
   unfold bL
   rw[ba];rfl) with ⟨i,hi,h1,-,e⟩ | ⟨h1,e⟩
 ·exact ⟨_,aW e,by
   have:p∈l:=by rw[of_decide_eq_true h1];exact List.getElem_mem hi
   simp[this]⟩
 ·exact ⟨_,af e,by
   have:p∉l:=fun hm=>by have:=h1 p hm;simp at this
   simp[this]⟩
theorem YL (hl:l.length≤1073741824):bM l p=some (decide (p∈l)):=by
 unfold bM
 obtain ⟨r,e,h⟩:=YK (l:=l) (p:=p) hl
 rw[dH,e,Option.bind_some]
 congr 1
 rw[Bool.eq_iff_iff,decide_eq_true_iff,decide_eq_true_iff]
 exact h
theorem Xx {d:Pr→Bool} {f:Pr→Option Bool} (hf: ∀x,f x=some (d x)) (hl:l.length≤1073741824) :
  (∃(i:Nat) (hi:i<l.length),d l[i] =true∧(∀j (hj:j<i),d (l[j]'(by omega))=false)∧bg l f=some (i:Int))∨((∀x,x∈l→d x=false)∧bg l f=some (-1)):=by
 unfold bg
 rcases IX (f:=bu l f) l d (fun i=>(i:Int)) (by omega) (fun i hi=>by
   unfold bu
   rw[bw hi,if_pos rfl,ak hi]
   simp only[Option.bind_some,dH,hf,aa (show i<9223372036854775807 by omega)]
   split <;> rfl) (by
   unfold bu
   rw[ba];rfl) with ⟨i,hi,h1,h2,e⟩ | ⟨h1,e⟩
 ·exact .inl ⟨i,hi,h1,h2,aW e⟩
 ·exact .inr ⟨h1,af e⟩
theorem Tq (a b:Pr):qg a b=some (decide (ltP a b)):=by
 unfold qg ltP
 by_cases h:a.1<b.1
 ·simp[h]
 ·by_cases k:a.1=b.1 <;> simp[h,k]
end
end D
namespace D
open Go.RowKit
theorem VK (l:List Pr) (p:Pr):(put l p).length≤l.length+1:=by
 have:=Pq p l
 unfold put
 split
 ·omega
 ·rw[List.length_append,List.length_take,List.length_cons,List.length_drop];omega
theorem yH: ∀(m l:List Pr),(Kk l m).length≤l.length+m.length
 | [],l=>Nat.le_refl _
 | p::m,l=>by
  have h1:=yH m (put l p)
  have h2:=VK l p
  show (Kk (put l p) m).length≤_
  rw[List.length_cons];omega
theorem Pt (l m:List Pr) (p:Pr):Kk l (m++ [p])=put (Kk l m) p:=by simp[Kk]
theorem YM (l:List Pr) (p:Pr) (hl:l.length≤1073741824):sL l p=some (put l p):=by
 have hk:=Pq p l
 have e:ah (mU l p) aC 0=some (.brk ((ahd p l:Nat):Int)):=by
  obtain ⟨o,e,rfl⟩:=cm (f:=mU l p) (fun i s=>s=(i:Int)) (fun o=>o= .brk ((ahd p l:Nat):Int)) (ahd p l) (fun i s hi hI=>by
   subst hI
   unfold mU
   by_cases h1:i<ahd p l
   ·obtain ⟨x,g1,g2⟩:=To p l i h1
    have hil:i<l.length:=by omega
    rw[List.getElem?_eq_getElem hil] at g1
    obtain rfl:=Option.some.inj g1
    refine .inl ⟨h1,((i+1:Nat):Int),?_,rfl⟩
    rw[bw hil,if_pos rfl,ak hil]
    simp only[Option.bind_some,Tq,dH]
    rw[if_pos (decide_eq_true g2),aa (by omega)]
   ·obtain rfl:i=ahd p l:=by omega
    refine .inr ⟨_,?_,fun s' hh=>(by simp at hh),rfl⟩
    by_cases hil:ahd p l<l.length
    ·have g:=Tp p l _ (List.getElem?_eq_getElem hil)
     rw[bw hil,if_pos rfl,ak hil]
     simp only[Option.bind_some,Tq,dH]
     rw[if_neg (by simpa using g)]
    ·rw[if_neg (by simp;omega)]) (s:=0) rfl (kN _ (by omega))
  exact e
 unfold sL
 rw[af e]
 have c1:chk ((0:Int)≤((ahd p l:Nat):Int)∧((ahd p l:Nat):Int)≤(l.length:Int))=some ():=if_pos (by omega)
 have a1:cC 16 ([] :List Pr) ((l.take (ahd p l)).drop 0)=some (l.take (ahd p l)):=by
  rw[List.drop_zero,aw (by simp only[List.length_nil,List.length_take];omega)];rfl
 have a2:cC 16 (l.take (ahd p l)) [p] =some (l.take (ahd p l)++ [p]):=aw (by simp only[List.length_singleton,List.length_take];omega)
 have a3:cC 16 (l.take (ahd p l)++ [p]) ((l.take l.length).drop (ahd p l))=some (l.take (ahd p l)++p::l.drop (ahd p l)):=by
  rw[List.take_of_length_le (Nat.le_refl _),aw (by simp only[List.length_append,List.length_singleton,List.length_take,List.length_drop];omega),List.append_assoc];rfl
 simp only[c1,Option.bind_some,Int.toNat_natCast,a1,a2,a3,dH]
 unfold put
 by_cases hil:ahd p l<l.length
 ·rw[bw hil,if_pos rfl,ak hil]
  simp only[Option.bind_some,YI]
  rw[List.getElem?_eq_getElem hil]
  by_cases h:l[ahd p l] =p
  ·rw[if_pos (decide_eq_true h),if_pos (by rw[h])]
  ·rw[if_neg (by simpa using h),if_neg (by simpa using h)]
 ·rw[if_neg (by simp;omega),List.getElem?_eq_none (by omega),if_neg (by simp)]
theorem CJ {a b:List Pr} (ha:a.length≤67108864) (hb:b.length≤67108864):fa a b=some (Kk [] (a.filter fun x=> !decide (x∈b))):=by
 unfold fa
 obtain ⟨s1,e1,rfl⟩:=kB (f:=eP a b) (fun i s=>s=(Kk [] ((a.take i).filter fun x=> !decide (x∈b)),(i:Int))) a.length (fun i s hi hI=>by
  subst hI
  have hln:=yH ((a.take i).filter fun x=> !decide (x∈b)) []
  have hl2:=List.length_filter_le (fun x=> !decide (x∈b)) (a.take i)
  rw[List.length_take] at hl2
  refine ⟨_,?_,rfl⟩
  unfold eP
  rw[bw hi,if_pos rfl,ak hi]
  simp only[Option.bind_some,dH]
  rw[YJ (by omega)]
  simp only[Option.bind_some]
  rw[aa (by omega),List.take_succ_eq_append_getElem hi,List.filter_append]
  by_cases h:a[i] ∈ b
  ·rw[if_pos (decide_eq_true h)]
   simp[h]
  ·rw[if_neg (by simpa using h),YM _ _ (by simp only[List.length_nil] at hln;omega)]
   simp only[Option.bind_some]
   rw[show [a[i]].filter (fun x=> !decide (x∈b))= [a[i]] from by simp[h],Pt]) (fun s hI=>by
  subst hI
  unfold eP
  rw[ba];rfl) (s:=(([] :List Pr),0)) rfl (kN _ (by omega))
 rw[af e1,List.take_of_length_le (Nat.le_refl _)]
end D
namespace D
open Go.RowKit
theorem YN {d:Pr→Bool} {f:Pr→Option Bool} (hf: ∀x,f x=some (d x)) (xs:List Pr) (hl:xs.length≤1073741824):bB xs f=some (xs.filter fun x=> !d x):=by
 unfold bB
 rcases Xx (l:=xs) (d:=d) (f:=f) hf hl with ⟨r,hr,h1,h2,e⟩ | ⟨h1,e⟩
 ·rw[e]
  simp only[Option.bind_some]
  have hne:(((r:Nat):Int) == -1)=false:=beq_eq_false_iff_ne.2 (by omega)
  rw[hne]
  simp only[Bool.false_eq_true,if_false]
  rw[aa (by omega)]
  have hk0:(xs.take (r+1)).filter (fun x=> !d x)=xs.take r:=by
   rw[List.take_succ_eq_append_getElem hr,List.filter_append]
   rw[show [xs[r]].filter (fun x=> !d x)= [] from by simp[h1],List.append_nil,List.filter_eq_self]
   intro a ha
   obtain ⟨j,hj,rfl⟩:=List.getElem_of_mem ha
   rw[List.length_take] at hj
   rw[List.getElem_take,h2 j (by omega)];rfl
  obtain ⟨s,e1,ys,rfl,k1,k2,k3,k4⟩:=kB (f:=bs f) (fun t s=> ∃ys:List Pr,s=((((xs.take (r+1+t)).filter (fun x=> !d x)).length:Int),((r+1+t:Nat):Int),ys)∧ys.length=xs.length∧ys.take ((xs.take (r+1+t)).filter (fun x=> !d x)).length=(xs.take (r+1+t)).filter (fun x=> !d x)∧ys.drop (r+1+t)=xs.drop (r+1+t)∧((xs.take (r+1+t)).filter (fun x=> !d x)).length≤r+t) (xs.length - (r+1)) (fun t s ht hI=>by
   obtain ⟨ys,rfl,k1,k2,k3,k4⟩:=hI
   have hj:r+1+t<xs.length:=by omega
   unfold bs
   rw[show ((ys.length:Nat):Int)=(xs.length:Int) from by rw[k1],bw hj,if_pos rfl,ak (xs:=ys) (by omega),v7 k3 (Nat.le_refl _) (by omega) hj]
   simp only[Option.bind_some,dH,hf]
   have hnx:(xs.take (r+1+(t+1))).filter (fun x=> !d x)=(xs.take (r+1+t)).filter (fun x=> !d x)++ [xs[r+1+t]].filter (fun x=> !d x):=by
    rw[←List.filter_append,←List.take_succ_eq_append_getElem hj];rfl
   generalize (xs.take (r+1+t)).filter (fun x=> !d x)=K at *
   rw[hnx]
   cases hd:d xs[r+1+t] with
   | true =>
    rw[if_pos rfl]
    simp only[Option.bind_some]
    rw[aa (by omega),show [xs[r+1+t]].filter (fun x=> !d x)= [] from by simp[hd],List.append_nil]
    exact ⟨_,rfl,ys,rfl,k1,k2,vZ k3,by omega⟩
   | false =>
    rw[if_neg (by simp),ak (xs:=ys) (by omega)]
    simp only[Option.bind_some]
    rw[aa (by omega),aa (by omega),show [xs[r+1+t]].filter (fun x=> !d x)= [xs[r+1+t]] from by simp[hd]]
    refine ⟨_,rfl,ys.set K.length xs[r+1+t],?_,by simpa using k1,?_,?_,?_⟩
    ·rw[List.length_append,List.length_singleton];rfl
    ·rw[List.length_append,List.length_singleton,Ej (by omega),k2]
    ·rw[set_drop (by omega)];exact vZ k3
    ·rw[List.length_append,List.length_singleton];omega) (fun s hI=>by
   obtain ⟨ys,rfl,k1,k2,k3,k4⟩:=hI
   unfold bs
   rw[if_neg (by simp;omega)]) (s:=(((r:Nat):Int),((r+1:Nat):Int),xs)) ⟨xs,by rw[Nat.add_zero,hk0,List.length_take,Nat.min_eq_left (by omega)],rfl,by rw[Nat.add_zero,hk0,List.length_take,Nat.min_eq_left (by omega)],rfl,by rw[Nat.add_zero,hk0,List.length_take];omega⟩ (kN _ (by omega))
  rw[af e1]
  have hall:xs.take (r+1+(xs.length - (r+1)))=xs:=List.take_of_length_le (by omega)
  rw[hall] at k2 k4⊢
  generalize (xs.filter fun x=> !d x)=K at *
  have q0:K.length≤ys.length:=by omega
  have z1:((0:Int)+((K.length:Nat):Int)).toNat=K.length:=by omega
  have z2:((0:Int)+(((ys.length:Nat):Int) - 0)).toNat=ys.length:=by omega
  simp only[z1,z2]
  have zl:=A1 (z:=((0,0):Pr)) q0
  rw[tc (by omega),Option.bind_some,tc (by omega),Option.bind_some,tc (by rw[zl];omega),Option.bind_some,w8 q0,k2,List.drop_zero]
 ·rw[e]
  simp only[Option.bind_some]
  rw[if_pos (by rfl)]
  congr 1
  exact (List.filter_eq_self.2 fun a ha=>by rw[h1 a ha];rfl).symm
theorem Kl: ∀(l:List Pr) (b:Pr),l≠ [] →nub (l++ [b])=if l.getLast? =some b then nub l else nub l++ [b]
 | [],b,h=>absurd rfl h
 | [a],b,_=>by
  by_cases e:a=b
  ·subst e;simp[nub]
  ·simp[nub,e]
 | a::c::l,b,_=>by
  have ih:=Kl (c::l) b (by simp)
  have hg:(a::c::l).getLast? =(c::l).getLast? :=by simp[List.getLast?_cons_cons]
  rw[hg]
  show nub (a::c::(l++ [b]))=_
  rw[nub,nub]
  rw[show c::(l++ [b])=(c::l)++ [b] from rfl,ih]
  by_cases e:a=c
  ·rw[if_pos e,if_pos e]
  ·rw[if_neg e,if_neg e]
   split <;> simp
theorem Es {xs:List Pr} {j:Nat} (h0:0<j) (h:j<xs.length):nub (xs.take (j+1))=if xs[j - 1] =xs[j] then nub (xs.take j) else nub (xs.take j)++ [xs[j]]:=by
 rw[List.take_succ_eq_append_getElem h,Kl _ _ (by
  intro e
  have h9:=congrArg List.length e
  rw[List.length_take,Nat.min_eq_left (Nat.le_of_lt h),List.length_nil] at h9
  omega)]
 have hg:(xs.take j).getLast? =some xs[j - 1]:=by
  rw[List.getLast?_eq_getElem?,List.length_take,Nat.min_eq_left (Nat.le_of_lt h),List.getElem?_take,if_pos (show j - 1<j by omega),List.getElem?_eq_getElem (show j - 1<xs.length by omega)]
 rw[hg]
 by_cases e:xs[j - 1] =xs[j]
 ·rw[if_pos (by rw[e]),if_pos e]
 ·rw[if_neg (by simpa using e),if_neg e]
theorem Km {xs:List Pr} : ∀(j:Nat),j≤xs.length→(∀q (hq:q<j) (h0:0<q) (hx:j≤xs.length),xs[q - 1]'(by omega)≠xs[q]'(by omega))→nub (xs.take j)=xs.take j
 | 0,_,_=>by simp[nub]
 | 1,h,_=>by
  cases xs with
  | nil=>simp[nub]
  | cons a l=>simp[nub]
 | j+2,h,hq=>by
  rw[Es (by omega) (by omega),if_neg (hq (j+1) (by omega) (by omega) h),Km (j+1) (by omega) (fun q h1 h2 h3=>hq q (by omega) h2 h),←List.take_succ_eq_append_getElem]
end D
namespace D
open Go.RowKit
theorem Pu (xs:List Pr) (hl:xs.length≤1073741824):bS xs=some (nub xs):=by
 unfold bS
 by_cases h2:xs.length<2
 ·rw[if_pos (by simp;omega)]
  cases xs with
  | nil=>rfl
  | cons a l =>
   cases l with
   | nil=>rfl
   | cons b l=>simp only[List.length_cons] at h2;omega
 rw[if_neg (by simp;omega)]
 have key:(ah (a8 xs) aC 1=some (.ret (nub xs)))∨(∃s,ah (a8 xs) aC 1=some (.brk s)∧nub xs=xs):=by
  obtain ⟨o,e,hQ⟩:=cm (f:=a8 xs) (fun t s=>s=((t+1:Nat):Int)∧nub (xs.take (t+1))=xs.take (t+1)) (fun o=>o= .ret (nub xs)∨ ∃s,o= .brk s∧nub xs=xs) (xs.length - 1) (fun t s ht hI=>by
   obtain ⟨rfl,hI⟩:=hI
   unfold a8
   by_cases h1:t+1<xs.length
   ·have hp:((t+1:Nat):Int) - 1=((t:Nat):Int):=by omega
    rw[bw h1,if_pos rfl,ak h1,cB (n:=((t+1:Nat):Int) - 1) (by omega) (by omega),hp,ak (show t<xs.length by omega)]
    simp only[Option.bind_some,YI]
    have hn:=Es (xs:=xs) (j:=t+1) (by omega) h1
    rw[hI] at hn
    simp only[Nat.add_sub_cancel] at hn
    by_cases he:xs[t+1] =xs[t]
    ·rw[if_pos (decide_eq_true he),tc (by omega),Option.bind_some]
     rw[if_pos he.symm] at hn
     have hlt:(xs.take (t+1)).length=t+1:=by rw[List.length_take];omega
     obtain ⟨s,e1,ys,rfl,k1,k2,k3,k4⟩:=kB (f:=bC xs ((t+1:Nat):Int)) (fun u s=> ∃ys:List Pr,s=(((nub (xs.take (t+2+u))).length:Int),((u+1:Nat):Int),ys)∧ys.length=xs.length∧ys.take (nub (xs.take (t+2+u))).length=nub (xs.take (t+2+u))∧ys.drop (t+1+u)=xs.drop (t+1+u)∧(nub (xs.take (t+2+u))).length≤t+1+u) (xs.length - (t+2)) (fun u s hu hI=>by
      obtain ⟨ys,rfl,k1,k2,k3,k4⟩:=hI
      have hj:t+2+u<xs.length:=by clear k4 k2;omega
      have hj1:t+1+u<xs.length:=by clear k4 k2;omega
      have hj2:t+2+u<ys.length:=by clear k4 k2;omega
      have hj3:t+1+u<ys.length:=by clear k4 k2;omega
      have a1:(0+((t+1:Nat):Int))+((u+1:Nat):Int)=((t+2+u:Nat):Int):=by omega
      have a2:((u+1:Nat):Int) - 1=((u:Nat):Int):=by omega
      have a3:(0+((t+1:Nat):Int))+((u:Nat):Int)=((t+1+u:Nat):Int):=by omega
      unfold bC
      dsimp only
      rw[if_pos (by simp;omega),tc (by omega)]
      simp only[Option.bind_some]
      rw[cB (n:=((u+1:Nat):Int) - 1) (by omega) (by omega),a1,a2,a3,ak (xs:=ys) hj2,ak (xs:=ys) hj3,tc (by omega),v7 k3 (by omega) hj2 hj,v7 k3 (Nat.le_refl _) hj3 hj1]
      simp only[Option.bind_some,YI,dH]
      have e9:t+2+u - 1=t+1+u:=by clear k4 k2;omega
      have e8:0<t+2+u:=by clear k4 k2;omega
      have hnx:=Es (xs:=xs) (j:=t+2+u) e8 hj
      simp only[e9] at hnx
      have hd:=vZ k3
      rw[show t+1+u+1=t+1+(u+1) from by omega] at hd
      rw[show t+2+(u+1)=t+2+u+1 from by omega,hnx]
      generalize nub (xs.take (t+2+u))=K at *
      by_cases hq:xs[t+2+u] =xs[t+1+u]
      ·rw[if_pos (decide_eq_true hq),if_pos hq.symm]
       simp only[Option.bind_some]
       rw[aa (by omega)]
       exact ⟨_,rfl,ys,rfl,k1,k2,hd,by omega⟩
      ·rw[if_neg (by simpa using hq),if_neg (fun e=>hq e.symm),ak (xs:=ys) (show K.length<ys.length by omega)]
       simp only[Option.bind_some]
       rw[aa (by omega),aa (by omega)]
       refine ⟨_,rfl,ys.set K.length xs[t+2+u],?_,by simpa using k1,?_,?_,?_⟩
       ·rw[List.length_append,List.length_singleton];rfl
       ·rw[List.length_append,List.length_singleton,Ej (by omega),k2]
       ·rw[set_drop (by omega)];exact hd
       ·rw[List.length_append,List.length_singleton];omega) (fun s hI=>by
      obtain ⟨ys,rfl,k1,k2,k3,k4⟩:=hI
      unfold bC
      rw[if_neg (by simp;omega)]) (s:=(((t+1:Nat):Int),1,xs)) ⟨xs,by rw[Nat.add_zero,hn,hlt];rfl,rfl,by rw[Nat.add_zero,hn,hlt],rfl,by rw[Nat.add_zero,hn,hlt];omega⟩ (kN _ (by omega))
     refine .inr ⟨.ret (nub xs),?_,fun s' hh=>(by simp at hh),.inl rfl⟩
     rw[af e1]
     have hall:xs.take (t+2+(xs.length - (t+2)))=xs:=List.take_of_length_le (by omega)
     rw[hall] at k2 k4⊢
     generalize nub xs=K at *
     have q0:K.length≤ys.length:=by omega
     have z1:((0:Int)+((K.length:Nat):Int)).toNat=K.length:=by omega
     have z2:((0:Int)+(((ys.length:Nat):Int) - 0)).toNat=ys.length:=by omega
     simp only[z1,z2]
     have zl:=A1 (z:=((0,0):Pr)) q0
     rw[tc (by omega),Option.bind_some,tc (by omega),Option.bind_some,tc (by rw[zl];omega),Option.bind_some,w8 q0,k2,List.drop_zero]
    ·rw[if_neg (by simpa using he),aa (by omega)]
     rw[if_neg (fun e=>he e.symm),←List.take_succ_eq_append_getElem h1] at hn
     exact .inl ⟨by omega,_,rfl,rfl,hn⟩
   ·refine .inr ⟨.brk ((t+1:Nat):Int),?_,fun s' hh=>(by simp at hh),.inr ⟨_,rfl,?_⟩⟩
    ·rw[if_neg (by simp;omega)]
    ·rw[List.take_of_length_le (by omega)] at hI;exact hI) (s:=1) ⟨rfl,Km 1 (by omega) (fun q h1 h0=>by omega)⟩ (kN _ (by omega))
  rcases hQ with rfl | ⟨s,rfl,h⟩
  ·exact .inl e
  ·exact .inr ⟨s,e,h⟩
 rcases key with e | ⟨s,e,h⟩
 ·rw[aW e]
 ·rw[af e,h]
def VX (l:List Pr):List Pr:=nub (R.Lb R.Lc l)
theorem Se (l:List Pr):(R.Lb R.Lc l).Pairwise (fun a b=> ¬ltP b a):=by
 have hle: ∀a b:Pr,(!(ltOf R.Lc b a))=true↔ ¬ltP b a:=fun a b=>by
  rw[Bool.not_eq_true',R.yz];rfl
 have h:=List.pairwise_mergeSort (le:=fun x y=> !(ltOf R.Lc y x)) (fun a b c h1 h2=>by
  rw[hle] at *
  intro h
  unfold ltP at *
  omega) (fun a b=>by
  rw[Bool.or_eq_true,hle,hle]
  unfold ltP
  omega) l
 exact h.imp fun {a b} h=>(hle a b).1 h
theorem Kn (l:List Pr):Str (VX l):=IW (Se l)
theorem Ko {l:List Pr} {x:Pr} :x∈VX l↔x∈l:=by
 unfold VX
 rw[Er]
 exact List.mem_mergeSort
theorem Xy (l:List Pr) (hl:l.length≤268435456):ql l=some (VX l):=by
 unfold ql cO R.Rn
 rw[aw (by simp only[List.length_nil];omega)]
 simp only[Option.bind_some,List.nil_append]
 rw[tc (by omega)]
 simp only[Option.bind_some]
 rw[Pu _ (by rw[R.FJ];omega)]
 rfl
theorem Pv (l:List Pr):VX l=Kk [] l:=En (Kn l) (Eo List.Pairwise.nil) fun x=>by rw[Ko,Ep];simp
theorem Xz {a b:List Pr} (ha:a.length≤67108864) (hb:b.length≤67108864):ff a b=some (Kk [] (a.filter fun x=> !decide (x∈b))):=by
 have hlen:(VX a).length≤a.length:=by rw[Pv];have:=yH a [];simpa using this
 unfold ff
 rw[Xy a (by omega)]
 simp only[Option.bind_some]
 rw[YN (d:=fun x=>decide (x∈b)) (fun x=>by unfold jo;rw[dH,YL (by omega)];rfl) _ (by omega)]
 simp only[Option.bind_some]
 congr 1
 refine En (LW (Kn a)) (Eo List.Pairwise.nil) fun x=>?_
 rw[Ep,List.mem_filter,List.mem_filter,Ko];simp
end D
set_option synthInstance.maxSize 20000
set_option synthInstance.maxHeartbeats 2000000
namespace D
open Go.RowKit
abbrev Kp:=Int×(List GrT)
abbrev GQ:=Int×Int×Int
abbrev VL:=Int×Bool×((List (Int×Int))×(List (Int×Int)))
theorem VM (g:GrT) (hg:Data.sm g):pb g=some g:=by
 have h1:=(au hg.1).1
 have h2:=(au hg.2).1
 unfold pb
 rw[aw (by simp;omega)];simp only[Option.bind_some,List.nil_append]
 rw[aw (by simp;omega)];rfl
theorem VN (g:GrT) (hg:Data.sm g):km g=some g:=by
 have h1:=(au hg.1).1
 have h2:=(au hg.2).1
 unfold km gK
 rw[aw (by simp;omega)];simp only[Option.bind_some,List.nil_append]
 rw[aw (by simp;omega)];rfl
theorem CK {g:GrT} (hg:Data.sm g): ∃b,aQ g=some b:=by
 obtain ⟨b,e,_⟩:=Ee g (au hg.1).1 (au hg.2).1
 exact ⟨b,e⟩
def okG (h:Kp) (g:GrT):Prop:=aQ g=some true∧g.1=(nth h.2 0).1
instance (h g):Decidable (okG h g):=by unfold okG;infer_instance
theorem GJ (h:Kp) (hh:Data.sm h): ∃b,bq h=some b∧aL h=some b∧(b=true→(1≤h.2.length∧h.2.length≤8)∧1≤h.1∧h.1≤1000 - (h.2.length:Int)):=by
 obtain ⟨hl,hs⟩:=au hh.2
 have ew:IntKind.i64.wrap ((IntKind.i64.wrap (999 - (h.2.length:Int)))+1)=1000 - (h.2.length:Int):=by
  rw[cB (n:=999 - (h.2.length:Int)) (by omega) (by omega),cB (by omega) (by omega)];omega
 have ks:=scan (f:=dW h) h.2 (okG h) false (by omega) (fun i hi=>by
  have hg:=hs _ (bc (xs:=h.2) (i:=(i:Int)) (by omega) (by omega))
  obtain ⟨b,e⟩:=CK hg
  obtain ⟨r,er,hr⟩:=D8 (nth h.2 (i:Int)).1 (nth h.2 0).1 (au hg.1).1
  have e':bH ((nth h.2 (i:Int)).1,(nth h.2 (i:Int)).2)=some b:=by rw[A0];exact e
  have hk:okG h (nth h.2 (i:Int))↔b=true∧(nth h.2 (i:Int)).1=(nth h.2 0).1:=by unfold okG;rw[e];simp
  unfold dW
  rw[if_pos (by simp;omega),aj (by omega) (by omega)];simp only[Option.bind_some]
  rw[e',aj (xs:=h.2) (i:=0) (by omega) (by omega)];simp only[Option.bind_some]
  rw[er,aa (by omega)];simp only[Option.bind_some]
  cases b with
  | false=>rw[if_neg (by decide),if_neg (fun c=>by cases (hk.1 c).1)]
  | true =>
   rw[if_pos rfl]
   by_cases c:r=0
   ·rw[if_neg (by simp[c]),if_pos (hk.2 ⟨rfl,hr.1 c⟩)]
   ·rw[if_pos (by simpa using c),if_neg (fun k=>c (hr.2 (hk.1 k).2))]) (by unfold dW;simp)
 have ki:=scan (f:=dY h) h.2 (okG h) false (by omega) (fun i hi=>by
  have hg:=hs _ (bc (xs:=h.2) (i:=(i:Int)) (by omega) (by omega))
  obtain ⟨b,e⟩:=CK hg
  have er:=AN (nth h.2 (i:Int)).1 (nth h.2 0).1 (by have:=(au hg.1).1;omega)
  have e':aQ ((nth h.2 (i:Int)).1,(nth h.2 (i:Int)).2)=some b:=e
  have hk:okG h (nth h.2 (i:Int))↔b=true∧(nth h.2 (i:Int)).1=(nth h.2 0).1:=by unfold okG;rw[e];simp
  unfold dY
  rw[if_pos (by simp;omega),aj (by omega) (by omega)];simp only[Option.bind_some]
  rw[e',aj (xs:=h.2) (i:=0) (by omega) (by omega)];simp only[Option.bind_some]
  rw[er,aa (by omega)];simp only[Option.bind_some]
  cases b with
  | false=>rw[if_neg (by decide),if_neg (fun c=>by cases (hk.1 c).1)]
  | true =>
   rw[if_pos rfl]
   by_cases c:(nth h.2 (i:Int)).1=(nth h.2 0).1
   ·rw[if_pos (decide_eq_true c),if_pos (hk.2 ⟨rfl,c⟩)]
   ·rw[if_neg (by simpa using c),if_neg (fun k=>c (hk.1 k).2)]) (by unfold dY;simp)
 unfold bq aL
 rw[PG,PG,Iw,Iw,ew];simp only[Option.bind_some]
 by_cases c1:(1:Int)≤(h.2.length:Int)∧(h.2.length:Int)≤8
 ·by_cases c2:1≤h.1∧h.1≤1000 - (h.2.length:Int)
  ·rw[decide_eq_true c1,decide_eq_true c2];simp only[if_true]
   rcases ks with ⟨es,k1⟩ | ⟨es,k1⟩ <;> rcases ki with ⟨ei,k2⟩ | ⟨ei,k2⟩
   ·rw[af es,af ei]
    exact ⟨true,rfl,rfl,fun _=>⟨by omega,c2⟩⟩
   ·exact absurd k1 k2
   ·exact absurd k2 k1
   ·rw[aW es,aW ei]
    exact ⟨false,rfl,rfl,fun c=>by cases c⟩
  ·rw[decide_eq_true c1,decide_eq_false c2];simp only[if_true,Bool.false_eq_true,if_false]
   rcases ks with ⟨es,k1⟩ | ⟨es,k1⟩
   ·rw[af es];exact ⟨false,rfl,rfl,fun c=>by cases c⟩
   ·rw[aW es];exact ⟨false,rfl,rfl,fun c=>by cases c⟩
 ·rw[decide_eq_false c1];simp only[Bool.false_eq_true,if_false]
  rcases ks with ⟨es,k1⟩ | ⟨es,k1⟩
  ·rw[af es];exact ⟨false,rfl,rfl,fun c=>by cases c⟩
  ·rw[aW es];exact ⟨false,rfl,rfl,fun c=>by cases c⟩
def CL (h:Kp):Int:=h.1+(h.2.length:Int) - 1
theorem GK {h:Kp} (hs:bq h=some true) (hi:aL h=some true) (k:(1≤h.2.length∧h.2.length≤8)∧1≤h.1∧h.1≤1000 - (h.2.length:Int)):bY h=some (CL h)∧bZ h=some (CL h):=by
 unfold bY bZ CL
 have hs:bq (h.1,h.2)=_:=hs
 have hi:aL (h.1,h.2)=_:=hi
 rw[hs,hi];simp only[Option.bind_some,if_true]
 rw[cB (n:=h.1+(h.2.length:Int)) (by omega) (by omega),cB (by omega) (by omega)]
 exact ⟨rfl,rfl⟩
theorem GL (h:Kp) (hh:Data.sm h) (v:Int): ∃(g:GrT) (q:Bool),gG h v=some (g,q)∧nH h v=some (g,q)∧Data.sm g∧(aL h=some true→h.1≤v→v≤CL h→q=true)∧(q=false→g=([],[])):=by
 obtain ⟨b,es,ei,k⟩:=GJ h hh
 have es':bq (h.1,h.2)=_:=es
 have ei':aL (h.1,h.2)=_:=ei
 have z0:Data.sm (([],[]):GrT):=⟨⟨by decide,fun _ hx=>by cases hx⟩,by decide,fun _ hx=>by cases hx⟩
 unfold gG nH
 rw[es',ei'];simp only[Option.bind_some]
 cases b with
 | false=>exact ⟨_,false,rfl,rfl,z0,fun c=>(by cases c),fun _=>rfl⟩
 | true =>
  have kk:=k rfl
  obtain ⟨l1,l2⟩:=GK es ei kk
  have l1:bY (h.1,h.2)=_:=l1
  have l2:bZ (h.1,h.2)=_:=l2
  simp only[if_true,l1,l2,Option.bind_some,PG,Iw,decide_eq_true_eq]
  by_cases c:h.1≤v∧v≤CL h
  ·have c':=c
   unfold CL at c'
   have hm:=(au hh.2).2 _ (bc (xs:=h.2) (i:=v - h.1) (by omega) (by omega))
   have e1:pb ((nth h.2 (v - h.1)).1,(nth h.2 (v - h.1)).2)=_:=VM _ hm
   have e2:km ((nth h.2 (v - h.1)).1,(nth h.2 (v - h.1)).2)=_:=VN _ hm
   rw[if_pos c,if_pos c,cB (n:=v - h.1) (by omega) (by omega),aj (by omega) (by omega)];simp only[Option.bind_some]
   rw[e1,e2]
   exact ⟨_,true,rfl,rfl,hm,fun _ _ _=>rfl,fun c=>by cases c⟩
  ·rw[if_neg c,if_neg c]
   exact ⟨_,false,rfl,rfl,z0,fun _ h1 h2=>absurd ⟨h1,h2⟩ c,fun _=>rfl⟩
theorem LX (a b:List (Int×Int)) (ha:a.length≤1000000) (hb:b.length≤1000000): ∃d:(List (Int×Int))×(List (Int×Int)),ja a b=some d∧jc a b=some d∧d.1.length≤b.length∧d.2.length≤a.length:=by
 unfold ja jc
 rw[CJ (by omega) (by omega),CJ (by omega) (by omega),Xz (by omega) (by omega),Xz (by omega) (by omega)]
 have k: ∀(l:List (Int×Int)) (f:Int×Int→Bool),(Kk [] (l.filter f)).length≤l.length:=fun l f=>by
  have:=yH (l.filter f) []
  have h2:=List.length_filter_le f l
  simp at this;omega
 exact ⟨_,rfl,rfl,k _ _,k _ _⟩
theorem CM (h:Kp) (hh:Data.sm h) {r:Eb} (hr:Data.sm r) (id v:Int): ∃(g:GrT) (q:Bool) (l:List (Int×Int)) (b:Bool),gG h v=some (g,q)∧cz r g id=some (l,b)∧fG h r id v=some (if q then l else [],if q then b else false)∧l.length≤150∧(aL h=some true→h.1≤v→v≤CL h→q=true):=by
 obtain ⟨g,q,e1,e2,sg,k,-⟩:=GL h hh v
 obtain ⟨l,b,f1,f2,hl⟩:=GH hr sg id
 refine ⟨g,q,l,b,e1,f1,?_,hl,k⟩
 unfold fG
 have e2:nH (h.1,h.2) v=_:=e2
 rw[e2];simp only[Option.bind_some]
 have f2:fP (r.1,r.2) (g.1,g.2) id=_:=f2
 cases q with
 | false=>rfl
 | true=>simp only[if_true];rw[f2];rfl
theorem Pw (h:Kp) (hh:Data.sm h) {r:Eb} (hr:Data.sm r) (s:GQ): ∃b,nA h r s=some b∧nF h r s=some b∧(b=true→aL h=some true∧bY h=some (CL h)∧bZ h=some (CL h)∧((1≤h.2.length∧h.2.length≤8)∧1≤h.1∧h.1≤1000 - (h.2.length:Int))∧0≤s.2.2∧s.2.2<CL h):=by
 obtain ⟨b,es,ei,k⟩:=GJ h hh
 obtain ⟨c,v1,v2,-⟩:=CF hr
 obtain ⟨f,f1,f2,-⟩:=Gw r s.2.1 (au hr.2).1
 have es':bq (h.1,h.2)=_:=es
 have ei':aL (h.1,h.2)=_:=ei
 have v1:cG (r.1,r.2)=_:=v1
 have v2:cL (r.1,r.2)=_:=v2
 have f1:gZ (r.1,r.2) s.2.1=_:=f1
 have f2:ij (r.1,r.2) s.2.1=_:=f2
 unfold nA nF
 rw[es',ei',v1,v2,f1,f2];simp only[Option.bind_some]
 cases b with
 | false=>exact ⟨false,rfl,rfl,fun c=>by cases c⟩
 | true =>
  obtain ⟨l1,l2⟩:=GK es ei (k rfl)
  have l1':bY (h.1,h.2)=_:=l1
  have l2':bZ (h.1,h.2)=_:=l2
  cases c with
  | false=>exact ⟨false,rfl,rfl,fun c=>by cases c⟩
  | true =>
   rw[l1',l2'];simp only[if_true,Option.bind_some]
   by_cases c1:f≥0
   ·by_cases c2:s.2.2≥0
    ·simp only[decide_eq_true c1,decide_eq_true c2,if_true]
     exact ⟨_,rfl,rfl,fun hb=>⟨trivial,trivial,trivial,k rfl,c2,of_decide_eq_true hb⟩⟩
    ·simp only[decide_eq_true c1,decide_eq_false c2,if_true,Bool.false_eq_true,if_false]
     exact ⟨false,rfl,rfl,fun c=>by cases c⟩
   ·simp only[decide_eq_false c1,Bool.false_eq_true,if_false]
    exact ⟨false,rfl,rfl,fun c=>by cases c⟩
theorem Sf (h:Kp) (hh:Data.sm h) {r:Eb} (hr:Data.sm r) (s:GQ) (to:Int) (hv:aL h=some true) (kk:(1≤h.2.length∧h.2.length≤8)∧1≤h.1∧h.1≤1000 - (h.2.length:Int)) (h0:0≤s.2.2∧s.2.2<CL h) (ht:h.1≤to∧to≤CL h) :
  ∃m:VL,iM h r s to=some m∧nJ h r s to=some (m,(s.1,s.2.1,to),true)∧m.2.2.1.length≤150∧m.2.2.2.length≤150:=by
 have hto:CL h≤1000:=by unfold CL;omega
 obtain ⟨g,q,l,b,e1,e2,e3,hl,kq⟩:=CM h hh hr s.2.1 to
 obtain rfl:q=true:=kq hv ht.1 ht.2
 have e1:gG (h.1,h.2) to=_:=e1
 have e2:cz (r.1,r.2) (g.1,g.2) s.2.1=_:=e2
 have e3:fG (h.1,h.2) (r.1,r.2) s.2.1 to=_:=e3
 unfold iM nJ
 rw[e1,e3];simp only[Option.bind_some,if_true]
 rw[e2];simp only[Option.bind_some]
 by_cases c:s.2.2<h.1
 ·rw[if_pos (decide_eq_true c),if_pos (decide_eq_true c)]
  exact ⟨_,rfl,rfl,hl,by simp⟩
 ·rw[if_neg (by simpa using c),if_neg (by simpa using c)]
  obtain ⟨g',q',l',b',d1,d2,d3,hl',kq'⟩:=CM h hh hr s.2.1 s.2.2
  obtain rfl:q'=true:=kq' hv (by omega) (by omega)
  have d1:gG (h.1,h.2) s.2.2=_:=d1
  have d2:cz (r.1,r.2) (g'.1,g'.2) s.2.1=_:=d2
  have d3:fG (h.1,h.2) (r.1,r.2) s.2.1 s.2.2=_:=d3
  rw[d1,d3];simp only[Option.bind_some,if_true]
  rw[d2];simp only[Option.bind_some]
  obtain ⟨d,x1,x2,k1,k2⟩:=LX l' l (by omega) (by omega)
  rw[x1,x2]
  exact ⟨_,rfl,rfl,by simp only;omega,by simp only;omega⟩
end D
set_option synthInstance.maxSize 20000
set_option synthInstance.maxHeartbeats 2000000
namespace D
open Go.RowKit
theorem Px (h:Kp) (hh:Data.sm h) {r:Eb} (hr:Data.sm r) (s:GQ): ∃x:VL×GQ×Bool,du h r s=some x∧fg h r s=some x∧x.1.2.2.1.length≤150∧x.1.2.2.2.length≤150∧(x.2.2=true→s.2.2<x.2.1.2.2∧h.1≤x.2.1.2.2∧x.2.1.2.2≤CL h∧CL h≤h.1+7):=by
 obtain ⟨b,es,ei,k⟩:=Pw h hh hr s
 have es:nA (h.1,h.2) (r.1,r.2) (s.1,s.2.1,s.2.2)=_:=es
 have ei:nF (h.1,h.2) (r.1,r.2) (s.1,s.2.1,s.2.2)=_:=ei
 unfold du fg
 rw[es,ei];simp only[Option.bind_some]
 cases b with
 | false=>exact ⟨_,rfl,rfl,Nat.zero_le _,Nat.zero_le _,fun c=>by cases c⟩
 | true =>
  obtain ⟨hv,-,-,kk,h0,h1⟩:=k rfl
  have hL:CL h=h.1+(h.2.length:Int) - 1:=rfl
  have ew:IntKind.i64.wrap (s.2.2+1)=s.2.2+1:=cB (by omega) (by omega)
  rw[ew];simp only[if_true]
  have hm:Max.max h.1 (s.2.2+1)=if h.1≤s.2.2+1 then s.2.2+1 else h.1:=by rw[Int.max_def]
  have ht:h.1≤Max.max h.1 (s.2.2+1)∧Max.max h.1 (s.2.2+1)≤CL h∧s.2.2<Max.max h.1 (s.2.2+1):=by
   rw[hm];split <;> omega
  generalize Max.max h.1 (s.2.2+1)=to at ht⊢
  obtain ⟨m,x1,x2,l1,l2⟩:=Sf h hh hr s to hv kk ⟨h0,h1⟩ ⟨ht.1,ht.2.1⟩
  have x1:iM (h.1,h.2) (r.1,r.2) (s.1,s.2.1,s.2.2) to=_:=x1
  have x2:nJ (h.1,h.2) (r.1,r.2) (s.1,s.2.1,s.2.2) to=_:=x2
  rw[x1,x2]
  exact ⟨(m,(s.1,s.2.1,to),true),rfl,rfl,l1,l2,fun _=>⟨ht.2.2,ht.1,ht.2.1,by omega⟩⟩
end D
set_option synthInstance.maxSize 20000
set_option synthInstance.maxHeartbeats 2000000
namespace D
open Go.RowKit
def nxM (h:Kp) (r:Eb) (s:GQ):VL×GQ×Bool:=(du h r s).getD ((0,false,[],[]),s,false)
def drM (h:Kp) (r:Eb) (s:GQ):Nat→List VL×GQ
 | 0=>([],s)
 | i+1=>((drM h r s i).1++ [(nxM h r (drM h r s i).2).1],(nxM h r (drM h r s i).2).2.1)
theorem Et (h:Kp) (r:Eb) (s:GQ): ∀i,(drM h r s i).1.length=i
 | 0=>rfl
 | i+1=>by rw[drM,List.length_append,Et h r s i];rfl
theorem GM (p:Nat→Prop) [DecidablePred p] : ∀n,(∀j,j<n→p j)∨ ∃K,K<n∧ ¬p K∧ ∀j,j<K→p j
 | 0=>.inl fun j hj=>absurd hj (Nat.not_lt_zero _)
 | n+1=>by
  rcases GM p n with h | ⟨K,h1,h2,h3⟩
  ·by_cases c:p n
   ·refine .inl fun j hj=>?_
    by_cases e:j=n
    ·subst e;exact c
    ·exact h j (by omega)
   ·exact .inr ⟨n,by omega,c,h⟩
  ·exact .inr ⟨K,by omega,h2,h3⟩
section
variable {h:Kp} (hh:Data.sm h) {r:Eb} (hr:Data.sm r)
include hh hr
theorem GN (s:GQ):du h r s=some (nxM h r s)∧fg h r s=some (nxM h r s)∧(nxM h r s).1.2.2.1.length≤150∧(nxM h r s).1.2.2.2.length≤150∧((nxM h r s).2.2=true→s.2.2<(nxM h r s).2.1.2.2∧h.1≤(nxM h r s).2.1.2.2∧(nxM h r s).2.1.2.2≤CL h∧CL h≤h.1+7):=by
 obtain ⟨x,es,ei,k⟩:=Px h hh hr s
 have:nxM h r s=x:=by unfold nxM;rw[es];rfl
 rw[this]
 exact ⟨es,ei,k⟩
theorem Py (s:GQ): ∀i:Nat,(∀j,j<i+1→(nxM h r (drM h r s j).2).2.2=true)→h.1+(i:Int)≤(drM h r s (i+1)).2.2.2∧(drM h r s (i+1)).2.2.2≤h.1+7
 | 0,hk=>by
  obtain ⟨-,-,-,-,k⟩:=GN hh hr (drM h r s 0).2
  have:=k (hk 0 (by omega))
  show _≤(nxM h r (drM h r s 0).2).2.1.2.2∧(nxM h r (drM h r s 0).2).2.1.2.2≤_
  omega
 | i+1,hk=>by
  have ih:=Py s i (fun j hj=>hk j (by omega))
  obtain ⟨-,-,-,-,k⟩:=GN hh hr (drM h r s (i+1)).2
  have:=k (hk (i+1) (by omega))
  show _≤(nxM h r (drM h r s (i+1)).2).2.1.2.2∧(nxM h r (drM h r s (i+1)).2).2.1.2.2≤_
  omega
theorem Kq (s:GQ): ∀i,∀m∈(drM h r s i).1,m.2.2.1.length≤150∧m.2.2.2.length≤150
 | 0,m,hm=>by cases hm
 | i+1,m,hm=>by
  rw[drM] at hm
  rcases List.mem_append.1 hm with hm | hm
  ·exact Kq s i m hm
  ·obtain rfl:=List.mem_singleton.1 hm
   obtain ⟨-,-,k1,k2,-⟩:=GN hh hr (drM h r s i).2
   exact ⟨k1,k2⟩
theorem Pz (s:GQ): ∃K,K≤8∧ ¬(nxM h r (drM h r s K).2).2.2=true∧ ∀j,j<K→(nxM h r (drM h r s j).2).2.2=true:=by
 rcases GM (fun j=>(nxM h r (drM h r s j).2).2.2=true) 9 with k | ⟨K,h1,h2,h3⟩
 ·have:=Py hh hr s 8 (fun j hj=>k j (by omega))
  omega
 ·exact ⟨K,by omega,h2,h3⟩
theorem LY (s:GQ): ∃(l:List VL) (t:GQ),ig h r s=some (l,t)∧fh h r s=some (l,t)∧l.length≤8∧ ∀m∈l,m.2.2.1.length≤150∧m.2.2.2.length≤150:=by
 obtain ⟨K,h1,h2,h3⟩:=Pz hh hr s
 refine ⟨(drM h r s K).1,(drM h r s K).2,?_,?_,by rw[Et];exact h1,Kq hh hr s K⟩
 ·unfold ig
  obtain ⟨o,e,rfl⟩:=cm (f:=ix h r) (fun i x=>x=((drM h r s i).1,(i:Int),(drM h r s i).2.1,(drM h r s i).2.2.1,(drM h r s i).2.2.2)) (fun o=>o= .ret ((drM h r s K).1,(drM h r s K).2)) K (s:=(([] :List VL),0,s.1,s.2.1,s.2.2)) (by
   rintro i x hi rfl
   obtain ⟨es,-,-⟩:=GN hh hr (drM h r s i).2
   have es:du (h.1,h.2) (r.1,r.2) ((drM h r s i).2.1,(drM h r s i).2.2.1,(drM h r s i).2.2.2)=_:=es
   unfold ix
   simp only
   rw[if_pos (by simp only[decide_eq_true_eq];omega),es];simp only[Option.bind_some]
   by_cases c:i<K
   ·rw[if_pos (h3 i c),aw (by rw[Et];simp;omega),aa (by omega)]
    exact .inl ⟨c,_,rfl,rfl⟩
   ·obtain rfl:i=K:=by omega
    rw[if_neg h2]
    exact .inr ⟨_,rfl,(fun s' e=>by cases e),rfl⟩) rfl (lU (by omega))
  rw[aW e]
 ·unfold fh
  obtain ⟨o,e,rfl⟩:=cm (f:=iy h r) (fun i x=>x=((drM h r s i).1,(drM h r s i).2.1,(drM h r s i).2.2.1,(drM h r s i).2.2.2)) (fun o=>o= .ret ((drM h r s K).1,(drM h r s K).2)) K (s:=(([] :List VL),s.1,s.2.1,s.2.2)) (by
   rintro i x hi rfl
   obtain ⟨-,ei,-⟩:=GN hh hr (drM h r s i).2
   have ei:fg (h.1,h.2) (r.1,r.2) ((drM h r s i).2.1,(drM h r s i).2.2.1,(drM h r s i).2.2.2)=_:=ei
   unfold iy
   simp only
   rw[ei];simp only[Option.bind_some]
   by_cases c:i<K
   ·rw[if_pos (h3 i c),aw (by rw[Et];simp;omega)]
    exact .inl ⟨c,_,rfl,rfl⟩
   ·obtain rfl:i=K:=by omega
    rw[if_neg h2]
    exact .inr ⟨_,rfl,(fun s' e=>by cases e),rfl⟩) rfl (lU (by omega))
  rw[aW e]
end
theorem yj (x:Kp) (y:Eb) (z:GQ) (hx:Data.lim x) (hy:Data.lim y) (_:Data.lim z):da x y z=some true:=by
 unfold da
 simp only[dH]
 obtain ⟨r1,e1,k1⟩:=Ii x 1048576 hx (by decide) (by decide)
 rw[e1];simp only[Option.bind_some]
 rcases k1 with k1 | ⟨k1,j1,s1⟩
 ·rw[if_pos (decide_eq_true k1)]
 rw[if_neg (by simpa using k1)]
 obtain ⟨r2,e2,k2⟩:=Gg y r1 hy k1 j1
 rw[e2];simp only[Option.bind_some]
 rcases k2 with k2 | ⟨k2,j2,s2⟩
 ·rw[if_pos (decide_eq_true k2)]
 rw[if_neg (by simpa using k2)]
 obtain ⟨m,s,es,ei,hl1,hl2⟩:=LY s1 s2 z
 have s3:Data.sm m:=⟨by omega,fun q hq=>⟨trivial,trivial,Ki (by have:=(hl2 q hq).1;omega),Ki (by have:=(hl2 q hq).2;omega)⟩⟩
 have sz:Data.sm z:=⟨trivial,trivial,trivial⟩
 have ss:Data.sm s:=⟨trivial,trivial,trivial⟩
 have b1:=LG x s1
 have b2:=Iu y s2
 have b3:=Iq m s3
 have em1:=LH x s1 (k:=1) (by omega)
 have em2:=Iv y s2 (k:=1+kD x) (by omega)
 have em3:=Ir m s3 (k:=1) (by omega)
 have eh3:=Is m s3 (k:=1) (by omega)
 have em1:gq x 1=_:=em1
 have em3:fQ m 1=_:=em3
 have eh3:dR (mkd cd nh m 1) 1=_:=eh3
 simp only[Ij x s1,Gh y s2,BF z sz,es,ei,Gk m m s3 s3,BG s s ss ss,Ik x x s1 s1,Gi y y s2 s2,Option.bind_some,dH,em1,em2,em3,eh3,decide_true,if_true]
 have n1: ¬((1+kD x+jH y:Nat):Int)<0:=by omega
 have n2: ¬((1+smk cd m:Nat):Int)<0:=by omega
 simp only[decide_eq_true_eq,n1,n2,if_false,bne_self_eq_false,Bool.false_eq_true]
end D
open Go.ChangeShapes Go.WideShapes Go.ChangeAt Go.RowKit
theorem own:ownKnob Tryz.prog.godebug=none:=by kernel_rfl
theorem laidOut:laidOutB Tryz.prog=true:=by kernel_rfl
theorem v8 {H:Type} {enc:TypeId×Value→H} {P:Program} (hl:laidOutB P=true) {W W':World} (hb:Below W.heap.size W W') :
  ∀ {ts:List TypeId} {vs:List Value} {ds:List (DataW H)} {ps:List MemPlace},(∀t∈ts,P.readableRec t=true∧t<P.types.size)→
   DataW.TrodAll enc P W 0 (fun _=>true) true ts vs ds ps→(∀x∈ps,x.block<W.heap.size)→DataW.TrodAll enc P W' 0 (fun b=>decide (b<W.heap.size)) true ts vs ds ps
 | [],[],[],ps,_,h,_=>h
 | t::ts,v::vs,d::ds,ps,hr,⟨p,q,h1,h2,h3⟩,hlt=>by
  subst h3
  exact ⟨p,q,Below.trod hl (hr t (by simp)).1 (hr t (by simp)).2 h1 hb fun x hx=>hlt x (by simp[hx]),v8 hl hb (fun t ht=>hr t (by simp[ht])) h2 fun x hx=>hlt x (by simp[hx]),rfl⟩
 | [],_::_,_,_,_,h,_=>h.elim
 | [],[],_::_,_,_,h,_=>h.elim
 | _::_,[],_,_,_,h,_=>h.elim
 | _::_,_::_,[],_,_,h,_=>h.elim
theorem Si {H:Type} {enc:TypeId×Value→H} {f:Func} {s:ChangeSpec} {W W':World} {args:Array Value} {ds:List (DataW H)} {before:List MemPlace} (tb:TypeId)
  (hb:Tryz.prog.underlying tb=some .bool) (hr:f.resultTypes= #[tb]) (hp:(f.params.toList.all fun t=>Tryz.prog.readableRec t&&decide (t<Tryz.prog.types.size))=true) (hv:s.vars= [])
  (hW:DataW.Whole enc Tryz.prog f.params.toList s.vars false W args.toList ds [] before) (hres:(s.fn H (ds++ [])).results= [.lit (.bool true)]) (hargs:(s.fn H (ds++ [])).args=ds) (hvars:(s.fn H (ds++ [])).vars= [])
  (hbel:Below W.heap.size W W'):s.post enc Tryz.prog f false true false false W args (.bool true) W':=by
 obtain ⟨p,q,h1,h2,h3,h4,h5⟩:=hW
 have hW':DataW.Whole enc Tryz.prog f.params.toList s.vars false W args.toList ds [] before:=⟨p,q,h1,h2,h3,h4,h5⟩
 have hq:q= []:=by rw[hv] at h2;exact h2
 subst hq
 simp only[List.append_nil] at h3
 subst h3
 refine ⟨ds,[],before,[],before,[],hW',?_,?_,?_,hbel.frame _,fun h=>by cases h⟩
 ·rw[hres,hr]
  exact trodAll_mk1 (shut_bool hb true)
 ·rw[hargs]
  exact v8 laidOut hbel (fun t ht=>by have:=List.all_eq_true.1 hp t ht;simpa using this) h1 fun x hx=>by simpa using hW'.lt x hx
 ·rw[hvars,hv];rfl
open Go.ChangeShapes Go.WideShapes Go.ChangeAt Go.RowKit
namespace D
theorem op3:Opens Tryz.prog 3 bp:=Of Tryz.underlying3
theorem Zs:Opens Tryz.prog 26 (ae 3 bp):=gP Tryz.underlying26 (by kernel_rfl) (by decide) op3
theorem YO:Opens Tryz.prog 156 (aD bp (aD bp (aD bp bp))):=by
 refine eu Tryz.underlying156 (by kernel_rfl) ?_
 refine cP (R:=bp) (S:=aD (bp) (aD (bp) (bp))) rfl (by kernel_rfl) op3 ?_
 refine cP (R:=bp) (S:=aD (bp) (bp)) rfl (by kernel_rfl) op3 ?_
 refine cP (R:=bp) (S:=bp) rfl (by kernel_rfl) op3 ?_
 exact iq rfl (by kernel_rfl) op3
theorem ZA:Opens Tryz.prog 27 (ae 156 (aD bp (aD bp (aD bp bp)))):=gP Tryz.underlying27 (by kernel_rfl) (by decide) YO
theorem ZB:Opens Tryz.prog 29 (aD (ae 3 bp) (ae 156 (aD bp (aD bp (aD bp bp))))):=by
 refine eu Tryz.underlying29 (by kernel_rfl) ?_
 refine cP (R:=ae 3 bp) (S:=ae 156 (aD bp (aD bp (aD bp bp)))) rfl (by kernel_rfl) Zs ?_
 exact iq rfl (by kernel_rfl) ZA
theorem ZC:Opens Tryz.prog 51 (ae 29 (aD (ae 3 bp) (ae 156 (aD bp (aD bp (aD bp bp)))))):=gP Tryz.underlying51 (by kernel_rfl) (by decide) ZB
theorem ZD:Opens Tryz.prog 53 (aD bp (ae 29 (aD (ae 3 bp) (ae 156 (aD bp (aD bp (aD bp bp))))))):=by
 refine eu Tryz.underlying53 (by kernel_rfl) ?_
 refine cP (R:=bp) (S:=ae 29 (aD (ae 3 bp) (ae 156 (aD bp (aD bp (aD bp bp)))))) rfl (by kernel_rfl) op3 ?_
 exact iq rfl (by kernel_rfl) ZC
theorem YP {W:World} {base:Nat} {z:Value} {H:Type} {enc:TypeId×Value→H} {d:DataW H} {p:List MemPlace} (hv:Value.okWide Tryz.prog W .any base 53 z) (h:DataW.Trod enc Tryz.prog W 0 (fun _=>true) true 53 z d p) :
  ∃(x:Int×(List ((List Int)×(List (Int×Int×Int×Int))))) (v0:Value),z= .agg #[.int .i64 x.1,v0] ∧Data.lim x∧(ae 29 (aD (ae 3 bp) (ae 156 (aD bp (aD bp (aD bp bp)))))).rd (hp W) [v0] x.2:=by
 obtain ⟨fuel,hf⟩:=h
 obtain ⟨⟨cs⟩,rfl,-⟩:=okWide_struct Tryz.underlying53 hv
 obtain ⟨x,hx,hl⟩:=ZD.out enc W _ _ _ hf
 have hx:(aD bp (ae 29 (aD (ae 3 bp) (ae 156 (aD bp (aD bp (aD bp bp))))))).rd (hp W) cs x:=hx
 obtain ⟨_,_,rfl,rfl,r0⟩:=hx
 obtain ⟨v0,rfl⟩:=one_cell r0 rfl
 exact ⟨x,v0,rfl,hl,r0⟩
theorem op4:Opens Tryz.prog 4 q9:=Lw Tryz.underlying4
theorem ZE:Opens Tryz.prog 89 (ae 4 q9):=gP Tryz.underlying89 (by kernel_rfl) (by decide) op4
theorem ZF:Opens Tryz.prog 90 (ae 26 (ae 3 bp)):=gP Tryz.underlying90 (by kernel_rfl) (by decide) Zs
theorem YQ:Opens Tryz.prog 133 (aD bp (aD (ae 4 q9) (ae 26 (ae 3 bp)))):=by
 refine eu Tryz.underlying133 (by kernel_rfl) ?_
 refine cP (R:=bp) (S:=aD (ae 4 q9) (ae 26 (ae 3 bp))) rfl (by kernel_rfl) op3 ?_
 refine cP (R:=ae 4 q9) (S:=ae 26 (ae 3 bp)) rfl (by kernel_rfl) ZE ?_
 exact iq rfl (by kernel_rfl) ZF
theorem ZG:Opens Tryz.prog 22 (ae 133 (aD bp (aD (ae 4 q9) (ae 26 (ae 3 bp))))):=gP Tryz.underlying22 (by kernel_rfl) (by decide) YQ
theorem YR:Opens Tryz.prog 232 (aD bp (aD bp (aD bp bp))):=by
 refine eu Tryz.underlying232 (by kernel_rfl) ?_
 refine cP (R:=bp) (S:=aD (bp) (aD (bp) (bp))) rfl (by kernel_rfl) op3 ?_
 refine cP (R:=bp) (S:=aD (bp) (bp)) rfl (by kernel_rfl) op3 ?_
 refine cP (R:=bp) (S:=bp) rfl (by kernel_rfl) op3 ?_
 exact iq rfl (by kernel_rfl) op3
theorem YS:Opens Tryz.prog 135 (ae 232 (aD bp (aD bp (aD bp bp)))):=gP Tryz.underlying135 (by kernel_rfl) (by decide) YR
theorem YT:Opens Tryz.prog 137 (ae 232 (aD bp (aD bp (aD bp bp)))):=by
 refine eu Tryz.underlying137 (by kernel_rfl) ?_
 exact iq rfl (by kernel_rfl) YS
theorem YU:Opens Tryz.prog 139 (aD bp (aD (ae 232 (aD bp (aD bp (aD bp bp)))) bp)):=by
 refine eu Tryz.underlying139 (by kernel_rfl) ?_
 refine cP (R:=bp) (S:=aD (ae 232 (aD bp (aD bp (aD bp bp)))) (bp)) rfl (by kernel_rfl) op3 ?_
 refine cP (R:=ae 232 (aD bp (aD bp (aD bp bp)))) (S:=bp) rfl (by kernel_rfl) YT ?_
 exact iq rfl (by kernel_rfl) op3
theorem ZH:Opens Tryz.prog 23 (ae 139 (aD bp (aD (ae 232 (aD bp (aD bp (aD bp bp)))) bp))):=gP Tryz.underlying23 (by kernel_rfl) (by decide) YU
theorem ZI:Opens Tryz.prog 25 (aD (ae 133 (aD bp (aD (ae 4 q9) (ae 26 (ae 3 bp))))) (ae 139 (aD bp (aD (ae 232 (aD bp (aD bp (aD bp bp)))) bp)))):=by
 refine eu Tryz.underlying25 (by kernel_rfl) ?_
 refine cP (R:=ae 133 (aD bp (aD (ae 4 q9) (ae 26 (ae 3 bp))))) (S:=ae 139 (aD bp (aD (ae 232 (aD bp (aD bp (aD bp bp)))) bp))) rfl (by kernel_rfl) ZG ?_
 exact iq rfl (by kernel_rfl) ZH
theorem YV {W:World} {base:Nat} {z:Value} {H:Type} {enc:TypeId×Value→H} {d:DataW H} {p:List MemPlace} (hv:Value.okWide Tryz.prog W .any base 25 z) (h:DataW.Trod enc Tryz.prog W 0 (fun _=>true) true 25 z d p) :
  ∃(x:(List (Int×(List Bool)×(List (List Int))))×(List (Int×((List (Int×Int×Int×Int)))×Int))) (v0:Value) (v1:Value),z= .agg #[v0,v1] ∧Data.lim x∧(ae 133 (aD bp (aD (ae 4 q9) (ae 26 (ae 3 bp))))).rd (hp W) [v0] x.1∧(ae 139 (aD bp (aD (ae 232 (aD bp (aD bp (aD bp bp)))) bp))).rd (hp W) [v1] x.2:=by
 obtain ⟨fuel,hf⟩:=h
 obtain ⟨⟨cs⟩,rfl,-⟩:=okWide_struct Tryz.underlying25 hv
 obtain ⟨x,hx,hl⟩:=ZI.out enc W _ _ _ hf
 have hx:(aD (ae 133 (aD bp (aD (ae 4 q9) (ae 26 (ae 3 bp))))) (ae 139 (aD bp (aD (ae 232 (aD bp (aD bp (aD bp bp)))) bp)))).rd (hp W) cs x:=hx
 obtain ⟨_,_,rfl,r0,r1⟩:=hx
 obtain ⟨v0,rfl⟩:=one_cell r0 rfl
 obtain ⟨v1,rfl⟩:=one_cell r1 rfl
 exact ⟨x,v0,v1,rfl,hl,r0,r1⟩
theorem ZJ:Opens Tryz.prog 55 (aD bp (aD bp bp)):=by
 refine eu Tryz.underlying55 (by kernel_rfl) ?_
 refine cP (R:=bp) (S:=aD (bp) (bp)) rfl (by kernel_rfl) op3 ?_
 refine cP (R:=bp) (S:=bp) rfl (by kernel_rfl) op3 ?_
 exact iq rfl (by kernel_rfl) op3
theorem YW {W:World} {base:Nat} {z:Value} {H:Type} {enc:TypeId×Value→H} {d:DataW H} {p:List MemPlace} (hv:Value.okWide Tryz.prog W .any base 55 z) (h:DataW.Trod enc Tryz.prog W 0 (fun _=>true) true 55 z d p) :
  ∃(x:Int×Int×Int),z= .agg #[.int .i64 x.1,.int .i64 x.2.1,.int .i64 x.2.2] ∧Data.lim x:=by
 obtain ⟨fuel,hf⟩:=h
 obtain ⟨⟨cs⟩,rfl,-⟩:=okWide_struct Tryz.underlying55 hv
 obtain ⟨x,hx,hl⟩:=ZJ.out enc W _ _ _ hf
 have hx:(aD bp (aD bp bp)).rd (hp W) cs x:=hx
 obtain ⟨_,_,rfl,rfl,⟨_,_,rfl,rfl,rfl⟩⟩:=hx
 exact ⟨x,rfl,hl⟩
end D
open D (Data)
theorem w9 (W:World) (args:Array Value) (H:Type) (enc:TypeId×Value→H) (base:Nat) (ds gs:List (DataW H)) (before:List MemPlace)
  (hval: ∀(j:Nat) t v,Tryz.f7.params[j]? =some t→args[j]? =some v→Value.okWide Tryz.prog W .any base t v)
  (hW:DataW.Whole enc Tryz.prog Tryz.f7.params.toList Rows.fnExactDrainMessagesSpec.vars false W args.toList ds gs before) :
  Calls Tryz.prog 7 args W fun e W'=> ∃v,e= .returned v∧Rows.fnExactDrainMessagesSpec.post enc Tryz.prog Tryz.f7 false true false false W args v W':=by
 have hW':=hW
 obtain ⟨p,q,hA,hV,rfl,hfz,hnd⟩:=hW
 rw[Tryz.params7] at hA hval
 obtain ⟨z0,vs0,d0,ds0,p0,q0,hargs,rfl,rfl,h0,r0⟩:=trodAll_cons hA
 obtain ⟨z1,vs1,d1,ds1,p1,q1,rfl,rfl,rfl,h1,r1⟩:=trodAll_cons r0
 obtain ⟨z2,vs2,d2,ds2,p2,q2,rfl,rfl,rfl,h2,r2⟩:=trodAll_cons r1
 obtain ⟨rfl,rfl,rfl⟩:=trodAll_nil r2
 obtain rfl:args= #[z0,z1,z2]:=by cases args;simp_all
 obtain ⟨rfl,rfl⟩:=trodVars_none hV
 obtain ⟨x0,v0_0,rfl,l0,r0_0⟩:=D.YP (hval 0 _ _ rfl rfl) h0
 obtain ⟨x1,v1_0,v1_1,rfl,l1,r1_0,r1_1⟩:=D.YV (hval 1 _ _ rfl rfl) h1
 obtain ⟨x2,rfl,l2⟩:=D.YW (hval 2 _ _ rfl rfl) h2
 have hc:=D.pH x0 x1 x2 true (D.yj x0 x1 x2 l0 l1 l2) (I:=D.hp W) (w0:=W) v0_0 v1_0 v1_1 r0_0 r1_0 r1_1 W [] (D.St.init W)
 refine hc.mono fun e W' ⟨v,he,hv,hs⟩=>?_
 subst he;subst hv
 exact ⟨_,rfl,Si (f:=Tryz.f7) (s:=Rows.fnExactDrainMessagesSpec) 4 Tryz.underlying4 rfl (by kernel_rfl) rfl hW' rfl rfl rfl (D.St.below hs)⟩
theorem te (os:Os) (started:os.Started) (H:Type) (enc:TypeId×Value→H) :
  ReturnsInHanded {} Tryz.checked os 7 .any (Rows.fnExactDrainMessagesSpec.pre6 enc Tryz.prog Tryz.f7 Rows.fnExactDrainMessagesRow.domain false) (Rows.fnExactDrainMessagesSpec.post enc Tryz.prog Tryz.f7 false true false false):=by
 refine returnsInHanded_of_change_sized (C:=Tryz.checked) own started (by kernel_rfl) Tryz.func7
  (ChangeSpec.witness6 (enc:=enc) (C:=Tryz.checked) false ⟨#[],#[.agg #[.int .i64 0,.slice none 0 0],.agg #[.slice none 0 0,.slice none 0 0],.agg #[.int .i64 0,.int .i64 0,.int .i64 0]],[]⟩ 8 (by kernel_rfl) (by kernel_rfl) (by kernel_rfl) (by kernel_rfl)) ?_
 intro W base args ds gs before hval hW hcnd hsz _
 exact w9 W args H enc base ds gs before hval hW
set_option maxHeartbeats 4000000 in
theorem tf:joinedFacts Tryz.pinned.checked.prog 7 Tryz.f7 Rows.fnExactDrainMessagesSpec Rows.fnExactDrainMessagesRow=true:=by
 unfold joinedFacts
 repeat' (with_reducible refine Bool.and_eq_true_iff.2 ⟨?_,?_⟩)
 all_goals as_aux_lemma=>kernel_rfl
theorem holdsLDrainMessages:Rows.FnExactDrainMessagesSaid:=
 OpenClaim.holds_of_wide 7 Tryz.f7 rfl rfl rfl rfl rfl rfl rfl ⟨rfl,rfl,rfl,rfl,rfl⟩ rfl rfl rfl rfl rfl (by kernel_rfl) Tryz.func7 tf
  (of_decide_eq_true (by kernel_rfl)) (by unfold Func.isWrapper;first | (rw[if_pos (by decide +kernel)];kernel_rfl) | (rw[if_neg (by decide +kernel)];exact ⟨rfl,rfl⟩))
  (fun os started H enc _=>te os started H enc)
end Go.Proofs.YtakjhbbbjbebdaaGreat
