/- FnExactAuditMessages: for every input the law returns true and changes nothing that was there. Part 8 of 8. -/
import Derived.Test.YtakjhbbbjbebdaaGreatGC6
set_option linter.unusedVariables false
set_option linter.unusedSimpArgs false
set_option linter.unnecessarySimpa false
set_option linter.unusedSectionVars false
set_option maxRecDepth 1000000
namespace Go.Proofs.YtakjhbbbjbebdaaGreat
namespace D
open Go.RowKit
theorem AQ (g:GrT):bI g=aF g:=by
 have h0:ng g=dG g:=rfl
 have h1:je g=cL g:=by
  funext s
  unfold je cL
  split
  ·cases hx:az g.2 s with
   | none=>rfl
   | some x=>rfl
  ·rfl
 unfold bI aF
 rw[h0,h1];rfl
def GOOD (g:GrT) (a:AutT):Prop:=GOk g∧a.2.1.length≤12∧VA a a.2.1.length
theorem OE (g:GrT) (a:AutT) (hg:Data.sm g) (ha:Data.sm a): ∃b c,bI g=some b∧aF g=some b∧cy a=some c∧bQ a=some c∧(b=true→GOk g)∧(c=true→a.2.1.length≤12∧VA a a.2.1.length):=by
 obtain ⟨b,e1,k1⟩:=DT g (aw hg.1).1 (aw hg.2).1
 have hb:=(aw ha.2.1).1
 have hn:=aw ha.2.2
 obtain ⟨c,e2,k2⟩:=UT a (by omega) (by omega) (fun r hr=>by have:=(aw (hn.2 r hr)).1;omega)
 obtain ⟨c',e3,k3⟩:=US a (by omega) (by omega)
 have hc:c'=c:=by
  cases c <;> cases c' <;> simp_all
 subst hc
 exact ⟨b,c',by rw[AQ,e1],e1,e3,e2,k1,fun h=>k2.1 h⟩
theorem OF (g:GrT) (a:AutT) (hg:Data.sm g) (ha:Data.sm a) (x:Int): ∃b,jf g a x 0=some b∧cA g a [x] =some b∧(b=true→GOOD g a∧0≤x∧x<g.1.length):=by
 obtain ⟨b,c,e1,e2,e3,e4,k1,k2⟩:=OE g a hg ha
 have hl:=(aw hg.1).1
 have hla:=(aw ha.2.1).1
 have ew:IntKind.i64.wrap ((g.1.length:Int) - 1)=(g.1.length:Int) - 1:=cB (by omega) (by omega)
 have ew2:IntKind.i64.wrap ((a.2.1.length:Int) - 1)=(a.2.1.length:Int) - 1:=cB (by omega) (by omega)
 have es:jf g a x 0=some (b&&(c&&(decide (0≤x∧x≤(g.1.length:Int) - 1)))):=by
  unfold jf
  have e1:bI (g.1,g.2)=_:=e1
  have e3:cy (a.1,a.2.1,a.2.2)=_:=e3
  rw[e1,e3,OY,OY,ew,ew2];simp only[Option.bind_some]
  cases b <;> cases c <;> simp only[Bool.false_eq_true,if_false,if_true,Bool.false_and,Bool.true_and]
  by_cases h:0≤x∧x≤(g.1.length:Int) - 1
  ·have:=(k2 rfl).2.start
   simp only[h,and_self,decide_true,if_true]
   rw[decide_eq_true (by omega)]
  ·rw[decide_eq_false h];rfl
 have ei:cA g a [x] =some (b&&(c&&(decide (0≤x∧x≤(g.1.length:Int) - 1)))):=by
  unfold cA
  have e2:aF (g.1,g.2)=_:=e2
  have e4:bQ (a.1,a.2.1,a.2.2)=_:=e4
  rcases Li (f:=cQ g [x]) 1 (fun _=>0≤x∧x≤(g.1.length:Int) - 1) false (by decide) (fun i hi=>by
   obtain rfl:i=0:=by omega
   unfold cQ
   rw[if_pos (by simp),show az [x] ((0:Nat):Int)=some x from rfl];simp only[Option.bind_some]
   rw[Ea,ew];simp only[Option.bind_some,decide_eq_true_eq]
   split <;> rfl) (by unfold cQ;simp) with ⟨k,h⟩ | ⟨k,h⟩
  ·rw[af k,e2,e4];simp only[Option.bind_some]
   rw[decide_eq_true (h 0 (by decide))]
   cases b <;> cases c <;> rfl
  ·rw[aT k,decide_eq_false (fun c=>h fun _ _=>c)]
   cases b <;> cases c <;> rfl
 refine ⟨_,es,ei,fun hb=>?_⟩
 simp only[Bool.and_eq_true,decide_eq_true_eq] at hb
 obtain ⟨h1,h2,h3⟩:=hb
 exact ⟨⟨k1 h1,(k2 h2).1,(k2 h2).2⟩,h3.1,by omega⟩
def nxC (g:GrT) (a:AutT) (z:Int):List Int:=nbC g a z.toNat
section
variable {g:GrT} {a:AutT} (H:GOOD g a)
include H
theorem GOOD.divmod {x:Int} (h0:0≤x) (h1:x<(a.2.1.length*g.1.length:Nat)):x.toNat / a.2.1.length<g.1.length∧x.toNat % a.2.1.length<a.2.1.length:=by
 have hp:=H.2.2.pos
 exact ⟨(Nat.div_lt_iff_lt_mul hp).2 (by rw[Nat.mul_comm];omega),Nat.mod_lt _ hp⟩
theorem WJ (x:Int) (h0:0≤x) (h1:x<(a.2.1.length*g.1.length:Nat)): ∀y∈nxC g a x,0≤y∧y<(a.2.1.length*g.1.length:Nat):=by
 obtain ⟨k1,k2⟩:=H.divmod h0 h1
 exact WD H.1 H.2.2 H.2.1 k1 k2
theorem UU {x:Int} (h0:0≤x) (h1:x<(a.2.1.length*g.1.length:Nat)):(nxC g a x).length≤720:=by
 obtain ⟨k1,k2⟩:=H.divmod h0 h1
 have:=rP (f:=nbA g a (x.toNat / a.2.1.length) (x.toNat % a.2.1.length)) (B:=30) (xs:=kp g.2 (x.toNat / a.2.1.length)) fun y hy=>OC H.1 H.2.2 H.2.1 k1 k2 hy
 have l1:=sE g.2 (x.toNat / a.2.1.length)
 have:=H.1.m
 show (nbV g a _ _).length≤720
 unfold nbV
 omega
end
def nxN (g:GrT) (a:AutT) (z:Int):List Int:=if 0≤z∧z<(a.2.1.length*g.1.length:Nat) then nxC g a z else []
section
variable {g:GrT} {a:AutT} (H:GOOD g a)
include H
theorem vM: ∀x:Int,0≤x→x<(a.2.1.length*g.1.length:Nat)→ ∀y∈nxN g a x,0≤y∧y<(a.2.1.length*g.1.length:Nat):=fun x h0 h1=>by
 unfold nxN;rw[if_pos ⟨h0,h1⟩];exact WJ H x h0 h1
theorem Il (x:Int):(nxN g a x).length≤720:=by
 unfold nxN;split
 ·rename_i h;exact UU H h.1 h.2
 ·simp
theorem UV:dX g a=some (rm (a.2.1.length*g.1.length) fun z=>nxN g a (z:Int)):=by
 rw[UL H.1 H.2.2 H.2.1]
 congr 1
 refine mN fun z hz=>?_
 unfold nxN
 rw[if_pos ⟨by omega,by omega⟩];rfl
theorem Rq {x:Int} (h0:0≤x) (h1:x<(a.2.1.length*g.1.length:Nat)): ∃l:List UM,jq g a (Gy x (a.2.1.length:Int)) (Int.tmod x (a.2.1.length:Int))=some l∧l.map (fun p=>p.2.1*(a.2.1.length:Int)+p.2.2)=nxN g a x∧ ∀p∈l,(0≤p.2.1∧p.2.1<60)∧0≤p.2.2∧p.2.2<60:=by
 obtain ⟨k1,k2⟩:=H.divmod h0 h1
 have hp:=H.2.2.pos
 have hN:=nN H.1 H.2.2 H.2.1
 have e1:Gy x (a.2.1.length:Int)=((x.toNat / a.2.1.length:Nat):Int):=by
  unfold Gy
  have:x.tdiv (a.2.1.length:Int)=((x.toNat / a.2.1.length:Nat):Int):=by
   rw[Int.tdiv_eq_ediv_of_nonneg h0]
   rw[show x / (a.2.1.length:Int)=((x.toNat:Nat):Int) / (a.2.1.length:Int) from by rw[Int.toNat_of_nonneg h0]]
   simp
  rw[this,vx (by have:=H.1.n5;omega)]
 have e2:Int.tmod x (a.2.1.length:Int)=((x.toNat % a.2.1.length:Nat):Int):=by
  rw[Int.tmod_eq_emod_of_nonneg h0]
  rw[show x % (a.2.1.length:Int)=((x.toNat:Nat):Int) % (a.2.1.length:Int) from by rw[Int.toNat_of_nonneg h0]]
  simp
 refine ⟨_,by rw[e1,e2];exact UO H.1 H.2.2 H.2.1 k1 k2,?_,fun p hp=>?_⟩
 ·rw[WH];unfold nxN;rw[if_pos ⟨h0,h1⟩];rfl
 ·obtain ⟨y,hy,hp⟩:=List.mem_flatMap.1 hp
  obtain ⟨t,ht,rfl⟩:=List.mem_map.1 hp
  have h2:=(AN H.1 hy).2
  have h3:=(vL H.1 H.2.2 H.2.1 (s:=((x.toNat % a.2.1.length:Nat):Int)) ⟨by omega,by omega⟩ (H.1.val _ (bH (xs:=g.1) (i:=((x.toNat / a.2.1.length:Nat):Int)) (Int.natCast_nonneg _) (Int.ofNat_lt.2 k1))) (AN H.1 hy).1).1 t ht
  have:=H.1.n5
  have:=H.2.1
  exact ⟨⟨h2.1,by simp only;omega⟩,h3.1,by simp only;omega⟩
end
def RKs (g:GrT) (a:AutT) (v:Int):List Int:=(bsS (nxN g a) (a.2.1.length*g.1.length) v (a.2.1.length*g.1.length)).1
theorem DX {nx:Int→List Int} {N:Nat} {v:Int} (hv:0≤v∧v<N) (hn: ∀x:Int,0≤x→x<N→ ∀y∈nx x,0≤y∧y<N) {K:Nat} (hE:K=(bsS nx N v K).2.length): ∀d,bsS nx N v (K+d)=bsS nx N v K
 | 0=>rfl
 | d+1=>by
  have ih:=DX hv hn hE d
  rw[←Nat.add_assoc,bsS,ih]
  have:(bsS nx N v K).2[K+d]? =none:=List.getElem?_eq_none (by omega)
  rw[this]
section
variable {g:GrT} {a:AutT} (H:GOOD g a) {x:Int} (hx:0≤x∧x<g.1.length)
include H hx
theorem Sw:0≤x*(a.2.1.length:Int)+a.1∧x*(a.2.1.length:Int)+a.1<(a.2.1.length*g.1.length:Nat):=by
 obtain ⟨z,rfl⟩: ∃z:Nat,x=(z:Int):=⟨_,(Int.toNat_of_nonneg hx.1).symm⟩
 have hs:=H.2.2.start
 obtain ⟨s,hs'⟩: ∃s:Nat,a.1=(s:Int):=⟨_,(Int.toNat_of_nonneg hs.1).symm⟩
 rw[hs'] at hs⊢
 have:=cN H.1 H.2.2 H.2.1 (x:=z) (s:=s) (by omega) (by omega)
 constructor
 ·exact Int.add_nonneg (Int.mul_nonneg (by omega) (by omega)) (by omega)
 ·exact_mod_cast this
theorem Sx:IntKind.i64.wrap ((IntKind.i64.wrap (x*(a.2.1.length:Int)))+a.1)=x*(a.2.1.length:Int)+a.1:=by
 have h:=Sw H hx
 have hN:=nN H.1 H.2.2 H.2.1
 have hs:=H.2.2.start
 have hn:=H.2.1
 have h5:=H.1.n5
 rw[cB (n:=x*(a.2.1.length:Int)) (by omega) (by omega),cB (by omega) (by omega)]
theorem X2:BI (a.2.1.length*g.1.length) (bsS (nxN g a) (a.2.1.length*g.1.length) (x*(a.2.1.length:Int)+a.1) (a.2.1.length*g.1.length)):=AP (Sw H hx) (vM H) _
theorem OG:(RKs g a (x*(a.2.1.length:Int)+a.1)).length=a.2.1.length*g.1.length:=(X2 H hx).len
theorem WK (e:cA g a [x] =some true):ff g a x=some (RKs g a (x*(a.2.1.length:Int)+a.1)):=by
 unfold ff
 have e:cA (g.1,g.2) (a.1,a.2.1,a.2.2) [x] =_:=e
 rw[e];simp only[Option.bind_some,if_true]
 have e2:dX (g.1,g.2) (a.1,a.2.1,a.2.2)=_:=UV H
 rw[e2];simp only[Option.bind_some]
 have hN:=nN H.1 H.2.2 H.2.1
 obtain ⟨K,hK,hE,hR⟩:=OD (Sw H hx) (vM H)
 rw[Sx H hx,Rp hN (Sw H hx) (vM H) (fun x=>by have:=Il H x;omega) hK hE hR];simp only[Option.bind_some]
 have hk:bsS (nxN g a) (a.2.1.length*g.1.length) (x*(a.2.1.length:Int)+a.1) K=bsS (nxN g a) (a.2.1.length*g.1.length) (x*(a.2.1.length:Int)+a.1) (a.2.1.length*g.1.length):=by
  have:=DX (Sw H hx) (vM H) hE (a.2.1.length*g.1.length - K)
  rw[show K+(a.2.1.length*g.1.length - K)=a.2.1.length*g.1.length from by omega] at this
  exact this.symm
 have hl:=OG H hx
 rw[hk]
 show ((chk _).bind fun _=>_).bind _=_
 have hv:=Sw H hx
 rw[iz (by rw[show (bsS _ _ _ _).1.length=_ from hl];omega)];rfl
theorem X3 {o1 o2:List Int} {i:Nat} {z:Int} {l:List UM} (hz:(bsS (nxN g a) (a.2.1.length*g.1.length) (x*(a.2.1.length:Int)+a.1) i).2[i]? =some z)
  (hl:l.map (fun p=>p.2.1*(a.2.1.length:Int)+p.2.2)=nxN g a z) (hp: ∀p∈l,(0≤p.2.1∧p.2.1<60)∧0≤p.2.2∧p.2.2<60) :
  ai (gE a (o1,o2,(i:Int)) l) aC ((bsS (nxN g a) (a.2.1.length*g.1.length) (x*(a.2.1.length:Int)+a.1) i).1,(bsS (nxN g a) (a.2.1.length*g.1.length) (x*(a.2.1.length:Int)+a.1) i).2,0)=some (.brk ((bsS (nxN g a) (a.2.1.length*g.1.length) (x*(a.2.1.length:Int)+a.1) (i+1)).1,(bsS (nxN g a) (a.2.1.length*g.1.length) (x*(a.2.1.length:Int)+a.1) (i+1)).2,(l.length:Int))):=by
 have hN:=nN H.1 H.2.2 H.2.1
 have hv:=Sw H hx
 have hnn:=H.2.1
 generalize hV:x*(a.2.1.length:Int)+a.1=v at hz hv⊢
 have hlen:l.length≤720:=by have:=Il H z;rw[←hl,List.length_map] at this;exact this
 have e:bsS (nxN g a) (a.2.1.length*g.1.length) v (i+1)=CA (nth (bsS (nxN g a) (a.2.1.length*g.1.length) v i).1 z+1) (bsS (nxN g a) (a.2.1.length*g.1.length) v i) (nxN g a z):=by rw[bsS,hz]
 have:=aD (f:=gE a (o1,o2,(i:Int)) l) (fun j=>((CA (nth (bsS (nxN g a) (a.2.1.length*g.1.length) v i).1 z+1) (bsS (nxN g a) (a.2.1.length*g.1.length) v i) ((nxN g a z).take j)).1,(CA (nth (bsS (nxN g a) (a.2.1.length*g.1.length) v i).1 z+1) (bsS (nxN g a) (a.2.1.length*g.1.length) v i) ((nxN g a z).take j)).2,(j:Int))) l.length (fun j hj=>by
  obtain ⟨k1,k2,k3,⟨x0,x1⟩,k4,k5⟩:=UR hN hv (vM H) (fun x=>by have:=Il H x;omega) hz j
  have hjn:j<(nxN g a z).length:=by rw[←hl,List.length_map];exact hj
  have hy:=vM H z x0 x1 _ (bH (xs:=nxN g a z) (i:=(j:Int)) (by omega) (by omega))
  have hq:=hp _ (bH (xs:=l) (i:=(j:Int)) (by omega) (by omega))
  have hyl:nth (nxN g a z) (j:Int)=(nth l (j:Int)).2.1*(a.2.1.length:Int)+(nth l (j:Int)).2.2:=by rw[←hl,Us (by omega) (by omega)]
  unfold gE
  simp only
  rw[um hjn,Gh]
  generalize CA (nth (bsS (nxN g a) (a.2.1.length*g.1.length) v i).1 z+1) (bsS (nxN g a) (a.2.1.length*g.1.length) v i) ((nxN g a z).take j)=s at k1 k2 k3 k5
  have hle:=k1.le
  have hsl:=k1.len
  rw[if_pos (by simp;omega),ak (by omega) (by omega)];simp only[Option.bind_some]
  rw[cB (n:=(nth l (j:Int)).2.1*(a.2.1.length:Int)) (by omega) (by omega),←hyl,cB (by omega) (by omega)]
  rw[ak (xs:=s.1) hy.1 (by omega)];simp only[Option.bind_some]
  rw[show az s.2 (i:Int)=some z from by unfold az;rw[if_pos (by omega)];exact k2];simp only[Option.bind_some]
  rw[ak (xs:=s.1) x0 (by omega)];simp only[Option.bind_some]
  rw[au (by simp;omega),aa (by omega),k3,cB (by omega) (by omega)]
  unfold Sv
  by_cases c:nth s.1 (nth (nxN g a z) (j:Int))<0
  ·rw[if_pos (by simpa using c),if_pos c];rfl
  ·rw[if_neg (by simpa using c),if_neg c];rfl) (by unfold gE;simp) (mb (by omega))
 have et:(nxN g a z).take l.length=nxN g a z:=by
  have:l.length=(nxN g a z).length:=by rw[←hl,List.length_map]
  rw[this,List.take_length]
 rw[et] at this
 rw[e]
 exact this
theorem UW:lK g a x=some (RKs g a (x*(a.2.1.length:Int)+a.1)):=by
 have hN:=nN H.1 H.2.2 H.2.1
 have hv:=Sw H hx
 have hpos:=H.2.2.pos
 unfold lK
 have ew:IntKind.i64.wrap ((g.1.length:Int)*(a.2.1.length:Int))=((a.2.1.length*g.1.length:Nat):Int):=by
  rw[show ((g.1.length:Int)*(a.2.1.length:Int))=((a.2.1.length*g.1.length:Nat):Int) from by rw[Nat.mul_comm];simp,vx (by omega)]
 have e0:ai (gD g a) aC (([] :List Int),0)=some (.brk (List.replicate (a.2.1.length*g.1.length) (-1),((a.2.1.length*g.1.length:Nat):Int))):=by
  have:=aD (f:=gD g a) (fun i=>(List.replicate i (-1),(i:Int))) (a.2.1.length*g.1.length) (fun i hi=>by
   unfold gD
   simp only
   rw[ew,if_pos (by simp only[decide_eq_true_eq];omega),au (by simp;omega),aa (by omega)];simp only[Option.bind_some]
   rw[List.replicate_succ']) (by unfold gD;simp only;rw[ew,if_neg (by simp)]) (mb (by omega))
  exact this
 rw[af e0,Sx H hx]
 simp only
 generalize hV:x*(a.2.1.length:Int)+a.1=v at hv
 rw[show az [v] 0=some v from rfl];simp only[Option.bind_some]
 rw[ak (xs:=List.replicate _ (-1:Int)) hv.1 (by simpa using hv.2)];simp only[Option.bind_some]
 obtain ⟨K,hK,hE,hR⟩:=OD hv (vM H)
 have:=aD (f:=gF g a) (fun i=>((bsS (nxN g a) (a.2.1.length*g.1.length) v i).1,(bsS (nxN g a) (a.2.1.length*g.1.length) v i).2,(i:Int))) K (fun i hi=>by
  have hi2:=hR i hi
  obtain ⟨z,hz⟩: ∃z,(bsS (nxN g a) (a.2.1.length*g.1.length) v i).2[i]? =some z:=⟨_,List.getElem?_eq_getElem hi2⟩
  obtain ⟨z0,z1⟩:=(AP hv (vM H) i).rng z (List.mem_of_getElem? hz)
  obtain ⟨l,es,hl,hp⟩:=Rq H z0 z1
  have es:jq (g.1,g.2) (a.1,a.2.1,a.2.2) (Gy z (a.2.1.length:Int)) (Int.tmod z (a.2.1.length:Int))=_:=es
  unfold gF
  simp only
  rw[if_pos (by simp only[decide_eq_true_eq];omega)]
  rw[show az (bsS (nxN g a) (a.2.1.length*g.1.length) v i).2 (i:Int)=some z from by unfold az;rw[if_pos (by omega)];exact hz];simp only[Option.bind_some]
  rw[iz (by omega),es];simp only[Option.bind_some]
  have h2:=X3 H hx (o1:=(bsS (nxN g a) (a.2.1.length*g.1.length) v i).1) (o2:=(bsS (nxN g a) (a.2.1.length*g.1.length) v i).2) (by rw[hV];exact hz) hl hp
  rw[hV] at h2
  rw[af h2,aa (by omega)]) (by unfold gF;simp only;rw[if_neg (by simp;omega)]) (mb (by omega))
 have this:ai (gF g a) aC ((List.replicate (a.2.1.length*g.1.length) (-1)).set v.toNat 0,[v],0)=_:=this
 rw[af this]
 simp only
 have:=DX hv (vM H) hE (a.2.1.length*g.1.length - K)
 rw[show K+(a.2.1.length*g.1.length - K)=a.2.1.length*g.1.length from by omega] at this
 unfold RKs
 rw[this]
end
end D
namespace D
open Go.RowKit
theorem sJ {c:Prop} [Decidable c] (h:c):chk c=some ():=if_pos h
theorem wX {α:Type} {xs:List α} {i n:Nat} {z:α} (h:i≤xs.length):(oP xs i n z).take i=xs.take i:=by
 unfold oP
 rw[List.take_append_of_le_length (by rw[List.length_take];omega),List.take_take,Nat.min_self]
theorem AR {α:Type} {xs:List α} {i:Nat} {z:α} (h:i≤xs.length):(oP xs i xs.length z).length=xs.length:=xd h (Nat.le_refl _)
theorem DY {α:Type} {ys:List α} {i:Nat} {x:α} (h:i<ys.length):(ys.set i x).take (i+1)=ys.take i++ [x]:=by
 rw[List.take_succ_eq_append_getElem (by simpa using h)]
 simp[List.take_set_of_le]
theorem set_drop {α:Type} {ys:List α} {i j:Nat} {x:α} (h:i<j):(ys.set i x).drop j=ys.drop j:=by
 apply List.ext_getElem?
 intro q
 rw[List.getElem?_drop,List.getElem?_drop,List.getElem?_set_ne (by omega)]
theorem vN {α:Type} {ys xs:List α} {j:Nat} (h:ys.drop j=xs.drop j):ys.drop (j+1)=xs.drop (j+1):=by
 rw[←List.drop_drop,h,List.drop_drop]
theorem vO {α:Type} {ys xs:List α} {j q:Nat} (h:ys.drop j=xs.drop j) (hq:j≤q) (h1:q<ys.length) (h2:q<xs.length):ys[q] =xs[q]:=by
 have e:=congrArg (fun l=>l[q - j]?) h
 simp only[List.getElem?_drop,show j+(q - j)=q from by omega] at e
 rw[List.getElem?_eq_getElem h1,List.getElem?_eq_getElem h2] at e
 exact Option.some.inj e
section
variable {α:Type} [DecidableEq α]
def qO:List α→List α
 | [] =>[]
 | [a] =>[a]
 | a::b::l=>if a=b then qO (b::l) else a::qO (b::l)
theorem yu {x:α} : ∀ {l:List α},x∈qO l↔x∈l
 | [] =>Iff.rfl
 | [a] =>Iff.rfl
 | a::b::l=>by
  rw[qO]
  split
  ·rename_i e;subst e;rw[yu];simp
  ·rw[List.mem_cons,yu,List.mem_cons (l:=b::l)]
theorem Gi: ∀(l:List α) (b:α),l≠ [] →qO (l++ [b])=if l.getLast? =some b then qO l else qO l++ [b]
 | [],b,h=>absurd rfl h
 | [a],b,_=>by
  by_cases e:a=b
  ·subst e;simp[qO]
  ·simp[qO,e]
 | a::c::l,b,_=>by
  have ih:=Gi (c::l) b (by simp)
  have hg:(a::c::l).getLast? =(c::l).getLast? :=by simp[List.getLast?_cons_cons]
  rw[hg]
  show qO (a::c::(l++ [b]))=_
  rw[qO,qO]
  rw[show c::(l++ [b])=(c::l)++ [b] from rfl,ih]
  by_cases e:a=c
  ·rw[if_pos e,if_pos e]
  ·rw[if_neg e,if_neg e]
   split <;> simp
theorem AS {xs:List α} {j:Nat} (h0:0<j) (h:j<xs.length):qO (xs.take (j+1))=if xs[j - 1] =xs[j] then qO (xs.take j) else qO (xs.take j)++ [xs[j]]:=by
 rw[List.take_succ_eq_append_getElem h,Gi _ _ (by
  intro e
  have h9:=congrArg List.length e
  rw[List.length_take,Nat.min_eq_left (Nat.le_of_lt h),List.length_nil] at h9
  omega)]
 have hg:(xs.take j).getLast? =some xs[j - 1]:=by
  rw[List.getLast?_eq_getElem?,List.length_take,Nat.min_eq_left (Nat.le_of_lt h),List.getElem?_take,if_pos (show j - 1<j by omega),List.getElem?_eq_getElem (show j - 1<xs.length by omega)]
 rw[hg]
 by_cases e:xs[j - 1] =xs[j]
 ·rw[if_pos (by rw[e]),if_pos e]
 ·rw[if_neg (by simpa using e),if_neg e]
theorem Gj {xs:List α} : ∀(j:Nat),j≤xs.length→(∀q (hq:q<j) (h0:0<q) (hx:j≤xs.length),xs[q - 1]'(by omega)≠xs[q]'(by omega))→qO (xs.take j)=xs.take j
 | 0,_,_=>by simp[qO]
 | 1,h,_=>by
  cases xs with
  | nil=>simp[qO]
  | cons a l=>simp[qO]
 | j+2,h,hq=>by
  rw[AS (by omega) (by omega),if_neg (hq (j+1) (by omega) (by omega) h),Gj (j+1) (by omega) (fun q h1 h2 h3=>hq q (by omega) h2 h),←List.take_succ_eq_append_getElem]
end
theorem DZ: ∀ {l:List Int},l.Pairwise (fun a b=>a≤b)→(qO l).Pairwise (fun a b=>a<b)
 | [],_=>List.Pairwise.nil
 | [a],_=>by simp[qO]
 | a::b::l,h=>by
  obtain ⟨h1,h2⟩:=List.pairwise_cons.1 h
  rw[qO]
  split
  ·exact DZ h2
  ·rename_i hn
   refine List.pairwise_cons.2 ⟨fun x hx=>?_,DZ h2⟩
   have hab:a<b:=by have:=h1 b (List.mem_cons_self ..);omega
   rcases List.mem_cons.1 (yu.1 hx) with rfl | hx
   ·exact hab
   ·have:=(List.pairwise_cons.1 h2).1 x hx
    omega
theorem Gk: ∀ {l m:List Int},l.Pairwise (fun a b=>a<b)→m.Pairwise (fun a b=>a<b)→(∀x,x∈l↔x∈m)→l=m
 | [],[],_,_,_=>rfl
 | [],b::m,_,_,h=>absurd ((h b).2 (by simp)) (by simp)
 | a::l,[],_,_,h=>absurd ((h a).1 (by simp)) (by simp)
 | a::l,b::m,h1,h2,h=>by
  obtain ⟨k1,k2⟩:=List.pairwise_cons.1 h1
  obtain ⟨j1,j2⟩:=List.pairwise_cons.1 h2
  have hab:a=b:=by
   have ha:=(h a).1 (by simp)
   have hb:=(h b).2 (by simp)
   rcases List.mem_cons.1 ha with e | ha
   ·exact e
   ·rcases List.mem_cons.1 hb with e | hb
    ·exact e.symm
    ·have:=k1 b hb;have:=j1 a ha;omega
  subst hab
  rw[Gk k2 j2 fun x=>?_]
  have:=h x
  rw[List.mem_cons,List.mem_cons] at this
  constructor
  ·intro hx
   rcases this.1 (.inr hx) with e | e
   ·subst e;have:=k1 x hx;omega
   ·exact e
  ·intro hx
   rcases this.2 (.inr hx) with e | e
   ·subst e;have:=j1 x hx;omega
   ·exact e
end D
namespace D
open Go.RowKit
theorem YP {a b:Int} :(a==b)=decide (a=b):=by rw[Bool.eq_iff_iff];simp
theorem Im (xs:List Int) (hl:xs.length≤1073741824):cd xs=some (qO xs):=by
 unfold cd
 by_cases h2:xs.length<2
 ·rw[if_pos (by simp;omega)]
  cases xs with
  | nil=>rfl
  | cons a l =>
   cases l with
   | nil=>rfl
   | cons b l=>simp only[List.length_cons] at h2;omega
 rw[if_neg (by simp;omega)]
 have key:(ai (bp xs) aC 1=some (.ret (qO xs)))∨(∃s,ai (bp xs) aC 1=some (.brk s)∧qO xs=xs):=by
  obtain ⟨o,e,hQ⟩:=cm (f:=bp xs) (fun t s=>s=((t+1:Nat):Int)∧qO (xs.take (t+1))=xs.take (t+1)) (fun o=>o= .ret (qO xs)∨ ∃s,o= .brk s∧qO xs=xs) (xs.length - 1) (fun t s ht hI=>by
   obtain ⟨rfl,hI⟩:=hI
   unfold bp
   by_cases h1:t+1<xs.length
   ·have hp:((t+1:Nat):Int) - 1=((t:Nat):Int):=by omega
    rw[a6 h1,if_pos rfl,ah h1,cB (n:=((t+1:Nat):Int) - 1) (by omega) (by omega),hp,ah (show t<xs.length by omega)]
    simp only[Option.bind_some,YP]
    have hn:=AS (xs:=xs) (j:=t+1) (by omega) h1
    rw[hI] at hn
    simp only[Nat.add_sub_cancel] at hn
    by_cases he:xs[t+1] =xs[t]
    ·rw[if_pos (decide_eq_true he),sJ (by omega),Option.bind_some]
     rw[if_pos he.symm] at hn
     have hlt:(xs.take (t+1)).length=t+1:=by rw[List.length_take];omega
     obtain ⟨s,e1,ys,rfl,k1,k2,k3,k4⟩:=fS (f:=bL xs ((t+1:Nat):Int)) (fun u s=> ∃ys:List Int,s=(((qO (xs.take (t+2+u))).length:Int),((u+1:Nat):Int),ys)∧ys.length=xs.length∧ys.take (qO (xs.take (t+2+u))).length=qO (xs.take (t+2+u))∧ys.drop (t+1+u)=xs.drop (t+1+u)∧(qO (xs.take (t+2+u))).length≤t+1+u) (xs.length - (t+2)) (fun u s hu hI=>by
      obtain ⟨ys,rfl,k1,k2,k3,k4⟩:=hI
      have hj:t+2+u<xs.length:=by clear k4 k2;omega
      have hj1:t+1+u<xs.length:=by clear k4 k2;omega
      have hj2:t+2+u<ys.length:=by clear k4 k2;omega
      have hj3:t+1+u<ys.length:=by clear k4 k2;omega
      have a1:(0+((t+1:Nat):Int))+((u+1:Nat):Int)=((t+2+u:Nat):Int):=by omega
      have a2:((u+1:Nat):Int) - 1=((u:Nat):Int):=by omega
      have a3:(0+((t+1:Nat):Int))+((u:Nat):Int)=((t+1+u:Nat):Int):=by omega
      unfold bL
      dsimp only
      rw[if_pos (by simp;omega),sJ (by omega)]
      simp only[Option.bind_some]
      rw[cB (n:=((u+1:Nat):Int) - 1) (by omega) (by omega),a1,a2,a3,ah (xs:=ys) hj2,ah (xs:=ys) hj3,sJ (by omega),vO k3 (by omega) hj2 hj,vO k3 (Nat.le_refl _) hj3 hj1]
      simp only[Option.bind_some,YP,db]
      have e9:t+2+u - 1=t+1+u:=by clear k4 k2;omega
      have e8:0<t+2+u:=by clear k4 k2;omega
      have hnx:=AS (xs:=xs) (j:=t+2+u) e8 hj
      simp only[e9] at hnx
      have hd:=vN k3
      rw[show t+1+u+1=t+1+(u+1) from by omega] at hd
      rw[show t+2+(u+1)=t+2+u+1 from by omega,hnx]
      generalize qO (xs.take (t+2+u))=K at *
      by_cases hq:xs[t+2+u] =xs[t+1+u]
      ·rw[if_neg (by simpa using hq),if_pos hq.symm]
       simp only[Option.bind_some]
       rw[aa (by omega)]
       exact ⟨_,rfl,ys,rfl,k1,k2,hd,by omega⟩
      ·rw[if_pos (by simpa using hq),if_neg (fun e=>hq e.symm),ah (xs:=ys) (show K.length<ys.length by omega)]
       simp only[Option.bind_some]
       rw[aa (by omega),aa (by omega)]
       refine ⟨_,rfl,ys.set K.length xs[t+2+u],?_,by simpa using k1,?_,?_,?_⟩
       ·rw[List.length_append,List.length_singleton];rfl
       ·rw[List.length_append,List.length_singleton,DY (by omega),k2]
       ·rw[set_drop (by omega)];exact hd
       ·rw[List.length_append,List.length_singleton];omega) (fun s hI=>by
      obtain ⟨ys,rfl,k1,k2,k3,k4⟩:=hI
      unfold bL
      rw[if_neg (by simp;omega)]) (s:=(((t+1:Nat):Int),1,xs)) ⟨xs,by rw[Nat.add_zero,hn,hlt];rfl,rfl,by rw[Nat.add_zero,hn,hlt],rfl,by rw[Nat.add_zero,hn,hlt];omega⟩ (iy _ (by omega))
     refine .inr ⟨.ret (qO xs),?_,fun s' hh=>(by simp at hh),.inl rfl⟩
     rw[af e1]
     have hall:xs.take (t+2+(xs.length - (t+2)))=xs:=List.take_of_length_le (by omega)
     rw[hall] at k2 k4⊢
     generalize qO xs=K at *
     have q0:K.length≤ys.length:=by omega
     have z1:((0:Int)+((K.length:Nat):Int)).toNat=K.length:=by omega
     have z2:((0:Int)+(((ys.length:Nat):Int) - 0)).toNat=ys.length:=by omega
     simp only[z1,z2]
     have zl:=AR (z:=(0:Int)) q0
     rw[sJ (by omega),Option.bind_some,sJ (by omega),Option.bind_some,sJ (by rw[zl];omega),Option.bind_some,wX q0,k2,List.drop_zero]
    ·rw[if_neg (by simpa using he),aa (by omega)]
     rw[if_neg (fun e=>he e.symm),←List.take_succ_eq_append_getElem h1] at hn
     exact .inl ⟨by omega,_,rfl,rfl,hn⟩
   ·refine .inr ⟨.brk ((t+1:Nat):Int),?_,fun s' hh=>(by simp at hh),.inr ⟨_,rfl,?_⟩⟩
    ·rw[if_neg (by simp;omega)]
    ·rw[List.take_of_length_le (by omega)] at hI;exact hI) (s:=1) ⟨rfl,Gj 1 (by omega) (fun q h1 h0=>by omega)⟩ (iy _ (by omega))
  rcases hQ with rfl | ⟨s,rfl,h⟩
  ·exact .inl e
  ·exact .inr ⟨s,e,h⟩
 rcases key with e | ⟨s,e,h⟩
 ·rw[aT e]
 ·rw[af e,h]
theorem AT (m:Nat): ∀k,(eE m k).Pairwise (fun a b=>a<b)
 | 0=>List.Pairwise.nil
 | k+1=>by
  rw[jA]
  split
  ·refine List.pairwise_append.2 ⟨AT m k,List.pairwise_singleton _ _,fun a ha b hb=>?_⟩
   obtain ⟨i,hi,_,rfl⟩:=rN.1 ha
   obtain rfl:b=(k:Int):=by simpa using hb
   omega
  ·exact AT m k
theorem UX {X:List Int} {m:Nat} (h: ∀x∈X,∃i:Nat,i<30∧x=(i:Int)) (hm: ∀i:Nat,i<30→(m.testBit i=true↔(i:Int)∈X)):qO (X.mergeSort fun x y=>decide (x≤y))=eE m 30:=by
 have hp:(X.mergeSort fun x y=>decide (x≤y)).Pairwise (fun a b=>a≤b):=by
  have:=List.pairwise_mergeSort (le:=fun (x y:Int)=>decide (x≤y)) (fun a b c h1 h2=>by
   have h1:=of_decide_eq_true h1;have h2:=of_decide_eq_true h2
   exact decide_eq_true (by omega)) (fun a b=>by
   rw[Bool.or_eq_true,decide_eq_true_eq,decide_eq_true_eq];omega) X
  exact this.imp fun h=>of_decide_eq_true h
 refine Gk (DZ hp) (AT m 30) fun x=>?_
 rw[yu,List.mem_mergeSort,rN]
 constructor
 ·intro hx
  obtain ⟨i,hi,rfl⟩:=h x hx
  exact ⟨i,hi,(hm i hi).2 hx,rfl⟩
 ·rintro ⟨i,hi,hb,rfl⟩
  exact (hm i hi).1 hb
end D
namespace D
open Go.RowKit
def Lt (a:AutT) (s v:Int):Bool:=decide (∃q∈eE (cS a s v) 30,nth a.2.1 q=true)
section
variable {a:AutT} {n:Nat} (V:VA a n) (hn:n≤12)
include V hn
theorem Io {s v:Int} (hs:0≤s∧s<n) (hv:0≤v∧v≤2):j7 a (vR 1 s) v=some (Lt a s v):=by
 obtain ⟨t,rfl⟩: ∃t:Nat,s=(t:Int):=⟨s.toNat,by omega⟩
 obtain ⟨e1,h1⟩:=pC V hn hs hv
 have hC:cS a (t:Int) v<2 ^ 30:=Nat.lt_of_lt_of_le h1 (Nat.pow_le_pow_right (by decide) (by omega))
 unfold j7
 rw[wW (by omega),rO (Nat.pow_lt_pow_right (by decide) (by omega)),Ge (by omega)];simp only[Option.bind_some]
 have hlen:=lV (cS a (t:Int) v) 30
 have h0:dY a v [(t:Int)] 0=some (if Lt a (t:Int) v=true then .ret true else .nxt 1):=by
  unfold dY
  rw[if_pos (by simp),show az [(t:Int)] 0=some (t:Int) from rfl];simp only[Option.bind_some]
  have e1:eG (a.1,a.2.1,a.2.2) (t:Int) v=_:=e1
  rw[e1];simp only[Option.bind_some]
  rw[rO hC];simp only[Option.bind_some]
  rcases scan (f:=iW a (eE (cS a (t:Int) v) 30)) (eE (cS a (t:Int) v) 30) (fun q=> ¬nth a.2.1 q=true) true (by omega) (fun i hi=>by
   have hq:=vK V hn h1 _ (bH (xs:=eE (cS a (t:Int) v) 30) (i:=(i:Int)) (by omega) (by omega))
   unfold iW
   rw[if_pos (by simp;omega),ak (by omega) (by omega)];simp only[Option.bind_some]
   rw[V.acc hq.1 hq.2,aa (by omega)];simp only[Option.bind_some]
   cases nth a.2.1 (nth (eE (cS a (t:Int) v) 30) (i:Int)) <;> rfl) (by unfold iW;simp) with ⟨e,h⟩ | ⟨e,h⟩
  ·rw[af e,if_neg (by unfold Lt;rw[decide_eq_true_eq];rintro ⟨q,hq,hqa⟩;exact h q hq hqa)];rfl
  ·rw[aT e,if_pos (by
    unfold Lt;rw[decide_eq_true_eq]
    by_cases c: ∃q∈eE (cS a (t:Int) v) 30,nth a.2.1 q=true
    ·exact c
    ·exact absurd (fun q hq hqa=>c ⟨q,hq,hqa⟩) h)]
 have h1':dY a v [(t:Int)] 1=some (.brk 1):=by
  unfold dY;rw[if_neg (by simp)]
 rcases Li (f:=dY a v [(t:Int)]) 1 (fun _=> ¬Lt a (t:Int) v=true) true (by decide) (fun i hi=>by
  obtain rfl:i=0:=by omega
  rw[show ((0:Nat):Int)=0 from rfl,h0]
  cases Lt a (t:Int) v <;> rfl) h1' with ⟨e,h⟩ | ⟨e,h⟩
 ·rw[af e]
  have:=h 0 (by decide)
  rw[Bool.not_eq_true] at this
  rw[this]
 ·rw[aT e]
  have:Lt a (t:Int) v=true:=by
   cases hb:Lt a (t:Int) v with
   | true=>rfl
   | false=>exact absurd (fun _ _=>by rw[hb];decide) h
  rw[this]
theorem Gl {C:Nat} (hC:C<2 ^ n):ax (ai (fb a (C:Int)) aC 0) (fun r=>some r) (fun _=>some false)=some (decide (∃q∈eE C 30,nth a.2.1 q=true)):=by
 have hC':C<2 ^ 62:=Nat.lt_of_lt_of_le hC (p62 (by omega))
 rcases Li (f:=fb a (C:Int)) n (fun i=> ¬(C.testBit i=true∧nth a.2.1 (i:Int)=true)) true (by omega) (fun i hi=>by
  unfold fb
  rw[V.len,if_pos (by simp;omega),iz (by omega),AK hC' (by omega),V.acc (by omega) (by omega),aa (by omega)];simp only[Option.bind_some]
  cases C.testBit i <;> cases nth a.2.1 (i:Int) <;> rfl) (by unfold fb;rw[V.len];simp) with ⟨e,h⟩ | ⟨e,h⟩
 ·rw[af e,decide_eq_false]
  rintro ⟨q,hq,hqa⟩
  have hr:=vK V hn hC q hq
  obtain ⟨i,hi,hb,rfl⟩:=rN.1 hq
  exact h i (by omega) ⟨hb,hqa⟩
 ·rw[aT e,decide_eq_true]
  by_cases c: ∃q∈eE C 30,nth a.2.1 q=true
  ·exact c
  ·exact absurd (fun (i:Nat) (hi:i<n) (hh:C.testBit i=true∧nth a.2.1 (i:Int)=true)=>c ⟨(i:Int),rN.2 ⟨i,by omega,hh.1,rfl⟩,hh.2⟩) h
end
section
variable {g:GrT} {a:AutT} (H:GOOD g a)
include H
theorem OH {x s:Nat} (hx:x<g.1.length) (hs:s<a.2.1.length):iJ g a (x:Int) (s:Int)=some (Lt a (s:Int) (nth g.1 (x:Int))):=by
 have hv:=H.1.val _ (bH (xs:=g.1) (i:=(x:Int)) (by omega) (by omega))
 have ec:=Gg H.2.2 H.2.1 (s:=(s:Int)) ⟨by omega,by omega⟩ hv
 have hC:=(pC H.2.2 H.2.1 (s:=(s:Int)) ⟨by omega,by omega⟩ hv).2
 unfold iJ
 rw[ak (by omega) (by omega)];simp only[Option.bind_some]
 have ec:eF (a.1,a.2.1,a.2.2) (s:Int) (nth g.1 (x:Int))=_:=ec
 rw[ec];simp only[Option.bind_some]
 have:=Gl H.2.2 H.2.1 hC
 exact this
end
theorem X4 {m:Nat} (hm:m<2 ^ 30):uR (m:Int)=some (eE m 30):=by
 have hm':m<2 ^ 62:=Nat.lt_of_lt_of_le hm (Nat.pow_le_pow_right (by decide) (by decide))
 unfold uR
 have:=aD (f:=lL (m:Int)) (fun i=>(eE m i,(i:Int))) 30 (fun i hi=>by
  have hl:=lV m i
  unfold lL
  simp only
  rw[if_pos (by simp;omega),iz (by omega),AK hm' (by omega),aa (by omega),jA];simp only[Option.bind_some]
  by_cases b:m.testBit i=true
  ·rw[if_pos b,if_pos b,au (by simp;omega)];rfl
  ·rw[if_neg b,if_neg b];rfl) (by unfold lL;simp) (by unfold aC;omega)
 have this:ai (lL (m:Int)) aC (([] :List Int),0)=_:=this
 rw[af this]
theorem Ip (xs:List Int) (h:xs.length≤1000000):j8 xs=some (qO (xs.mergeSort fun x y=>decide (x≤y))):=by
 unfold j8 gK eH R.QK
 rw[au (by simp;omega)];simp only[Option.bind_some,List.nil_append]
 rw[iz (by omega)];simp only[Option.bind_some]
 rw[Im _ (by rw[List.length_mergeSort];omega)];rfl
def Xk (g:GrT) (a:AutT) (R:List Int) (i:Nat):Bool:=decide (0≤nth R (i:Int))&&Lt a ((i % a.2.1.length:Nat):Int) (nth g.1 ((i / a.2.1.length:Nat):Int))
def Lk (g:GrT) (a:AutT) (R:List Int):Nat→List Int
 | 0=>[]
 | i+1=>if Xk g a R i=true then Lk g a R i++ [((i / a.2.1.length:Nat):Int)] else Lk g a R i
def Lu (g:GrT) (a:AutT) (R:List Int):Nat→Nat
 | 0=>0
 | i+1=>if Xk g a R i=true then Lu g a R i ||| 2 ^ (i / a.2.1.length) else Lu g a R i
theorem D0 (g:GrT) (a:AutT) (R:List Int): ∀i,(Lk g a R i).length≤i
 | 0=>by simp[Lk]
 | i+1=>by
  have:=D0 g a R i
  rw[Lk];split
  ·rw[List.length_append];simp;omega
  ·omega
theorem OI {x:Nat} {n:Nat} (hx:x≤1000000):Gy (x:Int) (n:Int)=((x / n:Nat):Int)∧Int.tmod (x:Int) (n:Int)=((x % n:Nat):Int):=by
 refine ⟨?_,?_⟩
 ·unfold Gy
  rw[Int.tdiv_eq_ediv_of_nonneg (Int.natCast_nonneg _),←Int.natCast_ediv,vx (by have:=Nat.div_le_self x n;omega)]
 ·rw[Int.tmod_eq_emod_of_nonneg (Int.natCast_nonneg _),Int.natCast_emod]
section
variable {g:GrT} {a:AutT} (H:GOOD g a) {R:List Int} (hR:R.length=a.2.1.length*g.1.length)
include H
theorem JJ {i:Nat} (hi:i<a.2.1.length*g.1.length):i / a.2.1.length<g.1.length∧i % a.2.1.length<a.2.1.length∧0<a.2.1.length∧g.1.length≤5:=by
 obtain ⟨k1,k2⟩:=H.divmod (x:=(i:Int)) (by omega) (by omega)
 exact ⟨k1,k2,H.2.2.pos,H.1.n5⟩
theorem Iq: ∀i,i≤a.2.1.length*g.1.length→Lu g a R i<2 ^ 5
 | 0,_=>by simp[Lu]
 | i+1,hi=>by
  have h:=Iq i (by omega)
  obtain ⟨k1,k2,k3,k4⟩:=JJ H (i:=i) (by omega)
  rw[Lu];split
  ·exact vJ h (by omega)
  ·exact h
theorem OJ: ∀i,i≤a.2.1.length*g.1.length→ ∀j:Nat,((Lu g a R i).testBit j=true↔(j:Int)∈Lk g a R i)
 | 0,_,j=>by simp[Lu,Lk]
 | i+1,hi,j=>by
  have h:=OJ i (by omega) j
  rw[Lu,Lk];split
  ·rw[tu,Bool.or_eq_true,h,List.mem_append,List.mem_singleton,decide_eq_true_eq]
   constructor
   ·rintro (h | h)
    ·exact .inl h
    ·exact .inr (by rw[h])
   ·rintro (h | h)
    ·exact .inl h
    ·exact .inr (Int.ofNat_inj.1 h).symm
  ·exact h
theorem Ir: ∀i,i≤a.2.1.length*g.1.length→ ∀x∈Lk g a R i,∃j:Nat,j<30∧x=(j:Int)
 | 0,_,x,hx=>by cases hx
 | i+1,hi,x,hx=>by
  obtain ⟨k1,k2,k3,k4⟩:=JJ H (i:=i) (by omega)
  rw[Lk] at hx;split at hx
  ·rcases List.mem_append.1 hx with hx | hx
   ·exact Ir i (by omega) x hx
   ·exact ⟨_,by omega,List.mem_singleton.1 hx⟩
  ·exact Ir i (by omega) x hx
include hR
theorem WL:ai (iK g a R) aC (0,0)=some (.brk ((Lu g a R (a.2.1.length*g.1.length):Int),((a.2.1.length*g.1.length:Nat):Int))):=by
 have hN:=nN H.1 H.2.2 H.2.1
 have:=aD (f:=iK g a R) (fun i=>((Lu g a R i:Int),(i:Int))) (a.2.1.length*g.1.length) (fun i hi=>by
  obtain ⟨k1,k2,k3,k4⟩:=JJ H hi
  obtain ⟨q1,q2⟩:=OI (x:=i) (n:=a.2.1.length) (by omega)
  have hs:=Iq H (R:=R) i (by omega)
  unfold iK
  simp only
  rw[if_pos (by simp only[decide_eq_true_eq];omega),ak (by omega) (by omega),iz (by omega),q1,q2,aa (by omega)];simp only[Option.bind_some]
  have ea:iJ (g.1,g.2) (a.1,a.2.1,a.2.2) ((i / a.2.1.length:Nat):Int) ((i % a.2.1.length:Nat):Int)=_:=OH H k1 k2
  rw[ea,Lu];simp only[Option.bind_some]
  unfold Xk
  by_cases c:0≤nth R (i:Int)
  ·rw[if_pos (by simpa using c),decide_eq_true c,Bool.true_and]
   cases Lt a ((i % a.2.1.length:Nat):Int) (nth g.1 ((i / a.2.1.length:Nat):Int)) with
   | false=>rfl
   | true =>
    simp only[if_true]
    rw[iz (Int.natCast_nonneg _),wW (by omega),JH (Nat.lt_of_lt_of_le hs (Nat.pow_le_pow_right (by decide) (by decide))) (Nat.pow_lt_pow_right (by decide) (by omega))];rfl
  ·rw[if_neg (by simpa using c),decide_eq_false c,Bool.false_and];rfl) (by unfold iK;simp only;rw[if_neg (by simp;omega)]) (mb (by omega))
 exact this
theorem WM:ai (ez g a R) aC (([] :List Int),0)=some (.brk (Lk g a R (a.2.1.length*g.1.length),((a.2.1.length*g.1.length:Nat):Int))):=by
 have hN:=nN H.1 H.2.2 H.2.1
 have:=aD (f:=ez g a R) (fun i=>(Lk g a R i,(i:Int))) (a.2.1.length*g.1.length) (fun i hi=>by
  obtain ⟨k1,k2,k3,k4⟩:=JJ H hi
  obtain ⟨q1,q2⟩:=OI (x:=i) (n:=a.2.1.length) (by omega)
  have hl:=D0 g a R i
  have hv:=H.1.val _ (bH (xs:=g.1) (i:=((i / a.2.1.length:Nat):Int)) (Int.natCast_nonneg _) (Int.ofNat_lt.2 k1))
  unfold ez
  simp only
  rw[if_pos (by simp only[decide_eq_true_eq];omega),ak (by omega) (by omega),iz (by omega),q1,q2,aa (by omega),iz (Int.natCast_nonneg _)];simp only[Option.bind_some]
  have ea:j7 (a.1,a.2.1,a.2.2) (vR 1 ((i % a.2.1.length:Nat):Int)) (nth g.1 ((i / a.2.1.length:Nat):Int))=_:=Io H.2.2 H.2.1 ⟨Int.natCast_nonneg _,Int.ofNat_lt.2 k2⟩ hv
  rw[ak (xs:=g.1) (i:=((i / a.2.1.length:Nat):Int)) (Int.natCast_nonneg _) (Int.ofNat_lt.2 k1)];simp only[Option.bind_some]
  rw[ea,Lk];simp only[Option.bind_some]
  unfold Xk
  by_cases c:0≤nth R (i:Int)
  ·rw[if_pos (by simpa using c),decide_eq_true c,Bool.true_and]
   cases Lt a ((i % a.2.1.length:Nat):Int) (nth g.1 ((i / a.2.1.length:Nat):Int)) with
   | false=>rfl
   | true =>
    simp only[if_true]
    rw[au (by simp;omega)];rfl
  ·rw[if_neg (by simpa using c),decide_eq_false c,Bool.false_and];rfl) (by unfold ez;simp only;rw[if_neg (by simp;omega)]) (mb (by omega))
 exact this
end
def UY (g:GrT) (a:AutT) (x:Int):List Int:=eE (Lu g a (RKs g a (x*(a.2.1.length:Int)+a.1)) (a.2.1.length*g.1.length)) 30
theorem D1 (g:GrT) (a:AutT) (x:Int):(UY g a x).length≤30:=lV _ _
section
variable {g:GrT} {a:AutT} (H:GOOD g a) {x:Int} (hx:0≤x∧x<g.1.length)
include H hx
theorem Rr:nj g a x=some (UY g a x):=by
 unfold nj
 have e:lK (g.1,g.2) (a.1,a.2.1,a.2.2) x=_:=UW H hx
 have hR:=OG H hx
 rw[e];simp only[Option.bind_some]
 rw[af (WL H hR),X4 (Nat.lt_of_lt_of_le (Iq H _ (Nat.le_refl _)) (Nat.pow_le_pow_right (by decide) (by decide)))];rfl
theorem WN (e:cA g a [x] =some true):gN g a x=some (UY g a x):=by
 have hN:=nN H.1 H.2.2 H.2.1
 have hp:=H.2.2.pos
 have h1:=H.1.n1
 have hpp:0<a.2.1.length*g.1.length:=Nat.mul_pos hp (by omega)
 unfold gN
 have e:ff (g.1,g.2) (a.1,a.2.1,a.2.2) x=_:=WK H hx e
 have hR:=OG H hx
 rw[e];simp only[Option.bind_some]
 have hl:=D0 g a (RKs g a (x*(a.2.1.length:Int)+a.1)) (a.2.1.length*g.1.length)
 rw[if_neg (by simp only[decide_eq_true_eq];omega),af (WM H hR),Ip _ (by simp only;omega)];simp only[Option.bind_some]
 unfold UY
 rw[UX (Ir H _ (Nat.le_refl _)) fun i _=>OJ H _ (Nat.le_refl _) i]
end
theorem Rs (g:GrT) (a:AutT) (hg:Data.sm g) (ha:Data.sm a): ∃b,jf g a 0 0=some b∧cA g a [] =some b∧(b=true→GOOD g a∧ ∀x:Int,0≤x→x<g.1.length→cA g a [x] =some true):=by
 obtain ⟨b,c,e1,e2,e3,e4,k1,k2⟩:=OE g a hg ha
 obtain ⟨b',es,ei,k⟩:=OF g a hg ha 0
 have e2':aF (g.1,g.2)=_:=e2
 have e4':bQ (a.1,a.2.1,a.2.2)=_:=e4
 have hl:=(aw hg.1).1
 have ew:IntKind.i64.wrap ((g.1.length:Int) - 1)=(g.1.length:Int) - 1:=cB (by omega) (by omega)
 have en:cA g a [] =some (b&&c):=by
  unfold cA
  have:ai (cQ g []) aC 0=some (.brk 0):=by
   have:=aD (f:=cQ g []) (fun _=>(0:Int)) 0 (fun i hi=>absurd hi (Nat.not_lt_zero _)) (by unfold cQ;simp) (by unfold aC;omega)
   exact this
  rw[af this,e2',e4']
  cases b <;> cases c <;> rfl
 have e0: ∀x:Int,cA g a [x] =if 0≤x∧x≤(g.1.length:Int) - 1 then some (b&&c) else some false:=fun x=>by
  unfold cA
  rcases Li (f:=cQ g [x]) 1 (fun _=>0≤x∧x≤(g.1.length:Int) - 1) false (by decide) (fun i hi=>by
   obtain rfl:i=0:=by omega
   unfold cQ
   rw[if_pos (by simp),show az [x] ((0:Nat):Int)=some x from rfl];simp only[Option.bind_some]
   rw[Ea,ew];simp only[Option.bind_some,decide_eq_true_eq]
   split <;> rfl) (by unfold cQ;simp) with ⟨k,h⟩ | ⟨k,h⟩
  ·rw[af k,e2',e4',if_pos (h 0 (by decide))]
   cases b <;> cases c <;> rfl
  ·rw[aT k,if_neg (fun c=>h fun _ _=>c)]
 have hbb:b'=(b&&c):=by
  have h:=e0 0
  rw[ei] at h
  by_cases c0:(0:Int)≤0∧(0:Int)≤(g.1.length:Int) - 1
  ·rw[if_pos c0] at h;exact Option.some.inj h
  ·rw[if_neg c0] at h
   have:b'=false:=Option.some.inj h
   rw[this]
   cases b with
   | false=>rfl
   | true=>have:=(k1 rfl).n1;omega
 refine ⟨b',es,by rw[en,hbb],fun hb=>⟨(k hb).1,fun x h0 h1=>?_⟩⟩
 rw[e0,if_pos ⟨h0,by omega⟩,←hbb,hb]
def UZ (g:GrT) (a:AutT):Nat→List (Int×Int)
 | 0=>[]
 | x+1=>UZ g a x++(UY g a (x:Int)).map fun y=>((x:Int),y)
theorem yw (g:GrT) (a:AutT): ∀x,(UZ g a x).length≤30*x
 | 0=>by simp[UZ]
 | x+1=>by
  have h1:=yw g a x
  have h2:=D1 g a (x:Int)
  rw[UZ,List.length_append,List.length_map];omega
theorem JK {f:(List (Int×Int))×Int→Option (Out (List (Int×Int)) ((List (Int×Int))×Int))} {l:List Int} {x:Int} {o:List (Int×Int)} (hl:l.length≤30) (ho:o.length≤1000)
  (hf: ∀(o:List (Int×Int)) (j:Nat),j<l.length→o.length≤2000→f (o,(j:Int))=some (.nxt (o++ [(x,nth l (j:Int))],((j+1:Nat):Int)))) (he: ∀o,f (o,(l.length:Int))=some (.brk (o,(l.length:Int)))) :
  ai f aC (o,0)=some (.brk (o++l.map fun y=>(x,y),(l.length:Int))):=by
 have:=aD (f:=f) (fun j=>(o++(l.take j).map fun y=>(x,y),(j:Int))) l.length (fun j hj=>by
  rw[hf _ j hj (by rw[List.length_append,List.length_map,List.length_take];omega),um hj,List.map_append,List.append_assoc];rfl) (he _) (mb (by omega))
 rw[List.take_length] at this
 simpa using this
theorem Rt (g:GrT) (a:AutT) (hg:Data.sm g) (ha:Data.sm a): ∃l,iL g a=some l∧iN g a=some l∧l.length≤150:=by
 obtain ⟨b,es,ei,hb⟩:=Rs g a hg ha
 have es:jf (g.1,g.2) (a.1,a.2.1,a.2.2) 0 0=_:=es
 have ei:cA (g.1,g.2) (a.1,a.2.1,a.2.2) [] =_:=ei
 have hl:=(aw hg.1).1
 unfold iL iN
 rw[ei];simp only[Option.bind_some]
 cases b with
 | false =>
  refine ⟨[],?_,rfl,by decide⟩
  have:=aD (f:=cJ g a) (fun _=>(([] :List (Int×Int)),(0:Int))) 0 (fun i hi=>absurd hi (Nat.not_lt_zero _)) (by
   unfold cJ
   rw[es];simp only[Option.bind_some,Bool.false_eq_true,if_false]
   split <;> rfl) (by unfold aC;omega)
  rw[af this]
 | true =>
  obtain ⟨H,hok⟩:=hb rfl
  have h5:=H.1.n5
  refine ⟨UZ g a g.1.length,?_,?_,by have:=yw g a g.1.length;omega⟩
  ·have:=aD (f:=cJ g a) (fun x=>(UZ g a x,(x:Int))) g.1.length (fun x hx=>by
    have h1:=yw g a x
    have h2:=D1 g a (x:Int)
    unfold cJ
    simp only
    have ef:nj (g.1,g.2) (a.1,a.2.1,a.2.2) (x:Int)=_:=Rr H (x:=(x:Int)) ⟨by omega,by omega⟩
    rw[if_pos (by simp only[decide_eq_true_eq];omega),es,ef];simp only[Option.bind_some,if_true]
    rw[af (JK (x:=(x:Int)) (l:=UY g a (x:Int)) h2 (by omega) (fun o j hj ho=>by
     unfold kH
     simp only
     rw[if_pos (by simp;omega),ak (by omega) (by omega)];simp only[Option.bind_some]
     rw[au (by simp;omega),aa (by omega)];rfl) (fun o=>by unfold kH;simp)),aa (by omega)]
    rfl) (by unfold cJ;simp) (mb (by omega))
   have this:ai (cJ g a) aC (([] :List (Int×Int)),0)=_:=this
   rw[af this]
  ·simp only[if_true]
   have:=aD (f:=fg g a) (fun x=>(UZ g a x,(x:Int))) g.1.length (fun x hx=>by
    have h1:=yw g a x
    have h2:=D1 g a (x:Int)
    unfold fg
    simp only
    have ef:gN (g.1,g.2) (a.1,a.2.1,a.2.2) (x:Int)=_:=WN H (x:=(x:Int)) ⟨by omega,by omega⟩ (hok _ (by omega) (by omega))
    rw[if_pos (by simp only[decide_eq_true_eq];omega),ef];simp only[Option.bind_some]
    rw[af (JK (x:=(x:Int)) (l:=UY g a (x:Int)) h2 (by omega) (fun o j hj ho=>by
     unfold kK
     simp only
     rw[if_pos (by simp;omega),ak (by omega) (by omega)];simp only[Option.bind_some]
     rw[au (by simp;omega),aa (by omega)];rfl) (fun o=>by unfold kK;simp)),aa (by omega)]
    rfl) (by unfold fg;simp) (mb (by omega))
   have this:ai (fg g a) aC (([] :List (Int×Int)),0)=_:=this
   rw[af this]
end D
set_option synthInstance.maxSize 20000
set_option synthInstance.maxHeartbeats 2000000
namespace D
open Go.RowKit
end D
namespace D
abbrev Pr:=Int×Int
def ltP (a b:Pr):Prop:=a.1<b.1∨a.1=b.1∧a.2<b.2
instance (a b:Pr):Decidable (ltP a b):=inferInstanceAs (Decidable (_∨_))
theorem OK (a:Pr): ¬ltP a a:=by unfold ltP;omega
theorem Gn {a b c:Pr} (h:ltP a b) (k:ltP b c):ltP a c:=by unfold ltP at *;omega
theorem OL {a b:Pr} (h:ltP a b): ¬ltP b a:=by unfold ltP at *;omega
theorem Is (a b:Pr):ltP a b∨a=b∨ltP b a:=by
 unfold ltP
 by_cases h:a=b
 ·exact .inr (.inl h)
 ·have: ¬(a.1=b.1∧a.2=b.2):=fun e=>h (Prod.ext e.1 e.2)
  omega
abbrev Str (l:List Pr):Prop:=l.Pairwise ltP
theorem D2: ∀ {l m:List Pr},Str l→Str m→(∀x,x∈l↔x∈m)→l=m
 | [],[],_,_,_=>rfl
 | [],b::m,_,_,h=>absurd ((h b).2 (List.mem_cons_self ..)) (by simp)
 | a::l,[],_,_,h=>absurd ((h a).1 (List.mem_cons_self ..)) (by simp)
 | a::l,b::m,hl,hm,h=>by
  obtain ⟨l1,l2⟩:=List.pairwise_cons.1 hl
  obtain ⟨m1,m2⟩:=List.pairwise_cons.1 hm
  have hab:a=b:=by
   rcases List.mem_cons.1 ((h a).1 (List.mem_cons_self ..)) with e | e
   ·exact e
   ·rcases List.mem_cons.1 ((h b).2 (List.mem_cons_self ..)) with f | f
    ·exact f.symm
    ·exact absurd (m1 a e) (OL (l1 b f))
  subst hab
  rw[D2 l2 m2 fun x=>?_]
  constructor
  ·intro hx
   rcases List.mem_cons.1 ((h x).1 (List.mem_cons_of_mem _ hx)) with e | e
   ·subst e;exact absurd (l1 x hx) (OK x)
   ·exact e
  ·intro hx
   rcases List.mem_cons.1 ((h x).2 (List.mem_cons_of_mem _ hx)) with e | e
   ·subst e;exact absurd (m1 x hx) (OK x)
   ·exact e
def ahd (p:Pr):List Pr→Nat
 | [] =>0
 | a::l=>if ltP a p then ahd p l+1 else 0
theorem OM (p:Pr): ∀l:List Pr,ahd p l≤l.length
 | [] =>Nat.le_refl _
 | a::l=>by
  unfold ahd
  split
  ·have:=OM p l;rw[List.length_cons];omega
  ·exact Nat.zero_le _
theorem Sy (p:Pr): ∀(l:List Pr) (i:Nat),i<ahd p l→ ∃x,l[i]? =some x∧ltP x p
 | [],i,h=>by simp[ahd] at h
 | a::l,i,h=>by
  unfold ahd at h
  split at h
  ·rename_i ha
   cases i with
   | zero=>exact ⟨a,rfl,ha⟩
   | succ i =>
    obtain ⟨x,h1,h2⟩:=Sy p l i (by omega)
    exact ⟨x,by simpa using h1,h2⟩
  ·omega
theorem Sz (p:Pr): ∀(l:List Pr) x,l[ahd p l]? =some x→ ¬ltP x p
 | [],x,h=>by simp at h
 | a::l,x,h=>by
  unfold ahd at h
  split at h
  ·exact Sz p l x (by simpa using h)
  ·rename_i ha
   simp at h
   subst h;exact ha
def put (l:List Pr) (p:Pr):List Pr:=if l[ahd p l]? =some p then l else l.take (ahd p l)++p::l.drop (ahd p l)
theorem JL (a:Pr) (l:List Pr) (p:Pr):put (a::l) p=if ltP a p then a::put l p else if a=p then a::l else p::a::l:=by
 unfold put
 by_cases h:ltP a p
 ·have e:ahd p (a::l)=ahd p l+1:=by rw[ahd,if_pos h]
  rw[e,if_pos h]
  by_cases k:l[ahd p l]? =some p
  ·rw[if_pos (by simpa using k),if_pos k]
  ·rw[if_neg (by simpa using k),if_neg k];rfl
 ·have e:ahd p (a::l)=0:=by rw[ahd,if_neg h]
  rw[e,if_neg h]
  by_cases k:a=p
  ·rw[if_pos (by simp[k]),if_pos k]
  ·rw[if_neg (by simpa using k),if_neg k];rfl
theorem Iu {x p:Pr} : ∀l:List Pr,x∈put l p↔x=p∨x∈l
 | [] =>by simp[put,ahd]
 | a::l=>by
  rw[JL]
  split
  ·rw[List.mem_cons,Iu l,List.mem_cons];grind
  ·split
   ·rename_i e;subst e;rw[List.mem_cons];grind
   ·rw[List.mem_cons]
theorem ON {p:Pr} : ∀ {l:List Pr},Str l→Str (put l p)
 | [],_=>by simp[put,ahd]
 | a::l,h=>by
  obtain ⟨h1,h2⟩:=List.pairwise_cons.1 h
  rw[JL]
  split
  ·rename_i ha
   refine List.pairwise_cons.2 ⟨fun x hx=>?_,ON h2⟩
   rcases (Iu l).1 hx with rfl | hx
   ·exact ha
   ·exact h1 x hx
  ·rename_i ha
   split
   ·exact h
   ·rename_i hn
    have hp:ltP p a:=by
     rcases Is p a with c | c | c
     ·exact c
     ·exact absurd c.symm hn
     ·exact absurd c ha
    refine List.pairwise_cons.2 ⟨fun x hx=>?_,h⟩
    rcases List.mem_cons.1 hx with rfl | hx
    ·exact hp
    ·exact Gn hp (h1 x hx)
def xX (l m:List Pr):List Pr:=m.foldl put l
theorem D3: ∀ {m l:List Pr},Str l→Str (xX l m)
 | [],l,h=>h
 | p::m,l,h=>D3 (m:=m) (ON h)
theorem yx {x:Pr} : ∀ {m l:List Pr},x∈xX l m↔x∈l∨x∈m
 | [],l=>by simp[xX]
 | p::m,l=>by
  show x∈xX (put l p) m↔_
  rw[yx,Iu,List.mem_cons];grind
def nub:List Pr→List Pr
 | [] =>[]
 | [a] =>[a]
 | a::b::l=>if a=b then nub (b::l) else a::nub (b::l)
theorem D4 {x:Pr} : ∀ {l:List Pr},x∈nub l↔x∈l
 | [] =>Iff.rfl
 | [a] =>Iff.rfl
 | a::b::l=>by
  rw[nub]
  split
  ·rename_i e;subst e;rw[D4];simp
  ·rw[List.mem_cons,D4,List.mem_cons (l:=b::l)]
theorem Iv: ∀ {l:List Pr},l.Pairwise (fun a b=> ¬ltP b a)→Str (nub l)
 | [],_=>List.Pairwise.nil
 | [a],_=>by simp[nub]
 | a::b::l,h=>by
  obtain ⟨h1,h2⟩:=List.pairwise_cons.1 h
  rw[nub]
  split
  ·exact Iv h2
  ·rename_i hn
   refine List.pairwise_cons.2 ⟨fun x hx=>?_,Iv h2⟩
   have hab:ltP a b:=by
    rcases Is a b with c | c | c
    ·exact c
    ·exact absurd c hn
    ·exact absurd c (h1 b (List.mem_cons_self ..))
   rcases List.mem_cons.1 (D4.1 hx) with rfl | hx
   ·exact hab
   ·rcases Is b x with c | c | c
    ·exact Gn hab c
    ·subst c;exact hab
    ·exact absurd c ((List.pairwise_cons.1 h2).1 x hx)
theorem Ll {l:List Pr} {f:Pr→Bool} (h:Str l):Str (l.filter f):=List.Pairwise.filter _ h
end D
namespace D
open Go.RowKit
theorem D5 {α R:Type} {f:Int→Option (Out R Int)} (l:List α) (b:α→Bool) (r:Nat→R) (hN:l.length≤9223372036854775807) (h: ∀i (hi:i<l.length),f (i:Int)=some (if b l[i] then .ret (r i) else .nxt ((i+1:Nat):Int))) (he:f (l.length:Int)=some (.brk (l.length:Int))) :
  (∃(i:Nat) (hi:i<l.length),b l[i] =true∧(∀j (hj:j<i),b (l[j]'(by omega))=false)∧ai f aC 0=some (.ret (r i)))∨((∀x,x∈l→b x=false)∧ai f aC 0=some (.brk (l.length:Int))):=by
 obtain ⟨o,e,hQ⟩:=cm (f:=f) (fun i s=>s=(i:Int)∧ ∀j (hj:j<l.length),j<i→b l[j] =false) (fun o=>(∃(i:Nat) (hi:i<l.length),b l[i] =true∧(∀j (hj:j<i),b (l[j]'(by omega))=false)∧o= .ret (r i))∨((∀x,x∈l→b x=false)∧o= .brk (l.length:Int))) l.length (fun i s hi hI=>by
  obtain ⟨rfl,hI⟩:=hI
  by_cases h1:i<l.length
  ·cases hb:b l[i] with
   | true=>exact .inr ⟨_,by rw[h i h1,hb,if_pos rfl],fun s' hh=>by simp at hh,.inl ⟨i,h1,hb,fun j hj=>hI j (by omega) hj,by simp⟩⟩
   | false=>exact .inl ⟨h1,_,by rw[h i h1,hb,if_neg (by simp)],rfl,fun j hj hji=>by
     by_cases c:j=i
     ·subst c;exact hb
     ·exact hI j hj (by omega)⟩
  ·obtain rfl:i=l.length:=by omega
   exact .inr ⟨_,he,fun s' hh=>by simp at hh,.inr ⟨fun x hx=>by
    obtain ⟨j,hj,rfl⟩:=List.getElem_of_mem hx
    exact hI j hj hj,rfl⟩⟩) (s:=0) ⟨rfl,fun j hj h0=>by omega⟩ (iy _ hN)
 rcases hQ with ⟨i,hi,h1,h2,rfl⟩ | ⟨h1,rfl⟩
 ·exact .inl ⟨i,hi,h1,h2,e⟩
 ·exact .inr ⟨h1,e⟩
section
variable {l m:List Pr} {p:Pr}
theorem WO {a b:Pr} :((a.1==b.1)&&((a.2==b.2)&&true))=decide (a=b):=by
 rw[Bool.eq_iff_iff];simp[Prod.ext_iff]
theorem X5 {a b:Pr} :(Bool.and.match_1 (fun (_:Bool)=>Bool) (a.1==b.1) (fun (_:Unit)=>false) (fun (_:Unit)=>Bool.and.match_1 (fun (_:Bool)=>Bool) (a.2==b.2) (fun (_:Unit)=>false) (fun (_:Unit)=>true)))=decide (a=b):=WO
theorem Ru (hl:l.length≤1073741824):kJ l p=some (decide (p∈l)):=by
 unfold kJ
 rcases D5 (f:=mB l p) l (fun x=>decide (x=p)) (fun _=>true) (by omega) (fun i hi=>by
   unfold mB
   rw[a6 hi,if_pos rfl,ah hi]
   simp only[Option.bind_some,WO,aa (show i<9223372036854775807 by omega)]
   split <;> rfl) (by
   unfold mB
   rw[aO];rfl) with ⟨i,hi,h1,-,e⟩ | ⟨h1,e⟩
 ·rw[aT e,decide_eq_true (by rw[←of_decide_eq_true h1];exact List.getElem_mem hi)]
 ·rw[af e,decide_eq_false fun hm=>by have:=h1 p hm;simp at this]
theorem X6 (hl:l.length≤1073741824): ∃r:Int,cg l p=some r∧(0≤r↔p∈l):=by
 unfold cg
 rcases D5 (f:=bM l p) l (fun x=>decide (p=x)) (fun i=>(i:Int)) (by omega) (fun i hi=>by
   unfold bM
   rw[a6 hi,if_pos rfl,ah hi]
   simp only[Option.bind_some,WO,aa (show i<9223372036854775807 by omega)]
   split <;> rfl) (by
   unfold bM
   rw[aO];rfl) with ⟨i,hi,h1,-,e⟩ | ⟨h1,e⟩
 ·exact ⟨_,aT e,by
   have:p∈l:=by rw[of_decide_eq_true h1];exact List.getElem_mem hi
   simp[this]⟩
 ·exact ⟨_,af e,by
   have:p∉l:=fun hm=>by have:=h1 p hm;simp at this
   simp[this]⟩
theorem WQ (hl:l.length≤1073741824):bq l p=some (decide (p∈l)):=by
 unfold bq
 obtain ⟨r,e,h⟩:=X6 (l:=l) (p:=p) hl
 rw[db,e,Option.bind_some]
 congr 1
 rw[Bool.eq_iff_iff,decide_eq_true_iff,decide_eq_true_iff]
 exact h
theorem SA {d:Pr→Bool} {f:Pr→Option Bool} (hf: ∀x,f x=some (d x)) (hl:l.length≤1073741824) :
  (∃(i:Nat) (hi:i<l.length),d l[i] =true∧(∀j (hj:j<i),d (l[j]'(by omega))=false)∧aR l f=some (i:Int))∨((∀x,x∈l→d x=false)∧aR l f=some (-1)):=by
 unfold aR
 rcases D5 (f:=bw l f) l d (fun i=>(i:Int)) (by omega) (fun i hi=>by
   unfold bw
   rw[a6 hi,if_pos rfl,ah hi]
   simp only[Option.bind_some,db,hf,aa (show i<9223372036854775807 by omega)]
   split <;> rfl) (by
   unfold bw
   rw[aO];rfl) with ⟨i,hi,h1,h2,e⟩ | ⟨h1,e⟩
 ·exact .inl ⟨i,hi,h1,h2,aT e⟩
 ·exact .inr ⟨h1,af e⟩
theorem JM (hl:l.length≤1073741824) (hm:m.length≤1073741824):iO l m=some (decide (∃x,x∈l∧x∈m)):=by
 unfold iO bX
 rcases SA (l:=l) (d:=fun x=>decide (x∈m)) (f:=fun a0=>iX a0 m) (fun x=>by unfold iX;rw[db,WQ hm];rfl) hl with ⟨i,hi,h1,-,e⟩ | ⟨h1,e⟩
 ·rw[e]
  simp only[Option.bind_some]
  congr 1
  rw[Bool.eq_iff_iff,decide_eq_true_iff,decide_eq_true_iff]
  exact ⟨fun _=>⟨_,List.getElem_mem hi,of_decide_eq_true h1⟩,fun _=>by omega⟩
 ·rw[e]
  simp only[Option.bind_some]
  congr 1
  rw[Bool.eq_iff_iff,decide_eq_true_iff,decide_eq_true_iff]
  exact ⟨fun h=>by omega,fun ⟨x,h2,h3⟩=>by have:=h1 x h2;simp[h3] at this⟩
theorem OO (a b:Pr):kI a b=some (decide (ltP a b)):=by
 unfold kI ltP
 by_cases h:a.1<b.1
 ·simp[h]
 ·by_cases k:a.1=b.1 <;> simp[h,k]
theorem WR (a b:Pr): ∃r:Int,fP a b=some r∧(0≤r↔ ¬ltP a b):=by
 unfold fP j9 ltP
 by_cases k:a.1=b.1
 ·by_cases h:a.2<b.2
  ·exact ⟨-1,by simp[k,h],by simp[k,h]⟩
  ·by_cases h2:b.2<a.2
   ·exact ⟨1,by simp[k,h,h2],by simp[k,h]⟩
   ·exact ⟨0,by simp[k,h,h2],by simp[k,h]⟩
 ·by_cases h:a.1<b.1
  ·exact ⟨-1,by simp[k,h],by simp[k,h]⟩
  ·have h2:b.1<a.1:=by omega
   exact ⟨1,by simp[k,h,h2],by simp[k,h]⟩
theorem yy:gG l=eA l:=by
 unfold gG eA
 have e:nk l=gP l:=by
  funext s
  unfold nk gP
  have hw:ct=bg:=rfl
  rw[hw]
  cases hg:az l s with
  | none=>rfl
  | some x =>
   have hk: ∀y:Pr,((kI (y.1,y.2) (x.1,x.2)).bind fun r9=>if r9=true then some (Out.nxt (R:=Bool) (IntKind.i64.wrap (s+1))) else some (Out.ret false))=((fP (y.1,y.2) (x.1,x.2)).bind fun r9=>if decide (r9≥0)=true then some (Out.ret false) else some (Out.nxt (IntKind.i64.wrap (s+1)))):=fun y=>by
    rw[OO]
    obtain ⟨r,e,h⟩:=WR (y.1,y.2) (x.1,x.2)
    rw[e]
    simp only[Option.bind_some,db] at h⊢
    by_cases c:ltP y x
    ·rw[if_pos (decide_eq_true c),if_neg (by simpa using fun q=>(h.1 q) c)]
    ·rw[if_neg (by simpa using c),if_pos (by simpa using h.2 c)]
   simp only[Option.bind_some,hk]
 rw[e]
end
end D
namespace D
open Go.RowKit
theorem U0 (l:List Pr) (p:Pr):(put l p).length≤l.length+1:=by
 have:=OM p l
 unfold put
 split
 ·omega
 ·rw[List.length_append,List.length_take,List.length_cons,List.length_drop];omega
theorem qk: ∀(m l:List Pr),(xX l m).length≤l.length+m.length
 | [],l=>Nat.le_refl _
 | p::m,l=>by
  have h1:=qk m (put l p)
  have h2:=U0 l p
  show (xX (put l p) m).length≤_
  rw[List.length_cons];omega
theorem AU (l m:List Pr) (p:Pr):xX l (m++ [p])=put (xX l m) p:=by simp[xX]
theorem U1 (l:List Pr) (p:Pr) (hl:l.length≤1073741824):mO l p=some (put l p):=by
 have hk:=OM p l
 have e:ai (mC l p) aC 0=some (.brk ((ahd p l:Nat):Int)):=by
  obtain ⟨o,e,rfl⟩:=cm (f:=mC l p) (fun i s=>s=(i:Int)) (fun o=>o= .brk ((ahd p l:Nat):Int)) (ahd p l) (fun i s hi hI=>by
   subst hI
   unfold mC
   by_cases h1:i<ahd p l
   ·obtain ⟨x,g1,g2⟩:=Sy p l i h1
    have hil:i<l.length:=by omega
    rw[List.getElem?_eq_getElem hil] at g1
    obtain rfl:=Option.some.inj g1
    refine .inl ⟨h1,((i+1:Nat):Int),?_,rfl⟩
    rw[a6 hil,if_pos rfl,ah hil]
    simp only[Option.bind_some,OO,db]
    rw[if_pos (decide_eq_true g2),aa (by omega)]
   ·obtain rfl:i=ahd p l:=by omega
    refine .inr ⟨_,?_,fun s' hh=>(by simp at hh),rfl⟩
    by_cases hil:ahd p l<l.length
    ·have g:=Sz p l _ (List.getElem?_eq_getElem hil)
     rw[a6 hil,if_pos rfl,ah hil]
     simp only[Option.bind_some,OO,db]
     rw[if_neg (by simpa using g)]
    ·rw[if_neg (by simp;omega)]) (s:=0) rfl (iy _ (by omega))
  exact e
 unfold mO
 rw[af e]
 have c1:chk ((0:Int)≤((ahd p l:Nat):Int)∧((ahd p l:Nat):Int)≤(l.length:Int))=some ():=if_pos (by omega)
 have a1:cn 16 ([] :List Pr) ((l.take (ahd p l)).drop 0)=some (l.take (ahd p l)):=by
  rw[List.drop_zero,au (by simp only[List.length_nil,List.length_take];omega)];rfl
 have a2:cn 16 (l.take (ahd p l)) [p] =some (l.take (ahd p l)++ [p]):=au (by simp only[List.length_singleton,List.length_take];omega)
 have a3:cn 16 (l.take (ahd p l)++ [p]) ((l.take l.length).drop (ahd p l))=some (l.take (ahd p l)++p::l.drop (ahd p l)):=by
  rw[List.take_of_length_le (Nat.le_refl _),au (by simp only[List.length_append,List.length_singleton,List.length_take,List.length_drop];omega),List.append_assoc];rfl
 simp only[c1,Option.bind_some,Int.toNat_natCast,a1,a2,a3,db]
 unfold put
 by_cases hil:ahd p l<l.length
 ·rw[a6 hil,if_pos rfl,ah hil]
  simp only[Option.bind_some,X5]
  rw[List.getElem?_eq_getElem hil]
  by_cases h:l[ahd p l] =p
  ·rw[if_pos (decide_eq_true h),if_pos (by rw[h])]
  ·rw[if_neg (by simpa using h),if_neg (by simpa using h)]
 ·rw[if_neg (by simp;omega),List.getElem?_eq_none (by omega),if_neg (by simp)]
theorem U2 {a b:List Pr} (ha:a.length≤67108864) (hb:b.length≤67108864):fV a b=some (xX [] (a++b)):=by
 unfold fV
 obtain ⟨s1,e1,rfl⟩:=fS (f:=hZ a) (fun i s=>s=(xX [] (a.take i),(i:Int))) a.length (fun i s hi hI=>by
  subst hI
  have hln:=qk (a.take i) []
  rw[List.length_take] at hln
  refine ⟨_,?_,rfl⟩
  unfold hZ
  rw[a6 hi,if_pos rfl,ah hi]
  simp only[Option.bind_some,db]
  rw[U1 _ _ (by simp only[List.length_nil] at hln;omega)]
  simp only[Option.bind_some]
  rw[aa (by omega),List.take_succ_eq_append_getElem hi,AU]) (fun s hI=>by
  subst hI
  unfold hZ
  rw[aO];rfl) (s:=(([] :List Pr),0)) rfl (iy _ (by omega))
 rw[af e1,List.take_of_length_le (Nat.le_refl _)]
 obtain ⟨s2,e2,rfl⟩:=fS (f:=ic b) (fun i s=>s=(xX [] (a++b.take i),(i:Int))) b.length (fun i s hi hI=>by
  subst hI
  have hln:=qk (a++b.take i) []
  rw[List.length_append,List.length_take] at hln
  refine ⟨_,?_,rfl⟩
  unfold ic
  rw[a6 hi,if_pos rfl,ah hi]
  simp only[Option.bind_some,db]
  rw[U1 _ _ (by simp only[List.length_nil] at hln;omega)]
  simp only[Option.bind_some]
  rw[aa (by omega),List.take_succ_eq_append_getElem hi,←List.append_assoc,AU]) (fun s hI=>by
  subst hI
  unfold ic
  rw[aO];rfl) (s:=(xX [] a,0)) (by simp) (iy _ (by omega))
 rw[af e2,List.take_of_length_le (Nat.le_refl _)]
theorem Lm {a b:List Pr} (ha:a.length≤67108864) (hb:b.length≤67108864):dw a b=some (xX [] (a.filter fun x=> !decide (x∈b))):=by
 unfold dw
 obtain ⟨s1,e1,rfl⟩:=fS (f:=eS a b) (fun i s=>s=(xX [] ((a.take i).filter fun x=> !decide (x∈b)),(i:Int))) a.length (fun i s hi hI=>by
  subst hI
  have hln:=qk ((a.take i).filter fun x=> !decide (x∈b)) []
  have hl2:=List.length_filter_le (fun x=> !decide (x∈b)) (a.take i)
  rw[List.length_take] at hl2
  refine ⟨_,?_,rfl⟩
  unfold eS
  rw[a6 hi,if_pos rfl,ah hi]
  simp only[Option.bind_some,db]
  rw[Ru (by omega)]
  simp only[Option.bind_some]
  rw[aa (by omega),List.take_succ_eq_append_getElem hi,List.filter_append]
  by_cases h:a[i] ∈ b
  ·rw[if_pos (decide_eq_true h)]
   simp[h]
  ·rw[if_neg (by simpa using h),U1 _ _ (by simp only[List.length_nil] at hln;omega)]
   simp only[Option.bind_some]
   rw[show [a[i]].filter (fun x=> !decide (x∈b))= [a[i]] from by simp[h],AU]) (fun s hI=>by
  subst hI
  unfold eS
  rw[aO];rfl) (s:=(([] :List Pr),0)) rfl (iy _ (by omega))
 rw[af e1,List.take_of_length_le (Nat.le_refl _)]
end D
namespace D
open Go.RowKit
theorem X7 {d:Pr→Bool} {f:Pr→Option Bool} (hf: ∀x,f x=some (d x)) (xs:List Pr) (hl:xs.length≤1073741824):bB xs f=some (xs.filter fun x=> !d x):=by
 unfold bB
 rcases SA (l:=xs) (d:=d) (f:=f) hf hl with ⟨r,hr,h1,h2,e⟩ | ⟨h1,e⟩
 ·rw[e]
  simp only[Option.bind_some]
  have hne:(((r:Nat):Int) == -1)=false:=beq_eq_false_iff_ne.2 (by omega)
  rw[hne]
  simp only[Bool.false_eq_true,if_false]
  rw[aa (by omega)]
  have hk0:(xs.take (r+1)).filter (fun x=> !d x)=xs.take r:=by
   rw[List.take_succ_eq_append_getElem hr,List.filter_append]
   rw[show [xs[r]].filter (fun x=> !d x)= [] from by simp[h1],List.append_nil,List.filter_eq_self]
   intro a ha
   obtain ⟨j,hj,rfl⟩:=List.getElem_of_mem ha
   rw[List.length_take] at hj
   rw[List.getElem_take,h2 j (by omega)];rfl
  obtain ⟨s,e1,ys,rfl,k1,k2,k3,k4⟩:=fS (f:=bt f) (fun t s=> ∃ys:List Pr,s=((((xs.take (r+1+t)).filter (fun x=> !d x)).length:Int),((r+1+t:Nat):Int),ys)∧ys.length=xs.length∧ys.take ((xs.take (r+1+t)).filter (fun x=> !d x)).length=(xs.take (r+1+t)).filter (fun x=> !d x)∧ys.drop (r+1+t)=xs.drop (r+1+t)∧((xs.take (r+1+t)).filter (fun x=> !d x)).length≤r+t) (xs.length - (r+1)) (fun t s ht hI=>by
   obtain ⟨ys,rfl,k1,k2,k3,k4⟩:=hI
   have hj:r+1+t<xs.length:=by omega
   unfold bt
   rw[show ((ys.length:Nat):Int)=(xs.length:Int) from by rw[k1],a6 hj,if_pos rfl,ah (xs:=ys) (by omega),vO k3 (Nat.le_refl _) (by omega) hj]
   simp only[Option.bind_some,db,hf]
   have hnx:(xs.take (r+1+(t+1))).filter (fun x=> !d x)=(xs.take (r+1+t)).filter (fun x=> !d x)++ [xs[r+1+t]].filter (fun x=> !d x):=by
    rw[←List.filter_append,←List.take_succ_eq_append_getElem hj];rfl
   generalize (xs.take (r+1+t)).filter (fun x=> !d x)=K at *
   rw[hnx]
   cases hd:d xs[r+1+t] with
   | true =>
    rw[if_pos rfl]
    simp only[Option.bind_some]
    rw[aa (by omega),show [xs[r+1+t]].filter (fun x=> !d x)= [] from by simp[hd],List.append_nil]
    exact ⟨_,rfl,ys,rfl,k1,k2,vN k3,by omega⟩
   | false =>
    rw[if_neg (by simp),ah (xs:=ys) (by omega)]
    simp only[Option.bind_some]
    rw[aa (by omega),aa (by omega),show [xs[r+1+t]].filter (fun x=> !d x)= [xs[r+1+t]] from by simp[hd]]
    refine ⟨_,rfl,ys.set K.length xs[r+1+t],?_,by simpa using k1,?_,?_,?_⟩
    ·rw[List.length_append,List.length_singleton];rfl
    ·rw[List.length_append,List.length_singleton,DY (by omega),k2]
    ·rw[set_drop (by omega)];exact vN k3
    ·rw[List.length_append,List.length_singleton];omega) (fun s hI=>by
   obtain ⟨ys,rfl,k1,k2,k3,k4⟩:=hI
   unfold bt
   rw[if_neg (by simp;omega)]) (s:=(((r:Nat):Int),((r+1:Nat):Int),xs)) ⟨xs,by rw[Nat.add_zero,hk0,List.length_take,Nat.min_eq_left (by omega)],rfl,by rw[Nat.add_zero,hk0,List.length_take,Nat.min_eq_left (by omega)],rfl,by rw[Nat.add_zero,hk0,List.length_take];omega⟩ (iy _ (by omega))
  rw[af e1]
  have hall:xs.take (r+1+(xs.length - (r+1)))=xs:=List.take_of_length_le (by omega)
  rw[hall] at k2 k4⊢
  generalize (xs.filter fun x=> !d x)=K at *
  have q0:K.length≤ys.length:=by omega
  have z1:((0:Int)+((K.length:Nat):Int)).toNat=K.length:=by omega
  have z2:((0:Int)+(((ys.length:Nat):Int) - 0)).toNat=ys.length:=by omega
  simp only[z1,z2]
  have zl:=AR (z:=((0,0):Pr)) q0
  rw[sJ (by omega),Option.bind_some,sJ (by omega),Option.bind_some,sJ (by rw[zl];omega),Option.bind_some,wX q0,k2,List.drop_zero]
 ·rw[e]
  simp only[Option.bind_some]
  rw[if_pos (by rfl)]
  congr 1
  exact (List.filter_eq_self.2 fun a ha=>by rw[h1 a ha];rfl).symm
theorem JN: ∀(l:List Pr) (b:Pr),l≠ [] →nub (l++ [b])=if l.getLast? =some b then nub l else nub l++ [b]
 | [],b,h=>absurd rfl h
 | [a],b,_=>by
  by_cases e:a=b
  ·subst e;simp[nub]
  ·simp[nub,e]
 | a::c::l,b,_=>by
  have ih:=JN (c::l) b (by simp)
  have hg:(a::c::l).getLast? =(c::l).getLast? :=by simp[List.getLast?_cons_cons]
  rw[hg]
  show nub (a::c::(l++ [b]))=_
  rw[nub,nub]
  rw[show c::(l++ [b])=(c::l)++ [b] from rfl,ih]
  by_cases e:a=c
  ·rw[if_pos e,if_pos e]
  ·rw[if_neg e,if_neg e]
   split <;> simp
theorem D6 {xs:List Pr} {j:Nat} (h0:0<j) (h:j<xs.length):nub (xs.take (j+1))=if xs[j - 1] =xs[j] then nub (xs.take j) else nub (xs.take j)++ [xs[j]]:=by
 rw[List.take_succ_eq_append_getElem h,JN _ _ (by
  intro e
  have h9:=congrArg List.length e
  rw[List.length_take,Nat.min_eq_left (Nat.le_of_lt h),List.length_nil] at h9
  omega)]
 have hg:(xs.take j).getLast? =some xs[j - 1]:=by
  rw[List.getLast?_eq_getElem?,List.length_take,Nat.min_eq_left (Nat.le_of_lt h),List.getElem?_take,if_pos (show j - 1<j by omega),List.getElem?_eq_getElem (show j - 1<xs.length by omega)]
 rw[hg]
 by_cases e:xs[j - 1] =xs[j]
 ·rw[if_pos (by rw[e]),if_pos e]
 ·rw[if_neg (by simpa using e),if_neg e]
theorem JO {xs:List Pr} : ∀(j:Nat),j≤xs.length→(∀q (hq:q<j) (h0:0<q) (hx:j≤xs.length),xs[q - 1]'(by omega)≠xs[q]'(by omega))→nub (xs.take j)=xs.take j
 | 0,_,_=>by simp[nub]
 | 1,h,_=>by
  cases xs with
  | nil=>simp[nub]
  | cons a l=>simp[nub]
 | j+2,h,hq=>by
  rw[D6 (by omega) (by omega),if_neg (hq (j+1) (by omega) (by omega) h),JO (j+1) (by omega) (fun q h1 h2 h3=>hq q (by omega) h2 h),←List.take_succ_eq_append_getElem]
end D
namespace D
open Go.RowKit
theorem OP (xs:List Pr) (hl:xs.length≤1073741824):bT xs=some (nub xs):=by
 unfold bT
 by_cases h2:xs.length<2
 ·rw[if_pos (by simp;omega)]
  cases xs with
  | nil=>rfl
  | cons a l =>
   cases l with
   | nil=>rfl
   | cons b l=>simp only[List.length_cons] at h2;omega
 rw[if_neg (by simp;omega)]
 have key:(ai (be xs) aC 1=some (.ret (nub xs)))∨(∃s,ai (be xs) aC 1=some (.brk s)∧nub xs=xs):=by
  obtain ⟨o,e,hQ⟩:=cm (f:=be xs) (fun t s=>s=((t+1:Nat):Int)∧nub (xs.take (t+1))=xs.take (t+1)) (fun o=>o= .ret (nub xs)∨ ∃s,o= .brk s∧nub xs=xs) (xs.length - 1) (fun t s ht hI=>by
   obtain ⟨rfl,hI⟩:=hI
   unfold be
   by_cases h1:t+1<xs.length
   ·have hp:((t+1:Nat):Int) - 1=((t:Nat):Int):=by omega
    rw[a6 h1,if_pos rfl,ah h1,cB (n:=((t+1:Nat):Int) - 1) (by omega) (by omega),hp,ah (show t<xs.length by omega)]
    simp only[Option.bind_some,X5]
    have hn:=D6 (xs:=xs) (j:=t+1) (by omega) h1
    rw[hI] at hn
    simp only[Nat.add_sub_cancel] at hn
    by_cases he:xs[t+1] =xs[t]
    ·rw[if_pos (decide_eq_true he),sJ (by omega),Option.bind_some]
     rw[if_pos he.symm] at hn
     have hlt:(xs.take (t+1)).length=t+1:=by rw[List.length_take];omega
     obtain ⟨s,e1,ys,rfl,k1,k2,k3,k4⟩:=fS (f:=bC xs ((t+1:Nat):Int)) (fun u s=> ∃ys:List Pr,s=(((nub (xs.take (t+2+u))).length:Int),((u+1:Nat):Int),ys)∧ys.length=xs.length∧ys.take (nub (xs.take (t+2+u))).length=nub (xs.take (t+2+u))∧ys.drop (t+1+u)=xs.drop (t+1+u)∧(nub (xs.take (t+2+u))).length≤t+1+u) (xs.length - (t+2)) (fun u s hu hI=>by
      obtain ⟨ys,rfl,k1,k2,k3,k4⟩:=hI
      have hj:t+2+u<xs.length:=by clear k4 k2;omega
      have hj1:t+1+u<xs.length:=by clear k4 k2;omega
      have hj2:t+2+u<ys.length:=by clear k4 k2;omega
      have hj3:t+1+u<ys.length:=by clear k4 k2;omega
      have a1:(0+((t+1:Nat):Int))+((u+1:Nat):Int)=((t+2+u:Nat):Int):=by omega
      have a2:((u+1:Nat):Int) - 1=((u:Nat):Int):=by omega
      have a3:(0+((t+1:Nat):Int))+((u:Nat):Int)=((t+1+u:Nat):Int):=by omega
      unfold bC
      dsimp only
      rw[if_pos (by simp;omega),sJ (by omega)]
      simp only[Option.bind_some]
      rw[cB (n:=((u+1:Nat):Int) - 1) (by omega) (by omega),a1,a2,a3,ah (xs:=ys) hj2,ah (xs:=ys) hj3,sJ (by omega),vO k3 (by omega) hj2 hj,vO k3 (Nat.le_refl _) hj3 hj1]
      simp only[Option.bind_some,X5,db]
      have e9:t+2+u - 1=t+1+u:=by clear k4 k2;omega
      have e8:0<t+2+u:=by clear k4 k2;omega
      have hnx:=D6 (xs:=xs) (j:=t+2+u) e8 hj
      simp only[e9] at hnx
      have hd:=vN k3
      rw[show t+1+u+1=t+1+(u+1) from by omega] at hd
      rw[show t+2+(u+1)=t+2+u+1 from by omega,hnx]
      generalize nub (xs.take (t+2+u))=K at *
      by_cases hq:xs[t+2+u] =xs[t+1+u]
      ·rw[if_pos (decide_eq_true hq),if_pos hq.symm]
       simp only[Option.bind_some]
       rw[aa (by omega)]
       exact ⟨_,rfl,ys,rfl,k1,k2,hd,by omega⟩
      ·rw[if_neg (by simpa using hq),if_neg (fun e=>hq e.symm),ah (xs:=ys) (show K.length<ys.length by omega)]
       simp only[Option.bind_some]
       rw[aa (by omega),aa (by omega)]
       refine ⟨_,rfl,ys.set K.length xs[t+2+u],?_,by simpa using k1,?_,?_,?_⟩
       ·rw[List.length_append,List.length_singleton];rfl
       ·rw[List.length_append,List.length_singleton,DY (by omega),k2]
       ·rw[set_drop (by omega)];exact hd
       ·rw[List.length_append,List.length_singleton];omega) (fun s hI=>by
      obtain ⟨ys,rfl,k1,k2,k3,k4⟩:=hI
      unfold bC
      rw[if_neg (by simp;omega)]) (s:=(((t+1:Nat):Int),1,xs)) ⟨xs,by rw[Nat.add_zero,hn,hlt];rfl,rfl,by rw[Nat.add_zero,hn,hlt],rfl,by rw[Nat.add_zero,hn,hlt];omega⟩ (iy _ (by omega))
     refine .inr ⟨.ret (nub xs),?_,fun s' hh=>(by simp at hh),.inl rfl⟩
     rw[af e1]
     have hall:xs.take (t+2+(xs.length - (t+2)))=xs:=List.take_of_length_le (by omega)
     rw[hall] at k2 k4⊢
     generalize nub xs=K at *
     have q0:K.length≤ys.length:=by omega
     have z1:((0:Int)+((K.length:Nat):Int)).toNat=K.length:=by omega
     have z2:((0:Int)+(((ys.length:Nat):Int) - 0)).toNat=ys.length:=by omega
     simp only[z1,z2]
     have zl:=AR (z:=((0,0):Pr)) q0
     rw[sJ (by omega),Option.bind_some,sJ (by omega),Option.bind_some,sJ (by rw[zl];omega),Option.bind_some,wX q0,k2,List.drop_zero]
    ·rw[if_neg (by simpa using he),aa (by omega)]
     rw[if_neg (fun e=>he e.symm),←List.take_succ_eq_append_getElem h1] at hn
     exact .inl ⟨by omega,_,rfl,rfl,hn⟩
   ·refine .inr ⟨.brk ((t+1:Nat):Int),?_,fun s' hh=>(by simp at hh),.inr ⟨_,rfl,?_⟩⟩
    ·rw[if_neg (by simp;omega)]
    ·rw[List.take_of_length_le (by omega)] at hI;exact hI) (s:=1) ⟨rfl,JO 1 (by omega) (fun q h1 h0=>by omega)⟩ (iy _ (by omega))
  rcases hQ with rfl | ⟨s,rfl,h⟩
  ·exact .inl e
  ·exact .inr ⟨s,e,h⟩
 rcases key with e | ⟨s,e,h⟩
 ·rw[aT e]
 ·rw[af e,h]
def Vf (l:List Pr):List Pr:=nub (R.KD R.KE l)
theorem Rv (l:List Pr):(R.KD R.KE l).Pairwise (fun a b=> ¬ltP b a):=by
 have hle: ∀a b:Pr,(!(ltOf R.KE b a))=true↔ ¬ltP b a:=fun a b=>by
  rw[Bool.not_eq_true',R.yn];rfl
 have h:=List.pairwise_mergeSort (le:=fun x y=> !(ltOf R.KE y x)) (fun a b c h1 h2=>by
  rw[hle] at *
  intro h
  unfold ltP at *
  omega) (fun a b=>by
  rw[Bool.or_eq_true,hle,hle]
  unfold ltP
  omega) l
 exact h.imp fun {a b} h=>(hle a b).1 h
theorem JP (l:List Pr):Str (Vf l):=Iv (Rv l)
theorem JQ {l:List Pr} {x:Pr} :x∈Vf l↔x∈l:=by
 unfold Vf
 rw[D4]
 exact List.mem_mergeSort
theorem SB (l:List Pr) (hl:l.length≤268435456):nq l=some (Vf l):=by
 unfold nq cO R.QH
 rw[au (by simp only[List.length_nil];omega)]
 simp only[Option.bind_some,List.nil_append]
 rw[sJ (by omega)]
 simp only[Option.bind_some]
 rw[OP _ (by rw[R.Fp];omega)]
 rfl
theorem Gp (l:List Pr):Vf l=xX [] l:=D2 (JP l) (D3 List.Pairwise.nil) fun x=>by rw[JQ,yx];simp
theorem WS {a b:List Pr} (ha:a.length≤67108864) (hb:b.length≤67108864):fh a b=some (xX [] (a.filter fun x=> !decide (x∈b))):=by
 have hlen:(Vf a).length≤a.length:=by rw[Gp];have:=qk a [];simpa using this
 unfold fh
 rw[SB a (by omega)]
 simp only[Option.bind_some]
 rw[X7 (d:=fun x=>decide (x∈b)) (fun x=>by unfold jh;rw[db,WQ (by omega)];rfl) _ (by omega)]
 simp only[Option.bind_some]
 congr 1
 refine D2 (Ll (JP a)) (D3 List.Pairwise.nil) fun x=>?_
 rw[yx,List.mem_filter,List.mem_filter,JQ];simp
theorem X8 {a b:List Pr} (ha:a.length≤67108864) (hb:b.length≤67108864):lx a b=some (xX [] (a++b)):=by
 unfold lx
 rw[au (by simp only[List.length_nil];omega)]
 simp only[Option.bind_some,List.nil_append]
 rw[au (by omega)]
 simp only[Option.bind_some]
 rw[SB _ (by rw[List.length_append];omega),Gp];rfl
theorem D7 (l:List Pr) (hl:l.length≤1073741824): ∃b,eA l=some b:=by
 unfold eA
 obtain ⟨o,e,hQ⟩:=cm (f:=gP l) (fun i s=>s=(i:Int)) (fun o=>o= .ret false∨ ∃s,o= .brk s) l.length (fun i s hi hI=>by
  subst hI
  unfold gP bg
  by_cases h1:i<l.length
  ·rw[a6 h1,if_pos rfl,ah h1,aa (by omega)]
   have fin: ∀c:Prop,[Decidable c] →(i<l.length∧ ∃s',(if c then some (.ret false) else some (.nxt ((i+1:Nat):Int)):Option (Out Bool Int))=some (.nxt s')∧s'=((i+1:Nat):Int))∨ ∃o,(if c then some (.ret false) else some (.nxt ((i+1:Nat):Int)):Option (Out Bool Int))=some o∧(∀s',o≠ .nxt s')∧(o= .ret false∨ ∃s,o= .brk s):=by
    intro c _
    split
    ·exact .inr ⟨_,rfl,fun s' h=>by simp at h,.inl rfl⟩
    ·exact .inl ⟨h1,_,rfl,rfl⟩
   have bad:(i<l.length∧ ∃s',(some (.ret false):Option (Out Bool Int))=some (.nxt s')∧s'=((i+1:Nat):Int))∨ ∃o,(some (.ret false):Option (Out Bool Int))=some o∧(∀s',o≠ .nxt s')∧(o= .ret false∨ ∃s,o= .brk s):=.inr ⟨_,rfl,fun s' h=>by simp at h,.inl rfl⟩
   have good:(i<l.length∧ ∃s',(some (.nxt ((i+1:Nat):Int)):Option (Out Bool Int))=some (.nxt s')∧s'=((i+1:Nat):Int))∨ ∃o,(some (.nxt ((i+1:Nat):Int)):Option (Out Bool Int))=some o∧(∀s',o≠ .nxt s')∧(o= .ret false∨ ∃s,o= .brk s):=.inl ⟨h1,_,rfl,rfl⟩
   by_cases c1:l[i].1≥0
   ·by_cases c2:l[i].1≤4
    ·by_cases c3:l[i].2≥0
     ·by_cases c4:l[i].2≤4
      ·by_cases c5:(i:Int)>0
       ·have hp:IntKind.i64.wrap ((i:Int) - 1)=((i - 1:Nat):Int):=by rw[cB (by omega) (by omega)];omega
        obtain ⟨r,er,-⟩:=WR l[i - 1] l[i]
        simp only[Option.bind_some,c1,c2,c3,c4,c5,decide_true,if_true,hp,ah (show i - 1<l.length by omega),db,er]
        exact fin _
       ·simp only[Option.bind_some,c1,c2,c3,c4,c5,decide_true,if_true,decide_false,Bool.false_eq_true,if_false]
        exact good
      ·simp only[Option.bind_some,c1,c2,c3,c4,decide_true,if_true,decide_false,Bool.false_eq_true,if_false]
       exact bad
     ·simp only[Option.bind_some,c1,c2,c3,decide_true,if_true,decide_false,Bool.false_eq_true,if_false]
      exact bad
    ·simp only[Option.bind_some,c1,c2,decide_true,if_true,decide_false,Bool.false_eq_true,if_false]
     exact bad
   ·simp only[Option.bind_some,c1,decide_false,Bool.false_eq_true,if_false]
    exact bad
  ·obtain rfl:i=l.length:=by omega
   rw[aO]
   exact .inr ⟨_,rfl,fun s' h=>by simp at h,.inr ⟨_,rfl⟩⟩) (s:=0) rfl (iy _ (by omega))
 rcases hQ with rfl | ⟨s,rfl⟩
 ·exact ⟨_,aT e⟩
 ·exact ⟨_,af e⟩
end D
set_option synthInstance.maxSize 20000
set_option synthInstance.maxHeartbeats 2000000
namespace D
open Go.RowKit
abbrev O0:=Int×(List GrT)
abbrev X9:=Int×Bool×((List (Int×Int))×(List (Int×Int)))
theorem U3 (g:GrT) (hg:Data.sm g):oV g=some g:=by
 have h1:=(aw hg.1).1
 have h2:=(aw hg.2).1
 unfold oV
 rw[au (by simp;omega)];simp only[Option.bind_some,List.nil_append]
 rw[au (by simp;omega)];rfl
theorem OQ (g:GrT) (hg:Data.sm g):iq g=some g:=by
 have h1:=(aw hg.1).1
 have h2:=(aw hg.2).1
 unfold iq gK
 rw[au (by simp;omega)];simp only[Option.bind_some,List.nil_append]
 rw[au (by simp;omega)];rfl
theorem wY {g:GrT} (hg:Data.sm g): ∃b,aF g=some b:=by
 obtain ⟨b,e,_⟩:=DT g (aw hg.1).1 (aw hg.2).1
 exact ⟨b,e⟩
def okG (h:O0) (g:GrT):Prop:=aF g=some true∧g.1=(nth h.2 0).1
instance (h g):Decidable (okG h g):=by unfold okG;infer_instance
theorem Gq (h:O0) (hh:Data.sm h): ∃b,bR h=some b∧aW h=some b∧(b=true→(1≤h.2.length∧h.2.length≤8)∧1≤h.1∧h.1≤1000 - (h.2.length:Int)):=by
 obtain ⟨hl,hs⟩:=aw hh.2
 have ew:IntKind.i64.wrap ((IntKind.i64.wrap (999 - (h.2.length:Int)))+1)=1000 - (h.2.length:Int):=by
  rw[cB (n:=999 - (h.2.length:Int)) (by omega) (by omega),cB (by omega) (by omega)];omega
 have ks:=scan (f:=eh h) h.2 (okG h) false (by omega) (fun i hi=>by
  have hg:=hs _ (bH (xs:=h.2) (i:=(i:Int)) (by omega) (by omega))
  obtain ⟨b,e⟩:=wY hg
  obtain ⟨r,er,hr⟩:=DO (nth h.2 (i:Int)).1 (nth h.2 0).1 (aw hg.1).1
  have e':bI ((nth h.2 (i:Int)).1,(nth h.2 (i:Int)).2)=some b:=by rw[AQ];exact e
  have hk:okG h (nth h.2 (i:Int))↔b=true∧(nth h.2 (i:Int)).1=(nth h.2 0).1:=by unfold okG;rw[e];simp
  unfold eh
  rw[if_pos (by simp;omega),ak (by omega) (by omega)];simp only[Option.bind_some]
  rw[e',ak (xs:=h.2) (i:=0) (by omega) (by omega)];simp only[Option.bind_some]
  rw[er,aa (by omega)];simp only[Option.bind_some]
  cases b with
  | false=>rw[if_neg (by decide),if_neg (fun c=>by cases (hk.1 c).1)]
  | true =>
   rw[if_pos rfl]
   by_cases c:r=0
   ·rw[if_neg (by simp[c]),if_pos (hk.2 ⟨rfl,hr.1 c⟩)]
   ·rw[if_pos (by simpa using c),if_neg (fun k=>c (hr.2 (hk.1 k).2))]) (by unfold eh;simp)
 have ki:=scan (f:=bG h) h.2 (okG h) false (by omega) (fun i hi=>by
  have hg:=hs _ (bH (xs:=h.2) (i:=(i:Int)) (by omega) (by omega))
  obtain ⟨b,e⟩:=wY hg
  have er:=vG (nth h.2 (i:Int)).1 (nth h.2 0).1 (by have:=(aw hg.1).1;omega)
  have e':aF ((nth h.2 (i:Int)).1,(nth h.2 (i:Int)).2)=some b:=e
  have hk:okG h (nth h.2 (i:Int))↔b=true∧(nth h.2 (i:Int)).1=(nth h.2 0).1:=by unfold okG;rw[e];simp
  unfold bG
  rw[if_pos (by simp;omega),ak (by omega) (by omega)];simp only[Option.bind_some]
  rw[e',ak (xs:=h.2) (i:=0) (by omega) (by omega)];simp only[Option.bind_some]
  rw[er,aa (by omega)];simp only[Option.bind_some]
  cases b with
  | false=>rw[if_neg (by decide),if_neg (fun c=>by cases (hk.1 c).1)]
  | true =>
   rw[if_pos rfl]
   by_cases c:(nth h.2 (i:Int)).1=(nth h.2 0).1
   ·rw[if_pos (decide_eq_true c),if_pos (hk.2 ⟨rfl,c⟩)]
   ·rw[if_neg (by simpa using c),if_neg (fun k=>c (hk.1 k).2)]) (by unfold bG;simp)
 unfold bR aW
 rw[OY,OY,Ea,Ea,ew];simp only[Option.bind_some]
 by_cases c1:(1:Int)≤(h.2.length:Int)∧(h.2.length:Int)≤8
 ·by_cases c2:1≤h.1∧h.1≤1000 - (h.2.length:Int)
  ·rw[decide_eq_true c1,decide_eq_true c2];simp only[if_true]
   rcases ks with ⟨es,k1⟩ | ⟨es,k1⟩ <;> rcases ki with ⟨ei,k2⟩ | ⟨ei,k2⟩
   ·rw[af es,af ei]
    exact ⟨true,rfl,rfl,fun _=>⟨by omega,c2⟩⟩
   ·exact absurd k1 k2
   ·exact absurd k2 k1
   ·rw[aT es,aT ei]
    exact ⟨false,rfl,rfl,fun c=>by cases c⟩
  ·rw[decide_eq_true c1,decide_eq_false c2];simp only[if_true,Bool.false_eq_true,if_false]
   rcases ks with ⟨es,k1⟩ | ⟨es,k1⟩
   ·rw[af es];exact ⟨false,rfl,rfl,fun c=>by cases c⟩
   ·rw[aT es];exact ⟨false,rfl,rfl,fun c=>by cases c⟩
 ·rw[decide_eq_false c1];simp only[Bool.false_eq_true,if_false]
  rcases ks with ⟨es,k1⟩ | ⟨es,k1⟩
  ·rw[af es];exact ⟨false,rfl,rfl,fun c=>by cases c⟩
  ·rw[aT es];exact ⟨false,rfl,rfl,fun c=>by cases c⟩
def SC (h:O0):Int:=h.1+(h.2.length:Int) - 1
theorem Gr {h:O0} (hs:bR h=some true) (hi:aW h=some true) (k:(1≤h.2.length∧h.2.length≤8)∧1≤h.1∧h.1≤1000 - (h.2.length:Int)):fc h=some (SC h)∧dA h=some (SC h):=by
 unfold fc dA SC
 have hs:bR (h.1,h.2)=_:=hs
 have hi:aW (h.1,h.2)=_:=hi
 rw[hs,hi];simp only[Option.bind_some,if_true]
 rw[cB (n:=h.1+(h.2.length:Int)) (by omega) (by omega),cB (by omega) (by omega)]
 exact ⟨rfl,rfl⟩
theorem xF (h:O0) (hh:Data.sm h) (v:Int): ∃(g:GrT) (q:Bool),jg h v=some (g,q)∧gO h v=some (g,q)∧Data.sm g∧(aW h=some true→h.1≤v→v≤SC h→q=true)∧(q=false→g=([],[])):=by
 obtain ⟨b,es,ei,k⟩:=Gq h hh
 have es':bR (h.1,h.2)=_:=es
 have ei':aW (h.1,h.2)=_:=ei
 have z0:Data.sm (([],[]):GrT):=⟨⟨by decide,fun _ hx=>by cases hx⟩,by decide,fun _ hx=>by cases hx⟩
 unfold jg gO
 rw[es',ei'];simp only[Option.bind_some]
 cases b with
 | false=>exact ⟨_,false,rfl,rfl,z0,fun c=>(by cases c),fun _=>rfl⟩
 | true =>
  have kk:=k rfl
  obtain ⟨l1,l2⟩:=Gr es ei kk
  have l1:fc (h.1,h.2)=_:=l1
  have l2:dA (h.1,h.2)=_:=l2
  simp only[if_true,l1,l2,Option.bind_some,OY,Ea,decide_eq_true_eq]
  by_cases c:h.1≤v∧v≤SC h
  ·have c':=c
   unfold SC at c'
   have hm:=(aw hh.2).2 _ (bH (xs:=h.2) (i:=v - h.1) (by omega) (by omega))
   have e1:oV ((nth h.2 (v - h.1)).1,(nth h.2 (v - h.1)).2)=_:=U3 _ hm
   have e2:iq ((nth h.2 (v - h.1)).1,(nth h.2 (v - h.1)).2)=_:=OQ _ hm
   rw[if_pos c,if_pos c,cB (n:=v - h.1) (by omega) (by omega),ak (by omega) (by omega)];simp only[Option.bind_some]
   rw[e1,e2]
   exact ⟨_,true,rfl,rfl,hm,fun _ _ _=>rfl,fun c=>by cases c⟩
  ·rw[if_neg c,if_neg c]
   exact ⟨_,false,rfl,rfl,z0,fun _ h1 h2=>absurd ⟨h1,h2⟩ c,fun _=>rfl⟩
end D
set_option synthInstance.maxSize 20000
set_option synthInstance.maxHeartbeats 2000000
namespace D
open Go.RowKit
abbrev PsT:Type:=List (Int×Int)
theorem SD {R:Type} {f:Bool×Int→Option (Out R (Bool×Int))} {l:PsT} {d:Pr→Bool} {b0:Bool} (hN:l.length≤9223372036854775807) (h: ∀b i (hi:i<l.length),f (b,(i:Int))=some (.nxt (b&&d l[i],((i+1:Nat):Int)))) (he: ∀b,f (b,(l.length:Int))=some (.brk (b,(l.length:Int)))):ai f aC (b0,0)=some (.brk (b0&&l.all d,(l.length:Int))):=by
 obtain ⟨s,e,rfl⟩:=fS (f:=f) (fun i s=>s=(b0&&(l.take i).all d,(i:Int))) l.length (fun i s hi hI=>by
  subst hI
  refine ⟨_,h _ i hi,?_⟩
  rw[List.take_succ_eq_append_getElem hi,List.all_append,Bool.and_assoc];simp) (fun s hI=>by
  subst hI
  rw[he]) (s:=(b0,0)) (by simp) (iy _ hN)
 rw[e,List.take_of_length_le (Nat.le_refl _)]
theorem Rw (l:List Pr) (f:Pr→Bool):(xX [] (l.filter f)).length≤l.length:=by
 have g1:=qk (l.filter f) []
 have g2:=List.length_filter_le f l
 rw[List.length_nil] at g1
 omega
theorem Gs {d:PsT×PsT} (h1:d.1.length≤1048576) (h2:d.2.length≤1048576): ∃b,pY d=some b∧qa d=some b:=by
 obtain ⟨b1,e1⟩:=D7 d.1 (by omega)
 obtain ⟨b2,e2⟩:=D7 d.2 (by omega)
 unfold pY qa
 rw[yy,yy,e1,e2,JM (by omega) (by omega)]
 rcases D5 (f:=ln d) d.1 (fun x=>decide (x∈d.2)) (fun _=>false) (by omega) (fun i hi=>by
   unfold ln
   rw[a6 hi,if_pos rfl,ah hi]
   simp only[Option.bind_some,db]
   rw[Ru (by omega)]
   simp only[Option.bind_some,aa (show i<9223372036854775807 by omega)]
   split <;> rfl) (by
   unfold ln
   rw[aO];rfl) with ⟨i,hi,k1,-,e⟩ | ⟨k1,e⟩
 ·rw[aT e]
  have hc:decide (∃x,x∈d.1∧x∈d.2)=true:=decide_eq_true ⟨_,List.getElem_mem hi,of_decide_eq_true k1⟩
  rw[hc]
  refine ⟨false,rfl,?_⟩
  cases b1 <;> cases b2 <;> rfl
 ·rw[af e]
  have hc:decide (∃x,x∈d.1∧x∈d.2)=false:=decide_eq_false fun ⟨x,h3,h4⟩=>by have:=k1 x h3;simp[h4] at this
  rw[hc]
  cases b1 <;> cases b2 <;> exact ⟨_,rfl,rfl⟩
theorem OR (l:PsT) (h:l.length≤1048576):cT l=some l:=by
 unfold cT
 rw[au (by simp only[List.length_nil];omega)];rfl
theorem U4 (l:PsT) (h:l.length≤1048576):cn 16 ([] :PsT) l=some l:=by
 rw[au (by simp only[List.length_nil];omega)];rfl
theorem AW {l:PsT} {d:PsT×PsT} (hl:l.length≤1048576) (h1:d.1.length≤1048576) (h2:d.2.length≤1048576): ∃x:PsT×Bool,lp l d=some x∧lz l d=some x∧x.1.length≤l.length+d.1.length:=by
 obtain ⟨b,ds,di⟩:=Gs h1 h2
 obtain ⟨c,ei⟩:=D7 l (by omega)
 have es:=yy (l:=l)
 rw[ei] at es
 unfold lp lz
 simp only[db,ds,di,Option.bind_some,es,ei]
 rw[show ((if b=true then some c else some false:Option Bool).bind fun s1=>ax (ai (dx l d) aC (s1,0)) (fun r=>some r) (fun s5=>ax (ai (dy l d) aC (s5.1,0)) (fun r=>some r) (fun s9=>if s9.1 then ((dw l d.2).bind fun r11=>(fV r11 d.1).bind fun r12=>some (r12,true)) else ((cn 16 ([] :List (Int×Int)) l).bind fun z1=>some (z1,false)))))=ax (ai (dx l d) aC (b&&c,0)) (fun r=>some r) (fun s5=>ax (ai (dy l d) aC (s5.1,0)) (fun r=>some r) (fun s9=>if s9.1 then ((dw l d.2).bind fun r11=>(fV r11 d.1).bind fun r12=>some (r12,true)) else ((cn 16 ([] :List (Int×Int)) l).bind fun z1=>some (z1,false)))) from by cases b <;> rfl]
 have L0:=SD (f:=dx l d) (l:=d.1) (d:=fun x=> !decide (x∈l)) (b0:=b&&c) (by omega) (fun b i hi=>by
  unfold dx
  rw[a6 hi,if_pos rfl]
  cases b with
  | true =>
   rw[if_pos rfl,ah hi]
   simp only[Option.bind_some,db]
   rw[Ru (by omega)]
   simp only[Option.bind_some,Bool.true_and,aa (show i<9223372036854775807 by omega)]
  | false=>rw[if_neg (by simp),aa (by omega),Bool.false_and]) (fun b=>by
  unfold dx
  rw[aO];rfl)
 rw[af L0]
 have L1:=SD (f:=dy l d) (l:=d.2) (d:=fun x=>decide (x∈l)) (b0:=(b&&c)&&d.1.all fun x=> !decide (x∈l)) (by omega) (fun b i hi=>by
  unfold dy
  rw[a6 hi,if_pos rfl]
  cases b with
  | true =>
   rw[if_pos rfl,ah hi]
   simp only[Option.bind_some,db]
   rw[Ru (by omega)]
   simp only[Option.bind_some,Bool.true_and,aa (show i<9223372036854775807 by omega)]
  | false=>rw[if_neg (by simp),aa (by omega),Bool.false_and]) (fun b=>by
  unfold dy
  rw[aO];rfl)
 rw[af L1]
 simp only[OR l hl,U4 l hl,Option.bind_some,JM (l:=l) (m:=d.1) (by omega) (by omega),WS (a:=d.2) (b:=l) (by omega) (by omega),Lm (a:=l) (b:=d.2) (by omega) (by omega),WS (a:=l) (b:=d.2) (by omega) (by omega)]
 have hK0:=Rw l (fun x=> !decide (x∈d.2))
 have hK:(xX [] (l.filter fun x=> !decide (x∈d.2))).length≤1048576:=Nat.le_trans hK0 hl
 rw[U2 (by omega) (by omega),X8 (by omega) (by omega)]
 have hM:(xX [] (xX [] (l.filter fun x=> !decide (x∈d.2))++d.1)).length≤l.length+d.1.length:=by
  have g1:=qk (xX [] (l.filter fun x=> !decide (x∈d.2))++d.1) []
  rw[List.length_nil,List.length_append] at g1
  omega
 simp only[Option.bind_some]
 cases b with
 | false=>exact ⟨(l,false),rfl,rfl,by show l.length≤_;omega⟩
 | true =>
  cases c with
  | false=>exact ⟨(l,false),rfl,rfl,by show l.length≤_;omega⟩
  | true =>
   simp only[Bool.true_and,if_true]
   by_cases hc: ∃x,x∈l∧x∈d.1
   ·have ha:(d.1.all fun x=> !decide (x∈l))=false:=by
     obtain ⟨x,h3,h4⟩:=hc
     rw[List.all_eq_false]
     exact ⟨x,h4,by simp[h3]⟩
    rw[ha,decide_eq_true hc]
    exact ⟨(l,false),rfl,rfl,by show l.length≤_;omega⟩
   ·have ha:(d.1.all fun x=> !decide (x∈l))=true:=by
     rw[List.all_eq_true]
     intro x hx
     have:x∉l:=fun h=>hc ⟨x,h,hx⟩
     simp[this]
    rw[ha,decide_eq_false hc]
    simp only[Bool.true_and,Bool.false_eq_true,if_false]
    by_cases hr: ∀x,x∈d.2→x∈l
    ·have h5:(d.2.all fun x=>decide (x∈l))=true:=by
      rw[List.all_eq_true];exact fun x hx=>decide_eq_true (hr x hx)
     have h6:(d.2.filter fun x=> !decide (x∈l))= []:=by
      rw[List.filter_eq_nil_iff]
      intro x hx
      simp[hr x hx]
     rw[h5,h6]
     exact ⟨_,rfl,rfl,hM⟩
    ·have h5:(d.2.all fun x=>decide (x∈l))=false:=by
      rw[List.all_eq_false]
      have: ∃x,x∈d.2∧x∉l:=Classical.byContradiction fun h=>hr fun x hx=>Classical.byContradiction fun hn=>h ⟨x,hx,hn⟩
      obtain ⟨x,h3,h4⟩:=this
      exact ⟨x,h3,by simp[h4]⟩
     have h6: ¬(xX [] (d.2.filter fun x=> !decide (x∈l))).length=0:=fun h0=>hr fun x hx=>Classical.byContradiction fun hn=>by
      have hm:x∈xX [] (d.2.filter fun x=> !decide (x∈l)):=yx.2 (.inr (List.mem_filter.2 ⟨hx,by simp[hn]⟩))
      rw[List.eq_nil_of_length_eq_zero h0] at hm
      cases hm
     rw[h5,if_neg (by simp),if_pos (decide_eq_true (by omega))]
     exact ⟨(l,false),rfl,rfl,by show l.length≤_;omega⟩
abbrev MsT:Type:=Int×Bool×(PsT×PsT)
theorem Gt {l:PsT} {m:MsT} (hl:l.length≤1048576) (h1:m.2.2.1.length≤1048576) (h2:m.2.2.2.length≤1048576): ∃x:PsT×Bool,fN l m=some x∧fQ l m=some x∧x.1.length≤l.length+m.2.2.1.length:=by
 obtain ⟨x,d1,d2,d3⟩:=AW (l:=l) (d:=m.2.2) hl h1 h2
 obtain ⟨c,ei⟩:=D7 m.2.2.1 (by omega)
 have es:=yy (l:=m.2.2.1)
 rw[ei] at es
 unfold fN fQ
 simp only[db,d1,d2,es,ei,OR l hl,U4 l hl,OR m.2.2.1 h1,U4 m.2.2.1 h1,Option.bind_some]
 split
 ·split
  ·split
   ·exact ⟨_,rfl,rfl,by show l.length≤_;omega⟩
   ·exact ⟨_,rfl,rfl,by show m.2.2.1.length≤_;omega⟩
  ·exact ⟨_,rfl,rfl,by show l.length≤_;omega⟩
 ·exact ⟨_,rfl,rfl,d3⟩
end D
set_option synthInstance.maxSize 20000
set_option synthInstance.maxHeartbeats 2000000
namespace D
open Go.RowKit
theorem Gu {r:Ld} (hr:Data.sm r) (id:Int): ∃c:Bool,∀g:GrT,Data.sm g→ ∃(l:List (Int×Int)) (b:Bool),aF g=some b∧cC r g id=some (l,c&&b)∧dh r g id=some (l,c&&b)∧l.length≤150:=by
 obtain ⟨⟨a,q⟩,es,ei,sa⟩:=Lh hr id
 refine ⟨q,fun g hg=>?_⟩
 obtain ⟨b,e1,k1⟩:=DT g (aw hg.1).1 (aw hg.2).1
 have es:ed (r.1,r.2) id=_:=es
 have ei:eu (r.1,r.2) id=_:=ei
 have e2:bI (g.1,g.2)=some b:=by rw[AQ];exact e1
 have e1':aF (g.1,g.2)=_:=e1
 obtain ⟨l,f1,f2,hl⟩:=Rt g a hg sa
 have f1:iL (g.1,g.2) (a.1,a.2.1,a.2.2)=_:=f1
 have f2:iN (g.1,g.2) (a.1,a.2.1,a.2.2)=_:=f2
 unfold cC dh
 rw[es,ei,e1',e2];simp only[Option.bind_some]
 rw[f1,f2]
 cases q with
 | false=>exact ⟨[],b,rfl,rfl,rfl,by decide⟩
 | true =>
  cases b with
  | false=>exact ⟨[],false,rfl,rfl,rfl,by decide⟩
  | true=>exact ⟨l,true,rfl,rfl,rfl,hl⟩
theorem Iw {h:O0} (hh:Data.sm h) (hv:aW h=some true): ∀g∈h.2,aF g=some true:=by
 obtain ⟨hl,hs⟩:=aw hh.2
 have ki:=scan (f:=bG h) h.2 (okG h) false (by omega) (fun i hi=>by
  have hg:=hs _ (bH (xs:=h.2) (i:=(i:Int)) (by omega) (by omega))
  obtain ⟨b,e⟩:=wY hg
  have er:=vG (nth h.2 (i:Int)).1 (nth h.2 0).1 (by have:=(aw hg.1).1;omega)
  have e':aF ((nth h.2 (i:Int)).1,(nth h.2 (i:Int)).2)=some b:=e
  have hk:okG h (nth h.2 (i:Int))↔b=true∧(nth h.2 (i:Int)).1=(nth h.2 0).1:=by unfold okG;rw[e];simp
  unfold bG
  rw[if_pos (by simp;omega),ak (by omega) (by omega)];simp only[Option.bind_some]
  rw[e',ak (xs:=h.2) (i:=0) (by omega) (by omega)];simp only[Option.bind_some]
  rw[er,aa (by omega)];simp only[Option.bind_some]
  cases b with
  | false=>rw[if_neg (by decide),if_neg (fun c=>by cases (hk.1 c).1)]
  | true =>
   rw[if_pos rfl]
   by_cases c:(nth h.2 (i:Int)).1=(nth h.2 0).1
   ·rw[if_pos (decide_eq_true c),if_pos (hk.2 ⟨rfl,c⟩)]
   ·rw[if_neg (by simpa using c),if_neg (fun k=>c (hk.1 k).2)]) (by unfold bG;simp)
 rcases ki with ⟨ei,k⟩ | ⟨ei,k⟩
 ·exact fun g hg=>(k g hg).1
 ·unfold aW at hv
  rw[Ea,Ea] at hv;simp only[Option.bind_some] at hv
  rw[aT ei] at hv
  split at hv
  ·split at hv
   ·cases hv
   ·cases hv
  ·cases hv
theorem D8 {h:O0} (hh:Data.sm h) {v:Int} {g:GrT} (e:gO h v=some (g,true)):aF g=some true:=by
 obtain ⟨b,es,ei,k⟩:=Gq h hh
 have ei':aW (h.1,h.2)=_:=ei
 unfold gO at e
 rw[ei'] at e;simp only[Option.bind_some] at e
 cases b with
 | false=>cases e
 | true =>
  obtain ⟨-,l2⟩:=Gr es ei (k rfl)
  have l2:dA (h.1,h.2)=_:=l2
  simp only[if_true,l2,Option.bind_some,Ea,decide_eq_true_eq] at e
  by_cases c:h.1≤v∧v≤SC h
  ·have c':=c
   have kk:=k rfl
   unfold SC at c'
   have hm:=(aw hh.2).2 _ (bH (xs:=h.2) (i:=v - h.1) (by omega) (by omega))
   have e2:iq ((nth h.2 (v - h.1)).1,(nth h.2 (v - h.1)).2)=_:=OQ _ hm
   rw[if_pos c,cB (n:=v - h.1) (by omega) (by omega),ak (by omega) (by omega)] at e;simp only[Option.bind_some] at e
   rw[e2] at e
   have e:nth h.2 (v - h.1)=g:=(Prod.mk.inj (Option.some.inj e)).1
   rw[←e]
   exact Iw hh ei _ (bH (by omega) (by omega))
  ·rw[if_neg c] at e;cases e
theorem YZ (x y:List (Int×Int)) (hN:x.length≤1048576*4):iM x y=some (decide (x=y))∧lA x y=some (decide (x=y)):=by
 have h1:iM x y=some (decide (x=y)):=by
  unfold iM
  exact eqL (f:=ig x y) x y (by omega) (fun i h h'=>by
   simp only[ig,a6 h,if_true,ah h,ah h',Option.bind_some,aa (show i<9223372036854775807 by omega),WO]
   by_cases c:x[i] =y[i] <;> simp[c]) (by simp only[ig,aO];rfl)
 have h2:cj x y=some (decide (x=y)):=by
  unfold cj
  exact eqL (f:=bN x y) x y (by omega) (fun i h h'=>by
   simp only[bN,a6 h,if_true,ah h,ah h',Option.bind_some,aa (show i<9223372036854775807 by omega),WO]
   by_cases c:x[i] =y[i] <;> simp[c]) (by simp only[bN,aO];rfl)
 exact ⟨h1,by unfold lA;rw[h2];rfl⟩
section
variable {h:O0} (hh:Data.sm h) {r:Ld} (hr:Data.sm r) {id:Int} (hc: ∀g:GrT,Data.sm g→ ∃(l:List (Int×Int)) (b:Bool),aF g=some b∧cC r g id=some (l,b)∧dh r g id=some (l,b)∧l.length≤150)
 {ms:List X9} (hm:Data.sm ms)
include hh hr hc hm
theorem wZ {now:List (Int×Int)} {v:Int} {k:Nat} (hn:now.length≤150) (hk:k≤ms.length) :
  ∃o,cz h r id ms (now,v,(k:Int))=some o∧dn h r id ms (now,v,(k:Int))=some o∧ ∀s',o= .nxt s'→k<ms.length∧s'.1.length≤150∧s'.2.2=((k+1:Nat):Int):=by
 unfold cz dn
 simp only
 have hml:=(aw hm).1
 by_cases c:k<ms.length
 ·rw[if_pos (by simp only[decide_eq_true_eq];omega),if_pos (by simp only[decide_eq_true_eq];omega),ak (by omega) (by omega)];simp only[Option.bind_some]
  have sm:=(aw hm).2 _ (bH (xs:=ms) (i:=(k:Int)) (by omega) (by omega))
  generalize nth ms (k:Int)=m at sm
  obtain ⟨x,a1,a2,hx⟩:=Gt (l:=now) (m:=m) (by omega) (aw sm.2.2.1).1 (aw sm.2.2.2).1
  have a1:fN now (m.1,m.2.1,(m.2.2.1,m.2.2.2))=_:=a1
  have a2:fQ now (m.1,m.2.1,(m.2.2.1,m.2.2.2))=_:=a2
  obtain ⟨g,q,g1,g2,sg,-,-⟩:=xF h hh m.1
  have g1:jg (h.1,h.2) m.1=_:=g1
  have g2':gO (h.1,h.2) m.1=_:=g2
  obtain ⟨l,b,ev,q1,q2,hl⟩:=hc g sg
  have q1:cC (r.1,r.2) (g.1,g.2) id=_:=q1
  have q2:dh (r.1,r.2) (g.1,g.2) id=_:=q2
  have ea:fI (h.1,h.2) (r.1,r.2) id m.1=some (if q then l else [],if q then b else false):=by
   unfold fI
   rw[g2'];simp only[Option.bind_some]
   cases q with
   | false=>rfl
   | true=>simp only[if_true];rw[q2];rfl
  rw[a1,a2,g1,ea];simp only[Option.bind_some]
  rw[q1];simp only[Option.bind_some]
  rcases x with ⟨x,xo⟩
  have hxl:=(aw sm.2.2.1).1
  have hx:x.length≤now.length+m.2.2.1.length:=hx
  cases xo with
  | false=>exact ⟨_,rfl,rfl,fun s' e=>by cases e⟩
  | true =>
   cases q with
   | false=>exact ⟨_,rfl,rfl,fun s' e=>by cases e⟩
   | true =>
    have hb:=D8 hh g2
    rw[ev] at hb
    obtain rfl:b=true:=Option.some.inj hb
    simp only[if_true]
    by_cases c2:m.1≤v
    ·rw[if_pos (decide_eq_true c2),if_pos (decide_eq_true c2)]
     exact ⟨_,rfl,rfl,fun s' e=>by cases e⟩
    ·obtain ⟨p1,p2⟩:=YZ x l (by omega)
     rw[if_neg (by simpa using c2),if_neg (by simpa using c2),p1,p2];simp only[Option.bind_some]
     by_cases c3:x=l
     ·rw[if_pos (decide_eq_true c3),aa (by omega)]
      refine ⟨_,rfl,rfl,fun s' e=>?_⟩
      cases e
      exact ⟨c,by rw[c3];exact hl,rfl⟩
     ·rw[if_neg (by simpa using c3)]
      exact ⟨_,rfl,rfl,fun s' e=>by cases e⟩
 ·rw[if_neg (by simp only[decide_eq_true_eq];omega),if_neg (by simp only[decide_eq_true_eq];omega)]
  exact ⟨_,rfl,rfl,fun s' e=>by cases e⟩
theorem Ln {now:List (Int×Int)} {v:Int} (hn:now.length≤150): ∃b:Bool,ax (ai (cz h r id ms) aC (now,v,0)) (fun r=>some r) (fun _=>some true)=some b∧ax (ai (dn h r id ms) aC (now,v,0)) (fun r=>some r) (fun _=>some true)=some b:=by
 have hml:=(aw hm).1
 obtain ⟨o,e,hq⟩:=cm (f:=cz h r id ms) (fun i s=>s.1.length≤150∧s.2.2=(i:Int)∧i≤ms.length) (fun o=> ∀s',o≠ .nxt s') ms.length (s:=(now,v,0)) (by
  rintro i ⟨now,v,k⟩ hi ⟨h1,h2,h3⟩
  obtain rfl:k=(i:Int):=h2
  obtain ⟨o,e1,e2,k⟩:=wZ hh hr hc hm (v:=v) h1 h3
  cases o with
  | nxt s' =>
   obtain ⟨k1,k2,k3⟩:=k s' rfl
   exact .inl ⟨k1,s',e1,k2,k3,by omega⟩
  | brk s'=>exact .inr ⟨_,e1,(fun s' e=>by cases e),fun s' e=>by cases e⟩
  | ret s'=>exact .inr ⟨_,e1,(fun s' e=>by cases e),fun s' e=>by cases e⟩) ⟨hn,rfl,by omega⟩ (mb (by omega))
 have k:=AO (f:=cz h r id ms) (f':=dn h r id ms) (fun s=>s) (fun s=>s.1.length≤150∧ ∃k:Nat,s.2.2=(k:Int)∧k≤ms.length) (by
  rintro ⟨now,v,k⟩ ⟨h1,i,h2,h3⟩
  obtain rfl:k=(i:Int):=h2
  obtain ⟨o,e1,e2,-⟩:=wZ hh hr hc hm (v:=v) h1 h3
  rw[e1,e2]
  cases o <;> rfl) (by
  rintro ⟨now,v,k⟩ s' ⟨h1,i,h2,h3⟩ hf
  obtain rfl:k=(i:Int):=h2
  obtain ⟨o,e1,e2,k⟩:=wZ hh hr hc hm (v:=v) h1 h3
  rw[e1] at hf
  obtain ⟨k1,k2,k3⟩:=k s' (Option.some.inj hf)
  exact ⟨k2,i+1,k3,by omega⟩) aC (now,v,0) ⟨hn,0,rfl,by omega⟩
 rw[k,e]
 cases o with
 | nxt s'=>exact absurd rfl (hq s')
 | brk s'=>exact ⟨true,rfl,rfl⟩
 | ret b=>exact ⟨b,rfl,rfl⟩
end
theorem Ix (h:O0) (hh:Data.sm h) {r:Ld} (hr:Data.sm r) (id v:Int) (ms:List X9) (hm:Data.sm ms): ∃b:Bool,ij h r id v ms=some b∧ir h r id v ms=some b:=by
 obtain ⟨c,hc⟩:=Gu hr id
 obtain ⟨g,q,g1,g2,sg,-,-⟩:=xF h hh v
 obtain ⟨l,b,ev,q1,q2,hl⟩:=hc g sg
 have g1:jg (h.1,h.2) v=_:=g1
 have g2':gO (h.1,h.2) v=_:=g2
 have q1:cC (r.1,r.2) (g.1,g.2) id=_:=q1
 have q2:dh (r.1,r.2) (g.1,g.2) id=_:=q2
 have ea:fI (h.1,h.2) (r.1,r.2) id v=some (if q then l else [],if q then c&&b else false):=by
  unfold fI
  rw[g2'];simp only[Option.bind_some]
  cases q with
  | false=>rfl
  | true=>simp only[if_true];rw[q2];rfl
 unfold ij ir
 rw[g1,ea];simp only[Option.bind_some]
 rw[q1];simp only[Option.bind_some]
 cases q with
 | false=>exact ⟨false,rfl,rfl⟩
 | true =>
  simp only[if_true]
  cases c with
  | false=>exact ⟨false,rfl,rfl⟩
  | true =>
   simp only[Bool.true_and] at hc⊢
   cases b with
   | false=>exact ⟨false,rfl,rfl⟩
   | true =>
    simp only[if_true]
    exact Ln hh hr hc hm hl
theorem xY (x:O0) (y:Ld) (id v:Int) (ms:List X9) (hx:Data.lim x) (hy:Data.lim y) (_:Data.lim id) (_:Data.lim v) (hz:Data.lim ms):de x y id v ms=some true:=by
 unfold de
 simp only[db]
 obtain ⟨r1,e1,k1⟩:=H0 x 1048576 hx (by decide) (by decide)
 rw[e1];simp only[Option.bind_some]
 rcases k1 with k1 | ⟨k1,j1,s1⟩
 ·rw[if_pos (decide_eq_true k1)]
 rw[if_neg (by simpa using k1)]
 obtain ⟨r2,e2,k2⟩:=FN y r1 hy k1 j1
 rw[e2];simp only[Option.bind_some]
 rcases k2 with k2 | ⟨k2,j2,s2⟩
 ·rw[if_pos (decide_eq_true k2)]
 rw[if_neg (by simpa using k2)]
 obtain ⟨r3,e3,k3⟩:=FR ms r2 hz k2 (by omega)
 rw[e3];simp only[Option.bind_some]
 rcases k3 with k3 | ⟨k3,j3,s3⟩
 ·rw[if_pos (decide_eq_true k3)]
 rw[if_neg (by simpa using k3)]
 obtain ⟨b,es,ei⟩:=Ix x s1 s2 id v ms s3
 simp only[H1 x s1,FO y s2,FV ms s3,es,ei,H2 x x s1 s1,FP y y s2 s2,FX ms ms s3 s3,Option.bind_some,db,decide_true,if_true]
 simp only[bne_self_eq_false,Bool.false_eq_true,if_false]
end D
open Go.ChangeShapes Go.WideShapes Go.ChangeAt Go.RowKit
theorem own:ownKnob Tryz.prog.godebug=none:=by kernel_rfl
theorem laidOut:laidOutB Tryz.prog=true:=by kernel_rfl
theorem vP {H:Type} {enc:TypeId×Value→H} {P:Program} (hl:laidOutB P=true) {W W':World} (hb:Below W.heap.size W W') :
  ∀ {ts:List TypeId} {vs:List Value} {ds:List (DataW H)} {ps:List MemPlace},(∀t∈ts,P.readableRec t=true∧t<P.types.size)→
   DataW.TrodAll enc P W 0 (fun _=>true) true ts vs ds ps→(∀x∈ps,x.block<W.heap.size)→DataW.TrodAll enc P W' 0 (fun b=>decide (b<W.heap.size)) true ts vs ds ps
 | [],[],[],ps,_,h,_=>h
 | t::ts,v::vs,d::ds,ps,hr,⟨p,q,h1,h2,h3⟩,hlt=>by
  subst h3
  exact ⟨p,q,Below.trod hl (hr t (by simp)).1 (hr t (by simp)).2 h1 hb fun x hx=>hlt x (by simp[hx]),vP hl hb (fun t ht=>hr t (by simp[ht])) h2 fun x hx=>hlt x (by simp[hx]),rfl⟩
 | [],_::_,_,_,_,h,_=>h.elim
 | [],[],_::_,_,_,h,_=>h.elim
 | _::_,[],_,_,_,h,_=>h.elim
 | _::_,_::_,[],_,_,h,_=>h.elim
theorem Rx {H:Type} {enc:TypeId×Value→H} {f:Func} {s:ChangeSpec} {W W':World} {args:Array Value} {ds:List (DataW H)} {before:List MemPlace} (tb:TypeId)
  (hb:Tryz.prog.underlying tb=some .bool) (hr:f.resultTypes= #[tb]) (hp:(f.params.toList.all fun t=>Tryz.prog.readableRec t&&decide (t<Tryz.prog.types.size))=true) (hv:s.vars= [])
  (hW:DataW.Whole enc Tryz.prog f.params.toList s.vars false W args.toList ds [] before) (hres:(s.fn H (ds++ [])).results= [.lit (.bool true)]) (hargs:(s.fn H (ds++ [])).args=ds) (hvars:(s.fn H (ds++ [])).vars= [])
  (hbel:Below W.heap.size W W'):s.post enc Tryz.prog f false true false false W args (.bool true) W':=by
 obtain ⟨p,q,h1,h2,h3,h4,h5⟩:=hW
 have hW':DataW.Whole enc Tryz.prog f.params.toList s.vars false W args.toList ds [] before:=⟨p,q,h1,h2,h3,h4,h5⟩
 have hq:q= []:=by rw[hv] at h2;exact h2
 subst hq
 simp only[List.append_nil] at h3
 subst h3
 refine ⟨ds,[],before,[],before,[],hW',?_,?_,?_,hbel.frame _,fun h=>by cases h⟩
 ·rw[hres,hr]
  exact trodAll_mk1 (shut_bool hb true)
 ·rw[hargs]
  exact vP laidOut hbel (fun t ht=>by have:=List.all_eq_true.1 hp t ht;simpa using this) h1 fun x hx=>by simpa using hW'.lt x hx
 ·rw[hvars,hv];rfl
open Go.ChangeShapes Go.WideShapes Go.ChangeAt Go.RowKit
namespace D
theorem op3:Opens Tryz.prog 3 aS:=NH Tryz.underlying3
theorem YQ:Opens Tryz.prog 26 (ae 3 aS):=eI Tryz.underlying26 (by kernel_rfl) (by decide) op3
theorem Ya:Opens Tryz.prog 156 (aA aS (aA aS (aA aS aS))):=by
 refine da Tryz.underlying156 (by kernel_rfl) ?_
 refine b9 (R:=aS) (S:=aA (aS) (aA (aS) (aS))) rfl (by kernel_rfl) op3 ?_
 refine b9 (R:=aS) (S:=aA (aS) (aS)) rfl (by kernel_rfl) op3 ?_
 refine b9 (R:=aS) (S:=aS) rfl (by kernel_rfl) op3 ?_
 exact fo rfl (by kernel_rfl) op3
theorem Y0:Opens Tryz.prog 27 (ae 156 (aA aS (aA aS (aA aS aS)))):=eI Tryz.underlying27 (by kernel_rfl) (by decide) Ya
theorem Y1:Opens Tryz.prog 29 (aA (ae 3 aS) (ae 156 (aA aS (aA aS (aA aS aS))))):=by
 refine da Tryz.underlying29 (by kernel_rfl) ?_
 refine b9 (R:=ae 3 aS) (S:=ae 156 (aA aS (aA aS (aA aS aS)))) rfl (by kernel_rfl) YQ ?_
 exact fo rfl (by kernel_rfl) Y0
theorem Y2:Opens Tryz.prog 51 (ae 29 (aA (ae 3 aS) (ae 156 (aA aS (aA aS (aA aS aS)))))):=eI Tryz.underlying51 (by kernel_rfl) (by decide) Y1
theorem Y3:Opens Tryz.prog 53 (aA aS (ae 29 (aA (ae 3 aS) (ae 156 (aA aS (aA aS (aA aS aS))))))):=by
 refine da Tryz.underlying53 (by kernel_rfl) ?_
 refine b9 (R:=aS) (S:=ae 29 (aA (ae 3 aS) (ae 156 (aA aS (aA aS (aA aS aS)))))) rfl (by kernel_rfl) op3 ?_
 exact fo rfl (by kernel_rfl) Y2
theorem Yb {W:World} {base:Nat} {z:Value} {H:Type} {enc:TypeId×Value→H} {d:DataW H} {p:List MemPlace} (hv:Value.okWide Tryz.prog W .any base 53 z) (h:DataW.Trod enc Tryz.prog W 0 (fun _=>true) true 53 z d p) :
  ∃(x:Int×(List ((List Int)×(List (Int×Int×Int×Int))))) (v0:Value),z= .agg #[.int .i64 x.1,v0] ∧Data.lim x∧(ae 29 (aA (ae 3 aS) (ae 156 (aA aS (aA aS (aA aS aS)))))).rd (hp W) [v0] x.2:=by
 obtain ⟨fuel,hf⟩:=h
 obtain ⟨⟨cs⟩,rfl,-⟩:=okWide_struct Tryz.underlying53 hv
 obtain ⟨x,hx,hl⟩:=Y3.out enc W _ _ _ hf
 have hx:(aA aS (ae 29 (aA (ae 3 aS) (ae 156 (aA aS (aA aS (aA aS aS))))))).rd (hp W) cs x:=hx
 obtain ⟨_,_,rfl,rfl,r0⟩:=hx
 obtain ⟨v0,rfl⟩:=one_cell r0 rfl
 exact ⟨x,v0,rfl,hl,r0⟩
theorem op4:Opens Tryz.prog 4 mQ:=KW Tryz.underlying4
theorem Y4:Opens Tryz.prog 89 (ae 4 mQ):=eI Tryz.underlying89 (by kernel_rfl) (by decide) op4
theorem Y5:Opens Tryz.prog 90 (ae 26 (ae 3 aS)):=eI Tryz.underlying90 (by kernel_rfl) (by decide) YQ
theorem Yc:Opens Tryz.prog 133 (aA aS (aA (ae 4 mQ) (ae 26 (ae 3 aS)))):=by
 refine da Tryz.underlying133 (by kernel_rfl) ?_
 refine b9 (R:=aS) (S:=aA (ae 4 mQ) (ae 26 (ae 3 aS))) rfl (by kernel_rfl) op3 ?_
 refine b9 (R:=ae 4 mQ) (S:=ae 26 (ae 3 aS)) rfl (by kernel_rfl) Y4 ?_
 exact fo rfl (by kernel_rfl) Y5
theorem Y6:Opens Tryz.prog 22 (ae 133 (aA aS (aA (ae 4 mQ) (ae 26 (ae 3 aS))))):=eI Tryz.underlying22 (by kernel_rfl) (by decide) Yc
theorem Yd:Opens Tryz.prog 232 (aA aS (aA aS (aA aS aS))):=by
 refine da Tryz.underlying232 (by kernel_rfl) ?_
 refine b9 (R:=aS) (S:=aA (aS) (aA (aS) (aS))) rfl (by kernel_rfl) op3 ?_
 refine b9 (R:=aS) (S:=aA (aS) (aS)) rfl (by kernel_rfl) op3 ?_
 refine b9 (R:=aS) (S:=aS) rfl (by kernel_rfl) op3 ?_
 exact fo rfl (by kernel_rfl) op3
theorem Ye:Opens Tryz.prog 135 (ae 232 (aA aS (aA aS (aA aS aS)))):=eI Tryz.underlying135 (by kernel_rfl) (by decide) Yd
theorem Yf:Opens Tryz.prog 137 (ae 232 (aA aS (aA aS (aA aS aS)))):=by
 refine da Tryz.underlying137 (by kernel_rfl) ?_
 exact fo rfl (by kernel_rfl) Ye
theorem Yg:Opens Tryz.prog 139 (aA aS (aA (ae 232 (aA aS (aA aS (aA aS aS)))) aS)):=by
 refine da Tryz.underlying139 (by kernel_rfl) ?_
 refine b9 (R:=aS) (S:=aA (ae 232 (aA aS (aA aS (aA aS aS)))) (aS)) rfl (by kernel_rfl) op3 ?_
 refine b9 (R:=ae 232 (aA aS (aA aS (aA aS aS)))) (S:=aS) rfl (by kernel_rfl) Yf ?_
 exact fo rfl (by kernel_rfl) op3
theorem Y7:Opens Tryz.prog 23 (ae 139 (aA aS (aA (ae 232 (aA aS (aA aS (aA aS aS)))) aS))):=eI Tryz.underlying23 (by kernel_rfl) (by decide) Yg
theorem Y8:Opens Tryz.prog 25 (aA (ae 133 (aA aS (aA (ae 4 mQ) (ae 26 (ae 3 aS))))) (ae 139 (aA aS (aA (ae 232 (aA aS (aA aS (aA aS aS)))) aS)))):=by
 refine da Tryz.underlying25 (by kernel_rfl) ?_
 refine b9 (R:=ae 133 (aA aS (aA (ae 4 mQ) (ae 26 (ae 3 aS))))) (S:=ae 139 (aA aS (aA (ae 232 (aA aS (aA aS (aA aS aS)))) aS))) rfl (by kernel_rfl) Y6 ?_
 exact fo rfl (by kernel_rfl) Y7
theorem Yh {W:World} {base:Nat} {z:Value} {H:Type} {enc:TypeId×Value→H} {d:DataW H} {p:List MemPlace} (hv:Value.okWide Tryz.prog W .any base 25 z) (h:DataW.Trod enc Tryz.prog W 0 (fun _=>true) true 25 z d p) :
  ∃(x:(List (Int×(List Bool)×(List (List Int))))×(List (Int×((List (Int×Int×Int×Int)))×Int))) (v0:Value) (v1:Value),z= .agg #[v0,v1] ∧Data.lim x∧(ae 133 (aA aS (aA (ae 4 mQ) (ae 26 (ae 3 aS))))).rd (hp W) [v0] x.1∧(ae 139 (aA aS (aA (ae 232 (aA aS (aA aS (aA aS aS)))) aS))).rd (hp W) [v1] x.2:=by
 obtain ⟨fuel,hf⟩:=h
 obtain ⟨⟨cs⟩,rfl,-⟩:=okWide_struct Tryz.underlying25 hv
 obtain ⟨x,hx,hl⟩:=Y8.out enc W _ _ _ hf
 have hx:(aA (ae 133 (aA aS (aA (ae 4 mQ) (ae 26 (ae 3 aS))))) (ae 139 (aA aS (aA (ae 232 (aA aS (aA aS (aA aS aS)))) aS)))).rd (hp W) cs x:=hx
 obtain ⟨_,_,rfl,r0,r1⟩:=hx
 obtain ⟨v0,rfl⟩:=one_cell r0 rfl
 obtain ⟨v1,rfl⟩:=one_cell r1 rfl
 exact ⟨x,v0,v1,rfl,hl,r0,r1⟩
theorem YR {W:World} {base:Nat} {z:Value} {H:Type} {enc:TypeId×Value→H} {d:DataW H} {p:List MemPlace} (hv:Value.okWide Tryz.prog W .any base 3 z) (h:DataW.Trod enc Tryz.prog W 0 (fun _=>true) true 3 z d p) :
  ∃(x:Int),z= .int .i64 x∧Data.lim x:=by
 obtain ⟨fuel,hf⟩:=h
 obtain ⟨n,rfl⟩:=okWide_int Tryz.underlying3 hv
 obtain ⟨x,hx,hl⟩:=op3.out enc W _ _ _ hf
 exact ⟨x,(List.cons.inj (show [_] = [_] from hx)).1,hl⟩
theorem Yi:Opens Tryz.prog 220 (aA aS aS):=by
 refine da Tryz.underlying220 (by kernel_rfl) ?_
 refine b9 (R:=aS) (S:=aS) rfl (by kernel_rfl) op3 ?_
 exact fo rfl (by kernel_rfl) op3
theorem WU:Opens Tryz.prog 122 (ae 220 (aA aS aS)):=eI Tryz.underlying122 (by kernel_rfl) (by decide) Yi
theorem Yj:Opens Tryz.prog 124 (aA (ae 220 (aA aS aS)) (ae 220 (aA aS aS))):=by
 refine da Tryz.underlying124 (by kernel_rfl) ?_
 refine b9 (R:=ae 220 (aA aS aS)) (S:=ae 220 (aA aS aS)) rfl (by kernel_rfl) WU ?_
 exact fo rfl (by kernel_rfl) WU
theorem Yk:Opens Tryz.prog 126 (aA aS (aA mQ (aA (ae 220 (aA aS aS)) (ae 220 (aA aS aS))))):=by
 refine da Tryz.underlying126 (by kernel_rfl) ?_
 refine b9 (R:=aS) (S:=aA (mQ) (aA (ae 220 (aA aS aS)) (ae 220 (aA aS aS)))) rfl (by kernel_rfl) op3 ?_
 refine b9 (R:=mQ) (S:=aA (ae 220 (aA aS aS)) (ae 220 (aA aS aS))) rfl (by kernel_rfl) op4 ?_
 exact fo rfl (by kernel_rfl) Yj
theorem Y9:Opens Tryz.prog 75 (ae 126 (aA aS (aA mQ (aA (ae 220 (aA aS aS)) (ae 220 (aA aS aS)))))):=eI Tryz.underlying75 (by kernel_rfl) (by decide) Yk
theorem Yl {W:World} {base:Nat} {z:Value} {H:Type} {enc:TypeId×Value→H} {d:DataW H} {p:List MemPlace} (hv:Value.okWide Tryz.prog W .any base 75 z) (h:DataW.Trod enc Tryz.prog W 0 (fun _=>true) true 75 z d p) :
  ∃(x:List (Int×Bool×((List (Int×Int))×(List (Int×Int))))) (v0:Value),z=v0∧Data.lim x∧(ae 126 (aA aS (aA mQ (aA (ae 220 (aA aS aS)) (ae 220 (aA aS aS)))))).rd (hp W) [v0] x:=by
 obtain ⟨fuel,hf⟩:=h
 obtain ⟨a,l,c,rfl⟩:=okWide_slice Tryz.underlying75 hv
 obtain ⟨x,hx,hl⟩:=Y9.out enc W _ _ _ hf
 exact ⟨x,_,rfl,hl,hx⟩
end D
open D (Data)
theorem w1 (W:World) (args:Array Value) (H:Type) (enc:TypeId×Value→H) (base:Nat) (ds gs:List (DataW H)) (before:List MemPlace)
  (hval: ∀(j:Nat) t v,Tryz.f6.params[j]? =some t→args[j]? =some v→Value.okWide Tryz.prog W .any base t v)
  (hW:DataW.Whole enc Tryz.prog Tryz.f6.params.toList Rows.fnExactAuditMessagesSpec.vars false W args.toList ds gs before) :
  Calls Tryz.prog 6 args W fun e W'=> ∃v,e= .returned v∧Rows.fnExactAuditMessagesSpec.post enc Tryz.prog Tryz.f6 false true false false W args v W':=by
 have hW':=hW
 obtain ⟨p,q,hA,hV,rfl,hfz,hnd⟩:=hW
 rw[Tryz.params6] at hA hval
 obtain ⟨z0,vs0,d0,ds0,p0,q0,hargs,rfl,rfl,h0,r0⟩:=trodAll_cons hA
 obtain ⟨z1,vs1,d1,ds1,p1,q1,rfl,rfl,rfl,h1,r1⟩:=trodAll_cons r0
 obtain ⟨z2,vs2,d2,ds2,p2,q2,rfl,rfl,rfl,h2,r2⟩:=trodAll_cons r1
 obtain ⟨z3,vs3,d3,ds3,p3,q3,rfl,rfl,rfl,h3,r3⟩:=trodAll_cons r2
 obtain ⟨z4,vs4,d4,ds4,p4,q4,rfl,rfl,rfl,h4,r4⟩:=trodAll_cons r3
 obtain ⟨rfl,rfl,rfl⟩:=trodAll_nil r4
 obtain rfl:args= #[z0,z1,z2,z3,z4]:=by cases args;simp_all
 obtain ⟨rfl,rfl⟩:=trodVars_none hV
 obtain ⟨x0,v0_0,rfl,l0,r0_0⟩:=D.Yb (hval 0 _ _ rfl rfl) h0
 obtain ⟨x1,v1_0,v1_1,rfl,l1,r1_0,r1_1⟩:=D.Yh (hval 1 _ _ rfl rfl) h1
 obtain ⟨x2,rfl,l2⟩:=D.YR (hval 2 _ _ rfl rfl) h2
 obtain ⟨x3,rfl,l3⟩:=D.YR (hval 3 _ _ rfl rfl) h3
 obtain ⟨x4,v4_0,rfl,l4,r4_0⟩:=D.Yl (hval 4 _ _ rfl rfl) h4
 have hc:=D.pw x0 x1 x2 x3 x4 true (D.xY x0 x1 x2 x3 x4 l0 l1 l2 l3 l4) (I:=D.hp W) (w0:=W) v0_0 v1_0 v1_1 z4 r0_0 r1_0 r1_1 r4_0 W [] (D.St.init W)
 refine hc.mono fun e W' ⟨v,he,hv,hs⟩=>?_
 subst he;subst hv
 exact ⟨_,rfl,Rx (f:=Tryz.f6) (s:=Rows.fnExactAuditMessagesSpec) 4 Tryz.underlying4 rfl (by kernel_rfl) rfl hW' rfl rfl rfl (D.St.below hs)⟩
theorem sK (os:Os) (started:os.Started) (H:Type) (enc:TypeId×Value→H) :
  ReturnsInHanded {} Tryz.checked os 6 .any (Rows.fnExactAuditMessagesSpec.pre6 enc Tryz.prog Tryz.f6 Rows.fnExactAuditMessagesRow.domain false) (Rows.fnExactAuditMessagesSpec.post enc Tryz.prog Tryz.f6 false true false false):=by
 refine returnsInHanded_of_change_sized (C:=Tryz.checked) own started (by kernel_rfl) Tryz.func6
  (ChangeSpec.witness6 (enc:=enc) (C:=Tryz.checked) false ⟨#[],#[.agg #[.int .i64 0,.slice none 0 0],.agg #[.slice none 0 0,.slice none 0 0],.int .i64 0,.int .i64 0,.slice none 0 0],[]⟩ 8 (by kernel_rfl) (by kernel_rfl) (by kernel_rfl) (by kernel_rfl)) ?_
 intro W base args ds gs before hval hW hcnd hsz _
 exact w1 W args H enc base ds gs before hval hW
set_option maxHeartbeats 4000000 in
theorem sL:joinedFacts Tryz.pinned.checked.prog 6 Tryz.f6 Rows.fnExactAuditMessagesSpec Rows.fnExactAuditMessagesRow=true:=by
 unfold joinedFacts
 repeat' (with_reducible refine Bool.and_eq_true_iff.2 ⟨?_,?_⟩)
 all_goals as_aux_lemma=>kernel_rfl
theorem holdsLAuditMessages:Rows.FnExactAuditMessagesSaid:=
 OpenClaim.holds_of_wide 6 Tryz.f6 rfl rfl rfl rfl rfl rfl rfl ⟨rfl,rfl,rfl,rfl,rfl⟩ rfl rfl rfl rfl rfl (by kernel_rfl) Tryz.func6 sL
  (of_decide_eq_true (by kernel_rfl)) (by unfold Func.isWrapper;first | (rw[if_pos (by decide +kernel)];kernel_rfl) | (rw[if_neg (by decide +kernel)];exact ⟨rfl,rfl⟩))
  (fun os started H enc _=>sK os started H enc)
end Go.Proofs.YtakjhbbbjbebdaaGreat
