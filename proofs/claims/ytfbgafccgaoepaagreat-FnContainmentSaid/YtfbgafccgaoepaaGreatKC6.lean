/- FnContainment: for every input the law returns true and changes nothing that was there. Part 7 of 8. -/
import Derived.Test.YtfbgafccgaoepaaGreatKC5
set_option synthInstance.maxSize 20000
set_option synthInstance.maxHeartbeats 2000000
set_option linter.unusedVariables false
set_option linter.unusedSimpArgs false
set_option linter.unnecessarySimpa false
set_option linter.unusedSectionVars false
set_option maxRecDepth 1000000
namespace Go.Proofs.YtfbgafccgaoepaaGreat
open Go.IntKind (i64)
namespace D
open Go.RowKit
structure InR (l:List Pr):Prop where
 str:Str l
 rng: ∀p∈l,(0<=p.1/\p.1<5)/\0<=p.2/\p.2<5
theorem Str.nd {l:List Pr} (h:Str l):l.Nodup:=List.Pairwise.imp (fun {a b} (h:ltP a b) (e:a=b)=>Gs a (e ▸ h)) h
def sq5:List Pr:=(List.range 5).flatMap fun i:Nat=>(List.range 5).map fun j:Nat=>((i:Int),(j:Int))
theorem InR.len {l:List Pr} (h:InR l):l.length<=25:=by
 have:=h.str.nd.length_le_of_subset (l₂:=sq5) (fun p hp=>by
  obtain ⟨⟨h1,h2⟩,h3,h4⟩:=h.rng p hp
  unfold sq5
  rw[List.mem_flatMap]
  refine ⟨p.1.toNat,List.mem_range.2 (by omega),List.mem_map.2 ⟨p.2.toNat,List.mem_range.2 (by omega),?_⟩⟩
  have e1:((p.1.toNat:Nat):Int)=p.1:=by omega
  have e2:((p.2.toNat:Nat):Int)=p.2:=by omega
  rw[e1,e2])
 exact this
theorem InR.nil:InR []:=⟨List.Pairwise.nil,fun p hp=>by cases hp⟩
theorem InR.puts {l:List Pr} (h: ∀p∈l,(0<=p.1/\p.1<5)/\0<=p.2/\p.2<5):InR (puts [] l):=⟨nX List.Pairwise.nil,fun p hp=>by
 rcases jy.1 hp with hp | hp
 ·cases hp
 ·exact h p hp⟩
theorem InR.ext {a b:List Pr} (ha:InR a) (hb:InR b) (h: ∀x,x∈a↔x∈b):a=b:=vd ha.str hb.str h
theorem NL {l:List Pr} (h:Str l):puts [] l=l:=vd (nX List.Pairwise.nil) h fun x=>by rw[jy];simp
def Kg (a b:List Pr):List Pr:=a.flatMap fun p=>(b.filter fun q=>p.2==q.1).map fun q=>(p.1,q.2)
theorem Ik {a b:List Pr} {x:Pr} :x∈Kg a b↔ ∃z,(x.1,z)∈a/\(z,x.2)∈b:=by
 unfold Kg
 rw[List.mem_flatMap]
 constructor
 ·rintro ⟨p,hp,h⟩
  obtain ⟨q,hq,rfl⟩:=List.mem_map.1 h
  obtain ⟨hq,e⟩:=List.mem_filter.1 hq
  have e:=eq_of_beq e
  refine ⟨p.2,hp,?_⟩
  rw[e];exact hq
 ·rintro ⟨z,h1,h2⟩
  exact ⟨_,h1,List.mem_map.2 ⟨_,List.mem_filter.2 ⟨h2,by simp⟩,rfl⟩⟩
theorem Gx (b:List Pr) (p:Pr):((b.filter fun q=>p.2==q.1).map fun q=>(p.1,q.2)).length<=b.length:=by
 rw[List.length_map];exact List.length_filter_le ..
theorem Il (a b:List Pr):(Kg a b).length<=a.length*b.length:=by
 unfold Kg
 induction a with
 | nil=>simp
 | cons p a ih =>
  rw[List.flatMap_cons,al,aB,Nat.add_mul]
  have:=Gx b p
  omega
def SH (a b:List Pr):List Pr:=puts [] (Kg a b)
theorem rC {a b:List Pr} (ha:InR a) (hb:InR b):InR (SH a b):=InR.puts fun p hp=>by
 obtain ⟨z,h1,h2⟩:=Ik.1 hp
 exact ⟨(ha.rng _ h1).1,(hb.rng _ h2).2⟩
theorem xA {a b:List Pr} {x:Pr} :x∈SH a b↔ ∃z,(x.1,z)∈a/\(z,x.2)∈b:=by
 unfold SH
 rw[jy,Ik];simp
def Wd (a b:List Pr):List Pr:=puts [] (a++b)
theorem zp {a b:List Pr} (ha:InR a) (hb:InR b):InR (Wd a b):=InR.puts fun p hp=>by
 rcases aH hp with hp | hp
 ·exact ha.rng p hp
 ·exact hb.rng p hp
theorem CH {a b:List Pr} {x:Pr} :x∈Wd a b↔x∈a\/x∈b:=by
 unfold Wd
 rw[jy,List.mem_append];simp
theorem JW {α:Type} (p:α->Bool) (x:α): [x].filter p=if p x=true then [x] else []:=by rw[List.filter_cons];rfl
theorem Rh {a b:List Pr} (hb:b.length<=1000) {i:Nat} (hi:i<a.length) {o:List Pr} (ho:o.length<=1000000) {x:List Pr} :ax (cB a b (x,(i:Int))) aR (o,0)=some (.brk (puts o ((b.filter fun q=>a[i].2==q.1).map fun q=>(a[i].1,q.2)),(b.length:Int))):=by
 have key: ∀k,(puts o (((b.take k).filter fun q=>a[i].2==q.1).map fun q=>(a[i].1,q.2))).length<=1001000:=fun k=>by
  have h1:=mA (((b.take k).filter fun q=>a[i].2==q.1).map fun q=>(a[i].1,q.2)) o
  have h2:=Gx (b.take k) a[i]
  have h3:(b.take k).length<=b.length:=by rw[aF];omega
  omega
 have:=aP (f:=cB a b (x,(i:Int))) (fun k=>(puts o (((b.take k).filter fun q=>a[i].2==q.1).map fun q=>(a[i].1,q.2)),(k:Int))) b.length (fun k hk=>by
  have hk2:=key k
  unfold cB
  simp only
  rw[fg hk,if_pos rfl,aZ hi,aZ hk];simp only[aa,af (show k<9223372036854775807 by omega)]
  rw[Ex _ _ (by omega),List.take_succ_eq_append_getElem hk,List.filter_append,aM];simp only[aa]
  by_cases c:(a[i].2==b[k].1)=true
  ·rw[JW,if_pos c,if_pos c,List.map_cons,List.map_nil,rB];rfl
  ·rw[JW,if_neg c,if_neg c,List.map_nil,List.append_nil];rfl) (by
  unfold cB
  simp only
  rw[eN];rfl) (fW (by omega))
 rw[List.take_of_length_le (ay _)] at this
 exact this
theorem Im (l m k:List Pr):puts l (m++k)=puts (puts l m) k:=by unfold puts;rw[List.foldl_append]
theorem NM {a b:List Pr} (ha:a.length<=1000) (hb:b.length<=1000):cR a b=some (SH a b):=by
 have key: ∀k,(puts [] (Kg (a.take k) b)).length<=1000000:=fun k=>by
  have h1:=mA (Kg (a.take k) b) []
  have h2:=Il (a.take k) b
  have h3:(a.take k).length*b.length<=1000*1000:=Nat.mul_le_mul (by rw[aF];omega) hb
  simp only[aA] at h1
  omega
 unfold cR
 have:=aP (f:=cC a b) (fun k=>(puts [] (Kg (a.take k) b),(k:Int))) a.length (fun k hk=>by
  unfold cC
  simp only
  rw[fg hk,if_pos rfl,ai (Rh hb hk (key k)),af (by omega),List.take_succ_eq_append_getElem hk]
  unfold Kg
  rw[List.flatMap_append,Im];simp) (by
  unfold cC
  simp only
  rw[eN];rfl) (fW (by omega))
 have this:ax (cC a b) aR (([] :List (Int×Int)),0)=_:=this
 rw[ai this,List.take_of_length_le (ay _)];rfl
theorem Ri {b:List Pr} (hb:b.length<=1000) (p:Pr) {o:List Pr} (ho:o.length<=1000000):ax (cG b p) aR (o,0)=some (.brk (o++((b.filter fun q=>p.2==q.1).map fun q=>(p.1,q.2)),(b.length:Int))):=by
 have:=aP (f:=cG b p) (fun k=>(o++(((b.take k).filter fun q=>p.2==q.1).map fun q=>(p.1,q.2)),(k:Int))) b.length (fun k hk=>by
  have h2:=Gx (b.take k) p
  have h3:(b.take k).length<=b.length:=by rw[aF];omega
  unfold cG
  simp only
  rw[fg hk,if_pos rfl,aZ hk];simp only[aa,af (show k<9223372036854775807 by omega)]
  rw[aJ (by rw[al];simp only[aB,aA];omega),List.take_succ_eq_append_getElem hk,List.filter_append,aM];simp only[aa]
  by_cases c:(p.2==b[k].1)=true
  ·rw[JW,if_pos c,if_pos c,List.map_cons,List.map_nil,aD];rfl
  ·rw[JW,if_neg c,if_neg c,List.map_nil,List.append_nil];rfl) (by
  unfold cG
  simp only
  rw[eN];rfl) (fW (by omega))
 rw[List.take_of_length_le (ay _)] at this
 simpa using this
theorem Vo {a b:List Pr} (hs:Str a) (ha:a.length<=1000) (hb:b.length<=1000):cT a b=some (SH a b):=by
 have key: ∀k,(Kg (a.take k) b).length<=1000000:=fun k=>by
  have h2:=Il (a.take k) b
  have h3:(a.take k).length*b.length<=1000*1000:=Nat.mul_le_mul (by rw[aF];omega) hb
  omega
 unfold cT
 rw[Ii a (by omega),zo,NL hs];simp only[aa]
 have:=aP (f:=cH b a) (fun k=>(Kg (a.take k) b,(k:Int))) a.length (fun k hk=>by
  unfold cH
  simp only
  rw[fg hk,if_pos rfl,aZ hk];simp only[aa]
  rw[ai (Ri hb a[k] (key k)),af (by omega),List.take_succ_eq_append_getElem hk]
  unfold Kg
  rw[List.flatMap_append];simp) (by
  unfold cH
  simp only
  rw[eN];rfl) (fW (by omega))
 have this:ax (cH b a) aR (([] :List (Int×Int)),0)=_:=this
 have h2:=key a.length
 rw[List.take_of_length_le (ay _)] at this h2
 rw[ai this];simp only
 rw[Ii _ (by omega),zo];rfl
def idR (n:Nat):List Pr:=(List.range n).map fun i:Nat=>((i:Int),(i:Int))
theorem CI (n:Nat):idR (n+1)=idR n++ [((n:Int),(n:Int))]:=by unfold idR;rw[List.range_succ,aM];rfl
theorem NN (n:Nat):(idR n).length=n:=by simp[idR]
theorem zq {n:Nat} {x:Pr} :x∈idR n↔x.1=x.2/\0<=x.1/\x.1<n:=by
 unfold idR
 rw[List.mem_map]
 constructor
 ·rintro ⟨i,hi,rfl⟩
  have:=List.mem_range.1 hi
  exact ⟨rfl,by show (0:Int)<=(i:Int);omega,by show (i:Int)<n;omega⟩
 ·rintro ⟨h1,h2,h3⟩
  refine ⟨x.1.toNat,List.mem_range.2 (by omega),?_⟩
  have:((x.1.toNat:Nat):Int)=x.1:=by omega
  rw[this];exact Prod.ext rfl h1
theorem NO: ∀n,Str (idR n)
 | 0=>List.Pairwise.nil
 | n+1=>by
  rw[CI]
  refine List.pairwise_append.2 ⟨NO n,List.pairwise_singleton _ _,fun a ha b hb=>?_⟩
  obtain rfl:=ak hb
  exact .inl (zq.1 ha).2.2
theorem Bc {n:Nat} (hn:n<=5):InR (idR n):=⟨NO n,fun p hp=>by
 obtain ⟨h1,h2,h3⟩:=zq.1 hp
 omega⟩
theorem We {n:Nat} (hn:n<=5):cQ (n:Int)=some (idR n):=by
 unfold cQ
 have:=aP (f:=cA (n:Int)) (fun k=>(idR k,(k:Int))) n (fun k hk=>by
  have:=NN k
  unfold cA
  simp only
  rw[if_pos (by simp;omega),if_pos (by simp;omega),aJ (by simp;omega),af (by omega),CI];rfl) (by
  unfold cA
  simp only
  rw[if_neg (by simp)]) (fW (by omega))
 have this:ax (cA (n:Int)) aR (([] :List (Int×Int)),0)=_:=this
 rw[ai this]
theorem ZB {n:Nat} (hn:n<=5):cS (n:Int)=some (idR n):=by
 unfold cS
 rw[if_neg (by simp;omega)]
 have:=aP (f:=cF (n:Int)) (fun k=>(idR k,(k:Int))) n (fun k hk=>by
  have:=NN k
  unfold cF
  simp only
  rw[if_pos (by simp;omega),aJ (by simp;omega),af (by omega),CI];rfl) (by
  unfold cF
  simp only
  rw[if_neg (by simp)]) (fW (by omega))
 have this:ax (cF (n:Int)) aR (([] :List (Int×Int)),0)=_:=this
 rw[ai this]
def lG (n:Nat) (l:List Pr):Nat->List Pr
 | 0=>idR n
 | k+1=>Wd (lG n l k) (SH (lG n l k) l)
section
variable {n:Nat} {l:List Pr} (hn:n<=5) (hl:InR l)
include hn hl
theorem jF: ∀k,InR (lG n l k)
 | 0=>Bc hn
 | k+1=>zp (jF k) (rC (jF k) hl)
omit hn hl in
theorem nY {k:Nat} {x:Pr} :x∈lG n l (k+1)↔x∈lG n l k\/ ∃z,(x.1,z)∈lG n l k/\(z,x.2)∈l:=by rw[lG,CH,xA]
omit hn hl in
theorem wi: ∀k (x:Pr),x∈lG n l k->0<=x.1/\x.1<n
 | 0,x,h=>by
  obtain ⟨-,h1,h2⟩:=zq.1 h
  exact ⟨h1,h2⟩
 | k+1,x,h=>by
  rcases nY.1 h with h | ⟨z,h,-⟩
  ·exact wi k x h
  ·exact wi k (x.1,z) h
omit hn hl in
theorem Vp {x:Int} {k:Nat} (h: ∀y,(x,y)∈lG n l (k+1)->(x,y)∈lG n l k): ∀y,(x,y)∈lG n l (k+1+1)->(x,y)∈lG n l (k+1):=fun y hy=>by
 rcases nY.1 hy with hy | ⟨z,h1,h2⟩
 ·exact hy
 ·exact nY.2 (.inr ⟨z,h z h1,h2⟩)
def Io (n:Nat) (l:List Pr) (x:Int) (k:Nat):List Nat:=(List.range 5).filter fun y:Nat=>decide ((x,(y:Int))∈lG n l k)
theorem Ez (x:Int) (k:Nat):(∀y,(x,y)∈lG n l (k+1)->(x,y)∈lG n l k)\/(Io n l x k).length<(Io n l x (k+1)).length:=by
 have hsub:(Io n l x k).Sublist (Io n l x (k+1)):=by
  have:Io n l x k=(Io n l x (k+1)).filter fun y:Nat=>decide ((x,(y:Int))∈lG n l k):=by
   unfold Io
   rw[List.filter_filter]
   refine List.filter_congr fun y _=>?_
   by_cases c:(x,(y:Int))∈lG n l k
   ·rw[decide_eq_true c,decide_eq_true (nY.2 (.inl c))];rfl
   ·rw[decide_eq_false c];rfl
  rw[this];exact List.filter_sublist
 by_cases e:(Io n l x k).length=(Io n l x (k+1)).length
 ·left
  have heq:=hsub.eq_of_length e
  intro y hy
  have hr:=((jF hn hl (k+1)).rng _ hy).2
  have hm:y.toNat∈Io n l x (k+1):=List.mem_filter.2 ⟨List.mem_range.2 (by omega),decide_eq_true (by
   rw[show ((y.toNat:Nat):Int)=y by omega];exact hy)⟩
  rw[<-heq] at hm
  have:=of_decide_eq_true (List.mem_filter.1 hm).2
  rwa [show ((y.toNat:Nat):Int)=y by omega] at this
 ·right
  have:=hsub.length_le
  omega
theorem Ip:lG n l 5=lG n l 4:=by
 refine (jF hn hl 5).ext (jF hn hl 4) fun p=>⟨fun hp=>?_,fun hp=>nY.2 (.inl hp)⟩
 have hx:=wi 5 p hp
 have key: ∀k,(∀y,(p.1,y)∈lG n l (k+1)->(p.1,y)∈lG n l k)\/k+2<=(Io n l p.1 (k+1)).length:=fun k=>by
  induction k with
  | zero =>
   rcases Ez hn hl p.1 0 with h | h
   ·exact .inl h
   ·right
    have:p.1.toNat∈Io n l p.1 0:=List.mem_filter.2 ⟨List.mem_range.2 (by omega),decide_eq_true (by
     rw[show ((p.1.toNat:Nat):Int)=p.1 by omega];exact zq.2 ⟨rfl,hx⟩)⟩
    have:=List.length_pos_of_mem this
    omega
  | succ k ih =>
   rcases ih with h | h
   ·exact .inl (Vp h)
   ·rcases Ez hn hl p.1 (k+1) with h2 | h2
    ·exact .inl h2
    ·exact .inr (by omega)
 rcases key 4 with h | h
 ·exact h p.2 hp
 ·have:(Io n l p.1 5).length<=(List.range 5).length:=List.length_filter_le ..
  simp only[List.length_range] at this
  have h:6<=(Io n l p.1 5).length:=h
  omega
omit hn hl in
theorem xB {i:Nat} (h:lG n l (i+1)=lG n l i): ∀d,lG n l (i+d)=lG n l i
 | 0=>rfl
 | d+1=>by
  have ih:=xB h d
  rw[show i+(d+1)=(i+d)+1 from rfl,lG,ih]
  exact h
theorem Rj {i:Nat} (h:(lG n l (i+1)).length=(lG n l i).length):lG n l (i+1)=lG n l i:=by
 refine (jF hn hl (i+1)).ext (jF hn hl i) fun p=>⟨fun hp=>?_,fun hp=>nY.2 (.inl hp)⟩
 apply Classical.byContradiction
 intro hc
 have hnd:(p::lG n l i).Nodup:=List.nodup_cons.2 ⟨hc,(jF hn hl i).str.nd⟩
 have:=hnd.length_le_of_subset (l₂:=lG n l (i+1)) (fun q hq=>by
  rcases az hq with rfl | hq
  ·exact hp
  ·exact nY.2 (.inl hq))
 simp only[aB] at this
 omega
theorem NP:ax (c7 l) aR (idR n,0)=some (.brk (lG n l 5,5)):=
 aP (f:=c7 l) (fun k=>(lG n l k,(k:Int))) 5 (fun k hk=>by
  have h1:=(jF hn hl k).len
  have h2:=hl.len
  have h3:=(rC (jF hn hl k) hl).len
  unfold c7
  simp only
  rw[if_pos (by simp;omega),NM (by omega) (by omega)];simp only[aa]
  rw[zn (by omega) (by omega),af (by omega)];rfl) (by
  unfold c7
  simp) (by unfold aR;omega)
theorem Vq:ax (eG l) aR (idR n)=some (.ret (lG n l 5)):=by
 obtain ⟨o,e,hQ⟩:=cj (f:=eG l) (fun i s=>s=lG n l i) (fun o=>o= .ret (lG n l 5)) 4 (s:=idR n) (by
  rintro i s hi rfl
  have h1:=(jF hn hl i).len
  have h2:=hl.len
  have h3:=(rC (jF hn hl i) hl).len
  unfold eG
  rw[Vo (jF hn hl i).str (by omega) (by omega)];simp only[aa]
  rw[Vm (by omega) (by omega)];simp only[aa]
  by_cases c:(lG n l (i+1)).length=(lG n l i).length
  ·right
   have e:=Rj hn hl c
   refine ⟨.ret (lG n l i),if_pos (by
    show (((lG n l (i+1)).length:Int)==((lG n l i).length:Int))=true
    rw[c];simp),fun s' h=>(by cases h),?_⟩
   have h4:=xB e (5 - i)
   rw[show i+(5 - i)=5 by omega] at h4
   rw[h4]
  ·left
   have hi4:i<4:=by
    apply Classical.byContradiction
    intro h
    obtain rfl:i=4:=by omega
    exact c (by rw[Ip hn hl])
   exact ⟨hi4,lG n l (i+1),if_neg (by
    show¬(((lG n l (i+1)).length:Int)==((lG n l i).length:Int))=true
    simp;omega),rfl⟩) rfl (by unfold aR;omega)
 rw[e,hQ]
theorem Rk (h0:1<=n): ∃r,db (n:Int) l=some r/\gb (n:Int) l=some r/\InR r:=by
 have hlen:=hl.len
 obtain ⟨b,eb⟩:=NH l (by omega)
 have es:fX l=some b:=CF.trans eb
 unfold db gb
 rw[HZ,E6];simp only[aa]
 rw[if_pos (by simp;omega),if_pos (by simp;omega),es,eb];simp only[aa]
 cases b with
 | false=>exact ⟨[],rfl,rfl,InR.nil⟩
 | true =>
  simp only[if_true]
  rw[We hn,ZB hn];simp only[aa]
  rw[ai (NP hn hl),bM (Vq hn hl)]
  exact ⟨_,rfl,rfl,jF hn hl 5⟩
theorem Rl (h0:1<=n) (low:Int) {high:Int} (hh:0<=high/\high<=3): ∃r,eh (n:Int) l low high=some r/\iH (n:Int) l low high=some r/\InR r:=by
 have hlen:=hl.len
 obtain ⟨b,eb⟩:=NH l (by omega)
 have es:fX l=some b:=CF.trans eb
 unfold eh iH
 have hnn:decide (1<=(n:Int)/\(n:Int)<=5)=true:=decide_eq_true ⟨by omega,by omega⟩
 have hh':decide (0<=high/\high<=3)=true:=decide_eq_true hh
 simp only[HZ,E6,aa,hnn,if_true,es,eb,hh']
 cases b with
 | false=>exact ⟨[],rfl,rfl,InR.nil⟩
 | true =>
  simp only[if_true]
  by_cases c:low<0
  ·simp only[decide_eq_true c,if_true];exact ⟨[],rfl,rfl,InR.nil⟩
  simp only[decide_eq_false c,Bool.false_eq_true,if_false]
  rw[We hn,ZB hn];simp only[aa]
  have step: ∀(i:Nat) (s:List Pr×List Pr×Int),(InR s.1/\InR s.2.1/\s.2.2=(i:Int))->i<high.toNat+1-> ∃s',bg l low high s=some (.nxt s')/\cU l low high s=some (.nxt s')/\InR s'.1/\InR s'.2.1/\s'.2.2=((i+1:Nat):Int):=by
   rintro i ⟨o,x,k⟩ ⟨h1,h2,h3⟩ hi
   have h3:k=(i:Int):=h3
   subst h3
   have h1:InR o:=h1
   have h2:InR x:=h2
   have l1:o.length<=25:=h1.len
   have l2:x.length<=25:=h2.len
   have hle:decide ((i:Int)<=high)=true:=decide_eq_true (by omega)
   unfold bg cU
   simp only[hle,if_true]
   rw[NM (a:=x) (by omega) (by omega),Vo (a:=x) h2.str (by omega) (by omega),af (show i<9223372036854775807 by omega)]
   rw[zn (a:=o) (b:=x) (by omega) (by omega),Vm (a:=o) (b:=x) (by omega) (by omega)]
   by_cases d:(i:Int)≥low
   ·simp only[decide_eq_true d,if_true,aa]
    exact ⟨_,rfl,rfl,zp h1 h2,rC h2 hl,rfl⟩
   ·simp only[decide_eq_false d,Bool.false_eq_true,if_false,aa]
    exact ⟨_,rfl,rfl,h1,rC h2 hl,rfl⟩
  have stop: ∀s:List Pr×List Pr×Int,s.2.2=((high.toNat+1:Nat):Int)->bg l low high s=some (.brk s)/\cU l low high s=some (.brk s):=by
   rintro ⟨o,x,k⟩ h3
   have h3:k=((high.toNat+1:Nat):Int):=h3
   subst h3
   have hle:decide (((high.toNat+1:Nat):Int)<=high)=false:=decide_eq_false (by omega)
   unfold bg cU
   simp only[hle,Bool.false_eq_true,if_false,and_self]
  have both: ∀f (i:Nat) (s:List Pr×List Pr×Int),(InR s.1/\InR s.2.1/\s.2.2=(i:Int))->i<=high.toNat+1->ax (cU l low high) f s=ax (bg l low high) f s:=by
   intro f
   induction f with
   | zero=>intro i s _ _;rfl
   | succ f ih =>
    intro i s hs hi
    rw[ax,ax]
    by_cases d:i<high.toNat+1
    ·obtain ⟨s',e1,e2,h1⟩:=step i s hs d
     rw[e1,e2]
     exact ih (i+1) s' h1 (by omega)
    ·obtain rfl:i=high.toNat+1:=by omega
     obtain ⟨e1,e2⟩:=stop s hs.2.2
     rw[e1,e2]
  obtain ⟨s',e,h1,-,-⟩:=a7 (f:=bg l low high) (fun i s=>InR s.1/\InR s.2.1/\s.2.2=(i:Int)) (high.toNat+1) (fun i s hi hI=>by
   obtain ⟨s',e1,-,h1⟩:=step i s hI hi
   exact ⟨s',e1,h1⟩) (fun s hI=>(stop s hI.2.2).1) (s:=(([] :List Pr),idR n,0)) ⟨InR.nil,Bc hn,rfl⟩ (fW (by omega))
  rw[both aR 0 (([] :List Pr),idR n,0) ⟨InR.nil,Bc hn,rfl⟩ (by omega),ai e]
  exact ⟨_,rfl,rfl,h1⟩
end
end D
namespace D
open Go.RowKit
def zr (g:GrT) (c x:Int):Bool:=decide (6<=c/\c<=8/\nth g.1 x=c - 6)
section
variable {g:GrT} (G:GOk g) (hi:aQ g=some true) (hs:bj g=some true) {c:Int} (hc:0<=c/\c<=8)
include G hi hs hc
theorem Vr {x:Int} (hx:0<=x/\x<g.1.length):py g x c=some (zr g c x):=by
 have hn:=G.n5
 unfold py zr
 simp only[jB]
 rw[hs];simp only[aa,if_true]
 rw[lD (by omega),HZ,HZ];simp only[aa]
 rw[if_pos (by simp;omega),aG hx.1 hx.2,cZ (by omega) (by omega)];simp only[aa]
 by_cases d:6<=c/\c<=8
 ·rw[if_pos (decide_eq_true d)]
  congr 1
  rw[Bool.eq_iff_iff];simp[d]
 ·rw[if_neg (by simpa using d),decide_eq_false fun h=>d ⟨h.1,h.2.1⟩]
theorem Vs {x:Int} (hx:0<=x/\x<g.1.length):pC g x c=some (zr g c x):=by
 have hn:=G.n5
 have hv:=G.val _ (cO hx.1 hx.2)
 unfold pC zr
 simp only[jB]
 rw[hi];simp only[aa,if_true]
 rw[lD (by omega),E6,Cw];simp only[aa]
 rw[if_pos (by simp;omega),if_pos (by simp;omega),aG hx.1 hx.2];simp only[aa]
 rw[cZ (by omega) (by omega)]
 congr 1
 rw[Bool.eq_iff_iff]
 simp
 omega
def sC (g:GrT) (c:Int):Nat->List Pr
 | 0=>[]
 | k+1=>if zr g c k=true then sC g c k++ [((k:Int),(k:Int))] else sC g c k
omit G hi hs hc in
theorem zt (g:GrT) (c:Int): ∀k,(sC g c k).length<=k
 | 0=>ay _
 | k+1=>by
  have:=zt g c k
  rw[sC];split <;> simp <;> omega
omit G hi hs hc in
theorem vf {x:Pr} : ∀k,(x∈sC g c k↔ ∃i:Nat,i<k/\zr g c i=true/\x=((i:Int),(i:Int)))
 | 0=>by simp[sC]
 | k+1=>by
  have ih:=vf (x:=x) k
  rw[sC]
  split
  ·rename_i d
   rw[List.mem_append,ih,List.mem_singleton]
   constructor
   ·rintro (⟨i,h1,h2⟩ | h)
    ·exact ⟨i,by omega,h2⟩
    ·exact ⟨k,by omega,d,h⟩
   ·rintro ⟨i,h1,h2,h3⟩
    by_cases e:i=k
    ·subst e;exact .inr h3
    ·exact .inl ⟨i,by omega,h2,h3⟩
  ·rename_i d
   rw[ih]
   constructor
   ·rintro ⟨i,h1,h2⟩;exact ⟨i,by omega,h2⟩
   ·rintro ⟨i,h1,h2,h3⟩
    by_cases e:i=k
    ·subst e;exact absurd h2 d
    ·exact ⟨i,by omega,h2,h3⟩
def edL (c:Int) (e:EdT):List Pr:=(if (2*e.2.2.2==c)=true then [(e.2.1,e.2.2.1)] else [])++(if (2*e.2.2.2+1==c)=true then [(e.2.2.1,e.2.1)] else [])
omit G hi hs hc in
theorem Vt (c:Int) (es:List EdT):(es.flatMap (edL c)).length<=2*es.length:=ve fun e _=>by
 unfold edL
 rw[al]
 split <;> split <;> simp
omit G hi hs hc in
theorem zu {e:EdT} {x:Pr} :x∈edL c e↔(2*e.2.2.2=c/\x=(e.2.1,e.2.2.1))\/(2*e.2.2.2+1=c/\x=(e.2.2.1,e.2.1)):=by
 unfold edL
 rw[List.mem_append]
 by_cases h1:2*e.2.2.2=c <;> by_cases h2:2*e.2.2.2+1=c <;> simp[h1,h2]
def SI (g:GrT) (c:Int):List Pr:=puts (puts [] (sC g c g.1.length)) (g.2.flatMap (edL c))
theorem XN:gM g c=some (SI g c):=by
 have hn:=G.n5
 have hm:=G.m
 unfold gM
 simp only[jB]
 rw[hs];simp only[aa,if_true]
 have:=aP (f:=dt g c) (fun k=>(puts [] (sC g c k),(k:Int))) g.1.length (fun k hk=>by
  have h1:=mA (sC g c k) []
  have h2:=zt g c k
  simp only[aA] at h1
  unfold dt
  simp only[jB]
  rw[if_pos (by simp;omega),Vr G hi hs hc ⟨by omega,by omega⟩,af (by omega),Ex _ _ (by omega),sC];simp only[aa]
  by_cases d:zr g c (k:Int)=true
  ·rw[if_pos d,if_pos d,rB];rfl
  ·rw[if_neg d,if_neg d];rfl) (by
  unfold dt
  simp only
  rw[if_neg (by simp)]) (fW (by omega))
 have this:ax (dt g c) aR (([] :List (Int×Int)),0)=_:=this
 rw[ai this];simp only
 have h2:=zt g c g.1.length
 have h1:=mA (sC g c g.1.length) []
 simp only[aA] at h1
 have:=aP (f:=du g c) (fun k=>(puts (puts [] (sC g c g.1.length)) ((g.2.take k).flatMap (edL c)),(k:Int))) g.2.length (fun k hk=>by
  have h3:=mA ((g.2.take k).flatMap (edL c)) (puts [] (sC g c g.1.length))
  have h4:=Vt c (g.2.take k)
  have h5:(g.2.take k).length<=12:=by rw[aF];omega
  have he:=G.edge _ (List.getElem_mem hk)
  unfold du
  simp only[jB]
  rw[fg hk,if_pos rfl,aZ hk];simp only[aa]
  rw[cZ (n:=2*g.2[k].2.2.2) (by omega) (by omega),cZ (n:=2*g.2[k].2.2.2+1) (by omega) (by omega),af (by omega),Ex _ (g.2[k].2.1,g.2[k].2.2.1) (by omega),List.take_succ_eq_append_getElem hk,List.flatMap_append,Im]
  generalize puts (puts [] (sC g c g.1.length)) ((g.2.take k).flatMap (edL c))=S at *
  have h6:=NG S (g.2[k].2.1,g.2[k].2.2.1)
  rw[List.flatMap_cons,List.flatMap_nil,List.append_nil]
  unfold edL
  by_cases d1:(2*g.2[k].2.2.2==c)=true
  ·rw[if_pos d1,if_pos d1];simp only[aa]
   rw[Ex _ (g.2[k].2.2.1,g.2[k].2.1) (by omega)];simp only[aa]
   by_cases d2:(2*g.2[k].2.2.2+1==c)=true
   ·rw[if_pos d2,if_pos d2];rfl
   ·rw[if_neg d2,if_neg d2];rfl
  ·rw[if_neg d1,if_neg d1];simp only[aa]
   rw[Ex _ (g.2[k].2.2.1,g.2[k].2.1) (by omega)];simp only[aa]
   by_cases d2:(2*g.2[k].2.2.2+1==c)=true
   ·rw[if_pos d2,if_pos d2];rfl
   ·rw[if_neg d2,if_neg d2];rfl) (by
  unfold du
  simp only
  rw[if_neg (by simp)]) (fW (by omega))
 have this:ax (du g c) aR (puts [] (sC g c g.1.length),0)=_:=this
 rw[ai this,List.take_of_length_le (ay _)];rfl
def arL (c:Int) (x:Int) (l:List ArT):List Pr:=(l.filter fun y=>y.2.1==c).map fun y=>(x,y.2.2)
omit G hi hs hc in
theorem Gy (c x:Int) (l:List ArT):(arL c x l).length<=l.length:=by unfold arL;rw[List.length_map];exact List.length_filter_le ..
def OO (g:GrT) (c:Int) (k:Nat):List Pr:=arL c k (arcL g.2 k)++if zr g c k=true then [((k:Int),(k:Int))] else []
omit hi hs hc in
theorem Rm (k:Nat):(OO g c k).length<=25:=by
 have h1:=Gy c k (arcL g.2 k)
 have h2:=xz g.2 k
 have h3:=G.m
 unfold OO
 rw[al]
 split <;> simp <;> omega
theorem Rn {x:Int} {l:List ArT} (hl:l.length<=1000) {o:List Pr} (ho:o.length<=1000):ax (dx c (o,x) l) aR (o,0)=some (.brk (o++arL c x l,(l.length:Int))):=by
 have:=aP (f:=dx c (o,x) l) (fun k=>(o++arL c x (l.take k),(k:Int))) l.length (fun k hk=>by
  have h2:=Gy c x (l.take k)
  have h3:(l.take k).length<=l.length:=by rw[aF];omega
  unfold dx
  simp only
  rw[fg hk,if_pos rfl,aZ hk];simp only[aa,af (show k<9223372036854775807 by omega)]
  rw[aJ (by rw[al];simp only[aB,aA];omega),List.take_succ_eq_append_getElem hk];simp only[aa]
  unfold arL
  rw[List.filter_append,aM]
  by_cases d:(l[k].2.1==c)=true
  ·rw[JW,if_pos d,if_pos d,List.map_cons,List.map_nil,aD];rfl
  ·rw[JW,if_neg d,if_neg d,List.map_nil,List.append_nil];rfl) (by
  unfold dx
  simp only
  rw[eN];rfl) (fW (by omega))
 have e0:o++arL c x (l.take 0)=o:=by simp[arL]
 simp only[e0] at this
 rw[List.take_of_length_le (ay _)] at this
 exact this
theorem ZC:gN g c=some (SI g c):=by
 have hn:=G.n5
 have hm:=G.m
 have hlen: ∀k,((List.range k).flatMap (OO g c)).length<=25*k:=fun k=>by
  have:=ve (f:=OO g c) (B:=25) (xs:=List.range k) fun x _=>Rm G x
  simpa using this
 unfold gN
 simp only[jB]
 rw[hi];simp only[aa,if_true]
 rw[Cw];simp only[aa]
 rw[if_pos (decide_eq_true hc),XM G];simp only[aa]
 have:=aP (f:=dy g c (rm g.1.length (arcL g.2))) (fun k=>((List.range k).flatMap (OO g c),(k:Int))) g.1.length (fun k hk=>by
  have h1:=hlen k
  have h2:=xz g.2 k
  have h3:=Gy c k (arcL g.2 k)
  unfold dy
  simp only[jB]
  rw[if_pos (by rw[Ey];simp;omega),Gw hk];simp only[aa]
  rw[ai (Rn G hi hs hc (by omega) (by omega)),Vs G hi hs hc ⟨by omega,by omega⟩];simp only[aa]
  rw[aJ (by rw[al];simp only[aB,aA];omega),af (by omega),List.range_succ,List.flatMap_append,List.flatMap_cons,List.flatMap_nil,List.append_nil];simp only[aa]
  unfold OO
  by_cases d:zr g c (k:Int)=true
  ·rw[if_pos d,if_pos d,aD];rfl
  ·rw[if_neg d,if_neg d,List.append_nil];rfl) (by
  unfold dy
  simp only
  rw[if_neg (by rw[Ey];simp)]) (fW (by omega))
 have this:ax (dy g c (rm g.1.length (arcL g.2))) aR (([] :List (Int×Int)),0)=_:=this
 rw[ai this];simp only
 have h1:=hlen g.1.length
 rw[Ii _ (by omega)];simp only[aa]
 congr 1
 refine vd (Ig _) (show Str (SI g c) from nX (nX List.Pairwise.nil)) fun x=>?_
 unfold SI
 rw[Ih,List.mem_flatMap,jy,jy,vf,List.mem_flatMap]
 constructor
 ·rintro ⟨k,hk,h⟩
  have hk:=List.mem_range.1 hk
  unfold OO at h
  rcases aH h with h | h
  ·right
   unfold arL at h
   obtain ⟨y,hy,rfl⟩:=List.mem_map.1 h
   obtain ⟨hy,e⟩:=List.mem_filter.1 hy
   have e:=eq_of_beq e
   unfold arcL at hy
   obtain ⟨ed,hed,hy⟩:=List.mem_flatMap.1 hy
   refine ⟨ed,hed,zu.2 ?_⟩
   unfold NJ at hy
   rcases aH hy with hy | hy
   ·split at hy
    ·rename_i hf
     obtain rfl:=ak hy
     exact .inl ⟨e,by rw[<-hf];rfl⟩
    ·cases hy
   ·split at hy
    ·rename_i hf
     obtain rfl:=ak hy
     exact .inr ⟨e,by rw[<-hf];rfl⟩
    ·cases hy
  ·left
   split at h
   ·rename_i d
    obtain rfl:=ak h
    exact .inr ⟨k,hk,d,rfl⟩
   ·cases h
 ·rintro ((h | ⟨i,h1,h2,rfl⟩) | ⟨ed,hed,h⟩)
  ·cases h
  ·refine ⟨i,List.mem_range.2 h1,?_⟩
   unfold OO
   rw[if_pos h2]
   exact List.mem_append.2 (.inr (List.mem_singleton.2 rfl))
  ·have hg:=G.edge ed hed
   rcases zu.1 h with ⟨e,rfl⟩ | ⟨e,rfl⟩
   ·refine ⟨ed.2.1.toNat,List.mem_range.2 (by omega),?_⟩
    have hn:((ed.2.1.toNat:Nat):Int)=ed.2.1:=by omega
    unfold OO arL arcL
    refine List.mem_append.2 (.inl (List.mem_map.2 ⟨fwd ed,List.mem_filter.2 ⟨List.mem_flatMap.2 ⟨ed,hed,?_⟩,?_⟩,?_⟩))
    ·unfold NJ
     rw[if_pos hn.symm]
     exact List.mem_append.2 (.inl (List.mem_singleton.2 rfl))
    ·exact beq_iff_eq.2 e
    ·rw[hn];rfl
   ·refine ⟨ed.2.2.1.toNat,List.mem_range.2 (by omega),?_⟩
    have hn:((ed.2.2.1.toNat:Nat):Int)=ed.2.2.1:=by omega
    unfold OO arL arcL
    refine List.mem_append.2 (.inl (List.mem_map.2 ⟨inv ed,List.mem_filter.2 ⟨List.mem_flatMap.2 ⟨ed,hed,?_⟩,?_⟩,?_⟩))
    ·unfold NJ
     rw[if_pos (c:=ed.2.2.1=_) hn.symm]
     exact List.mem_append.2 (.inr (List.mem_singleton.2 rfl))
    ·exact beq_iff_eq.2 e
    ·rw[hn];rfl
theorem SJ:InR (SI g c):=by
 have hn:=G.n5
 refine ⟨nX (nX List.Pairwise.nil),fun p hp=>?_⟩
 unfold SI at hp
 rw[jy,jy,vf,List.mem_flatMap] at hp
 rcases hp with (h | ⟨i,h1,-,rfl⟩) | ⟨ed,hed,h⟩
 ·cases h
 ·simp only;omega
 ·have hg:=G.edge ed hed
  rcases zu.1 h with ⟨-,rfl⟩ | ⟨-,rfl⟩ <;> (simp only;omega)
end
end D
namespace D
open Go.RowKit
theorem NQ {g:GrT} (G:GOk g) {x:Nat} {y:ArT} (h:y∈arcL g.2 x):(0<=y.2.1/\y.2.1<6)/\0<=y.2.2/\y.2.2<g.1.length:=by
 obtain ⟨e,he,hy⟩:=List.mem_flatMap.1 h
 obtain ⟨h1,h2,h3⟩:=G.edge e he
 unfold NJ at hy
 rcases aH hy with hy | hy <;> split at hy
 ·obtain rfl:y=fwd e:=by simpa using hy
  exact ⟨⟨by simp[fwd];omega,by simp[fwd];omega⟩,h2⟩
 ·cases hy
 ·obtain rfl:y=inv e:=by simpa using hy
  exact ⟨⟨by simp[inv];omega,by simp[inv];omega⟩,h1⟩
 ·cases hy
section
variable {g:GrT} {a:AutT} (G:GOk g) (V:VA a a.2.1.length) (hn:a.2.1.length<=12)
include G V hn
end
section
variable {g:GrT} {a:AutT} {F:Nat->List Int} {N:Nat}
end
section
variable {g:GrT} {a:AutT} (G:GOk g) (V:VA a a.2.1.length) (hn:a.2.1.length<=12)
include G V hn
end
end D
namespace D
open Go.RowKit
section
variable {g:GrT} {a:AutT} (G:GOk g) (V:VA a a.2.1.length) (hn:a.2.1.length<=12)
include G V hn
end
end D
namespace D
open Go.RowKit
section
variable {nx:Int->List Int} {N:Nat} {v:Int} (hv:0<=v/\v<N) (hn: ∀x:Int,0<=x->x<N-> ∀y∈nx x,0<=y/\y<N)
include hv
include hn
end
end D
namespace D
open Go.RowKit
section
variable {nx:Int->List Int} {N:Nat} {v:Int} (hN:N<=60) (hv:0<=v/\v<N) (hn: ∀x:Int,0<=x->x<N-> ∀y∈nx x,0<=y/\y<N) (hl: ∀x,(nx x).length<=100000)
include hN hv hn hl
end
end D
namespace D
open Go.RowKit
theorem CJ {n:Nat} {r:List Int} :(∀t∈r,-1<=t/\t<=(n:Int) - 1)↔ ∀t∈r,-1<=t/\t<(n:Int):=forall_congr' fun t=>forall_congr' fun _=>and_congr Iff.rfl (by omega)
theorem XO (a:AutT) (h1:a.2.1.length<=9223372036854775807) (h2:a.2.2.length<=9223372036854775807): ∃b,mS a=some b/\(b=true↔VA a a.2.1.length):=by
 unfold mS
 rw[HZ];simp only[aa,lD h1]
 by_cases c1:0<=a.1/\a.1<=(a.2.1.length:Int) - 1
 case neg=>exact ⟨false,by rw[if_neg (by simpa using c1)],by simp;exact fun h=>c1 ⟨h.start.1,by have:=h.start.2;omega⟩⟩
 rw[if_pos (by simpa using c1)]
 by_cases c2:a.2.2.length=a.2.1.length
 case neg=>exact ⟨false,by rw[if_pos (by simp;omega)],by simp;exact fun h=>c2 h.nlen⟩
 rw[if_neg (by simp;omega)]
 have inner: ∀i:Nat,i<a.2.2.length->(nth a.2.2 i).length=9->(ax (gH a i) aR 0=some (.brk 9)/\ ∀t∈nth a.2.2 (i:Int),-1<=t/\t<=(a.2.1.length:Int) - 1)\/(ax (gH a i) aR 0=some (.ret false)/\ ¬ ∀t∈nth a.2.2 (i:Int),-1<=t/\t<=(a.2.1.length:Int) - 1):=by
  intro i hi hr
  have:=scan (f:=gH a i) (nth a.2.2 (i:Int)) (fun t=> -1<=t/\t<=(a.2.1.length:Int) - 1) false (by omega) (fun j hj=>by
   unfold gH
   rw[if_pos (by simp;omega),aG (by omega) (by omega)];simp only[aa]
   rw[aG (by omega) (by omega)];simp only[aa,lD h1]
   rw[HZ];simp only[aa,af (show j<9223372036854775807 by omega)]
   by_cases c: -1<=nth (nth a.2.2 (i:Int)) (j:Int)/\nth (nth a.2.2 (i:Int)) (j:Int)<=(a.2.1.length:Int) - 1
   ·rw[if_pos (by simpa using c),if_pos c]
   ·rw[if_neg (by simpa using c),if_neg c]) (by unfold gH;rw[if_neg (by simp[hr])])
  rwa [hr] at this
 have outer:=scan (f:=kS a) a.2.2 (fun r=>r.length=9/\ ∀t∈r,-1<=t/\t<=(a.2.1.length:Int) - 1) false h2 (fun i hi=>by
  unfold kS
  rw[if_pos (by simp;omega),aG (by omega) (by omega)];simp only[aa]
  by_cases c:(nth a.2.2 (i:Int)).length=9
  ·rw[if_neg (by simp;omega)]
   rcases inner i hi c with ⟨e,k⟩ | ⟨e,k⟩
   ·rw[ai e,if_pos ⟨c,k⟩,af (show i<9223372036854775807 by omega)]
   ·rw[bM e,if_neg (fun h=>k h.2)]
  ·rw[if_pos (by simp;omega),if_neg (fun h=>c h.1)]) (by unfold kS;rw[if_neg (by simp;omega)])
 rcases outer with ⟨e,k⟩ | ⟨e,k⟩
 ·exact ⟨true,by rw[ai e],by simp;exact ⟨rfl,⟨c1.1,by omega⟩,c2,fun r hr=>(k r hr).1,fun r hr=>CJ.1 (k r hr).2⟩⟩
 ·exact ⟨false,by rw[bM e],by simp;exact fun h=>k fun r hr=>⟨h.row r hr,CJ.2 (h.ent r hr)⟩⟩
theorem NR (a:AutT) (h1:a.2.1.length<=9223372036854775807) (h2:a.2.2.length<=9223372036854775807): ∃b,bE a=some b/\(b=true↔a.2.1.length<=12/\VA a a.2.1.length):=by
 unfold bE
 by_cases c:a.2.1.length<=12
 ·rw[if_pos (by simp;omega)]
  obtain ⟨b,e,hb⟩:=XO a h1 h2
  exact ⟨b,by show (mS a).bind _=_;rw[e];rfl,by rw[hb];simp[c]⟩
 ·exact ⟨false,by rw[if_neg (by simp;omega)],by simp;exact fun h=>absurd h c⟩
theorem Vu (a:AutT) (h1:a.2.1.length<=9223372036854775807) (h2:a.2.2.length<=9223372036854775807) (h3: ∀r∈a.2.2,r.length<=9223372036854775807): ∃b,bO a=some b/\(b=true↔a.2.1.length<=12/\VA a a.2.1.length):=by
 unfold bO
 rw[E6];simp only[aa,lD h1]
 by_cases c0:1<=(a.2.1.length:Int)/\(a.2.1.length:Int)<=12
 case neg=>exact ⟨false,by rw[if_neg (by simpa using c0)],by simp;exact fun h h'=>c0 ⟨by have:=h'.start;omega,by omega⟩⟩
 rw[if_pos (by simpa using c0),E6];simp only[aa]
 by_cases c1:0<=a.1/\a.1<=(a.2.1.length:Int) - 1
 case neg=>exact ⟨false,by rw[if_neg (by simpa using c1)],by simp;exact fun _ h=>c1 ⟨h.start.1,by have:=h.start.2;omega⟩⟩
 rw[if_pos (by simpa using c1)]
 by_cases c2:a.2.2.length=a.2.1.length
 case neg=>exact ⟨false,by rw[if_pos (by simp;omega)],by simp;exact fun _ h=>c2 h.nlen⟩
 rw[if_neg (by simp;omega)]
 have inner: ∀x:List Int,x.length<=9223372036854775807->(ax (bX a x) aR 0=some (.brk (x.length:Int))/\ ∀t∈x,-1<=t/\t<=(a.2.1.length:Int) - 1)\/(ax (bX a x) aR 0=some (.ret false)/\ ¬ ∀t∈x,-1<=t/\t<=(a.2.1.length:Int) - 1):=by
  intro x hx
  refine scan (f:=bX a x) x (fun t=> -1<=t/\t<=(a.2.1.length:Int) - 1) false hx (fun j hj=>?_) (by unfold bX;rw[if_neg (by simp)])
  unfold bX
  rw[if_pos (by simp;omega),aG (by omega) (by omega)];simp only[aa,lD h1]
  rw[E6];simp only[aa,af (show j<9223372036854775807 by omega)]
  by_cases c: -1<=nth x (j:Int)/\nth x (j:Int)<=(a.2.1.length:Int) - 1
  ·rw[if_pos (by simpa using c),if_pos c]
  ·rw[if_neg (by simpa using c),if_neg c]
 have outer:=scan (f:=dX a) a.2.2 (fun r=>(∀t∈r,-1<=t/\t<=(a.2.1.length:Int) - 1)/\r.length=9) false h2 (fun i hi=>by
  unfold dX
  rw[if_pos (by simp;omega),aG (by omega) (by omega)];simp only[aa]
  rcases inner (nth a.2.2 (i:Int)) (h3 _ (cO (by omega) (by omega))) with ⟨e,k⟩ | ⟨e,k⟩
  ·rw[ai e]
   by_cases c:(nth a.2.2 (i:Int)).length=9
   ·rw[if_neg (by simp;omega),if_pos ⟨k,c⟩,af (show i<9223372036854775807 by omega)]
   ·rw[if_pos (by simp;omega),if_neg (fun h=>c h.2)]
  ·rw[bM e,if_neg (fun h=>k h.1)]) (by unfold dX;rw[if_neg (by simp)])
 rcases outer with ⟨e,k⟩ | ⟨e,k⟩
 ·exact ⟨true,by rw[ai e],by simp;exact ⟨by omega,rfl,⟨c1.1,by omega⟩,c2,fun r hr=>(k r hr).2,fun r hr=>CJ.1 (k r hr).1⟩⟩
 ·exact ⟨false,by rw[bM e],by simp;exact fun _ h=>k fun r hr=>⟨CJ.2 (h.ent r hr),h.row r hr⟩⟩
end D
namespace D
open Go.RowKit
theorem rD (g:GrT):bj g=aQ g:=by
 have h0:mO g=eB g:=rfl
 have h1:jz g=de g:=by
  funext s
  unfold jz de
  split
  ·cases hx:aK g.2 s with
   | none=>rfl
   | some x=>rfl
  ·rfl
 unfold bj aQ
 rw[h0,h1];rfl
def ZD (g:GrT) (a:AutT):Prop:=GOk g/\a.2.1.length<=12/\VA a a.2.1.length
section
variable {g:GrT} {a:AutT} (H:ZD g a)
include H
end
section
variable {g:GrT} {a:AutT} (H:ZD g a)
include H
end
section
variable {g:GrT} {a:AutT} (H:ZD g a) {x:Int} (hx:0<=x/\x<g.1.length)
include H hx
end
end D
namespace D
open Go.RowKit
theorem Iq {t:Tok} (h:0<=ar t) (k:t.1=3):0<=t.2.1/\t.2.1<=8:=by
 unfold ar at h
 grind
section
variable {g:GrT} (G:GOk g) (hi:aQ g=some true) (hs:bj g=some true)
include G hi hs
theorem CK {x:Tr Tok} (h:WT x): ∀n m,(flat x).length<=n->(flat x).length<=m->(flat x).length<=1000000-> ∃r,aW n x g=some r/\bh m g (flat x)=some r/\InR r:=by
 refine WT.ind (p:=fun x=> ∀n m,(flat x).length<=n->(flat x).length<=m->(flat x).length<=1000000-> ∃r,aW n x g=some r/\bh m g (flat x)=some r/\InR r) ?_ ?_ ?_ h
 ·intro t e n m hn hm hl
  rw[rv] at hn hm hl⊢
  match n,m,hn,hm with
  | n+1,m+1,_,_ =>
   rw[aW,bh]
   have:=(eH (A:=[]) (t:=t) (by simp)).1
   rw[List.nil_append] at this
   rw[this];simp only[jo,aa,jB]
   rcases dY (show 0<=ar t by omega) with ⟨e',k⟩ | ⟨e',k⟩ | ⟨_,k | k | k⟩
   ·omega
   ·omega
   ·simp only[k,Int.reduceBEq,Bool.false_eq_true,if_false]
    exact ⟨[],rfl,rfl,InR.nil⟩
   ·simp only[k,Int.reduceBEq,if_true]
    rw[We G.n5,ZB G.n5]
    exact ⟨_,rfl,rfl,Bc G.n5⟩
   ·have hc:=Iq (show 0<=ar t by omega) k
    simp only[k,Int.reduceBEq,if_true,Bool.false_eq_true,if_false]
    rw[XN G hi hs hc,ZC G hi hs hc]
    exact ⟨_,rfl,rfl,SJ G hi hs hc⟩
 ·intro t a e wa ih n m hn hm hl
  rw[pb] at hn hm hl⊢
  simp only[al,aB,aA] at hn hm hl
  match n,m,hn,hm with
  | n+1,m+1,hn,hm =>
   obtain ⟨ra,ia,sa,ha⟩:=ih n m (by omega) (by omega) (by omega)
   rw[aW,bh]
   obtain ⟨l1,l2⟩:=eH (A:=flat a) (t:=t) (by omega)
   rw[l1,l2,Int.toNat_natCast,List.take_left];simp only[jo,aa,jB]
   rw[show aK [a] 0=some a from rfl];simp only[aa]
   rw[ia,sa];simp only[aa]
   rw[dZ (by simp only[al,aB,aA];omega)];simp only[aa]
   rcases dY (show 0<=ar t by omega) with ⟨e',k⟩ | ⟨_,k | k⟩ | ⟨e',k⟩
   ·omega
   ·simp only[k,Int.reduceBEq,if_true,Bool.false_eq_true,if_false]
    obtain ⟨r,e1,e2,hr⟩:=Rk G.n5 ha G.n1
    rw[e1,e2]
    exact ⟨r,rfl,rfl,hr⟩
   ·have h7:=qj (show 0<=ar t by omega) k
    simp only[k,Int.reduceBEq,if_true,Bool.false_eq_true,if_false]
    obtain ⟨r,e1,e2,hr⟩:=Rl G.n5 ha G.n1 t.2.2.1 (high:=t.2.2.2) ⟨by omega,by omega⟩
    rw[e1,e2]
    exact ⟨r,rfl,rfl,hr⟩
   ·omega
 ·intro t a b e wa wb iha ihb n m hn hm hl
  rw[kl] at hn hm hl⊢
  obtain ⟨p1,p2,p3,p4⟩:=pc (a:=a) (t:=t) wb hl
  simp only[al,aB,aA] at hn hm hl
  match n,m,hn,hm with
  | n+1,m+1,hn,hm =>
   obtain ⟨ra,ia,sa,ha⟩:=iha n m (by omega) (by omega) (by omega)
   obtain ⟨rb,ib,sb,hb⟩:=ihb n m (by have:=wa.pos;omega) (by have:=wa.pos;omega) (by omega)
   have la:=ha.len
   have lb:=hb.len
   rw[aW,bh]
   obtain ⟨l1,l2⟩:=eH (A:=flat a++flat b) (t:=t) (by rw[al];omega)
   rw[l1,l2,p1];simp only[jo,aa,jB]
   rw[show aK [a,b] 0=some a from rfl,show aK [a,b] 1=some b from rfl];simp only[aa]
   rw[ia,ib];simp only[aa]
   rw[p2,dZ (by simp only[al,aB,aA];omega)];simp only[aa]
   rw[dZ (by simp only[al,aB,aA];omega),p3,p4];simp only[aa]
   rw[sa,sb];simp only[aa]
   rw[dZ (by simp only[al,aB,aA];omega)];simp only[aa]
   rcases dY (show 0<=ar t by omega) with ⟨_,k | k⟩ | ⟨e',k⟩ | ⟨e',k⟩
   ·simp only[k,Int.reduceBEq,if_true,Bool.false_eq_true,if_false]
    rw[NM (by omega) (by omega),Vo ha.str (by omega) (by omega)]
    exact ⟨_,rfl,rfl,rC ha hb⟩
   ·simp only[k,Int.reduceBEq,if_true,Bool.false_eq_true,if_false]
    rw[zn (by omega) (by omega),Vm (by omega) (by omega)]
    exact ⟨_,rfl,rfl,zp ha hb⟩
   ·omega
   ·omega
end
theorem EA {g:GrT} (hg:Data.sm g) {e:List Tok} (he:e.length<=1048576): ∃r:List Pr×Bool,cX g e=some r/\bm g e=some r/\InR r.1:=by
 obtain ⟨b,e1,k1⟩:=xy g (ze hg.1).1 (ze hg.2).1
 have e2:bj g=some b:=(rD g).trans e1
 unfold cX bm
 simp only[jB]
 rw[e1,e2];simp only[aa]
 cases b with
 | false=>exact ⟨([],false),rfl,rfl,InR.nil⟩
 | true =>
  simp only[if_true]
  rw[dj he,dO he];simp only[aa]
  by_cases c:(decide (e.length<=24)&&isX e)=true
  ·rw[if_pos c,if_pos c]
   rw[ah] at c
   obtain ⟨x,hr,hw,hf⟩:=A6 c.2
   have h24:e.length<=24:=of_decide_eq_true c.1
   have hfu:=fU
   rw[pO he,show tL e=x from by unfold tL;rw[hr]];simp only[aa]
   obtain ⟨r,e3,e4,hr⟩:=CK (k1 rfl) e1 e2 hw bP bP (by rw[hf];omega) (by rw[hf];omega) (by rw[hf];omega)
   rw[hf] at e4
   rw[e3,e4]
   exact ⟨(r,true),rfl,rfl,hr⟩
  ·rw[if_neg c,if_neg c]
   exact ⟨([],false),rfl,rfl,InR.nil⟩
end D
namespace D
open Go.RowKit
def Kh (out:List Bool) (t:Int):Bool:=decide (t≥0)&&nth out t
def hit (out:List Bool) (row:List Int):Bool:=row.any (Kh out)
def rE (a:AutT) (out:List Bool) (s:Nat):List Bool:=if hit out (nth a.2.2 s) then out.set s true else out
def fV (a:AutT) (out:List Bool):Nat->List Bool
 | 0=>out
 | s+1=>rE a (fV a out s) s
def cnt (out:List Bool):Nat:=out.count true
theorem XP (out:List Bool):cnt out<=out.length:=List.count_le_length
theorem Ir {out:List Bool} {s:Nat} (h:s<out.length) (k:out[s] =true):out.set s true=out:=by
 refine List.ext_getElem (by simp) fun i h1 h2=>?_
 grind
theorem Vv {out:List Bool} {s:Nat} (h:s<out.length) (k:out[s] =false):cnt (out.set s true)=cnt out+1:=by
 unfold cnt
 rw[List.count_set h];simp[k]
section
variable {a:AutT} {n:Nat}
theorem CL (a:AutT) (out:List Bool) (s:Nat):(rE a out s).length=out.length:=by grind[rE]
theorem iT (a:AutT) (out:List Bool): ∀s,(fV a out s).length=out.length
 | 0=>rfl
 | s+1=>by rw[fV,CL,iT a out s]
theorem rF {out:List Bool} {s:Nat} (h:s<out.length):(rE a out s=out/\ ¬(hit out (nth a.2.2 s)=true/\nth out s=false))\/(cnt (rE a out s)=cnt out+1/\hit out (nth a.2.2 s)=true/\nth out s=false):=by
 grind[rE,br,hit,nth,Ir,Vv]
theorem sk {out:List Bool} : ∀s,s<=out.length->(fV a out s=out/\cnt (fV a out s)=cnt out)\/cnt out<cnt (fV a out s)
 | 0,_=>.inl ⟨rfl,rfl⟩
 | s+1,hs=>by
  have hl:s<(fV a out s).length:=by rw[iT];omega
  have ih:=sk (out:=out) s (by omega)
  grind[fV,rF]
def it (a:AutT):Nat->List Bool
 | 0=>a.2.1
 | j+1=>fV a (it a j) a.2.1.length
theorem pe (a:AutT): ∀j,(it a j).length=a.2.1.length
 | 0=>rfl
 | j+1=>by rw[it,iT,pe a j]
theorem SK (a:AutT) (j:Nat):cnt (it a j)<=a.2.1.length:=by grind[pe,XP]
theorem Gz (a:AutT) (j:Nat):(it a (j+1)=it a j)\/cnt (it a j)<cnt (it a (j+1)):=by
 rcases sk (a:=a) (out:=it a j) a.2.1.length (by rw[pe];omega) with h | h
 ·exact .inl h.1
 ·exact .inr h
theorem XQ {j k:Nat} (h:it a (j+1)=it a j) (hk:j<=k):it a k=it a j:=by
 induction hk with
 | refl=>rfl
 | step _ ih=>rw[it,ih];exact h
theorem NS {j k:Nat} (h:it a (j+1)=it a j) (h':it a (k+1)=it a k):it a j=it a k:=by
 grind[Nat.le_total,XQ]
theorem NT (a:AutT):it a (a.2.1.length+1)=it a a.2.1.length:=by
 have key: ∀j,it a (j+1)=it a j\/j+1<=cnt (it a (j+1)):=by
  intro j
  induction j with
  | zero=>grind[Gz]
  | succ j ih =>
   grind[Gz,it]
 grind[SK]
def live (a:AutT):List Bool:=it a a.2.1.length
theorem pQ (a:AutT):(live a).length=a.2.1.length:=pe a _
theorem Is {α:Type} [Inhabited α] {row:List α} {p:α->Bool} {k:Nat} (h:k<row.length):(row.take (k+1)).any p=((row.take k).any p || p (nth row (k:Int))):=by
 rw[List.take_succ_eq_append_getElem h,List.any_append,br h];simp
section
variable (V:VA a n) (hn:n<=1000000)
include V hn
theorem NU {out:List Bool} {s:Nat} (hs:s<n) (hl:out.length=n):ax (kQ a (out,(s:Int))) aR (out,0)=some (.brk (rE a out s,9)):=by
 have hr:=V.rowAt (s:=s) (by omega) (by omega)
 have:=aP (f:=kQ a (out,(s:Int))) (fun k=>(if ((nth a.2.2 (s:Int)).take k).any (Kh out) then out.set s true else out,(k:Int))) 9 (fun k hk=>by
  unfold kQ
  rw[if_pos (by grind),V.get (by omega) (by omega)];simp only[aa]
  rw[V.get2 (by omega) (by omega) hk];rw[Is (by omega),show nth (nth a.2.2 (s:Int)) (k:Int)=mv a s k from rfl]
  simp only[af (show k<9223372036854775807 by omega)]
  by_cases c:mv a s k≥0
  ·have hm:=(V.mv (s:=s) (k:=k) (by omega) (by omega) hk).2
   by_cases q:((nth a.2.2 (s:Int)).take k).any (Kh out)=true
   ·simp_all[if_true,Bool.true_or,aG,aa,Int.toNat_natCast]
   ·simp[q,Bool.false_eq_true,if_false,Bool.false_or,Kh]
    rw[aG c (by rw[hl];exact hm),aG (by omega) (by omega)];cases hc:nth out (mv a s k) <;> simp[hc,c]
  ·simp[Kh,c]) (by rfl) (by unfold aR;omega)
 have e9:(nth a.2.2 (s:Int)).take 9=nth a.2.2 (s:Int):=List.take_of_length_le (by omega)
 rw[e9] at this
 exact this
theorem EB {out:List Bool} (hl:out.length=n):ax (ji a) aR (out,0)=some (.brk (fV a out n,(n:Int))):=by
 have hlen:=V.len
 refine aP (f:=ji a) (fun s=>(fV a out s,(s:Int))) n (fun s hs=>?_) ?_ (fW (by omega))
 ·unfold ji
  rw[if_pos (by grind),ai (NU V hn hs (by rw[iT];exact hl)),af (by omega)]
  rfl
 simp_all[ji,if_neg]
theorem SL:kD a=some (live a):=by
 have hlen:=V.len
 unfold kD
 rw[aJ (by grind)];have:=aP (f:=kR a) (fun j=>(it a j,(j:Int))) n (fun j hj=>by
  unfold kR
  rw[if_pos (by grind),ai (EB V hn (by grind[pe])),af (by omega),it,hlen]) (by
  simp_all[kR,if_neg]) (fW (by omega))
 exact (ai this).trans (by simp[live,hlen])
theorem NV {out:List Bool} {g:Bool} {s:Nat} (hs:s<n) (hl:out.length=n):ax (dB (g,(s:Int),out) (nth a.2.2 (s:Int))) aR (g,0,out)=some (.brk (g || (hit out (nth a.2.2 (s:Int)) && !nth out (s:Int)),9,rE a out s)):=by
 have hr:=V.rowAt (s:=s) (by omega) (by omega)
 have hls:s<out.length:=by omega
 have:=aP (f:=dB (g,(s:Int),out) (nth a.2.2 (s:Int))) (fun k=>(g || (((nth a.2.2 (s:Int)).take k).any (Kh out) && !nth out (s:Int)),(k:Int),if ((nth a.2.2 (s:Int)).take k).any (Kh out) then out.set s true else out)) 9 (fun k hk=>by
  unfold dB
  rw[if_pos (by grind),V.get2 (by omega) (by omega) hk];rw[Is (by omega),show nth (nth a.2.2 (s:Int)) (k:Int)=mv a s k from rfl]
  simp only[af (show k<9223372036854775807 by omega)]
  by_cases c:mv a s k≥0
  ·have hm:=(V.mv (s:=s) (k:=k) (by omega) (by omega) hk).2
   by_cases q:((nth a.2.2 (s:Int)).take k).any (Kh out)=true
   ·simp[q,if_true,Bool.true_or]
    simp_all[nth,rr,aG,aa,Int.toNat_natCast,if_true]
   ·simp[q,Bool.false_eq_true,if_false,Bool.false_or,Kh,Bool.false_and,Bool.or_false]
    rw[aG c (by rw[hl];exact hm),aG (by omega) (by omega)];cases hc:nth out (mv a s k) with
    | false=>simp[c]
    | true =>
     cases hd:nth out (s:Int) with
     | false=>simp[c]
     | true =>
      rw[br hls] at hd
      simp[c,Ir hls hd]
  ·simp[Kh,c]) (by grind[dB]) (by unfold aR;omega)
 have e9:(nth a.2.2 (s:Int)).take 9=nth a.2.2 (s:Int):=List.take_of_length_le (by omega)
 rw[e9] at this
 have e0:(g || (((nth a.2.2 (s:Int)).take 0).any (Kh out) && !nth out (s:Int)))=g:=by simp
 rw[e0] at this
 exact this
theorem EC {out:List Bool} (hl:out.length=n): ∃g,ax (dC a) aR (false,0,out)=some (.brk (g,(n:Int),fV a out n))/\(g=true↔cnt out<cnt (fV a out n)):=by
 have hnl:=V.nlen
 obtain ⟨s',e,⟨g,rfl,hg⟩⟩:=a7 (f:=dC a) (fun s st=> ∃g,st=(g,(s:Int),fV a out s)/\(g=true↔cnt out<cnt (fV a out s))) n (by
  rintro s st hs ⟨g,rfl,hg⟩
  have hpl:(fV a out s).length=n:=by rw[iT];exact hl
  unfold dC
  simp only
  rw[if_pos (by grind),V.get (by omega) (by omega)];simp only[aa]
  rw[ai (NV V hn hs hpl),af (by omega)]
  refine ⟨_,rfl,_,rfl,?_⟩
  grind[sk,rF,fV,id,absurd]) (by
  simp_all[dC,if_neg]) ⟨false,rfl,by simp[fV]⟩ (fW (by omega))
 exact ⟨g,e,hg⟩
theorem XR:ff a=some (live a):=by
 have hlen:=V.len
 unfold ff
 rw[aJ (by grind)];obtain ⟨o,e,i,rfl,hi⟩:=cj (f:=ij a) (fun i s=> ∃b,s=(b,it a i)/\(b=true->i<=cnt (it a i))/\(b=false->it a (i+1)=it a i)) (fun o=> ∃i,o= .brk (false,it a i)/\it a (i+1)=it a i) (n+1) (s:=(true,a.2.1)) (by
  rintro i s hi ⟨b,rfl,h1,h2⟩
  unfold ij
  cases b with
  | false=>grind
  | true =>
   have hc:=SK a i
   have h1:=h1 rfl
   have ⟨g,e,hg⟩:=EC V hn (out:=it a i) (by grind[pe])
   have ee:fV a (it a i) n=it a (i+1):=by rw[it,hlen]
   rw[ee] at e hg
   refine .inl ⟨by omega,(g,it a (i+1)),by rw[if_pos rfl,ai e],g,rfl,fun h=>?_,fun h=>?_⟩
   ·grind
   grind[it,Gz]) ⟨true,rfl,fun _=>Nat.zero_le _,fun h=>by cases h⟩ (fW (by omega))
 grind[ai,NS,NT,live]
end
end
end D
namespace D
open Go.RowKit
def nothing:AutT:=(0,[false],[[-1,-1,-1,-1,-1,-1,-1,-1,-1]])
theorem NW:oq=some nothing:=by kernel_rfl
theorem NX:tv=some nothing:=by kernel_rfl
theorem NY {n:Nat} (h:n<=1000000):iOk (n:Int)=true:=by
 have h1:i64.min= -9223372036854775808:=by decide
 have h2:i64.max=9223372036854775807:=by decide
 simp[iOk,Lit.wf,h1,h2,ah,decide_eq_true_eq]
 omega
theorem take_one {α:Type} [Inhabited α] {xs:List α} {k:Nat} (h:k<xs.length):xs.take (k+1)=xs.take k++ [nth xs (k:Int)]:=by
 rw[List.take_succ_eq_append_getElem h,br h]
theorem iU {α:Type} [Inhabited α] {xs ys:List α} (h:xs <+:ys) {i:Int} (h0:0<=i) (h1:i<xs.length):nth ys i=nth xs i:=by
 obtain ⟨t,rfl⟩:=h
 exact fS h0 h1
structure NumOk {κ:Type} [DecidableEq κ] (nx:κ->List (Option κ)) (first:κ) (G:κ->Prop) (B:Nat):Prop where
 g0:G first
 gn: ∀x,G x-> ∀y,some y∈nx x->G y
 len: ∀x,G x->(nx x).length=9
 bound: ∀l:List κ,l.Nodup->(∀x∈l,G x)->l.length<=B
section
variable {κ:Type} [DecidableEq κ] [Inhabited κ] {nx:κ->List (Option κ)} {first:κ} {G:κ->Prop} {B:Nat}
theorem NumOk.le (H:NumOk nx first G B) (i:Nat):(bfS nx first i).length<=B:=H.bound _ (ke i) (iR H.g0 H.gn i)
theorem NumOk.at (H:NumOk nx first G B) {i:Nat} (h:i<(bfS nx first i).length):G (nth (bfS nx first i) (i:Int)):=iR H.g0 H.gn i _ (cO (by omega) (by omega))
theorem ix {i:Nat} (h:i<(bfS nx first i).length):bfS nx first (i+1)=nbS (bfS nx first i) (nx (nth (bfS nx first i) (i:Int))):=by rw[xu h,br h]
theorem vh {i:Nat} (h:i<(bfS nx first i).length):bfR nx first (i+1)=bfR nx first i++ [nbR (bfS nx first i) (nx (nth (bfS nx first i) (i:Int)))]:=by rw[sj h,br h]
theorem sn {β:Type} {acc:κ->β} {i:Nat} (h:i<(bfS nx first i).length):((bfS nx first (i+1)).take (i+1)).map acc=((bfS nx first i).take i).map acc++ [acc (nth (bfS nx first i) (i:Int))]:=by
 have hp:=bs (nx:=nx) (first:=first) i
 have hl:=hp.length_le
 have e:(bfS nx first (i+1)).take i=(bfS nx first i).take i:=by
  have ⟨t,ht⟩:=hp
  grind
 rw[take_one (by omega),aM,e,iU hp (by omega) (by omega)];rfl
def MapOf (M:List (κ×Int)) (l:List κ):Prop:=M.length=l.length/\ ∀x,M.lookup x=if x∈l then some (l.idxOf x:Int) else none
theorem MapOf.one (x:κ):MapOf [(x,0)] [x]:=by
 refine ⟨rfl,fun y=>?_⟩
 grind
theorem MapOf.put {M:List (κ×Int)} {l:List κ} (h:MapOf M l) {x:κ} (hx:x∉l):MapOf ((x,(l.length:Int))::M) (l++ [x]):=by
 refine ⟨by simp[h.1],fun y=>?_⟩
 rw[List.lookup_cons]
 by_cases e:y=x
 ·grind
 ·simp[show (y==x)=false from by simp[e],h.2 y,List.mem_append,List.mem_singleton,e,or_false]
  grind
end
section
variable {nx:Int->List (Option Int)} {first:Int} {G:Int->Prop} {B:Nat}
theorem ED {p3:Int->Int->Option (Int×Bool)} {l:List Int} {M:List (Int×Int)} {os:List (Option Int)} {acs:List Bool} {rws:List (List Int)} {i:Nat}
  (hi:i<l.length) (hos:os.length=9) (hM:MapOf M l) (hok: ∀y,some y∈os->iOk y=true) (hB: ∀k,(nbS l (os.take k)).length<=1000000)
  (hp: ∀(k:Nat) (hk:k<9),∃j,p3 (nth l (i:Int)) (k:Int)=some (match nth os (k:Int) with | some y=>(y,true) | none=>(j,false))) :
  ∃M',ax (eC p3 (l,M,(i:Int),0,acs,rws)) aR (l,M,[],0)=some (.brk (nbS l os,M',nbR l os,9))/\MapOf M' (nbS l os):=by
 obtain ⟨s',e,M',rfl,hM'⟩:=a7 (f:=eC p3 (l,M,(i:Int),0,acs,rws)) (fun k s=> ∃M',s=(nbS l (os.take k),M',nbR l (os.take k),(k:Int))/\MapOf M' (nbS l (os.take k))) 9 (by
  rintro k s hk ⟨M1,rfl,hM1⟩
  have hpre:=iQ l (os.take k)
  have hlen:=hpre.length_le
  have hBk:=hB k
  have ⟨j,hj⟩:=hp k hk
  have hrl:(nbR l (os.take k)).length<=9:=by rw[gJ,aF];omega
  unfold eC
  simp only
  rw[if_pos (by grind),aG (by omega) (by omega)];simp only[aa]
  rw[iU hpre (by omega) (by omega),hj,take_one (by omega),pN,si]
  simp only[aa,af (show k<9223372036854775807 by omega)]
  cases ho:nth os (k:Int) with
  | none =>
   simp only[Bool.false_eq_true,if_false]
   rw[aJ (by grind)]
   exact ⟨_,rfl,M1,rfl,hM1⟩
  | some y =>
   have hy:=hok y (ho ▸ cO (by omega) (by omega))
   rw[show chk (iOk y=true)=some () from by unfold chk;grind];rw[show lkM M1 y=_ from hM1.2 y]
   by_cases c:y∈nbS l (os.take k)
   ·simp only[c,if_true,Option.isSome_some,Option.getD_some,aa]
    rw[aJ (by grind)]
    exact ⟨_,rfl,M1,by rw[jC c];rfl,by grind[jC]⟩
   ·have hput:E3 M1 iOk iOk y ((nbS l (os.take k)).length:Int)=some ((y,((nbS l (os.take k)).length:Int))::M1):=by
     unfold E3
     rw[if_pos ⟨by have:=hM1.1;omega,hy,NY hBk⟩]
    simp only[c,if_false,Option.isSome_none,Bool.false_eq_true,hput,aa]
    rw[aJ (by grind)];simp only[aa]
    rw[aJ (by grind)]
    refine ⟨_,rfl,(y,((nbS l (os.take k)).length:Int))::M1,?_,?_⟩
    ·grind[jD,nbI,o9]
    ·rw[jD c];exact hM1.put c) (by
  grind[eC]) (s:=(l,M,[],0)) ⟨M,rfl,hM⟩ (by unfold aR;omega)
 grind
theorem XS {most:Int} {p2:Int->Option Bool} {p3:Int->Int->Option (Int×Bool)} {acc:Int->Bool} (H:NumOk nx first G B) (hB:B<=1000000) (hmost:(B:Int)<=most) (hok: ∀x,G x->iOk x=true)
  (h2: ∀x,G x->p2 x=some (acc x)) (h3: ∀x (k:Nat),G x->k<9-> ∃j,p3 x (k:Int)=some (match nth (nx x) (k:Int) with | some y=>(y,true) | none=>(j,false))) :
  ∃N,bfE nx first N/\eR first most p2 p3=some ((0,(bfS nx first N).map acc,bfR nx first N),true):=by
 have ⟨N,hNB,hN⟩:=HW (nx:=nx) (first:=first) (H.le)
 refine ⟨N,hN,?_⟩
 unfold eR
 rw[show E3 ([] :List (Int×Int)) iOk iOk first 0=some [(first,0)] from by unfold E3;rw[if_pos ⟨by simp,hok _ H.g0,by decide⟩]];simp[aa]
 obtain ⟨s',e,M',rfl,hM'⟩:=a7 (f:=bT most p2 p3) (fun i s=> ∃M,s=(bfS nx first i,M,(i:Int),0,((bfS nx first i).take i).map acc,bfR nx first i)/\MapOf M (bfS nx first i)) N (by
  rintro i s hi ⟨M,rfl,hM⟩
  have hlt:=hN.2 i hi
  have hG:=H.at hlt
  have hle':=H.le (i+1)
  have ⟨M',e,hM'⟩:=ED (p3:=p3) (l:=bfS nx first i) (M:=M) (os:=nx (nth (bfS nx first i) (i:Int))) (acs:=((bfS nx first i).take i).map acc) (rws:=bfR nx first i) hlt (H.len _ hG) hM (fun y hy=>hok y (H.gn _ hG y hy))
   (fun k=>by
    have:(nbS (bfS nx first i) ((nx (nth (bfS nx first i) (i:Int))).take k)).length<=B:=H.bound _ (nm (ke i)) fun x hx=>by
     rcases oz.1 hx with hx | hx
     ·exact iR H.g0 H.gn i x hx
     ·exact H.gn _ hG x (List.mem_of_mem_take hx)
    omega) (fun k hk=>h3 _ k hG hk)
  unfold bT
  rw[if_pos (by grind),ai e,<-ix hlt]
  rw[<-ix hlt] at hM'
  have hl2:=(bs (nx:=nx) (first:=first) i).length_le
  simp only
  rw[if_neg (by grind),aG (by omega) (by omega)];simp only[aa]
  rw[iU (bs i) (by omega) (by omega),h2 _ hG];simp only[aa]
  have hr:(bfR nx first i).length=i:=iS fun j hj=>hN.2 j (by omega)
  rw[aJ (by simp;omega)];rw[aJ (by simp;omega)];simp only[aa,af (show i<9223372036854775807 by omega)]
  exact ⟨_,rfl,M',by rw[sn hlt,vh hlt],hM'⟩) (by
  rintro s ⟨M,rfl,hM⟩
  unfold bT
  rw[if_neg (by have:=hN.1;grind)]) (s:=([first],[(first,0)],0,0,[],[])) ⟨_,rfl,MapOf.one first⟩ (fW (by omega))
 rw[ai e]
 rw[List.take_of_length_le (by have:=hN.1;omega)]
end
theorem SM {l:List Int} {x:Int} (h:l.length<=9223372036854775807):mR l x=some (if x∈l then (l.idxOf x:Int) else -1):=by
 unfold mR
 have ⟨o,e,hq⟩:=cj (f:=oo l x) (fun i s=>s=(i:Int)/\x∉l.take i) (fun o=>(x∈l/\o= .ret (l.idxOf x:Int))\/(x∉l/\ ∃s,o= .brk s)) l.length (s:=0) (by
  rintro i s hi ⟨rfl,hx⟩
  unfold oo
  by_cases hl:i<l.length
  ·rw[if_pos (by grind),aG (by omega) (by omega)];simp[aa]
   by_cases c:nth l (i:Int)=x
   ·refine .inr ⟨_,by rw[if_pos (by grind)],(fun s' e=>by cases e),.inl ?_⟩
    have e:l=l.take i++(x::l.drop (i+1)):=by
     grind[br,List.drop_eq_getElem_cons,List.take_append_drop]
    grind
   ·refine .inl ⟨hl,_,by rw[if_neg (by grind)],by grind[af],?_⟩
    rw[take_one hl,List.mem_append,List.mem_singleton]
    rintro (h | h)
    ·exact hx h
    ·exact c h.symm
  simp_all[if_neg,List.take_of_length_le]) ⟨rfl,by simp⟩ (fW h)
 rcases hq with ⟨hx,rfl⟩ | ⟨hx,s,rfl⟩
 ·rw[bM e,if_pos hx]
 ·rw[ai e,if_neg hx]
section
variable {a:AutT} {n:Nat} {c:List Int} {lv:List Bool} {nx:Int->List (Option Int)} {G:Int->Prop} {B:Nat} {acc:Int->Bool}
def good (n:Nat) (lv:List Bool) (r:Int):Prop:=0<=r/\r<n/\nth lv r=true
def rG (a:AutT) (c:List Int) (lv:List Bool) (r:Int):List (Option Int):=(List.range 9).map fun k=>if mv a r k≥0/\nth lv (mv a r k)=true then some (nth c (mv a r k)) else none
theorem Iu {r:Int} {k:Nat} (hk:k<9):nth (rG a c lv r) (k:Int)=if mv a r k≥0/\nth lv (mv a r k)=true then some (nth c (mv a r k)) else none:=by
 grind[rG,br]
def RepsOf (n:Nat) (lv:List Bool) (c:List Int) (rs l:List Int):Prop:=rs.length=l.length/\ ∀j:Nat,j<l.length->good n lv (nth rs j)/\nth c (nth rs j)=nth l (j:Int)
theorem RepsOf.snoc {rs l:List Int} (h:RepsOf n lv c rs l) {t:Int} (ht:good n lv t):RepsOf n lv c (rs++ [t]) (l++ [nth c t]):=by
 refine ⟨by simp[h.1],fun j hj=>?_⟩
 by_cases e:j<l.length
 ·rw[fS (by omega) (by have:=h.1;omega),fS (by omega) (by omega)];exact h.2 j e
 ·have h1:nth (rs++ [t]) (l.length:Int)=t:=by rw[br (by simp[h.1])];simp[<-h.1]
  grind[nth,br]
theorem NZ (V:VA a n) (hn:n<=1000000) (hc:c.length=n) (hlv:lv.length=n) {l rs:List Int} {acs:List Bool} {rws:List (List Int)} {i:Nat} (hi:i<l.length) (hR:RepsOf n lv c rs l) {os:List (Option Int)} (hos:os.length=9)
  (ho: ∀r,good n lv r->nth c r=nth l (i:Int)->rG a c lv r=os) (hB: ∀k,(nbS l (os.take k)).length<=1000000) :
  ∃rs',ax (gu a c lv (l,rs,(i:Int),0,acs,rws)) aR (l,rs,[],0)=some (.brk (nbS l os,rs',nbR l os,9))/\RepsOf n lv c rs' (nbS l os):=by
 obtain ⟨s',e,rs',rfl,hR'⟩:=a7 (f:=gu a c lv (l,rs,(i:Int),0,acs,rws)) (fun k s=> ∃rs',s=(nbS l (os.take k),rs',nbR l (os.take k),(k:Int))/\RepsOf n lv c rs' (nbS l (os.take k))) 9 (by
  rintro k s hk ⟨r1,rfl,hR1⟩
  have hpre:=iQ l (os.take k)
  have hlen:=hpre.length_le
  have hBk:=hB k
  have hrl:(nbR l (os.take k)).length<=9:=by rw[gJ,aF];omega
  have hr1:=hR1.1
  have ⟨⟨g0,g1,g2⟩,gc⟩:=hR1.2 i (by omega)
  rw[iU hpre (by omega) (by omega)] at gc
  have hsu:=ho _ ⟨g0,g1,g2⟩ gc
  have hok:nth os (k:Int)=if mv a (nth r1 (i:Int)) k≥0/\nth lv (mv a (nth r1 (i:Int)) k)=true then some (nth c (mv a (nth r1 (i:Int)) k)) else none:=by
   rw[<-hsu];exact Iu hk
  have hmv:=V.mv (s:=nth r1 (i:Int)) (k:=k) g0 g1 hk
  unfold gu
  simp only
  rw[if_pos (by grind),aG (xs:=r1) (by omega) (by omega)];simp only[aa]
  rw[V.get g0 g1];simp only[aa]
  rw[V.get2 g0 g1 hk,take_one (by omega),pN,si]
  simp only[aa,af (show k<9223372036854775807 by omega)]
  by_cases c1:mv a (nth r1 (i:Int)) k≥0
  ·rw[if_pos (by grind),aG (xs:=lv) c1 (by omega)];simp only[aa]
   by_cases c2:nth lv (mv a (nth r1 (i:Int)) k)=true
   ·rw[if_pos ⟨c1,c2⟩] at hok
    rw[if_pos c2,aG (xs:=c) c1 (by omega),hok];simp only[aa]
    rw[SM (by omega)];simp only[aa]
    by_cases c3:nth c (mv a (nth r1 (i:Int)) k)∈nbS l (os.take k)
    ·rw[if_pos c3,if_neg (by simp)];simp only[aa]
     rw[aJ (by grind)]
     exact ⟨_,rfl,r1,by rw[jC c3];rfl,by grind[jC]⟩
    ·rw[if_neg c3,if_pos (by decide)]
     rw[aJ (by grind)];rw[aJ (by grind)];simp only[aa]
     rw[aJ (by grind)];refine ⟨_,rfl,r1++ [mv a (nth r1 (i:Int)) k],?_,?_⟩
     ·grind[jD,nbI,o9]
     ·rw[jD c3];exact hR1.snoc ⟨c1,hmv.2,c2⟩
   ·rw[if_neg (fun h=>c2 h.2)] at hok
    rw[if_neg c2,hok];simp only[aa]
    rw[aJ (by grind)]
    exact ⟨_,rfl,r1,rfl,hR1⟩
  ·rw[if_neg (fun h=>c1 h.1)] at hok
   rw[if_neg (by grind),hok];simp only[aa]
   rw[aJ (by grind)]
   exact ⟨_,rfl,r1,rfl,hR1⟩) (by
  grind[gu]) (s:=(l,rs,[],0)) ⟨rs,rfl,hR⟩ (by unfold aR;omega)
 grind
theorem XT (V:VA a n) (hn:n<=1000000) (hc:c.length=n) (hlv:lv.length=n) (hs:nth lv a.1=true) (H:NumOk nx (nth c a.1) G B) (hB:B<=1000000)
  (hnx: ∀r,good n lv r->nx (nth c r)=rG a c lv r) (hacc: ∀r,good n lv r->acc (nth c r)=nth a.2.1 r) :
  ∃N,bfE nx (nth c a.1) N/\iG a c lv=some (0,(bfS nx (nth c a.1) N).map acc,bfR nx (nth c a.1) N):=by
 have ⟨N,hNB,hN⟩:=HW (nx:=nx) (first:=nth c a.1) (H.le)
 refine ⟨N,hN,?_⟩
 have hst:=V.start
 unfold iG
 rw[aG hst.1 (by omega)];simp[aa]
 rw[if_pos hs,aG hst.1 (by omega)];simp[aa]
 obtain ⟨s',e,rs,rfl,hR⟩:=a7 (f:=jt a c lv) (fun i s=> ∃rs,s=(bfS nx (nth c a.1) i,rs,(i:Int),0,((bfS nx (nth c a.1) i).take i).map acc,bfR nx (nth c a.1) i)/\RepsOf n lv c rs (bfS nx (nth c a.1) i)) N (by
  rintro i s hi ⟨rs,rfl,hR⟩
  have hlt:=hN.2 i hi
  have hG:=H.at hlt
  have ⟨rs',e,hR'⟩:=NZ (acs:=((bfS nx (nth c a.1) i).take i).map acc) (rws:=bfR nx (nth c a.1) i) V hn hc hlv hlt hR (os:=nx (nth (bfS nx (nth c a.1) i) (i:Int))) (H.len _ hG) (fun r hr e=>by grind) (fun k=>by
    have:(nbS (bfS nx (nth c a.1) i) ((nx (nth (bfS nx (nth c a.1) i) (i:Int))).take k)).length<=B:=H.bound _ (nm (ke i)) fun x hx=>by
     rcases oz.1 hx with hx | hx
     ·exact iR H.g0 H.gn i x hx
     ·exact H.gn _ hG x (List.mem_of_mem_take hx)
    omega)
  unfold jt
  simp only
  rw[if_pos (by grind),ai e]
  rw[<-ix hlt] at hR'
  have hl2:=(bs (nx:=nx) (first:=nth c a.1) i).length_le
  have hr1:=hR'.1
  have ⟨⟨g0,g1,g2⟩,gc⟩:=hR'.2 i (by omega)
  rw[iU (bs i) (by omega) (by omega)] at gc
  rw[aG (xs:=rs') (by omega) (by omega)];simp only[aa]
  rw[V.acc g0 g1,<-hacc _ ⟨g0,g1,g2⟩,gc];simp only[aa]
  have hr:(bfR nx (nth c a.1) i).length=i:=iS fun j hj=>hN.2 j (by omega)
  rw[aJ (by simp;omega)];rw[aJ (by simp;omega)];simp only[aa,af (show i<9223372036854775807 by omega)]
  exact ⟨_,rfl,rs',by rw[<-ix hlt,sn hlt,vh hlt],hR'⟩) (by
  rintro s ⟨rs,rfl,hR⟩
  unfold jt
  rw[if_neg (by have:=hN.1;grind)]) (s:=([nth c a.1],[a.1],0,0,[],[])) ⟨[a.1],rfl,rfl,fun j hj=>by
   obtain rfl:j=0:=by simpa [bfS] using hj
   exact ⟨⟨hst.1,hst.2,hs⟩,rfl⟩⟩ (fW (by omega))
 rw[ai e]
 rw[List.take_of_length_le (by have:=hN.1;omega)]
theorem GB (V:VA a n) (hlv:lv.length=n) (hs:nth lv a.1=false):iG a c lv=some nothing:=by
 have hst:=V.start
 simp_all[iG,aG,aa,NW]
end
end D
namespace D
open Go.RowKit
abbrev PosT:=(List Int)×Int×Int×(List Int)×Bool
abbrev zw (x:Int) (j:Nat):Bool:=(nw (nr x (j:Int)) 1)==1
def GC (F:List Int) (set m0:Int):Nat->Int
 | 0=>m0
 | i+1=>if zw set (i+1) then orI (GC F set m0 i) (nth F (i:Int)) else GC F set m0 i
def pick (L:List Int) (m letter:Int):Nat->Int
 | 0=>0
 | i+1=>if nth L (i:Int)=letter/\zw m i=true then orI (pick L m letter i) (wU 1 ((i+1:Nat):Int)) else pick L m letter i
def aft (p:PosT) (set letter:Int):Int:=pick p.1 (GC p.2.2.2.1 set (if (nw set 1)==1 then p.2.1 else 0) p.2.2.2.1.length) letter p.1.length
def kK (p:PosT) (set:Int):Bool:=if (nw set 1)==1 then (if p.2.2.2.2 then true else (nw (nr set 1) p.2.2.1) !=0) else (nw (nr set 1) p.2.2.1) !=0
theorem rH (i:Nat):chk (0<=(i:Int))=some ():=by rfl
theorem Vx {p:PosT} {set letter:Int} (hl:p.2.2.2.1.length=p.1.length) (hb:p.1.length<=1000000):nG p set letter=some (aft p set letter):=by
 have h0: ∀m0,ax (gZ p set) aR (m0,0)=some (.brk (GC p.2.2.2.1 set m0 p.1.length,(p.1.length:Int))):=fun m0 =>
  aP (f:=gZ p set) (fun i=>(GC p.2.2.2.1 set m0 i,(i:Int))) p.1.length (fun i hi=>by
   unfold gZ
   rw[if_pos (by grind),af (by omega),rH];rw[GC]
   by_cases c:zw set (i+1)=true
   ·simp_all[if_pos,aG]
   grind) (by unfold gZ;simp) (fW (by omega))
 have h1: ∀s7:Int×Int,ax (hY p letter s7) aR (0,0)=some (.brk (pick p.1 s7.1 letter p.1.length,(p.1.length:Int))):=fun s7 =>
  aP (f:=hY p letter s7) (fun i=>(pick p.1 s7.1 letter i,(i:Int))) p.1.length (fun i hi=>by
   unfold hY
   rw[if_pos (by grind),af (by omega),rH,rH];rw[pick]
   by_cases c:zw s7.1 i=true
   ·rw[if_pos c,aG (by omega) (by omega)];grind
   grind) (by unfold hY;simp) (fW (by omega))
 unfold nG aft
 by_cases c:((nw set 1)==1)=true
 ·simp_all[if_pos,aa,ai]
 simp_all[if_neg,aa,ai]
theorem Vy {p:PosT} {set letter:Int} (hl:p.2.2.2.1.length=p.1.length) (hb:p.1.length<=1000000):gg p set letter=some (aft p set letter):=by
 have h0: ∀m0,ax (c9 p set) aR (m0,0)=some (.brk (GC p.2.2.2.1 set m0 p.2.2.2.1.length,(p.2.2.2.1.length:Int))):=fun m0 =>
  aP (f:=c9 p set) (fun i=>(GC p.2.2.2.1 set m0 i,(i:Int))) p.2.2.2.1.length (fun i hi=>by
   unfold c9
   rw[if_pos (by grind),aG (by omega) (by omega)];rw[af (by omega),rH];rw[GC]
   grind) (by unfold c9;simp) (fW (by omega))
 have h1: ∀s7:Int×Int,ax (da p letter s7) aR (0,0)=some (.brk (pick p.1 s7.1 letter p.1.length,(p.1.length:Int))):=fun s7 =>
  aP (f:=da p letter s7) (fun i=>(pick p.1 s7.1 letter i,(i:Int))) p.1.length (fun i hi=>by
   unfold da
   rw[if_pos (by grind),aG (by omega) (by omega)];rw[af (by omega),rH,rH];rw[pick]
   grind) (by unfold da;simp) (fW (by omega))
 unfold gg aft
 by_cases c:((nw set 1)==1)=true
 ·simp_all[if_pos,aa,ai]
 simp_all[if_neg,aa,ai]
theorem XU (p:PosT) (x:Int):kP p x=some (kK p x):=by
 grind[kP,kK]
theorem XV (p:PosT) (x:Int):dA p x=some (kK p x):=by
 grind[dA,kK]
theorem JX (x:Int): -9223372036854775808<=i64.wrap x/\i64.wrap x<=9223372036854775807:=by
 simp[IntKind.wrap,IntKind.bits,IntKind.signed,Bool.true_and]
 grind
theorem Vz (x:Int):iOk (i64.wrap x)=true:=by
 have h1:i64.min= -9223372036854775808:=by decide
 simp_all[JX,iOk,Lit.wf,ah,decide_eq_true_eq]
theorem XW (m n:Int):iOk (orI m n)=true:=Vz _
theorem N1 (L:List Int) (m letter:Int): ∀i,iOk (pick L m letter i)=true
 | 0=>by rfl
 | i+1=>by
  rw[pick]
  split
  ·exact XW _ _
  ·exact N1 L m letter i
def nxS (p:PosT) (x:Int):List (Option Int):=(List.range 9).map fun k:Nat=>if aft p x (k:Int)=0 then none else some (aft p x (k:Int))
theorem N2 {p:PosT} {x:Int} {k:Nat} (hk:k<9):nth (nxS p x) (k:Int)=if aft p x k=0 then none else some (aft p x k):=by
 grind[nxS,br]
theorem wj (p:PosT) (x:Int):(nxS p x).length=9:=by simp[nxS]
theorem XX {p:PosT} {x y:Int} (h:some y∈nxS p x):iOk y=true:=by
 have ⟨k,hk,e⟩:=List.mem_map.1 h
 split at e
 ·cases e
 ·cases ae e
  exact N1 _ _ _ _
theorem N3 {κ:Type} [DecidableEq κ] : ∀(l:List κ) (os:List (Option κ)),(nbS l os).length<=l.length+os.length
 | l,[] =>by simp[nbS]
 | l,o::os=>by
  have h:=N3 (nbL l o) os
  have h2:(nbL l o).length<=l.length+1:=by
   cases o with
   | none=>simp[nbL]
   | some x=>grind[nbL]
  grind[nbS,nbL,aB]
section
variable {κ:Type} [DecidableEq κ] (nx:κ->List (Option κ)) (first:κ) (acc:κ->Bool) (most:Nat)
def goM:Nat->Nat->AutT×Bool
 | 0,i=>((0,[],[]),false)
 | f+1,i=>if i<(bfS nx first i).length then (if (bfS nx first (i+1)).length>most then ((0,[],[]),false) else goM f (i+1)) else ((0,((bfS nx first i).take i).map acc,bfR nx first i),true)
end
section
variable {κ:Type} [DecidableEq κ] {nx:κ->List (Option κ)} {first:κ} {acc:κ->Bool} {most:Nat}
theorem N4 {i:Nat} (h: ∀j,j<i->j<(bfS nx first j).length):i<=(bfS nx first i).length:=by
 cases i with
 | zero=>omega
 | succ i =>
  have h1:=h i (by omega)
  grind[bs]
theorem Iv {S:Type} {f:S->Option (Out (AutT×Bool) S)} (hm:most<=1000000) (h1:1<=most) (st:Nat->S->Prop)
  (hs: ∀i s,st i s->(∀j,j<i->j<(bfS nx first j).length)->(bfS nx first i).length<=most->i<(bfS nx first i).length->((bfS nx first (i+1)).length>most->f s=some (.ret ((0,[],[]),false)))/\((bfS nx first (i+1)).length<=most-> ∃s',f s=some (.nxt s')/\st (i+1) s'))
  (he: ∀i s,st i s-> ¬i<(bfS nx first i).length->f s=some (.brk s)) {s:S} (h0:st 0 s) :
  (ax f aR s=some (.ret ((0,[],[]),false))/\goM nx first acc most (most+2) 0=((0,[],[]),false)) \/
  ∃N s',ax f aR s=some (.brk s')/\st N s'/\bfE nx first N/\N<=most/\goM nx first acc most (most+2) 0=((0,(bfS nx first N).map acc,bfR nx first N),true):=by
 have ⟨o,e,hq⟩:=cj (f:=f) (fun i s=>st i s/\(∀j,j<i->j<(bfS nx first j).length)/\(bfS nx first i).length<=most/\goM nx first acc most (most+2) 0=goM nx first acc most (most+2 - i) i)
  (fun o=>(o= .ret ((0,[],[]),false)/\goM nx first acc most (most+2) 0=((0,[],[]),false))\/ ∃N s',o= .brk s'/\st N s'/\bfE nx first N/\N<=most/\goM nx first acc most (most+2) 0=((0,(bfS nx first N).map acc,bfR nx first N),true)) most (s:=s) (by
  rintro i s hi ⟨k1,k2,k3,k4⟩
  have hle:=N4 k2
  rw[show most+2 - i=(most+1 - i)+1 from by omega] at k4
  have k5:goM nx first acc most (most+1 - i+1) i=if i<(bfS nx first i).length then (if (bfS nx first (i+1)).length>most then ((0,[],[]),false) else goM nx first acc most (most+1 - i) (i+1)) else ((0,((bfS nx first i).take i).map acc,bfR nx first i),true):=rfl
  by_cases c:i<(bfS nx first i).length
  ·grind
  ·refine .inr ⟨_,he i s k1 c,(fun s' e=>by cases e),.inr ⟨i,s,rfl,k1,⟨by omega,k2⟩,hi,?_⟩⟩
   grind) ⟨h0,fun j hj=>by omega,by simp[bfS];omega,rfl⟩ (fW (by omega))
 grind
end
section
variable {p:PosT} {most:Nat} (hl:p.2.2.2.1.length=p.1.length) (hb:p.1.length<=1000000) (hm:most<=900000) (h1:1<=most)
include hl hb hm h1
theorem ZE:ig p most=some (goM (nxS p) 1 (kK p) most (most+2) 0):=by
 have hp3: ∀(l:List Int) (i k:Nat),k<9-> ∃j,(fun a0 a1=>dh a0 a1 (p.1,p.2.1,p.2.2.1,p.2.2.2.1,p.2.2.2.2)) (nth l (i:Int)) (k:Int)=some (match nth (nxS p (nth l (i:Int))) (k:Int) with | some y=>(y,true) | none=>(j,false)):=by
  intro l i k hk
  refine ⟨0,?_⟩
  show dh _ _ p=_
  unfold dh
  rw[Vy hl hb,N2 hk];by_cases c:aft p (nth l (i:Int)) k=0
  ·grind
  ·grind
 unfold ig eR
 rw[show E3 ([] :List (Int×Int)) iOk iOk 1 0=some [(1,0)] from by rfl];simp[aa]
 rcases Iv (nx:=nxS p) (first:=1) (acc:=kK p) (most:=most) (f:=bT most (fun a0=>dA (p.1,p.2.1,p.2.2.1,p.2.2.2.1,p.2.2.2.2) a0) (fun a0 a1=>dh a0 a1 (p.1,p.2.1,p.2.2.1,p.2.2.2.1,p.2.2.2.2)))
  (by omega) h1 (fun i s=> ∃M,s=(bfS (nxS p) 1 i,M,(i:Int),0,((bfS (nxS p) 1 i).take i).map (kK p),bfR (nxS p) 1 i)/\MapOf M (bfS (nxS p) 1 i)) (by
   rintro i s ⟨M,rfl,hM⟩ hj hle hlt
   have ⟨M',e,hM'⟩:=ED (p3:=fun a0 a1=>dh a0 a1 (p.1,p.2.1,p.2.2.1,p.2.2.2.1,p.2.2.2.2)) (l:=bfS (nxS p) 1 i) (M:=M) (os:=nxS p (nth (bfS (nxS p) 1 i) (i:Int))) (acs:=((bfS (nxS p) 1 i).take i).map (kK p)) (rws:=bfR (nxS p) 1 i) hlt (wj _ _) hM (fun y hy=>XX hy)
    (fun k=>by
     grind[N3,bfS,nxS,nth,wj,aF]) (fun k hk=>hp3 _ i k hk)
   rw[<-ix hlt] at hM'
   have hl2:=(bs (nx:=nxS p) (first:=1) i).length_le
   constructor
   ·simp_all[bT,if_pos,ai,ix]
   ·intro hle2
    unfold bT
    rw[if_pos (by grind),ai e,<-ix hlt]
    simp only
    rw[if_neg (by grind),aG (by omega) (by omega)];simp only[aa]
    rw[iU (bs i) (by omega) (by omega)]
    rw[XV];simp only[aa]
    have hr:=iS hj
    rw[aJ (by simp;omega)];rw[aJ (by simp;omega)];simp only[aa,af (show i<9223372036854775807 by omega)]
    exact ⟨_,rfl,M',by rw[sn hlt,vh hlt],hM'⟩) (by
   rintro i s ⟨M,rfl,hM⟩ hn
   simp_all[bT,if_neg]) (s:=([1],[(1,0)],0,0,[],[])) ⟨_,rfl,MapOf.one 1⟩ with ⟨e,hg⟩ | ⟨N,s',e,⟨M,rfl,hM⟩,hN,hNm,hg⟩
 ·grind[bM]
 ·rw[ai e,hg];simp only[aa]
  rw[List.take_of_length_le (by have:=hN.1;omega)]
theorem Ro {l:List Int} {acs:List Bool} {rws:List (List Int)} {i:Nat} (hi:i<l.length) (hle:l.length<=most) :
  ax (iF p (l,(i:Int),0,acs,rws)) aR (l,[],0)=some (.brk (nbS l (nxS p (nth l (i:Int))),nbR l (nxS p (nth l (i:Int))),9)):=by
 have h9:=wj p (nth l (i:Int))
 have:=aP (f:=iF p (l,(i:Int),0,acs,rws)) (fun k=>(nbS l ((nxS p (nth l (i:Int))).take k),nbR l ((nxS p (nth l (i:Int))).take k),(k:Int))) 9 (fun k hk=>by
  have hpre:=iQ l ((nxS p (nth l (i:Int))).take k)
  have hlen:=hpre.length_le
  have hB:=N3 l ((nxS p (nth l (i:Int))).take k)
  rw[aF] at hB
  have hrl:(nbR l ((nxS p (nth l (i:Int))).take k)).length<=9:=by rw[gJ,aF];omega
  unfold iF
  simp only[jB]
  rw[if_pos (by grind),aG (by omega) (by omega)];simp only[aa]
  rw[iU hpre (by omega) (by omega),Vx hl hb];simp only[aa]
  rw[take_one (by omega),pN,si,N2 hk]
  simp only[af (show k<9223372036854775807 by omega)]
  by_cases c:aft p (nth l (i:Int)) k=0
  ·rw[if_pos c,if_neg (by simp[c])];simp[aa]
   rw[aJ (by grind)];rfl
  ·rw[if_neg c,if_pos (by grind),SM (by omega)];simp[aa]
   by_cases d:aft p (nth l (i:Int)) k∈nbS l ((nxS p (nth l (i:Int))).take k)
   ·rw[if_pos d,if_neg (by simp),jC d];simp[aa]
    rw[aJ (by grind)];rfl
   ·rw[if_neg d,if_pos (by decide),aJ (by grind),jD d];simp[aa]
    rw[aJ (by simp;omega)];simp[nbI,o9 d,aa]) (by
  rfl) (by unfold aR;omega)
 exact this
theorem XY:gG p most=some (goM (nxS p) 1 (kK p) most (most+2) 0):=by
 unfold gG
 rcases Iv (nx:=nxS p) (first:=1) (acc:=kK p) (most:=most) (f:=fG p most)
  (by omega) h1 (fun i s=>s=(bfS (nxS p) 1 i,(i:Int),0,((bfS (nxS p) 1 i).take i).map (kK p),bfR (nxS p) 1 i)) (by
   rintro i s rfl hj hle hlt
   have e:=Ro hl hb hm h1 (acs:=((bfS (nxS p) 1 i).take i).map (kK p)) (rws:=bfR (nxS p) 1 i) hlt hle
   have hl2:=(bs (nx:=nxS p) (first:=1) i).length_le
   constructor
   ·simp_all[fG,if_pos,ai,ix]
   ·intro hle2
    unfold fG
    rw[if_pos (by grind),ai e,<-ix hlt]
    simp only
    rw[if_neg (by grind),aG (by omega) (by omega)];simp only[aa]
    rw[iU (bs i) (by omega) (by omega)]
    rw[XU];simp only[aa]
    have hr:=iS hj
    rw[aJ (by simp;omega)];rw[aJ (by simp;omega)];simp only[aa,af (show i<9223372036854775807 by omega)]
    exact ⟨_,rfl,by rw[sn hlt,vh hlt]⟩) (by
   simp_all[fG,if_neg]) (s:=([1],0,0,[],[])) rfl with ⟨e,hg⟩ | ⟨N,s',e,rfl,hN,hNm,hg⟩
 ·rw[bM e,hg]
 ·rw[ai e,hg];rw[List.take_of_length_le (by have:=hN.1;omega)]
end
end D
namespace D
open Go.RowKit
theorem Rp (m n:Int):orI m n=orI n m:=by unfold orI;rw[BitVec.or_comm]
def lk (F:List Int) (from_ to_:Int):Nat->List Int
 | 0=>F
 | i+1=>if zw from_ i then (lk F from_ to_ i).set i (orI (nth (lk F from_ to_ i) (i:Int)) to_) else lk F from_ to_ i
theorem sU (F:List Int) (f t:Int): ∀i,(lk F f t i).length=F.length
 | 0=>rfl
 | i+1=>by
  rw[lk]
  split
  ·rw[List.length_set,sU]
  ·exact sU F f t i
theorem Iw {p:PosT} {f t:Int} (hl:p.2.2.2.1.length<=1000000):mQ p f t=some (p.1,p.2.1,p.2.2.1,lk p.2.2.2.1 f t p.2.2.2.1.length,p.2.2.2.2):=by
 have hL:ax (jh f t) aR (0,p.2.2.2.1)=some (.brk ((p.2.2.2.1.length:Int),lk p.2.2.2.1 f t p.2.2.2.1.length)):=aP (f:=jh f t) (fun i=>((i:Int),lk p.2.2.2.1 f t i)) p.2.2.2.1.length (fun i hi=>by
  have hk:=sU p.2.2.2.1 f t i
  unfold jh
  rw[if_pos (by grind),rH];rw[lk,af (by omega)]
  by_cases c:zw f i=true
  ·simp_all[if_pos,aG,aa,Int.toNat_natCast]
  grind) (by unfold jh;simp[sU]) (fW (by omega))
 grind[mQ,ai]
theorem Ix {p:PosT} {f t:Int} (hl:p.2.2.2.1.length<=1000000):dP p f t=some (p.1,p.2.1,p.2.2.1,lk p.2.2.2.1 f t p.2.2.2.1.length,p.2.2.2.2):=by
 have hL:ax (cK p f t) aR (0,p.2.2.2.1)=some (.brk ((p.2.2.2.1.length:Int),lk p.2.2.2.1 f t p.2.2.2.1.length)):=aP (f:=cK p f t) (fun i=>((i:Int),lk p.2.2.2.1 f t i)) p.2.2.2.1.length (fun i hi=>by
  have hk:=sU p.2.2.2.1 f t i
  unfold cK
  rw[if_pos (by grind),rH];rw[lk,af (by omega)]
  by_cases c:zw f i=true
  ·simp_all[if_pos,aG,aa,Int.toNat_natCast]
  grind) (by unfold cK;simp) (fW (by omega))
 grind[dP,ai]
def BOk (x:Tr Tok):Prop:= ∀(n m:Nat) (p:PosT),(flat x).length<=n->(flat x).length<=m->p.2.2.2.1.length=p.1.length->p.1.length+(flat x).length<=100000->
 ∃(nu:Bool) (fi la:Int) (q:PosT),bR n p (flat x)=some ((nu,fi,la),q)/\be m p x=some ((fi,la,nu),q)/\q.2.2.2.1.length=q.1.length/\q.1.length<=p.1.length+(flat x).length
theorem Rq {x:Tr Tok} (h:WT x):BOk x:=by
 refine WT.ind (p:=BOk) ?_ ?_ ?_ h
 ·intro t e n m p hn hm hF hl
  rw[rv] at hn hm hl⊢
  simp only[aB,aA] at hl
  match n,m,hn,hm with
  | n+1,m+1,_,_ =>
   rw[bR,be];simp only[jo,aa]
   have:=(eH (A:=[]) (t:=t) (by simp)).1
   rw[List.nil_append] at this
   rw[this];simp only[aa,jB]
   rcases dY (show 0<=ar t by omega) with ⟨k,_⟩ | ⟨k,_⟩ | ⟨_,k⟩
   ·omega
   ·omega
   rcases k with k | k | k
   ·exact ⟨false,0,0,p,by simp[k],by simp[k],hF,by simp⟩
   ·exact ⟨true,0,0,p,by simp[k],by simp[k],hF,by simp⟩
   ·refine ⟨false,wU 1 (p.1.length:Int),wU 1 (p.1.length:Int),(p.1++ [t.2.1],p.2.1,p.2.2.1,p.2.2.2.1++ [0],p.2.2.2.2),?_,?_,by grind,by simp⟩
    ·rw[if_neg (by simp[k]),if_pos (by simp[k]),aJ (by grind)];simp only[aa]
     rw[aJ (by simp;omega)];rfl
    ·rw[if_neg (by simp[k]),if_pos (by simp[k]),aJ (by grind)];simp only[aa]
     rw[aJ (by simp;omega)];rfl
 ·intro t a e wa ih n m p hn hm hF hl
  rw[pb] at hn hm hl⊢
  simp only[al,aB,aA] at hn hm hl
  match n,m,hn,hm with
  | n+1,m+1,hn,hm =>
   rw[bR,be];simp only[jo,aa,jB]
   obtain ⟨l1,l2⟩:=eH (A:=flat a) (t:=t) (by omega)
   rw[l1];simp only[aa]
   obtain ⟨nu,fi,la,q,hs,hi,hq1,hq2⟩:=ih n m p (by omega) (by omega) hF (by omega)
   rcases Ep e with ⟨k1,k2⟩ | ⟨k1,k2,k3⟩
   ·have g2:(t.1==2)=false:=by simp[k2]
    have g3:(t.1==3)=false:=by simp[k2]
    have g4:(t.1==4)=false:=by simp[k2]
    have g5:(t.1==5)=false:=by simp[k2]
    simp only[g2,g3,g4,g5,k1,Bool.false_eq_true,if_false,if_true]
    rw[l2,Int.toNat_natCast,List.take_left,dZ (by grind)];simp only[aa]
    rw[hs,show aK [a] 0=some a from rfl];simp only[aa]
    rw[hi];simp only[aa,jB]
    rw[Iw (by omega),Ix (by omega)];simp only[aa]
    refine ⟨true,fi,la,_,rfl,rfl,?_,?_⟩
    ·simp only[sU];exact hq1
    ·simp only[al,aB,aA];omega
   grind
 ·intro t a b e wa wb iha ihb n m p hn hm hF hl
  rw[kl] at hn hm hl⊢
  have hl2:((flat a++flat b)++ [t]).length<=1000000:=by omega
  obtain ⟨p1,p2,p3,p4⟩:=pc (a:=a) (t:=t) wb hl2
  simp only[al,aB,aA] at hn hm hl
  match n,m,hn,hm with
  | n+1,m+1,hn,hm =>
   have hpa:=wa.pos
   have hpb:=wb.pos
   rw[bR,be];simp only[jo,aa,jB]
   obtain ⟨l1,l2⟩:=eH (A:=flat a++flat b) (t:=t) (by grind)
   rw[l1];simp only[aa]
   obtain ⟨nu,fi,la,q,hs,hi,hq1,hq2⟩:=iha n m p (by omega) (by omega) hF (by omega)
   obtain ⟨nu2,fi2,la2,q2,hs2,hi2,hq3,hq4⟩:=ihb n m q (by omega) (by omega) hq1 (by omega)
   have c1: ∀r:Int,0<=r->r<=((flat a++flat b++ [t]).length:Int)->chk (0<=r/\r<=((flat a++flat b++ [t]).length:Int))=some ():=fun r h1 h2=>dZ ⟨h1,h2⟩
   have g0:aK [a,b] 0=some a:=rfl
   have g1:aK [a,b] 1=some b:=rfl
   rcases dY (show 0<=ar t by omega) with ⟨_,k⟩ | ⟨k,_⟩ | ⟨k,_⟩
   ·rcases k with k | k
    ·have g2:(t.1==2)=false:=by simp[k]
     have g3:(t.1==3)=false:=by simp[k]
     have g4:(t.1==4)=true:=by simp[k]
     have g5:(t.1==5)=false:=by simp[k]
     simp only[g2,g3,g4,g5,Bool.false_eq_true,if_false,if_true]
     rw[l2,p1,p2,dZ (by grind)];simp only[aa]
     rw[dZ (by grind),p3,p4,hs,g0,g1];simp only[aa]
     rw[hi,dZ (by grind)];simp only[aa,jB]
     rw[hs2,hi2];simp only[aa,jB]
     rw[Iw (by omega),Ix (by omega)];simp only[aa]
     refine ⟨nu&&nu2,if nu then orI fi fi2 else fi,if nu2 then orI la la2 else la2,(q2.1,q2.2.1,q2.2.2.1,lk q2.2.2.2.1 la fi2 q2.2.2.2.1.length,q2.2.2.2.2),?_,?_,?_,?_⟩
     ·cases nu <;> cases nu2 <;> rfl
     ·rw[Rp la la2]
      cases nu <;> cases nu2 <;> rfl
     ·grind[sU]
     grind
    ·have g2:(t.1==2)=false:=by simp[k]
     have g3:(t.1==3)=false:=by simp[k]
     have g4:(t.1==4)=false:=by simp[k]
     have g5:(t.1==5)=true:=by simp[k]
     simp only[g2,g3,g4,g5,Bool.false_eq_true,if_false,if_true]
     rw[l2,p1,p2,dZ (by grind)];simp only[aa]
     rw[dZ (by grind),p3,p4,hs,g0,g1];simp only[aa]
     rw[hi,dZ (by grind)];simp only[aa,jB]
     rw[hs2,hi2];simp only[aa,jB]
     refine ⟨nu || nu2,orI fi fi2,orI la la2,q2,?_,?_,hq3,?_⟩
     ·cases nu <;> simp
     ·cases nu <;> simp
     grind
   ·omega
   ·omega
def CY (e:List Tok):Nat->Nat
 | 0=>0
 | i+1=>if (nth e (i:Int)).1=3 then CY e i+1 else CY e i
theorem GD (e:List Tok): ∀i,CY e i<=i
 | 0=>ay _
 | i+1=>by
  have:=GD e i
  grind[CY]
theorem XZ {r:List Tok×Bool} (hl:r.1.length<=1000000):ax (dw r) aR (0,0)=some (.brk ((CY r.1 r.1.length:Int),(r.1.length:Int))):=
 aP (f:=dw r) (fun i=>((CY r.1 i:Int),(i:Int))) r.1.length (fun i hi=>by
  have:=GD r.1 i
  unfold dw
  rw[if_pos (by grind),aG (by omega) (by omega)];rw[CY,af (show i<9223372036854775807 by omega),af (show CY r.1 i<9223372036854775807 by omega)]
  grind) (by unfold dw;simp) (fW (by omega))
theorem ZF {r:List Tok×Bool} (hl:r.1.length<=1000000):ax (dz r) aR (0,0)=some (.brk ((CY r.1 r.1.length:Int),(r.1.length:Int))):=
 aP (f:=dz r) (fun i=>((CY r.1 i:Int),(i:Int))) r.1.length (fun i hi=>by
  have:=GD r.1 i
  unfold dz
  rw[if_pos (by grind),aG (by omega) (by omega)];rw[CY,af (show i<9223372036854775807 by omega),af (show CY r.1 i<9223372036854775807 by omega)]
  grind) (by unfold dz;simp) (fW (by omega))
theorem np {e:List Tok} (he:e.length<=1048576): ∃r:PosT×Bool,dJ e=some r/\gO e=some r/\r.1.2.2.2.1.length=r.1.1.length/\r.1.1.length<=100000:=by
 have hF:=fU
 have ⟨e1,e2⟩:=zg he
 unfold dJ gO
 rw[e1,e2];simp only[aa]
 by_cases c:(CA e).2=true
 ·have ⟨y,wy,ey,ly⟩:=Ve c
  rw[if_pos c,if_pos c,ai (XZ (by grind)),ai (ZF (by grind))]
  by_cases d:(CY (CA e).1 (CA e).1.length:Int)>20
  ·simp_all
  ·have d':=decide_eq_false d
   simp only[d',Bool.false_eq_true,if_false]
   rw[ey,pO (by omega),fT wy];simp only[aa]
   have ⟨nu,fi,la,q,hs,hi,hq1,hq2⟩:=Rq wy bP bP ([],0,0,[],false) (by omega) (by omega) rfl (by grind)
   rw[hs,hi];simp[aa]
   grind
 simp_all
end D
namespace D
open Go.RowKit
theorem JY (n:Nat) (l:List Int) (hd:l.Nodup) (h: ∀x∈l,0<=x/\x<n):l.length<=n:=by
 have:=hd.length_le_of_subset (l₂:=(List.range n).map Int.ofNat) (fun x hx=>by
  obtain ⟨h0,h1⟩:=h x hx
  exact List.mem_map.2 ⟨x.toNat,List.mem_range.2 (by omega),by show ((x.toNat:Nat):Int)=x;omega⟩)
 simpa using this
theorem X0 {n:Nat} {x:Int} (hn:n<=1000000) (h0:0<=x) (h1:x<n):iOk x=true:=by
 have:=NY (n:=x.toNat) (by omega)
 rwa [show ((x.toNat:Nat):Int)=x from by omega] at this
theorem X1 {κ:Type} [DecidableEq κ] {nx:κ->List (Option κ)} {first:κ} {G:κ->Prop} {B N:Nat} {acc:κ->Bool} (H:NumOk nx first G B) (hB:B<=1000000) (hN:bfE nx first N):Data.sm ((0,(bfS nx first N).map acc,bfR nx first N):AutT):=by
 have hl:=H.bound _ (ke (nx:=nx) (first:=first) N) (iR H.g0 H.gn N)
 refine ⟨trivial,⟨by rw[List.length_map];omega,fun _ _=>trivial⟩,?_,?_⟩
 ·rw[iS hN.2];have:=hN.1;omega
 ·have key: ∀i,i<=N-> ∀r∈bfR nx first i,r.length=9:=by
   intro i
   induction i with
   | zero=>intro _ r hr;cases hr
   | succ i ih =>
    intro hi r hr
    have hlt:=hN.2 i (by omega)
    rw[sj hlt] at hr
    rcases aH hr with hr | hr
    ·exact ih (by omega) r hr
    ·obtain rfl:=ak hr
     rw[gJ,H.len _ (iR H.g0 H.gn i _ (List.getElem_mem hlt))]
  intro r hr
  exact ⟨by rw[key N (ay _) r hr];decide,fun _ _=>trivial⟩
theorem JZ:Data.sm nothing:=⟨trivial,⟨by decide,fun _ _=>trivial⟩,by decide,fun r hr=>by
 obtain rfl:=ak hr
 exact ⟨by decide,fun _ _=>trivial⟩⟩
end D
namespace D
open Go.RowKit
theorem Bd {κ:Type} [DecidableEq κ] {l m:List κ} (h:l <+:m) {y:κ} (hy:y∈l):(m.idxOf y:Int)=l.idxOf y:=by
 obtain ⟨t,rfl⟩:=h
 grind
theorem N5 {κ:Type} [DecidableEq κ] : ∀(l:List κ) (os:List (Option κ)) (i:Nat),i<os.length->nth (nbR l os) (i:Int)=nbI (nbS l os) (nth os (i:Int))
 | l,o::os,0,_=>by
  show nbI l o=nbI (nbS (nbL l o) os) o
  cases o with
  | none=>rfl
  | some y =>
   have hm:y∈nbL l (some y):=Nb.2 (.inr rfl)
   simp[nbI]
   rw[Bd (iQ _ os) hm]
   by_cases c:y∈l
   ·rw[jC c]
   simp_all[jD,List.idxOf_append,if_neg,o9]
 | l,o::os,i+1,h=>by
  have h':i<os.length:=by simpa using h
  have ih:=N5 (nbL l o) os i h'
  have e1:nth (nbR l (o::os)) ((i+1:Nat):Int)=nth (nbR (nbL l o) os) (i:Int):=by
   rfl
  have e2:nth (o::os) ((i+1:Nat):Int)=nth os (i:Int):=by rfl
  exact ih
theorem oA {κ:Type} [DecidableEq κ] {l:List κ} {y:κ} (h:y∈l): ∃(q:Nat) (hq:q<l.length),nbI l (some y)=(q:Int)/\l[q] =y:=
 ⟨l.idxOf y,List.idxOf_lt_length_of_mem h,rfl,by simp⟩
theorem CM {κ:Type} [DecidableEq κ] {l:List κ} {y:κ} (h:y∉l):nbI l (some y)=(l.length:Int):=by simp[nbI,o9 h]
def SN:List Int->Nat->Nat->Prop
 | [],c,m=>c=m
 | x::xs,c,m=>(x= -1/\SN xs c m)\/(0<=x/\x<c/\SN xs c m)\/(x=c/\SN xs (c+1) m)
theorem CN {κ:Type} [DecidableEq κ] : ∀(os:List (Option κ)) (l:List κ),SN (nbR l os) l.length (nbS l os).length
 | [],l=>rfl
 | none::os,l=>.inl ⟨rfl,CN os l⟩
 | some y::os,l=>by
  by_cases c:y∈l
  ·refine .inr (.inl ⟨Int.natCast_nonneg _,?_,?_⟩)
   ·grind[List.idxOf_lt_length_of_mem,nbI]
   ·show SN (nbR (nbL l (some y)) os) l.length (nbS (nbL l (some y)) os).length
    rw[jC c];exact CN os l
  ·refine .inr (.inr ⟨by simp[nbI,o9 c],?_⟩)
   show SN (nbR (nbL l (some y)) os) (l.length+1) (nbS (nbL l (some y)) os).length
   have:=CN os (l++ [y])
   grind[jD]
def YQ:List Int->List (Option (List Int))->Prop
 | [],[] =>True
 | x::xs,o::os=>((x<0/\o=none)\/(0<=x/\ ∃t,o=some (x::t)))/\YQ xs os
 | _,_=>False
theorem N6: ∀(xs:List Int) (os:List (Option (List Int))),xs.length=os.length->(∀i (h:i<xs.length) (h':i<os.length),(xs[i] < 0/\os[i] =none)\/(0<=xs[i] /\ ∃t,os[i] =some (xs[i] ::t)))->YQ xs os
 | [],[],_,_=>trivial
 | x::xs,o::os,hl,h=>⟨h 0 (by simp) (by simp),N6 xs os (by grind) fun i h1 h2=>h (i+1) (by grind) (by grind)⟩
theorem nq: ∀(xs:List Int) (os:List (Option (List Int))) (l:List (List Int)) (c m:Nat),YQ xs os->SN xs c m->(∀y∈l,∃h t,y=h::t/\h<c)->
  m+l.length<=(nbS l os).length+c/\(l.length=c->(∀(q:Nat) (hq:q<l.length),∃t,l[q] =(q:Int)::t)->(nbS l os).length=m->nbR l os=xs)
 | [],[],l,c,m,_,hn,_=>by
  subst hn
  exact ⟨by simp[nbS];omega,fun _ _ _=>rfl⟩
 | x::xs,o::os,l,c,m,hr,hn,hh=>by
  have ⟨hr1,hr2⟩:=hr
  rcases hn with ⟨rfl,hn⟩ | ⟨hx0,hxc,hn⟩ | ⟨rfl,hn⟩
  ·have ho:o=none:=by
    rcases hr1 with ⟨-,h⟩ | ⟨h,-⟩
    ·exact h
    ·omega
   subst ho
   have ⟨i1,i2⟩:=nq xs os l c m hr2 hn hh
   exact ⟨i1,fun h1 h2 h3=>by show -1::nbR l os=_;rw[i2 h1 h2 h3]⟩
  ·obtain ⟨t,rfl⟩: ∃t,o=some (x::t):=by
    grind
   by_cases k:(x::t)∈l
   ·have ⟨i1,i2⟩:=nq xs os l c m hr2 hn hh
    grind[nbL,jC,nbS,oA,nbI,nbR]
   ·have ⟨i1,i2⟩:=nq xs os (l++ [x::t]) c m hr2 hn (fun y hy=>by
     grind)
    grind[al,List.length_singleton,nbS,nbL]
  ·obtain ⟨t,rfl⟩: ∃t,o=some ((c:Int)::t):=by
    grind
   have k:((c:Int)::t)∉l:=fun k=>by
    grind
   have hb:=jD k
   have ⟨i1,i2⟩:=nq xs os (l++ [(c:Int)::t]) (c+1) m hr2 hn (fun y hy=>by
    grind)
   have hlen:(l++ [(c:Int)::t]).length=l.length+1:=by simp
   refine ⟨by grind[nbS,nbL],fun h1 h2 h3=>?_⟩
   have h3:(nbS (nbL l (some ((c:Int)::t))) os).length=m:=h3
   rw[hb] at h3
   have:=i2 (by omega) (fun q hq=>by
    by_cases e:q<l.length
    ·grind
    grind) h3
   grind[nbI,nbR,nbL,CM]
theorem N8 (xs ys:List Int) (hN:xs.length<=1048576): ∃r,qN xs ys=some r/\(r=0↔xs=ys):=by
 unfold qN
 have h0:=Xn (f:=nH xs ys) xs ys (fun i h h'=>by
  simp[nH,fg h,fg h',if_true,aZ h,aZ h',aa,af (show i<9223372036854775807 by omega)]
  grind) (fun i hi=>by
  grind[nH]) xs.length 0 aR (by omega) (o8 _ (by omega))
 rw[show (((0:Nat):Int))=(0:Int) from rfl] at h0
 rcases h0 with ⟨r,e,h1,h2⟩ | ⟨s,e,h1⟩
 ·exact ⟨r,by rw[e];rfl,by grind⟩
 ·simp[aO]
  by_cases c1:xs.length<ys.length
  ·exact ⟨-1,by grind,by grind⟩
  ·by_cases c2:xs.length>ys.length
   ·exact ⟨1,by grind,by grind⟩
   ·exact ⟨0,by grind,by grind⟩
theorem N9 (xs ys:List Int) (hN:xs.length<=9223372036854775807):eJ xs ys=some (decide (xs=ys)):=
 eqL (f:=cg xs ys) xs ys hN (fun i h h'=>by
  simp[cg,fg h,if_true,aZ h,aZ h',aa,af (show i<9223372036854775807 by omega)]
  grind) (by simp only[cg,eN];rfl)
def SO (a:AutT):List Int:=(List.range a.2.1.length).map fun s:Nat=>if nth (live a) (s:Int)=true then (if nth a.2.1 (s:Int)=true then 1 else 0) else -1
def ent (a:AutT) (c:List Int) (s:Int) (k:Nat):Int:=if mv a s k<0 then -1 else nth c (mv a s k)
def CZ (a:AutT) (c:List Int) (s:Int):List Int:=nth c s::(List.range 9).map fun k=>ent a c s k
def C1 (a:AutT) (c:List Int) (s:Nat):Option (List Int):=if nth c (s:Int)<0 then none else some (CZ a c s)
def keys (a:AutT) (c:List Int):List (Option (List Int)):=(List.range a.2.1.length).map (C1 a c)
def Be (a:AutT) (c:List Int):List Int:=nbR [] (keys a c)
def zM (a:AutT) (c:List Int):Nat:=(nbS [] (keys a c)).length
def cI (a:AutT):Nat->List Int
 | 0=>SO a
 | j+1=>Be a (cI a j)
section
variable {a:AutT} {n:Nat}
theorem eE (a:AutT) (c:List Int):(keys a c).length=a.2.1.length:=by simp[keys]
theorem GE {c:List Int} {s:Nat} (h:s<a.2.1.length):nth (keys a c) (s:Int)=C1 a c s:=by
 grind[br,keys]
theorem zx (a:AutT) (c:List Int):(Be a c).length=a.2.1.length:=by rw[Be,gJ,eE]
theorem pf (a:AutT): ∀j,(cI a j).length=a.2.1.length
 | 0=>by simp[cI,SO]
 | j+1=>zx a _
theorem pR {κ:Type} [DecidableEq κ] : ∀(l:List κ) (os:List (Option κ)),(nbS l os).length<=l.length+os.length
 | l,[] =>by simp[nbS]
 | l,o::os=>by
  have h:=pR (nbL l o) os
  have:(nbL l o).length<=l.length+1:=by
   cases o with
   | none=>simp[nbL]
   | some x=>grind[nbL]
  grind[nbS,nbL,aB]
theorem GF (a:AutT) (c:List Int):zM a c<=a.2.1.length:=by
 grind[pR,keys,eE,zM]
theorem CO {c:List Int} {s:Nat} (h:s<a.2.1.length):nth (Be a c) (s:Int)=nbI (nbS [] (keys a c)) (C1 a c s):=by
 grind[Be,N5,eE,GE]
theorem zy {c:List Int} {s:Nat} (h:s<a.2.1.length) (hc: ¬nth c (s:Int)<0):CZ a c s∈nbS [] (keys a c):=by
 refine oz.2 (.inr ?_)
 refine List.mem_map.2 ⟨s,List.mem_range.2 h,?_⟩
 unfold C1;grind
theorem xC {c:List Int} {s:Nat} (h:s<a.2.1.length):(nth (Be a c) (s:Int)<0↔nth c (s:Int)<0)/\(nth (Be a c) (s:Int)<0->nth (Be a c) (s:Int)= -1):=by
 rw[CO h]
 unfold C1
 by_cases hc:nth c (s:Int)<0
 ·simp_all[if_pos,nbI]
 ·grind[oA,zy,absurd]
theorem VB {c:List Int} {s:Nat} (h:s<a.2.1.length):nth (Be a c) (s:Int)<(a.2.1.length:Int):=by
 rw[CO h]
 unfold C1
 by_cases hc:nth c (s:Int)<0
 ·grind[nbI]
 ·obtain ⟨q,hq,e,-⟩:=oA (zy h hc)
  have:=GF a c
  grind[zM]
theorem Oa {c:List Int} {s t:Nat} (hs:s<a.2.1.length) (ht:t<a.2.1.length) (h0:0<=nth (Be a c) (s:Int)) (h:nth (Be a c) (s:Int)=nth (Be a c) (t:Int)):CZ a c s=CZ a c t:=by
 have n1: ¬nth c (s:Int)<0:=fun k=>by have:=(xC hs).1.2 k;omega
 have n2: ¬nth c (t:Int)<0:=fun k=>by simp_all[xC]
 rw[CO hs,CO ht] at h
 unfold C1 at h
 have ⟨q,hq,e1,e2⟩:=oA (zy hs n1)
 have ⟨q',hq',e1',e2'⟩:=oA (zy ht n2)
 grind
theorem Bf (a:AutT) {s:Nat} (h:s<a.2.1.length): ∀j,(nth (cI a j) (s:Int)<0↔nth (live a) (s:Int)=false)/\(nth (cI a j) (s:Int)<0->nth (cI a j) (s:Int)= -1)
 | 0=>by
  grind[nth,cI,live,SO,br]
 | j+1=>by
  have ih:=Bf a h j
  grind[xC,cI,trans]
theorem SP (a:AutT) {s t:Nat} (hs:s<a.2.1.length) (ht:t<a.2.1.length): ∀j,0<=nth (cI a j) (s:Int)->nth (cI a j) (s:Int)=nth (cI a j) (t:Int)->nth a.2.1 (s:Int)=nth a.2.1 (t:Int)
 | 0,h0,h=>by
  grind[nth,cI,live,SO,br]
 | j+1,h0,h=>by
  have k:=Oa (c:=cI a j) hs ht h0 h
  have h1:nth (cI a j) (s:Int)=nth (cI a j) (t:Int):=by
   injection k
  refine SP a hs ht j ?_ h1
  have:=(xC (c:=cI a j) hs).1
  grind[nth,cI,Be]
theorem VC (a:AutT) (j:Nat):SN (cI a (j+1)) 0 (zM a (cI a j)):=CN (keys a (cI a j)) []
theorem Rr (a:AutT) {c:List Int} (hc:c.length=a.2.1.length):YQ c (keys a c):=by
 refine N6 _ _ (by rw[eE,hc]) fun i h h'=>?_
 have e1:=(br h).symm
 have e2:(keys a c)[i] =C1 a c i:=by simp[keys]
 rw[e1,e2]
 unfold C1
 by_cases k:nth c (i:Int)<0
 ·grind
 ·exact .inr ⟨by omega,_,by rw[if_neg k];rfl⟩
theorem Ob (a:AutT) (j:Nat):zM a (cI a j)<=zM a (cI a (j+1))/\(zM a (cI a (j+1))=zM a (cI a j)->cI a (j+2)=cI a (j+1)):=by
 have ⟨h1,h2⟩:=nq (cI a (j+1)) (keys a (cI a (j+1))) [] 0 (zM a (cI a j)) (Rr a (pf a _)) (VC a j) (fun y hy=>by cases hy)
 exact ⟨by grind[zM],fun h=>h2 rfl (fun q hq=>absurd hq (Nat.not_lt_zero q)) h⟩
theorem X2 {j k:Nat} (h:cI a (j+1)=cI a j) (hk:j<=k):cI a k=cI a j:=by
 induction hk with
 | refl=>rfl
 | step _ ih=>rw[cI,ih];exact h
theorem Oc {j k:Nat} (h:cI a (j+1)=cI a j) (h':cI a (k+1)=cI a k):cI a j=cI a k:=by
 grind[Nat.le_total,X2]
theorem VD (a:AutT): ∃j,j<=a.2.1.length/\cI a (j+1)=cI a j:=by
 by_cases h0:cI a 1=cI a 0
 ·grind
 have hpos:1<=zM a (cI a 0):=by
  refine Nat.one_le_iff_ne_zero.2 fun hz=>h0 ?_
  have hnone: ∀s:Nat,s<a.2.1.length->nth (cI a 0) (s:Int)<0:=fun s hs=>by
   grind[zy,cI,List.length_pos_of_mem,zM]
  refine U8 (by grind[pf]) fun i hi=>?_
  rw[pf] at hi
  have h1:=(Bf a hi 0).2 (hnone i hi)
  have h2:=(Bf a hi 1).2 (((Bf a hi 1).1.trans (Bf a hi 0).1.symm).2 (hnone i hi))
  omega
 have key: ∀m,(∃j,j<=m/\cI a (j+1)=cI a j)\/m+1<=zM a (cI a m):=by
  intro m
  induction m with
  | zero=>omega
  | succ m ih =>
   grind[Ob]
 rcases key a.2.1.length with h | h
 ·exact h
 grind[GF,cI]
end
end D
namespace D
open Go.RowKit
section
variable {a:AutT} {n:Nat} {c:List Int}
theorem Iy (k:Nat) (s:Int):(List.range (k+1)).map (fun k=>ent a c s k)=(List.range k).map (fun k=>ent a c s k)++ [ent a c s k]:=by simp[List.range_succ]
theorem ZG (V:VA a n) (hn:n<=1000000) (hc:c.length=n) {s:Nat} (hs:s<n):oJ a c s=some (CZ a c s):=by
 unfold oJ
 rw[aG (by omega) (by omega)];simp only[aa]
 have:=aP (f:=mf a c s) (fun k=>(nth c (s:Int)::(List.range k).map (fun k=>ent a c s k),(k:Int))) 9 (fun k hk=>by
  have hm:=V.mv (s:=s) (k:=k) (by omega) (by omega) hk
  unfold mf
  simp only
  rw[if_pos (by simp;omega),V.get (by omega) (by omega)];simp only[aa]
  rw[V.get2 (by omega) (by omega) hk,Iy];simp only[aa,af (show k<9223372036854775807 by omega)]
  by_cases h:mv a s k<0
  ·rw[if_pos (by simpa using h),aJ (by simp;omega),show ent a c s k= -1 from by unfold ent;rw[if_pos h]];rfl
  ·rw[if_neg (by simpa using h),aG (by omega) (by omega)];simp only[aa]
   rw[aJ (by simp;omega),show ent a c s k=nth c (mv a s k) from by unfold ent;rw[if_neg h]];rfl) (by unfold mf;simp) (by unfold aR;omega)
 exact ai this
theorem ZH (V:VA a n) (hn:n<=1000000) (hc:c.length=n) {s:Nat} (hs:s<n):ax (cL c (nth a.2.2 (s:Int))) aR (0,[nth c (s:Int)])=some (.brk (9,CZ a c s)):=by
 have hr:=V.rowAt (s:=s) (by omega) (by omega)
 exact aP (f:=cL c (nth a.2.2 (s:Int))) (fun k=>((k:Int),nth c (s:Int)::(List.range k).map (fun k=>ent a c s k))) 9 (fun k hk=>by
  have hm:=V.mv (s:=s) (k:=k) (by omega) (by omega) hk
  unfold cL
  simp only
  rw[if_pos (by simp[hr];omega),V.get2 (by omega) (by omega) hk,Iy];simp only[aa,af (show k<9223372036854775807 by omega)]
  by_cases h:mv a s k<0
  ·have e:mv a s k= -1:=by omega
   rw[if_neg (by simp;omega)];simp only[aa]
   rw[aJ (by simp;omega),show ent a c s k=mv a s k from by unfold ent;rw[if_pos h,e]];rfl
  ·rw[if_pos (by simp;omega),aG (by omega) (by omega)];simp only[aa]
   rw[aJ (by simp;omega),show ent a c s k=nth c (mv a s k) from by unfold ent;rw[if_neg h]];rfl) (by unfold cL;simp[hr]) (by unfold aR;omega)
theorem EE {κ:Type} [DecidableEq κ] {l t r:List κ} {x:κ} (e:l=t++x::r) (hx:x∉t):nbI l (some x)=(t.length:Int):=by
 subst e
 simp only[nbI]
 rw[List.idxOf_append,if_neg hx,List.idxOf_cons_self,Nat.zero_add]
def X3 (l:List (List Int)) (x:List Int):Int:=if x∈l then nbI l (some x) else -1
theorem X4 {l:List (List Int)} {x cs:List Int} {q:Int} (hl:l.length<=1000000) (hd:l.Nodup) (hx: ∀y∈l,y.length<=1048576):ax (fI (l,cs,q) x) aR (-1,0)=some (.brk (X3 l x,(l.length:Int))):=by
 have:=aP (f:=fI (l,cs,q) x) (fun k=>(if x∈l.take k then nbI l (some x) else -1,(k:Int))) l.length (fun k hk=>by
  unfold fI
  simp only
  rw[if_pos (by simp;omega),aG (by omega) (by omega)];simp only[aa,Int.toNat_natCast,af (show k<9223372036854775807 by omega)]
  obtain ⟨r,e,hr⟩:=N8 (nth l (k:Int)) x (hx _ (cO (by omega) (by omega)))
  rw[e,take_one hk];simp only[aa,List.mem_append,List.mem_singleton]
  by_cases h:nth l (k:Int)=x
  ·have h0:r=0:=hr.2 h
   have hm:x∈l:=h ▸ cO (by omega) (by omega)
   obtain ⟨q,hq,e1,e2⟩:=oA hm
   have:q=k:=by
    have h1:l[q]? =some x:=by rw[List.getElem?_eq_getElem hq,e2]
    have h2:l[k]? =some x:=by rw[List.getElem?_eq_getElem hk,<-br hk,h]
    exact (List.getElem?_inj hq hd).1 (h1.trans h2.symm)
   subst this
   rw[if_pos (by simp[h0]),if_pos (.inr h.symm),e1];rfl
  ·have h0:r≠0:=fun e=>h (hr.1 e)
   have hn: ¬x=nth l (k:Int):=fun e=>h e.symm
   rw[if_neg (by simpa using h0)]
   simp[hn]) (by unfold fI;simp) (fW (by omega))
 rw[List.take_of_length_le (ay _)] at this
 exact this
theorem X5 {l:List (List Int)} {x:List Int} {f:List Int->Option Bool} (hl:l.length<=1000000) (hf: ∀y∈l,f y=some (decide (y=x))):bN l f=some (X3 l x):=by
 unfold bN
 obtain ⟨o,e,hq⟩:=cj (f:=bY l f) (fun k s=>s=(k:Int)/\x∉l.take k) (fun o=>(x∈l/\o= .ret (nbI l (some x)))\/(x∉l/\ ∃s,o= .brk s)) l.length (s:=0) (by
  rintro k s hk ⟨rfl,hx⟩
  unfold bY
  by_cases hkl:k<l.length
  ·rw[if_pos (by simp;omega),aG (by omega) (by omega)];simp only[aa]
   rw[hf _ (cO (by omega) (by omega))];simp only[aa]
   by_cases h:nth l (k:Int)=x
   ·refine .inr ⟨_,by rw[if_pos (by simpa using h)],(fun s' e=>by cases e),.inl ?_⟩
    have hm:x∈l:=h ▸ cO (by omega) (by omega)
    refine ⟨hm,?_⟩
    have e:l=l.take k++(x::l.drop (k+1)):=by
     rw[<-h,br hkl,<-List.drop_eq_getElem_cons hkl,List.take_append_drop]
    rw[EE e hx,aF,Nat.min_eq_left (by omega)]
   ·refine .inl ⟨hkl,_,by rw[if_neg (by simpa using h)],by rw[af (by omega)],?_⟩
    rw[take_one hkl,List.mem_append,List.mem_singleton]
    rintro (h' | h')
    ·exact hx h'
    ·exact h h'.symm
  ·refine .inr ⟨_,by rw[if_neg (by simp;omega)],(fun s' e=>by cases e),.inr ⟨?_,_,rfl⟩⟩
   rwa [List.take_of_length_le (by omega)] at hx) ⟨rfl,by simp⟩ (fW (by omega))
 unfold X3
 rcases hq with ⟨hx,rfl⟩ | ⟨hx,s,rfl⟩
 ·rw[bM e,if_pos hx]
 ·rw[ai e,if_neg hx]
theorem zz {os:List (Option (List Int))} (h: ∀y,some y∈os->y.length=10): ∀y∈nbS [] os,y.length=10:=fun y hy=>by
 rcases oz.1 hy with hy | hy
 ·cases hy
 ·exact h y hy
theorem Bg (a:AutT) (c:List Int): ∀y,some y∈keys a c->y.length=10:=by
 intro y hy
 obtain ⟨s,-,e⟩:=List.mem_map.1 hy
 unfold C1 at e
 split at e
 ·cases e
 ·rw[<-ae e];simp[CZ]
section
variable (V:VA a n) (hn:n<=1000000) (hc:c.length=n)
include V hn hc
theorem Iz (s:Nat):(nbS [] ((keys a c).take s)).length<=n:=by
 have:=pR ([] :List (List Int)) ((keys a c).take s)
 rw[aF,eE,V.len] at this
 simp at this;omega
theorem Rs {m:Int} :ax (fJ a (c,m)) aR ([],[],0)=some (.brk (nbS [] (keys a c),Be a c,(n:Int))):=by
 have hlen:=V.len
 have:=aP (f:=fJ a (c,m)) (fun s=>(nbS [] ((keys a c).take s),nbR [] ((keys a c).take s),(s:Int))) n (fun s hs=>by
  have hkl:=Iz V hn hc s
  have hrl:(nbR [] ((keys a c).take s)).length<=n:=by rw[gJ,aF,eE];omega
  unfold fJ
  simp only
  rw[if_pos (by simp;omega),aG (by omega) (by omega)];simp only[aa]
  rw[take_one (by rw[eE];omega),pN,si,GE (by omega)]
  simp only[af (show s<9223372036854775807 by omega)]
  by_cases h:nth c (s:Int)<0
  ·rw[if_pos (by simpa using h),aJ (by simp;omega),show C1 a c s=none from by unfold C1;rw[if_pos h]];rfl
  ·rw[if_neg (by simpa using h),show C1 a c s=some (CZ a c s) from by unfold C1;rw[if_neg h]]
   rw[show oJ (a.1,a.2.1,a.2.2) c (s:Int)=some (CZ a c s) from ZG V hn hc hs];simp only[aa]
   rw[ai (X4 (by omega) (nm (by simp)) (fun y hy=>by rw[zz (fun y hy=>Bg a c y (List.mem_of_mem_take hy)) y hy];decide))]
   simp only
   unfold X3
   by_cases k:CZ a c s∈nbS [] ((keys a c).take s)
   ·obtain ⟨q,hq,e1,e2⟩:=oA k
    rw[if_pos k,jC k,e1,if_neg (by simp)];simp only[aa]
    rw[aJ (by simp;omega)];rfl
   ·rw[if_neg k,jD k,CM k,if_pos (show decide ((-1:Int)<0)=true from rfl),aJ (by simp;omega)];simp only[aa]
    rw[aJ (by simp;omega)];rfl) (by
  unfold fJ
  simp only
  rw[if_neg (by simp;omega)]) (fW (by omega))
 rw[show (keys a c).take n=keys a c from List.take_of_length_le (by rw[eE];omega)] at this
 exact this
theorem Rt:dQ a c=some (Be a c,(zM a c:Int)):=by
 have hlen:=V.len
 unfold dQ
 have:=aP (f:=dW a c) (fun s=>(nbS [] ((keys a c).take s),nbR [] ((keys a c).take s),(s:Int))) n (fun s hs=>by
  have hkl:=Iz V hn hc s
  have hrl:(nbR [] ((keys a c).take s)).length<=n:=by rw[gJ,aF,eE];omega
  unfold dW
  simp only
  rw[if_pos (by simp;omega),aG (by omega) (by omega)];simp only[aa]
  rw[take_one (by rw[eE];omega),pN,si,GE (by omega)]
  simp only[af (show s<9223372036854775807 by omega)]
  by_cases h:nth c (s:Int)<0
  ·rw[if_pos (by simpa using h),aJ (by simp;omega),show C1 a c s=none from by unfold C1;rw[if_pos h]];rfl
  ·rw[if_neg (by simpa using h),show C1 a c s=some (CZ a c s) from by unfold C1;rw[if_neg h],V.get (by omega) (by omega)];simp only[aa]
   rw[ai (ZH V hn hc hs)];simp only
   rw[X5 (x:=CZ a c s) (by omega) (fun y hy=>by
    unfold gK
    rw[N9 _ _ (by rw[zz (fun y hy=>Bg a c y (List.mem_of_mem_take hy)) y hy];decide)];rfl)];simp only[aa]
   unfold X3
   by_cases k:CZ a c s∈nbS [] ((keys a c).take s)
   ·obtain ⟨q,hq,e1,e2⟩:=oA k
    rw[if_pos k,jC k,e1,if_neg (by simp)];simp only[aa]
    rw[aJ (by simp;omega)];rfl
   ·rw[if_neg k,jD k,CM k,if_pos (show decide ((-1:Int)<0)=true from rfl),aJ (by simp;omega)];simp only[aa]
    rw[aJ (by simp;omega)];rfl) (by
  unfold dW
  simp only
  rw[if_neg (by simp;omega)]) (fW (by omega))
 rw[show (keys a c).take n=keys a c from List.take_of_length_le (by rw[eE];omega)] at this
 exact ai this
end
end
section
variable {a:AutT} {n:Nat} (V:VA a n) (hn:n<=1000000)
include V hn
theorem EF (s:Nat):(List.range (s+1)).map (fun s:Nat=>if nth (live a) (s:Int)=true then (if nth a.2.1 (s:Int)=true then (1:Int) else 0) else -1)=(List.range s).map (fun s:Nat=>if nth (live a) (s:Int)=true then (if nth a.2.1 (s:Int)=true then 1 else 0) else -1)++ [if nth (live a) (s:Int)=true then (if nth a.2.1 (s:Int)=true then 1 else 0) else -1]:=by simp[List.range_succ]
theorem X6:ax (fH a (live a)) aR ([],0)=some (.brk (SO a,(n:Int))):=by
 have hlen:=V.len
 have hll:(live a).length=n:=by rw[pQ,hlen]
 have:=aP (f:=fH a (live a)) (fun s=>((List.range s).map (fun s:Nat=>if nth (live a) (s:Int)=true then (if nth a.2.1 (s:Int)=true then (1:Int) else 0) else -1),(s:Int))) n (fun s hs=>by
  unfold fH
  simp only
  rw[if_pos (by simp;omega),V.acc (by omega) (by omega)];simp only[aa]
  rw[EF V hn,aG (xs:=live a) (by omega) (by omega)];simp only[af (show s<9223372036854775807 by omega)]
  cases nth (live a) (s:Int) <;> cases nth a.2.1 (s:Int) <;> simp only[if_true,if_false,Bool.false_eq_true,aa] <;> rw[aJ (by simp;omega)] <;> rfl) (by
  unfold fH
  simp only
  rw[if_neg (by simp;omega)]) (fW (by omega))
 unfold SO
 rw[hlen]
 exact this
theorem X7:ax (cq a (live a)) aR ([],0)=some (.brk (SO a,(n:Int))):=by
 have hlen:=V.len
 have hll:(live a).length=n:=by rw[pQ,hlen]
 have:=aP (f:=cq a (live a)) (fun s=>((List.range s).map (fun s:Nat=>if nth (live a) (s:Int)=true then (if nth a.2.1 (s:Int)=true then (1:Int) else 0) else -1),(s:Int))) n (fun s hs=>by
  unfold cq
  simp only
  rw[if_pos (by simp;omega),aG (xs:=live a) (by omega) (by omega)];simp only[aa]
  rw[EF V hn,V.acc (by omega) (by omega)];simp only[af (show s<9223372036854775807 by omega)]
  cases nth (live a) (s:Int) <;> cases nth a.2.1 (s:Int) <;> simp only[if_true,if_false,Bool.false_eq_true,aa] <;> rw[aJ (by simp;omega)] <;> rfl) (by
  unfold cq
  simp only
  rw[if_neg (by simp;omega)]) (fW (by omega))
 unfold SO
 rw[hlen]
 exact this
theorem Od: ∃J,cI a (J+1)=cI a J/\jj a=some (cI a J):=by
 have hlen:=V.len
 unfold jj
 rw[show kD (a.1,a.2.1,a.2.2)=some (live a) from SL V hn];simp only[aa]
 rw[ai (X6 V hn)]
 obtain ⟨J0,hJ0,hfix⟩:=VD a
 obtain ⟨o,e,j,rfl,hj⟩:=cj (f:=kE a) (fun j s=>s=(cI a j,(j:Int))/\j<=J0) (fun o=> ∃j,o= .ret (cI a j)/\cI a (j+1)=cI a j) (J0+1) (s:=(cI a 0,0)) (by
  rintro j s hj ⟨rfl,hjJ⟩
  have hcl:(cI a j).length=n:=by rw[pf,hlen]
  unfold kE
  simp only
  rw[if_pos (by simp;omega),ai (Rs V hn hcl)]
  simp only
  obtain ⟨r,er,hr⟩:=N8 (Be a (cI a j)) (cI a j) (by rw[zx];omega)
  rw[er];simp only[aa,af (show j<9223372036854775807 by omega)]
  by_cases h:Be a (cI a j)=cI a j
  ·exact .inr ⟨_,by rw[if_pos (by simpa using hr.2 h)],(fun s' e=>by cases e),j,rfl,h⟩
  ·refine .inl ⟨by omega,(cI a (j+1),((j+1:Nat):Int)),by rw[if_neg (by simpa using fun e=>h (hr.1 e))];rfl,rfl,?_⟩
   by_cases e:j=J0
   ·subst e;exact absurd hfix h
   ·omega) ⟨rfl,Nat.zero_le _⟩ (fW (by omega))
 exact ⟨j,hj,bM e⟩
theorem Oe: ∃J,cI a (J+1)=cI a J/\dD a=some (cI a J):=by
 have hlen:=V.len
 unfold dD
 rw[show ff (a.1,a.2.1,a.2.2)=some (live a) from XR V hn];simp only[aa]
 rw[ai (X7 V hn)]
 let kk:Nat->Int:=fun j=>match j with | 0=> -1 | i+1=>(zM a (cI a i):Int)
 obtain ⟨o,e,j,rfl,hj⟩:=cj (f:=fO a) (fun j s=>s=(cI a j,kk j)/\(j:Int)<=kk j+1) (fun o=> ∃j,o= .ret (cI a j)/\cI a (j+1)=cI a j) (n+2) (s:=(cI a 0,-1)) (by
  rintro j s hj ⟨rfl,hjk⟩
  have hcl:(cI a j).length=n:=by rw[pf,hlen]
  have hle:=GF a (cI a j)
  unfold fO
  simp only
  rw[show dQ (a.1,a.2.1,a.2.2) (cI a j)=some (Be a (cI a j),(zM a (cI a j):Int)) from Rt V hn hcl];simp only[aa]
  cases j with
  | zero =>
   refine .inl ⟨by omega,(cI a 1,kk 1),by rw[if_neg (by show¬((zM a (cI a 0):Int) == -1)=true;simp)];rfl,rfl,?_⟩
   show (1:Int)<=(zM a (cI a 0):Int)+1
   omega
  | succ i =>
   obtain ⟨g1,g2⟩:=Ob a i
   have hki:kk (i+1)=(zM a (cI a i):Int):=rfl
   rw[hki] at hjk⊢
   by_cases h:zM a (cI a (i+1))=zM a (cI a i)
   ·refine .inr ⟨.ret (cI a (i+2)),by rw[if_pos (by simp[h])];rfl,(fun s' e=>by cases e),i+2,rfl,?_⟩
    have:=g2 h
    show Be a (cI a (i+2))=cI a (i+2)
    rw[this];exact this
   ·refine .inl ⟨?_,(cI a (i+2),kk (i+2)),by rw[if_neg (by simp;omega)];rfl,rfl,?_⟩
    ·omega
    ·show ((i+1+1:Nat):Int)<=(zM a (cI a (i+1)):Int)+1
     omega) ⟨rfl,by show ((0:Nat):Int)<= -1+1;omega⟩ (fW (by omega))
 exact ⟨j,hj,bM e⟩
theorem J4: ∃c,jj a=some c/\dD a=some c/\c.length=n/\Be a c=c/\ ∃j,c=cI a j:=by
 obtain ⟨J,hJ,es⟩:=Od V hn
 obtain ⟨J',hJ',ei⟩:=Oe V hn
 have:=Oc hJ hJ'
 exact ⟨cI a J,es,by rw[this];exact ei,by rw[pf,V.len],hJ,J,rfl⟩
end
end D
namespace D
open Go.RowKit
section
variable {κ:Type} [DecidableEq κ] [Inhabited κ] {nx:κ->List (Option κ)} {first:κ} {G:κ->Prop} {B N:Nat} {acc:κ->Bool}
theorem zA: ∀(l:List κ) (os:List (Option κ)),∀t∈nbR l os,-1<=t/\t<((nbS l os).length:Int)
 | l,[] =>fun t ht=>by cases ht
 | l,o::os=>fun t ht=>by
  have hp:=iQ (nbL l o) os
  have hl:=hp.length_le
  rcases az ht with rfl | ht
  ·show -1<=nbI l o/\nbI l o<((nbS (nbL l o) os).length:Int)
   cases o with
   | none=>exact ⟨by simp[nbI],by simp only[nbI];omega⟩
   | some y =>
    by_cases c:y∈l
    ·obtain ⟨q,hq,e,-⟩:=oA c
     rw[jC c] at hl
     rw[e];exact ⟨by omega,by rw[jC c];omega⟩
    ·rw[jD c] at hl
     rw[CM c];rw[al] at hl
     exact ⟨by omega,by rw[jD c];simp at hl;omega⟩
  ·exact zA (nbL l o) os t ht
theorem X8 (H:NumOk nx first G B) (hN:bfE nx first N):VA ((0,(bfS nx first N).map acc,bfR nx first N):AutT) N:=by
 have h0:0<N:=by
  have:=ru (nx:=nx) (first:=first) N
  have:=(List.getElem?_eq_some_iff.1 this).1
  have:=hN.1;omega
 have key: ∀i,i<=N-> ∀r∈bfR nx first i,r.length=9/\ ∀t∈r,-1<=t/\t<(N:Int):=by
  intro i
  induction i with
  | zero=>intro _ r hr;cases hr
  | succ i ih =>
   intro hi r hr
   have hlt:=hN.2 i (by omega)
   rw[sj hlt] at hr
   rcases aH hr with hr | hr
   ·exact ih (by omega) r hr
   ·obtain rfl:=ak hr
    refine ⟨by rw[gJ,H.len _ (iR H.g0 H.gn i _ (List.getElem_mem hlt))],fun t ht=>?_⟩
    have:=zA _ _ t ht
    rw[<-xu hlt] at this
    have hl:=(kJ (nx:=nx) (first:=first) hi).length_le
    have:=hN.1
    omega
 exact ⟨by show ((bfS nx first N).map acc).length=N;rw[List.length_map];exact hN.1.symm,⟨Int.le_refl _,by show (0:Int)<N;omega⟩,iS hN.2,fun r hr=>(key N (ay _) r hr).1,fun r hr=>(key N (ay _) r hr).2⟩
theorem Of (hlen: ∀x,(nx x).length=9) (hN:bfE nx first N):VA ((0,(bfS nx first N).map acc,bfR nx first N):AutT) N:=by
 have h0:0<N:=by
  have:=ru (nx:=nx) (first:=first) N
  have:=(List.getElem?_eq_some_iff.1 this).1
  have:=hN.1;omega
 have key: ∀i,i<=N-> ∀r∈bfR nx first i,r.length=9/\ ∀t∈r,-1<=t/\t<(N:Int):=by
  intro i
  induction i with
  | zero=>intro _ r hr;cases hr
  | succ i ih =>
   intro hi r hr
   have hlt:=hN.2 i (by omega)
   rw[sj hlt] at hr
   rcases aH hr with hr | hr
   ·exact ih (by omega) r hr
   ·obtain rfl:=ak hr
    refine ⟨by rw[gJ,hlen _],fun t ht=>?_⟩
    have:=zA _ _ t ht
    rw[<-xu hlt] at this
    have hl:=(kJ (nx:=nx) (first:=first) hi).length_le
    have:=hN.1
    omega
 exact ⟨by show ((bfS nx first N).map acc).length=N;rw[List.length_map];exact hN.1.symm,⟨Int.le_refl _,by show (0:Int)<N;omega⟩,iS hN.2,fun r hr=>(key N (ay _) r hr).1,fun r hr=>(key N (ay _) r hr).2⟩
end
theorem VA.self {a:AutT} {n:Nat} (v:VA a n):VA a a.2.1.length:=by
 have e:=v.len
 subst e
 exact v
theorem Bh:VA nothing 1:=⟨rfl,⟨by decide,by decide⟩,rfl,fun r hr=>by
 obtain rfl:=ak hr
 decide,fun r hr=>by
 obtain rfl:=ak hr
 decide⟩
end D
namespace D
open Go.RowKit
theorem VE {l:List Int} {x:Int} (hl:l.length<=1000000) (hx:x∈l):aU x l=some (nbI l (some x)):=by
 unfold aU eK
 have ⟨o,e,hq⟩:=cj (f:=dN l x) (fun k s=>s=(k:Int)/\x∉l.take k) (fun o=>o= .ret (nbI l (some x))) l.length (s:=0) (by
  rintro k s hk ⟨rfl,hx'⟩
  unfold dN
  by_cases hkl:k<l.length
  ·rw[if_pos (by grind),aG (by omega) (by omega)];simp only[aa]
   by_cases h:nth l (k:Int)=x
   ·grind[br,List.drop_eq_getElem_cons,List.take_append_drop,EE,aF,Nat.min_eq_left]
   ·refine .inl ⟨hkl,_,by rw[if_neg (by grind)],by grind[af],?_⟩
    rw[take_one hkl,List.mem_append,List.mem_singleton]
    rintro (h' | h')
    ·exact hx' h'
    ·exact h h'.symm
  grind) ⟨rfl,by simp⟩ (fW (by omega))
 grind[bM]
section
variable {a:AutT} {n:Nat}
def rep (c:List Int) (x:Int):Int:=nbI c (some x)
theorem Og {c:List Int} {x:Int} (h:x∈c):0<=rep c x/\rep c x<c.length/\nth c (rep c x)=x:=by
 grind[oA,rep,br]
def aae (a:AutT) (n:Nat) (r:AutT):Prop:=(nth (live a) a.1=false/\r=nothing)\/(nth (live a) a.1=true/\ ∃(j:Nat) (c:List Int) (nx:Int->List (Option Int)) (ac:Int->Bool) (N:Nat),c=cI a j/\(∀r,good n (live a) r->nx (nth c r)=rG a c (live a) r)/\(∀r,good n (live a) r->ac (nth c r)=nth a.2.1 r)/\bfE nx (nth c a.1) N/\(∀x∈bfS nx (nth c a.1) N,(nx x).length=9)/\r=(0,(bfS nx (nth c a.1) N).map ac,bfR nx (nth c a.1) N))
theorem Bi (V:VA a n) (hn:n<=1000000): ∃r,fK a=some r/\b7 a=some r/\Data.sm r/\VA r r.2.1.length/\r.2.1.length<=n/\aae a n r:=by
 have hlen:=V.len
 have hst:=V.start
 have hll:(live a).length=n:=by rw[pQ,hlen]
 have ⟨c,es,ei,hcl,hfix,j,hj⟩:=J4 V hn
 have hneg: ∀s:Int,0<=s->s<n->(nth c s<0↔nth (live a) s=false):=fun s h0 h1=>by
  have:=(Bf a (s:=s.toNat) (by omega) j).1
  grind
 have hlt: ∀s:Int,0<=s->s<n->nth c s<n:=fun s h0 h1=>by
  have:=VB (c:=c) (a:=a) (s:=s.toNat) (by omega)
  grind
 have hpos: ∀r,good n (live a) r->0<=nth c r:=fun r hr=>by
  have:=hneg r hr.1 hr.2.1
  by_cases k:nth c r<0
  ·have:=this.1 k;rw[hr.2.2] at this;grind
  ·omega
 have hkey: ∀r t:Int,0<=r->r<n->0<=t->t<n->0<=nth c r->nth c r=nth c t->CZ a c r=CZ a c t:=fun r t r0 r1 t0 t1 h0 h=>by
  have:=Oa (a:=a) (c:=c) (s:=r.toNat) (t:=t.toNat) (by omega) (by omega) (by grind) (by grind)
  grind
 have hacc: ∀r t:Int,0<=r->r<n->0<=t->t<n->0<=nth c r->nth c r=nth c t->nth a.2.1 r=nth a.2.1 t:=fun r t r0 r1 t0 t1 h0 h=>by
  have:=SP a (s:=r.toNat) (t:=t.toNat) (by omega) (by omega) j (by rw[<-hj,show ((r.toNat:Nat):Int)=r from by omega];exact h0) (by rw[<-hj,show ((r.toNat:Nat):Int)=r from by omega,show ((t.toNat:Nat):Int)=t from by omega];exact h)
  rwa [show ((r.toNat:Nat):Int)=r from by omega,show ((t.toNat:Nat):Int)=t from by omega] at this
 have hsuccs: ∀r,good n (live a) r->rG a c (live a) r=(List.range 9).map fun k=>if 0<=ent a c r k then some (ent a c r k) else none:=fun r hr=>by
  refine List.map_congr_left fun k hk=>?_
  have hk:=List.mem_range.1 hk
  have hm:=V.mv hr.1 hr.2.1 hk
  unfold ent
  by_cases h:mv a r k<0
  ·rw[if_pos h,if_neg (fun h'=>by omega),if_neg (by omega)]
  ·rw[if_neg h]
   have:=hneg (mv a r k) (by omega) hm.2
   cases hl:nth (live a) (mv a r k) with
   | false =>
    grind
   | true =>
    grind
 have hent: ∀r t:Int,CZ a c r=CZ a c t-> ∀k,k<9->ent a c r k=ent a c t k:=fun r t h k hk=>by
  have h:(List.range 9).map (fun k=>ent a c r k)=(List.range 9).map (fun k=>ent a c t k):=by unfold CZ at h;injection h
  simp_all
 let nx:=fun x=>rG a c (live a) (rep c x)
 let acc:=fun x=>nth a.2.1 (rep c x)
 let G:=fun x=> ∃r,good n (live a) r/\nth c r=x
 have Gm: ∀x,G x->x∈c/\0<=x/\good n (live a) (rep c x):=by
  rintro x ⟨r,hr,rfl⟩
  have hm:=cO hr.1 (by rw[hcl];exact hr.2.1)
  have ⟨h0,h1,h2⟩:=Og hm
  have hp:=hpos r hr
  refine ⟨hm,hp,h0,by omega,?_⟩
  have:=hneg (rep c (nth c r)) h0 (by omega)
  rw[h2] at this
  cases hl:nth (live a) (rep c (nth c r)) with
  | true=>rfl
  | false=>grind
 have hnx: ∀r,good n (live a) r->nx (nth c r)=rG a c (live a) r:=fun r hr=>by
  have ⟨hm,hp,hg⟩:=Gm _ ⟨r,hr,rfl⟩
  have ⟨h0,h1,h2⟩:=Og hm
  show rG a c (live a) (rep c (nth c r))=_
  rw[hsuccs _ hg,hsuccs _ hr]
  refine List.map_congr_left fun k hk=>?_
  rw[hent _ _ (hkey _ _ hg.1 hg.2.1 hr.1 hr.2.1 (by omega) h2) k (List.mem_range.1 hk)]
 have hac: ∀r,good n (live a) r->acc (nth c r)=nth a.2.1 r:=fun r hr=>by
  have ⟨hm,hp,hg⟩:=Gm _ ⟨r,hr,rfl⟩
  have ⟨h0,h1,h2⟩:=Og hm
  exact hacc _ _ hg.1 hg.2.1 hr.1 hr.2.1 (by omega) h2
 have hgn: ∀r,good n (live a) r-> ∀y,some y∈rG a c (live a) r->G y:=fun r hr y h=>by
  have ⟨k,hk,e⟩:=List.mem_map.1 h
  have hk:k<9:=List.mem_range.1 hk
  split at e
  ·rename_i hc
   exact ⟨mv a r k,⟨hc.1,(V.mv hr.1 hr.2.1 hk).2,hc.2⟩,ae e⟩
  grind
 unfold fK b7
 simp only[jB]
 rw[es,ei,SL V hn];simp only[aa]
 rw[aG hst.1 (by omega)];simp only[aa]
 cases hs:nth (live a) a.1 with
 | false =>
  have:=(hneg a.1 hst.1 hst.2).2 hs
  rw[GB V hll hs,if_pos (by grind),NX]
  exact ⟨nothing,rfl,rfl,JZ,Bh,V.pos,.inl ⟨hs,rfl⟩⟩
 | true =>
  have hst':good n (live a) a.1:=⟨hst.1,hst.2,hs⟩
  have hp:=hpos _ hst'
  have H:NumOk nx (nth c a.1) G n:=⟨⟨a.1,hst',rfl⟩,fun x hx y hy=>hgn _ (Gm x hx).2.2 y hy,fun x hx=>by simp[nx,rG],fun l hd h=>JY n l hd fun x hx=>by
   obtain ⟨r,hr,rfl⟩:=h x hx
   exact ⟨hpos r hr,hlt r hr.1 hr.2.1⟩⟩
  have ⟨N,hN,e1⟩:=XT (acc:=acc) V hn hcl hll hs H hn hnx hac
  have hfirst: ∀x,G x->aU x c=some (rep c x):=fun x hx=>VE (by omega) (Gm x hx).1
  have ⟨N',hN',e2⟩:=XS (most:=(c.length:Int)) (p2:=fun a0=>cr a0 (a.1,a.2.1,a.2.2) (fun a0=>aU a0 c)) (p3:=fun a0 a1=>ct a0 a1 (a.1,a.2.1,a.2.2) (fun a0=>aU a0 c) c) (acc:=acc) H hn (by omega) (fun x hx=>X0 hn (Gm x hx).2.1 (by
    obtain ⟨r,hr,rfl⟩:=hx
    exact hlt r hr.1 hr.2.1)) (fun x hx=>by
   show cr x (a.1,a.2.1,a.2.2) (fun a0=>aU a0 c)=_
   unfold cr
   simp only
   rw[hfirst x hx];simp only[aa]
   rw[V.acc (Gm x hx).2.2.1 (Gm x hx).2.2.2.1];rfl) (fun x k hx hk=>by
   have ⟨hm,hx0,hg⟩:=Gm x hx
   have hm':=V.mv hg.1 hg.2.1 hk
   refine ⟨0,?_⟩
   show ct x k (a.1,a.2.1,a.2.2) (fun a0=>aU a0 c) c=_
   unfold ct
   simp only
   rw[hfirst x hx];simp[aa]
   rw[show bG (a.1,a.2.1,a.2.2) (rep c x) k=some (mv a (rep c x) k) from Sw V hg.1 hg.2.1 hk];simp[aa]
   show _=some (match nth (rG a c (live a) (rep c x)) (k:Int) with | some y=>(y,true) | none=>(0,false))
   rw[Iu hk]
   by_cases h:mv a (rep c x) k<0
   ·rw[if_pos (by simpa using h),if_neg (fun h'=>by omega)]
   ·rw[if_neg (by simpa using h),aG (by omega) (by omega)];simp[aa]
    have hng:=hneg (mv a (rep c x) k) (by omega) hm'.2
    cases hl:nth (live a) (mv a (rep c x) k) with
    | false =>
     have:=hng.2 hl
     rw[if_pos (by simpa using this),if_neg (fun h'=>by cases h'.2)]
    | true =>
     have: ¬nth c (mv a (rep c x) k)<0:=fun h'=>by have:=hng.1 h';rw[hl] at this;cases this
     rw[if_neg (by simpa using this),if_pos ⟨by omega,rfl⟩])
  cases HY hN hN'
  have v:=X8 (acc:=acc) H hN
  refine ⟨_,by rw[e1];rfl,?_,X1 H hn hN,v.self,?_,.inr ⟨hs,j,c,nx,acc,N,hj,hnx,hac,hN,fun x _=>by simp[nx,rG],rfl⟩⟩
  rotate_left
  ·rw[v.len,hN.1];exact H.bound _ (ke N) (iR H.g0 H.gn N)
  simp_all
theorem J5 (V:VA a n) (hn:n<=1000000): ∃r,fK a=some r/\b7 a=some r/\Data.sm r/\VA r r.2.1.length/\r.2.1.length<=n:=by
 grind[Bi]
theorem Ru (V:VA a n) (hn:n<=1000000): ∃r,fK a=some r/\b7 a=some r/\Data.sm r:=by
 grind[J5]
end
end D
namespace D
open Go.RowKit
theorem GG {κ:Type} [DecidableEq κ] {nx:κ->List (Option κ)} {first:κ} {acc:κ->Bool} {most:Nat} : ∀(f i:Nat),(∀j,j<i->j<(bfS nx first j).length)->(bfS nx first i).length<=most->goM nx first acc most f i=((0,[],[]),false)\/ ∃N,bfE nx first N/\N<=most/\goM nx first acc most f i=((0,(bfS nx first N).map acc,bfR nx first N),true)
 | 0,i,_,_=>.inl rfl
 | f+1,i,h,hl=>by
  have hle:=N4 h
  rw[goM]
  by_cases c:i<(bfS nx first i).length
  ·rw[if_pos c]
   by_cases d:(bfS nx first (i+1)).length>most
   ·rw[if_pos d];exact .inl rfl
   ·rw[if_neg d]
    exact GG f (i+1) (fun j hj=>by
     by_cases e:j=i
     ·subst e;exact c
     ·exact h j (by omega)) (by omega)
  ·rw[if_neg c]
   exact .inr ⟨i,⟨by omega,h⟩,by omega,by rw[List.take_of_length_le (by omega)]⟩
end D
namespace D
open Go.RowKit
theorem CP:Data.sm ((0,[],[]):AutT):=⟨trivial,⟨by decide,fun _ h=>by cases h⟩,by decide,fun _ h=>by cases h⟩
theorem wT {e:List Tok} (he:e.length<=1048576): ∃r:AutT×Bool,eA e=some r/\im e=some r/\Data.sm r.1:=by
 obtain ⟨⟨p,b⟩,e1,e2,h1,h2⟩:=np he
 have h1:p.2.2.2.1.length=p.1.length:=h1
 have h2:p.1.length<=100000:=h2
 unfold eA im
 rw[e1,e2];simp only[aa,jB]
 cases b with
 | false=>exact ⟨((0,[],[]),false),rfl,rfl,CP⟩
 | true =>
  have d1:=XY (p:=p) (most:=200) h1 (by omega) (by omega) (by omega)
  have d2:=ZE (p:=p) (most:=200) h1 (by omega) (by omega) (by omega)
  have d1:gG p 200=_:=d1
  have d2:ig p 200=_:=d2
  rw[d1,d2];simp only[if_true,aa]
  rcases GG (nx:=nxS p) (first:=1) (acc:=kK p) (most:=200) (200+2) 0 (fun j hj=>by omega) (by simp[bfS]) with e | ⟨N,hN,hNm,e⟩
  ·rw[e]
   exact ⟨((0,[],[]),false),rfl,rfl,CP⟩
  ·rw[e];simp only[if_true]
   have V:=Of (acc:=kK p) (wj p) hN
   obtain ⟨r,es,ei,hr⟩:=Ru V (by omega)
   unfold yA
   rw[es];simp only[aa,jB]
   rw[ei];simp only[aa,jB]
   by_cases c:(r.2.1.length:Int)>12
   ·have c':decide ((r.2.1.length:Int)>12)=true:=decide_eq_true c
    simp only[c',if_true,aa]
    exact ⟨((0,[],[]),false),rfl,rfl,CP⟩
   ·have c':decide ((r.2.1.length:Int)>12)=false:=decide_eq_false c
    simp only[c',Bool.false_eq_true,if_false,aa]
    exact ⟨(r,true),rfl,rfl,hr⟩
end D
open Go.ChangeShapes Go.WideShapes Go.ChangeAt Go.RowKit
theorem own:ownKnob Tryz.prog.godebug=none:=by kernel_rfl
theorem laidOut:laidOutB Tryz.prog=true:=by kernel_rfl
theorem vj {H:Type} {enc:TypeId×Value->H} {P:Program} (hl:laidOutB P=true) {W W':World} (hb:Below W.heap.size W W') :
  ∀ {ts:List TypeId} {vs:List Value} {ds:List (DataW H)} {ps:List MemPlace},(∀t∈ts,P.readableRec t=true/\t<P.types.size)->
   DataW.TrodAll enc P W 0 (fun _=>true) true ts vs ds ps->(∀x∈ps,x.block<W.heap.size)->DataW.TrodAll enc P W' 0 (fun b=>decide (b<W.heap.size)) true ts vs ds ps
 | [],[],[],ps,_,h,_=>h
 | t::ts,v::vs,d::ds,ps,hr,⟨p,q,h1,h2,h3⟩,hlt=>by
  subst h3
  exact ⟨p,q,Below.trod hl (hr t (by simp)).1 (hr t (by simp)).2 h1 hb fun x hx=>hlt x (by simp[hx]),vj hl hb (fun t ht=>hr t (by simp[ht])) h2 fun x hx=>hlt x (by simp[hx]),rfl⟩
 | [],_::_,_,_,_,h,_=>h.elim
 | [],[],_::_,_,_,h,_=>h.elim
 | _::_,[],_,_,_,h,_=>h.elim
 | _::_,_::_,[],_,_,h,_=>h.elim
theorem Rv {H:Type} {enc:TypeId×Value->H} {f:Func} {s:ChangeSpec} {W W':World} {args:Array Value} {ds:List (DataW H)} {before:List MemPlace} (tb:TypeId)
  (hb:Tryz.prog.underlying tb=some .bool) (hr:f.resultTypes= #[tb]) (hp:(f.params.toList.all fun t=>Tryz.prog.readableRec t&&decide (t<Tryz.prog.types.size))=true) (hv:s.vars= [])
  (hW:DataW.Whole enc Tryz.prog f.params.toList s.vars false W args.toList ds [] before) (hres:(s.fn H (ds++ [])).results= [.lit (.bool true)]) (hargs:(s.fn H (ds++ [])).args=ds) (hvars:(s.fn H (ds++ [])).vars= [])
  (hbel:Below W.heap.size W W'):s.post enc Tryz.prog f false true false false W args (.bool true) W':=by
 obtain ⟨p,q,h1,h2,h3,h4,h5⟩:=hW
 have hW':DataW.Whole enc Tryz.prog f.params.toList s.vars false W args.toList ds [] before:=⟨p,q,h1,h2,h3,h4,h5⟩
 have hq:q= []:=by rw[hv] at h2;exact h2
 subst hq
 simp only[List.append_nil] at h3
 subst h3
 refine ⟨ds,[],before,[],before,[],hW',?_,?_,?_,hbel.frame _,fun h=>by cases h⟩
 ·rw[hres,hr]
  exact trodAll_mk1 (shut_bool hb true)
 ·rw[hargs]
  exact vj laidOut hbel (fun t ht=>by have:=List.all_eq_true.1 hp t ht;simpa using this) h1 fun x hx=>by simpa using hW'.lt x hx
 ·rw[hvars,hv];rfl
namespace D
open Go.RowKit
end D
namespace D
open Go.RowKit
theorem Rw (x y:List Tok) (hx:x.length<=1048576):ou x y=some (decide (x=y)):=by
 exact eqL (f:=iL x y) x y (by omega) (fun i h h'=>by
  simp[iL,fg h,if_true,aZ h,aZ h',aa,jB,af (show i<9223372036854775807 by omega)]
  grind) (by simp_all[iL,eN])
end D
namespace D
open Go.RowKit
end D
namespace D
open Go.RowKit
end D
namespace D
open Go.RowKit
end D
namespace D
open Go.RowKit
section
variable {nx:Int×Int->List (Option (Int×Int))} {first:Int×Int} {G:Int×Int->Prop} {B:Nat}
end
end D
namespace D
open Go.RowKit
theorem Oh {a:AutT} {n:Nat} (V:VA a n) {s:Int} (h0:0<=s) (h1:s<n):bH a s=some (nth a.2.1 s):=by
 unfold bH
 rw[if_pos (by simpa using h0),V.acc h0 h1];rfl
theorem CQ {a:AutT} {s:Int} (h0:s<0):bH a s=some false:=by
 unfold bH;rw[if_neg (by simp;omega)]
end D
namespace D
open Go.RowKit
section
variable {a b:AutT} {n m:Nat}
def mvn (a:AutT) (s:Int) (k:Nat):Int:=if s<0 then -1 else mv a s k
def acn (a:AutT) (s:Int):Bool:=if s<0 then false else nth a.2.1 s
theorem SQ (V:VA a n) {s:Int} {k:Nat} (h0: -1<=s) (h1:s<n) (hk:k<9): -1<=mvn a s k/\mvn a s k<n:=by
 unfold mvn
 split
 ·have:=V.pos;omega
 ·exact V.mv (by omega) h1 hk
theorem X9 (V:VA a n) {s:Int} {k:Nat} (h0: -1<=s) (h1:s<n) (hk:k<9):bG a s (k:Int)=some (mvn a s k):=by
 unfold mvn
 split
 ·exact JP ‹_›
 ·exact Sw V (by omega) h1 hk
theorem Ya (V:VA a n) {s:Int} {k:Nat} (h0: -1<=s) (h1:s<n) (hk:k<9):mT a s (k:Int)=some (mvn a s k):=by
 unfold mvn mT
 by_cases c:s<0
 ·rw[if_pos (by simpa using c),if_pos c]
 ·rw[if_neg (by simpa using c),if_neg c,V.get (by omega) h1];simp only[aa]
  rw[V.get2 (by omega) h1 hk];rfl
theorem Yb (V:VA a n) {s:Int} (h0: -1<=s) (h1:s<n):bH a s=some (acn a s):=by
 unfold acn
 split
 ·exact CQ ‹_›
 ·exact Oh V (by omega) h1
theorem Yc (V:VA a n) {s:Int} (h0: -1<=s) (h1:s<n):j4 a s=some (acn a s):=by
 unfold acn j4
 by_cases c:s<0
 ·rw[if_neg (by simp;omega),if_pos c]
 ·rw[if_pos (by simp;omega),if_neg c,V.acc (by omega) h1];rfl
def nxP (a b:AutT) (x:Int×Int):List (Option (Int×Int)):=(List.range 9).map fun k=>some (mvn a x.1 k,mvn b x.2 k)
def inP (n m:Nat) (x:Int×Int):Prop:=(-1<=x.1/\x.1<n)/\ -1<=x.2/\x.2<m
theorem Oi {x:Int×Int} {k:Nat} (hk:k<9):nth (nxP a b x) (k:Int)=some (mvn a x.1 k,mvn b x.2 k):=by
 have:k<(nxP a b x).length:=by simp[nxP];omega
 rw[br this];simp[nxP]
theorem GH (n m:Nat) (l:List (Int×Int)) (hd:l.Nodup) (h: ∀x∈l,inP n m x):l.length<=(n+1)*(m+1):=by
 have:=hd.length_le_of_subset (l₂:=(List.range (n+1)).flatMap fun i:Nat=>(List.range (m+1)).map fun j:Nat=>((i:Int) - 1,(j:Int) - 1)) (fun x hx=>by
  obtain ⟨⟨h0,h1⟩,h2,h3⟩:=h x hx
  refine List.mem_flatMap.2 ⟨(x.1+1).toNat,List.mem_range.2 (by omega),List.mem_map.2 ⟨(x.2+1).toNat,List.mem_range.2 (by omega),?_⟩⟩
  exact Prod.ext (by show (((x.1+1).toNat:Nat):Int) - 1=x.1;omega) (by show (((x.2+1).toNat:Nat):Int) - 1=x.2;omega))
 have e:((List.range (n+1)).flatMap fun i:Nat=>(List.range (m+1)).map fun j:Nat=>((i:Int) - 1,(j:Int) - 1)).length=(n+1)*(m+1):=by
  rw[List.length_flatMap]
  simp only[List.length_map,List.length_range]
  rw[List.map_const',List.sum_replicate_nat,List.length_range]
 omega
theorem rI (Va:VA a n) (Vb:VA b m) (hn:n<=12) (hm:m<=12):NumOk (nxP a b) (a.1,b.1) (inP n m) 169 where
 g0:=⟨⟨by have:=Va.start.1;show -1<=a.1;omega,Va.start.2⟩,by have:=Vb.start.1;show -1<=b.1;omega,Vb.start.2⟩
 gn x hx y hy:=by
  obtain ⟨k,hk,e⟩:=List.mem_map.1 hy
  have hk:k<9:=List.mem_range.1 hk
  obtain rfl:=ae e
  exact ⟨SQ Va hx.1.1 hx.1.2 hk,SQ Vb hx.2.1 hx.2.2 hk⟩
 len x _:=by simp[nxP]
 bound l hd h:=by
  have h1:=GH n m l hd h
  have:(n+1)*(m+1)<=13*13:=Nat.mul_le_mul (by omega) (by omega)
  omega
end
end D
namespace D
open Go.RowKit
theorem cpw {l:List Int} (h:l.length<=1000000):fY l=some l:=by
 unfold fY
 rw[aJ (by simp;omega)];rfl
section
variable {κ:Type} [DecidableEq κ]
def SeenOf (M:List (κ×Bool)) (l:List (κ)):Prop:=M.length=l.length/\ ∀x,M.lookup x=if x∈l then some true else none
theorem SeenOf.one (x:κ):SeenOf [(x,true)] [x]:=by
 refine ⟨rfl,fun y=>?_⟩
 rw[List.lookup_cons]
 by_cases e:y=x
 ·subst e;simp
 ·simp only[show (y==x)=false from by simp[e]];simp[e]
theorem SeenOf.put {M:List (κ×Bool)} {l:List (κ)} (h:SeenOf M l) {x:κ} (hx:x∉l):SeenOf ((x,true)::M) (l++ [x]):=by
 refine ⟨by simp[h.1],fun y=>?_⟩
 rw[List.lookup_cons]
 by_cases e:y=x
 ·subst e;simp
 ·simp only[show (y==x)=false from by simp[e],h.2 y,List.mem_append,List.mem_singleton,e,or_false]
end
section
variable {nx:Int×Int->List (Option (Int×Int))} {first:Int×Int} {G:Int×Int->Prop} {B:Nat} {p1:Int×Int->Int->Option (Int×Int)} {p2:Int×Int->Option Bool} {tt:Int×Int->Bool}
theorem J6 {l:List (Int×Int)} {Q:List ((Int×Int)×List Int)} {M:List ((Int×Int)×Bool)} {os:List (Option (Int×Int))} {i:Nat} {x4:(Int×Int)×List Int}
  (hi:i<=l.length) (hos:os.length=9) (hM:SeenOf M l) (hQ:Q.map (·.1)=l.drop i) (hw: ∀q∈Q,q.2.length<=i) (hx:x4.2.length<=i) (hok: ∀y,some y∈os->Ff y=true) (hB: ∀k,(nbS l (os.take k)).length<=1000)
  (hp: ∀(k:Nat),k<9-> ∃y,p1 x4.1 (k:Int)=some y/\nth os (k:Int)=some y) :
  ∃Q' M',ax (cM p1 x4) aR (Q,0,M)=some (.brk (Q',9,M'))/\SeenOf M' (nbS l os)/\Q'.map (·.1)=(nbS l os).drop i/\ ∀q∈Q',q.2.length<=i+1:=by
 obtain ⟨s',e,Q',M',rfl,hM',hQ',hw'⟩:=a7 (f:=cM p1 x4) (fun k s=> ∃Q' M',s=(Q',(k:Int),M')/\SeenOf M' (nbS l (os.take k))/\Q'.map (·.1)=(nbS l (os.take k)).drop i/\ ∀q∈Q',q.2.length<=i+1) 9 (by
  rintro k s hk ⟨Q1,M1,rfl,hM1,hQ1,hw1⟩
  have hpre:=iQ l (os.take k)
  have hlen:=hpre.length_le
  have hBk:=hB k
  have hB0:=hB 0
  obtain ⟨y,hy,ho⟩:=hp k hk
  have hoky:Ff y=true:=hok y (ho ▸ cO (by omega) (by omega))
  have hQl:Q1.length<=1000:=by
   have:=congrArg List.length hQ1
   simp at this;omega
  unfold cM
  simp only[jB]
  rw[if_pos (by simp;omega),hy,take_one (by omega),pN];simp only[aa]
  rw[show chk (Ff y=true)=some () from by unfold chk;rw[if_pos hoky]];simp only[aa,af (show k<9223372036854775807 by omega)]
  rw[show lkM M1 y=_ from hM1.2 y,ho]
  by_cases c:y∈nbS l (os.take k)
  ·simp only[c,if_true,Option.getD_some,aa]
   refine ⟨_,rfl,Q1,M1,rfl,?_,?_,hw1⟩
   ·rw[jC c];exact hM1
   ·rw[jC c];exact hQ1
  ·have hput:E3 M1 Ff bOk y true=some ((y,true)::M1):=by
    unfold E3
    rw[if_pos ⟨by have:=hM1.1;omega,hoky,rfl⟩]
   have hl9:l.length<=1000:=by omega
   simp only[c,if_false,Option.getD_none,Bool.false_eq_true,hput,aa]
   rw[cpw (by omega)];simp only[aa]
   rw[aJ (by simp;omega)];simp only[aa]
   rw[aJ (by simp;omega)];simp only[aa]
   refine ⟨_,rfl,_,_,rfl,?_,?_,?_⟩
   ·rw[jD c];exact hM1.put c
   ·rw[jD c,aM,hQ1,List.drop_append_of_le_length (by omega)];rfl
   ·intro q hq
    rcases aH hq with h | h
    ·exact hw1 q h
    ·obtain rfl:=ak h
     simp;omega) (by
  rintro s ⟨Q1,M1,rfl,-⟩
  unfold cM
  simp) (s:=(Q,0,M)) ⟨Q,M,rfl,hM,hQ,fun q hq=>by have:=hw q hq;omega⟩ (by unfold aR;omega)
 rw[List.take_of_length_le (by omega)] at hM' hQ'
 exact ⟨Q',M',e,hM',hQ',hw'⟩
theorem VF (H:NumOk nx first G B) (hB:B<=1000) (hok: ∀x,G x->Ff x=true) (h2: ∀x,G x->p2 x=some (tt x)) (h1: ∀x (k:Nat),G x->k<9-> ∃y,p1 x (k:Int)=some y/\nth (nx x) (k:Int)=some y) :
  ∃N w,bfE nx first N/\cV first p1 p2=some (w,(bfS nx first N).any tt):=by
 obtain ⟨N,hNB,hN⟩:=HW (nx:=nx) (first:=first) (H.le)
 refine ⟨N,?_⟩
 unfold cV
 simp only[jB]
 rw[show E3 ([] :List ((Int×Int)×Bool)) Ff bOk first true=some [(first,true)] from by unfold E3;rw[if_pos ⟨by simp,hok _ H.g0,rfl⟩]];simp only[aa]
 obtain ⟨o,e,ho⟩:=cj (f:=gi p1 p2) (fun i s=> ∃Q M,s=(Q,M)/\SeenOf M (bfS nx first i)/\Q.map (·.1)=(bfS nx first i).drop i/\(∀q∈Q,q.2.length<=i)/\((bfS nx first i).take i).any tt=false)
  (fun o=>(∃w,o= .ret (w,true)/\(bfS nx first N).any tt=true)\/ ∃s,o= .brk s/\(bfS nx first N).any tt=false) N (s:=([(first,([] :List Int))],[(first,true)])) (by
  rintro i s hi ⟨Q,M,rfl,hM,hQ,hw,ha⟩
  unfold gi
  simp only[jB]
  have hl:=congrArg List.length hQ
  simp only[List.length_map,bC] at hl
  by_cases hiN:i<N
  ·have hlt:=hN.2 i hiN
   have hle:=H.le i
   have hG:=H.at hlt
   cases Q with
   | nil=>simp at hl;omega
   | cons q Q =>
    have hq1:q.1=nth (bfS nx first i) (i:Int):=by
     have:(q.1::Q.map (·.1))=(bfS nx first i).drop i:=hQ
     rw[List.drop_eq_getElem_cons hlt] at this
     rw[br hlt];exact (List.cons.inj this).1
    rw[if_pos (by simp <;> omega),show aK (q::Q) 0=some q from rfl];simp only[aa]
    rw[h2 _ (hq1 ▸ hG)];simp only[aa]
    cases ht:tt q.1 with
    | true =>
     refine .inr ⟨_,by rw[if_pos rfl,cpw (by have:=hw q (by simp);omega)];rfl,(fun s' e=>by cases e),.inl ⟨_,rfl,?_⟩⟩
     refine List.any_eq_true.2 ⟨q.1,?_,ht⟩
     exact (kJ (nx:=nx) (first:=first) (by omega:i<=N)).subset (hq1 ▸ cO (by omega) (by omega))
    | false =>
     left
     refine ⟨hiN,?_⟩
     obtain ⟨Q',M',e,hM',hQ',hw'⟩:=J6 (p1:=p1) (l:=bfS nx first i) (Q:=q::Q) (M:=M) (os:=nx (nth (bfS nx first i) (i:Int))) (i:=i) (x4:=q) (by omega) (H.len _ hG) hM hQ hw (hw q (by simp)) (fun y hy=>hok y (H.gn _ hG y hy)) (fun k=>by
      have:(nbS (bfS nx first i) ((nx (nth (bfS nx first i) (i:Int))).take k)).length<=B:=H.bound _ (nm (ke i)) fun x hx=>by
       rcases oz.1 hx with hx | hx
       ·exact iR H.g0 H.gn i x hx
       ·exact H.gn _ hG x (List.mem_of_mem_take hx)
      omega) (fun k hk=>by rw[hq1];exact h1 _ k hG hk)
     rw[<-ix hlt] at hM' hQ'
     have hp:=bs (nx:=nx) (first:=first) i
     have hpl:=hp.length_le
     have hl':=congrArg List.length hQ'
     simp only[List.length_map,bC] at hl'
     simp only[Bool.false_eq_true,if_false]
     rw[ai e]
     simp only
     rw[show chk ((0:Int)<=1/\(1:Int)<=(Q'.length:Int))=some () from by unfold chk;rw[if_pos ⟨by omega,by omega⟩]]
     refine ⟨_,rfl,_,_,rfl,hM',?_,?_,?_⟩
     ·rw[List.map_drop,hQ',List.drop_drop]
     ·exact fun z hz=>hw' z (List.mem_of_mem_drop hz)
     ·have e:=sn (nx:=nx) (first:=first) (acc:=tt) hlt
      have f: ∀l:List (Int×Int),l.any tt=(l.map tt).any id:=fun l=>by simp[List.any_map]
      rw[f,e,List.any_append,<-f,ha,<-hq1];simp[ht]
  ·obtain rfl:i=N:=by omega
   cases Q with
   | nil =>
    refine .inr ⟨_,by rw[if_neg (by simp)],(fun s' e=>by cases e),.inr ⟨_,rfl,?_⟩⟩
    rw[List.take_of_length_le (by have:=hN.1;omega)] at ha;exact ha
   | cons q Q=>have:=hN.1;simp at hl;omega) ⟨_,_,rfl,SeenOf.one first,rfl,by simp,rfl⟩ (fW (by omega))
 rcases ho with ⟨w,rfl,h⟩ | ⟨s,rfl,h⟩
 ·exact ⟨w,hN,by rw[bM e,h]⟩
 ·exact ⟨[],hN,by rw[ai e,h]⟩
end
end D
namespace D
open Go.RowKit
abbrev EntT:=Int×Int×Bool×Int×Int
def pr (z:EntT):Int×Int:=(z.1,z.2.1)
structure Ent (l:List EntT) (L:List (Int×Int)):Prop where
 map:l.map pr=L
 flat: ∀z∈l,z.2.2.1=false
 back: ∀j:Nat,0<j->j<l.length->0<=(nth l (j:Int)).2.2.2.1/\(nth l (j:Int)).2.2.2.1<j
theorem Ent.len {l:List EntT} {L:List (Int×Int)} (h:Ent l L):l.length=L.length:=by rw[<-h.map];simp
theorem Ent.at {l:List EntT} {L:List (Int×Int)} (h:Ent l L) {i:Nat} (hi:i<l.length):(nth l (i:Int)).1=(nth L (i:Int)).1/\(nth l (i:Int)).2.1=(nth L (i:Int)).2:=by
 rw[<-h.map,U7 (by omega) (by omega)];exact ⟨rfl,rfl⟩
theorem Ent.snoc {l:List EntT} {L:List (Int×Int)} (h:Ent l L) {x y:Int} {i:Nat} (hi:i<l.length) (k:Int):Ent (l++ [(x,y,false,(i:Int),k)]) (L++ [(x,y)]) where
 map:=by rw[aM,h.map];rfl
 flat z hz:=by
  rcases aH hz with hz | hz
  ·exact h.flat z hz
  ·obtain rfl:=ak hz;rfl
 back j h0 hj:=by
  by_cases c:j<l.length
  ·rw[fS (by omega) (by omega)];exact h.back j h0 c
  ·have:j=l.length:=by simp at hj;omega
   subst this
   have:nth (l++ [(x,y,false,(i:Int),k)]) (l.length:Int)=(x,y,false,(i:Int),k):=by rw[br (by simp)];simp
   rw[this];exact ⟨by show (0:Int)<=(i:Int);omega,by show (i:Int)<(l.length:Int);omega⟩
theorem Rx {l:List EntT} {L:List (Int×Int)} (h:Ent l L) (hl:l.length<=1000000) (x y f k:Int):rV l (x,y,false,f,k)=some (decide ((x,y)∈L)):=by
 unfold rV
 have:=scan (f:=mg l (x,y,false,f,k)) l (fun z=> ¬pr z=(x,y)) true (by omega) (by
  intro i hi
  have hf:=h.flat _ (cO (i:=(i:Int)) (by omega) (by omega))
  unfold mg
  rw[if_pos (by simp;omega),aG (by omega) (by omega)];simp only[aa,af (show i<9223372036854775807 by omega),hf]
  by_cases c1:(nth l (i:Int)).1=x
  ·by_cases c2:(nth l (i:Int)).2.1=y
   ·rw[if_pos (by simpa using c1),if_pos (by simpa using c2),if_pos (by rfl),if_neg (fun hc=>hc (Prod.ext c1 c2))]
   ·rw[if_pos (by simpa using c1),if_neg (by simpa using c2),if_pos (fun e=>c2 (congrArg Prod.snd e))]
  ·rw[if_neg (by simpa using c1),if_pos (fun e=>c1 (congrArg Prod.fst e))]) (by
  unfold mg
  rw[if_neg (by simp)])
 rcases this with ⟨e,hp⟩ | ⟨e,hp⟩
 ·rw[ai e,decide_eq_false]
  rintro hm
  rw[<-h.map] at hm
  obtain ⟨z,hz,e⟩:=List.mem_map.1 hm
  exact hp z hz e
 ·rw[bM e,decide_eq_true]
  by_cases c:(x,y)∈L
  ·exact c
  ·refine absurd (fun z hz e=>c ?_) hp
   rw[<-h.map,<-e];exact List.mem_map.2 ⟨z,hz,rfl⟩
theorem Oj {l:List EntT} {L:List (Int×Int)} (h:Ent l L) (hl:l.length<=1000000) {i:Nat} (hi:i<l.length): ∃w,pz l (i:Int)=some w:=by
 unfold pz
 obtain ⟨o,e,s,rfl⟩:=cj (f:=ot l) (fun n s=>0<=s.1/\s.1+n<=i/\s.2.length<=n) (fun o=> ∃s,o= .brk s) i (s:=((i:Int),[])) (by
  rintro n ⟨j,w⟩ hn ⟨h0,h1,h2⟩
  simp only at h0 h1 h2
  unfold ot
  simp only
  by_cases c:j>0
  ·have hb:=h.back j.toNat (by omega) (by omega)
   rw[Int.toNat_of_nonneg h0] at hb
   left
   refine ⟨by omega,?_⟩
   rw[if_pos (by simpa using c),aG (by omega) (by omega)];simp only[aa]
   rw[aJ (by simp;omega)];simp only[aa]
   refine ⟨_,rfl,hb.1,?_,?_⟩
   ·show (nth l j).2.2.2.1+((n+1:Nat):Int)<=i;omega
   ·simp;omega
  ·exact .inr ⟨_,by rw[if_neg (by simpa using c)],(fun s' e=>by cases e),_,rfl⟩) ⟨by show (0:Int)<=(i:Int);omega,by show (i:Int)+((0:Nat):Int)<=(i:Int);omega,by simp⟩ (fW (by omega))
 exact ⟨_,ai e⟩
section
variable {a b:AutT} {n m:Nat}
def wk (a b:AutT) (x:Int×Int):Bool:=acn b x.2 && !acn a x.1
theorem GI (Va:VA a n) (Vb:VA b m) (hn:n<=12) (hm:m<=12) {l:List EntT} {L:List (Int×Int)} {i:Nat} (hE:Ent l L) (hd:L.Nodup) (hG: ∀x∈L,inP n m x) (hi:i<L.length) :
  ∃l',ax (gx a b (l,(i:Int))) aR (l,0)=some (.brk (l',9))/\Ent l' (nbS L (nxP a b (nth L (i:Int)))):=by
 have hx:=hG _ (cO (i:=(i:Int)) (by omega) (by omega))
 have hos:(nxP a b (nth L (i:Int))).length=9:=by simp[nxP]
 have H:=rI Va Vb hn hm
 have hB: ∀k,(nbS L ((nxP a b (nth L (i:Int))).take k)).length<=169:=fun k=>H.bound _ (nm hd) fun x hx'=>by
  rcases oz.1 hx' with h | h
  ·exact hG x h
  ·exact H.gn _ hx x (List.mem_of_mem_take h)
 obtain ⟨s',e,l',rfl,hE'⟩:=a7 (f:=gx a b (l,(i:Int))) (fun k s=> ∃l',s=(l',(k:Int))/\Ent l' (nbS L ((nxP a b (nth L (i:Int))).take k))) 9 (by
  rintro k s hk ⟨l1,rfl,hE1⟩
  have hpre:=iQ L ((nxP a b (nth L (i:Int))).take k)
  have hlen:=hpre.length_le
  have hBk:=hB k
  have hl1:=hE1.len
  obtain ⟨g1,g2⟩:=hE1.at (i:=i) (by omega)
  rw[iU hpre (by omega) (by omega)] at g1 g2
  unfold gx
  simp only[jB]
  rw[if_pos (by simp;omega),aG (by omega) (by omega)];simp only[aa]
  rw[g1,g2,Ya Va hx.1.1 hx.1.2 hk];simp only[aa]
  rw[Ya Vb hx.2.1 hx.2.2 hk];simp only[aa]
  rw[Rx hE1 (by omega)];simp only[aa,af (show k<9223372036854775807 by omega)]
  rw[take_one (by omega),pN,Oi hk]
  by_cases c:(mvn a (nth L (i:Int)).1 k,mvn b (nth L (i:Int)).2 k)∈nbS L ((nxP a b (nth L (i:Int))).take k)
  ·rw[if_pos (by simpa using c),jC c]
   exact ⟨_,rfl,l1,rfl,hE1⟩
  ·rw[if_neg (by simpa using c),jD c,aJ (by simp;omega)]
   exact ⟨_,rfl,_,rfl,hE1.snoc (by omega) _⟩) (by
  rintro s ⟨l1,rfl,-⟩
  unfold gx
  simp) (s:=(l,0)) ⟨l,rfl,hE⟩ (by unfold aR;omega)
 rw[List.take_of_length_le (by omega)] at hE'
 exact ⟨l',e,hE'⟩
theorem Bj (Va:VA a n) (Vb:VA b m) (hn:n<=12) (hm:m<=12) {x:Int×Int} (hx:inP n m x):NumOk (nxP a b) x (inP n m) 169 where
 g0:=hx
 gn:=(rI Va Vb hn hm).gn
 len:=(rI Va Vb hn hm).len
 bound:=(rI Va Vb hn hm).bound
theorem IA (Va:VA a n) (Vb:VA b m) (hn:n<=12) (hm:m<=12) {s0 t0:Int} (h0:inP n m (s0,t0)): ∃N w,bfE (nxP a b) (s0,t0) N/\ga a s0 b t0 true=some (w,(bfS (nxP a b) (s0,t0) N).any (wk a b)):=by
 have H:=Bj Va Vb hn hm h0
 obtain ⟨N,hNB,hN⟩:=HW (nx:=nxP a b) (first:=(s0,t0)) (H.le)
 refine ⟨N,?_⟩
 unfold ga
 obtain ⟨o,e,ho⟩:=cj (f:=lH a b true) (fun i s=> ∃l,s=(l,(i:Int))/\Ent l (bfS (nxP a b) (s0,t0) i)/\((bfS (nxP a b) (s0,t0) i).take i).any (wk a b)=false)
  (fun o=>(∃w,o= .ret (w,true)/\(bfS (nxP a b) (s0,t0) N).any (wk a b)=true)\/ ∃s,o= .brk s/\(bfS (nxP a b) (s0,t0) N).any (wk a b)=false) N (s:=([(s0,t0,false,0,0)],0)) (by
  rintro i s hi ⟨l,rfl,hE,ha⟩
  have hl:=hE.len
  have hle:=H.le i
  unfold lH
  simp only[jB]
  by_cases hiN:i<N
  ·have hlt:=hN.2 i hiN
   have hG:=H.at hlt
   obtain ⟨g1,g2⟩:=hE.at (i:=i) (by omega)
   rw[if_pos (by simp;omega),aG (by omega) (by omega)];simp only[aa]
   rw[g1,g2,Yc Va hG.1.1 hG.1.2];simp only[aa]
   rw[Yc Vb hG.2.1 hG.2.2];simp only[aa]
   have hb: ∀r50 r49:Bool,(if r50 then (if r49 then (if r49 then (if r50 then some false else some (!true)) else some false) else some true) else (if r49 then (if r50 then some false else some (!true)) else some false):Option Bool)=some (r50 && !r49):=by decide
   rw[hb];simp only[aa]
   have hlp:(acn b (nth (bfS (nxP a b) (s0,t0) i) (i:Int)).2 && !acn a (nth (bfS (nxP a b) (s0,t0) i) (i:Int)).1)=wk a b (nth (bfS (nxP a b) (s0,t0) i) (i:Int)):=rfl
   rw[hlp]
   cases ht:wk a b (nth (bfS (nxP a b) (s0,t0) i) (i:Int)) with
   | true =>
    obtain ⟨w,hw⟩:=Oj hE (by omega) (i:=i) (by omega)
    refine .inr ⟨_,by rw[if_pos rfl,hw];rfl,(fun s' e=>by cases e),.inl ⟨_,rfl,?_⟩⟩
    refine List.any_eq_true.2 ⟨_,?_,ht⟩
    exact (kJ (nx:=nxP a b) (first:=(s0,t0)) (by omega:i<=N)).subset (cO (by omega) (by omega))
   | false =>
    left
    refine ⟨hiN,?_⟩
    obtain ⟨l',e,hE'⟩:=GI Va Vb hn hm hE (ke i) (iR H.g0 H.gn i) hlt
    rw[if_neg (by simp),ai e]
    rw[<-ix hlt] at hE'
    simp only[af (show i<9223372036854775807 by omega)]
    refine ⟨_,rfl,l',rfl,hE',?_⟩
    have e:=sn (nx:=nxP a b) (first:=(s0,t0)) (acc:=wk a b) hlt
    have f: ∀l:List (Int×Int),l.any (wk a b)=(l.map (wk a b)).any id:=fun l=>by simp[List.any_map]
    rw[f,e,List.any_append,<-f,ha];simp[ht]
  ·obtain rfl:i=N:=by omega
   have hN1:=hN.1
   refine .inr ⟨_,by rw[if_neg (by simp;omega)],(fun s' e=>by cases e),.inr ⟨_,rfl,?_⟩⟩
   rw[List.take_of_length_le (by omega)] at ha;exact ha) ⟨_,rfl,⟨rfl,by simp,by intro j h0 h1;simp at h1;omega⟩,rfl⟩ (fW (by omega))
 rcases ho with ⟨w,rfl,h⟩ | ⟨s,rfl,h⟩
 ·exact ⟨w,hN,by rw[bM e,h]⟩
 ·exact ⟨[],hN,by rw[ai e,h]⟩
theorem VG {x:Int×Int} (hn:n<=12) (hm:m<=12) (h:inP n m x):Ff x=true:=by
 obtain ⟨⟨h0,h1⟩,h2,h3⟩:=h
 have e1:i64.min= -9223372036854775808:=by decide
 have e2:i64.max=9223372036854775807:=by decide
 simp only[Ff,Lit.wf,e1,e2,ah,decide_eq_true_eq]
 omega
theorem VH (Va:VA a n) (Vb:VA b m) (hn:n<=12) (hm:m<=12) {s0 t0:Int} (h0:inP n m (s0,t0)) {p1:Int×Int->Int->Option (Int×Int)} {p2:Int×Int->Option Bool}
  (h1: ∀x (k:Nat),inP n m x->k<9->p1 x (k:Int)=some (mvn a x.1 k,mvn b x.2 k)) (h2: ∀x,inP n m x->p2 x=some (wk a b x)) :
  ∃w w' r,ga a s0 b t0 true=some (w,r)/\cV (s0,t0) p1 p2=some (w',r):=by
 have H:=Bj Va Vb hn hm h0
 obtain ⟨N,w,hN,e⟩:=IA Va Vb hn hm h0
 obtain ⟨N',w',hN',e'⟩:=VF (p1:=p1) (p2:=p2) (tt:=wk a b) H (by omega) (fun x hx=>VG hn hm hx) h2 (fun x k hx hk=>⟨_,h1 x k hx hk,Oi hk⟩)
 obtain rfl:=HY hN hN'
 exact ⟨w,w',_,e,e'⟩
theorem GJ (Va:VA a n) (Vb:VA b m) {x:Int×Int} {k:Nat} (hx:inP n m x) (hk:k<9):jm x (k:Int) a b=some (mvn a x.1 k,mvn b x.2 k):=by
 unfold jm
 simp only[jB]
 rw[X9 Va hx.1.1 hx.1.2 hk];simp only[aa]
 rw[X9 Vb hx.2.1 hx.2.2 hk];rfl
theorem EG (Va:VA a n) (Vb:VA b m) (hn:n<=12) (hm:m<=12): ∃w w' r,ga a a.1 b b.1 true=some (w,r) /\
  cV (a.1,b.1) (fun u6 u7=>jm u6 u7 a b) (fun u8=>iJ u8 b a)=some (w',r):=
 VH Va Vb hn hm (rI Va Vb hn hm).g0 (fun x k hx hk=>GJ Va Vb hx hk) fun x hx=>by
  unfold iJ wk
  simp only[jB]
  rw[Yb Vb hx.2.1 hx.2.2];simp only[aa]
  rw[Yb Va hx.1.1 hx.1.2];simp only[aa]
  cases acn b x.2 <;> rfl
end
end D
namespace D
open Go.RowKit
theorem pS (a:AutT) (hs:Data.sm a): ∃b,bE a=some b/\bO a=some b/\(b=true->a.2.1.length<=12/\VA a a.2.1.length):=by
 obtain ⟨-,⟨ha,-⟩,hn,hr⟩:=hs
 obtain ⟨b1,e1,k1⟩:=NR a (by omega) (by omega)
 obtain ⟨b2,e2,k2⟩:=Vu a (by omega) (by omega) (fun r h=>by have:r.length<=1048576:=(hr r h).1;omega)
 have:b2=b1:=by
  cases h1:b1 <;> cases h2:b2
  ·rfl
  ·have:=k1.2 (k2.1 h2);rw[h1] at this;cases this
  ·have:=k2.2 (k1.1 h1);rw[h2] at this;cases this
  ·rfl
 subst this
 exact ⟨b2,e1,e2,k1.1⟩
theorem Ol (a b:AutT) (ha:Data.sm a) (hb:Data.sm b): ∃r,bF a b=some r/\dR a b=some r:=by
 obtain ⟨va,e1,e2,ka⟩:=pS a ha
 obtain ⟨vb,e3,e4,kb⟩:=pS b hb
 unfold bF dR ic mW
 simp only[jB]
 rw[e1,e2,e3,e4];simp only[aa]
 cases va with
 | false=>exact ⟨false,rfl,rfl⟩
 | true =>
  cases vb with
  | false=>exact ⟨false,rfl,rfl⟩
  | true =>
   obtain ⟨hn,Va⟩:=ka rfl
   obtain ⟨hm,Vb⟩:=kb rfl
   obtain ⟨w,w',r,es,ei⟩:=EG Va Vb hn hm
   simp only[if_true]
   rw[es,ei]
   exact ⟨!r,rfl,rfl⟩
end D
namespace D
open Go.RowKit
theorem Om {x:Tr Tok} (h:WT x): ∀t∈flat x,0<=ar t:=by
 refine WT.ind (p:=fun x=> ∀t∈flat x,0<=ar t) ?_ ?_ ?_ h
 ·intro t e s hs
  rw[rv] at hs
  obtain rfl:=ak hs
  omega
 ·intro t a e wa ih s hs
  rw[pb] at hs
  rcases aH hs with hs | hs
  ·exact ih s hs
  ·obtain rfl:=ak hs
   omega
 ·intro t a b e wa wb iha ihb s hs
  rw[kl] at hs
  rcases aH hs with hs | hs
  ·rcases aH hs with hs | hs
   ·exact iha s hs
   ·exact ihb s hs
  ·obtain rfl:=ak hs
   omega
def isLt (x:Tr Tok) (c:Int):Bool:=(flat x).any fun t=>decide (t.1=3)&&decide (t.2.1=c)
theorem IB {x:Tr Tok} {c:Int} :isLt x c=true↔ ∃t∈flat x,t.1=3/\t.2.1=c:=by
 unfold isLt
 simp[List.any_eq_true]
theorem alpha {x:Tr Tok} (h:WT x) (hx:(flat x).length<=24):lg (flat x)=some (lets.filter (isLt x)):=by
 have he:(flat x).length<=1048576:=by omega
 have har:=Om h
 obtain ⟨s,e,h1,M,h2,h3,h4⟩:=a7 (f:=jY (flat x)) (fun i s=>s.2=(i:Int)/\ ∃M:Nat,s.1=(M:Int)/\M<2 ^ 9/\ ∀j,M.testBit j=true↔ ∃t∈(flat x).take i,t.1=3/\t.2.1=(j:Int)) (flat x).length (fun i s hi hI=>by
  obtain ⟨m,k⟩:=s
  obtain ⟨h1,M,h2,h3,h4⟩:=hI
  have h1:k=(i:Int):=h1
  have h2:m=(M:Int):=h2
  subst h1
  subst h2
  unfold jY
  simp only
  rw[fg hi,if_pos rfl,H1 he,nW h];simp only[aa,if_true]
  rw[aZ hi];simp only[aa]
  have ht:=har _ (List.getElem_mem hi)
  by_cases c:(flat x)[i].1=3
  ·obtain ⟨c0,c8⟩:=Iq ht c
   obtain ⟨j,hj⟩: ∃j:Nat,(flat x)[i].2.1=(j:Int):=⟨(flat x)[i].2.1.toNat,by omega⟩
   rw[if_pos (by simp[c]),hj,dZ (by omega)];simp only[aa]
   have hM62:M<2 ^ 62:=aI h3 (by decide)
   have hj62:2 ^ j<2 ^ 62:=Nat.pow_lt_pow_right (by decide) (by omega)
   rw[CD (by omega),SD hM62 hj62,af (by omega)]
   refine ⟨_,rfl,rfl,M ||| 2 ^ j,rfl,Nat.or_lt_two_pow h3 (Nat.pow_lt_pow_right (by decide) (by omega)),fun q=>?_⟩
   rw[Af,Bool.or_eq_true,h4,decide_eq_true_eq,List.take_succ_eq_append_getElem hi]
   constructor
   ·rintro (⟨t,q1,q2⟩ | rfl)
    ·exact ⟨t,aT _ q1,q2⟩
    ·exact ⟨_,aX _ (List.mem_singleton.2 rfl),c,hj⟩
   ·rintro ⟨t,q1,q2,q3⟩
    rcases aH q1 with q1 | q1
    ·exact .inl ⟨t,q1,q2,q3⟩
    ·rw[ak q1] at q3
     exact .inr (by omega)
  ·rw[if_neg (by simpa using c)];simp only[aa]
   rw[af (by omega)]
   refine ⟨_,rfl,rfl,M,rfl,h3,fun q=>?_⟩
   rw[h4,List.take_succ_eq_append_getElem hi]
   constructor
   ·rintro ⟨t,q1,q2⟩;exact ⟨t,aT _ q1,q2⟩
   ·rintro ⟨t,q1,q2,q3⟩
    rcases aH q1 with q1 | q1
    ·exact ⟨t,q1,q2,q3⟩
    ·rw[ak q1] at q2
     exact absurd q2 c) (fun s hI=>by
  obtain ⟨m,k⟩:=s
  have h1:k=((flat x).length:Int):=hI.1
  subst h1
  unfold jY
  simp only
  rw[eN];rfl) (s:=(0,0)) ⟨rfl,0,rfl,by decide,fun j=>by simp⟩ (fW (by omega))
 unfold lg
 rw[ai e,h2,Zx (aI h3 (by decide))];simp only[aa]
 rw[JU h3 (by decide)]
 unfold zm lets
 rw[List.filter_map]
 congr 2
 refine List.filter_congr fun j _=>?_
 rw[Bool.eq_iff_iff,h4,List.take_length]
 exact IB.symm
theorem EH {x:Tr Tok} (h:WT x) (hx:(flat x).length<=24) {L:Nat} (hL:L<=3):dV (flat x) (L:Int)=some ((List.range (L+1)).flatMap fun j=>(wds lets j).filter (mB x)):=by
 have hal:=alpha h hx
 rw[XG h hx hL (Nat.le_trans (List.length_filter_le _ _) (by decide)) hal (fun c hc=>(uZ.1 (List.mem_filter.1 hc).1).1)]
 rw[List.flatMap_def,List.flatMap_def]
 congr 2
 refine List.map_congr_left fun j hj=>?_
 have hj4:=List.mem_range.1 hj
 rw[Bb (p:=isLt x) rfl j,List.filter_filter]
 refine List.filter_congr fun w hw=>?_
 obtain ⟨w1,w2⟩:=Ba lets j w hw
 by_cases c:mB x w=true
 ·rw[c,Bool.true_and,List.all_eq_true]
  obtain ⟨-,-,m3⟩:=Nz h hx (w:=w) (by omega) (fun k hk=>(uZ.1 (w2 k hk)).1)
  intro k hk
  have hk0:=(uZ.1 (w2 k hk)).1
  obtain ⟨t,t1,t2,t3⟩:=Xu h _ (m3.1 c) k.toNat (List.mem_map.2 ⟨k,hk,rfl⟩)
  rw[IB]
  have:=(Iq (Om h t t1) t2).1
  exact ⟨t,t1,t2,by omega⟩
 ·rw[Bool.not_eq_true] at c
  rw[c,Bool.false_and]
def rJ (w:List Int):Bool:=match dm w,cE w with
 | some g,some k=>decide (g=k)&&(!g.2 || ((match aQ g.1 with
  | some b=>b
  | none=>false)&&decide (g.1.1.length<=9/\g.1.2.length<=9)))
 | _,_=>false
end D
namespace D
open Go.RowKit
theorem Yd:(wds lets 0).all rJ=true:=by decide +kernel
theorem Ye:(wds lets 1).all rJ=true:=by decide +kernel
theorem Yf:(wds lets 2).all rJ=true:=by decide +kernel
theorem Yg:(wds lets 3).all rJ=true:=by decide +kernel
theorem Ry {n:Nat} (hn:n<=3): ∀w∈wds lets n,rJ w=true:=fun w hw=>by
 have h:n=0\/n=1\/n=2\/n=3:=by omega
 rcases h with rfl | rfl | rfl | rfl
 ·exact List.all_eq_true.1 Yd w hw
 ·exact List.all_eq_true.1 Ye w hw
 ·exact List.all_eq_true.1 Yf w hw
 ·exact List.all_eq_true.1 Yg w hw
end D
namespace D
open Go.RowKit
theorem so {x:Tr Tok} (h:WT x) (hx:(flat x).length<=24) {w:List Int} (hw:rJ w=true): ∃(g:GrT) (ok b:Bool),dm w=some (g,ok)/\cE w=some (g,ok)/\fF (flat x) w=some b/\aV (flat x) w=some b:=by
 unfold rJ at hw
 split at hw
 ·rename_i g k e1 e2
  rw[ah,decide_eq_true_eq] at hw
  obtain ⟨rfl,hv⟩:=hw
  obtain ⟨g,ok⟩:=g
  have vx:(decide ((flat x).length<=24)&&isX (flat x))=true:=by rw[nW h,decide_eq_true hx];rfl
  have vs:=dj (e:=flat x) (by omega)
  have vi:=dO (e:=flat x) (by omega)
  rw[vx] at vs vi
  cases ok with
  | false =>
   refine ⟨g,false,false,e1,e2,?_,?_⟩
   ·unfold fF;rw[e1];rfl
   ·unfold aV;rw[e2];rfl
  | true =>
   rw[Bool.not_true,Bool.false_or,ah,decide_eq_true_eq] at hv
   obtain ⟨hv,l1,l2⟩:=hv
   have l1:g.1.length<=9:=l1
   have l2:g.2.length<=9:=l2
   obtain ⟨bv,g1,k1⟩:=xy g (by omega) (by omega)
   have hv:(match aQ g with | some b=>b | none=>false)=true:=hv
   rw[g1] at hv
   obtain rfl:bv=true:=hv
   have g2:bj g=some true:=(rD g).trans g1
   have hfu:=fU
   obtain ⟨r,e3,e4,hr⟩:=CK (k1 rfl) g1 g2 h bP bP (by omega) (by omega) (by omega)
   have hl:r.length<=1073741824:=by have:=hr.len;omega
   have ew:i64.wrap ((g.1.length:Int) - 1)=(g.1.length:Int) - 1:=cZ (by omega) (by omega)
   refine ⟨g,true,decide (((0:Int),(g.1.length:Int) - 1)∈r),e1,e2,?_,?_⟩
   ·unfold fF
    have e4:bh bP (g.1,g.2) (flat x)=_:=e4
    rw[e1];simp only[aa,if_true]
    rw[vs];simp only[aa,if_true]
    rw[e4];simp only[aa]
    rw[XH hl,ew];rfl
   ·unfold aV bm
    have g1:aQ (g.1,g.2)=_:=g1
    have e3:aW bP x (g.1,g.2)=_:=e3
    rw[e2];simp only[aa,if_true]
    rw[g1];simp only[aa,if_true]
    rw[vi];simp only[aa,if_true]
    rw[pO (by omega),fT h];simp only[aa]
    rw[e3];simp only[aa,if_true]
    rw[Rb hl,ew];rfl
 ·cases hw
theorem IC {S R:Type} {f:S->Option (Out R S)} {ws:List (List Int)} {p:List Int->Bool} (st:Nat->S) (k:List Int->R) (hN:ws.length<=1000000) (h: ∀i (hi:i<ws.length),f (st i)=some (if p ws[i] then .ret (k ws[i]) else .nxt (st (i+1)))) (he: ∃s,f (st ws.length)=some (.brk s)):(∃w,ws.find? p=some w/\ax f aR (st 0)=some (.ret (k w)))\/(ws.find? p=none/\ ∃s,ax f aR (st 0)=some (.brk s)):=by
 obtain ⟨o,e,hQ⟩:=cj (f:=f) (fun i s=>s=st i/\ws.find? p=(ws.drop i).find? p) (fun o=>(∃w,ws.find? p=some w/\o= .ret (k w))\/(ws.find? p=none/\ ∃s,o= .brk s)) ws.length (fun i s hi hI=>by
  obtain ⟨rfl,hI⟩:=hI
  rcases Nat.lt_or_ge i ws.length with c | c
  ·have e:=h i c
   rw[List.drop_eq_getElem_cons c,List.find?_cons] at hI
   cases hp:p ws[i] with
   | true =>
    rw[hp] at hI e
    exact .inr ⟨_,e,(fun s' h=>by cases h),.inl ⟨_,hI,rfl⟩⟩
   | false =>
    rw[hp] at hI e
    exact .inl ⟨c,_,e,rfl,hI⟩
  ·obtain rfl:i=ws.length:=by omega
   obtain ⟨s,e⟩:=he
   rw[List.drop_length] at hI
   exact .inr ⟨_,e,(fun s' h=>by cases h),.inr ⟨hI,s,rfl⟩⟩) (s:=st 0) ⟨rfl,by rw[List.drop_zero]⟩ (fW (by omega))
 rcases hQ with ⟨w,h1,rfl⟩ | ⟨h1,s,rfl⟩
 ·exact .inl ⟨w,h1,e⟩
 ·exact .inr ⟨h1,s,e⟩
def upW (x:Tr Tok) (L:Nat):List (List Int):=(List.range (L+1)).flatMap fun j=>(wds lets j).filter (mB x)
theorem VI (x:Tr Tok) {L:Nat} (hL:L<=3):(upW x L).length<=3000:=by
 have:=vc (fun j=>(wds lets j).filter (mB x)) (fun j hj=>Nat.le_trans (List.length_filter_le _ _) (wh lets (by decide) j hj)) (L+1) (by omega)
 have h2:729*(L+1)<=729*4:=Nat.mul_le_mul_left _ (by omega)
 unfold upW;omega
theorem CR (x:Tr Tok) {L:Nat} (hL:L<=3): ∀w∈upW x L,rJ w=true:=fun w hw=>by
 obtain ⟨j,hj,hw⟩:=List.mem_flatMap.1 hw
 exact Ry (by have:=List.mem_range.1 hj;omega) w (List.mem_filter.1 hw).1
def E7 (y:Tr Tok) (w:List Int):Bool:=match dm w,fF (flat y) w with
 | some g,some b=>g.2 && !b
 | _,_=>false
theorem GK {x y:Tr Tok} (hx:WT x) (hy:WT y) (lx:(flat x).length<=24) (ly:(flat y).length<=24) {L:Nat} (hL:L<=3): ∃r:List Int×Bool,bU (flat x) (flat y) (L:Int)=some r/\bV (flat x) (flat y) (L:Int)=some r/\(r.2=true->r.1∈upW x L/\E7 y r.1=true)/\(r.2=false->r.1= []):=by
 have vx:(decide ((flat y).length<=24)&&isX (flat y))=true:=by rw[nW hy,decide_eq_true ly];rfl
 have vs:=dj (e:=flat y) (by omega)
 have vi:=dO (e:=flat y) (by omega)
 rw[vx] at vs vi
 have us:dV (flat x) (L:Int)=some (upW x L):=EH hx lx hL
 have ui:fe (flat x) (L:Int)=some (upW x L):=XF hx lx hL
 have hl:=VI x hL
 have hw:=CR x hL
 unfold bU bV
 rw[us,vi,ui];simp only[aa,if_true]
 generalize upW x L=ws at hl hw⊢
 have A:=IC (f:=bA (flat y) ws) (ws:=ws) (p:=E7 y) (fun i=>(i:Int)) (fun w=>(w,true)) (by omega) (fun i hi=>by
  obtain ⟨g,ok,b,h1,h2,h3,h4⟩:=so hy ly (hw _ (List.getElem_mem hi))
  have hb:E7 y ws[i] =(ok && !b):=by unfold E7;rw[h1,h3]
  unfold bA
  rw[fg hi,if_pos rfl,vs,aZ hi];simp only[aa,if_true]
  rw[h1,hb];simp only[aa]
  cases ok with
  | false=>simp only[Bool.false_eq_true,if_false,Bool.false_and];rw[af (by omega)]
  | true =>
   simp only[if_true]
   rw[h3];simp only[aa]
   cases b with
   | false=>rfl
   | true=>simp only[if_true,Bool.not_true,Bool.and_false,Bool.false_eq_true,if_false];rw[af (by omega)]) ⟨_,by
  unfold bA
  rw[eN];rfl⟩
 have B:=IC (f:=bJ (flat y) ws) (ws:=ws) (p:=E7 y) (fun i=>(i:Int)) (fun w=>(w,true)) (by omega) (fun i hi=>by
  obtain ⟨g,ok,b,h1,h2,h3,h4⟩:=so hy ly (hw _ (List.getElem_mem hi))
  have hb:E7 y ws[i] =(ok && !b):=by unfold E7;rw[h1,h3]
  unfold bJ
  rw[fg hi,if_pos rfl,aZ hi];simp only[aa]
  rw[h2,hb];simp only[aa]
  cases ok with
  | false=>simp only[Bool.false_eq_true,if_false,Bool.false_and];rw[af (by omega)]
  | true =>
   simp only[if_true]
   rw[h4];simp only[aa]
   cases b with
   | false=>rfl
   | true=>simp only[if_true,Bool.not_true,Bool.and_false,Bool.false_eq_true,if_false];rw[af (by omega)]) ⟨_,by
  unfold bJ
  rw[eN];rfl⟩
 have A':(∃w,ws.find? (E7 y)=some w/\ax (bA (flat y) ws) aR 0=some (.ret (w,true)))\/(ws.find? (E7 y)=none/\ ∃s,ax (bA (flat y) ws) aR 0=some (.brk s)):=A
 have B':(∃w,ws.find? (E7 y)=some w/\ax (bJ (flat y) ws) aR 0=some (.ret (w,true)))\/(ws.find? (E7 y)=none/\ ∃s,ax (bJ (flat y) ws) aR 0=some (.brk s)):=B
 rcases A' with ⟨w,a1,a2⟩ | ⟨a1,s,a2⟩
 ·rcases B' with ⟨w',b1,b2⟩ | ⟨b1,s',b2⟩
  ·rw[a1] at b1
   obtain rfl:=ae b1
   rw[bM a2,bM b2]
   exact ⟨_,rfl,rfl,fun _=>⟨List.mem_of_find?_eq_some a1,List.find?_some a1⟩,fun h=>by cases h⟩
  ·rw[a1] at b1;cases b1
 ·rcases B' with ⟨w',b1,b2⟩ | ⟨b1,s',b2⟩
  ·rw[a1] at b1;cases b1
  ·rw[ai a2,ai b2]
   exact ⟨_,rfl,rfl,(fun h=>by cases h),fun _=>rfl⟩
end D
namespace D
open Go.RowKit
inductive PW (g:GrT):Nat->Nat->List Nat->Prop
 | nil (x:Nat):PW g x x []
 | test {x y:Nat} {w:List Nat} :PW g x y w->PW g x y ((6+nth g.1 (x:Int)).toNat::w)
 | step {x y:Nat} {w:List Nat} (z:ArT) (hz:z∈arcL g.2 x):PW g z.2.2.toNat y w->PW g x y (z.2.1.toNat::w)
theorem PW.trans {g:GrT} {x y z:Nat} {u w:List Nat} (h:PW g x y u) (k:PW g y z w):PW g x z (u++w):=by
 induction h with
 | nil x=>exact k
 | test _ ih=>exact (ih k).test
 | step t ht _ ih=>exact (ih k).step t ht
theorem PW.lt9 {g:GrT} (G:GOk g) {x y:Nat} {w:List Nat} (h:PW g x y w):x<g.1.length-> ∀k∈w,k<9:=by
 induction h with
 | nil x=>intro _ k hk;cases hk
 | @test x y w _ ih =>
  intro hx k hk
  rcases az hk with rfl | hk
  ·have:=G.val _ (cO (xs:=g.1) (i:=(x:Int)) (by omega) (by omega))
   omega
  ·exact ih hx k hk
 | step t ht _ ih =>
  intro hx k hk
  obtain ⟨h1,h2⟩:=NQ G ht
  rcases az hk with rfl | hk
  ·omega
  ·exact ih (by omega) k hk
theorem PW.end_lt {g:GrT} (G:GOk g) {x y:Nat} {w:List Nat} (h:PW g x y w):x<g.1.length->y<g.1.length:=by
 induction h with
 | nil x=>exact id
 | test _ ih=>exact ih
 | step t ht _ ih =>
  intro hx
  obtain ⟨h1,h2⟩:=NQ G ht
  exact ih (by omega)
end D
namespace D
open Go.RowKit
theorem VJ {l:List Pr} (h:InR l):fc l=some true:=by
 have hlen:=h.len
 have ok: ∀i (hi:i<l.length),(0<=l[i].1/\l[i].1<=4)/\0<=l[i].2/\l[i].2<=4:=fun i hi=>by
  have:=h.rng _ (List.getElem_mem hi);omega
 have:=aP (f:=cJ l) (fun i=>(i:Int)) l.length (fun i hi=>by
  obtain ⟨⟨c1,c2⟩,c3,c4⟩:=ok i hi
  unfold cJ bc
  rw[fg hi,if_pos rfl,aZ hi,af (by omega)]
  have c1:l[i].1≥0:=c1
  have c3:l[i].2≥0:=c3
  by_cases c5:(i:Int)>0
  ·have hp:i64.wrap ((i:Int) - 1)=((i - 1:Nat):Int):=by rw[cZ (by omega) (by omega)];omega
   obtain ⟨r,er,hr⟩:=Vl l[i - 1] l[i]
   have hlt:ltP l[i - 1] l[i]:=(List.pairwise_iff_getElem.1 h.str) (i - 1) i (by omega) hi (by omega)
   have hr':decide (r≥0)=false:=decide_eq_false fun c=>(hr.1 c) hlt
   simp only[aa,c1,c2,c3,c4,c5,decide_true,if_true,hp,aZ (show i - 1<l.length by omega),jB,er,hr',Bool.false_eq_true,if_false]
  ·simp only[aa,c1,c2,c3,c4,c5,decide_true,if_true,decide_false,Bool.false_eq_true,if_false]) (by
  unfold cJ
  rw[eN];rfl) (fW (by omega))
 have this:ax (cJ l) aR 0=_:=this
 unfold fc
 exact ai this
theorem EI {l:List Pr} (h:InR l):fX l=some true:=CF.trans (VJ h)
theorem PW.nil_iff {g:GrT} {i j:Nat} :PW g i j [] ↔i=j:=⟨fun h=>by cases h;rfl,fun h=>by subst h;exact .nil _⟩
theorem PW.cons_iff {g:GrT} {i j k:Nat} {w:List Nat} :PW g i j (k::w)↔(k=(6+nth g.1 (i:Int)).toNat/\PW g i j w)\/ ∃z∈arcL g.2 i,k=z.2.1.toNat/\PW g z.2.2.toNat j w:=by
 constructor
 ·intro h
  cases h with
  | test h=>exact .inl ⟨rfl,h⟩
  | step z hz h=>exact .inr ⟨z,hz,rfl,h⟩
 ·rintro (⟨rfl,h⟩ | ⟨z,hz,rfl,h⟩)
  ·exact h.test
  ·exact h.step z hz
theorem PW.split {g:GrT} {j:Nat} {v:List Nat} : ∀ {u:List Nat} {i:Nat},PW g i j (u++v)-> ∃z,PW g i z u/\PW g z j v
 | [],i,h=>⟨i,.nil i,h⟩
 | k::u,i,h=>by
  rcases PW.cons_iff.1 h with ⟨h1,h2⟩ | ⟨z,hz,h1,h2⟩
  ·obtain ⟨y,h3,h4⟩:=PW.split h2
   exact ⟨y,PW.cons_iff.2 (.inl ⟨h1,h3⟩),h4⟩
  ·obtain ⟨y,h3,h4⟩:=PW.split h2
   exact ⟨y,PW.cons_iff.2 (.inr ⟨z,hz,h1,h3⟩),h4⟩
def vk (g:GrT) (A:Lg) (r:List Pr):Prop:= ∀p:Pr,p∈r↔ ∃(i j:Nat) (w:List Nat),p=((i:Int),(j:Int))/\i<g.1.length/\PW g i j w/\A w
section
variable {g:GrT} (G:GOk g)
include G
theorem SR:vk g (fun w=>w= []) (idR g.1.length):=fun p=>by
 rw[zq]
 constructor
 ·rintro ⟨h1,h2,h3⟩
  obtain ⟨i,hi⟩: ∃i:Nat,p.1=(i:Int):=⟨_,(Int.toNat_of_nonneg h2).symm⟩
  exact ⟨i,i,[],Prod.ext hi (by rw[<-h1];exact hi),by omega,.nil i,rfl⟩
 ·rintro ⟨i,j,w,rfl,h1,h2,rfl⟩
  obtain rfl:=PW.nil_iff.1 h2
  exact ⟨rfl,by show (0:Int)<=(i:Int);omega,by show (i:Int)<_;omega⟩
theorem VK {c:Int} (hc:0<=c/\c<=8):vk g (fun w=>w= [c.toNat]) (SI g c):=fun p=>by
 unfold SI
 rw[jy,jy,vf,List.mem_flatMap]
 constructor
 ·rintro ((h | ⟨i,h1,h2,rfl⟩) | ⟨ed,hed,h⟩)
  ·cases h
  ·unfold zr at h2
   have h2:=of_decide_eq_true h2
   refine ⟨i,i,[c.toNat],rfl,h1,PW.cons_iff.2 (.inl ⟨by omega,.nil i⟩),rfl⟩
  ·have hg:=G.edge ed hed
   rcases zu.1 h with ⟨e,rfl⟩ | ⟨e,rfl⟩
   ·have h1:((ed.2.1.toNat:Nat):Int)=ed.2.1:=by omega
    have h2:((ed.2.2.1.toNat:Nat):Int)=ed.2.2.1:=by omega
    refine ⟨ed.2.1.toNat,ed.2.2.1.toNat,[c.toNat],by rw[h1,h2],by omega,PW.cons_iff.2 (.inr ⟨fwd ed,List.mem_flatMap.2 ⟨ed,hed,?_⟩,?_,?_⟩),rfl⟩
    ·unfold NJ
     rw[if_pos h1.symm]
     exact List.mem_append.2 (.inl (List.mem_singleton.2 rfl))
    ·rw[<-e];rfl
    ·exact .nil _
   ·have h1:((ed.2.1.toNat:Nat):Int)=ed.2.1:=by omega
    have h2:((ed.2.2.1.toNat:Nat):Int)=ed.2.2.1:=by omega
    refine ⟨ed.2.2.1.toNat,ed.2.1.toNat,[c.toNat],by rw[h1,h2],by omega,PW.cons_iff.2 (.inr ⟨inv ed,List.mem_flatMap.2 ⟨ed,hed,?_⟩,?_,?_⟩),rfl⟩
    ·unfold NJ
     rw[if_pos (c:=ed.2.2.1=_) h2.symm]
     exact List.mem_append.2 (.inr (List.mem_singleton.2 rfl))
    ·rw[<-e];rfl
    ·exact .nil _
 ·rintro ⟨i,j,w,rfl,hi,h,rfl⟩
  rcases PW.cons_iff.1 h with ⟨h1,h2⟩ | ⟨z,hz,h1,h2⟩
  ·obtain rfl:=PW.nil_iff.1 h2
   have hv:=G.val _ (cO (xs:=g.1) (i:=(i:Int)) (by omega) (by omega))
   exact .inl (.inr ⟨i,hi,by unfold zr;exact decide_eq_true (by omega),rfl⟩)
  ·have hj:=PW.nil_iff.1 h2
   obtain ⟨k1,k2⟩:=NQ G hz
   obtain ⟨ed,hed,hy⟩:=List.mem_flatMap.1 hz
   have hg:=G.edge ed hed
   refine .inr ⟨ed,hed,zu.2 ?_⟩
   unfold NJ at hy
   rcases aH hy with hy | hy <;> split at hy
   ·rename_i hf
    obtain rfl:=ak hy
    have h3:(fwd ed).2.1=2*ed.2.2.2:=rfl
    have h4:(fwd ed).2.2=ed.2.2.1:=rfl
    refine .inl ⟨by omega,?_⟩
    rw[hf]
    refine Prod.ext rfl ?_
    show (j:Int)=ed.2.2.1
    omega
   ·cases hy
   ·rename_i hf
    obtain rfl:=ak hy
    have h3:(inv ed).2.1=2*ed.2.2.2+1:=rfl
    have h4:(inv ed).2.2=ed.2.1:=rfl
    refine .inr ⟨by omega,?_⟩
    rw[hf]
    refine Prod.ext rfl ?_
    show (j:Int)=ed.2.1
    omega
   ·cases hy
theorem On {A B:Lg} {a b:List Pr} (ha:vk g A a) (hb:vk g B b):vk g (tO A B) (SH a b):=fun p=>by
 rw[xA]
 constructor
 ·rintro ⟨z,h1,h2⟩
  obtain ⟨i,j,u,e1,h3,h4,h5⟩:=(ha _).1 h1
  obtain ⟨i',j',v,e2,h6,h7,h8⟩:=(hb _).1 h2
  have e3:p.1=(i:Int):=congrArg Prod.fst e1
  have e4:z=(j:Int):=congrArg Prod.snd e1
  have e5:z=(i':Int):=congrArg Prod.fst e2
  have e6:p.2=(j':Int):=congrArg Prod.snd e2
  obtain rfl:j=i':=by omega
  exact ⟨i,j',u++v,Prod.ext e3 e6,h3,h4.trans h7,u,v,rfl,h5,h8⟩
 ·rintro ⟨i,j,w,rfl,h1,h2,u,v,rfl,h3,h4⟩
  obtain ⟨z,h5,h6⟩:=h2.split
  exact ⟨(z:Int),(ha _).2 ⟨i,z,u,rfl,h1,h5,h3⟩,(hb _).2 ⟨z,j,v,rfl,h5.end_lt G h1,h6,h4⟩⟩
theorem VL {A B:Lg} {a b:List Pr} (ha:vk g A a) (hb:vk g B b):vk g (fun w=>A w\/B w) (Wd a b):=fun p=>by
 rw[CH]
 constructor
 ·rintro (h | h)
  ·obtain ⟨i,j,u,e1,h3,h4,h5⟩:=(ha _).1 h
   exact ⟨i,j,u,e1,h3,h4,.inl h5⟩
  ·obtain ⟨i,j,u,e1,h3,h4,h5⟩:=(hb _).1 h
   exact ⟨i,j,u,e1,h3,h4,.inr h5⟩
 ·rintro ⟨i,j,w,e1,h1,h2,h3 | h3⟩
  ·exact .inl ((ha _).2 ⟨i,j,w,e1,h1,h2,h3⟩)
  ·exact .inr ((hb _).2 ⟨i,j,w,e1,h1,h2,h3⟩)
end
def Rz (n:Nat) (l:List Pr):Nat->List Pr
 | 0=>idR n
 | k+1=>SH (Rz n l k) l
theorem Oo {n:Nat} {l:List Pr} (hn:n<=5) (hl:InR l): ∀k,InR (Rz n l k)
 | 0=>Bc hn
 | k+1=>rC (Oo hn hl k) hl
section
variable {g:GrT} (G:GOk g) {A:Lg} {l:List Pr} (hl:InR l) (hA:vk g A l)
include G hl hA
omit hl in
theorem zB: ∀k,vk g (zh A k) (Rz g.1.length l k)
 | 0=>SR G
 | k+1=>by
  rw[pd]
  exact On G (zB k) hA
omit hl hA in
theorem zC {p:Pr} : ∀k,p∈lG g.1.length l k↔ ∃j,j<=k/\p∈Rz g.1.length l j
 | 0=>by
  show p∈idR _↔_
  constructor
  ·intro h;exact ⟨0,ay _,h⟩
  ·rintro ⟨j,hj,h⟩
   obtain rfl:j=0:=by omega
   exact h
 | k+1=>by
  rw[nY,zC k]
  constructor
  ·rintro (⟨j,h1,h2⟩ | ⟨z,h1,h2⟩)
   ·exact ⟨j,by omega,h2⟩
   ·obtain ⟨j,h3,h4⟩:=(zC (p:=(p.1,z)) k).1 h1
    exact ⟨j+1,by omega,xA.2 ⟨z,h4,h2⟩⟩
  ·rintro ⟨j,h1,h2⟩
   match j,h1,h2 with
   | 0,_,h2=>exact .inl ⟨0,by omega,h2⟩
   | j+1,h1,h2 =>
    obtain ⟨z,h3,h4⟩:=xA.1 h2
    exact .inr ⟨z,(zC (p:=(p.1,z)) k).2 ⟨j,by omega,h3⟩,h4⟩
theorem VM:vk g (zi A) (lG g.1.length l 5):=fun p=>by
 have hn:=G.n5
 constructor
 ·intro h
  obtain ⟨j,-,h2⟩:=(zC G 5).1 h
  obtain ⟨i,z,w,e,h3,h4,h5⟩:=(zB G hA j p).1 h2
  exact ⟨i,z,w,e,h3,h4,j,h5⟩
 ·rintro ⟨i,z,w,e,h3,h4,j,h5⟩
  have h6:=(zC G (5+j)).2 ⟨j,by omega,(zB G hA j p).2 ⟨i,z,w,e,h3,h4,h5⟩⟩
  have h7:lG g.1.length l (5+1)=lG g.1.length l 5:=by
   have h8:=Ip hn hl
   have:lG g.1.length l (4+1)=lG g.1.length l 4:=h8
   have h9:=xB this 2
   rw[show 4+2=5+1 from rfl] at h9
   rw[h9,<-h8]
  rwa [xB h7 j] at h6
theorem Yh:db (g.1.length:Int) l=some (lG g.1.length l 5):=by
 have hn:=G.n5
 have h1:=G.n1
 unfold db
 rw[HZ];simp only[aa]
 rw[if_pos (by simp;omega),EI hl];simp only[aa,if_true]
 rw[We hn];simp only[aa]
 rw[ai (NP hn hl)]
theorem Yi {low high:Int} (hh:0<=high/\high<=3) (hw:0<=low): ∃r,eh (g.1.length:Int) l low high=some r/\InR r/\vk g (fun w=> ∃n:Nat,low<=(n:Int)/\(n:Int)<=high/\zh A n w) r:=by
 have hn:=G.n5
 have h1:=G.n1
 have hlen:=hl.len
 unfold eh
 have hnn:decide (1<=(g.1.length:Int)/\(g.1.length:Int)<=5)=true:=decide_eq_true ⟨by omega,by omega⟩
 have hh':decide (0<=high/\high<=3)=true:=decide_eq_true hh
 have hlo:decide (low<0)=false:=decide_eq_false (by omega)
 simp only[HZ,aa,hnn,if_true,EI hl,hh',hlo,Bool.false_eq_true,if_false]
 rw[We hn];simp only[aa]
 obtain ⟨s',e,i1,i2,i3,i4⟩:=a7 (f:=bg l low high) (fun i (s:List Pr×List Pr×Int)=>InR s.1/\s.2.1=Rz g.1.length l i/\s.2.2=(i:Int)/\ ∀p,p∈s.1↔ ∃k:Nat,k<i/\low<=(k:Int)/\p∈Rz g.1.length l k) (high.toNat+1) (by
  rintro i ⟨o,x,k⟩ hi ⟨h1,h2,h3,h4⟩
  have h2:x=Rz g.1.length l i:=h2
  have h3:k=(i:Int):=h3
  have h4: ∀p,p∈o↔ ∃k:Nat,k<i/\low<=(k:Int)/\p∈Rz g.1.length l k:=h4
  have h1:InR o:=h1
  subst h2;subst h3
  have hx:=Oo hn hl i
  have l1:o.length<=25:=h1.len
  have l2:=hx.len
  unfold bg
  simp only
  rw[if_pos (decide_eq_true (show (i:Int)<=high by omega)),NM (by omega) (by omega),af (show i<9223372036854775807 by omega)]
  rw[zn (a:=o) (by omega) (by omega)]
  by_cases d:(i:Int)≥low
  ·simp only[decide_eq_true d,if_true,aa]
   refine ⟨_,rfl,zp h1 hx,rfl,rfl,fun p=>?_⟩
   show p∈Wd o (Rz g.1.length l i)↔_
   rw[CH,h4]
   constructor
   ·rintro (⟨k,h5,h6⟩ | h5)
    ·exact ⟨k,by omega,h6⟩
    ·exact ⟨i,by omega,d,h5⟩
   ·rintro ⟨k,h5,h6,h7⟩
    by_cases c:k=i
    ·subst c;exact .inr h7
    ·exact .inl ⟨k,by omega,h6,h7⟩
  ·simp only[decide_eq_false d,Bool.false_eq_true,if_false,aa]
   refine ⟨_,rfl,h1,rfl,rfl,fun p=>?_⟩
   show p∈o↔_
   rw[h4]
   constructor
   ·rintro ⟨k,h5,h6⟩
    exact ⟨k,by omega,h6⟩
   ·rintro ⟨k,h5,h6,h7⟩
    have:k≠i:=by rintro rfl;omega
    exact ⟨k,by omega,h6,h7⟩) (by
  rintro ⟨o,x,k⟩ ⟨h1,h2,h3,h4⟩
  have h3:k=((high.toNat+1:Nat):Int):=h3
  unfold bg
  simp only
  rw[if_neg (by simp;omega)]) (s:=(([] :List Pr),idR g.1.length,(0:Int))) ⟨InR.nil,rfl,rfl,fun p=>by simp⟩ (fW (by omega))
 rw[ai e]
 refine ⟨_,rfl,i1,fun p=>?_⟩
 rw[i4]
 constructor
 ·rintro ⟨k,h5,h6,h7⟩
  obtain ⟨i,z,w,e,h8,h9,h10⟩:=(zB G hA k p).1 h7
  exact ⟨i,z,w,e,h8,h9,k,h6,by omega,h10⟩
 ·rintro ⟨i,z,w,e,h8,h9,k,h5,h6,h10⟩
  exact ⟨k,by omega,h5,(zB G hA k p).2 ⟨i,z,w,e,h8,h9,h10⟩⟩
end
section
variable {g:GrT} (G:GOk g) (hi:aQ g=some true) (hs:bj g=some true)
include G hi hs
theorem CS {x:Tr Tok} (h:WT x): ∀m,(flat x).length<=m->(flat x).length<=1000000-> ∃r,bh m g (flat x)=some r/\InR r/\vk g (LX x) r:=by
 refine WT.ind (p:=fun x=> ∀m,(flat x).length<=m->(flat x).length<=1000000-> ∃r,bh m g (flat x)=some r/\InR r/\vk g (LX x) r) ?_ ?_ ?_ h
 ·intro t e m hm hl
  rw[rv] at hm hl⊢
  match m,hm with
  | m+1,_ =>
   rw[bh]
   have:=(eH (A:=[]) (t:=t) (by simp)).1
   rw[List.nil_append] at this
   rw[this];simp only[aa,jB]
   rcases dY (show 0<=ar t by omega) with ⟨e',k⟩ | ⟨e',k⟩ | ⟨_,k | k | k⟩
   ·omega
   ·omega
   ·simp only[k,Int.reduceBEq,Bool.false_eq_true,if_false]
    refine ⟨[],rfl,InR.nil,fun p=>?_⟩
    rw[LX0];simp[opL,k]
   ·simp only[k,Int.reduceBEq,if_true]
    rw[We G.n5]
    have:LX (.node t [])=fun w=>w= []:=by
     funext w;rw[LX0];simp[opL,k]
    rw[this]
    exact ⟨_,rfl,Bc G.n5,SR G⟩
   ·have hc:=Iq (show 0<=ar t by omega) k
    simp only[k,Int.reduceBEq,if_true,Bool.false_eq_true,if_false]
    rw[XN G hi hs hc]
    have:LX (.node t [])=fun w=>w= [t.2.1.toNat]:=by
     funext w;rw[LX0];simp[opL,k]
    rw[this]
    exact ⟨_,rfl,SJ G hi hs hc,VK G hc⟩
 ·intro t a e wa ih m hm hl
  rw[pb] at hm hl⊢
  simp only[al,aB,aA] at hm hl
  match m,hm with
  | m+1,hm =>
   obtain ⟨ra,sa,ha,hA⟩:=ih m (by omega) (by omega)
   rw[bh]
   obtain ⟨l1,l2⟩:=eH (A:=flat a) (t:=t) (by omega)
   rw[l1,l2,Int.toNat_natCast,List.take_left];simp only[aa,jB]
   rw[sa];simp only[aa]
   rw[dZ (by simp only[al,aB,aA];omega)];simp only[aa]
   rcases dY (show 0<=ar t by omega) with ⟨e',k⟩ | ⟨_,k | k⟩ | ⟨e',k⟩
   ·omega
   ·simp only[k,Int.reduceBEq,if_true,Bool.false_eq_true,if_false]
    rw[Yh G ha hA]
    have:LX (.node t [a])=zi (LX a):=by
     funext w;rw[LX1];simp[opL,k]
    rw[this]
    exact ⟨_,rfl,jF G.n5 ha 5,VM G ha hA⟩
   ·have h7:=qj (show 0<=ar t by omega) k
    simp only[k,Int.reduceBEq,if_true,Bool.false_eq_true,if_false]
    obtain ⟨r,e1,hr,hR⟩:=Yi G ha hA (low:=t.2.2.1) (high:=t.2.2.2) ⟨by omega,by omega⟩ h7.1.1
    rw[e1]
    have:LX (.node t [a])=fun w=> ∃n:Nat,t.2.2.1<=(n:Int)/\(n:Int)<=t.2.2.2/\zh (LX a) n w:=by
     funext w;rw[LX1];simp[opL,k]
    rw[this]
    exact ⟨r,rfl,hr,hR⟩
   ·omega
 ·intro t a b e wa wb iha ihb m hm hl
  rw[kl] at hm hl⊢
  obtain ⟨p1,p2,p3,p4⟩:=pc (a:=a) (t:=t) wb hl
  simp only[al,aB,aA] at hm hl
  match m,hm with
  | m+1,hm =>
   obtain ⟨ra,sa,ha,hA⟩:=iha m (by omega) (by omega)
   obtain ⟨rb,sb,hb,hB⟩:=ihb m (by have:=wa.pos;omega) (by omega)
   have la:=ha.len
   have lb:=hb.len
   rw[bh]
   obtain ⟨l1,l2⟩:=eH (A:=flat a++flat b) (t:=t) (by rw[al];omega)
   rw[l1,l2,p1];simp only[aa,jB]
   rw[p2,dZ (by simp only[al,aB,aA];omega)];simp only[aa]
   rw[dZ (by simp only[al,aB,aA];omega),p3,p4];simp only[aa]
   rw[sa,sb];simp only[aa]
   rw[dZ (by simp only[al,aB,aA];omega)];simp only[aa]
   rcases dY (show 0<=ar t by omega) with ⟨_,k | k⟩ | ⟨e',k⟩ | ⟨e',k⟩
   ·simp only[k,Int.reduceBEq,if_true,Bool.false_eq_true,if_false]
    rw[NM (by omega) (by omega)]
    have:LX (.node t [a,b])=tO (LX a) (LX b):=by
     funext w;rw[LX2];simp[opL,k]
    rw[this]
    exact ⟨_,rfl,rC ha hb,On G hA hB⟩
   ·simp only[k,Int.reduceBEq,if_true,Bool.false_eq_true,if_false]
    rw[zn (by omega) (by omega)]
    have:LX (.node t [a,b])=fun w=>LX a w\/LX b w:=by
     funext w;rw[LX2];simp[opL,k]
    rw[this]
    exact ⟨_,rfl,zp ha hb,VL G hA hB⟩
   ·omega
   ·omega
end
end D
namespace D
open Go.RowKit
inductive Pth (F:Nat->Nat->Prop) (lt:Nat->Nat) (la:Nat->Prop):Nat->List Nat->Prop
 | last {i:Nat} :la i->Pth F lt la i [lt i]
 | cons {i j:Nat} {w:List Nat} :F i j->Pth F lt la j w->Pth F lt la i (lt i::w)
def GL (nu:Prop) (fi la:Nat->Prop) (F:Nat->Nat->Prop) (lt:Nat->Nat):Lg:=fun w=>(nu/\w= [])\/ ∃i,fi i/\Pth F lt la i w
theorem Pth.ne {F:Nat->Nat->Prop} {lt:Nat->Nat} {la:Nat->Prop} {i:Nat} {w:List Nat} (h:Pth F lt la i w):w≠ []:=by cases h <;> simp
theorem Pth.iff {F:Nat->Nat->Prop} {lt:Nat->Nat} {la:Nat->Prop} {i k:Nat} {w:List Nat} :Pth F lt la i (k::w)↔lt i=k/\((w= [] /\la i)\/ ∃j,F i j/\Pth F lt la j w):=by
 constructor
 ·intro h
  cases h with
  | last h=>exact ⟨rfl,.inl ⟨rfl,h⟩⟩
  | cons h1 h2=>exact ⟨rfl,.inr ⟨_,h1,h2⟩⟩
 ·rintro ⟨rfl,⟨rfl,h⟩ | ⟨j,h1,h2⟩⟩
  ·exact .last h
  ·exact .cons h1 h2
theorem Pth.sim {F F':Nat->Nat->Prop} {lt lt':Nat->Nat} {la la' S:Nat->Prop} {i:Nat} {w:List Nat} (h:Pth F lt la i w) (hF: ∀i j,S i->F i j->F' i j/\S j) (hl: ∀i,S i->la i->la' i) (ht: ∀i,S i->lt i=lt' i):S i->Pth F' lt' la' i w:=by
 induction h with
 | last h=>intro hs;rw[ht _ hs];exact .last (hl _ hs h)
 | cons h1 _ ih =>
  intro hs
  rw[ht _ hs]
  obtain ⟨h2,h3⟩:=hF _ _ hs h1
  exact .cons h2 (ih h3)
structure Two (SA SB:Nat->Prop) (F FA FB:Nat->Nat->Prop) (lt ltA ltB:Nat->Nat) (fiA fiB laA laB:Nat->Prop):Prop where
 ca: ∀i j,SA i->FA i j->SA j
 cb: ∀i j,SB i->FB i j->SB j
 fa: ∀i,fiA i->SA i
 fb: ∀i,fiB i->SB i
 ta: ∀i,SA i->lt i=ltA i
 tb: ∀i,SB i->lt i=ltB i
section
variable {SA SB:Nat->Prop} {F FA FB:Nat->Nat->Prop} {lt ltA ltB:Nat->Nat} {fi la fiA fiB laA laB:Nat->Prop} {nuA nuB:Prop} (T:Two SA SB F FA FB lt ltA ltB fiA fiB laA laB) (hB: ∀i j,SB i->(F i j↔FB i j)) (lB: ∀i,SB i->(la i↔laB i))
include T hB lB
theorem Two.inB {i:Nat} {w:List Nat} (hi:SB i):Pth F lt la i w↔Pth FB ltB laB i w:=
 ⟨fun h=>h.sim (S:=SB) (fun i j hs hf=>⟨(hB i j hs).1 hf,T.cb i j hs ((hB i j hs).1 hf)⟩) (fun i hs hl=>(lB i hs).1 hl) (fun i hs=>T.tb i hs) hi,fun h=>h.sim (S:=SB) (fun i j hs hf=>⟨(hB i j hs).2 hf,T.cb i j hs hf⟩) (fun i hs hl=>(lB i hs).2 hl) (fun i hs=>(T.tb i hs).symm) hi⟩
theorem Two.split (hA: ∀i j,SA i->(F i j↔FA i j\/(laA i/\fiB j))) (lA: ∀i,SA i->(la i↔nuB/\laA i)) {i:Nat} {w:List Nat} (h:Pth F lt la i w):SA i->(nuB/\Pth FA ltA laA i w)\/ ∃u v j,w=u++v/\Pth FA ltA laA i u/\fiB j/\Pth FB ltB laB j v:=by
 induction h with
 | @last i h =>
  intro hs
  obtain ⟨h1,h2⟩:=(lA i hs).1 h
  rw[T.ta i hs]
  exact .inl ⟨h1,.last h2⟩
 | @cons i j w h k ih =>
  intro hs
  rw[T.ta i hs]
  rcases (hA i j hs).1 h with h1 | ⟨h1,h2⟩
  ·rcases ih (T.ca i j hs h1) with ⟨h3,h4⟩ | ⟨u,v,j',rfl,h3,h4,h5⟩
   ·exact .inl ⟨h3,.cons h1 h4⟩
   ·exact .inr ⟨ltA i::u,v,j',rfl,.cons h1 h3,h4,h5⟩
  ·exact .inr ⟨[ltA i],w,j,rfl,.last h1,h2,(T.inB hB lB (T.fb j h2)).1 k⟩
theorem Two.join (hA: ∀i j,SA i->(F i j↔FA i j\/(laA i/\fiB j))) {i:Nat} {u v:List Nat} (h:Pth FA ltA laA i u) {j:Nat} (hj:fiB j) (k:Pth FB ltB laB j v):SA i->Pth F lt la i (u++v):=by
 induction h with
 | @last i h =>
  intro hs
  rw[<-T.ta i hs]
  exact .cons ((hA i j hs).2 (.inr ⟨h,hj⟩)) ((T.inB hB lB (T.fb j hj)).2 k)
 | @cons i j' w h _ ih =>
  intro hs
  rw[<-T.ta i hs]
  exact .cons ((hA i j' hs).2 (.inl h)) (ih (T.ca i j' hs h))
theorem Yj (hA: ∀i j,SA i->(F i j↔FA i j\/(laA i/\fiB j))) (lA: ∀i,SA i->(la i↔nuB/\laA i)) (hf: ∀i,fi i↔fiA i\/(nuA/\fiB i)) {w:List Nat} :GL (nuA/\nuB) fi la F lt w↔tO (GL nuA fiA laA FA ltA) (GL nuB fiB laB FB ltB) w:=by
 constructor
 ·rintro (⟨⟨h1,h2⟩,rfl⟩ | ⟨i,h1,h2⟩)
  ·exact ⟨[],[],rfl,.inl ⟨h1,rfl⟩,.inl ⟨h2,rfl⟩⟩
  ·rcases (hf i).1 h1 with h3 | ⟨h3,h4⟩
   ·rcases T.split hB lB hA lA h2 (T.fa i h3) with ⟨h4,h5⟩ | ⟨u,v,j,rfl,h4,h5,h6⟩
    ·exact ⟨w,[],by simp,.inr ⟨i,h3,h5⟩,.inl ⟨h4,rfl⟩⟩
    ·exact ⟨u,v,rfl,.inr ⟨i,h3,h4⟩,.inr ⟨j,h5,h6⟩⟩
   ·exact ⟨[],w,rfl,.inl ⟨h3,rfl⟩,.inr ⟨i,h4,(T.inB hB lB (T.fb i h4)).1 h2⟩⟩
 ·rintro ⟨u,v,rfl,⟨h1,rfl⟩ | ⟨i,h1,h2⟩,⟨h3,rfl⟩ | ⟨j,h3,h4⟩⟩
  ·exact .inl ⟨⟨h1,h3⟩,rfl⟩
  ·exact .inr ⟨j,(hf j).2 (.inr ⟨h1,h3⟩),(T.inB hB lB (T.fb j h3)).2 h4⟩
  ·rw[List.append_nil]
   refine .inr ⟨i,(hf i).2 (.inl h1),h2.sim (S:=SA) (fun a b hs hf=>⟨(hA a b hs).2 (.inl hf),T.ca a b hs hf⟩) (fun a hs hl=>(lA a hs).2 ⟨h3,hl⟩) (fun a hs=>(T.ta a hs).symm) (T.fa i h1)⟩
  ·exact .inr ⟨i,(hf i).2 (.inl h1),T.join hB lB hA h2 h3 h4 (T.fa i h1)⟩
theorem Yk (hA: ∀i j,SA i->(F i j↔FA i j)) (lA: ∀i,SA i->(la i↔laA i)) (hf: ∀i,fi i↔fiA i\/fiB i) {w:List Nat} :GL (nuA\/nuB) fi la F lt w↔GL nuA fiA laA FA ltA w\/GL nuB fiB laB FB ltB w:=by
 have iA: ∀ {i w},SA i->(Pth F lt la i w↔Pth FA ltA laA i w):=fun hi =>
  ⟨fun h=>h.sim (S:=SA) (fun i j hs hf=>⟨(hA i j hs).1 hf,T.ca i j hs ((hA i j hs).1 hf)⟩) (fun i hs hl=>(lA i hs).1 hl) (fun i hs=>T.ta i hs) hi,fun h=>h.sim (S:=SA) (fun i j hs hf=>⟨(hA i j hs).2 hf,T.ca i j hs hf⟩) (fun i hs hl=>(lA i hs).2 hl) (fun i hs=>(T.ta i hs).symm) hi⟩
 constructor
 ·rintro (⟨h1 | h1,h2⟩ | ⟨i,h1,h2⟩)
  ·exact .inl (.inl ⟨h1,h2⟩)
  ·exact .inr (.inl ⟨h1,h2⟩)
  ·rcases (hf i).1 h1 with h3 | h3
   ·exact .inl (.inr ⟨i,h3,(iA (T.fa i h3)).1 h2⟩)
   ·exact .inr (.inr ⟨i,h3,(T.inB hB lB (T.fb i h3)).1 h2⟩)
 ·rintro ((⟨h1,h2⟩ | ⟨i,h1,h2⟩) | ⟨h1,h2⟩ | ⟨i,h1,h2⟩)
  ·exact .inl ⟨.inl h1,h2⟩
  ·exact .inr ⟨i,(hf i).2 (.inl h1),(iA (T.fa i h1)).2 h2⟩
  ·exact .inl ⟨.inr h1,h2⟩
  ·exact .inr ⟨i,(hf i).2 (.inr h1),(T.inB hB lB (T.fb i h1)).2 h2⟩
end
theorem VN {F F':Nat->Nat->Prop} {lt:Nat->Nat} {fi la S:Nat->Prop} {nu:Prop} (hF: ∀i j,S i->(F' i j↔F i j\/(la i/\fi j))) (hc: ∀i j,S i->F i j->S j) (hf: ∀i,fi i->S i) {w:List Nat} :GL True fi la F' lt w↔zi (GL nu fi la F lt) w:=by
 have one: ∀ {i w},Pth F' lt la i w->S i-> ∃u v,w=u++v/\Pth F lt la i u/\zi (GL nu fi la F lt) v:=by
  intro i w h
  induction h with
  | @last i h=>intro _;exact ⟨[lt i],[],rfl,.last h,0,rfl⟩
  | @cons i j w h _ ih =>
   intro hs
   rcases (hF i j hs).1 h with h1 | ⟨h1,h2⟩
   ·obtain ⟨u,v,rfl,h3,h4⟩:=ih (hc i j hs h1)
    exact ⟨lt i::u,v,rfl,.cons h1 h3,h4⟩
   ·obtain ⟨u,v,rfl,h3,n,h4⟩:=ih (hf j h2)
    exact ⟨[lt i],u++v,rfl,.last h1,n+1,u,v,rfl,.inr ⟨j,h2,h3⟩,h4⟩
 have two: ∀ {i u},Pth F lt la i u->S i-> ∀ {v},GL True fi la F' lt v->Pth F' lt la i (u++v):=by
  intro i u h
  induction h with
  | @last i h =>
   rintro hs v (⟨-,rfl⟩ | ⟨j,h1,h2⟩)
   ·exact .last h
   ·exact .cons ((hF i j hs).2 (.inr ⟨h,h1⟩)) h2
  | @cons i j w h _ ih =>
   intro hs v hv
   exact .cons ((hF i j hs).2 (.inl h)) (ih (hc i j hs h) hv)
 constructor
 ·rintro (⟨-,rfl⟩ | ⟨i,h1,h2⟩)
  ·exact ⟨0,rfl⟩
  ·obtain ⟨u,v,rfl,h3,n,h4⟩:=one h2 (hf i h1)
   exact ⟨n+1,u,v,rfl,.inr ⟨i,h1,h3⟩,h4⟩
 ·rintro ⟨n,h⟩
  induction n generalizing w with
  | zero=>obtain rfl:w= []:=h;exact .inl ⟨trivial,rfl⟩
  | succ n ih =>
   obtain ⟨u,v,rfl,h1,h2⟩:=h
   have h3:=ih h2
   rcases h1 with ⟨-,rfl⟩ | ⟨i,h4,h5⟩
   ·exact h3
   ·exact .inr ⟨i,h4,two h5 (hf i h4) h3⟩
end D
namespace D
open Go.RowKit
section
variable {κ:Type} [DecidableEq κ] {nx:κ->List (Option κ)} {first:κ} {N:Nat}
theorem Oq: ∀ {l:List κ} {x:κ} (h:x∈l),l[l.idxOf x]'(List.idxOf_lt_length_iff.2 h)=x:=fun {l x} h=>by simp
def krun (nx:κ->List (Option κ)):Option κ->List Nat->Option κ
 | x,[] =>x
 | none,_::_=>none
 | some x,k::w=>krun nx (nth (nx x) (k:Int)) w
theorem pg (nx:κ->List (Option κ)): ∀w,krun nx none w=none
 | [] =>rfl
 | _::_=>rfl
theorem Yl (E:bfE nx first N) {i:Nat} (hi:i<N) {j:Nat} (hij:i<j) (hj:j<=N):nth (bfR nx first j) (i:Int)=nbR (bfS nx first i) (nx ((bfS nx first i)[i]'(E.2 i hi))):=by
 induction j with
 | zero=>omega
 | succ j ih =>
  rw[sj (E.2 j (by omega))]
  have hl:(bfR nx first j).length=j:=iS fun m hm=>E.2 m (by omega)
  by_cases h:i<j
  ·rw[fS (by omega) (by omega),ih h (by omega)]
  ·obtain rfl:i=j:=by omega
   rw[br (by rw[al,hl];simp)]
   simp[hl]
theorem Ym {i:Nat} (h:i<(bfS nx first i).length) {j:Nat} (hij:i<=j):(bfS nx first j)[i]? =some ((bfS nx first i)[i]):=by
 have hp:=kJ (nx:=nx) (first:=first) hij
 obtain ⟨t,ht⟩:=hp
 rw[<-ht,List.getElem?_append_left h,List.getElem?_eq_getElem h]
theorem VO (E:bfE nx first N) {x:κ} (hx:x∈bfS nx first N) {k:Nat} (hk:k<(nx x).length) :
  nth (nth (bfR nx first N) ((bfS nx first N).idxOf x:Int)) (k:Int)=(match nth (nx x) (k:Int) with | none=> -1 | some y=>((bfS nx first N).idxOf y:Int))/\ ∀y,nth (nx x) (k:Int)=some y->y∈bfS nx first N:=by
 have hlt:(bfS nx first N).idxOf x<N:=by
  have:=List.idxOf_lt_length_iff.2 hx
  have:=E.1
  omega
 generalize hi:(bfS nx first N).idxOf x=i at hlt⊢
 have hl:=E.2 i hlt
 have hxi:(bfS nx first i)[i] =x:=by
  have h1:=Ym hl (Nat.le_of_lt hlt)
  have h2:(bfS nx first N)[i]? =some x:=by
   rw[<-hi,List.getElem?_eq_getElem (List.idxOf_lt_length_iff.2 hx),Oq hx]
  rw[h1] at h2;exact ae h2
 rw[Yl E hlt hlt (ay _),hxi,N5 _ _ _ hk]
 have hs:nbS (bfS nx first i) (nx x)=bfS nx first (i+1):=by rw[xu hl,hxi]
 have hp:nbS (bfS nx first i) (nx x) <+:bfS nx first N:=by rw[hs];exact kJ hlt
 cases ho:nth (nx x) (k:Int) with
 | none=>exact ⟨rfl,fun y hy=>by cases hy⟩
 | some y =>
  have hm:some y∈nx x:=by
   rw[<-ho];exact cO (by omega) (by omega)
  have hy:y∈nbS (bfS nx first i) (nx x):=oz.2 (.inr hm)
  refine ⟨?_,fun z hz=>?_⟩
  ·show ((nbS (bfS nx first i) (nx x)).idxOf y:Int)=_
   exact (Bd hp hy).symm
  ·obtain rfl:=ae hz
   exact hp.subset hy
end
def qq (a:AutT) (s:Int) (w:List Nat):Int:=w.foldl (mvn a) s
def acw (a:AutT) (w:List Nat):Bool:=acn a (qq a a.1 w)
theorem CT (a:AutT): ∀(w:List Nat) (s:Int),s<0->qq a s w<0
 | [],s,h=>h
 | k::w,s,h=>by
  show qq a (mvn a s k) w<0
  exact CT a w _ (by unfold mvn;rw[if_pos h];omega)
section
variable {κ:Type} [DecidableEq κ] {nx:κ->List (Option κ)} {first:κ} {N:Nat}
structure NumA (r:AutT) (nx:κ->List (Option κ)) (first:κ) (ac:κ->Bool) (N:Nat):Prop where
 E:bfE nx first N
 st:r.1=0
 accs:r.2.1=(bfS nx first N).map ac
 rows:r.2.2=bfR nx first N
 len: ∀x∈bfS nx first N,(nx x).length=9
theorem NumA.run {r:AutT} {ac:κ->Bool} (H:NumA r nx first ac N): ∀(w:List Nat) (x:κ),(∀k∈w,k<9)->x∈bfS nx first N->(krun nx (some x) w=none/\D.qq r ((bfS nx first N).idxOf x:Int) w<0)\/ ∃y∈bfS nx first N,krun nx (some x) w=some y/\D.qq r ((bfS nx first N).idxOf x:Int) w=((bfS nx first N).idxOf y:Int)
 | [],x,_,hx=>.inr ⟨x,hx,rfl,rfl⟩
 | k::w,x,hw,hx=>by
  obtain ⟨h1,h2⟩:=VO H.E hx (k:=k) (by rw[H.len x hx];exact hw k (by simp))
  have e:D.qq r ((bfS nx first N).idxOf x:Int) (k::w)=D.qq r (mvn r ((bfS nx first N).idxOf x:Int) k) w:=rfl
  have em:mvn r ((bfS nx first N).idxOf x:Int) k=nth (nth (bfR nx first N) ((bfS nx first N).idxOf x:Int)) (k:Int):=by
   unfold mvn mv;rw[if_neg (by omega),H.rows]
  have ek:krun nx (some x) (k::w)=krun nx (nth (nx x) (k:Int)) w:=rfl
  rw[e,em,h1,ek]
  cases ho:nth (nx x) (k:Int) with
  | none=>exact .inl ⟨pg nx w,CT r w _ (by show (-1:Int)<0;omega)⟩
  | some y=>exact NumA.run H w y (fun j hj=>hw j (ba _ hj)) (h2 y ho)
theorem NumA.acw {r:AutT} {ac:κ->Bool} (H:NumA r nx first ac N) {w:List Nat} (hw: ∀k∈w,k<9):D.acw r w=(match krun nx (some first) w with | none=>false | some y=>ac y):=by
 have hf:first∈bfS nx first N:=List.mem_of_getElem? (ru N)
 have h0:(bfS nx first N).idxOf first=0:=by
  have h1:=ru (nx:=nx) (first:=first) N
  cases hL:bfS nx first N with
  | nil=>rw[hL] at h1;cases h1
  | cons z l =>
   rw[hL] at h1
   obtain rfl:=ae (show some z=some first from h1)
   simp
 unfold D.acw
 rw[H.st]
 have hr:=H.run w first hw hf
 rw[h0] at hr
 rcases hr with ⟨h1,h2⟩ | ⟨y,hy,h1,h2⟩
 ·rw[h1]
  have h2:D.qq r 0 w<0:=h2
  unfold acn
  rw[if_pos h2]
 ·rw[h1]
  have h2:D.qq r 0 w=_:=h2
  rw[h2]
  have hlt:=List.idxOf_lt_length_iff.2 hy
  unfold acn
  rw[if_neg (by omega),H.accs]
  show nth (List.map ac (bfS nx first N)) (((bfS nx first N).idxOf y:Nat):Int)=ac y
  rw[br (by rw[List.length_map];exact hlt),List.getElem_map,Oq hy]
end
section
variable {κ:Type} [DecidableEq κ] {nx:κ->List (Option κ)} {N:Nat} {a:AutT} {good inR:Int->Prop} {f:Int->κ} {ac:κ->Bool}
structure Quot (a:AutT) (nx:κ->List (Option κ)) (ac:κ->Bool) (f:Int->κ) (good inR:Int->Prop):Prop where
 r0:inR a.1
 rin: ∀s k,inR s->k<9->inR (mvn a s k)
 pos: ∀s,good s->0<=s
 yes: ∀s k,good s->k<9->good (mv a s k)->nth (nx (f s)) (k:Int)=some (f (mv a s k))
 no: ∀s k,good s->k<9-> ¬good (mv a s k)->nth (nx (f s)) (k:Int)=none
 acc: ∀s,good s->ac (f s)=nth a.2.1 s
 back: ∀s k,inR s->k<9-> ¬good s-> ¬good (mvn a s k)
 bad: ∀s,inR s-> ¬good s->acn a s=false
theorem Quot.bad_run (Q:Quot a nx ac f good inR): ∀(w:List Nat) (s:Int),(∀k∈w,k<9)->inR s-> ¬good s-> ¬good (qq a s w)/\inR (qq a s w)
 | [],s,_,hi,h=>⟨h,hi⟩
 | k::w,s,hw,hi,h=>Q.bad_run w (mvn a s k) (fun j hj=>hw j (ba _ hj)) (Q.rin s k hi (hw k (by simp))) (Q.back s k hi (hw k (by simp)) h)
theorem Quot.krun (Q:Quot a nx ac f good inR): ∀(w:List Nat) (s:Int),(∀k∈w,k<9)->inR s->good s->(good (qq a s w)/\D.krun nx (some (f s)) w=some (f (qq a s w)))\/(¬good (qq a s w)/\inR (qq a s w)/\D.krun nx (some (f s)) w=none)
 | [],s,_,hi,h=>.inl ⟨h,rfl⟩
 | k::w,s,hw,hi,h=>by
  have hk:k<9:=hw k (by simp)
  have hw': ∀j∈w,j<9:=fun j hj=>hw j (ba _ hj)
  have em:mvn a s k=mv a s k:=by unfold mvn;rw[if_neg (by have:=Q.pos s h;omega)]
  have hi':=Q.rin s k hi hk
  show (good (qq a (mvn a s k) w)/\D.krun nx (nth (nx (f s)) (k:Int)) w=some (f (qq a (mvn a s k) w)))\/(¬good (qq a (mvn a s k) w)/\inR (qq a (mvn a s k) w)/\D.krun nx (nth (nx (f s)) (k:Int)) w=none)
  by_cases hg:good (mv a s k)
  ·rw[Q.yes s k h hk hg,em]
   rw[em] at hi'
   exact Q.krun w _ hw' hi' hg
  ·rw[Q.no s k h hk hg,pg]
   obtain ⟨h1,h2⟩:=Q.bad_run w (mvn a s k) hw' hi' (by rw[em];exact hg)
   exact .inr ⟨h1,h2,rfl⟩
theorem Quot.acw {r:AutT} (Q:Quot a nx ac f good inR) (h0:good a.1) (H:NumA r nx (f a.1) ac N) {w:List Nat} (hw: ∀k∈w,k<9):D.acw r w=D.acw a w:=by
 rw[H.acw hw]
 rcases Q.krun w a.1 hw Q.r0 h0 with ⟨h1,h2⟩ | ⟨h1,h2,h3⟩
 ·rw[h2]
  show ac (f (qq a a.1 w))=acn a (qq a a.1 w)
  rw[Q.acc _ h1]
  unfold acn
  rw[if_neg (by have:=Q.pos _ h1;omega)]
 ·rw[h3]
  exact (Q.bad _ h2 h1).symm
end
theorem zD {a b:AutT} : ∀(w:List Nat) (s t:Int),(∀k∈w,k<9)->krun (nxP a b) (some (s,t)) w=some (qq a s w,qq b t w)
 | [],s,t,_=>rfl
 | k::w,s,t,hw=>by
  show krun (nxP a b) (nth (nxP a b (s,t)) (k:Int)) w=_
  rw[Oi (hw k (by simp))]
  exact zD w _ _ fun j hj=>hw j (ba _ hj)
end D
namespace D
open Go.RowKit
theorem vl (m:Int):nw 0 m=0:=by
 unfold nw
 have:(BitVec.ofInt 64 0 &&& BitVec.ofInt 64 m)=0#64:=by simp
 rw[this,show ((0#64:BitVec 64).toNat)=0 from rfl]
 exact cZ (n:=0) (by omega) (by omega)
theorem EJ (n:Int):nr 0 n=0:=by
 unfold nr;exact Int.zero_fdiv _
theorem EK (j:Nat):zw 0 j=false:=by
 show ((nw (nr 0 (j:Int)) 1)==1)=false
 rw[EJ,vl];rfl
theorem EL (F:List Int) (m0:Int): ∀i,GC F 0 m0 i=m0
 | 0=>rfl
 | i+1=>by rw[GC,EK];exact EL F m0 i
theorem EM (L:List Int) (k:Int): ∀i,pick L 0 k i=0
 | 0=>rfl
 | i+1=>by rw[pick,EK,if_neg (by simp)];exact EM L k i
theorem RA (p:PosT) (k:Int):aft p 0 k=0:=by
 unfold aft
 rw[vl,if_neg (by decide),EL,EM]
theorem J7 (p:PosT):kK p 0=false:=by
 unfold kK
 rw[vl,if_neg (by decide),EJ,vl];rfl
def Ki (p:PosT) (x:Int) (w:List Nat):Int:=w.foldl (fun (s:Int) (k:Nat)=>aft p s (k:Int)) x
theorem EN (p:PosT): ∀w,Ki p 0 w=0
 | [] =>rfl
 | k::w=>by
  show Ki p (aft p 0 (k:Int)) w=0
  rw[RA];exact EN p w
theorem ID (p:PosT): ∀(w:List Nat) (x:Int),x≠0->(∀k∈w,k<9)->krun (nxS p) (some x) w=if Ki p x w=0 then none else some (Ki p x w)
 | [],x,h,_=>by
  show some x=if x=0 then none else some x
  rw[if_neg h]
 | k::w,x,h,hw=>by
  show krun (nxS p) (nth (nxS p x) (k:Int)) w=if Ki p (aft p x (k:Int)) w=0 then none else some (Ki p (aft p x (k:Int)) w)
  rw[N2 (hw k (by simp))]
  by_cases c:aft p x (k:Int)=0
  ·rw[if_pos c,c,EN,if_pos rfl,pg]
  ·rw[if_neg c]
   exact ID p w _ c fun j hj=>hw j (ba _ hj)
theorem VP {p:PosT} {r:AutT} {N:Nat} (H:NumA r (nxS p) 1 (kK p) N) {w:List Nat} (hw: ∀k∈w,k<9):acw r w=kK p (Ki p 1 w):=by
 rw[H.acw hw,ID p w 1 (by decide) hw]
 by_cases c:Ki p 1 w=0
 ·rw[if_pos c,c,J7]
 ·rw[if_neg c]
end D
end Go.Proofs.YtfbgafccgaoepaaGreat
