/- FnExactAuditAnswers: for every input the law returns true and changes nothing that was there. Part 7 of 8. -/
import Derived.Test.YtcmpdlhbliolaaaGreatAC5
set_option linter.unusedVariables false
set_option linter.unusedSimpArgs false
set_option linter.unnecessarySimpa false
set_option linter.unusedSectionVars false
set_option maxRecDepth 1000000
namespace Go.Proofs.YtcmpdlhbliolaaaGreat
namespace D
open Go.RowKit
structure InR (l:List Pr):Prop where
 str:Str l
 rng: ∀p∈l,(0≤p.1∧p.1<5)∧0≤p.2∧p.2<5
theorem Str.nd {l:List Pr} (h:Str l):l.Nodup:=List.Pairwise.imp (fun {a b} (h:ltP a b) (e:a=b)=>EN a (e ▸ h)) h
def sq5:List Pr:=(List.range 5).flatMap fun i:Nat=>(List.range 5).map fun j:Nat=>((i:Int),(j:Int))
theorem InR.len {l:List Pr} (h:InR l):l.length≤25:=by
 have:=h.str.nd.length_le_of_subset (l₂:=sq5) (fun p hp=>by
  obtain ⟨⟨h1,h2⟩,h3,h4⟩:=h.rng p hp
  unfold sq5
  rw[List.mem_flatMap]
  refine ⟨p.1.toNat,List.mem_range.2 (by omega),List.mem_map.2 ⟨p.2.toNat,List.mem_range.2 (by omega),?_⟩⟩
  have e1:((p.1.toNat:Nat):Int)=p.1:=by omega
  have e2:((p.2.toNat:Nat):Int)=p.2:=by omega
  rw[e1,e2])
 exact this
theorem InR.nil:InR []:=⟨List.Pairwise.nil,fun p hp=>by cases hp⟩
theorem InR.puts {l:List Pr} (h: ∀p∈l,(0≤p.1∧p.1<5)∧0≤p.2∧p.2<5):InR (puts [] l):=⟨lE List.Pairwise.nil,fun p hp=>by
 rcases jw.1 hp with hp | hp
 ·cases hp
 ·exact h p hp⟩
theorem InR.ext {a b:List Pr} (ha:InR a) (hb:InR b) (h: ∀x,x∈a↔x∈b):a=b:=q9 ha.str hb.str h
theorem LB {l:List Pr} (h:Str l):puts [] l=l:=q9 (lE List.Pairwise.nil) h fun x=>by rw[jw];simp
def IP (a b:List Pr):List Pr:=a.flatMap fun p=>(b.filter fun q=>p.2==q.1).map fun q=>(p.1,q.2)
theorem GD {a b:List Pr} {x:Pr} :x∈IP a b↔ ∃z,(x.1,z)∈a∧(z,x.2)∈b:=by
 unfold IP
 rw[List.mem_flatMap]
 constructor
 ·rintro ⟨p,hp,h⟩
  obtain ⟨q,hq,rfl⟩:=List.mem_map.1 h
  obtain ⟨hq,e⟩:=List.mem_filter.1 hq
  have e:=eq_of_beq e
  refine ⟨p.2,hp,?_⟩
  rw[e];exact hq
 ·rintro ⟨z,h1,h2⟩
  exact ⟨_,h1,List.mem_map.2 ⟨_,List.mem_filter.2 ⟨h2,by simp⟩,rfl⟩⟩
theorem EX (b:List Pr) (p:Pr):((b.filter fun q=>p.2==q.1).map fun q=>(p.1,q.2)).length≤b.length:=by
 rw[List.length_map];exact List.length_filter_le ..
theorem GE (a b:List Pr):(IP a b).length≤a.length*b.length:=by
 unfold IP
 induction a with
 | nil=>simp
 | cons p a ih =>
  rw[List.flatMap_cons,List.length_append,List.length_cons,Nat.add_mul]
  have:=EX b p
  omega
def Tj (a b:List Pr):List Pr:=puts [] (IP a b)
theorem uE {a b:List Pr} (ha:InR a) (hb:InR b):InR (Tj a b):=InR.puts fun p hp=>by
 obtain ⟨z,h1,h2⟩:=GD.1 hp
 exact ⟨(ha.rng _ h1).1,(hb.rng _ h2).2⟩
theorem OS {a b:List Pr} {x:Pr} :x∈Tj a b↔ ∃z,(x.1,z)∈a∧(z,x.2)∈b:=by
 unfold Tj
 rw[jw,GD];simp
def Vu (a b:List Pr):List Pr:=puts [] (a++b)
theorem EY {a b:List Pr} (ha:InR a) (hb:InR b):InR (Vu a b):=InR.puts fun p hp=>by
 rcases List.mem_append.1 hp with hp | hp
 ·exact ha.rng p hp
 ·exact hb.rng p hp
theorem OT {a b:List Pr} {x:Pr} :x∈Vu a b↔x∈a∨x∈b:=by
 unfold Vu
 rw[jw,List.mem_append];simp
theorem Iy {α:Type} (p:α→Bool) (x:α): [x].filter p=if p x=true then [x] else []:=by rw[List.filter_cons];rfl
theorem OU {a b:List Pr} (hb:b.length≤1000) {i:Nat} (hi:i<a.length) {o:List Pr} (ho:o.length≤1000000) {x:List Pr} :ai (bS a b (x,(i:Int))) aB (o,0)=some (.brk (puts o ((b.filter fun q=>a[i].2==q.1).map fun q=>(a[i].1,q.2)),(b.length:Int))):=by
 have key: ∀k,(puts o (((b.take k).filter fun q=>a[i].2==q.1).map fun q=>(a[i].1,q.2))).length≤1001000:=fun k=>by
  have h1:=kH (((b.take k).filter fun q=>a[i].2==q.1).map fun q=>(a[i].1,q.2)) o
  have h2:=EX (b.take k) a[i]
  have h3:(b.take k).length≤b.length:=by rw[List.length_take];omega
  omega
 have:=ax (f:=bS a b (x,(i:Int))) (fun k=>(puts o (((b.take k).filter fun q=>a[i].2==q.1).map fun q=>(a[i].1,q.2)),(k:Int))) b.length (fun k hk=>by
  have hk2:=key k
  unfold bS
  simp only
  rw[bA hk,if_pos rfl,aq hi,aq hk];simp only[Option.bind_some,aa (show k<9223372036854775807 by omega)]
  rw[C1 _ _ (by omega),List.take_succ_eq_append_getElem hk,List.filter_append,List.map_append];simp only[Option.bind_some]
  by_cases c:(a[i].2==b[k].1)=true
  ·rw[Iy,if_pos c,if_pos c,List.map_cons,List.map_nil,qn];rfl
  ·rw[Iy,if_neg c,if_neg c,List.map_nil,List.append_nil];rfl) (by
  unfold bS
  simp only
  rw[bh];rfl) (gp (by omega))
 rw[List.take_of_length_le (Nat.le_refl _)] at this
 exact this
theorem GF (l m k:List Pr):puts l (m++k)=puts (puts l m) k:=by unfold puts;rw[List.foldl_append]
theorem Sq {a b:List Pr} (ha:a.length≤1000) (hb:b.length≤1000):b8 a b=some (Tj a b):=by
 have key: ∀k,(puts [] (IP (a.take k) b)).length≤1000000:=fun k=>by
  have h1:=kH (IP (a.take k) b) []
  have h2:=GE (a.take k) b
  have h3:(a.take k).length*b.length≤1000*1000:=Nat.mul_le_mul (by rw[List.length_take];omega) hb
  simp only[List.length_nil] at h1
  omega
 unfold b8
 have:=ax (f:=bT a b) (fun k=>(puts [] (IP (a.take k) b),(k:Int))) a.length (fun k hk=>by
  unfold bT
  simp only
  rw[bA hk,if_pos rfl,ae (OU hb hk (key k)),aa (by omega),List.take_succ_eq_append_getElem hk]
  unfold IP
  rw[List.flatMap_append,GF];simp) (by
  unfold bT
  simp only
  rw[bh];rfl) (gp (by omega))
 have this:ai (bT a b) aB (([] :List (Int×Int)),0)=_:=this
 rw[ae this,List.take_of_length_le (Nat.le_refl _)];rfl
theorem OV {b:List Pr} (hb:b.length≤1000) (p:Pr) {o:List Pr} (ho:o.length≤1000000):ai (bX b p) aB (o,0)=some (.brk (o++((b.filter fun q=>p.2==q.1).map fun q=>(p.1,q.2)),(b.length:Int))):=by
 have:=ax (f:=bX b p) (fun k=>(o++(((b.take k).filter fun q=>p.2==q.1).map fun q=>(p.1,q.2)),(k:Int))) b.length (fun k hk=>by
  have h2:=EX (b.take k) p
  have h3:(b.take k).length≤b.length:=by rw[List.length_take];omega
  unfold bX
  simp only
  rw[bA hk,if_pos rfl,aq hk];simp only[Option.bind_some,aa (show k<9223372036854775807 by omega)]
  rw[au (by rw[List.length_append];simp only[List.length_cons,List.length_nil];omega),List.take_succ_eq_append_getElem hk,List.filter_append,List.map_append];simp only[Option.bind_some]
  by_cases c:(p.2==b[k].1)=true
  ·rw[Iy,if_pos c,if_pos c,List.map_cons,List.map_nil,List.append_assoc];rfl
  ·rw[Iy,if_neg c,if_neg c,List.map_nil,List.append_nil];rfl) (by
  unfold bX
  simp only
  rw[bh];rfl) (gp (by omega))
 rw[List.take_of_length_le (Nat.le_refl _)] at this
 simpa using this
theorem Sr {a b:List Pr} (hs:Str a) (ha:a.length≤1000) (hb:b.length≤1000):cd a b=some (Tj a b):=by
 have key: ∀k,(IP (a.take k) b).length≤1000000:=fun k=>by
  have h2:=GE (a.take k) b
  have h3:(a.take k).length*b.length≤1000*1000:=Nat.mul_le_mul (by rw[List.length_take];omega) hb
  omega
 unfold cd
 rw[C3 a (by omega),tz,LB hs];simp only[Option.bind_some]
 have:=ax (f:=bY b a) (fun k=>(IP (a.take k) b,(k:Int))) a.length (fun k hk=>by
  unfold bY
  simp only
  rw[bA hk,if_pos rfl,aq hk];simp only[Option.bind_some]
  rw[ae (OV hb a[k] (key k)),aa (by omega),List.take_succ_eq_append_getElem hk]
  unfold IP
  rw[List.flatMap_append];simp) (by
  unfold bY
  simp only
  rw[bh];rfl) (gp (by omega))
 have this:ai (bY b a) aB (([] :List (Int×Int)),0)=_:=this
 have h2:=key a.length
 rw[List.take_of_length_le (Nat.le_refl _)] at this h2
 rw[ae this];simp only
 rw[C3 _ (by omega),tz];rfl
def idR (n:Nat):List Pr:=(List.range n).map fun i:Nat=>((i:Int),(i:Int))
theorem Bb (n:Nat):idR (n+1)=idR n++ [((n:Int),(n:Int))]:=by unfold idR;rw[List.range_succ,List.map_append];rfl
theorem LC (n:Nat):(idR n).length=n:=by simp[idR]
theorem Bc {n:Nat} {x:Pr} :x∈idR n↔x.1=x.2∧0≤x.1∧x.1<n:=by
 unfold idR
 rw[List.mem_map]
 constructor
 ·rintro ⟨i,hi,rfl⟩
  have:=List.mem_range.1 hi
  exact ⟨rfl,by show (0:Int)≤(i:Int);omega,by show (i:Int)<n;omega⟩
 ·rintro ⟨h1,h2,h3⟩
  refine ⟨x.1.toNat,List.mem_range.2 (by omega),?_⟩
  have:((x.1.toNat:Nat):Int)=x.1:=by omega
  rw[this];exact Prod.ext rfl h1
theorem LD: ∀n,Str (idR n)
 | 0=>List.Pairwise.nil
 | n+1=>by
  rw[Bb]
  refine List.pairwise_append.2 ⟨LD n,List.pairwise_singleton _ _,fun a ha b hb=>?_⟩
  obtain rfl:=List.mem_singleton.1 hb
  exact .inl (Bc.1 ha).2.2
theorem GG {n:Nat} (hn:n≤5):InR (idR n):=⟨LD n,fun p hp=>by
 obtain ⟨h1,h2,h3⟩:=Bc.1 hp
 omega⟩
theorem Wc {n:Nat} (hn:n≤5):b7 (n:Int)=some (idR n):=by
 unfold b7
 have:=ax (f:=bR (n:Int)) (fun k=>(idR k,(k:Int))) n (fun k hk=>by
  have:=LC k
  unfold bR
  simp only
  rw[if_pos (by simp;omega),if_pos (by simp;omega),au (by simp;omega),aa (by omega),Bb];rfl) (by
  unfold bR
  simp only
  rw[if_neg (by simp)]) (gp (by omega))
 have this:ai (bR (n:Int)) aB (([] :List (Int×Int)),0)=_:=this
 rw[ae this]
theorem Wd {n:Nat} (hn:n≤5):b9 (n:Int)=some (idR n):=by
 unfold b9
 rw[if_neg (by simp;omega)]
 have:=ax (f:=bW (n:Int)) (fun k=>(idR k,(k:Int))) n (fun k hk=>by
  have:=LC k
  unfold bW
  simp only
  rw[if_pos (by simp;omega),au (by simp;omega),aa (by omega),Bb];rfl) (by
  unfold bW
  simp only
  rw[if_neg (by simp)]) (gp (by omega))
 have this:ai (bW (n:Int)) aB (([] :List (Int×Int)),0)=_:=this
 rw[ae this]
def mD (n:Nat) (l:List Pr):Nat→List Pr
 | 0=>idR n
 | k+1=>Vu (mD n l k) (Tj (mD n l k) l)
section
variable {n:Nat} {l:List Pr} (hn:n≤5) (hl:InR l)
include hn hl
theorem jz: ∀k,InR (mD n l k)
 | 0=>GG hn
 | k+1=>EY (jz k) (uE (jz k) hl)
omit hn hl in
theorem o7 {k:Nat} {x:Pr} :x∈mD n l (k+1)↔x∈mD n l k∨ ∃z,(x.1,z)∈mD n l k∧(z,x.2)∈l:=by rw[mD,OT,OS]
omit hn hl in
theorem uF: ∀k (x:Pr),x∈mD n l k→0≤x.1∧x.1<n
 | 0,x,h=>by
  obtain ⟨-,h1,h2⟩:=Bc.1 h
  exact ⟨h1,h2⟩
 | k+1,x,h=>by
  rcases o7.1 h with h | ⟨z,h,-⟩
  ·exact uF k x h
  ·exact uF k (x.1,z) h
omit hn hl in
theorem Ss {x:Int} {k:Nat} (h: ∀y,(x,y)∈mD n l (k+1)→(x,y)∈mD n l k): ∀y,(x,y)∈mD n l (k+1+1)→(x,y)∈mD n l (k+1):=fun y hy=>by
 rcases o7.1 hy with hy | ⟨z,h1,h2⟩
 ·exact hy
 ·exact o7.2 (.inr ⟨z,h z h1,h2⟩)
def GH (n:Nat) (l:List Pr) (x:Int) (k:Nat):List Nat:=(List.range 5).filter fun y:Nat=>decide ((x,(y:Int))∈mD n l k)
theorem C7 (x:Int) (k:Nat):(∀y,(x,y)∈mD n l (k+1)→(x,y)∈mD n l k)∨(GH n l x k).length<(GH n l x (k+1)).length:=by
 have hsub:(GH n l x k).Sublist (GH n l x (k+1)):=by
  have:GH n l x k=(GH n l x (k+1)).filter fun y:Nat=>decide ((x,(y:Int))∈mD n l k):=by
   unfold GH
   rw[List.filter_filter]
   refine List.filter_congr fun y _=>?_
   by_cases c:(x,(y:Int))∈mD n l k
   ·rw[decide_eq_true c,decide_eq_true (o7.2 (.inl c))];rfl
   ·rw[decide_eq_false c];rfl
  rw[this];exact List.filter_sublist
 by_cases e:(GH n l x k).length=(GH n l x (k+1)).length
 ·left
  have heq:=hsub.eq_of_length e
  intro y hy
  have hr:=((jz hn hl (k+1)).rng _ hy).2
  have hm:y.toNat∈GH n l x (k+1):=List.mem_filter.2 ⟨List.mem_range.2 (by omega),decide_eq_true (by
   rw[show ((y.toNat:Nat):Int)=y by omega];exact hy)⟩
  rw[←heq] at hm
  have:=of_decide_eq_true (List.mem_filter.1 hm).2
  rwa [show ((y.toNat:Nat):Int)=y by omega] at this
 ·right
  have:=hsub.length_le
  omega
theorem OW:mD n l 5=mD n l 4:=by
 refine (jz hn hl 5).ext (jz hn hl 4) fun p=>⟨fun hp=>?_,fun hp=>o7.2 (.inl hp)⟩
 have hx:=uF 5 p hp
 have key: ∀k,(∀y,(p.1,y)∈mD n l (k+1)→(p.1,y)∈mD n l k)∨k+2≤(GH n l p.1 (k+1)).length:=fun k=>by
  induction k with
  | zero =>
   rcases C7 hn hl p.1 0 with h | h
   ·exact .inl h
   ·right
    have:p.1.toNat∈GH n l p.1 0:=List.mem_filter.2 ⟨List.mem_range.2 (by omega),decide_eq_true (by
     rw[show ((p.1.toNat:Nat):Int)=p.1 by omega];exact Bc.2 ⟨rfl,hx⟩)⟩
    have:=List.length_pos_of_mem this
    omega
  | succ k ih =>
   rcases ih with h | h
   ·exact .inl (Ss h)
   ·rcases C7 hn hl p.1 (k+1) with h2 | h2
    ·exact .inl h2
    ·exact .inr (by omega)
 rcases key 4 with h | h
 ·exact h p.2 hp
 ·have:(GH n l p.1 5).length≤(List.range 5).length:=List.length_filter_le ..
  simp only[List.length_range] at this
  have h:6≤(GH n l p.1 5).length:=h
  omega
omit hn hl in
theorem GI {i:Nat} (h:mD n l (i+1)=mD n l i): ∀d,mD n l (i+d)=mD n l i
 | 0=>rfl
 | d+1=>by
  have ih:=GI h d
  rw[show i+(d+1)=(i+d)+1 from rfl,mD,ih]
  exact h
theorem OX {i:Nat} (h:(mD n l (i+1)).length=(mD n l i).length):mD n l (i+1)=mD n l i:=by
 refine (jz hn hl (i+1)).ext (jz hn hl i) fun p=>⟨fun hp=>?_,fun hp=>o7.2 (.inl hp)⟩
 apply Classical.byContradiction
 intro hc
 have hnd:(p::mD n l i).Nodup:=List.nodup_cons.2 ⟨hc,(jz hn hl i).str.nd⟩
 have:=hnd.length_le_of_subset (l₂:=mD n l (i+1)) (fun q hq=>by
  rcases List.mem_cons.1 hq with rfl | hq
  ·exact hp
  ·exact o7.2 (.inl hq))
 simp only[List.length_cons] at this
 omega
theorem Su:ai (cn l) aB (idR n,0)=some (.brk (mD n l 5,5)):=
 ax (f:=cn l) (fun k=>(mD n l k,(k:Int))) 5 (fun k hk=>by
  have h1:=(jz hn hl k).len
  have h2:=hl.len
  have h3:=(uE (jz hn hl k) hl).len
  unfold cn
  simp only
  rw[if_pos (by simp;omega),Sq (by omega) (by omega)];simp only[Option.bind_some]
  rw[ES (by omega) (by omega),aa (by omega)];rfl) (by
  unfold cn
  simp) (by unfold aB;omega)
theorem Sv:ai (dx l) aB (idR n)=some (.ret (mD n l 5)):=by
 obtain ⟨o,e,hQ⟩:=bF (f:=dx l) (fun i s=>s=mD n l i) (fun o=>o= .ret (mD n l 5)) 4 (s:=idR n) (by
  rintro i s hi rfl
  have h1:=(jz hn hl i).len
  have h2:=hl.len
  have h3:=(uE (jz hn hl i) hl).len
  unfold dx
  rw[Sr (jz hn hl i).str (by omega) (by omega)];simp only[Option.bind_some]
  rw[Sn (by omega) (by omega)];simp only[Option.bind_some]
  by_cases c:(mD n l (i+1)).length=(mD n l i).length
  ·right
   have e:=OX hn hl c
   refine ⟨.ret (mD n l i),if_pos (by
    show (((mD n l (i+1)).length:Int)==((mD n l i).length:Int))=true
    rw[c];simp),fun s' h=>(by cases h),?_⟩
   have h4:=GI e (5 - i)
   rw[show i+(5 - i)=5 by omega] at h4
   rw[h4]
  ·left
   have hi4:i<4:=by
    apply Classical.byContradiction
    intro h
    obtain rfl:i=4:=by omega
    exact c (by rw[OW hn hl])
   exact ⟨hi4,mD n l (i+1),if_neg (by
    show¬(((mD n l (i+1)).length:Int)==((mD n l i).length:Int))=true
    simp;omega),rfl⟩) rfl (by unfold aB;omega)
 rw[e,hQ]
theorem OY (h0:1≤n): ∃r,eZ (n:Int) l=some r∧fb (n:Int) l=some r∧InR r:=by
 have hlen:=hl.len
 obtain ⟨b,eb⟩:=ET l (by omega)
 have es:dI l=some b:=A4.trans eb
 unfold eZ fb
 rw[Lw,EU];simp only[Option.bind_some]
 rw[if_pos (by simp;omega),if_pos (by simp;omega),es,eb];simp only[Option.bind_some]
 cases b with
 | false=>exact ⟨[],rfl,rfl,InR.nil⟩
 | true =>
  simp only[if_true]
  rw[Wc hn,Wd hn];simp only[Option.bind_some]
  rw[ae (Su hn hl),aK (Sv hn hl)]
  exact ⟨_,rfl,rfl,jz hn hl 5⟩
theorem OZ (h0:1≤n) (low:Int) {high:Int} (hh:0≤high∧high≤3): ∃r,gD (n:Int) l low high=some r∧gE (n:Int) l low high=some r∧InR r:=by
 have hlen:=hl.len
 obtain ⟨b,eb⟩:=ET l (by omega)
 have es:dI l=some b:=A4.trans eb
 unfold gD gE
 have hnn:decide (1≤(n:Int)∧(n:Int)≤5)=true:=decide_eq_true ⟨by omega,by omega⟩
 have hh':decide (0≤high∧high≤3)=true:=decide_eq_true hh
 simp only[Lw,EU,Option.bind_some,hnn,if_true,es,eb,hh']
 cases b with
 | false=>exact ⟨[],rfl,rfl,InR.nil⟩
 | true =>
  simp only[if_true]
  by_cases c:low<0
  ·simp only[decide_eq_true c,if_true];exact ⟨[],rfl,rfl,InR.nil⟩
  simp only[decide_eq_false c,Bool.false_eq_true,if_false]
  rw[Wc hn,Wd hn];simp only[Option.bind_some]
  have step: ∀(i:Nat) (s:List Pr×List Pr×Int),(InR s.1∧InR s.2.1∧s.2.2=(i:Int))→i<high.toNat+1→ ∃s',bB l low high s=some (.nxt s')∧cg l low high s=some (.nxt s')∧InR s'.1∧InR s'.2.1∧s'.2.2=((i+1:Nat):Int):=by
   rintro i ⟨o,x,k⟩ ⟨h1,h2,h3⟩ hi
   have h3:k=(i:Int):=h3
   subst h3
   have h1:InR o:=h1
   have h2:InR x:=h2
   have l1:o.length≤25:=h1.len
   have l2:x.length≤25:=h2.len
   have hle:decide ((i:Int)≤high)=true:=decide_eq_true (by omega)
   unfold bB cg
   simp only[hle,if_true]
   rw[Sq (a:=x) (by omega) (by omega),Sr (a:=x) h2.str (by omega) (by omega),aa (show i<9223372036854775807 by omega)]
   rw[ES (a:=o) (b:=x) (by omega) (by omega),Sn (a:=o) (b:=x) (by omega) (by omega)]
   by_cases d:(i:Int)≥low
   ·simp only[decide_eq_true d,if_true,Option.bind_some]
    exact ⟨_,rfl,rfl,EY h1 h2,uE h2 hl,rfl⟩
   ·simp only[decide_eq_false d,Bool.false_eq_true,if_false,Option.bind_some]
    exact ⟨_,rfl,rfl,h1,uE h2 hl,rfl⟩
  have stop: ∀s:List Pr×List Pr×Int,s.2.2=((high.toNat+1:Nat):Int)→bB l low high s=some (.brk s)∧cg l low high s=some (.brk s):=by
   rintro ⟨o,x,k⟩ h3
   have h3:k=((high.toNat+1:Nat):Int):=h3
   subst h3
   have hle:decide (((high.toNat+1:Nat):Int)≤high)=false:=decide_eq_false (by omega)
   unfold bB cg
   simp only[hle,Bool.false_eq_true,if_false,and_self]
  have both: ∀f (i:Nat) (s:List Pr×List Pr×Int),(InR s.1∧InR s.2.1∧s.2.2=(i:Int))→i≤high.toNat+1→ai (cg l low high) f s=ai (bB l low high) f s:=by
   intro f
   induction f with
   | zero=>intro i s _ _;rfl
   | succ f ih =>
    intro i s hs hi
    rw[ai,ai]
    by_cases d:i<high.toNat+1
    ·obtain ⟨s',e1,e2,h1⟩:=step i s hs d
     rw[e1,e2]
     exact ih (i+1) s' h1 (by omega)
    ·obtain rfl:i=high.toNat+1:=by omega
     obtain ⟨e1,e2⟩:=stop s hs.2.2
     rw[e1,e2]
  obtain ⟨s',e,h1,-,-⟩:=cR (f:=bB l low high) (fun i s=>InR s.1∧InR s.2.1∧s.2.2=(i:Int)) (high.toNat+1) (fun i s hi hI=>by
   obtain ⟨s',e1,-,h1⟩:=step i s hI hi
   exact ⟨s',e1,h1⟩) (fun s hI=>(stop s hI.2.2).1) (s:=(([] :List Pr),idR n,0)) ⟨InR.nil,GG hn,rfl⟩ (gp (by omega))
  rw[both aB 0 (([] :List Pr),idR n,0) ⟨InR.nil,GG hn,rfl⟩ (by omega),ae e]
  exact ⟨_,rfl,rfl,h1⟩
end
end D
namespace D
open Go.RowKit
abbrev Tok:=Int×Int×Int×Int
def ar (t:Tok):Int:=
 if t.1=1∨t.1=2 then (if t.2.1=0∧t.2.2.1=0∧t.2.2.2=0 then 0 else -1)
 else if t.1=3 then (if (0≤t.2.1∧t.2.1≤8)∧t.2.2.1=0∧t.2.2.2=0 then 0 else -1)
 else if t.1=4∨t.1=5 then (if t.2.1=0∧t.2.2.1=0∧t.2.2.2=0 then 2 else -1)
 else if t.1=6 then (if t.2.1=0∧t.2.2.1=0∧t.2.2.2=0 then 1 else -1)
 else if t.1=7 then (if t.2.1=0∧(0≤t.2.2.1∧t.2.2.1≤t.2.2.2)∧(1≤t.2.2.2∧t.2.2.2≤3) then 1 else -1)
 else -1
theorem O0 (x:Int):mL x=some (decide (0≤x∧x≤8)):=by unfold mL;rw[Lw];rfl
theorem Bd (x:Int):eS x=some (decide (0≤x∧x≤8)):=by unfold eS;rw[EU];rfl
theorem Xd (t:Tok):lT t=some (ar t):=by
 obtain ⟨k,l,lo,hi⟩:=t
 unfold lT ar
 simp only[O0,Lw,Option.bind_some]
 by_cases h1:k=1
 ·subst h1;simp;grind
 by_cases h2:k=2
 ·subst h2;simp;grind
 by_cases h3:k=3
 ·subst h3;simp;grind
 by_cases h4:k=4
 ·subst h4;simp;grind
 by_cases h5:k=5
 ·subst h5;simp;grind
 by_cases h6:k=6
 ·subst h6;simp;grind
 by_cases h7:k=7
 ·subst h7;simp;grind
 simp[h1,h2,h3,h4,h5,h6,h7]
theorem UA (t:Tok):oL t=some (decide (0≤ar t)):=by
 obtain ⟨k,l,lo,hi⟩:=t
 unfold oL ar
 simp only[Bd,EU,Option.bind_some]
 by_cases h1:k=1
 ·subst h1;simp;grind
 by_cases h2:k=2
 ·subst h2;simp;grind
 by_cases h3:k=3
 ·subst h3;simp only[]
  by_cases a:0≤l∧l≤8 <;> by_cases b:lo=0 <;> by_cases c:hi=0 <;> simp[a,b,c]
 by_cases h4:k=4
 ·subst h4;simp;grind
 by_cases h5:k=5
 ·subst h5;simp;grind
 by_cases h6:k=6
 ·subst h6;simp;grind
 by_cases h7:k=7
 ·subst h7;simp only[]
  by_cases a:l=0 <;> by_cases b:0≤lo∧lo≤hi <;> by_cases c:1≤hi∧hi≤3 <;> simp[a,b,c]
 simp[h1,h2,h3,h4,h5,h6,h7]
theorem tE (t:Tok): -1≤ar t∧ar t≤2:=by
 unfold ar
 grind
theorem jA {t:Tok} (h:0≤ar t):(ar t=2∧(t.1=4∨t.1=5))∨(ar t=1∧(t.1=6∨t.1=7))∨(ar t=0∧(t.1=1∨t.1=2∨t.1=3)):=by
 unfold ar at h⊢
 grind
theorem vl {t:Tok} (h:0≤ar t) (k:t.1=7):(0≤t.2.2.1∧t.2.2.1≤t.2.2.2)∧(1≤t.2.2.2∧t.2.2.2≤3):=by
 unfold ar at h
 grind
mutual
def flat:Tr Tok→List Tok
 | .nil=>[]
 | .node t ks=>iI ks++ [t]
def iI:List (Tr Tok)→List Tok
 | [] =>[]
 | k::ks=>flat k++iI ks
end
inductive WT:Tr Tok→Prop
 | node {t:Tok} {ks:List (Tr Tok)} :ar t=(ks.length:Int)→(∀k,k∈ks→WT k)→WT (.node t ks)
theorem oh: ∀(a b:List (Tr Tok)),iI (a++b)=iI a++iI b
 | [],b=>rfl
 | k::a,b=>by rw[List.cons_append,iI,iI,oh a b,List.append_assoc]
theorem kT (x:Tr Tok):iI [x] =flat x:=by rw[iI,iI,List.append_nil]
theorem LF (x y:Tr Tok):iI [x,y] =flat x++flat y:=by rw[iI,kT]
theorem WT.cases {x:Tr Tok} (h:WT x):(∃t,x= .node t [] ∧ar t=0)∨(∃t a,x= .node t [a] ∧ar t=1∧WT a)∨ ∃t a b,x= .node t [a,b] ∧ar t=2∧WT a∧WT b:=by
 cases h with
 | @node t ks h1 h2 =>
  have:=(tE t).2
  match ks,h1,h2 with
  | [],h1,h2=>exact .inl ⟨t,rfl,h1⟩
  | [a],h1,h2=>exact .inr (.inl ⟨t,a,rfl,h1,h2 a (by simp)⟩)
  | [a,b],h1,h2=>exact .inr (.inr ⟨t,a,b,rfl,h1,h2 a (by simp),h2 b (by simp)⟩)
  | _::_::_::_,h1,h2=>simp at h1;omega
theorem WT.ind {p:Tr Tok→Prop} (h0: ∀t,ar t=0→p (.node t [])) (h1: ∀t a,ar t=1→WT a→p a→p (.node t [a])) (h2: ∀t a b,ar t=2→WT a→WT b→p a→p b→p (.node t [a,b])) {x:Tr Tok} (h:WT x):p x:=by
 induction h with
 | @node t ks e k ih =>
  have:=(tE t).2
  match ks,e,k,ih with
  | [],e,k,ih=>exact h0 t e
  | [a],e,k,ih=>exact h1 t a e (k a (by simp)) (ih a (by simp))
  | [a,b],e,k,ih=>exact h2 t a b e (k a (by simp)) (k b (by simp)) (ih a (by simp)) (ih b (by simp))
  | _::_::_::_,e,_,_=>simp at e;omega
theorem xU (t:Tok):flat (.node t [])= [t]:=by rw[flat,iI];rfl
theorem yG (t:Tok) (a:Tr Tok):flat (.node t [a])=flat a++ [t]:=by rw[flat,kT]
theorem ri (t:Tok) (a b:Tr Tok):flat (.node t [a,b])=(flat a++flat b)++ [t]:=by rw[flat,LF]
theorem WT.pos {x:Tr Tok} (h:WT x):1≤(flat x).length:=by
 cases h with
 | node h1 h2=>rw[flat];simp
def stp (s:List (Tr Tok)) (t:Tok):Option (List (Tr Tok)):=if ar t<0∨(s.length:Int)<ar t then none else some (s.take (s.length - (ar t).toNat)++ [.node t (s.drop (s.length - (ar t).toNat))])
def run:List (Tr Tok)→List Tok→Option (List (Tr Tok))
 | s,[] =>some s
 | s,t::l=>(stp s t).bind fun s'=>run s' l
theorem Be: ∀(a:List Tok) {b:List Tok} {s:List (Tr Tok)},run s (a++b)=(run s a).bind fun s'=>run s' b
 | [],b,s=>rfl
 | t::a,b,s=>by
  rw[List.cons_append,run,run]
  cases stp s t with
  | none=>rfl
  | some s'=>exact Be a
theorem tF {a:List Tok} {t:Tok} {s:List (Tr Tok)} :run s (a++ [t])=(run s a).bind fun s'=>stp s' t:=by
 rw[Be]
 congr 1
 funext s'
 rw[run]
 cases stp s' t <;> rfl
theorem Ql: ∀ {l:List Tok} {s s':List (Tr Tok)},run s l=some s'→(∀k,k∈s→WT k)→(∀k,k∈s'→WT k)∧iI s'=iI s++l
 | [],s,s',h,hs=>by
  obtain rfl:=Option.some.inj h
  exact ⟨hs,by simp⟩
 | t::l,s,s',h,hs=>by
  rw[run] at h
  unfold stp at h
  by_cases c:ar t<0∨(s.length:Int)<ar t
  ·rw[if_pos c] at h;cases h
  ·rw[if_neg c] at h
   have hlen:(s.drop (s.length - (ar t).toNat)).length=(ar t).toNat:=by rw[List.length_drop];omega
   obtain ⟨k1,k2⟩:=Ql (show run _ l=some s' from h) fun k hk=>by
    rcases List.mem_append.1 hk with hk | hk
    ·exact hs k (List.mem_of_mem_take hk)
    ·obtain rfl:=List.mem_singleton.1 hk
     exact .node (by rw[hlen];omega) fun k hk=>hs k (List.mem_of_mem_drop hk)
   refine ⟨k1,?_⟩
   rw[k2,oh,kT,flat,←List.append_assoc,←oh,List.take_append_drop]
   simp
theorem O3 {x:Tr Tok} (h:WT x): ∀s,run s (flat x)=some (s++ [x]):=by
 refine WT.ind (p:=fun x=> ∀s,run s (flat x)=some (s++ [x])) ?_ ?_ ?_ h
 ·intro t e s
  rw[xU,run,stp,if_neg (by omega),e]
  simp[run]
 ·intro t a e _ ia s
  rw[yG,tF,ia]
  show stp (s++ [a]) t=_
  rw[stp,if_neg (by simp;omega),e]
  simp
 ·intro t a b e _ _ ia ib s
  rw[ri,tF,Be,ia]
  show ((run (s++ [a]) (flat b)).bind fun s'=>stp s' t)=_
  rw[ib]
  show stp (s++ [a] ++ [b]) t=_
  rw[stp,if_neg (by simp;omega),e]
  have:(s++ [a] ++ [b]).length - (2:Int).toNat=s.length:=by simp
  rw[this]
  simp
def isX (e:List Tok):Bool:=match run [] e with
 | some [_] =>true
 | _=>false
theorem GJ {e:List Tok} (h:isX e=true): ∃x,run [] e=some [x] ∧WT x∧flat x=e:=by
 unfold isX at h
 split at h
 ·rename_i x hx
  obtain ⟨k1,k2⟩:=Ql hx (fun k hk=>by cases hk)
  refine ⟨x,hx,k1 x (by simp),?_⟩
  rw[kT] at k2
  rw[k2];rfl
 ·cases h
theorem LG {l:List Tok} : ∀ {s s':List (Tr Tok)},run s l=some s'→s'.length≤s.length+l.length:=by
 induction l with
 | nil=>intro s s' h;obtain rfl:=Option.some.inj h;simp
 | cons t l ih =>
  intro s s' h
  rw[run] at h
  obtain ⟨s1,h1,h2⟩:=Option.bind_eq_some_iff.1 h
  have h3:=ih h2
  unfold stp at h1
  split at h1
  ·cases h1
  ·obtain rfl:=Option.some.inj h1
   simp only[List.length_append,List.length_take,List.length_cons,List.length_nil] at h3⊢
   omega
theorem xV {e:List Tok} {i:Nat} (h:i<e.length):e.take (i+1)=e.take i++ [nth e (i:Int)]:=by
 rw[List.take_succ_eq_append_getElem h,bq h]
theorem vN {e:List Tok} {i:Nat} (h:i<e.length) {st:List (Tr Tok)} (h1:run [] (e.take i)=some st) (h2:stp st (nth e (i:Int))=none):run [] e=none:=by
 have:run [] (e.take (i+1))=none:=by rw[xV h,tF,h1];exact h2
 rw[←List.take_append_drop (i+1) e,Be,this];rfl
theorem O4 {e:List Tok} (he:e.length≤1048576):qK e=some (isX e):=by
 obtain ⟨o,eo,hq⟩:=bF (f:=oE e) (fun i s=> ∃st,s=((st.length:Int),(i:Int))∧run [] (e.take i)=some st) (fun o=>(o= .ret false∧run [] e=none)∨ ∃st,o= .brk ((st.length:Int),(e.length:Int))∧run [] e=some st) e.length (s:=(0,0)) (by
  rintro i s hi ⟨st,rfl,hst⟩
  have hl:=LG hst
  simp only[List.length_nil,List.length_take] at hl
  unfold oE
  simp only[eQ]
  by_cases c:i<e.length
  ·rw[if_pos (by simp;omega),aj (by omega) (by omega)];simp only[Option.bind_some]
   rw[Xd];simp only[Option.bind_some]
   have hr:=tE (nth e (i:Int))
   by_cases c1:ar (nth e (i:Int))<0
   ·refine .inr ⟨_,by rw[if_pos (by simpa using c1)],(fun s' e=>by cases e),.inl ⟨rfl,vN c hst ?_⟩⟩
    rw[stp,if_pos (.inl c1)]
   ·rw[if_neg (by simpa using c1)]
    by_cases c2:ar (nth e (i:Int))>(st.length:Int)
    ·refine .inr ⟨_,by rw[if_pos (by simpa using c2)],(fun s' e=>by cases e),.inl ⟨rfl,vN c hst ?_⟩⟩
     rw[stp,if_pos (.inr c2)]
    ·rw[if_neg (by simpa using c2)]
     refine .inl ⟨c,_,rfl,st.take (st.length - (ar (nth e (i:Int))).toNat)++ [.node (nth e (i:Int)) (st.drop (st.length - (ar (nth e (i:Int))).toNat))],?_,?_⟩
     ·rw[bZ (n:=(st.length:Int) - ar (nth e (i:Int))) (by omega) (by omega),bZ (by omega) (by omega),aa (by omega)]
      congr 1
      simp only[List.length_append,List.length_take,List.length_cons,List.length_nil]
      omega
     ·rw[xV c,tF,hst]
      show stp st _=_
      rw[stp,if_neg (by omega)]
  ·obtain rfl:i=e.length:=by omega
   rw[List.take_of_length_le (by omega)] at hst
   exact .inr ⟨_,by rw[if_neg (by simp)],(fun s' e=>by cases e),.inr ⟨st,rfl,hst⟩⟩) ⟨[],rfl,rfl⟩ (gp (by omega))
 unfold qK
 rcases hq with ⟨rfl,h⟩ | ⟨st,rfl,h⟩
 ·rw[aK eo];unfold isX;rw[h]
 ·rw[ae eo];unfold isX;rw[h]
  match st with
  | [] =>rfl
  | [_] =>rfl
  | _::_::_=>simp;omega
theorem We {t:Tok} (h:0≤ar t):(Option.bind ((if t.1==4 then (some (t.1==4)) else (some (t.1==5)):Option Bool)) (fun s3=>if s3 then (some 2) else (Option.bind ((if t.1==6 then (some (t.1==6)) else (some (t.1==7)):Option Bool)) (fun s4=>if s4 then (some 1) else (some 0)))):Option Int)=some (ar t):=by
 rcases jA h with ⟨e,k | k⟩ | ⟨e,k | k⟩ | ⟨e,k | k | k⟩ <;> rw[e] <;> simp[k]
theorem Sw (t:Tok): ∃n:Int,(Option.bind ((if t.1==4 then (some (t.1==4)) else (some (t.1==5)):Option Bool)) (fun s3=>if s3 then (some 2) else (Option.bind ((if t.1==6 then (some (t.1==6)) else (some (t.1==7)):Option Bool)) (fun s4=>if s4 then (some 1) else (some 0)))):Option Int)=some n:=by
 by_cases h4:t.1=4
 ·exact ⟨2,by simp[h4]⟩
 by_cases h5:t.1=5
 ·exact ⟨2,by simp[h5]⟩
 by_cases h6:t.1=6
 ·exact ⟨1,by simp[h6]⟩
 by_cases h7:t.1=7
 ·exact ⟨1,by simp[h7]⟩
 exact ⟨0,by simp[h4,h5,h6,h7]⟩
def tG (e:List Tok):Tr Tok:=match run [] e with
 | some [x] =>x
 | _=>.nil
theorem vO {e:List Tok} (he:e.length≤1048576):jZ e=some (tG e):=by
 obtain ⟨o,eo,hq⟩:=bF (f:=oM e) (fun i s=> ∃st,s=(st,(i:Int))∧run [] (e.take i)=some st) (fun o=>(o= .ret Tr.nil∧run [] e=none)∨ ∃st,o= .brk (st,(e.length:Int))∧run [] e=some st) e.length (s:=([],0)) (by
  rintro i s hi ⟨st,rfl,hst⟩
  have hl:=LG hst
  simp only[List.length_nil,List.length_take] at hl
  unfold oM
  simp only[eQ]
  by_cases c:i<e.length
  ·rw[if_pos (by simp;omega),aj (by omega) (by omega)];simp only[Option.bind_some]
   have hr:=tE (nth e (i:Int))
   by_cases c1:ar (nth e (i:Int))<0
   ·obtain ⟨n,hn⟩:=Sw (nth e (i:Int))
    rw[hn];simp only[Option.bind_some]
    rw[UA];simp only[Option.bind_some]
    refine .inr ⟨_,by rw[if_neg (by simp;omega)],(fun s' e=>by cases e),.inl ⟨rfl,vN c hst ?_⟩⟩
    rw[stp,if_pos (.inl c1)]
   ·rw[We (by omega)];simp only[Option.bind_some]
    rw[UA];simp only[Option.bind_some]
    rw[if_pos (by simp;omega),bZ (n:=(st.length:Int) - ar (nth e (i:Int))) (by omega) (by omega)]
    by_cases c2:ar (nth e (i:Int))>(st.length:Int)
    ·refine .inr ⟨_,by rw[if_pos (by simp;omega)],(fun s' e=>by cases e),.inl ⟨rfl,vN c hst ?_⟩⟩
     rw[stp,if_pos (.inr c2)]
    ·rw[if_neg (by simp;omega),show∀p:Prop,∀ [Decidable p],p→chk p=some () from fun p _ hp=>by unfold chk;rw[if_pos hp]]
     ·simp only[Option.bind_some]
      have e1:((st.length:Int) - ar (nth e (i:Int))).toNat=st.length - (ar (nth e (i:Int))).toNat:=by omega
      rw[e1,au (by simp;omega)];simp only[Option.bind_some]
      rw[au (by simp;omega)];simp only[Option.bind_some,List.nil_append,aa (show i<9223372036854775807 by omega)]
      refine .inl ⟨c,_,rfl,_,rfl,?_⟩
      rw[xV c,tF,hst]
      show stp st _=_
      rw[stp,if_neg (by omega)]
     ·omega
  ·obtain rfl:i=e.length:=by omega
   rw[List.take_of_length_le (by omega)] at hst
   exact .inr ⟨_,by rw[if_neg (by simp)],(fun s' e=>by cases e),.inr ⟨st,rfl,hst⟩⟩) ⟨[],rfl,rfl⟩ (gp (by omega))
 unfold jZ
 rcases hq with ⟨rfl,h⟩ | ⟨st,rfl,h⟩
 ·rw[aK eo];unfold tG;rw[h]
 ·rw[ae eo];unfold tG;rw[h]
  match st with
  | [] =>rfl
  | [x] =>rfl
  | _::_::_ =>
   simp only
   rw[if_pos (by simp;omega)]
theorem uG {x:Tr Tok} (h:WT x):tG (flat x)=x:=by unfold tG;rw[O3 h];rfl
theorem O5 {e:List Tok} (he:e.length≤1048576):qR e=some (isX e):=by
 unfold qR
 rw[vO he];simp only[Option.bind_some]
 congr 1
 by_cases h:isX e=true
 ·rw[h]
  obtain ⟨x,h1,h2,h3⟩:=GJ h
  have:tG e=x:=by unfold tG;rw[h1]
  rw[this]
  cases h2 with
  | node _ _=>rfl
 ·have:tG e= .nil:=by
   unfold tG
   unfold isX at h
   split
   ·rename_i x hx;rw[hx] at h;exact absurd rfl h
   ·rfl
  rw[this,Bool.eq_false_iff.2 h];rfl
theorem xW {e:List Tok} (he:e.length≤1048576):fS e=some (decide (e.length≤24)&&isX e):=by
 unfold fS
 rw[O4 he]
 by_cases c:e.length≤24
 ·rw[if_pos (by simp;omega)];simp[c]
 ·rw[if_neg (by simp;omega)];simp[c]
theorem xX {e:List Tok} (he:e.length≤1048576):fZ e=some (decide (e.length≤24)&&isX e):=by
 unfold fZ
 rw[O5 he]
 by_cases c:e.length≤24
 ·rw[if_pos (by simp;omega)];simp[c]
 ·rw[if_neg (by simp;omega)];simp[c]
theorem iQ {p:Prop} [Decidable p] (h:p):chk p=some ():=by unfold chk;rw[if_pos h]
theorem Sx {A:List Tok} {x:Tr Tok} (hx:WT x) (hl:(A++flat x).length≤1000000):dN (A++flat x)=some (A.length:Int):=by
 obtain ⟨s',e,ks,q1,q2,q3⟩: ∃s',ai (kh (A++flat x)) aB (1,((A++flat x).length:Int))=some (.brk s')∧ ∃ks:List (Tr Tok),ks= [] ∧s'.2=(A.length:Int)∧True:=by
  obtain ⟨o,eo,hq⟩:=bF (f:=kh (A++flat x)) (fun i s=> ∃ks:List (Tr Tok),(∀k,k∈ks→WT k)∧s=((ks.length:Int),(((A++iI ks).length:Nat):Int))∧i+(iI ks).length=(flat x).length∧(A++flat x).take (A++iI ks).length=A++iI ks) (fun o=> ∃s',o= .brk s'∧s'.2=(A.length:Int)) (flat x).length (s:=(1,((A++flat x).length:Int))) (by
   rintro i s hi ⟨ks,hw,rfl,hlen,htk⟩
   unfold kh
   simp only[eQ]
   rcases List.eq_nil_or_concat ks with rfl | ⟨ks',y,rfl⟩
   ·refine .inr ⟨_,by rw[if_neg (by simp)],(fun s' e=>by cases e),_,rfl,?_⟩
    simp[iI]
   ·have hy:=hw y (by simp)
    cases hy with
    | @node t cs h1 h2 =>
     have hfl:iI (ks'++ [.node t cs])=iI (ks'++cs)++ [t]:=by rw[oh,kT,flat,oh,List.append_assoc]
     rw[List.concat_eq_append,hfl] at hlen htk⊢
     simp only[List.length_append,List.length_cons,List.length_nil] at hlen htk hl⊢
     rw[if_pos (by simp <;> omega)]
     have hpos:IntKind.i64.wrap (((A.length+((iI (ks'++cs)).length+1):Nat):Int) - 1)=((A.length+(iI (ks'++cs)).length:Nat):Int):=by
      rw[bZ (by omega) (by omega)];omega
     have hget:nth (A++flat x) ((A.length+(iI (ks'++cs)).length:Nat):Int)=t:=by
      have hlt:A.length+(iI (ks'++cs)).length<(A++flat x).length:=by rw[List.length_append];omega
      have e1:=congrArg (fun l:List Tok=>l[A.length+(iI (ks'++cs)).length]?) htk
      rw[List.getElem?_take_of_lt (by omega),List.getElem?_eq_getElem hlt,←List.append_assoc,List.getElem?_append_right (by rw[List.length_append];omega),List.length_append] at e1
      rw[bq hlt]
      simpa using e1
     rw[hpos,aj (by omega) (by simp only[List.length_append];omega),hget];simp only[Option.bind_some]
     rw[Xd,h1];simp only[Option.bind_some]
     have hcl:(cs.length:Int)≤2:=by rw[←h1];exact (tE t).2
     have hkl:ks'.length≤(iI (ks'++cs)).length+1000000:=by
      have: ∀l:List (Tr Tok),(∀k,k∈l→WT k)→l.length≤(iI l).length:=by
       intro l
       induction l with
       | nil=>intro _;simp
       | cons k l ih =>
        intro h
        have h1:=(h k (by simp)).pos
        have h2:=ih fun k hk=>h k (by simp[hk])
        rw[iI];simp only[List.length_cons,List.length_append];omega
      have:=this ks' fun k hk=>hw k (by simp[hk])
      rw[oh,List.length_append];omega
     refine .inl ⟨by omega,_,rfl,ks'++cs,fun k hk=>?_,?_,by omega,?_⟩
     ·rcases List.mem_append.1 hk with hk | hk
      ·exact hw k (by simp[hk])
      ·exact h2 k hk
     ·rw[bZ (n:=((ks'.length+1:Nat):Int) - 1) (by omega) (by omega),bZ (by omega) (by omega)]
      congr 1
      (simp only[List.length_append]) <;> omega
     ·have e1:=congrArg (List.take (A++iI (ks'++cs)).length) htk
      rw[List.take_take,Nat.min_eq_left (by rw[List.length_append];omega),←List.append_assoc,List.take_left] at e1
      rw[List.length_append] at e1
      exact e1) ⟨[x],fun k hk=>by (obtain rfl:=List.mem_singleton.1 hk;exact hx),by rw[kT];rfl,by rw[kT];omega,by rw[kT,List.take_length]⟩ (gp (by rw[List.length_append] at hl;omega))
  obtain ⟨s',rfl,h2⟩:=hq
  exact ⟨s',eo,[],rfl,h2,trivial⟩
 unfold dN
 rw[ae e,q2]
end D
namespace D
open Go.RowKit
def Bf (g:GrT) (c x:Int):Bool:=decide (6≤c∧c≤8∧nth g.1 x=c - 6)
section
variable {g:GrT} (G:GOk g) (hi:ay g=some true) (hs:aI g=some true) {c:Int} (hc:0≤c∧c≤8)
include G hi hs hc
theorem Sy {x:Int} (hx:0≤x∧x<g.1.length):oF g x c=some (Bf g c x):=by
 have hn:=G.n5
 unfold oF Bf
 simp only[eQ]
 rw[hs];simp only[Option.bind_some,if_true]
 rw[ju (by omega),Lw,Lw];simp only[Option.bind_some]
 rw[if_pos (by simp;omega),aj hx.1 hx.2,bZ (by omega) (by omega)];simp only[Option.bind_some]
 by_cases d:6≤c∧c≤8
 ·rw[if_pos (decide_eq_true d)]
  congr 1
  rw[Bool.eq_iff_iff];simp[d]
 ·rw[if_neg (by simpa using d),decide_eq_false fun h=>d ⟨h.1,h.2.1⟩]
theorem Sz {x:Int} (hx:0≤x∧x<g.1.length):oO g x c=some (Bf g c x):=by
 have hn:=G.n5
 have hv:=G.val _ (aX hx.1 hx.2)
 unfold oO Bf
 simp only[eQ]
 rw[hi];simp only[Option.bind_some,if_true]
 rw[ju (by omega),EU,Bd];simp only[Option.bind_some]
 rw[if_pos (by simp;omega),if_pos (by simp;omega),aj hx.1 hx.2];simp only[Option.bind_some]
 rw[bZ (by omega) (by omega)]
 congr 1
 rw[Bool.eq_iff_iff]
 simp
 omega
def rj (g:GrT) (c:Int):Nat→List Pr
 | 0=>[]
 | k+1=>if Bf g c k=true then rj g c k++ [((k:Int),(k:Int))] else rj g c k
omit G hi hs hc in
theorem xY (g:GrT) (c:Int): ∀k,(rj g c k).length≤k
 | 0=>Nat.le_refl _
 | k+1=>by
  have:=xY g c k
  rw[rj];split <;> simp <;> omega
omit G hi hs hc in
theorem xZ {x:Pr} : ∀k,(x∈rj g c k↔ ∃i:Nat,i<k∧Bf g c i=true∧x=((i:Int),(i:Int)))
 | 0=>by simp[rj]
 | k+1=>by
  have ih:=xZ (x:=x) k
  rw[rj]
  split
  ·rename_i d
   rw[List.mem_append,ih,List.mem_singleton]
   constructor
   ·rintro (⟨i,h1,h2⟩ | h)
    ·exact ⟨i,by omega,h2⟩
    ·exact ⟨k,by omega,d,h⟩
   ·rintro ⟨i,h1,h2,h3⟩
    by_cases e:i=k
    ·subst e;exact .inr h3
    ·exact .inl ⟨i,by omega,h2,h3⟩
  ·rename_i d
   rw[ih]
   constructor
   ·rintro ⟨i,h1,h2⟩;exact ⟨i,by omega,h2⟩
   ·rintro ⟨i,h1,h2,h3⟩
    by_cases e:i=k
    ·subst e;exact absurd h2 d
    ·exact ⟨i,by omega,h2,h3⟩
def edL (c:Int) (e:EdT):List Pr:=(if (2*e.2.2.2==c)=true then [(e.2.1,e.2.2.1)] else [])++(if (2*e.2.2.2+1==c)=true then [(e.2.2.1,e.2.1)] else [])
omit G hi hs hc in
theorem SA (c:Int) (es:List EdT):(es.flatMap (edL c)).length≤2*es.length:=my fun e _=>by
 unfold edL
 rw[List.length_append]
 split <;> split <;> simp
omit G hi hs hc in
theorem EZ {e:EdT} {x:Pr} :x∈edL c e↔(2*e.2.2.2=c∧x=(e.2.1,e.2.2.1))∨(2*e.2.2.2+1=c∧x=(e.2.2.1,e.2.1)):=by
 unfold edL
 rw[List.mem_append]
 by_cases h1:2*e.2.2.2=c <;> by_cases h2:2*e.2.2.2+1=c <;> simp[h1,h2]
def Tk (g:GrT) (c:Int):List Pr:=puts (puts [] (rj g c g.1.length)) (g.2.flatMap (edL c))
theorem Wf:fE g c=some (Tk g c):=by
 have hn:=G.n5
 have hm:=G.m
 unfold fE
 simp only[eQ]
 rw[hs];simp only[Option.bind_some,if_true]
 have:=ax (f:=cF g c) (fun k=>(puts [] (rj g c k),(k:Int))) g.1.length (fun k hk=>by
  have h1:=kH (rj g c k) []
  have h2:=xY g c k
  simp only[List.length_nil] at h1
  unfold cF
  simp only[eQ]
  rw[if_pos (by simp;omega),Sy G hi hs hc ⟨by omega,by omega⟩,aa (by omega),C1 _ _ (by omega),rj];simp only[Option.bind_some]
  by_cases d:Bf g c (k:Int)=true
  ·rw[if_pos d,if_pos d,qn];rfl
  ·rw[if_neg d,if_neg d];rfl) (by
  unfold cF
  simp only
  rw[if_neg (by simp)]) (gp (by omega))
 have this:ai (cF g c) aB (([] :List (Int×Int)),0)=_:=this
 rw[ae this];simp only
 have h2:=xY g c g.1.length
 have h1:=kH (rj g c g.1.length) []
 simp only[List.length_nil] at h1
 have:=ax (f:=cG g c) (fun k=>(puts (puts [] (rj g c g.1.length)) ((g.2.take k).flatMap (edL c)),(k:Int))) g.2.length (fun k hk=>by
  have h3:=kH ((g.2.take k).flatMap (edL c)) (puts [] (rj g c g.1.length))
  have h4:=SA c (g.2.take k)
  have h5:(g.2.take k).length≤12:=by rw[List.length_take];omega
  have he:=G.edge _ (List.getElem_mem hk)
  unfold cG
  simp only[eQ]
  rw[bA hk,if_pos rfl,aq hk];simp only[Option.bind_some]
  rw[bZ (n:=2*g.2[k].2.2.2) (by omega) (by omega),bZ (n:=2*g.2[k].2.2.2+1) (by omega) (by omega),aa (by omega),C1 _ (g.2[k].2.1,g.2[k].2.2.1) (by omega),List.take_succ_eq_append_getElem hk,List.flatMap_append,GF]
  generalize puts (puts [] (rj g c g.1.length)) ((g.2.take k).flatMap (edL c))=S at *
  have h6:=Lu S (g.2[k].2.1,g.2[k].2.2.1)
  rw[List.flatMap_cons,List.flatMap_nil,List.append_nil]
  unfold edL
  by_cases d1:(2*g.2[k].2.2.2==c)=true
  ·rw[if_pos d1,if_pos d1];simp only[Option.bind_some]
   rw[C1 _ (g.2[k].2.2.1,g.2[k].2.1) (by omega)];simp only[Option.bind_some]
   by_cases d2:(2*g.2[k].2.2.2+1==c)=true
   ·rw[if_pos d2,if_pos d2];rfl
   ·rw[if_neg d2,if_neg d2];rfl
  ·rw[if_neg d1,if_neg d1];simp only[Option.bind_some]
   rw[C1 _ (g.2[k].2.2.1,g.2[k].2.1) (by omega)];simp only[Option.bind_some]
   by_cases d2:(2*g.2[k].2.2.2+1==c)=true
   ·rw[if_pos d2,if_pos d2];rfl
   ·rw[if_neg d2,if_neg d2];rfl) (by
  unfold cG
  simp only
  rw[if_neg (by simp)]) (gp (by omega))
 have this:ai (cG g c) aB (puts [] (rj g c g.1.length),0)=_:=this
 rw[ae this,List.take_of_length_le (Nat.le_refl _)];rfl
def arL (c:Int) (x:Int) (l:List ArT):List Pr:=(l.filter fun y=>y.2.1==c).map fun y=>(x,y.2.2)
omit G hi hs hc in
theorem E3 (c x:Int) (l:List ArT):(arL c x l).length≤l.length:=by unfold arL;rw[List.length_map];exact List.length_filter_le ..
def My (g:GrT) (c:Int) (k:Nat):List Pr:=arL c k (im g.2 k)++if Bf g c k=true then [((k:Int),(k:Int))] else []
omit hi hs hc in
theorem O6 (k:Nat):(My g c k).length≤25:=by
 have h1:=E3 c k (im g.2 k)
 have h2:=ng g.2 k
 have h3:=G.m
 unfold My
 rw[List.length_append]
 split <;> simp <;> omega
theorem O7 {x:Int} {l:List ArT} (hl:l.length≤1000) {o:List Pr} (ho:o.length≤1000):ai (cO c (o,x) l) aB (o,0)=some (.brk (o++arL c x l,(l.length:Int))):=by
 have:=ax (f:=cO c (o,x) l) (fun k=>(o++arL c x (l.take k),(k:Int))) l.length (fun k hk=>by
  have h2:=E3 c x (l.take k)
  have h3:(l.take k).length≤l.length:=by rw[List.length_take];omega
  unfold cO
  simp only
  rw[bA hk,if_pos rfl,aq hk];simp only[Option.bind_some,aa (show k<9223372036854775807 by omega)]
  rw[au (by rw[List.length_append];simp only[List.length_cons,List.length_nil];omega),List.take_succ_eq_append_getElem hk];simp only[Option.bind_some]
  unfold arL
  rw[List.filter_append,List.map_append]
  by_cases d:(l[k].2.1==c)=true
  ·rw[Iy,if_pos d,if_pos d,List.map_cons,List.map_nil,List.append_assoc];rfl
  ·rw[Iy,if_neg d,if_neg d,List.map_nil,List.append_nil];rfl) (by
  unfold cO
  simp only
  rw[bh];rfl) (gp (by omega))
 have e0:o++arL c x (l.take 0)=o:=by simp[arL]
 simp only[e0] at this
 rw[List.take_of_length_le (Nat.le_refl _)] at this
 exact this
theorem Wg:fH g c=some (Tk g c):=by
 have hn:=G.n5
 have hm:=G.m
 have hlen: ∀k,((List.range k).flatMap (My g c)).length≤25*k:=fun k=>by
  have:=my (f:=My g c) (B:=25) (xs:=List.range k) fun x _=>O6 G x
  simpa using this
 unfold fH
 simp only[eQ]
 rw[hi];simp only[Option.bind_some,if_true]
 rw[Bd];simp only[Option.bind_some]
 rw[if_pos (decide_eq_true hc),Qk G];simp only[Option.bind_some]
 have:=ax (f:=cP g c (rm g.1.length (im g.2))) (fun k=>((List.range k).flatMap (My g c),(k:Int))) g.1.length (fun k hk=>by
  have h1:=hlen k
  have h2:=ng g.2 k
  have h3:=E3 c k (im g.2 k)
  unfold cP
  simp only[eQ]
  rw[if_pos (by rw[dh];simp;omega),mw hk];simp only[Option.bind_some]
  rw[ae (O7 G hi hs hc (by omega) (by omega)),Sz G hi hs hc ⟨by omega,by omega⟩];simp only[Option.bind_some]
  rw[au (by rw[List.length_append];simp only[List.length_cons,List.length_nil];omega),aa (by omega),List.range_succ,List.flatMap_append,List.flatMap_cons,List.flatMap_nil,List.append_nil];simp only[Option.bind_some]
  unfold My
  by_cases d:Bf g c (k:Int)=true
  ·rw[if_pos d,if_pos d,List.append_assoc];rfl
  ·rw[if_neg d,if_neg d,List.append_nil];rfl) (by
  unfold cP
  simp only
  rw[if_neg (by rw[dh];simp)]) (gp (by omega))
 have this:ai (cP g c (rm g.1.length (im g.2))) aB (([] :List (Int×Int)),0)=_:=this
 rw[ae this];simp only
 have h1:=hlen g.1.length
 rw[C3 _ (by omega)];simp only[Option.bind_some]
 congr 1
 refine q9 (A7 _) (show Str (Tk g c) from lE (lE List.Pairwise.nil)) fun x=>?_
 unfold Tk
 rw[A8,List.mem_flatMap,jw,jw,xZ,List.mem_flatMap]
 constructor
 ·rintro ⟨k,hk,h⟩
  have hk:=List.mem_range.1 hk
  unfold My at h
  rcases List.mem_append.1 h with h | h
  ·right
   unfold arL at h
   obtain ⟨y,hy,rfl⟩:=List.mem_map.1 h
   obtain ⟨hy,e⟩:=List.mem_filter.1 hy
   have e:=eq_of_beq e
   unfold im at hy
   obtain ⟨ed,hed,hy⟩:=List.mem_flatMap.1 hy
   refine ⟨ed,hed,EZ.2 ?_⟩
   unfold LA at hy
   rcases List.mem_append.1 hy with hy | hy
   ·split at hy
    ·rename_i hf
     obtain rfl:=List.mem_singleton.1 hy
     exact .inl ⟨e,by rw[←hf];rfl⟩
    ·cases hy
   ·split at hy
    ·rename_i hf
     obtain rfl:=List.mem_singleton.1 hy
     exact .inr ⟨e,by rw[←hf];rfl⟩
    ·cases hy
  ·left
   split at h
   ·rename_i d
    obtain rfl:=List.mem_singleton.1 h
    exact .inr ⟨k,hk,d,rfl⟩
   ·cases h
 ·rintro ((h | ⟨i,h1,h2,rfl⟩) | ⟨ed,hed,h⟩)
  ·cases h
  ·refine ⟨i,List.mem_range.2 h1,?_⟩
   unfold My
   rw[if_pos h2]
   exact List.mem_append.2 (.inr (List.mem_singleton.2 rfl))
  ·have hg:=G.edge ed hed
   rcases EZ.1 h with ⟨e,rfl⟩ | ⟨e,rfl⟩
   ·refine ⟨ed.2.1.toNat,List.mem_range.2 (by omega),?_⟩
    have hn:((ed.2.1.toNat:Nat):Int)=ed.2.1:=by omega
    unfold My arL im
    refine List.mem_append.2 (.inl (List.mem_map.2 ⟨fwd ed,List.mem_filter.2 ⟨List.mem_flatMap.2 ⟨ed,hed,?_⟩,?_⟩,?_⟩))
    ·unfold LA
     rw[if_pos hn.symm]
     exact List.mem_append.2 (.inl (List.mem_singleton.2 rfl))
    ·exact beq_iff_eq.2 e
    ·rw[hn];rfl
   ·refine ⟨ed.2.2.1.toNat,List.mem_range.2 (by omega),?_⟩
    have hn:((ed.2.2.1.toNat:Nat):Int)=ed.2.2.1:=by omega
    unfold My arL im
    refine List.mem_append.2 (.inl (List.mem_map.2 ⟨inv ed,List.mem_filter.2 ⟨List.mem_flatMap.2 ⟨ed,hed,?_⟩,?_⟩,?_⟩))
    ·unfold LA
     rw[if_pos (c:=ed.2.2.1=_) hn.symm]
     exact List.mem_append.2 (.inr (List.mem_singleton.2 rfl))
    ·exact beq_iff_eq.2 e
    ·rw[hn];rfl
theorem UB:InR (Tk g c):=by
 have hn:=G.n5
 refine ⟨lE (lE List.Pairwise.nil),fun p hp=>?_⟩
 unfold Tk at hp
 rw[jw,jw,xZ,List.mem_flatMap] at hp
 rcases hp with (h | ⟨i,h1,-,rfl⟩) | ⟨ed,hed,h⟩
 ·cases h
 ·simp only;omega
 ·have hg:=G.edge ed hed
  rcases EZ.1 h with ⟨-,rfl⟩ | ⟨-,rfl⟩ <;> (simp only;omega)
end
end D
namespace D
open Go.RowKit
instance trInh {α:Type} :Inhabited (Tr α):=⟨.nil⟩
def szX:Tr Tok→Int
 | .nil=>0
 | .node t ks=>min (szL t 1 ks) 100000
where szL (t:Tok) (acc:Int):List (Tr Tok)→Int
 | [] =>acc
 | k::ks=>szL t (acc+(if t.1=7 then (szX k+3)*t.2.2.2 else szX k)) ks
theorem dM {x:Tr Tok} (h:WT x):1≤szX x∧szX x≤100000:=by
 refine WT.ind (p:=fun x=>1≤szX x∧szX x≤100000) ?_ ?_ ?_ h
 ·intro t _
  show 1≤min (1:Int) 100000∧min (1:Int) 100000≤100000
  omega
 ·intro t a e _ ih
  show 1≤min ((1:Int)+(if t.1=7 then (szX a+3)*t.2.2.2 else szX a)) 100000∧min ((1:Int)+(if t.1=7 then (szX a+3)*t.2.2.2 else szX a)) 100000≤100000
  split
  ·rename_i k
   have hr:=vl (show 0≤ar t by omega) k
   have:0≤(szX a+3)*t.2.2.2:=Int.mul_nonneg (by omega) (by omega)
   omega
  ·omega
 ·intro t a b e _ _ iha ihb
  have k:t.1≠7:=by
   rcases jA (show 0≤ar t by omega) with ⟨_,k⟩ | ⟨k,_⟩ | ⟨k,_⟩ <;> omega
  show 1≤min ((1:Int)+(if t.1=7 then (szX a+3)*t.2.2.2 else szX a)+(if t.1=7 then (szX b+3)*t.2.2.2 else szX b)) 100000∧min ((1:Int)+(if t.1=7 then (szX a+3)*t.2.2.2 else szX a)+(if t.1=7 then (szX b+3)*t.2.2.2 else szX b)) 100000≤100000
  rw[if_neg k,if_neg k]
  omega
theorem C8 {a h:Int} (h1:1≤a∧a≤100000) (h2:1≤h∧h≤3):IntKind.i64.wrap ((IntKind.i64.wrap (a+3))*h)=(a+3)*h:=by
 rw[bZ (n:=a+3) (by omega) (by omega)]
 have k1:0≤(a+3)*h:=Int.mul_nonneg (by omega) (by omega)
 have k2:(a+3)*h≤100003*3:=Int.mul_le_mul (by omega) (by omega) (by omega) (by omega)
 exact bZ (by omega) (by omega)
theorem LH {a h:Int} (h1:1≤a∧a≤100000) (h2:1≤h∧h≤3):0≤(a+3)*h∧(a+3)*h≤300009:=by
 have k1:0≤(a+3)*h:=Int.mul_nonneg (by omega) (by omega)
 have k2:(a+3)*h≤100003*3:=Int.mul_le_mul (by omega) (by omega) (by omega) (by omega)
 omega
theorem lf {t:Tok} {ks:List (Tr Tok)} :Tr.get (.node t ks)=some (t,ks):=rfl
theorem uH {f:Tr Tok→Option Int} {t:Tok} {ks:List (Tr Tok)} {i:Nat} {acc:Int} (hi:i<ks.length) (hf:f (nth ks (i:Int))=some (szX (nth ks (i:Int)))) (hw:WT (nth ks (i:Int))) (ht:0≤ar t) (ha:0≤acc∧acc≤1000000) (hik:i≤1000000) :
  aT f (.node t ks) (t,ks) (acc,(i:Int))=some (.nxt (acc+(if t.1=7 then (szX (nth ks (i:Int))+3)*t.2.2.2 else szX (nth ks (i:Int))),((i+1:Nat):Int))):=by
 unfold aT
 simp only[lf]
 have hr:=dM hw
 rw[if_pos (by simp <;> omega),aj (by omega) (by omega)];simp only[Option.bind_some]
 by_cases k:t.1=7
 ·have h7:=vl ht k
  have hm:=LH hr h7.2
  rw[if_pos (by simpa using k),if_pos k,hf];simp only[Option.bind_some]
  rw[C8 hr h7.2,bZ (by omega) (by omega),aa (by omega)]
 ·rw[if_neg (by simpa using k),if_neg k,hf];simp only[Option.bind_some]
  rw[bZ (by omega) (by omega),aa (by omega)]
theorem vP {α:Type} [Inhabited α] {a:α} {l:List α} :nth (a::l) ((0:Nat):Int)=a:=rfl
theorem LI {α:Type} [Inhabited α] {a b:α} {l:List α} :nth (a::b::l) ((1:Nat):Int)=b:=rfl
theorem SB {x:Tr Tok} (h:WT x): ∀n,(flat x).length≤n→a8 n x=some (szX x):=by
 refine WT.ind (p:=fun x=> ∀n,(flat x).length≤n→a8 n x=some (szX x)) ?_ ?_ ?_ h
 ·intro t e n hn
  rw[xU] at hn
  match n,hn with
  | n+1,_ =>
   rw[a8];simp only[lf,Option.bind_some]
   have hL:ai (aT (a8 n) (.node t []) (t,[])) aB (1,0)=some (.brk (1,0)):=ax (f:=aT (a8 n) (.node t []) (t,[])) (fun i=>(1,(i:Int))) 0 (fun i hi=>by omega) (by unfold aT;simp) (by unfold aB;omega)
   rw[ae hL]
   all_goals rfl
 ·intro t a e wa ih n hn
  rw[yG,List.length_append] at hn
  match n,hn with
  | n+1,hn =>
   have hr:=dM wa
   rw[a8];simp only[lf,Option.bind_some]
   have hL:ai (aT (a8 n) (.node t [a]) (t,[a])) aB (1,0)=some (.brk (szX.szL t 1 [a],1)):=ax (f:=aT (a8 n) (.node t [a]) (t,[a])) (fun i=>(szX.szL t 1 ([a].take i),(i:Int))) 1 (fun i hi=>by
    obtain rfl:i=0:=by omega
    exact uH (acc:=1) (i:=0) (by simp) (ih n (by simp at hn;omega)) wa (by omega) (by omega) (by omega)) (by unfold aT;simp) (by unfold aB;omega)
   rw[ae hL]
   all_goals rfl
 ·intro t a b e wa wb iha ihb n hn
  rw[ri,List.length_append,List.length_append] at hn
  match n,hn with
  | n+1,hn =>
   have hra:=dM wa
   have hrb:=dM wb
   have k:t.1≠7:=by
    rcases jA (show 0≤ar t by omega) with ⟨_,k⟩ | ⟨k,_⟩ | ⟨k,_⟩ <;> omega
   rw[a8];simp only[lf,Option.bind_some]
   have hL:ai (aT (a8 n) (.node t [a,b]) (t,[a,b])) aB (1,0)=some (.brk (szX.szL t 1 [a,b],2)):=ax (f:=aT (a8 n) (.node t [a,b]) (t,[a,b])) (fun i=>(szX.szL t 1 ([a,b].take i),(i:Int))) 2 (fun i hi=>by
    have:i=0∨i=1:=by omega
    rcases this with rfl | rfl
    ·exact uH (acc:=1) (i:=0) (by simp) (iha n (by simp at hn;omega)) wa (by omega) (by omega) (by omega)
    ·exact uH (acc:=1+(if t.1=7 then (szX a+3)*t.2.2.2 else szX a)) (i:=1) (by simp) (ihb n (by simp at hn;omega)) wb (by omega) (by rw[if_neg k];omega) (by omega)) (by unfold aT;simp) (by unfold aB;omega)
   rw[ae hL]
   all_goals rfl
theorem iA {A:List Tok} {t:Tok} (h:A.length≤1000000):aw (A++ [t]) (IntKind.i64.wrap (((A++ [t]).length:Int) - 1))=some t∧IntKind.i64.wrap (((A++ [t]).length:Int) - 1)=(A.length:Int):=by
 have e:IntKind.i64.wrap (((A++ [t]).length:Int) - 1)=(A.length:Int):=by
  rw[bZ (by simp only[List.length_append,List.length_cons,List.length_nil];omega) (by simp only[List.length_append,List.length_cons,List.length_nil];omega)]
  simp only[List.length_append,List.length_cons,List.length_nil];omega
 refine ⟨?_,e⟩
 rw[e,aj (by omega) (by simp only[List.length_append,List.length_cons,List.length_nil];omega),bq (by simp)]
 simp
theorem Xe {t:Tok} (h:ar t=2):(if t.1==4 then (some (t.1==4)) else (some (t.1==5)):Option Bool)=some true:=by
 rcases jA (show 0≤ar t by omega) with ⟨_,k | k⟩ | ⟨e,_⟩ | ⟨e,_⟩
 ·simp[k]
 ·simp[k]
 ·omega
 ·omega
theorem O8 {t:Tok} (h:ar t=1∨ar t=0):(if t.1==4 then (some (t.1==4)) else (some (t.1==5)):Option Bool)=some false:=by
 rcases jA (show 0≤ar t by omega) with ⟨e,k⟩ | ⟨e,k | k⟩ | ⟨e,k | k | k⟩
 ·omega
 all_goals simp[k]
theorem UC {t:Tok} (h:ar t=0):(t.1==6)=false∧(t.1==7)=false:=by
 rcases jA (show 0≤ar t by omega) with ⟨e,k⟩ | ⟨e,k | k⟩ | ⟨e,k | k | k⟩
 ·omega
 ·omega
 ·omega
 all_goals simp[k]
theorem O9 {t:Tok} (h:ar t=1):((t.1==6)=true∧t.1=6)∨((t.1==6)=false∧(t.1==7)=true∧t.1=7):=by
 rcases jA (show 0≤ar t by omega) with ⟨e,k⟩ | ⟨e,k | k⟩ | ⟨e,k | k | k⟩
 ·omega
 ·left;simp[k]
 ·right;simp[k]
 all_goals omega
theorem tH {a b:Tr Tok} {t:Tok} (wb:WT b) (hl:((flat a++flat b)++ [t]).length≤1000000) :
  (((flat a++flat b)++ [t]).take ((((flat a++flat b).length:Nat):Int)).toNat)=flat a++flat b ∧
  dN (flat a++flat b)=some (((flat a).length:Nat):Int) ∧
  (((flat a++flat b)++ [t]).take ((((flat a).length:Nat):Int)).toNat)=flat a ∧
  (flat a++flat b).drop ((((flat a).length:Nat):Int)).toNat=flat b:=by
 refine ⟨?_,Sx wb (by simp only[List.length_append,List.length_cons,List.length_nil] at hl⊢;omega),?_,?_⟩
 ·rw[Int.toNat_natCast,List.take_left]
 ·rw[Int.toNat_natCast,List.append_assoc,List.take_left]
 ·rw[Int.toNat_natCast,List.drop_left]
theorem UD {x:Tr Tok} (h:WT x): ∀n,(flat x).length≤n→(flat x).length≤1000000→dj n (flat x)=some (szX x):=by
 refine WT.ind (p:=fun x=> ∀n,(flat x).length≤n→(flat x).length≤1000000→dj n (flat x)=some (szX x)) ?_ ?_ ?_ h
 ·intro t e n hn hl
  rw[xU] at hn hl⊢
  match n,hn with
  | n+1,_ =>
   have hk:=UC e
   rw[dj]
   have:=(iA (A:=[]) (t:=t) (by simp)).1
   rw[List.nil_append] at this
   rw[this];simp only[Option.bind_some]
   rw[O8 (.inr e)];simp only[Option.bind_some,hk.1,hk.2,Bool.false_eq_true,if_false]
   rfl
 ·intro t a e wa ih n hn hl
  rw[yG] at hn hl⊢
  simp only[List.length_append,List.length_cons,List.length_nil] at hn hl
  match n,hn with
  | n+1,hn =>
   have hr:=dM wa
   rw[dj]
   obtain ⟨l1,l2⟩:=iA (A:=flat a) (t:=t) (by omega)
   rw[l1];simp only[Option.bind_some]
   rw[O8 (.inl e)];simp only[Option.bind_some,Bool.false_eq_true,if_false]
   rw[l2,Int.toNat_natCast,List.take_left,iQ (by simp only[List.length_append,List.length_cons,List.length_nil];omega)];simp only[Option.bind_some]
   rw[ih n (by omega) (by omega)];simp only[Option.bind_some]
   rcases O9 e with ⟨k1,k2⟩ | ⟨k1,k2,k3⟩
   ·rw[if_pos k1,bZ (by omega) (by omega)]
    show some (min 100000 (szX a+1))=some (min ((1:Int)+(if t.1=7 then (szX a+3)*t.2.2.2 else szX a)) 100000)
    rw[if_neg (by omega)]
    congr 1;omega
   ·have h7:=vl (show 0≤ar t by omega) k3
    have hm:=LH hr h7.2
    rw[if_neg (by simp[k1]),if_pos k2,C8 hr h7.2,bZ (by omega) (by omega)]
    show some (min 100000 ((szX a+3)*t.2.2.2+1))=some (min ((1:Int)+(if t.1=7 then (szX a+3)*t.2.2.2 else szX a)) 100000)
    rw[if_pos k3]
    congr 1;omega
 ·intro t a b e wa wb iha ihb n hn hl
  rw[ri] at hn hl⊢
  obtain ⟨p1,p2,p3,p4⟩:=tH (a:=a) (t:=t) wb hl
  simp only[List.length_append,List.length_cons,List.length_nil] at hn hl
  match n,hn with
  | n+1,hn =>
   have hra:=dM wa
   have hrb:=dM wb
   have k:t.1≠7:=by
    rcases jA (show 0≤ar t by omega) with ⟨_,k⟩ | ⟨k,_⟩ | ⟨k,_⟩ <;> omega
   rw[dj]
   obtain ⟨l1,l2⟩:=iA (A:=flat a++flat b) (t:=t) (by rw[List.length_append];omega)
   rw[l1];simp only[Option.bind_some]
   rw[Xe e];simp only[Option.bind_some,if_true]
   rw[l2,p1,p2,iQ (by simp only[List.length_append,List.length_cons,List.length_nil];omega)];simp only[Option.bind_some]
   rw[iQ (by simp only[List.length_append,List.length_cons,List.length_nil];omega),p3,p4];simp only[Option.bind_some]
   rw[iha n (by omega) (by omega),iQ (by simp only[List.length_append,List.length_cons,List.length_nil];omega)];simp only[Option.bind_some]
   rw[ihb n (by have:=wa.pos;omega) (by omega)];simp only[Option.bind_some]
   rw[bZ (n:=szX a+szX b) (by omega) (by omega),bZ (by omega) (by omega)]
   show some (min 100000 (szX a+szX b+1))=some (min ((1:Int)+(if t.1=7 then (szX a+3)*t.2.2.2 else szX a)+(if t.1=7 then (szX b+3)*t.2.2.2 else szX b)) 100000)
   rw[if_neg k,if_neg k]
   congr 1;omega
def Pa:Tr Tok:=.node (2,0,0,0) []
def E4 (x:Tr Tok):Nat→Int→Tr Tok
 | 0,_=>Pa
 | h+1,low=>if 0<low then .node (4,0,0,0) [x,E4 x h (max 0 (low - 1))] else .node (5,0,0,0) [.node (4,0,0,0) [x,E4 x h (max 0 (low - 1))],Pa]
mutual
def pC:Tr Tok→Tr Tok
 | .nil=>.nil
 | .node t ks=>if t.1=7 then E4 ((Mz ks).headD .nil) t.2.2.2.toNat t.2.2.1 else .node t (Mz ks)
def Mz:List (Tr Tok)→List (Tr Tok)
 | [] =>[]
 | k::ks=>pC k::Mz ks
end
theorem ar4:ar (4,0,0,0)=2:=by decide
theorem ar5:ar (5,0,0,0)=2:=by decide
theorem ar2:ar (2,0,0,0)=0:=by decide
theorem LJ:WT Pa:=.node ar2 fun k hk=>by cases hk
theorem tI:flat Pa= [(2,0,0,0)]:=xU _
theorem WT.two {t:Tok} {a b:Tr Tok} (h:ar t=2) (ha:WT a) (hb:WT b):WT (.node t [a,b]):=.node h fun k hk=>by
 rcases List.mem_cons.1 hk with rfl | hk
 ·exact ha
 ·obtain rfl:=List.mem_singleton.1 hk
  exact hb
theorem WT.one {t:Tok} {a:Tr Tok} (h:ar t=1) (ha:WT a):WT (.node t [a]):=.node h fun k hk=>by
 obtain rfl:=List.mem_singleton.1 hk
 exact ha
theorem E5 {x:Tr Tok} (hx:WT x): ∀(h:Nat) (low:Int),WT (E4 x h low)
 | 0,_=>LJ
 | h+1,low=>by
  rw[E4]
  split
  ·exact .two ar4 hx (E5 hx h _)
  ·exact .two ar5 (.two ar4 hx (E5 hx h _)) LJ
theorem Bg (x:Tr Tok): ∀(h:Nat) (low:Int),(flat (E4 x h low)).length≤((flat x).length+3)*h+1
 | 0,_=>by rw[E4,tI];simp
 | h+1,low=>by
  have ih:=Bg x h (max 0 (low - 1))
  rw[E4]
  split
  ·rw[ri];simp only[List.length_append,List.length_cons,List.length_nil]
   rw[Nat.mul_succ];omega
  ·rw[ri,ri,tI];simp only[List.length_append,List.length_cons,List.length_nil]
   rw[Nat.mul_succ];omega
theorem Vv {t:Tok} {a:Tr Tok} :pC (.node t [a])=if t.1=7 then E4 (pC a) t.2.2.2.toNat t.2.2.1 else .node t [pC a]:=by rw[pC,Mz,Mz];rfl
theorem exp2 {t:Tok} {a b:Tr Tok} (h:t.1≠7):pC (.node t [a,b])= .node t [pC a,pC b]:=by rw[pC,if_neg h,Mz,Mz,Mz]
theorem Vx {t:Tok} (h:t.1≠7):pC (.node t [])= .node t []:=by rw[pC,if_neg h,Mz]
theorem no7 {t:Tok} (h:ar t=2∨ar t=0):t.1≠7:=by
 rcases jA (show 0≤ar t by omega) with ⟨_,k⟩ | ⟨k,_⟩ | ⟨_,k⟩ <;> omega
theorem Qm {x:Tr Tok} (h:WT x):WT (pC x):=by
 refine WT.ind (p:=fun x=>WT (pC x)) ?_ ?_ ?_ h
 ·intro t e
  rw[Vx (no7 (.inr e))]
  exact .node e fun k hk=>by cases hk
 ·intro t a e _ ih
  rw[Vv]
  split
  ·exact E5 ih _ _
  ·exact .one e ih
 ·intro t a b e _ _ iha ihb
  rw[exp2 (no7 (.inl e))]
  exact .two e iha ihb
theorem Bh {x:Tr Tok} (h:WT x):szX x<100000→((flat (pC x)).length:Int)≤szX x:=by
 refine WT.ind (p:=fun x=>szX x<100000→((flat (pC x)).length:Int)≤szX x) ?_ ?_ ?_ h
 ·intro t e _
  rw[Vx (no7 (.inr e)),xU]
  show (1:Int)≤min 1 100000
  omega
 ·intro t a e wa ih hs
  have hr:=dM wa
  have hs':min ((1:Int)+(if t.1=7 then (szX a+3)*t.2.2.2 else szX a)) 100000<100000:=hs
  show _≤min ((1:Int)+(if t.1=7 then (szX a+3)*t.2.2.2 else szX a)) 100000
  rw[Vv]
  by_cases k:t.1=7
  ·rw[if_pos k] at hs'⊢
   rw[if_pos k]
   have h7:=vl (show 0≤ar t by omega) k
   have hge:szX a+3≤(szX a+3)*t.2.2.2:=by
    have:=Int.mul_le_mul_of_nonneg_left (c:=szX a+3) h7.2.1 (by omega)
    omega
   have h1:=ih (by omega)
   have h2:=Bg (pC a) t.2.2.2.toNat t.2.2.1
   have h3:(((flat (pC a)).length+3)*t.2.2.2.toNat:Int)≤(szX a+3)*t.2.2.2:=by
    rw[Int.toNat_of_nonneg (by omega)]
    exact Int.mul_le_mul_of_nonneg_right (by omega) (by omega)
   have h4:((flat (E4 (pC a) t.2.2.2.toNat t.2.2.1)).length:Int)≤(((flat (pC a)).length+3)*t.2.2.2.toNat:Int)+1:=by exact_mod_cast h2
   omega
  ·rw[if_neg k] at hs'⊢
   rw[if_neg k,yG]
   have h1:=ih (by omega)
   simp only[List.length_append,List.length_cons,List.length_nil]
   omega
 ·intro t a b e wa wb iha ihb hs
  have hra:=dM wa
  have hrb:=dM wb
  have k:=no7 (.inl e)
  have hs':min ((1:Int)+(if t.1=7 then (szX a+3)*t.2.2.2 else szX a)+(if t.1=7 then (szX b+3)*t.2.2.2 else szX b)) 100000<100000:=hs
  show _≤min ((1:Int)+(if t.1=7 then (szX a+3)*t.2.2.2 else szX a)+(if t.1=7 then (szX b+3)*t.2.2.2 else szX b)) 100000
  rw[if_neg k,if_neg k] at hs'⊢
  rw[exp2 k,ri]
  have h1:=iha (by omega)
  have h2:=ihb (by omega)
  simp only[List.length_append,List.length_cons,List.length_nil]
  omega
theorem zT {x:Tr Tok} : ∀(h n:Nat) (low:Int),h<n→h≤3→0≤low→low≤3→iL n x low (h:Int)=some (E4 x h low)
 | 0,n+1,low,_,_,_,_=>by
  rw[iL,if_pos (by rfl)];rfl
 | h+1,n+1,low,h1,h2,h3,h4=>by
  rw[iL,if_neg (by simp;omega),bZ (n:=low - 1) (by omega) (by omega),bZ (n:=((h+1:Nat):Int) - 1) (by omega) (by omega)]
  rw[show ((h+1:Nat):Int) - 1=(h:Int) from by omega,zT h n (max 0 (low - 1)) (by omega) (by omega) (by omega) (by omega)];simp only[Option.bind_some]
  rw[E4]
  by_cases c:0<low
  ·rw[if_pos (by simpa using c),if_pos c]
  ·rw[if_neg (by simpa using c),if_neg c];rfl
theorem GK {a b:List Tok} {t:Tok} (h:a.length+b.length≤1000000):jS a b t=some ((a++b)++ [t]):=by
 unfold jS ui
 rw[au (by simp only[List.length_append,List.length_cons,List.length_nil];omega)];simp only[Option.bind_some,List.nil_append]
 rw[au (by omega)];simp only[Option.bind_some]
 rw[au (by simp only[List.length_append,List.length_cons,List.length_nil];omega)];rfl
theorem LK {x:Tr Tok} : ∀(h n:Nat) (low:Int),h<n→h≤3→0≤low→low≤3→(flat x).length≤100000→iK n (flat x) low (h:Int)=some (flat (E4 x h low))
 | 0,n+1,low,_,_,_,_,_=>by
  rw[iK,if_pos (by rfl),E4,tI];rfl
 | h+1,n+1,low,h1,h2,h3,h4,h5=>by
  rw[iK,if_neg (by simp;omega),bZ (n:=low - 1) (by omega) (by omega),bZ (n:=((h+1:Nat):Int) - 1) (by omega) (by omega)]
  rw[show ((h+1:Nat):Int) - 1=(h:Int) from by omega,LK h n (max 0 (low - 1)) (by omega) (by omega) (by omega) (by omega) h5];simp only[Option.bind_some]
  have hl:=Bg x h (max 0 (low - 1))
  have hl3:((flat x).length+3)*h≤100003*3:=Nat.mul_le_mul (by omega) (by omega)
  rw[GK (by omega),E4];simp only[Option.bind_some]
  by_cases c:0<low
  ·rw[if_pos (by simpa using c),if_pos c,ri]
  ·rw[if_neg (by simpa using c),if_neg c,ri,ri,tI]
   show (nJ 2).bind _=_
   unfold nJ;simp only[Option.bind_some]
   rw[GK (by simp only[List.length_append,List.length_cons,List.length_nil];omega)];rfl
theorem qp:1000000000000≤dy:=by rw[MS];unfold aB;omega
theorem Pb {x:Tr Tok} (h:WT x): ∀n,(flat x).length≤n→aP n x=some (pC x):=by
 have hF:=qp
 refine WT.ind (p:=fun x=> ∀n,(flat x).length≤n→aP n x=some (pC x)) ?_ ?_ ?_ h
 ·intro t e n hn
  rw[xU] at hn
  have k:=no7 (.inr e)
  match n,hn with
  | n+1,_ =>
   rw[aP];simp only[lf,Option.bind_some]
   rw[if_neg (by simpa using k),Vx k]
   have hL:ai (aG (aP n) (t,[])) aB (0,t.1,t.2.1,t.2.2.1,t.2.2.2,[])=some (.brk (0,t.1,t.2.1,t.2.2.1,t.2.2.2,[])):=ax (f:=aG (aP n) (t,[])) (fun i=>((i:Int),t.1,t.2.1,t.2.2.1,t.2.2.2,Mz (([] :List (Tr Tok)).take i))) 0 (fun i hi=>by omega) (by unfold aG;simp) (by unfold aB;omega)
   rw[ae hL]
   all_goals rfl
 ·intro t a e wa ih n hn
  rw[yG,List.length_append] at hn
  match n,hn with
  | n+1,hn =>
   have ia:=ih n (by simp at hn;omega)
   rw[aP,Vv];simp only[lf,Option.bind_some]
   rcases O9 e with ⟨k1,k2⟩ | ⟨k1,k2,k3⟩
   ·rw[if_neg (by simp;omega),if_neg (by omega)]
    have hL:ai (aG (aP n) (t,[a])) aB (0,t.1,t.2.1,t.2.2.1,t.2.2.2,[])=some (.brk (1,t.1,t.2.1,t.2.2.1,t.2.2.2,[pC a])):=ax (f:=aG (aP n) (t,[a])) (fun i=>((i:Int),t.1,t.2.1,t.2.2.1,t.2.2.2,[pC a].take i)) 1 (fun i hi=>by
     obtain rfl:i=0:=by omega
     unfold aG
     simp only
     rw[if_pos (by simp),aj (by omega) (by simp),vP];simp only[Option.bind_some]
     rw[ia];simp only[Option.bind_some]
     rw[au (by simp)];rfl) (by unfold aG;simp) (by unfold aB;omega)
    rw[ae hL]
    all_goals rfl
   ·have h7:=vl (show 0≤ar t by omega) k3
    rw[if_pos k2,if_pos k3,show aw [a] 0=some a from rfl];simp only[Option.bind_some]
    rw[ia];simp only[Option.bind_some]
    have:=zT (x:=pC a) t.2.2.2.toNat dy t.2.2.1 (by omega) (by omega) (by omega) (by omega)
    rw[Int.toNat_of_nonneg (by omega)] at this
    rw[this];rfl
 ·intro t a b e wa wb iha ihb n hn
  rw[ri,List.length_append,List.length_append] at hn
  have k:=no7 (.inl e)
  match n,hn with
  | n+1,hn =>
   have ia:=iha n (by simp at hn;omega)
   have ib:=ihb n (by simp at hn;omega)
   rw[aP,exp2 k];simp only[lf,Option.bind_some]
   rw[if_neg (by simpa using k)]
   have hL:ai (aG (aP n) (t,[a,b])) aB (0,t.1,t.2.1,t.2.2.1,t.2.2.2,[])=some (.brk (2,t.1,t.2.1,t.2.2.1,t.2.2.2,[pC a,pC b])):=ax (f:=aG (aP n) (t,[a,b])) (fun i=>((i:Int),t.1,t.2.1,t.2.2.1,t.2.2.2,[pC a,pC b].take i)) 2 (fun i hi=>by
    have:i=0∨i=1:=by omega
    rcases this with rfl | rfl
    ·unfold aG
     simp only
     rw[if_pos (by simp),aj (by omega) (by simp),vP];simp only[Option.bind_some]
     rw[ia];simp only[Option.bind_some]
     rw[au (by simp)];rfl
    ·unfold aG
     simp only
     rw[if_pos (by simp),aj (by omega) (by simp),LI];simp only[Option.bind_some]
     rw[ib];simp only[Option.bind_some]
     rw[au (by simp)];rfl) (by unfold aG;simp) (by unfold aB;omega)
   rw[ae hL]
   all_goals rfl
theorem LL {x:Tr Tok} (h:WT x): ∀n out,(flat x).length≤n→out.length+(flat x).length≤1000000→aN n x out=some (out++flat x):=by
 refine WT.ind (p:=fun x=> ∀n out,(flat x).length≤n→out.length+(flat x).length≤1000000→aN n x out=some (out++flat x)) ?_ ?_ ?_ h
 ·intro t e n out hn hl
  rw[xU] at hn hl⊢
  simp only[List.length_cons,List.length_nil] at hl
  match n,hn with
  | n+1,_ =>
   rw[aN];simp only[lf,Option.bind_some]
   have hL:ai (aF (aN n) (t,[])) aB (0,out)=some (.brk (0,out)):=ax (f:=aF (aN n) (t,[])) (fun i=>((i:Int),out)) 0 (fun i hi=>by omega) (by unfold aF;simp) (by unfold aB;omega)
   rw[ae hL]
   simp only
   rw[au (by simp;omega)];rfl
 ·intro t a e wa ih n out hn hl
  rw[yG] at hn hl⊢
  simp only[List.length_append,List.length_cons,List.length_nil] at hn hl
  match n,hn with
  | n+1,hn =>
   rw[aN];simp only[lf,Option.bind_some]
   have hL:ai (aF (aN n) (t,[a])) aB (0,out)=some (.brk (1,out++flat a)):=ax (f:=aF (aN n) (t,[a])) (fun i=>((i:Int),if i=0 then out else out++flat a)) 1 (fun i hi=>by
    obtain rfl:i=0:=by omega
    unfold aF
    simp only
    rw[if_pos (by simp),aj (by omega) (by simp),vP];simp only[Option.bind_some,if_true]
    rw[ih n _ (by omega) (by omega)];rfl) (by unfold aF;simp) (by unfold aB;omega)
   rw[ae hL]
   simp only
   rw[au (by simp;omega)];simp
 ·intro t a b e wa wb iha ihb n out hn hl
  rw[ri] at hn hl⊢
  simp only[List.length_append,List.length_cons,List.length_nil] at hn hl
  match n,hn with
  | n+1,hn =>
   rw[aN];simp only[lf,Option.bind_some]
   have hL:ai (aF (aN n) (t,[a,b])) aB (0,out)=some (.brk (2,(out++flat a)++flat b)):=ax (f:=aF (aN n) (t,[a,b])) (fun i=>((i:Int),if i=0 then out else if i=1 then out++flat a else (out++flat a)++flat b)) 2 (fun i hi=>by
    have:i=0∨i=1:=by omega
    rcases this with rfl | rfl
    ·unfold aF
     simp only
     rw[if_pos (by simp),aj (by omega) (by simp),vP];simp only[Option.bind_some,if_true]
     rw[iha n _ (by omega) (by omega)];rfl
    ·unfold aF
     simp only
     rw[if_pos (by simp),aj (by omega) (by simp),LI];simp only[Option.bind_some,if_true]
     rw[ihb n _ (by omega) (by simp;omega)];rfl) (by unfold aF;simp) (by unfold aB;omega)
   rw[ae hL]
   simp only
   rw[au (by simp;omega)];simp
theorem Pc {x:Tr Tok} (h:WT x): ∀n,(flat x).length≤n→(flat x).length≤1000000→szX x≤50000→bQ n (flat x)=some (flat (pC x)):=by
 have hF:=qp
 refine WT.ind (p:=fun x=> ∀n,(flat x).length≤n→(flat x).length≤1000000→szX x≤50000→bQ n (flat x)=some (flat (pC x))) ?_ ?_ ?_ h
 ·intro t e n hn hl hs
  rw[xU] at hn hl⊢
  match n,hn with
  | n+1,_ =>
   have hk:=UC e
   rw[bQ]
   have:=(iA (A:=[]) (t:=t) (by simp)).1
   rw[List.nil_append] at this
   rw[this];simp only[Option.bind_some]
   rw[O8 (.inr e)];simp only[Option.bind_some,hk.1,hk.2,Bool.false_eq_true,if_false]
   rw[Vx (no7 (.inr e)),xU]
 ·intro t a e wa ih n hn hl hs
  have hs':min ((1:Int)+(if t.1=7 then (szX a+3)*t.2.2.2 else szX a)) 100000≤50000:=hs
  rw[yG] at hn hl⊢
  simp only[List.length_append,List.length_cons,List.length_nil] at hn hl
  match n,hn with
  | n+1,hn =>
   have hr:=dM wa
   have hsa:szX a≤50000:=by
    by_cases k:t.1=7
    ·rw[if_pos k] at hs'
     have h7:=vl (show 0≤ar t by omega) k
     have hge:szX a+3≤(szX a+3)*t.2.2.2:=by
      have:=Int.mul_le_mul_of_nonneg_left (c:=szX a+3) h7.2.1 (by omega)
      omega
     omega
    ·rw[if_neg k] at hs';omega
   have hla:=Bh wa (by omega)
   rw[bQ]
   obtain ⟨l1,l2⟩:=iA (A:=flat a) (t:=t) (by omega)
   rw[l1];simp only[Option.bind_some]
   rw[O8 (.inl e)];simp only[Option.bind_some,Bool.false_eq_true,if_false]
   rw[l2,Int.toNat_natCast,List.take_left,iQ (by simp only[List.length_append,List.length_cons,List.length_nil];omega)];simp only[Option.bind_some]
   rw[ih n (by omega) (by omega) hsa,Vv];simp only[Option.bind_some]
   rcases O9 e with ⟨k1,k2⟩ | ⟨k1,k2,k3⟩
   ·rw[if_pos k1,if_neg (by omega),GK (by simp;omega),yG];simp
   ·have h7:=vl (show 0≤ar t by omega) k3
    rw[if_neg (by simp[k1]),if_pos k2,if_pos k3]
    have:=LK (x:=pC a) t.2.2.2.toNat dy t.2.2.1 (by omega) (by omega) (by omega) (by omega) (by omega)
    rw[Int.toNat_of_nonneg (by omega)] at this
    rw[this];rfl
 ·intro t a b e wa wb iha ihb n hn hl hs
  have k:=no7 (.inl e)
  have hs':min ((1:Int)+(if t.1=7 then (szX a+3)*t.2.2.2 else szX a)+(if t.1=7 then (szX b+3)*t.2.2.2 else szX b)) 100000≤50000:=hs
  rw[if_neg k,if_neg k] at hs'
  rw[ri] at hn hl⊢
  obtain ⟨p1,p2,p3,p4⟩:=tH (a:=a) (t:=t) wb hl
  simp only[List.length_append,List.length_cons,List.length_nil] at hn hl
  match n,hn with
  | n+1,hn =>
   have hra:=dM wa
   have hrb:=dM wb
   have hla:=Bh wa (by omega)
   have hlb:=Bh wb (by omega)
   rw[bQ]
   obtain ⟨l1,l2⟩:=iA (A:=flat a++flat b) (t:=t) (by rw[List.length_append];omega)
   rw[l1];simp only[Option.bind_some]
   rw[Xe e];simp only[Option.bind_some,if_true]
   rw[l2,p1,p2,iQ (by simp only[List.length_append,List.length_cons,List.length_nil];omega)];simp only[Option.bind_some]
   rw[iQ (by simp only[List.length_append,List.length_cons,List.length_nil];omega),p3,p4];simp only[Option.bind_some]
   rw[iha n (by omega) (by omega) (by omega),iQ (by simp only[List.length_append,List.length_cons,List.length_nil];omega)];simp only[Option.bind_some]
   rw[ihb n (by have:=wa.pos;omega) (by omega) (by omega)];simp only[Option.bind_some]
   rw[GK (by omega),exp2 k,ri];rfl
def Iz (e:List Tok):List Tok×Bool:=
 if decide (e.length≤24)&&isX e then (if 5000<szX (tG e) then ([],false) else (if 400<(flat (pC (tG e))).length then ([],false) else (flat (pC (tG e)),true))) else ([],false)
theorem E6 {e:List Tok} (he:e.length≤1048576):kj e=some (Iz e)∧ky e=some (Iz e):=by
 have hF:=qp
 unfold kj ky Iz
 rw[xW he,xX he];simp only[Option.bind_some]
 by_cases c:(decide (e.length≤24)&&isX e)=true
 ·rw[if_pos c,if_pos c,if_pos c,vO he];simp only[Option.bind_some]
  rw[Bool.and_eq_true] at c
  obtain ⟨x,h1,hw,rfl⟩:=GJ c.2
  have h24:(flat x).length≤24:=by simpa using c.1
  have hr:=dM hw
  rw[uG hw,UD hw dy (by omega) (by omega),SB hw dy (by omega)];simp only[Option.bind_some]
  by_cases c2:5000<szX x
  ·have c2':decide (szX x>5000)=true:=by simpa using c2
   simp only[gt_iff_lt,c2,decide_true,if_true,and_self]
  ·have c2':decide (szX x>5000)=false:=by simpa using c2
   simp only[gt_iff_lt,c2,decide_false,if_false,Bool.false_eq_true]
   have hl:=Bh hw (by omega)
   rw[Pc hw dy (by omega) (by omega) (by omega),Pb hw dy (by omega)];simp only[Option.bind_some]
   unfold oN
   rw[LL (Qm hw) dy [] (by omega) (by simp;omega)];simp only[Option.bind_some,List.nil_append]
   by_cases c3:400<(flat (pC x)).length
   ·have c3':decide (((flat (pC x)).length:Int)>400)=true:=decide_eq_true (by omega)
    simp only[c3',c3,decide_true,if_true,and_self]
   ·have c3':decide (((flat (pC x)).length:Int)>400)=false:=decide_eq_false (by omega)
    simp only[c3',c3,decide_false,if_false,Bool.false_eq_true,and_self]
 ·rw[if_neg c,if_neg c,if_neg c];exact ⟨rfl,rfl⟩
theorem SC {e:List Tok} (h:(Iz e).2=true): ∃y,WT y∧(Iz e).1=flat y∧(flat y).length≤400:=by
 unfold Iz at h⊢
 split at h
 ·rename_i c
  rw[if_pos c]
  rw[Bool.and_eq_true] at c
  obtain ⟨x,h1,hw,rfl⟩:=GJ c.2
  rw[uG hw] at h⊢
  split at h
  ·cases h
  ·rename_i c2
   rw[if_neg c2]
   split at h
   ·cases h
   ·rename_i c3
    rw[if_neg c3]
    exact ⟨_,Qm hw,rfl,by omega⟩
 ·cases h
end D
namespace D
open Go.RowKit
def behind (a:AutT) (s v k:Int):List Int:=bJ (afL a k.toNat (bJ (cS a s v) 30)) 30
def nbA (g:GrT) (a:AutT) (x s:Nat) (y:ArT):List Int:=(behind a s (nth g.1 x) y.2.1).map fun t=>y.2.2*(a.2.1.length:Int)+t
def nbV (g:GrT) (a:AutT) (x s:Nat):List Int:=(im g.2 x).flatMap (nbA g a x s)
def nbC (g:GrT) (a:AutT) (c:Nat):List Int:=nbV g a (c / a.2.1.length) (c % a.2.1.length)
theorem zU {g:GrT} (G:GOk g) {x:Nat} {y:ArT} (h:y∈im g.2 x):(0≤y.2.1∧y.2.1<6)∧0≤y.2.2∧y.2.2<g.1.length:=by
 obtain ⟨e,he,hy⟩:=List.mem_flatMap.1 h
 obtain ⟨h1,h2,h3⟩:=G.edge e he
 unfold LA at hy
 rcases List.mem_append.1 hy with hy | hy <;> split at hy
 ·obtain rfl:y=fwd e:=by simpa using hy
  exact ⟨⟨by simp[fwd];omega,by simp[fwd];omega⟩,h2⟩
 ·cases hy
 ·obtain rfl:y=inv e:=by simpa using hy
  exact ⟨⟨by simp[inv];omega,by simp[inv];omega⟩,h1⟩
 ·cases hy
section
variable {g:GrT} {a:AutT} (G:GOk g) (V:VA a a.2.1.length) (hn:a.2.1.length≤12)
include G V hn
theorem tJ {s v:Int} {k:Int} (hs:0≤s∧s<a.2.1.length) (hv:0≤v∧v≤2) (hk:0≤k∧k<6):(∀t∈behind a s v k,0≤t∧t<(a.2.1.length:Int))∧(behind a s v k).length≤30∧afL a k.toNat (bJ (cS a s v) 30)<2 ^ 30:=by
 have h1:=(jy V hn hs hv).2
 have h2:=Qj V (k:=k.toNat) (by omega) (lF V hn h1)
 exact ⟨lF V hn h2,il _ _,Nat.lt_of_lt_of_le h2 (Nat.pow_le_pow_right (by decide) (by omega))⟩
theorem Qn {x s:Nat} {y:ArT} (hx:x<g.1.length) (hs:s<a.2.1.length) (hy:y∈im g.2 x): ∀z∈nbA g a x s y,0≤z∧z<((a.2.1.length*g.1.length:Nat):Int):=by
 intro z hz
 obtain ⟨t,ht,rfl⟩:=List.mem_map.1 hz
 obtain ⟨k1,k2,k3⟩:=zU G hy
 have hv:=G.val _ (aX (xs:=g.1) (i:=(x:Int)) (by omega) (by omega))
 obtain ⟨t0,t1⟩:=(tJ G V hn (s:=(s:Int)) ⟨by omega,by omega⟩ hv k1).1 t ht
 obtain ⟨q,hq⟩: ∃q:Nat,y.2.2=(q:Int):=⟨y.2.2.toNat,by omega⟩
 obtain ⟨r,rfl⟩: ∃r:Nat,t=(r:Int):=⟨t.toNat,by omega⟩
 rw[hq] at k3⊢
 have:q*a.2.1.length+r<g.1.length*a.2.1.length:=by
  have:(q+1)*a.2.1.length≤g.1.length*a.2.1.length:=Nat.mul_le_mul_right _ (by omega)
  rw[Nat.add_mul] at this;omega
 rw[Nat.mul_comm a.2.1.length]
 constructor
 ·exact_mod_cast Nat.zero_le _
 ·exact_mod_cast this
theorem UE {x s:Nat} (hx:x<g.1.length) (hs:s<a.2.1.length): ∀z∈nbV g a x s,0≤z∧z<((a.2.1.length*g.1.length:Nat):Int):=by
 intro z hz
 obtain ⟨y,hy,hz⟩:=List.mem_flatMap.1 hz
 exact Qn G V hn hx hs hy z hz
theorem LM {x s:Nat} {y:ArT} (hx:x<g.1.length) (hs:s<a.2.1.length) (hy:y∈im g.2 x):(nbA g a x s y).length≤30:=by
 unfold nbA
 rw[List.length_map]
 exact il _ _
end
section
variable {g:GrT} {a:AutT} {F:Nat→List Int} {N:Nat}
theorem Wh {x s:Nat} {o1 o2:List (List Int)} {y:ArT} {T:List Int} (hc:x*a.2.1.length+s<N) (hN:N≤60) (hF:(F (x*a.2.1.length+s)).length≤10000) (hT:T.length≤30) (hy: ∀t∈T,0≤y.2.2*(a.2.1.length:Int)+t∧y.2.2*(a.2.1.length:Int)+t<60∧0≤t∧t≤60) :
  ai (cz a ((x:Int),o1) ((s:Int),o2) y T) aB (0,rm N F)=some (.brk ((T.length:Int),rm N fun z=>if z=x*a.2.1.length+s then F z++T.map fun t=>y.2.2*(a.2.1.length:Int)+t else F z)):=by
 have ec:IntKind.i64.wrap (IntKind.i64.wrap ((x:Int)*(a.2.1.length:Int))+(s:Int))=((x*a.2.1.length+s:Nat):Int):=by
  have:((x:Int)*(a.2.1.length:Int))=((x*a.2.1.length:Nat):Int):=by simp
  rw[this,o6 (by omega),bZ (by omega) (by omega)];rfl
 have:=ax (f:=cz a ((x:Int),o1) ((s:Int),o2) y T) (fun j=>((j:Int),rm N fun z=>if z=x*a.2.1.length+s then F z++(T.take j).map fun t=>y.2.2*(a.2.1.length:Int)+t else F z)) T.length (fun j hj=>by
  unfold cz
  simp only
  obtain ⟨y0,y1,t0,t1⟩:=hy _ (aX (xs:=T) (i:=(j:Int)) (by omega) (by omega))
  rw[if_pos (by simp;omega),aj (by omega) (by omega)];simp only[Option.bind_some,ec,mw hc,if_true]
  have ev:IntKind.i64.wrap (IntKind.i64.wrap (y.2.2*(a.2.1.length:Int))+nth T (j:Int))=y.2.2*(a.2.1.length:Int)+nth T (j:Int):=by
   rw[bZ (n:=y.2.2*(a.2.1.length:Int)) (by omega) (by omega),bZ (by omega) (by omega)]
  rw[ev,au (by simp;omega)];simp only[Option.bind_some,Int.toNat_natCast,C6]
  rw[fp (by rw[dh];omega),fp trivial,aa (by omega)];simp only[Option.bind_some]
  congr 3
  refine ep fun z hz=>?_
  by_cases e:z=x*a.2.1.length+s
  ·subst e
   rw[if_pos rfl,if_pos rfl,Ba hj,List.map_append,List.append_assoc];rfl
  ·simp only[if_neg e]) (by unfold cz;simp) (gp (by omega))
 rw[List.take_length] at this
 rw[←this]
 congr 2
 refine ep fun z hz=>?_
 split <;> simp
end
section
variable {g:GrT} {a:AutT} (G:GOk g) (V:VA a a.2.1.length) (hn:a.2.1.length≤12)
include G V hn
theorem nN:a.2.1.length*g.1.length≤60:=by
 have:=Nat.mul_le_mul hn G.n5;omega
theorem cN {x s:Nat} (hx:x<g.1.length) (hs:s<a.2.1.length):x*a.2.1.length+s<a.2.1.length*g.1.length:=by
 have:(x+1)*a.2.1.length≤g.1.length*a.2.1.length:=Nat.mul_le_mul_right _ (by omega)
 rw[Nat.add_mul,Nat.mul_comm g.1.length] at this;omega
theorem Wi {F:Nat→List Int} {x s:Nat} {o1 o2:List (List Int)} (hx:x<g.1.length) (hs:s<a.2.1.length) (hF:F (x*a.2.1.length+s)= []) :
  ai (dn g a ((x:Int),o1) (im g.2 x) ((s:Int),o2)) aB (0,rm (a.2.1.length*g.1.length) F)=some (.brk (((im g.2 x).length:Int),rm (a.2.1.length*g.1.length) fun z=>if z=x*a.2.1.length+s then nbV g a x s else F z)):=by
 have hl:=ng g.2 x
 have hm:=G.m
 have:=ax (f:=dn g a ((x:Int),o1) (im g.2 x) ((s:Int),o2)) (fun j=>((j:Int),rm (a.2.1.length*g.1.length) fun z=>if z=x*a.2.1.length+s then ((im g.2 x).take j).flatMap (nbA g a x s) else F z)) (im g.2 x).length (fun j hj=>by
  unfold dn
  simp only
  have hy:=aX (xs:=im g.2 x) (i:=(j:Int)) (by omega) (by omega)
  obtain ⟨k1,k2,k3⟩:=zU G hy
  have hv:=G.val _ (aX (xs:=g.1) (i:=(x:Int)) (by omega) (by omega))
  obtain ⟨q1,q2,q3⟩:=tJ G V hn (s:=(s:Int)) (v:=nth g.1 (x:Int)) (k:=(nth (im g.2 x) (j:Int)).2.1) ⟨by omega,by omega⟩ hv k1
  rw[if_pos (by simp;omega),aj (by omega) (by omega)];simp only[Option.bind_some]
  rw[fp (by omega),aj (xs:=g.1) (by omega) (by omega)];simp only[Option.bind_some]
  obtain ⟨k,hk⟩: ∃k:Nat,(nth (im g.2 x) (j:Int)).2.1=(k:Int):=⟨_,(Int.toNat_of_nonneg k1.1).symm⟩
  have ea:=Uz V hn (s:=(s:Int)) (v:=nth g.1 (x:Int)) (k:=k) ⟨by omega,by omega⟩ hv (by omega)
  have ea:gk (a.1,a.2.1,a.2.2) (pA 1 (s:Int)) (nth g.1 (x:Int)) (k:Int)=_:=ea
  rw[hk,ea];simp only[Option.bind_some]
  have ek:k=(nth (im g.2 x) (j:Int)).2.1.toNat:=by rw[hk];rfl
  rw[ek,jx q3];simp only[Option.bind_some]
  have hb:(((im g.2 x).take j).flatMap (nbA g a x s)).length≤30*((im g.2 x).take j).length:=my fun y hy=>LM G V hn hx hs (List.mem_of_mem_take hy)
  have ht:((im g.2 x).take j).length≤24:=by rw[List.length_take];omega
  have h3:=Wh (F:=fun z=>if z=x*a.2.1.length+s then ((im g.2 x).take j).flatMap (nbA g a x s) else F z) (o1:=o1) (o2:=o2) (y:=nth (im g.2 x) (j:Int)) (T:=behind a (s:Int) (nth g.1 (x:Int)) (nth (im g.2 x) (j:Int)).2.1) (cN G V hn hx hs) (nN G V hn) (by simp only[if_true];omega) q2 (fun t ht=>by
   have h1:=Qn G V hn hx hs hy _ (List.mem_map.2 ⟨t,ht,rfl⟩)
   have h2:=q1 t ht
   have:=nN G V hn
   omega)
  unfold behind at h3
  have h3:ai (cz a ((x:Int),o1) ((s:Int),o2) (nth (im g.2 x) (j:Int)) (bJ (afL a (nth (im g.2 x) (j:Int)).2.1.toNat (bJ (cS a (s:Int) (nth g.1 (x:Int))) 30)) 30)) aB (0,rm (a.2.1.length*g.1.length) fun z=>if z=x*a.2.1.length+s then ((im g.2 x).take j).flatMap (nbA g a x s) else F z)=_:=h3
  rw[ae h3,aa (by omega)]
  congr 3
  refine ep fun z hz=>?_
  by_cases e:z=x*a.2.1.length+s
  ·subst e
   rw[if_pos rfl,if_pos rfl,Ba hj,List.flatMap_append]
   simp[nbA,behind]
  ·simp only[if_neg e]) (by unfold dn;simp) (gp (by omega))
 rw[List.take_length] at this
 rw[show nbV g a x s=(im g.2 x).flatMap (nbA g a x s) from rfl,←this]
 congr 2
 refine ep fun z hz=>?_
 split
 ·rename_i e;subst e;rw[hF];simp
 ·rfl
theorem UF {x s:Nat} (hs:s<a.2.1.length):nbC g a (x*a.2.1.length+s)=nbV g a x s:=by
 unfold nbC
 rw[Nat.mul_comm,Nat.mul_add_div (by omega),Nat.mul_add_mod,Nat.div_eq_of_lt hs,Nat.mod_eq_of_lt hs,Nat.add_zero]
theorem Wj {x:Nat} {o1:List (List Int)} (hx:x<g.1.length) :
  ai (dq g a ((x:Int),o1) (im g.2 x)) aB (0,rm (a.2.1.length*g.1.length) fun z=>if z<x*a.2.1.length then nbC g a z else [])=some (.brk ((a.2.1.length:Int),rm (a.2.1.length*g.1.length) fun z=>if z<(x+1)*a.2.1.length then nbC g a z else [])):=by
 have:=ax (f:=dq g a ((x:Int),o1) (im g.2 x)) (fun j=>((j:Int),rm (a.2.1.length*g.1.length) fun z=>if z<x*a.2.1.length+j then nbC g a z else [])) a.2.1.length (fun j hj=>by
  unfold dq
  simp only
  rw[if_pos (by simp;omega)]
  have h2:=Wi G V hn (F:=fun z=>if z<x*a.2.1.length+j then nbC g a z else []) (o1:=o1) (o2:=rm (a.2.1.length*g.1.length) fun z=>if z<x*a.2.1.length+j then nbC g a z else []) hx hj (by simp)
  rw[ae h2,aa (by omega)]
  congr 3
  refine ep fun z hz=>?_
  by_cases e:z=x*a.2.1.length+j
  ·subst e
   rw[if_pos rfl,if_pos (by omega),UF G V hn hj]
  ·rw[if_neg e]
   by_cases e2:z<x*a.2.1.length+j
   ·rw[if_pos e2,if_pos (by omega)]
   ·rw[if_neg e2,if_neg (by omega)]) (by unfold dq;simp) (gp (by omega))
 rw[Nat.add_mul,Nat.one_mul]
 exact this
theorem SD:dD g a=some (rm (a.2.1.length*g.1.length) (nbC g a)):=by
 have hN:=nN G V hn
 unfold dD
 have ew:IntKind.i64.wrap ((a.2.1.length:Int)*(g.1.length:Int))=((a.2.1.length*g.1.length:Nat):Int):=by
  rw[show ((a.2.1.length:Int)*(g.1.length:Int))=((a.2.1.length*g.1.length:Nat):Int) from by simp,o6 (by omega)]
 have ea:=Qk G
 have ea:qS (g.1,g.2)=_:=ea
 rw[ew,Lz (by omega),ea];simp only[Option.bind_some]
 have:=ax (f:=fe g a (rm g.1.length (im g.2))) (fun j=>((j:Int),rm (a.2.1.length*g.1.length) fun z=>if z<j*a.2.1.length then nbC g a z else [])) g.1.length (fun j hj=>by
  unfold fe
  simp only
  rw[if_pos (by rw[dh];simp;omega),mw hj];simp only[Option.bind_some]
  rw[ae (Wj G V hn hj),aa (by have:=G.n5;omega)]) (by unfold fe;rw[dh];simp) (gp (by have:=G.n5;omega))
 have e0:(rm (a.2.1.length*g.1.length) fun _=>([] :List Int))=rm (a.2.1.length*g.1.length) fun z=>if z<0*a.2.1.length then nbC g a z else []:=ep fun z hz=>by rw[if_neg (by omega)]
 rw[e0,show (0:Int)=((0:Nat):Int) from rfl,ae this]
 congr 1
 refine ep fun z hz=>?_
 rw[if_pos (by rw[Nat.mul_comm g.1.length];exact hz)]
end
end D
namespace D
open Go.RowKit
def Xf {R S T:Type} (φ:S→T):Out R S→Out R T
 | .ret r=>.ret r
 | .nxt s=>.nxt (φ s)
 | .brk s=>.brk (φ s)
theorem C9 {R S T:Type} {f:S→Option (Out R S)} {f':T→Option (Out R T)} (φ:S→T) (Inv:S→Prop)
  (h: ∀s,Inv s→f' (φ s)=(f s).map (Xf φ)) (hi: ∀s s',Inv s→f s=some (.nxt s')→Inv s'): ∀n s,Inv s→ai f' n (φ s)=(ai f n s).map (Xf φ)
 | 0,_,_=>rfl
 | n+1,s,hs=>by
  have e:=h s hs
  unfold ai
  rw[e]
  cases hf:f s with
  | none=>rfl
  | some o =>
   cases o with
   | ret r=>rfl
   | brk s'=>rfl
   | nxt s'=>exact C9 φ Inv h hi n s' (hi s s' hs hf)
section
variable {a:AutT} {n:Nat} (V:VA a n) (hn:n≤12)
include V hn
theorem ya {s v:Int} (hs:0≤s∧s<n) (hv:0≤v∧v≤2):cA a s v=some (cS a s v:Int):=by
 have e:=(jy V hn hs hv).1
 have k:=C9 (f:=cB a v) (f':=jU a v) (fun st=>(st.2,st.1)) (fun st=> -1≤st.2∧st.2<n) (by
  rintro ⟨m,s⟩ ⟨h0,h1⟩
  unfold jU cB
  simp only at h0 h1⊢
  by_cases c:0≤s
  ·simp only[decide_eq_true (show s≥0 from c),if_true,fp c,Option.bind_some]
   have ew:IntKind.i64.wrap (6+v)=(((6+v).toNat:Nat):Int):=by rw[bZ (by omega) (by omega)];omega
   have e2:=zR V (s:=s) (k:=(6+v).toNat) c h1 (by omega)
   have e2:aO (a.1,a.2.1,a.2.2) s (((6+v).toNat:Nat):Int)=_:=e2
   rw[ew,e2,V.get c h1];simp only[Option.bind_some]
   rw[V.get2 c h1 (by omega)];simp only[Option.bind_some]
   split <;> rfl
  ·simp only[decide_eq_false (show¬s≥0 from c),Bool.false_eq_true,if_false];rfl) (by
  rintro ⟨m,s⟩ ⟨m',s'⟩ ⟨h0,h1⟩ hf
  unfold cB at hf
  simp only at h0 h1 hf⊢
  by_cases c:0≤s
  ·simp only[decide_eq_true (show s≥0 from c),if_true,fp c,Option.bind_some] at hf
   have ew:IntKind.i64.wrap (6+v)=(((6+v).toNat:Nat):Int):=by rw[bZ (by omega) (by omega)];omega
   have e2:=zR V (s:=s) (k:=(6+v).toNat) c h1 (by omega)
   have e2:aO (a.1,a.2.1,a.2.2) s (((6+v).toNat:Nat):Int)=_:=e2
   rw[ew,e2] at hf;simp only[Option.bind_some] at hf
   split at hf
   ·cases hf
    exact V.mv c h1 (by omega)
   ·cases hf
  ·simp only[decide_eq_false (show¬s≥0 from c),Bool.false_eq_true,if_false] at hf;cases hf) aB (0,s) ⟨by simp only;omega,hs.2⟩
 unfold cW at e
 unfold cA
 simp only at k
 rw[k]
 cases hl:ai (cB a v) aB (0,s) with
 | none=>rw[hl] at e;cases e
 | some o =>
  rw[hl] at e
  cases o with
  | ret r=>exact e
  | brk s'=>exact e
  | nxt s'=>cases e
end
def yj (y:ArT):Int×Bool:=y.1
theorem UG {g:GrT} (G:GOk g) {x:Nat} :nK g x=some ((im g.2 x).map yj):=by
 unfold nK
 have:=ax (f:=jf g x) (fun i=>((im (g.2.take i) x).map yj,(i:Int))) g.2.length (fun i hi=>by
  unfold jf
  simp only
  have hm:=G.m
  have l1:=ng (g.2.take i) x
  have l3:(g.2.take i).length≤12:=by rw[List.length_take];omega
  rw[if_pos (by simp;omega),aj (by omega) (by omega)];simp only[Option.bind_some]
  rw[Ba hi,aa (by omega)]
  generalize nth g.2 (i:Int)=e
  have ea:im (g.2.take i++ [e]) x=im (g.2.take i) x++LA e x:=by simp[im]
  rw[ea,List.map_append]
  generalize hL:(im (g.2.take i) x).map yj=L
  have hl:L.length≤24:=by rw[←hL,List.length_map];omega
  unfold LA
  by_cases c1:e.2.1=(x:Int)
  ·rw[if_pos (by simpa using c1),if_pos c1,au (by simp;omega)];simp only[Option.bind_some]
   by_cases c2:e.2.2.1=(x:Int)
   ·rw[if_pos (by simpa using c2),if_pos c2,au (by simp;omega)];simp[yj,fwd,inv]
   ·rw[if_neg (by simpa using c2),if_neg c2];simp[yj,fwd,inv]
  ·rw[if_neg (by simpa using c1),if_neg c1];simp only[Option.bind_some]
   by_cases c2:e.2.2.1=(x:Int)
   ·rw[if_pos (by simpa using c2),if_pos c2,au (by simp;omega)];simp[yj,fwd,inv]
   ·rw[if_neg (by simpa using c2),if_neg c2];simp[yj,fwd,inv]) (by unfold jf;simp) (gp (by have:=G.m;omega))
 have this:ai (jf g x) aB (([] :List (Int×Bool)),0)=_:=this
 rw[this,List.take_length];rfl
theorem GL {g:GrT} (G:GOk g) {j:Nat} (hj:j<g.2.length):bd g (nth g.2 (j:Int)).1=some (j:Int):=by
 unfold bd
 have hm:=G.m
 obtain ⟨o,e,hq⟩:=bF (f:=cj g (nth g.2 (j:Int)).1) (fun i s=>s=(i:Int)∧i≤j) (fun o=>o= .ret (j:Int)) 12 (s:=0) (by
  rintro i s hi ⟨rfl,hij⟩
  unfold cj
  rw[if_pos (by simp;omega),aj (by omega) (by omega)];simp only[Option.bind_some]
  by_cases c:i=j
  ·subst c
   exact .inr ⟨_,by rw[if_pos (by simp)],(fun s' e=>by cases e),rfl⟩
  ·have h1:=G.lt (i:=i) (j:=j) (by omega) hj
   exact .inl ⟨by omega,_,by rw[if_neg (by simp;omega),aa (by omega)],rfl,by omega⟩) ⟨rfl,by omega⟩ (by unfold aB;omega)
 subst hq
 rw[e];rfl
theorem Pd {g:GrT} (G:GOk g) {x:Nat} {y:ArT} (h:y∈im g.2 x): ∃(j:Int) (e:EdT),bd g y.1.1=some j∧aw g.2 j=some e∧bt e y.1.2=some y.2.1∧fl e y.1.2=some y.2.2:=by
 obtain ⟨e,he,hy⟩:=List.mem_flatMap.1 h
 obtain ⟨j,hj,rfl⟩:=A0 he
 obtain ⟨h1,h2,h3⟩:=G.edge _ he
 refine ⟨j,nth g.2 (j:Int),?_,aj (by omega) (by omega),?_,?_⟩
 all_goals
  unfold LA at hy
  rcases List.mem_append.1 hy with hy | hy <;> split at hy
  ·obtain rfl:=List.mem_singleton.1 hy
   simp only[fwd]
   first | exact GL G hj | (unfold bt;rw[bZ (n:=2*_) (by omega) (by omega)];rfl) | (unfold fl;rfl)
  ·cases hy
  ·obtain rfl:=List.mem_singleton.1 hy
   simp only[inv]
   first | exact GL G hj | (unfold bt;rw[bZ (n:=2*_) (by omega) (by omega),bZ (by omega) (by omega)];rfl) | (unfold fl;rfl)
  ·cases hy
abbrev SE:=(Int×Bool)×Int×Int
def stA (g:GrT) (a:AutT) (x s:Nat) (y:ArT):List SE:=(behind a s (nth g.1 x) y.2.1).map fun t=>(y.1,y.2.2,t)
def stV (g:GrT) (a:AutT) (x s:Nat):List SE:=(im g.2 x).flatMap (stA g a x s)
theorem UH (g:GrT) (a:AutT) (x s:Nat):(stV g a x s).map (fun p=>p.2.1*(a.2.1.length:Int)+p.2.2)=nbV g a x s:=by
 unfold stV nbV
 rw[List.map_flatMap]
 congr 1
 funext y
 unfold stA nbA
 rw[List.map_map];rfl
section
variable {g:GrT} {a:AutT} (G:GOk g) (V:VA a a.2.1.length) (hn:a.2.1.length≤12)
include G V hn
theorem SF {x s:Nat} {y:ArT} (hx:x<g.1.length) (hs:s<a.2.1.length) (hy:y∈im g.2 x):(stA g a x s y).length≤30:=by
 unfold stA;rw[List.length_map]
 exact (tJ G V hn (s:=s) ⟨by omega,by omega⟩ (G.val _ (aX (by omega) (by omega))) (zU G hy).1).2.1
theorem Wk {x:Nat} {i:Nat} {e:EdT} {o:List SE} {y:ArT} {C:Nat} (hC:C<2 ^ a.2.1.length) (hy:y∈im g.2 x) (hi:aw ((im g.2 x).map yj) (i:Int)=some (yj y)) (he:bt e y.1.2=some y.2.1) :
  ai (fW a (C:Int) ((im g.2 x).map yj) (o,(i:Int)) e) aB (0,0)=some (.brk ((afS a y.2.1.toNat C a.2.1.length:Int),(a.2.1.length:Int))):=by
 obtain ⟨k0,k1⟩:=(zU G hy).1
 have:=ax (f:=fW a (C:Int) ((im g.2 x).map yj) (o,(i:Int)) e) (fun q=>((afS a y.2.1.toNat C q:Int),(q:Int))) a.2.1.length (fun q hq=>by
  unfold fW
  simp only
  have he:bt (e.1,e.2.1,e.2.2.1,e.2.2.2) (yj y).2=some y.2.1:=he
  have ek:y.2.1=((y.2.1.toNat:Nat):Int):=by omega
  have em:=V.get2 (s:=(q:Int)) (k:=y.2.1.toNat) (by omega) (by omega) (by omega)
  rw[←ek] at em
  have hlt:=Ly V (k:=y.2.1.toNat) (C:=C) (by omega) q (by omega)
  have hC':C<2 ^ 62:=Nat.lt_of_lt_of_le hC (p62 (by omega))
  have hmv:=(V.mv (s:=(q:Int)) (k:=y.2.1.toNat) (by omega) (by omega) (by omega)).2
  rw[if_pos (by simp;omega),V.get (by omega) (by omega)];simp only[Option.bind_some]
  rw[hi];simp only[Option.bind_some]
  rw[he];simp only[Option.bind_some]
  rw[em];simp only[Option.bind_some]
  rw[fp (by omega),uD hC' (by omega),aa (by omega),afS];simp only[Option.bind_some]
  by_cases b:C.testBit q=true
  ·rw[if_pos b]
   by_cases c:0≤D.mv a (q:Int) y.2.1.toNat
   ·obtain ⟨t,ht⟩: ∃t:Nat,D.mv a (q:Int) y.2.1.toNat=(t:Int):=⟨_,(Int.toNat_of_nonneg c).symm⟩
    rw[if_pos (by simpa using c),if_pos ⟨b,c⟩,fp c,ht,qo (by omega),GB (Nat.lt_of_lt_of_le hlt (p62 (by omega))) (Nat.pow_lt_pow_right (by decide) (by omega))];rfl
   ·rw[if_neg (by simpa using c),if_neg (fun h=>c h.2)];rfl
  ·rw[if_neg b,if_neg (fun h=>b h.1)];rfl) (by unfold fW;simp) (gp (by omega))
 exact this
theorem Wl {x:Nat} {i:Nat} {e:EdT} {o:List SE} {y:ArT} {m:Nat} (hm:m<2 ^ a.2.1.length) (ho:o.length≤100000) (hi:aw ((im g.2 x).map yj) (i:Int)=some (yj y)) (he:fl e y.1.2=some y.2.2) {z:Int} :
  ai (fX a ((im g.2 x).map yj) (o,(i:Int)) e ((m:Int),z)) aB (o,0)=some (.brk (o++(bJ m 30).map (fun t=>(y.1,y.2.2,t)),(a.2.1.length:Int))):=by
 have:=ax (f:=fX a ((im g.2 x).map yj) (o,(i:Int)) e ((m:Int),z)) (fun q=>(o++(bJ m q).map (fun t=>(y.1,y.2.2,t)),(q:Int))) a.2.1.length (fun q hq=>by
  unfold fX
  simp only
  have he:fl (e.1,e.2.1,e.2.2.1,e.2.2.2) (yj y).2=some y.2.2:=he
  have hm':m<2 ^ 62:=Nat.lt_of_lt_of_le hm (p62 (by omega))
  have hl:=il m q
  rw[if_pos (by simp;omega),fp (by omega),uD hm' (by omega),aa (by omega),lH];simp only[Option.bind_some]
  by_cases b:m.testBit q=true
  ·rw[if_pos b,if_pos b,hi];simp only[Option.bind_some]
   rw[he];simp only[Option.bind_some]
   rw[au (by simp;omega)];simp only[Option.bind_some,List.map_append,List.append_assoc];rfl
  ·rw[if_neg b,if_neg b];rfl) (by unfold fX;simp) (gp (by omega))
 rw[re hm (show a.2.1.length≤30 by omega)]
 simpa [bJ] using this
theorem SG {x s:Nat} (hx:x<g.1.length) (hs:s<a.2.1.length):kK g a x s=some (stV g a x s):=by
 have hv:=G.val _ (aX (xs:=g.1) (i:=(x:Int)) (by omega) (by omega))
 have ec:=ya V hn (s:=(s:Int)) ⟨by omega,by omega⟩ hv
 have hC:=(jy V hn (s:=(s:Int)) ⟨by omega,by omega⟩ hv).2
 unfold kK
 rw[aj (by omega) (by omega)];simp only[Option.bind_some]
 have ec:cA (a.1,a.2.1,a.2.2) (s:Int) (nth g.1 (x:Int))=_:=ec
 have ef:nK (g.1,g.2) (x:Int)=_:=UG G
 rw[ec,ef];simp only[Option.bind_some]
 generalize hCC:cS a (s:Int) (nth g.1 (x:Int))=C at hC
 have l1:=ng g.2 x
 have hm:=G.m
 have:=ax (f:=fY g a (C:Int) ((im g.2 x).map yj)) (fun i=>(((im g.2 x).take i).flatMap (stA g a x s),(i:Int))) (im g.2 x).length (fun i hi=>by
  unfold fY
  simp only
  have hy:=List.getElem_mem hi
  generalize hyy:(im g.2 x)[i] =y at hy
  have hi2:aw ((im g.2 x).map yj) (i:Int)=some (yj y):=by rw[aq (by simpa using hi)];simp[hyy]
  obtain ⟨j,e,e1,e2,e3,e4⟩:=Pd G hy
  obtain ⟨k0,k1⟩:=(zU G hy).1
  rw[if_pos (by simp;omega),hi2];simp only[Option.bind_some]
  have e1:bd (g.1,g.2) (yj y).1=_:=e1
  rw[e1];simp only[Option.bind_some]
  rw[e2];simp only[Option.bind_some]
  rw[ae (Wk G V hn hC hy hi2 e3)]
  have hlt:=Ly V (k:=y.2.1.toNat) (C:=C) (by omega) a.2.1.length (Nat.le_refl _)
  have hol:=my (f:=stA g a x s) (B:=30) (xs:=(im g.2 x).take i) fun z hz=>SF G V hn hx hs (List.mem_of_mem_take hz)
  have hol2:((im g.2 x).take i).length≤24:=by rw[List.length_take];omega
  rw[ae (Wl G V hn hlt (by omega) hi2 e4),aa (by omega)]
  congr 3
  have et:(im g.2 x).take (i+1)=(im g.2 x).take i++ [y]:=by rw[List.take_add_one];simp[hi,hyy]
  rw[et,List.flatMap_append]
  congr 1
  simp only[List.flatMap_cons,List.flatMap_nil,List.append_nil]
  unfold stA behind
  rw[hCC,re hC (show a.2.1.length≤30 by omega),EV]) (by unfold fY;simp) (gp (by omega))
 rw[List.take_length] at this
 have this:ai (fY g a (C:Int) ((im g.2 x).map yj)) aB (([] :List SE),0)=_:=this
 rw[ae this];rfl
end
end D
namespace D
open Go.RowKit
section
variable {nx:Int→List Int} {N:Nat} {v:Int} (hv:0≤v∧v<N) (hn: ∀x:Int,0≤x→x<N→ ∀y∈nx x,0≤y∧y<N)
include hv
include hn
end
end D
namespace D
open Go.RowKit
theorem SH:(List.range 61).all (fun N=>decide (bs [-1] (N:Int)=some (List.replicate N (-1))))=true:=by kernel_rfl
theorem Wm {N:Nat} (h:N≤60):bs [-1] (N:Int)=some (List.replicate N (-1)):=
 of_decide_eq_true (List.all_eq_true.1 SH N (List.mem_range.2 (by omega)))
section
variable {nx:Int→List Int} {N:Nat} {v:Int} (hN:N≤60) (hv:0≤v∧v<N) (hn: ∀x:Int,0≤x→x<N→ ∀y∈nx x,0≤y∧y<N) (hl: ∀x,(nx x).length≤100000)
include hN hv hn hl
end
end D
namespace D
open Go.RowKit
theorem Bi {n:Nat} {r:List Int} :(∀t∈r,-1≤t∧t≤(n:Int) - 1)↔ ∀t∈r,-1≤t∧t<(n:Int):=forall_congr' fun t=>forall_congr' fun _=>and_congr Iff.rfl (by omega)
theorem UI (a:AutT) (h1:a.2.1.length≤9223372036854775807) (h2:a.2.2.length≤9223372036854775807): ∃b,lX a=some b∧(b=true↔VA a a.2.1.length):=by
 unfold lX
 rw[Lw];simp only[Option.bind_some,ju h1]
 by_cases c1:0≤a.1∧a.1≤(a.2.1.length:Int) - 1
 case neg=>exact ⟨false,by rw[if_neg (by simpa using c1)],by simp;exact fun h=>c1 ⟨h.start.1,by have:=h.start.2;omega⟩⟩
 rw[if_pos (by simpa using c1)]
 by_cases c2:a.2.2.length=a.2.1.length
 case neg=>exact ⟨false,by rw[if_pos (by simp;omega)],by simp;exact fun h=>c2 h.nlen⟩
 rw[if_neg (by simp;omega)]
 have inner: ∀i:Nat,i<a.2.2.length→(nth a.2.2 i).length=9→(ai (fw a i) aB 0=some (.brk 9)∧ ∀t∈nth a.2.2 (i:Int),-1≤t∧t≤(a.2.1.length:Int) - 1)∨(ai (fw a i) aB 0=some (.ret false)∧ ¬ ∀t∈nth a.2.2 (i:Int),-1≤t∧t≤(a.2.1.length:Int) - 1):=by
  intro i hi hr
  have:=scan (f:=fw a i) (nth a.2.2 (i:Int)) (fun t=> -1≤t∧t≤(a.2.1.length:Int) - 1) false (by omega) (fun j hj=>by
   unfold fw
   rw[if_pos (by simp;omega),aj (by omega) (by omega)];simp only[Option.bind_some]
   rw[aj (by omega) (by omega)];simp only[Option.bind_some,ju h1]
   rw[Lw];simp only[Option.bind_some,aa (show j<9223372036854775807 by omega)]
   by_cases c: -1≤nth (nth a.2.2 (i:Int)) (j:Int)∧nth (nth a.2.2 (i:Int)) (j:Int)≤(a.2.1.length:Int) - 1
   ·rw[if_pos (by simpa using c),if_pos c]
   ·rw[if_neg (by simpa using c),if_neg c]) (by unfold fw;rw[if_neg (by simp[hr])])
  rwa [hr] at this
 have outer:=scan (f:=km a) a.2.2 (fun r=>r.length=9∧ ∀t∈r,-1≤t∧t≤(a.2.1.length:Int) - 1) false h2 (fun i hi=>by
  unfold km
  rw[if_pos (by simp;omega),aj (by omega) (by omega)];simp only[Option.bind_some]
  by_cases c:(nth a.2.2 (i:Int)).length=9
  ·rw[if_neg (by simp;omega)]
   rcases inner i hi c with ⟨e,k⟩ | ⟨e,k⟩
   ·rw[ae e,if_pos ⟨c,k⟩,aa (show i<9223372036854775807 by omega)]
   ·rw[aK e,if_neg (fun h=>k h.2)]
  ·rw[if_pos (by simp;omega),if_neg (fun h=>c h.1)]) (by unfold km;rw[if_neg (by simp;omega)])
 rcases outer with ⟨e,k⟩ | ⟨e,k⟩
 ·exact ⟨true,by rw[ae e],by simp;exact ⟨rfl,⟨c1.1,by omega⟩,c2,fun r hr=>(k r hr).1,fun r hr=>Bi.1 (k r hr).2⟩⟩
 ·exact ⟨false,by rw[aK e],by simp;exact fun h=>k fun r hr=>⟨h.row r hr,Bi.2 (h.ent r hr)⟩⟩
theorem SI (a:AutT) (h1:a.2.1.length≤9223372036854775807) (h2:a.2.2.length≤9223372036854775807): ∃b,bC a=some b∧(b=true↔a.2.1.length≤12∧VA a a.2.1.length):=by
 unfold bC
 by_cases c:a.2.1.length≤12
 ·rw[if_pos (by simp;omega)]
  obtain ⟨b,e,hb⟩:=UI a h1 h2
  exact ⟨b,by show (lX a).bind _=_;rw[e];rfl,by rw[hb];simp[c]⟩
 ·exact ⟨false,by rw[if_neg (by simp;omega)],by simp;exact fun h=>absurd h c⟩
theorem SJ (a:AutT) (h1:a.2.1.length≤9223372036854775807) (h2:a.2.2.length≤9223372036854775807) (h3: ∀r∈a.2.2,r.length≤9223372036854775807): ∃b,bg a=some b∧(b=true↔a.2.1.length≤12∧VA a a.2.1.length):=by
 unfold bg
 rw[EU];simp only[Option.bind_some,ju h1]
 by_cases c0:1≤(a.2.1.length:Int)∧(a.2.1.length:Int)≤12
 case neg=>exact ⟨false,by rw[if_neg (by simpa using c0)],by simp;exact fun h h'=>c0 ⟨by have:=h'.start;omega,by omega⟩⟩
 rw[if_pos (by simpa using c0),EU];simp only[Option.bind_some]
 by_cases c1:0≤a.1∧a.1≤(a.2.1.length:Int) - 1
 case neg=>exact ⟨false,by rw[if_neg (by simpa using c1)],by simp;exact fun _ h=>c1 ⟨h.start.1,by have:=h.start.2;omega⟩⟩
 rw[if_pos (by simpa using c1)]
 by_cases c2:a.2.2.length=a.2.1.length
 case neg=>exact ⟨false,by rw[if_pos (by simp;omega)],by simp;exact fun _ h=>c2 h.nlen⟩
 rw[if_neg (by simp;omega)]
 have inner: ∀x:List Int,x.length≤9223372036854775807→(ai (bz a x) aB 0=some (.brk (x.length:Int))∧ ∀t∈x,-1≤t∧t≤(a.2.1.length:Int) - 1)∨(ai (bz a x) aB 0=some (.ret false)∧ ¬ ∀t∈x,-1≤t∧t≤(a.2.1.length:Int) - 1):=by
  intro x hx
  refine scan (f:=bz a x) x (fun t=> -1≤t∧t≤(a.2.1.length:Int) - 1) false hx (fun j hj=>?_) (by unfold bz;rw[if_neg (by simp)])
  unfold bz
  rw[if_pos (by simp;omega),aj (by omega) (by omega)];simp only[Option.bind_some,ju h1]
  rw[EU];simp only[Option.bind_some,aa (show j<9223372036854775807 by omega)]
  by_cases c: -1≤nth x (j:Int)∧nth x (j:Int)≤(a.2.1.length:Int) - 1
  ·rw[if_pos (by simpa using c),if_pos c]
  ·rw[if_neg (by simpa using c),if_neg c]
 have outer:=scan (f:=de a) a.2.2 (fun r=>(∀t∈r,-1≤t∧t≤(a.2.1.length:Int) - 1)∧r.length=9) false h2 (fun i hi=>by
  unfold de
  rw[if_pos (by simp;omega),aj (by omega) (by omega)];simp only[Option.bind_some]
  rcases inner (nth a.2.2 (i:Int)) (h3 _ (aX (by omega) (by omega))) with ⟨e,k⟩ | ⟨e,k⟩
  ·rw[ae e]
   by_cases c:(nth a.2.2 (i:Int)).length=9
   ·rw[if_neg (by simp;omega),if_pos ⟨k,c⟩,aa (show i<9223372036854775807 by omega)]
   ·rw[if_pos (by simp;omega),if_neg (fun h=>c h.2)]
  ·rw[aK e,if_neg (fun h=>k h.1)]) (by unfold de;rw[if_neg (by simp)])
 rcases outer with ⟨e,k⟩ | ⟨e,k⟩
 ·exact ⟨true,by rw[ae e],by simp;exact ⟨by omega,rfl,⟨c1.1,by omega⟩,c2,fun r hr=>(k r hr).2,fun r hr=>Bi.1 (k r hr).1⟩⟩
 ·exact ⟨false,by rw[aK e],by simp;exact fun _ h=>k fun r hr=>⟨Bi.2 (h.ent r hr),h.row r hr⟩⟩
end D
namespace D
open Go.RowKit
theorem Da (g:GrT):aI g=ay g:=by
 have h0:lV g=dm g:=rfl
 have h1:iE g=cx g:=by
  funext s
  unfold iE cx
  split
  ·cases hx:aw g.2 s with
   | none=>rfl
   | some x=>rfl
  ·rfl
 unfold aI ay
 rw[h0,h1];rfl
def GOOD (g:GrT) (a:AutT):Prop:=GOk g∧a.2.1.length≤12∧VA a a.2.1.length
theorem E7 (g:GrT) (a:AutT) (hg:Data.sm g) (ha:Data.sm a): ∃b c,aI g=some b∧ay g=some b∧bC a=some c∧bg a=some c∧(b=true→GOk g)∧(c=true→a.2.1.length≤12∧VA a a.2.1.length):=by
 obtain ⟨b,e1,k1⟩:=Gz g (aJ hg.1).1 (aJ hg.2).1
 have hb:=(aJ ha.2.1).1
 have hn:=aJ ha.2.2
 obtain ⟨c,e2,k2⟩:=SJ a (by omega) (by omega) (fun r hr=>by have:=(aJ (hn.2 r hr)).1;omega)
 obtain ⟨c',e3,k3⟩:=SI a (by omega) (by omega)
 have hc:c'=c:=by
  cases c <;> cases c' <;> simp_all
 subst hc
 exact ⟨b,c',by rw[Da,e1],e1,e3,e2,k1,fun h=>k2.1 h⟩
theorem Db (g:GrT) (a:AutT) (hg:Data.sm g) (ha:Data.sm a) (x:Int): ∃b,jV g a x 0=some b∧eM g a [x] =some b∧(b=true→GOOD g a∧0≤x∧x<g.1.length):=by
 obtain ⟨b,c,e1,e2,e3,e4,k1,k2⟩:=E7 g a hg ha
 have hl:=(aJ hg.1).1
 have hla:=(aJ ha.2.1).1
 have ew:IntKind.i64.wrap ((g.1.length:Int) - 1)=(g.1.length:Int) - 1:=bZ (by omega) (by omega)
 have ew2:IntKind.i64.wrap ((a.2.1.length:Int) - 1)=(a.2.1.length:Int) - 1:=bZ (by omega) (by omega)
 have es:jV g a x 0=some (b&&(c&&(decide (0≤x∧x≤(g.1.length:Int) - 1)))):=by
  unfold jV
  have e1:aI (g.1,g.2)=_:=e1
  have e3:bC (a.1,a.2.1,a.2.2)=_:=e3
  rw[e1,e3,Lw,Lw,ew,ew2];simp only[Option.bind_some]
  cases b <;> cases c <;> simp only[Bool.false_eq_true,if_false,if_true,Bool.false_and,Bool.true_and]
  by_cases h:0≤x∧x≤(g.1.length:Int) - 1
  ·have:=(k2 rfl).2.start
   simp only[h,and_self,decide_true,if_true]
   rw[decide_eq_true (by omega)]
  ·rw[decide_eq_false h];rfl
 have ei:eM g a [x] =some (b&&(c&&(decide (0≤x∧x≤(g.1.length:Int) - 1)))):=by
  unfold eM
  have e2:ay (g.1,g.2)=_:=e2
  have e4:bg (a.1,a.2.1,a.2.2)=_:=e4
  rcases Iw (f:=fc g [x]) 1 (fun _=>0≤x∧x≤(g.1.length:Int) - 1) false (by decide) (fun i hi=>by
   obtain rfl:i=0:=by omega
   unfold fc
   rw[if_pos (by simp),show aw [x] ((0:Nat):Int)=some x from rfl];simp only[Option.bind_some]
   rw[EU,ew];simp only[Option.bind_some,decide_eq_true_eq]
   split <;> rfl) (by unfold fc;simp) with ⟨k,h⟩ | ⟨k,h⟩
  ·rw[ae k,e2,e4];simp only[Option.bind_some]
   rw[decide_eq_true (h 0 (by decide))]
   cases b <;> cases c <;> rfl
  ·rw[aK k,decide_eq_false (fun c=>h fun _ _=>c)]
   cases b <;> cases c <;> rfl
 refine ⟨_,es,ei,fun hb=>?_⟩
 simp only[Bool.and_eq_true,decide_eq_true_eq] at hb
 obtain ⟨h1,h2,h3⟩:=hb
 exact ⟨⟨k1 h1,(k2 h2).1,(k2 h2).2⟩,h3.1,by omega⟩
def nxC (g:GrT) (a:AutT) (z:Int):List Int:=nbC g a z.toNat
section
variable {g:GrT} {a:AutT} (H:GOOD g a)
include H
theorem GOOD.divmod {x:Int} (h0:0≤x) (h1:x<(a.2.1.length*g.1.length:Nat)):x.toNat / a.2.1.length<g.1.length∧x.toNat % a.2.1.length<a.2.1.length:=by
 have hp:=H.2.2.pos
 exact ⟨(Nat.div_lt_iff_lt_mul hp).2 (by rw[Nat.mul_comm];omega),Nat.mod_lt _ hp⟩
theorem UJ (x:Int) (h0:0≤x) (h1:x<(a.2.1.length*g.1.length:Nat)): ∀y∈nxC g a x,0≤y∧y<(a.2.1.length*g.1.length:Nat):=by
 obtain ⟨k1,k2⟩:=H.divmod h0 h1
 exact UE H.1 H.2.2 H.2.1 k1 k2
theorem SK {x:Int} (h0:0≤x) (h1:x<(a.2.1.length*g.1.length:Nat)):(nxC g a x).length≤720:=by
 obtain ⟨k1,k2⟩:=H.divmod h0 h1
 have:=my (f:=nbA g a (x.toNat / a.2.1.length) (x.toNat % a.2.1.length)) (B:=30) (xs:=im g.2 (x.toNat / a.2.1.length)) fun y hy=>LM H.1 H.2.2 H.2.1 k1 k2 hy
 have l1:=ng g.2 (x.toNat / a.2.1.length)
 have:=H.1.m
 show (nbV g a _ _).length≤720
 unfold nbV
 omega
end
def nxN (g:GrT) (a:AutT) (z:Int):List Int:=if 0≤z∧z<(a.2.1.length*g.1.length:Nat) then nxC g a z else []
section
variable {g:GrT} {a:AutT} (H:GOOD g a)
include H
theorem LN: ∀x:Int,0≤x→x<(a.2.1.length*g.1.length:Nat)→ ∀y∈nxN g a x,0≤y∧y<(a.2.1.length*g.1.length:Nat):=fun x h0 h1=>by
 unfold nxN;rw[if_pos ⟨h0,h1⟩];exact UJ H x h0 h1
theorem E8 (x:Int):(nxN g a x).length≤720:=by
 unfold nxN;split
 ·rename_i h;exact SK H h.1 h.2
 ·simp
theorem SL:dD g a=some (rm (a.2.1.length*g.1.length) fun z=>nxN g a (z:Int)):=by
 rw[SD H.1 H.2.2 H.2.1]
 congr 1
 refine ep fun z hz=>?_
 unfold nxN
 rw[if_pos ⟨by omega,by omega⟩];rfl
end
section
variable {g:GrT} {a:AutT} (H:GOOD g a) {x:Int} (hx:0≤x∧x<g.1.length)
include H hx
theorem Xg:0≤x*(a.2.1.length:Int)+a.1∧x*(a.2.1.length:Int)+a.1<(a.2.1.length*g.1.length:Nat):=by
 obtain ⟨z,rfl⟩: ∃z:Nat,x=(z:Int):=⟨_,(Int.toNat_of_nonneg hx.1).symm⟩
 have hs:=H.2.2.start
 obtain ⟨s,hs'⟩: ∃s:Nat,a.1=(s:Int):=⟨_,(Int.toNat_of_nonneg hs.1).symm⟩
 rw[hs'] at hs⊢
 have:=cN H.1 H.2.2 H.2.1 (x:=z) (s:=s) (by omega) (by omega)
 constructor
 ·exact Int.add_nonneg (Int.mul_nonneg (by omega) (by omega)) (by omega)
 ·exact_mod_cast this
theorem UK:IntKind.i64.wrap ((IntKind.i64.wrap (x*(a.2.1.length:Int)))+a.1)=x*(a.2.1.length:Int)+a.1:=by
 have h:=Xg H hx
 have hN:=nN H.1 H.2.2 H.2.1
 have hs:=H.2.2.start
 have hn:=H.2.1
 have h5:=H.1.n5
 rw[bZ (n:=x*(a.2.1.length:Int)) (by omega) (by omega),bZ (by omega) (by omega)]
end
end D
namespace D
open Go.RowKit
theorem UL {t:Tok} (h:0≤ar t) (k:t.1=3):0≤t.2.1∧t.2.1≤8:=by
 unfold ar at h
 grind
section
variable {g:GrT} (G:GOk g) (hi:ay g=some true) (hs:aI g=some true)
include G hi hs
theorem Pe {x:Tr Tok} (h:WT x): ∀n m,(flat x).length≤n→(flat x).length≤m→(flat x).length≤1000000→ ∃r,aL n x g=some r∧cv m g (flat x)=some r∧InR r:=by
 refine WT.ind (p:=fun x=> ∀n m,(flat x).length≤n→(flat x).length≤m→(flat x).length≤1000000→ ∃r,aL n x g=some r∧cv m g (flat x)=some r∧InR r) ?_ ?_ ?_ h
 ·intro t e n m hn hm hl
  rw[xU] at hn hm hl⊢
  match n,m,hn,hm with
  | n+1,m+1,_,_ =>
   rw[aL,cv]
   have:=(iA (A:=[]) (t:=t) (by simp)).1
   rw[List.nil_append] at this
   rw[this];simp only[lf,Option.bind_some,eQ]
   rcases jA (show 0≤ar t by omega) with ⟨e',k⟩ | ⟨e',k⟩ | ⟨_,k | k | k⟩
   ·omega
   ·omega
   ·simp only[k,Int.reduceBEq,Bool.false_eq_true,if_false]
    exact ⟨[],rfl,rfl,InR.nil⟩
   ·simp only[k,Int.reduceBEq,if_true]
    rw[Wc G.n5,Wd G.n5]
    exact ⟨_,rfl,rfl,GG G.n5⟩
   ·have hc:=UL (show 0≤ar t by omega) k
    simp only[k,Int.reduceBEq,if_true,Bool.false_eq_true,if_false]
    rw[Wf G hi hs hc,Wg G hi hs hc]
    exact ⟨_,rfl,rfl,UB G hi hs hc⟩
 ·intro t a e wa ih n m hn hm hl
  rw[yG] at hn hm hl⊢
  simp only[List.length_append,List.length_cons,List.length_nil] at hn hm hl
  match n,m,hn,hm with
  | n+1,m+1,hn,hm =>
   obtain ⟨ra,ia,sa,ha⟩:=ih n m (by omega) (by omega) (by omega)
   rw[aL,cv]
   obtain ⟨l1,l2⟩:=iA (A:=flat a) (t:=t) (by omega)
   rw[l1,l2,Int.toNat_natCast,List.take_left];simp only[lf,Option.bind_some,eQ]
   rw[show aw [a] 0=some a from rfl];simp only[Option.bind_some]
   rw[ia,sa];simp only[Option.bind_some]
   rw[iQ (by simp only[List.length_append,List.length_cons,List.length_nil];omega)];simp only[Option.bind_some]
   rcases jA (show 0≤ar t by omega) with ⟨e',k⟩ | ⟨_,k | k⟩ | ⟨e',k⟩
   ·omega
   ·simp only[k,Int.reduceBEq,if_true,Bool.false_eq_true,if_false]
    obtain ⟨r,e1,e2,hr⟩:=OY G.n5 ha G.n1
    rw[e1,e2]
    exact ⟨r,rfl,rfl,hr⟩
   ·have h7:=vl (show 0≤ar t by omega) k
    simp only[k,Int.reduceBEq,if_true,Bool.false_eq_true,if_false]
    obtain ⟨r,e1,e2,hr⟩:=OZ G.n5 ha G.n1 t.2.2.1 (high:=t.2.2.2) ⟨by omega,by omega⟩
    rw[e1,e2]
    exact ⟨r,rfl,rfl,hr⟩
   ·omega
 ·intro t a b e wa wb iha ihb n m hn hm hl
  rw[ri] at hn hm hl⊢
  obtain ⟨p1,p2,p3,p4⟩:=tH (a:=a) (t:=t) wb hl
  simp only[List.length_append,List.length_cons,List.length_nil] at hn hm hl
  match n,m,hn,hm with
  | n+1,m+1,hn,hm =>
   obtain ⟨ra,ia,sa,ha⟩:=iha n m (by omega) (by omega) (by omega)
   obtain ⟨rb,ib,sb,hb⟩:=ihb n m (by have:=wa.pos;omega) (by have:=wa.pos;omega) (by omega)
   have la:=ha.len
   have lb:=hb.len
   rw[aL,cv]
   obtain ⟨l1,l2⟩:=iA (A:=flat a++flat b) (t:=t) (by rw[List.length_append];omega)
   rw[l1,l2,p1];simp only[lf,Option.bind_some,eQ]
   rw[show aw [a,b] 0=some a from rfl,show aw [a,b] 1=some b from rfl];simp only[Option.bind_some]
   rw[ia,ib];simp only[Option.bind_some]
   rw[p2,iQ (by simp only[List.length_append,List.length_cons,List.length_nil];omega)];simp only[Option.bind_some]
   rw[iQ (by simp only[List.length_append,List.length_cons,List.length_nil];omega),p3,p4];simp only[Option.bind_some]
   rw[sa,sb];simp only[Option.bind_some]
   rw[iQ (by simp only[List.length_append,List.length_cons,List.length_nil];omega)];simp only[Option.bind_some]
   rcases jA (show 0≤ar t by omega) with ⟨_,k | k⟩ | ⟨e',k⟩ | ⟨e',k⟩
   ·simp only[k,Int.reduceBEq,if_true,Bool.false_eq_true,if_false]
    rw[Sq (by omega) (by omega),Sr ha.str (by omega) (by omega)]
    exact ⟨_,rfl,rfl,uE ha hb⟩
   ·simp only[k,Int.reduceBEq,if_true,Bool.false_eq_true,if_false]
    rw[ES (by omega) (by omega),Sn (by omega) (by omega)]
    exact ⟨_,rfl,rfl,EY ha hb⟩
   ·omega
   ·omega
end
theorem LO {g:GrT} (hg:Data.sm g) {e:List Tok} (he:e.length≤1048576): ∃r:List Pr×Bool,ir g e=some r∧iw g e=some r∧InR r.1:=by
 obtain ⟨b,e1,k1⟩:=Gz g (aJ hg.1).1 (aJ hg.2).1
 have e2:aI g=some b:=(Da g).trans e1
 unfold ir iw
 simp only[eQ]
 rw[e1,e2];simp only[Option.bind_some]
 cases b with
 | false=>exact ⟨([],false),rfl,rfl,InR.nil⟩
 | true =>
  simp only[if_true]
  rw[xW he,xX he];simp only[Option.bind_some]
  by_cases c:(decide (e.length≤24)&&isX e)=true
  ·rw[if_pos c,if_pos c]
   rw[Bool.and_eq_true] at c
   obtain ⟨x,hr,hw,hf⟩:=GJ c.2
   have h24:e.length≤24:=of_decide_eq_true c.1
   have hfu:=qp
   rw[vO he,show tG e=x from by unfold tG;rw[hr]];simp only[Option.bind_some]
   obtain ⟨r,e3,e4,hr⟩:=Pe (k1 rfl) e1 e2 hw dy dy (by rw[hf];omega) (by rw[hf];omega) (by rw[hf];omega)
   rw[hf] at e4
   rw[e3,e4]
   exact ⟨(r,true),rfl,rfl,hr⟩
  ·rw[if_neg c,if_neg c]
   exact ⟨([],false),rfl,rfl,InR.nil⟩
end D
namespace D
open Go.RowKit
end D
namespace D
open Go.RowKit
end D
namespace D
open Go.RowKit
def yH (a:AutT) (s v:Int):Bool:=decide (∃q∈bJ (cS a s v) 30,nth a.2.1 q=true)
section
variable {a:AutT} {n:Nat} (V:VA a n) (hn:n≤12)
include V hn
theorem E9 {s v:Int} (hs:0≤s∧s<n) (hv:0≤v∧v≤2):df a (pA 1 s) v=some (yH a s v):=by
 obtain ⟨t,rfl⟩: ∃t:Nat,s=(t:Int):=⟨s.toNat,by omega⟩
 obtain ⟨e1,h1⟩:=jy V hn hs hv
 have hC:cS a (t:Int) v<2 ^ 30:=Nat.lt_of_lt_of_le h1 (Nat.pow_le_pow_right (by decide) (by omega))
 unfold df
 rw[qo (by omega),jx (Nat.pow_lt_pow_right (by decide) (by omega)),C4 (by omega)];simp only[Option.bind_some]
 have hlen:=il (cS a (t:Int) v) 30
 have h0:bI a v [(t:Int)] 0=some (if yH a (t:Int) v=true then .ret true else .nxt 1):=by
  unfold bI
  rw[if_pos (by simp),show aw [(t:Int)] 0=some (t:Int) from rfl];simp only[Option.bind_some]
  have e1:cW (a.1,a.2.1,a.2.2) (t:Int) v=_:=e1
  rw[e1];simp only[Option.bind_some]
  rw[jx hC];simp only[Option.bind_some]
  rcases scan (f:=cX a (bJ (cS a (t:Int) v) 30)) (bJ (cS a (t:Int) v) 30) (fun q=> ¬nth a.2.1 q=true) true (by omega) (fun i hi=>by
   have hq:=lF V hn h1 _ (aX (xs:=bJ (cS a (t:Int) v) 30) (i:=(i:Int)) (by omega) (by omega))
   unfold cX
   rw[if_pos (by simp;omega),aj (by omega) (by omega)];simp only[Option.bind_some]
   rw[V.acc hq.1 hq.2,aa (by omega)];simp only[Option.bind_some]
   cases nth a.2.1 (nth (bJ (cS a (t:Int) v) 30) (i:Int)) <;> rfl) (by unfold cX;simp) with ⟨e,h⟩ | ⟨e,h⟩
  ·rw[ae e,if_neg (by unfold yH;rw[decide_eq_true_eq];rintro ⟨q,hq,hqa⟩;exact h q hq hqa)];rfl
  ·rw[aK e,if_pos (by
    unfold yH;rw[decide_eq_true_eq]
    by_cases c: ∃q∈bJ (cS a (t:Int) v) 30,nth a.2.1 q=true
    ·exact c
    ·exact absurd (fun q hq hqa=>c ⟨q,hq,hqa⟩) h)]
 have h1':bI a v [(t:Int)] 1=some (.brk 1):=by
  unfold bI;rw[if_neg (by simp)]
 rcases Iw (f:=bI a v [(t:Int)]) 1 (fun _=> ¬yH a (t:Int) v=true) true (by decide) (fun i hi=>by
  obtain rfl:i=0:=by omega
  rw[show ((0:Nat):Int)=0 from rfl,h0]
  cases yH a (t:Int) v <;> rfl) h1' with ⟨e,h⟩ | ⟨e,h⟩
 ·rw[ae e]
  have:=h 0 (by decide)
  rw[Bool.not_eq_true] at this
  rw[this]
 ·rw[aK e]
  have:yH a (t:Int) v=true:=by
   cases hb:yH a (t:Int) v with
   | true=>rfl
   | false=>exact absurd (fun _ _=>by rw[hb];decide) h
  rw[this]
theorem Dc {C:Nat} (hC:C<2 ^ n):az (ai (eJ a (C:Int)) aB 0) (fun r=>some r) (fun _=>some false)=some (decide (∃q∈bJ C 30,nth a.2.1 q=true)):=by
 have hC':C<2 ^ 62:=Nat.lt_of_lt_of_le hC (p62 (by omega))
 rcases Iw (f:=eJ a (C:Int)) n (fun i=> ¬(C.testBit i=true∧nth a.2.1 (i:Int)=true)) true (by omega) (fun i hi=>by
  unfold eJ
  rw[V.len,if_pos (by simp;omega),fp (by omega),uD hC' (by omega),V.acc (by omega) (by omega),aa (by omega)];simp only[Option.bind_some]
  cases C.testBit i <;> cases nth a.2.1 (i:Int) <;> rfl) (by unfold eJ;rw[V.len];simp) with ⟨e,h⟩ | ⟨e,h⟩
 ·rw[ae e,decide_eq_false]
  rintro ⟨q,hq,hqa⟩
  have hr:=lF V hn hC q hq
  obtain ⟨i,hi,hb,rfl⟩:=kS.1 hq
  exact h i (by omega) ⟨hb,hqa⟩
 ·rw[aK e,decide_eq_true]
  by_cases c: ∃q∈bJ C 30,nth a.2.1 q=true
  ·exact c
  ·exact absurd (fun (i:Nat) (hi:i<n) (hh:C.testBit i=true∧nth a.2.1 (i:Int)=true)=>c ⟨(i:Int),kS.2 ⟨i,by omega,hh.1,rfl⟩,hh.2⟩) h
end
section
variable {g:GrT} {a:AutT} (H:GOOD g a)
include H
theorem Dd {x s:Nat} (hx:x<g.1.length) (hs:s<a.2.1.length):fx g a (x:Int) (s:Int)=some (yH a (s:Int) (nth g.1 (x:Int))):=by
 have hv:=H.1.val _ (aX (xs:=g.1) (i:=(x:Int)) (by omega) (by omega))
 have ec:=ya H.2.2 H.2.1 (s:=(s:Int)) ⟨by omega,by omega⟩ hv
 have hC:=(jy H.2.2 H.2.1 (s:=(s:Int)) ⟨by omega,by omega⟩ hv).2
 unfold fx
 rw[aj (by omega) (by omega)];simp only[Option.bind_some]
 have ec:cA (a.1,a.2.1,a.2.2) (s:Int) (nth g.1 (x:Int))=_:=ec
 rw[ec];simp only[Option.bind_some]
 have:=Dc H.2.2 H.2.1 hC
 exact this
end
theorem SM {x:Nat} {n:Nat} (hx:x≤1000000):MB (x:Int) (n:Int)=((x / n:Nat):Int)∧Int.tmod (x:Int) (n:Int)=((x % n:Nat):Int):=by
 refine ⟨?_,?_⟩
 ·unfold MB
  rw[Int.tdiv_eq_ediv_of_nonneg (Int.natCast_nonneg _),←Int.natCast_ediv,o6 (by have:=Nat.div_le_self x n;omega)]
 ·rw[Int.tmod_eq_emod_of_nonneg (Int.natCast_nonneg _),Int.natCast_emod]
section
variable {g:GrT} {a:AutT} (H:GOOD g a) {R:List Int} (hR:R.length=a.2.1.length*g.1.length)
include H
theorem UM {i:Nat} (hi:i<a.2.1.length*g.1.length):i / a.2.1.length<g.1.length∧i % a.2.1.length<a.2.1.length∧0<a.2.1.length∧g.1.length≤5:=by
 obtain ⟨k1,k2⟩:=H.divmod (x:=(i:Int)) (by omega) (by omega)
 exact ⟨k1,k2,H.2.2.pos,H.1.n5⟩
include hR
end
section
variable {g:GrT} {a:AutT} (H:GOOD g a) {x:Int} (hx:0≤x∧x<g.1.length)
include H hx
end
end D
namespace D
open Go.RowKit
section
variable {a:AutT} {n:Nat} (V:VA a n) (hn:n≤12)
include V hn
theorem Qo {k:Nat} (hk:k<9) {t:Int} (ht:0≤t∧t<n) {A:Nat} (hA:A<2 ^ n) (h0:0≤mv a t k):orI (A:Int) (pA 1 (mv a t k))=((A ||| 2 ^ (mv a t k).toNat:Nat):Int)∧A ||| 2 ^ (mv a t k).toNat<2 ^ n:=by
 have hm:=V.mv (s:=t) (k:=k) ht.1 ht.2 hk
 obtain ⟨q,hq⟩: ∃q:Nat,mv a t k=(q:Int):=⟨(mv a t k).toNat,by omega⟩
 rw[hq] at hm⊢
 rw[Int.toNat_natCast]
 rw[qo (by omega),GB (Nat.lt_of_lt_of_le hA (p62 (by omega))) (Nat.pow_lt_pow_right (by decide) (by omega))]
 exact ⟨rfl,tD hA (by omega)⟩
theorem Pf {k:Nat} (hk:k<9) {l:List Int} (hl: ∀x∈l,0≤x∧x<n) (hlen:l.length≤30) {A:Nat} (hA:A<2 ^ n) :
  ∃R:Nat,ai (dK a (k:Int) l) aB ((A:Int),0)=some (.brk ((R:Int),(l.length:Int)))∧R<2 ^ n∧ ∀t:Nat,R.testBit t=true↔A.testBit t=true∨ ∃r∈l,mv a r k=(t:Int):=by
 obtain ⟨st,e,R,rfl,hR,hb⟩:=cR (f:=dK a (k:Int) l) (fun j st=> ∃R:Nat,st=((R:Int),(j:Int))∧R<2 ^ n∧ ∀t:Nat,R.testBit t=true↔A.testBit t=true∨ ∃r∈l.take j,mv a r k=(t:Int)) l.length (by
  rintro j st hj ⟨R,rfl,hR,hb⟩
  have hx:=hl _ (List.getElem_mem hj)
  have hm:=V.mv (s:=l[j]) (k:=k) hx.1 hx.2 hk
  have e1:aO (a.1,a.2.1,a.2.2) l[j] (k:Int)=_:=zR V hx.1 hx.2 hk
  unfold dK
  simp only
  rw[bA hj,if_pos rfl,aq hj];simp only[Option.bind_some,aa (show j<9223372036854775807 by omega)]
  rw[e1];simp only[Option.bind_some]
  rw[List.take_succ_eq_append_getElem hj]
  by_cases c:0≤mv a l[j] k
  ·obtain ⟨e2,h2⟩:=Qo V hn hk hx hR c
   rw[if_pos (decide_eq_true c),fp c];simp only[Option.bind_some]
   rw[e2]
   refine ⟨_,rfl,_,rfl,h2,fun t=>?_⟩
   rw[nz,Bool.or_eq_true,hb t,decide_eq_true_eq]
   constructor
   ·rintro ((h | ⟨r,hr,h⟩) | h)
    ·exact .inl h
    ·exact .inr ⟨r,List.mem_append.2 (.inl hr),h⟩
    ·exact .inr ⟨l[j],List.mem_append.2 (.inr (List.mem_singleton.2 rfl)),by omega⟩
   ·rintro (h | ⟨r,hr,h⟩)
    ·exact .inl (.inl h)
    ·rcases List.mem_append.1 hr with hr | hr
     ·exact .inl (.inr ⟨r,hr,h⟩)
     ·obtain rfl:=List.mem_singleton.1 hr
      exact .inr (by omega)
  ·rw[if_neg (by simpa using c)]
   refine ⟨_,rfl,_,rfl,hR,fun t=>?_⟩
   rw[hb t]
   constructor
   ·rintro (h | ⟨r,hr,h⟩)
    ·exact .inl h
    ·exact .inr ⟨r,List.mem_append.2 (.inl hr),h⟩
   ·rintro (h | ⟨r,hr,h⟩)
    ·exact .inl h
    ·rcases List.mem_append.1 hr with hr | hr
     ·exact .inr ⟨r,hr,h⟩
     ·obtain rfl:=List.mem_singleton.1 hr
      omega) (by
  rintro st ⟨R,rfl,-⟩
  unfold dK
  simp only
  rw[bh];rfl) (s:=((A:Int),0)) ⟨A,rfl,hA,fun t=>by simp⟩ (gp (by omega))
 rw[List.take_of_length_le (Nat.le_refl _)] at hb
 exact ⟨R,e,hR,hb⟩
def RM (a:AutT) (M:Nat) (v:Int) (k:Nat) (t:Nat):Prop:= ∃s∈bJ M 30,∃r∈bJ (cS a s v) 30,mv a r k=(t:Int)
theorem Wn {M:Nat} (hM:M<2 ^ n) {v:Int} (hv:0≤v∧v≤2) {k:Nat} (hk:k<9): ∃R:Nat,gk a (M:Int) v (k:Int)=some (R:Int)∧R<2 ^ n∧ ∀t,R.testBit t=true↔RM a M v k t:=by
 have hM30:M<2 ^ 30:=Nat.lt_of_lt_of_le hM (Nat.pow_le_pow_right (by decide) (by omega))
 have hlen:=il M 30
 have hin:=lF V hn hM
 unfold gk
 rw[jx hM30];simp only[Option.bind_some]
 obtain ⟨st,e,R,rfl,hR,hb⟩:=cR (f:=cQ a v (k:Int) (bJ M 30)) (fun j st=> ∃R:Nat,st=((R:Int),(j:Int))∧R<2 ^ n∧ ∀t:Nat,R.testBit t=true↔ ∃s∈(bJ M 30).take j,∃r∈bJ (cS a s v) 30,mv a r k=(t:Int)) (bJ M 30).length (by
  rintro j st hj ⟨R,rfl,hR,hb⟩
  have hx:=hin _ (List.getElem_mem hj)
  obtain ⟨e1,h1⟩:=jy V hn hx hv
  have e1:cW (a.1,a.2.1,a.2.2) (bJ M 30)[j] v=_:=e1
  have hC:cS a (bJ M 30)[j] v<2 ^ 30:=Nat.lt_of_lt_of_le h1 (Nat.pow_le_pow_right (by decide) (by omega))
  obtain ⟨R',e2,h2,hb2⟩:=Pf V hn hk (lF V hn h1) (il _ _) hR
  unfold cQ
  simp only
  rw[bA hj,if_pos rfl,aq hj];simp only[Option.bind_some,aa (show j<9223372036854775807 by omega)]
  rw[e1];simp only[Option.bind_some]
  rw[jx hC];simp only[Option.bind_some]
  rw[ae e2]
  refine ⟨_,rfl,R',rfl,h2,fun t=>?_⟩
  rw[hb2 t,hb t,List.take_succ_eq_append_getElem hj]
  constructor
  ·rintro (⟨s,hs,h⟩ | h)
   ·exact ⟨s,List.mem_append.2 (.inl hs),h⟩
   ·exact ⟨_,List.mem_append.2 (.inr (List.mem_singleton.2 rfl)),h⟩
  ·rintro ⟨s,hs,h⟩
   rcases List.mem_append.1 hs with hs | hs
   ·exact .inl ⟨s,hs,h⟩
   ·obtain rfl:=List.mem_singleton.1 hs
    exact .inr h) (by
  rintro st ⟨R,rfl,-⟩
  unfold cQ
  simp only
  rw[bh];rfl) (s:=(((0:Nat):Int),0)) ⟨0,rfl,Nat.pos_of_ne_zero (by simp),fun t=>by simp⟩ (gp (by omega))
 rw[List.take_of_length_le (Nat.le_refl _)] at hb
 have e:ai (cQ a v (k:Int) (bJ M 30)) aB (0,0)=_:=e
 rw[ae e]
 exact ⟨R,rfl,hR,hb⟩
end
def aM (a:AutT) (M:Nat) (v:Int) (k:Nat):Nat:=((gk a (M:Int) v (k:Int)).getD 0).toNat
section
variable {a:AutT} {n:Nat} (V:VA a n) (hn:n≤12)
include V hn
theorem Wo {M:Nat} (hM:M<2 ^ n) {v:Int} (hv:0≤v∧v≤2) {k:Nat} (hk:k<9):gk a (M:Int) v (k:Int)=some (aM a M v k:Int)∧aM a M v k<2 ^ n∧ ∀t,(aM a M v k).testBit t=true↔RM a M v k t:=by
 obtain ⟨R,e,h1,h2⟩:=Wn V hn hM hv hk
 have:aM a M v k=R:=by unfold aM;rw[e];rfl
 rw[this]
 exact ⟨e,h1,h2⟩
theorem GM {C:Nat} (hC:C<2 ^ n) {s:Nat} :(s:Int)∈bJ C 30↔C.testBit s=true:=by
 rw[kS]
 constructor
 ·rintro ⟨i,-,h,e⟩
  obtain rfl:s=i:=by omega
  exact h
 ·intro h
  refine ⟨s,?_,h,rfl⟩
  apply Classical.byContradiction
  intro hc
  rw[Nat.testBit_lt_two_pow (Nat.lt_of_lt_of_le hC (Nat.pow_le_pow_right (by decide) (by omega)))] at h
  cases h
theorem LP {C:Nat} (hC:C<2 ^ n) {s:Nat} (h:C.testBit s=true):s<n:=by
 apply Classical.byContradiction
 intro hc
 rw[Nat.testBit_lt_two_pow (Nat.lt_of_lt_of_le hC (Nat.pow_le_pow_right (by decide) (by omega)))] at h
 cases h
theorem UN {M:Nat} (hM:M<2 ^ n) {v:Int} (hv:0≤v∧v≤2): ∃b,df a (M:Int) v=some b∧(b=true↔ ∃s∈bJ M 30,yH a s v=true):=by
 have hM30:M<2 ^ 30:=Nat.lt_of_lt_of_le hM (Nat.pow_le_pow_right (by decide) (by omega))
 have hlen:=il M 30
 have hin:=lF V hn hM
 unfold df
 rw[jx hM30];simp only[Option.bind_some]
 rcases scan (f:=bI a v (bJ M 30)) (bJ M 30) (fun s=> ¬yH a s v=true) true (by omega) (fun i hi=>by
  have hx:=hin _ (aX (xs:=bJ M 30) (i:=(i:Int)) (by omega) (by omega))
  obtain ⟨e1,h1⟩:=jy V hn hx hv
  have e1:cW (a.1,a.2.1,a.2.2) (nth (bJ M 30) (i:Int)) v=_:=e1
  have hC:cS a (nth (bJ M 30) (i:Int)) v<2 ^ 30:=Nat.lt_of_lt_of_le h1 (Nat.pow_le_pow_right (by decide) (by omega))
  have hl2:=il (cS a (nth (bJ M 30) (i:Int)) v) 30
  unfold bI
  rw[if_pos (by simp;omega),aj (by omega) (by omega)];simp only[Option.bind_some]
  rw[e1];simp only[Option.bind_some]
  rw[jx hC];simp only[Option.bind_some]
  generalize nth (bJ M 30) (i:Int)=z at *
  rcases scan (f:=cX a (bJ (cS a z v) 30)) (bJ (cS a z v) 30) (fun q=> ¬nth a.2.1 q=true) true (by omega) (fun j hj=>by
   have hq:=lF V hn h1 _ (aX (xs:=bJ (cS a z v) 30) (i:=(j:Int)) (by omega) (by omega))
   unfold cX
   rw[if_pos (by simp;omega),aj (by omega) (by omega)];simp only[Option.bind_some]
   rw[V.acc hq.1 hq.2,aa (by omega)];simp only[Option.bind_some]
   cases nth a.2.1 (nth (bJ (cS a z v) 30) (j:Int)) <;> rfl) (by unfold cX;simp) with ⟨e,h⟩ | ⟨e,h⟩
  ·rw[ae e,if_pos (by unfold yH;rw[decide_eq_true_eq];rintro ⟨q,hq,hqa⟩;exact h q hq hqa),aa (by omega)]
  ·rw[aK e,if_neg (by
    unfold yH;rw[decide_eq_true_eq]
    intro hno
    exact h fun q hq hqa=>hno ⟨q,hq,hqa⟩)]) (by unfold bI;simp) with ⟨e,h⟩ | ⟨e,h⟩
 ·refine ⟨false,ae e,fun h=>(by cases h),?_⟩
  rintro ⟨s,hs,hb⟩
  exact absurd hb (h s hs)
 ·refine ⟨true,aK e,fun _=>?_,fun _=>rfl⟩
  apply Classical.byContradiction
  intro hc
  exact h fun s hs hb=>hc ⟨s,hs,hb⟩
end
section
variable {g:GrT} {a:AutT} (H:GOOD g a)
include H
theorem UO {x:Nat} (hx:x<g.1.length) {M:Nat} (hM:M<2 ^ a.2.1.length): ∃b,l5 g a (x:Int) (M:Int)=some b∧(b=true↔ ∃s∈bJ M 30,yH a s (nth g.1 (x:Int))=true):=by
 have h12:=H.2.1
 have hM':M<2 ^ 62:=Nat.lt_of_lt_of_le hM (p62 (by omega))
 unfold l5
 rcases Iw (f:=ko g a (x:Int) (M:Int)) a.2.1.length (fun i=> ¬(M.testBit i=true∧yH a (i:Int) (nth g.1 (x:Int))=true)) true (by omega) (fun i hi=>by
  have e:=Dd H hx hi
  unfold ko
  simp only[eQ]
  rw[if_pos (by simp;omega),fp (by omega),uD hM' (by omega),e,aa (by omega)];simp only[Option.bind_some]
  cases M.testBit i <;> cases yH a (i:Int) (nth g.1 (x:Int)) <;> rfl) (by unfold ko;simp) with ⟨e,h⟩ | ⟨e,h⟩
 ·refine ⟨false,ae e,fun h=>(by cases h),?_⟩
  rintro ⟨s,hs,hb⟩
  obtain ⟨i,hi,h1,rfl⟩:=kS.1 hs
  exact absurd ⟨h1,hb⟩ (h i (LP H.2.2 h12 hM h1))
 ·refine ⟨true,aK e,fun _=>?_,fun _=>rfl⟩
  apply Classical.byContradiction
  intro hc
  exact h fun i hi hb=>hc ⟨(i:Int),kS.2 ⟨i,by omega,hb.1,rfl⟩,hb.2⟩
theorem Pg {e:EdT} {st:Int×Bool} {k:Nat} (hk:k<6) (he:bt e st.2=some (k:Int)) {C:Nat} (hC:C<2 ^ a.2.1.length) {A:Nat} (hA:A<2 ^ a.2.1.length) :
  ∃R:Nat,ai (gY a st e (C:Int)) aB ((A:Int),0)=some (.brk ((R:Int),(a.2.1.length:Int)))∧R<2 ^ a.2.1.length∧ ∀t:Nat,R.testBit t=true↔A.testBit t=true∨ ∃r∈bJ C 30,mv a r k=(t:Int):=by
 have h12:=H.2.1
 have V:=H.2.2
 have hC':C<2 ^ 62:=Nat.lt_of_lt_of_le hC (p62 (by omega))
 obtain ⟨z,e1,R,rfl,hR,hb⟩:=cR (f:=gY a st e (C:Int)) (fun j z=> ∃R:Nat,z=((R:Int),(j:Int))∧R<2 ^ a.2.1.length∧ ∀t:Nat,R.testBit t=true↔A.testBit t=true∨ ∃r:Nat,r<j∧C.testBit r=true∧mv a (r:Int) k=(t:Int)) a.2.1.length (by
  rintro j z hj ⟨R,rfl,hR,hb⟩
  have hm:=V.mv (s:=(j:Int)) (k:=k) (by omega) (by omega) (by omega)
  have he:bt (e.1,e.2.1,e.2.2.1,e.2.2.2) st.2=_:=he
  unfold gY
  simp only
  rw[if_pos (by simp;omega),V.get (by omega) (by omega)];simp only[Option.bind_some]
  rw[he];simp only[Option.bind_some]
  rw[V.get2 (by omega) (by omega) (by omega),fp (by omega),uD hC' (by omega),aa (by omega)];simp only[Option.bind_some]
  have key: ∀R':Nat,(∀t:Nat,R'.testBit t=true↔R.testBit t=true∨(C.testBit j=true∧mv a (j:Int) k=(t:Int)))→ ∀t:Nat,R'.testBit t=true↔A.testBit t=true∨ ∃r:Nat,r<j+1∧C.testBit r=true∧mv a (r:Int) k=(t:Int):=fun R' h t=>by
   rw[h t,hb t]
   constructor
   ·rintro ((h | ⟨r,h1,h2⟩) | ⟨h1,h2⟩)
    ·exact .inl h
    ·exact .inr ⟨r,by omega,h2⟩
    ·exact .inr ⟨j,by omega,h1,h2⟩
   ·rintro (h | ⟨r,h1,h2,h3⟩)
    ·exact .inl (.inl h)
    ·by_cases e:r=j
     ·subst e;exact .inr ⟨h2,h3⟩
     ·exact .inl (.inr ⟨r,by omega,h2,h3⟩)
  by_cases b:C.testBit j=true
  ·rw[if_pos b]
   by_cases c:0≤mv a (j:Int) k
   ·obtain ⟨e2,h2⟩:=Qo V h12 (k:=k) (by omega) (t:=(j:Int)) ⟨by omega,by omega⟩ hR c
    rw[if_pos (decide_eq_true c),fp c];simp only[Option.bind_some]
    rw[e2]
    refine ⟨_,rfl,_,rfl,h2,key _ fun t=>?_⟩
    rw[nz,Bool.or_eq_true,decide_eq_true_eq]
    constructor
    ·rintro (h | h)
     ·exact .inl h
     ·exact .inr ⟨b,by omega⟩
    ·rintro (h | ⟨-,h⟩)
     ·exact .inl h
     ·exact .inr (by omega)
   ·rw[if_neg (by simpa using c)]
    refine ⟨_,rfl,_,rfl,hR,key _ fun t=>⟨.inl,?_⟩⟩
    rintro (h | ⟨-,h⟩)
    ·exact h
    ·omega
  ·rw[if_neg b]
   refine ⟨_,rfl,_,rfl,hR,key _ fun t=>⟨.inl,?_⟩⟩
   rintro (h | ⟨h,-⟩)
   ·exact h
   ·exact absurd h b) (by
  rintro z ⟨R,rfl,-⟩
  unfold gY
  simp only
  rw[if_neg (by simp)]) (s:=((A:Int),0)) ⟨A,rfl,hA,fun t=>by simp⟩ (gp (by omega))
 refine ⟨R,e1,hR,fun t=>?_⟩
 rw[hb t]
 constructor
 ·rintro (h | ⟨r,h1,h2,h3⟩)
  ·exact .inl h
  ·exact .inr ⟨(r:Int),(GM V h12 hC).2 h2,h3⟩
 ·rintro (h | ⟨r,h1,h2⟩)
  ·exact .inl h
  ·obtain ⟨i,hi,h3,rfl⟩:=kS.1 h1
   exact .inr ⟨i,LP V h12 hC h3,h3,h2⟩
theorem Wp {x:Nat} (hx:x<g.1.length) {st:Int×Bool} {j:Int} {e:EdT} {to:Int} {k:Nat} (hk:k<6) (h1:bd g st.1=some j) (h2:aw g.2 j=some e) (he:bt e st.2=some (k:Int)) (ht:fl e st.2=some to) {M:Nat} (hM:M<2 ^ a.2.1.length) :
  lZ g a (x:Int) (M:Int) st=some (to,(aM a M (nth g.1 (x:Int)) k:Int)):=by
 have h12:=H.2.1
 have V:=H.2.2
 have hM':M<2 ^ 62:=Nat.lt_of_lt_of_le hM (p62 (by omega))
 have hv:=H.1.val _ (aX (xs:=g.1) (i:=(x:Int)) (by omega) (by omega))
 obtain ⟨-,a1,a2⟩:=Wo V h12 hM hv (k:=k) (by omega)
 unfold lZ
 simp only[eQ]
 rw[h1];simp only[Option.bind_some]
 rw[h2];simp only[Option.bind_some]
 obtain ⟨z,e1,R,rfl,hR,hb⟩:=cR (f:=gZ g a (x:Int) (M:Int) st e) (fun j z=> ∃R:Nat,z=((R:Int),(j:Int))∧R<2 ^ a.2.1.length∧ ∀t:Nat,R.testBit t=true↔ ∃s:Nat,s<j∧M.testBit s=true∧ ∃r∈bJ (cS a (s:Int) (nth g.1 (x:Int))) 30,mv a r k=(t:Int)) a.2.1.length (by
  rintro j z hj ⟨R,rfl,hR,hb⟩
  have ec:=ya V h12 (s:=(j:Int)) ⟨by omega,by omega⟩ hv
  have hC:=(jy V h12 (s:=(j:Int)) ⟨by omega,by omega⟩ hv).2
  have ec:cA (a.1,a.2.1,a.2.2) (j:Int) (nth g.1 (x:Int))=_:=ec
  unfold gZ
  simp only
  rw[if_pos (by simp;omega),fp (by omega),GC hM' (by omega),aj (by omega) (by omega),aa (by omega)];simp only[Option.bind_some]
  rw[ec];simp only[Option.bind_some]
  by_cases b:M.testBit j=true
  ·obtain ⟨R',e2,h3,hb2⟩:=Pg H hk he hC hR
   rw[b];simp only[Bool.not_true,Bool.false_eq_true,if_false]
   rw[ae e2];simp only[Option.bind_some]
   refine ⟨_,rfl,R',rfl,h3,fun t=>?_⟩
   rw[hb2 t,hb t]
   constructor
   ·rintro (⟨s,h4,h5⟩ | h)
    ·exact ⟨s,by omega,h5⟩
    ·exact ⟨j,by omega,b,h⟩
   ·rintro ⟨s,h4,h5,h6⟩
    by_cases es:s=j
    ·subst es;exact .inr h6
    ·exact .inl ⟨s,by omega,h5,h6⟩
  ·rw[Bool.not_eq_true] at b
   rw[b];simp only[Bool.not_false,if_true,Option.bind_some]
   refine ⟨_,rfl,R,rfl,hR,fun t=>?_⟩
   rw[hb t]
   constructor
   ·rintro ⟨s,h4,h5⟩;exact ⟨s,by omega,h5⟩
   ·rintro ⟨s,h4,h5,h6⟩
    by_cases es:s=j
    ·subst es;rw[b] at h5;cases h5
    ·exact ⟨s,by omega,h5,h6⟩) (by
  rintro z ⟨R,rfl,-⟩
  unfold gZ
  simp only
  rw[if_neg (by simp)]) (s:=(((0:Nat):Int),0)) ⟨0,rfl,Nat.pos_of_ne_zero (by simp),fun t=>by simp⟩ (gp (by omega))
 have e1:ai (gZ g a (x:Int) (M:Int) st e) aB (0,0)=_:=e1
 rw[ae e1];simp only
 have ht:fl (e.1,e.2.1,e.2.2.1,e.2.2.2) st.2=_:=ht
 rw[ht];simp only[Option.bind_some]
 have:R=aM a M (nth g.1 (x:Int)) k:=by
  refine So hR a1 fun t ht=>?_
  rw[Bool.eq_iff_iff,hb t,a2 t]
  unfold RM
  constructor
  ·rintro ⟨s,h4,h5,h6⟩
   exact ⟨(s:Int),(GM V h12 hM).2 h5,h6⟩
  ·rintro ⟨s,h4,h6⟩
   obtain ⟨i,hi,h5,rfl⟩:=kS.1 h4
   exact ⟨i,LP V h12 hM h5,h5,h6⟩
 rw[this]
end
end D
namespace D
open Go.RowKit
abbrev StT:=Int×Bool
def eI (g:GrT) (id:Int):Int:=(bd g id).getD (-1)
theorem qq {g:GrT} (hg:g.2.length≤1048576) (id:Int):bd g id=some (eI g id)∧gF g id=some (eI g id)∧(eI g id<0∨0≤eI g id∧eI g id<g.2.length):=by
 have key: ∃r,bd g id=some r∧gF g id=some r∧(r<0∨0≤r∧r<g.2.length):=by
  unfold bd gF cm
  have hfg:bK g.2 (fun a0=>ji a0 id)=cj g id:=by
   funext s
   unfold bK cj ji
   rfl
  rw[hfg]
  rcases A3 (f:=cj g id) g.2 (fun x=>x.1==id) (fun i=>(i:Int)) (by omega) (fun i hi=>by
    unfold cj
    rw[bA hi,if_pos rfl,aq hi]
    simp only[Option.bind_some,aa (show i<9223372036854775807 by omega)]
    split <;> rfl) (by
    unfold cj
    rw[bh];rfl) with ⟨i,hi,h1,-,e⟩ | ⟨h1,e⟩
  ·rw[aK e];exact ⟨(i:Int),rfl,rfl,.inr ⟨by omega,by omega⟩⟩
  ·rw[ae e];exact ⟨-1,rfl,rfl,.inl (by omega)⟩
 obtain ⟨r,e1,e2,h⟩:=key
 have:eI g id=r:=by unfold eI;rw[e1];rfl
 rw[this]
 exact ⟨e1,e2,h⟩
def frm (g:GrT) (st:StT):Int:=if eI g st.1<0 then -1 else if st.2 then (nth g.2 (eI g st.1)).2.2.1 else (nth g.2 (eI g st.1)).2.1
def tow (g:GrT) (st:StT):Int:=frm g (st.1,!st.2)
section
variable {g:GrT} (G:GOk g) (hi:ay g=some true)
include G hi
theorem UP (st:StT):gh g st=some (if eI g st.1<0 then ((0,0,0,0),false) else (nth g.2 (eI g st.1),true)):=by
 have hm:=G.m
 obtain ⟨-,e,h⟩:=qq (g:=g) (by omega) st.1
 have e:gF (g.1,g.2) st.1=_:=e
 have hi:ay (g.1,g.2)=_:=hi
 unfold gh
 rw[e];simp only[Option.bind_some]
 by_cases c:eI g st.1<0
 ·rw[if_pos (decide_eq_true c),if_pos c]
 ·rw[if_neg (by simpa using c),if_neg c,hi];simp only[Option.bind_some,if_true]
  rw[aj (by omega) (by omega)];rfl
theorem De (st:StT):gi g st=some (frm g st):=by
 have e:gh (g.1,g.2) (st.1,st.2)=_:=UP G hi st
 unfold gi frm
 rw[e];simp only[Option.bind_some]
 by_cases c:eI g st.1<0
 ·rw[if_pos c,if_pos c];rfl
 ·rw[if_neg c];simp only[if_true]
  rw[if_neg c]
  cases st.2 <;> rfl
theorem SN (st:StT):nO g st=some (tow g st):=by
 have e:gi (g.1,g.2) (st.1,!st.2)=_:=De G hi (st.1,!st.2)
 unfold nO
 rw[e];rfl
omit hi in
theorem UQ (st:StT):frm g st= -1∨(0≤frm g st∧frm g st<g.1.length):=by
 have hm:=G.m
 obtain ⟨-,-,h⟩:=qq (g:=g) (by omega) st.1
 unfold frm
 by_cases c:eI g st.1<0
 ·rw[if_pos c];exact .inl rfl
 ·rw[if_neg c]
  have:=G.edge _ (aX (xs:=g.2) (i:=eI g st.1) (by omega) (by omega))
  right
  split
  ·exact this.2.1
  ·exact this.1
end
structure NodsOk (g:GrT) (w:Int×List StT) (l:List Int):Prop where
 len:l.length=w.2.length+1
 w60:w.2.length≤60
 first:nth l 0=w.1
 rng: ∀x∈l,0≤x∧x<g.1.length
 from_: ∀i (h:i<w.2.length),frm g w.2[i] =nth l (i:Int)
 to_: ∀i (h:i<w.2.length),tow g w.2[i] =nth l ((i+1:Nat):Int)
section
variable {g:GrT} (G:GOk g) (hi:ay g=some true) (hs:aI g=some true) {w:Int×List StT} (hw:w.2.length≤1048576)
include G hi hs hw
theorem IA: ∃r:List Int×Bool,iF g w=some r∧iH g w=some r∧(r.2=true→NodsOk g w r.1):=by
 have hm:=G.m
 have hn5:=G.n5
 have hi':ay (g.1,g.2)=_:=hi
 have hs':aI (g.1,g.2)=_:=hs
 unfold iF iH
 rw[hi',hs'];simp only[Option.bind_some,if_true]
 rw[ju (by omega),Lw,EU];simp only[Option.bind_some]
 by_cases c:0≤w.1∧w.1≤(g.1.length:Int) - 1
 case neg =>
  have hc: ¬decide (0≤w.1∧w.1≤(g.1.length:Int) - 1)=true:=by simpa using c
  rw[if_neg hc,if_neg hc];exact ⟨([],false),rfl,rfl,fun h=>by cases h⟩
 have hc:decide (0≤w.1∧w.1≤(g.1.length:Int) - 1)=true:=decide_eq_true c
 rw[if_pos hc,if_pos hc]
 by_cases d:(w.2.length:Int)>60
 ·have hd:=decide_eq_true d
  rw[if_pos hd,if_pos hd];exact ⟨([],false),rfl,rfl,fun h=>by cases h⟩
 have hd: ¬decide ((w.2.length:Int)>60)=true:=by simpa using d
 rw[if_neg hd,if_neg hd]
 let Inv:Nat→List Int×Int→Prop:=fun i s=>s.2=(i:Int)∧s.1.length=i+1∧nth s.1 0=w.1∧(∀x∈s.1,0≤x∧x<g.1.length)∧(∀j (h:j<w.2.length),j<i→frm g w.2[j] =nth s.1 (j:Int))∧ ∀j (h:j<w.2.length),j<i→tow g w.2[j] =nth s.1 ((j+1:Nat):Int)
 have step: ∀i s,i<w.2.length→Inv i s→dO g w s=bP g w s∧(bP g w s=some (.ret ([],false))∨ ∃s',bP g w s=some (.nxt s')∧Inv (i+1) s'):=by
  rintro i ⟨l,k⟩ hi2 ⟨h1,h2,h3,h4,h5,h6⟩
  have h1:k=(i:Int):=h1
  subst h1
  simp only at h2 h3 h4 h5 h6
  have eF:gi (g.1,g.2) (w.2[i].1,w.2[i].2)=_:=De G hi w.2[i]
  have eT:nO (g.1,g.2) (w.2[i].1,w.2[i].2)=_:=SN G hi w.2[i]
  obtain ⟨eI1,-,hr⟩:=qq (g:=g) (by omega) w.2[i].1
  have eI1:bd (g.1,g.2) w.2[i].1=_:=eI1
  have hlast:aw l (IntKind.i64.wrap ((l.length:Int) - 1))=some (nth l (i:Int)):=by
   rw[h2,show (((i+1:Nat):Int) - 1)=(i:Int) by omega,o6 (by omega),aj (by omega) (by omega)]
  have hl0:=h4 _ (aX (xs:=l) (i:=(i:Int)) (by omega) (by omega))
  have hI:bP g w (l,(i:Int))=if frm g w.2[i] !=nth l (i:Int) then some (.ret ([],false)) else some (.nxt (l++ [tow g w.2[i]],((i+1:Nat):Int))):=by
   unfold bP
   simp only
   rw[bA hi2,if_pos rfl,aq hi2];simp only[Option.bind_some]
   rw[eF];simp only[Option.bind_some]
   rw[hlast];simp only[Option.bind_some]
   split
   ·rfl
   ·rw[eT];simp only[Option.bind_some]
    rw[au (by simp;omega),aa (by omega)];rfl
  have hS:dO g w (l,(i:Int))=if frm g w.2[i] !=nth l (i:Int) then some (.ret ([],false)) else some (.nxt (l++ [tow g w.2[i]],((i+1:Nat):Int))):=by
   unfold dO
   simp only
   rw[bA hi2,if_pos rfl,aq hi2];simp only[Option.bind_some]
   rw[eI1];simp only[Option.bind_some]
   by_cases q:eI g w.2[i].1<0
   ·rw[if_pos (decide_eq_true q)]
    have:frm g w.2[i] = -1:=by unfold frm;rw[if_pos q]
    rw[this,if_pos (by rw[bne_iff_ne];omega)]
   ·rw[if_neg (by simpa using q),aj (by omega) (by omega)];simp only[Option.bind_some]
    have e1:frm g w.2[i] =if w.2[i].2 then (nth g.2 (eI g w.2[i].1)).2.2.1 else (nth g.2 (eI g w.2[i].1)).2.1:=by unfold frm;rw[if_neg q]
    have e2:tow g w.2[i] =if w.2[i].2 then (nth g.2 (eI g w.2[i].1)).2.1 else (nth g.2 (eI g w.2[i].1)).2.2.1:=by
     unfold tow frm
     simp only
     rw[if_neg q]
     cases w.2[i].2 <;> rfl
    rw[e1,e2]
    cases w.2[i].2 with
    | false =>
     simp only[Bool.false_eq_true,if_false,Option.bind_some]
     rw[hlast];simp only[Option.bind_some]
     split
     ·rfl
     ·rw[au (by simp;omega),aa (by omega)];rfl
    | true =>
     simp only[if_true,Option.bind_some]
     rw[hlast];simp only[Option.bind_some]
     split
     ·rfl
     ·rw[au (by simp;omega),aa (by omega)];rfl
  rw[hI,hS]
  refine ⟨rfl,?_⟩
  by_cases q:frm g w.2[i] =nth l (i:Int)
  ·right
   refine ⟨_,if_neg (by simp[q]),rfl,by simp[h2],?_,fun x hx=>?_,fun j hj hji=>?_,fun j hj hji=>?_⟩
   ·show nth (l++_) 0=_
    rw[eR (by omega) (by omega)];exact h3
   ·rcases List.mem_append.1 hx with hx | hx
    ·exact h4 x hx
    ·obtain rfl:=List.mem_singleton.1 hx
     rcases UQ G (w.2[i].1,!w.2[i].2) with e | e
     ·exfalso
      unfold frm at e q
      simp only at e
      by_cases q2:eI g w.2[i].1<0
      ·rw[if_pos q2] at q;omega
      ·rw[if_neg q2] at e
       have:=G.edge _ (aX (xs:=g.2) (i:=eI g w.2[i].1) (by omega) (by omega))
       split at e <;> omega
     ·exact e
   ·show _=nth (l++_) (j:Int)
    rw[eR (by omega) (by omega)]
    by_cases e:j=i
    ·subst e;exact q
    ·exact h5 j hj (by omega)
   ·show _=nth (l++_) ((j+1:Nat):Int)
    by_cases e:j=i
    ·subst e
     have:(l++ [tow g w.2[j]])[j+1]? =some (tow g w.2[j]):=by
      rw[List.getElem?_append_right (by omega),h2];simp
     unfold nth
     rw[List.getD_eq_getElem?_getD,Int.toNat_natCast,this];rfl
    ·rw[eR (by omega) (by omega)]
     exact h6 j hj (by omega)
  ·left
   rw[if_pos (by simp[q])]
 have stop: ∀s,s.2=(w.2.length:Int)→dO g w s=some (.brk s)∧bP g w s=some (.brk s):=by
  rintro ⟨l,k⟩ h
  have h:k=(w.2.length:Int):=h
  subst h
  unfold dO bP
  simp only
  rw[bh];exact ⟨rfl,rfl⟩
 have both: ∀f (i:Nat) s,i≤w.2.length→Inv i s→ai (dO g w) f s=ai (bP g w) f s:=by
  intro f
  induction f with
  | zero=>intro i s _ _;rfl
  | succ f ih =>
   intro i s hle hI
   rw[ai,ai]
   by_cases q:i<w.2.length
   ·obtain ⟨e,h⟩:=step i s q hI
    rw[e]
    rcases h with h | ⟨s',h,hI'⟩
    ·rw[h]
    ·rw[h];exact ih (i+1) s' (by omega) hI'
   ·obtain rfl:i=w.2.length:=by omega
    obtain ⟨e1,e2⟩:=stop s hI.1
    rw[e1,e2]
 have h0:Inv 0 ([w.1],0):=⟨rfl,rfl,rfl,fun x hx=>by
  obtain rfl:=List.mem_singleton.1 hx
  omega,fun j hj h=>by omega,fun j hj h=>by omega⟩
 rw[both aB 0 _ (by omega) h0]
 obtain ⟨o,e,hQ⟩:=bF (f:=bP g w) Inv (fun o=>o= .ret ([],false)∨ ∃s,o= .brk s∧Inv w.2.length s) w.2.length (s:=([w.1],0)) (fun i s hle hI=>by
  by_cases q:i<w.2.length
  ·rcases (step i s q hI).2 with h | ⟨s',h,hI'⟩
   ·exact .inr ⟨_,h,fun s' hh=>(by simp at hh),.inl rfl⟩
   ·exact .inl ⟨q,s',h,hI'⟩
  ·obtain rfl:i=w.2.length:=by omega
   exact .inr ⟨_,(stop s hI.1).2,fun s' hh=>(by simp at hh),.inr ⟨s,rfl,hI⟩⟩) h0 (gp (by omega))
 rcases hQ with rfl | ⟨s,rfl,hI⟩
 ·rw[aK e]
  exact ⟨([],false),rfl,rfl,fun h=>by cases h⟩
 ·rw[ae e]
  obtain ⟨h1,h2,h3,h4,h5,h6⟩:=hI
  exact ⟨(s.1,true),rfl,rfl,fun _=>⟨h2,by omega,h3,h4,fun j hj=>h5 j hj hj,fun j hj=>h6 j hj hj⟩⟩
end
def ltr (g:GrT) (st:StT):Nat:=(2*(nth g.2 (eI g st.1)).2.2.2+if st.2 then 1 else 0).toNat
def alM (g:GrT) (a:AutT) (w:Int×List StT) (l:List Int):Nat→Nat
 | 0=>2 ^ a.1.toNat
 | i+1=>aM a (alM g a w l i) (nth g.1 (nth l (i:Int))) (ltr g (nth w.2 (i:Int)))
section
variable {g:GrT} {a:AutT} (H:GOOD g a) (hi:ay g=some true) {w:Int×List StT} {l:List Int} (hl:NodsOk g w l)
include H hi hl
theorem Qp (i:Nat) (h:i<w.2.length):ltr g (nth w.2 (i:Int))<6:=by
 have hm:=H.1.m
 have hf:=hl.from_ i h
 have hx:=hl.rng _ (aX (xs:=l) (i:=(i:Int)) (by omega) (by have:=hl.len;omega))
 obtain ⟨-,-,hr⟩:=qq (g:=g) (by omega) w.2[i].1
 rw[bq h]
 have hpos: ¬eI g w.2[i].1<0:=fun c=>by
  unfold frm at hf
  rw[if_pos c] at hf
  omega
 have:=(H.1.edge _ (aX (xs:=g.2) (i:=eI g w.2[i].1) (by omega) (by omega))).2.2
 unfold ltr
 split <;> omega
theorem GN: ∀i,i≤w.2.length→alM g a w l i<2 ^ a.2.1.length
 | 0,_=>by
  have:=H.2.2.start
  exact Nat.pow_lt_pow_right (by decide) (by omega)
 | i+1,h=>by
  have V:=H.2.2
  have h12:=H.2.1
  have hl2:=hl.len
  have hx:=hl.rng _ (aX (xs:=l) (i:=(i:Int)) (by omega) (by omega))
  have hv:=H.1.val _ (aX (xs:=g.1) (i:=nth l (i:Int)) hx.1 hx.2)
  have hk:=Qp H hi hl i (by omega)
  exact (Wo V h12 (GN i (by omega)) hv (k:=ltr g (nth w.2 (i:Int))) (by omega)).2.1
theorem Df {i:Nat} (h:i<w.2.length): ∃(j:Int) (e:EdT),bd g w.2[i].1=some j∧aw g.2 j=some e∧bt e w.2[i].2=some (ltr g w.2[i] :Int)∧fl e w.2[i].2=some (tow g w.2[i])∧ij g w.2[i] =some (ltr g w.2[i] :Int)∧ltr g w.2[i] < 6:=by
 have hm:=H.1.m
 have hf:=hl.from_ i h
 have hx:=hl.rng _ (aX (xs:=l) (i:=(i:Int)) (by omega) (by have:=hl.len;omega))
 obtain ⟨e1,-,hr⟩:=qq (g:=g) (by omega) w.2[i].1
 have hpos: ¬eI g w.2[i].1<0:=fun c=>by
  unfold frm at hf
  rw[if_pos c] at hf
  omega
 have he:=(H.1.edge _ (aX (xs:=g.2) (i:=eI g w.2[i].1) (by omega) (by omega))).2.2
 have h6:=Qp H hi hl i h
 rw[bq h] at h6
 have hlt:(ltr g w.2[i] :Int)=2*(nth g.2 (eI g w.2[i].1)).2.2.2+if w.2[i].2 then 1 else 0:=by
  unfold ltr
  split <;> omega
 refine ⟨_,_,e1,aj (by omega) (by omega),?_,?_,?_,h6⟩
 ·rw[hlt]
  unfold bt
  cases w.2[i].2 with
  | false =>
   simp only[Bool.false_eq_true,if_false]
   rw[bZ (by omega) (by omega)];simp
  | true =>
   simp only[if_true]
   rw[bZ (n:=2*(nth g.2 (eI g w.2[i].1)).2.2.2) (by omega) (by omega),bZ (by omega) (by omega)]
 ·unfold fl tow frm
  simp only
  rw[if_neg hpos]
  cases w.2[i].2 <;> rfl
 ·have e:gh (g.1,g.2) (w.2[i].1,w.2[i].2)=_:=UP H.1 hi w.2[i]
  unfold ij
  rw[e,if_neg hpos];simp only[Option.bind_some,if_true]
  rw[hlt]
  have e3:=EW (nth g.2 (eI g w.2[i].1)) he w.2[i].2
  have e3:l8 ((nth g.2 (eI g w.2[i].1)).1,(nth g.2 (eI g w.2[i].1)).2.1,(nth g.2 (eI g w.2[i].1)).2.2.1,(nth g.2 (eI g w.2[i].1)).2.2.2) w.2[i].2=_:=e3
  rw[e3]
  cases w.2[i].2 <;> simp
def alL (g:GrT) (a:AutT) (w:Int×List StT) (l:List Int) (k:Nat):List Int:=(List.range (k+1)).map fun i=>(alM g a w l i:Int)
omit H hi hl in
theorem GO (k:Nat):alL g a w l (k+1)=alL g a w l k++ [(alM g a w l (k+1):Int)]:=by unfold alL;rw[List.range_succ,List.map_append];rfl
omit H hi hl in
theorem Bj (k:Nat):(alL g a w l k).length=k+1:=by simp[alL]
omit H hi hl in
theorem Bk (k:Nat):aw (alL g a w l k) (k:Int)=some (alM g a w l k:Int):=by
 rw[aq (by rw[Bj];omega)]
 simp[alL]
theorem LQ:ai (kM g a w (l,true)) aB ([pA 1 a.1],0)=some (.brk (alL g a w l w.2.length,(w.2.length:Int))):=by
 have V:=H.2.2
 have h12:=H.2.1
 have h60:=hl.w60
 have hl2:=hl.len
 have hst:=V.start
 have e0: [pA 1 a.1] =alL g a w l 0:=by
  obtain ⟨s,hs⟩: ∃s:Nat,a.1=(s:Int):=⟨a.1.toNat,by omega⟩
  show [pA 1 a.1] = [((2 ^ a.1.toNat:Nat):Int)]
  rw[hs,qo (by omega),Int.toNat_natCast]
 rw[e0]
 exact ax (f:=kM g a w (l,true)) (fun i=>(alL g a w l i,(i:Int))) w.2.length (fun i hi2=>by
  obtain ⟨j,e,h1,h2,h3,h4,h5,h6⟩:=Df H hi hl hi2
  have hx:=hl.rng _ (aX (xs:=l) (i:=(i:Int)) (by omega) (by omega))
  have hv:=H.1.val _ (aX (xs:=g.1) (i:=nth l (i:Int)) hx.1 hx.2)
  have ha:=(Wo V h12 (GN H hi hl i (by omega)) hv (k:=ltr g w.2[i]) (by omega)).1
  have ha:gk (a.1,a.2.1,a.2.2) (alM g a w l i:Int) (nth g.1 (nth l (i:Int))) (ltr g w.2[i] :Int)=_:=ha
  have h5:ij (g.1,g.2) (w.2[i].1,w.2[i].2)=_:=h5
  unfold kM
  simp only
  rw[bA hi2,if_pos rfl,aq hi2,Bk,aj (xs:=l) (by omega) (by omega)];simp only[Option.bind_some]
  rw[aj hx.1 hx.2];simp only[Option.bind_some]
  rw[h5];simp only[Option.bind_some]
  rw[ha];simp only[Option.bind_some]
  rw[au (by rw[Bj];simp;omega),aa (by omega),GO]
  show some _=some (Out.nxt (alL g a w l i++ [((aM a (alM g a w l i) (nth g.1 (nth l (i:Int))) (ltr g (nth w.2 (i:Int))):Nat):Int)],((i+1:Nat):Int)))
  rw[bq hi2]) (by
  unfold kM
  simp only
  rw[bh];rfl) (gp (by omega))
theorem LR:ai (fV g a w) aB ([pA 1 a.1],w.1,0)=some (.brk (alL g a w l w.2.length,nth l (w.2.length:Int),(w.2.length:Int))):=by
 have V:=H.2.2
 have h12:=H.2.1
 have h60:=hl.w60
 have hl2:=hl.len
 have hst:=V.start
 have e0: [pA 1 a.1] =alL g a w l 0:=by
  obtain ⟨s,hs⟩: ∃s:Nat,a.1=(s:Int):=⟨a.1.toNat,by omega⟩
  show [pA 1 a.1] = [((2 ^ a.1.toNat:Nat):Int)]
  rw[hs,qo (by omega),Int.toNat_natCast]
 rw[e0,←hl.first]
 exact ax (f:=fV g a w) (fun i=>(alL g a w l i,nth l (i:Int),(i:Int))) w.2.length (fun i hi2=>by
  obtain ⟨j,e,h1,h2,h3,h4,h5,h6⟩:=Df H hi hl hi2
  have hx:=hl.rng _ (aX (xs:=l) (i:=(i:Int)) (by omega) (by omega))
  obtain ⟨x,ex⟩: ∃x:Nat,nth l (i:Int)=(x:Int):=⟨(nth l (i:Int)).toNat,by omega⟩
  have ha:=Wp H (x:=x) (by omega) (st:=w.2[i]) h6 h1 h2 h3 h4 (GN H hi hl i (by omega))
  have ha:lZ (g.1,g.2) (a.1,a.2.1,a.2.2) (x:Int) (alM g a w l i:Int) (w.2[i].1,w.2[i].2)=_:=ha
  unfold fV
  simp only
  rw[bA hi2,if_pos rfl,aq hi2,Bk];simp only[Option.bind_some]
  rw[ex,ha];simp only[Option.bind_some]
  rw[au (by rw[Bj];simp;omega),aa (by omega),GO,hl.to_ i hi2]
  show some _=some (Out.nxt (alL g a w l i++ [((aM a (alM g a w l i) (nth g.1 (nth l (i:Int))) (ltr g (nth w.2 (i:Int))):Nat):Int)],nth l ((i+1:Nat):Int),((i+1:Nat):Int)))
  rw[bq hi2,ex]) (by
  unfold fV
  simp only
  rw[bh];rfl) (gp (by omega))
end
theorem LS {g:GrT} {a:AutT} (H:GOOD g a) (hi:ay g=some true) {w:Int×List StT} {l:List Int} (hl:NodsOk g w l): ∃b,l5 g a (nth l (w.2.length:Int)) (alM g a w l w.2.length:Int)=some b∧df a (alM g a w l w.2.length:Int) (nth g.1 (nth l (w.2.length:Int)))=some b:=by
 have hl2:=hl.len
 have hx:=hl.rng _ (aX (xs:=l) (i:=(w.2.length:Int)) (by omega) (by omega))
 have hv:=H.1.val _ (aX (xs:=g.1) (i:=nth l (w.2.length:Int)) hx.1 hx.2)
 have hM:=GN H hi hl w.2.length (Nat.le_refl _)
 obtain ⟨x,ex⟩: ∃x:Nat,nth l (w.2.length:Int)=(x:Int):=⟨(nth l (w.2.length:Int)).toNat,by omega⟩
 rw[ex] at hv hx⊢
 obtain ⟨b1,e1,k1⟩:=UO H (x:=x) (by omega) hM
 obtain ⟨b2,e2,k2⟩:=UN H.2.2 H.2.1 hM hv
 have:b2=b1:=by rw[Bool.eq_iff_iff,k1,k2]
 exact ⟨b1,e1,this ▸ e2⟩
theorem Dg {g:GrT} {a:AutT} (hg:Data.sm g) (ha:Data.sm a) {w:Int×List StT} (hw:w.2.length≤1048576) (x y:Int): ∃b,lq g a x y w=some b∧lu g a x y w=some b:=by
 obtain ⟨b,c,e1,e2,e3,e4,k1,k2⟩:=E7 g a hg ha
 unfold lq lu l6 ma lY oG rS wW
 simp only[eQ]
 cases hb:b with
 | false =>
  subst hb
  have n1:iF g w=some ([],false):=by
   unfold iF
   simp only[eQ]
   rw[e1];rfl
  have n2:iH g w=some ([],false):=by
   unfold iH
   simp only[eQ]
   rw[e2];rfl
  rw[n1,n2];simp only[Option.bind_some,Bool.false_eq_true,if_false]
  exact ⟨false,rfl,by
   by_cases c1:(w.1==x)=true
   ·rw[if_pos c1];by_cases c2:((-1:Int)==y)=true
    ·rw[if_pos c2]
    ·rw[if_neg c2]
   ·rw[if_neg c1]⟩
 | true =>
  subst hb
  have G:=k1 rfl
  obtain ⟨r,n1,n2,hr⟩:=IA G e2 e1 hw
  rw[n1,n2];simp only[Option.bind_some]
  obtain ⟨l,v⟩:=r
  cases v with
  | false =>
   simp only[Option.bind_some,Bool.false_eq_true,if_false]
   exact ⟨false,rfl,by
    by_cases c1:(w.1==x)=true
    ·rw[if_pos c1];by_cases c2:((-1:Int)==y)=true
     ·rw[if_pos c2]
     ·rw[if_neg c2]
    ·rw[if_neg c1]⟩
  | true =>
   have hl:=hr rfl
   have hl:NodsOk g w l:=hl
   have hl2:=hl.len
   have h60:=hl.w60
   simp only[if_true]
   rw[e3,e4];simp only[Option.bind_some]
   have hlast:aw l (IntKind.i64.wrap ((l.length:Int) - 1))=some (nth l (w.2.length:Int)):=by
    rw[hl2,show (((w.2.length+1:Nat):Int) - 1)=(w.2.length:Int) by omega,o6 (by omega),aj (by omega) (by omega)]
   rw[hlast];simp only[Option.bind_some]
   cases hc:c with
   | false =>
    simp only[Option.bind_some,Bool.false_eq_true,if_false]
    exact ⟨false,rfl,by
     by_cases c1:(w.1==x)=true
     ·rw[if_pos c1];by_cases c2:(nth l (w.2.length:Int)==y)=true
      ·rw[if_pos c2]
      ·rw[if_neg c2]
     ·rw[if_neg c1]⟩
   | true =>
    subst hc
    have H:GOOD g a:=⟨G,k2 rfl⟩
    have hx:=hl.rng _ (aX (xs:=l) (i:=(w.2.length:Int)) (by omega) (by omega))
    obtain ⟨r,eb1,eb2⟩:=LS H e2 hl
    have hal:aw (alL g a w l w.2.length) (IntKind.i64.wrap (((alL g a w l w.2.length).length:Int) - 1))=some (alM g a w l w.2.length:Int):=by
     rw[Bj,show (((w.2.length+1:Nat):Int) - 1)=(w.2.length:Int) by omega,o6 (by omega),Bk]
    simp only[if_true]
    unfold pT
    rw[fp H.2.2.start.1];simp only[Option.bind_some]
    rw[ae (LR H e2 hl),ae (LQ H e2 hl)];simp only[Option.bind_some,if_true]
    rw[hal,hlast];simp only[Option.bind_some]
    rw[aj hx.1 hx.2];simp only[Option.bind_some]
    rw[eb1,eb2];simp only[Option.bind_some]
    cases r with
    | false =>
     exact ⟨false,rfl,by
      by_cases c1:(w.1==x)=true
      ·rw[if_pos c1];by_cases c2:(nth l (w.2.length:Int)==y)=true
       ·rw[if_pos c2]
       ·rw[if_neg c2]
      ·rw[if_neg c1]⟩
    | true =>
     simp only[if_true]
     by_cases c1:(w.1==x)=true
     ·rw[if_pos c1,if_pos c1]
      by_cases c2:(nth l (w.2.length:Int)==y)=true
      ·rw[if_pos c2,c2];exact ⟨true,rfl,rfl⟩
      ·rw[if_neg c2]
       rw[Bool.not_eq_true] at c2
       rw[c2];exact ⟨false,rfl,rfl⟩
     ·rw[if_neg c1,if_neg c1];exact ⟨false,rfl,rfl⟩
end D
namespace D
open Go.RowKit
structure Dst (N:Nat) (nx:Int→Int→Prop) (src:Int→Prop) (o:List Int):Prop where
 len:o.length=N
 rng: ∀t:Int,0≤t→t<N→ -1≤nth o t
 zero: ∀t:Int,0≤t→t<N→(nth o t=0↔src t)
 pred: ∀t:Int,0≤t→t<N→0<nth o t→ ∃u:Int,0≤u∧u<N∧nx u t∧nth o u=nth o t - 1
 next: ∀u t:Int,0≤u→u<N→0≤t→t<N→nx u t→0≤nth o u→0≤nth o t∧nth o t≤nth o u+1
theorem Dst.le {N:Nat} {nx:Int→Int→Prop} {src:Int→Prop} {o p:List Int} (A:Dst N nx src o) (B:Dst N nx src p): ∀(d:Nat) (t:Int),0≤t→t<N→nth o t=(d:Int)→0≤nth p t∧nth p t≤(d:Int)
 | 0,t,t0,t1,h=>by
  have:=(B.zero t t0 t1).2 ((A.zero t t0 t1).1 h)
  omega
 | d+1,t,t0,t1,h=>by
  obtain ⟨u,u0,u1,hn,hu⟩:=A.pred t t0 t1 (by omega)
  have ih:=Dst.le A B d u u0 u1 (by omega)
  have:=B.next u t u0 u1 t0 t1 hn ih.1
  omega
theorem Dst.uniq {N:Nat} {nx:Int→Int→Prop} {src:Int→Prop} {o p:List Int} (A:Dst N nx src o) (B:Dst N nx src p):o=p:=by
 refine uA (by rw[A.len,B.len]) fun i hi=>?_
 rw[A.len] at hi
 have ha:=A.rng (i:Int) (by omega) (by omega)
 have hb:=B.rng (i:Int) (by omega) (by omega)
 by_cases c:0≤nth o (i:Int)
 ·have h1:=Dst.le A B (nth o (i:Int)).toNat (i:Int) (by omega) (by omega) (by omega)
  have h2:=Dst.le B A (nth p (i:Int)).toNat (i:Int) (by omega) (by omega) (by omega)
  omega
 ·by_cases d:0≤nth p (i:Int)
  ·have h2:=Dst.le B A (nth p (i:Int)).toNat (i:Int) (by omega) (by omega) (by omega)
   omega
  ·omega
def cntN (o:List Int):Nat:=o.countP fun x=>decide (0≤x)
theorem Fa (o:List Int):cntN o≤o.length:=List.countP_le_length
theorem GP {o:List Int} {k:Int} {v:Int} (h0:0≤k) (h1:k<o.length) (hk:nth o k<0) (hv:0≤v):cntN (o.set k.toNat v)=cntN o+1:=by
 have hl:k.toNat<o.length:=by omega
 have e:nth o k=o[k.toNat]:=by
  have:=bq (xs:=o) (i:=k.toNat) hl
  rwa [show ((k.toNat:Nat):Int)=k by omega] at this
 unfold cntN
 rw[List.countP_set hl,←e,if_neg (by simpa using hk),if_pos (by simpa using hv)];omega
structure DI (N:Nat) (nx:Int→List Int) (src:Int→Prop) (Q o:List Int) (i:Nat) (b:Int):Prop where
 len:o.length=N
 q: ∀t∈Q,(0≤t∧t<N)∧0≤nth o t
 rng: ∀t:Int,0≤t→t<N→ -1≤nth o t∧nth o t≤b
 zero: ∀t:Int,0≤t→t<N→(nth o t=0↔src t)
 pred: ∀t:Int,0≤t→t<N→0<nth o t→ ∃u:Int,0≤u∧u<N∧t∈nx u∧nth o u=nth o t - 1
 closed: ∀u:Int,0≤u→u<N→0≤nth o u→u∈Q∨ ∀t∈nx u,0≤nth o t∧nth o t≤nth o u+1
 sorted:Q.Pairwise fun x y=>nth o x≤nth o y
 span: ∀h:Int,Q.head? =some h→ ∀t:Int,0≤t→t<N→nth o t≤nth o h+1
 all:i+Q.length=cntN o
section
variable {N:Nat} {nx:Int→List Int} {src:Int→Prop} (hn: ∀x:Int,0≤x→x<N→ ∀y∈nx x,0≤y∧y<N)
include hn
theorem DI.turn {s k:Int} {Q o:List Int} {i:Nat} {b:Int} (H:DI N nx src (s::Q) o i b) (hk:k∈nx s) (hb:nth o k<0) (hs:nth o s+1≤b):DI N nx src (s::(Q++ [k])) (o.set k.toNat (nth o s+1)) i b:=by
 obtain ⟨⟨s0,s1⟩,sm⟩:=H.q s (List.mem_cons_self ..)
 obtain ⟨k0,k1⟩:=hn s s0 s1 k hk
 have hl:=H.len
 have hk':nth (o.set k.toNat (nth o s+1)) k=nth o s+1:=nf k0 (by omega)
 have ho: ∀t,0≤t→0≤nth o t→nth (o.set k.toNat (nth o s+1)) t=nth o t:=fun t t0 ht=>od k0 t0 (by rintro rfl;omega)
 have hne: ∀t,0≤t→k≠t→nth (o.set k.toNat (nth o s+1)) t=nth o t:=fun t t0 e=>od k0 t0 e
 have hcase: ∀t,0≤t→(t=k∧nth (o.set k.toNat (nth o s+1)) t=nth o s+1)∨(k≠t∧nth (o.set k.toNat (nth o s+1)) t=nth o t):=fun t t0=>by
  by_cases e:k=t
  ·subst e;exact .inl ⟨rfl,hk'⟩
  ·exact .inr ⟨e,hne t t0 e⟩
 have hsp: ∀t:Int,0≤t→t<N→nth o t≤nth o s+1:=H.span s rfl
 refine ⟨by rw[List.length_set];exact hl,fun t ht=>?_,fun t t0 t1=>?_,fun t t0 t1=>?_,fun t t0 t1 ht=>?_,fun u u0 u1 hu=>?_,?_,fun h hh t t0 t1=>?_,?_⟩
 ·rcases List.mem_cons.1 ht with rfl | ht
  ·exact ⟨⟨s0,s1⟩,by rw[ho _ s0 sm];exact sm⟩
  ·rcases List.mem_append.1 ht with ht | ht
   ·obtain ⟨⟨u0,u1⟩,u2⟩:=H.q t (List.mem_cons_of_mem _ ht)
    exact ⟨⟨u0,u1⟩,by rw[ho _ u0 u2];exact u2⟩
   ·obtain rfl:=List.mem_singleton.1 ht
    exact ⟨⟨k0,k1⟩,by rw[hk'];omega⟩
 ·have:=H.rng t t0 t1
  rcases hcase t t0 with ⟨-,e⟩ | ⟨-,e⟩ <;> rw[e] <;> omega
 ·rcases hcase t t0 with ⟨rfl,e⟩ | ⟨-,e⟩
  ·rw[e]
   have:=H.zero t t0 t1
   constructor
   ·intro h;omega
   ·intro h;have:=this.2 h;omega
  ·rw[e];exact H.zero t t0 t1
 ·rcases hcase t t0 with ⟨rfl,e⟩ | ⟨-,e⟩
  ·exact ⟨s,s0,s1,hk,by rw[e,ho s s0 sm];omega⟩
  ·rw[e] at ht⊢
   obtain ⟨u,u0,u1,h1,h2⟩:=H.pred t t0 t1 ht
   exact ⟨u,u0,u1,h1,by rw[ho u u0 (by omega)];exact h2⟩
 ·rcases hcase u u0 with ⟨rfl,e⟩ | ⟨-,e⟩
  ·exact .inl (List.mem_cons_of_mem _ (List.mem_append.2 (.inr (List.mem_singleton.2 rfl))))
  ·rw[e] at hu⊢
   rcases H.closed u u0 u1 hu with h | h
   ·refine .inl ?_
    rcases List.mem_cons.1 h with rfl | h
    ·exact List.mem_cons_self ..
    ·exact List.mem_cons_of_mem _ (List.mem_append.2 (.inl h))
   ·refine .inr fun t ht=>?_
    have h2:=h t ht
    have ht0:=hn u u0 u1 t ht
    rw[ho t ht0.1 h2.1];exact h2
 ·have hs':=H.sorted
  rw[show s::(Q++ [k])=(s::Q)++ [k] from rfl]
  refine List.pairwise_append.2 ⟨hs'.imp_of_mem fun {x y} hx hy h=>?_,List.pairwise_singleton _ _,fun x hx y hy=>?_⟩
  ·rw[ho x (H.q x hx).1.1 (H.q x hx).2,ho y (H.q y hy).1.1 (H.q y hy).2];exact h
  ·obtain rfl:=List.mem_singleton.1 hy
   rw[hk',ho x (H.q x hx).1.1 (H.q x hx).2]
   exact hsp x (H.q x hx).1.1 (H.q x hx).1.2
 ·obtain rfl:s=h:=by simpa using hh
  rw[ho s s0 sm]
  rcases hcase t t0 with ⟨-,e⟩ | ⟨-,e⟩ <;> rw[e]
  ·omega
  ·exact hsp t t0 t1
 ·have:=H.all
  rw[GP k0 (by omega) hb (by omega)]
  simp at this⊢
  omega
theorem Ph (hN:N≤1000) (hl: ∀x,(nx x).length≤100000) {s:Int} {Q o:List Int} {i:Nat} {b:Int} (hb:b≤1000000) (H:DI N nx src (s::Q) o i b) (hs:nth o s+1≤b) :
  ∃Q' o',ai (jk (nx s)) aB (s::Q,0,o)=some (.brk (s::Q',((nx s).length:Int),o'))∧DI N nx src (s::Q') o' i b∧nth o' s=nth o s∧ ∀t∈nx s,0≤nth o' t:=by
 obtain ⟨⟨s0,s1⟩,sm⟩:=H.q s (List.mem_cons_self ..)
 have hls:=hl s
 obtain ⟨st,e,Q',o',rfl,H',hs',hp⟩:=cR (f:=jk (nx s)) (fun j st=> ∃Q' o',st=(s::Q',(j:Int),o')∧DI N nx src (s::Q') o' i b∧nth o' s=nth o s∧ ∀t∈(nx s).take j,0≤nth o' t) (nx s).length (by
  rintro j st hj ⟨Q1,o1,rfl,H1,e1,hp⟩
  have hk:=List.getElem_mem hj
  obtain ⟨k0,k1⟩:=hn s s0 s1 _ hk
  have hl1:=H1.len
  have hall:=H1.all
  have hc:=Fa o1
  unfold jk
  simp only
  rw[bA hj,if_pos rfl,aq hj];simp only[Option.bind_some,aa (show j<9223372036854775807 by omega)]
  rw[aj k0 (by omega),show aw (s::Q1) 0=some s from rfl];simp only[Option.bind_some]
  rw[aj s0 (by omega),e1];simp only[Option.bind_some]
  rw[bZ (by omega) (by omega),au (by simp at hall⊢;omega)];simp only[Option.bind_some]
  by_cases c:nth o1 (nx s)[j] < 0
  ·rw[if_pos (decide_eq_true c)]
   have H2:=H1.turn hn hk c (by omega)
   rw[e1] at H2
   refine ⟨_,rfl,Q1++ [(nx s)[j]],o1.set (nx s)[j].toNat (nth o s+1),rfl,H2,?_,fun t ht=>?_⟩
   ·rw[od k0 s0 (by intro e;rw[e] at c;omega)];exact e1
   ·rw[List.take_succ_eq_append_getElem hj] at ht
    rcases List.mem_append.1 ht with ht | ht
    ·have h3:=hp t ht
     have ht0:=hn s s0 s1 t (List.mem_of_mem_take ht)
     rw[od k0 ht0.1 (by intro e;rw[e] at c;omega)];exact h3
    ·obtain rfl:=List.mem_singleton.1 ht
     rw[nf k0 (by omega)];omega
  ·rw[if_neg (by simpa using c)]
   refine ⟨_,rfl,Q1,o1,rfl,H1,e1,fun t ht=>?_⟩
   rw[List.take_succ_eq_append_getElem hj] at ht
   rcases List.mem_append.1 ht with ht | ht
   ·exact hp t ht
   ·obtain rfl:=List.mem_singleton.1 ht
    omega) (by
  rintro st ⟨Q1,o1,rfl,-⟩
  unfold jk
  simp only
  rw[bh];rfl) (s:=(s::Q,0,o)) ⟨Q,o,rfl,H,rfl,fun t ht=>by simp at ht⟩ (gp (by omega))
 rw[List.take_of_length_le (Nat.le_refl _)] at hp
 exact ⟨Q',o',e,H',hs',hp⟩
theorem LU (hN:N≤1000) (hl: ∀x,(nx x).length≤100000) {Q o:List Int} (H:DI N nx src Q o 0 0) :
  ∃o',ai (lx (rm N fun z=>nx (z:Int))) aB (Q,o)=some (.brk ([],o'))∧Dst N (fun u t=>t∈nx u) src o':=by
 obtain ⟨r,e,o',rfl,hD⟩:=bF (f:=lx (rm N fun z=>nx (z:Int))) (fun i st=>DI N nx src st.1 st.2 i (i:Int)) (fun r=> ∃o',r= .brk ([],o')∧Dst N (fun u t=>t∈nx u) src o') N (s:=(Q,o)) (by
  rintro i ⟨Q,o⟩ hi H
  have H:DI N nx src Q o i (i:Int):=H
  unfold lx
  simp only
  cases Q with
  | nil =>
   right
   refine ⟨_,by rw[if_neg (by simp)],fun s' e=>(by cases e),o,rfl,H.len,fun t t0 t1=>(H.rng t t0 t1).1,H.zero,H.pred,fun u t u0 u1 t0 t1 h hu=>?_⟩
   rcases H.closed u u0 u1 hu with h1 | h1
   ·cases h1
   ·exact h1 t h
  | cons s Q =>
   left
   have hall:=H.all
   have hc:=Fa o
   have hlen:=H.len
   obtain ⟨⟨s0,s1⟩,sm⟩:=H.q s (List.mem_cons_self ..)
   have hrs:=H.rng s s0 s1
   simp at hall
   refine ⟨by omega,?_⟩
   have H0:DI N nx src (s::Q) o i ((i+1:Nat):Int):= { H with rng:=fun t t0 t1=>by have:=H.rng t t0 t1;omega }
   obtain ⟨Q',o',e,H',hs',hp⟩:=Ph hn hN hl (by omega) H0 (by omega)
   obtain ⟨z,rfl⟩: ∃z:Nat,s=(z:Int):=⟨_,(Int.toNat_of_nonneg s0).symm⟩
   rw[if_pos (by simp),show aw ((z:Int)::Q) 0=some (z:Int) from rfl];simp only[Option.bind_some]
   rw[mw (by omega)];simp only[Option.bind_some]
   rw[ae e];simp only
   rw[fp (by simp;omega)];simp only[Option.bind_some]
   have hsp:=H'.span _ rfl
   refine ⟨_,rfl,H'.len,fun t ht=>H'.q t (List.mem_cons_of_mem _ ht),H'.rng,H'.zero,H'.pred,fun u u0 u1 hu=>?_,(List.pairwise_cons.1 H'.sorted).2,fun h hh t t0 t1=>?_,?_⟩
   ·rcases H'.closed u u0 u1 hu with h | h
    ·rcases List.mem_cons.1 h with rfl | h
     ·refine .inr fun t ht=>⟨hp t ht,?_⟩
      have ht0:=hn _ s0 s1 t ht
      exact hsp t ht0.1 ht0.2
     ·exact .inl h
    ·exact .inr h
   ·have h1:=(List.pairwise_cons.1 H'.sorted).1 h (by
     have hh:Q'.head? =some h:=hh
     exact List.mem_of_head? hh)
    have:=hsp t t0 t1
    show nth o' t≤nth o' h+1
    omega
   ·have:=H'.all
    simp at this⊢
    omega) H (gp (by omega))
 exact ⟨o',e,hD⟩
omit hn in
theorem Fb {vs:List Int} (hN:N≤1000) (hv: ∀v∈vs,0≤v∧v<N) (hd:vs.Nodup) :
  ∃o,ai (jj vs) aB ([],0,List.replicate N (-1))=some (.brk (vs,(vs.length:Int),o))∧DI N nx (· ∈ vs) vs o 0 0:=by
 have hle:vs.length≤N:=by
  have:=hd.length_le_of_subset (l₂:=(List.range N).map fun i:Nat=>(i:Int)) (fun x hx=>by
   obtain ⟨h0,h1⟩:=hv x hx
   exact List.mem_map.2 ⟨x.toNat,List.mem_range.2 (by omega),by omega⟩)
  simpa using this
 have hrep: ∀t:Int,0≤t→t<N→nth (List.replicate N (-1:Int)) t= -1:=fun t t0 t1=>by
  have:t.toNat<N:=by omega
  simp[nth,List.getD_eq_getElem?_getD,List.getElem?_replicate,this]
 obtain ⟨st,e,o,rfl,hl,hz,hc⟩:=cR (f:=jj vs) (fun j st=> ∃o,st=(vs.take j,(j:Int),o)∧o.length=N∧(∀t:Int,0≤t→t<N→nth o t=if t∈vs.take j then 0 else -1)∧j=cntN o) vs.length (by
  rintro j st hj ⟨o,rfl,hl,hz,hc⟩
  obtain ⟨v0,v1⟩:=hv _ (List.getElem_mem hj)
  have hnot:vs[j] ∉ vs.take j:=fun h=>by
   obtain ⟨q,hq,e⟩:=List.getElem_of_mem h
   rw[List.length_take] at hq
   rw[List.getElem_take] at e
   have:=(List.getElem_inj hd).1 e
   omega
  unfold jj
  simp only
  rw[bA hj,if_pos rfl,aq hj];simp only[Option.bind_some]
  rw[aj v0 (by omega),au (by simp;omega),aa (by omega)];simp only[Option.bind_some]
  refine ⟨_,rfl,o.set vs[j].toNat 0,?_,by rw[List.length_set];exact hl,fun t t0 t1=>?_,?_⟩
  ·rw[List.take_succ_eq_append_getElem hj]
  ·by_cases e:vs[j] =t
   ·subst e
    rw[nf v0 (by omega),if_pos (by rw[List.take_succ_eq_append_getElem hj];exact List.mem_append.2 (.inr (List.mem_singleton.2 rfl)))]
   ·rw[od v0 t0 e,hz t t0 t1]
    have:t∈vs.take (j+1)↔t∈vs.take j:=by
     rw[List.take_succ_eq_append_getElem hj,List.mem_append,List.mem_singleton]
     exact ⟨fun h=>h.resolve_right fun h=>e h.symm,.inl⟩
    simp only[this]
  ·rw[GP v0 (by omega) (by rw[hz _ v0 v1,if_neg hnot];omega) (by omega),←hc]) (by
  rintro st ⟨o,rfl,-⟩
  unfold jj
  simp only
  rw[bh];rfl) (s:=([],0,List.replicate N (-1))) ⟨List.replicate N (-1),by simp,by simp,fun t t0 t1=>by rw[hrep t t0 t1];simp,by
   unfold cntN
   symm
   rw[List.countP_eq_zero]
   intro x hx
   obtain ⟨-,rfl⟩:=List.mem_replicate.1 hx
   simp⟩ (gp (by omega))
 rw[List.take_of_length_le (Nat.le_refl _)] at e hz
 have hin: ∀t∈vs,nth o t=0:=fun t ht=>by rw[hz t (hv t ht).1 (hv t ht).2,if_pos ht]
 have hval: ∀t:Int,0≤t→t<N→(nth o t=0∧t∈vs)∨(nth o t= -1∧t∉vs):=fun t t0 t1=>by
  rw[hz t t0 t1]
  by_cases h:t∈vs
  ·exact .inl ⟨if_pos h,h⟩
  ·exact .inr ⟨if_neg h,h⟩
 refine ⟨o,e,hl,fun t ht=>⟨hv t ht,by rw[hin t ht];omega⟩,fun t t0 t1=>?_,fun t t0 t1=>?_,fun t t0 t1 h=>?_,fun u u0 u1 hu=>.inl ?_,?_,fun h hh t t0 t1=>?_,by omega⟩
 ·rcases hval t t0 t1 with ⟨h,-⟩ | ⟨h,-⟩ <;> omega
 ·rcases hval t t0 t1 with ⟨h,h2⟩ | ⟨h,h2⟩
  ·exact ⟨fun _=>h2,fun _=>h⟩
  ·exact ⟨fun h3=>by omega,fun h3=>absurd h3 h2⟩
 ·rcases hval t t0 t1 with ⟨h2,-⟩ | ⟨h2,-⟩ <;> omega
 ·rcases hval u u0 u1 with ⟨-,h2⟩ | ⟨h2,-⟩
  ·exact h2
  ·omega
 ·exact List.Pairwise.imp_of_mem (fun {x y} hx hy _=>by rw[hin x hx,hin y hy];omega) hd
 ·have:h∈vs:=List.mem_of_head? hh
  have:=hin h this
  rcases hval t t0 t1 with ⟨h2,-⟩ | ⟨h2,-⟩ <;> omega
theorem Wq {vs:List Int} (hN:N≤60) (hl: ∀x,(nx x).length≤100000) (hv: ∀v∈vs,0≤v∧v<N) (hd:vs.Nodup): ∃o,qT (rm N fun z=>nx (z:Int)) vs=some o∧Dst N (fun u t=>t∈nx u) (· ∈ vs) o:=by
 obtain ⟨o,e1,H⟩:=Fb (nx:=nx) (by omega) hv hd
 obtain ⟨o',e2,hD⟩:=LU hn (by omega) hl H
 unfold qT
 rw[dh,Wm hN];simp only[Option.bind_some]
 rw[ae e1];simp only
 rw[ae e2]
 exact ⟨o',rfl,hD⟩
end
end D
namespace D
open Go.RowKit
def occ (u:Nat) (l:List Int) (k:Nat):List Int:=(l.filter fun y=>decide (y=(k:Int))).map fun _=>(u:Int)
theorem LW (u:Nat) (l:List Int) (k:Nat):(occ u l k).length≤l.length:=by unfold occ;rw[List.length_map];exact List.length_filter_le ..
theorem LX {u:Nat} {l:List Int} {k:Nat} {t:Int} :t∈occ u l k↔t=(u:Int)∧(k:Int)∈l:=by
 unfold occ
 rw[List.mem_map]
 constructor
 ·rintro ⟨y,hy,rfl⟩
  obtain ⟨h1,h2⟩:=List.mem_filter.1 hy
  have h2:=of_decide_eq_true h2
  exact ⟨rfl,h2 ▸ h1⟩
 ·rintro ⟨rfl,h⟩
  exact ⟨_,List.mem_filter.2 ⟨h,decide_eq_true rfl⟩,rfl⟩
def vQ (nx:Nat→List Int) (i k:Nat):List Int:=(List.range i).flatMap fun u=>occ u (nx u) k
theorem Dh (nx:Nat→List Int) (i k:Nat):vQ nx (i+1) k=vQ nx i k++occ i (nx i) k:=by unfold vQ;rw[List.range_succ,List.flatMap_append];simp
theorem Bl {nx:Nat→List Int} {i k:Nat} {t:Int} :t∈vQ nx i k↔ ∃u:Nat,u<i∧t=(u:Int)∧(k:Int)∈nx u:=by
 unfold vQ
 rw[List.mem_flatMap]
 constructor
 ·rintro ⟨u,hu,h⟩
  exact ⟨u,List.mem_range.1 hu,LX.1 h⟩
 ·rintro ⟨u,hu,h⟩
  exact ⟨u,List.mem_range.2 hu,LX.2 h⟩
section
variable {nx:Nat→List Int} {N B:Nat} (hN:N≤1000) (hB:B≤100000) (hn: ∀u,u<N→ ∀y∈nx u,0≤y∧y<N) (hl: ∀u,u<N→(nx u).length≤B)
include hN hB hn hl
theorem Bm: ∀ {i:Nat},i≤N→ ∀k,(vQ nx i k).length≤B*i
 | 0,_,k=>by simp[vQ]
 | i+1,h,k=>by
  have h1:=Bm (i:=i) (by omega) k
  have h2:=LW i (nx i) k
  have h3:=hl i (by omega)
  rw[Dh,List.length_append,Nat.mul_add]
  omega
theorem Pi {i:Nat} (hi:i<N):ai (jl ((i:Int),rm N (vQ nx i)) (nx i)) aB (0,rm N (vQ nx i))=some (.brk (((nx i).length:Int),rm N (vQ nx (i+1)))):=by
 have:=ax (f:=jl ((i:Int),rm N (vQ nx i)) (nx i)) (fun j=>((j:Int),rm N (fun k=>vQ nx i k++occ i ((nx i).take j) k))) (nx i).length (fun j hj=>by
  have hy:=hn i hi _ (List.getElem_mem hj)
  obtain ⟨y,ey⟩: ∃y:Nat,(nx i)[j] =(y:Int):=⟨(nx i)[j].toNat,by omega⟩
  have h1:=Bm hN hB hn hl (i:=i) (by omega) y
  have h2:=LW i ((nx i).take j) y
  have h3:((nx i).take j).length≤B:=by rw[List.length_take];have:=hl i hi;omega
  have h4:B*i≤100000*1000:=Nat.mul_le_mul hB (by omega)
  have h5:=hl i hi
  unfold jl
  simp only
  rw[bA hj,if_pos rfl,aq hj,ey];simp only[Option.bind_some]
  rw[mw (by omega)];simp only[Option.bind_some]
  rw[au (by rw[List.length_append];simp only[List.length_cons,List.length_nil];omega),Int.toNat_natCast,aa (by omega)];simp only[Option.bind_some]
  rw[fp (by rw[List.length_set,dh];omega),fp trivial];simp only[Option.bind_some]
  rw[C6]
  congr 3
  refine ep fun z hz=>?_
  rw[List.take_succ_eq_append_getElem hj]
  unfold occ
  rw[List.filter_append,List.map_append]
  by_cases e:z=y
  ·subst e
   rw[if_pos rfl,List.filter_cons,if_pos (by rw[ey];simp)]
   simp
  ·rw[if_neg e,List.filter_cons,if_neg (by rw[ey];simp;omega)]
   simp) (by
  unfold jl
  simp only
  rw[bh];rfl) (gp (by have:=hl i hi;omega))
 have e0:(rm N fun k=>vQ nx i k++occ i ((nx i).take 0) k)=rm N (vQ nx i):=ep fun z hz=>by simp[occ]
 have e1:(rm N fun k=>vQ nx i k++occ i ((nx i).take (nx i).length) k)=rm N (vQ nx (i+1)):=ep fun z hz=>by rw[List.take_length,Dh]
 simp only[e0,e1] at this
 exact this
theorem Wr:qU (rm N nx)=some (rm N (vQ nx N)):=by
 unfold qU
 rw[dh,Lz (by omega)];simp only[Option.bind_some]
 have:=ax (f:=jm (rm N nx)) (fun i=>((i:Int),rm N (vQ nx i))) N (fun i hi=>by
  unfold jm
  simp only
  rw[if_pos (by rw[dh];simp;omega),mw hi];simp only[Option.bind_some]
  rw[ae (Pi hN hB hn hl hi),aa (by omega)]) (by
  unfold jm
  simp only
  rw[if_neg (by rw[dh];simp)]) (gp (by omega))
 have e0:(rm N fun _=>([] :List Int))=rm N (vQ nx 0):=ep fun z hz=>by simp[vQ]
 rw[e0]
 have this:ai (jm (rm N nx)) aB (0,rm N (vQ nx 0))=_:=this
 rw[ae this]
end
def nA (a:AutT) (v y:Int):Nat→List Int
 | 0=>[]
 | s+1=>if yH a (s:Int) v=true then nA a v y s++ [y*(a.2.1.length:Int)+(s:Int)] else nA a v y s
theorem Di (a:AutT) (v y:Int): ∀s,(nA a v y s).length≤s
 | 0=>Nat.le_refl _
 | s+1=>by
  have:=Di a v y s
  rw[nA];split <;> simp <;> omega
theorem tK {a:AutT} {v y t:Int} : ∀s,(t∈nA a v y s↔ ∃q:Nat,q<s∧yH a (q:Int) v=true∧t=y*(a.2.1.length:Int)+(q:Int))
 | 0=>by simp[nA]
 | s+1=>by
  have ih:=tK (a:=a) (v:=v) (y:=y) (t:=t) s
  rw[nA]
  split
  ·rename_i c
   rw[List.mem_append,ih,List.mem_singleton]
   constructor
   ·rintro (⟨q,h1,h2⟩ | h)
    ·exact ⟨q,by omega,h2⟩
    ·exact ⟨s,by omega,c,h⟩
   ·rintro ⟨q,h1,h2,h3⟩
    by_cases e:q=s
    ·subst e;exact .inr h3
    ·exact .inl ⟨q,by omega,h2,h3⟩
  ·rename_i c
   rw[ih]
   constructor
   ·rintro ⟨q,h1,h2⟩;exact ⟨q,by omega,h2⟩
   ·rintro ⟨q,h1,h2,h3⟩
    by_cases e:q=s
    ·subst e;exact absurd h2 c
    ·exact ⟨q,by omega,h2,h3⟩
theorem Bn {a:AutT} {v y:Int} : ∀s,(nA a v y s).Nodup
 | 0=>List.nodup_nil
 | s+1=>by
  rw[nA]
  split
  ·refine List.nodup_append.2 ⟨Bn s,by simp,?_⟩
   rintro x hx z hz rfl
   obtain rfl:=List.mem_singleton.1 hz
   obtain ⟨q,h1,-,h2⟩:=(tK s).1 hx
   omega
  ·exact Bn s
section
variable {g:GrT} {a:AutT} (H:GOOD g a) {y:Nat} (hy:y<g.1.length)
include H hy
theorem Bo:(y:Int)*(a.2.1.length:Int)=((y*a.2.1.length:Nat):Int)∧y*a.2.1.length+a.2.1.length≤a.2.1.length*g.1.length∧a.2.1.length*g.1.length≤60:=by
 refine ⟨by simp,?_,?_⟩
 ·have:(y+1)*a.2.1.length≤g.1.length*a.2.1.length:=Nat.mul_le_mul_right _ (by omega)
  rw[Nat.add_mul] at this
  rw[Nat.mul_comm a.2.1.length g.1.length]
  omega
 ·have:=Nat.mul_le_mul H.2.1 H.1.n5
  omega
theorem SO:pU g a (y:Int)=some (nA a (nth g.1 (y:Int)) (y:Int) a.2.1.length):=by
 have h12:=H.2.1
 have V:=H.2.2
 have hv:=H.1.val _ (aX (xs:=g.1) (i:=(y:Int)) (by omega) (by omega))
 obtain ⟨m1,m2,m3⟩:=Bo H hy
 unfold pU
 have:=ax (f:=kN g a (y:Int)) (fun s=>(nA a (nth g.1 (y:Int)) (y:Int) s,(s:Int))) a.2.1.length (fun s hs=>by
  have hl:=Di a (nth g.1 (y:Int)) (y:Int) s
  have e:=E9 V h12 (s:=(s:Int)) ⟨by omega,by omega⟩ hv
  have e:df (a.1,a.2.1,a.2.2) (pA 1 (s:Int)) (nth g.1 (y:Int))=_:=e
  unfold kN
  simp only
  rw[if_pos (by simp;omega),fp (by omega),aj (xs:=g.1) (by omega) (by omega)];simp only[Option.bind_some]
  rw[e];simp only[Option.bind_some]
  rw[bZ (n:=(y:Int)*(a.2.1.length:Int)) (by omega) (by omega),bZ (n:=(y:Int)*(a.2.1.length:Int)+(s:Int)) (by omega) (by omega),au (by simp;omega),aa (by omega),nA]
  by_cases c:yH a (s:Int) (nth g.1 (y:Int))=true
  ·rw[if_pos c,if_pos c];rfl
  ·rw[if_neg c,if_neg c];rfl) (by
  unfold kN
  simp only
  rw[if_neg (by simp)]) (gp (by omega))
 have this:ai (kN g a (y:Int)) aB (([] :List Int),0)=_:=this
 rw[ae this]
theorem SP: ∀v∈nA a (nth g.1 (y:Int)) (y:Int) a.2.1.length,0≤v∧v<(a.2.1.length*g.1.length:Nat):=fun v hv=>by
 obtain ⟨m1,m2,m3⟩:=Bo H hy
 obtain ⟨q,h1,-,rfl⟩:=(tK _).1 hv
 omega
theorem Pj (e:eM g a [(y:Int)] =some true): ∃o,jn g a (y:Int)=some o∧Dst (a.2.1.length*g.1.length) (fun u t=>u∈nxN g a t) (· ∈ nA a (nth g.1 (y:Int)) (y:Int) a.2.1.length) o:=by
 obtain ⟨m1,m2,m3⟩:=Bo H hy
 have e:eM (g.1,g.2) (a.1,a.2.1,a.2.2) [(y:Int)] =some true:=e
 unfold jn
 rw[e];simp only[Option.bind_some,if_true]
 have e1:dD (g.1,g.2) (a.1,a.2.1,a.2.2)=_:=SL H
 rw[e1];simp only[Option.bind_some]
 have hn: ∀u,u<a.2.1.length*g.1.length→ ∀z∈nxN g a ((u:Nat):Int),0≤z∧z<(a.2.1.length*g.1.length:Nat):=fun u hu=>LN H _ (by omega) (by omega)
 rw[Wr (nx:=fun z=>nxN g a ((z:Nat):Int)) (B:=720) (by omega) (by omega) hn (fun u _=>E8 H _)];simp only[Option.bind_some]
 have e2:pU (g.1,g.2) (a.1,a.2.1,a.2.2) (y:Int)=_:=SO H hy
 rw[e2];simp only[Option.bind_some]
 let T:Int→List Int:=fun k=>vQ (fun z=>nxN g a ((z:Nat):Int)) (a.2.1.length*g.1.length) k.toNat
 have hT:(rm (a.2.1.length*g.1.length) (vQ (fun z=>nxN g a ((z:Nat):Int)) (a.2.1.length*g.1.length)))=rm (a.2.1.length*g.1.length) fun z=>T (z:Int):=ep fun z hz=>rfl
 rw[hT]
 have hTin: ∀x:Int,0≤x→x<(a.2.1.length*g.1.length:Nat)→ ∀t∈T x,0≤t∧t<(a.2.1.length*g.1.length:Nat):=fun x x0 x1 t ht=>by
  obtain ⟨u,hu,rfl,-⟩:=Bl.1 ht
  omega
 obtain ⟨o,eo,hD⟩:=Wq (nx:=T) hTin m3 (fun x=>by
  have:=Bm (nx:=fun z=>nxN g a ((z:Nat):Int)) (N:=a.2.1.length*g.1.length) (B:=720) (by omega) (by omega) hn (fun u _=>E8 H _) (Nat.le_refl _) x.toNat
  have h2:720*(a.2.1.length*g.1.length)≤720*60:=Nat.mul_le_mul_left _ m3
  show (vQ _ _ _).length≤_
  omega) (SP H hy) (Bn _)
 rw[eo]
 refine ⟨o,rfl,hD.len,hD.rng,hD.zero,fun t t0 t1 h=>?_,fun u t u0 u1 t0 t1 h hu=>?_⟩
 ·obtain ⟨u,u0,u1,h1,h2⟩:=hD.pred t t0 t1 h
  obtain ⟨z,hz,rfl,h3⟩:=Bl.1 h1
  exact ⟨u,u0,u1,by rwa [show ((u.toNat:Nat):Int)=u by omega] at h3,h2⟩
 ·refine hD.next u t u0 u1 t0 t1 (Bl.2 ⟨t.toNat,by omega,by omega,?_⟩) hu
  rw[show ((u.toNat:Nat):Int)=u by omega,show ((t.toNat:Nat):Int)=t by omega]
  exact h
end
def Ws (nx:Int→List Int) (d:Int) (O:List Int) (j:Nat):Int:=if nth O (j:Int)<0∧(∃k∈nx (j:Int),nth O k=d - 1) then d else nth O (j:Int)
def lg (nx:Int→List Int) (N:Nat) (d:Int) (O:List Int) (i:Nat):List Int:=rm N fun j=>if j<i then Ws nx d O j else nth O (j:Int)
structure RI (N:Nat) (nx:Int→List Int) (src:Int→Prop) (O:List Int) (d:Int):Prop where
 len:O.length=N
 rng: ∀t:Int,0≤t→t<N→ -1≤nth O t∧nth O t≤d - 1
 zero: ∀t:Int,0≤t→t<N→(nth O t=0↔src t)
 pred: ∀t:Int,0≤t→t<N→0<nth O t→ ∃u:Int,0≤u∧u<N∧u∈nx t∧nth O u=nth O t - 1
 full: ∀u t:Int,0≤u→u<N→0≤t→t<N→u∈nx t→0≤nth O u→nth O u<d - 1→0≤nth O t∧nth O t≤nth O u+1
theorem vm {N:Nat} {F:Nat→Int} {t:Int} (h0:0≤t) (h1:t<N):nth (rm N F) t=F t.toNat:=by
 have:=mw (N:=N) (F:=F) (c:=t.toNat) (by omega)
 rw[show ((t.toNat:Nat):Int)=t by omega,aj h0 (by rw[dh];exact h1)] at this
 exact Option.some.inj this
section
variable {N:Nat} {nx:Int→List Int} {src:Int→Prop} {O:List Int} {d:Int} (hn: ∀x:Int,0≤x→x<N→ ∀y∈nx x,0≤y∧y<N) (hd:1≤d)
include hn hd
theorem jB {t:Int} (t0:0≤t) (t1:t<N):(nth O t<0∧(∃k∈nx t,nth O k=d - 1)∧nth (lg nx N d O N) t=d)∨(¬(nth O t<0∧ ∃k∈nx t,nth O k=d - 1)∧nth (lg nx N d O N) t=nth O t):=by
 unfold lg
 rw[vm t0 t1,if_pos (by omega)]
 unfold Ws
 rw[show ((t.toNat:Nat):Int)=t by omega]
 split
 ·rename_i h;exact .inl ⟨h.1,h.2,rfl⟩
 ·rename_i h;exact .inr ⟨h,rfl⟩
theorem RI.step (H:RI N nx src O d):RI N nx src (lg nx N d O N) (d+1):=by
 refine ⟨by unfold lg;rw[dh],fun t t0 t1=>?_,fun t t0 t1=>?_,fun t t0 t1 ht=>?_,fun u t u0 u1 t0 t1 hut hu hud=>?_⟩
 ·have:=H.rng t t0 t1
  rcases jB hn hd (O:=O) t0 t1 with ⟨-,-,e⟩ | ⟨-,e⟩ <;> rw[e] <;> omega
 ·have:=H.zero t t0 t1
  rcases jB hn hd (O:=O) t0 t1 with ⟨h,-,e⟩ | ⟨-,e⟩ <;> rw[e]
  ·constructor
   ·intro h;omega
   ·intro h;have:=this.2 h;omega
  ·exact this
 ·have keep: ∀u:Int,0≤u→u<N→0≤nth O u→nth (lg nx N d O N) u=nth O u:=fun u u0 u1 hu=>by
   rcases jB hn hd (O:=O) u0 u1 with ⟨h,-,e⟩ | ⟨-,e⟩
   ·omega
   ·exact e
  rcases jB hn hd (O:=O) t0 t1 with ⟨h,⟨k,hk,h2⟩,e⟩ | ⟨-,e⟩
  ·have hk0:=hn t t0 t1 k hk
   exact ⟨k,hk0.1,hk0.2,hk,by rw[keep k hk0.1 hk0.2 (by omega),e];exact h2⟩
  ·rw[e] at ht⊢
   obtain ⟨u,u0,u1,h1,h2⟩:=H.pred t t0 t1 ht
   exact ⟨u,u0,u1,h1,by rw[keep u u0 u1 (by omega)];exact h2⟩
 ·rcases jB hn hd (O:=O) u0 u1 with ⟨h,-,e⟩ | ⟨-,e⟩
  ·rw[e] at hud;omega
  ·rw[e] at hu hud⊢
   rcases jB hn hd (O:=O) t0 t1 with ⟨h2,h3,e2⟩ | ⟨h2,e2⟩
   ·rw[e2]
    by_cases c:nth O u<d - 1
    ·have:=H.full u t u0 u1 t0 t1 hut hu c;omega
    ·omega
   ·rw[e2]
    by_cases c:nth O u<d - 1
    ·exact H.full u t u0 u1 t0 t1 hut hu c
    ·have hrt:=H.rng t t0 t1
     by_cases c2:nth O t<0
     ·exact absurd ⟨c2,u,hut,by omega⟩ h2
     ·omega
theorem RI.done (H:RI N nx src O d) (h: ∀t:Int,0≤t→t<N→ ¬(nth O t<0∧ ∃k∈nx t,nth O k=d - 1)):Dst N (fun u t=>u∈nx t) src O:=by
 refine ⟨H.len,fun t t0 t1=>(H.rng t t0 t1).1,H.zero,H.pred,fun u t u0 u1 t0 t1 hut hu=>?_⟩
 by_cases c:nth O u<d - 1
 ·exact H.full u t u0 u1 t0 t1 hut hu c
 ·have h1:=H.rng u u0 u1
  have h2:=H.rng t t0 t1
  by_cases c2:nth O t<0
  ·exact absurd ⟨c2,u,hut,by omega⟩ (h t t0 t1)
  ·omega
theorem LY (H:RI N nx src O d) (h: ∀t:Int,0≤t→t<N→ ¬(nth O t<0∧ ∃k∈nx t,nth O k=d - 1)):lg nx N d O N=O:=by
 refine uA (by unfold lg;rw[dh,H.len]) fun i hi=>?_
 have hi:i<N:=by unfold lg at hi;rwa [dh] at hi
 rcases jB hn hd (O:=O) (t:=(i:Int)) (by omega) (by omega) with ⟨h1,h2,-⟩ | ⟨-,e⟩
 ·exact absurd ⟨h1,h2⟩ (h _ (by omega) (by omega))
 ·exact e
theorem Pm (H:RI N nx src O d) {t:Int} (t0:0≤t) (t1:t<N) (h:nth O t<0∧ ∃k∈nx t,nth O k=d - 1):cntN O<cntN (lg nx N d O N):=by
 have hO:O=rm N fun j=>nth O (j:Int):=uA (by rw[dh,H.len]) fun i hi=>by
  rw[vm (by omega) (by rw[H.len] at hi;omega)];simp
 have key: ∀(l:List Nat),(∀j∈l,j<N)→(l.map fun j:Nat=>nth O (j:Int)).countP (fun x=>decide (0≤x))≤(l.map fun j:Nat=>nth (lg nx N d O N) (j:Int)).countP (fun x=>decide (0≤x))∧(t.toNat∈l→(l.map fun j:Nat=>nth O (j:Int)).countP (fun x=>decide (0≤x))<(l.map fun j:Nat=>nth (lg nx N d O N) (j:Int)).countP (fun x=>decide (0≤x))):=by
  intro l
  induction l with
  | nil=>exact fun _=>⟨by simp,fun h=>by cases h⟩
  | cons j l ih =>
   intro hl
   obtain ⟨h1,h2⟩:=ih fun i hi=>hl i (List.mem_cons_of_mem _ hi)
   have hj:=hl j (List.mem_cons_self ..)
   simp only[List.map_cons,List.countP_cons]
   have hc:(if decide (0≤nth O (j:Int))=true then 1 else 0)≤(if decide (0≤nth (lg nx N d O N) (j:Int))=true then 1 else 0):=by
    rcases jB hn hd (O:=O) (t:=(j:Int)) (by omega) (by omega) with ⟨h3,-,e⟩ | ⟨-,e⟩
    ·rw[if_neg (by simp;omega)];omega
    ·rw[e];exact Nat.le_refl _
   refine ⟨by omega,fun hm=>?_⟩
   rcases List.mem_cons.1 hm with hm | hm
   ·have hlt:(if decide (0≤nth O (j:Int))=true then 1 else 0)<(if decide (0≤nth (lg nx N d O N) (j:Int))=true then 1 else 0):=by
     have ej:(j:Int)=t:=by omega
     rw[ej]
     rcases jB hn hd (O:=O) t0 t1 with ⟨h3,-,e⟩ | ⟨h3,-⟩
     ·rw[if_neg (by simp;omega),if_pos (by rw[e];simp;omega)];omega
     ·exact absurd h h3
    omega
   ·have:=h2 hm
    omega
 have:=(key (List.range N) fun j hj=>List.mem_range.1 hj).2 (List.mem_range.2 (by omega))
 have e1:(List.range N).map (fun j:Nat=>nth O (j:Int))=O:=hO.symm
 have e2:(List.range N).map (fun j:Nat=>nth (lg nx N d O N) (j:Int))=lg nx N d O N:=by
  refine (uA (by simp[lg,dh]) fun i hi=>?_).symm
  have hi:i<N:=by unfold lg at hi;rwa [dh] at hi
  show _=nth (rm N fun j=>nth (lg nx N d O N) (j:Int)) (i:Int)
  rw[vm (by omega) (by omega)];simp
 rw[e1,e2] at this
 exact this
end
end D
namespace D
open Go.RowKit
theorem LZ {α:Type} (N:Nat) (F:Nat→α):rm (N+1) F=rm N F++ [F N]:=by unfold rm;rw[List.range_succ,List.map_append];rfl
def GQ (g:GrT) (a:AutT) (y:Nat) (j:Nat):Int:=if j / a.2.1.length=y∧yH a ((j % a.2.1.length:Nat):Int) (nth g.1 ((j / a.2.1.length:Nat):Int))=true then 0 else -1
def stF (g:GrT) (a:AutT) (j:Nat):List SE:=stV g a (j / a.2.1.length) (j % a.2.1.length)
section
variable {g:GrT} {a:AutT} (H:GOOD g a) {y:Nat} (hy:y<g.1.length)
include H hy
theorem L4 {j:Nat} (hj:j<a.2.1.length*g.1.length):j / a.2.1.length<g.1.length∧j % a.2.1.length<a.2.1.length∧MB (j:Int) (a.2.1.length:Int)=((j / a.2.1.length:Nat):Int)∧Int.tmod (j:Int) (a.2.1.length:Int)=((j % a.2.1.length:Nat):Int):=by
 obtain ⟨h1,h2,h3,h4⟩:=UM H hj
 obtain ⟨e1,e2⟩:=SM (x:=j) (n:=a.2.1.length) (by have:=(Bo H hy).2.2;omega)
 exact ⟨h1,h2,e1,e2⟩
theorem Wt:ai (hY g a (y:Int)) aB ([],0)=some (.brk (rm (a.2.1.length*g.1.length) (GQ g a y),((a.2.1.length*g.1.length:Nat):Int))):=by
 obtain ⟨m1,m2,m3⟩:=Bo H hy
 have V:=H.2.2
 have hpos:0<a.2.1.length:=V.pos
 have hw:IntKind.i64.wrap ((g.1.length:Int)*(a.2.1.length:Int))=((a.2.1.length*g.1.length:Nat):Int):=by
  have:(g.1.length:Int)*(a.2.1.length:Int)=((a.2.1.length*g.1.length:Nat):Int):=by rw[Nat.mul_comm];simp
  rw[this,o6 (by omega)]
 exact ax (f:=hY g a (y:Int)) (fun j=>(rm j (GQ g a y),(j:Int))) (a.2.1.length*g.1.length) (fun j hj=>by
  obtain ⟨h1,h2,e1,e2⟩:=L4 H hy hj
  have ea:fx (g.1,g.2) (a.1,a.2.1,a.2.2) ((j / a.2.1.length:Nat):Int) ((j % a.2.1.length:Nat):Int)=_:=Dd H h1 h2
  unfold hY
  simp only
  rw[hw,if_pos (by simp;omega),fp (by omega),e1,e2];simp only[Option.bind_some]
  rw[LZ]
  by_cases c:j / a.2.1.length=y
  ·rw[if_pos (by rw[c];simp),ea];simp only[Option.bind_some]
   by_cases d:yH a ((j % a.2.1.length:Nat):Int) (nth g.1 ((j / a.2.1.length:Nat):Int))=true
   ·rw[if_pos d];simp only[Option.bind_some]
    rw[au (by rw[dh];simp;omega),aa (by omega),show GQ g a y j=0 from if_pos ⟨c,d⟩];rfl
   ·rw[if_neg d];simp only[Option.bind_some]
    rw[au (by rw[dh];simp;omega),aa (by omega),show GQ g a y j= -1 from if_neg fun h=>d h.2];rfl
  ·rw[if_neg (by rw[beq_iff_eq];omega),au (by rw[dh];simp;omega),aa (by omega),show GQ g a y j= -1 from if_neg fun h=>c h.1];rfl) (by
  unfold hY
  simp only
  rw[hw,if_neg (by simp)]) (gp (by omega))
theorem Wu {z:Int} :ai (hZ g a (rm (a.2.1.length*g.1.length) (GQ g a y),z)) aB ([],0)=some (.brk (rm (a.2.1.length*g.1.length) (stF g a),((a.2.1.length*g.1.length:Nat):Int))):=by
 obtain ⟨m1,m2,m3⟩:=Bo H hy
 have V:=H.2.2
 have hpos:0<a.2.1.length:=V.pos
 exact ax (f:=hZ g a (rm (a.2.1.length*g.1.length) (GQ g a y),z)) (fun j=>(rm j (stF g a),(j:Int))) (a.2.1.length*g.1.length) (fun j hj=>by
  obtain ⟨h1,h2,e1,e2⟩:=L4 H hy hj
  have ea:kK (g.1,g.2) (a.1,a.2.1,a.2.2) ((j / a.2.1.length:Nat):Int) ((j % a.2.1.length:Nat):Int)=_:=SG H.1 V H.2.1 h1 h2
  unfold hZ
  simp only
  rw[dh,if_pos (by simp;omega),fp (by omega),e1,e2];simp only[Option.bind_some]
  rw[ea];simp only[Option.bind_some]
  rw[au (by rw[dh];simp;omega),aa (by omega),LZ];rfl) (by
  unfold hZ
  simp only
  rw[dh,if_neg (by simp)]) (gp (by omega))
theorem L5 {j:Nat} (hj:j<a.2.1.length*g.1.length):(stF g a j).map (fun p=>p.2.1*(a.2.1.length:Int)+p.2.2)=nxN g a (j:Int):=by
 unfold stF nxN nxC nbC
 rw[if_pos ⟨by omega,by omega⟩,UH];simp
theorem SQ {j:Nat} (hj:j<a.2.1.length*g.1.length) {k:Nat} (hk:k<(stF g a j).length):(0≤(stF g a j)[k].2.1∧(stF g a j)[k].2.1≤100)∧(0≤(stF g a j)[k].2.2∧(stF g a j)[k].2.2≤100)∧ ∃h:k<(nxN g a (j:Int)).length,(nxN g a (j:Int))[k] =(stF g a j)[k].2.1*(a.2.1.length:Int)+(stF g a j)[k].2.2:=by
 obtain ⟨h1,h2,-,-⟩:=L4 H hy hj
 have he:=L5 H hy hj
 have hl:(stF g a j).length=(nxN g a (j:Int)).length:=by rw[←he,List.length_map]
 have h5:=H.1.n5
 have h12:=H.2.1
 have hm:(stF g a j)[k] ∈ stF g a j:=List.getElem_mem hk
 unfold stF at hm
 obtain ⟨z,hz,hm⟩:=List.mem_flatMap.1 hm
 obtain ⟨t,ht,e⟩:=List.mem_map.1 hm
 obtain ⟨⟨k1,k2⟩,k3⟩:=zU H.1 hz
 have hv:=H.1.val _ (aX (xs:=g.1) (i:=((j / a.2.1.length:Nat):Int)) (Int.natCast_nonneg _) (Int.ofNat_lt.2 h1))
 have hb:=(tJ H.1 H.2.2 H.2.1 (s:=((j % a.2.1.length:Nat):Int)) ⟨Int.natCast_nonneg _,Int.ofNat_lt.2 h2⟩ hv ⟨k1,k2⟩).1 t ht
 have e1:(stF g a j)[k].2.1=z.2.2:=by rw[show (stF g a j)[k] =_ from e.symm]
 have e2:(stF g a j)[k].2.2=t:=by rw[show (stF g a j)[k] =_ from e.symm]
 refine ⟨by rw[e1];omega,by rw[e2];omega,by omega,?_⟩
 have:=congrArg (fun l:List Int=>l[k]?) he
 simp only[List.getElem?_map,List.getElem?_eq_getElem hk,List.getElem?_eq_getElem (show k<(nxN g a (j:Int)).length by omega),Option.map_some] at this
 exact (Option.some.inj this).symm
def hbR (g:GrT) (a:AutT) (d:Int) (O:List Int) (i:Nat):Bool:=decide (nth O (i:Int)<0∧ ∃k∈nxN g a (i:Int),nth O k=d - 1)
theorem Wv {d:Int} (hd:1≤d∧d≤100000) {O:List Int} (hO:RI (a.2.1.length*g.1.length) (nxN g a) (· ∈ nA a (nth g.1 (y:Int)) (y:Int) a.2.1.length) O d) {i:Nat} (hi:i<a.2.1.length*g.1.length) {c:Bool} {b1 b2:Bool} {R1 R2:List (List SE)} {O1 O2:List Int} :
  ∃k,ai (ic a (b1,d,R1,O1) (b2,(i:Int),R2,O2)) aB (c,0,lg (nxN g a) (a.2.1.length*g.1.length) d O i,rm (a.2.1.length*g.1.length) (stF g a))=some (.brk (c || hbR g a d O i,k,lg (nxN g a) (a.2.1.length*g.1.length) d O (i+1),rm (a.2.1.length*g.1.length) (stF g a))):=by
 obtain ⟨m1,m2,m3⟩:=Bo H hy
 have hlen: ∀q,(lg (nxN g a) (a.2.1.length*g.1.length) d O q).length=a.2.1.length*g.1.length:=fun q=>by unfold lg;rw[dh]
 have hPi:nth (lg (nxN g a) (a.2.1.length*g.1.length) d O i) (i:Int)=nth O (i:Int):=by
  unfold lg
  rw[vm (by omega) (by omega),if_neg (by simp)];simp
 have hPk: ∀k:Int,0≤k→k<(a.2.1.length*g.1.length:Nat)→(nth (lg (nxN g a) (a.2.1.length*g.1.length) d O i) k=d - 1↔nth O k=d - 1):=fun k k0 k1=>by
  unfold lg
  rw[vm k0 k1]
  split
  ·unfold Ws
   rw[show ((k.toNat:Nat):Int)=k by omega]
   split
   ·rename_i h;omega
   ·rfl
  ·rw[show ((k.toNat:Nat):Int)=k by omega]
 have hstay: ¬(nth O (i:Int)<0∧ ∃k∈nxN g a (i:Int),nth O k=d - 1)→lg (nxN g a) (a.2.1.length*g.1.length) d O (i+1)=lg (nxN g a) (a.2.1.length*g.1.length) d O i:=fun h=>ep fun z hz=>by
  by_cases e:z=i
  ·subst e
   rw[if_pos (by omega),if_neg (by omega)]
   exact if_neg h
  ·by_cases e2:z<i
   ·rw[if_pos (by omega),if_pos e2]
   ·rw[if_neg (by omega),if_neg e2]
 have hturn:(nth O (i:Int)<0∧ ∃k∈nxN g a (i:Int),nth O k=d - 1)→(lg (nxN g a) (a.2.1.length*g.1.length) d O i).set i d=lg (nxN g a) (a.2.1.length*g.1.length) d O (i+1):=fun h=>by
  unfold lg
  rw[C6]
  exact ep fun z hz=>by
   by_cases e:z=i
   ·subst e
    rw[if_pos rfl,if_pos (by omega)]
    exact (if_pos h).symm
   ·rw[if_neg e]
    by_cases e2:z<i
    ·rw[if_pos e2,if_pos (by omega)]
    ·rw[if_neg e2,if_neg (by omega)]
 have hTi:(nth O (i:Int)<0∧ ∃k∈nxN g a (i:Int),nth O k=d - 1)→nth (lg (nxN g a) (a.2.1.length*g.1.length) d O (i+1)) (i:Int)=d:=fun h=>by
  unfold lg
  rw[vm (by omega) (by omega),Int.toNat_natCast,if_pos (by omega)]
  exact if_pos h
 have hll:(stF g a i).length≤100000:=by
  have:=E8 (g:=g) (a:=a) H (i:Int)
  have h2:=congrArg List.length (L5 H hy hi)
  rw[List.length_map] at h2
  omega
 have hnl:(nxN g a (i:Int)).length=(stF g a i).length:=by
  have h2:=congrArg List.length (L5 H hy hi)
  rw[List.length_map] at h2
  exact h2.symm
 obtain ⟨o,e,hQ⟩:=bF (f:=ic a (b1,d,R1,O1) (b2,(i:Int),R2,O2))
  (fun k s=>(s=(c,(k:Int),lg (nxN g a) (a.2.1.length*g.1.length) d O i,rm (a.2.1.length*g.1.length) (stF g a))∧ ∀(q:Nat) (h:q<(nxN g a (i:Int)).length),q<k→nth O (i:Int)<0→nth O (nxN g a (i:Int))[q] ≠d - 1)∨(s=(true,(k:Int),lg (nxN g a) (a.2.1.length*g.1.length) d O (i+1),rm (a.2.1.length*g.1.length) (stF g a))∧nth O (i:Int)<0∧ ∃k∈nxN g a (i:Int),nth O k=d - 1))
  (fun o=> ∃k,o= .brk (c || hbR g a d O i,k,lg (nxN g a) (a.2.1.length*g.1.length) d O (i+1),rm (a.2.1.length*g.1.length) (stF g a))) (stF g a i).length (s:=(c,0,lg (nxN g a) (a.2.1.length*g.1.length) d O i,rm (a.2.1.length*g.1.length) (stF g a))) (by
  rintro k s hk (⟨rfl,hno⟩ | ⟨rfl,hh⟩)
  ·unfold ic
   simp only
   rw[mw hi];simp only[Option.bind_some]
   by_cases c1:k<(stF g a i).length
   ·rw[if_pos (by simp;omega),aj (xs:=lg (nxN g a) (a.2.1.length*g.1.length) d O i) (by omega) (by rw[hlen];omega),hPi];simp only[Option.bind_some]
    by_cases c2:nth O (i:Int)<0
    ·obtain ⟨⟨p0,p1⟩,⟨q0,q1⟩,hkn,ek⟩:=SQ H hy hi c1
     have hin:=LN H (i:Int) (by omega) (by omega) _ (List.getElem_mem hkn)
     have h12:=H.2.1
     have hmul:0≤(stF g a i)[k].2.1*(a.2.1.length:Int)∧(stF g a i)[k].2.1*(a.2.1.length:Int)≤100*12:=by
      constructor
      ·exact Int.mul_nonneg p0 (by omega)
      ·exact Int.mul_le_mul p1 (by omega) (by omega) (by omega)
     left
     refine ⟨c1,?_⟩
     rw[if_pos (decide_eq_true c2),aq c1];simp only[Option.bind_some]
     rw[bZ (n:=(stF g a i)[k].2.1*(a.2.1.length:Int)) (by omega) (by omega),bZ (n:=(stF g a i)[k].2.1*(a.2.1.length:Int)+(stF g a i)[k].2.2) (by omega) (by omega),←ek,aj hin.1 (by rw[hlen];exact hin.2),bZ (n:=d - 1) (by omega) (by omega),aa (by omega)];simp only[Option.bind_some]
     by_cases c3:nth (lg (nxN g a) (a.2.1.length*g.1.length) d O i) (nxN g a (i:Int))[k] =d - 1
     ·have hh:nth O (i:Int)<0∧ ∃k∈nxN g a (i:Int),nth O k=d - 1:=⟨c2,_,List.getElem_mem hkn,(hPk _ hin.1 hin.2).1 c3⟩
      rw[if_pos (beq_iff_eq.2 c3)];simp only[Option.bind_some]
      rw[Int.toNat_natCast,hturn hh]
      exact ⟨_,rfl,.inr ⟨rfl,hh⟩⟩
     ·rw[if_neg (by rw[beq_iff_eq];exact c3)];simp only[Option.bind_some]
      refine ⟨_,rfl,.inl ⟨rfl,fun q hq hqk h0=>?_⟩⟩
      by_cases e:q=k
      ·subst e;exact fun h=>c3 ((hPk _ hin.1 hin.2).2 h)
      ·exact hno q hq (by omega) h0
    ·right
     rw[if_neg (by simpa using c2)]
     have hnh: ¬(nth O (i:Int)<0∧ ∃k∈nxN g a (i:Int),nth O k=d - 1):=fun h=>c2 h.1
     refine ⟨_,rfl,fun s' h=>(by cases h),(k:Int),?_⟩
     rw[hstay hnh,show hbR g a d O i=false from decide_eq_false hnh,Bool.or_false]
   ·right
    rw[if_neg (by simp;omega)]
    have hnh: ¬(nth O (i:Int)<0∧ ∃k∈nxN g a (i:Int),nth O k=d - 1):=fun h=>by
     obtain ⟨h0,z,hz,h2⟩:=h
     obtain ⟨q,hq,rfl⟩:=List.getElem_of_mem hz
     exact hno q hq (by omega) h0 h2
    refine ⟨_,rfl,fun s' h=>(by cases h),(k:Int),?_⟩
    rw[hstay hnh,show hbR g a d O i=false from decide_eq_false hnh,Bool.or_false]
  ·right
   unfold ic
   simp only
   rw[mw hi];simp only[Option.bind_some]
   have hb:hbR g a d O i=true:=decide_eq_true hh
   by_cases c1:k<(stF g a i).length
   ·rw[if_pos (by simp;omega),aj (xs:=lg (nxN g a) (a.2.1.length*g.1.length) d O (i+1)) (by omega) (by rw[hlen];omega),hTi hh];simp only[Option.bind_some]
    rw[if_neg (by simp;omega)]
    exact ⟨_,rfl,fun s' h=>(by cases h),(k:Int),by rw[hb,Bool.or_true]⟩
   ·rw[if_neg (by simp;omega)]
    exact ⟨_,rfl,fun s' h=>(by cases h),(k:Int),by rw[hb,Bool.or_true]⟩) (.inl ⟨rfl,fun q hq h=>by omega⟩) (gp (by omega))
 obtain ⟨k,rfl⟩:=hQ
 exact ⟨k,e⟩
theorem Ww {d:Int} (hd:1≤d∧d≤100000) {O:List Int} (hO:RI (a.2.1.length*g.1.length) (nxN g a) (· ∈ nA a (nth g.1 (y:Int)) (y:Int) a.2.1.length) O d) {b1:Bool} :
  ai (ig a (b1,d,rm (a.2.1.length*g.1.length) (stF g a),O)) aB (false,0,rm (a.2.1.length*g.1.length) (stF g a),O)=some (.brk ((List.range (a.2.1.length*g.1.length)).any (hbR g a d O),((a.2.1.length*g.1.length:Nat):Int),rm (a.2.1.length*g.1.length) (stF g a),lg (nxN g a) (a.2.1.length*g.1.length) d O (a.2.1.length*g.1.length))):=by
 obtain ⟨m1,m2,m3⟩:=Bo H hy
 have e0:lg (nxN g a) (a.2.1.length*g.1.length) d O 0=O:=by
  refine uA (by unfold lg;rw[dh,hO.len]) fun i hi=>?_
  have hi:i<a.2.1.length*g.1.length:=by unfold lg at hi;rwa [dh] at hi
  unfold lg
  rw[vm (by omega) (by omega),if_neg (by omega)];simp
 have:=ax (f:=ig a (b1,d,rm (a.2.1.length*g.1.length) (stF g a),O)) (fun i=>((List.range i).any (hbR g a d O),(i:Int),rm (a.2.1.length*g.1.length) (stF g a),lg (nxN g a) (a.2.1.length*g.1.length) d O i)) (a.2.1.length*g.1.length) (fun i hi=>by
  obtain ⟨k,e⟩:=Wv H hy hd hO hi (c:=(List.range i).any (hbR g a d O)) (b1:=b1) (b2:=(List.range i).any (hbR g a d O)) (R1:=rm (a.2.1.length*g.1.length) (stF g a)) (R2:=rm (a.2.1.length*g.1.length) (stF g a)) (O1:=O) (O2:=lg (nxN g a) (a.2.1.length*g.1.length) d O i)
  unfold ig
  simp only
  rw[if_pos (by unfold lg;rw[dh];simp;omega),ae e,aa (by omega),List.range_succ,List.any_append];simp) (by
  unfold ig
  simp only
  rw[if_neg (by unfold lg;rw[dh];simp)]) (gp (by omega))
 simp only[e0] at this
 exact this
theorem UR: ∃o,oH g a (y:Int)=some o∧Dst (a.2.1.length*g.1.length) (fun u t=>u∈nxN g a t) (· ∈ nA a (nth g.1 (y:Int)) (y:Int) a.2.1.length) o:=by
 obtain ⟨m1,m2,m3⟩:=Bo H hy
 have hpos:0<a.2.1.length:=H.2.2.pos
 have hn:=LN H
 have hR0:RI (a.2.1.length*g.1.length) (nxN g a) (· ∈ nA a (nth g.1 (y:Int)) (y:Int) a.2.1.length) (rm (a.2.1.length*g.1.length) (GQ g a y)) 1:=by
  have hv: ∀t:Int,0≤t→t<(a.2.1.length*g.1.length:Nat)→nth (rm (a.2.1.length*g.1.length) (GQ g a y)) t=GQ g a y t.toNat:=fun t t0 t1=>vm t0 t1
  refine ⟨by rw[dh],fun t t0 t1=>?_,fun t t0 t1=>?_,fun t t0 t1 h=>?_,fun u t u0 u1 t0 t1 h h2 h3=>by omega⟩
  ·rw[hv t t0 t1];unfold GQ;split <;> omega
  ·rw[hv t t0 t1,tK]
   unfold GQ
   constructor
   ·intro h
    split at h
    ·rename_i hc
     refine ⟨t.toNat % a.2.1.length,Nat.mod_lt _ hpos,by rw[←hc.1];exact hc.2,?_⟩
     have:=Nat.div_add_mod t.toNat a.2.1.length
     rw[hc.1] at this
     have h5:(y:Int)*(a.2.1.length:Int)=((a.2.1.length*y:Nat):Int):=by rw[Nat.mul_comm];simp
     rw[h5]
     omega
    ·omega
   ·rintro ⟨q,h1,h2,h3⟩
    have ht:t.toNat=y*a.2.1.length+q:=by rw[m1] at h3;omega
    have h4:t.toNat / a.2.1.length=y:=by
     rw[ht,Nat.mul_comm,Nat.mul_add_div hpos,Nat.div_eq_of_lt h1];omega
    have h5:t.toNat % a.2.1.length=q:=by
     rw[ht,Nat.mul_comm,Nat.mul_add_mod,Nat.mod_eq_of_lt h1]
    rw[if_pos ⟨h4,by rw[h4,h5];exact h2⟩]
  ·rw[hv t t0 t1] at h
   unfold GQ at h
   split at h <;> omega
 unfold oH
 rw[ae (Wt H hy),ae (Wu H hy)]
 obtain ⟨r,e,o,z,rfl,hD⟩:=bF (f:=nq a) (fun i s=> ∃c O,s=(c,((i+1:Nat):Int),rm (a.2.1.length*g.1.length) (stF g a),O)∧RI (a.2.1.length*g.1.length) (nxN g a) (· ∈ nA a (nth g.1 (y:Int)) (y:Int) a.2.1.length) O ((i+1:Nat):Int)∧(c=true→i≤cntN O)∧(c=false→Dst (a.2.1.length*g.1.length) (fun u t=>u∈nxN g a t) (· ∈ nA a (nth g.1 (y:Int)) (y:Int) a.2.1.length) O))
  (fun r=> ∃o z,r= .brk (false,z,rm (a.2.1.length*g.1.length) (stF g a),o)∧Dst (a.2.1.length*g.1.length) (fun u t=>u∈nxN g a t) (· ∈ nA a (nth g.1 (y:Int)) (y:Int) a.2.1.length) o) (a.2.1.length*g.1.length+1) (s:=(true,1,rm (a.2.1.length*g.1.length) (stF g a),rm (a.2.1.length*g.1.length) (GQ g a y))) (by
  rintro i s hle ⟨c,O,rfl,hI,hc,hf⟩
  unfold nq
  simp only
  cases c with
  | false =>
   right
   exact ⟨_,by rw[if_neg (by simp)],fun s' h=>(by cases h),O,_,rfl,hf rfl⟩
  | true =>
   left
   have h1:=hc rfl
   have h2:=Fa O
   rw[hI.len] at h2
   refine ⟨by omega,?_⟩
   rw[if_pos rfl,ae (Ww H hy (d:=((i+1:Nat):Int)) ⟨by omega,by omega⟩ hI),aa (by omega)]
   refine ⟨_,rfl,_,_,rfl,hI.step hn (by omega),fun h=>?_,fun h=>?_⟩
   ·rw[List.any_eq_true] at h
    obtain ⟨j,hj,h⟩:=h
    have hj:=List.mem_range.1 hj
    have h:=of_decide_eq_true h
    have:=Pm hn (by omega) hI (t:=(j:Int)) (by omega) (by omega) h
    exact Nat.lt_of_le_of_lt h1 this
   ·have hno: ∀t:Int,0≤t→t<(a.2.1.length*g.1.length:Nat)→ ¬(nth O t<0∧ ∃k∈nxN g a t,nth O k=((i+1:Nat):Int) - 1):=fun t t0 t1 hh=>by
     have:(List.range (a.2.1.length*g.1.length)).any (hbR g a ((i+1:Nat):Int) O)=true:=List.any_eq_true.2 ⟨t.toNat,List.mem_range.2 (by omega),decide_eq_true (by
      rw[show ((t.toNat:Nat):Int)=t by omega];exact hh)⟩
     rw[this] at h;cases h
    rw[LY hn (by omega) hI hno]
    exact hI.done hn (by omega) hno) ⟨true,_,rfl,hR0,fun _=>Nat.zero_le _,fun h=>by cases h⟩ (gp (by omega))
 rw[ae e]
 exact ⟨o,rfl,hD⟩
end
theorem L6 (g:GrT) (a:AutT) (hg:Data.sm g) (ha:Data.sm a): ∃vb:Bool,∀l:List Int,l.length≤1000→eM g a l=some (decide (∀x∈l,0≤x∧x<(g.1.length:Int))&&vb):=by
 obtain ⟨b,c,e1,e2,e3,e4,k1,k2⟩:=E7 g a hg ha
 have hl:=(aJ hg.1).1
 have ew:IntKind.i64.wrap ((g.1.length:Int) - 1)=(g.1.length:Int) - 1:=bZ (by omega) (by omega)
 refine ⟨b&&c,fun l hl=>?_⟩
 unfold eM
 have e2:ay (g.1,g.2)=_:=e2
 have e4:bg (a.1,a.2.1,a.2.2)=_:=e4
 rcases scan (f:=fc g l) l (fun x=>0≤x∧x<(g.1.length:Int)) false (by omega) (fun i hi=>by
  unfold fc
  rw[if_pos (by simp;omega),aj (by omega) (by omega)];simp only[Option.bind_some]
  rw[EU,ew,aa (by omega)];simp only[Option.bind_some]
  by_cases h:0≤nth l (i:Int)∧nth l (i:Int)<(g.1.length:Int)
  ·rw[if_pos (by simp;omega),if_pos h]
  ·rw[if_neg (by simp;omega),if_neg h]) (by unfold fc;simp) with ⟨k,h⟩ | ⟨k,h⟩
 ·rw[ae k,e2,e4,decide_eq_true h];simp only[Option.bind_some,Bool.true_and]
  cases b <;> cases c <;> rfl
 ·rw[aK k,decide_eq_false h,Bool.false_and]
theorem Bp {g:GrT} {a:AutT} (hg:Data.sm g) (ha:Data.sm a) (x y:Int): ∃r,fF g a x y=some r∧fI g a x y=some r:=by
 obtain ⟨vb,hvb⟩:=L6 g a hg ha
 obtain ⟨b1,s1,i1,k1⟩:=Db g a hg ha x
 obtain ⟨b2,s2,i2,k2⟩:=Db g a hg ha y
 have h1:=hvb [x] (by simp)
 have h2:=hvb [y] (by simp)
 have h3:=hvb [x,y] (by simp)
 rw[i1] at h1
 rw[i2] at h2
 have h3:eM g a [x,y] =some (b1&&b2):=by
  rw[h3,Option.some.inj h1,Option.some.inj h2]
  congr 1
  rw[Bool.eq_iff_iff]
  simp
  constructor
  ·rintro ⟨⟨h4,h5⟩,h6⟩;exact ⟨⟨h4,h6⟩,h5,h6⟩
  ·rintro ⟨⟨h4,h6⟩,h5,-⟩;exact ⟨⟨h4,h5⟩,h6⟩
 unfold fF fI
 simp only[eQ]
 rw[s1,s2,h3];simp only[Option.bind_some]
 cases b1 with
 | false=>exact ⟨-1,rfl,rfl⟩
 | true =>
  cases b2 with
  | false=>exact ⟨-1,rfl,rfl⟩
  | true =>
   obtain ⟨H,hx0,hx1⟩:=k1 rfl
   obtain ⟨-,hy0,hy1⟩:=k2 rfl
   obtain ⟨z,rfl⟩: ∃z:Nat,y=(z:Int):=⟨y.toNat,by omega⟩
   obtain ⟨o1,e1,D1⟩:=UR H (y:=z) (by omega)
   obtain ⟨o2,e2,D2⟩:=Pj H (y:=z) (by omega) i2
   obtain rfl:=D1.uniq D2
   simp only[Bool.and_true,if_true]
   rw[e1,e2];simp only[Option.bind_some]
   have hv:=Xg H (x:=x) ⟨hx0,hx1⟩
   rw[UK H (x:=x) ⟨hx0,hx1⟩,aj hv.1 (by rw[D1.len];exact hv.2)]
   exact ⟨_,rfl,rfl⟩
end D
end Go.Proofs.YtcmpdlhbliolaaaGreat
