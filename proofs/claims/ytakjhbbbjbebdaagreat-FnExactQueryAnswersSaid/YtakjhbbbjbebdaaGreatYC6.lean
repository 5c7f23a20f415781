/- FnExactQueryAnswers: for every input the law returns true and changes nothing that was there. Part 7 of 7. -/
import Derived.Test.YtakjhbbbjbebdaaGreatYC5
set_option linter.unusedVariables false
set_option linter.unusedSimpArgs false
set_option linter.unnecessarySimpa false
set_option linter.unusedSectionVars false
set_option maxRecDepth 1000000
namespace Go.Proofs.YtakjhbbbjbebdaaGreat
namespace D
open Go.RowKit
section
variable {a:AutT} {n:Nat} {c:List Int}
theorem FO (k:Nat) (s:Int):(List.range (k+1)).map (fun k=>ent a c s k)=(List.range k).map (fun k=>ent a c s k)++ [ent a c s k]:=by simp[List.range_succ]
theorem TP (V:VA a n) (hn:n≤1000000) (hc:c.length=n) {s:Nat} (hs:s<n):mO a c s=some (AT a c s):=by
 unfold mO
 rw[aj (by omega) (by omega)];simp only[Option.bind_some]
 have:=aA (f:=kO a c s) (fun k=>(nth c (s:Int)::(List.range k).map (fun k=>ent a c s k),(k:Int))) 9 (fun k hk=>by
  have hm:=V.mv (s:=s) (k:=k) (by omega) (by omega) hk
  unfold kO
  simp only
  rw[if_pos (by simp;omega),V.get (by omega) (by omega)];simp only[Option.bind_some]
  rw[V.get2 (by omega) (by omega) hk,FO];simp only[Option.bind_some,aa (show k<9223372036854775807 by omega)]
  by_cases h:mv a s k<0
  ·rw[if_pos (by simpa using h),aw (by simp;omega),show ent a c s k= -1 from by unfold ent;rw[if_pos h]];rfl
  ·rw[if_neg (by simpa using h),aj (by omega) (by omega)];simp only[Option.bind_some]
   rw[aw (by simp;omega),show ent a c s k=nth c (mv a s k) from by unfold ent;rw[if_neg h]];rfl) (by unfold kO;simp) (by unfold aD;omega)
 exact af this
theorem TQ (V:VA a n) (hn:n≤1000000) (hc:c.length=n) {s:Nat} (hs:s<n):ai (bR c (nth a.2.2 (s:Int))) aD (0,[nth c (s:Int)])=some (.brk (9,AT a c s)):=by
 have hr:=V.rowAt (s:=s) (by omega) (by omega)
 exact aA (f:=bR c (nth a.2.2 (s:Int))) (fun k=>((k:Int),nth c (s:Int)::(List.range k).map (fun k=>ent a c s k))) 9 (fun k hk=>by
  have hm:=V.mv (s:=s) (k:=k) (by omega) (by omega) hk
  unfold bR
  simp only
  rw[if_pos (by simp[hr];omega),V.get2 (by omega) (by omega) hk,FO];simp only[Option.bind_some,aa (show k<9223372036854775807 by omega)]
  by_cases h:mv a s k<0
  ·have e:mv a s k= -1:=by omega
   rw[if_neg (by simp;omega)];simp only[Option.bind_some]
   rw[aw (by simp;omega),show ent a c s k=mv a s k from by unfold ent;rw[if_pos h,e]];rfl
  ·rw[if_pos (by simp;omega),aj (by omega) (by omega)];simp only[Option.bind_some]
   rw[aw (by simp;omega),show ent a c s k=nth c (mv a s k) from by unfold ent;rw[if_neg h]];rfl) (by unfold bR;simp[hr]) (by unfold aD;omega)
theorem CJ {κ:Type} [DecidableEq κ] {l t r:List κ} {x:κ} (e:l=t++x::r) (hx:x∉t):nbI l (some x)=(t.length:Int):=by
 subst e
 simp only[nbI]
 rw[List.idxOf_append,if_neg hx,List.idxOf_cons_self,Nat.zero_add]
def Sj (l:List (List Int)) (x:List Int):Int:=if x∈l then nbI l (some x) else -1
theorem Sk {l:List (List Int)} {x cs:List Int} {q:Int} (hl:l.length≤1000000) (hd:l.Nodup) (hx: ∀y∈l,y.length≤1048576):ai (dS (l,cs,q) x) aD (-1,0)=some (.brk (Sj l x,(l.length:Int))):=by
 have:=aA (f:=dS (l,cs,q) x) (fun k=>(if x∈l.take k then nbI l (some x) else -1,(k:Int))) l.length (fun k hk=>by
  unfold dS
  simp only
  rw[if_pos (by simp;omega),aj (by omega) (by omega)];simp only[Option.bind_some,Int.toNat_natCast,aa (show k<9223372036854775807 by omega)]
  obtain ⟨r,e,hr⟩:=Er (nth l (k:Int)) x (hx _ (bg (by omega) (by omega)))
  rw[e,take_one hk];simp only[Option.bind_some,List.mem_append,List.mem_singleton]
  by_cases h:nth l (k:Int)=x
  ·have h0:r=0:=hr.2 h
   have hm:x∈l:=h ▸ bg (by omega) (by omega)
   obtain ⟨q,hq,e1,e2⟩:=mG hm
   have:q=k:=by
    have h1:l[q]? =some x:=by rw[List.getElem?_eq_getElem hq,e2]
    have h2:l[k]? =some x:=by rw[List.getElem?_eq_getElem hk,←bw hk,h]
    exact (List.getElem?_inj hq hd).1 (h1.trans h2.symm)
   subst this
   rw[if_pos (by simp[h0]),if_pos (.inr h.symm),e1];rfl
  ·have h0:r≠0:=fun e=>h (hr.1 e)
   have hn: ¬x=nth l (k:Int):=fun e=>h e.symm
   rw[if_neg (by simpa using h0)]
   simp[hn]) (by unfold dS;simp) (kp (by omega))
 rw[List.take_of_length_le (Nat.le_refl _)] at this
 exact this
theorem Sl {l:List (List Int)} {x:List Int} {f:List Int→Option Bool} (hl:l.length≤1000000) (hf: ∀y∈l,f y=some (decide (y=x))):bf l f=some (Sj l x):=by
 unfold bf
 obtain ⟨o,e,hq⟩:=cJ (f:=bz l f) (fun k s=>s=(k:Int)∧x∉l.take k) (fun o=>(x∈l∧o= .ret (nbI l (some x)))∨(x∉l∧ ∃s,o= .brk s)) l.length (s:=0) (by
  rintro k s hk ⟨rfl,hx⟩
  unfold bz
  by_cases hkl:k<l.length
  ·rw[if_pos (by simp;omega),aj (by omega) (by omega)];simp only[Option.bind_some]
   rw[hf _ (bg (by omega) (by omega))];simp only[Option.bind_some]
   by_cases h:nth l (k:Int)=x
   ·refine .inr ⟨_,by rw[if_pos (by simpa using h)],(fun s' e=>by cases e),.inl ?_⟩
    have hm:x∈l:=h ▸ bg (by omega) (by omega)
    refine ⟨hm,?_⟩
    have e:l=l.take k++(x::l.drop (k+1)):=by
     rw[←h,bw hkl,←List.drop_eq_getElem_cons hkl,List.take_append_drop]
    rw[CJ e hx,List.length_take,Nat.min_eq_left (by omega)]
   ·refine .inl ⟨hkl,_,by rw[if_neg (by simpa using h)],by rw[aa (by omega)],?_⟩
    rw[take_one hkl,List.mem_append,List.mem_singleton]
    rintro (h' | h')
    ·exact hx h'
    ·exact h h'.symm
  ·refine .inr ⟨_,by rw[if_neg (by simp;omega)],(fun s' e=>by cases e),.inr ⟨?_,_,rfl⟩⟩
   rwa [List.take_of_length_le (by omega)] at hx) ⟨rfl,by simp⟩ (kp (by omega))
 unfold Sj
 rcases hq with ⟨hx,rfl⟩ | ⟨hx,s,rfl⟩
 ·rw[bE e,if_pos hx]
 ·rw[af e,if_neg hx]
theorem xp {os:List (Option (List Int))} (h: ∀y,some y∈os→y.length=10): ∀y∈nbS [] os,y.length=10:=fun y hy=>by
 rcases tM.1 hy with hy | hy
 ·cases hy
 ·exact h y hy
theorem zk (a:AutT) (c:List Int): ∀y,some y∈keys a c→y.length=10:=by
 intro y hy
 obtain ⟨s,-,e⟩:=List.mem_map.1 hy
 unfold A5 at e
 split at e
 ·cases e
 ·rw[←Option.some.inj e];simp[AT]
section
variable (V:VA a n) (hn:n≤1000000) (hc:c.length=n)
include V hn hc
theorem FP (s:Nat):(nbS [] ((keys a c).take s)).length≤n:=by
 have:=nU ([] :List (List Int)) ((keys a c).take s)
 rw[List.length_take,cW,V.len] at this
 simp at this;omega
theorem Nr {m:Int} :ai (dU a (c,m)) aD ([],[],0)=some (.brk (nbS [] (keys a c),zi a c,(n:Int))):=by
 have hlen:=V.len
 have:=aA (f:=dU a (c,m)) (fun s=>(nbS [] ((keys a c).take s),nbR [] ((keys a c).take s),(s:Int))) n (fun s hs=>by
  have hkl:=FP V hn hc s
  have hrl:(nbR [] ((keys a c).take s)).length≤n:=by rw[dj,List.length_take,cW];omega
  unfold dU
  simp only
  rw[if_pos (by simp;omega),aj (by omega) (by omega)];simp only[Option.bind_some]
  rw[take_one (by rw[cW];omega),sE,qa,Es (by omega)]
  simp only[aa (show s<9223372036854775807 by omega)]
  by_cases h:nth c (s:Int)<0
  ·rw[if_pos (by simpa using h),aw (by simp;omega),show A5 a c s=none from by unfold A5;rw[if_pos h]];rfl
  ·rw[if_neg (by simpa using h),show A5 a c s=some (AT a c s) from by unfold A5;rw[if_neg h]]
   rw[show mO (a.1,a.2.1,a.2.2) c (s:Int)=some (AT a c s) from TP V hn hc hs];simp only[Option.bind_some]
   rw[af (Sk (by omega) (pv (by simp)) (fun y hy=>by rw[xp (fun y hy=>zk a c y (List.mem_of_mem_take hy)) y hy];decide))]
   simp only
   unfold Sj
   by_cases k:AT a c s∈nbS [] ((keys a c).take s)
   ·obtain ⟨q,hq,e1,e2⟩:=mG k
    rw[if_pos k,kE k,e1,if_neg (by simp)];simp only[Option.bind_some]
    rw[aw (by simp;omega)];rfl
   ·rw[if_neg k,jy k,AR k,if_pos (show decide ((-1:Int)<0)=true from rfl),aw (by simp;omega)];simp only[Option.bind_some]
    rw[aw (by simp;omega)];rfl) (by
  unfold dU
  simp only
  rw[if_neg (by simp;omega)]) (kp (by omega))
 rw[show (keys a c).take n=keys a c from List.take_of_length_le (by rw[cW];omega)] at this
 exact this
theorem Ns:cA a c=some (zi a c,(vp a c:Int)):=by
 have hlen:=V.len
 unfold cA
 have:=aA (f:=cD a c) (fun s=>(nbS [] ((keys a c).take s),nbR [] ((keys a c).take s),(s:Int))) n (fun s hs=>by
  have hkl:=FP V hn hc s
  have hrl:(nbR [] ((keys a c).take s)).length≤n:=by rw[dj,List.length_take,cW];omega
  unfold cD
  simp only
  rw[if_pos (by simp;omega),aj (by omega) (by omega)];simp only[Option.bind_some]
  rw[take_one (by rw[cW];omega),sE,qa,Es (by omega)]
  simp only[aa (show s<9223372036854775807 by omega)]
  by_cases h:nth c (s:Int)<0
  ·rw[if_pos (by simpa using h),aw (by simp;omega),show A5 a c s=none from by unfold A5;rw[if_pos h]];rfl
  ·rw[if_neg (by simpa using h),show A5 a c s=some (AT a c s) from by unfold A5;rw[if_neg h],V.get (by omega) (by omega)];simp only[Option.bind_some]
   rw[af (TQ V hn hc hs)];simp only
   rw[Sl (x:=AT a c s) (by omega) (fun y hy=>by
    unfold eS
    rw[CI _ _ (by rw[xp (fun y hy=>zk a c y (List.mem_of_mem_take hy)) y hy];decide)];rfl)];simp only[Option.bind_some]
   unfold Sj
   by_cases k:AT a c s∈nbS [] ((keys a c).take s)
   ·obtain ⟨q,hq,e1,e2⟩:=mG k
    rw[if_pos k,kE k,e1,if_neg (by simp)];simp only[Option.bind_some]
    rw[aw (by simp;omega)];rfl
   ·rw[if_neg k,jy k,AR k,if_pos (show decide ((-1:Int)<0)=true from rfl),aw (by simp;omega)];simp only[Option.bind_some]
    rw[aw (by simp;omega)];rfl) (by
  unfold cD
  simp only
  rw[if_neg (by simp;omega)]) (kp (by omega))
 rw[show (keys a c).take n=keys a c from List.take_of_length_le (by rw[cW];omega)] at this
 exact af this
end
end
section
variable {a:AutT} {n:Nat} (V:VA a n) (hn:n≤1000000)
include V hn
theorem CK (s:Nat):(List.range (s+1)).map (fun s:Nat=>if nth (live a) (s:Int)=true then (if nth a.2.1 (s:Int)=true then (1:Int) else 0) else -1)=(List.range s).map (fun s:Nat=>if nth (live a) (s:Int)=true then (if nth a.2.1 (s:Int)=true then 1 else 0) else -1)++ [if nth (live a) (s:Int)=true then (if nth a.2.1 (s:Int)=true then 1 else 0) else -1]:=by simp[List.range_succ]
theorem Sn:ai (dR a (live a)) aD ([],0)=some (.brk (HC a,(n:Int))):=by
 have hlen:=V.len
 have hll:(live a).length=n:=by rw[rr,hlen]
 have:=aA (f:=dR a (live a)) (fun s=>((List.range s).map (fun s:Nat=>if nth (live a) (s:Int)=true then (if nth a.2.1 (s:Int)=true then (1:Int) else 0) else -1),(s:Int))) n (fun s hs=>by
  unfold dR
  simp only
  rw[if_pos (by simp;omega),V.acc (by omega) (by omega)];simp only[Option.bind_some]
  rw[CK V hn,aj (xs:=live a) (by omega) (by omega)];simp only[aa (show s<9223372036854775807 by omega)]
  cases nth (live a) (s:Int) <;> cases nth a.2.1 (s:Int) <;> simp only[if_true,if_false,Bool.false_eq_true,Option.bind_some] <;> rw[aw (by simp;omega)] <;> rfl) (by
  unfold dR
  simp only
  rw[if_neg (by simp;omega)]) (kp (by omega))
 unfold HC
 rw[hlen]
 exact this
theorem So:ai (bJ a (live a)) aD ([],0)=some (.brk (HC a,(n:Int))):=by
 have hlen:=V.len
 have hll:(live a).length=n:=by rw[rr,hlen]
 have:=aA (f:=bJ a (live a)) (fun s=>((List.range s).map (fun s:Nat=>if nth (live a) (s:Int)=true then (if nth a.2.1 (s:Int)=true then (1:Int) else 0) else -1),(s:Int))) n (fun s hs=>by
  unfold bJ
  simp only
  rw[if_pos (by simp;omega),aj (xs:=live a) (by omega) (by omega)];simp only[Option.bind_some]
  rw[CK V hn,V.acc (by omega) (by omega)];simp only[aa (show s<9223372036854775807 by omega)]
  cases nth (live a) (s:Int) <;> cases nth a.2.1 (s:Int) <;> simp only[if_true,if_false,Bool.false_eq_true,Option.bind_some] <;> rw[aw (by simp;omega)] <;> rfl) (by
  unfold bJ
  simp only
  rw[if_neg (by simp;omega)]) (kp (by omega))
 unfold HC
 rw[hlen]
 exact this
theorem Ku: ∃J,cI a (J+1)=cI a J∧gj a=some (cI a J):=by
 have hlen:=V.len
 unfold gj
 rw[show jl (a.1,a.2.1,a.2.2)=some (live a) from Ox V hn];simp only[Option.bind_some]
 rw[af (Sn V hn)]
 obtain ⟨J0,hJ0,hfix⟩:=QC a
 obtain ⟨o,e,j,rfl,hj⟩:=cJ (f:=jm a) (fun j s=>s=(cI a j,(j:Int))∧j≤J0) (fun o=> ∃j,o= .ret (cI a j)∧cI a (j+1)=cI a j) (J0+1) (s:=(cI a 0,0)) (by
  rintro j s hj ⟨rfl,hjJ⟩
  have hcl:(cI a j).length=n:=by rw[lT,hlen]
  unfold jm
  simp only
  rw[if_pos (by simp;omega),af (Nr V hn hcl)]
  simp only
  obtain ⟨r,er,hr⟩:=Er (zi a (cI a j)) (cI a j) (by rw[xn];omega)
  rw[er];simp only[Option.bind_some,aa (show j<9223372036854775807 by omega)]
  by_cases h:zi a (cI a j)=cI a j
  ·exact .inr ⟨_,by rw[if_pos (by simpa using hr.2 h)],(fun s' e=>by cases e),j,rfl,h⟩
  ·refine .inl ⟨by omega,(cI a (j+1),((j+1:Nat):Int)),by rw[if_neg (by simpa using fun e=>h (hr.1 e))];rfl,rfl,?_⟩
   by_cases e:j=J0
   ·subst e;exact absurd hfix h
   ·omega) ⟨rfl,Nat.zero_le _⟩ (kp (by omega))
 exact ⟨j,hj,bE e⟩
theorem Kv: ∃J,cI a (J+1)=cI a J∧cx a=some (cI a J):=by
 have hlen:=V.len
 unfold cx
 rw[show dq (a.1,a.2.1,a.2.2)=some (live a) from Sa V hn];simp only[Option.bind_some]
 rw[af (So V hn)]
 let kk:Nat→Int:=fun j=>match j with | 0=> -1 | i+1=>(vp a (cI a i):Int)
 obtain ⟨o,e,j,rfl,hj⟩:=cJ (f:=dX a) (fun j s=>s=(cI a j,kk j)∧(j:Int)≤kk j+1) (fun o=> ∃j,o= .ret (cI a j)∧cI a (j+1)=cI a j) (n+2) (s:=(cI a 0,-1)) (by
  rintro j s hj ⟨rfl,hjk⟩
  have hcl:(cI a j).length=n:=by rw[lT,hlen]
  have hle:=Et a (cI a j)
  unfold dX
  simp only
  rw[show cA (a.1,a.2.1,a.2.2) (cI a j)=some (zi a (cI a j),(vp a (cI a j):Int)) from Ns V hn hcl];simp only[Option.bind_some]
  cases j with
  | zero =>
   refine .inl ⟨by omega,(cI a 1,kk 1),by rw[if_neg (by show¬((vp a (cI a 0):Int) == -1)=true;simp)];rfl,rfl,?_⟩
   show (1:Int)≤(vp a (cI a 0):Int)+1
   omega
  | succ i =>
   obtain ⟨g1,g2⟩:=Ks a i
   have hki:kk (i+1)=(vp a (cI a i):Int):=rfl
   rw[hki] at hjk⊢
   by_cases h:vp a (cI a (i+1))=vp a (cI a i)
   ·refine .inr ⟨.ret (cI a (i+2)),by rw[if_pos (by simp[h])];rfl,(fun s' e=>by cases e),i+2,rfl,?_⟩
    have:=g2 h
    show zi a (cI a (i+2))=cI a (i+2)
    rw[this];exact this
   ·refine .inl ⟨?_,(cI a (i+2),kk (i+2)),by rw[if_neg (by simp;omega)];rfl,rfl,?_⟩
    ·omega
    ·show ((i+1+1:Nat):Int)≤(vp a (cI a (i+1)):Int)+1
     omega) ⟨rfl,by show ((0:Nat):Int)≤ -1+1;omega⟩ (kp (by omega))
 exact ⟨j,hj,bE e⟩
theorem Hj: ∃c,gj a=some c∧cx a=some c∧c.length=n∧zi a c=c∧ ∃j,c=cI a j:=by
 obtain ⟨J,hJ,es⟩:=Ku V hn
 obtain ⟨J',hJ',ei⟩:=Kv V hn
 have:=Kt hJ hJ'
 exact ⟨cI a J,es,by rw[this];exact ei,by rw[lT,V.len],hJ,J,rfl⟩
end
end D
namespace D
open Go.RowKit
theorem Hk (n:Nat) (l:List Int) (hd:l.Nodup) (h: ∀x∈l,0≤x∧x<n):l.length≤n:=by
 have:=hd.length_le_of_subset (l₂:=(List.range n).map Int.ofNat) (fun x hx=>by
  obtain ⟨h0,h1⟩:=h x hx
  exact List.mem_map.2 ⟨x.toNat,List.mem_range.2 (by omega),by show ((x.toNat:Nat):Int)=x;omega⟩)
 simpa using this
theorem Sp {n:Nat} {x:Int} (hn:n≤1000000) (h0:0≤x) (h1:x<n):iOk x=true:=by
 have:=Km (n:=x.toNat) (by omega)
 rwa [show ((x.toNat:Nat):Int)=x from by omega] at this
theorem Sq {κ:Type} [DecidableEq κ] {nx:κ→List (Option κ)} {first:κ} {G:κ→Prop} {B N:Nat} {acc:κ→Bool} (H:NumOk nx first G B) (hB:B≤1000000) (hN:bfE nx first N):Data.sm ((0,(bfS nx first N).map acc,bfR nx first N):AutT):=by
 have hl:=H.bound _ (ng (nx:=nx) (first:=first) N) (jX H.g0 H.gn N)
 refine ⟨trivial,⟨by rw[List.length_map];omega,fun _ _=>trivial⟩,?_,?_⟩
 ·rw[ij hN.2];have:=hN.1;omega
 ·have key: ∀i,i≤N→ ∀r∈bfR nx first i,r.length=9:=by
   intro i
   induction i with
   | zero=>intro _ r hr;cases hr
   | succ i ih =>
    intro hi r hr
    have hlt:=hN.2 i (by omega)
    rw[sF hlt] at hr
    rcases List.mem_append.1 hr with hr | hr
    ·exact ih (by omega) r hr
    ·obtain rfl:=List.mem_singleton.1 hr
     rw[dj,H.len _ (jX H.g0 H.gn i _ (List.getElem_mem hlt))]
  intro r hr
  exact ⟨by rw[key N (Nat.le_refl _) r hr];decide,fun _ _=>trivial⟩
theorem Hl:Data.sm nothing:=⟨trivial,⟨by decide,fun _ _=>trivial⟩,by decide,fun r hr=>by
 obtain rfl:=List.mem_singleton.1 hr
 exact ⟨by decide,fun _ _=>trivial⟩⟩
end D
namespace D
open Go.RowKit
theorem QD {l:List Int} {x:Int} (hl:l.length≤1000000) (hx:x∈l):aJ x l=some (nbI l (some x)):=by
 unfold aJ da
 obtain ⟨o,e,hq⟩:=cJ (f:=cy l x) (fun k s=>s=(k:Int)∧x∉l.take k) (fun o=>o= .ret (nbI l (some x))) l.length (s:=0) (by
  rintro k s hk ⟨rfl,hx'⟩
  unfold cy
  by_cases hkl:k<l.length
  ·rw[if_pos (by simp;omega),aj (by omega) (by omega)];simp only[Option.bind_some]
   by_cases h:nth l (k:Int)=x
   ·refine .inr ⟨_,by rw[if_pos (by simp[h])],(fun s' e=>by cases e),?_⟩
    have e:l=l.take k++(x::l.drop (k+1)):=by
     rw[←h,bw hkl,←List.drop_eq_getElem_cons hkl,List.take_append_drop]
    rw[CJ e hx',List.length_take,Nat.min_eq_left (by omega)]
   ·have h': ¬x=nth l (k:Int):=fun e=>h e.symm
    refine .inl ⟨hkl,_,by rw[if_neg (by simpa using h')],by rw[aa (by omega)],?_⟩
    rw[take_one hkl,List.mem_append,List.mem_singleton]
    rintro (h' | h')
    ·exact hx' h'
    ·exact h h'.symm
  ·rw[List.take_of_length_le (by omega)] at hx'
   exact absurd hx hx') ⟨rfl,by simp⟩ (kp (by omega))
 subst hq
 rw[bE e];rfl
section
variable {a:AutT} {n:Nat}
def rep (c:List Int) (x:Int):Int:=nbI c (some x)
theorem Kw {c:List Int} {x:Int} (h:x∈c):0≤rep c x∧rep c x<c.length∧nth c (rep c x)=x:=by
 obtain ⟨q,hq,e1,e2⟩:=mG h
 unfold rep
 rw[e1]
 exact ⟨by omega,by omega,by rw[bw hq,e2]⟩
theorem Nt (V:VA a n) (hn:n≤1000000): ∃r,iG a=some r∧c7 a=some r∧Data.sm r:=by
 have hlen:=V.len
 have hst:=V.start
 have hll:(live a).length=n:=by rw[rr,hlen]
 obtain ⟨c,es,ei,hcl,hfix,j,hj⟩:=Hj V hn
 have hneg: ∀s:Int,0≤s→s<n→(nth c s<0↔nth (live a) s=false):=fun s h0 h1=>by
  have:=(zj a (s:=s.toNat) (by omega) j).1
  rw[←hj,show ((s.toNat:Nat):Int)=s from by omega] at this
  exact this
 have hlt: ∀s:Int,0≤s→s<n→nth c s<n:=fun s h0 h1=>by
  have:=QA (c:=c) (a:=a) (s:=s.toNat) (by omega)
  rw[hfix,hlen,show ((s.toNat:Nat):Int)=s from by omega] at this
  exact this
 have hpos: ∀r,good n (live a) r→0≤nth c r:=fun r hr=>by
  have:=hneg r hr.1 hr.2.1
  by_cases k:nth c r<0
  ·have:=this.1 k;rw[hr.2.2] at this;cases this
  ·omega
 have hkey: ∀r t:Int,0≤r→r<n→0≤t→t<n→0≤nth c r→nth c r=nth c t→AT a c r=AT a c t:=fun r t r0 r1 t0 t1 h0 h=>by
  have:=Kr (a:=a) (c:=c) (s:=r.toNat) (t:=t.toNat) (by omega) (by omega) (by rw[hfix,show ((r.toNat:Nat):Int)=r from by omega];exact h0) (by rw[hfix,show ((r.toNat:Nat):Int)=r from by omega,show ((t.toNat:Nat):Int)=t from by omega];exact h)
  rwa [show ((r.toNat:Nat):Int)=r from by omega,show ((t.toNat:Nat):Int)=t from by omega] at this
 have hacc: ∀r t:Int,0≤r→r<n→0≤t→t<n→0≤nth c r→nth c r=nth c t→nth a.2.1 r=nth a.2.1 t:=fun r t r0 r1 t0 t1 h0 h=>by
  have:=OD a (s:=r.toNat) (t:=t.toNat) (by omega) (by omega) j (by rw[←hj,show ((r.toNat:Nat):Int)=r from by omega];exact h0) (by rw[←hj,show ((r.toNat:Nat):Int)=r from by omega,show ((t.toNat:Nat):Int)=t from by omega];exact h)
  rwa [show ((r.toNat:Nat):Int)=r from by omega,show ((t.toNat:Nat):Int)=t from by omega] at this
 have hsuccs: ∀r,good n (live a) r→tS a c (live a) r=(List.range 9).map fun k=>if 0≤ent a c r k then some (ent a c r k) else none:=fun r hr=>by
  refine List.map_congr_left fun k hk=>?_
  have hk:k<9:=List.mem_range.1 hk
  have hm:=V.mv hr.1 hr.2.1 hk
  unfold ent
  by_cases h:mv a r k<0
  ·rw[if_pos h,if_neg (fun h'=>by omega),if_neg (by omega)]
  ·rw[if_neg h]
   have:=hneg (mv a r k) (by omega) hm.2
   cases hl:nth (live a) (mv a r k) with
   | false =>
    have:=this.2 hl
    rw[if_neg (fun h'=>by cases h'.2),if_neg (by omega)]
   | true =>
    have: ¬nth c (mv a r k)<0:=fun h'=>by have:=this.1 h';rw[hl] at this;cases this
    rw[if_pos ⟨by omega,rfl⟩,if_pos (by omega)]
 have hent: ∀r t:Int,AT a c r=AT a c t→ ∀k,k<9→ent a c r k=ent a c t k:=fun r t h k hk=>by
  have h:(List.range 9).map (fun k=>ent a c r k)=(List.range 9).map (fun k=>ent a c t k):=by unfold AT at h;injection h
  have:=congrArg (fun l:List Int=>l[k]?) h
  simpa [hk] using this
 let nx:Int→List (Option Int):=fun x=>tS a c (live a) (rep c x)
 let acc:Int→Bool:=fun x=>nth a.2.1 (rep c x)
 let G:Int→Prop:=fun x=> ∃r,good n (live a) r∧nth c r=x
 have Gm: ∀x,G x→x∈c∧0≤x∧good n (live a) (rep c x):=by
  rintro x ⟨r,hr,rfl⟩
  have hm:nth c r∈c:=bg hr.1 (by rw[hcl];exact hr.2.1)
  obtain ⟨h0,h1,h2⟩:=Kw hm
  have hp:=hpos r hr
  refine ⟨hm,hp,h0,by omega,?_⟩
  have:=hneg (rep c (nth c r)) h0 (by omega)
  rw[h2] at this
  cases hl:nth (live a) (rep c (nth c r)) with
  | true=>rfl
  | false=>have:=this.2 hl;omega
 have hnx: ∀r,good n (live a) r→nx (nth c r)=tS a c (live a) r:=fun r hr=>by
  obtain ⟨hm,hp,hg⟩:=Gm _ ⟨r,hr,rfl⟩
  obtain ⟨h0,h1,h2⟩:=Kw hm
  show tS a c (live a) (rep c (nth c r))=_
  rw[hsuccs _ hg,hsuccs _ hr]
  refine List.map_congr_left fun k hk=>?_
  rw[hent _ _ (hkey _ _ hg.1 hg.2.1 hr.1 hr.2.1 (by rw[h2];exact hp) h2) k (List.mem_range.1 hk)]
 have hac: ∀r,good n (live a) r→acc (nth c r)=nth a.2.1 r:=fun r hr=>by
  obtain ⟨hm,hp,hg⟩:=Gm _ ⟨r,hr,rfl⟩
  obtain ⟨h0,h1,h2⟩:=Kw hm
  exact hacc _ _ hg.1 hg.2.1 hr.1 hr.2.1 (by rw[h2];exact hp) h2
 have hgn: ∀r,good n (live a) r→ ∀y,some y∈tS a c (live a) r→G y:=fun r hr y h=>by
  obtain ⟨k,hk,e⟩:=List.mem_map.1 h
  have hk:k<9:=List.mem_range.1 hk
  split at e
  ·rename_i hc
   exact ⟨mv a r k,⟨hc.1,(V.mv hr.1 hr.2.1 hk).2,hc.2⟩,Option.some.inj e⟩
  ·cases e
 unfold iG c7
 simp only[fb]
 rw[es,ei,Ox V hn];simp only[Option.bind_some]
 rw[aj hst.1 (by omega)];simp only[Option.bind_some]
 cases hs:nth (live a) a.1 with
 | false =>
  have:=(hneg a.1 hst.1 hst.2).2 hs
  rw[En V hll hs,if_pos (by simpa using this),Kl]
  exact ⟨nothing,rfl,rfl,Hl⟩
 | true =>
  have hst':good n (live a) a.1:=⟨hst.1,hst.2,hs⟩
  have hp:=hpos _ hst'
  have H:NumOk nx (nth c a.1) G n:=⟨⟨a.1,hst',rfl⟩,fun x hx y hy=>hgn _ (Gm x hx).2.2 y hy,fun x hx=>by simp[nx,tS],fun l hd h=>Hk n l hd fun x hx=>by
   obtain ⟨r,hr,rfl⟩:=h x hx
   exact ⟨hpos r hr,hlt r hr.1 hr.2.1⟩⟩
  obtain ⟨N,hN,e1⟩:=Sc (acc:=acc) V hn hcl hll hs H hn hnx hac
  have hfirst: ∀x,G x→aJ x c=some (rep c x):=fun x hx=>QD (by omega) (Gm x hx).1
  obtain ⟨N',hN',e2⟩:=Sb (most:=(c.length:Int)) (p2:=fun a0=>bK a0 (a.1,a.2.1,a.2.2) (fun a0=>aJ a0 c)) (p3:=fun a0 a1=>bL a0 a1 (a.1,a.2.1,a.2.2) (fun a0=>aJ a0 c) c) (acc:=acc) H hn (by omega) (fun x hx=>Sp hn (Gm x hx).2.1 (by
    obtain ⟨r,hr,rfl⟩:=hx
    exact hlt r hr.1 hr.2.1)) (fun x hx=>by
   show bK x (a.1,a.2.1,a.2.2) (fun a0=>aJ a0 c)=_
   unfold bK
   simp only
   rw[hfirst x hx];simp only[Option.bind_some]
   rw[V.acc (Gm x hx).2.2.1 (Gm x hx).2.2.2.1];rfl) (fun x k hx hk=>by
   obtain ⟨hm,hx0,hg⟩:=Gm x hx
   have hm':=V.mv hg.1 hg.2.1 hk
   refine ⟨0,?_⟩
   show bL x k (a.1,a.2.1,a.2.2) (fun a0=>aJ a0 c) c=_
   unfold bL
   simp only
   rw[hfirst x hx];simp only[Option.bind_some]
   rw[show aW (a.1,a.2.1,a.2.2) (rep c x) k=some (mv a (rep c x) k) from CD V hg.1 hg.2.1 hk];simp only[Option.bind_some]
   show _=some (match nth (tS a c (live a) (rep c x)) (k:Int) with | some y=>(y,true) | none=>(0,false))
   rw[FL hk]
   by_cases h:mv a (rep c x) k<0
   ·rw[if_pos (by simpa using h),if_neg (fun h'=>by omega)]
   ·rw[if_neg (by simpa using h),aj (by omega) (by omega)];simp only[Option.bind_some]
    have hng:=hneg (mv a (rep c x) k) (by omega) hm'.2
    cases hl:nth (live a) (mv a (rep c x) k) with
    | false =>
     have:=hng.2 hl
     rw[if_pos (by simpa using this),if_neg (fun h'=>by cases h'.2)]
    | true =>
     have: ¬nth c (mv a (rep c x) k)<0:=fun h'=>by have:=hng.1 h';rw[hl] at this;cases this
     rw[if_neg (by simpa using this),if_pos ⟨by omega,rfl⟩])
  obtain rfl:=MW hN hN'
  refine ⟨_,by rw[e1];rfl,?_,Sq H hn hN⟩
  rw[if_neg (by simp;omega)]
  exact (congrArg (fun x=>Option.bind x _) e2).trans rfl
end
end D
namespace D
open Go.RowKit
section
variable {κ:Type} [DecidableEq κ] [Inhabited κ] {nx:κ→List (Option κ)} {first:κ} {G:κ→Prop} {B N:Nat} {acc:κ→Bool}
theorem xq: ∀(l:List κ) (os:List (Option κ)),∀t∈nbR l os,-1≤t∧t<((nbS l os).length:Int)
 | l,[] =>fun t ht=>by cases ht
 | l,o::os=>fun t ht=>by
  have hp:=jx (nbL l o) os
  have hl:=hp.length_le
  rcases List.mem_cons.1 ht with rfl | ht
  ·show -1≤nbI l o∧nbI l o<((nbS (nbL l o) os).length:Int)
   cases o with
   | none=>exact ⟨by simp[nbI],by simp only[nbI];omega⟩
   | some y =>
    by_cases c:y∈l
    ·obtain ⟨q,hq,e,-⟩:=mG c
     rw[kE c] at hl
     rw[e];exact ⟨by omega,by rw[kE c];omega⟩
    ·rw[jy c] at hl
     rw[AR c];rw[List.length_append] at hl
     exact ⟨by omega,by rw[jy c];simp at hl;omega⟩
  ·exact xq (nbL l o) os t ht
theorem UE (H:NumOk nx first G B) (hN:bfE nx first N):VA ((0,(bfS nx first N).map acc,bfR nx first N):AutT) N:=by
 have h0:0<N:=by
  have:=CB (nx:=nx) (first:=first) N
  have:=(List.getElem?_eq_some_iff.1 this).1
  have:=hN.1;omega
 have key: ∀i,i≤N→ ∀r∈bfR nx first i,r.length=9∧ ∀t∈r,-1≤t∧t<(N:Int):=by
  intro i
  induction i with
  | zero=>intro _ r hr;cases hr
  | succ i ih =>
   intro hi r hr
   have hlt:=hN.2 i (by omega)
   rw[sF hlt] at hr
   rcases List.mem_append.1 hr with hr | hr
   ·exact ih (by omega) r hr
   ·obtain rfl:=List.mem_singleton.1 hr
    refine ⟨by rw[dj,H.len _ (jX H.g0 H.gn i _ (List.getElem_mem hlt))],fun t ht=>?_⟩
    have:=xq _ _ t ht
    rw[←AB hlt] at this
    have hl:=(tN (nx:=nx) (first:=first) hi).length_le
    have:=hN.1
    omega
 exact ⟨by show ((bfS nx first N).map acc).length=N;rw[List.length_map];exact hN.1.symm,⟨Int.le_refl _,by show (0:Int)<N;omega⟩,ij hN.2,fun r hr=>(key N (Nat.le_refl _) r hr).1,fun r hr=>(key N (Nat.le_refl _) r hr).2⟩
theorem QE (hlen: ∀x,(nx x).length=9) (hN:bfE nx first N):VA ((0,(bfS nx first N).map acc,bfR nx first N):AutT) N:=by
 have h0:0<N:=by
  have:=CB (nx:=nx) (first:=first) N
  have:=(List.getElem?_eq_some_iff.1 this).1
  have:=hN.1;omega
 have key: ∀i,i≤N→ ∀r∈bfR nx first i,r.length=9∧ ∀t∈r,-1≤t∧t<(N:Int):=by
  intro i
  induction i with
  | zero=>intro _ r hr;cases hr
  | succ i ih =>
   intro hi r hr
   have hlt:=hN.2 i (by omega)
   rw[sF hlt] at hr
   rcases List.mem_append.1 hr with hr | hr
   ·exact ih (by omega) r hr
   ·obtain rfl:=List.mem_singleton.1 hr
    refine ⟨by rw[dj,hlen _],fun t ht=>?_⟩
    have:=xq _ _ t ht
    rw[←AB hlt] at this
    have hl:=(tN (nx:=nx) (first:=first) hi).length_le
    have:=hN.1
    omega
 exact ⟨by show ((bfS nx first N).map acc).length=N;rw[List.length_map];exact hN.1.symm,⟨Int.le_refl _,by show (0:Int)<N;omega⟩,ij hN.2,fun r hr=>(key N (Nat.le_refl _) r hr).1,fun r hr=>(key N (Nat.le_refl _) r hr).2⟩
end
end D
namespace D
open Go.RowKit
theorem sM:Data.sm ((0,[],[]):AutT):=⟨trivial,⟨by decide,fun _ h=>by cases h⟩,by decide,fun _ h=>by cases h⟩
theorem Kx {κ:Type} [DecidableEq κ] {nx:κ→List (Option κ)} {first:κ} {acc:κ→Bool} {most:Nat} : ∀(f i:Nat),(∀j,j<i→j<(bfS nx first j).length)→(bfS nx first i).length≤most→goM nx first acc most f i=((0,[],[]),false)∨ ∃N,bfE nx first N∧N≤most∧goM nx first acc most f i=((0,(bfS nx first N).map acc,bfR nx first N),true)
 | 0,i,_,_=>.inl rfl
 | f+1,i,h,hl=>by
  have hle:=AQ h
  rw[goM]
  by_cases c:i<(bfS nx first i).length
  ·rw[if_pos c]
   by_cases d:(bfS nx first (i+1)).length>most
   ·rw[if_pos d];exact .inl rfl
   ·rw[if_neg d]
    exact Kx f (i+1) (fun j hj=>by
     by_cases e:j=i
     ·subst e;exact c
     ·exact h j (by omega)) (by omega)
  ·rw[if_neg c]
   exact .inr ⟨i,⟨by omega,h⟩,by omega,by rw[List.take_of_length_le (by omega)]⟩
theorem CL {e:List Tok} (he:e.length≤1048576): ∃r:AutT×Bool,fm e=some r∧fB e=some r∧Data.sm r.1:=by
 obtain ⟨⟨p,b⟩,e1,e2,h1,h2⟩:=ru he
 have h1:p.2.2.2.1.length=p.1.length:=h1
 have h2:p.1.length≤100000:=h2
 unfold fm fB
 rw[e1,e2];simp only[Option.bind_some,fb]
 cases b with
 | false=>exact ⟨((0,[],[]),false),rfl,rfl,sM⟩
 | true =>
  have d1:=TM (p:=p) (most:=200) h1 (by omega) (by omega) (by omega)
  have d2:=TL (p:=p) (most:=200) h1 (by omega) (by omega) (by omega)
  have d1:gg p 200=_:=d1
  have d2:fy p 200=_:=d2
  rw[d1,d2];simp only[if_true,Option.bind_some]
  rcases Kx (nx:=nxS p) (first:=1) (acc:=sL p) (most:=200) (200+2) 0 (fun j hj=>by omega) (by simp[bfS]) with e | ⟨N,hN,hNm,e⟩
  ·rw[e]
   exact ⟨((0,[],[]),false),rfl,rfl,sM⟩
  ·rw[e];simp only[if_true]
   have V:=QE (acc:=sL p) (AP p) hN
   obtain ⟨r,es,ei,hr⟩:=Nt V (by omega)
   unfold wz
   rw[es];simp only[Option.bind_some,fb]
   rw[ei];simp only[Option.bind_some,fb]
   by_cases c:(r.2.1.length:Int)>12
   ·have c':decide ((r.2.1.length:Int)>12)=true:=decide_eq_true c
    simp only[c',if_true,Option.bind_some]
    exact ⟨((0,[],[]),false),rfl,rfl,sM⟩
   ·have c':decide ((r.2.1.length:Int)>12)=false:=decide_eq_false c
    simp only[c',Bool.false_eq_true,if_false,Option.bind_some]
    exact ⟨(r,true),rfl,rfl,hr⟩
theorem Eu {e:List Tok} (he:e.length≤1048576): ∃r:AutT×Bool,fm e=some r∧fB e=some r∧Data.sm r.1:=CL he
end D
set_option synthInstance.maxSize 20000
set_option synthInstance.maxHeartbeats 2000000
namespace D
open Go.RowKit
theorem xr (x y:AutT) (hx:Data.sm x):dV x y=some (decide (x=y)):=by
 obtain ⟨-,⟨ha,-⟩,hn,hr⟩:=hx
 unfold dV
 by_cases c1:x.1=y.1
 case neg=>rw[if_pos (by simpa using c1)];simp[Prod.ext_iff,c1]
 rw[if_neg (by simpa using c1)]
 by_cases c2:x.2.1.length=y.2.1.length
 case neg=>rw[if_pos (by simp;omega)];simp[Prod.ext_iff];exact fun _ e=>absurd (by rw[e]) c2
 rw[if_neg (by simp;omega)]
 by_cases c3:x.2.2.length=y.2.2.length
 case neg=>rw[if_pos (by simp;omega)];simp[Prod.ext_iff];exact fun _ _ e=>absurd (by rw[e]) c3
 rw[if_neg (by simp;omega)]
 rw[eqB (f:=dI x y) x.2.1 y.2.1 (by omega) c2 (fun i h h'=>by
  simp only[dI,bS h,if_true,aq h,aq h',Option.bind_some,aa (show i<9223372036854775807 by omega)]
  by_cases c:x.2.1[i] =y.2.1[i] <;> simp[c]) (by simp only[dI,bm];rfl)]
 by_cases c4:x.2.1=y.2.1
 case neg=>rw[if_neg c4];simp[Prod.ext_iff,c4]
 rw[if_pos c4]
 rw[eqB (f:=dJ x y) x.2.2 y.2.2 (by omega) c3 (fun i h h'=>by
  obtain ⟨r,e,hr'⟩:=Er x.2.2[i] y.2.2[i] ((hr _ (List.getElem_mem h)).1)
  simp only[dJ,bS h,if_true,aq h,aq h',Option.bind_some,aa (show i<9223372036854775807 by omega),e]
  by_cases c:x.2.2[i] =y.2.2[i]
  ·rw[if_neg (by simpa using hr'.2 c),if_pos c]
  ·rw[if_pos (by simpa using fun e=>c (hr'.1 e)),if_neg c]) (by simp only[dJ,bm];rfl)]
 by_cases c5:x.2.2=y.2.2
 ·rw[if_pos c5];simp[Prod.ext_iff,c1,c4,c5]
 ·rw[if_neg c5];simp[Prod.ext_iff,c5]
theorem Nu (xs ys:List Bool) (hN:xs.length≤9223372036854775807):cE xs ys=some (decide (xs=ys)):=
 eqL (f:=bs xs ys) xs ys hN (fun i h h'=>by
  simp only[bs,bS h,if_true,aq h,aq h',Option.bind_some,aa (show i<9223372036854775807 by omega)]
  by_cases c:xs[i] =ys[i] <;> simp[c]) (by simp only[bs,bm];rfl)
theorem xt (x y:AutT) (hx:Data.sm x):cK x y=some (decide (x=y)):=by
 obtain ⟨-,⟨ha,-⟩,hn,hr⟩:=hx
 unfold cK
 by_cases c1:x.1=y.1
 case neg=>rw[if_neg (by simpa using c1)];simp[Prod.ext_iff,c1]
 rw[if_pos (by simpa using c1),Nu _ _ (by omega)];simp only[Option.bind_some]
 by_cases c2:x.2.1=y.2.1
 case neg=>rw[if_neg (by simpa using c2)];simp[Prod.ext_iff,c2]
 rw[if_pos (by simpa using c2)]
 have:aX x.2.2 y.2.2 (fun a0 a1=>eC a0 a1)=some (decide (x.2.2=y.2.2)):=
  eqL (f:=aG x.2.2 y.2.2 _) x.2.2 y.2.2 (by omega) (fun i h h'=>by
   simp only[aG,bS h,if_true,aq h,aq h',Option.bind_some,aa (show i<9223372036854775807 by omega),eC]
   rw[CI _ _ (by have:x.2.2[i].length≤1048576:=(hr _ (List.getElem_mem h)).1;omega)];simp only[Option.bind_some]
   by_cases c:x.2.2[i] =y.2.2[i] <;> simp[c]) (by simp only[aG,bm];rfl)
 rw[this]
 by_cases c3:x.2.2=y.2.2 <;> simp[Prod.ext_iff,c1,c2,c3]
abbrev QT:=Int×List Tok×Int
abbrev Ky:=List AutT×List QT
theorem Nv (x y:List Tok) (hx:x.length≤1048576):jJ x y=some (decide (x=y)):=by
 unfold jJ
 exact eqL (f:=fN x y) x y (by omega) (fun i h h'=>by
  simp only[fN,bS h,if_true,aq h,aq h',Option.bind_some,fb,aa (show i<9223372036854775807 by omega)]
  refine e7 ?_;simp only[Bool.and_true,Bool.and_eq_true,beq_iff_eq];exact UB) (by simp only[fN,bm];rfl)
theorem Kz (x y:List Tok) (hx:x.length≤1048576):bB x y=some (decide (x=y)):=by
 unfold bB
 exact eqL (f:=bj x y) x y (by omega) (fun i h h'=>by
  simp only[bj,bS h,if_true,aq h,aq h',Option.bind_some,fb,aa (show i<9223372036854775807 by omega)]
  refine e7 ?_;simp only[Bool.and_true,Bool.and_eq_true,beq_iff_eq];exact UB) (by simp only[bj,bm];rfl)
theorem Nw (x y:List Tok) (hx:x.length≤1048576):jP x y=some (decide (x=y)):=by
 unfold jP
 rw[Kz x y hx];rfl
theorem AW (x y:Ky) (hx:Data.sm x):ep x y=some (decide (x=y)):=by
 obtain ⟨⟨ha,hA⟩,hq,hQ⟩:=hx
 unfold ep
 by_cases h1:x.1.length=y.1.length
 ·by_cases h2:x.2.length=y.2.length
  ·rw[if_neg (by rw[h1];simp),if_neg (by rw[h2];simp)]
   rw[eqB (f:=cY x y) x.1 y.1 (by omega) h1 (fun i h h'=>by
    simp only[cY,bS h,if_true,aq h,aq h',Option.bind_some,fb,xr x.1[i] y.1[i] (hA _ (List.getElem_mem h)),aa (show i<9223372036854775807 by omega)]
    exact e7 (by simp)) (by simp only[cY,bm];rfl)]
   rw[eqB (f:=cZ x y) x.2 y.2 (by omega) h2 (fun i h h'=>by
    have e:=Nv x.2[i].2.1 y.2[i].2.1 (hQ _ (List.getElem_mem h)).2.1.1
    simp only[cZ,bS h,if_true,aq h,aq h',Option.bind_some,e,aa (show i<9223372036854775807 by omega)]
    generalize x.2[i] =u;generalize y.2[i] =v
    by_cases e1:u.1=v.1 <;> by_cases e2:u.2.1=v.2.1 <;> by_cases e3:u.2.2=v.2.2 <;> simp[Prod.ext_iff,e1,e2,e3]) (by simp only[cZ,bm];rfl)]
   by_cases e1:x.1=y.1 <;> by_cases e2:x.2=y.2 <;> simp[Prod.ext_iff,e1,e2]
  ·have:x.2≠y.2:=fun e=>h2 (by rw[e])
   rw[if_neg (by rw[h1];simp),if_pos (by simp;omega)];simp[Prod.ext_iff,this]
 ·have:x.1≠y.1:=fun e=>h1 (by rw[e])
  rw[if_pos (by simp;omega)];simp[Prod.ext_iff,this]
theorem Hm (x y:QT) (hx:Data.sm x):eN x y=some (decide (x=y)):=by
 unfold eN
 rw[Nw x.2.1 y.2.1 hx.2.1.1];simp only[Option.bind_some]
 by_cases h1:x.1=y.1 <;> by_cases h2:x.2.1=y.2.1 <;> by_cases h3:x.2.2=y.2.2 <;> simp[Prod.ext_iff,h1,h2,h3]
theorem AX (x y:Ky) (hx:Data.sm x):eD x y=some (decide (x=y)):=by
 obtain ⟨⟨ha,hA⟩,hq,hQ⟩:=hx
 unfold eD
 have e:aF x.1 y.1 (fun a0 a1=>cK a0 a1)=some (decide (x.1=y.1)):=
  eqL (f:=ax x.1 y.1 _) x.1 y.1 (by omega) (fun i h h'=>by
   simp only[ax,bS h,if_true,aq h,aq h',Option.bind_some,fb,aa (show i<9223372036854775807 by omega),xt x.1[i] y.1[i] (hA _ (List.getElem_mem h))]
   exact e7 (by simp)) (by simp only[ax,bm];rfl)
 have e':aE x.2 y.2 (fun a0 a1=>eN a0 a1)=some (decide (x.2=y.2)):=
  eqL (f:=au x.2 y.2 _) x.2 y.2 (by omega) (fun i h h'=>by
   simp only[au,bS h,if_true,aq h,aq h',Option.bind_some,fb,aa (show i<9223372036854775807 by omega),Hm x.2[i] y.2[i] (hQ _ (List.getElem_mem h))]
   exact e7 (by simp)) (by simp only[au,bm];rfl)
 rw[e,e'];simp only[Option.bind_some]
 by_cases h1:x.1=y.1 <;> by_cases h2:x.2=y.2 <;> simp[Prod.ext_iff,h1,h2]
theorem tT {R S:Type} {f g:S→Option (Out R S)} (Inv:Nat→S→Prop) (h: ∀i s,Inv i s→g s=f s∧ ∀s',f s=some (.nxt s')→Inv (i+1) s'): ∀(k i:Nat) (s:S),Inv i s→ai g k s=ai f k s
 | 0,_,_,_=>rfl
 | k+1,i,s,hI=>by
  obtain ⟨h1,h2⟩:=h i s hI
  rw[ai,ai,h1]
  cases e:f s with
  | none=>rfl
  | some o =>
   cases o with
   | nxt s'=>exact tT Inv h k (i+1) s' (h2 s' e)
   | brk s'=>rfl
   | ret r=>rfl
theorem FQ {f g:Int→Option (Out Int Int)} (N:Nat) (hN:N≤1048576) (h: ∀i:Nat,i<N→f (i:Int)=some (.ret (i:Int))∨f (i:Int)=some (.nxt ((i+1:Nat):Int))) (he:f (N:Int)=some (.brk (N:Int))) (hfg: ∀i:Nat,i≤N→g (i:Int)=f (i:Int)) :
  ∃r:Int,ay (ai f aD 0) (fun r=>some r) (fun _=>some (-1))=some r∧ay (ai g aD 0) (fun r=>some r) (fun _=>some (-1))=some r∧(r= -1∨ ∃i:Nat,i<N∧r=(i:Int)):=by
 have hs:ai g aD 0=ai f aD 0:=tT (fun i s=>s=(i:Int)∧i≤N) (fun i s ⟨e,hi⟩=>by
  subst e
  refine ⟨hfg i hi,fun s' e=>?_⟩
  by_cases c:i<N
  ·rcases h i c with e2 | e2
   ·rw[e2] at e;cases e
   ·rw[e2] at e;cases e;exact ⟨rfl,c⟩
  ·obtain rfl:i=N:=by omega
   rw[he] at e;cases e) aD 0 0 ⟨rfl,Nat.zero_le _⟩
 rw[hs]
 obtain ⟨o,e,ho⟩:=cJ (f:=f) (fun i s=>s=(i:Int)) (fun o=>o= .brk (N:Int)∨ ∃i:Nat,i<N∧o= .ret (i:Int)) N (fun i s hi hs=>by
  subst hs
  by_cases h1:i<N
  ·rcases h i h1 with h2 | h2
   ·exact .inr ⟨_,h2,(fun s' e=>by cases e),.inr ⟨i,h1,rfl⟩⟩
   ·exact .inl ⟨h1,_,h2,rfl⟩
  ·obtain rfl:i=N:=by omega
   exact .inr ⟨_,he,(fun s' e=>by cases e),.inl rfl⟩) (s:=0) rfl (ox _ (by omega))
 rw[e]
 rcases ho with rfl | ⟨i,hi,rfl⟩
 ·exact ⟨-1,rfl,rfl,.inl rfl⟩
 ·exact ⟨i,rfl,rfl,.inr ⟨i,hi,rfl⟩⟩
theorem Hn (l:List AutT) (a:AutT) (hl:l.length≤1048576) (hs: ∀x∈l,Data.sm x) (ha:Data.sm a): ∃r:Int,j5 l a=some r∧aI l (fun a0=>j9 a0 a)=some r∧(r= -1∨ ∃i:Nat,i<l.length∧r=(i:Int)):=by
 unfold j5 aI
 have hf: ∀i (h:i<l.length),fo l a (i:Int)=if l[i] =a then some (.ret (i:Int)) else some (.nxt ((i+1:Nat):Int)):=fun i h=>by
  simp only[fo,bS h,if_true,aq h,Option.bind_some,fb,xr l[i] a (hs _ (List.getElem_mem h)),aa (show i<9223372036854775807 by omega)]
  by_cases c:l[i] =a <;> simp[c]
 refine FQ l.length hl (fun i h=>?_) (by simp only[fo,bm];rfl) (fun i hi=>?_)
 ·rw[hf i h];by_cases c:l[i] =a <;> simp[c]
 ·by_cases h:i<l.length
  ·rw[hf i h]
   simp only[a7,j9,bS h,if_true,aq h,Option.bind_some,fb,xt a l[i] ha,aa (show i<9223372036854775807 by omega)]
   by_cases c:l[i] =a
   ·simp[c]
   ·have: ¬a=l[i]:=fun e=>c e.symm
    simp[c,this]
  ·obtain rfl:i=l.length:=by omega
   simp only[fo,a7,bm];rfl
def Ev (n i:Nat) (s:Int×List AutT×List QT):Prop:=s.1=(i:Int)∧i≤n∧s.2.2.length=i∧s.2.1.length≤i∧(∀a∈s.2.1,Data.sm a)∧ ∀q∈s.2.2,Data.sm q∧0≤q.2.2∧q.2.2<(s.2.1.length:Int)
theorem FR {qs:List QT} (hq:Data.sm qs) {i:Nat} {s:Int×List AutT×List QT} (hI:Ev qs.length i s):iM qs s=cq qs s ∧
  ((i<qs.length∧ ∃s',cq qs s=some (.nxt s')∧Ev qs.length (i+1) s')∨ ∃o,cq qs s=some o∧(∀s',o≠ .nxt s')∧(o= .ret (([],[]),false)∨o= .brk s∧i=qs.length)):=by
 obtain ⟨hn,hs⟩:=aB hq
 obtain ⟨s1,A,Q⟩:=s
 obtain ⟨h1,h2,h3,h4,h5,h6⟩:=hI
 simp only at h1 h3 h4 h5 h6
 subst h1
 by_cases hi:i<qs.length
 ·have hqi:=hs _ (List.getElem_mem hi)
  obtain ⟨r,es,ei,hr⟩:=Eu (e:=qs[i].2.1) hqi.2.1.1
  obtain ⟨k,ks,ki,hk⟩:=Hn A r.1 (by omega) h5 hr
  have a1:cC 56 A [r.1] =some (A++ [r.1]):=aw (by simp;omega)
  have a2: ∀y,cC 40 Q [y] =some (Q++ [y]):=fun y=>aw (by simp;omega)
  have a3:jj qs[i].2.1=some qs[i].2.1:=by unfold jj;rw[aw (by have:=hqi.2.1.1;simp;omega)];rfl
  have a4:ka qs[i].2.1=some qs[i].2.1:=by unfold ka;rw[aw (by have:=hqi.2.1.1;simp;omega)];rfl
  unfold iM cq
  simp only[bS hi,if_true,aq hi,Option.bind_some,es,ei,Qq,HB,fb,ks,ki,a1,a2,a3,a4,aa (show i<9223372036854775807 by omega)]
  by_cases c1:r.2=true
  case neg =>
   simp only[c1,Bool.false_eq_true,if_false]
   exact ⟨by first | trivial | rfl,.inr ⟨_,rfl,(fun s' e=>by cases e),.inl rfl⟩⟩
  simp only[c1,if_true]
  by_cases c2:1≤qs[i].1∧qs[i].1≤99
  case neg =>
   simp only[c2,decide_false,Bool.false_eq_true,if_false]
   exact ⟨by first | trivial | rfl,.inr ⟨_,rfl,(fun s' e=>by cases e),.inl rfl⟩⟩
  simp only[c2,decide_true,if_true]
  have fin: ∃s':Int×List AutT×List QT,(∀(y:Option (Out (Ky×Bool) (Int×List AutT×List QT))),True)∧(Option.bind (if decide (k<0) then some ((A.length:Int),A++ [r.1],Q) else some (k,A,Q)) fun s10:Int×List AutT×List QT=>(cC 40 s10.2.2 [(qs[i].1,qs[i].2.1,s10.1)]).bind fun z18=>some (.nxt (((i+1:Nat):Int),s10.2.1,z18)):Option (Out (Ky×Bool) (Int×List AutT×List QT)))=some (.nxt s')∧Ev qs.length (i+1) s':=by
   rcases hk with rfl | ⟨j,hj,rfl⟩
   ·refine ⟨(((i+1:Nat):Int),A++ [r.1],Q++ [(qs[i].1,qs[i].2.1,(A.length:Int))]),fun _=>trivial,?_,rfl,hi,by simp;omega,by simp;omega,fun a ha=>?_,fun q hq'=>?_⟩
    ·simp only[show decide ((-1:Int)<0)=true from rfl,if_true,Option.bind_some,a2]
    ·simp only[List.mem_append,List.mem_singleton] at ha
     rcases ha with ha | rfl
     ·exact h5 a ha
     ·exact hr
    ·simp only[List.mem_append,List.mem_singleton] at hq'
     simp only[List.length_append,List.length_singleton]
     rcases hq' with hq' | rfl
     ·obtain ⟨b1,b2,b3⟩:=h6 q hq'
      exact ⟨b1,b2,by omega⟩
     ·exact ⟨⟨trivial,hqi.2.1,trivial⟩,by simp,by simp;omega⟩
   ·refine ⟨(((i+1:Nat):Int),A,Q++ [(qs[i].1,qs[i].2.1,(j:Int))]),fun _=>trivial,?_,rfl,hi,by simp;omega,by simp only;omega,h5,fun q hq'=>?_⟩
    ·have:decide ((j:Int)<0)=false:=by simp
     simp only[this,Bool.false_eq_true,if_false,Option.bind_some,a2]
    ·simp only[List.mem_append,List.mem_singleton] at hq'
     rcases hq' with hq' | rfl
     ·exact h6 q hq'
     ·exact ⟨⟨trivial,hqi.2.1,trivial⟩,by simp,by simp;omega⟩
  obtain ⟨s',-,e,hI'⟩:=fin
  by_cases c3:(i:Int)>0
  ·have hp:i - 1<qs.length:=by omega
   have hw:IntKind.i64.wrap ((i:Int) - 1)=((i - 1:Nat):Int):=by rw[lP (by omega)];omega
   simp only[c3,decide_true,if_true,hw,aq hp,Option.bind_some]
   by_cases c4:qs[i - 1].1≥qs[i].1
   ·simp only[c4,decide_true,if_true]
    exact ⟨by first | trivial | rfl,.inr ⟨_,rfl,(fun s' e=>by cases e),.inl rfl⟩⟩
   ·simp only[c4,decide_false,Bool.false_eq_true,if_false]
    exact ⟨by first | trivial | rfl,.inl ⟨hi,s',e,hI'⟩⟩
  ·simp only[c3,decide_false,Bool.false_eq_true,if_false]
   exact ⟨by first | trivial | rfl,.inl ⟨hi,s',e,hI'⟩⟩
 ·obtain rfl:i=qs.length:=by omega
  unfold iM cq
  simp only[bm,Bool.false_eq_true,if_false]
  exact ⟨by first | trivial | rfl,.inr ⟨_,rfl,(fun s' e=>by cases e),.inr (by first | exact ⟨rfl,rfl⟩ | exact ⟨trivial,rfl⟩ | exact ⟨rfl,trivial⟩ | simp)⟩⟩
def Sr (r:Ky):Prop:=Data.sm r∧ ∀q∈r.2,0≤q.2.2∧q.2.2<(r.1.length:Int)
theorem Nx {qs:List QT} (hq:Data.sm qs): ∃r:Ky,∃b:Bool,ma qs=(if (qs.length:Int)>4 then some (([],[]),false) else some (r,b))∧pU qs=some (r,b&&decide ((qs.length:Int)≤4))∧Sr r:=by
 have hn:=(aB hq).1
 have h0:Ev qs.length 0 (0,[],[]):=⟨rfl,Nat.zero_le _,rfl,Nat.le_refl _,fun _ h=>(by cases h),fun _ h=>(by cases h)⟩
 have hs:ai (iM qs) aD (0,[],[])=ai (cq qs) aD (0,[],[]):=tT (Ev qs.length) (fun i s hI=>by
  obtain ⟨e,h⟩:=FR hq hI
  refine ⟨e,fun s' e'=>?_⟩
  rcases h with ⟨_,s2,e2,hI2⟩ | ⟨o,e2,hne,-⟩
  ·rw[e2] at e';cases e';exact hI2
  ·rw[e2] at e';cases e';exact absurd rfl (hne s')) aD 0 _ h0
 obtain ⟨o,e,ho⟩:=cJ (f:=cq qs) (Ev qs.length) (fun o=>o= .ret (([],[]),false)∨ ∃A Q,o= .brk ((qs.length:Int),A,Q)∧Ev qs.length qs.length ((qs.length:Int),A,Q)) qs.length (fun i s hi hI=>by
  rcases (FR hq hI).2 with h | ⟨o,e,hne,h⟩
  ·exact .inl h
  ·refine .inr ⟨o,e,hne,?_⟩
   rcases h with h | ⟨h,rfl⟩
   ·exact .inl h
   ·obtain ⟨s1,A,Q⟩:=s
    obtain ⟨rfl,-⟩:=id hI
    exact .inr ⟨A,Q,h,hI⟩) h0 (ox _ (by omega))
 unfold ma pU
 rw[hs,e]
 rcases ho with rfl | ⟨A,Q,rfl,-,-,h3,h4,h5,h6⟩
 ·refine ⟨([],[]),false,?_,rfl,⟨⟨Nat.zero_le _,fun _ h=>(by cases h)⟩,Nat.zero_le _,fun _ h=>(by cases h)⟩,fun _ h=>(by cases h)⟩
  by_cases c:(qs.length:Int)>4 <;> simp[c,ay]
 ·simp only at h3 h4 h5 h6
  refine ⟨(A,Q),true,?_,by simp[ay],⟨⟨show A.length≤1048576 by omega,h5⟩,show Q.length≤1048576 by omega,fun q h=>(h6 q h).1⟩,fun q h=>(h6 q h).2⟩
  by_cases c:(qs.length:Int)>4 <;> simp[c,ay]
theorem Ho {r:Ky} (hr:Data.sm r): ∃b,eu r=some b∧eE r=some b∧(b=true→Sr r):=by
 obtain ⟨x,b,e1,e2,hx⟩:=Nx hr.2
 unfold eu eE
 rw[e1,e2]
 by_cases c:(r.2.length:Int)>4
 ·have c': ¬(r.2.length:Int)≤4:=by omega
  exact ⟨false,by simp[c],by simp[c'],fun e=>by cases e⟩
 ·have c':(r.2.length:Int)≤4:=by omega
  cases b with
  | false=>exact ⟨false,by simp[c],by simp,fun e=>by cases e⟩
  | true =>
   simp only[c,if_false,Option.bind_some,if_true,c',decide_true,Bool.and_true,fb,AW x r hx.1,AX x r hx.1]
   exact ⟨_,rfl,rfl,fun e=>by rw[←of_decide_eq_true e];exact hx⟩
end D
set_option synthInstance.maxSize 20000
set_option synthInstance.maxHeartbeats 2000000
namespace D
open Go.RowKit
theorem QF (a:AutT) (ha:Data.sm a):nB a=some a:=by
 obtain ⟨-,⟨hb,-⟩,hn,hr⟩:=ha
 unfold nB
 rw[aw (by simp;omega)];simp only[Option.bind_some,List.nil_append]
 have:=aA (f:=gk a) (fun i=>((i:Int),a.1,a.2.1,a.2.2.take i)) a.2.2.length (fun i hi=>by
  unfold gk
  have h1:cC 8 ([] :List Int) a.2.2[i] =some a.2.2[i]:=by rw[aw (by have:a.2.2[i].length≤1048576:=(hr _ (List.getElem_mem hi)).1;simp;omega)];rfl
  simp only[bS hi,if_true,aq hi,Option.bind_some,h1,aa (show i<9223372036854775807 by omega)]
  rw[aw (by simp;omega)]
  simp only[Option.bind_some]
  rw[List.take_succ_eq_append_getElem hi]) (by
  unfold gk
  simp only[bm,Bool.false_eq_true,if_false]) (ox _ (by omega))
 have e:ai (gk a) aD (0,a.1,a.2.1,[])=_:=this
 rw[e]
 simp only[ay,List.take_length]
theorem QG (a:AutT) (ha:Data.sm a):fQ a=some a:=by
 obtain ⟨-,⟨hb,-⟩,hn,hr⟩:=ha
 unfold fQ
 rw[aw (by simp;omega)];simp only[Option.bind_some,List.nil_append]
 have:=aA (f:=cB a) (fun i=>((i:Int),a.1,a.2.1,a.2.2.take i)) a.2.2.length (fun i hi=>by
  unfold cB kc
  have h1:cC 8 ([] :List Int) a.2.2[i] =some a.2.2[i]:=by rw[aw (by have:a.2.2[i].length≤1048576:=(hr _ (List.getElem_mem hi)).1;simp;omega)];rfl
  simp only[bS hi,if_true,aq hi,Option.bind_some,h1,aa (show i<9223372036854775807 by omega)]
  rw[aw (by simp;omega)]
  simp only[Option.bind_some]
  rw[List.take_succ_eq_append_getElem hi]) (by
  unfold cB
  simp only[bm,Bool.false_eq_true,if_false]) (ox _ (by omega))
 have e:ai (cB a) aD (0,a.1,a.2.1,[])=_:=this
 rw[e]
 simp only[ay,List.take_length]
end D
set_option synthInstance.maxSize 20000
set_option synthInstance.maxHeartbeats 2000000
namespace D
open Go.RowKit
theorem KB (r:Ky) (id:Int) (hl:r.2.length≤1048576): ∃k:Int,kN r id=some k∧kQ r id=some k∧(k= -1∨ ∃i:Nat,i<r.2.length∧k=(i:Int)):=by
 unfold kN kQ bd
 have hf: ∀i (h:i<r.2.length),de r id (i:Int)=if r.2[i].1=id then some (.ret (i:Int)) else some (.nxt ((i+1:Nat):Int)):=fun i h=>by
  simp only[de,bS h,if_true,aq h,Option.bind_some,aa (show i<9223372036854775807 by omega)]
  by_cases c:r.2[i].1=id <;> simp[c]
 obtain ⟨k,e1,e2,h⟩:=FQ (f:=de r id) (g:=aM r.2 fun a0=>iK a0 id) r.2.length hl (fun i h=>by
  rw[hf i h];by_cases c:r.2[i].1=id <;> simp[c]) (by simp only[de,bm];rfl) (fun i hi=>by
  by_cases h:i<r.2.length
  ·rw[hf i h]
   simp only[aM,iK,bS h,if_true,aq h,Option.bind_some,aa (show i<9223372036854775807 by omega)]
   by_cases c:r.2[i].1=id <;> simp[c]
  ·obtain rfl:i=r.2.length:=by omega
   simp only[de,aM,bm];rfl)
 refine ⟨k,e1,?_,h⟩
 rw[e2];rfl
end D
set_option synthInstance.maxSize 20000
set_option synthInstance.maxHeartbeats 2000000
namespace D
open Go.RowKit
theorem Hq {r:Ky} (hr:Data.sm r) (id:Int): ∃x:AutT×Bool,dn r id=some x∧dt r id=some x∧Data.sm x.1:=by
 obtain ⟨k,f1,f2,hk⟩:=KB r id (aB hr.2).1
 obtain ⟨b,v1,v2,hv⟩:=Ho hr
 unfold dn dt
 simp only[f1,f2,v1,v2,Option.bind_some,fb]
 rcases hk with rfl | ⟨i,hi,rfl⟩
 ·refine ⟨((0,[],[]),false),?_,?_,sM⟩
  ·cases b <;> rfl
  ·rfl
 ·have hk:decide ((i:Int)<0)=false:=by simp
  cases b with
  | false=>exact ⟨((0,[],[]),false),by simp[hk],by simp[hk],sM⟩
  | true =>
   obtain ⟨hs,hq⟩:=hv rfl
   obtain ⟨q1,q2⟩:=hq _ (List.getElem_mem hi)
   have e1:az r.1 r.2[i].2.2=some (nth r.1 r.2[i].2.2):=aj q1 q2
   have hm:Data.sm (nth r.1 r.2[i].2.2):=(aB hs.1).2 _ (bg q1 q2)
   simp only[if_true,hk,Bool.false_eq_true,if_false,aq hi,Option.bind_some,e1,fb,QF _ hm,QG _ hm]
   exact ⟨_,rfl,rfl,hm⟩
end D
namespace D
open Go.RowKit
abbrev GrT:=(List Int)×(List (Int×Int×Int×Int))
theorem Hr {R:Type} {f:Int→Option (Out R Int)} (N:Nat) (p:Nat→Prop) [DecidablePred p] (r:R) (hN:N≤9223372036854775807)
  (h: ∀i:Nat,i<N→f (i:Int)=some (if p i then .nxt ((i+1:Nat):Int) else .ret r)) (he:f (N:Int)=some (.brk (N:Int))) :
  (ai f aD 0=some (.brk (N:Int))∧ ∀i,i<N→p i)∨(ai f aD 0=some (.ret r)∧ ¬ ∀i,i<N→p i):=by
 obtain ⟨o,e,hq⟩:=cJ (f:=f) (fun i s=>s=(i:Int)∧ ∀j:Nat,j<i→p j) (fun o=>(o= .brk (N:Int)∧ ∀i,i<N→p i)∨(o= .ret r∧ ¬ ∀i,i<N→p i)) N (s:=0) (by
  rintro i s hi ⟨rfl,hp⟩
  by_cases hl:i<N
  ·by_cases c:p i
   ·refine .inl ⟨hl,_,by rw[h i hl,if_pos c],rfl,fun j hj=>?_⟩
    by_cases e:j=i
    ·subst e;exact c
    ·exact hp j (by omega)
   ·exact .inr ⟨_,by rw[h i hl,if_neg c],(fun s' e=>by cases e),.inr ⟨rfl,fun hx=>c (hx i hl)⟩⟩
  ·obtain rfl:i=N:=by omega
   exact .inr ⟨_,he,(fun s' e=>by cases e),.inl ⟨rfl,hp⟩⟩) ⟨rfl,by omega⟩ (kp hN)
 rcases hq with ⟨rfl,hq⟩ | ⟨rfl,hq⟩
 ·exact .inl ⟨e,hq⟩
 ·exact .inr ⟨e,hq⟩
structure GOk (g:GrT):Prop where
 n1:1≤g.1.length
 n5:g.1.length≤5
 m:g.2.length≤12
 val: ∀v∈g.1,0≤v∧v≤2
 edge: ∀e∈g.2,(0≤e.2.1∧e.2.1<g.1.length)∧(0≤e.2.2.1∧e.2.2.1<g.1.length)∧0≤e.2.2.2∧e.2.2.2≤2
 asc: ∀i:Nat,i+1<g.2.length→(nth g.2 i).1<(nth g.2 ((i+1:Nat):Int)).1
def edgeP (e:Int×Int×Int×Int) (n:Int):Prop:=(1≤e.1∧e.1≤99)∧(0≤e.2.1∧e.2.1≤n - 1)∧(0≤e.2.2.1∧e.2.2.1≤n - 1)∧0≤e.2.2.2∧e.2.2.2≤2
instance (e n):Decidable (edgeP e n):=by unfold edgeP;infer_instance
theorem Ss (e:Int×Int×Int×Int) {n:Nat} (hn:n≤1048576):mS e (n:Int)=some (decide (edgeP e n)):=by
 unfold mS edgeP
 simp only[HB,Option.bind_some,lP (show n≤9223372036854775807 by omega)]
 by_cases c1:1≤e.1∧e.1≤99 <;> by_cases c2:0≤e.2.1∧e.2.1≤(n:Int) - 1 <;> by_cases c3:0≤e.2.2.1∧e.2.2.1≤(n:Int) - 1 <;> simp[c1,c2,c3]
theorem FU (g:GrT) (h1:g.1.length≤1048576) (h2:g.2.length≤1048576): ∃b,be g=some b∧(b=true→GOk g):=by
 unfold be
 have k0:=Hr (f:=cR g) g.1.length (fun i=>0≤nth g.1 i∧nth g.1 i≤2) false (by omega) (fun i hi=>by
  unfold cR
  rw[if_pos (by simp;omega),aj (by omega) (by omega)];simp only[Option.bind_some,HB,decide_eq_true_eq]
  split
  ·rw[aa (by omega)]
  ·rfl) (by unfold cR;rw[if_neg (by simp)])
 have k1:=Hr (f:=b9 g) g.2.length (fun i=>edgeP (nth g.2 i) g.1.length∧(0<i→(nth g.2 ((i:Int) - 1)).1<(nth g.2 i).1)) false (by omega) (fun i hi=>by
  unfold b9
  rw[if_pos (by simp;omega),aj (by omega) (by omega)];simp only[Option.bind_some]
  have e1:=Ss (nth g.2 (i:Int)) h1
  have e1:mS ((nth g.2 (i:Int)).1,(nth g.2 (i:Int)).2.1,(nth g.2 (i:Int)).2.2.1,(nth g.2 (i:Int)).2.2.2) (g.1.length:Int)=_:=e1
  rw[e1];simp only[Option.bind_some,decide_eq_true_eq]
  by_cases c1:edgeP (nth g.2 (i:Int)) g.1.length
  ·rw[if_pos c1]
   by_cases c2:0<i
   ·rw[if_pos (by omega),lP (by omega),aj (by omega) (by omega)];simp only[Option.bind_some]
    by_cases c3:(nth g.2 ((i:Int) - 1)).1<(nth g.2 (i:Int)).1
    ·rw[if_neg (by omega),if_pos ⟨c1,fun _=>c3⟩,aa (by omega)]
    ·rw[if_pos (by omega),if_neg (fun h=>c3 (h.2 c2))]
   ·rw[if_neg (by omega),if_pos ⟨c1,fun h=>absurd h c2⟩,aa (by omega)]
  ·rw[if_neg c1,if_neg (fun h=>c1 h.1)]) (by unfold b9;rw[if_neg (by simp)])
 rcases k0 with ⟨k0,j0⟩ | ⟨k0,j0⟩
 ·rw[af k0]
  rcases k1 with ⟨k1,j1⟩ | ⟨k1,j1⟩
  ·rw[af k1,HB];simp only[Option.bind_some,decide_eq_true_eq]
   split
   ·rename_i c
    refine ⟨_,rfl,fun hb=>?_⟩
    have hb:=of_decide_eq_true hb
    refine ⟨by omega,by omega,by omega,fun v hv=>?_,fun e he=>?_,fun i hi=>?_⟩
    ·obtain ⟨i,hi,rfl⟩:=AA hv
     exact j0 i hi
    ·obtain ⟨i,hi,rfl⟩:=AA he
     obtain ⟨a1,a2,a3,a4⟩:=(j1 i hi).1
     exact ⟨⟨a2.1,by omega⟩,⟨a3.1,by omega⟩,a4⟩
    ·have:=(j1 (i+1) hi).2 (by omega)
     rwa [show (((i+1:Nat):Int) - 1)=(i:Int) from by omega] at this
   ·exact ⟨false,rfl,fun h=>by cases h⟩
  ·rw[bE k1];exact ⟨false,rfl,fun h=>by cases h⟩
 ·rw[bE k0];exact ⟨false,rfl,fun h=>by cases h⟩
theorem GOk.lt {g:GrT} (G:GOk g) {i j:Nat} (h:i<j) (hj:j<g.2.length):(nth g.2 (i:Int)).1<(nth g.2 (j:Int)).1:=by
 induction h with
 | refl=>exact G.asc i hj
 | step h ih =>
  rename_i m
  have h1:=ih (by omega)
  have h2:=G.asc m hj
  exact Int.lt_trans h1 h2
end D
namespace D
open Go.RowKit
theorem sN (m:Nat):BitVec.ofInt 64 (m:Int)=BitVec.ofNat 64 m:=by simp
theorem KD {m n:Nat} (hm:m<2 ^ 62) (hn:n<2 ^ 62):pC (m:Int) (n:Int)=((m &&& n:Nat):Int):=by
 unfold pC
 rw[sN,sN,BitVec.toNat_and,BitVec.toNat_ofNat,BitVec.toNat_ofNat,Nat.mod_eq_of_lt (by omega),Nat.mod_eq_of_lt (by omega)]
 have:m &&& n≤m:=Nat.and_le_left
 exact cH (by omega) (by omega)
theorem FV {m n:Nat} (hm:m<2 ^ 62) (hn:n<2 ^ 62):orI (m:Int) (n:Int)=((m ||| n:Nat):Int):=by
 unfold orI
 rw[sN,sN,BitVec.toNat_or,BitVec.toNat_ofNat,BitVec.toNat_ofNat,Nat.mod_eq_of_lt (by omega),Nat.mod_eq_of_lt (by omega)]
 have:m ||| n<2 ^ 62:=Nat.or_lt_two_pow hm hn
 exact cH (by omega) (by omega)
theorem AY {m i:Nat} (hi:i<64):lU (m:Int) (i:Int)=((m >>> i:Nat):Int):=by
 unfold lU
 rw[show min (i:Int).toNat 64=i from by simp;omega,Nat.shiftRight_eq_div_pow,Int.fdiv_eq_ediv_of_nonneg _ (by exact_mod_cast Nat.zero_le _)]
 simp
theorem tU {i:Nat} (hi:i<62):sV 1 (i:Int)=((2 ^ i:Nat):Int):=by
 unfold sV
 rw[show min (i:Int).toNat 64=i from by simp;omega,Int.one_mul]
 have:2 ^ i<2 ^ 62:=Nat.pow_lt_pow_right (by decide) hi
 rw[show ((2:Int) ^ i)=((2 ^ i:Nat):Int) from by simp]
 generalize 2 ^ i=z at this
 exact cH (by omega) (by omega)
theorem xu {m i:Nat} (hm:m<2 ^ 62) (hi:i<64):((pC (lU (m:Int) (i:Int)) 1)==1)=m.testBit i:=by
 have h1:m >>> i<2 ^ 62:=Nat.lt_of_le_of_lt (by rw[Nat.shiftRight_eq_div_pow];exact Nat.div_le_self _ _) hm
 rw[AY hi,show (1:Int)=((1:Nat):Int) from rfl,KD h1 (by decide),Nat.testBit,Nat.and_comm]
 have e:m >>> i &&& 1=m >>> i % 2:=Nat.and_one_is_mod _
 rw[Nat.and_comm 1,e]
 rcases Nat.mod_two_eq_zero_or_one (m >>> i) with h | h <;> rw[h] <;> rfl
theorem Ny {m i:Nat} (hm:m<2 ^ 62) (hi:i<64):((pC (lU (m:Int) (i:Int)) 1)==0)= !m.testBit i:=by
 have h1:m >>> i<2 ^ 62:=Nat.lt_of_le_of_lt (by rw[Nat.shiftRight_eq_div_pow];exact Nat.div_le_self _ _) hm
 rw[AY hi,show (1:Int)=((1:Nat):Int) from rfl,KD h1 (by decide),Nat.testBit,Nat.and_comm]
 have e:m >>> i &&& 1=m >>> i % 2:=Nat.and_one_is_mod _
 rw[Nat.and_comm 1,e]
 rcases Nat.mod_two_eq_zero_or_one (m >>> i) with h | h <;> rw[h] <;> rfl
def dz (m k:Nat):List Int:=((List.range k).filter fun i=>m.testBit i).map fun (i:Nat)=>(i:Int)
theorem iq (m k:Nat):dz m (k+1)=if m.testBit k then dz m k++ [(k:Int)] else dz m k:=by
 unfold dz
 rw[List.range_succ,List.filter_append,List.map_append]
 by_cases h:m.testBit k=true
 ·simp[h]
 ·simp[h]
theorem qb {m k l:Nat} (h:m<2 ^ k) (hl:k≤l):dz m l=dz m k:=by
 induction hl with
 | refl=>rfl
 | step hl ih =>
  rw[iq,Nat.testBit_lt_two_pow (Nat.lt_of_lt_of_le h (Nat.pow_le_pow_right (by decide) hl)),ih];rfl
theorem pz {m k:Nat} {x:Int} :x∈dz m k↔ ∃i:Nat,i<k∧m.testBit i=true∧x=(i:Int):=by
 unfold dz
 simp only[List.mem_map,List.mem_filter,List.mem_range]
 constructor
 ·rintro ⟨i,⟨h1,h2⟩,rfl⟩;exact ⟨i,h1,h2,rfl⟩
 ·rintro ⟨i,h1,h2,rfl⟩;exact ⟨i,⟨h1,h2⟩,rfl⟩
theorem ko (m k:Nat):(dz m k).length≤k:=by
 unfold dz;rw[List.length_map];exact Nat.le_trans (List.length_filter_le _ _) (by simp)
theorem zm {m:Nat} : ∀ {k:Nat},(∀i,i<k→m.testBit i=false)→dz m k= []
 | 0,_=>rfl
 | k+1,h=>by rw[iq,h k (by omega),zm fun i hi=>h i (by omega)];rfl
theorem CM {s k:Nat} (h:s<k):dz (2 ^ s) k= [(s:Int)]:=by
 rw[qb (k:=s+1) (Nat.pow_lt_pow_right (by decide) (by omega)) h,iq,Nat.testBit_two_pow,zm fun i hi=>by rw[Nat.testBit_two_pow];simp;omega]
 simp
theorem qD (m i j:Nat):(m ||| 2 ^ i).testBit j=(m.testBit j || decide (i=j)):=by
 rw[Nat.testBit_or,Nat.testBit_two_pow]
theorem sO {m i k:Nat} (h:m<2 ^ k) (hi:i<k):m ||| 2 ^ i<2 ^ k:=Nat.or_lt_two_pow h (Nat.pow_lt_pow_right (by decide) hi)
theorem Nz {m i:Nat} (h:m >>> i=0):m<2 ^ i:=by
 rw[Nat.shiftRight_eq_div_pow] at h
 exact (Nat.div_eq_zero_iff_lt (Nat.two_pow_pos i)).1 h
end D
namespace D
open Go.RowKit
theorem p62 {n:Nat} (h:n≤30):2 ^ n≤2 ^ 62:=Nat.pow_le_pow_right (by decide) (by omega)
theorem pA {M:Nat} (hM:M<2 ^ 30):fC (M:Int)=some (dz M 30):=by
 have h62:M<2 ^ 62:=Nat.lt_of_lt_of_le hM (p62 (by decide))
 obtain ⟨o,e,hq⟩:=cJ (f:=mD (M:Int)) (fun i s=>s=(dz M i,(i:Int))) (fun o=> ∃k,o= .brk (dz M 30,k)) 30 (s:=([],0)) (by
  rintro i s hi rfl
  unfold mD
  have e0:chk ((0:Int)≤(i:Int))=some ():=by unfold chk;rw[if_pos (by omega)]
  simp only[e0,Option.bind_some]
  by_cases c:M >>> i=0
  ·refine .inr ⟨.brk (dz M i,(i:Int)),?_,(fun s' e=>by cases e),(i:Int),by rw[qb (Nz c) hi]⟩
   rw[AY (by omega),c];rfl
  ·have hi':i<30:=by
    rcases Nat.lt_or_ge i 30 with h | h
    ·exact h
    ·exfalso;apply c
     rw[Nat.shiftRight_eq_div_pow]
     exact Nat.div_eq_of_lt (Nat.lt_of_lt_of_le hM (Nat.pow_le_pow_right (by decide) h))
   refine .inl ⟨hi',(dz M (i+1),((i+1:Nat):Int)),?_,rfl⟩
   have c':((lU (M:Int) (i:Int)) !=0)=true:=by
    rw[AY (by omega)]
    simp only[bne_iff_ne,ne_eq]
    omega
   rw[if_pos c',xu h62 (by omega),iq,aa (by omega)]
   by_cases b:M.testBit i=true
   ·rw[if_pos b,if_pos b,aw (by have:=ko M i;simp;omega)];rfl
   ·rw[if_neg b,if_neg b];rfl) rfl (by unfold aD;omega)
 obtain ⟨k,rfl⟩:=hq
 unfold fC
 exact af e
def ClI (n:Nat) (i:Nat) (st:Int×Int):Prop:=(-1≤st.2∧st.2<n)∧ ∃(M:Nat) (L:List Int),st.1=(M:Int)∧M<2 ^ n∧L.length=i∧L.Nodup∧(∀x∈L,0≤x∧x<n)∧ ∀j:Nat,M.testBit j=true↔(j:Int)∈L
theorem Su {n:Nat} {L:List Int} (h:L.Nodup) (k: ∀x∈L,0≤x∧x<n):L.length≤n:=by
 have:=h.length_le_of_subset (l₂:=(List.range n).map fun i:Nat=>(i:Int)) (fun x hx=>by
  obtain ⟨h0,h1⟩:=k x hx
  exact List.mem_map.2 ⟨x.toNat,List.mem_range.2 (by omega),by omega⟩)
 simpa using this
section
variable {a:AutT} {n:Nat} (V:VA a n) (hn:n≤12)
include V hn
theorem QH {v:Int} (hv:0≤v∧v≤2) {i:Nat} {st:Int×Int} (h:ClI n i st) :
  (i<n∧ ∃st',cg a v st=some (.nxt st')∧ClI n (i+1) st')∨cg a v st=some (.brk st):=by
 obtain ⟨⟨h1,h2⟩,M,L,e1,hM,hl,hd,hr,hb⟩:=h
 obtain ⟨m,s⟩:=st
 obtain rfl:m=(M:Int):=e1
 have h62:M<2 ^ 62:=Nat.lt_of_lt_of_le hM (p62 (by omega))
 unfold cg
 by_cases c:s≥0
 ·obtain ⟨k,rfl⟩: ∃k:Nat,s=(k:Int):=⟨s.toNat,by omega⟩
  have hk:k<n:=by simp only at h2;omega
  have e0:chk ((0:Int)≤(k:Int))=some ():=by unfold chk;rw[if_pos (by omega)]
  simp only[e0,Option.bind_some]
  rw[if_pos (by simp),Ny h62 (by omega)]
  by_cases b:M.testBit k=true
  ·right;rw[if_neg (by simp[b])]
  ·left
   have b':(k:Int)∉L:=fun hh=>b ((hb k).2 hh)
   have hle:=Su (n:=n) (L:=(k:Int)::L) (List.nodup_cons.2 ⟨b',hd⟩) (fun x hx=>by
    rcases List.mem_cons.1 hx with rfl | hx
    ·omega
    ·exact hr x hx)
   simp only[List.length_cons] at hle
   obtain ⟨u,rfl⟩: ∃u:Nat,v=(u:Int):=⟨v.toNat,by omega⟩
   have hu:u≤2:=by omega
   have ew:IntKind.i64.wrap (6+(u:Int))=((6+u:Nat):Int):=by rw[cH (by omega) (by omega)];omega
   refine ⟨by omega,(((M ||| 2 ^ k:Nat):Int),mv a (k:Int) (6+u)),?_,?_,M ||| 2 ^ k,(k:Int)::L,rfl,sO hM hk,by simp[hl],List.nodup_cons.2 ⟨b',hd⟩,?_,?_⟩
   ·rw[if_pos (by simp[b]),ew]
    have e2:=CD V (s:=(k:Int)) (k:=6+u) (by omega) (by omega) (by omega)
    have e2:aW (a.1,a.2.1,a.2.2) (k:Int) ((6+u:Nat):Int)=_:=e2
    rw[e2,tU (by omega),FV h62 (Nat.pow_lt_pow_right (by decide) (by omega))];rfl
   ·exact V.mv (by omega) (by omega) (by omega)
   ·intro x hx
    rcases List.mem_cons.1 hx with rfl | hx
    ·omega
    ·exact hr x hx
   ·intro j
    rw[qD,Bool.or_eq_true,hb j,List.mem_cons,decide_eq_true_eq]
    constructor
    ·rintro (h | h)
     ·exact .inr h
     ·left;omega
    ·rintro (h | h)
     ·right;omega
     ·exact .inl h
 ·right
  rw[if_neg (by simpa using c)]
theorem CN {s v:Int} (hs:0≤s∧s<n) (hv:0≤v∧v≤2): ∃C:Nat,dC a s v=some (C:Int)∧C<2 ^ n:=by
 have h0:ClI n 0 (0,s):=⟨⟨by simp only;omega,hs.2⟩,0,[],rfl,Nat.two_pow_pos n,rfl,List.nodup_nil,by simp,by simp⟩
 obtain ⟨o,e,C,s',rfl,hC⟩:=cJ (f:=cg a v) (ClI n) (fun o=> ∃(C:Nat) (s':Int),o= .brk ((C:Int),s')∧C<2 ^ n) n (s:=(0,s)) (fun i st hi h=>by
  rcases QH V hn hv h with h' | h'
  ·exact .inl h'
  ·obtain ⟨_,M,L,e1,hM,_⟩:=h
   obtain ⟨m,s'⟩:=st
   obtain rfl:m=(M:Int):=e1
   exact .inr ⟨_,h',(fun s' e=>by cases e),M,s',rfl,hM⟩) h0 (by unfold aD;omega)
 exact ⟨C,by unfold dC;exact af e,hC⟩
end
def cS (a:AutT) (s v:Int):Nat:=((dC a s v).getD 0).toNat
section
variable {a:AutT} {n:Nat} (V:VA a n) (hn:n≤12)
include V hn
theorem nk {s v:Int} (hs:0≤s∧s<n) (hv:0≤v∧v≤2):dC a s v=some (cS a s v:Int)∧cS a s v<2 ^ n:=by
 obtain ⟨C,e,h⟩:=CN V hn hs hv
 unfold cS
 rw[e]
 exact ⟨rfl,by simpa using h⟩
end
def afS (a:AutT) (k:Nat) (C:Nat):Nat→Nat
 | 0=>0
 | q+1=>if C.testBit q=true∧0≤mv a (q:Int) k then afS a k C q ||| 2 ^ (mv a (q:Int) k).toNat else afS a k C q
def afL (a:AutT) (k:Nat) (l:List Int):Nat:=l.foldl (fun m t=>if 0≤mv a t k then m ||| 2 ^ (mv a t k).toNat else m) 0
theorem Ew (a:AutT) (k C:Nat): ∀q,afL a k (dz C q)=afS a k C q
 | 0=>rfl
 | q+1=>by
  rw[iq,afS]
  by_cases b:C.testBit q=true
  ·rw[if_pos b]
   unfold afL
   rw[List.foldl_append]
   have:=Ew a k C q
   unfold afL at this
   rw[this]
   simp[b]
  ·rw[if_neg b,if_neg (fun h=>b h.1)]
   exact Ew a k C q
section
variable {a:AutT} {n:Nat} (V:VA a n) (hn:n≤12)
include V
theorem KE {k C:Nat} (hk:k<9): ∀q,q≤n→afS a k C q<2 ^ n
 | 0,_=>Nat.two_pow_pos n
 | q+1,hq=>by
  rw[afS]
  have:=KE (C:=C) hk q (by omega)
  split
  ·rename_i c
   have:=(V.mv (s:=(q:Int)) (by omega) (by omega) hk).2
   exact sO (by assumption) (by omega)
  ·exact this
theorem OF {k:Nat} (hk:k<9) {l:List Int} (h: ∀x∈l,0≤x∧x<n):afL a k l<2 ^ n:=by
 unfold afL
 have key: ∀(l:List Int) (m:Nat),(∀x∈l,0≤x∧x<n)→m<2 ^ n→l.foldl (fun m t=>if 0≤mv a t k then m ||| 2 ^ (mv a t k).toNat else m) m<2 ^ n:=by
  intro l
  induction l with
  | nil=>intro m _ h;exact h
  | cons x l ih =>
   intro m hx hm
   rw[List.foldl_cons]
   refine ih _ (fun y hy=>hx y (by simp[hy])) ?_
   split
   ·have:=(V.mv (hx x (by simp)).1 (hx x (by simp)).2 hk).2
    exact sO hm (by omega)
   ·exact hm
 exact key l 0 h (Nat.two_pow_pos n)
include hn
theorem sP {C:Nat} (hC:C<2 ^ n): ∀x∈dz C 30,0≤x∧x<(n:Int):=by
 intro x hx
 obtain ⟨i,hi,hb,rfl⟩:=pz.1 hx
 refine ⟨by omega,?_⟩
 rcases Nat.lt_or_ge i n with h | h
 ·omega
 ·rw[Nat.testBit_lt_two_pow (Nat.lt_of_lt_of_le hC (Nat.pow_le_pow_right (by decide) h))] at hb;cases hb
theorem Hs {k:Nat} (hk:k<6) {l:List Int} (hl: ∀x∈l,0≤x∧x<n) (hlen:l.length≤30):ai (kd a (k:Int) l) aD (0,0)=some (.brk ((afL a k l:Int),(l.length:Int))):=by
 have:=aA (f:=kd a (k:Int) l) (fun i=>((afL a k (l.take i):Int),(i:Int))) l.length (fun i hi=>by
  unfold kd
  simp only
  have hx:=hl _ (bg (xs:=l) (i:=(i:Int)) (by omega) (by omega))
  rw[if_pos (by simp;omega),aj (by omega) (by omega)];simp only[Option.bind_some]
  have e2:=CD V (s:=nth l (i:Int)) (k:=k) hx.1 hx.2 (by omega)
  have e2:aW (a.1,a.2.1,a.2.2) (nth l (i:Int)) (k:Int)=_:=e2
  rw[e2,aa (by omega)];simp only[Option.bind_some]
  have et:l.take (i+1)=l.take i++ [nth l (i:Int)]:=by rw[List.take_add_one,bw hi];simp[hi]
  have ef:afL a k (l.take (i+1))=if 0≤mv a (nth l (i:Int)) k then afL a k (l.take i) ||| 2 ^ (mv a (nth l (i:Int)) k).toNat else afL a k (l.take i):=by
   rw[et];unfold afL;rw[List.foldl_append];rfl
  have hlt:=OF V (k:=k) (by omega) (l:=l.take i) (fun x hx=>hl x (List.mem_of_mem_take hx))
  have hmv:=(V.mv (s:=nth l (i:Int)) (k:=k) hx.1 hx.2 (by omega)).2
  rw[ef]
  by_cases c:0≤mv a (nth l (i:Int)) k
  ·rw[if_pos (by simpa using c),if_pos c]
   obtain ⟨t,ht⟩: ∃t:Nat,mv a (nth l (i:Int)) k=(t:Int):=⟨_,(Int.toNat_of_nonneg c).symm⟩
   have e0:chk ((0:Int)≤mv a (nth l (i:Int)) k)=some ():=by unfold chk;rw[if_pos c]
   rw[e0,ht,tU (by omega),FV (Nat.lt_of_lt_of_le hlt (p62 (by omega))) (Nat.pow_lt_pow_right (by decide) (by omega))];rfl
  ·rw[if_neg (by simpa using c),if_neg c];rfl) (by unfold kd;simp) (kp (by omega))
 simpa [afL] using this
theorem Sv {s v:Int} {k:Nat} (hs:0≤s∧s<n) (hv:0≤v∧v≤2) (hk:k<6):oX a (sV 1 s) v (k:Int)=some (afL a k (dz (cS a s v) 30):Int):=by
 obtain ⟨t,rfl⟩: ∃t:Nat,s=(t:Int):=⟨s.toNat,by omega⟩
 obtain ⟨e1,h1⟩:=nk V hn hs hv
 have hC:cS a (t:Int) v<2 ^ 30:=Nat.lt_of_lt_of_le h1 (Nat.pow_le_pow_right (by decide) (by omega))
 unfold oX
 rw[tU (by omega),pA (Nat.pow_lt_pow_right (by decide) (by omega)),CM (by omega)];simp only[Option.bind_some]
 have h0:fD a v (k:Int) [(t:Int)] (0,0)=some (.nxt ((afL a k (dz (cS a (t:Int) v) 30):Int),1)):=by
  unfold fD
  simp only
  rw[if_pos (by simp),show az [(t:Int)] 0=some (t:Int) from rfl];simp only[Option.bind_some]
  have e1:dC (a.1,a.2.1,a.2.2) (t:Int) v=_:=e1
  rw[e1];simp only[Option.bind_some]
  rw[pA hC];simp only[Option.bind_some]
  rw[Hs V hn hk (sP V hn h1) (ko _ _)]
  rfl
 have h1': ∀m:Int,fD a v (k:Int) [(t:Int)] (m,1)=some (.brk (m,1)):=fun m=>by
  unfold fD;rw[if_neg (by simp)]
 have:=aA (f:=fD a v (k:Int) [(t:Int)]) (fun i=>if i=0 then (0,0) else ((afL a k (dz (cS a (t:Int) v) 30):Int),1)) 1 (fun i hi=>by
  obtain rfl:i=0:=by omega
  exact h0) (h1' _) (by unfold aD;omega)
 have this:ai (fD a v (k:Int) [(t:Int)]) aD (0,0)=some (.brk ((afL a k (dz (cS a (t:Int) v) 30):Int),1)):=this
 rw[this];rfl
end
end D
namespace D
open Go.RowKit
theorem fY {p:Prop} [Decidable p] (h:p):chk p=some ():=by unfold chk;rw[if_pos h]
def rm {α:Type} (N:Nat) (F:Nat→α):List α:=(List.range N).map F
section
variable {α:Type} {N:Nat} {F G:Nat→α}
theorem xw:(rm N F).length=N:=by simp[rm]
theorem k8 (h: ∀z,z<N→F z=G z):rm N F=rm N G:=by
 unfold rm
 exact List.map_congr_left fun z hz=>h z (List.mem_range.1 hz)
theorem xx {c:Nat} (h:c<N):az (rm N F) (c:Int)=some (F c):=by
 rw[aq (by rw[xw];exact h)]
 simp[rm]
theorem KF {c:Nat} {v:α} :(rm N F).set c v=rm N fun z=>if z=c then v else F z:=by
 refine List.ext_getElem (by simp[rm]) fun i h1 h2=>?_
 simp only[rm,List.getElem_set,List.getElem_map,List.getElem_range]
 by_cases e:c=i
 ·subst e;simp
 ·rw[if_neg e,if_neg (fun h=>e h.symm)]
theorem rv {xs:List α} [Inhabited α] {k:Nat} (h:k<xs.length):xs.take (k+1)=xs.take k++ [nth xs (k:Int)]:=by
 rw[List.take_add_one,bw h];simp[h]
end
theorem OG {α:Type} {b n:Nat} {z:α} (h:n*b≤140737488355328):mkI b (n:Int) z=some (rm n fun _=>z):=by
 have:rm n (fun _=>z)=List.replicate n z:=by
  unfold rm;exact List.ext_getElem (by simp) fun i h1 h2=>by simp
 rw[this,uH h]
abbrev EdT:=Int×Int×Int×Int
abbrev ArT:=(Int×Bool)×Int×Int
def fwd (e:EdT):ArT:=((e.1,false),2*e.2.2.2,e.2.2.1)
def inv (e:EdT):ArT:=((e.1,true),2*e.2.2.2+1,e.2.1)
def OH (e:EdT) (x:Int):List ArT:=(if e.2.1=x then [fwd e] else [])++(if e.2.2.1=x then [inv e] else [])
def jb (es:List EdT) (x:Nat):List ArT:=es.flatMap fun e=>OH e x
theorem NA (e:EdT) (x:Int):(OH e x).length≤2:=by
 unfold OH;rw[List.length_append];split <;> split <;> simp
theorem pB {α β:Type} {f:α→List β} {B:Nat} : ∀ {xs:List α},(∀x∈xs,(f x).length≤B)→(xs.flatMap f).length≤B*xs.length
 | [],_=>by simp
 | x::xs,h=>by
  rw[List.flatMap_cons,List.length_append,List.length_cons,Nat.mul_add]
  have:=h x (by simp)
  have:=pB (xs:=xs) fun y hy=>h y (by simp[hy])
  omega
theorem qc (es:List EdT) (x:Nat):(jb es x).length≤2*es.length:=pB fun e _=>NA e x
theorem KG (e:EdT) (h:0≤e.2.2.2∧e.2.2.2≤2) (b:Bool):oW e b=some (if b then 2*e.2.2.2+1 else 2*e.2.2.2):=by
 unfold oW
 rw[cH (n:=2*e.2.2.2) (by omega) (by omega),cH (by omega) (by omega)]
 cases b <;> rfl
theorem Sw {g:GrT} (G:GOk g):rZ g=some (rm g.1.length (jb g.2)):=by
 unfold rZ
 rw[OG (by have:=G.n5;omega)];simp only[Option.bind_some]
 have:=aA (f:=lD g) (fun i=>((i:Int),rm g.1.length (jb (g.2.take i)))) g.2.length (fun i hi=>by
  unfold lD
  simp only
  have hm:=G.m
  obtain ⟨⟨a1,a2⟩,⟨b1,b2⟩,c1⟩:=G.edge _ (bg (xs:=g.2) (i:=(i:Int)) (by omega) (by omega))
  rw[if_pos (by simp;omega),aj (by omega) (by omega)];simp only[Option.bind_some]
  generalize he:nth g.2 (i:Int)=e at a1 a2 b1 b2 c1
  obtain ⟨id,fr,to,lb⟩:=e
  obtain ⟨p,rfl⟩: ∃p:Nat,fr=(p:Int):=⟨fr.toNat,by simp only at a1;omega⟩
  obtain ⟨q,rfl⟩: ∃q:Nat,to=(q:Int):=⟨to.toNat,by simp only at b1;omega⟩
  simp only at a1 a2 b1 b2 c1
  have hp:p<g.1.length:=by omega
  have hq:q<g.1.length:=by omega
  have r1:=KG (id,(p:Int),(q:Int),lb) c1 false
  have r2:=KG (id,(p:Int),(q:Int),lb) c1 true
  have l1:=qc (g.2.take i) p
  have l2:=qc (g.2.take i) q
  have l3:(g.2.take i).length≤12:=by rw[List.length_take];omega
  simp only[xx hp,xx hq,Option.bind_some,r1,r2,Int.toNat_natCast,KF,Bool.false_eq_true,if_false,if_true]
  rw[aw (by simp;omega)];simp only[Option.bind_some,KF]
  rw[fY (by rw[xw];omega),fY trivial];simp only[Option.bind_some]
  rw[aw (by split <;> simp <;> omega)];simp only[Option.bind_some]
  rw[fY (by rw[xw];omega)];simp only[Option.bind_some]
  try rw[fY rfl];simp only[Option.bind_some]
  rw[aa (by omega)]
  congr 3
  refine k8 fun z hz=>?_
  rw[rv hi,he]
  unfold jb
  rw[List.flatMap_append]
  simp only[List.flatMap_cons,List.flatMap_nil,List.append_nil,OH]
  by_cases e1:z=q
  ·subst e1
   by_cases e2:z=p
   ·subst e2;simp[fwd,inv]
   ·simp[e2,fwd,inv,show¬((p:Int)=(z:Int)) from by omega]
  ·by_cases e2:z=p
   ·subst e2;simp[e1,fwd,inv,show¬((q:Int)=(z:Int)) from by omega]
   ·simp[e1,e2,show¬((p:Int)=(z:Int)) from by omega,show¬((q:Int)=(z:Int)) from by omega]) (by unfold lD;simp) (kp (by have:=G.m;omega))
 have this:ai (lD g) aD (0,rm g.1.length fun _=>[])=_:=this
 rw[this,List.take_length];rfl
end D
namespace D
open Go.RowKit
def behind (a:AutT) (s v k:Int):List Int:=dz (afL a k.toNat (dz (cS a s v) 30)) 30
def nbA (g:GrT) (a:AutT) (x s:Nat) (y:ArT):List Int:=(behind a s (nth g.1 x) y.2.1).map fun t=>y.2.2*(a.2.1.length:Int)+t
def nbV (g:GrT) (a:AutT) (x s:Nat):List Int:=(jb g.2 x).flatMap (nbA g a x s)
def nbC (g:GrT) (a:AutT) (c:Nat):List Int:=nbV g a (c / a.2.1.length) (c % a.2.1.length)
theorem xy {g:GrT} (G:GOk g) {x:Nat} {y:ArT} (h:y∈jb g.2 x):(0≤y.2.1∧y.2.1<6)∧0≤y.2.2∧y.2.2<g.1.length:=by
 obtain ⟨e,he,hy⟩:=List.mem_flatMap.1 h
 obtain ⟨h1,h2,h3⟩:=G.edge e he
 unfold OH at hy
 rcases List.mem_append.1 hy with hy | hy <;> split at hy
 ·obtain rfl:y=fwd e:=by simpa using hy
  exact ⟨⟨by simp[fwd];omega,by simp[fwd];omega⟩,h2⟩
 ·cases hy
 ·obtain rfl:y=inv e:=by simpa using hy
  exact ⟨⟨by simp[inv];omega,by simp[inv];omega⟩,h1⟩
 ·cases hy
section
variable {g:GrT} {a:AutT} (G:GOk g) (V:VA a a.2.1.length) (hn:a.2.1.length≤12)
include G V hn
theorem sQ {s v:Int} {k:Int} (hs:0≤s∧s<a.2.1.length) (hv:0≤v∧v≤2) (hk:0≤k∧k<6):(∀t∈behind a s v k,0≤t∧t<(a.2.1.length:Int))∧(behind a s v k).length≤30∧afL a k.toNat (dz (cS a s v) 30)<2 ^ 30:=by
 have h1:=(nk V hn hs hv).2
 have h2:=OF V (k:=k.toNat) (by omega) (sP V hn h1)
 exact ⟨sP V hn h2,ko _ _,Nat.lt_of_lt_of_le h2 (Nat.pow_le_pow_right (by decide) (by omega))⟩
theorem OI {x s:Nat} {y:ArT} (hx:x<g.1.length) (hs:s<a.2.1.length) (hy:y∈jb g.2 x): ∀z∈nbA g a x s y,0≤z∧z<((a.2.1.length*g.1.length:Nat):Int):=by
 intro z hz
 obtain ⟨t,ht,rfl⟩:=List.mem_map.1 hz
 obtain ⟨k1,k2,k3⟩:=xy G hy
 have hv:=G.val _ (bg (xs:=g.1) (i:=(x:Int)) (by omega) (by omega))
 obtain ⟨t0,t1⟩:=(sQ G V hn (s:=(s:Int)) ⟨by omega,by omega⟩ hv k1).1 t ht
 obtain ⟨q,hq⟩: ∃q:Nat,y.2.2=(q:Int):=⟨y.2.2.toNat,by omega⟩
 obtain ⟨r,rfl⟩: ∃r:Nat,t=(r:Int):=⟨t.toNat,by omega⟩
 rw[hq] at k3⊢
 have:q*a.2.1.length+r<g.1.length*a.2.1.length:=by
  have:(q+1)*a.2.1.length≤g.1.length*a.2.1.length:=Nat.mul_le_mul_right _ (by omega)
  rw[Nat.add_mul] at this;omega
 rw[Nat.mul_comm a.2.1.length]
 constructor
 ·exact_mod_cast Nat.zero_le _
 ·exact_mod_cast this
theorem Sx {x s:Nat} (hx:x<g.1.length) (hs:s<a.2.1.length): ∀z∈nbV g a x s,0≤z∧z<((a.2.1.length*g.1.length:Nat):Int):=by
 intro z hz
 obtain ⟨y,hy,hz⟩:=List.mem_flatMap.1 hz
 exact OI G V hn hx hs hy z hz
theorem KH {x s:Nat} {y:ArT} (hx:x<g.1.length) (hs:s<a.2.1.length) (hy:y∈jb g.2 x):(nbA g a x s y).length≤30:=by
 unfold nbA
 rw[List.length_map]
 exact ko _ _
end
section
variable {g:GrT} {a:AutT} {F:Nat→List Int} {N:Nat}
theorem TS {x s:Nat} {o1 o2:List (List Int)} {y:ArT} {T:List Int} (hc:x*a.2.1.length+s<N) (hN:N≤60) (hF:(F (x*a.2.1.length+s)).length≤10000) (hT:T.length≤30) (hy: ∀t∈T,0≤y.2.2*(a.2.1.length:Int)+t∧y.2.2*(a.2.1.length:Int)+t<60∧0≤t∧t≤60) :
  ai (cd a ((x:Int),o1) ((s:Int),o2) y T) aD (0,rm N F)=some (.brk ((T.length:Int),rm N fun z=>if z=x*a.2.1.length+s then F z++T.map fun t=>y.2.2*(a.2.1.length:Int)+t else F z)):=by
 have ec:IntKind.i64.wrap (IntKind.i64.wrap ((x:Int)*(a.2.1.length:Int))+(s:Int))=((x*a.2.1.length+s:Nat):Int):=by
  have:((x:Int)*(a.2.1.length:Int))=((x*a.2.1.length:Nat):Int):=by simp
  rw[this,sD (by omega),cH (by omega) (by omega)];rfl
 have:=aA (f:=cd a ((x:Int),o1) ((s:Int),o2) y T) (fun j=>((j:Int),rm N fun z=>if z=x*a.2.1.length+s then F z++(T.take j).map fun t=>y.2.2*(a.2.1.length:Int)+t else F z)) T.length (fun j hj=>by
  unfold cd
  simp only
  obtain ⟨y0,y1,t0,t1⟩:=hy _ (bg (xs:=T) (i:=(j:Int)) (by omega) (by omega))
  rw[if_pos (by simp;omega),aj (by omega) (by omega)];simp only[Option.bind_some,ec,xx hc,if_true]
  have ev:IntKind.i64.wrap (IntKind.i64.wrap (y.2.2*(a.2.1.length:Int))+nth T (j:Int))=y.2.2*(a.2.1.length:Int)+nth T (j:Int):=by
   rw[cH (n:=y.2.2*(a.2.1.length:Int)) (by omega) (by omega),cH (by omega) (by omega)]
  rw[ev,aw (by simp;omega)];simp only[Option.bind_some,Int.toNat_natCast,KF]
  rw[fY (by rw[xw];omega),fY trivial,aa (by omega)];simp only[Option.bind_some]
  congr 3
  refine k8 fun z hz=>?_
  by_cases e:z=x*a.2.1.length+s
  ·subst e
   rw[if_pos rfl,if_pos rfl,rv hj,List.map_append,List.append_assoc];rfl
  ·simp only[if_neg e]) (by unfold cd;simp) (kp (by omega))
 rw[List.take_length] at this
 rw[←this]
 congr 2
 refine k8 fun z hz=>?_
 split <;> simp
end
section
variable {g:GrT} {a:AutT} (G:GOk g) (V:VA a a.2.1.length) (hn:a.2.1.length≤12)
include G V hn
theorem nN:a.2.1.length*g.1.length≤60:=by
 have:=Nat.mul_le_mul hn G.n5;omega
theorem cN {x s:Nat} (hx:x<g.1.length) (hs:s<a.2.1.length):x*a.2.1.length+s<a.2.1.length*g.1.length:=by
 have:(x+1)*a.2.1.length≤g.1.length*a.2.1.length:=Nat.mul_le_mul_right _ (by omega)
 rw[Nat.add_mul,Nat.mul_comm g.1.length] at this;omega
theorem TU {F:Nat→List Int} {x s:Nat} {o1 o2:List (List Int)} (hx:x<g.1.length) (hs:s<a.2.1.length) (hF:F (x*a.2.1.length+s)= []) :
  ai (cT g a ((x:Int),o1) (jb g.2 x) ((s:Int),o2)) aD (0,rm (a.2.1.length*g.1.length) F)=some (.brk (((jb g.2 x).length:Int),rm (a.2.1.length*g.1.length) fun z=>if z=x*a.2.1.length+s then nbV g a x s else F z)):=by
 have hl:=qc g.2 x
 have hm:=G.m
 have:=aA (f:=cT g a ((x:Int),o1) (jb g.2 x) ((s:Int),o2)) (fun j=>((j:Int),rm (a.2.1.length*g.1.length) fun z=>if z=x*a.2.1.length+s then ((jb g.2 x).take j).flatMap (nbA g a x s) else F z)) (jb g.2 x).length (fun j hj=>by
  unfold cT
  simp only
  have hy:=bg (xs:=jb g.2 x) (i:=(j:Int)) (by omega) (by omega)
  obtain ⟨k1,k2,k3⟩:=xy G hy
  have hv:=G.val _ (bg (xs:=g.1) (i:=(x:Int)) (by omega) (by omega))
  obtain ⟨q1,q2,q3⟩:=sQ G V hn (s:=(s:Int)) (v:=nth g.1 (x:Int)) (k:=(nth (jb g.2 x) (j:Int)).2.1) ⟨by omega,by omega⟩ hv k1
  rw[if_pos (by simp;omega),aj (by omega) (by omega)];simp only[Option.bind_some]
  rw[fY (by omega),aj (xs:=g.1) (by omega) (by omega)];simp only[Option.bind_some]
  obtain ⟨k,hk⟩: ∃k:Nat,(nth (jb g.2 x) (j:Int)).2.1=(k:Int):=⟨_,(Int.toNat_of_nonneg k1.1).symm⟩
  have ea:=Sv V hn (s:=(s:Int)) (v:=nth g.1 (x:Int)) (k:=k) ⟨by omega,by omega⟩ hv (by omega)
  have ea:oX (a.1,a.2.1,a.2.2) (sV 1 (s:Int)) (nth g.1 (x:Int)) (k:Int)=_:=ea
  rw[hk,ea];simp only[Option.bind_some]
  have ek:k=(nth (jb g.2 x) (j:Int)).2.1.toNat:=by rw[hk];rfl
  rw[ek,pA q3];simp only[Option.bind_some]
  have hb:(((jb g.2 x).take j).flatMap (nbA g a x s)).length≤30*((jb g.2 x).take j).length:=pB fun y hy=>KH G V hn hx hs (List.mem_of_mem_take hy)
  have ht:((jb g.2 x).take j).length≤24:=by rw[List.length_take];omega
  have h3:=TS (F:=fun z=>if z=x*a.2.1.length+s then ((jb g.2 x).take j).flatMap (nbA g a x s) else F z) (o1:=o1) (o2:=o2) (y:=nth (jb g.2 x) (j:Int)) (T:=behind a (s:Int) (nth g.1 (x:Int)) (nth (jb g.2 x) (j:Int)).2.1) (cN G V hn hx hs) (nN G V hn) (by simp only[if_true];omega) q2 (fun t ht=>by
   have h1:=OI G V hn hx hs hy _ (List.mem_map.2 ⟨t,ht,rfl⟩)
   have h2:=q1 t ht
   have:=nN G V hn
   omega)
  unfold behind at h3
  have h3:ai (cd a ((x:Int),o1) ((s:Int),o2) (nth (jb g.2 x) (j:Int)) (dz (afL a (nth (jb g.2 x) (j:Int)).2.1.toNat (dz (cS a (s:Int) (nth g.1 (x:Int))) 30)) 30)) aD (0,rm (a.2.1.length*g.1.length) fun z=>if z=x*a.2.1.length+s then ((jb g.2 x).take j).flatMap (nbA g a x s) else F z)=_:=h3
  rw[af h3,aa (by omega)]
  congr 3
  refine k8 fun z hz=>?_
  by_cases e:z=x*a.2.1.length+s
  ·subst e
   rw[if_pos rfl,if_pos rfl,rv hj,List.flatMap_append]
   simp[nbA,behind]
  ·simp only[if_neg e]) (by unfold cT;simp) (kp (by omega))
 rw[List.take_length] at this
 rw[show nbV g a x s=(jb g.2 x).flatMap (nbA g a x s) from rfl,←this]
 congr 2
 refine k8 fun z hz=>?_
 split
 ·rename_i e;subst e;rw[hF];simp
 ·rfl
theorem Sy {x s:Nat} (hs:s<a.2.1.length):nbC g a (x*a.2.1.length+s)=nbV g a x s:=by
 unfold nbC
 rw[Nat.mul_comm,Nat.mul_add_div (by omega),Nat.mul_add_mod,Nat.div_eq_of_lt hs,Nat.mod_eq_of_lt hs,Nat.add_zero]
theorem TV {x:Nat} {o1:List (List Int)} (hx:x<g.1.length) :
  ai (cU g a ((x:Int),o1) (jb g.2 x)) aD (0,rm (a.2.1.length*g.1.length) fun z=>if z<x*a.2.1.length then nbC g a z else [])=some (.brk ((a.2.1.length:Int),rm (a.2.1.length*g.1.length) fun z=>if z<(x+1)*a.2.1.length then nbC g a z else [])):=by
 have:=aA (f:=cU g a ((x:Int),o1) (jb g.2 x)) (fun j=>((j:Int),rm (a.2.1.length*g.1.length) fun z=>if z<x*a.2.1.length+j then nbC g a z else [])) a.2.1.length (fun j hj=>by
  unfold cU
  simp only
  rw[if_pos (by simp;omega)]
  have h2:=TU G V hn (F:=fun z=>if z<x*a.2.1.length+j then nbC g a z else []) (o1:=o1) (o2:=rm (a.2.1.length*g.1.length) fun z=>if z<x*a.2.1.length+j then nbC g a z else []) hx hj (by simp)
  rw[af h2,aa (by omega)]
  congr 3
  refine k8 fun z hz=>?_
  by_cases e:z=x*a.2.1.length+j
  ·subst e
   rw[if_pos rfl,if_pos (by omega),Sy G V hn hj]
  ·rw[if_neg e]
   by_cases e2:z<x*a.2.1.length+j
   ·rw[if_pos e2,if_pos (by omega)]
   ·rw[if_neg e2,if_neg (by omega)]) (by unfold cU;simp) (kp (by omega))
 rw[Nat.add_mul,Nat.one_mul]
 exact this
theorem QI:dg g a=some (rm (a.2.1.length*g.1.length) (nbC g a)):=by
 have hN:=nN G V hn
 unfold dg
 have ew:IntKind.i64.wrap ((a.2.1.length:Int)*(g.1.length:Int))=((a.2.1.length*g.1.length:Nat):Int):=by
  rw[show ((a.2.1.length:Int)*(g.1.length:Int))=((a.2.1.length*g.1.length:Nat):Int) from by simp,sD (by omega)]
 have ea:=Sw G
 have ea:rZ (g.1,g.2)=_:=ea
 rw[ew,OG (by omega),ea];simp only[Option.bind_some]
 have:=aA (f:=eF g a (rm g.1.length (jb g.2))) (fun j=>((j:Int),rm (a.2.1.length*g.1.length) fun z=>if z<j*a.2.1.length then nbC g a z else [])) g.1.length (fun j hj=>by
  unfold eF
  simp only
  rw[if_pos (by rw[xw];simp;omega),xx hj];simp only[Option.bind_some]
  rw[af (TV G V hn hj),aa (by have:=G.n5;omega)]) (by unfold eF;rw[xw];simp) (kp (by have:=G.n5;omega))
 have e0:(rm (a.2.1.length*g.1.length) fun _=>([] :List Int))=rm (a.2.1.length*g.1.length) fun z=>if z<0*a.2.1.length then nbC g a z else []:=k8 fun z hz=>by rw[if_neg (by omega)]
 rw[e0,show (0:Int)=((0:Nat):Int) from rfl,af this]
 congr 1
 refine k8 fun z hz=>?_
 rw[if_pos (by rw[Nat.mul_comm g.1.length];exact hz)]
end
end D
namespace D
open Go.RowKit
def UF {R S T:Type} (φ:S→T):Out R S→Out R T
 | .ret r=>.ret r
 | .nxt s=>.nxt (φ s)
 | .brk s=>.brk (φ s)
theorem CO {R S T:Type} {f:S→Option (Out R S)} {f':T→Option (Out R T)} (φ:S→T) (Inv:S→Prop)
  (h: ∀s,Inv s→f' (φ s)=(f s).map (UF φ)) (hi: ∀s s',Inv s→f s=some (.nxt s')→Inv s'): ∀n s,Inv s→ai f' n (φ s)=(ai f n s).map (UF φ)
 | 0,_,_=>rfl
 | n+1,s,hs=>by
  have e:=h s hs
  unfold ai
  rw[e]
  cases hf:f s with
  | none=>rfl
  | some o =>
   cases o with
   | ret r=>rfl
   | brk s'=>rfl
   | nxt s'=>exact CO φ Inv h hi n s' (hi s s' hs hf)
section
variable {a:AutT} {n:Nat} (V:VA a n) (hn:n≤12)
include V hn
theorem CP {s v:Int} (hs:0≤s∧s<n) (hv:0≤v∧v≤2):dA a s v=some (cS a s v:Int):=by
 have e:=(nk V hn hs hv).1
 have k:=CO (f:=cg a v) (f':=jn a v) (fun st=>(st.2,st.1)) (fun st=> -1≤st.2∧st.2<n) (by
  rintro ⟨m,s⟩ ⟨h0,h1⟩
  unfold jn cg
  simp only at h0 h1⊢
  by_cases c:0≤s
  ·simp only[decide_eq_true (show s≥0 from c),if_true,fY c,Option.bind_some]
   have ew:IntKind.i64.wrap (6+v)=(((6+v).toNat:Nat):Int):=by rw[cH (by omega) (by omega)];omega
   have e2:=CD V (s:=s) (k:=(6+v).toNat) c h1 (by omega)
   have e2:aW (a.1,a.2.1,a.2.2) s (((6+v).toNat:Nat):Int)=_:=e2
   rw[ew,e2,V.get c h1];simp only[Option.bind_some]
   rw[V.get2 c h1 (by omega)];simp only[Option.bind_some]
   split <;> rfl
  ·simp only[decide_eq_false (show¬s≥0 from c),Bool.false_eq_true,if_false];rfl) (by
  rintro ⟨m,s⟩ ⟨m',s'⟩ ⟨h0,h1⟩ hf
  unfold cg at hf
  simp only at h0 h1 hf⊢
  by_cases c:0≤s
  ·simp only[decide_eq_true (show s≥0 from c),if_true,fY c,Option.bind_some] at hf
   have ew:IntKind.i64.wrap (6+v)=(((6+v).toNat:Nat):Int):=by rw[cH (by omega) (by omega)];omega
   have e2:=CD V (s:=s) (k:=(6+v).toNat) c h1 (by omega)
   have e2:aW (a.1,a.2.1,a.2.2) s (((6+v).toNat:Nat):Int)=_:=e2
   rw[ew,e2] at hf;simp only[Option.bind_some] at hf
   split at hf
   ·cases hf
    exact V.mv c h1 (by omega)
   ·cases hf
  ·simp only[decide_eq_false (show¬s≥0 from c),Bool.false_eq_true,if_false] at hf;cases hf) aD (0,s) ⟨by simp only;omega,hs.2⟩
 unfold dC at e
 unfold dA
 simp only at k
 rw[k]
 cases hl:ai (cg a v) aD (0,s) with
 | none=>rw[hl] at e;cases e
 | some o =>
  rw[hl] at e
  cases o with
  | ret r=>exact e
  | brk s'=>exact e
  | nxt s'=>cases e
end
def xE (y:ArT):Int×Bool:=y.1
theorem Sz {g:GrT} (G:GOk g) {x:Nat} :mP g x=some ((jb g.2 x).map xE):=by
 unfold mP
 have:=aA (f:=iH g x) (fun i=>((jb (g.2.take i) x).map xE,(i:Int))) g.2.length (fun i hi=>by
  unfold iH
  simp only
  have hm:=G.m
  have l1:=qc (g.2.take i) x
  have l3:(g.2.take i).length≤12:=by rw[List.length_take];omega
  rw[if_pos (by simp;omega),aj (by omega) (by omega)];simp only[Option.bind_some]
  rw[rv hi,aa (by omega)]
  generalize nth g.2 (i:Int)=e
  have ea:jb (g.2.take i++ [e]) x=jb (g.2.take i) x++OH e x:=by simp[jb]
  rw[ea,List.map_append]
  generalize hL:(jb (g.2.take i) x).map xE=L
  have hl:L.length≤24:=by rw[←hL,List.length_map];omega
  unfold OH
  by_cases c1:e.2.1=(x:Int)
  ·rw[if_pos (by simpa using c1),if_pos c1,aw (by simp;omega)];simp only[Option.bind_some]
   by_cases c2:e.2.2.1=(x:Int)
   ·rw[if_pos (by simpa using c2),if_pos c2,aw (by simp;omega)];simp[xE,fwd,inv]
   ·rw[if_neg (by simpa using c2),if_neg c2];simp[xE,fwd,inv]
  ·rw[if_neg (by simpa using c1),if_neg c1];simp only[Option.bind_some]
   by_cases c2:e.2.2.1=(x:Int)
   ·rw[if_pos (by simpa using c2),if_pos c2,aw (by simp;omega)];simp[xE,fwd,inv]
   ·rw[if_neg (by simpa using c2),if_neg c2];simp[xE,fwd,inv]) (by unfold iH;simp) (kp (by have:=G.m;omega))
 have this:ai (iH g x) aD (([] :List (Int×Bool)),0)=_:=this
 rw[this,List.take_length];rfl
theorem FW {g:GrT} (G:GOk g) {j:Nat} (hj:j<g.2.length):fO g (nth g.2 (j:Int)).1=some (j:Int):=by
 unfold fO
 have hm:=G.m
 obtain ⟨o,e,hq⟩:=cJ (f:=ky g (nth g.2 (j:Int)).1) (fun i s=>s=(i:Int)∧i≤j) (fun o=>o= .ret (j:Int)) 12 (s:=0) (by
  rintro i s hi ⟨rfl,hij⟩
  unfold ky
  rw[if_pos (by simp;omega),aj (by omega) (by omega)];simp only[Option.bind_some]
  by_cases c:i=j
  ·subst c
   exact .inr ⟨_,by rw[if_pos (by simp)],(fun s' e=>by cases e),rfl⟩
  ·have h1:=G.lt (i:=i) (j:=j) (by omega) hj
   exact .inl ⟨by omega,_,by rw[if_neg (by simp;omega),aa (by omega)],rfl,by omega⟩) ⟨rfl,by omega⟩ (by unfold aD;omega)
 subst hq
 rw[e];rfl
theorem NB {g:GrT} (G:GOk g) {x:Nat} {y:ArT} (h:y∈jb g.2 x): ∃(j:Int) (e:EdT),fO g y.1.1=some j∧az g.2 j=some e∧ez e y.1.2=some y.2.1∧lA e y.1.2=some y.2.2:=by
 obtain ⟨e,he,hy⟩:=List.mem_flatMap.1 h
 obtain ⟨j,hj,rfl⟩:=AA he
 obtain ⟨h1,h2,h3⟩:=G.edge _ he
 refine ⟨j,nth g.2 (j:Int),?_,aj (by omega) (by omega),?_,?_⟩
 all_goals
  unfold OH at hy
  rcases List.mem_append.1 hy with hy | hy <;> split at hy
  ·obtain rfl:=List.mem_singleton.1 hy
   simp only[fwd]
   first | exact FW G hj | (unfold ez;rw[cH (n:=2*_) (by omega) (by omega)];rfl) | (unfold lA;rfl)
  ·cases hy
  ·obtain rfl:=List.mem_singleton.1 hy
   simp only[inv]
   first | exact FW G hj | (unfold ez;rw[cH (n:=2*_) (by omega) (by omega),cH (by omega) (by omega)];rfl) | (unfold lA;rfl)
  ·cases hy
abbrev QJ:=(Int×Bool)×Int×Int
def stA (g:GrT) (a:AutT) (x s:Nat) (y:ArT):List QJ:=(behind a s (nth g.1 x) y.2.1).map fun t=>(y.1,y.2.2,t)
def stV (g:GrT) (a:AutT) (x s:Nat):List QJ:=(jb g.2 x).flatMap (stA g a x s)
theorem SA (g:GrT) (a:AutT) (x s:Nat):(stV g a x s).map (fun p=>p.2.1*(a.2.1.length:Int)+p.2.2)=nbV g a x s:=by
 unfold stV nbV
 rw[List.map_flatMap]
 congr 1
 funext y
 unfold stA nbA
 rw[List.map_map];rfl
section
variable {g:GrT} {a:AutT} (G:GOk g) (V:VA a a.2.1.length) (hn:a.2.1.length≤12)
include G V hn
theorem QK {x s:Nat} {y:ArT} (hx:x<g.1.length) (hs:s<a.2.1.length) (hy:y∈jb g.2 x):(stA g a x s y).length≤30:=by
 unfold stA;rw[List.length_map]
 exact (sQ G V hn (s:=s) ⟨by omega,by omega⟩ (G.val _ (bg (by omega) (by omega))) (xy G hy).1).2.1
theorem TW {x:Nat} {i:Nat} {e:EdT} {o:List QJ} {y:ArT} {C:Nat} (hC:C<2 ^ a.2.1.length) (hy:y∈jb g.2 x) (hi:az ((jb g.2 x).map xE) (i:Int)=some (xE y)) (he:ez e y.1.2=some y.2.1) :
  ai (fp a (C:Int) ((jb g.2 x).map xE) (o,(i:Int)) e) aD (0,0)=some (.brk ((afS a y.2.1.toNat C a.2.1.length:Int),(a.2.1.length:Int))):=by
 obtain ⟨k0,k1⟩:=(xy G hy).1
 have:=aA (f:=fp a (C:Int) ((jb g.2 x).map xE) (o,(i:Int)) e) (fun q=>((afS a y.2.1.toNat C q:Int),(q:Int))) a.2.1.length (fun q hq=>by
  unfold fp
  simp only
  have he:ez (e.1,e.2.1,e.2.2.1,e.2.2.2) (xE y).2=some y.2.1:=he
  have ek:y.2.1=((y.2.1.toNat:Nat):Int):=by omega
  have em:=V.get2 (s:=(q:Int)) (k:=y.2.1.toNat) (by omega) (by omega) (by omega)
  rw[←ek] at em
  have hlt:=KE V (k:=y.2.1.toNat) (C:=C) (by omega) q (by omega)
  have hC':C<2 ^ 62:=Nat.lt_of_lt_of_le hC (p62 (by omega))
  have hmv:=(V.mv (s:=(q:Int)) (k:=y.2.1.toNat) (by omega) (by omega) (by omega)).2
  rw[if_pos (by simp;omega),V.get (by omega) (by omega)];simp only[Option.bind_some]
  rw[hi];simp only[Option.bind_some]
  rw[he];simp only[Option.bind_some]
  rw[em];simp only[Option.bind_some]
  rw[fY (by omega),xu hC' (by omega),aa (by omega),afS];simp only[Option.bind_some]
  by_cases b:C.testBit q=true
  ·rw[if_pos b]
   by_cases c:0≤D.mv a (q:Int) y.2.1.toNat
   ·obtain ⟨t,ht⟩: ∃t:Nat,D.mv a (q:Int) y.2.1.toNat=(t:Int):=⟨_,(Int.toNat_of_nonneg c).symm⟩
    rw[if_pos (by simpa using c),if_pos ⟨b,c⟩,fY c,ht,tU (by omega),FV (Nat.lt_of_lt_of_le hlt (p62 (by omega))) (Nat.pow_lt_pow_right (by decide) (by omega))];rfl
   ·rw[if_neg (by simpa using c),if_neg (fun h=>c h.2)];rfl
  ·rw[if_neg b,if_neg (fun h=>b h.1)];rfl) (by unfold fp;simp) (kp (by omega))
 exact this
theorem TX {x:Nat} {i:Nat} {e:EdT} {o:List QJ} {y:ArT} {m:Nat} (hm:m<2 ^ a.2.1.length) (ho:o.length≤100000) (hi:az ((jb g.2 x).map xE) (i:Int)=some (xE y)) (he:lA e y.1.2=some y.2.2) {z:Int} :
  ai (fq a ((jb g.2 x).map xE) (o,(i:Int)) e ((m:Int),z)) aD (o,0)=some (.brk (o++(dz m 30).map (fun t=>(y.1,y.2.2,t)),(a.2.1.length:Int))):=by
 have:=aA (f:=fq a ((jb g.2 x).map xE) (o,(i:Int)) e ((m:Int),z)) (fun q=>(o++(dz m q).map (fun t=>(y.1,y.2.2,t)),(q:Int))) a.2.1.length (fun q hq=>by
  unfold fq
  simp only
  have he:lA (e.1,e.2.1,e.2.2.1,e.2.2.2) (xE y).2=some y.2.2:=he
  have hm':m<2 ^ 62:=Nat.lt_of_lt_of_le hm (p62 (by omega))
  have hl:=ko m q
  rw[if_pos (by simp;omega),fY (by omega),xu hm' (by omega),aa (by omega),iq];simp only[Option.bind_some]
  by_cases b:m.testBit q=true
  ·rw[if_pos b,if_pos b,hi];simp only[Option.bind_some]
   rw[he];simp only[Option.bind_some]
   rw[aw (by simp;omega)];simp only[Option.bind_some,List.map_append,List.append_assoc];rfl
  ·rw[if_neg b,if_neg b];rfl) (by unfold fq;simp) (kp (by omega))
 rw[qb hm (show a.2.1.length≤30 by omega)]
 simpa [dz] using this
theorem QL {x s:Nat} (hx:x<g.1.length) (hs:s<a.2.1.length):gY g a x s=some (stV g a x s):=by
 have hv:=G.val _ (bg (xs:=g.1) (i:=(x:Int)) (by omega) (by omega))
 have ec:=CP V hn (s:=(s:Int)) ⟨by omega,by omega⟩ hv
 have hC:=(nk V hn (s:=(s:Int)) ⟨by omega,by omega⟩ hv).2
 unfold gY
 rw[aj (by omega) (by omega)];simp only[Option.bind_some]
 have ec:dA (a.1,a.2.1,a.2.2) (s:Int) (nth g.1 (x:Int))=_:=ec
 have ef:mP (g.1,g.2) (x:Int)=_:=Sz G
 rw[ec,ef];simp only[Option.bind_some]
 generalize hCC:cS a (s:Int) (nth g.1 (x:Int))=C at hC
 have l1:=qc g.2 x
 have hm:=G.m
 have:=aA (f:=fu g a (C:Int) ((jb g.2 x).map xE)) (fun i=>(((jb g.2 x).take i).flatMap (stA g a x s),(i:Int))) (jb g.2 x).length (fun i hi=>by
  unfold fu
  simp only
  have hy:=List.getElem_mem hi
  generalize hyy:(jb g.2 x)[i] =y at hy
  have hi2:az ((jb g.2 x).map xE) (i:Int)=some (xE y):=by rw[aq (by simpa using hi)];simp[hyy]
  obtain ⟨j,e,e1,e2,e3,e4⟩:=NB G hy
  obtain ⟨k0,k1⟩:=(xy G hy).1
  rw[if_pos (by simp;omega),hi2];simp only[Option.bind_some]
  have e1:fO (g.1,g.2) (xE y).1=_:=e1
  rw[e1];simp only[Option.bind_some]
  rw[e2];simp only[Option.bind_some]
  rw[af (TW G V hn hC hy hi2 e3)]
  have hlt:=KE V (k:=y.2.1.toNat) (C:=C) (by omega) a.2.1.length (Nat.le_refl _)
  have hol:=pB (f:=stA g a x s) (B:=30) (xs:=(jb g.2 x).take i) fun z hz=>QK G V hn hx hs (List.mem_of_mem_take hz)
  have hol2:((jb g.2 x).take i).length≤24:=by rw[List.length_take];omega
  rw[af (TX G V hn hlt (by omega) hi2 e4),aa (by omega)]
  congr 3
  have et:(jb g.2 x).take (i+1)=(jb g.2 x).take i++ [y]:=by rw[List.take_add_one];simp[hi,hyy]
  rw[et,List.flatMap_append]
  congr 1
  simp only[List.flatMap_cons,List.flatMap_nil,List.append_nil]
  unfold stA behind
  rw[hCC,qb hC (show a.2.1.length≤30 by omega),Ew]) (by unfold fu;simp) (kp (by omega))
 rw[List.take_length] at this
 have this:ai (fu g a (C:Int) ((jb g.2 x).map xE)) aD (([] :List QJ),0)=_:=this
 rw[af this];rfl
end
end D
namespace D
open Go.RowKit
abbrev BfT:=List Int×List Int
def OJ (d:Int) (s:BfT) (x:Int):BfT:=if nth s.1 x<0 then (s.1.set x.toNat d,s.2++ [x]) else s
def zn (d:Int) (s:BfT) (xs:List Int):BfT:=xs.foldl (OJ d) s
theorem CQ (d:Int) (s:BfT) (xs:List Int) (x:Int):zn d s (xs++ [x])=OJ d (zn d s xs) x:=by simp[zn]
structure BI (N:Nat) (s:BfT):Prop where
 len:s.1.length=N
 nd:s.2.Nodup
 rng: ∀x∈s.2,0≤x∧x<N
 seen: ∀x:Int,0≤x→x<N→(nth s.1 x<0↔x∉s.2)
 top: ∀x:Int,0≤x→x<N→ -1≤nth s.1 x∧nth s.1 x<s.2.length
theorem BI.le {N:Nat} {s:BfT} (h:BI N s):s.2.length≤N:=by
 have:=h.nd.length_le_of_subset (l₂:=(List.range N).map fun i:Nat=>(i:Int)) (fun x hx=>by
  obtain ⟨h0,h1⟩:=h.rng x hx
  exact List.mem_map.2 ⟨x.toNat,List.mem_range.2 (by omega),by omega⟩)
 simpa using this
theorem BI.one {N:Nat} {s:BfT} (h:BI N s) {d x:Int} (hx:0≤x∧x<N) (hd:0≤d∧d≤s.2.length):BI N (OJ d s x)∧s.2 <+:(OJ d s x).2∧ ∀y,0≤y→0≤nth s.1 y→nth (OJ d s x).1 y=nth s.1 y:=by
 unfold OJ
 split
 ·rename_i hn
  have hnot:=(h.seen x hx.1 hx.2).1 hn
  refine ⟨⟨by simp[h.len],?_,?_,?_,?_⟩,List.prefix_append _ _,?_⟩
  ·exact List.nodup_append.2 ⟨h.nd,by simp,by rintro a ha b hb rfl;simp at hb;exact hnot (hb ▸ ha)⟩
  ·intro y hy
   rcases List.mem_append.1 hy with hy | hy
   ·exact h.rng y hy
   ·obtain rfl:y=x:=by simpa using hy
    exact hx
  ·intro y h0 h1
   by_cases e:x=y
   ·subst e
    rw[mu hx.1 (by rw[h.len];exact hx.2)]
    simp;omega
   ·rw[p9 hx.1 h0 e,h.seen y h0 h1]
    simp;omega
  ·intro y h0 h1
   by_cases e:x=y
   ·subst e
    rw[mu hx.1 (by rw[h.len];exact hx.2)]
    simp;omega
   ·rw[p9 hx.1 h0 e]
    have:=h.top y h0 h1
    simp;omega
  ·intro y h0 h1
   refine p9 hx.1 h0 ?_
   rintro rfl
   omega
 ·exact ⟨h,List.prefix_refl _,fun y _ _=>rfl⟩
theorem BI.all {N:Nat} {d:Int} : ∀ {xs:List Int} {s:BfT},BI N s→(∀x∈xs,0≤x∧x<N)→(0≤d∧d≤s.2.length)→BI N (zn d s xs)∧s.2 <+:(zn d s xs).2∧ ∀y,0≤y→0≤nth s.1 y→nth (zn d s xs).1 y=nth s.1 y
 | [],s,h,_,_=>⟨h,List.prefix_refl _,fun _ _ _=>rfl⟩
 | x::xs,s,h,hx,hd=>by
  obtain ⟨h1,h2,h3⟩:=h.one (hx x (by simp)) hd
  have hl:=h2.length_le
  obtain ⟨k1,k2,k3⟩:=BI.all (xs:=xs) h1 (fun y hy=>hx y (by simp[hy])) ⟨hd.1,by omega⟩
  refine ⟨k1,h2.trans k2,fun y h0 hy=>?_⟩
  have e:=h3 y h0 hy
  exact (k3 y h0 (by rw[e];exact hy)).trans e
def bsS (nx:Int→List Int) (N:Nat) (v:Int):Nat→BfT
 | 0=>((List.replicate N (-1)).set v.toNat 0,[v])
 | i+1=>match (bsS nx N v i).2[i]? with
  | some x=>zn (nth (bsS nx N v i).1 x+1) (bsS nx N v i) (nx x)
  | none=>bsS nx N v i
section
variable {nx:Int→List Int} {N:Nat} {v:Int} (hv:0≤v∧v<N) (hn: ∀x:Int,0≤x→x<N→ ∀y∈nx x,0≤y∧y<N)
include hv
theorem QM {x:Int} (h0:0≤x) (h1:x<N):nth (List.replicate N (-1:Int)) x= -1:=by
 have:x.toNat<N:=by omega
 simp[nth,List.getD_eq_getElem?_getD,List.getElem?_replicate,this]
theorem BI.zero:BI N (bsS nx N v 0):=by
 refine ⟨by simp[bsS],by simp[bsS],fun x hx=>?_,fun x h0 h1=>?_,fun x h0 h1=>?_⟩
 ·obtain rfl:x=v:=by simpa [bsS] using hx
  exact hv
 all_goals
  unfold bsS
  by_cases e:v=x
  ·subst e
   rw[mu hv.1 (by simpa using hv.2)]
   simp
  ·rw[p9 hv.1 h0 e,QM hv h0 h1]
   first | omega | (simp;omega) | simp
include hn
theorem AZ {i:Nat} (h:BI N (bsS nx N v i)):BI N (bsS nx N v (i+1))∧(bsS nx N v i).2 <+:(bsS nx N v (i+1)).2:=by
 rw[bsS]
 split
 ·rename_i x hx
  have hm:=List.mem_of_getElem? hx
  obtain ⟨x0,x1⟩:=h.rng x hm
  have hp: ¬nth (bsS nx N v i).1 x<0:=fun c=>(h.seen x x0 x1).1 c hm
  have ht:=h.top x x0 x1
  obtain ⟨k1,k2,_⟩:=h.all (xs:=nx x) (d:=nth (bsS nx N v i).1 x+1) (hn x x0 x1) ⟨by omega,by omega⟩
  exact ⟨k1,k2⟩
 ·exact ⟨h,List.prefix_refl _⟩
theorem xz: ∀i,BI N (bsS nx N v i)
 | 0=>BI.zero hv
 | i+1=>(AZ hv hn (xz i)).1
theorem KI: ∃K,K≤N∧K=(bsS nx N v K).2.length∧ ∀i,i<K→i<(bsS nx N v i).2.length:=by
 have key: ∀m i,i+m=N→(∀j,j<i→j<(bsS nx N v j).2.length)→ ∃K,K≤N∧K=(bsS nx N v K).2.length∧ ∀i,i<K→i<(bsS nx N v i).2.length:=by
  have hge: ∀i,(∀j,j<i→j<(bsS nx N v j).2.length)→i≤(bsS nx N v i).2.length:=by
   intro i hj
   cases i with
   | zero=>omega
   | succ i =>
    have:=hj i (by omega)
    have hp:=(AZ hv hn (xz hv hn i)).2.length_le
    omega
  intro m
  induction m with
  | zero =>
   intro i hi hj
   have h1:=(xz hv hn i).le
   have h2:=hge i hj
   exact ⟨i,by omega,by omega,hj⟩
  | succ m ih =>
   intro i hi hj
   by_cases h:i<(bsS nx N v i).2.length
   ·exact ih (i+1) (by omega) fun j hj'=>by
     by_cases e:j=i
     ·subst e;exact h
     ·exact hj j (by omega)
   ·have h2:=hge i hj
    exact ⟨i,by omega,by omega,hj⟩
 exact key N 0 (by omega) (by omega)
end
end D
namespace D
open Go.RowKit
theorem QN:(List.range 61).all (fun N=>decide (br [-1] (N:Int)=some (List.replicate N (-1))))=true:=by kernel_rfl
theorem TY {N:Nat} (h:N≤60):br [-1] (N:Int)=some (List.replicate N (-1)):=
 of_decide_eq_true (List.all_eq_true.1 QN N (List.mem_range.2 (by omega)))
theorem NC {α:Type} {xs:List α} {i:Nat} {x:α} (h:i≤xs.length):(xs++ [x]).drop i=xs.drop i++ [x]:=List.drop_append_of_le_length h
theorem zo {α:Type} {xs:List α} {i:Nat} {x:α} (h:xs[i]? =some x):az (xs.drop i) 0=some x:=by
 unfold az
 rw[if_pos (by decide)]
 simpa using h
section
variable {nx:Int→List Int} {N:Nat} {v:Int} (hN:N≤60) (hv:0≤v∧v<N) (hn: ∀x:Int,0≤x→x<N→ ∀y∈nx x,0≤y∧y<N) (hl: ∀x,(nx x).length≤100000)
include hN hv hn hl
theorem QO {i:Nat} {x:Int} (hx:(bsS nx N v i).2[i]? =some x) (j:Nat) :
  BI N (zn (nth (bsS nx N v i).1 x+1) (bsS nx N v i) ((nx x).take j))∧(zn (nth (bsS nx N v i).1 x+1) (bsS nx N v i) ((nx x).take j)).2[i]? =some x∧nth (zn (nth (bsS nx N v i).1 x+1) (bsS nx N v i) ((nx x).take j)).1 x=nth (bsS nx N v i).1 x∧(0≤x∧x<N)∧(0≤nth (bsS nx N v i).1 x∧nth (bsS nx N v i).1 x<60)∧i<(zn (nth (bsS nx N v i).1 x+1) (bsS nx N v i) ((nx x).take j)).2.length:=by
 have h:=xz hv hn i
 have hm:=List.mem_of_getElem? hx
 obtain ⟨x0,x1⟩:=h.rng x hm
 have hp: ¬nth (bsS nx N v i).1 x<0:=fun c=>(h.seen x x0 x1).1 c hm
 have ht:=h.top x x0 x1
 have hle:=h.le
 obtain ⟨k1,k2,k3⟩:=h.all (xs:=(nx x).take j) (d:=nth (bsS nx N v i).1 x+1) (fun y hy=>hn x x0 x1 y (List.mem_of_mem_take hy)) ⟨by omega,by omega⟩
 obtain ⟨t,ht'⟩:=k2
 have hi:=(List.getElem?_eq_some_iff.1 hx).1
 have e:(zn (nth (bsS nx N v i).1 x+1) (bsS nx N v i) ((nx x).take j)).2[i]? =some x:=by
  rw[←ht',List.getElem?_append_left hi,hx]
 exact ⟨k1,e,k3 x x0 (by omega),⟨x0,x1⟩,⟨by omega,by omega⟩,(List.getElem?_eq_some_iff.1 e).1⟩
theorem T0 {i:Nat} {x:Int} (hx:(bsS nx N v i).2[i]? =some x) :
  ai (iO (nx x)) aD ((bsS nx N v i).2.drop i,0,(bsS nx N v i).1)=some (.brk ((bsS nx N v (i+1)).2.drop i,((nx x).length:Int),(bsS nx N v (i+1)).1)):=by
 have:=aA (f:=iO (nx x)) (fun j=>((zn (nth (bsS nx N v i).1 x+1) (bsS nx N v i) ((nx x).take j)).2.drop i,(j:Int),(zn (nth (bsS nx N v i).1 x+1) (bsS nx N v i) ((nx x).take j)).1)) (nx x).length (fun j hj=>by
  have hlx:=hl x
  obtain ⟨k1,k2,k3,⟨x0,x1⟩,k4,k5⟩:=QO hN hv hn hl hx j
  have hy:=hn x x0 x1 _ (bg (xs:=nx x) (i:=(j:Int)) (by omega) (by omega))
  unfold iO
  simp only
  rw[rv hj,CQ]
  generalize zn (nth (bsS nx N v i).1 x+1) (bsS nx N v i) ((nx x).take j)=s at k1 k2 k3 k5
  have hle:=k1.le
  have hlen:=k1.len
  rw[if_pos (by simp;omega),aj (by omega) (by omega)];simp only[Option.bind_some]
  rw[aj (xs:=s.1) hy.1 (by omega)];simp only[Option.bind_some]
  rw[zo k2];simp only[Option.bind_some]
  rw[aj (xs:=s.1) x0 (by omega)];simp only[Option.bind_some]
  rw[aw (by simp;omega),aa (by omega),k3,cH (by omega) (by omega)]
  unfold OJ
  by_cases c:nth s.1 (nth (nx x) (j:Int))<0
  ·rw[if_pos (by simpa using c),if_pos c,NC (by omega)];rfl
  ·rw[if_neg (by simpa using c),if_neg c];rfl) (by unfold iO;simp) (kp (by have:=hl x;omega))
 rw[List.take_length] at this
 have e:bsS nx N v (i+1)=zn (nth (bsS nx N v i).1 x+1) (bsS nx N v i) (nx x):=by rw[bsS,hx]
 rw[e]
 exact this
theorem ND {K:Nat} (hK:K≤N) (hE:K=(bsS nx N v K).2.length) (hR: ∀i,i<K→i<(bsS nx N v i).2.length):pV (rm N fun z=>nx (z:Int)) [v] =some (bsS nx N v K).1:=by
 unfold pV
 rw[xw,TY hN];simp only[Option.bind_some]
 have e0:ai (iN [v]) aD (([] :List Int),0,List.replicate N (-1))=some (.brk ([v],1,(bsS nx N v 0).1)):=by
  have:=aA (f:=iN [v]) (fun j=>if j=0 then (([] :List Int),(0:Int),List.replicate N (-1:Int)) else ([v],1,(bsS nx N v 0).1)) 1 (fun j hj=>by
   obtain rfl:j=0:=by omega
   unfold iN
   simp only[if_true]
   rw[if_pos (by simp),show az [v] 0=some v from rfl];simp only[Option.bind_some]
   rw[aj (xs:=List.replicate N (-1)) hv.1 (by simpa using hv.2)];simp only[Option.bind_some]
   rw[aw (by simp)];rfl) (by unfold iN;simp) (by unfold aD;omega)
  exact this
 rw[af e0]
 have:=aA (f:=iP (rm N fun z=>nx (z:Int))) (fun i=>((bsS nx N v i).2.drop i,(bsS nx N v i).1)) K (fun i hi=>by
  have hi2:=hR i hi
  obtain ⟨x,hx⟩: ∃x,(bsS nx N v i).2[i]? =some x:=⟨_,List.getElem?_eq_getElem hi2⟩
  obtain ⟨k1,k2,k3,⟨x0,x1⟩,k4,k5⟩:=QO hN hv hn hl hx 0
  unfold iP
  simp only
  rw[if_pos (by simp;omega),zo hx];simp only[Option.bind_some]
  obtain ⟨z,rfl⟩: ∃z:Nat,x=(z:Int):=⟨_,(Int.toNat_of_nonneg x0).symm⟩
  rw[xx (by omega)];simp only[Option.bind_some]
  rw[af (T0 hN hv hn hl hx)]
  have hp:=(AZ hv hn (xz hv hn i)).2.length_le
  rw[fY (by simp;omega)];simp only[Option.bind_some]
  rw[List.drop_drop]) (by
  unfold iP
  rw[if_neg (by simp;omega)]) (kp (by omega))
 have this:ai (iP (rm N fun z=>nx (z:Int))) aD ([v],(bsS nx N v 0).1)=_:=this
 rw[af this]
end
end D
namespace D
open Go.RowKit
theorem A0 {n:Nat} {r:List Int} :(∀t∈r,-1≤t∧t≤(n:Int) - 1)↔ ∀t∈r,-1≤t∧t<(n:Int):=forall_congr' fun t=>forall_congr' fun _=>and_congr Iff.rfl (by omega)
theorem SB (a:AutT) (h1:a.2.1.length≤9223372036854775807) (h2:a.2.2.length≤9223372036854775807): ∃b,lz a=some b∧(b=true↔VA a a.2.1.length):=by
 unfold lz
 rw[Qq];simp only[Option.bind_some,lP h1]
 by_cases c1:0≤a.1∧a.1≤(a.2.1.length:Int) - 1
 case neg=>exact ⟨false,by rw[if_neg (by simpa using c1)],by simp;exact fun h=>c1 ⟨h.start.1,by have:=h.start.2;omega⟩⟩
 rw[if_pos (by simpa using c1)]
 by_cases c2:a.2.2.length=a.2.1.length
 case neg=>exact ⟨false,by rw[if_pos (by simp;omega)],by simp;exact fun h=>c2 h.nlen⟩
 rw[if_neg (by simp;omega)]
 have inner: ∀i:Nat,i<a.2.2.length→(nth a.2.2 i).length=9→(ai (eR a i) aD 0=some (.brk 9)∧ ∀t∈nth a.2.2 (i:Int),-1≤t∧t≤(a.2.1.length:Int) - 1)∨(ai (eR a i) aD 0=some (.ret false)∧ ¬ ∀t∈nth a.2.2 (i:Int),-1≤t∧t≤(a.2.1.length:Int) - 1):=by
  intro i hi hr
  have:=scan (f:=eR a i) (nth a.2.2 (i:Int)) (fun t=> -1≤t∧t≤(a.2.1.length:Int) - 1) false (by omega) (fun j hj=>by
   unfold eR
   rw[if_pos (by simp;omega),aj (by omega) (by omega)];simp only[Option.bind_some]
   rw[aj (by omega) (by omega)];simp only[Option.bind_some,lP h1]
   rw[Qq];simp only[Option.bind_some,aa (show j<9223372036854775807 by omega)]
   by_cases c: -1≤nth (nth a.2.2 (i:Int)) (j:Int)∧nth (nth a.2.2 (i:Int)) (j:Int)≤(a.2.1.length:Int) - 1
   ·rw[if_pos (by simpa using c),if_pos c]
   ·rw[if_neg (by simpa using c),if_neg c]) (by unfold eR;rw[if_neg (by simp[hr])])
  rwa [hr] at this
 have outer:=scan (f:=jK a) a.2.2 (fun r=>r.length=9∧ ∀t∈r,-1≤t∧t≤(a.2.1.length:Int) - 1) false h2 (fun i hi=>by
  unfold jK
  rw[if_pos (by simp;omega),aj (by omega) (by omega)];simp only[Option.bind_some]
  by_cases c:(nth a.2.2 (i:Int)).length=9
  ·rw[if_neg (by simp;omega)]
   rcases inner i hi c with ⟨e,k⟩ | ⟨e,k⟩
   ·rw[af e,if_pos ⟨c,k⟩,aa (show i<9223372036854775807 by omega)]
   ·rw[bE e,if_neg (fun h=>k h.2)]
  ·rw[if_pos (by simp;omega),if_neg (fun h=>c h.1)]) (by unfold jK;rw[if_neg (by simp;omega)])
 rcases outer with ⟨e,k⟩ | ⟨e,k⟩
 ·exact ⟨true,by rw[af e],by simp;exact ⟨rfl,⟨c1.1,by omega⟩,c2,fun r hr=>(k r hr).1,fun r hr=>A0.1 (k r hr).2⟩⟩
 ·exact ⟨false,by rw[bE e],by simp;exact fun h=>k fun r hr=>⟨h.row r hr,A0.2 (h.ent r hr)⟩⟩
theorem QP (a:AutT) (h1:a.2.1.length≤9223372036854775807) (h2:a.2.2.length≤9223372036854775807): ∃b,bT a=some b∧(b=true↔a.2.1.length≤12∧VA a a.2.1.length):=by
 unfold bT
 by_cases c:a.2.1.length≤12
 ·rw[if_pos (by simp;omega)]
  obtain ⟨b,e,hb⟩:=SB a h1 h2
  exact ⟨b,by show (lz a).bind _=_;rw[e];rfl,by rw[hb];simp[c]⟩
 ·exact ⟨false,by rw[if_neg (by simp;omega)],by simp;exact fun h=>absurd h c⟩
theorem QQ (a:AutT) (h1:a.2.1.length≤9223372036854775807) (h2:a.2.2.length≤9223372036854775807) (h3: ∀r∈a.2.2,r.length≤9223372036854775807): ∃b,bA a=some b∧(b=true↔a.2.1.length≤12∧VA a a.2.1.length):=by
 unfold bA
 rw[HB];simp only[Option.bind_some,lP h1]
 by_cases c0:1≤(a.2.1.length:Int)∧(a.2.1.length:Int)≤12
 case neg=>exact ⟨false,by rw[if_neg (by simpa using c0)],by simp;exact fun h h'=>c0 ⟨by have:=h'.start;omega,by omega⟩⟩
 rw[if_pos (by simpa using c0),HB];simp only[Option.bind_some]
 by_cases c1:0≤a.1∧a.1≤(a.2.1.length:Int) - 1
 case neg=>exact ⟨false,by rw[if_neg (by simpa using c1)],by simp;exact fun _ h=>c1 ⟨h.start.1,by have:=h.start.2;omega⟩⟩
 rw[if_pos (by simpa using c1)]
 by_cases c2:a.2.2.length=a.2.1.length
 case neg=>exact ⟨false,by rw[if_pos (by simp;omega)],by simp;exact fun _ h=>c2 h.nlen⟩
 rw[if_neg (by simp;omega)]
 have inner: ∀x:List Int,x.length≤9223372036854775807→(ai (bt a x) aD 0=some (.brk (x.length:Int))∧ ∀t∈x,-1≤t∧t≤(a.2.1.length:Int) - 1)∨(ai (bt a x) aD 0=some (.ret false)∧ ¬ ∀t∈x,-1≤t∧t≤(a.2.1.length:Int) - 1):=by
  intro x hx
  refine scan (f:=bt a x) x (fun t=> -1≤t∧t≤(a.2.1.length:Int) - 1) false hx (fun j hj=>?_) (by unfold bt;rw[if_neg (by simp)])
  unfold bt
  rw[if_pos (by simp;omega),aj (by omega) (by omega)];simp only[Option.bind_some,lP h1]
  rw[HB];simp only[Option.bind_some,aa (show j<9223372036854775807 by omega)]
  by_cases c: -1≤nth x (j:Int)∧nth x (j:Int)≤(a.2.1.length:Int) - 1
  ·rw[if_pos (by simpa using c),if_pos c]
  ·rw[if_neg (by simpa using c),if_neg c]
 have outer:=scan (f:=cF a) a.2.2 (fun r=>(∀t∈r,-1≤t∧t≤(a.2.1.length:Int) - 1)∧r.length=9) false h2 (fun i hi=>by
  unfold cF
  rw[if_pos (by simp;omega),aj (by omega) (by omega)];simp only[Option.bind_some]
  rcases inner (nth a.2.2 (i:Int)) (h3 _ (bg (by omega) (by omega))) with ⟨e,k⟩ | ⟨e,k⟩
  ·rw[af e]
   by_cases c:(nth a.2.2 (i:Int)).length=9
   ·rw[if_neg (by simp;omega),if_pos ⟨k,c⟩,aa (show i<9223372036854775807 by omega)]
   ·rw[if_pos (by simp;omega),if_neg (fun h=>c h.2)]
  ·rw[bE e,if_neg (fun h=>k h.1)]) (by unfold cF;rw[if_neg (by simp)])
 rcases outer with ⟨e,k⟩ | ⟨e,k⟩
 ·exact ⟨true,by rw[af e],by simp;exact ⟨by omega,rfl,⟨c1.1,by omega⟩,c2,fun r hr=>(k r hr).2,fun r hr=>A0.1 (k r hr).1⟩⟩
 ·exact ⟨false,by rw[bE e],by simp;exact fun _ h=>k fun r hr=>⟨A0.2 (h.ent r hr),h.row r hr⟩⟩
end D
namespace D
open Go.RowKit
theorem CR (g:GrT):bV g=be g:=by
 have h0:lx g=cR g:=rfl
 have h1:gN g=b9 g:=by
  funext s
  unfold gN b9
  split
  ·cases hx:az g.2 s with
   | none=>rfl
   | some x=>rfl
  ·rfl
 unfold bV be
 rw[h0,h1];rfl
def GOOD (g:GrT) (a:AutT):Prop:=GOk g∧a.2.1.length≤12∧VA a a.2.1.length
theorem KJ (g:GrT) (a:AutT) (hg:Data.sm g) (ha:Data.sm a): ∃b c,bV g=some b∧be g=some b∧bT a=some c∧bA a=some c∧(b=true→GOk g)∧(c=true→a.2.1.length≤12∧VA a a.2.1.length):=by
 obtain ⟨b,e1,k1⟩:=FU g (aB hg.1).1 (aB hg.2).1
 have hb:=(aB ha.2.1).1
 have hn:=aB ha.2.2
 obtain ⟨c,e2,k2⟩:=QQ a (by omega) (by omega) (fun r hr=>by have:=(aB (hn.2 r hr)).1;omega)
 obtain ⟨c',e3,k3⟩:=QP a (by omega) (by omega)
 have hc:c'=c:=by
  cases c <;> cases c' <;> simp_all
 subst hc
 exact ⟨b,c',by rw[CR,e1],e1,e3,e2,k1,fun h=>k2.1 h⟩
theorem KK (g:GrT) (a:AutT) (hg:Data.sm g) (ha:Data.sm a) (x:Int): ∃b,gO g a x 0=some b∧bU g a [x] =some b∧(b=true→GOOD g a∧0≤x∧x<g.1.length):=by
 obtain ⟨b,c,e1,e2,e3,e4,k1,k2⟩:=KJ g a hg ha
 have hl:=(aB hg.1).1
 have hla:=(aB ha.2.1).1
 have ew:IntKind.i64.wrap ((g.1.length:Int) - 1)=(g.1.length:Int) - 1:=cH (by omega) (by omega)
 have ew2:IntKind.i64.wrap ((a.2.1.length:Int) - 1)=(a.2.1.length:Int) - 1:=cH (by omega) (by omega)
 have es:gO g a x 0=some (b&&(c&&(decide (0≤x∧x≤(g.1.length:Int) - 1)))):=by
  unfold gO
  have e1:bV (g.1,g.2)=_:=e1
  have e3:bT (a.1,a.2.1,a.2.2)=_:=e3
  rw[e1,e3,Qq,Qq,ew,ew2];simp only[Option.bind_some]
  cases b <;> cases c <;> simp only[Bool.false_eq_true,if_false,if_true,Bool.false_and,Bool.true_and]
  by_cases h:0≤x∧x≤(g.1.length:Int) - 1
  ·have:=(k2 rfl).2.start
   simp only[h,and_self,decide_true,if_true]
   rw[decide_eq_true (by omega)]
  ·rw[decide_eq_false h];rfl
 have ei:bU g a [x] =some (b&&(c&&(decide (0≤x∧x≤(g.1.length:Int) - 1)))):=by
  unfold bU
  have e2:be (g.1,g.2)=_:=e2
  have e4:bA (a.1,a.2.1,a.2.2)=_:=e4
  rcases Hr (f:=cf g [x]) 1 (fun _=>0≤x∧x≤(g.1.length:Int) - 1) false (by decide) (fun i hi=>by
   obtain rfl:i=0:=by omega
   unfold cf
   rw[if_pos (by simp),show az [x] ((0:Nat):Int)=some x from rfl];simp only[Option.bind_some]
   rw[HB,ew];simp only[Option.bind_some,decide_eq_true_eq]
   split <;> rfl) (by unfold cf;simp) with ⟨k,h⟩ | ⟨k,h⟩
  ·rw[af k,e2,e4];simp only[Option.bind_some]
   rw[decide_eq_true (h 0 (by decide))]
   cases b <;> cases c <;> rfl
  ·rw[bE k,decide_eq_false (fun c=>h fun _ _=>c)]
   cases b <;> cases c <;> rfl
 refine ⟨_,es,ei,fun hb=>?_⟩
 simp only[Bool.and_eq_true,decide_eq_true_eq] at hb
 obtain ⟨h1,h2,h3⟩:=hb
 exact ⟨⟨k1 h1,(k2 h2).1,(k2 h2).2⟩,h3.1,by omega⟩
def nxC (g:GrT) (a:AutT) (z:Int):List Int:=nbC g a z.toNat
section
variable {g:GrT} {a:AutT} (H:GOOD g a)
include H
theorem GOOD.divmod {x:Int} (h0:0≤x) (h1:x<(a.2.1.length*g.1.length:Nat)):x.toNat / a.2.1.length<g.1.length∧x.toNat % a.2.1.length<a.2.1.length:=by
 have hp:=H.2.2.pos
 exact ⟨(Nat.div_lt_iff_lt_mul hp).2 (by rw[Nat.mul_comm];omega),Nat.mod_lt _ hp⟩
theorem SC (x:Int) (h0:0≤x) (h1:x<(a.2.1.length*g.1.length:Nat)): ∀y∈nxC g a x,0≤y∧y<(a.2.1.length*g.1.length:Nat):=by
 obtain ⟨k1,k2⟩:=H.divmod h0 h1
 exact Sx H.1 H.2.2 H.2.1 k1 k2
theorem QR {x:Int} (h0:0≤x) (h1:x<(a.2.1.length*g.1.length:Nat)):(nxC g a x).length≤720:=by
 obtain ⟨k1,k2⟩:=H.divmod h0 h1
 have:=pB (f:=nbA g a (x.toNat / a.2.1.length) (x.toNat % a.2.1.length)) (B:=30) (xs:=jb g.2 (x.toNat / a.2.1.length)) fun y hy=>KH H.1 H.2.2 H.2.1 k1 k2 hy
 have l1:=qc g.2 (x.toNat / a.2.1.length)
 have:=H.1.m
 show (nbV g a _ _).length≤720
 unfold nbV
 omega
end
def nxN (g:GrT) (a:AutT) (z:Int):List Int:=if 0≤z∧z<(a.2.1.length*g.1.length:Nat) then nxC g a z else []
section
variable {g:GrT} {a:AutT} (H:GOOD g a)
include H
theorem sR: ∀x:Int,0≤x→x<(a.2.1.length*g.1.length:Nat)→ ∀y∈nxN g a x,0≤y∧y<(a.2.1.length*g.1.length:Nat):=fun x h0 h1=>by
 unfold nxN;rw[if_pos ⟨h0,h1⟩];exact SC H x h0 h1
theorem Ex (x:Int):(nxN g a x).length≤720:=by
 unfold nxN;split
 ·rename_i h;exact QR H h.1 h.2
 ·simp
theorem QS:dg g a=some (rm (a.2.1.length*g.1.length) fun z=>nxN g a (z:Int)):=by
 rw[QI H.1 H.2.2 H.2.1]
 congr 1
 refine k8 fun z hz=>?_
 unfold nxN
 rw[if_pos ⟨by omega,by omega⟩];rfl
theorem NF {x:Int} (h0:0≤x) (h1:x<(a.2.1.length*g.1.length:Nat)): ∃l:List QJ,gY g a (C2 x (a.2.1.length:Int)) (Int.tmod x (a.2.1.length:Int))=some l∧l.map (fun p=>p.2.1*(a.2.1.length:Int)+p.2.2)=nxN g a x∧ ∀p∈l,(0≤p.2.1∧p.2.1<60)∧0≤p.2.2∧p.2.2<60:=by
 obtain ⟨k1,k2⟩:=H.divmod h0 h1
 have hp:=H.2.2.pos
 have hN:=nN H.1 H.2.2 H.2.1
 have e1:C2 x (a.2.1.length:Int)=((x.toNat / a.2.1.length:Nat):Int):=by
  unfold C2
  have:x.tdiv (a.2.1.length:Int)=((x.toNat / a.2.1.length:Nat):Int):=by
   rw[Int.tdiv_eq_ediv_of_nonneg h0]
   rw[show x / (a.2.1.length:Int)=((x.toNat:Nat):Int) / (a.2.1.length:Int) from by rw[Int.toNat_of_nonneg h0]]
   simp
  rw[this,sD (by have:=H.1.n5;omega)]
 have e2:Int.tmod x (a.2.1.length:Int)=((x.toNat % a.2.1.length:Nat):Int):=by
  rw[Int.tmod_eq_emod_of_nonneg h0]
  rw[show x % (a.2.1.length:Int)=((x.toNat:Nat):Int) % (a.2.1.length:Int) from by rw[Int.toNat_of_nonneg h0]]
  simp
 refine ⟨_,by rw[e1,e2];exact QL H.1 H.2.2 H.2.1 k1 k2,?_,fun p hp=>?_⟩
 ·rw[SA];unfold nxN;rw[if_pos ⟨h0,h1⟩];rfl
 ·obtain ⟨y,hy,hp⟩:=List.mem_flatMap.1 hp
  obtain ⟨t,ht,rfl⟩:=List.mem_map.1 hp
  have h2:=(xy H.1 hy).2
  have h3:=(sQ H.1 H.2.2 H.2.1 (s:=((x.toNat % a.2.1.length:Nat):Int)) ⟨by omega,by omega⟩ (H.1.val _ (bg (xs:=g.1) (i:=((x.toNat / a.2.1.length:Nat):Int)) (Int.natCast_nonneg _) (Int.ofNat_lt.2 k1))) (xy H.1 hy).1).1 t ht
  have:=H.1.n5
  have:=H.2.1
  exact ⟨⟨h2.1,by simp only;omega⟩,h3.1,by simp only;omega⟩
end
def RKs (g:GrT) (a:AutT) (v:Int):List Int:=(bsS (nxN g a) (a.2.1.length*g.1.length) v (a.2.1.length*g.1.length)).1
theorem A1 {nx:Int→List Int} {N:Nat} {v:Int} (hv:0≤v∧v<N) (hn: ∀x:Int,0≤x→x<N→ ∀y∈nx x,0≤y∧y<N) {K:Nat} (hE:K=(bsS nx N v K).2.length): ∀d,bsS nx N v (K+d)=bsS nx N v K
 | 0=>rfl
 | d+1=>by
  have ih:=A1 hv hn hE d
  rw[←Nat.add_assoc,bsS,ih]
  have:(bsS nx N v K).2[K+d]? =none:=List.getElem?_eq_none (by omega)
  rw[this]
section
variable {g:GrT} {a:AutT} (H:GOOD g a) {x:Int} (hx:0≤x∧x<g.1.length)
include H hx
theorem OK:0≤x*(a.2.1.length:Int)+a.1∧x*(a.2.1.length:Int)+a.1<(a.2.1.length*g.1.length:Nat):=by
 obtain ⟨z,rfl⟩: ∃z:Nat,x=(z:Int):=⟨_,(Int.toNat_of_nonneg hx.1).symm⟩
 have hs:=H.2.2.start
 obtain ⟨s,hs'⟩: ∃s:Nat,a.1=(s:Int):=⟨_,(Int.toNat_of_nonneg hs.1).symm⟩
 rw[hs'] at hs⊢
 have:=cN H.1 H.2.2 H.2.1 (x:=z) (s:=s) (by omega) (by omega)
 constructor
 ·exact Int.add_nonneg (Int.mul_nonneg (by omega) (by omega)) (by omega)
 ·exact_mod_cast this
theorem OL:IntKind.i64.wrap ((IntKind.i64.wrap (x*(a.2.1.length:Int)))+a.1)=x*(a.2.1.length:Int)+a.1:=by
 have h:=OK H hx
 have hN:=nN H.1 H.2.2 H.2.1
 have hs:=H.2.2.start
 have hn:=H.2.1
 have h5:=H.1.n5
 rw[cH (n:=x*(a.2.1.length:Int)) (by omega) (by omega),cH (by omega) (by omega)]
theorem T1:BI (a.2.1.length*g.1.length) (bsS (nxN g a) (a.2.1.length*g.1.length) (x*(a.2.1.length:Int)+a.1) (a.2.1.length*g.1.length)):=xz (OK H hx) (sR H) _
theorem KL:(RKs g a (x*(a.2.1.length:Int)+a.1)).length=a.2.1.length*g.1.length:=(T1 H hx).len
theorem SD (e:bU g a [x] =some true):dY g a x=some (RKs g a (x*(a.2.1.length:Int)+a.1)):=by
 unfold dY
 have e:bU (g.1,g.2) (a.1,a.2.1,a.2.2) [x] =_:=e
 rw[e];simp only[Option.bind_some,if_true]
 have e2:dg (g.1,g.2) (a.1,a.2.1,a.2.2)=_:=QS H
 rw[e2];simp only[Option.bind_some]
 have hN:=nN H.1 H.2.2 H.2.1
 obtain ⟨K,hK,hE,hR⟩:=KI (OK H hx) (sR H)
 rw[OL H hx,ND hN (OK H hx) (sR H) (fun x=>by have:=Ex H x;omega) hK hE hR];simp only[Option.bind_some]
 have hk:bsS (nxN g a) (a.2.1.length*g.1.length) (x*(a.2.1.length:Int)+a.1) K=bsS (nxN g a) (a.2.1.length*g.1.length) (x*(a.2.1.length:Int)+a.1) (a.2.1.length*g.1.length):=by
  have:=A1 (OK H hx) (sR H) hE (a.2.1.length*g.1.length - K)
  rw[show K+(a.2.1.length*g.1.length - K)=a.2.1.length*g.1.length from by omega] at this
  exact this.symm
 have hl:=KL H hx
 rw[hk]
 show ((chk _).bind fun _=>_).bind _=_
 have hv:=OK H hx
 rw[fY (by rw[show (bsS _ _ _ _).1.length=_ from hl];omega)];rfl
theorem T2 {o1 o2:List Int} {i:Nat} {z:Int} {l:List QJ} (hz:(bsS (nxN g a) (a.2.1.length*g.1.length) (x*(a.2.1.length:Int)+a.1) i).2[i]? =some z)
  (hl:l.map (fun p=>p.2.1*(a.2.1.length:Int)+p.2.2)=nxN g a z) (hp: ∀p∈l,(0≤p.2.1∧p.2.1<60)∧0≤p.2.2∧p.2.2<60) :
  ai (fw a (o1,o2,(i:Int)) l) aD ((bsS (nxN g a) (a.2.1.length*g.1.length) (x*(a.2.1.length:Int)+a.1) i).1,(bsS (nxN g a) (a.2.1.length*g.1.length) (x*(a.2.1.length:Int)+a.1) i).2,0)=some (.brk ((bsS (nxN g a) (a.2.1.length*g.1.length) (x*(a.2.1.length:Int)+a.1) (i+1)).1,(bsS (nxN g a) (a.2.1.length*g.1.length) (x*(a.2.1.length:Int)+a.1) (i+1)).2,(l.length:Int))):=by
 have hN:=nN H.1 H.2.2 H.2.1
 have hv:=OK H hx
 have hnn:=H.2.1
 generalize hV:x*(a.2.1.length:Int)+a.1=v at hz hv⊢
 have hlen:l.length≤720:=by have:=Ex H z;rw[←hl,List.length_map] at this;exact this
 have e:bsS (nxN g a) (a.2.1.length*g.1.length) v (i+1)=zn (nth (bsS (nxN g a) (a.2.1.length*g.1.length) v i).1 z+1) (bsS (nxN g a) (a.2.1.length*g.1.length) v i) (nxN g a z):=by rw[bsS,hz]
 have:=aA (f:=fw a (o1,o2,(i:Int)) l) (fun j=>((zn (nth (bsS (nxN g a) (a.2.1.length*g.1.length) v i).1 z+1) (bsS (nxN g a) (a.2.1.length*g.1.length) v i) ((nxN g a z).take j)).1,(zn (nth (bsS (nxN g a) (a.2.1.length*g.1.length) v i).1 z+1) (bsS (nxN g a) (a.2.1.length*g.1.length) v i) ((nxN g a z).take j)).2,(j:Int))) l.length (fun j hj=>by
  obtain ⟨k1,k2,k3,⟨x0,x1⟩,k4,k5⟩:=QO hN hv (sR H) (fun x=>by have:=Ex H x;omega) hz j
  have hjn:j<(nxN g a z).length:=by rw[←hl,List.length_map];exact hj
  have hy:=sR H z x0 x1 _ (bg (xs:=nxN g a z) (i:=(j:Int)) (by omega) (by omega))
  have hq:=hp _ (bg (xs:=l) (i:=(j:Int)) (by omega) (by omega))
  have hyl:nth (nxN g a z) (j:Int)=(nth l (j:Int)).2.1*(a.2.1.length:Int)+(nth l (j:Int)).2.2:=by rw[←hl,Qm (by omega) (by omega)]
  unfold fw
  simp only
  rw[rv hjn,CQ]
  generalize zn (nth (bsS (nxN g a) (a.2.1.length*g.1.length) v i).1 z+1) (bsS (nxN g a) (a.2.1.length*g.1.length) v i) ((nxN g a z).take j)=s at k1 k2 k3 k5
  have hle:=k1.le
  have hsl:=k1.len
  rw[if_pos (by simp;omega),aj (by omega) (by omega)];simp only[Option.bind_some]
  rw[cH (n:=(nth l (j:Int)).2.1*(a.2.1.length:Int)) (by omega) (by omega),←hyl,cH (by omega) (by omega)]
  rw[aj (xs:=s.1) hy.1 (by omega)];simp only[Option.bind_some]
  rw[show az s.2 (i:Int)=some z from by unfold az;rw[if_pos (by omega)];exact k2];simp only[Option.bind_some]
  rw[aj (xs:=s.1) x0 (by omega)];simp only[Option.bind_some]
  rw[aw (by simp;omega),aa (by omega),k3,cH (by omega) (by omega)]
  unfold OJ
  by_cases c:nth s.1 (nth (nxN g a z) (j:Int))<0
  ·rw[if_pos (by simpa using c),if_pos c];rfl
  ·rw[if_neg (by simpa using c),if_neg c];rfl) (by unfold fw;simp) (kp (by omega))
 have et:(nxN g a z).take l.length=nxN g a z:=by
  have:l.length=(nxN g a z).length:=by rw[←hl,List.length_map]
  rw[this,List.take_length]
 rw[et] at this
 rw[e]
 exact this
theorem QU:j6 g a x=some (RKs g a (x*(a.2.1.length:Int)+a.1)):=by
 have hN:=nN H.1 H.2.2 H.2.1
 have hv:=OK H hx
 have hpos:=H.2.2.pos
 unfold j6
 have ew:IntKind.i64.wrap ((g.1.length:Int)*(a.2.1.length:Int))=((a.2.1.length*g.1.length:Nat):Int):=by
  rw[show ((g.1.length:Int)*(a.2.1.length:Int))=((a.2.1.length*g.1.length:Nat):Int) from by rw[Nat.mul_comm];simp,sD (by omega)]
 have e0:ai (fv g a) aD (([] :List Int),0)=some (.brk (List.replicate (a.2.1.length*g.1.length) (-1),((a.2.1.length*g.1.length:Nat):Int))):=by
  have:=aA (f:=fv g a) (fun i=>(List.replicate i (-1),(i:Int))) (a.2.1.length*g.1.length) (fun i hi=>by
   unfold fv
   simp only
   rw[ew,if_pos (by simp only[decide_eq_true_eq];omega),aw (by simp;omega),aa (by omega)];simp only[Option.bind_some]
   rw[List.replicate_succ']) (by unfold fv;simp only;rw[ew,if_neg (by simp)]) (kp (by omega))
  exact this
 rw[af e0,OL H hx]
 simp only
 generalize hV:x*(a.2.1.length:Int)+a.1=v at hv
 rw[show az [v] 0=some v from rfl];simp only[Option.bind_some]
 rw[aj (xs:=List.replicate _ (-1:Int)) hv.1 (by simpa using hv.2)];simp only[Option.bind_some]
 obtain ⟨K,hK,hE,hR⟩:=KI hv (sR H)
 have:=aA (f:=fx g a) (fun i=>((bsS (nxN g a) (a.2.1.length*g.1.length) v i).1,(bsS (nxN g a) (a.2.1.length*g.1.length) v i).2,(i:Int))) K (fun i hi=>by
  have hi2:=hR i hi
  obtain ⟨z,hz⟩: ∃z,(bsS (nxN g a) (a.2.1.length*g.1.length) v i).2[i]? =some z:=⟨_,List.getElem?_eq_getElem hi2⟩
  obtain ⟨z0,z1⟩:=(xz hv (sR H) i).rng z (List.mem_of_getElem? hz)
  obtain ⟨l,es,hl,hp⟩:=NF H z0 z1
  have es:gY (g.1,g.2) (a.1,a.2.1,a.2.2) (C2 z (a.2.1.length:Int)) (Int.tmod z (a.2.1.length:Int))=_:=es
  unfold fx
  simp only
  rw[if_pos (by simp only[decide_eq_true_eq];omega)]
  rw[show az (bsS (nxN g a) (a.2.1.length*g.1.length) v i).2 (i:Int)=some z from by unfold az;rw[if_pos (by omega)];exact hz];simp only[Option.bind_some]
  rw[fY (by omega),es];simp only[Option.bind_some]
  have h2:=T2 H hx (o1:=(bsS (nxN g a) (a.2.1.length*g.1.length) v i).1) (o2:=(bsS (nxN g a) (a.2.1.length*g.1.length) v i).2) (by rw[hV];exact hz) hl hp
  rw[hV] at h2
  rw[af h2,aa (by omega)]) (by unfold fx;simp only;rw[if_neg (by simp;omega)]) (kp (by omega))
 have this:ai (fx g a) aD ((List.replicate (a.2.1.length*g.1.length) (-1)).set v.toNat 0,[v],0)=_:=this
 rw[af this]
 simp only
 have:=A1 hv (sR H) hE (a.2.1.length*g.1.length - K)
 rw[show K+(a.2.1.length*g.1.length - K)=a.2.1.length*g.1.length from by omega] at this
 unfold RKs
 rw[this]
end
end D
namespace D
open Go.RowKit
theorem Ht {c:Prop} [Decidable c] (h:c):chk c=some ():=if_pos h
theorem Hu {α:Type} {xs:List α} {i n:Nat} {z:α} (h:i≤xs.length):(qd xs i n z).take i=xs.take i:=by
 unfold qd
 rw[List.take_append_of_le_length (by rw[List.length_take];omega),List.take_take,Nat.min_self]
theorem KM {α:Type} {xs:List α} {i:Nat} {z:α} (h:i≤xs.length):(qd xs i xs.length z).length=xs.length:=ue h (Nat.le_refl _)
theorem NG {α:Type} {ys:List α} {i:Nat} {x:α} (h:i<ys.length):(ys.set i x).take (i+1)=ys.take i++ [x]:=by
 rw[List.take_succ_eq_append_getElem (by simpa using h)]
 simp[List.take_set_of_le]
theorem set_drop {α:Type} {ys:List α} {i j:Nat} {x:α} (h:i<j):(ys.set i x).drop j=ys.drop j:=by
 apply List.ext_getElem?
 intro q
 rw[List.getElem?_drop,List.getElem?_drop,List.getElem?_set_ne (by omega)]
theorem KN {α:Type} {ys xs:List α} {j:Nat} (h:ys.drop j=xs.drop j):ys.drop (j+1)=xs.drop (j+1):=by
 rw[←List.drop_drop,h,List.drop_drop]
theorem FX {α:Type} {ys xs:List α} {j q:Nat} (h:ys.drop j=xs.drop j) (hq:j≤q) (h1:q<ys.length) (h2:q<xs.length):ys[q] =xs[q]:=by
 have e:=congrArg (fun l=>l[q - j]?) h
 simp only[List.getElem?_drop,show j+(q - j)=q from by omega] at e
 rw[List.getElem?_eq_getElem h1,List.getElem?_eq_getElem h2] at e
 exact Option.some.inj e
section
variable {α:Type} [DecidableEq α]
def oC:List α→List α
 | [] =>[]
 | [a] =>[a]
 | a::b::l=>if a=b then oC (b::l) else a::oC (b::l)
theorem vr {x:α} : ∀ {l:List α},x∈oC l↔x∈l
 | [] =>Iff.rfl
 | [a] =>Iff.rfl
 | a::b::l=>by
  rw[oC]
  split
  ·rename_i e;subst e;rw[vr];simp
  ·rw[List.mem_cons,vr,List.mem_cons (l:=b::l)]
theorem CS: ∀(l:List α) (b:α),l≠ [] →oC (l++ [b])=if l.getLast? =some b then oC l else oC l++ [b]
 | [],b,h=>absurd rfl h
 | [a],b,_=>by
  by_cases e:a=b
  ·subst e;simp[oC]
  ·simp[oC,e]
 | a::c::l,b,_=>by
  have ih:=CS (c::l) b (by simp)
  have hg:(a::c::l).getLast? =(c::l).getLast? :=by simp[List.getLast?_cons_cons]
  rw[hg]
  show oC (a::c::(l++ [b]))=_
  rw[oC,oC]
  rw[show c::(l++ [b])=(c::l)++ [b] from rfl,ih]
  by_cases e:a=c
  ·rw[if_pos e,if_pos e]
  ·rw[if_neg e,if_neg e]
   split <;> simp
theorem xA {xs:List α} {j:Nat} (h0:0<j) (h:j<xs.length):oC (xs.take (j+1))=if xs[j - 1] =xs[j] then oC (xs.take j) else oC (xs.take j)++ [xs[j]]:=by
 rw[List.take_succ_eq_append_getElem h,CS _ _ (by
  intro e
  have h9:=congrArg List.length e
  rw[List.length_take,Nat.min_eq_left (Nat.le_of_lt h),List.length_nil] at h9
  omega)]
 have hg:(xs.take j).getLast? =some xs[j - 1]:=by
  rw[List.getLast?_eq_getElem?,List.length_take,Nat.min_eq_left (Nat.le_of_lt h),List.getElem?_take,if_pos (show j - 1<j by omega),List.getElem?_eq_getElem (show j - 1<xs.length by omega)]
 rw[hg]
 by_cases e:xs[j - 1] =xs[j]
 ·rw[if_pos (by rw[e]),if_pos e]
 ·rw[if_neg (by simpa using e),if_neg e]
theorem CT {xs:List α} : ∀(j:Nat),j≤xs.length→(∀q (hq:q<j) (h0:0<q) (hx:j≤xs.length),xs[q - 1]'(by omega)≠xs[q]'(by omega))→oC (xs.take j)=xs.take j
 | 0,_,_=>by simp[oC]
 | 1,h,_=>by
  cases xs with
  | nil=>simp[oC]
  | cons a l=>simp[oC]
 | j+2,h,hq=>by
  rw[xA (by omega) (by omega),if_neg (hq (j+1) (by omega) (by omega) h),CT (j+1) (by omega) (fun q h1 h2 h3=>hq q (by omega) h2 h),←List.take_succ_eq_append_getElem]
end
theorem A2: ∀ {l:List Int},l.Pairwise (fun a b=>a≤b)→(oC l).Pairwise (fun a b=>a<b)
 | [],_=>List.Pairwise.nil
 | [a],_=>by simp[oC]
 | a::b::l,h=>by
  obtain ⟨h1,h2⟩:=List.pairwise_cons.1 h
  rw[oC]
  split
  ·exact A2 h2
  ·rename_i hn
   refine List.pairwise_cons.2 ⟨fun x hx=>?_,A2 h2⟩
   have hab:a<b:=by have:=h1 b (List.mem_cons_self ..);omega
   rcases List.mem_cons.1 (vr.1 hx) with rfl | hx
   ·exact hab
   ·have:=(List.pairwise_cons.1 h2).1 x hx
    omega
theorem CU: ∀ {l m:List Int},l.Pairwise (fun a b=>a<b)→m.Pairwise (fun a b=>a<b)→(∀x,x∈l↔x∈m)→l=m
 | [],[],_,_,_=>rfl
 | [],b::m,_,_,h=>absurd ((h b).2 (by simp)) (by simp)
 | a::l,[],_,_,h=>absurd ((h a).1 (by simp)) (by simp)
 | a::l,b::m,h1,h2,h=>by
  obtain ⟨k1,k2⟩:=List.pairwise_cons.1 h1
  obtain ⟨j1,j2⟩:=List.pairwise_cons.1 h2
  have hab:a=b:=by
   have ha:=(h a).1 (by simp)
   have hb:=(h b).2 (by simp)
   rcases List.mem_cons.1 ha with e | ha
   ·exact e
   ·rcases List.mem_cons.1 hb with e | hb
    ·exact e.symm
    ·have:=k1 b hb;have:=j1 a ha;omega
  subst hab
  rw[CU k2 j2 fun x=>?_]
  have:=h x
  rw[List.mem_cons,List.mem_cons] at this
  constructor
  ·intro hx
   rcases this.1 (.inr hx) with e | e
   ·subst e;have:=k1 x hx;omega
   ·exact e
  ·intro hx
   rcases this.2 (.inr hx) with e | e
   ·subst e;have:=j1 x hx;omega
   ·exact e
end D
namespace D
open Go.RowKit
theorem UG {a b:Int} :(a==b)=decide (a=b):=by rw[Bool.eq_iff_iff];simp
theorem Ey (xs:List Int) (hl:xs.length≤1073741824):bM xs=some (oC xs):=by
 unfold bM
 by_cases h2:xs.length<2
 ·rw[if_pos (by simp;omega)]
  cases xs with
  | nil=>rfl
  | cons a l =>
   cases l with
   | nil=>rfl
   | cons b l=>simp only[List.length_cons] at h2;omega
 rw[if_neg (by simp;omega)]
 have key:(ai (a8 xs) aD 1=some (.ret (oC xs)))∨(∃s,ai (a8 xs) aD 1=some (.brk s)∧oC xs=xs):=by
  obtain ⟨o,e,hQ⟩:=cJ (f:=a8 xs) (fun t s=>s=((t+1:Nat):Int)∧oC (xs.take (t+1))=xs.take (t+1)) (fun o=>o= .ret (oC xs)∨ ∃s,o= .brk s∧oC xs=xs) (xs.length - 1) (fun t s ht hI=>by
   obtain ⟨rfl,hI⟩:=hI
   unfold a8
   by_cases h1:t+1<xs.length
   ·have hp:((t+1:Nat):Int) - 1=((t:Nat):Int):=by omega
    rw[bS h1,if_pos rfl,aq h1,cH (n:=((t+1:Nat):Int) - 1) (by omega) (by omega),hp,aq (show t<xs.length by omega)]
    simp only[Option.bind_some,UG]
    have hn:=xA (xs:=xs) (j:=t+1) (by omega) h1
    rw[hI] at hn
    simp only[Nat.add_sub_cancel] at hn
    by_cases he:xs[t+1] =xs[t]
    ·rw[if_pos (decide_eq_true he),Ht (by omega),Option.bind_some]
     rw[if_pos he.symm] at hn
     have hlt:(xs.take (t+1)).length=t+1:=by rw[List.length_take];omega
     obtain ⟨s,e1,ys,rfl,k1,k2,k3,k4⟩:=nc (f:=bu xs ((t+1:Nat):Int)) (fun u s=> ∃ys:List Int,s=(((oC (xs.take (t+2+u))).length:Int),((u+1:Nat):Int),ys)∧ys.length=xs.length∧ys.take (oC (xs.take (t+2+u))).length=oC (xs.take (t+2+u))∧ys.drop (t+1+u)=xs.drop (t+1+u)∧(oC (xs.take (t+2+u))).length≤t+1+u) (xs.length - (t+2)) (fun u s hu hI=>by
      obtain ⟨ys,rfl,k1,k2,k3,k4⟩:=hI
      have hj:t+2+u<xs.length:=by clear k4 k2;omega
      have hj1:t+1+u<xs.length:=by clear k4 k2;omega
      have hj2:t+2+u<ys.length:=by clear k4 k2;omega
      have hj3:t+1+u<ys.length:=by clear k4 k2;omega
      have a1:(0+((t+1:Nat):Int))+((u+1:Nat):Int)=((t+2+u:Nat):Int):=by omega
      have a2:((u+1:Nat):Int) - 1=((u:Nat):Int):=by omega
      have a3:(0+((t+1:Nat):Int))+((u:Nat):Int)=((t+1+u:Nat):Int):=by omega
      unfold bu
      dsimp only
      rw[if_pos (by simp;omega),Ht (by omega)]
      simp only[Option.bind_some]
      rw[cH (n:=((u+1:Nat):Int) - 1) (by omega) (by omega),a1,a2,a3,aq (xs:=ys) hj2,aq (xs:=ys) hj3,Ht (by omega),FX k3 (by omega) hj2 hj,FX k3 (Nat.le_refl _) hj3 hj1]
      simp only[Option.bind_some,UG,fb]
      have e9:t+2+u - 1=t+1+u:=by clear k4 k2;omega
      have e8:0<t+2+u:=by clear k4 k2;omega
      have hnx:=xA (xs:=xs) (j:=t+2+u) e8 hj
      simp only[e9] at hnx
      have hd:=KN k3
      rw[show t+1+u+1=t+1+(u+1) from by omega] at hd
      rw[show t+2+(u+1)=t+2+u+1 from by omega,hnx]
      generalize oC (xs.take (t+2+u))=K at *
      by_cases hq:xs[t+2+u] =xs[t+1+u]
      ·rw[if_neg (by simpa using hq),if_pos hq.symm]
       simp only[Option.bind_some]
       rw[aa (by omega)]
       exact ⟨_,rfl,ys,rfl,k1,k2,hd,by omega⟩
      ·rw[if_pos (by simpa using hq),if_neg (fun e=>hq e.symm),aq (xs:=ys) (show K.length<ys.length by omega)]
       simp only[Option.bind_some]
       rw[aa (by omega),aa (by omega)]
       refine ⟨_,rfl,ys.set K.length xs[t+2+u],?_,by simpa using k1,?_,?_,?_⟩
       ·rw[List.length_append,List.length_singleton];rfl
       ·rw[List.length_append,List.length_singleton,NG (by omega),k2]
       ·rw[set_drop (by omega)];exact hd
       ·rw[List.length_append,List.length_singleton];omega) (fun s hI=>by
      obtain ⟨ys,rfl,k1,k2,k3,k4⟩:=hI
      unfold bu
      rw[if_neg (by simp;omega)]) (s:=(((t+1:Nat):Int),1,xs)) ⟨xs,by rw[Nat.add_zero,hn,hlt];rfl,rfl,by rw[Nat.add_zero,hn,hlt],rfl,by rw[Nat.add_zero,hn,hlt];omega⟩ (ox _ (by omega))
     refine .inr ⟨.ret (oC xs),?_,fun s' hh=>(by simp at hh),.inl rfl⟩
     rw[af e1]
     have hall:xs.take (t+2+(xs.length - (t+2)))=xs:=List.take_of_length_le (by omega)
     rw[hall] at k2 k4⊢
     generalize oC xs=K at *
     have q0:K.length≤ys.length:=by omega
     have z1:((0:Int)+((K.length:Nat):Int)).toNat=K.length:=by omega
     have z2:((0:Int)+(((ys.length:Nat):Int) - 0)).toNat=ys.length:=by omega
     simp only[z1,z2]
     have zl:=KM (z:=(0:Int)) q0
     rw[Ht (by omega),Option.bind_some,Ht (by omega),Option.bind_some,Ht (by rw[zl];omega),Option.bind_some,Hu q0,k2,List.drop_zero]
    ·rw[if_neg (by simpa using he),aa (by omega)]
     rw[if_neg (fun e=>he e.symm),←List.take_succ_eq_append_getElem h1] at hn
     exact .inl ⟨by omega,_,rfl,rfl,hn⟩
   ·refine .inr ⟨.brk ((t+1:Nat):Int),?_,fun s' hh=>(by simp at hh),.inr ⟨_,rfl,?_⟩⟩
    ·rw[if_neg (by simp;omega)]
    ·rw[List.take_of_length_le (by omega)] at hI;exact hI) (s:=1) ⟨rfl,CT 1 (by omega) (fun q h1 h0=>by omega)⟩ (ox _ (by omega))
  rcases hQ with rfl | ⟨s,rfl,h⟩
  ·exact .inl e
  ·exact .inr ⟨s,e,h⟩
 rcases key with e | ⟨s,e,h⟩
 ·rw[bE e]
 ·rw[af e,h]
theorem xB (m:Nat): ∀k,(dz m k).Pairwise (fun a b=>a<b)
 | 0=>List.Pairwise.nil
 | k+1=>by
  rw[iq]
  split
  ·refine List.pairwise_append.2 ⟨xB m k,List.pairwise_singleton _ _,fun a ha b hb=>?_⟩
   obtain ⟨i,hi,_,rfl⟩:=pz.1 ha
   obtain rfl:b=(k:Int):=by simpa using hb
   omega
  ·exact xB m k
theorem QV {X:List Int} {m:Nat} (h: ∀x∈X,∃i:Nat,i<30∧x=(i:Int)) (hm: ∀i:Nat,i<30→(m.testBit i=true↔(i:Int)∈X)):oC (X.mergeSort fun x y=>decide (x≤y))=dz m 30:=by
 have hp:(X.mergeSort fun x y=>decide (x≤y)).Pairwise (fun a b=>a≤b):=by
  have:=List.pairwise_mergeSort (le:=fun (x y:Int)=>decide (x≤y)) (fun a b c h1 h2=>by
   have h1:=of_decide_eq_true h1;have h2:=of_decide_eq_true h2
   exact decide_eq_true (by omega)) (fun a b=>by
   rw[Bool.or_eq_true,decide_eq_true_eq,decide_eq_true_eq];omega) X
  exact this.imp fun h=>of_decide_eq_true h
 refine CU (A2 hp) (xB m 30) fun x=>?_
 rw[vr,List.mem_mergeSort,pz]
 constructor
 ·intro hx
  obtain ⟨i,hi,rfl⟩:=h x hx
  exact ⟨i,hi,(hm i hi).2 hx,rfl⟩
 ·rintro ⟨i,hi,hb,rfl⟩
  exact (hm i hi).1 hb
end D
namespace D
open Go.RowKit
def HD (a:AutT) (s v:Int):Bool:=decide (∃q∈dz (cS a s v) 30,nth a.2.1 q=true)
section
variable {a:AutT} {n:Nat} (V:VA a n) (hn:n≤12)
include V hn
theorem Ez {s v:Int} (hs:0≤s∧s<n) (hv:0≤v∧v≤2):iQ a (sV 1 s) v=some (HD a s v):=by
 obtain ⟨t,rfl⟩: ∃t:Nat,s=(t:Int):=⟨s.toNat,by omega⟩
 obtain ⟨e1,h1⟩:=nk V hn hs hv
 have hC:cS a (t:Int) v<2 ^ 30:=Nat.lt_of_lt_of_le h1 (Nat.pow_le_pow_right (by decide) (by omega))
 unfold iQ
 rw[tU (by omega),pA (Nat.pow_lt_pow_right (by decide) (by omega)),CM (by omega)];simp only[Option.bind_some]
 have hlen:=ko (cS a (t:Int) v) 30
 have h0:dh a v [(t:Int)] 0=some (if HD a (t:Int) v=true then .ret true else .nxt 1):=by
  unfold dh
  rw[if_pos (by simp),show az [(t:Int)] 0=some (t:Int) from rfl];simp only[Option.bind_some]
  have e1:dC (a.1,a.2.1,a.2.2) (t:Int) v=_:=e1
  rw[e1];simp only[Option.bind_some]
  rw[pA hC];simp only[Option.bind_some]
  rcases scan (f:=gC a (dz (cS a (t:Int) v) 30)) (dz (cS a (t:Int) v) 30) (fun q=> ¬nth a.2.1 q=true) true (by omega) (fun i hi=>by
   have hq:=sP V hn h1 _ (bg (xs:=dz (cS a (t:Int) v) 30) (i:=(i:Int)) (by omega) (by omega))
   unfold gC
   rw[if_pos (by simp;omega),aj (by omega) (by omega)];simp only[Option.bind_some]
   rw[V.acc hq.1 hq.2,aa (by omega)];simp only[Option.bind_some]
   cases nth a.2.1 (nth (dz (cS a (t:Int) v) 30) (i:Int)) <;> rfl) (by unfold gC;simp) with ⟨e,h⟩ | ⟨e,h⟩
  ·rw[af e,if_neg (by unfold HD;rw[decide_eq_true_eq];rintro ⟨q,hq,hqa⟩;exact h q hq hqa)];rfl
  ·rw[bE e,if_pos (by
    unfold HD;rw[decide_eq_true_eq]
    by_cases c: ∃q∈dz (cS a (t:Int) v) 30,nth a.2.1 q=true
    ·exact c
    ·exact absurd (fun q hq hqa=>c ⟨q,hq,hqa⟩) h)]
 have h1':dh a v [(t:Int)] 1=some (.brk 1):=by
  unfold dh;rw[if_neg (by simp)]
 rcases Hr (f:=dh a v [(t:Int)]) 1 (fun _=> ¬HD a (t:Int) v=true) true (by decide) (fun i hi=>by
  obtain rfl:i=0:=by omega
  rw[show ((0:Nat):Int)=0 from rfl,h0]
  cases HD a (t:Int) v <;> rfl) h1' with ⟨e,h⟩ | ⟨e,h⟩
 ·rw[af e]
  have:=h 0 (by decide)
  rw[Bool.not_eq_true] at this
  rw[this]
 ·rw[bE e]
  have:HD a (t:Int) v=true:=by
   cases hb:HD a (t:Int) v with
   | true=>rfl
   | false=>exact absurd (fun _ _=>by rw[hb];decide) h
  rw[this]
theorem CV {C:Nat} (hC:C<2 ^ n):ay (ai (dW a (C:Int)) aD 0) (fun r=>some r) (fun _=>some false)=some (decide (∃q∈dz C 30,nth a.2.1 q=true)):=by
 have hC':C<2 ^ 62:=Nat.lt_of_lt_of_le hC (p62 (by omega))
 rcases Hr (f:=dW a (C:Int)) n (fun i=> ¬(C.testBit i=true∧nth a.2.1 (i:Int)=true)) true (by omega) (fun i hi=>by
  unfold dW
  rw[V.len,if_pos (by simp;omega),fY (by omega),xu hC' (by omega),V.acc (by omega) (by omega),aa (by omega)];simp only[Option.bind_some]
  cases C.testBit i <;> cases nth a.2.1 (i:Int) <;> rfl) (by unfold dW;rw[V.len];simp) with ⟨e,h⟩ | ⟨e,h⟩
 ·rw[af e,decide_eq_false]
  rintro ⟨q,hq,hqa⟩
  have hr:=sP V hn hC q hq
  obtain ⟨i,hi,hb,rfl⟩:=pz.1 hq
  exact h i (by omega) ⟨hb,hqa⟩
 ·rw[bE e,decide_eq_true]
  by_cases c: ∃q∈dz C 30,nth a.2.1 q=true
  ·exact c
  ·exact absurd (fun (i:Nat) (hi:i<n) (hh:C.testBit i=true∧nth a.2.1 (i:Int)=true)=>c ⟨(i:Int),pz.2 ⟨i,by omega,hh.1,rfl⟩,hh.2⟩) h
end
section
variable {g:GrT} {a:AutT} (H:GOOD g a)
include H
theorem KO {x s:Nat} (hx:x<g.1.length) (hs:s<a.2.1.length):gl g a (x:Int) (s:Int)=some (HD a (s:Int) (nth g.1 (x:Int))):=by
 have hv:=H.1.val _ (bg (xs:=g.1) (i:=(x:Int)) (by omega) (by omega))
 have ec:=CP H.2.2 H.2.1 (s:=(s:Int)) ⟨by omega,by omega⟩ hv
 have hC:=(nk H.2.2 H.2.1 (s:=(s:Int)) ⟨by omega,by omega⟩ hv).2
 unfold gl
 rw[aj (by omega) (by omega)];simp only[Option.bind_some]
 have ec:dA (a.1,a.2.1,a.2.2) (s:Int) (nth g.1 (x:Int))=_:=ec
 rw[ec];simp only[Option.bind_some]
 have:=CV H.2.2 H.2.1 hC
 exact this
end
theorem T3 {m:Nat} (hm:m<2 ^ 30):rY (m:Int)=some (dz m 30):=by
 have hm':m<2 ^ 62:=Nat.lt_of_lt_of_le hm (Nat.pow_le_pow_right (by decide) (by decide))
 unfold rY
 have:=aA (f:=j7 (m:Int)) (fun i=>(dz m i,(i:Int))) 30 (fun i hi=>by
  have hl:=ko m i
  unfold j7
  simp only
  rw[if_pos (by simp;omega),fY (by omega),xu hm' (by omega),aa (by omega),iq];simp only[Option.bind_some]
  by_cases b:m.testBit i=true
  ·rw[if_pos b,if_pos b,aw (by simp;omega)];rfl
  ·rw[if_neg b,if_neg b];rfl) (by unfold j7;simp) (by unfold aD;omega)
 have this:ai (j7 (m:Int)) aD (([] :List Int),0)=_:=this
 rw[af this]
theorem EA (xs:List Int) (h:xs.length≤1000000):iR xs=some (oC (xs.mergeSort fun x y=>decide (x≤y))):=by
 unfold iR kc dD R.MM
 rw[aw (by simp;omega)];simp only[Option.bind_some,List.nil_append]
 rw[fY (by omega)];simp only[Option.bind_some]
 rw[Ey _ (by rw[List.length_mergeSort];omega)];rfl
def S9 (g:GrT) (a:AutT) (R:List Int) (i:Nat):Bool:=decide (0≤nth R (i:Int))&&HD a ((i % a.2.1.length:Nat):Int) (nth g.1 ((i / a.2.1.length:Nat):Int))
def Hv (g:GrT) (a:AutT) (R:List Int):Nat→List Int
 | 0=>[]
 | i+1=>if S9 g a R i=true then Hv g a R i++ [((i / a.2.1.length:Nat):Int)] else Hv g a R i
def HE (g:GrT) (a:AutT) (R:List Int):Nat→Nat
 | 0=>0
 | i+1=>if S9 g a R i=true then HE g a R i ||| 2 ^ (i / a.2.1.length) else HE g a R i
theorem A3 (g:GrT) (a:AutT) (R:List Int): ∀i,(Hv g a R i).length≤i
 | 0=>by simp[Hv]
 | i+1=>by
  have:=A3 g a R i
  rw[Hv];split
  ·rw[List.length_append];simp;omega
  ·omega
theorem KP {x:Nat} {n:Nat} (hx:x≤1000000):C2 (x:Int) (n:Int)=((x / n:Nat):Int)∧Int.tmod (x:Int) (n:Int)=((x % n:Nat):Int):=by
 refine ⟨?_,?_⟩
 ·unfold C2
  rw[Int.tdiv_eq_ediv_of_nonneg (Int.natCast_nonneg _),←Int.natCast_ediv,sD (by have:=Nat.div_le_self x n;omega)]
 ·rw[Int.tmod_eq_emod_of_nonneg (Int.natCast_nonneg _),Int.natCast_emod]
section
variable {g:GrT} {a:AutT} (H:GOOD g a) {R:List Int} (hR:R.length=a.2.1.length*g.1.length)
include H
theorem FY {i:Nat} (hi:i<a.2.1.length*g.1.length):i / a.2.1.length<g.1.length∧i % a.2.1.length<a.2.1.length∧0<a.2.1.length∧g.1.length≤5:=by
 obtain ⟨k1,k2⟩:=H.divmod (x:=(i:Int)) (by omega) (by omega)
 exact ⟨k1,k2,H.2.2.pos,H.1.n5⟩
theorem EB: ∀i,i≤a.2.1.length*g.1.length→HE g a R i<2 ^ 5
 | 0,_=>by simp[HE]
 | i+1,hi=>by
  have h:=EB i (by omega)
  obtain ⟨k1,k2,k3,k4⟩:=FY H (i:=i) (by omega)
  rw[HE];split
  ·exact sO h (by omega)
  ·exact h
theorem KQ: ∀i,i≤a.2.1.length*g.1.length→ ∀j:Nat,((HE g a R i).testBit j=true↔(j:Int)∈Hv g a R i)
 | 0,_,j=>by simp[HE,Hv]
 | i+1,hi,j=>by
  have h:=KQ i (by omega) j
  rw[HE,Hv];split
  ·rw[qD,Bool.or_eq_true,h,List.mem_append,List.mem_singleton,decide_eq_true_eq]
   constructor
   ·rintro (h | h)
    ·exact .inl h
    ·exact .inr (by rw[h])
   ·rintro (h | h)
    ·exact .inl h
    ·exact .inr (Int.ofNat_inj.1 h).symm
  ·exact h
theorem EC: ∀i,i≤a.2.1.length*g.1.length→ ∀x∈Hv g a R i,∃j:Nat,j<30∧x=(j:Int)
 | 0,_,x,hx=>by cases hx
 | i+1,hi,x,hx=>by
  obtain ⟨k1,k2,k3,k4⟩:=FY H (i:=i) (by omega)
  rw[Hv] at hx;split at hx
  ·rcases List.mem_append.1 hx with hx | hx
   ·exact EC i (by omega) x hx
   ·exact ⟨_,by omega,List.mem_singleton.1 hx⟩
  ·exact EC i (by omega) x hx
include hR
theorem SE:ai (gm g a R) aD (0,0)=some (.brk ((HE g a R (a.2.1.length*g.1.length):Int),((a.2.1.length*g.1.length:Nat):Int))):=by
 have hN:=nN H.1 H.2.2 H.2.1
 have:=aA (f:=gm g a R) (fun i=>((HE g a R i:Int),(i:Int))) (a.2.1.length*g.1.length) (fun i hi=>by
  obtain ⟨k1,k2,k3,k4⟩:=FY H hi
  obtain ⟨q1,q2⟩:=KP (x:=i) (n:=a.2.1.length) (by omega)
  have hs:=EB H (R:=R) i (by omega)
  unfold gm
  simp only
  rw[if_pos (by simp only[decide_eq_true_eq];omega),aj (by omega) (by omega),fY (by omega),q1,q2,aa (by omega)];simp only[Option.bind_some]
  have ea:gl (g.1,g.2) (a.1,a.2.1,a.2.2) ((i / a.2.1.length:Nat):Int) ((i % a.2.1.length:Nat):Int)=_:=KO H k1 k2
  rw[ea,HE];simp only[Option.bind_some]
  unfold S9
  by_cases c:0≤nth R (i:Int)
  ·rw[if_pos (by simpa using c),decide_eq_true c,Bool.true_and]
   cases HD a ((i % a.2.1.length:Nat):Int) (nth g.1 ((i / a.2.1.length:Nat):Int)) with
   | false=>rfl
   | true =>
    simp only[if_true]
    rw[fY (Int.natCast_nonneg _),tU (by omega),FV (Nat.lt_of_lt_of_le hs (Nat.pow_le_pow_right (by decide) (by decide))) (Nat.pow_lt_pow_right (by decide) (by omega))];rfl
  ·rw[if_neg (by simpa using c),decide_eq_false c,Bool.false_and];rfl) (by unfold gm;simp only;rw[if_neg (by simp;omega)]) (kp (by omega))
 exact this
theorem SF:ai (du g a R) aD (([] :List Int),0)=some (.brk (Hv g a R (a.2.1.length*g.1.length),((a.2.1.length*g.1.length:Nat):Int))):=by
 have hN:=nN H.1 H.2.2 H.2.1
 have:=aA (f:=du g a R) (fun i=>(Hv g a R i,(i:Int))) (a.2.1.length*g.1.length) (fun i hi=>by
  obtain ⟨k1,k2,k3,k4⟩:=FY H hi
  obtain ⟨q1,q2⟩:=KP (x:=i) (n:=a.2.1.length) (by omega)
  have hl:=A3 g a R i
  have hv:=H.1.val _ (bg (xs:=g.1) (i:=((i / a.2.1.length:Nat):Int)) (Int.natCast_nonneg _) (Int.ofNat_lt.2 k1))
  unfold du
  simp only
  rw[if_pos (by simp only[decide_eq_true_eq];omega),aj (by omega) (by omega),fY (by omega),q1,q2,aa (by omega),fY (Int.natCast_nonneg _)];simp only[Option.bind_some]
  have ea:iQ (a.1,a.2.1,a.2.2) (sV 1 ((i % a.2.1.length:Nat):Int)) (nth g.1 ((i / a.2.1.length:Nat):Int))=_:=Ez H.2.2 H.2.1 ⟨Int.natCast_nonneg _,Int.ofNat_lt.2 k2⟩ hv
  rw[aj (xs:=g.1) (i:=((i / a.2.1.length:Nat):Int)) (Int.natCast_nonneg _) (Int.ofNat_lt.2 k1)];simp only[Option.bind_some]
  rw[ea,Hv];simp only[Option.bind_some]
  unfold S9
  by_cases c:0≤nth R (i:Int)
  ·rw[if_pos (by simpa using c),decide_eq_true c,Bool.true_and]
   cases HD a ((i % a.2.1.length:Nat):Int) (nth g.1 ((i / a.2.1.length:Nat):Int)) with
   | false=>rfl
   | true =>
    simp only[if_true]
    rw[aw (by simp;omega)];rfl
  ·rw[if_neg (by simpa using c),decide_eq_false c,Bool.false_and];rfl) (by unfold du;simp only;rw[if_neg (by simp;omega)]) (kp (by omega))
 exact this
end
def QW (g:GrT) (a:AutT) (x:Int):List Int:=dz (HE g a (RKs g a (x*(a.2.1.length:Int)+a.1)) (a.2.1.length*g.1.length)) 30
theorem A4 (g:GrT) (a:AutT) (x:Int):(QW g a x).length≤30:=ko _ _
section
variable {g:GrT} {a:AutT} (H:GOOD g a) {x:Int} (hx:0≤x∧x<g.1.length)
include H hx
theorem NH:lB g a x=some (QW g a x):=by
 unfold lB
 have e:j6 (g.1,g.2) (a.1,a.2.1,a.2.2) x=_:=QU H hx
 have hR:=KL H hx
 rw[e];simp only[Option.bind_some]
 rw[af (SE H hR),T3 (Nat.lt_of_lt_of_le (EB H _ (Nat.le_refl _)) (Nat.pow_le_pow_right (by decide) (by decide)))];rfl
theorem SG (e:bU g a [x] =some true):fE g a x=some (QW g a x):=by
 have hN:=nN H.1 H.2.2 H.2.1
 have hp:=H.2.2.pos
 have h1:=H.1.n1
 have hpp:0<a.2.1.length*g.1.length:=Nat.mul_pos hp (by omega)
 unfold fE
 have e:dY (g.1,g.2) (a.1,a.2.1,a.2.2) x=_:=SD H hx e
 have hR:=KL H hx
 rw[e];simp only[Option.bind_some]
 have hl:=A3 g a (RKs g a (x*(a.2.1.length:Int)+a.1)) (a.2.1.length*g.1.length)
 rw[if_neg (by simp only[decide_eq_true_eq];omega),af (SF H hR),EA _ (by simp only;omega)];simp only[Option.bind_some]
 unfold QW
 rw[QV (EC H _ (Nat.le_refl _)) fun i _=>KQ H _ (Nat.le_refl _) i]
end
theorem NI (g:GrT) (a:AutT) (hg:Data.sm g) (ha:Data.sm a): ∃b,gO g a 0 0=some b∧bU g a [] =some b∧(b=true→GOOD g a∧ ∀x:Int,0≤x→x<g.1.length→bU g a [x] =some true):=by
 obtain ⟨b,c,e1,e2,e3,e4,k1,k2⟩:=KJ g a hg ha
 obtain ⟨b',es,ei,k⟩:=KK g a hg ha 0
 have e2':be (g.1,g.2)=_:=e2
 have e4':bA (a.1,a.2.1,a.2.2)=_:=e4
 have hl:=(aB hg.1).1
 have ew:IntKind.i64.wrap ((g.1.length:Int) - 1)=(g.1.length:Int) - 1:=cH (by omega) (by omega)
 have en:bU g a [] =some (b&&c):=by
  unfold bU
  have:ai (cf g []) aD 0=some (.brk 0):=by
   have:=aA (f:=cf g []) (fun _=>(0:Int)) 0 (fun i hi=>absurd hi (Nat.not_lt_zero _)) (by unfold cf;simp) (by unfold aD;omega)
   exact this
  rw[af this,e2',e4']
  cases b <;> cases c <;> rfl
 have e0: ∀x:Int,bU g a [x] =if 0≤x∧x≤(g.1.length:Int) - 1 then some (b&&c) else some false:=fun x=>by
  unfold bU
  rcases Hr (f:=cf g [x]) 1 (fun _=>0≤x∧x≤(g.1.length:Int) - 1) false (by decide) (fun i hi=>by
   obtain rfl:i=0:=by omega
   unfold cf
   rw[if_pos (by simp),show az [x] ((0:Nat):Int)=some x from rfl];simp only[Option.bind_some]
   rw[HB,ew];simp only[Option.bind_some,decide_eq_true_eq]
   split <;> rfl) (by unfold cf;simp) with ⟨k,h⟩ | ⟨k,h⟩
  ·rw[af k,e2',e4',if_pos (h 0 (by decide))]
   cases b <;> cases c <;> rfl
  ·rw[bE k,if_neg (fun c=>h fun _ _=>c)]
 have hbb:b'=(b&&c):=by
  have h:=e0 0
  rw[ei] at h
  by_cases c0:(0:Int)≤0∧(0:Int)≤(g.1.length:Int) - 1
  ·rw[if_pos c0] at h;exact Option.some.inj h
  ·rw[if_neg c0] at h
   have:b'=false:=Option.some.inj h
   rw[this]
   cases b with
   | false=>rfl
   | true=>have:=(k1 rfl).n1;omega
 refine ⟨b',es,by rw[en,hbb],fun hb=>⟨(k hb).1,fun x h0 h1=>?_⟩⟩
 rw[e0,if_pos ⟨h0,by omega⟩,←hbb,hb]
def QX (g:GrT) (a:AutT):Nat→List (Int×Int)
 | 0=>[]
 | x+1=>QX g a x++(QW g a (x:Int)).map fun y=>((x:Int),y)
theorem vt (g:GrT) (a:AutT): ∀x,(QX g a x).length≤30*x
 | 0=>by simp[QX]
 | x+1=>by
  have h1:=vt g a x
  have h2:=A4 g a (x:Int)
  rw[QX,List.length_append,List.length_map];omega
theorem FZ {f:(List (Int×Int))×Int→Option (Out (List (Int×Int)) ((List (Int×Int))×Int))} {l:List Int} {x:Int} {o:List (Int×Int)} (hl:l.length≤30) (ho:o.length≤1000)
  (hf: ∀(o:List (Int×Int)) (j:Nat),j<l.length→o.length≤2000→f (o,(j:Int))=some (.nxt (o++ [(x,nth l (j:Int))],((j+1:Nat):Int)))) (he: ∀o,f (o,(l.length:Int))=some (.brk (o,(l.length:Int)))) :
  ai f aD (o,0)=some (.brk (o++l.map fun y=>(x,y),(l.length:Int))):=by
 have:=aA (f:=f) (fun j=>(o++(l.take j).map fun y=>(x,y),(j:Int))) l.length (fun j hj=>by
  rw[hf _ j hj (by rw[List.length_append,List.length_map,List.length_take];omega),rv hj,List.map_append,List.append_assoc];rfl) (he _) (kp (by omega))
 rw[List.take_length] at this
 simpa using this
theorem NJ (g:GrT) (a:AutT) (hg:Data.sm g) (ha:Data.sm a): ∃l,gp g a=some l∧gq g a=some l∧l.length≤150:=by
 obtain ⟨b,es,ei,hb⟩:=NI g a hg ha
 have es:gO (g.1,g.2) (a.1,a.2.1,a.2.2) 0 0=_:=es
 have ei:bU (g.1,g.2) (a.1,a.2.1,a.2.2) [] =_:=ei
 have hl:=(aB hg.1).1
 unfold gp gq
 rw[ei];simp only[Option.bind_some]
 cases b with
 | false =>
  refine ⟨[],?_,rfl,by decide⟩
  have:=aA (f:=b7 g a) (fun _=>(([] :List (Int×Int)),(0:Int))) 0 (fun i hi=>absurd hi (Nat.not_lt_zero _)) (by
   unfold b7
   rw[es];simp only[Option.bind_some,Bool.false_eq_true,if_false]
   split <;> rfl) (by unfold aD;omega)
  rw[af this]
 | true =>
  obtain ⟨H,hok⟩:=hb rfl
  have h5:=H.1.n5
  refine ⟨QX g a g.1.length,?_,?_,by have:=vt g a g.1.length;omega⟩
  ·have:=aA (f:=b7 g a) (fun x=>(QX g a x,(x:Int))) g.1.length (fun x hx=>by
    have h1:=vt g a x
    have h2:=A4 g a (x:Int)
    unfold b7
    simp only
    have ef:lB (g.1,g.2) (a.1,a.2.1,a.2.2) (x:Int)=_:=NH H (x:=(x:Int)) ⟨by omega,by omega⟩
    rw[if_pos (by simp only[decide_eq_true_eq];omega),es,ef];simp only[Option.bind_some,if_true]
    rw[af (FZ (x:=(x:Int)) (l:=QW g a (x:Int)) h2 (by omega) (fun o j hj ho=>by
     unfold jo
     simp only
     rw[if_pos (by simp;omega),aj (by omega) (by omega)];simp only[Option.bind_some]
     rw[aw (by simp;omega),aa (by omega)];rfl) (fun o=>by unfold jo;simp)),aa (by omega)]
    rfl) (by unfold b7;simp) (kp (by omega))
   have this:ai (b7 g a) aD (([] :List (Int×Int)),0)=_:=this
   rw[af this]
  ·simp only[if_true]
   have:=aA (f:=dZ g a) (fun x=>(QX g a x,(x:Int))) g.1.length (fun x hx=>by
    have h1:=vt g a x
    have h2:=A4 g a (x:Int)
    unfold dZ
    simp only
    have ef:fE (g.1,g.2) (a.1,a.2.1,a.2.2) (x:Int)=_:=SG H (x:=(x:Int)) ⟨by omega,by omega⟩ (hok _ (by omega) (by omega))
    rw[if_pos (by simp only[decide_eq_true_eq];omega),ef];simp only[Option.bind_some]
    rw[af (FZ (x:=(x:Int)) (l:=QW g a (x:Int)) h2 (by omega) (fun o j hj ho=>by
     unfold jq
     simp only
     rw[if_pos (by simp;omega),aj (by omega) (by omega)];simp only[Option.bind_some]
     rw[aw (by simp;omega),aa (by omega)];rfl) (fun o=>by unfold jq;simp)),aa (by omega)]
    rfl) (by unfold dZ;simp) (kp (by omega))
   have this:ai (dZ g a) aD (([] :List (Int×Int)),0)=_:=this
   rw[af this]
end D
set_option synthInstance.maxSize 20000
set_option synthInstance.maxHeartbeats 2000000
namespace D
open Go.RowKit
theorem NK {l:List (Int×Int)} (h:l.length≤1048576):Data.sm l:=⟨h,fun _ _=>⟨trivial,trivial⟩⟩
theorem CW {r:Ky} (hr:Data.sm r) {g:GrT} (hg:Data.sm g) (id:Int): ∃(l:List (Int×Int)) (b:Bool),gz r g id=some (l,b)∧eO r g id=some (l,b)∧l.length≤150:=by
 obtain ⟨⟨a,q⟩,es,ei,sa⟩:=Hq hr id
 obtain ⟨b,e1,k1⟩:=FU g (aB hg.1).1 (aB hg.2).1
 have es:dn (r.1,r.2) id=_:=es
 have ei:dt (r.1,r.2) id=_:=ei
 have e2:bV (g.1,g.2)=some b:=by rw[CR];exact e1
 have e1:be (g.1,g.2)=_:=e1
 obtain ⟨l,f1,f2,hl⟩:=NJ g a hg sa
 have f1:gp (g.1,g.2) (a.1,a.2.1,a.2.2)=_:=f1
 have f2:gq (g.1,g.2) (a.1,a.2.1,a.2.2)=_:=f2
 unfold gz eO
 rw[es,ei,e1,e2];simp only[Option.bind_some]
 rw[f1,f2]
 cases q with
 | false=>exact ⟨[],false,rfl,rfl,by decide⟩
 | true =>
  cases b with
  | false=>exact ⟨[],false,rfl,rfl,by decide⟩
  | true=>exact ⟨l,true,rfl,rfl,hl⟩
theorem xC (x:Ky) (y:GrT) (id:Int) (hx:Data.lim x) (hy:Data.lim y) (_:Data.lim id):cG x y id=some true:=by
 unfold cG
 simp only[fb]
 obtain ⟨r1,e1,k1⟩:=Cy x 1048576 hx (by decide) (by decide)
 rw[e1];simp only[Option.bind_some]
 rcases k1 with k1 | ⟨k1,j1,s1⟩
 ·rw[if_pos (decide_eq_true k1)]
 rw[if_neg (by simpa using k1)]
 obtain ⟨r2,e2,k2⟩:=JK y r1 hy k1 j1
 rw[e2];simp only[Option.bind_some]
 rcases k2 with k2 | ⟨k2,j2,s2⟩
 ·rw[if_pos (decide_eq_true k2)]
 rw[if_neg (by simpa using k2)]
 obtain ⟨l,b,es,ei,hl⟩:=CW s1 s2 id
 have sl:=NK (l:=l) (by omega)
 have b1:=Ef x s1
 have b2:=M8 y s2
 have b3:=MY l sl
 have em1:=Eg x s1 (k:=1) (by omega)
 have em2:=M9 y s2 (k:=1+fU x) (by omega)
 have em3:=MZ l sl (k:=1) (by omega)
 have eh3:=M0 l sl (k:=1) (by omega)
 have em1:eP x 1=_:=em1
 have em3:iV l 1=_:=em3
 have eh3:fS (mkd fH tO l 1) 1=_:=eh3
 simp only[Cz x s1,JP y s2,es,ei,JQ l l sl sl,CA x x s1 s1,JV y y s2 s2,Option.bind_some,fb,em1,em2,em3,eh3,decide_true,if_true]
 have n1: ¬((1+fU x+px y:Nat):Int)<0:=by omega
 have n2: ¬((1+smk fH l:Nat):Int)<0:=by omega
 simp only[decide_eq_true_eq,n1,n2,if_false,bne_self_eq_false,Bool.false_eq_true]
end D
open Go.ChangeShapes Go.WideShapes Go.ChangeAt Go.RowKit
theorem own:ownKnob Tryz.prog.godebug=none:=by kernel_rfl
theorem laidOut:laidOutB Tryz.prog=true:=by kernel_rfl
theorem sS {H:Type} {enc:TypeId×Value→H} {P:Program} (hl:laidOutB P=true) {W W':World} (hb:Below W.heap.size W W') :
  ∀ {ts:List TypeId} {vs:List Value} {ds:List (DataW H)} {ps:List MemPlace},(∀t∈ts,P.readableRec t=true∧t<P.types.size)→
   DataW.TrodAll enc P W 0 (fun _=>true) true ts vs ds ps→(∀x∈ps,x.block<W.heap.size)→DataW.TrodAll enc P W' 0 (fun b=>decide (b<W.heap.size)) true ts vs ds ps
 | [],[],[],ps,_,h,_=>h
 | t::ts,v::vs,d::ds,ps,hr,⟨p,q,h1,h2,h3⟩,hlt=>by
  subst h3
  exact ⟨p,q,Below.trod hl (hr t (by simp)).1 (hr t (by simp)).2 h1 hb fun x hx=>hlt x (by simp[hx]),sS hl hb (fun t ht=>hr t (by simp[ht])) h2 fun x hx=>hlt x (by simp[hx]),rfl⟩
 | [],_::_,_,_,_,h,_=>h.elim
 | [],[],_::_,_,_,h,_=>h.elim
 | _::_,[],_,_,_,h,_=>h.elim
 | _::_,_::_,[],_,_,h,_=>h.elim
theorem NL {H:Type} {enc:TypeId×Value→H} {f:Func} {s:ChangeSpec} {W W':World} {args:Array Value} {ds:List (DataW H)} {before:List MemPlace} (tb:TypeId)
  (hb:Tryz.prog.underlying tb=some .bool) (hr:f.resultTypes= #[tb]) (hp:(f.params.toList.all fun t=>Tryz.prog.readableRec t&&decide (t<Tryz.prog.types.size))=true) (hv:s.vars= [])
  (hW:DataW.Whole enc Tryz.prog f.params.toList s.vars false W args.toList ds [] before) (hres:(s.fn H (ds++ [])).results= [.lit (.bool true)]) (hargs:(s.fn H (ds++ [])).args=ds) (hvars:(s.fn H (ds++ [])).vars= [])
  (hbel:Below W.heap.size W W'):s.post enc Tryz.prog f false true false false W args (.bool true) W':=by
 obtain ⟨p,q,h1,h2,h3,h4,h5⟩:=hW
 have hW':DataW.Whole enc Tryz.prog f.params.toList s.vars false W args.toList ds [] before:=⟨p,q,h1,h2,h3,h4,h5⟩
 have hq:q= []:=by rw[hv] at h2;exact h2
 subst hq
 simp only[List.append_nil] at h3
 subst h3
 refine ⟨ds,[],before,[],before,[],hW',?_,?_,?_,hbel.frame _,fun h=>by cases h⟩
 ·rw[hres,hr]
  exact trodAll_mk1 (shut_bool hb true)
 ·rw[hargs]
  exact sS laidOut hbel (fun t ht=>by have:=List.all_eq_true.1 hp t ht;simpa using this) h1 fun x hx=>by simpa using hW'.lt x hx
 ·rw[hvars,hv];rfl
open Go.ChangeShapes Go.WideShapes Go.ChangeAt Go.RowKit
namespace D
theorem op3:Opens Tryz.prog 3 bx:=JG Tryz.underlying3
theorem op4:Opens Tryz.prog 4 oE:=G9 Tryz.underlying4
theorem UQ:Opens Tryz.prog 89 (ae 4 oE):=gQ Tryz.underlying89 (by kernel_rfl) (by decide) op4
theorem UH:Opens Tryz.prog 26 (ae 3 bx):=gQ Tryz.underlying26 (by kernel_rfl) (by decide) op3
theorem UR:Opens Tryz.prog 90 (ae 26 (ae 3 bx)):=gQ Tryz.underlying90 (by kernel_rfl) (by decide) UH
theorem T4:Opens Tryz.prog 133 (aH bx (aH (ae 4 oE) (ae 26 (ae 3 bx)))):=by
 refine fG Tryz.underlying133 (by kernel_rfl) ?_
 refine di (R:=bx) (S:=aH (ae 4 oE) (ae 26 (ae 3 bx))) rfl (by kernel_rfl) op3 ?_
 refine di (R:=ae 4 oE) (S:=ae 26 (ae 3 bx)) rfl (by kernel_rfl) UQ ?_
 exact jw rfl (by kernel_rfl) UR
theorem US:Opens Tryz.prog 22 (ae 133 (aH bx (aH (ae 4 oE) (ae 26 (ae 3 bx))))):=gQ Tryz.underlying22 (by kernel_rfl) (by decide) T4
theorem T5:Opens Tryz.prog 232 (aH bx (aH bx (aH bx bx))):=by
 refine fG Tryz.underlying232 (by kernel_rfl) ?_
 refine di (R:=bx) (S:=aH (bx) (aH (bx) (bx))) rfl (by kernel_rfl) op3 ?_
 refine di (R:=bx) (S:=aH (bx) (bx)) rfl (by kernel_rfl) op3 ?_
 refine di (R:=bx) (S:=bx) rfl (by kernel_rfl) op3 ?_
 exact jw rfl (by kernel_rfl) op3
theorem T6:Opens Tryz.prog 135 (ae 232 (aH bx (aH bx (aH bx bx)))):=gQ Tryz.underlying135 (by kernel_rfl) (by decide) T5
theorem T7:Opens Tryz.prog 137 (ae 232 (aH bx (aH bx (aH bx bx)))):=by
 refine fG Tryz.underlying137 (by kernel_rfl) ?_
 exact jw rfl (by kernel_rfl) T6
theorem T8:Opens Tryz.prog 139 (aH bx (aH (ae 232 (aH bx (aH bx (aH bx bx)))) bx)):=by
 refine fG Tryz.underlying139 (by kernel_rfl) ?_
 refine di (R:=bx) (S:=aH (ae 232 (aH bx (aH bx (aH bx bx)))) (bx)) rfl (by kernel_rfl) op3 ?_
 refine di (R:=ae 232 (aH bx (aH bx (aH bx bx)))) (S:=bx) rfl (by kernel_rfl) T7 ?_
 exact jw rfl (by kernel_rfl) op3
theorem UT:Opens Tryz.prog 23 (ae 139 (aH bx (aH (ae 232 (aH bx (aH bx (aH bx bx)))) bx))):=gQ Tryz.underlying23 (by kernel_rfl) (by decide) T8
theorem UU:Opens Tryz.prog 25 (aH (ae 133 (aH bx (aH (ae 4 oE) (ae 26 (ae 3 bx))))) (ae 139 (aH bx (aH (ae 232 (aH bx (aH bx (aH bx bx)))) bx)))):=by
 refine fG Tryz.underlying25 (by kernel_rfl) ?_
 refine di (R:=ae 133 (aH bx (aH (ae 4 oE) (ae 26 (ae 3 bx))))) (S:=ae 139 (aH bx (aH (ae 232 (aH bx (aH bx (aH bx bx)))) bx))) rfl (by kernel_rfl) US ?_
 exact jw rfl (by kernel_rfl) UT
theorem T9 {W:World} {base:Nat} {z:Value} {H:Type} {enc:TypeId×Value→H} {d:DataW H} {p:List MemPlace} (hv:Value.okWide Tryz.prog W .any base 25 z) (h:DataW.Trod enc Tryz.prog W 0 (fun _=>true) true 25 z d p) :
  ∃(x:(List (Int×(List Bool)×(List (List Int))))×(List (Int×((List (Int×Int×Int×Int)))×Int))) (v0:Value) (v1:Value),z= .agg #[v0,v1] ∧Data.lim x∧(ae 133 (aH bx (aH (ae 4 oE) (ae 26 (ae 3 bx))))).rd (hp W) [v0] x.1∧(ae 139 (aH bx (aH (ae 232 (aH bx (aH bx (aH bx bx)))) bx))).rd (hp W) [v1] x.2:=by
 obtain ⟨fuel,hf⟩:=h
 obtain ⟨⟨cs⟩,rfl,-⟩:=okWide_struct Tryz.underlying25 hv
 obtain ⟨x,hx,hl⟩:=UU.out enc W _ _ _ hf
 have hx:(aH (ae 133 (aH bx (aH (ae 4 oE) (ae 26 (ae 3 bx))))) (ae 139 (aH bx (aH (ae 232 (aH bx (aH bx (aH bx bx)))) bx)))).rd (hp W) cs x:=hx
 obtain ⟨_,_,rfl,r0,r1⟩:=hx
 obtain ⟨v0,rfl⟩:=one_cell r0 rfl
 obtain ⟨v1,rfl⟩:=one_cell r1 rfl
 exact ⟨x,v0,v1,rfl,hl,r0,r1⟩
theorem Ua:Opens Tryz.prog 156 (aH bx (aH bx (aH bx bx))):=by
 refine fG Tryz.underlying156 (by kernel_rfl) ?_
 refine di (R:=bx) (S:=aH (bx) (aH (bx) (bx))) rfl (by kernel_rfl) op3 ?_
 refine di (R:=bx) (S:=aH (bx) (bx)) rfl (by kernel_rfl) op3 ?_
 refine di (R:=bx) (S:=bx) rfl (by kernel_rfl) op3 ?_
 exact jw rfl (by kernel_rfl) op3
theorem UV:Opens Tryz.prog 27 (ae 156 (aH bx (aH bx (aH bx bx)))):=gQ Tryz.underlying27 (by kernel_rfl) (by decide) Ua
theorem UW:Opens Tryz.prog 29 (aH (ae 3 bx) (ae 156 (aH bx (aH bx (aH bx bx))))):=by
 refine fG Tryz.underlying29 (by kernel_rfl) ?_
 refine di (R:=ae 3 bx) (S:=ae 156 (aH bx (aH bx (aH bx bx)))) rfl (by kernel_rfl) UH ?_
 exact jw rfl (by kernel_rfl) UV
theorem Ub {W:World} {base:Nat} {z:Value} {H:Type} {enc:TypeId×Value→H} {d:DataW H} {p:List MemPlace} (hv:Value.okWide Tryz.prog W .any base 29 z) (h:DataW.Trod enc Tryz.prog W 0 (fun _=>true) true 29 z d p) :
  ∃(x:(List Int)×(List (Int×Int×Int×Int))) (v0:Value) (v1:Value),z= .agg #[v0,v1] ∧Data.lim x∧(ae 3 bx).rd (hp W) [v0] x.1∧(ae 156 (aH bx (aH bx (aH bx bx)))).rd (hp W) [v1] x.2:=by
 obtain ⟨fuel,hf⟩:=h
 obtain ⟨⟨cs⟩,rfl,-⟩:=okWide_struct Tryz.underlying29 hv
 obtain ⟨x,hx,hl⟩:=UW.out enc W _ _ _ hf
 have hx:(aH (ae 3 bx) (ae 156 (aH bx (aH bx (aH bx bx))))).rd (hp W) cs x:=hx
 obtain ⟨_,_,rfl,r0,r1⟩:=hx
 obtain ⟨v0,rfl⟩:=one_cell r0 rfl
 obtain ⟨v1,rfl⟩:=one_cell r1 rfl
 exact ⟨x,v0,v1,rfl,hl,r0,r1⟩
theorem UX {W:World} {base:Nat} {z:Value} {H:Type} {enc:TypeId×Value→H} {d:DataW H} {p:List MemPlace} (hv:Value.okWide Tryz.prog W .any base 3 z) (h:DataW.Trod enc Tryz.prog W 0 (fun _=>true) true 3 z d p) :
  ∃(x:Int),z= .int .i64 x∧Data.lim x:=by
 obtain ⟨fuel,hf⟩:=h
 obtain ⟨n,rfl⟩:=okWide_int Tryz.underlying3 hv
 obtain ⟨x,hx,hl⟩:=op3.out enc W _ _ _ hf
 exact ⟨x,(List.cons.inj (show [_] = [_] from hx)).1,hl⟩
end D
open D (Data)
theorem uX (W:World) (args:Array Value) (H:Type) (enc:TypeId×Value→H) (base:Nat) (ds gs:List (DataW H)) (before:List MemPlace)
  (hval: ∀(j:Nat) t v,Tryz.f3.params[j]? =some t→args[j]? =some v→Value.okWide Tryz.prog W .any base t v)
  (hW:DataW.Whole enc Tryz.prog Tryz.f3.params.toList Rows.fnExactQueryAnswersSpec.vars false W args.toList ds gs before) :
  Calls Tryz.prog 3 args W fun e W'=> ∃v,e= .returned v∧Rows.fnExactQueryAnswersSpec.post enc Tryz.prog Tryz.f3 false true false false W args v W':=by
 have hW':=hW
 obtain ⟨p,q,hA,hV,rfl,hfz,hnd⟩:=hW
 rw[Tryz.params3] at hA hval
 obtain ⟨z0,vs0,d0,ds0,p0,q0,hargs,rfl,rfl,h0,r0⟩:=trodAll_cons hA
 obtain ⟨z1,vs1,d1,ds1,p1,q1,rfl,rfl,rfl,h1,r1⟩:=trodAll_cons r0
 obtain ⟨z2,vs2,d2,ds2,p2,q2,rfl,rfl,rfl,h2,r2⟩:=trodAll_cons r1
 obtain ⟨rfl,rfl,rfl⟩:=trodAll_nil r2
 obtain rfl:args= #[z0,z1,z2]:=by cases args;simp_all
 obtain ⟨rfl,rfl⟩:=trodVars_none hV
 obtain ⟨x0,v0_0,v0_1,rfl,l0,r0_0,r0_1⟩:=D.T9 (hval 0 _ _ rfl rfl) h0
 obtain ⟨x1,v1_0,v1_1,rfl,l1,r1_0,r1_1⟩:=D.Ub (hval 1 _ _ rfl rfl) h1
 obtain ⟨x2,rfl,l2⟩:=D.UX (hval 2 _ _ rfl rfl) h2
 have hc:=D.nS x0 x1 x2 true (D.xC x0 x1 x2 l0 l1 l2) (I:=D.hp W) (w0:=W) v0_0 v0_1 v1_0 v1_1 r0_0 r0_1 r1_0 r1_1 W [] (D.St.init W)
 refine hc.mono fun e W' ⟨v,he,hv,hs⟩=>?_
 subst he;subst hv
 exact ⟨_,rfl,NL (f:=Tryz.f3) (s:=Rows.fnExactQueryAnswersSpec) 4 Tryz.underlying4 rfl (by kernel_rfl) rfl hW' rfl rfl rfl (D.St.below hs)⟩
theorem ry (os:Os) (started:os.Started) (H:Type) (enc:TypeId×Value→H) :
  ReturnsInHanded {} Tryz.checked os 3 .any (Rows.fnExactQueryAnswersSpec.pre6 enc Tryz.prog Tryz.f3 Rows.fnExactQueryAnswersRow.domain false) (Rows.fnExactQueryAnswersSpec.post enc Tryz.prog Tryz.f3 false true false false):=by
 refine returnsInHanded_of_change_sized (C:=Tryz.checked) own started (by kernel_rfl) Tryz.func3
  (ChangeSpec.witness6 (enc:=enc) (C:=Tryz.checked) false ⟨#[],#[.agg #[.slice none 0 0,.slice none 0 0],.agg #[.slice none 0 0,.slice none 0 0],.int .i64 0],[]⟩ 8 (by kernel_rfl) (by kernel_rfl) (by kernel_rfl) (by kernel_rfl)) ?_
 intro W base args ds gs before hval hW hcnd hsz _
 exact uX W args H enc base ds gs before hval hW
set_option maxHeartbeats 4000000 in
theorem rz:joinedFacts Tryz.pinned.checked.prog 3 Tryz.f3 Rows.fnExactQueryAnswersSpec Rows.fnExactQueryAnswersRow=true:=by
 unfold joinedFacts
 repeat' (with_reducible refine Bool.and_eq_true_iff.2 ⟨?_,?_⟩)
 all_goals as_aux_lemma=>kernel_rfl
theorem holdsLQueryAnswers:Rows.FnExactQueryAnswersSaid:=
 OpenClaim.holds_of_wide 3 Tryz.f3 rfl rfl rfl rfl rfl rfl rfl ⟨rfl,rfl,rfl,rfl,rfl⟩ rfl rfl rfl rfl rfl (by kernel_rfl) Tryz.func3 rz
  (of_decide_eq_true (by kernel_rfl)) (by unfold Func.isWrapper;first | (rw[if_pos (by decide +kernel)];kernel_rfl) | (rw[if_neg (by decide +kernel)];exact ⟨rfl,rfl⟩))
  (fun os started H enc _=>ry os started H enc)
end Go.Proofs.YtakjhbbbjbebdaaGreat
