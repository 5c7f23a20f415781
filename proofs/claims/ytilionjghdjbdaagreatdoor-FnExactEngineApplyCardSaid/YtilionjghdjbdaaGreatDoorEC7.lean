/- FnExactEngineApply: for every input the law returns true and changes nothing that was there. Part 8 of 9. -/
import Derived.Test.YtilionjghdjbdaaGreatDoorEC6
set_option linter.unusedVariables false
set_option linter.unusedSimpArgs false
set_option linter.unnecessarySimpa false
set_option linter.unusedSectionVars false
set_option maxRecDepth 1000000
namespace Go.Proofs.YtilionjghdjbdaaGreatDoor
namespace D
open Go.RowKit
def pP (c:UInt8) (cur:List UInt8):List UInt8->List (List UInt8)
 | [] =>[cur]
 | b::l=>if b=c then cur::pP c [] l else pP c (cur++ [b]) l
theorem oU {c:UInt8} : ∀ {l cur:List UInt8},c∉l->pP c cur l= [cur++l]
 | [],cur,_=>by simp[pP]
 | b::l,cur,h=>by
  have hb:b≠c:=fun e=>h (by simp[e])
  rw[pP,if_neg hb,oU fun k=>h (bj _ k)]
  simp
theorem rr {c:UInt8} : ∀ {a cur r:List UInt8},c∉a->pP c cur (a++c::r)=(cur++a)::pP c [] r
 | [],cur,r,_=>by simp[pP]
 | b::a,cur,r,h=>by
  have hb:b≠c:=fun e=>h (by simp[e])
  rw[List.cons_append,pP,if_neg hb,rr fun k=>h (bj _ k)]
  simp
theorem FZ (c:UInt8): ∀(l cur:List UInt8),(pP c cur l).length<=l.length+1
 | [],cur=>by simp[pP]
 | b::l,cur=>by
  rw[pP]
  split
  ·have:=FZ c l [];simp only[ak];omega
  ·have:=FZ c l (cur++ [b]);simp only[ak];omega
theorem tJ (c:UInt8): ∀(l cur:List UInt8),∀x∈pP c cur l,x.length<=cur.length+l.length
 | [],cur,x,h=>by simp[pP] at h;subst h;simp
 | b::l,cur,x,h=>by
  rw[pP] at h
  split at h
  ·rcases aH h with rfl | h
   ·simp
   ·have:=tJ c l [] x h;simp at this;simp;omega
  ·have:=tJ c l _ x h;simp at this;simp;omega
theorem uy (c:UInt8) (l:List UInt8):c∉l\/ ∃a r,l=a++c::r/\c∉a:=by
 by_cases h:c∈l
 ·obtain ⟨a,r,e,k⟩:=List.eq_append_cons_of_mem h
  exact .inr ⟨a,r,e,k⟩
 ·exact .inl h
theorem F5 (s:ByteArray):mkB s.data.toList=s:=by simp[mkB]
theorem U6 (s:ByteArray): ∃l:List UInt8,s=mkB l:=⟨_,(F5 s).symm⟩
theorem yG {a b:List UInt8} (h:mkB a=mkB b):a=b:=by rw[<-fc a,h,fc]
theorem slB {l:List UInt8} {a b:Nat} (h1:a<=b) (h2:b<=l.length):rY (mkB l) (a:Int) (b:Int)=some (mkB ((l.take b).drop a)):=by
 unfold rY chk
 rw[bG,if_pos ⟨by omega,by omega,by omega⟩,aa]
 congr 1
 refine ByteArray.ext ?_
 simp[mkB,List.drop_take]
theorem atB {l:List UInt8} {i:Nat} (h:i<l.length):j7 (mkB l) (i:Int)=some ((l[i].toNat:Nat):Int):=by
 rw[Ar (by rw[bG];exact h)]
 simp[mkB]
theorem xq (l:List UInt8) (c:UInt8) (hl:l.length<=1000000):iw (mkB l) ((c.toNat:Nat):Int)=some ((pP c [] l).map mkB):=by
 obtain ⟨s,e,fr,done,rfl,h1,h2,h3⟩:=oR (f:=pf (mkB l) ((c.toNat:Nat):Int)) (fun i s=> ∃(fr:Nat) (done:List (List UInt8)),s=(done.map mkB,(fr:Int),(i:Int))/\fr<=i/\done.length<=i/\done++pP c ((l.take i).drop fr) (l.drop i)=pP c [] l) l.length (fun i s hi hI=>by
  obtain ⟨fr,done,rfl,h1,h2,h3⟩:=hI
  unfold pf
  simp only[]
  rw[if_pos (decide_eq_true (by rw[bG];omega)),atB hi]
  simp only[aa]
  rw[List.drop_eq_getElem_cons hi,pP] at h3
  by_cases k:l[i] =c
  ·rw[if_pos k] at h3
   rw[if_pos (by rw[k];simp),slB h1 (by omega)]
   simp only[aa]
   have hx:cm 16 (done.map mkB) [mkB ((l.take i).drop fr)] =some (done.map mkB++ [mkB ((l.take i).drop fr)]):=aK (by rw[List.length_map];simp only[ak,aF];omega)
   rw[hx]
   simp only[aa]
   refine ⟨_,rfl,i+1,done++ [(l.take i).drop fr],?_,aE _,by simp;omega,?_⟩
   ·rw[aP,List.map_cons,List.map_nil,af (by omega)]
   ·rw[<-h3,ai,List.drop_of_length_le (l:=l.take (i+1)) (by rw[ay];omega)];rfl
  ·rw[if_neg k] at h3
   rw[if_neg (fun e=>k (UInt8.toNat_inj.1 (by have:=eq_of_beq e;omega)))]
   simp only[aa]
   refine ⟨_,rfl,fr,done,?_,by omega,by omega,?_⟩
   ·rw[af (by omega)]
   ·rw[<-h3,List.take_succ_eq_append_getElem hi,List.drop_append_of_le_length (by rw[ay];omega)]) (fun s hI=>by
  obtain ⟨fr,done,rfl,h1,h2,h3⟩:=hI
  unfold pf
  simp only[]
  rw[if_neg (by rw[bG];simp)]) (s:=(([] :List ByteArray),0,0)) ⟨0,[],rfl,aE _,aE _,by simp⟩ (dB _ (by omega))
 unfold iw
 rw[au e,bG]
 simp only[]
 rw[slB h1 (aE _)]
 simp only[aa]
 have hx:cm 16 (done.map mkB) [mkB ((l.take l.length).drop fr)] =some (done.map mkB++ [mkB ((l.take l.length).drop fr)]):=aK (by rw[List.length_map];simp only[ak,aF];omega)
 rw[hx,<-h3,List.drop_length,pP]
 simp
theorem F6 {c:UInt8} : ∀ {l:List UInt8},c∉l->Lib.index l [c] = -1
 | [],_=>rfl
 | b::l,h=>by
  have hb:c≠b:=fun e=>h (by simp[e])
  have k:([c] :List UInt8).isPrefixOf (b::l)=false:=by simp[List.isPrefixOf,hb]
  rw[Lib.index,k,F6 fun k=>h (bj _ k)];rfl
theorem F7 {c:UInt8} : ∀ {a r:List UInt8},c∉a->Lib.index (a++c::r) [c] =(a.length:Int)
 | [],r,_=>by simp[Lib.index,List.isPrefixOf]
 | b::a,r,h=>by
  have hb:c≠b:=fun e=>h (by simp[e])
  have k:([c] :List UInt8).isPrefixOf (b::(a++c::r))=false:=by simp[List.isPrefixOf,hb]
  rw[List.cons_append,Lib.index,k,F7 fun k=>h (bj _ k)]
  rw[if_neg (by decide),if_neg (by rw[beq_iff_eq];omega),ak];omega
theorem Ip (c:UInt8): ∀(n:Nat) (l:List UInt8),l.length<=n->Lib.splitK [c] 0 (Lib.count l [c]) l=pP c [] l
 | n,l,h=>by
  rcases uy c l with k | ⟨a,r,rfl,k⟩
  ·have e:=F6 k
   rw[Lib.count_miss e,oU k];rfl
  ·have e:=F7 (r:=r) k
   have hd:(a++c::r).drop (a.length+1)=r:=by
    rw[<-List.drop_drop,List.drop_left];rfl
   rw[Lib.count_hit (by simp) e,rr k,Nat.add_comm 1,Lib.splitK,e,if_neg (by rw[beq_iff_eq];omega)]
   show List.take (a.length+0) _::Lib.splitK [c] 0 (Lib.count ((a++c::r).drop (a.length+1)) [c]) ((a++c::r).drop (a.length+1))=_
   rw[hd,Nat.add_zero,List.take_left]
   cases n with
   | zero=>simp at h
   | succ n=>rw[Ip c n r (by simp at h;omega)];rfl
theorem F8 (l:List UInt8) (c:UInt8) (hl:l.length<=1000000):cK (mkB l) (mkB [c])=some ((pP c [] l).map mkB):=by
 unfold cK R.Lv chk
 rw[bG,bG,if_pos ⟨by omega,by simp⟩,aa]
 congr 1
 have e:=Lib.splitB_data (mkB [c]) 0 (Lib.countB (mkB l) (mkB [c])) (mkB l)
 rw[fc,fc] at e
 have e2:Lib.countB (mkB l) (mkB [c])=Lib.count l [c]:=by unfold Lib.countB;rw[fc,fc]
 rw[e2,Ip c l.length l (aE _)] at e
 rw[e2,<-e,List.map_map]
 conv=>lhs;rw[<-List.map_id (Lib.splitB _ _ _ _)]
 exact List.map_congr_left fun x _=>(F5 x).symm
theorem TH {l:List UInt8} {c:UInt8} (hl:l.length<=1000000) (h:c∉l):cW (mkB l) (mkB [c])=some (mkB l,mkB [],false):=by
 unfold cW R.YU chk
 rw[bG,if_pos (by omega),aa,fc,fc]
 have:Lib.cut l [c] =(l,[],false):=by unfold Lib.cut;rw[F6 h,if_neg (by decide)]
 rw[this];rfl
theorem U7 {a r:List UInt8} {c:UInt8} (hl:(a++c::r).length<=1000000) (h:c∉a):cW (mkB (a++c::r)) (mkB [c])=some (mkB a,mkB r,true):=by
 unfold cW R.YU chk
 rw[bG,if_pos (by omega),aa,fc,fc]
 have:Lib.cut (a++c::r) [c] =(a,r,true):=by
  unfold Lib.cut
  rw[F7 h,if_pos (by omega)]
  have hd:(a++c::r).drop (a.length+1)=r:=by
   rw[<-List.drop_drop,List.drop_left];rfl
  show (List.take a.length _,List.drop (a.length+1) _,true)=_
  rw[List.take_left,hd]
 rw[this];rfl
theorem LJ {c:UInt8} : ∀ {l:List UInt8},c∉l->Lib.indexByte l c= -1
 | [],_=>rfl
 | b::l,h=>by
  have hb:b≠c:=fun e=>h (by simp[e])
  rw[Lib.indexByte,if_neg (by simpa using hb),LJ fun k=>h (bj _ k)];rfl
theorem U8 {c:UInt8} : ∀ {a r:List UInt8},c∉a->Lib.indexByte (a++c::r) c=(a.length:Int)
 | [],r,_=>by simp[Lib.indexByte]
 | b::a,r,h=>by
  have hb:b≠c:=fun e=>h (by simp[e])
  rw[List.cons_append,Lib.indexByte,if_neg (by simpa using hb),U8 fun k=>h (bj _ k),if_neg (by rw[beq_iff_eq];omega),ak];omega
end D
namespace D
open Go.RowKit
theorem aaz {α:Type} {l:List α} (h:l.length=3): ∃a b c,l= [a,b,c]:=by
 match l,h with
 | [a,b,c],_=>exact ⟨a,b,c,rfl⟩
abbrev EgT:Type:=Int×Int×Int×Int
theorem TJ (c:UInt8) (cur l:List UInt8):1<=(pP c cur l).length:=by
 rcases uy c l with k | ⟨a,r,rfl,k⟩
 ·rw[oU k];simp
 ·rw[rr k];simp
theorem Iq (u:Nat): ∀b∈Lib.decDigits u,48<=b.toNat/\b.toNat<=57:=by
 induction u using Nat.strongRecOn with
 | _ u ih =>
  intro b hb
  have k: ∀d,d<10->48<=(UInt8.ofNat (48+d)).toNat/\(UInt8.ofNat (48+d)).toNat<=57:=fun d hd=>by
   have e:(UInt8.ofNat (48+d)).toNat=48+d:=by simp;omega
   omega
  by_cases h:u<10
  ·rw[Lib.decDigits_one h] at hb
   obtain rfl:=az hb
   exact k u h
  ·rw[Aq h] at hb
   rcases aJ hb with hb | hb
   ·exact ih (u / 10) (by omega) b hb
   ·obtain rfl:=az hb
    exact k _ (Nat.mod_lt _ (by omega))
theorem TK (n:Int): ∀b∈Lib.itoa n,b.toNat=45\/48<=b.toNat/\b.toNat<=57:=by
 intro b hb
 unfold Lib.itoa at hb
 split at hb
 ·rcases aH hb with rfl | hb
  ·exact .inl rfl
  ·exact .inr (Iq _ b hb)
 ·exact .inr (Iq _ b hb)
theorem U9 {n:Int} {c:UInt8} (h1:c.toNat≠45) (h2:c.toNat<48\/57<c.toNat):c∉Lib.itoa n:=fun h=>by
 rcases TK n c h with k | k <;> omega
theorem Va {n:Int} (h:0<=n/\n<=9):Lib.itoa n= [UInt8.ofNat (48+n.toNat)]:=by
 unfold Lib.itoa
 rw[if_neg (by omega),Lib.decDigits_one (by omega)]
theorem Kb {e:EgT} (h:edOk e):tI e=Lib.itoa e.1++58:: [UInt8.ofNat (48+e.2.1.toNat),UInt8.ofNat (97+e.2.2.2.toNat),UInt8.ofNat (48+e.2.2.1.toNat)]:=by
 obtain ⟨-,h2,h3,-⟩:=h
 unfold tI
 rw[Va (n:=e.2.1) (by omega),Va (n:=e.2.2.1) (by omega)]
 simp
theorem Y5: ∀k:Fin 9,∃x,eN (k.val:Int)=some x:=by
 intro k
 match k with
 | ⟨0,_⟩=>exact ⟨_,rfl⟩
 | ⟨1,_⟩=>exact ⟨_,rfl⟩
 | ⟨2,_⟩=>exact ⟨_,rfl⟩
 | ⟨3,_⟩=>exact ⟨_,rfl⟩
 | ⟨4,_⟩=>exact ⟨_,rfl⟩
 | ⟨5,_⟩=>exact ⟨_,rfl⟩
 | ⟨6,_⟩=>exact ⟨_,rfl⟩
 | ⟨7,_⟩=>exact ⟨_,rfl⟩
 | ⟨8,_⟩=>exact ⟨_,rfl⟩
theorem Nj (z:ByteArray): ∃r,fO z=some r:=by
 obtain ⟨o,e,h⟩:=cM (f:=kP z) (fun i s=>s=(i:Int)) (fun o=> ∀s,o≠ .nxt s) 9 (fun i s hi hI=>by
  subst hI
  unfold kP
  by_cases h1:i<9
  ·obtain ⟨x,ex⟩:=Y5 ⟨i,h1⟩
   have ex:eN (i:Int)=some x:=ex
   rw[if_pos (decide_eq_true (by omega)),ex]
   simp only[aa]
   by_cases c:(x==z)=true
   ·rw[if_pos c];exact .inr ⟨_,rfl,fun s' h=>(by simp at h),fun s' h=>(by simp at h)⟩
   ·rw[if_neg c];exact .inl ⟨h1,_,rfl,af (by omega)⟩
  ·obtain rfl:i=9:=by omega
   rw[if_neg (by decide)];exact .inr ⟨_,rfl,fun s' h=>(by simp at h),fun s' h=>(by simp at h)⟩) (s:=(0:Int)) rfl (dB _ (by omega))
 unfold fO
 rw[e]
 cases o with
 | nxt s=>exact absurd rfl (h s)
 | brk s=>exact ⟨_,rfl⟩
 | ret r=>exact ⟨_,rfl⟩
theorem QC: ∀k:Fin 3,fO (mkB [UInt8.ofNat (97+k.val)])=some (2*(k.val:Int),true):=by
 intro k
 have hf:=dB 100 (by omega)
 obtain ⟨n,hn⟩: ∃n,aV=n+6:=⟨aV - 6,by omega⟩
 unfold fO
 rw[hn]
 match k with
 | ⟨0,_⟩=>rfl
 | ⟨1,_⟩=>rfl
 | ⟨2,_⟩=>rfl
theorem abh: ∀d:Fin 5,IntKind.i64.wrap ((IntKind.i64.wrap (((UInt8.ofNat (48+d.val)).toNat:Nat):Int)) - 48)=(d.val:Int):=by decide
theorem abx: ∀d:Fin 3,IntKind.i64.wrap ((IntKind.i64.wrap (((UInt8.ofNat (97+d.val)).toNat:Nat):Int)) - 97)=(d.val:Int):=by decide
theorem aby: ∀d:Fin 3,Rn (2*(d.val:Int)) 2=(d.val:Int):=by decide
def ZX (s:List UInt8) (r:EgT×Bool):Prop:=r=((0,0,0,0),false)\/r.2=true/\edOk r.1/\s=tI r.1
theorem Vc {e:EgT} {s:List UInt8} (h:s≠ []): ∃r:EgT×Bool,(if (if edOk e then mkB (tI e) else mkB []) !=mkB s then (some ((0,0,0,0),false)) else (some (e,true)):Option (EgT×Bool))=some r/\ZX s r:=by
 by_cases k:edOk e
 ·rw[if_pos k]
  by_cases c:mkB (tI e)=mkB s
  ·rw[if_neg (by simp[c])];exact ⟨_,rfl,.inr ⟨rfl,k,(yG c).symm⟩⟩
  ·rw[if_pos (by simpa using c)];exact ⟨_,rfl,.inl rfl⟩
 ·rw[if_neg k,if_pos (by
   rw[bne_iff_ne]
   exact fun c=>h (yG c).symm)]
  exact ⟨_,rfl,.inl rfl⟩
theorem abz (l:List UInt8) (hl:l.length<=1000000): ∃r,gi (mkB l)=some r/\ZX l r:=by
 unfold gi
 have ec:iw (mkB l) 58=some ((pP 58 [] l).map mkB):=xq l 58 hl
 rw[ec];simp only[aa]
 rcases uy 58 l with k | ⟨a,r,rfl,k⟩
 ·rw[oU k];exact ⟨_,rfl,.inl rfl⟩
 ·rw[rr k]
  rcases uy 58 r with k2 | ⟨b,q,rfl,k2⟩
  ·rw[oU k2]
   simp only[List.nil_append,List.map_cons,List.map_nil]
   have g0:aQ [mkB a,mkB r] 0=some (mkB a):=rfl
   have g1:aQ [mkB a,mkB r] 1=some (mkB r):=rfl
   rw[if_neg (by simp)]
   simp only[g0,g1,aa,bG]
   by_cases h3:r.length=3
   ·obtain ⟨x,y,z,rfl⟩:=aaz h3
    obtain ⟨n,en,-,-⟩:=rq (mkB a)
    obtain ⟨t,et⟩:=Nj (mkB [y])
    have s1:rY (mkB [x,y,z]) 1 2=some (mkB [y]):=slB (l:=[x,y,z]) (a:=1) (b:=2) (by decide) (by simp)
    have a0:j7 (mkB [x,y,z]) 0=some ((x.toNat:Nat):Int):=atB (l:=[x,y,z]) (i:=0) (by simp)
    have a2:j7 (mkB [x,y,z]) 2=some ((z.toNat:Nat):Int):=atB (l:=[x,y,z]) (i:=2) (by simp)
    rw[if_neg (by simp),en,s1]
    simp only[aa]
    rw[et,a0,a2]
    simp only[aa]
    rw[Qy]
    simp only[aa]
    exact Vc (by simp)
   ·rw[if_pos (by rw[bne_iff_ne];omega)];exact ⟨_,rfl,.inl rfl⟩
  ·rw[rr k2]
   have:=TJ 58 [] q
   rw[if_pos (by rw[bne_iff_ne];simp only[List.length_map,ak];omega)]
   exact ⟨_,rfl,.inl rfl⟩
theorem abA (l:List UInt8) (hl:l.length<=1000000): ∃r,gq (mkB l)=some r/\ZX l r:=by
 unfold gq
 rcases uy 58 l with k | ⟨a,r,rfl,k⟩
 ·have ec:cW (mkB l) (⟨#[58]⟩)=some (mkB l,mkB [],false):=TH hl k
  rw[ec];exact ⟨_,rfl,.inl rfl⟩
 ·have ec:cW (mkB (a++58::r)) (⟨#[58]⟩)=some (mkB a,mkB r,true):=U7 hl k
  rw[ec]
  simp only[aa,bG]
  by_cases h3:r.length=3
  ·obtain ⟨x,y,z,rfl⟩:=aaz h3
   obtain ⟨n,-,en,-⟩:=rq (mkB a)
   have a0:j7 (mkB [x,y,z]) 0=some ((x.toNat:Nat):Int):=atB (l:=[x,y,z]) (i:=0) (by simp)
   have a1:j7 (mkB [x,y,z]) 1=some ((y.toNat:Nat):Int):=atB (l:=[x,y,z]) (i:=1) (by simp)
   have a2:j7 (mkB [x,y,z]) 2=some ((z.toNat:Nat):Int):=atB (l:=[x,y,z]) (i:=2) (by simp)
   rw[if_neg (by simp),en,a0,a1,a2]
   simp only[aa]
   rw[Qz]
   simp only[aa]
   exact Vc (by simp)
  ·rw[if_pos (by rw[bne_iff_ne];omega)];exact ⟨_,rfl,.inl rfl⟩
theorem Xu {e:EgT} (h:edOk e):gi (mkB (tI e))=some (e,true)/\gq (mkB (tI e))=some (e,true):=by
 have hn:=uv h
 have he:=Kb h
 have hl:(tI e).length<=1000000:=by omega
 obtain ⟨h1,h2,h3,h4⟩:=id h
 obtain ⟨p1,p2⟩:=FW (n:=e.1) (by omega)
 have k:(58:UInt8)∉Lib.itoa e.1:=U9 (by decide) (by decide)
 obtain ⟨f,hf,ef⟩: ∃k:Nat,k<5/\e.2.1=(k:Int):=⟨e.2.1.toNat,by omega,by omega⟩
 obtain ⟨t,ht,et⟩: ∃k:Nat,k<5/\e.2.2.1=(k:Int):=⟨e.2.2.1.toNat,by omega,by omega⟩
 obtain ⟨q,hq,eq⟩: ∃k:Nat,k<3/\e.2.2.2=(k:Int):=⟨e.2.2.2.toNat,by omega,by omega⟩
 have hx:tI e=Lib.itoa e.1++58:: [UInt8.ofNat (48+f),UInt8.ofNat (97+q),UInt8.ofNat (48+t)]:=by
  rw[he,ef,et,eq];rfl
 have k2:(58:UInt8) ∉ [UInt8.ofNat (48+f),UInt8.ofNat (97+q),UInt8.ofNat (48+t)]:=by
  have e1:(UInt8.ofNat (48+f)).toNat=48+f:=by simp;omega
  have e2:(UInt8.ofNat (97+q)).toNat=97+q:=by simp;omega
  have e3:(UInt8.ofNat (48+t)).toNat=48+t:=by simp;omega
  have e4:(58:UInt8).toNat=58:=rfl
  intro hm
  simp only[List.mem_cons,List.not_mem_nil,or_false] at hm
  rcases hm with hm | hm | hm <;> (have:=congrArg UInt8.toNat hm;omega)
 have a0:j7 (mkB [UInt8.ofNat (48+f),UInt8.ofNat (97+q),UInt8.ofNat (48+t)]) 0=some (((UInt8.ofNat (48+f)).toNat:Nat):Int):=atB (l:=[UInt8.ofNat (48+f),UInt8.ofNat (97+q),UInt8.ofNat (48+t)]) (i:=0) (by simp)
 have a1:j7 (mkB [UInt8.ofNat (48+f),UInt8.ofNat (97+q),UInt8.ofNat (48+t)]) 1=some (((UInt8.ofNat (97+q)).toNat:Nat):Int):=atB (l:=[UInt8.ofNat (48+f),UInt8.ofNat (97+q),UInt8.ofNat (48+t)]) (i:=1) (by simp)
 have a2:j7 (mkB [UInt8.ofNat (48+f),UInt8.ofNat (97+q),UInt8.ofNat (48+t)]) 2=some (((UInt8.ofNat (48+t)).toNat:Nat):Int):=atB (l:=[UInt8.ofNat (48+f),UInt8.ofNat (97+q),UInt8.ofNat (48+t)]) (i:=2) (by simp)
 have s1:rY (mkB [UInt8.ofNat (48+f),UInt8.ofNat (97+q),UInt8.ofNat (48+t)]) 1 2=some (mkB [UInt8.ofNat (97+q)]):=slB (l:=[UInt8.ofNat (48+f),UInt8.ofNat (97+q),UInt8.ofNat (48+t)]) (a:=1) (b:=2) (by decide) (by simp)
 have v1:=abh ⟨f,hf⟩
 have v2:=abh ⟨t,ht⟩
 have v3:=abx ⟨q,hq⟩
 have v4:=aby ⟨q,hq⟩
 have v5:=QC ⟨q,hq⟩
 simp only at v1 v2 v3 v4 v5
 have ee:(e.1,(f:Int),(t:Int),(q:Int))=e:=by rw[<-ef,<-et,<-eq]
 constructor
 ·unfold gi
  have ec:iw (mkB (tI e)) 58=some ((pP 58 [] (tI e)).map mkB):=xq _ 58 hl
  rw[ec];simp only[aa]
  rw[hx,rr k,oU k2]
  simp only[List.nil_append,List.map_cons,List.map_nil]
  rw[if_neg (by simp)]
  have g0: ∀a b:ByteArray,aQ [a,b] 0=some a:=fun a b=>rfl
  have g1: ∀a b:ByteArray,aQ [a,b] 1=some b:=fun a b=>rfl
  simp only[g0,g1,aa,bG]
  rw[if_neg (by simp),p1,s1]
  simp only[aa]
  rw[v5,a0,a2]
  simp only[aa]
  rw[v1,v2,v4,ee,Qy,if_pos h,<-hx]
  simp
 ·unfold gq
  have ec:cW (mkB (tI e)) (⟨#[58]⟩)=some (mkB (Lib.itoa e.1),mkB [UInt8.ofNat (48+f),UInt8.ofNat (97+q),UInt8.ofNat (48+t)],true):=by
   rw[hx] at hl⊢
   exact U7 hl k
  rw[ec]
  simp only[aa,bG]
  rw[if_neg (by simp),p2,a0,a1,a2]
  simp only[aa]
  rw[v1,v2,v3,ee,Qz,if_pos h]
  simp
theorem QD (l:List UInt8) (hl:l.length<=1000000): ∃r,gi (mkB l)=some r/\gq (mkB l)=some r/\ZX l r:=by
 by_cases h: ∃e:EgT,edOk e/\l=tI e
 ·obtain ⟨e,he,rfl⟩:=h
  exact ⟨_,(Xu he).1,(Xu he).2,.inr ⟨rfl,he,rfl⟩⟩
 ·obtain ⟨r1,e1,k1⟩:=abz l hl
  obtain ⟨r2,e2,k2⟩:=abA l hl
  rcases k1 with rfl | ⟨-,a,b⟩
  ·rcases k2 with rfl | ⟨-,a,b⟩
   ·exact ⟨_,e1,e2,.inl rfl⟩
   ·exact absurd ⟨_,a,b⟩ h
  ·exact absurd ⟨_,a,b⟩ h
end D
namespace D
open Go.RowKit
theorem TL {e:EgT} (h:edOk e) {c:UInt8} (h1:c.toNat≠45) (h2:c.toNat<48):c∉tI e:=by
 obtain ⟨-,-,-,h4⟩:=id h
 rw[Kb h]
 intro hm
 rcases aJ hm with hm | hm
 ·exact U9 h1 (.inl h2) hm
 ·have e1:(UInt8.ofNat (48+e.2.1.toNat)).toNat=48+e.2.1.toNat:=by have:=h.2.1;simp;omega
  have e2:(UInt8.ofNat (97+e.2.2.2.toNat)).toNat=97+e.2.2.2.toNat:=by simp;omega
  have e3:(UInt8.ofNat (48+e.2.2.1.toNat)).toNat=48+e.2.2.1.toNat:=by have:=h.2.2.1;simp;omega
  have e4:(58:UInt8).toNat=58:=rfl
  simp only[List.mem_cons,List.not_mem_nil,or_false] at hm
  rcases hm with hm | hm | hm | hm <;> (have:=congrArg UInt8.toNat hm;omega)
theorem LK {c:ChT} (h:edOk c.2) {b:UInt8} (h1:b.toNat≠45) (h2:b.toNat<48) (h3:b.toNat≠43):b∉pO c:=by
 unfold pO
 intro hm
 rcases aH hm with hm | hm
 ·have:=congrArg UInt8.toNat hm
  split at this
  ·exact h3 this
  ·exact h1 this
 ·exact TL h h1 h2 hm
theorem zF {c:UInt8} : ∀ {r:List (List UInt8)} {x:List UInt8},c∉x->(∀y∈r,c∉y)->pP c [] (x++Lib.joinTail [c] r)=x::r
 | [],x,hx,_=>by
  have:Lib.joinTail [c] [] = []:=by simp[Lib.joinTail]
  rw[this,List.append_nil,oU hx];rfl
 | y::r,x,hx,hr=>by
  have:Lib.joinTail [c] (y::r)=c::(y++Lib.joinTail [c] r):=by simp[Lib.joinTail]
  rw[this,rr hx,zF (hr y (by simp)) fun z hz=>hr z (bj _ hz)];rfl
theorem QE {l:List ChT} (h:As l) (h0:l≠ []):pP 32 [] (btx l)=l.map pO:=by
 cases l with
 | nil=>exact absurd rfl h0
 | cons c r =>
  unfold btx
  rw[List.map_cons,Lib.join_cons]
  refine zF (LK (h c (by simp)) (by decide) (by decide) (by decide)) fun y hy=>?_
  obtain ⟨d,hd,rfl⟩:=List.mem_map.1 hy
  exact LK (h d (bj _ hd)) (by decide) (by decide) (by decide)
theorem QF:btx [] = []:=by simp[btx,Lib.join_nil]
theorem Vd {l:List ChT} (h0:l≠ []):btx l≠ []:=by
 cases l with
 | nil=>exact absurd rfl h0
 | cons c r=>unfold btx;rw[List.map_cons,Lib.join_cons];simp[pO]
def ZY (s:List UInt8) (r:(List ChT)×Bool):Prop:=r=([],false)\/r.2=true/\r.1.length<=6/\As r.1/\s=btx r.1
theorem QG {p:List UInt8} (h:1<=p.length):rY (mkB p) 1 (p.length:Int)=some (mkB (p.drop 1)):=by
 have:=slB (l:=p) (a:=1) (b:=p.length) h (aE _)
 rw[List.take_length] at this
 exact this
theorem tK (p:List UInt8):(mkB p==(⟨#[]⟩:ByteArray))=decide (p= []):=by
 by_cases h:p= []
 ·subst h;rfl
 ·rw[decide_eq_false h,beq_eq_false_iff_ne]
  intro k
  exact h (yG (b:=[]) k)
open Classical in
theorem Ve {f:List ChT->Option ByteArray} (hf: ∀l,f l=some (if l.length<=6/\As l then mkB (btx l) else mkB [])) {b:List ChT} {s:List UInt8} (h:s≠ []): ∃r:(List ChT)×Bool,((f b).bind fun r16=>if r16 !=mkB s then (some (([] :List ChT),false)) else (some (b,true)):Option ((List ChT)×Bool))=some r/\ZY s r:=by
 rw[hf]
 simp only[aa]
 by_cases k:b.length<=6/\As b
 ·rw[if_pos k]
  by_cases c:mkB (btx b)=mkB s
  ·rw[if_neg (by simp[c])];exact ⟨_,rfl,.inr ⟨rfl,k.1,k.2,(yG c).symm⟩⟩
  ·rw[if_pos (by simpa using c)];exact ⟨_,rfl,.inl rfl⟩
 ·rw[if_neg k,if_pos (by
   rw[bne_iff_ne]
   exact fun c=>h (yG c).symm)]
  exact ⟨_,rfl,.inl rfl⟩
theorem abB (l:List UInt8) (hl:l.length<=1000000): ∃r,dP (mkB l)=some r/\(l= [] \/ZY l r):=by
 unfold dP
 by_cases h0:l= []
 ·rw[tK,if_pos (decide_eq_true h0)];exact ⟨_,rfl,.inl h0⟩
 rw[tK,if_neg (by simpa using h0)]
 have ec:iw (mkB l) 32=some ((pP 32 [] l).map mkB):=xq l 32 hl
 rw[ec];simp only[aa]
 obtain ⟨o,e,hQ⟩:=cM (f:=cF ((pP 32 [] l).map mkB)) (fun i s=> ∃b:List ChT,s=((i:Int),b)/\b.length=i) (fun o=>o= .ret (([] :List ChT),false)\/ ∃s,o= .brk s) 7 (fun i s hi hI=>by
  obtain ⟨b,rfl,hb⟩:=hI
  unfold cF
  simp only[]
  by_cases h1:i<((pP 32 [] l).map mkB).length
  ·rw[bF h1,if_pos rfl]
   by_cases h7:i<=6
   ·rw[if_pos (decide_eq_true (by omega)),aB h1]
    simp only[aa]
    rw[List.length_map] at h1
    have hp:=tJ 32 l [] _ (List.getElem_mem h1)
    rw[List.getElem_map]
    generalize (pP 32 [] l)[i] =p at hp⊢
    rw[aF] at hp
    rw[bG]
    by_cases h2:p.length<2
    ·rw[if_pos (decide_eq_true (by omega))]
     exact .inr ⟨_,rfl,fun s' h=>(by simp at h),.inl rfl⟩
    ·rw[if_neg (by simp;omega),QG (by omega)]
     simp only[aa]
     obtain ⟨r,er,-,-⟩:=QD (p.drop 1) (by rw[aR];omega)
     rw[er]
     simp only[aa]
     have a0:j7 (mkB p) 0=some ((p[0].toNat:Nat):Int):=atB (l:=p) (i:=0) (by omega)
     by_cases h3:r.2=true
     ·rw[if_pos h3,a0]
      simp only[aa]
      have hx: ∀z:ChT,cm 40 b [z] =some (b++ [z]):=fun z=>aK (by simp only[ak,aF];omega)
      rw[hx]
      simp only[aa]
      exact .inl ⟨by omega,_,rfl,_,by rw[af (by omega)],by simp;omega⟩
     ·rw[if_neg h3]
      exact .inr ⟨_,rfl,fun s' h=>(by simp at h),.inl rfl⟩
   ·rw[if_neg (by simp;omega)]
    exact .inr ⟨_,rfl,fun s' h=>(by simp at h),.inr ⟨_,rfl⟩⟩
  ·rw[if_neg (by simp only[decide_eq_true_eq];omega)]
   exact .inr ⟨_,rfl,fun s' h=>(by simp at h),.inr ⟨_,rfl⟩⟩) (s:=(0,([] :List ChT))) ⟨[],rfl,rfl⟩ (dB _ (by omega))
 rcases hQ with rfl | ⟨s,rfl⟩
 ·rw[cq e];exact ⟨_,rfl,.inr (.inl rfl)⟩
 ·rw[au e]
  obtain ⟨r,er,k⟩:=Ve (f:=cT) (fun l=>(uw l).1) (b:=s.2) h0
  exact ⟨r,er,.inr k⟩
theorem abC (l:List UInt8) (hl:l.length<=1000000): ∃r,dQ (mkB l)=some r/\(l= [] \/ZY l r):=by
 unfold dQ
 by_cases h0:l= []
 ·rw[tK,if_pos (decide_eq_true h0)];exact ⟨_,rfl,.inl h0⟩
 rw[tK,if_neg (by simpa using h0)]
 have ec:cK (mkB l) (⟨#[32]⟩)=some ((pP 32 [] l).map mkB):=F8 l 32 hl
 rw[ec];simp only[aa]
 have hn:=FZ 32 l []
 obtain ⟨o,e,hQ⟩:=cM (f:=cL ((pP 32 [] l).map mkB)) (fun i s=> ∃b:List ChT,s=((i:Int),b)/\b.length=i) (fun o=>o= .ret (([] :List ChT),false)\/ ∃s,o= .brk s) (pP 32 [] l).length (fun i s hi hI=>by
  obtain ⟨b,rfl,hb⟩:=hI
  unfold cL
  simp only[]
  by_cases h1:i<((pP 32 [] l).map mkB).length
  ·rw[bF h1,if_pos rfl,aB h1]
   simp only[aa]
   rw[List.length_map] at h1
   have hp:=tJ 32 l [] _ (List.getElem_mem h1)
   rw[List.getElem_map]
   generalize (pP 32 [] l)[i] =p at hp⊢
   rw[aF] at hp
   rw[tK,bG]
   by_cases h2:p= []
   ·rw[if_pos (decide_eq_true h2)]
    exact .inr ⟨_,rfl,fun s' h=>(by simp at h),.inl rfl⟩
   ·have h2':1<=p.length:=List.length_pos_iff.2 h2
    rw[if_neg (by simpa using h2),QG h2']
    simp only[aa]
    obtain ⟨r,-,er,-⟩:=QD (p.drop 1) (by rw[aR];omega)
    rw[er]
    simp only[aa]
    have a0:j7 (mkB p) 0=some ((p[0].toNat:Nat):Int):=atB (l:=p) (i:=0) (by omega)
    by_cases h3:r.2=true
    ·rw[if_pos h3,a0]
     simp only[aa]
     have hx: ∀z:ChT,cm 40 b [z] =some (b++ [z]):=fun z=>aK (by simp only[ak,aF];omega)
     rw[hx]
     simp only[aa]
     exact .inl ⟨by omega,_,rfl,_,by rw[af (by omega)],by simp;omega⟩
    ·rw[if_neg h3]
     exact .inr ⟨_,rfl,fun s' h=>(by simp at h),.inl rfl⟩
  ·rw[if_neg (by simp only[decide_eq_true_eq];omega)]
   exact .inr ⟨_,rfl,fun s' h=>(by simp at h),.inr ⟨_,rfl⟩⟩) (s:=(0,([] :List ChT))) ⟨[],rfl,rfl⟩ (dB _ (by omega))
 rcases hQ with rfl | ⟨s,rfl⟩
 ·rw[cq e];exact ⟨_,rfl,.inr (.inl rfl)⟩
 ·rw[au e]
  obtain ⟨r,er,k⟩:=Ve (f:=dX) (fun l=>(uw l).2) (b:=s.2) h0
  exact ⟨r,er,.inr k⟩
theorem QH {L:List ChT} (h:As L) (h6:L.length<=6) {i:Nat} (hi:i<L.length):cF ((L.map pO).map mkB) ((i:Int),L.take i)=some (.nxt (((i+1:Nat):Int),L.take (i+1)))/\cL ((L.map pO).map mkB) ((i:Int),L.take i)=some (.nxt (((i+1:Nat):Int),L.take (i+1))):=by
 have hl:i<((L.map pO).map mkB).length:=by rw[List.length_map,List.length_map];exact hi
 have hk:edOk L[i].2:=h _ (List.getElem_mem hi)
 have hp:=uv hk
 have eg:((L.map pO).map mkB)[i] =mkB (pO L[i]):=by simp
 obtain ⟨p1,p2⟩:=Xu hk
 have hs:(pO L[i]).length=(tI L[i].2).length+1:=by unfold pO;rw[ak]
 have h4:4<=(tI L[i].2).length:=by rw[Kb hk];simp
 have ed:(pO L[i]).drop 1=tI L[i].2:=rfl
 have a0:j7 (mkB (pO L[i])) 0=some (((if L[i].1 then (43:UInt8) else 45).toNat:Nat):Int):=atB (l:=pO L[i]) (i:=0) (by omega)
 have hz:((((if L[i].1 then (43:UInt8) else 45).toNat:Nat):Int)==43)=L[i].1:=by
  generalize L[i].1=t
  cases t <;> rfl
 have hx: ∀z:ChT,cm 40 (L.take i) [z] =some (L.take i++ [z]):=fun z=>aK (by rw[ay];simp only[ak,aF];omega)
 have et:=List.take_succ_eq_append_getElem hi
 have st:=QG (p:=pO L[i]) (by omega)
 constructor
 ·unfold cF
  simp only[]
  rw[bF hl,if_pos rfl,if_pos (decide_eq_true (by omega)),aB hl,eg]
  simp only[aa]
  rw[bG,if_neg (by simp;omega),st,ed]
  simp only[aa]
  rw[p1]
  simp only[aa]
  rw[if_pos trivial,a0]
  simp only[aa]
  rw[hz,hx,af (by omega),et];rfl
 ·unfold cL
  simp only[]
  rw[bF hl,if_pos rfl,aB hl,eg]
  simp only[aa]
  rw[tK,if_neg (by simp[pO]),bG,st,ed]
  simp only[aa]
  rw[p2]
  simp only[aa]
  rw[if_pos trivial,a0]
  simp only[aa]
  rw[hz,hx,af (by omega),et];rfl
theorem Y6 {L:List ChT} (h:As L) (h6:L.length<=6):dP (mkB (btx L))=some (L,true)/\dQ (mkB (btx L))=some (L,true):=by
 by_cases h0:L= []
 ·subst h0
  unfold dP dQ
  rw[QF]
  exact ⟨rfl,rfl⟩
 have hn:=FY h
 have hl:(btx L).length<=1000000:=by omega
 have eb: ∀s i:Option ByteArray,True:=fun _ _=>trivial
 obtain ⟨b1,b2⟩:=uw L
 rw[if_pos ⟨h6,h⟩] at b1 b2
 have hs:=bm (f:=cF ((L.map pO).map mkB)) (fun i=>((i:Int),L.take i)) L.length (fun i hi=>(QH h h6 hi).1) (by
  unfold cF
  simp only[]
  rw[if_neg (by simp)]) (dB _ (by omega))
 have hi:=bm (f:=cL ((L.map pO).map mkB)) (fun i=>((i:Int),L.take i)) L.length (fun i hi=>(QH h h6 hi).2) (by
  unfold cL
  simp only[]
  rw[if_neg (by simp)]) (dB _ (by omega))
 rw[List.take_length] at hs hi
 constructor
 ·unfold dP
  have ec:iw (mkB (btx L)) 32=some ((pP 32 [] (btx L)).map mkB):=xq _ 32 hl
  rw[tK,if_neg (by simpa using Vd h0),ec,QE h h0]
  simp only[aa]
  have hs:ax (cF ((L.map pO).map mkB)) aV (0,([] :List ChT))=_:=hs
  rw[au hs]
  simp only[]
  rw[b1]
  simp
 ·unfold dQ
  have ec:cK (mkB (btx L)) (⟨#[32]⟩)=some ((pP 32 [] (btx L)).map mkB):=F8 _ 32 hl
  rw[tK,if_neg (by simpa using Vd h0),ec,QE h h0]
  simp only[aa]
  have hi:ax (cL ((L.map pO).map mkB)) aV (0,([] :List ChT))=_:=hi
  rw[au hi]
  simp only[]
  rw[b2]
  simp
theorem Xv (l:List UInt8) (hl:l.length<=1000000): ∃r,dP (mkB l)=some r/\dQ (mkB l)=some r/\ZY l r:=by
 by_cases h: ∃L:List ChT,L.length<=6/\As L/\l=btx L
 ·obtain ⟨L,h6,hk,rfl⟩:=h
  exact ⟨_,(Y6 hk h6).1,(Y6 hk h6).2,.inr ⟨rfl,h6,hk,rfl⟩⟩
 ·have hne:l≠ []:=fun e=>h ⟨[],by simp,fun c hc=>by simp at hc,by rw[e,QF]⟩
  obtain ⟨r1,e1,k1⟩:=abB l hl
  obtain ⟨r2,e2,k2⟩:=abC l hl
  rcases k1 with k | rfl | ⟨-,a,b,c⟩
  ·exact absurd k hne
  ·rcases k2 with k | rfl | ⟨-,a,b,c⟩
   ·exact absurd k hne
   ·exact ⟨_,e1,e2,.inl rfl⟩
   ·exact absurd ⟨_,a,b,c⟩ h
  ·exact absurd ⟨_,a,b,c⟩ h
end D
namespace D
open Go.RowKit
def recT (v:Int) (b:List ChT):List UInt8:=((dD v b).getD ByteArray.empty).data.toList
theorem Vf (v:Int) (b:List ChT):dD v b=some (mkB (recT v b))/\eP v b=some (mkB (recT v b))/\(recT v b).length<=1000:=by
 obtain ⟨r,e1,e2,h⟩:=Co v b
 have e:mkB (recT v b)=r:=by unfold recT;rw[e1];exact F5 r
 rw[<-e,bG] at h
 rw[e]
 exact ⟨e1,e2,h⟩
def totL (r:List Int) (q:List (List ChT)):Nat->Nat
 | 0=>0
 | i+1=>totL r q i+(recT (nth r (i:Int)) (nth q (i:Int))).length
theorem LL {r:List Int} {q:List (List ChT)} (h:q.length=r.length) (x:List Int) (y:List (List ChT)): ∀i,i<=r.length->totL (r++x) (q++y) i=totL r q i
 | 0,_=>rfl
 | i+1,hi=>by
  rw[totL,totL,LL h x y i (by omega),iJ (by omega) (by omega),iJ (by omega) (by omega)]
theorem QI {r:List Int} {q:List (List ChT)} (h:q.length=r.length) (v:Int) (b:List ChT):totL (r++ [v]) (q++ [b]) (r++ [v]).length=totL r q r.length+(recT v b).length:=by
 have e1:nth (r++ [v]) ((r.length:Nat):Int)=v:=by rw[bW (by simp)];simp
 have e2:nth (q++ [b]) ((r.length:Nat):Int)=b:=by rw[<-h,bW (by simp)];simp
 rw[al,ak,aF,Nat.zero_add,totL,LL h _ _ _ (aE _),e1,e2]
theorem QJ (l:List UInt8) (hl:l.length<=1000000): ∃r:Int×List ChT×Bool,jD (mkB l)=some r/\jI (mkB l)=some r/\r.2.1.length<=6/\(-999999999<=r.1/\r.1<=999999999)/\(r.2.2=true->recT r.1 r.2.1=l):=by
 unfold jD jI
 have ec:iw (mkB l) 59=some ((pP 59 [] l).map mkB):=xq l 59 hl
 have ei:cK (mkB l) (⟨#[59]⟩)=some ((pP 59 [] l).map mkB):=F8 l 59 hl
 rw[ec,ei];simp only[aa]
 by_cases h3:(pP 59 [] l).length=3
 ·have hp:=tJ 59 l []
  obtain ⟨a,b,c,e⟩:=aaz h3
  rw[e] at hp⊢
  have hb:=hp b (by simp)
  rw[aF] at hb
  simp only[List.map_cons,List.map_nil]
  have g0:aQ [mkB a,mkB b,mkB c] 0=some (mkB a):=rfl
  have g1:aQ [mkB a,mkB b,mkB c] 1=some (mkB b):=rfl
  rw[if_neg (by simp),if_neg (by simp)]
  obtain ⟨v,v1,v2,kv⟩:=rq (mkB a)
  obtain ⟨q,q1,q2,k⟩:=Xv b (by omega)
  obtain ⟨t,t1,t2,-⟩:=Co v.1 q.1
  have hq:q.1.length<=6:=by
   rcases k with rfl | ⟨-,k,-⟩
   ·simp
   ·exact k
  have hv: -999999999<=v.1/\v.1<=999999999:=by
   rcases kv with ⟨-,k,-⟩ | rfl
   ·exact k
   ·decide
  simp only[g0,g1,v1,v2,q1,q2,t1,t2,aa]
  by_cases c1:v.2=true
  ·by_cases c2:q.2=true
   ·by_cases c3:(t !=mkB l)=true
    ·simp only[if_pos c1,if_pos c2,if_pos c3];exact ⟨_,rfl,rfl,by simp,by decide,fun c=>by cases c⟩
    ·simp only[if_pos c1,if_pos c2,if_neg c3];exact ⟨_,rfl,rfl,hq,hv,fun _=>by
      have e:t=mkB l:=by simpa using c3
      have e2:=(Vf v.1 q.1).1
      rw[t1,e] at e2
      exact (yG (ae e2)).symm⟩
   ·simp only[if_pos c1,if_neg c2];exact ⟨_,rfl,rfl,by simp,by decide,fun c=>by cases c⟩
  ·simp only[if_neg c1];exact ⟨_,rfl,rfl,by simp,by decide,fun c=>by cases c⟩
 ·have k:(((List.map mkB (pP 59 [] l)).length:Int) !=3)=true:=by
   rw[bne_iff_ne,List.length_map];omega
  rw[if_pos k,if_pos k]
  exact ⟨_,rfl,rfl,by simp,by decide,fun c=>by cases c⟩
def ScOk (vs:List Int) (bs:List (List ChT)):Prop:=bs.length=vs.length/\(∀b∈bs,b.length<=6)/\ ∀v∈vs,(-999999999<=v/\v<=999999999)/\v<=nth vs ((vs.length:Int) - 1)
theorem TM (vs:List Int) (v:Int):nth (vs++ [v]) (((vs++ [v]).length:Int) - 1)=v:=by
 have e:(((vs++ [v]).length:Int) - 1)=((vs.length:Nat):Int):=by simp
 rw[e,bW (by simp)];simp
theorem ScOk.push {vs:List Int} {bs:List (List ChT)} (h:ScOk vs bs) {v:Int} {b:List ChT} (hb:b.length<=6) (hv: -999999999<=v/\v<=999999999) (hx:0<vs.length->v=IntKind.i64.wrap (nth vs ((vs.length:Int) - 1)+1)):ScOk (vs++ [v]) (bs++ [b]):=by
 obtain ⟨h1,h2,h3⟩:=h
 refine ⟨by simp;omega,fun d hd=>?_,fun d hd=>?_⟩
 ·rcases aJ hd with q | q
  ·exact h2 d q
  ·obtain rfl:=az q;exact hb
 ·rw[TM]
  rcases aJ hd with q | q
  ·have h0:0<vs.length:=List.length_pos_of_mem q
   obtain ⟨k1,k2⟩:=h3 d q
   obtain ⟨k3,-⟩:=h3 _ (cj (xs:=vs) (i:=(vs.length:Int) - 1) (by omega) (by omega))
   have:=hx h0
   rw[fj (by omega) (by omega)] at this
   exact ⟨k1,by omega⟩
  ·obtain rfl:=az q;exact ⟨hv,Int.le_refl _⟩
theorem F9 {l:List UInt8} (hl:l.length<=4000) {vs:List Int} {bs:List (List ChT)} {u:Int} : ∀(a r:List UInt8) (i k:Nat),(10:UInt8)∉a->l.drop i=a++r->i<=l.length->ax (bw (mkB l)) (k+a.length) (vs,bs,u,(i:Int))=ax (bw (mkB l)) k (vs,bs,u,((i+a.length:Nat):Int))
 | [],r,i,k,_,_,_=>rfl
 | x::a,r,i,k,hx,e,hi=>by
  have h1:i<l.length:=by
   have:=congrArg List.length e
   rw[aR,al,ak] at this;omega
  have e0:=List.drop_eq_getElem_cons h1
  rw[e0,List.cons_append] at e
  obtain ⟨e1,e2⟩:=List.cons.inj e
  have hn:x.toNat≠10:=fun q=>hx (by
   have:x=10:=UInt8.toNat_inj.1 q
   rw[this];simp)
  have st:bw (mkB l) (vs,bs,u,(i:Int))=some (.nxt (vs,bs,u,((i+1:Nat):Int))):=by
   unfold bw
   simp only[]
   rw[bG,bF h1,if_pos rfl,if_pos (decide_eq_true (by omega)),atB h1,e1]
   simp only[aa]
   rw[if_pos (by rw[bne_iff_ne];omega),af (by omega)];rfl
  rw[ak,show k+(a.length+1)=(k+a.length)+1 by omega,ax,st]
  show ax _ (k+a.length) _=_
  rw[F9 hl a r (i+1) k (fun q=>hx (bj _ q)) e2 h1,show i+1+a.length=i+(a.length+1) by omega]
theorem Xw {l:List UInt8} (hl:l.length<=4000): ∀(m p:Nat) (vs:List Int) (bs:List (List ChT)),l.length - p<m->p<=l.length->vs.length<=p->ScOk vs bs->totL vs bs vs.length<=p-> ∃(r:List Int) (q:List (List ChT)) (n:Nat),(∀k,l.length - p+1<=k->(ax (bw (mkB l)) k (vs,bs,(p:Int),(p:Int))=some (.ret (r,q,(n:Int)))\/ ∃i,ax (bw (mkB l)) k (vs,bs,(p:Int),(p:Int))=some (.brk (r,q,(n:Int),i)))/\ax (cz (mkB l)) k (vs,bs,(p:Int))=some (.brk (r,q,(n:Int))))/\n<=l.length/\r.length<=n/\ScOk r q/\totL r q r.length<=n:=by
 intro m
 induction m with
 | zero=>intro p vs bs hm;omega
 | succ m ih =>
  intro p vs bs hm hp hv hb ht
  have hbl:=hb.1
  have hsl:rY (mkB l) (p:Int) (l.length:Int)=some (mkB (l.drop p)):=by
   rw[slB hp (aE _),List.take_length]
  rcases uy 10 (l.drop p) with k | ⟨a,t,e,k⟩
  ·refine ⟨vs,bs,p,fun j hj=>⟨.inr ⟨(l.length:Int),?_⟩,?_⟩,hp,hv,hb,ht⟩
   ·have hd:(l.drop p).length=l.length - p:=aR ..
    obtain ⟨j,rfl⟩: ∃j',j=(j'+1)+(l.drop p).length:=⟨j - 1 - (l.length - p),by omega⟩
    rw[F9 hl (l.drop p) [] p (j+1) k (by simp) hp,ax,hd,show p+(l.length - p)=l.length by omega]
    have:bw (mkB l) (vs,bs,(p:Int),(l.length:Int))=some (.brk (vs,bs,(p:Int),(l.length:Int))):=by
     unfold bw
     simp only[]
     rw[bG,if_neg (by simp)]
    rw[this]
   ·obtain ⟨j,rfl⟩: ∃j',j=j'+1:=⟨j - 1,by omega⟩
    have:cz (mkB l) (vs,bs,(p:Int))=some (.brk (vs,bs,(p:Int))):=by
     unfold cz
     simp only[]
     have ei:eX (mkB (l.drop p)) 10=some (-1):=by
      show some (Lib.indexByte _ 10)=_
      rw[fc,LJ k]
     rw[bG,if_pos (decide_eq_true (by omega)),hsl]
     simp only[aa]
     rw[ei]
     simp only[aa]
     rw[if_pos (by decide)]
    rw[ax,this]
  ·have hlen:(l.drop p).length=l.length - p:=aR ..
   rw[e,al,ak] at hlen
   have hn:p+a.length<l.length:=by omega
   have hx:l[p+a.length] =10:=by
    have:(l.drop p)[a.length]? =some 10:=by rw[e];simp
    rw[List.getElem?_drop,List.getElem?_eq_getElem hn] at this
    exact ae this
   obtain ⟨r,r1,r2,h6,h9,h8⟩:=QJ ((l.take (p+a.length+1)).drop p) (by rw[aR,ay];omega)
   have es:rY (mkB l) (p:Int) ((p+a.length+1:Nat):Int)=some (mkB ((l.take (p+a.length+1)).drop p)):=slB (by omega) (by omega)
   have ei:eX (mkB (l.drop p)) 10=some (a.length:Int):=by
    show some (Lib.indexByte _ 10)=_
    rw[fc,e,U8 k]
   have w1:IntKind.i64.wrap ((IntKind.i64.wrap ((p:Int)+(a.length:Int)))+1)=((p+a.length+1:Nat):Int):=by
    rw[fj (n:=(p:Int)+(a.length:Int)) (by omega) (by omega),fj (by omega) (by omega)];omega
   have w2:IntKind.i64.wrap ((p:Int)+(IntKind.i64.wrap ((a.length:Int)+1)))=((p+a.length+1:Nat):Int):=by
    rw[fj (n:=(a.length:Int)+1) (by omega) (by omega),fj (by omega) (by omega)];omega
   have step:(bw (mkB l) (vs,bs,(p:Int),((p+a.length:Nat):Int))=some (.ret (vs,bs,(p:Int)))/\cz (mkB l) (vs,bs,(p:Int))=some (.brk (vs,bs,(p:Int))))\/(bw (mkB l) (vs,bs,(p:Int),((p+a.length:Nat):Int))=some (.nxt (vs++ [r.1],bs++ [r.2.1],((p+a.length+1:Nat):Int),((p+a.length+1:Nat):Int)))/\cz (mkB l) (vs,bs,(p:Int))=some (.nxt (vs++ [r.1],bs++ [r.2.1],((p+a.length+1:Nat):Int)))/\(0<vs.length->r.1=IntKind.i64.wrap (nth vs ((vs.length:Int) - 1)+1))/\r.2.2=true):=by
    have x1:cm 8 vs [r.1] =some (vs++ [r.1]):=aK (by simp only[ak,aF];omega)
    have x2:cm 24 bs [r.2.1] =some (bs++ [r.2.1]):=aK (by simp only[ak,aF];omega)
    unfold bw cz
    simp only[]
    rw[bG,bF hn,if_pos rfl,if_pos (decide_eq_true (by omega)),if_pos (decide_eq_true (by omega)),atB hn,hx,hsl]
    simp only[aa]
    rw[if_neg (by decide),ei,af (show p+a.length<9223372036854775807 by omega),es]
    simp only[aa]
    rw[r1,if_neg (by simp),w1,w2,es]
    simp only[aa]
    rw[r2]
    simp only[aa]
    by_cases c1:r.2.2=true
    ·rw[if_pos c1,if_pos c1]
     by_cases c2:decide ((vs.length:Int)>0)=true
     ·rw[if_pos c2,if_pos c2]
      have h0:0<vs.length:=by simpa using c2
      rw[oS (by omega),aI (xs:=vs) (by omega) (by omega)]
      simp only[aa]
      by_cases c3:(r.1 !=IntKind.i64.wrap (nth vs ((vs.length:Int) - 1)+1))=true
      ·rw[if_pos c3,if_pos c3];exact .inl ⟨rfl,rfl⟩
      ·rw[if_neg c3,if_neg c3,x1,x2];exact .inr ⟨rfl,rfl,(fun _=>by simpa using c3),c1⟩
     ·rw[if_neg c2,if_neg c2,x1,x2];exact .inr ⟨rfl,rfl,(fun h=>absurd (decide_eq_true (show (vs.length:Int)>0 by omega)) c2),c1⟩
    ·rw[if_neg c1,if_neg c1];exact .inl ⟨rfl,rfl⟩
   rcases step with ⟨s1,s2⟩ | ⟨s1,s2,s3,s4⟩
   ·refine ⟨vs,bs,p,fun j hj=>⟨.inl ?_,?_⟩,hp,hv,hb,ht⟩
    ·obtain ⟨j,rfl⟩: ∃j',j=(j'+1)+a.length:=⟨j - 1 - a.length,by omega⟩
     rw[F9 hl a (10::t) p (j+1) k e hp,ax,s1]
    ·obtain ⟨j,rfl⟩: ∃j',j=j'+1:=⟨j - 1,by omega⟩
     rw[ax,s2]
   ·have hT:totL (vs++ [r.1]) (bs++ [r.2.1]) (vs++ [r.1]).length<=p+a.length+1:=by
     rw[QI hbl,h8 s4,aR,ay];omega
    obtain ⟨R,Q,n,h1,h2,h3,h4⟩:=ih (p+a.length+1) (vs++ [r.1]) (bs++ [r.2.1]) (by omega) (by omega) (by simp;omega) (hb.push h6 h9 s3) hT
    refine ⟨R,Q,n,fun j hj=>⟨?_,?_⟩,h2,h3,h4⟩
    ·obtain ⟨j,rfl⟩: ∃j',j=(j'+1)+a.length:=⟨j - 1 - a.length,by omega⟩
     rw[F9 hl a (10::t) p (j+1) k e hp,ax,s1]
     exact (h1 j (by omega)).1
    ·obtain ⟨j,rfl⟩: ∃j',j=j'+1:=⟨j - 1,by omega⟩
     rw[ax,s2]
     exact (h1 j (by omega)).2
theorem Ir (l:List UInt8) (hl:l.length<=1000000000): ∃(r:List Int) (q:List (List ChT)) (n:Nat),m_s_ScanLog (mkB l)=some (r,q,(n:Int))/\m_i_ScanLog (mkB l)=some (r,q,(n:Int))/\n<=l.length/\r.length<=4000/\ScOk r q/\totL r q r.length<=n:=by
 unfold m_s_ScanLog m_i_ScanLog
 by_cases h:l.length<=4000
 ·obtain ⟨r,q,n,h1,h2,h3,h4⟩:=Xw h (l.length+1) 0 [] [] (by omega) (by omega) (by simp) ⟨rfl,fun b hb=>(by cases hb),fun b hb=>(by cases hb)⟩ (Nat.zero_le _)
  obtain ⟨k1,k2⟩:=h1 aV (dB _ (by omega))
  have k2:ax (cz (mkB l)) aV (([] :List Int),([] :List (List ChT)),0)=some (.brk (r,q,(n:Int))):=k2
  refine ⟨r,q,n,?_,?_,h2,by omega,h4⟩
  ·rcases k1 with k1 | ⟨i,k1⟩
   ·have k1:ax (bw (mkB l)) aV (([] :List Int),([] :List (List ChT)),0,0)=_:=k1
    rw[cq k1]
   ·have k1:ax (bw (mkB l)) aV (([] :List Int),([] :List (List ChT)),0,0)=_:=k1
    rw[au k1]
  ·rw[au k2]
 ·have hf:=dB 100 (by omega)
  obtain ⟨k,hk⟩: ∃k,aV=k+1:=⟨aV - 1,by omega⟩
  have k1:ax (bw (mkB l)) aV (([] :List Int),([] :List (List ChT)),0,0)=some (.brk ([],[],0,0)):=by
   rw[hk,ax]
   have:bw (mkB l) (([] :List Int),([] :List (List ChT)),0,0)=some (.brk ([],[],0,0)):=by
    unfold bw
    simp only[]
    rw[bG,if_pos (decide_eq_true (by omega)),if_neg (by simp;omega)]
   rw[this]
  have k2:ax (cz (mkB l)) aV (([] :List Int),([] :List (List ChT)),0)=some (.brk ([],[],0)):=by
   rw[hk,ax]
   have:cz (mkB l) (([] :List Int),([] :List (List ChT)),0)=some (.brk ([],[],0)):=by
    unfold cz
    simp only[]
    rw[bG,if_neg (by simp;omega)]
   rw[this]
  rw[au k1,au k2]
  exact ⟨[],[],0,rfl,rfl,by omega,by simp,⟨rfl,fun b hb=>(by cases hb),fun b hb=>(by cases hb)⟩,aE _⟩
end D
namespace D
open Go.RowKit
abbrev GrT:=(List Int)×(List Yq1)
theorem Y7 {R:Type} {f:Int->Option (Out R Int)} (N:Nat) (p:Nat->Prop) [DecidablePred p] (r:R) (hN:N<=9223372036854775807)
  (h: ∀i:Nat,i<N->f (i:Int)=some (if p i then .nxt ((i+1:Nat):Int) else .ret r)) (he:f (N:Int)=some (.brk (N:Int))) :
  (ax f aV 0=some (.brk (N:Int))/\ ∀i,i<N->p i)\/(ax f aV 0=some (.ret r)/\ ¬ ∀i,i<N->p i):=by
 obtain ⟨o,e,hq⟩:=cM (f:=f) (fun i s=>s=(i:Int)/\ ∀j:Nat,j<i->p j) (fun o=>(o= .brk (N:Int)/\ ∀i,i<N->p i)\/(o= .ret r/\ ¬ ∀i,i<N->p i)) N (s:=0) (by
  rintro i s hi ⟨rfl,hp⟩
  by_cases hl:i<N
  ·by_cases c:p i
   ·refine .inl ⟨hl,_,by rw[h i hl,if_pos c],rfl,fun j hj=>?_⟩
    by_cases e:j=i
    ·subst e;exact c
    ·exact hp j (by omega)
   ·exact .inr ⟨_,by rw[h i hl,if_neg c],(fun s' e=>by cases e),.inr ⟨rfl,fun hx=>c (hx i hl)⟩⟩
  ·obtain rfl:i=N:=by omega
   exact .inr ⟨_,he,(fun s' e=>by cases e),.inl ⟨rfl,hp⟩⟩) ⟨rfl,by omega⟩ (vi hN)
 rcases hq with ⟨rfl,hq⟩ | ⟨rfl,hq⟩
 ·exact .inl ⟨e,hq⟩
 ·exact .inr ⟨e,hq⟩
structure GOk (g:GrT):Prop where
 n1:1<=g.1.length
 n5:g.1.length<=5
 m:g.2.length<=12
 val: ∀v∈g.1,0<=v/\v<=2
 edge: ∀e∈g.2,(0<=e.2.1/\e.2.1<g.1.length)/\(0<=e.2.2.1/\e.2.2.1<g.1.length)/\0<=e.2.2.2/\e.2.2.2<=2
 asc: ∀i:Nat,i+1<g.2.length->(nth g.2 i).1<(nth g.2 ((i+1:Nat):Int)).1
def edgeP (e:Int×Int×Int×Int) (n:Int):Prop:=(1<=e.1/\e.1<=99)/\(0<=e.2.1/\e.2.1<=n - 1)/\(0<=e.2.2.1/\e.2.2.1<=n - 1)/\0<=e.2.2.2/\e.2.2.2<=2
instance (e n):Decidable (edgeP e n):=by unfold edgeP;infer_instance
theorem Vg (e:Int×Int×Int×Int) {n:Nat} (hn:n<=1048576):fP e (n:Int)=some (decide (edgeP e n)):=by
 unfold fP edgeP
 simp only[IC,aa,oS (show n<=9223372036854775807 by omega)]
 by_cases c1:1<=e.1/\e.1<=99 <;> by_cases c2:0<=e.2.1/\e.2.1<=(n:Int) - 1 <;> by_cases c3:0<=e.2.2.1/\e.2.2.1<=(n:Int) - 1 <;> simp[c1,c2,c3]
theorem xr (g:GrT) (h1:g.1.length<=1048576) (h2:g.2.length<=1048576): ∃b,bK g=some b/\(b=true->GOk g):=by
 unfold bK
 have k0:=Y7 (f:=dV g) g.1.length (fun i=>0<=nth g.1 i/\nth g.1 i<=2) false (by omega) (fun i hi=>by
  unfold dV
  rw[if_pos (by simp;omega),aI (by omega) (by omega)];simp only[aa,IC,decide_eq_true_eq]
  split
  ·rw[af (by omega)]
  ·rfl) (by unfold dV;rw[if_neg (by simp)])
 have k1:=Y7 (f:=df g) g.2.length (fun i=>edgeP (nth g.2 i) g.1.length/\(0<i->(nth g.2 ((i:Int) - 1)).1<(nth g.2 i).1)) false (by omega) (fun i hi=>by
  unfold df
  rw[if_pos (by simp;omega),aI (by omega) (by omega)];simp only[aa]
  have e1:=Vg (nth g.2 (i:Int)) h1
  have e1:fP ((nth g.2 (i:Int)).1,(nth g.2 (i:Int)).2.1,(nth g.2 (i:Int)).2.2.1,(nth g.2 (i:Int)).2.2.2) (g.1.length:Int)=_:=e1
  rw[e1];simp only[aa,decide_eq_true_eq]
  by_cases c1:edgeP (nth g.2 (i:Int)) g.1.length
  ·rw[if_pos c1]
   by_cases c2:0<i
   ·rw[if_pos (by omega),oS (by omega),aI (by omega) (by omega)];simp only[aa]
    by_cases c3:(nth g.2 ((i:Int) - 1)).1<(nth g.2 (i:Int)).1
    ·rw[if_neg (by omega),if_pos ⟨c1,fun _=>c3⟩,af (by omega)]
    ·rw[if_pos (by omega),if_neg (fun h=>c3 (h.2 c2))]
   ·rw[if_neg (by omega),if_pos ⟨c1,fun h=>absurd h c2⟩,af (by omega)]
  ·rw[if_neg c1,if_neg (fun h=>c1 h.1)]) (by unfold df;rw[if_neg (by simp)])
 rcases k0 with ⟨k0,j0⟩ | ⟨k0,j0⟩
 ·rw[au k0]
  rcases k1 with ⟨k1,j1⟩ | ⟨k1,j1⟩
  ·rw[au k1,IC];simp only[aa,decide_eq_true_eq]
   split
   ·rename_i c
    refine ⟨_,rfl,fun hb=>?_⟩
    have hb:=of_decide_eq_true hb
    refine ⟨by omega,by omega,by omega,fun v hv=>?_,fun e he=>?_,fun i hi=>?_⟩
    ·obtain ⟨i,hi,rfl⟩:=J5 hv
     exact j0 i hi
    ·obtain ⟨i,hi,rfl⟩:=J5 he
     obtain ⟨a1,a2,a3,a4⟩:=(j1 i hi).1
     exact ⟨⟨a2.1,by omega⟩,⟨a3.1,by omega⟩,a4⟩
    ·have:=(j1 (i+1) hi).2 (by omega)
     rwa [show (((i+1:Nat):Int) - 1)=(i:Int) from by omega] at this
   ·exact ⟨false,rfl,fun h=>by cases h⟩
  ·rw[cq k1];exact ⟨false,rfl,fun h=>by cases h⟩
 ·rw[cq k0];exact ⟨false,rfl,fun h=>by cases h⟩
theorem GOk.lt {g:GrT} (G:GOk g) {i j:Nat} (h:i<j) (hj:j<g.2.length):(nth g.2 (i:Int)).1<(nth g.2 (j:Int)).1:=by
 induction h with
 | refl=>exact G.asc i hj
 | step h ih =>
  rename_i m
  have h1:=ih (by omega)
  have h2:=G.asc m hj
  exact Int.lt_trans h1 h2
end D
namespace D
open Go.RowKit
end D
namespace D
open Go.RowKit
section
variable {a:AutT} {n:Nat} (V:VA a n) (hn:n<=12)
include V hn
end
section
variable {a:AutT} {n:Nat} (V:VA a n) (hn:n<=12)
include V hn
end
section
variable {a:AutT} {n:Nat} (V:VA a n) (hn:n<=12)
include V
include hn
end
end D
namespace D
open Go.RowKit
section
variable {α:Type} {N:Nat} {F G:Nat->α}
end
abbrev EdT:=Int×Int×Int×Int
abbrev ArT:=(Int×Bool)×Int×Int
def inv (e:EdT):ArT:=((e.1,true),2*e.2.2.2+1,e.2.1)
end D
namespace D
open Go.RowKit
section
variable {g:GrT} {a:AutT} (G:GOk g) (V:VA a a.2.1.length) (hn:a.2.1.length<=12)
include G V hn
end
section
variable {g:GrT} {a:AutT} {F:Nat->List Int} {N:Nat}
end
section
variable {g:GrT} {a:AutT} (G:GOk g) (V:VA a a.2.1.length) (hn:a.2.1.length<=12)
include G V hn
end
end D
namespace D
open Go.RowKit
section
variable {a:AutT} {n:Nat} (V:VA a n) (hn:n<=12)
include V hn
end
section
variable {g:GrT} {a:AutT} (G:GOk g) (V:VA a a.2.1.length) (hn:a.2.1.length<=12)
include G V hn
end
end D
namespace D
open Go.RowKit
section
variable {nx:Int->List Int} {N:Nat} {v:Int} (hv:0<=v/\v<N) (hn: ∀x:Int,0<=x->x<N-> ∀y∈nx x,0<=y/\y<N)
include hv
include hn
end
end D
namespace D
open Go.RowKit
section
variable {nx:Int->List Int} {N:Nat} {v:Int} (hN:N<=60) (hv:0<=v/\v<N) (hn: ∀x:Int,0<=x->x<N-> ∀y∈nx x,0<=y/\y<N) (hl: ∀x,(nx x).length<=100000)
include hN hv hn hl
end
end D
namespace D
open Go.RowKit
end D
namespace D
open Go.RowKit
theorem xt (g:GrT):cX g=bK g:=by
 have h0:oj g=dV g:=rfl
 have h1:j8 g=df g:=by
  funext s
  unfold j8 df
  split
  ·cases hx:aQ g.2 s with
   | none=>rfl
   | some x=>rfl
  ·rfl
 unfold cX bK
 rw[h0,h1];rfl
def aaA (g:GrT) (a:AutT):Prop:=GOk g/\a.2.1.length<=12/\VA a a.2.1.length
section
variable {g:GrT} {a:AutT} (H:aaA g a)
include H
end
section
variable {g:GrT} {a:AutT} (H:aaA g a)
include H
end
section
variable {g:GrT} {a:AutT} (H:aaA g a) {x:Int} (hx:0<=x/\x<g.1.length)
include H hx
end
end D
namespace D
open Go.RowKit
abbrev Tok:=Int×Int×Int×Int
def ar (t:Tok):Int:=
 if t.1=1\/t.1=2 then (if t.2.1=0/\t.2.2.1=0/\t.2.2.2=0 then 0 else -1)
 else if t.1=3 then (if (0<=t.2.1/\t.2.1<=8)/\t.2.2.1=0/\t.2.2.2=0 then 0 else -1)
 else if t.1=4\/t.1=5 then (if t.2.1=0/\t.2.2.1=0/\t.2.2.2=0 then 2 else -1)
 else if t.1=6 then (if t.2.1=0/\t.2.2.1=0/\t.2.2.2=0 then 1 else -1)
 else if t.1=7 then (if t.2.1=0/\(0<=t.2.2.1/\t.2.2.1<=t.2.2.2)/\(1<=t.2.2.2/\t.2.2.2<=3) then 1 else -1)
 else -1
theorem TN (x:Int):mL x=some (decide (0<=x/\x<=8)):=by unfold mL;rw[NC];rfl
theorem TO (x:Int):ke x=some (decide (0<=x/\x<=8)):=by unfold ke;rw[IC];rfl
theorem abi (t:Tok):oo t=some (ar t):=by
 obtain ⟨k,l,lo,hi⟩:=t
 unfold oo ar
 simp only[TN,NC,aa]
 by_cases h1:k=1
 ·subst h1;simp;grind
 by_cases h2:k=2
 ·subst h2;simp;grind
 by_cases h3:k=3
 ·subst h3;simp;grind
 by_cases h4:k=4
 ·subst h4;simp;grind
 by_cases h5:k=5
 ·subst h5;simp;grind
 by_cases h6:k=6
 ·subst h6;simp;grind
 by_cases h7:k=7
 ·subst h7;simp;grind
 simp[h1,h2,h3,h4,h5,h6,h7]
theorem Y8 (t:Tok):qW t=some (decide (0<=ar t)):=by
 obtain ⟨k,l,lo,hi⟩:=t
 unfold qW ar
 simp only[TO,IC,aa]
 by_cases h1:k=1
 ·subst h1;simp;grind
 by_cases h2:k=2
 ·subst h2;simp;grind
 by_cases h3:k=3
 ·subst h3;simp only[]
  by_cases a:0<=l/\l<=8 <;> by_cases b:lo=0 <;> by_cases c:hi=0 <;> simp[a,b,c]
 by_cases h4:k=4
 ·subst h4;simp;grind
 by_cases h5:k=5
 ·subst h5;simp;grind
 by_cases h6:k=6
 ·subst h6;simp;grind
 by_cases h7:k=7
 ·subst h7;simp only[]
  by_cases a:l=0 <;> by_cases b:0<=lo/\lo<=hi <;> by_cases c:1<=hi/\hi<=3 <;> simp[a,b,c]
 simp[h1,h2,h3,h4,h5,h6,h7]
theorem xu (t:Tok): -1<=ar t/\ar t<=2:=by
 unfold ar
 grind
theorem oV {t:Tok} (h:0<=ar t):(ar t=2/\(t.1=4\/t.1=5))\/(ar t=1/\(t.1=6\/t.1=7))\/(ar t=0/\(t.1=1\/t.1=2\/t.1=3)):=by
 unfold ar at h⊢
 grind
theorem Cp {t:Tok} (h:0<=ar t) (k:t.1=7):(0<=t.2.2.1/\t.2.2.1<=t.2.2.2)/\(1<=t.2.2.2/\t.2.2.2<=3):=by
 unfold ar at h
 grind
mutual
def flat:Tr Tok->List Tok
 | .nil=>[]
 | .node t ks=>ka ks++ [t]
def ka:List (Tr Tok)->List Tok
 | [] =>[]
 | k::ks=>flat k++ka ks
end
inductive WT:Tr Tok->Prop
 | node {t:Tok} {ks:List (Tr Tok)} :ar t=(ks.length:Int)->(∀k,k∈ks->WT k)->WT (.node t ks)
theorem qA: ∀(a b:List (Tr Tok)),ka (a++b)=ka a++ka b
 | [],b=>rfl
 | k::a,b=>by rw[List.cons_append,ka,ka,qA a b,ai]
theorem mX (x:Tr Tok):ka [x] =flat x:=by rw[ka,ka,List.append_nil]
theorem QK (x y:Tr Tok):ka [x,y] =flat x++flat y:=by rw[ka,mX]
theorem WT.cases {x:Tr Tok} (h:WT x):(∃t,x= .node t [] /\ar t=0)\/(∃t a,x= .node t [a] /\ar t=1/\WT a)\/ ∃t a b,x= .node t [a,b] /\ar t=2/\WT a/\WT b:=by
 cases h with
 | @node t ks h1 h2 =>
  have:=(xu t).2
  match ks,h1,h2 with
  | [],h1,h2=>exact .inl ⟨t,rfl,h1⟩
  | [a],h1,h2=>exact .inr (.inl ⟨t,a,rfl,h1,h2 a (by simp)⟩)
  | [a,b],h1,h2=>exact .inr (.inr ⟨t,a,b,rfl,h1,h2 a (by simp),h2 b (by simp)⟩)
  | _::_::_::_,h1,h2=>simp at h1;omega
theorem WT.ind {p:Tr Tok->Prop} (h0: ∀t,ar t=0->p (.node t [])) (h1: ∀t a,ar t=1->WT a->p a->p (.node t [a])) (h2: ∀t a b,ar t=2->WT a->WT b->p a->p b->p (.node t [a,b])) {x:Tr Tok} (h:WT x):p x:=by
 induction h with
 | @node t ks e k ih =>
  have:=(xu t).2
  match ks,e,k,ih with
  | [],e,k,ih=>exact h0 t e
  | [a],e,k,ih=>exact h1 t a e (k a (by simp)) (ih a (by simp))
  | [a,b],e,k,ih=>exact h2 t a b e (k a (by simp)) (k b (by simp)) (ih a (by simp)) (ih b (by simp))
  | _::_::_::_,e,_,_=>simp at e;omega
theorem DA (t:Tok):flat (.node t [])= [t]:=by rw[flat,ka];rfl
theorem Gc (t:Tok) (a:Tr Tok):flat (.node t [a])=flat a++ [t]:=by rw[flat,mX]
theorem vZ (t:Tok) (a b:Tr Tok):flat (.node t [a,b])=(flat a++flat b)++ [t]:=by rw[flat,QK]
theorem WT.pos {x:Tr Tok} (h:WT x):1<=(flat x).length:=by
 cases h with
 | node h1 h2=>rw[flat];simp
def stp (s:List (Tr Tok)) (t:Tok):Option (List (Tr Tok)):=if ar t<0\/(s.length:Int)<ar t then none else some (s.take (s.length - (ar t).toNat)++ [.node t (s.drop (s.length - (ar t).toNat))])
def run:List (Tr Tok)->List Tok->Option (List (Tr Tok))
 | s,[] =>some s
 | s,t::l=>(stp s t).bind fun s'=>run s' l
theorem Ge: ∀(a:List Tok) {b:List Tok} {s:List (Tr Tok)},run s (a++b)=(run s a).bind fun s'=>run s' b
 | [],b,s=>rfl
 | t::a,b,s=>by
  rw[List.cons_append,run,run]
  cases stp s t with
  | none=>rfl
  | some s'=>exact Ge a
theorem xw {a:List Tok} {t:Tok} {s:List (Tr Tok)} :run s (a++ [t])=(run s a).bind fun s'=>stp s' t:=by
 rw[Ge]
 congr 1
 funext s'
 rw[run]
 cases stp s' t <;> rfl
theorem Vh: ∀ {l:List Tok} {s s':List (Tr Tok)},run s l=some s'->(∀k,k∈s->WT k)->(∀k,k∈s'->WT k)/\ka s'=ka s++l
 | [],s,s',h,hs=>by
  obtain rfl:=ae h
  exact ⟨hs,by simp⟩
 | t::l,s,s',h,hs=>by
  rw[run] at h
  unfold stp at h
  by_cases c:ar t<0\/(s.length:Int)<ar t
  ·rw[if_pos c] at h;cases h
  ·rw[if_neg c] at h
   have hlen:(s.drop (s.length - (ar t).toNat)).length=(ar t).toNat:=by rw[aR];omega
   obtain ⟨k1,k2⟩:=Vh (show run _ l=some s' from h) fun k hk=>by
    rcases aJ hk with hk | hk
    ·exact hs k (List.mem_of_mem_take hk)
    ·obtain rfl:=az hk
     exact .node (by rw[hlen];omega) fun k hk=>hs k (List.mem_of_mem_drop hk)
   refine ⟨k1,?_⟩
   rw[k2,qA,mX,flat,<-ai,<-qA,List.take_append_drop]
   simp
theorem TP {x:Tr Tok} (h:WT x): ∀s,run s (flat x)=some (s++ [x]):=by
 refine WT.ind (p:=fun x=> ∀s,run s (flat x)=some (s++ [x])) ?_ ?_ ?_ h
 ·intro t e s
  rw[DA,run,stp,if_neg (by omega),e]
  simp[run]
 ·intro t a e _ ia s
  rw[Gc,xw,ia]
  show stp (s++ [a]) t=_
  rw[stp,if_neg (by simp;omega),e]
  simp
 ·intro t a b e _ _ ia ib s
  rw[vZ,xw,Ge,ia]
  show ((run (s++ [a]) (flat b)).bind fun s'=>stp s' t)=_
  rw[ib]
  show stp (s++ [a] ++ [b]) t=_
  rw[stp,if_neg (by simp;omega),e]
  have:(s++ [a] ++ [b]).length - (2:Int).toNat=s.length:=by simp
  rw[this]
  simp
def isX (e:List Tok):Bool:=match run [] e with
 | some [_] =>true
 | _=>false
theorem QL {e:List Tok} (h:isX e=true): ∃x,run [] e=some [x] /\WT x/\flat x=e:=by
 unfold isX at h
 split at h
 ·rename_i x hx
  obtain ⟨k1,k2⟩:=Vh hx (fun k hk=>by cases hk)
  refine ⟨x,hx,k1 x (by simp),?_⟩
  rw[mX] at k2
  rw[k2];rfl
 ·cases h
theorem QM {l:List Tok} : ∀ {s s':List (Tr Tok)},run s l=some s'->s'.length<=s.length+l.length:=by
 induction l with
 | nil=>intro s s' h;obtain rfl:=ae h;simp
 | cons t l ih =>
  intro s s' h
  rw[run] at h
  obtain ⟨s1,h1,h2⟩:=Option.bind_eq_some_iff.1 h
  have h3:=ih h2
  unfold stp at h1
  split at h1
  ·cases h1
  ·obtain rfl:=ae h1
   simp only[al,ay,ak,aF] at h3⊢
   omega
theorem Cq {e:List Tok} {i:Nat} (h:i<e.length):e.take (i+1)=e.take i++ [nth e (i:Int)]:=by
 rw[List.take_succ_eq_append_getElem h,bW h]
theorem At {e:List Tok} {i:Nat} (h:i<e.length) {st:List (Tr Tok)} (h1:run [] (e.take i)=some st) (h2:stp st (nth e (i:Int))=none):run [] e=none:=by
 have:run [] (e.take (i+1))=none:=by rw[Cq h,xw,h1];exact h2
 rw[<-List.take_append_drop (i+1) e,Ge,this];rfl
theorem TQ {e:List Tok} (he:e.length<=1048576):ua e=some (isX e):=by
 obtain ⟨o,eo,hq⟩:=cM (f:=qQ e) (fun i s=> ∃st,s=((st.length:Int),(i:Int))/\run [] (e.take i)=some st) (fun o=>(o= .ret false/\run [] e=none)\/ ∃st,o= .brk ((st.length:Int),(e.length:Int))/\run [] e=some st) e.length (s:=(0,0)) (by
  rintro i s hi ⟨st,rfl,hst⟩
  have hl:=QM hst
  simp only[aF,ay] at hl
  unfold qQ
  simp only[di]
  by_cases c:i<e.length
  ·rw[if_pos (by simp;omega),aI (by omega) (by omega)];simp only[aa]
   rw[abi];simp only[aa]
   have hr:=xu (nth e (i:Int))
   by_cases c1:ar (nth e (i:Int))<0
   ·refine .inr ⟨_,by rw[if_pos (by simpa using c1)],(fun s' e=>by cases e),.inl ⟨rfl,At c hst ?_⟩⟩
    rw[stp,if_pos (.inl c1)]
   ·rw[if_neg (by simpa using c1)]
    by_cases c2:ar (nth e (i:Int))>(st.length:Int)
    ·refine .inr ⟨_,by rw[if_pos (by simpa using c2)],(fun s' e=>by cases e),.inl ⟨rfl,At c hst ?_⟩⟩
     rw[stp,if_pos (.inr c2)]
    ·rw[if_neg (by simpa using c2)]
     refine .inl ⟨c,_,rfl,st.take (st.length - (ar (nth e (i:Int))).toNat)++ [.node (nth e (i:Int)) (st.drop (st.length - (ar (nth e (i:Int))).toNat))],?_,?_⟩
     ·rw[fj (n:=(st.length:Int) - ar (nth e (i:Int))) (by omega) (by omega),fj (by omega) (by omega),af (by omega)]
      congr 1
      simp only[al,ay,ak,aF]
      omega
     ·rw[Cq c,xw,hst]
      show stp st _=_
      rw[stp,if_neg (by omega)]
  ·obtain rfl:i=e.length:=by omega
   rw[List.take_of_length_le (by omega)] at hst
   exact .inr ⟨_,by rw[if_neg (by simp)],(fun s' e=>by cases e),.inr ⟨st,rfl,hst⟩⟩) ⟨[],rfl,rfl⟩ (vi (by omega))
 unfold ua
 rcases hq with ⟨rfl,h⟩ | ⟨st,rfl,h⟩
 ·rw[cq eo];unfold isX;rw[h]
 ·rw[au eo];unfold isX;rw[h]
  match st with
  | [] =>rfl
  | [_] =>rfl
  | _::_::_=>simp;omega
theorem aaB {t:Tok} (h:0<=ar t):(Option.bind ((if t.1==4 then (some (t.1==4)) else (some (t.1==5)):Option Bool)) (fun s3=>if s3 then (some 2) else (Option.bind ((if t.1==6 then (some (t.1==6)) else (some (t.1==7)):Option Bool)) (fun s4=>if s4 then (some 1) else (some 0)))):Option Int)=some (ar t):=by
 rcases oV h with ⟨e,k | k⟩ | ⟨e,k | k⟩ | ⟨e,k | k | k⟩ <;> rw[e] <;> simp[k]
theorem Xx (t:Tok): ∃n:Int,(Option.bind ((if t.1==4 then (some (t.1==4)) else (some (t.1==5)):Option Bool)) (fun s3=>if s3 then (some 2) else (Option.bind ((if t.1==6 then (some (t.1==6)) else (some (t.1==7)):Option Bool)) (fun s4=>if s4 then (some 1) else (some 0)))):Option Int)=some n:=by
 by_cases h4:t.1=4
 ·exact ⟨2,by simp[h4]⟩
 by_cases h5:t.1=5
 ·exact ⟨2,by simp[h5]⟩
 by_cases h6:t.1=6
 ·exact ⟨1,by simp[h6]⟩
 by_cases h7:t.1=7
 ·exact ⟨1,by simp[h7]⟩
 exact ⟨0,by simp[h4,h5,h6,h7]⟩
def Ab (e:List Tok):Tr Tok:=match run [] e with
 | some [x] =>x
 | _=>.nil
theorem Gf {e:List Tok} (he:e.length<=1048576):nW e=some (Ab e):=by
 obtain ⟨o,eo,hq⟩:=cM (f:=qX e) (fun i s=> ∃st,s=(st,(i:Int))/\run [] (e.take i)=some st) (fun o=>(o= .ret Tr.nil/\run [] e=none)\/ ∃st,o= .brk (st,(e.length:Int))/\run [] e=some st) e.length (s:=([],0)) (by
  rintro i s hi ⟨st,rfl,hst⟩
  have hl:=QM hst
  simp only[aF,ay] at hl
  unfold qX
  simp only[di]
  by_cases c:i<e.length
  ·rw[if_pos (by simp;omega),aI (by omega) (by omega)];simp only[aa]
   have hr:=xu (nth e (i:Int))
   by_cases c1:ar (nth e (i:Int))<0
   ·obtain ⟨n,hn⟩:=Xx (nth e (i:Int))
    rw[hn];simp only[aa]
    rw[Y8];simp only[aa]
    refine .inr ⟨_,by rw[if_neg (by simp;omega)],(fun s' e=>by cases e),.inl ⟨rfl,At c hst ?_⟩⟩
    rw[stp,if_pos (.inl c1)]
   ·rw[aaB (by omega)];simp only[aa]
    rw[Y8];simp only[aa]
    rw[if_pos (by simp;omega),fj (n:=(st.length:Int) - ar (nth e (i:Int))) (by omega) (by omega)]
    by_cases c2:ar (nth e (i:Int))>(st.length:Int)
    ·refine .inr ⟨_,by rw[if_pos (by simp;omega)],(fun s' e=>by cases e),.inl ⟨rfl,At c hst ?_⟩⟩
     rw[stp,if_pos (.inr c2)]
    ·rw[if_neg (by simp;omega),show∀p:Prop,∀ [Decidable p],p->chk p=some () from fun p _ hp=>by unfold chk;rw[if_pos hp]]
     ·simp only[aa]
      have e1:((st.length:Int) - ar (nth e (i:Int))).toNat=st.length - (ar (nth e (i:Int))).toNat:=by omega
      rw[e1,aK (by simp;omega)];simp only[aa]
      rw[aK (by simp;omega)];simp only[aa,List.nil_append,af (show i<9223372036854775807 by omega)]
      refine .inl ⟨c,_,rfl,_,rfl,?_⟩
      rw[Cq c,xw,hst]
      show stp st _=_
      rw[stp,if_neg (by omega)]
     ·omega
  ·obtain rfl:i=e.length:=by omega
   rw[List.take_of_length_le (by omega)] at hst
   exact .inr ⟨_,by rw[if_neg (by simp)],(fun s' e=>by cases e),.inr ⟨st,rfl,hst⟩⟩) ⟨[],rfl,rfl⟩ (vi (by omega))
 unfold nW
 rcases hq with ⟨rfl,h⟩ | ⟨st,rfl,h⟩
 ·rw[cq eo];unfold Ab;rw[h]
 ·rw[au eo];unfold Ab;rw[h]
  match st with
  | [] =>rfl
  | [x] =>rfl
  | _::_::_ =>
   simp only
   rw[if_pos (by simp;omega)]
theorem yH {x:Tr Tok} (h:WT x):Ab (flat x)=x:=by unfold Ab;rw[TP h];rfl
theorem TS {e:List Tok} (he:e.length<=1048576):uc e=some (isX e):=by
 unfold uc
 rw[Gf he];simp only[aa]
 congr 1
 by_cases h:isX e=true
 ·rw[h]
  obtain ⟨x,h1,h2,h3⟩:=QL h
  have:Ab e=x:=by unfold Ab;rw[h1]
  rw[this]
  cases h2 with
  | node _ _=>rfl
 ·have:Ab e= .nil:=by
   unfold Ab
   unfold isX at h
   split
   ·rename_i x hx;rw[hx] at h;exact absurd rfl h
   ·rfl
  rw[this,Bool.eq_false_iff.2 h];rfl
theorem Kc {e:List Tok} (he:e.length<=1048576):kN e=some (decide (e.length<=24)&&isX e):=by
 unfold kN
 rw[TQ he]
 by_cases c:e.length<=24
 ·rw[if_pos (by simp;omega)];simp[c]
 ·rw[if_neg (by simp;omega)];simp[c]
theorem Ke {e:List Tok} (he:e.length<=1048576):kT e=some (decide (e.length<=24)&&isX e):=by
 unfold kT
 rw[TS he]
 by_cases c:e.length<=24
 ·rw[if_pos (by simp;omega)];simp[c]
 ·rw[if_neg (by simp;omega)];simp[c]
theorem chk_of {p:Prop} [Decidable p] (h:p):chk p=some ():=by unfold chk;rw[if_pos h]
theorem Xy {A:List Tok} {x:Tr Tok} (hx:WT x) (hl:(A++flat x).length<=1000000):ig (A++flat x)=some (A.length:Int):=by
 obtain ⟨s',e,ks,q1,q2,q3⟩: ∃s',ax (l7 (A++flat x)) aV (1,((A++flat x).length:Int))=some (.brk s')/\ ∃ks:List (Tr Tok),ks= [] /\s'.2=(A.length:Int)/\True:=by
  obtain ⟨o,eo,hq⟩:=cM (f:=l7 (A++flat x)) (fun i s=> ∃ks:List (Tr Tok),(∀k,k∈ks->WT k)/\s=((ks.length:Int),(((A++ka ks).length:Nat):Int))/\i+(ka ks).length=(flat x).length/\(A++flat x).take (A++ka ks).length=A++ka ks) (fun o=> ∃s',o= .brk s'/\s'.2=(A.length:Int)) (flat x).length (s:=(1,((A++flat x).length:Int))) (by
   rintro i s hi ⟨ks,hw,rfl,hlen,htk⟩
   unfold l7
   simp only[di]
   rcases List.eq_nil_or_concat ks with rfl | ⟨ks',y,rfl⟩
   ·refine .inr ⟨_,by rw[if_neg (by simp)],(fun s' e=>by cases e),_,rfl,?_⟩
    simp[ka]
   ·have hy:=hw y (by simp)
    cases hy with
    | @node t cs h1 h2 =>
     have hfl:ka (ks'++ [.node t cs])=ka (ks'++cs)++ [t]:=by rw[qA,mX,flat,qA,ai]
     rw[List.concat_eq_append,hfl] at hlen htk⊢
     simp only[al,ak,aF] at hlen htk hl⊢
     rw[if_pos (by simp <;> omega)]
     have hpos:IntKind.i64.wrap (((A.length+((ka (ks'++cs)).length+1):Nat):Int) - 1)=((A.length+(ka (ks'++cs)).length:Nat):Int):=by
      rw[fj (by omega) (by omega)];omega
     have hget:nth (A++flat x) ((A.length+(ka (ks'++cs)).length:Nat):Int)=t:=by
      have hlt:A.length+(ka (ks'++cs)).length<(A++flat x).length:=by rw[al];omega
      have e1:=congrArg (fun l:List Tok=>l[A.length+(ka (ks'++cs)).length]?) htk
      rw[List.getElem?_take_of_lt (by omega),List.getElem?_eq_getElem hlt,<-ai,List.getElem?_append_right (by rw[al];omega),al] at e1
      rw[bW hlt]
      simpa using e1
     rw[hpos,aI (by omega) (by simp only[al];omega),hget];simp only[aa]
     rw[abi,h1];simp only[aa]
     have hcl:(cs.length:Int)<=2:=by rw[<-h1];exact (xu t).2
     have hkl:ks'.length<=(ka (ks'++cs)).length+1000000:=by
      have: ∀l:List (Tr Tok),(∀k,k∈l->WT k)->l.length<=(ka l).length:=by
       intro l
       induction l with
       | nil=>intro _;simp
       | cons k l ih =>
        intro h
        have h1:=(h k (by simp)).pos
        have h2:=ih fun k hk=>h k (by simp[hk])
        rw[ka];simp only[ak,al];omega
      have:=this ks' fun k hk=>hw k (by simp[hk])
      rw[qA,al];omega
     refine .inl ⟨by omega,_,rfl,ks'++cs,fun k hk=>?_,?_,by omega,?_⟩
     ·rcases aJ hk with hk | hk
      ·exact hw k (by simp[hk])
      ·exact h2 k hk
     ·rw[fj (n:=((ks'.length+1:Nat):Int) - 1) (by omega) (by omega),fj (by omega) (by omega)]
      congr 1
      (simp only[al]) <;> omega
     ·have e1:=congrArg (List.take (A++ka (ks'++cs)).length) htk
      rw[List.take_take,Nat.min_eq_left (by rw[al];omega),<-ai,List.take_left] at e1
      rw[al] at e1
      exact e1) ⟨[x],fun k hk=>by (obtain rfl:=az hk;exact hx),by rw[mX];rfl,by rw[mX];omega,by rw[mX,List.take_length]⟩ (vi (by rw[al] at hl;omega))
  obtain ⟨s',rfl,h2⟩:=hq
  exact ⟨s',eo,[],rfl,h2,trivial⟩
 unfold ig
 rw[au e,q2]
end D
namespace D
open Go.RowKit
instance trInh {α:Type} :Inhabited (Tr α):=⟨.nil⟩
def szX:Tr Tok->Int
 | .nil=>0
 | .node t ks=>min (szL t 1 ks) 100000
where szL (t:Tok) (acc:Int):List (Tr Tok)->Int
 | [] =>acc
 | k::ks=>szL t (acc+(if t.1=7 then (szX k+3)*t.2.2.2 else szX k)) ks
theorem fe {x:Tr Tok} (h:WT x):1<=szX x/\szX x<=100000:=by
 refine WT.ind (p:=fun x=>1<=szX x/\szX x<=100000) ?_ ?_ ?_ h
 ·intro t _
  show 1<=min (1:Int) 100000/\min (1:Int) 100000<=100000
  omega
 ·intro t a e _ ih
  show 1<=min ((1:Int)+(if t.1=7 then (szX a+3)*t.2.2.2 else szX a)) 100000/\min ((1:Int)+(if t.1=7 then (szX a+3)*t.2.2.2 else szX a)) 100000<=100000
  split
  ·rename_i k
   have hr:=Cp (show 0<=ar t by omega) k
   have:0<=(szX a+3)*t.2.2.2:=Int.mul_nonneg (by omega) (by omega)
   omega
  ·omega
 ·intro t a b e _ _ iha ihb
  have k:t.1≠7:=by
   rcases oV (show 0<=ar t by omega) with ⟨_,k⟩ | ⟨k,_⟩ | ⟨k,_⟩ <;> omega
  show 1<=min ((1:Int)+(if t.1=7 then (szX a+3)*t.2.2.2 else szX a)+(if t.1=7 then (szX b+3)*t.2.2.2 else szX b)) 100000/\min ((1:Int)+(if t.1=7 then (szX a+3)*t.2.2.2 else szX a)+(if t.1=7 then (szX b+3)*t.2.2.2 else szX b)) 100000<=100000
  rw[if_neg k,if_neg k]
  omega
theorem Is {a h:Int} (h1:1<=a/\a<=100000) (h2:1<=h/\h<=3):IntKind.i64.wrap ((IntKind.i64.wrap (a+3))*h)=(a+3)*h:=by
 rw[fj (n:=a+3) (by omega) (by omega)]
 have k1:0<=(a+3)*h:=Int.mul_nonneg (by omega) (by omega)
 have k2:(a+3)*h<=100003*3:=Int.mul_le_mul (by omega) (by omega) (by omega) (by omega)
 exact fj (by omega) (by omega)
theorem QN {a h:Int} (h1:1<=a/\a<=100000) (h2:1<=h/\h<=3):0<=(a+3)*h/\(a+3)*h<=300009:=by
 have k1:0<=(a+3)*h:=Int.mul_nonneg (by omega) (by omega)
 have k2:(a+3)*h<=100003*3:=Int.mul_le_mul (by omega) (by omega) (by omega) (by omega)
 omega
theorem qB {t:Tok} {ks:List (Tr Tok)} :Tr.get (.node t ks)=some (t,ks):=rfl
theorem yI {f:Tr Tok->Option Int} {t:Tok} {ks:List (Tr Tok)} {i:Nat} {acc:Int} (hi:i<ks.length) (hf:f (nth ks (i:Int))=some (szX (nth ks (i:Int)))) (hw:WT (nth ks (i:Int))) (ht:0<=ar t) (ha:0<=acc/\acc<=1000000) (hik:i<=1000000) :
  bL f (.node t ks) (t,ks) (acc,(i:Int))=some (.nxt (acc+(if t.1=7 then (szX (nth ks (i:Int))+3)*t.2.2.2 else szX (nth ks (i:Int))),((i+1:Nat):Int))):=by
 unfold bL
 simp only[qB]
 have hr:=fe hw
 rw[if_pos (by simp <;> omega),aI (by omega) (by omega)];simp only[aa]
 by_cases k:t.1=7
 ·have h7:=Cp ht k
  have hm:=QN hr h7.2
  rw[if_pos (by simpa using k),if_pos k,hf];simp only[aa]
  rw[Is hr h7.2,fj (by omega) (by omega),af (by omega)]
 ·rw[if_neg (by simpa using k),if_neg k,hf];simp only[aa]
  rw[fj (by omega) (by omega),af (by omega)]
theorem Au {α:Type} [Inhabited α] {a:α} {l:List α} :nth (a::l) ((0:Nat):Int)=a:=rfl
theorem QO {α:Type} [Inhabited α] {a b:α} {l:List α} :nth (a::b::l) ((1:Nat):Int)=b:=rfl
theorem Xz {x:Tr Tok} (h:WT x): ∀n,(flat x).length<=n->bS n x=some (szX x):=by
 refine WT.ind (p:=fun x=> ∀n,(flat x).length<=n->bS n x=some (szX x)) ?_ ?_ ?_ h
 ·intro t e n hn
  rw[DA] at hn
  match n,hn with
  | n+1,_ =>
   rw[bS];simp only[qB,aa]
   have hL:ax (bL (bS n) (.node t []) (t,[])) aV (1,0)=some (.brk (1,0)):=bm (f:=bL (bS n) (.node t []) (t,[])) (fun i=>(1,(i:Int))) 0 (fun i hi=>by omega) (by unfold bL;simp) (by unfold aV;omega)
   rw[au hL]
   all_goals rfl
 ·intro t a e wa ih n hn
  rw[Gc,al] at hn
  match n,hn with
  | n+1,hn =>
   have hr:=fe wa
   rw[bS];simp only[qB,aa]
   have hL:ax (bL (bS n) (.node t [a]) (t,[a])) aV (1,0)=some (.brk (szX.szL t 1 [a],1)):=bm (f:=bL (bS n) (.node t [a]) (t,[a])) (fun i=>(szX.szL t 1 ([a].take i),(i:Int))) 1 (fun i hi=>by
    obtain rfl:i=0:=by omega
    exact yI (acc:=1) (i:=0) (by simp) (ih n (by simp at hn;omega)) wa (by omega) (by omega) (by omega)) (by unfold bL;simp) (by unfold aV;omega)
   rw[au hL]
   all_goals rfl
 ·intro t a b e wa wb iha ihb n hn
  rw[vZ,al,al] at hn
  match n,hn with
  | n+1,hn =>
   have hra:=fe wa
   have hrb:=fe wb
   have k:t.1≠7:=by
    rcases oV (show 0<=ar t by omega) with ⟨_,k⟩ | ⟨k,_⟩ | ⟨k,_⟩ <;> omega
   rw[bS];simp only[qB,aa]
   have hL:ax (bL (bS n) (.node t [a,b]) (t,[a,b])) aV (1,0)=some (.brk (szX.szL t 1 [a,b],2)):=bm (f:=bL (bS n) (.node t [a,b]) (t,[a,b])) (fun i=>(szX.szL t 1 ([a,b].take i),(i:Int))) 2 (fun i hi=>by
    have:i=0\/i=1:=by omega
    rcases this with rfl | rfl
    ·exact yI (acc:=1) (i:=0) (by simp) (iha n (by simp at hn;omega)) wa (by omega) (by omega) (by omega)
    ·exact yI (acc:=1+(if t.1=7 then (szX a+3)*t.2.2.2 else szX a)) (i:=1) (by simp) (ihb n (by simp at hn;omega)) wb (by omega) (by rw[if_neg k];omega) (by omega)) (by unfold bL;simp) (by unfold aV;omega)
   rw[au hL]
   all_goals rfl
theorem nV {A:List Tok} {t:Tok} (h:A.length<=1000000):aQ (A++ [t]) (IntKind.i64.wrap (((A++ [t]).length:Int) - 1))=some t/\IntKind.i64.wrap (((A++ [t]).length:Int) - 1)=(A.length:Int):=by
 have e:IntKind.i64.wrap (((A++ [t]).length:Int) - 1)=(A.length:Int):=by
  rw[fj (by simp only[al,ak,aF];omega) (by simp only[al,ak,aF];omega)]
  simp only[al,ak,aF];omega
 refine ⟨?_,e⟩
 rw[e,aI (by omega) (by simp only[al,ak,aF];omega),bW (by simp)]
 simp
theorem abj {t:Tok} (h:ar t=2):(if t.1==4 then (some (t.1==4)) else (some (t.1==5)):Option Bool)=some true:=by
 rcases oV (show 0<=ar t by omega) with ⟨_,k | k⟩ | ⟨e,_⟩ | ⟨e,_⟩
 ·simp[k]
 ·simp[k]
 ·omega
 ·omega
theorem TU {t:Tok} (h:ar t=1\/ar t=0):(if t.1==4 then (some (t.1==4)) else (some (t.1==5)):Option Bool)=some false:=by
 rcases oV (show 0<=ar t by omega) with ⟨e,k⟩ | ⟨e,k | k⟩ | ⟨e,k | k | k⟩
 ·omega
 all_goals simp[k]
theorem Y9 {t:Tok} (h:ar t=0):(t.1==6)=false/\(t.1==7)=false:=by
 rcases oV (show 0<=ar t by omega) with ⟨e,k⟩ | ⟨e,k | k⟩ | ⟨e,k | k | k⟩
 ·omega
 ·omega
 ·omega
 all_goals simp[k]
theorem TV {t:Tok} (h:ar t=1):((t.1==6)=true/\t.1=6)\/((t.1==6)=false/\(t.1==7)=true/\t.1=7):=by
 rcases oV (show 0<=ar t by omega) with ⟨e,k⟩ | ⟨e,k | k⟩ | ⟨e,k | k | k⟩
 ·omega
 ·left;simp[k]
 ·right;simp[k]
 all_goals omega
theorem Cr {a b:Tr Tok} {t:Tok} (wb:WT b) (hl:((flat a++flat b)++ [t]).length<=1000000) :
  (((flat a++flat b)++ [t]).take ((((flat a++flat b).length:Nat):Int)).toNat)=flat a++flat b /\
  ig (flat a++flat b)=some (((flat a).length:Nat):Int) /\
  (((flat a++flat b)++ [t]).take ((((flat a).length:Nat):Int)).toNat)=flat a /\
  (flat a++flat b).drop ((((flat a).length:Nat):Int)).toNat=flat b:=by
 refine ⟨?_,Xy wb (by simp only[al,ak,aF] at hl⊢;omega),?_,?_⟩
 ·rw[Int.toNat_natCast,List.take_left]
 ·rw[Int.toNat_natCast,ai,List.take_left]
 ·rw[Int.toNat_natCast,List.drop_left]
theorem Za {x:Tr Tok} (h:WT x): ∀n,(flat x).length<=n->(flat x).length<=1000000->dU n (flat x)=some (szX x):=by
 refine WT.ind (p:=fun x=> ∀n,(flat x).length<=n->(flat x).length<=1000000->dU n (flat x)=some (szX x)) ?_ ?_ ?_ h
 ·intro t e n hn hl
  rw[DA] at hn hl⊢
  match n,hn with
  | n+1,_ =>
   have hk:=Y9 e
   rw[dU]
   have:=(nV (A:=[]) (t:=t) (by simp)).1
   rw[List.nil_append] at this
   rw[this];simp only[aa]
   rw[TU (.inr e)];simp only[aa,hk.1,hk.2,Bool.false_eq_true,if_false]
   rfl
 ·intro t a e wa ih n hn hl
  rw[Gc] at hn hl⊢
  simp only[al,ak,aF] at hn hl
  match n,hn with
  | n+1,hn =>
   have hr:=fe wa
   rw[dU]
   obtain ⟨l1,l2⟩:=nV (A:=flat a) (t:=t) (by omega)
   rw[l1];simp only[aa]
   rw[TU (.inl e)];simp only[aa,Bool.false_eq_true,if_false]
   rw[l2,Int.toNat_natCast,List.take_left,chk_of (by simp only[al,ak,aF];omega)];simp only[aa]
   rw[ih n (by omega) (by omega)];simp only[aa]
   rcases TV e with ⟨k1,k2⟩ | ⟨k1,k2,k3⟩
   ·rw[if_pos k1,fj (by omega) (by omega)]
    show some (min 100000 (szX a+1))=some (min ((1:Int)+(if t.1=7 then (szX a+3)*t.2.2.2 else szX a)) 100000)
    rw[if_neg (by omega)]
    congr 1;omega
   ·have h7:=Cp (show 0<=ar t by omega) k3
    have hm:=QN hr h7.2
    rw[if_neg (by simp[k1]),if_pos k2,Is hr h7.2,fj (by omega) (by omega)]
    show some (min 100000 ((szX a+3)*t.2.2.2+1))=some (min ((1:Int)+(if t.1=7 then (szX a+3)*t.2.2.2 else szX a)) 100000)
    rw[if_pos k3]
    congr 1;omega
 ·intro t a b e wa wb iha ihb n hn hl
  rw[vZ] at hn hl⊢
  obtain ⟨p1,p2,p3,p4⟩:=Cr (a:=a) (t:=t) wb hl
  simp only[al,ak,aF] at hn hl
  match n,hn with
  | n+1,hn =>
   have hra:=fe wa
   have hrb:=fe wb
   have k:t.1≠7:=by
    rcases oV (show 0<=ar t by omega) with ⟨_,k⟩ | ⟨k,_⟩ | ⟨k,_⟩ <;> omega
   rw[dU]
   obtain ⟨l1,l2⟩:=nV (A:=flat a++flat b) (t:=t) (by rw[al];omega)
   rw[l1];simp only[aa]
   rw[abj e];simp only[aa,if_true]
   rw[l2,p1,p2,chk_of (by simp only[al,ak,aF];omega)];simp only[aa]
   rw[chk_of (by simp only[al,ak,aF];omega),p3,p4];simp only[aa]
   rw[iha n (by omega) (by omega),chk_of (by simp only[al,ak,aF];omega)];simp only[aa]
   rw[ihb n (by have:=wa.pos;omega) (by omega)];simp only[aa]
   rw[fj (n:=szX a+szX b) (by omega) (by omega),fj (by omega) (by omega)]
   show some (min 100000 (szX a+szX b+1))=some (min ((1:Int)+(if t.1=7 then (szX a+3)*t.2.2.2 else szX a)+(if t.1=7 then (szX b+3)*t.2.2.2 else szX b)) 100000)
   rw[if_neg k,if_neg k]
   congr 1;omega
def TW:Tr Tok:=.node (2,0,0,0) []
def Kf (x:Tr Tok):Nat->Int->Tr Tok
 | 0,_=>TW
 | h+1,low=>if 0<low then .node (4,0,0,0) [x,Kf x h (max 0 (low - 1))] else .node (5,0,0,0) [.node (4,0,0,0) [x,Kf x h (max 0 (low - 1))],TW]
mutual
def sj:Tr Tok->Tr Tok
 | .nil=>.nil
 | .node t ks=>if t.1=7 then Kf ((Rl ks).headD .nil) t.2.2.2.toNat t.2.2.1 else .node t (Rl ks)
def Rl:List (Tr Tok)->List (Tr Tok)
 | [] =>[]
 | k::ks=>sj k::Rl ks
end
theorem ar4:ar (4,0,0,0)=2:=by decide
theorem ar5:ar (5,0,0,0)=2:=by decide
theorem ar2:ar (2,0,0,0)=0:=by decide
theorem QP:WT TW:=.node ar2 fun k hk=>by cases hk
theorem xx:flat TW= [(2,0,0,0)]:=DA _
theorem WT.two {t:Tok} {a b:Tr Tok} (h:ar t=2) (ha:WT a) (hb:WT b):WT (.node t [a,b]):=.node h fun k hk=>by
 rcases aH hk with rfl | hk
 ·exact ha
 ·obtain rfl:=az hk
  exact hb
theorem WT.one {t:Tok} {a:Tr Tok} (h:ar t=1) (ha:WT a):WT (.node t [a]):=.node h fun k hk=>by
 obtain rfl:=az hk
 exact ha
theorem Kg {x:Tr Tok} (hx:WT x): ∀(h:Nat) (low:Int),WT (Kf x h low)
 | 0,_=>QP
 | h+1,low=>by
  rw[Kf]
  split
  ·exact .two ar4 hx (Kg hx h _)
  ·exact .two ar5 (.two ar4 hx (Kg hx h _)) QP
theorem Gg (x:Tr Tok): ∀(h:Nat) (low:Int),(flat (Kf x h low)).length<=((flat x).length+3)*h+1
 | 0,_=>by rw[Kf,xx];simp
 | h+1,low=>by
  have ih:=Gg x h (max 0 (low - 1))
  rw[Kf]
  split
  ·rw[vZ];simp only[al,ak,aF]
   rw[Nat.mul_succ];omega
  ·rw[vZ,vZ,xx];simp only[al,ak,aF]
   rw[Nat.mul_succ];omega
theorem ZZ {t:Tok} {a:Tr Tok} :sj (.node t [a])=if t.1=7 then Kf (sj a) t.2.2.2.toNat t.2.2.1 else .node t [sj a]:=by rw[sj,Rl,Rl];rfl
theorem exp2 {t:Tok} {a b:Tr Tok} (h:t.1≠7):sj (.node t [a,b])= .node t [sj a,sj b]:=by rw[sj,if_neg h,Rl,Rl,Rl]
theorem Z0 {t:Tok} (h:t.1≠7):sj (.node t [])= .node t []:=by rw[sj,if_neg h,Rl]
theorem no7 {t:Tok} (h:ar t=2\/ar t=0):t.1≠7:=by
 rcases oV (show 0<=ar t by omega) with ⟨_,k⟩ | ⟨k,_⟩ | ⟨_,k⟩ <;> omega
theorem Vi {x:Tr Tok} (h:WT x):WT (sj x):=by
 refine WT.ind (p:=fun x=>WT (sj x)) ?_ ?_ ?_ h
 ·intro t e
  rw[Z0 (no7 (.inr e))]
  exact .node e fun k hk=>by cases hk
 ·intro t a e _ ih
  rw[ZZ]
  split
  ·exact Kg ih _ _
  ·exact .one e ih
 ·intro t a b e _ _ iha ihb
  rw[exp2 (no7 (.inl e))]
  exact .two e iha ihb
theorem Gh {x:Tr Tok} (h:WT x):szX x<100000->((flat (sj x)).length:Int)<=szX x:=by
 refine WT.ind (p:=fun x=>szX x<100000->((flat (sj x)).length:Int)<=szX x) ?_ ?_ ?_ h
 ·intro t e _
  rw[Z0 (no7 (.inr e)),DA]
  show (1:Int)<=min 1 100000
  omega
 ·intro t a e wa ih hs
  have hr:=fe wa
  have hs':min ((1:Int)+(if t.1=7 then (szX a+3)*t.2.2.2 else szX a)) 100000<100000:=hs
  show _<=min ((1:Int)+(if t.1=7 then (szX a+3)*t.2.2.2 else szX a)) 100000
  rw[ZZ]
  by_cases k:t.1=7
  ·rw[if_pos k] at hs'⊢
   rw[if_pos k]
   have h7:=Cp (show 0<=ar t by omega) k
   have hge:szX a+3<=(szX a+3)*t.2.2.2:=by
    have:=Int.mul_le_mul_of_nonneg_left (c:=szX a+3) h7.2.1 (by omega)
    omega
   have h1:=ih (by omega)
   have h2:=Gg (sj a) t.2.2.2.toNat t.2.2.1
   have h3:(((flat (sj a)).length+3)*t.2.2.2.toNat:Int)<=(szX a+3)*t.2.2.2:=by
    rw[Int.toNat_of_nonneg (by omega)]
    exact Int.mul_le_mul_of_nonneg_right (by omega) (by omega)
   have h4:((flat (Kf (sj a) t.2.2.2.toNat t.2.2.1)).length:Int)<=(((flat (sj a)).length+3)*t.2.2.2.toNat:Int)+1:=by exact_mod_cast h2
   omega
  ·rw[if_neg k] at hs'⊢
   rw[if_neg k,Gc]
   have h1:=ih (by omega)
   simp only[al,ak,aF]
   omega
 ·intro t a b e wa wb iha ihb hs
  have hra:=fe wa
  have hrb:=fe wb
  have k:=no7 (.inl e)
  have hs':min ((1:Int)+(if t.1=7 then (szX a+3)*t.2.2.2 else szX a)+(if t.1=7 then (szX b+3)*t.2.2.2 else szX b)) 100000<100000:=hs
  show _<=min ((1:Int)+(if t.1=7 then (szX a+3)*t.2.2.2 else szX a)+(if t.1=7 then (szX b+3)*t.2.2.2 else szX b)) 100000
  rw[if_neg k,if_neg k] at hs'⊢
  rw[exp2 k,vZ]
  have h1:=iha (by omega)
  have h2:=ihb (by omega)
  simp only[al,ak,aF]
  omega
theorem Eo {x:Tr Tok} : ∀(h n:Nat) (low:Int),h<n->h<=3->0<=low->low<=3->kg n x low (h:Int)=some (Kf x h low)
 | 0,n+1,low,_,_,_,_=>by
  rw[kg,if_pos (by rfl)];rfl
 | h+1,n+1,low,h1,h2,h3,h4=>by
  rw[kg,if_neg (by simp;omega),fj (n:=low - 1) (by omega) (by omega),fj (n:=((h+1:Nat):Int) - 1) (by omega) (by omega)]
  rw[show ((h+1:Nat):Int) - 1=(h:Int) from by omega,Eo h n (max 0 (low - 1)) (by omega) (by omega) (by omega) (by omega)];simp only[aa]
  rw[Kf]
  by_cases c:0<low
  ·rw[if_pos (by simpa using c),if_pos c]
  ·rw[if_neg (by simpa using c),if_neg c];rfl
theorem LM {a b:List Tok} {t:Tok} (h:a.length+b.length<=1000000):lL a b t=some ((a++b)++ [t]):=by
 unfold lL gN
 rw[aK (by simp only[al,ak,aF];omega)];simp only[aa,List.nil_append]
 rw[aK (by omega)];simp only[aa]
 rw[aK (by simp only[al,ak,aF];omega)];rfl
theorem QQ {x:Tr Tok} : ∀(h n:Nat) (low:Int),h<n->h<=3->0<=low->low<=3->(flat x).length<=100000->kd n (flat x) low (h:Int)=some (flat (Kf x h low))
 | 0,n+1,low,_,_,_,_,_=>by
  rw[kd,if_pos (by rfl),Kf,xx];rfl
 | h+1,n+1,low,h1,h2,h3,h4,h5=>by
  rw[kd,if_neg (by simp;omega),fj (n:=low - 1) (by omega) (by omega),fj (n:=((h+1:Nat):Int) - 1) (by omega) (by omega)]
  rw[show ((h+1:Nat):Int) - 1=(h:Int) from by omega,QQ h n (max 0 (low - 1)) (by omega) (by omega) (by omega) (by omega) h5];simp only[aa]
  have hl:=Gg x h (max 0 (low - 1))
  have hl3:((flat x).length+3)*h<=100003*3:=Nat.mul_le_mul (by omega) (by omega)
  rw[LM (by omega),Kf];simp only[aa]
  by_cases c:0<low
  ·rw[if_pos (by simpa using c),if_pos c,vZ]
  ·rw[if_neg (by simpa using c),if_neg c,vZ,vZ,xx]
   show (pY 2).bind _=_
   unfold pY;simp only[aa]
   rw[LM (by simp only[al,ak,aF];omega)];rfl
theorem xy:1000000000000<=gB:=by rw[RA];unfold aV;omega
theorem TX {x:Tr Tok} (h:WT x): ∀n,(flat x).length<=n->bD n x=some (sj x):=by
 have hF:=xy
 refine WT.ind (p:=fun x=> ∀n,(flat x).length<=n->bD n x=some (sj x)) ?_ ?_ ?_ h
 ·intro t e n hn
  rw[DA] at hn
  have k:=no7 (.inr e)
  match n,hn with
  | n+1,_ =>
   rw[bD];simp only[qB,aa]
   rw[if_neg (by simpa using k),Z0 k]
   have hL:ax (bq (bD n) (t,[])) aV (0,t.1,t.2.1,t.2.2.1,t.2.2.2,[])=some (.brk (0,t.1,t.2.1,t.2.2.1,t.2.2.2,[])):=bm (f:=bq (bD n) (t,[])) (fun i=>((i:Int),t.1,t.2.1,t.2.2.1,t.2.2.2,Rl (([] :List (Tr Tok)).take i))) 0 (fun i hi=>by omega) (by unfold bq;simp) (by unfold aV;omega)
   rw[au hL]
   all_goals rfl
 ·intro t a e wa ih n hn
  rw[Gc,al] at hn
  match n,hn with
  | n+1,hn =>
   have ia:=ih n (by simp at hn;omega)
   rw[bD,ZZ];simp only[qB,aa]
   rcases TV e with ⟨k1,k2⟩ | ⟨k1,k2,k3⟩
   ·rw[if_neg (by simp;omega),if_neg (by omega)]
    have hL:ax (bq (bD n) (t,[a])) aV (0,t.1,t.2.1,t.2.2.1,t.2.2.2,[])=some (.brk (1,t.1,t.2.1,t.2.2.1,t.2.2.2,[sj a])):=bm (f:=bq (bD n) (t,[a])) (fun i=>((i:Int),t.1,t.2.1,t.2.2.1,t.2.2.2,[sj a].take i)) 1 (fun i hi=>by
     obtain rfl:i=0:=by omega
     unfold bq
     simp only
     rw[if_pos (by simp),aI (by omega) (by simp),Au];simp only[aa]
     rw[ia];simp only[aa]
     rw[aK (by simp)];rfl) (by unfold bq;simp) (by unfold aV;omega)
    rw[au hL]
    all_goals rfl
   ·have h7:=Cp (show 0<=ar t by omega) k3
    rw[if_pos k2,if_pos k3,show aQ [a] 0=some a from rfl];simp only[aa]
    rw[ia];simp only[aa]
    have:=Eo (x:=sj a) t.2.2.2.toNat gB t.2.2.1 (by omega) (by omega) (by omega) (by omega)
    rw[Int.toNat_of_nonneg (by omega)] at this
    rw[this];rfl
 ·intro t a b e wa wb iha ihb n hn
  rw[vZ,al,al] at hn
  have k:=no7 (.inl e)
  match n,hn with
  | n+1,hn =>
   have ia:=iha n (by simp at hn;omega)
   have ib:=ihb n (by simp at hn;omega)
   rw[bD,exp2 k];simp only[qB,aa]
   rw[if_neg (by simpa using k)]
   have hL:ax (bq (bD n) (t,[a,b])) aV (0,t.1,t.2.1,t.2.2.1,t.2.2.2,[])=some (.brk (2,t.1,t.2.1,t.2.2.1,t.2.2.2,[sj a,sj b])):=bm (f:=bq (bD n) (t,[a,b])) (fun i=>((i:Int),t.1,t.2.1,t.2.2.1,t.2.2.2,[sj a,sj b].take i)) 2 (fun i hi=>by
    have:i=0\/i=1:=by omega
    rcases this with rfl | rfl
    ·unfold bq
     simp only
     rw[if_pos (by simp),aI (by omega) (by simp),Au];simp only[aa]
     rw[ia];simp only[aa]
     rw[aK (by simp)];rfl
    ·unfold bq
     simp only
     rw[if_pos (by simp),aI (by omega) (by simp),QO];simp only[aa]
     rw[ib];simp only[aa]
     rw[aK (by simp)];rfl) (by unfold bq;simp) (by unfold aV;omega)
   rw[au hL]
   all_goals rfl
theorem QR {x:Tr Tok} (h:WT x): ∀n out,(flat x).length<=n->out.length+(flat x).length<=1000000->bB n x out=some (out++flat x):=by
 refine WT.ind (p:=fun x=> ∀n out,(flat x).length<=n->out.length+(flat x).length<=1000000->bB n x out=some (out++flat x)) ?_ ?_ ?_ h
 ·intro t e n out hn hl
  rw[DA] at hn hl⊢
  simp only[ak,aF] at hl
  match n,hn with
  | n+1,_ =>
   rw[bB];simp only[qB,aa]
   have hL:ax (be (bB n) (t,[])) aV (0,out)=some (.brk (0,out)):=bm (f:=be (bB n) (t,[])) (fun i=>((i:Int),out)) 0 (fun i hi=>by omega) (by unfold be;simp) (by unfold aV;omega)
   rw[au hL]
   simp only
   rw[aK (by simp;omega)];rfl
 ·intro t a e wa ih n out hn hl
  rw[Gc] at hn hl⊢
  simp only[al,ak,aF] at hn hl
  match n,hn with
  | n+1,hn =>
   rw[bB];simp only[qB,aa]
   have hL:ax (be (bB n) (t,[a])) aV (0,out)=some (.brk (1,out++flat a)):=bm (f:=be (bB n) (t,[a])) (fun i=>((i:Int),if i=0 then out else out++flat a)) 1 (fun i hi=>by
    obtain rfl:i=0:=by omega
    unfold be
    simp only
    rw[if_pos (by simp),aI (by omega) (by simp),Au];simp only[aa,if_true]
    rw[ih n _ (by omega) (by omega)];rfl) (by unfold be;simp) (by unfold aV;omega)
   rw[au hL]
   simp only
   rw[aK (by simp;omega)];simp
 ·intro t a b e wa wb iha ihb n out hn hl
  rw[vZ] at hn hl⊢
  simp only[al,ak,aF] at hn hl
  match n,hn with
  | n+1,hn =>
   rw[bB];simp only[qB,aa]
   have hL:ax (be (bB n) (t,[a,b])) aV (0,out)=some (.brk (2,(out++flat a)++flat b)):=bm (f:=be (bB n) (t,[a,b])) (fun i=>((i:Int),if i=0 then out else if i=1 then out++flat a else (out++flat a)++flat b)) 2 (fun i hi=>by
    have:i=0\/i=1:=by omega
    rcases this with rfl | rfl
    ·unfold be
     simp only
     rw[if_pos (by simp),aI (by omega) (by simp),Au];simp only[aa,if_true]
     rw[iha n _ (by omega) (by omega)];rfl
    ·unfold be
     simp only
     rw[if_pos (by simp),aI (by omega) (by simp),QO];simp only[aa,if_true]
     rw[ihb n _ (by omega) (by simp;omega)];rfl) (by unfold be;simp) (by unfold aV;omega)
   rw[au hL]
   simp only
   rw[aK (by simp;omega)];simp
theorem TY {x:Tr Tok} (h:WT x): ∀n,(flat x).length<=n->(flat x).length<=1000000->szX x<=50000->cS n (flat x)=some (flat (sj x)):=by
 have hF:=xy
 refine WT.ind (p:=fun x=> ∀n,(flat x).length<=n->(flat x).length<=1000000->szX x<=50000->cS n (flat x)=some (flat (sj x))) ?_ ?_ ?_ h
 ·intro t e n hn hl hs
  rw[DA] at hn hl⊢
  match n,hn with
  | n+1,_ =>
   have hk:=Y9 e
   rw[cS]
   have:=(nV (A:=[]) (t:=t) (by simp)).1
   rw[List.nil_append] at this
   rw[this];simp only[aa]
   rw[TU (.inr e)];simp only[aa,hk.1,hk.2,Bool.false_eq_true,if_false]
   rw[Z0 (no7 (.inr e)),DA]
 ·intro t a e wa ih n hn hl hs
  have hs':min ((1:Int)+(if t.1=7 then (szX a+3)*t.2.2.2 else szX a)) 100000<=50000:=hs
  rw[Gc] at hn hl⊢
  simp only[al,ak,aF] at hn hl
  match n,hn with
  | n+1,hn =>
   have hr:=fe wa
   have hsa:szX a<=50000:=by
    by_cases k:t.1=7
    ·rw[if_pos k] at hs'
     have h7:=Cp (show 0<=ar t by omega) k
     have hge:szX a+3<=(szX a+3)*t.2.2.2:=by
      have:=Int.mul_le_mul_of_nonneg_left (c:=szX a+3) h7.2.1 (by omega)
      omega
     omega
    ·rw[if_neg k] at hs';omega
   have hla:=Gh wa (by omega)
   rw[cS]
   obtain ⟨l1,l2⟩:=nV (A:=flat a) (t:=t) (by omega)
   rw[l1];simp only[aa]
   rw[TU (.inl e)];simp only[aa,Bool.false_eq_true,if_false]
   rw[l2,Int.toNat_natCast,List.take_left,chk_of (by simp only[al,ak,aF];omega)];simp only[aa]
   rw[ih n (by omega) (by omega) hsa,ZZ];simp only[aa]
   rcases TV e with ⟨k1,k2⟩ | ⟨k1,k2,k3⟩
   ·rw[if_pos k1,if_neg (by omega),LM (by simp;omega),Gc];simp
   ·have h7:=Cp (show 0<=ar t by omega) k3
    rw[if_neg (by simp[k1]),if_pos k2,if_pos k3]
    have:=QQ (x:=sj a) t.2.2.2.toNat gB t.2.2.1 (by omega) (by omega) (by omega) (by omega) (by omega)
    rw[Int.toNat_of_nonneg (by omega)] at this
    rw[this];rfl
 ·intro t a b e wa wb iha ihb n hn hl hs
  have k:=no7 (.inl e)
  have hs':min ((1:Int)+(if t.1=7 then (szX a+3)*t.2.2.2 else szX a)+(if t.1=7 then (szX b+3)*t.2.2.2 else szX b)) 100000<=50000:=hs
  rw[if_neg k,if_neg k] at hs'
  rw[vZ] at hn hl⊢
  obtain ⟨p1,p2,p3,p4⟩:=Cr (a:=a) (t:=t) wb hl
  simp only[al,ak,aF] at hn hl
  match n,hn with
  | n+1,hn =>
   have hra:=fe wa
   have hrb:=fe wb
   have hla:=Gh wa (by omega)
   have hlb:=Gh wb (by omega)
   rw[cS]
   obtain ⟨l1,l2⟩:=nV (A:=flat a++flat b) (t:=t) (by rw[al];omega)
   rw[l1];simp only[aa]
   rw[abj e];simp only[aa,if_true]
   rw[l2,p1,p2,chk_of (by simp only[al,ak,aF];omega)];simp only[aa]
   rw[chk_of (by simp only[al,ak,aF];omega),p3,p4];simp only[aa]
   rw[iha n (by omega) (by omega) (by omega),chk_of (by simp only[al,ak,aF];omega)];simp only[aa]
   rw[ihb n (by have:=wa.pos;omega) (by omega) (by omega)];simp only[aa]
   rw[LM (by omega),exp2 k,vZ];rfl
def Nk (e:List Tok):List Tok×Bool:=
 if decide (e.length<=24)&&isX e then (if 5000<szX (Ab e) then ([],false) else (if 400<(flat (sj (Ab e))).length then ([],false) else (flat (sj (Ab e)),true))) else ([],false)
theorem Kh {e:List Tok} (he:e.length<=1048576):l8 e=some (Nk e)/\mi e=some (Nk e):=by
 have hF:=xy
 unfold l8 mi Nk
 rw[Kc he,Ke he];simp only[aa]
 by_cases c:(decide (e.length<=24)&&isX e)=true
 ·rw[if_pos c,if_pos c,if_pos c,Gf he];simp only[aa]
  rw[aj] at c
  obtain ⟨x,h1,hw,rfl⟩:=QL c.2
  have h24:(flat x).length<=24:=by simpa using c.1
  have hr:=fe hw
  rw[yH hw,Za hw gB (by omega) (by omega),Xz hw gB (by omega)];simp only[aa]
  by_cases c2:5000<szX x
  ·have c2':decide (szX x>5000)=true:=by simpa using c2
   simp only[gt_iff_lt,c2,decide_true,if_true,and_self]
  ·have c2':decide (szX x>5000)=false:=by simpa using c2
   simp only[gt_iff_lt,c2,decide_false,if_false,Bool.false_eq_true]
   have hl:=Gh hw (by omega)
   rw[TY hw gB (by omega) (by omega) (by omega),TX hw gB (by omega)];simp only[aa]
   unfold qY
   rw[QR (Vi hw) gB [] (by omega) (by simp;omega)];simp only[aa,List.nil_append]
   by_cases c3:400<(flat (sj x)).length
   ·have c3':decide (((flat (sj x)).length:Int)>400)=true:=decide_eq_true (by omega)
    simp only[c3',c3,decide_true,if_true,and_self]
   ·have c3':decide (((flat (sj x)).length:Int)>400)=false:=decide_eq_false (by omega)
    simp only[c3',c3,decide_false,if_false,Bool.false_eq_true,and_self]
 ·rw[if_neg c,if_neg c,if_neg c];exact ⟨rfl,rfl⟩
theorem XA {e:List Tok} (h:(Nk e).2=true): ∃y,WT y/\(Nk e).1=flat y/\(flat y).length<=400:=by
 unfold Nk at h⊢
 split at h
 ·rename_i c
  rw[if_pos c]
  rw[aj] at c
  obtain ⟨x,h1,hw,rfl⟩:=QL c.2
  rw[yH hw] at h⊢
  split at h
  ·cases h
  ·rename_i c2
   rw[if_neg c2]
   split at h
   ·cases h
   ·rename_i c3
    rw[if_neg c3]
    exact ⟨_,Vi hw,rfl,by omega⟩
 ·cases h
end D
namespace D
open Go.RowKit
def QS (out:List Bool) (t:Int):Bool:=decide (t≥0)&&nth out t
def hit (out:List Bool) (row:List Int):Bool:=row.any (QS out)
def zG (a:AutT) (out:List Bool) (s:Nat):List Bool:=if hit out (nth a.2.2 s) then out.set s true else out
def kt (a:AutT) (out:List Bool):Nat->List Bool
 | 0=>out
 | s+1=>zG a (kt a out s) s
def cnt (out:List Bool):Nat:=out.count true
theorem Zb (out:List Bool):cnt out<=out.length:=List.count_le_length
theorem LN {out:List Bool} {s:Nat} (h:s<out.length) (k:out[s] =true):out.set s true=out:=by
 refine List.ext_getElem (by simp) fun i h1 h2=>?_
 rw[List.getElem_set]
 split
 ·rename_i e;subst e;exact k.symm
 ·rfl
theorem XB {out:List Bool} {s:Nat} (h:s<out.length) (k:out[s] =false):cnt (out.set s true)=cnt out+1:=by
 unfold cnt
 rw[List.count_set h];simp[k]
section
variable {a:AutT} {n:Nat}
theorem Gi (a:AutT) (out:List Bool) (s:Nat):(zG a out s).length=out.length:=by unfold zG;split <;> simp
theorem lA (a:AutT) (out:List Bool): ∀s,(kt a out s).length=out.length
 | 0=>rfl
 | s+1=>by rw[kt,Gi,lA a out s]
theorem zH {out:List Bool} {s:Nat} (h:s<out.length):(zG a out s=out/\ ¬(hit out (nth a.2.2 s)=true/\nth out s=false))\/(cnt (zG a out s)=cnt out+1/\hit out (nth a.2.2 s)=true/\nth out s=false):=by
 unfold zG
 rw[bW h]
 cases hh:hit out (nth a.2.2 s) with
 | false=>exact .inl ⟨by simp,by simp⟩
 | true =>
  cases hk:out[s] with
  | true=>exact .inl ⟨by simp[LN h hk],by simp⟩
  | false=>exact .inr ⟨by simp[XB h hk],rfl,rfl⟩
theorem yJ {out:List Bool} : ∀s,s<=out.length->(kt a out s=out/\cnt (kt a out s)=cnt out)\/cnt out<cnt (kt a out s)
 | 0,_=>.inl ⟨rfl,rfl⟩
 | s+1,hs=>by
  have hl:s<(kt a out s).length:=by rw[lA];omega
  have ih:=yJ (out:=out) s (by omega)
  rw[kt]
  rcases zH (a:=a) hl with ⟨e,-⟩ | ⟨e,-,-⟩
  ·rw[e];exact ih
  ·rcases ih with ⟨-,h2⟩ | h
   ·exact .inr (by omega)
   ·exact .inr (by omega)
def it (a:AutT):Nat->List Bool
 | 0=>a.2.1
 | j+1=>kt a (it a j) a.2.1.length
theorem qC (a:AutT): ∀j,(it a j).length=a.2.1.length
 | 0=>rfl
 | j+1=>by rw[it,lA,qC a j]
theorem Vj (a:AutT) (j:Nat):cnt (it a j)<=a.2.1.length:=by rw[<-qC a j];exact Zb _
theorem Ki (a:AutT) (j:Nat):(it a (j+1)=it a j)\/cnt (it a j)<cnt (it a (j+1)):=by
 rcases yJ (a:=a) (out:=it a j) a.2.1.length (by rw[qC];exact aE _) with h | h
 ·exact .inl h.1
 ·exact .inr h
theorem Vk {j k:Nat} (h:it a (j+1)=it a j) (hk:j<=k):it a k=it a j:=by
 induction hk with
 | refl=>rfl
 | step _ ih=>rw[it,ih];exact h
theorem QU {j k:Nat} (h:it a (j+1)=it a j) (h':it a (k+1)=it a k):it a j=it a k:=by
 rcases Nat.le_total j k with e | e
 ·exact (Vk h e).symm
 ·exact Vk h' e
theorem XC (a : AutT) : it a (a.2.1.length + 1) = it a a.2.1.length := by
  have key : ∀ j, it a (j + 1) = it a j \/ j + 1 <= cnt (it a (j + 1)) := by
    intro j
    induction j with
    | zero => rcases Ki a 0 with h | h
              · exact .inl h
              · exact .inr (by omega)
    | succ j ih =>
      rcases Ki a (j + 1) with h | h
      · exact .inl h
      · rcases ih with h' | h'
        · left; rw [it, h']; exact h'
        · exact .inr (by omega)
  rcases key a.2.1.length with h | h
  · exact h
  · have := Vj a (a.2.1.length + 1); omega
def live (a:AutT):List Bool:=it a a.2.1.length
theorem v7 (a:AutT):(live a).length=a.2.1.length:=qC a _
theorem LO {α:Type} [Inhabited α] {row:List α} {p:α->Bool} {k:Nat} (h:k<row.length):(row.take (k+1)).any p=((row.take k).any p || p (nth row (k:Int))):=by
 rw[List.take_succ_eq_append_getElem h,List.any_append,bW h];simp
section
variable (V:VA a n) (hn:n<=1000000)
include V hn
theorem QV {out:List Bool} {s:Nat} (hs:s<n) (hl:out.length=n):ax (jr a (out,(s:Int))) aV (out,0)=some (.brk (zG a out s,9)):=by
 have hr:=V.rowAt (s:=s) (by omega) (by omega)
 have hls:s<out.length:=by omega
 have:=bm (f:=jr a (out,(s:Int))) (fun k=>(if ((nth a.2.2 (s:Int)).take k).any (QS out) then out.set s true else out,(k:Int))) 9 (fun k hk=>by
  unfold jr
  simp only
  rw[if_pos (by simp;omega),V.get (by omega) (by omega)];simp only[aa]
  rw[V.get2 (by omega) (by omega) hk];simp only[aa]
  rw[LO (by omega),show nth (nth a.2.2 (s:Int)) (k:Int)=mv a s k from rfl]
  simp only[af (show k<9223372036854775807 by omega)]
  by_cases c:mv a s k≥0
  ·have hset:(out.set s true).length=n:=by simp[hl]
   have hm:=(V.mv (s:=s) (k:=k) (by omega) (by omega) hk).2
   rw[if_pos (by simpa using c)]
   by_cases q:((nth a.2.2 (s:Int)).take k).any (QS out)=true
   ·simp only[q,if_true,Bool.true_or]
    rw[aI c (by rw[hset];exact hm),aI (by omega) (by rw[hset];omega)];simp only[aa,Int.toNat_natCast]
    split <;> simp
   ·simp only[q,Bool.false_eq_true,if_false,Bool.false_or,QS]
    rw[aI c (by rw[hl];exact hm),aI (by omega) (by rw[hl];omega)];simp only[aa,Int.toNat_natCast]
    cases hc:nth out (mv a s k) <;> simp[hc,c]
  ·rw[if_neg (by simpa using c)]
   simp[QS,c]) (by unfold jr;simp) (by unfold aV;omega)
 have e9:(nth a.2.2 (s:Int)).take 9=nth a.2.2 (s:Int):=List.take_of_length_le (by omega)
 rw[e9] at this
 exact this
theorem Iu {out:List Bool} (hl:out.length=n):ax (jt a) aV (out,0)=some (.brk (kt a out n,(n:Int))):=by
 have hlen:=V.len
 refine bm (f:=jt a) (fun s=>(kt a out s,(s:Int))) n (fun s hs=>?_) ?_ (vi (by omega))
 ·unfold jt
  simp only
  rw[if_pos (by simp;omega),au (QV V hn hs (by rw[lA];exact hl)),af (by omega)]
  rfl
 ·unfold jt
  simp only
  rw[if_neg (by simp;omega)]
theorem Vl:lM a=some (live a):=by
 have hlen:=V.len
 unfold lM
 rw[aK (by simp;omega)];simp only[aa,List.nil_append]
 have:=bm (f:=ma a) (fun j=>(it a j,(j:Int))) n (fun j hj=>by
  unfold ma
  simp only
  rw[if_pos (by simp;omega),au (Iu V hn (by rw[qC];exact hlen)),af (by omega),it,hlen]) (by
  unfold ma
  simp only
  rw[if_neg (by simp;omega)]) (vi (by omega))
 exact (au this).trans (by simp[live,hlen])
theorem QW {out:List Bool} {g:Bool} {s:Nat} (hs:s<n) (hl:out.length=n):ax (dw (g,(s:Int),out) (nth a.2.2 (s:Int))) aV (g,0,out)=some (.brk (g || (hit out (nth a.2.2 (s:Int)) && !nth out (s:Int)),9,zG a out s)):=by
 have hr:=V.rowAt (s:=s) (by omega) (by omega)
 have hls:s<out.length:=by omega
 have:=bm (f:=dw (g,(s:Int),out) (nth a.2.2 (s:Int))) (fun k=>(g || (((nth a.2.2 (s:Int)).take k).any (QS out) && !nth out (s:Int)),(k:Int),if ((nth a.2.2 (s:Int)).take k).any (QS out) then out.set s true else out)) 9 (fun k hk=>by
  unfold dw
  simp only
  rw[if_pos (by simp[hr];omega),V.get2 (by omega) (by omega) hk];simp only[aa]
  rw[LO (by omega),show nth (nth a.2.2 (s:Int)) (k:Int)=mv a s k from rfl]
  simp only[af (show k<9223372036854775807 by omega)]
  by_cases c:mv a s k≥0
  ·have hset:(out.set s true).length=n:=by simp[hl]
   have hm:=(V.mv (s:=s) (k:=k) (by omega) (by omega) hk).2
   rw[if_pos (by simpa using c)]
   by_cases q:((nth a.2.2 (s:Int)).take k).any (QS out)=true
   ·simp only[q,if_true,Bool.true_or]
    have hself:nth (out.set s true) (s:Int)=true:=by
     have:=Ii (xs:=out) (i:=(s:Int)) (x:=true) (by omega) (by omega)
     simpa using this
    rw[aI c (by rw[hset];exact hm),aI (by omega) (by rw[hset];omega)];simp only[aa,Int.toNat_natCast,hself,if_true]
    split <;> simp
   ·simp only[q,Bool.false_eq_true,if_false,Bool.false_or,QS,Bool.false_and,Bool.or_false]
    rw[aI c (by rw[hl];exact hm),aI (by omega) (by rw[hl];omega)];simp only[aa,Int.toNat_natCast]
    cases hc:nth out (mv a s k) with
    | false=>simp[c]
    | true =>
     cases hd:nth out (s:Int) with
     | false=>simp[c]
     | true =>
      rw[bW hls] at hd
      simp[c,LN hls hd]
  ·rw[if_neg (by simpa using c)]
   simp[QS,c]) (by unfold dw;simp[hr]) (by unfold aV;omega)
 have e9:(nth a.2.2 (s:Int)).take 9=nth a.2.2 (s:Int):=List.take_of_length_le (by omega)
 rw[e9] at this
 have e0:(g || (((nth a.2.2 (s:Int)).take 0).any (QS out) && !nth out (s:Int)))=g:=by simp
 rw[e0] at this
 exact this
theorem Iv {out:List Bool} (hl:out.length=n): ∃g,ax (dx a) aV (false,0,out)=some (.brk (g,(n:Int),kt a out n))/\(g=true↔cnt out<cnt (kt a out n)):=by
 have hlen:=V.len
 have hnl:=V.nlen
 obtain ⟨s',e,⟨g,rfl,hg⟩⟩:=oR (f:=dx a) (fun s st=> ∃g,st=(g,(s:Int),kt a out s)/\(g=true↔cnt out<cnt (kt a out s))) n (by
  rintro s st hs ⟨g,rfl,hg⟩
  have hpl:(kt a out s).length=n:=by rw[lA];exact hl
  unfold dx
  simp only
  rw[if_pos (by simp;omega),V.get (by omega) (by omega)];simp only[aa]
  rw[au (QW V hn hs hpl),af (by omega)]
  refine ⟨_,rfl,_,rfl,?_⟩
  rw[Bool.or_eq_true,aj,Bool.not_eq_true',hg,kt]
  have hc:=yJ (a:=a) (out:=out) s (by omega)
  rcases zH (a:=a) (out:=kt a out s) (s:=s) (by omega) with ⟨e,k⟩ | ⟨e,k⟩
  ·rw[e];exact ⟨fun h=>h.elim id fun h=>absurd h k,.inl⟩
  ·rw[e]
   exact ⟨fun _=>by rcases hc with ⟨-,h⟩ | h <;> omega,fun _=>.inr k⟩) (by
  rintro s ⟨g,rfl,hg⟩
  unfold dx
  simp only
  rw[if_neg (by simp;omega)]) ⟨false,rfl,by simp[kt]⟩ (vi (by omega))
 exact ⟨g,e,hg⟩
theorem Zc:eV a=some (live a):=by
 have hlen:=V.len
 unfold eV
 rw[aK (by simp;omega)];simp only[aa,List.nil_append]
 obtain ⟨o,e,i,rfl,hi⟩:=cM (f:=iA a) (fun i s=> ∃b,s=(b,it a i)/\(b=true->i<=cnt (it a i))/\(b=false->it a (i+1)=it a i)) (fun o=> ∃i,o= .brk (false,it a i)/\it a (i+1)=it a i) (n+1) (s:=(true,a.2.1)) (by
  rintro i s hi ⟨b,rfl,h1,h2⟩
  unfold iA
  simp only
  cases b with
  | false=>exact .inr ⟨_,by rw[if_neg (by simp)],(fun s' e=>by cases e),i,rfl,h2 rfl⟩
  | true =>
   have hc:=Vj a i
   have h1:=h1 rfl
   obtain ⟨g,e,hg⟩:=Iv V hn (out:=it a i) (by rw[qC];exact hlen)
   have ee:kt a (it a i) n=it a (i+1):=by rw[it,hlen]
   rw[ee] at e hg
   refine .inl ⟨by omega,(g,it a (i+1)),by rw[if_pos rfl,au e],g,rfl,fun h=>?_,fun h=>?_⟩
   ·have:=hg.1 h;omega
   ·have hs:it a (i+1)=it a i:=by
     rcases Ki a i with h' | h'
     ·exact h'
     ·rw[<-hg,h] at h';cases h'
    rw[it,hs];exact hs) ⟨true,rfl,fun _=>Nat.zero_le _,fun h=>by cases h⟩ (vi (by omega))
 rw[au e]
 have:=QU hi (XC a)
 simp[live,this]
end
end
end D
namespace D
open Go.RowKit
def nothing:AutT:=(0,[false],[[-1,-1,-1,-1,-1,-1,-1,-1,-1]])
theorem QX:pJ=some nothing:=by kernel_rfl
theorem QY:vC=some nothing:=by kernel_rfl
theorem QZ {n:Nat} (h:n<=1000000):iOk (n:Int)=true:=by
 have h1:IntKind.i64.min= -9223372036854775808:=by decide
 have h2:IntKind.i64.max=9223372036854775807:=by decide
 simp only[iOk,Lit.wf,h1,h2,aj,decide_eq_true_eq]
 omega
theorem take_one {α:Type} [Inhabited α] {xs:List α} {k:Nat} (h:k<xs.length):xs.take (k+1)=xs.take k++ [nth xs (k:Int)]:=by
 rw[List.take_succ_eq_append_getElem h,bW h]
theorem ku {α:Type} [Inhabited α] {xs ys:List α} (h:xs <+:ys) {i:Int} (h0:0<=i) (h1:i<xs.length):nth ys i=nth xs i:=by
 obtain ⟨t,rfl⟩:=h
 exact iJ h0 h1
structure NumOk {κ:Type} [DecidableEq κ] (nx:κ->List (Option κ)) (first:κ) (G:κ->Prop) (B:Nat):Prop where
 g0:G first
 gn: ∀x,G x-> ∀y,some y∈nx x->G y
 len: ∀x,G x->(nx x).length=9
 bound: ∀l:List κ,l.Nodup->(∀x∈l,G x)->l.length<=B
section
variable {κ:Type} [DecidableEq κ] [Inhabited κ] {nx:κ->List (Option κ)} {first:κ} {G:κ->Prop} {B:Nat}
theorem NumOk.le (H:NumOk nx first G B) (i:Nat):(bfS nx first i).length<=B:=H.bound _ (oT i) (lz H.g0 H.gn i)
theorem NumOk.at (H:NumOk nx first G B) {i:Nat} (h:i<(bfS nx first i).length):G (nth (bfS nx first i) (i:Int)):=lz H.g0 H.gn i _ (cj (by omega) (by omega))
theorem lB {i:Nat} (h:i<(bfS nx first i).length):bfS nx first (i+1)=nbS (bfS nx first i) (nx (nth (bfS nx first i) (i:Int))):=by rw[FL h,bW h]
theorem xz {i:Nat} (h:i<(bfS nx first i).length):bfR nx first (i+1)=bfR nx first i++ [nbR (bfS nx first i) (nx (nth (bfS nx first i) (i:Int)))]:=by rw[xn h,bW h]
theorem Av {β:Type} {acc:κ->β} {i:Nat} (h:i<(bfS nx first i).length):((bfS nx first (i+1)).take (i+1)).map acc=((bfS nx first i).take i).map acc++ [acc (nth (bfS nx first i) (i:Int))]:=by
 have hp:=bR (nx:=nx) (first:=first) i
 have hl:=hp.length_le
 have e:(bfS nx first (i+1)).take i=(bfS nx first i).take i:=by
  obtain ⟨t,ht⟩:=hp
  rw[<-ht,List.take_append_of_le_length (by omega)]
 rw[take_one (by omega),aP,e,ku hp (by omega) (by omega)];rfl
def MapOf (M:List (κ×Int)) (l:List κ):Prop:=M.length=l.length/\ ∀x,M.lookup x=if x∈l then some (l.idxOf x:Int) else none
theorem MapOf.one (x:κ):MapOf [(x,0)] [x]:=by
 refine ⟨rfl,fun y=>?_⟩
 rw[List.lookup_cons]
 by_cases e:y=x
 ·subst e;simp
 ·simp only[show (y==x)=false from by simp[e]];simp[e]
theorem MapOf.put {M:List (κ×Int)} {l:List κ} (h:MapOf M l) {x:κ} (hx:x∉l):MapOf ((x,(l.length:Int))::M) (l++ [x]):=by
 refine ⟨by simp[h.1],fun y=>?_⟩
 rw[List.lookup_cons]
 by_cases e:y=x
 ·subst e
  simp[List.idxOf_append,hx]
 ·simp only[show (y==x)=false from by simp[e],h.2 y,List.mem_append,List.mem_singleton,e,or_false]
  by_cases k:y∈l
  ·simp[k,List.idxOf_append]
  ·simp[k]
end
section
variable {nx:Int->List (Option Int)} {first:Int} {G:Int->Prop} {B:Nat}
theorem Iw {p3:Int->Int->Option (Int×Bool)} {l:List Int} {M:List (Int×Int)} {os:List (Option Int)} {acs:List Bool} {rws:List (List Int)} {i:Nat}
  (hi:i<l.length) (hos:os.length=9) (hM:MapOf M l) (hok: ∀y,some y∈os->iOk y=true) (hB: ∀k,(nbS l (os.take k)).length<=1000000)
  (hp: ∀(k:Nat) (hk:k<9),∃j,p3 (nth l (i:Int)) (k:Int)=some (match nth os (k:Int) with | some y=>(y,true) | none=>(j,false))) :
  ∃M',ax (dW p3 (l,M,(i:Int),0,acs,rws)) aV (l,M,[],0)=some (.brk (nbS l os,M',nbR l os,9))/\MapOf M' (nbS l os):=by
 obtain ⟨s',e,M',rfl,hM'⟩:=oR (f:=dW p3 (l,M,(i:Int),0,acs,rws)) (fun k s=> ∃M',s=(nbS l (os.take k),M',nbR l (os.take k),(k:Int))/\MapOf M' (nbS l (os.take k))) 9 (by
  rintro k s hk ⟨M1,rfl,hM1⟩
  have hpre:=lV l (os.take k)
  have hlen:=hpre.length_le
  have hBk:=hB k
  obtain ⟨j,hj⟩:=hp k hk
  have hrl:(nbR l (os.take k)).length<=9:=by rw[eR,ay];omega
  unfold dW
  simp only
  rw[if_pos (by simp;omega),aI (by omega) (by omega)];simp only[aa]
  rw[ku hpre (by omega) (by omega),hj,take_one (by omega),xm,uk]
  simp only[aa,af (show k<9223372036854775807 by omega)]
  cases ho:nth os (k:Int) with
  | none =>
   simp only[Bool.false_eq_true,if_false]
   rw[aK (by simp;omega)]
   exact ⟨_,rfl,M1,rfl,hM1⟩
  | some y =>
   have hy:iOk y=true:=hok y (ho ▸ cj (by omega) (by omega))
   simp only[if_true]
   rw[show chk (iOk y=true)=some () from by unfold chk;rw[if_pos hy]];simp only[aa]
   rw[show lkM M1 y=_ from hM1.2 y]
   by_cases c:y∈nbS l (os.take k)
   ·simp only[c,if_true,Option.isSome_some,Option.getD_some,aa]
    rw[aK (by simp;omega)]
    exact ⟨_,rfl,M1,by rw[np c];rfl,by rw[np c];exact hM1⟩
   ·have hput:NU M1 iOk iOk y ((nbS l (os.take k)).length:Int)=some ((y,((nbS l (os.take k)).length:Int))::M1):=by
     unfold NU
     rw[if_pos ⟨by have:=hM1.1;omega,hy,QZ hBk⟩]
    simp only[c,if_false,Option.isSome_none,Bool.false_eq_true,hput,aa]
    rw[aK (by simp;omega)];simp only[aa]
    rw[aK (by simp;omega)]
    refine ⟨_,rfl,(y,((nbS l (os.take k)).length:Int))::M1,?_,?_⟩
    ·rw[lW c];simp only[nbI,qz c]
    ·rw[lW c];exact hM1.put c) (by
  rintro s ⟨M1,rfl,hM1⟩
  unfold dW
  simp) (s:=(l,M,[],0)) ⟨M,rfl,hM⟩ (by unfold aV;omega)
 rw[List.take_of_length_le (by omega)] at e hM'
 exact ⟨M',e,hM'⟩
theorem Zd {most:Int} {p2:Int->Option Bool} {p3:Int->Int->Option (Int×Bool)} {acc:Int->Bool} (H:NumOk nx first G B) (hB:B<=1000000) (hmost:(B:Int)<=most) (hok: ∀x,G x->iOk x=true)
  (h2: ∀x,G x->p2 x=some (acc x)) (h3: ∀x (k:Nat),G x->k<9-> ∃j,p3 x (k:Int)=some (match nth (nx x) (k:Int) with | some y=>(y,true) | none=>(j,false))) :
  ∃N,bfE nx first N/\eO first most p2 p3=some ((0,(bfS nx first N).map acc,bfR nx first N),true):=by
 obtain ⟨N,hNB,hN⟩:=U0 (nx:=nx) (first:=first) (H.le)
 refine ⟨N,hN,?_⟩
 unfold eO
 rw[show NU ([] :List (Int×Int)) iOk iOk first 0=some [(first,0)] from by unfold NU;rw[if_pos ⟨by simp,hok _ H.g0,by decide⟩]];simp only[aa]
 obtain ⟨s',e,M',rfl,hM'⟩:=oR (f:=bZ most p2 p3) (fun i s=> ∃M,s=(bfS nx first i,M,(i:Int),0,((bfS nx first i).take i).map acc,bfR nx first i)/\MapOf M (bfS nx first i)) N (by
  rintro i s hi ⟨M,rfl,hM⟩
  have hlt:=hN.2 i hi
  have hG:=H.at hlt
  have hle:=H.le i
  have hle':=H.le (i+1)
  obtain ⟨M',e,hM'⟩:=Iw (p3:=p3) (l:=bfS nx first i) (M:=M) (os:=nx (nth (bfS nx first i) (i:Int))) (acs:=((bfS nx first i).take i).map acc) (rws:=bfR nx first i) hlt (H.len _ hG) hM (fun y hy=>hok y (H.gn _ hG y hy))
   (fun k=>by
    have:(nbS (bfS nx first i) ((nx (nth (bfS nx first i) (i:Int))).take k)).length<=B:=H.bound _ (tH (oT i)) fun x hx=>by
     rcases yB.1 hx with hx | hx
     ·exact lz H.g0 H.gn i x hx
     ·exact H.gn _ hG x (List.mem_of_mem_take hx)
    omega) (fun k hk=>h3 _ k hG hk)
  unfold bZ
  simp only
  rw[if_pos (by simp;omega),au e,<-lB hlt]
  rw[<-lB hlt] at hM'
  have hl2:=(bR (nx:=nx) (first:=first) i).length_le
  simp only
  rw[if_neg (by simp;omega),aI (by omega) (by omega)];simp only[aa]
  rw[ku (bR i) (by omega) (by omega),h2 _ hG];simp only[aa]
  have hr:(bfR nx first i).length=i:=kp fun j hj=>hN.2 j (by omega)
  rw[aK (by simp;omega)];simp only[aa]
  rw[aK (by simp;omega)];simp only[aa,af (show i<9223372036854775807 by omega)]
  exact ⟨_,rfl,M',by rw[Av hlt,xz hlt],hM'⟩) (by
  rintro s ⟨M,rfl,hM⟩
  unfold bZ
  simp only
  rw[if_neg (by have:=hN.1;simp;omega)]) (s:=([first],[(first,0)],0,0,[],[])) ⟨_,rfl,MapOf.one first⟩ (vi (by omega))
 rw[au e]
 simp only
 rw[List.take_of_length_le (by have:=hN.1;omega)]
end
theorem Vm {l:List Int} {x:Int} (h:l.length<=9223372036854775807):ot l x=some (if x∈l then (l.idxOf x:Int) else -1):=by
 unfold ot
 obtain ⟨o,e,hq⟩:=cM (f:=pI l x) (fun i s=>s=(i:Int)/\x∉l.take i) (fun o=>(x∈l/\o= .ret (l.idxOf x:Int))\/(x∉l/\ ∃s,o= .brk s)) l.length (s:=0) (by
  rintro i s hi ⟨rfl,hx⟩
  unfold pI
  by_cases hl:i<l.length
  ·rw[if_pos (by simp;omega),aI (by omega) (by omega)];simp only[aa]
   by_cases c:nth l (i:Int)=x
   ·refine .inr ⟨_,by rw[if_pos (by simpa using c)],(fun s' e=>by cases e),.inl ?_⟩
    have e:l=l.take i++(x::l.drop (i+1)):=by
     rw[<-c,bW hl,<-List.drop_eq_getElem_cons hl,List.take_append_drop]
    refine ⟨by rw[e];simp,?_⟩
    congr 1
    conv=>rhs;rw[e,List.idxOf_append,if_neg hx,List.idxOf_cons_self]
    simp[ay];first | done | omega
   ·refine .inl ⟨hl,_,by rw[if_neg (by simpa using c)],by rw[af (by omega)],?_⟩
    rw[take_one hl,List.mem_append,List.mem_singleton]
    rintro (h | h)
    ·exact hx h
    ·exact c h.symm
  ·refine .inr ⟨_,by rw[if_neg (by simp;omega)],(fun s' e=>by cases e),.inr ⟨?_,_,rfl⟩⟩
   rwa [List.take_of_length_le (by omega)] at hx) ⟨rfl,by simp⟩ (vi h)
 rcases hq with ⟨hx,rfl⟩ | ⟨hx,s,rfl⟩
 ·rw[cq e,if_pos hx]
 ·rw[au e,if_neg hx]
section
variable {a:AutT} {n:Nat} {c:List Int} {lv:List Bool} {nx:Int->List (Option Int)} {G:Int->Prop} {B:Nat} {acc:Int->Bool}
def good (n:Nat) (lv:List Bool) (r:Int):Prop:=0<=r/\r<n/\nth lv r=true
def yK (a:AutT) (c:List Int) (lv:List Bool) (r:Int):List (Option Int):=(List.range 9).map fun k=>if mv a r k≥0/\nth lv (mv a r k)=true then some (nth c (mv a r k)) else none
theorem LP {r:Int} {k:Nat} (hk:k<9):nth (yK a c lv r) (k:Int)=if mv a r k≥0/\nth lv (mv a r k)=true then some (nth c (mv a r k)) else none:=by
 have:k<(yK a c lv r).length:=by simp[yK];omega
 rw[bW this];simp[yK]
def RepsOf (n:Nat) (lv:List Bool) (c:List Int) (rs l:List Int):Prop:=rs.length=l.length/\ ∀j:Nat,j<l.length->good n lv (nth rs j)/\nth c (nth rs j)=nth l (j:Int)
theorem RepsOf.snoc {rs l:List Int} (h:RepsOf n lv c rs l) {t:Int} (ht:good n lv t):RepsOf n lv c (rs++ [t]) (l++ [nth c t]):=by
 refine ⟨by simp[h.1],fun j hj=>?_⟩
 by_cases e:j<l.length
 ·rw[iJ (by omega) (by have:=h.1;omega),iJ (by omega) (by omega)];exact h.2 j e
 ·have e:j=l.length:=by simp at hj;omega
  subst e
  have h1:nth (rs++ [t]) (l.length:Int)=t:=by rw[bW (by simp[h.1])];simp[<-h.1]
  have h2:nth (l++ [nth c t]) (l.length:Int)=nth c t:=by rw[bW (by simp)];simp
  rw[h1,h2];exact ⟨ht,rfl⟩
theorem Q0 (V:VA a n) (hn:n<=1000000) (hc:c.length=n) (hlv:lv.length=n) {l rs:List Int} {acs:List Bool} {rws:List (List Int)} {i:Nat} (hi:i<l.length) (hR:RepsOf n lv c rs l) {os:List (Option Int)} (hos:os.length=9)
  (ho: ∀r,good n lv r->nth c r=nth l (i:Int)->yK a c lv r=os) (hB: ∀k,(nbS l (os.take k)).length<=1000000) :
  ∃rs',ax (gD a c lv (l,rs,(i:Int),0,acs,rws)) aV (l,rs,[],0)=some (.brk (nbS l os,rs',nbR l os,9))/\RepsOf n lv c rs' (nbS l os):=by
 obtain ⟨s',e,rs',rfl,hR'⟩:=oR (f:=gD a c lv (l,rs,(i:Int),0,acs,rws)) (fun k s=> ∃rs',s=(nbS l (os.take k),rs',nbR l (os.take k),(k:Int))/\RepsOf n lv c rs' (nbS l (os.take k))) 9 (by
  rintro k s hk ⟨r1,rfl,hR1⟩
  have hpre:=lV l (os.take k)
  have hlen:=hpre.length_le
  have hBk:=hB k
  have hrl:(nbR l (os.take k)).length<=9:=by rw[eR,ay];omega
  have hr1:=hR1.1
  obtain ⟨⟨g0,g1,g2⟩,gc⟩:=hR1.2 i (by omega)
  rw[ku hpre (by omega) (by omega)] at gc
  have hsu:=ho _ ⟨g0,g1,g2⟩ gc
  have hok:nth os (k:Int)=if mv a (nth r1 (i:Int)) k≥0/\nth lv (mv a (nth r1 (i:Int)) k)=true then some (nth c (mv a (nth r1 (i:Int)) k)) else none:=by
   rw[<-hsu];exact LP hk
  have hmv:=V.mv (s:=nth r1 (i:Int)) (k:=k) g0 g1 hk
  unfold gD
  simp only
  rw[if_pos (by simp;omega),aI (xs:=r1) (by omega) (by omega)];simp only[aa]
  rw[V.get g0 g1];simp only[aa]
  rw[V.get2 g0 g1 hk,take_one (by omega),xm,uk]
  simp only[aa,af (show k<9223372036854775807 by omega)]
  by_cases c1:mv a (nth r1 (i:Int)) k≥0
  ·rw[if_pos (by simpa using c1),aI (xs:=lv) c1 (by omega)];simp only[aa]
   by_cases c2:nth lv (mv a (nth r1 (i:Int)) k)=true
   ·rw[if_pos ⟨c1,c2⟩] at hok
    rw[if_pos c2,aI (xs:=c) c1 (by omega),hok];simp only[aa]
    rw[Vm (by omega)];simp only[aa]
    by_cases c3:nth c (mv a (nth r1 (i:Int)) k)∈nbS l (os.take k)
    ·rw[if_pos c3,if_neg (by simp)];simp only[aa]
     rw[aK (by simp;omega)]
     exact ⟨_,rfl,r1,by rw[np c3];rfl,by rw[np c3];exact hR1⟩
    ·rw[if_neg c3,if_pos (by decide)]
     rw[aK (by simp;omega)];simp only[aa]
     rw[aK (by simp;omega)];simp only[aa]
     rw[aK (by simp;omega)];simp only[aa]
     refine ⟨_,rfl,r1++ [mv a (nth r1 (i:Int)) k],?_,?_⟩
     ·rw[lW c3];simp only[nbI,qz c3]
     ·rw[lW c3];exact hR1.snoc ⟨c1,hmv.2,c2⟩
   ·rw[if_neg (fun h=>c2 h.2)] at hok
    rw[if_neg c2,hok];simp only[aa]
    rw[aK (by simp;omega)]
    exact ⟨_,rfl,r1,rfl,hR1⟩
  ·rw[if_neg (fun h=>c1 h.1)] at hok
   rw[if_neg (by simpa using c1),hok];simp only[aa]
   rw[aK (by simp;omega)]
   exact ⟨_,rfl,r1,rfl,hR1⟩) (by
  rintro s ⟨r1,rfl,hR1⟩
  unfold gD
  simp) (s:=(l,rs,[],0)) ⟨rs,rfl,hR⟩ (by unfold aV;omega)
 rw[List.take_of_length_le (by omega)] at e hR'
 exact ⟨rs',e,hR'⟩
theorem Ze (V:VA a n) (hn:n<=1000000) (hc:c.length=n) (hlv:lv.length=n) (hs:nth lv a.1=true) (H:NumOk nx (nth c a.1) G B) (hB:B<=1000000)
  (hnx: ∀r,good n lv r->nx (nth c r)=yK a c lv r) (hacc: ∀r,good n lv r->acc (nth c r)=nth a.2.1 r) :
  ∃N,bfE nx (nth c a.1) N/\iQ a c lv=some (0,(bfS nx (nth c a.1) N).map acc,bfR nx (nth c a.1) N):=by
 obtain ⟨N,hNB,hN⟩:=U0 (nx:=nx) (first:=nth c a.1) (H.le)
 refine ⟨N,hN,?_⟩
 have hst:=V.start
 have hlen:=V.len
 unfold iQ
 rw[aI hst.1 (by omega)];simp only[aa]
 rw[if_pos hs,aI hst.1 (by omega)];simp only[aa]
 obtain ⟨s',e,rs,rfl,hR⟩:=oR (f:=jC a c lv) (fun i s=> ∃rs,s=(bfS nx (nth c a.1) i,rs,(i:Int),0,((bfS nx (nth c a.1) i).take i).map acc,bfR nx (nth c a.1) i)/\RepsOf n lv c rs (bfS nx (nth c a.1) i)) N (by
  rintro i s hi ⟨rs,rfl,hR⟩
  have hlt:=hN.2 i hi
  have hG:=H.at hlt
  have hle:=H.le i
  have hle':=H.le (i+1)
  obtain ⟨rs',e,hR'⟩:=Q0 (acs:=((bfS nx (nth c a.1) i).take i).map acc) (rws:=bfR nx (nth c a.1) i) V hn hc hlv hlt hR (os:=nx (nth (bfS nx (nth c a.1) i) (i:Int))) (H.len _ hG) (fun r hr e=>by rw[<-hnx r hr,e]) (fun k=>by
    have:(nbS (bfS nx (nth c a.1) i) ((nx (nth (bfS nx (nth c a.1) i) (i:Int))).take k)).length<=B:=H.bound _ (tH (oT i)) fun x hx=>by
     rcases yB.1 hx with hx | hx
     ·exact lz H.g0 H.gn i x hx
     ·exact H.gn _ hG x (List.mem_of_mem_take hx)
    omega)
  unfold jC
  simp only
  rw[if_pos (by simp;omega),au e]
  rw[<-lB hlt] at hR'
  have hl2:=(bR (nx:=nx) (first:=nth c a.1) i).length_le
  have hr1:=hR'.1
  obtain ⟨⟨g0,g1,g2⟩,gc⟩:=hR'.2 i (by omega)
  rw[ku (bR i) (by omega) (by omega)] at gc
  rw[aI (xs:=rs') (by omega) (by omega)];simp only[aa]
  rw[V.acc g0 g1,<-hacc _ ⟨g0,g1,g2⟩,gc];simp only[aa]
  have hr:(bfR nx (nth c a.1) i).length=i:=kp fun j hj=>hN.2 j (by omega)
  rw[aK (by simp;omega)];simp only[aa]
  rw[aK (by simp;omega)];simp only[aa,af (show i<9223372036854775807 by omega)]
  exact ⟨_,rfl,rs',by rw[<-lB hlt,Av hlt,xz hlt],hR'⟩) (by
  rintro s ⟨rs,rfl,hR⟩
  unfold jC
  simp only
  rw[if_neg (by have:=hN.1;simp;omega)]) (s:=([nth c a.1],[a.1],0,0,[],[])) ⟨[a.1],rfl,rfl,fun j hj=>by
   obtain rfl:j=0:=by simpa [bfS] using hj
   exact ⟨⟨hst.1,hst.2,hs⟩,rfl⟩⟩ (vi (by omega))
 rw[au e]
 simp only
 rw[List.take_of_length_le (by have:=hN.1;omega)]
theorem Kj (V:VA a n) (hlv:lv.length=n) (hs:nth lv a.1=false):iQ a c lv=some nothing:=by
 have hst:=V.start
 unfold iQ
 rw[aI hst.1 (by omega)];simp only[aa]
 rw[hs,QX];rfl
end
end D
namespace D
open Go.RowKit
abbrev ID:=(List Int)×Int×Int×(List Int)×Bool
abbrev T0 (x:Int) (j:Nat):Bool:=(Az (uC x (j:Int)) 1)==1
def T1 (F:List Int) (set m0:Int):Nat->Int
 | 0=>m0
 | i+1=>if T0 set (i+1) then orI (T1 F set m0 i) (nth F (i:Int)) else T1 F set m0 i
def pick (L:List Int) (m letter:Int):Nat->Int
 | 0=>0
 | i+1=>if nth L (i:Int)=letter/\T0 m i=true then orI (pick L m letter i) (Kx 1 ((i+1:Nat):Int)) else pick L m letter i
def aft (p:ID) (set letter:Int):Int:=pick p.1 (T1 p.2.2.2.1 set (if (Az set 1)==1 then p.2.1 else 0) p.2.2.2.1.length) letter p.1.length
def xA (p:ID) (set:Int):Bool:=if (Az set 1)==1 then (if p.2.2.2.2 then true else (Az (uC set 1) p.2.2.1) !=0) else (Az (uC set 1) p.2.2.1) !=0
theorem tL (i:Nat):chk (0<=(i:Int))=some ():=by unfold chk;rw[if_pos (by omega)]
theorem XD {p:ID} {set letter:Int} (hl:p.2.2.2.1.length=p.1.length) (hb:p.1.length<=1000000):pd p set letter=some (aft p set letter):=by
 have h0: ∀m0,ax (ij p set) aV (m0,0)=some (.brk (T1 p.2.2.2.1 set m0 p.1.length,(p.1.length:Int))):=fun m0 =>
  bm (f:=ij p set) (fun i=>(T1 p.2.2.2.1 set m0 i,(i:Int))) p.1.length (fun i hi=>by
   unfold ij
   simp only
   rw[if_pos (by simp;omega),af (by omega),tL];simp only[aa]
   rw[T1]
   by_cases c:T0 set (i+1)=true
   ·rw[if_pos c,if_pos c,aI (by omega) (by omega)];rfl
   ·rw[if_neg c,if_neg c];rfl) (by unfold ij;simp) (vi (by omega))
 have h1: ∀s7:Int×Int,ax (il p letter s7) aV (0,0)=some (.brk (pick p.1 s7.1 letter p.1.length,(p.1.length:Int))):=fun s7 =>
  bm (f:=il p letter s7) (fun i=>(pick p.1 s7.1 letter i,(i:Int))) p.1.length (fun i hi=>by
   unfold il
   simp only
   rw[if_pos (by simp;omega),af (by omega),tL,tL];simp only[aa]
   rw[pick]
   by_cases c:T0 s7.1 i=true
   ·rw[if_pos c,aI (by omega) (by omega)];simp only[aa]
    by_cases d:nth p.1 (i:Int)=letter
    ·rw[if_pos (by simpa using d),if_pos ⟨d,c⟩];rfl
    ·rw[if_neg (by simpa using d),if_neg (fun h=>d h.1)];rfl
   ·rw[if_neg c,if_neg (fun h=>c h.2)];rfl) (by unfold il;simp) (vi (by omega))
 unfold pd aft
 rw[hl]
 by_cases c:((Az set 1)==1)=true
 ·rw[if_pos c,if_pos c];simp only[aa]
  rw[au (h0 _),au (h1 _)]
 ·rw[if_neg c,if_neg c];simp only[aa]
  rw[au (h0 _),au (h1 _)]
theorem XE {p:ID} {set letter:Int} (hl:p.2.2.2.1.length=p.1.length) (hb:p.1.length<=1000000):gk p set letter=some (aft p set letter):=by
 have h0: ∀m0,ax (da p set) aV (m0,0)=some (.brk (T1 p.2.2.2.1 set m0 p.2.2.2.1.length,(p.2.2.2.1.length:Int))):=fun m0 =>
  bm (f:=da p set) (fun i=>(T1 p.2.2.2.1 set m0 i,(i:Int))) p.2.2.2.1.length (fun i hi=>by
   unfold da
   simp only
   rw[if_pos (by simp;omega),aI (by omega) (by omega)];simp only[aa]
   rw[af (by omega),tL];simp only[aa]
   rw[T1]
   by_cases c:T0 set (i+1)=true
   ·rw[if_pos c,if_pos c];rfl
   ·rw[if_neg c,if_neg c];rfl) (by unfold da;simp) (vi (by omega))
 have h1: ∀s7:Int×Int,ax (db p letter s7) aV (0,0)=some (.brk (pick p.1 s7.1 letter p.1.length,(p.1.length:Int))):=fun s7 =>
  bm (f:=db p letter s7) (fun i=>(pick p.1 s7.1 letter i,(i:Int))) p.1.length (fun i hi=>by
   unfold db
   simp only
   rw[if_pos (by simp;omega),aI (by omega) (by omega)];simp only[aa]
   rw[af (by omega),tL,tL];simp only[aa]
   rw[pick]
   by_cases d:nth p.1 (i:Int)=letter
   ·rw[if_pos (by simpa using d)]
    by_cases c:T0 s7.1 i=true
    ·rw[if_pos c,if_pos ⟨d,c⟩];rfl
    ·rw[if_neg c,if_neg (fun h=>c h.2)];rfl
   ·rw[if_neg (by simpa using d),if_neg (fun h=>d h.1)];rfl) (by unfold db;simp) (vi (by omega))
 unfold gk aft
 by_cases c:((Az set 1)==1)=true
 ·rw[if_pos c,if_pos c];simp only[aa]
  rw[au (h0 _),au (h1 _)]
 ·rw[if_neg c,if_neg c];simp only[aa]
  rw[au (h0 _),au (h1 _)]
theorem Zf (p:ID) (x:Int):l9 p x=some (xA p x):=by
 unfold l9 xA
 split <;> (try split) <;> rfl
theorem Zg (p:ID) (x:Int):du p x=some (xA p x):=by
 unfold du xA
 split <;> (try split) <;> rfl
theorem Nl (x:Int): -9223372036854775808<=IntKind.i64.wrap x/\IntKind.i64.wrap x<=9223372036854775807:=by
 simp only[IntKind.wrap,IntKind.bits,IntKind.signed,Bool.true_and]
 split <;> rename_i h <;> simp at h <;> omega
theorem XF (x:Int):iOk (IntKind.i64.wrap x)=true:=by
 have h1:IntKind.i64.min= -9223372036854775808:=by decide
 have h2:IntKind.i64.max=9223372036854775807:=by decide
 have h3:=Nl x
 simp only[iOk,Lit.wf,h1,h2,aj,decide_eq_true_eq]
 omega
theorem Zh (m n:Int):iOk (orI m n)=true:=XF _
theorem Q1 (L:List Int) (m letter:Int): ∀i,iOk (pick L m letter i)=true
 | 0=>by unfold pick;decide
 | i+1=>by
  rw[pick]
  split
  ·exact Zh _ _
  ·exact Q1 L m letter i
def nxS (p:ID) (x:Int):List (Option Int):=(List.range 9).map fun k:Nat=>if aft p x (k:Int)=0 then none else some (aft p x (k:Int))
theorem Vn {p:ID} {x:Int} {k:Nat} (hk:k<9):nth (nxS p x) (k:Int)=if aft p x k=0 then none else some (aft p x k):=by
 have:k<(nxS p x).length:=by simp[nxS];omega
 rw[bW this];simp[nxS]
theorem Gj (p:ID) (x:Int):(nxS p x).length=9:=by simp[nxS]
theorem Zi {p:ID} {x y:Int} (h:some y∈nxS p x):iOk y=true:=by
 obtain ⟨k,hk,e⟩:=List.mem_map.1 h
 split at e
 ·cases e
 ·obtain rfl:=ae e
  exact Q1 _ _ _ _
theorem Q2 {κ:Type} [DecidableEq κ] : ∀(l:List κ) (os:List (Option κ)),(nbS l os).length<=l.length+os.length
 | l,[] =>by simp[nbS]
 | l,o::os=>by
  have h:=Q2 (nbL l o) os
  have h2:(nbL l o).length<=l.length+1:=by
   cases o with
   | none=>simp[nbL]
   | some x=>unfold nbL;simp only;split <;> simp
  show (nbS (nbL l o) os).length<=_
  simp only[ak];omega
section
variable {κ:Type} [DecidableEq κ] (nx:κ->List (Option κ)) (first:κ) (acc:κ->Bool) (most:Nat)
def goM:Nat->Nat->AutT×Bool
 | 0,i=>((0,[],[]),false)
 | f+1,i=>if i<(bfS nx first i).length then (if (bfS nx first (i+1)).length>most then ((0,[],[]),false) else goM f (i+1)) else ((0,((bfS nx first i).take i).map acc,bfR nx first i),true)
end
section
variable {κ:Type} [DecidableEq κ] {nx:κ->List (Option κ)} {first:κ} {acc:κ->Bool} {most:Nat}
theorem Gk {i:Nat} (h: ∀j,j<i->j<(bfS nx first j).length):i<=(bfS nx first i).length:=by
 cases i with
 | zero=>omega
 | succ i =>
  have h1:=h i (by omega)
  have h2:=(bR (nx:=nx) (first:=first) i).length_le
  omega
theorem LQ {S:Type} {f:S->Option (Out (AutT×Bool) S)} (hm:most<=1000000) (h1:1<=most) (st:Nat->S->Prop)
  (hs: ∀i s,st i s->(∀j,j<i->j<(bfS nx first j).length)->(bfS nx first i).length<=most->i<(bfS nx first i).length->((bfS nx first (i+1)).length>most->f s=some (.ret ((0,[],[]),false)))/\((bfS nx first (i+1)).length<=most-> ∃s',f s=some (.nxt s')/\st (i+1) s'))
  (he: ∀i s,st i s-> ¬i<(bfS nx first i).length->f s=some (.brk s)) {s:S} (h0:st 0 s) :
  (ax f aV s=some (.ret ((0,[],[]),false))/\goM nx first acc most (most+2) 0=((0,[],[]),false)) \/
  ∃N s',ax f aV s=some (.brk s')/\st N s'/\bfE nx first N/\N<=most/\goM nx first acc most (most+2) 0=((0,(bfS nx first N).map acc,bfR nx first N),true):=by
 obtain ⟨o,e,hq⟩:=cM (f:=f) (fun i s=>st i s/\(∀j,j<i->j<(bfS nx first j).length)/\(bfS nx first i).length<=most/\goM nx first acc most (most+2) 0=goM nx first acc most (most+2 - i) i)
  (fun o=>(o= .ret ((0,[],[]),false)/\goM nx first acc most (most+2) 0=((0,[],[]),false))\/ ∃N s',o= .brk s'/\st N s'/\bfE nx first N/\N<=most/\goM nx first acc most (most+2) 0=((0,(bfS nx first N).map acc,bfR nx first N),true)) most (s:=s) (by
  rintro i s hi ⟨k1,k2,k3,k4⟩
  have hle:=Gk k2
  rw[show most+2 - i=(most+1 - i)+1 from by omega] at k4
  have k5:goM nx first acc most (most+1 - i+1) i=if i<(bfS nx first i).length then (if (bfS nx first (i+1)).length>most then ((0,[],[]),false) else goM nx first acc most (most+1 - i) (i+1)) else ((0,((bfS nx first i).take i).map acc,bfR nx first i),true):=rfl
  rw[k5] at k4
  by_cases c:i<(bfS nx first i).length
  ·rw[if_pos c] at k4
   obtain ⟨q1,q2⟩:=hs i s k1 k2 k3 c
   by_cases d:(bfS nx first (i+1)).length>most
   ·rw[if_pos d] at k4
    exact .inr ⟨_,q1 d,(fun s' e=>by cases e),.inl ⟨rfl,k4⟩⟩
   ·rw[if_neg d] at k4
    obtain ⟨s',e,hs'⟩:=q2 (by omega)
    exact .inl ⟨by omega,s',e,hs',fun j hj=>(by
     by_cases ej:j=i
     ·subst ej;exact c
     ·exact k2 j (by omega)),by omega,by rw[k4];congr 1;omega⟩
  ·rw[if_neg c] at k4
   refine .inr ⟨_,he i s k1 c,(fun s' e=>by cases e),.inr ⟨i,s,rfl,k1,⟨by omega,k2⟩,hi,?_⟩⟩
   rw[k4,List.take_of_length_le (by omega)]) ⟨h0,fun j hj=>by omega,by simp[bfS];omega,rfl⟩ (vi (by omega))
 rcases hq with ⟨rfl,h⟩ | ⟨N,s',rfl,h⟩
 ·exact .inl ⟨e,h⟩
 ·exact .inr ⟨N,s',e,h⟩
end
section
variable {p:ID} {most:Nat} (hl:p.2.2.2.1.length=p.1.length) (hb:p.1.length<=1000000) (hm:most<=900000) (h1:1<=most)
include hl hb hm h1
theorem aaC:iz p most=some (goM (nxS p) 1 (xA p) most (most+2) 0):=by
 have hp3: ∀(l:List Int) (i k:Nat),k<9-> ∃j,(fun a0 a1=>dh a0 a1 (p.1,p.2.1,p.2.2.1,p.2.2.2.1,p.2.2.2.2)) (nth l (i:Int)) (k:Int)=some (match nth (nxS p (nth l (i:Int))) (k:Int) with | some y=>(y,true) | none=>(j,false)):=by
  intro l i k hk
  refine ⟨0,?_⟩
  show dh _ _ p=_
  unfold dh
  simp only[di]
  rw[XE hl hb,Vn hk];simp only[aa]
  by_cases c:aft p (nth l (i:Int)) k=0
  ·rw[if_pos c];simp[c]
  ·rw[if_neg c];simp[c]
 unfold iz eO
 rw[show NU ([] :List (Int×Int)) iOk iOk 1 0=some [(1,0)] from by unfold NU;rw[if_pos ⟨by simp,by decide,by decide⟩]];simp only[aa]
 rcases LQ (nx:=nxS p) (first:=1) (acc:=xA p) (most:=most) (f:=bZ most (fun a0=>du (p.1,p.2.1,p.2.2.1,p.2.2.2.1,p.2.2.2.2) a0) (fun a0 a1=>dh a0 a1 (p.1,p.2.1,p.2.2.1,p.2.2.2.1,p.2.2.2.2)))
  (by omega) h1 (fun i s=> ∃M,s=(bfS (nxS p) 1 i,M,(i:Int),0,((bfS (nxS p) 1 i).take i).map (xA p),bfR (nxS p) 1 i)/\MapOf M (bfS (nxS p) 1 i)) (by
   rintro i s ⟨M,rfl,hM⟩ hj hle hlt
   have hil:=Gk hj
   obtain ⟨M',e,hM'⟩:=Iw (p3:=fun a0 a1=>dh a0 a1 (p.1,p.2.1,p.2.2.1,p.2.2.2.1,p.2.2.2.2)) (l:=bfS (nxS p) 1 i) (M:=M) (os:=nxS p (nth (bfS (nxS p) 1 i) (i:Int))) (acs:=((bfS (nxS p) 1 i).take i).map (xA p)) (rws:=bfR (nxS p) 1 i) hlt (Gj _ _) hM (fun y hy=>Zi hy)
    (fun k=>by
     have:=Q2 (bfS (nxS p) 1 i) ((nxS p (nth (bfS (nxS p) 1 i) (i:Int))).take k)
     have h9:=Gj p (nth (bfS (nxS p) 1 i) (i:Int))
     rw[ay] at this
     omega) (fun k hk=>hp3 _ i k hk)
   rw[<-lB hlt] at hM'
   have hl2:=(bR (nx:=nxS p) (first:=1) i).length_le
   constructor
   ·intro hgt
    unfold bZ
    simp only
    rw[if_pos (by simp;omega),au e,<-lB hlt]
    simp only
    rw[if_pos (by simp;omega)]
   ·intro hle2
    unfold bZ
    simp only
    rw[if_pos (by simp;omega),au e,<-lB hlt]
    simp only
    rw[if_neg (by simp;omega),aI (by omega) (by omega)];simp only[aa]
    rw[ku (bR i) (by omega) (by omega)]
    simp only[di]
    rw[Zg];simp only[aa]
    have hr:(bfR (nxS p) 1 i).length=i:=kp hj
    rw[aK (by simp;omega)];simp only[aa]
    rw[aK (by simp;omega)];simp only[aa,af (show i<9223372036854775807 by omega)]
    exact ⟨_,rfl,M',by rw[Av hlt,xz hlt],hM'⟩) (by
   rintro i s ⟨M,rfl,hM⟩ hn
   unfold bZ
   simp only
   rw[if_neg (by simp;omega)]) (s:=([1],[(1,0)],0,0,[],[])) ⟨_,rfl,MapOf.one 1⟩ with ⟨e,hg⟩ | ⟨N,s',e,⟨M,rfl,hM⟩,hN,hNm,hg⟩
 ·rw[cq e,hg];rfl
 ·rw[au e,hg];simp only[aa]
  rw[List.take_of_length_le (by have:=hN.1;omega)]
theorem T2 {l:List Int} {acs:List Bool} {rws:List (List Int)} {i:Nat} (hi:i<l.length) (hle:l.length<=most) :
  ax (fH p (l,(i:Int),0,acs,rws)) aV (l,[],0)=some (.brk (nbS l (nxS p (nth l (i:Int))),nbR l (nxS p (nth l (i:Int))),9)):=by
 have h9:=Gj p (nth l (i:Int))
 have:=bm (f:=fH p (l,(i:Int),0,acs,rws)) (fun k=>(nbS l ((nxS p (nth l (i:Int))).take k),nbR l ((nxS p (nth l (i:Int))).take k),(k:Int))) 9 (fun k hk=>by
  have hpre:=lV l ((nxS p (nth l (i:Int))).take k)
  have hlen:=hpre.length_le
  have hB:=Q2 l ((nxS p (nth l (i:Int))).take k)
  rw[ay] at hB
  have hrl:(nbR l ((nxS p (nth l (i:Int))).take k)).length<=9:=by rw[eR,ay];omega
  unfold fH
  simp only[di]
  rw[if_pos (by simp;omega),aI (by omega) (by omega)];simp only[aa]
  rw[ku hpre (by omega) (by omega),XD hl hb];simp only[aa]
  rw[take_one (by omega),xm,uk,Vn hk]
  simp only[af (show k<9223372036854775807 by omega)]
  by_cases c:aft p (nth l (i:Int)) k=0
  ·rw[if_pos c,if_neg (by simp[c])];simp only[aa]
   rw[aK (by simp;omega)];rfl
  ·rw[if_neg c,if_pos (by simpa using c),Vm (by omega)];simp only[aa]
   by_cases d:aft p (nth l (i:Int)) k∈nbS l ((nxS p (nth l (i:Int))).take k)
   ·rw[if_pos d,if_neg (by simp),np d];simp only[aa]
    rw[aK (by simp;omega)];rfl
   ·rw[if_neg d,if_pos (by decide),aK (by simp;omega),lW d];simp only[aa]
    rw[aK (by simp;omega)];simp only[nbI,qz d,aa]) (by
  unfold fH
  simp) (by unfold aV;omega)
 have e9:(nxS p (nth l (i:Int))).take 9=nxS p (nth l (i:Int)):=List.take_of_length_le (by omega)
 rw[e9] at this
 exact this
theorem aaD:jq p most=some (goM (nxS p) 1 (xA p) most (most+2) 0):=by
 unfold jq
 rcases LQ (nx:=nxS p) (first:=1) (acc:=xA p) (most:=most) (f:=fI p most)
  (by omega) h1 (fun i s=>s=(bfS (nxS p) 1 i,(i:Int),0,((bfS (nxS p) 1 i).take i).map (xA p),bfR (nxS p) 1 i)) (by
   rintro i s rfl hj hle hlt
   have hil:=Gk hj
   have e:=T2 hl hb hm h1 (acs:=((bfS (nxS p) 1 i).take i).map (xA p)) (rws:=bfR (nxS p) 1 i) hlt hle
   have hl2:=(bR (nx:=nxS p) (first:=1) i).length_le
   constructor
   ·intro hgt
    unfold fI
    simp only
    rw[if_pos (by simp;omega),au e,<-lB hlt]
    simp only
    rw[if_pos (by simp;omega)]
   ·intro hle2
    unfold fI
    simp only
    rw[if_pos (by simp;omega),au e,<-lB hlt]
    simp only
    rw[if_neg (by simp;omega),aI (by omega) (by omega)];simp only[aa]
    rw[ku (bR i) (by omega) (by omega)]
    simp only[di]
    rw[Zf];simp only[aa]
    have hr:(bfR (nxS p) 1 i).length=i:=kp hj
    rw[aK (by simp;omega)];simp only[aa]
    rw[aK (by simp;omega)];simp only[aa,af (show i<9223372036854775807 by omega)]
    exact ⟨_,rfl,by rw[Av hlt,xz hlt]⟩) (by
   rintro i s rfl hn
   unfold fI
   simp only
   rw[if_neg (by simp;omega)]) (s:=([1],0,0,[],[])) rfl with ⟨e,hg⟩ | ⟨N,s',e,rfl,hN,hNm,hg⟩
 ·rw[cq e,hg]
 ·rw[au e,hg];simp only
  rw[List.take_of_length_le (by have:=hN.1;omega)]
end
end D
namespace D
open Go.RowKit
theorem T3 (m n:Int):orI m n=orI n m:=by unfold orI;rw[BitVec.or_comm]
def lk (F:List Int) (from_ to_:Int):Nat->List Int
 | 0=>F
 | i+1=>if T0 from_ i then (lk F from_ to_ i).set i (orI (nth (lk F from_ to_ i) (i:Int)) to_) else lk F from_ to_ i
theorem Cs (F:List Int) (f t:Int): ∀i,(lk F f t i).length=F.length
 | 0=>rfl
 | i+1=>by
  rw[lk]
  split
  ·rw[List.length_set,Cs]
  ·exact Cs F f t i
theorem Vo {p:ID} {f t:Int} (hl:p.2.2.2.1.length<=1000000):oq p f t=some (p.1,p.2.1,p.2.2.1,lk p.2.2.2.1 f t p.2.2.2.1.length,p.2.2.2.2):=by
 have hL:ax (jo f t) aV (0,p.2.2.2.1)=some (.brk ((p.2.2.2.1.length:Int),lk p.2.2.2.1 f t p.2.2.2.1.length)):=bm (f:=jo f t) (fun i=>((i:Int),lk p.2.2.2.1 f t i)) p.2.2.2.1.length (fun i hi=>by
  have hk:=Cs p.2.2.2.1 f t i
  unfold jo
  simp only
  rw[if_pos (by simp;omega),tL];simp only[aa]
  rw[lk,af (by omega)]
  by_cases c:T0 f i=true
  ·rw[if_pos c,if_pos c,aI (by omega) (by omega)];simp only[aa,Int.toNat_natCast]
  ·rw[if_neg c,if_neg c];rfl) (by unfold jo;simp[Cs]) (vi (by omega))
 unfold oq
 rw[au hL]
theorem LR {p:ID} {f t:Int} (hl:p.2.2.2.1.length<=1000000):dG p f t=some (p.1,p.2.1,p.2.2.1,lk p.2.2.2.1 f t p.2.2.2.1.length,p.2.2.2.2):=by
 have hL:ax (cU p f t) aV (0,p.2.2.2.1)=some (.brk ((p.2.2.2.1.length:Int),lk p.2.2.2.1 f t p.2.2.2.1.length)):=bm (f:=cU p f t) (fun i=>((i:Int),lk p.2.2.2.1 f t i)) p.2.2.2.1.length (fun i hi=>by
  have hk:=Cs p.2.2.2.1 f t i
  unfold cU
  simp only
  rw[if_pos (by simp;omega),tL];simp only[aa]
  rw[lk,af (by omega)]
  by_cases c:T0 f i=true
  ·rw[if_pos c,if_pos c,aI (by omega) (by omega)];simp only[aa,Int.toNat_natCast]
  ·rw[if_neg c,if_neg c];rfl) (by unfold cU;simp) (vi (by omega))
 unfold dG
 rw[au hL]
def BOk (x:Tr Tok):Prop:= ∀(n m:Nat) (p:ID),(flat x).length<=n->(flat x).length<=m->p.2.2.2.1.length=p.1.length->p.1.length+(flat x).length<=100000->
 ∃(nu:Bool) (fi la:Int) (q:ID),dm n p (flat x)=some ((nu,fi,la),q)/\bE m p x=some ((fi,la,nu),q)/\q.2.2.2.1.length=q.1.length/\q.1.length<=p.1.length+(flat x).length
theorem T4 {x:Tr Tok} (h:WT x):BOk x:=by
 refine WT.ind (p:=BOk) ?_ ?_ ?_ h
 ·intro t e n m p hn hm hF hl
  rw[DA] at hn hm hl⊢
  simp only[ak,aF] at hl
  match n,m,hn,hm with
  | n+1,m+1,_,_ =>
   rw[dm,bE];simp only[qB,aa]
   have:=(nV (A:=[]) (t:=t) (by simp)).1
   rw[List.nil_append] at this
   rw[this];simp only[aa,di]
   rcases oV (show 0<=ar t by omega) with ⟨k,_⟩ | ⟨k,_⟩ | ⟨_,k⟩
   ·omega
   ·omega
   rcases k with k | k | k
   ·exact ⟨false,0,0,p,by simp[k],by simp[k],hF,by simp⟩
   ·exact ⟨true,0,0,p,by simp[k],by simp[k],hF,by simp⟩
   ·refine ⟨false,Kx 1 (p.1.length:Int),Kx 1 (p.1.length:Int),(p.1++ [t.2.1],p.2.1,p.2.2.1,p.2.2.2.1++ [0],p.2.2.2.2),?_,?_,by simp[hF],by simp⟩
    ·rw[if_neg (by simp[k]),if_pos (by simp[k]),aK (by simp;omega)];simp only[aa]
     rw[aK (by simp;omega)];rfl
    ·rw[if_neg (by simp[k]),if_pos (by simp[k]),aK (by simp;omega)];simp only[aa]
     rw[aK (by simp;omega)];rfl
 ·intro t a e wa ih n m p hn hm hF hl
  rw[Gc] at hn hm hl⊢
  simp only[al,ak,aF] at hn hm hl
  match n,m,hn,hm with
  | n+1,m+1,hn,hm =>
   rw[dm,bE];simp only[qB,aa,di]
   obtain ⟨l1,l2⟩:=nV (A:=flat a) (t:=t) (by omega)
   rw[l1];simp only[aa]
   obtain ⟨nu,fi,la,q,hs,hi,hq1,hq2⟩:=ih n m p (by omega) (by omega) hF (by omega)
   rcases TV e with ⟨k1,k2⟩ | ⟨k1,k2,k3⟩
   ·have g2:(t.1==2)=false:=by simp[k2]
    have g3:(t.1==3)=false:=by simp[k2]
    have g4:(t.1==4)=false:=by simp[k2]
    have g5:(t.1==5)=false:=by simp[k2]
    simp only[g2,g3,g4,g5,k1,Bool.false_eq_true,if_false,if_true]
    rw[l2,Int.toNat_natCast,List.take_left,chk_of (by simp only[al,ak,aF];omega)];simp only[aa]
    rw[hs,show aQ [a] 0=some a from rfl];simp only[aa]
    rw[hi];simp only[aa,di]
    rw[Vo (by omega),LR (by omega)];simp only[aa]
    refine ⟨true,fi,la,_,rfl,rfl,?_,?_⟩
    ·simp only[Cs];exact hq1
    ·simp only[al,ak,aF];omega
   ·have g2:(t.1==2)=false:=by simp[k3]
    have g3:(t.1==3)=false:=by simp[k3]
    have g4:(t.1==4)=false:=by simp[k3]
    have g5:(t.1==5)=false:=by simp[k3]
    simp only[g2,g3,g4,g5,k1,Bool.false_eq_true,if_false]
    exact ⟨false,0,0,p,rfl,rfl,hF,by omega⟩
 ·intro t a b e wa wb iha ihb n m p hn hm hF hl
  rw[vZ] at hn hm hl⊢
  have hl2:((flat a++flat b)++ [t]).length<=1000000:=by omega
  obtain ⟨p1,p2,p3,p4⟩:=Cr (a:=a) (t:=t) wb hl2
  simp only[al,ak,aF] at hn hm hl
  match n,m,hn,hm with
  | n+1,m+1,hn,hm =>
   have hpa:=wa.pos
   have hpb:=wb.pos
   rw[dm,bE];simp only[qB,aa,di]
   obtain ⟨l1,l2⟩:=nV (A:=flat a++flat b) (t:=t) (by rw[al];omega)
   rw[l1];simp only[aa]
   obtain ⟨nu,fi,la,q,hs,hi,hq1,hq2⟩:=iha n m p (by omega) (by omega) hF (by omega)
   obtain ⟨nu2,fi2,la2,q2,hs2,hi2,hq3,hq4⟩:=ihb n m q (by omega) (by omega) hq1 (by omega)
   have c1: ∀r:Int,0<=r->r<=((flat a++flat b++ [t]).length:Int)->chk (0<=r/\r<=((flat a++flat b++ [t]).length:Int))=some ():=fun r h1 h2=>chk_of ⟨h1,h2⟩
   have g0:aQ [a,b] 0=some a:=rfl
   have g1:aQ [a,b] 1=some b:=rfl
   rcases oV (show 0<=ar t by omega) with ⟨_,k⟩ | ⟨k,_⟩ | ⟨k,_⟩
   ·rcases k with k | k
    ·have g2:(t.1==2)=false:=by simp[k]
     have g3:(t.1==3)=false:=by simp[k]
     have g4:(t.1==4)=true:=by simp[k]
     have g5:(t.1==5)=false:=by simp[k]
     simp only[g2,g3,g4,g5,Bool.false_eq_true,if_false,if_true]
     rw[l2,p1,p2,chk_of (by simp only[al,ak,aF];omega)];simp only[aa]
     rw[chk_of (by simp only[al,ak,aF];omega),p3,p4,hs,g0,g1];simp only[aa]
     rw[hi,chk_of (by simp only[al,ak,aF];omega)];simp only[aa,di]
     rw[hs2,hi2];simp only[aa,di]
     rw[Vo (by omega),LR (by omega)];simp only[aa]
     refine ⟨nu&&nu2,if nu then orI fi fi2 else fi,if nu2 then orI la la2 else la2,(q2.1,q2.2.1,q2.2.2.1,lk q2.2.2.2.1 la fi2 q2.2.2.2.1.length,q2.2.2.2.2),?_,?_,?_,?_⟩
     ·cases nu <;> cases nu2 <;> rfl
     ·rw[T3 la la2]
      cases nu <;> cases nu2 <;> rfl
     ·simp only[Cs];exact hq3
     ·simp only[al,ak,aF];omega
    ·have g2:(t.1==2)=false:=by simp[k]
     have g3:(t.1==3)=false:=by simp[k]
     have g4:(t.1==4)=false:=by simp[k]
     have g5:(t.1==5)=true:=by simp[k]
     simp only[g2,g3,g4,g5,Bool.false_eq_true,if_false,if_true]
     rw[l2,p1,p2,chk_of (by simp only[al,ak,aF];omega)];simp only[aa]
     rw[chk_of (by simp only[al,ak,aF];omega),p3,p4,hs,g0,g1];simp only[aa]
     rw[hi,chk_of (by simp only[al,ak,aF];omega)];simp only[aa,di]
     rw[hs2,hi2];simp only[aa,di]
     refine ⟨nu || nu2,orI fi fi2,orI la la2,q2,?_,?_,hq3,?_⟩
     ·cases nu <;> simp
     ·cases nu <;> simp
     ·simp only[al,ak,aF];omega
   ·omega
   ·omega
def Kk (e:List Tok):Nat->Nat
 | 0=>0
 | i+1=>if (nth e (i:Int)).1=3 then Kk e i+1 else Kk e i
theorem Kl (e:List Tok): ∀i,Kk e i<=i
 | 0=>aE _
 | i+1=>by
  have:=Kl e i
  rw[Kk];split <;> omega
theorem aaE {r:List Tok×Bool} (hl:r.1.length<=1000000):ax (dn r) aV (0,0)=some (.brk ((Kk r.1 r.1.length:Int),(r.1.length:Int))):=
 bm (f:=dn r) (fun i=>((Kk r.1 i:Int),(i:Int))) r.1.length (fun i hi=>by
  have:=Kl r.1 i
  unfold dn
  simp only
  rw[if_pos (by simp;omega),aI (by omega) (by omega)];simp only[aa]
  rw[Kk,af (show i<9223372036854775807 by omega),af (show Kk r.1 i<9223372036854775807 by omega)]
  by_cases c:(nth r.1 (i:Int)).1=3
  ·rw[if_pos (by simpa using c),if_pos c];rfl
  ·rw[if_neg (by simpa using c),if_neg c];rfl) (by unfold dn;simp) (vi (by omega))
theorem aaF {r:List Tok×Bool} (hl:r.1.length<=1000000):ax (dt r) aV (0,0)=some (.brk ((Kk r.1 r.1.length:Int),(r.1.length:Int))):=
 bm (f:=dt r) (fun i=>((Kk r.1 i:Int),(i:Int))) r.1.length (fun i hi=>by
  have:=Kl r.1 i
  unfold dt
  simp only
  rw[if_pos (by simp;omega),aI (by omega) (by omega)];simp only[aa]
  rw[Kk,af (show i<9223372036854775807 by omega),af (show Kk r.1 i<9223372036854775807 by omega)]
  by_cases c:(nth r.1 (i:Int)).1=3
  ·rw[if_pos (by simpa using c),if_pos c];rfl
  ·rw[if_neg (by simpa using c),if_neg c];rfl) (by unfold dt;simp) (vi (by omega))
theorem v8 {e:List Tok} (he:e.length<=1048576): ∃r:ID×Bool,gR e=some r/\gS e=some r/\r.1.2.2.2.1.length=r.1.1.length/\r.1.1.length<=100000:=by
 have hF:=xy
 obtain ⟨e1,e2⟩:=Kh he
 unfold gR gS
 rw[e1,e2];simp only[aa]
 by_cases c:(Nk e).2=true
 ·obtain ⟨y,wy,ey,ly⟩:=XA c
  rw[if_pos c,if_pos c,au (aaE (by rw[ey];omega)),au (aaF (by rw[ey];omega))]
  simp only
  by_cases d:(Kk (Nk e).1 (Nk e).1.length:Int)>20
  ·have d':decide ((Kk (Nk e).1 (Nk e).1.length:Int)>20)=true:=decide_eq_true d
   simp only[d',if_true]
   exact ⟨_,rfl,rfl,rfl,by simp⟩
  ·have d':decide ((Kk (Nk e).1 (Nk e).1.length:Int)>20)=false:=decide_eq_false d
   simp only[d',Bool.false_eq_true,if_false]
   rw[ey,Gf (by omega),yH wy];simp only[aa]
   obtain ⟨nu,fi,la,q,hs,hi,hq1,hq2⟩:=T4 wy gB gB ([],0,0,[],false) (by omega) (by omega) rfl (by simp;omega)
   rw[hs,hi];simp only[aa]
   exact ⟨_,rfl,rfl,hq1,by simp at hq2;show q.1.length<=_;omega⟩
 ·rw[if_neg c,if_neg c]
  exact ⟨_,rfl,rfl,rfl,by simp⟩
end D
namespace D
open Go.RowKit
theorem Nm (n:Nat) (l:List Int) (hd:l.Nodup) (h: ∀x∈l,0<=x/\x<n):l.length<=n:=by
 have:=hd.length_le_of_subset (l₂:=(List.range n).map Int.ofNat) (fun x hx=>by
  obtain ⟨h0,h1⟩:=h x hx
  exact List.mem_map.2 ⟨x.toNat,List.mem_range.2 (by omega),by show ((x.toNat:Nat):Int)=x;omega⟩)
 simpa using this
theorem Zj {n:Nat} {x:Int} (hn:n<=1000000) (h0:0<=x) (h1:x<n):iOk x=true:=by
 have:=QZ (n:=x.toNat) (by omega)
 rwa [show ((x.toNat:Nat):Int)=x from by omega] at this
theorem Zk {κ:Type} [DecidableEq κ] {nx:κ->List (Option κ)} {first:κ} {G:κ->Prop} {B N:Nat} {acc:κ->Bool} (H:NumOk nx first G B) (hB:B<=1000000) (hN:bfE nx first N):Data.sm ((0,(bfS nx first N).map acc,bfR nx first N):AutT):=by
 have hl:=H.bound _ (oT (nx:=nx) (first:=first) N) (lz H.g0 H.gn N)
 refine ⟨trivial,⟨by rw[List.length_map];omega,fun _ _=>trivial⟩,?_,?_⟩
 ·rw[kp hN.2];have:=hN.1;omega
 ·have key: ∀i,i<=N-> ∀r∈bfR nx first i,r.length=9:=by
   intro i
   induction i with
   | zero=>intro _ r hr;cases hr
   | succ i ih =>
    intro hi r hr
    have hlt:=hN.2 i (by omega)
    rw[xn hlt] at hr
    rcases aJ hr with hr | hr
    ·exact ih (by omega) r hr
    ·obtain rfl:=az hr
     rw[eR,H.len _ (lz H.g0 H.gn i _ (List.getElem_mem hlt))]
  intro r hr
  exact ⟨by rw[key N (aE _) r hr];decide,fun _ _=>trivial⟩
theorem Nn:Data.sm nothing:=⟨trivial,⟨by decide,fun _ _=>trivial⟩,by decide,fun r hr=>by
 obtain rfl:=az hr
 exact ⟨by decide,fun _ _=>trivial⟩⟩
end D
namespace D
open Go.RowKit
theorem No {κ:Type} [DecidableEq κ] {l m:List κ} (h:l <+:m) {y:κ} (hy:y∈l):(m.idxOf y:Int)=l.idxOf y:=by
 obtain ⟨t,rfl⟩:=h
 rw[List.idxOf_append,if_pos hy]
theorem Vp {κ:Type} [DecidableEq κ] : ∀(l:List κ) (os:List (Option κ)) (i:Nat),i<os.length->nth (nbR l os) (i:Int)=nbI (nbS l os) (nth os (i:Int))
 | l,o::os,0,_=>by
  show nbI l o=nbI (nbS (nbL l o) os) o
  cases o with
  | none=>rfl
  | some y =>
   have hm:y∈nbL l (some y):=Qd.2 (.inr rfl)
   simp only[nbI]
   rw[No (lV _ os) hm]
   by_cases c:y∈l
   ·rw[np c]
   ·rw[lW c,List.idxOf_append,if_neg c,qz c];simp
 | l,o::os,i+1,h=>by
  have h':i<os.length:=by simpa using h
  have ih:=Vp (nbL l o) os i h'
  have e1:nth (nbR l (o::os)) ((i+1:Nat):Int)=nth (nbR (nbL l o) os) (i:Int):=by
   rw[bW (by rw[eR];exact h),bW (by rw[eR];exact h')];rfl
  have e2:nth (o::os) ((i+1:Nat):Int)=nth os (i:Int):=by rw[bW h,bW h'];rfl
  rw[e1,e2];exact ih
theorem pN {κ:Type} [DecidableEq κ] {l:List κ} {y:κ} (h:y∈l): ∃(q:Nat) (hq:q<l.length),nbI l (some y)=(q:Int)/\l[q] =y:=
 ⟨l.idxOf y,List.idxOf_lt_length_of_mem h,rfl,by simp⟩
theorem Gl {κ:Type} [DecidableEq κ] {l:List κ} {y:κ} (h:y∉l):nbI l (some y)=(l.length:Int):=by simp only[nbI,qz h]
def Vq:List Int->Nat->Nat->Prop
 | [],c,m=>c=m
 | x::xs,c,m=>(x= -1/\Vq xs c m)\/(0<=x/\x<c/\Vq xs c m)\/(x=c/\Vq xs (c+1) m)
theorem Gn {κ:Type} [DecidableEq κ] : ∀(os:List (Option κ)) (l:List κ),Vq (nbR l os) l.length (nbS l os).length
 | [],l=>rfl
 | none::os,l=>.inl ⟨rfl,Gn os l⟩
 | some y::os,l=>by
  by_cases c:y∈l
  ·refine .inr (.inl ⟨Int.natCast_nonneg _,?_,?_⟩)
   ·have:=List.idxOf_lt_length_of_mem c
    simp only[nbI];omega
   ·show Vq (nbR (nbL l (some y)) os) l.length (nbS (nbL l (some y)) os).length
    rw[np c];exact Gn os l
  ·refine .inr (.inr ⟨by simp only[nbI,qz c],?_⟩)
   show Vq (nbR (nbL l (some y)) os) (l.length+1) (nbS (nbL l (some y)) os).length
   have:=Gn os (l++ [y])
   rw[lW c]
   simpa using this
def Z1:List Int->List (Option (List Int))->Prop
 | [],[] =>True
 | x::xs,o::os=>((x<0/\o=none)\/(0<=x/\ ∃t,o=some (x::t)))/\Z1 xs os
 | _,_=>False
theorem Q3: ∀(xs:List Int) (os:List (Option (List Int))),xs.length=os.length->(∀i (h:i<xs.length) (h':i<os.length),(xs[i] < 0/\os[i] =none)\/(0<=xs[i] /\ ∃t,os[i] =some (xs[i] ::t)))->Z1 xs os
 | [],[],_,_=>trivial
 | x::xs,o::os,hl,h=>⟨h 0 (by simp) (by simp),Q3 xs os (by simpa using hl) fun i h1 h2=>h (i+1) (by simpa using h1) (by simpa using h2)⟩
theorem oW: ∀(xs:List Int) (os:List (Option (List Int))) (l:List (List Int)) (c m:Nat),Z1 xs os->Vq xs c m->(∀y∈l,∃h t,y=h::t/\h<c)->
  m+l.length<=(nbS l os).length+c/\(l.length=c->(∀(q:Nat) (hq:q<l.length),∃t,l[q] =(q:Int)::t)->(nbS l os).length=m->nbR l os=xs)
 | [],[],l,c,m,_,hn,_=>by
  have hn:c=m:=hn
  subst hn
  exact ⟨by simp[nbS];omega,fun _ _ _=>rfl⟩
 | x::xs,o::os,l,c,m,hr,hn,hh=>by
  obtain ⟨hr1,hr2⟩:=hr
  rcases hn with ⟨rfl,hn⟩ | ⟨hx0,hxc,hn⟩ | ⟨rfl,hn⟩
  ·have ho:o=none:=by
    rcases hr1 with ⟨-,h⟩ | ⟨h,-⟩
    ·exact h
    ·omega
   subst ho
   obtain ⟨i1,i2⟩:=oW xs os l c m hr2 hn hh
   exact ⟨i1,fun h1 h2 h3=>by show -1::nbR l os=_;rw[i2 h1 h2 h3]⟩
  ·obtain ⟨t,rfl⟩: ∃t,o=some (x::t):=by
    rcases hr1 with ⟨h,-⟩ | ⟨-,h⟩
    ·omega
    ·exact h
   by_cases k:(x::t)∈l
   ·obtain ⟨i1,i2⟩:=oW xs os l c m hr2 hn hh
    have hb:nbL l (some (x::t))=l:=np k
    refine ⟨by show m+l.length<=(nbS (nbL l (some (x::t))) os).length+c;rw[hb];exact i1,fun h1 h2 h3=>?_⟩
    have h3:(nbS (nbL l (some (x::t))) os).length=m:=h3
    rw[hb] at h3
    obtain ⟨q,hq,e1,e2⟩:=pN k
    obtain ⟨t',ht'⟩:=h2 _ hq
    rw[e2] at ht'
    have:x=(q:Int):=by injection ht'
    show nbI l (some (x::t))::nbR (nbL l (some (x::t))) os=_
    rw[e1,<-this,hb,i2 h1 h2 h3]
   ·have hb:nbL l (some (x::t))=l++ [x::t]:=lW k
    obtain ⟨i1,i2⟩:=oW xs os (l++ [x::t]) c m hr2 hn (fun y hy=>by
     rcases aJ hy with hy | hy
     ·exact hh y hy
     ·obtain rfl:=az hy
      exact ⟨x,t,rfl,hxc⟩)
    rw[al,List.length_singleton] at i1
    refine ⟨by show m+l.length<=(nbS (nbL l (some (x::t))) os).length+c;rw[hb];omega,fun h1 h2 h3=>?_⟩
    have h3:(nbS (nbL l (some (x::t))) os).length=m:=h3
    rw[hb] at h3
    omega
  ·obtain ⟨t,rfl⟩: ∃t,o=some ((c:Int)::t):=by
    rcases hr1 with ⟨h,-⟩ | ⟨-,h⟩
    ·omega
    ·exact h
   have k:((c:Int)::t)∉l:=fun k=>by
    obtain ⟨h,t',e,hlt⟩:=hh _ k
    have:(c:Int)=h:=by injection e
    omega
   have hb:nbL l (some ((c:Int)::t))=l++ [(c:Int)::t]:=lW k
   obtain ⟨i1,i2⟩:=oW xs os (l++ [(c:Int)::t]) (c+1) m hr2 hn (fun y hy=>by
    rcases aJ hy with hy | hy
    ·obtain ⟨h,t',e,hlt⟩:=hh y hy
     exact ⟨h,t',e,by omega⟩
    ·obtain rfl:=az hy
     exact ⟨c,t,rfl,by omega⟩)
   have hlen:(l++ [(c:Int)::t]).length=l.length+1:=by simp
   rw[hlen] at i1
   refine ⟨by show m+l.length<=(nbS (nbL l (some ((c:Int)::t))) os).length+c;rw[hb];omega,fun h1 h2 h3=>?_⟩
   have h3:(nbS (nbL l (some ((c:Int)::t))) os).length=m:=h3
   rw[hb] at h3
   have:=i2 (by rw[hlen,h1]) (fun q hq=>by
    by_cases e:q<l.length
    ·rw[List.getElem_append_left e];exact h2 q e
    ·have e:q=l.length:=by omega
     subst e
     exact ⟨t,by simp;omega⟩) h3
   show nbI l (some ((c:Int)::t))::nbR (nbL l (some ((c:Int)::t))) os=_
   rw[hb,this,Gl k,h1]
theorem Gp (xs ys:List Int) (hN:xs.length<=1048576): ∃r,om xs ys=some r/\(r=0↔xs=ys):=by
 unfold om
 have h0:=Y0 (f:=pc xs ys) xs ys (fun i h h'=>by
  simp only[pc,bF h,bF h',if_true,aB h,aB h',aa,af (show i<9223372036854775807 by omega)]
  by_cases h1:xs[i] < ys[i]
  ·simp[h1]
  ·by_cases h2:xs[i] > ys[i]
   ·simp[h1,h2]
   ·simp[h1,h2]) (fun i hi=>by
  simp only[pc]
  by_cases h1:i<xs.length
  ·have h2: ¬i<ys.length:=by omega
   simp[h1,h2]
  ·simp[h1]) xs.length 0 aV (by omega) (dB _ (by omega))
 rw[show (((0:Nat):Int))=(0:Int) from rfl] at h0
 rcases h0 with ⟨r,e,h1,h2⟩ | ⟨s,e,h1⟩
 ·exact ⟨r,by rw[e];rfl,by simp[h1,h2]⟩
 ·rw[e]
  simp only[aN]
  by_cases c1:xs.length<ys.length
  ·exact ⟨-1,by simp[c1],by simp;intro e;subst e;omega⟩
  ·by_cases c2:xs.length>ys.length
   ·exact ⟨1,by simp[c1,c2],by simp;intro e;subst e;omega⟩
   ·exact ⟨0,by simp[c1,c2],by simpa using h1 (by omega)⟩
theorem Ct (xs ys:List Int) (hN:xs.length<=9223372036854775807):cn xs ys=some (decide (xs=ys)):=
 eqL (f:=cB xs ys) xs ys hN (fun i h h'=>by
  simp only[cB,bF h,if_true,aB h,aB h',aa,af (show i<9223372036854775807 by omega)]
  by_cases c:xs[i] =ys[i] <;> simp[c]) (by simp only[cB,ba];rfl)
def ND (a:AutT):List Int:=(List.range a.2.1.length).map fun s:Nat=>if nth (live a) (s:Int)=true then (if nth a.2.1 (s:Int)=true then 1 else 0) else -1
def ent (a:AutT) (c:List Int) (s:Int) (k:Nat):Int:=if mv a s k<0 then -1 else nth c (mv a s k)
def Gq (a:AutT) (c:List Int) (s:Int):List Int:=nth c s::(List.range 9).map fun k=>ent a c s k
def Gx (a:AutT) (c:List Int) (s:Nat):Option (List Int):=if nth c (s:Int)<0 then none else some (Gq a c s)
def keys (a:AutT) (c:List Int):List (Option (List Int)):=(List.range a.2.1.length).map (Gx a c)
def Ep (a:AutT) (c:List Int):List Int:=nbR [] (keys a c)
def Aw (a:AutT) (c:List Int):Nat:=(nbS [] (keys a c)).length
def cI (a:AutT):Nat->List Int
 | 0=>ND a
 | j+1=>Ep a (cI a j)
section
variable {a:AutT} {n:Nat}
theorem eu (a:AutT) (c:List Int):(keys a c).length=a.2.1.length:=by simp[keys]
theorem Km {c:List Int} {s:Nat} (h:s<a.2.1.length):nth (keys a c) (s:Int)=Gx a c s:=by
 rw[bW (by simpa [keys] using h)];simp[keys]
theorem Cu (a:AutT) (c:List Int):(Ep a c).length=a.2.1.length:=by rw[Ep,eR,eu]
theorem oX (a:AutT): ∀j,(cI a j).length=a.2.1.length
 | 0=>by simp[cI,ND]
 | j+1=>Cu a _
theorem ru {κ:Type} [DecidableEq κ] : ∀(l:List κ) (os:List (Option κ)),(nbS l os).length<=l.length+os.length
 | l,[] =>by simp[nbS]
 | l,o::os=>by
  have h:=ru (nbL l o) os
  have:(nbL l o).length<=l.length+1:=by
   cases o with
   | none=>simp[nbL]
   | some x=>unfold nbL;simp only;split <;> simp
  show (nbS (nbL l o) os).length<=_
  rw[ak];omega
theorem Kn (a:AutT) (c:List Int):Aw a c<=a.2.1.length:=by
 have:=ru ([] :List (List Int)) (keys a c)
 rw[eu] at this
 simpa [Aw] using this
theorem Gr {c:List Int} {s:Nat} (h:s<a.2.1.length):nth (Ep a c) (s:Int)=nbI (nbS [] (keys a c)) (Gx a c s):=by
 rw[Ep,Vp _ _ _ (by rw[eu];exact h),Km h]
theorem Cv {c:List Int} {s:Nat} (h:s<a.2.1.length) (hc: ¬nth c (s:Int)<0):Gq a c s∈nbS [] (keys a c):=by
 refine yB.2 (.inr ?_)
 refine List.mem_map.2 ⟨s,List.mem_range.2 h,?_⟩
 unfold Gx;rw[if_neg hc]
theorem Ax {c:List Int} {s:Nat} (h:s<a.2.1.length):(nth (Ep a c) (s:Int)<0↔nth c (s:Int)<0)/\(nth (Ep a c) (s:Int)<0->nth (Ep a c) (s:Int)= -1):=by
 rw[Gr h]
 unfold Gx
 by_cases hc:nth c (s:Int)<0
 ·rw[if_pos hc];simp[nbI,hc]
 ·rw[if_neg hc]
  obtain ⟨q,hq,e,-⟩:=pN (Cv h hc)
  rw[e]
  exact ⟨⟨fun h=>by omega,fun h=>absurd h hc⟩,fun h=>by omega⟩
theorem XG {c:List Int} {s:Nat} (h:s<a.2.1.length):nth (Ep a c) (s:Int)<(a.2.1.length:Int):=by
 rw[Gr h]
 unfold Gx
 by_cases hc:nth c (s:Int)<0
 ·rw[if_pos hc];simp only[nbI];omega
 ·rw[if_neg hc]
  obtain ⟨q,hq,e,-⟩:=pN (Cv h hc)
  have:=Kn a c
  unfold Aw at this
  rw[e];omega
theorem Q4 {c:List Int} {s t:Nat} (hs:s<a.2.1.length) (ht:t<a.2.1.length) (h0:0<=nth (Ep a c) (s:Int)) (h:nth (Ep a c) (s:Int)=nth (Ep a c) (t:Int)):Gq a c s=Gq a c t:=by
 have n1: ¬nth c (s:Int)<0:=fun k=>by have:=(Ax hs).1.2 k;omega
 have n2: ¬nth c (t:Int)<0:=fun k=>by have:=(Ax ht).1.2 k;omega
 rw[Gr hs,Gr ht] at h
 unfold Gx at h
 rw[if_neg n1,if_neg n2] at h
 obtain ⟨q,hq,e1,e2⟩:=pN (Cv hs n1)
 obtain ⟨q',hq',e1',e2'⟩:=pN (Cv ht n2)
 rw[e1,e1'] at h
 obtain rfl:q=q':=by omega
 rw[<-e2,<-e2']
theorem Er (a:AutT) {s:Nat} (h:s<a.2.1.length): ∀j,(nth (cI a j) (s:Int)<0↔nth (live a) (s:Int)=false)/\(nth (cI a j) (s:Int)<0->nth (cI a j) (s:Int)= -1)
 | 0=>by
  have e:nth (cI a 0) (s:Int)=if nth (live a) (s:Int)=true then (if nth a.2.1 (s:Int)=true then 1 else 0) else -1:=by
   show nth (ND a) (s:Int)=_
   rw[bW (by simpa [ND] using h)];simp[ND]
  rw[e]
  cases nth (live a) (s:Int) <;> cases nth a.2.1 (s:Int) <;> simp
 | j+1=>by
  have ih:=Er a h j
  have:=Ax (c:=cI a j) h
  exact ⟨this.1.trans ih.1,this.2⟩
theorem Vr (a:AutT) {s t:Nat} (hs:s<a.2.1.length) (ht:t<a.2.1.length): ∀j,0<=nth (cI a j) (s:Int)->nth (cI a j) (s:Int)=nth (cI a j) (t:Int)->nth a.2.1 (s:Int)=nth a.2.1 (t:Int)
 | 0,h0,h=>by
  have e: ∀ {s:Nat},s<a.2.1.length->nth (cI a 0) (s:Int)=if nth (live a) (s:Int)=true then (if nth a.2.1 (s:Int)=true then 1 else 0) else -1:=by
   intro s h
   show nth (ND a) (s:Int)=_
   rw[bW (by simpa [ND] using h)];simp[ND]
  rw[e hs] at h0 h
  rw[e ht] at h
  revert h0 h
  cases nth (live a) (s:Int) <;> cases nth a.2.1 (s:Int) <;> cases nth (live a) (t:Int) <;> cases nth a.2.1 (t:Int) <;> simp
 | j+1,h0,h=>by
  have k:=Q4 (c:=cI a j) hs ht h0 h
  have h1:nth (cI a j) (s:Int)=nth (cI a j) (t:Int):=by
   unfold Gq at k;injection k
  refine Vr a hs ht j ?_ h1
  have:=(Ax (c:=cI a j) hs).1
  by_cases q:nth (cI a j) (s:Int)<0
  ·have:=this.2 q
   have h0:0<=nth (Ep a (cI a j)) (s:Int):=h0
   omega
  ·omega
theorem XH (a:AutT) (j:Nat):Vq (cI a (j+1)) 0 (Aw a (cI a j)):=Gn (keys a (cI a j)) []
theorem T5 (a:AutT) {c:List Int} (hc:c.length=a.2.1.length):Z1 c (keys a c):=by
 refine Q3 _ _ (by rw[eu,hc]) fun i h h'=>?_
 have e1:c[i] =nth c (i:Int):=(bW h).symm
 have e2:(keys a c)[i] =Gx a c i:=by simp[keys]
 rw[e1,e2]
 unfold Gx
 by_cases k:nth c (i:Int)<0
 ·exact .inl ⟨k,by rw[if_pos k]⟩
 ·exact .inr ⟨by omega,_,by rw[if_neg k];rfl⟩
theorem Q5 (a:AutT) (j:Nat):Aw a (cI a j)<=Aw a (cI a (j+1))/\(Aw a (cI a (j+1))=Aw a (cI a j)->cI a (j+2)=cI a (j+1)):=by
 obtain ⟨h1,h2⟩:=oW (cI a (j+1)) (keys a (cI a (j+1))) [] 0 (Aw a (cI a j)) (T5 a (oX a _)) (XH a j) (fun y hy=>by cases hy)
 exact ⟨by simpa [Aw] using h1,fun h=>h2 rfl (fun q hq=>absurd hq (Nat.not_lt_zero q)) h⟩
theorem Vs {j k:Nat} (h:cI a (j+1)=cI a j) (hk:j<=k):cI a k=cI a j:=by
 induction hk with
 | refl=>rfl
 | step _ ih=>rw[cI,ih];exact h
theorem Q6 {j k:Nat} (h:cI a (j+1)=cI a j) (h':cI a (k+1)=cI a k):cI a j=cI a k:=by
 rcases Nat.le_total j k with e | e
 ·exact (Vs h e).symm
 ·exact Vs h' e
theorem XI (a:AutT): ∃j,j<=a.2.1.length/\cI a (j+1)=cI a j:=by
 by_cases h0:cI a 1=cI a 0
 ·exact ⟨0,Nat.zero_le _,h0⟩
 have hpos:1<=Aw a (cI a 0):=by
  refine Nat.one_le_iff_ne_zero.2 fun hz=>h0 ?_
  have hnone: ∀s:Nat,s<a.2.1.length->nth (cI a 0) (s:Int)<0:=fun s hs=>by
   refine Classical.byContradiction fun k=>?_
   have:=Cv (c:=cI a 0) hs k
   have hl:=List.length_pos_of_mem this
   unfold Aw at hz;omega
  refine Xm (by rw[oX,oX]) fun i hi=>?_
  rw[oX] at hi
  have h1:=(Er a hi 0).2 (hnone i hi)
  have h2:=(Er a hi 1).2 (((Er a hi 1).1.trans (Er a hi 0).1.symm).2 (hnone i hi))
  rw[h1,h2]
 have key: ∀m,(∃j,j<=m/\cI a (j+1)=cI a j)\/m+1<=Aw a (cI a m):=by
  intro m
  induction m with
  | zero=>exact .inr hpos
  | succ m ih =>
   rcases ih with ⟨j,hj,e⟩ | ih
   ·exact .inl ⟨j,by omega,e⟩
   ·obtain ⟨g1,g2⟩:=Q5 a m
    by_cases e:Aw a (cI a (m+1))=Aw a (cI a m)
    ·exact .inl ⟨m+1,aE _,g2 e⟩
    ·exact .inr (by omega)
 rcases key a.2.1.length with h | h
 ·exact h
 ·have:=Kn a (cI a a.2.1.length);omega
end
end D
namespace D
open Go.RowKit
section
variable {a:AutT} {n:Nat} {c:List Int}
theorem LS (k:Nat) (s:Int):(List.range (k+1)).map (fun k=>ent a c s k)=(List.range k).map (fun k=>ent a c s k)++ [ent a c s k]:=by simp[List.range_succ]
theorem aaG (V:VA a n) (hn:n<=1000000) (hc:c.length=n) {s:Nat} (hs:s<n):pZ a c s=some (Gq a c s):=by
 unfold pZ
 rw[aI (by omega) (by omega)];simp only[aa]
 have:=bm (f:=nA a c s) (fun k=>(nth c (s:Int)::(List.range k).map (fun k=>ent a c s k),(k:Int))) 9 (fun k hk=>by
  have hm:=V.mv (s:=s) (k:=k) (by omega) (by omega) hk
  unfold nA
  simp only
  rw[if_pos (by simp;omega),V.get (by omega) (by omega)];simp only[aa]
  rw[V.get2 (by omega) (by omega) hk,LS];simp only[aa,af (show k<9223372036854775807 by omega)]
  by_cases h:mv a s k<0
  ·rw[if_pos (by simpa using h),aK (by simp;omega),show ent a c s k= -1 from by unfold ent;rw[if_pos h]];rfl
  ·rw[if_neg (by simpa using h),aI (by omega) (by omega)];simp only[aa]
   rw[aK (by simp;omega),show ent a c s k=nth c (mv a s k) from by unfold ent;rw[if_neg h]];rfl) (by unfold nA;simp) (by unfold aV;omega)
 exact au this
theorem aaH (V:VA a n) (hn:n<=1000000) (hc:c.length=n) {s:Nat} (hs:s<n):ax (cV c (nth a.2.2 (s:Int))) aV (0,[nth c (s:Int)])=some (.brk (9,Gq a c s)):=by
 have hr:=V.rowAt (s:=s) (by omega) (by omega)
 exact bm (f:=cV c (nth a.2.2 (s:Int))) (fun k=>((k:Int),nth c (s:Int)::(List.range k).map (fun k=>ent a c s k))) 9 (fun k hk=>by
  have hm:=V.mv (s:=s) (k:=k) (by omega) (by omega) hk
  unfold cV
  simp only
  rw[if_pos (by simp[hr];omega),V.get2 (by omega) (by omega) hk,LS];simp only[aa,af (show k<9223372036854775807 by omega)]
  by_cases h:mv a s k<0
  ·have e:mv a s k= -1:=by omega
   rw[if_neg (by simp;omega)];simp only[aa]
   rw[aK (by simp;omega),show ent a c s k=mv a s k from by unfold ent;rw[if_pos h,e]];rfl
  ·rw[if_pos (by simp;omega),aI (by omega) (by omega)];simp only[aa]
   rw[aK (by simp;omega),show ent a c s k=nth c (mv a s k) from by unfold ent;rw[if_neg h]];rfl) (by unfold cV;simp[hr]) (by unfold aV;omega)
theorem Ix {κ:Type} [DecidableEq κ] {l t r:List κ} {x:κ} (e:l=t++x::r) (hx:x∉t):nbI l (some x)=(t.length:Int):=by
 subst e
 simp only[nbI]
 rw[List.idxOf_append,if_neg hx,List.idxOf_cons_self,Nat.zero_add]
def Zl (l:List (List Int)) (x:List Int):Int:=if x∈l then nbI l (some x) else -1
theorem Zm {l:List (List Int)} {x cs:List Int} {q:Int} (hl:l.length<=1000000) (hd:l.Nodup) (hx: ∀y∈l,y.length<=1048576):ax (fK (l,cs,q) x) aV (-1,0)=some (.brk (Zl l x,(l.length:Int))):=by
 have:=bm (f:=fK (l,cs,q) x) (fun k=>(if x∈l.take k then nbI l (some x) else -1,(k:Int))) l.length (fun k hk=>by
  unfold fK
  simp only
  rw[if_pos (by simp;omega),aI (by omega) (by omega)];simp only[aa,Int.toNat_natCast,af (show k<9223372036854775807 by omega)]
  obtain ⟨r,e,hr⟩:=Gp (nth l (k:Int)) x (hx _ (cj (by omega) (by omega)))
  rw[e,take_one hk];simp only[aa,List.mem_append,List.mem_singleton]
  by_cases h:nth l (k:Int)=x
  ·have h0:r=0:=hr.2 h
   have hm:x∈l:=h ▸ cj (by omega) (by omega)
   obtain ⟨q,hq,e1,e2⟩:=pN hm
   have:q=k:=by
    have h1:l[q]? =some x:=by rw[List.getElem?_eq_getElem hq,e2]
    have h2:l[k]? =some x:=by rw[List.getElem?_eq_getElem hk,<-bW hk,h]
    exact (List.getElem?_inj hq hd).1 (h1.trans h2.symm)
   subst this
   rw[if_pos (by simp[h0]),if_pos (.inr h.symm),e1];rfl
  ·have h0:r≠0:=fun e=>h (hr.1 e)
   have hn: ¬x=nth l (k:Int):=fun e=>h e.symm
   rw[if_neg (by simpa using h0)]
   simp[hn]) (by unfold fK;simp) (vi (by omega))
 rw[List.take_of_length_le (aE _)] at this
 exact this
theorem Zn {l:List (List Int)} {x:List Int} {f:List Int->Option Bool} (hl:l.length<=1000000) (hf: ∀y∈l,f y=some (decide (y=x))):bU l f=some (Zl l x):=by
 unfold bU
 obtain ⟨o,e,hq⟩:=cM (f:=cr l f) (fun k s=>s=(k:Int)/\x∉l.take k) (fun o=>(x∈l/\o= .ret (nbI l (some x)))\/(x∉l/\ ∃s,o= .brk s)) l.length (s:=0) (by
  rintro k s hk ⟨rfl,hx⟩
  unfold cr
  by_cases hkl:k<l.length
  ·rw[if_pos (by simp;omega),aI (by omega) (by omega)];simp only[aa]
   rw[hf _ (cj (by omega) (by omega))];simp only[aa]
   by_cases h:nth l (k:Int)=x
   ·refine .inr ⟨_,by rw[if_pos (by simpa using h)],(fun s' e=>by cases e),.inl ?_⟩
    have hm:x∈l:=h ▸ cj (by omega) (by omega)
    refine ⟨hm,?_⟩
    have e:l=l.take k++(x::l.drop (k+1)):=by
     rw[<-h,bW hkl,<-List.drop_eq_getElem_cons hkl,List.take_append_drop]
    rw[Ix e hx,ay,Nat.min_eq_left (by omega)]
   ·refine .inl ⟨hkl,_,by rw[if_neg (by simpa using h)],by rw[af (by omega)],?_⟩
    rw[take_one hkl,List.mem_append,List.mem_singleton]
    rintro (h' | h')
    ·exact hx h'
    ·exact h h'.symm
  ·refine .inr ⟨_,by rw[if_neg (by simp;omega)],(fun s' e=>by cases e),.inr ⟨?_,_,rfl⟩⟩
   rwa [List.take_of_length_le (by omega)] at hx) ⟨rfl,by simp⟩ (vi (by omega))
 unfold Zl
 rcases hq with ⟨hx,rfl⟩ | ⟨hx,s,rfl⟩
 ·rw[cq e,if_pos hx]
 ·rw[au e,if_neg hx]
theorem Cw {os:List (Option (List Int))} (h: ∀y,some y∈os->y.length=10): ∀y∈nbS [] os,y.length=10:=fun y hy=>by
 rcases yB.1 hy with hy | hy
 ·cases hy
 ·exact h y hy
theorem Es (a:AutT) (c:List Int): ∀y,some y∈keys a c->y.length=10:=by
 intro y hy
 obtain ⟨s,-,e⟩:=List.mem_map.1 hy
 unfold Gx at e
 split at e
 ·cases e
 ·rw[<-ae e];simp[Gq]
section
variable (V:VA a n) (hn:n<=1000000) (hc:c.length=n)
include V hn hc
theorem LU (s:Nat):(nbS [] ((keys a c).take s)).length<=n:=by
 have:=ru ([] :List (List Int)) ((keys a c).take s)
 rw[ay,eu,V.len] at this
 simp at this;omega
theorem T6 {m:Int} :ax (fL a (c,m)) aV ([],[],0)=some (.brk (nbS [] (keys a c),Ep a c,(n:Int))):=by
 have hlen:=V.len
 have:=bm (f:=fL a (c,m)) (fun s=>(nbS [] ((keys a c).take s),nbR [] ((keys a c).take s),(s:Int))) n (fun s hs=>by
  have hkl:=LU V hn hc s
  have hrl:(nbR [] ((keys a c).take s)).length<=n:=by rw[eR,ay,eu];omega
  unfold fL
  simp only
  rw[if_pos (by simp;omega),aI (by omega) (by omega)];simp only[aa]
  rw[take_one (by rw[eu];omega),xm,uk,Km (by omega)]
  simp only[af (show s<9223372036854775807 by omega)]
  by_cases h:nth c (s:Int)<0
  ·rw[if_pos (by simpa using h),aK (by simp;omega),show Gx a c s=none from by unfold Gx;rw[if_pos h]];rfl
  ·rw[if_neg (by simpa using h),show Gx a c s=some (Gq a c s) from by unfold Gx;rw[if_neg h]]
   rw[show pZ (a.1,a.2.1,a.2.2) c (s:Int)=some (Gq a c s) from aaG V hn hc hs];simp only[aa]
   rw[au (Zm (by omega) (tH (by simp)) (fun y hy=>by rw[Cw (fun y hy=>Es a c y (List.mem_of_mem_take hy)) y hy];decide))]
   simp only
   unfold Zl
   by_cases k:Gq a c s∈nbS [] ((keys a c).take s)
   ·obtain ⟨q,hq,e1,e2⟩:=pN k
    rw[if_pos k,np k,e1,if_neg (by simp)];simp only[aa]
    rw[aK (by simp;omega)];rfl
   ·rw[if_neg k,lW k,Gl k,if_pos (show decide ((-1:Int)<0)=true from rfl),aK (by simp;omega)];simp only[aa]
    rw[aK (by simp;omega)];rfl) (by
  unfold fL
  simp only
  rw[if_neg (by simp;omega)]) (vi (by omega))
 rw[show (keys a c).take n=keys a c from List.take_of_length_le (by rw[eu];omega)] at this
 exact this
theorem T7:dH a c=some (Ep a c,(Aw a c:Int)):=by
 have hlen:=V.len
 unfold dH
 have:=bm (f:=dJ a c) (fun s=>(nbS [] ((keys a c).take s),nbR [] ((keys a c).take s),(s:Int))) n (fun s hs=>by
  have hkl:=LU V hn hc s
  have hrl:(nbR [] ((keys a c).take s)).length<=n:=by rw[eR,ay,eu];omega
  unfold dJ
  simp only
  rw[if_pos (by simp;omega),aI (by omega) (by omega)];simp only[aa]
  rw[take_one (by rw[eu];omega),xm,uk,Km (by omega)]
  simp only[af (show s<9223372036854775807 by omega)]
  by_cases h:nth c (s:Int)<0
  ·rw[if_pos (by simpa using h),aK (by simp;omega),show Gx a c s=none from by unfold Gx;rw[if_pos h]];rfl
  ·rw[if_neg (by simpa using h),show Gx a c s=some (Gq a c s) from by unfold Gx;rw[if_neg h],V.get (by omega) (by omega)];simp only[aa]
   rw[au (aaH V hn hc hs)];simp only
   rw[Zn (x:=Gq a c s) (by omega) (fun y hy=>by
    unfold gP
    rw[Ct _ _ (by rw[Cw (fun y hy=>Es a c y (List.mem_of_mem_take hy)) y hy];decide)];rfl)];simp only[aa]
   unfold Zl
   by_cases k:Gq a c s∈nbS [] ((keys a c).take s)
   ·obtain ⟨q,hq,e1,e2⟩:=pN k
    rw[if_pos k,np k,e1,if_neg (by simp)];simp only[aa]
    rw[aK (by simp;omega)];rfl
   ·rw[if_neg k,lW k,Gl k,if_pos (show decide ((-1:Int)<0)=true from rfl),aK (by simp;omega)];simp only[aa]
    rw[aK (by simp;omega)];rfl) (by
  unfold dJ
  simp only
  rw[if_neg (by simp;omega)]) (vi (by omega))
 rw[show (keys a c).take n=keys a c from List.take_of_length_le (by rw[eu];omega)] at this
 exact au this
end
end
section
variable {a:AutT} {n:Nat} (V:VA a n) (hn:n<=1000000)
include V hn
theorem Iy (s:Nat):(List.range (s+1)).map (fun s:Nat=>if nth (live a) (s:Int)=true then (if nth a.2.1 (s:Int)=true then (1:Int) else 0) else -1)=(List.range s).map (fun s:Nat=>if nth (live a) (s:Int)=true then (if nth a.2.1 (s:Int)=true then 1 else 0) else -1)++ [if nth (live a) (s:Int)=true then (if nth a.2.1 (s:Int)=true then 1 else 0) else -1]:=by simp[List.range_succ]
theorem Zo:ax (fJ a (live a)) aV ([],0)=some (.brk (ND a,(n:Int))):=by
 have hlen:=V.len
 have hll:(live a).length=n:=by rw[v7,hlen]
 have:=bm (f:=fJ a (live a)) (fun s=>((List.range s).map (fun s:Nat=>if nth (live a) (s:Int)=true then (if nth a.2.1 (s:Int)=true then (1:Int) else 0) else -1),(s:Int))) n (fun s hs=>by
  unfold fJ
  simp only
  rw[if_pos (by simp;omega),V.acc (by omega) (by omega)];simp only[aa]
  rw[Iy V hn,aI (xs:=live a) (by omega) (by omega)];simp only[af (show s<9223372036854775807 by omega)]
  cases nth (live a) (s:Int) <;> cases nth a.2.1 (s:Int) <;> simp only[if_true,if_false,Bool.false_eq_true,aa] <;> rw[aK (by simp;omega)] <;> rfl) (by
  unfold fJ
  simp only
  rw[if_neg (by simp;omega)]) (vi (by omega))
 unfold ND
 rw[hlen]
 exact this
theorem Zp:ax (cG a (live a)) aV ([],0)=some (.brk (ND a,(n:Int))):=by
 have hlen:=V.len
 have hll:(live a).length=n:=by rw[v7,hlen]
 have:=bm (f:=cG a (live a)) (fun s=>((List.range s).map (fun s:Nat=>if nth (live a) (s:Int)=true then (if nth a.2.1 (s:Int)=true then (1:Int) else 0) else -1),(s:Int))) n (fun s hs=>by
  unfold cG
  simp only
  rw[if_pos (by simp;omega),aI (xs:=live a) (by omega) (by omega)];simp only[aa]
  rw[Iy V hn,V.acc (by omega) (by omega)];simp only[af (show s<9223372036854775807 by omega)]
  cases nth (live a) (s:Int) <;> cases nth a.2.1 (s:Int) <;> simp only[if_true,if_false,Bool.false_eq_true,aa] <;> rw[aK (by simp;omega)] <;> rfl) (by
  unfold cG
  simp only
  rw[if_neg (by simp;omega)]) (vi (by omega))
 unfold ND
 rw[hlen]
 exact this
theorem Q7: ∃J,cI a (J+1)=cI a J/\ju a=some (cI a J):=by
 have hlen:=V.len
 unfold ju
 rw[show lM (a.1,a.2.1,a.2.2)=some (live a) from Vl V hn];simp only[aa]
 rw[au (Zo V hn)]
 obtain ⟨J0,hJ0,hfix⟩:=XI a
 obtain ⟨o,e,j,rfl,hj⟩:=cM (f:=lN a) (fun j s=>s=(cI a j,(j:Int))/\j<=J0) (fun o=> ∃j,o= .ret (cI a j)/\cI a (j+1)=cI a j) (J0+1) (s:=(cI a 0,0)) (by
  rintro j s hj ⟨rfl,hjJ⟩
  have hcl:(cI a j).length=n:=by rw[oX,hlen]
  unfold lN
  simp only
  rw[if_pos (by simp;omega),au (T6 V hn hcl)]
  simp only
  obtain ⟨r,er,hr⟩:=Gp (Ep a (cI a j)) (cI a j) (by rw[Cu];omega)
  rw[er];simp only[aa,af (show j<9223372036854775807 by omega)]
  by_cases h:Ep a (cI a j)=cI a j
  ·exact .inr ⟨_,by rw[if_pos (by simpa using hr.2 h)],(fun s' e=>by cases e),j,rfl,h⟩
  ·refine .inl ⟨by omega,(cI a (j+1),((j+1:Nat):Int)),by rw[if_neg (by simpa using fun e=>h (hr.1 e))];rfl,rfl,?_⟩
   by_cases e:j=J0
   ·subst e;exact absurd hfix h
   ·omega) ⟨rfl,Nat.zero_le _⟩ (vi (by omega))
 exact ⟨j,hj,cq e⟩
theorem Q8: ∃J,cI a (J+1)=cI a J/\dy a=some (cI a J):=by
 have hlen:=V.len
 unfold dy
 rw[show eV (a.1,a.2.1,a.2.2)=some (live a) from Zc V hn];simp only[aa]
 rw[au (Zp V hn)]
 let kk:Nat->Int:=fun j=>match j with | 0=> -1 | i+1=>(Aw a (cI a i):Int)
 obtain ⟨o,e,j,rfl,hj⟩:=cM (f:=fQ a) (fun j s=>s=(cI a j,kk j)/\(j:Int)<=kk j+1) (fun o=> ∃j,o= .ret (cI a j)/\cI a (j+1)=cI a j) (n+2) (s:=(cI a 0,-1)) (by
  rintro j s hj ⟨rfl,hjk⟩
  have hcl:(cI a j).length=n:=by rw[oX,hlen]
  have hle:=Kn a (cI a j)
  unfold fQ
  simp only
  rw[show dH (a.1,a.2.1,a.2.2) (cI a j)=some (Ep a (cI a j),(Aw a (cI a j):Int)) from T7 V hn hcl];simp only[aa]
  cases j with
  | zero =>
   refine .inl ⟨by omega,(cI a 1,kk 1),by rw[if_neg (by show¬((Aw a (cI a 0):Int) == -1)=true;simp)];rfl,rfl,?_⟩
   show (1:Int)<=(Aw a (cI a 0):Int)+1
   omega
  | succ i =>
   obtain ⟨g1,g2⟩:=Q5 a i
   have hki:kk (i+1)=(Aw a (cI a i):Int):=rfl
   rw[hki] at hjk⊢
   by_cases h:Aw a (cI a (i+1))=Aw a (cI a i)
   ·refine .inr ⟨.ret (cI a (i+2)),by rw[if_pos (by simp[h])];rfl,(fun s' e=>by cases e),i+2,rfl,?_⟩
    have:=g2 h
    show Ep a (cI a (i+2))=cI a (i+2)
    rw[this];exact this
   ·refine .inl ⟨?_,(cI a (i+2),kk (i+2)),by rw[if_neg (by simp;omega)];rfl,rfl,?_⟩
    ·omega
    ·show ((i+1+1:Nat):Int)<=(Aw a (cI a (i+1)):Int)+1
     omega) ⟨rfl,by show ((0:Nat):Int)<= -1+1;omega⟩ (vi (by omega))
 exact ⟨j,hj,cq e⟩
theorem Np: ∃c,ju a=some c/\dy a=some c/\c.length=n/\Ep a c=c/\ ∃j,c=cI a j:=by
 obtain ⟨J,hJ,es⟩:=Q7 V hn
 obtain ⟨J',hJ',ei⟩:=Q8 V hn
 have:=Q6 hJ hJ'
 exact ⟨cI a J,es,by rw[this];exact ei,by rw[oX,V.len],hJ,J,rfl⟩
end
end D
namespace D
open Go.RowKit
section
variable {κ:Type} [DecidableEq κ] [Inhabited κ] {nx:κ->List (Option κ)} {first:κ} {G:κ->Prop} {B N:Nat} {acc:κ->Bool}
theorem Cx: ∀(l:List κ) (os:List (Option κ)),∀t∈nbR l os,-1<=t/\t<((nbS l os).length:Int)
 | l,[] =>fun t ht=>by cases ht
 | l,o::os=>fun t ht=>by
  have hp:=lV (nbL l o) os
  have hl:=hp.length_le
  rcases aH ht with rfl | ht
  ·show -1<=nbI l o/\nbI l o<((nbS (nbL l o) os).length:Int)
   cases o with
   | none=>exact ⟨by simp[nbI],by simp only[nbI];omega⟩
   | some y =>
    by_cases c:y∈l
    ·obtain ⟨q,hq,e,-⟩:=pN c
     rw[np c] at hl
     rw[e];exact ⟨by omega,by rw[np c];omega⟩
    ·rw[lW c] at hl
     rw[Gl c];rw[al] at hl
     exact ⟨by omega,by rw[lW c];simp at hl;omega⟩
  ·exact Cx (nbL l o) os t ht
theorem Zq (H:NumOk nx first G B) (hN:bfE nx first N):VA ((0,(bfS nx first N).map acc,bfR nx first N):AutT) N:=by
 have h0:0<N:=by
  have:=Ij (nx:=nx) (first:=first) N
  have:=(List.getElem?_eq_some_iff.1 this).1
  have:=hN.1;omega
 have key: ∀i,i<=N-> ∀r∈bfR nx first i,r.length=9/\ ∀t∈r,-1<=t/\t<(N:Int):=by
  intro i
  induction i with
  | zero=>intro _ r hr;cases hr
  | succ i ih =>
   intro hi r hr
   have hlt:=hN.2 i (by omega)
   rw[xn hlt] at hr
   rcases aJ hr with hr | hr
   ·exact ih (by omega) r hr
   ·obtain rfl:=az hr
    refine ⟨by rw[eR,H.len _ (lz H.g0 H.gn i _ (List.getElem_mem hlt))],fun t ht=>?_⟩
    have:=Cx _ _ t ht
    rw[<-FL hlt] at this
    have hl:=(yC (nx:=nx) (first:=first) hi).length_le
    have:=hN.1
    omega
 exact ⟨by show ((bfS nx first N).map acc).length=N;rw[List.length_map];exact hN.1.symm,⟨Int.le_refl _,by show (0:Int)<N;omega⟩,kp hN.2,fun r hr=>(key N (aE _) r hr).1,fun r hr=>(key N (aE _) r hr).2⟩
theorem XJ (hlen: ∀x,(nx x).length=9) (hN:bfE nx first N):VA ((0,(bfS nx first N).map acc,bfR nx first N):AutT) N:=by
 have h0:0<N:=by
  have:=Ij (nx:=nx) (first:=first) N
  have:=(List.getElem?_eq_some_iff.1 this).1
  have:=hN.1;omega
 have key: ∀i,i<=N-> ∀r∈bfR nx first i,r.length=9/\ ∀t∈r,-1<=t/\t<(N:Int):=by
  intro i
  induction i with
  | zero=>intro _ r hr;cases hr
  | succ i ih =>
   intro hi r hr
   have hlt:=hN.2 i (by omega)
   rw[xn hlt] at hr
   rcases aJ hr with hr | hr
   ·exact ih (by omega) r hr
   ·obtain rfl:=az hr
    refine ⟨by rw[eR,hlen _],fun t ht=>?_⟩
    have:=Cx _ _ t ht
    rw[<-FL hlt] at this
    have hl:=(yC (nx:=nx) (first:=first) hi).length_le
    have:=hN.1
    omega
 exact ⟨by show ((bfS nx first N).map acc).length=N;rw[List.length_map];exact hN.1.symm,⟨Int.le_refl _,by show (0:Int)<N;omega⟩,kp hN.2,fun r hr=>(key N (aE _) r hr).1,fun r hr=>(key N (aE _) r hr).2⟩
end
theorem VA.self {a:AutT} {n:Nat} (v:VA a n):VA a a.2.1.length:=by
 have e:=v.len
 subst e
 exact v
theorem Nq:VA nothing 1:=⟨rfl,⟨by decide,by decide⟩,rfl,fun r hr=>by
 obtain rfl:=az hr
 decide,fun r hr=>by
 obtain rfl:=az hr
 decide⟩
end D
namespace D
open Go.RowKit
theorem XK {l:List Int} {x:Int} (hl:l.length<=1000000) (hx:x∈l):bc x l=some (nbI l (some x)):=by
 unfold bc eK
 obtain ⟨o,e,hq⟩:=cM (f:=dE l x) (fun k s=>s=(k:Int)/\x∉l.take k) (fun o=>o= .ret (nbI l (some x))) l.length (s:=0) (by
  rintro k s hk ⟨rfl,hx'⟩
  unfold dE
  by_cases hkl:k<l.length
  ·rw[if_pos (by simp;omega),aI (by omega) (by omega)];simp only[aa]
   by_cases h:nth l (k:Int)=x
   ·refine .inr ⟨_,by rw[if_pos (by simp[h])],(fun s' e=>by cases e),?_⟩
    have e:l=l.take k++(x::l.drop (k+1)):=by
     rw[<-h,bW hkl,<-List.drop_eq_getElem_cons hkl,List.take_append_drop]
    rw[Ix e hx',ay,Nat.min_eq_left (by omega)]
   ·have h': ¬x=nth l (k:Int):=fun e=>h e.symm
    refine .inl ⟨hkl,_,by rw[if_neg (by simpa using h')],by rw[af (by omega)],?_⟩
    rw[take_one hkl,List.mem_append,List.mem_singleton]
    rintro (h' | h')
    ·exact hx' h'
    ·exact h h'.symm
  ·rw[List.take_of_length_le (by omega)] at hx'
   exact absurd hx hx') ⟨rfl,by simp⟩ (vi (by omega))
 subst hq
 rw[cq e];rfl
section
variable {a:AutT} {n:Nat}
def rep (c:List Int) (x:Int):Int:=nbI c (some x)
theorem Q9 {c:List Int} {x:Int} (h:x∈c):0<=rep c x/\rep c x<c.length/\nth c (rep c x)=x:=by
 obtain ⟨q,hq,e1,e2⟩:=pN h
 unfold rep
 rw[e1]
 exact ⟨by omega,by omega,by rw[bW hq,e2]⟩
theorem Nr (V:VA a n) (hn:n<=1000000): ∃r,im a=some r/\de a=some r/\Data.sm r/\VA r r.2.1.length/\r.2.1.length<=n:=by
 have hlen:=V.len
 have hst:=V.start
 have hll:(live a).length=n:=by rw[v7,hlen]
 obtain ⟨c,es,ei,hcl,hfix,j,hj⟩:=Np V hn
 have hneg: ∀s:Int,0<=s->s<n->(nth c s<0↔nth (live a) s=false):=fun s h0 h1=>by
  have:=(Er a (s:=s.toNat) (by omega) j).1
  rw[<-hj,show ((s.toNat:Nat):Int)=s from by omega] at this
  exact this
 have hlt: ∀s:Int,0<=s->s<n->nth c s<n:=fun s h0 h1=>by
  have:=XG (c:=c) (a:=a) (s:=s.toNat) (by omega)
  rw[hfix,hlen,show ((s.toNat:Nat):Int)=s from by omega] at this
  exact this
 have hpos: ∀r,good n (live a) r->0<=nth c r:=fun r hr=>by
  have:=hneg r hr.1 hr.2.1
  by_cases k:nth c r<0
  ·have:=this.1 k;rw[hr.2.2] at this;cases this
  ·omega
 have hkey: ∀r t:Int,0<=r->r<n->0<=t->t<n->0<=nth c r->nth c r=nth c t->Gq a c r=Gq a c t:=fun r t r0 r1 t0 t1 h0 h=>by
  have:=Q4 (a:=a) (c:=c) (s:=r.toNat) (t:=t.toNat) (by omega) (by omega) (by rw[hfix,show ((r.toNat:Nat):Int)=r from by omega];exact h0) (by rw[hfix,show ((r.toNat:Nat):Int)=r from by omega,show ((t.toNat:Nat):Int)=t from by omega];exact h)
  rwa [show ((r.toNat:Nat):Int)=r from by omega,show ((t.toNat:Nat):Int)=t from by omega] at this
 have hacc: ∀r t:Int,0<=r->r<n->0<=t->t<n->0<=nth c r->nth c r=nth c t->nth a.2.1 r=nth a.2.1 t:=fun r t r0 r1 t0 t1 h0 h=>by
  have:=Vr a (s:=r.toNat) (t:=t.toNat) (by omega) (by omega) j (by rw[<-hj,show ((r.toNat:Nat):Int)=r from by omega];exact h0) (by rw[<-hj,show ((r.toNat:Nat):Int)=r from by omega,show ((t.toNat:Nat):Int)=t from by omega];exact h)
  rwa [show ((r.toNat:Nat):Int)=r from by omega,show ((t.toNat:Nat):Int)=t from by omega] at this
 have hsuccs: ∀r,good n (live a) r->yK a c (live a) r=(List.range 9).map fun k=>if 0<=ent a c r k then some (ent a c r k) else none:=fun r hr=>by
  refine List.map_congr_left fun k hk=>?_
  have hk:k<9:=List.mem_range.1 hk
  have hm:=V.mv hr.1 hr.2.1 hk
  unfold ent
  by_cases h:mv a r k<0
  ·rw[if_pos h,if_neg (fun h'=>by omega),if_neg (by omega)]
  ·rw[if_neg h]
   have:=hneg (mv a r k) (by omega) hm.2
   cases hl:nth (live a) (mv a r k) with
   | false =>
    have:=this.2 hl
    rw[if_neg (fun h'=>by cases h'.2),if_neg (by omega)]
   | true =>
    have: ¬nth c (mv a r k)<0:=fun h'=>by have:=this.1 h';rw[hl] at this;cases this
    rw[if_pos ⟨by omega,rfl⟩,if_pos (by omega)]
 have hent: ∀r t:Int,Gq a c r=Gq a c t-> ∀k,k<9->ent a c r k=ent a c t k:=fun r t h k hk=>by
  have h:(List.range 9).map (fun k=>ent a c r k)=(List.range 9).map (fun k=>ent a c t k):=by unfold Gq at h;injection h
  have:=congrArg (fun l:List Int=>l[k]?) h
  simpa [hk] using this
 let nx:Int->List (Option Int):=fun x=>yK a c (live a) (rep c x)
 let acc:Int->Bool:=fun x=>nth a.2.1 (rep c x)
 let G:Int->Prop:=fun x=> ∃r,good n (live a) r/\nth c r=x
 have Gm: ∀x,G x->x∈c/\0<=x/\good n (live a) (rep c x):=by
  rintro x ⟨r,hr,rfl⟩
  have hm:nth c r∈c:=cj hr.1 (by rw[hcl];exact hr.2.1)
  obtain ⟨h0,h1,h2⟩:=Q9 hm
  have hp:=hpos r hr
  refine ⟨hm,hp,h0,by omega,?_⟩
  have:=hneg (rep c (nth c r)) h0 (by omega)
  rw[h2] at this
  cases hl:nth (live a) (rep c (nth c r)) with
  | true=>rfl
  | false=>have:=this.2 hl;omega
 have hnx: ∀r,good n (live a) r->nx (nth c r)=yK a c (live a) r:=fun r hr=>by
  obtain ⟨hm,hp,hg⟩:=Gm _ ⟨r,hr,rfl⟩
  obtain ⟨h0,h1,h2⟩:=Q9 hm
  show yK a c (live a) (rep c (nth c r))=_
  rw[hsuccs _ hg,hsuccs _ hr]
  refine List.map_congr_left fun k hk=>?_
  rw[hent _ _ (hkey _ _ hg.1 hg.2.1 hr.1 hr.2.1 (by rw[h2];exact hp) h2) k (List.mem_range.1 hk)]
 have hac: ∀r,good n (live a) r->acc (nth c r)=nth a.2.1 r:=fun r hr=>by
  obtain ⟨hm,hp,hg⟩:=Gm _ ⟨r,hr,rfl⟩
  obtain ⟨h0,h1,h2⟩:=Q9 hm
  exact hacc _ _ hg.1 hg.2.1 hr.1 hr.2.1 (by rw[h2];exact hp) h2
 have hgn: ∀r,good n (live a) r-> ∀y,some y∈yK a c (live a) r->G y:=fun r hr y h=>by
  obtain ⟨k,hk,e⟩:=List.mem_map.1 h
  have hk:k<9:=List.mem_range.1 hk
  split at e
  ·rename_i hc
   exact ⟨mv a r k,⟨hc.1,(V.mv hr.1 hr.2.1 hk).2,hc.2⟩,ae e⟩
  ·cases e
 unfold im de
 simp only[di]
 rw[es,ei,Vl V hn];simp only[aa]
 rw[aI hst.1 (by omega)];simp only[aa]
 cases hs:nth (live a) a.1 with
 | false =>
  have:=(hneg a.1 hst.1 hst.2).2 hs
  rw[Kj V hll hs,if_pos (by simpa using this),QY]
  exact ⟨nothing,rfl,rfl,Nn,Nq,V.pos⟩
 | true =>
  have hst':good n (live a) a.1:=⟨hst.1,hst.2,hs⟩
  have hp:=hpos _ hst'
  have H:NumOk nx (nth c a.1) G n:=⟨⟨a.1,hst',rfl⟩,fun x hx y hy=>hgn _ (Gm x hx).2.2 y hy,fun x hx=>by simp[nx,yK],fun l hd h=>Nm n l hd fun x hx=>by
   obtain ⟨r,hr,rfl⟩:=h x hx
   exact ⟨hpos r hr,hlt r hr.1 hr.2.1⟩⟩
  obtain ⟨N,hN,e1⟩:=Ze (acc:=acc) V hn hcl hll hs H hn hnx hac
  have hfirst: ∀x,G x->bc x c=some (rep c x):=fun x hx=>XK (by omega) (Gm x hx).1
  obtain ⟨N',hN',e2⟩:=Zd (most:=(c.length:Int)) (p2:=fun a0=>cH a0 (a.1,a.2.1,a.2.2) (fun a0=>bc a0 c)) (p3:=fun a0 a1=>cJ a0 a1 (a.1,a.2.1,a.2.2) (fun a0=>bc a0 c) c) (acc:=acc) H hn (by omega) (fun x hx=>Zj hn (Gm x hx).2.1 (by
    obtain ⟨r,hr,rfl⟩:=hx
    exact hlt r hr.1 hr.2.1)) (fun x hx=>by
   show cH x (a.1,a.2.1,a.2.2) (fun a0=>bc a0 c)=_
   unfold cH
   simp only
   rw[hfirst x hx];simp only[aa]
   rw[V.acc (Gm x hx).2.2.1 (Gm x hx).2.2.2.1];rfl) (fun x k hx hk=>by
   obtain ⟨hm,hx0,hg⟩:=Gm x hx
   have hm':=V.mv hg.1 hg.2.1 hk
   refine ⟨0,?_⟩
   show cJ x k (a.1,a.2.1,a.2.2) (fun a0=>bc a0 c) c=_
   unfold cJ
   simp only
   rw[hfirst x hx];simp only[aa]
   rw[show eW (a.1,a.2.1,a.2.2) (rep c x) k=some (mv a (rep c x) k) from Y4 V hg.1 hg.2.1 hk];simp only[aa]
   show _=some (match nth (yK a c (live a) (rep c x)) (k:Int) with | some y=>(y,true) | none=>(0,false))
   rw[LP hk]
   by_cases h:mv a (rep c x) k<0
   ·rw[if_pos (by simpa using h),if_neg (fun h'=>by omega)]
   ·rw[if_neg (by simpa using h),aI (by omega) (by omega)];simp only[aa]
    have hng:=hneg (mv a (rep c x) k) (by omega) hm'.2
    cases hl:nth (live a) (mv a (rep c x) k) with
    | false =>
     have:=hng.2 hl
     rw[if_pos (by simpa using this),if_neg (fun h'=>by cases h'.2)]
    | true =>
     have: ¬nth c (mv a (rep c x) k)<0:=fun h'=>by have:=hng.1 h';rw[hl] at this;cases this
     rw[if_neg (by simpa using this),if_pos ⟨by omega,rfl⟩])
  obtain rfl:=Tk hN hN'
  have v:=Zq (acc:=acc) H hN
  refine ⟨_,by rw[e1];rfl,?_,Zk H hn hN,v.self,?_⟩
  rotate_left
  ·rw[v.len,hN.1];exact H.bound _ (oT N) (lz H.g0 H.gn N)
  rw[if_neg (by simp;omega)]
  exact (congrArg (fun x=>Option.bind x _) e2).trans rfl
theorem T8 (V:VA a n) (hn:n<=1000000): ∃r,im a=some r/\de a=some r/\Data.sm r:=by
 obtain ⟨r,h1,h2,h3,-⟩:=Nr V hn
 exact ⟨r,h1,h2,h3⟩
end
end D
namespace D
open Go.RowKit
theorem Gs:Data.sm ((0,[],[]):AutT):=⟨trivial,⟨by decide,fun _ h=>by cases h⟩,by decide,fun _ h=>by cases h⟩
theorem Ra {κ:Type} [DecidableEq κ] {nx:κ->List (Option κ)} {first:κ} {acc:κ->Bool} {most:Nat} : ∀(f i:Nat),(∀j,j<i->j<(bfS nx first j).length)->(bfS nx first i).length<=most->goM nx first acc most f i=((0,[],[]),false)\/ ∃N,bfE nx first N/\N<=most/\goM nx first acc most f i=((0,(bfS nx first N).map acc,bfR nx first N),true)
 | 0,i,_,_=>.inl rfl
 | f+1,i,h,hl=>by
  have hle:=Gk h
  rw[goM]
  by_cases c:i<(bfS nx first i).length
  ·rw[if_pos c]
   by_cases d:(bfS nx first (i+1)).length>most
   ·rw[if_pos d];exact .inl rfl
   ·rw[if_neg d]
    exact Ra f (i+1) (fun j hj=>by
     by_cases e:j=i
     ·subst e;exact c
     ·exact h j (by omega)) (by omega)
  ·rw[if_neg c]
   exact .inr ⟨i,⟨by omega,h⟩,by omega,by rw[List.take_of_length_le (by omega)]⟩
theorem Iz {e:List Tok} (he:e.length<=1048576): ∃r:AutT×Bool,ir e=some r/\iC e=some r/\Data.sm r.1:=by
 obtain ⟨⟨p,b⟩,e1,e2,h1,h2⟩:=v8 he
 have h1:p.2.2.2.1.length=p.1.length:=h1
 have h2:p.1.length<=100000:=h2
 unfold ir iC
 rw[e1,e2];simp only[aa,di]
 cases b with
 | false=>exact ⟨((0,[],[]),false),rfl,rfl,Gs⟩
 | true =>
  have d1:=aaD (p:=p) (most:=200) h1 (by omega) (by omega) (by omega)
  have d2:=aaC (p:=p) (most:=200) h1 (by omega) (by omega) (by omega)
  have d1:jq p 200=_:=d1
  have d2:iz p 200=_:=d2
  rw[d1,d2];simp only[if_true,aa]
  rcases Ra (nx:=nxS p) (first:=1) (acc:=xA p) (most:=200) (200+2) 0 (fun j hj=>by omega) (by simp[bfS]) with e | ⟨N,hN,hNm,e⟩
  ·rw[e]
   exact ⟨((0,[],[]),false),rfl,rfl,Gs⟩
  ·rw[e];simp only[if_true]
   have V:=XJ (acc:=xA p) (Gj p) hN
   obtain ⟨r,es,ei,hr⟩:=T8 V (by omega)
   unfold Bl
   rw[es];simp only[aa,di]
   rw[ei];simp only[aa,di]
   by_cases c:(r.2.1.length:Int)>12
   ·have c':decide ((r.2.1.length:Int)>12)=true:=decide_eq_true c
    simp only[c',if_true,aa]
    exact ⟨((0,[],[]),false),rfl,rfl,Gs⟩
   ·have c':decide ((r.2.1.length:Int)>12)=false:=decide_eq_false c
    simp only[c',Bool.false_eq_true,if_false,aa]
    exact ⟨(r,true),rfl,rfl,hr⟩
theorem Ko {e:List Tok} (he:e.length<=1048576): ∃r:AutT×Bool,ir e=some r/\iC e=some r/\Data.sm r.1:=Iz he
end D
set_option synthInstance.maxSize 20000
set_option synthInstance.maxHeartbeats 2000000
namespace D
open Go.RowKit
theorem Cy (x y:AutT) (hx:Data.sm x):fM x y=some (decide (x=y)):=by
 obtain ⟨-,⟨ha,-⟩,hn,hr⟩:=hx
 unfold fM
 by_cases c1:x.1=y.1
 case neg=>rw[if_pos (by simpa using c1)];simp[Prod.ext_iff,c1]
 rw[if_neg (by simpa using c1)]
 by_cases c2:x.2.1.length=y.2.1.length
 case neg=>rw[if_pos (by simp;omega)];simp[Prod.ext_iff];exact fun _ e=>absurd (by rw[e]) c2
 rw[if_neg (by simp;omega)]
 by_cases c3:x.2.2.length=y.2.2.length
 case neg=>rw[if_pos (by simp;omega)];simp[Prod.ext_iff];exact fun _ _ e=>absurd (by rw[e]) c3
 rw[if_neg (by simp;omega)]
 rw[eqB (f:=fx x y) x.2.1 y.2.1 (by omega) c2 (fun i h h'=>by
  simp only[fx,bF h,if_true,aB h,aB h',aa,af (show i<9223372036854775807 by omega)]
  by_cases c:x.2.1[i] =y.2.1[i] <;> simp[c]) (by simp only[fx,ba];rfl)]
 by_cases c4:x.2.1=y.2.1
 case neg=>rw[if_neg c4];simp[Prod.ext_iff,c4]
 rw[if_pos c4]
 rw[eqB (f:=fy x y) x.2.2 y.2.2 (by omega) c3 (fun i h h'=>by
  obtain ⟨r,e,hr'⟩:=Gp x.2.2[i] y.2.2[i] ((hr _ (List.getElem_mem h)).1)
  simp only[fy,bF h,if_true,aB h,aB h',aa,af (show i<9223372036854775807 by omega),e]
  by_cases c:x.2.2[i] =y.2.2[i]
  ·rw[if_neg (by simpa using hr'.2 c),if_pos c]
  ·rw[if_pos (by simpa using fun e=>c (hr'.1 e)),if_neg c]) (by simp only[fy,ba];rfl)]
 by_cases c5:x.2.2=y.2.2
 ·rw[if_pos c5];simp[Prod.ext_iff,c1,c4,c5]
 ·rw[if_neg c5];simp[Prod.ext_iff,c5]
theorem T9 (xs ys:List Bool) (hN:xs.length<=9223372036854775807):dK xs ys=some (decide (xs=ys)):=
 eqL (f:=b9 xs ys) xs ys hN (fun i h h'=>by
  simp only[b9,bF h,if_true,aB h,aB h',aa,af (show i<9223372036854775807 by omega)]
  by_cases c:xs[i] =ys[i] <;> simp[c]) (by simp only[b9,ba];rfl)
theorem Cz (x y:AutT) (hx:Data.sm x):dR x y=some (decide (x=y)):=by
 obtain ⟨-,⟨ha,-⟩,hn,hr⟩:=hx
 unfold dR
 by_cases c1:x.1=y.1
 case neg=>rw[if_neg (by simpa using c1)];simp[Prod.ext_iff,c1]
 rw[if_pos (by simpa using c1),T9 _ _ (by omega)];simp only[aa]
 by_cases c2:x.2.1=y.2.1
 case neg=>rw[if_neg (by simpa using c2)];simp[Prod.ext_iff,c2]
 rw[if_pos (by simpa using c2)]
 have:bO x.2.2 y.2.2 (fun a0 a1=>gl a0 a1)=some (decide (x.2.2=y.2.2)):=
  eqL (f:=a7 x.2.2 y.2.2 _) x.2.2 y.2.2 (by omega) (fun i h h'=>by
   simp only[a7,bF h,if_true,aB h,aB h',aa,af (show i<9223372036854775807 by omega),gl]
   rw[Ct _ _ (by have:x.2.2[i].length<=1048576:=(hr _ (List.getElem_mem h)).1;omega)];simp only[aa]
   by_cases c:x.2.2[i] =y.2.2[i] <;> simp[c]) (by simp only[a7,ba];rfl)
 rw[this]
 by_cases c3:x.2.2=y.2.2 <;> simp[Prod.ext_iff,c1,c2,c3]
abbrev QT:=Int×List Tok×Int
abbrev Ns:=List AutT×List QT
theorem Ua (x y:List Tok) (hx:x.length<=1048576):mb x y=some (decide (x=y)):=by
 unfold mb
 exact eqL (f:=iR x y) x y (by omega) (fun i h h'=>by
  simp only[iR,bF h,if_true,aB h,aB h',aa,di,af (show i<9223372036854775807 by omega)]
  refine fb ?_;simp only[Bool.and_true,aj,beq_iff_eq];exact abf) (by simp only[iR,ba];rfl)
theorem Rb (x y:List Tok) (hx:x.length<=1048576):cv x y=some (decide (x=y)):=by
 unfold cv
 exact eqL (f:=bX x y) x y (by omega) (fun i h h'=>by
  simp only[bX,bF h,if_true,aB h,aB h',aa,di,af (show i<9223372036854775807 by omega)]
  refine fb ?_;simp only[Bool.and_true,aj,beq_iff_eq];exact abf) (by simp only[bX,ba];rfl)
theorem Ub (x y:List Tok) (hx:x.length<=1048576):mj x y=some (decide (x=y)):=by
 unfold mj
 rw[Rb x y hx];rfl
theorem Gt (x y:Ns) (hx:Data.sm x):gg x y=some (decide (x=y)):=by
 obtain ⟨⟨ha,hA⟩,hq,hQ⟩:=hx
 unfold gg
 by_cases h1:x.1.length=y.1.length
 ·by_cases h2:x.2.length=y.2.length
  ·rw[if_neg (by rw[h1];simp),if_neg (by rw[h2];simp)]
   rw[eqB (f:=eA x y) x.1 y.1 (by omega) h1 (fun i h h'=>by
    simp only[eA,bF h,if_true,aB h,aB h',aa,di,Cy x.1[i] y.1[i] (hA _ (List.getElem_mem h)),af (show i<9223372036854775807 by omega)]
    exact fb (by simp)) (by simp only[eA,ba];rfl)]
   rw[eqB (f:=eB x y) x.2 y.2 (by omega) h2 (fun i h h'=>by
    have e:=Ua x.2[i].2.1 y.2[i].2.1 (hQ _ (List.getElem_mem h)).2.1.1
    simp only[eB,bF h,if_true,aB h,aB h',aa,e,af (show i<9223372036854775807 by omega)]
    generalize x.2[i] =u;generalize y.2[i] =v
    by_cases e1:u.1=v.1 <;> by_cases e2:u.2.1=v.2.1 <;> by_cases e3:u.2.2=v.2.2 <;> simp[Prod.ext_iff,e1,e2,e3]) (by simp only[eB,ba];rfl)]
   by_cases e1:x.1=y.1 <;> by_cases e2:x.2=y.2 <;> simp[Prod.ext_iff,e1,e2]
  ·have:x.2≠y.2:=fun e=>h2 (by rw[e])
   rw[if_neg (by rw[h1];simp),if_pos (by simp;omega)];simp[Prod.ext_iff,this]
 ·have:x.1≠y.1:=fun e=>h1 (by rw[e])
  rw[if_pos (by simp;omega)];simp[Prod.ext_iff,this]
theorem Nt (x y:QT) (hx:Data.sm x):gE x y=some (decide (x=y)):=by
 unfold gE
 rw[Ub x.2.1 y.2.1 hx.2.1.1];simp only[aa]
 by_cases h1:x.1=y.1 <;> by_cases h2:x.2.1=y.2.1 <;> by_cases h3:x.2.2=y.2.2 <;> simp[Prod.ext_iff,h1,h2,h3]
theorem Gu (x y:Ns) (hx:Data.sm x):gm x y=some (decide (x=y)):=by
 obtain ⟨⟨ha,hA⟩,hq,hQ⟩:=hx
 unfold gm
 have e:aZ x.1 y.1 (fun a0 a1=>dR a0 a1)=some (decide (x.1=y.1)):=
  eqL (f:=aO x.1 y.1 _) x.1 y.1 (by omega) (fun i h h'=>by
   simp only[aO,bF h,if_true,aB h,aB h',aa,di,af (show i<9223372036854775807 by omega),Cz x.1[i] y.1[i] (hA _ (List.getElem_mem h))]
   exact fb (by simp)) (by simp only[aO,ba];rfl)
 have e':aW x.2 y.2 (fun a0 a1=>gE a0 a1)=some (decide (x.2=y.2)):=
  eqL (f:=aM x.2 y.2 _) x.2 y.2 (by omega) (fun i h h'=>by
   simp only[aM,bF h,if_true,aB h,aB h',aa,di,af (show i<9223372036854775807 by omega),Nt x.2[i] y.2[i] (hQ _ (List.getElem_mem h))]
   exact fb (by simp)) (by simp only[aM,ba];rfl)
 rw[e,e'];simp only[aa]
 by_cases h1:x.1=y.1 <;> by_cases h2:x.2=y.2 <;> simp[Prod.ext_iff,h1,h2]
theorem qD {R S:Type} {f g:S->Option (Out R S)} (Inv:Nat->S->Prop) (h: ∀i s,Inv i s->g s=f s/\ ∀s',f s=some (.nxt s')->Inv (i+1) s'): ∀(k i:Nat) (s:S),Inv i s->ax g k s=ax f k s
 | 0,_,_,_=>rfl
 | k+1,i,s,hI=>by
  obtain ⟨h1,h2⟩:=h i s hI
  rw[ax,ax,h1]
  cases e:f s with
  | none=>rfl
  | some o =>
   cases o with
   | nxt s'=>exact qD Inv h k (i+1) s' (h2 s' e)
   | brk s'=>rfl
   | ret r=>rfl
theorem LW {f g:Int->Option (Out Int Int)} (N:Nat) (hN:N<=1048576) (h: ∀i:Nat,i<N->f (i:Int)=some (.ret (i:Int))\/f (i:Int)=some (.nxt ((i+1:Nat):Int))) (he:f (N:Int)=some (.brk (N:Int))) (hfg: ∀i:Nat,i<=N->g (i:Int)=f (i:Int)) :
  ∃r:Int,aN (ax f aV 0) (fun r=>some r) (fun _=>some (-1))=some r/\aN (ax g aV 0) (fun r=>some r) (fun _=>some (-1))=some r/\(r= -1\/ ∃i:Nat,i<N/\r=(i:Int)):=by
 have hs:ax g aV 0=ax f aV 0:=qD (fun i s=>s=(i:Int)/\i<=N) (fun i s ⟨e,hi⟩=>by
  subst e
  refine ⟨hfg i hi,fun s' e=>?_⟩
  by_cases c:i<N
  ·rcases h i c with e2 | e2
   ·rw[e2] at e;cases e
   ·rw[e2] at e;cases e;exact ⟨rfl,c⟩
  ·obtain rfl:i=N:=by omega
   rw[he] at e;cases e) aV 0 0 ⟨rfl,Nat.zero_le _⟩
 rw[hs]
 obtain ⟨o,e,ho⟩:=cM (f:=f) (fun i s=>s=(i:Int)) (fun o=>o= .brk (N:Int)\/ ∃i:Nat,i<N/\o= .ret (i:Int)) N (fun i s hi hs=>by
  subst hs
  by_cases h1:i<N
  ·rcases h i h1 with h2 | h2
   ·exact .inr ⟨_,h2,(fun s' e=>by cases e),.inr ⟨i,h1,rfl⟩⟩
   ·exact .inl ⟨h1,_,h2,rfl⟩
  ·obtain rfl:i=N:=by omega
   exact .inr ⟨_,he,(fun s' e=>by cases e),.inl rfl⟩) (s:=0) rfl (dB _ (by omega))
 rw[e]
 rcases ho with rfl | ⟨i,hi,rfl⟩
 ·exact ⟨-1,rfl,rfl,.inl rfl⟩
 ·exact ⟨i,rfl,rfl,.inr ⟨i,hi,rfl⟩⟩
theorem Nu (l:List AutT) (a:AutT) (hl:l.length<=1048576) (hs: ∀x∈l,Data.sm x) (ha:Data.sm a): ∃r:Int,mM l a=some r/\a8 l (fun a0=>mO a0 a)=some r/\(r= -1\/ ∃i:Nat,i<l.length/\r=(i:Int)):=by
 unfold mM a8
 have hf: ∀i (h:i<l.length),iu l a (i:Int)=if l[i] =a then some (.ret (i:Int)) else some (.nxt ((i+1:Nat):Int)):=fun i h=>by
  simp only[iu,bF h,if_true,aB h,aa,di,Cy l[i] a (hs _ (List.getElem_mem h)),af (show i<9223372036854775807 by omega)]
  by_cases c:l[i] =a <;> simp[c]
 refine LW l.length hl (fun i h=>?_) (by simp only[iu,ba];rfl) (fun i hi=>?_)
 ·rw[hf i h];by_cases c:l[i] =a <;> simp[c]
 ·by_cases h:i<l.length
  ·rw[hf i h]
   simp only[bQ,mO,bF h,if_true,aB h,aa,di,Cz a l[i] ha,af (show i<9223372036854775807 by omega)]
   by_cases c:l[i] =a
   ·simp[c]
   ·have: ¬a=l[i]:=fun e=>c e.symm
    simp[c,this]
  ·obtain rfl:i=l.length:=by omega
   simp only[iu,bQ,ba];rfl
def Kp (n i:Nat) (s:Int×List AutT×List QT):Prop:=s.1=(i:Int)/\i<=n/\s.2.2.length=i/\s.2.1.length<=i/\(∀a∈s.2.1,Data.sm a)/\ ∀q∈s.2.2,Data.sm q/\0<=q.2.2/\q.2.2<(s.2.1.length:Int)
theorem LX {qs:List QT} (hq:Data.sm qs) {i:Nat} {s:Int×List AutT×List QT} (hI:Kp qs.length i s):kU qs s=dq qs s /\
  ((i<qs.length/\ ∃s',dq qs s=some (.nxt s')/\Kp qs.length (i+1) s')\/ ∃o,dq qs s=some o/\(∀s',o≠ .nxt s')/\(o= .ret (([],[]),false)\/o= .brk s/\i=qs.length)):=by
 obtain ⟨hn,hs⟩:=aC hq
 obtain ⟨s1,A,Q⟩:=s
 obtain ⟨h1,h2,h3,h4,h5,h6⟩:=hI
 simp only at h1 h3 h4 h5 h6
 subst h1
 by_cases hi:i<qs.length
 ·have hqi:=hs _ (List.getElem_mem hi)
  obtain ⟨r,es,ei,hr⟩:=Ko (e:=qs[i].2.1) hqi.2.1.1
  obtain ⟨k,ks,ki,hk⟩:=Nu A r.1 (by omega) h5 hr
  have a1:cm 56 A [r.1] =some (A++ [r.1]):=aK (by simp;omega)
  have a2: ∀y,cm 40 Q [y] =some (Q++ [y]):=fun y=>aK (by simp;omega)
  have a3:gN qs[i].2.1=some qs[i].2.1:=by unfold gN;rw[aK (by have:=hqi.2.1.1;simp;omega)];rfl
  have a4:fW qs[i].2.1=some qs[i].2.1:=by unfold fW;rw[aK (by have:=hqi.2.1.1;simp;omega)];rfl
  unfold kU dq
  simp only[bF hi,if_true,aB hi,aa,es,ei,NC,IC,di,ks,ki,a1,a2,a3,a4,af (show i<9223372036854775807 by omega)]
  by_cases c1:r.2=true
  case neg =>
   simp only[c1,Bool.false_eq_true,if_false]
   exact ⟨by first | trivial | rfl,.inr ⟨_,rfl,(fun s' e=>by cases e),.inl rfl⟩⟩
  simp only[c1,if_true]
  by_cases c2:1<=qs[i].1/\qs[i].1<=99
  case neg =>
   simp only[c2,decide_false,Bool.false_eq_true,if_false]
   exact ⟨by first | trivial | rfl,.inr ⟨_,rfl,(fun s' e=>by cases e),.inl rfl⟩⟩
  simp only[c2,decide_true,if_true]
  have fin: ∃s':Int×List AutT×List QT,(∀(y:Option (Out (Ns×Bool) (Int×List AutT×List QT))),True)/\(Option.bind (if decide (k<0) then some ((A.length:Int),A++ [r.1],Q) else some (k,A,Q)) fun s10:Int×List AutT×List QT=>(cm 40 s10.2.2 [(qs[i].1,qs[i].2.1,s10.1)]).bind fun z18=>some (.nxt (((i+1:Nat):Int),s10.2.1,z18)):Option (Out (Ns×Bool) (Int×List AutT×List QT)))=some (.nxt s')/\Kp qs.length (i+1) s':=by
   rcases hk with rfl | ⟨j,hj,rfl⟩
   ·refine ⟨(((i+1:Nat):Int),A++ [r.1],Q++ [(qs[i].1,qs[i].2.1,(A.length:Int))]),fun _=>trivial,?_,rfl,hi,by simp;omega,by simp;omega,fun a ha=>?_,fun q hq'=>?_⟩
    ·simp only[show decide ((-1:Int)<0)=true from rfl,if_true,aa,a2]
    ·simp only[List.mem_append,List.mem_singleton] at ha
     rcases ha with ha | rfl
     ·exact h5 a ha
     ·exact hr
    ·simp only[List.mem_append,List.mem_singleton] at hq'
     simp only[al,List.length_singleton]
     rcases hq' with hq' | rfl
     ·obtain ⟨b1,b2,b3⟩:=h6 q hq'
      exact ⟨b1,b2,by omega⟩
     ·exact ⟨⟨trivial,hqi.2.1,trivial⟩,by simp,by simp;omega⟩
   ·refine ⟨(((i+1:Nat):Int),A,Q++ [(qs[i].1,qs[i].2.1,(j:Int))]),fun _=>trivial,?_,rfl,hi,by simp;omega,by simp only;omega,h5,fun q hq'=>?_⟩
    ·have:decide ((j:Int)<0)=false:=by simp
     simp only[this,Bool.false_eq_true,if_false,aa,a2]
    ·simp only[List.mem_append,List.mem_singleton] at hq'
     rcases hq' with hq' | rfl
     ·exact h6 q hq'
     ·exact ⟨⟨trivial,hqi.2.1,trivial⟩,by simp,by simp;omega⟩
  obtain ⟨s',-,e,hI'⟩:=fin
  by_cases c3:(i:Int)>0
  ·have hp:i - 1<qs.length:=by omega
   have hw:IntKind.i64.wrap ((i:Int) - 1)=((i - 1:Nat):Int):=by rw[oS (by omega)];omega
   simp only[c3,decide_true,if_true,hw,aB hp,aa]
   by_cases c4:qs[i - 1].1≥qs[i].1
   ·simp only[c4,decide_true,if_true]
    exact ⟨by first | trivial | rfl,.inr ⟨_,rfl,(fun s' e=>by cases e),.inl rfl⟩⟩
   ·simp only[c4,decide_false,Bool.false_eq_true,if_false]
    exact ⟨by first | trivial | rfl,.inl ⟨hi,s',e,hI'⟩⟩
  ·simp only[c3,decide_false,Bool.false_eq_true,if_false]
   exact ⟨by first | trivial | rfl,.inl ⟨hi,s',e,hI'⟩⟩
 ·obtain rfl:i=qs.length:=by omega
  unfold kU dq
  simp only[ba,Bool.false_eq_true,if_false]
  exact ⟨by first | trivial | rfl,.inr ⟨_,rfl,(fun s' e=>by cases e),.inr (by first | exact ⟨rfl,rfl⟩ | exact ⟨trivial,rfl⟩ | exact ⟨rfl,trivial⟩ | simp)⟩⟩
def RegOk (r:Ns):Prop:=Data.sm r/\ ∀q∈r.2,0<=q.2.2/\q.2.2<(r.1.length:Int)
theorem Uc {qs:List QT} (hq:Data.sm qs): ∃r:Ns,∃b:Bool,pe qs=(if (qs.length:Int)>4 then some (([],[]),false) else some (r,b))/\ud qs=some (r,b&&decide ((qs.length:Int)<=4))/\RegOk r:=by
 have hn:=(aC hq).1
 have h0:Kp qs.length 0 (0,[],[]):=⟨rfl,Nat.zero_le _,rfl,aE _,fun _ h=>(by cases h),fun _ h=>(by cases h)⟩
 have hs:ax (kU qs) aV (0,[],[])=ax (dq qs) aV (0,[],[]):=qD (Kp qs.length) (fun i s hI=>by
  obtain ⟨e,h⟩:=LX hq hI
  refine ⟨e,fun s' e'=>?_⟩
  rcases h with ⟨_,s2,e2,hI2⟩ | ⟨o,e2,hne,-⟩
  ·rw[e2] at e';cases e';exact hI2
  ·rw[e2] at e';cases e';exact absurd rfl (hne s')) aV 0 _ h0
 obtain ⟨o,e,ho⟩:=cM (f:=dq qs) (Kp qs.length) (fun o=>o= .ret (([],[]),false)\/ ∃A Q,o= .brk ((qs.length:Int),A,Q)/\Kp qs.length qs.length ((qs.length:Int),A,Q)) qs.length (fun i s hi hI=>by
  rcases (LX hq hI).2 with h | ⟨o,e,hne,h⟩
  ·exact .inl h
  ·refine .inr ⟨o,e,hne,?_⟩
   rcases h with h | ⟨h,rfl⟩
   ·exact .inl h
   ·obtain ⟨s1,A,Q⟩:=s
    obtain ⟨rfl,-⟩:=id hI
    exact .inr ⟨A,Q,h,hI⟩) h0 (dB _ (by omega))
 unfold pe ud
 rw[hs,e]
 rcases ho with rfl | ⟨A,Q,rfl,-,-,h3,h4,h5,h6⟩
 ·refine ⟨([],[]),false,?_,rfl,⟨⟨Nat.zero_le _,fun _ h=>(by cases h)⟩,Nat.zero_le _,fun _ h=>(by cases h)⟩,fun _ h=>(by cases h)⟩
  by_cases c:(qs.length:Int)>4 <;> simp[c,aN]
 ·simp only at h3 h4 h5 h6
  refine ⟨(A,Q),true,?_,by simp[aN],⟨⟨show A.length<=1048576 by omega,h5⟩,show Q.length<=1048576 by omega,fun q h=>(h6 q h).1⟩,fun q h=>(h6 q h).2⟩
  by_cases c:(qs.length:Int)>4 <;> simp[c,aN]
theorem Nv {r:Ns} (hr:Data.sm r): ∃b,gh r=some b/\gp r=some b/\(b=true->RegOk r):=by
 obtain ⟨x,b,e1,e2,hx⟩:=Uc hr.2
 unfold gh gp
 rw[e1,e2]
 by_cases c:(r.2.length:Int)>4
 ·have c': ¬(r.2.length:Int)<=4:=by omega
  exact ⟨false,by simp[c],by simp[c'],fun e=>by cases e⟩
 ·have c':(r.2.length:Int)<=4:=by omega
  cases b with
  | false=>exact ⟨false,by simp[c],by simp,fun e=>by cases e⟩
  | true =>
   simp only[c,if_false,aa,if_true,c',decide_true,Bool.and_true,di,Gt x r hx.1,Gu x r hx.1]
   exact ⟨_,rfl,rfl,fun e=>by rw[<-of_decide_eq_true e];exact hx⟩
end D
set_option synthInstance.maxSize 20000
set_option synthInstance.maxHeartbeats 2000000
namespace D
open Go.RowKit
abbrev NF:=Int×(List GrT)
abbrev aaI:=Int×Int×Int
theorem CA (g:GrT) (hg:Data.sm g):cx g=some g:=by
 have h1:=(aC hg.1).1
 have h2:=(aC hg.2).1
 unfold cx
 rw[aK (by simp;omega)];simp only[aa,List.nil_append]
 rw[aK (by simp;omega)];rfl
theorem CB (g:GrT) (hg:Data.sm g):dL g=some g:=by
 have h1:=(aC hg.1).1
 have h2:=(aC hg.2).1
 unfold dL mP
 rw[aK (by simp;omega)];simp only[aa,List.nil_append]
 rw[aK (by simp;omega)];rfl
theorem Et {g:GrT} (hg:Data.sm g): ∃b,bK g=some b:=by
 obtain ⟨b,e,_⟩:=xr g (aC hg.1).1 (aC hg.2).1
 exact ⟨b,e⟩
def okG (h:NF) (g:GrT):Prop:=bK g=some true/\g.1=(nth h.2 0).1
instance (h g):Decidable (okG h g):=by unfold okG;infer_instance
theorem CC (h:NF) (hh:Data.sm h): ∃b,m_s_IsValidHistory h=some b/\m_i_IsValidHistory h=some b/\(b=true->(1<=h.2.length/\h.2.length<=8)/\1<=h.1/\h.1<=1000 - (h.2.length:Int)):=by
 obtain ⟨hl,hs⟩:=aC hh.2
 have ew:IntKind.i64.wrap ((IntKind.i64.wrap (999 - (h.2.length:Int)))+1)=1000 - (h.2.length:Int):=by
  rw[fj (n:=999 - (h.2.length:Int)) (by omega) (by omega),fj (by omega) (by omega)];omega
 have ks:=scan (f:=eS h) h.2 (okG h) false (by omega) (fun i hi=>by
  have hg:=hs _ (cj (xs:=h.2) (i:=(i:Int)) (by omega) (by omega))
  obtain ⟨b,e⟩:=Et hg
  obtain ⟨r,er,hr⟩:=Gp (nth h.2 (i:Int)).1 (nth h.2 0).1 (aC hg.1).1
  have e':cX ((nth h.2 (i:Int)).1,(nth h.2 (i:Int)).2)=some b:=by rw[xt];exact e
  have hk:okG h (nth h.2 (i:Int))↔b=true/\(nth h.2 (i:Int)).1=(nth h.2 0).1:=by unfold okG;rw[e];simp
  unfold eS
  rw[if_pos (by simp;omega),aI (by omega) (by omega)];simp only[aa]
  rw[e',aI (xs:=h.2) (i:=0) (by omega) (by omega)];simp only[aa]
  rw[er,af (by omega)];simp only[aa]
  cases b with
  | false=>rw[if_neg (by decide),if_neg (fun c=>by cases (hk.1 c).1)]
  | true =>
   rw[if_pos rfl]
   by_cases c:r=0
   ·rw[if_neg (by simp[c]),if_pos (hk.2 ⟨rfl,hr.1 c⟩)]
   ·rw[if_pos (by simpa using c),if_neg (fun k=>c (hr.2 (hk.1 k).2))]) (by unfold eS;simp)
 have ki:=scan (f:=eU h) h.2 (okG h) false (by omega) (fun i hi=>by
  have hg:=hs _ (cj (xs:=h.2) (i:=(i:Int)) (by omega) (by omega))
  obtain ⟨b,e⟩:=Et hg
  have er:=Ct (nth h.2 (i:Int)).1 (nth h.2 0).1 (by have:=(aC hg.1).1;omega)
  have e':bK ((nth h.2 (i:Int)).1,(nth h.2 (i:Int)).2)=some b:=e
  have hk:okG h (nth h.2 (i:Int))↔b=true/\(nth h.2 (i:Int)).1=(nth h.2 0).1:=by unfold okG;rw[e];simp
  unfold eU
  rw[if_pos (by simp;omega),aI (by omega) (by omega)];simp only[aa]
  rw[e',aI (xs:=h.2) (i:=0) (by omega) (by omega)];simp only[aa]
  rw[er,af (by omega)];simp only[aa]
  cases b with
  | false=>rw[if_neg (by decide),if_neg (fun c=>by cases (hk.1 c).1)]
  | true =>
   rw[if_pos rfl]
   by_cases c:(nth h.2 (i:Int)).1=(nth h.2 0).1
   ·rw[if_pos (decide_eq_true c),if_pos (hk.2 ⟨rfl,c⟩)]
   ·rw[if_neg (by simpa using c),if_neg (fun k=>c (hk.1 k).2)]) (by unfold eU;simp)
 unfold m_s_IsValidHistory m_i_IsValidHistory
 rw[NC,NC,IC,IC,ew];simp only[aa]
 by_cases c1:(1:Int)<=(h.2.length:Int)/\(h.2.length:Int)<=8
 ·by_cases c2:1<=h.1/\h.1<=1000 - (h.2.length:Int)
  ·rw[decide_eq_true c1,decide_eq_true c2];simp only[if_true]
   rcases ks with ⟨es,k1⟩ | ⟨es,k1⟩ <;> rcases ki with ⟨ei,k2⟩ | ⟨ei,k2⟩
   ·rw[au es,au ei]
    exact ⟨true,rfl,rfl,fun _=>⟨by omega,c2⟩⟩
   ·exact absurd k1 k2
   ·exact absurd k2 k1
   ·rw[cq es,cq ei]
    exact ⟨false,rfl,rfl,fun c=>by cases c⟩
  ·rw[decide_eq_true c1,decide_eq_false c2];simp only[if_true,Bool.false_eq_true,if_false]
   rcases ks with ⟨es,k1⟩ | ⟨es,k1⟩
   ·rw[au es];exact ⟨false,rfl,rfl,fun c=>by cases c⟩
   ·rw[cq es];exact ⟨false,rfl,rfl,fun c=>by cases c⟩
 ·rw[decide_eq_false c1];simp only[Bool.false_eq_true,if_false]
  rcases ks with ⟨es,k1⟩ | ⟨es,k1⟩
  ·rw[au es];exact ⟨false,rfl,rfl,fun c=>by cases c⟩
  ·rw[cq es];exact ⟨false,rfl,rfl,fun c=>by cases c⟩
def latV (h:NF):Int:=h.1+(h.2.length:Int) - 1
theorem CD {h:NF} (hs:m_s_IsValidHistory h=some true) (hi:m_i_IsValidHistory h=some true) (k:(1<=h.2.length/\h.2.length<=8)/\1<=h.1/\h.1<=1000 - (h.2.length:Int)):bJ h=some (latV h)/\cd h=some (latV h):=by
 unfold bJ cd latV
 have hs:m_s_IsValidHistory (h.1,h.2)=_:=hs
 have hi:m_i_IsValidHistory (h.1,h.2)=_:=hi
 rw[hs,hi];simp only[aa,if_true]
 rw[fj (n:=h.1+(h.2.length:Int)) (by omega) (by omega),fj (by omega) (by omega)]
 exact ⟨rfl,rfl⟩
end D
set_option synthInstance.maxSize 20000
set_option synthInstance.maxHeartbeats 2000000
namespace D
open Go.RowKit
theorem XL (a:AutT) (ha:Data.sm a):q8 a=some a:=by
 obtain ⟨-,⟨hb,-⟩,hn,hr⟩:=ha
 unfold q8
 rw[aK (by simp;omega)];simp only[aa,List.nil_append]
 have:=bm (f:=jx a) (fun i=>((i:Int),a.1,a.2.1,a.2.2.take i)) a.2.2.length (fun i hi=>by
  unfold jx
  have h1:cm 8 ([] :List Int) a.2.2[i] =some a.2.2[i]:=by rw[aK (by have:a.2.2[i].length<=1048576:=(hr _ (List.getElem_mem hi)).1;simp;omega)];rfl
  simp only[bF hi,if_true,aB hi,aa,h1,af (show i<9223372036854775807 by omega)]
  rw[aK (by simp;omega)]
  simp only[aa]
  rw[List.take_succ_eq_append_getElem hi]) (by
  unfold jx
  simp only[ba,Bool.false_eq_true,if_false]) (dB _ (by omega))
 have e:ax (jx a) aV (0,a.1,a.2.1,[])=_:=this
 rw[e]
 simp only[aN,List.take_length]
theorem XM (a:AutT) (ha:Data.sm a):iW a=some a:=by
 obtain ⟨-,⟨hb,-⟩,hn,hr⟩:=ha
 unfold iW
 rw[aK (by simp;omega)];simp only[aa,List.nil_append]
 have:=bm (f:=dI a) (fun i=>((i:Int),a.1,a.2.1,a.2.2.take i)) a.2.2.length (fun i hi=>by
  unfold dI mP
  have h1:cm 8 ([] :List Int) a.2.2[i] =some a.2.2[i]:=by rw[aK (by have:a.2.2[i].length<=1048576:=(hr _ (List.getElem_mem hi)).1;simp;omega)];rfl
  simp only[bF hi,if_true,aB hi,aa,h1,af (show i<9223372036854775807 by omega)]
  rw[aK (by simp;omega)]
  simp only[aa]
  rw[List.take_succ_eq_append_getElem hi]) (by
  unfold dI
  simp only[ba,Bool.false_eq_true,if_false]) (dB _ (by omega))
 have e:ax (dI a) aV (0,a.1,a.2.1,[])=_:=this
 rw[e]
 simp only[aN,List.take_length]
end D
set_option synthInstance.maxSize 20000
set_option synthInstance.maxHeartbeats 2000000
namespace D
open Go.RowKit
theorem Rc (r:Ns) (id:Int) (hl:r.2.length<=1048576): ∃k:Int,kO r id=some k/\kW r id=some k/\(k= -1\/ ∃i:Nat,i<r.2.length/\k=(i:Int)):=by
 unfold kO kW bT
 have hf: ∀i (h:i<r.2.length),eM r id (i:Int)=if r.2[i].1=id then some (.ret (i:Int)) else some (.nxt ((i+1:Nat):Int)):=fun i h=>by
  simp only[eM,bF h,if_true,aB h,aa,af (show i<9223372036854775807 by omega)]
  by_cases c:r.2[i].1=id <;> simp[c]
 obtain ⟨k,e1,e2,h⟩:=LW (f:=eM r id) (g:=bh r.2 fun a0=>kV a0 id) r.2.length hl (fun i h=>by
  rw[hf i h];by_cases c:r.2[i].1=id <;> simp[c]) (by simp only[eM,ba];rfl) (fun i hi=>by
  by_cases h:i<r.2.length
  ·rw[hf i h]
   simp only[bh,kV,bF h,if_true,aB h,aa,af (show i<9223372036854775807 by omega)]
   by_cases c:r.2[i].1=id <;> simp[c]
  ·obtain rfl:i=r.2.length:=by omega
   simp only[eM,bh,ba];rfl)
 refine ⟨k,e1,?_,h⟩
 rw[e2];rfl
end D
end Go.Proofs.YtilionjghdjbdaaGreatDoor
